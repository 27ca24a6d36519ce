import PyProof.Rows.All
import Wide.All
import OpenK.AllK
import Wide.FinOn
import HandS.ForMost
import HandS.TupAny
import HandS.Conv
import HandS.Flow
import HandS.Style
import HandS.IsInst
import HandS.Defaults
import HandS.Wide
import HandS.WideBits
import HandS.Deep
import HandS.Zip
import KE.SortData
import HandS.SetFor
import HandS.Iter
import PyProof.ReprRoads
import HandS.Strs
import PyProof.FitsInt
import HandS.SortInts
import PyProof.ReprText
import PyProof.ReprLen
import PyProof.Draws
import PyProof.EnumMake
import HandS.Head0
import HandS.Head1
import HandS.Head2
import HandS.HeadEnd
import HandS.HeadHook1
import HandS.HeadHook2
import PySem.Challenge.RW_cardpacks_k37_whole_shuffles_done_back_a
set_option Elab.async false
set_option linter.all false
set_option maxRecDepth 100000
set_option maxHeartbeats 0
/-! The value layer, 1: data, slots, what a heap says of them. -/
namespace Vl
open PySem PySem.Spec PyProof.Rows L2

abbrev D := PyData
/-- what a name holds: nothing known, a value that nobody changes, a list that this frame alone holds -/
inductive Slot where
  | un
  | fz (d : D)
  | ow (ds : List D)
abbrev Sto := List Slot

/-- a pot: a list of two counts, the second one below 2 ^ 32 -/
def PotP (a : Addr) (h : Heap) : Prop := ∃ (i j : Int) (t u : Tok) (n : Nat), (0 ≤ i ∧ 0 ≤ j ∧ j < 4294967296) ∧ h.get? a = some { cls := .type "list", data := .seq #[.int i t, .int j u] n }
def potD : D := .dict [(.list [], .none)]
/-- the law's script -/
def scrD (ns : List Int) : D := .dict [(.list (ns.map .int), .bool true)]
/-- the script's list: known to its object, or one of the module's -/
def ScrOk (K : PySem.W.Frag) (H : Hp) (a : Addr) (ns : List Int) : Prop :=
  (∃ o : Obj, H a = some (.frz o (.lst (ns.map V.int)))) ∨ ∃ (o : Obj) (its : Array Value) (n : Nat), K.lookup a = some o ∧ o.cls = .type "list" ∧ o.dict = none ∧ o.data = .seq its n ∧ its.size ≤ sizeLine ∧ Vals (ns.map V.int) its.toList
theorem ScrOk.sqL {K : PySem.W.Frag} {H : Hp} {a : Addr} {ns : List Int} (h : ScrOk K H a ns) : SqL K H a (ns.map V.int) := h.imp .inr _root_.id

/-- a tuple that is read, without a dict of its own: one that is known to the object, or one of the module's -/
def TupOk (K : PySem.W.Frag) (H : Hp) (a : Addr) (xs : List V) : Prop :=
  (∃ o : Obj, H a = some (.frz o (.tup xs)) ∧ o.dict = none) ∨
    ∃ (o : Obj) (its : Array Value) (n : Nat), K.lookup a = some o ∧ o.cls = .type "tuple" ∧ o.dict = none ∧ o.data = .seq its n ∧ its.size ≤ sizeLine ∧ Vals xs its.toList
theorem TupOk.sqT {K : PySem.W.Frag} {H : Hp} {a : Addr} {xs : List V} (h : TupOk K H a xs) : SqT K H a xs := by
  rcases h with ⟨o, h, _⟩ | ⟨o, its, n, h1, h2, _, h4, h5, h6⟩
  · exact .inl (.inr ⟨o, h⟩)
  · exact .inr ⟨o, its, n, h1, h2, h4, h5, h6⟩
/-- a pair that is only taken apart -/
def pairD (ds : List D) : D := .dict [(.tuple ds, .none)]
mutual
/-- a value stands for data; its lists lie at places of Z -/
inductive Rp (K : PySem.W.Frag) (H : Hp) (Z : Addr → Prop) : V → D → Prop
  | non : Rp K H Z .non .none
  | bl (b : Bool) : Rp K H Z (.bl b) (.bool b)
  | int (i : Int) : Rp K H Z (.int i) (.int i)
  | str (x : Str) : Rp K H Z (.str x) (.str x)
  | lst {a : Addr} {xs : List V} {ds : List D} : H a = some (.lst xs) → Z a → RpA K H Z xs ds → Rp K H Z (.ref a) (.list ds)
  | tup {a : Addr} {xs : List V} {ds : List D} : TupOk K H a xs → RpA K H Z xs ds → Rp K H Z (.ref a) (.tuple ds)
  | prs {a : Addr} {xs : List V} {ds : List D} : SqT K H a xs → RpA K H Z xs ds → Rp K H Z (.ref a) (pairD ds)
  | pot {a : Addr} : H a = some (.ext (PotP a)) → Rp K H Z (.ref a) potD
  | scr {a : Addr} {ns : List Int} : ScrOk K H a ns → Rp K H Z (.ref a) (scrD ns)
inductive RpA (K : PySem.W.Frag) (H : Hp) (Z : Addr → Prop) : List V → List D → Prop
  | nil : RpA K H Z [] []
  | cons {v : V} {vs : List V} {d : D} {ds : List D} : Rp K H Z v d → RpA K H Z vs ds → RpA K H Z (v :: vs) (d :: ds)
end

/-- what stays of a heap for the values over Z -/
structure Kp (K : PySem.W.Frag) (Z : Addr → Prop) (H H' : Hp) : Prop where
  l : ∀ a xs, Z a → H a = some (.lst xs) → H' a = some (.lst xs)
  t : ∀ a xs, TupOk K H a xs → TupOk K H' a xs
  q : ∀ a xs, SqT K H a xs → SqT K H' a xs
  p : ∀ a, H a = some (.ext (PotP a)) → H' a = some (.ext (PotP a))
  s : ∀ a o u, H a = some (.frz o u) → H' a = some (.frz o u)

section
variable {K : PySem.W.Frag} {H H' H0 : Hp} {Z Z' Z0 : Addr → Prop}
mutual
theorem Rp.keepH (k : Kp K Z H H') (z : ∀ a, Z a → Z' a) : ∀ {v : V} {d : D}, Rp K H Z v d → Rp K H' Z' v d
  | _, _, .non => .non
  | _, _, .bl b => .bl b
  | _, _, .int i => .int i
  | _, _, .str x => .str x
  | _, _, .lst r q a => .lst (k.l _ _ q r) (z _ q) (RpA.keepH k z a)
  | _, _, .tup r a => .tup (k.t _ _ r) (RpA.keepH k z a)
  | _, _, .prs r a => .prs (k.q _ _ r) (RpA.keepH k z a)
  | _, _, .pot r => .pot (k.p _ r)
  | _, _, .scr r => .scr (r.imp (fun ⟨o, h⟩ => ⟨o, k.s _ _ _ h⟩) _root_.id)
theorem RpA.keepH (k : Kp K Z H H') (z : ∀ a, Z a → Z' a) : ∀ {vs : List V} {ds : List D}, RpA K H Z vs ds → RpA K H' Z' vs ds
  | _, _, .nil => .nil
  | _, _, .cons h1 h2 => .cons (Rp.keepH k z h1) (RpA.keepH k z h2)
end
theorem Rp.keep (k : Kp K Z H H') (z : ∀ a, Z a → Z' a) (d : D) (v : V) (h : Rp K H Z v d) : Rp K H' Z' v d := Rp.keepH k z h
theorem RpA.keep (k : Kp K Z H H') (z : ∀ a, Z a → Z' a) (ds : List D) (vs : List V) (h : RpA K H Z vs ds) : RpA K H' Z' vs ds := RpA.keepH k z h
theorem Rd.same {a : Addr} {o : HO} (sm : Same H H') (h : Rd H a o) : Rd H' a o := by
  rcases h with h | ⟨ob, h⟩
  · exact .inl (sm _ _ h)
  · exact .inr ⟨ob, sm _ _ h⟩
theorem SqT.same {a : Addr} {xs : List V} (sm : Same H H') (h : SqT K H a xs) : SqT K H' a xs := by
  rcases h with h | h
  · exact .inl (Rd.same sm h)
  · exact .inr h
theorem TupOk.same {a : Addr} {xs : List V} (sm : Same H H') (h : TupOk K H a xs) : TupOk K H' a xs := by
  rcases h with ⟨o, h, d⟩ | h
  · exact .inl ⟨o, sm _ _ h, d⟩
  · exact .inr h
theorem Kp.same (sm : Same H H') : Kp K Z H H' := ⟨fun _ _ _ h => sm _ _ h, fun _ _ h => TupOk.same sm h, fun _ _ h => SqT.same sm h, fun a h => sm a _ h, fun a _ _ h => sm a _ h⟩
theorem same_upd {p : Addr} {o : HO} (h : H p = none) : Same H (upd H p o) := fun b x e => by
  rw [upd_ne (ne_of_none e h)]
  exact e
theorem Rd.ne {a p : Addr} {o : HO} {xs : List V} (hp : H p = some (.lst xs)) (h : Rd H a o) (no : o ≠ .lst xs) : a ≠ p := by
  rintro rfl
  rcases h with h | ⟨ob, h⟩
  · rw [hp] at h; exact no (Option.some.inj h).symm
  · rw [hp] at h; cases h
theorem Rd.upd {a p : Addr} {o u : HO} (n : a ≠ p) (h : Rd H a o) : Rd (upd H p u) a o := by
  rcases h with h | ⟨ob, h⟩
  · exact .inl (by rw [upd_ne n]; exact h)
  · exact .inr ⟨ob, by rw [upd_ne n]; exact h⟩
theorem Kp.upd {p : Addr} {xs : List V} {u : HO} (hp : H p = some (.lst xs)) (nz : ¬ Z p) : Kp K Z H (upd H p u) where
  l := fun a ys za h => by rw [upd_ne (fun e => by subst e; exact nz za)]; exact h
  t := fun a ys h => by
    rcases h with ⟨o, h, d⟩ | h
    · refine .inl ⟨o, ?_, d⟩
      rw [upd_ne (ne_of h hp (by intro e; cases e))]
      exact h
    · exact .inr h
  q := fun a ys h => by
    rcases h with h | h
    · exact .inl (Rd.upd (Rd.ne hp h (by intro e; cases e)) h)
    · exact .inr h
  p := fun a h => by
    rw [upd_ne (ne_of h hp (by intro e; cases e))]
    exact h
  s := fun a o v h => by
    rw [upd_ne (ne_of h hp (by intro e; cases e))]
    exact h
theorem RpA.length : ∀ {ds : List D} {vs : List V}, RpA K H Z vs ds → vs.length = ds.length
  | [], _, h => by cases h; rfl
  | d :: ds, _, h => by
    cases h with
    | cons _ h2 => rw [List.length_cons, List.length_cons, RpA.length h2]
theorem RpA.get : ∀ {ds : List D} {vs : List V} {i : Nat} {d : D}, RpA K H Z vs ds → ds[i]? = some d → ∃ v, vs[i]? = some v ∧ Rp K H Z v d
  | [], _, _, _, _, e => by simp at e
  | d :: ds, _, 0, _, h, e => by
    cases h with
    | cons h1 h2 =>
      have e := Option.some.inj e
      subst e
      exact ⟨_, rfl, h1⟩
  | d :: ds, _, i + 1, _, h, e => by
    cases h with
    | cons h1 h2 =>
      obtain ⟨v, e1, r⟩ := RpA.get (i := i) h2 (by simpa using e)
      exact ⟨v, by simpa using e1, r⟩
theorem RpA.zip : ∀ {ds : List D} {vs : List V}, RpA K H Z vs ds → ∀ p ∈ vs.zip ds, Rp K H Z p.1 p.2
  | [], _, h, p, hp => by cases h; simp at hp
  | d :: ds, _, h, p, hp => by
    cases h with
    | cons h1 h2 =>
      rw [List.zip_cons_cons] at hp
      rcases List.mem_cons.mp hp with e | hp
      · subst e; exact h1
      · exact RpA.zip h2 p hp
theorem RpA.of_zip : ∀ {ds : List D} {vs : List V}, vs.length = ds.length → (∀ p ∈ vs.zip ds, Rp K H Z p.1 p.2) → RpA K H Z vs ds
  | [], [], _, _ => .nil
  | [], _ :: _, e, _ => by simp at e
  | _ :: _, [], e, _ => by simp at e
  | d :: ds, v :: vs, e, h => .cons (h (v, d) (by rw [List.zip_cons_cons]; exact List.mem_cons_self)) (RpA.of_zip (by simpa using e) fun p hp => h p (by rw [List.zip_cons_cons]; exact List.mem_cons_of_mem _ hp))
theorem RpA.append : ∀ {ds es : List D} {vs us : List V}, RpA K H Z vs ds → RpA K H Z us es → RpA K H Z (vs ++ us) (ds ++ es)
  | [], _, _, _, h, g => by cases h; exact g
  | d :: ds, _, _, _, h, g => by
    cases h with
    | cons h1 h2 => exact .cons h1 (RpA.append h2 g)
theorem RpA.take : ∀ {ds : List D} {vs : List V} (n : Nat), RpA K H Z vs ds → RpA K H Z (vs.take n) (ds.take n)
  | [], _, n, h => by cases h; simp; exact .nil
  | d :: ds, _, 0, h => by cases h; exact .nil
  | d :: ds, _, n + 1, h => by
    cases h with
    | cons h1 h2 => exact .cons h1 (RpA.take n h2)
theorem RpA.drop : ∀ {ds : List D} {vs : List V} (n : Nat), RpA K H Z vs ds → RpA K H Z (vs.drop n) (ds.drop n)
  | [], _, n, h => by cases h; simp; exact .nil
  | d :: ds, _, 0, h => h
  | d :: ds, _, n + 1, h => by
    cases h with
    | cons h1 h2 => exact RpA.drop n h2
theorem RpA.set {v : V} {d : D} (r : Rp K H Z v d) : ∀ {ds : List D} {vs : List V} (n : Nat), RpA K H Z vs ds → RpA K H Z (vs.set n v) (ds.set n d)
  | [], _, n, h => by cases h; exact .nil
  | _ :: ds, _, 0, h => by
    cases h with
    | cons h1 h2 => exact .cons r h2
  | _ :: ds, _, n + 1, h => by
    cases h with
    | cons h1 h2 => exact .cons h1 (RpA.set r n h2)
theorem RpA.eraseIdx : ∀ {ds : List D} {vs : List V} (n : Nat), RpA K H Z vs ds → RpA K H Z (vs.eraseIdx n) (ds.eraseIdx n)
  | [], _, n, h => by cases h; exact .nil
  | _ :: ds, _, 0, h => by
    cases h with
    | cons h1 h2 => exact h2
  | _ :: ds, _, n + 1, h => by
    cases h with
    | cons h1 h2 => exact .cons h1 (RpA.eraseIdx n h2)
theorem RpA.reverse {ds : List D} {vs : List V} (h : RpA K H Z vs ds) : RpA K H Z vs.reverse ds.reverse := by
  induction ds generalizing vs with
  | nil => cases h; exact .nil
  | cons d ds ih =>
    cases h with
    | cons h1 h2 =>
      rw [List.reverse_cons, List.reverse_cons]
      exact RpA.append (ih h2) (.cons h1 .nil)

/-- the state: Z the places of lists that nobody changes, P values at hand, B values that are looked at, W lists of this frame's -/
structure Sta (K : PySem.W.Frag) (H0 : Hp) (Z0 : Addr → Prop) (H : Hp) (P : List (V × D)) (W : List (Addr × List D)) (Z : Addr → Prop) : Prop where
  zin : ∀ a, Z a → Z0 a ∨ H0 a = none
  ztr : ∀ a, Z a → ∃ o, H a = some o
  same : Same H0 H
  fz : ∀ p ∈ P, Rp K H Z p.1 p.2
  ow : ∀ q ∈ W, ¬ Z q.1 ∧ H0 q.1 = none ∧ ∃ vs, H q.1 = some (.lst vs) ∧ RpA K H Z vs q.2
  nd : (W.map (·.1)).Nodup

/-- slots and what they hold -/
inductive Sl : List (Option V) → Sto → List (V × D) → List (Addr × List D) → Prop
  | nil : Sl [] [] [] []
  | un {x σ e F W} : Sl σ e F W → Sl (x :: σ) (.un :: e) F W
  | fz {v d σ e F W} : Sl σ e F W → Sl (some v :: σ) (.fz d :: e) ((v, d) :: F) W
  | ow {a ds σ e F W} : Sl σ e F W → Sl (some (.ref a) :: σ) (.ow ds :: e) F ((a, ds) :: W)

def SR (K : PySem.W.Frag) (H0 : Hp) (Z0 : Addr → Prop) (σ : L2.St) (H : Hp) (e : Sto) (P : List (V × D)) (PW : List (Addr × List D)) : Prop :=
  ∃ Z F W, Sl σ e F W ∧ Sta K H0 Z0 H (P ++ F) (PW ++ W) Z

theorem Sta.sub {P P' : List (V × D)} {W W' : List (Addr × List D)} (S : Sta K H0 Z0 H P W Z) (hp : ∀ p ∈ P', p ∈ P) (hw : ∀ q ∈ W', q ∈ W) (nd : (W'.map (·.1)).Nodup) : Sta K H0 Z0 H P' W' Z :=
  ⟨S.zin, S.ztr, S.same, fun p h => S.fz p (hp p h), fun q h => S.ow q (hw q h), nd⟩
/-- the heap grows -/
theorem Sta.grow {P : List (V × D)} {W : List (Addr × List D)} (S : Sta K H0 Z0 H P W Z) (sm : Same H H') (zz : ∀ b, Z b → Z' b) (zn : ∀ b, Z' b → Z b ∨ H b = none) (zt : ∀ b, Z' b → ∃ o, H' b = some o) : Sta K H0 Z0 H' P W Z' where
  zin := fun a h => by
    rcases zn a h with h | h
    · exact S.zin a h
    · exact .inr (Same.free S.same h)
  ztr := zt
  same := S.same.trans sm
  fz := fun p h => Rp.keep (Kp.same sm) zz _ _ (S.fz p h)
  ow := fun q h => by
    obtain ⟨h1, h2, vs, h3, h4⟩ := S.ow q h
    refine ⟨fun z => ?_, h2, vs, sm _ _ h3, RpA.keep (Kp.same sm) zz _ _ h4⟩
    rcases zn _ z with z | z
    · exact h1 z
    · rw [h3] at z; cases z
  nd := S.nd
theorem Sta.addP {P : List (V × D)} {W : List (Addr × List D)} {v : V} {d : D} (S : Sta K H0 Z0 H P W Z) (r : Rp K H Z v d) : Sta K H0 Z0 H ((v, d) :: P) W Z :=
  ⟨S.zin, S.ztr, S.same, fun p h => by
    rcases List.mem_cons.mp h with e | h
    · subst e; exact r
    · exact S.fz p h, S.ow, S.nd⟩
theorem Sta.addW {P : List (V × D)} {W : List (Addr × List D)} {a : Addr} {ds : List D} {vs : List V} (S : Sta K H0 Z0 H P W Z) (nz : ¬ Z a) (h0 : H0 a = none) (h : H a = some (.lst vs)) (r : RpA K H Z vs ds) (nw : ∀ q ∈ W, q.1 ≠ a) : Sta K H0 Z0 H P ((a, ds) :: W) Z :=
  ⟨S.zin, S.ztr, S.same, S.fz, fun q hq => by
    rcases List.mem_cons.mp hq with e | hq
    · subst e; exact ⟨nz, h0, vs, h, r⟩
    · exact S.ow q hq, by
    rw [List.map_cons, List.nodup_cons]
    refine ⟨fun m => ?_, S.nd⟩
    obtain ⟨q, hq, e⟩ := List.mem_map.mp m
    exact nw q hq e⟩
/-- a list of this frame's is frozen -/
theorem Sta.freeze {P : List (V × D)} {W : List (Addr × List D)} {a : Addr} {ds : List D} (S : Sta K H0 Z0 H P ((a, ds) :: W) Z) : Sta K H0 Z0 H ((.ref a, .list ds) :: P) W (fun b => Z b ∨ b = a) := by
  obtain ⟨n1, n2, vs, n3, n4⟩ := S.ow (a, ds) List.mem_cons_self
  have nd := S.nd
  rw [List.map_cons, List.nodup_cons] at nd
  have kz : Kp K Z H H := Kp.same (Same.refl H)
  refine ⟨fun b h => ?_, fun b h => ?_, S.same, fun p h => ?_, fun q h => ?_, nd.2⟩
  · rcases h with h | rfl
    · exact S.zin b h
    · exact .inr n2
  · rcases h with h | rfl
    · exact S.ztr b h
    · exact ⟨_, n3⟩
  · rcases List.mem_cons.mp h with e | h
    · subst e
      exact .lst n3 (.inr rfl) (RpA.keep kz (fun _ z => .inl z) _ _ n4)
    · exact Rp.keep kz (fun _ z => .inl z) _ _ (S.fz p h)
  · obtain ⟨m1, m2, us, m3, m4⟩ := S.ow q (List.mem_cons_of_mem _ h)
    refine ⟨fun z => ?_, m2, us, m3, RpA.keep kz (fun _ z => .inl z) _ _ m4⟩
    rcases z with z | z
    · exact m1 z
    · exact nd.1 (List.mem_map.mpr ⟨q, h, z⟩)
/-- a list of this frame's is changed -/
theorem Sta.change {P : List (V × D)} {W : List (Addr × List D)} {a : Addr} {ds ds' : List D} {vs' : List V} (S : Sta K H0 Z0 H P ((a, ds) :: W) Z) (r : RpA K H Z vs' ds') : Sta K H0 Z0 (upd H a (.lst vs')) P ((a, ds') :: W) Z := by
  obtain ⟨n1, n2, vs, n3, n4⟩ := S.ow (a, ds) List.mem_cons_self
  replace n1 : ¬ Z a := n1
  replace n2 : H0 a = none := n2
  replace n3 : H a = some (.lst vs) := n3
  have nd := S.nd
  rw [List.map_cons, List.nodup_cons] at nd
  have kz : Kp K Z H (upd H a (.lst vs')) := Kp.upd n3 n1
  refine ⟨S.zin, fun b h => ?_, fun b o h => ?_, fun p h => Rp.keep kz (fun _ z => z) _ _ (S.fz p h), fun q h => ?_, by rw [List.map_cons, List.nodup_cons]; exact nd⟩
  · obtain ⟨o, e⟩ := S.ztr b h
    exact ⟨o, by rw [upd_ne (fun z => by subst z; exact n1 h)]; exact e⟩
  · have e := S.same b o h
    rw [upd_ne (fun z => by rw [z, n2] at h; cases h)]
    exact e
  · rcases List.mem_cons.mp h with e | h
    · subst e
      exact ⟨n1, n2, vs', upd_same, RpA.keep kz (fun _ z => z) _ _ r⟩
    · obtain ⟨m1, m2, us, m3, m4⟩ := S.ow q (List.mem_cons_of_mem _ h)
      refine ⟨m1, m2, us, ?_, RpA.keep kz (fun _ z => z) _ _ m4⟩
      rw [upd_ne (fun z => nd.1 (List.mem_map.mpr ⟨q, h, z⟩))]
      exact m3
theorem Sta.perm {P : List (V × D)} {W W' : List (Addr × List D)} (S : Sta K H0 Z0 H P W Z) (p : W'.Perm W) : Sta K H0 Z0 H P W' Z :=
  S.sub (fun _ h => h) (fun q h => p.mem_iff.mp h) ((p.map (·.1)).nodup_iff.mpr S.nd)
end
end Vl
/-! The value layer, 2: slots read and set; the state's steps. -/
namespace Vl
open PySem PySem.Spec PyProof.Rows L2

def getF (e : Sto) (i : Nat) : Option D := match e[i]? with
  | some (.fz d) => some d
  | _ => none
def getO (e : Sto) (i : Nat) : Option (List D) := match e[i]? with
  | some (.ow ds) => some ds
  | _ => none

section
variable {K : PySem.W.Frag} {H H' H0 : Hp} {Z Z' Z0 : Addr → Prop} {σ : L2.St} {e e' : Sto} {P P' : List (V × D)} {W W' PW PW' : List (Addr × List D)} {F : List (V × D)}

theorem Sl.length (h : Sl σ e F W) : σ.length = e.length := by
  induction h with
  | nil => rfl
  | un _ ih => simp [ih]
  | fz _ ih => simp [ih]
  | ow _ ih => simp [ih]
theorem Sl.getF {i : Nat} {d : D} (h : Sl σ e F W) (g : getF e i = some d) : ∃ v, σ[i]? = some (some v) ∧ (v, d) ∈ F := by
  induction h generalizing i with
  | nil => simp [Vl.getF] at g
  | un _ ih =>
    cases i with
    | zero => simp [Vl.getF] at g
    | succ i => exact ih (i := i) (by simpa [Vl.getF] using g)
  | @fz v d' _ _ _ _ _ ih =>
    cases i with
    | zero =>
      have g : d' = d := by simpa [Vl.getF] using g
      subst g
      exact ⟨v, rfl, List.mem_cons_self⟩
    | succ i =>
      obtain ⟨u, h1, h2⟩ := ih (i := i) (by simpa [Vl.getF] using g)
      exact ⟨u, h1, List.mem_cons_of_mem _ h2⟩
  | ow _ ih =>
    cases i with
    | zero => simp [Vl.getF] at g
    | succ i => exact ih (i := i) (by simpa [Vl.getF] using g)
theorem Sl.getO {i : Nat} {ds : List D} (h : Sl σ e F W) (g : getO e i = some ds) : ∃ a, σ[i]? = some (some (.ref a)) ∧ (a, ds) ∈ W := by
  induction h generalizing i with
  | nil => simp [Vl.getO] at g
  | un _ ih =>
    cases i with
    | zero => simp [Vl.getO] at g
    | succ i => exact ih (i := i) (by simpa [Vl.getO] using g)
  | fz _ ih =>
    cases i with
    | zero => simp [Vl.getO] at g
    | succ i => exact ih (i := i) (by simpa [Vl.getO] using g)
  | @ow a ds' _ _ _ _ _ ih =>
    cases i with
    | zero =>
      have g : ds' = ds := by simpa [Vl.getO] using g
      subst g
      exact ⟨a, rfl, List.mem_cons_self⟩
    | succ i =>
      obtain ⟨u, h1, h2⟩ := ih (i := i) (by simpa [Vl.getO] using g)
      exact ⟨u, h1, List.mem_cons_of_mem _ h2⟩
/-- a slot is set to a value that nobody changes -/
theorem Sl.setF {i : Nat} {v : V} {d : D} (h : Sl σ e F W) : ∃ F' W', Sl (σ.set i (some v)) (e.set i (.fz d)) F' W' ∧ (∀ p ∈ F', p = (v, d) ∨ p ∈ F) ∧ W'.Sublist W := by
  induction h generalizing i with
  | nil => exact ⟨[], [], .nil, fun p h => (nomatch h), List.Sublist.refl _⟩
  | @un x _ _ F W s ih =>
    cases i with
    | zero => exact ⟨_, _, .fz s, fun p h => (List.mem_cons.mp h).elim .inl .inr, List.Sublist.refl _⟩
    | succ i =>
      obtain ⟨F', W', a, b, c⟩ := ih (i := i)
      exact ⟨F', W', .un a, b, c⟩
  | @fz v' d' _ _ F W s ih =>
    cases i with
    | zero => exact ⟨_, _, .fz s, fun p h => (List.mem_cons.mp h).elim .inl fun h => .inr (List.mem_cons_of_mem _ h), List.Sublist.refl _⟩
    | succ i =>
      obtain ⟨F', W', a, b, c⟩ := ih (i := i)
      refine ⟨_, W', .fz a, fun p h => ?_, c⟩
      rcases List.mem_cons.mp h with h | h
      · exact .inr (h ▸ List.mem_cons_self)
      · exact (b p h).imp id (List.mem_cons_of_mem _)
  | @ow a' ds' _ _ F W s ih =>
    cases i with
    | zero => exact ⟨_, _, .fz s, fun p h => (List.mem_cons.mp h).elim .inl .inr, List.sublist_cons_self _ _⟩
    | succ i =>
      obtain ⟨F', W', a, b, c⟩ := ih (i := i)
      exact ⟨F', _, .ow a, b, c.cons_cons _⟩
/-- a slot is forgotten -/
theorem Sl.setU {i : Nat} {x : Option V} (h : Sl σ e F W) : ∃ F' W', Sl (σ.set i x) (e.set i .un) F' W' ∧ (∀ p ∈ F', p ∈ F) ∧ W'.Sublist W := by
  induction h generalizing i with
  | nil => exact ⟨[], [], .nil, fun p h => (nomatch h), List.Sublist.refl _⟩
  | @un x _ _ F W s ih =>
    cases i with
    | zero => exact ⟨_, _, .un s, fun p h => h, List.Sublist.refl _⟩
    | succ i =>
      obtain ⟨F', W', a, b, c⟩ := ih (i := i)
      exact ⟨F', W', .un a, b, c⟩
  | @fz v' d' _ _ F W s ih =>
    cases i with
    | zero => exact ⟨_, _, .un s, fun p h => List.mem_cons_of_mem _ h, List.Sublist.refl _⟩
    | succ i =>
      obtain ⟨F', W', a, b, c⟩ := ih (i := i)
      refine ⟨_, W', .fz a, fun p h => ?_, c⟩
      rcases List.mem_cons.mp h with h | h
      · exact h ▸ List.mem_cons_self
      · exact List.mem_cons_of_mem _ (b p h)
  | @ow a' ds' _ _ F W s ih =>
    cases i with
    | zero => exact ⟨_, _, .un s, fun p h => h, List.sublist_cons_self _ _⟩
    | succ i =>
      obtain ⟨F', W', a, b, c⟩ := ih (i := i)
      exact ⟨F', _, .ow a, b, c.cons_cons _⟩
/-- a slot is set to a list of this frame's -/
theorem Sl.setO {i : Nat} {a : Addr} {ds : List D} (h : Sl σ e F W) (hi : i < e.length) : ∃ F' W' W1, Sl (σ.set i (some (.ref a))) (e.set i (.ow ds)) F' W' ∧ (∀ p ∈ F', p ∈ F) ∧ W1.Sublist W ∧ W'.Perm ((a, ds) :: W1) := by
  induction h generalizing i with
  | nil => simp at hi
  | @un x _ _ F W s ih =>
    cases i with
    | zero => exact ⟨_, _, W, .ow s, fun p h => h, List.Sublist.refl _, List.Perm.refl _⟩
    | succ i =>
      obtain ⟨F', W', W1, a, b, c, p⟩ := ih (i := i) (by simpa using hi)
      exact ⟨F', W', W1, .un a, b, c, p⟩
  | @fz v' d' _ _ F W s ih =>
    cases i with
    | zero => exact ⟨_, _, W, .ow s, fun p h => List.mem_cons_of_mem _ h, List.Sublist.refl _, List.Perm.refl _⟩
    | succ i =>
      obtain ⟨F', W', W1, a, b, c, p⟩ := ih (i := i) (by simpa using hi)
      refine ⟨_, W', W1, .fz a, fun q h => ?_, c, p⟩
      rcases List.mem_cons.mp h with h | h
      · exact h ▸ List.mem_cons_self
      · exact List.mem_cons_of_mem _ (b q h)
  | @ow a' ds' _ _ F W s ih =>
    cases i with
    | zero => exact ⟨_, _, W, .ow s, fun p h => h, List.sublist_cons_self _ _, List.Perm.refl _⟩
    | succ i =>
      obtain ⟨F', W', W1, x, b, c, p⟩ := ih (i := i) (by simpa using hi)
      exact ⟨F', _, (a', ds') :: W1, .ow x, b, c.cons_cons _, (List.Perm.cons _ p).trans (List.Perm.swap _ _ _)⟩
/-- a list that a slot holds gets other items -/
theorem Sl.chg {i : Nat} {a : Addr} {ds ds' : List D} (h : Sl σ e F W) (g : Vl.getO e i = some ds) (ha : σ[i]? = some (some (.ref a))) : ∃ W1 W', W.Perm ((a, ds) :: W1) ∧ W'.Perm ((a, ds') :: W1) ∧ Sl σ (e.set i (.ow ds')) F W' := by
  induction h generalizing i with
  | nil => simp [Vl.getO] at g
  | un s ih =>
    cases i with
    | zero => simp [Vl.getO] at g
    | succ i =>
      obtain ⟨W1, W', p, q, r⟩ := ih (i := i) (by simpa [Vl.getO] using g) (by simpa using ha)
      exact ⟨W1, W', p, q, .un r⟩
  | fz s ih =>
    cases i with
    | zero => simp [Vl.getO] at g
    | succ i =>
      obtain ⟨W1, W', p, q, r⟩ := ih (i := i) (by simpa [Vl.getO] using g) (by simpa using ha)
      exact ⟨W1, W', p, q, .fz r⟩
  | @ow a' ds₀ _ _ F W s ih =>
    cases i with
    | zero =>
      have g : ds₀ = ds := by simpa [Vl.getO] using g
      have ha : a' = a := by simpa using ha
      subst g ha
      exact ⟨W, _, List.Perm.refl _, List.Perm.refl _, .ow s⟩
    | succ i =>
      obtain ⟨W1, W', p, q, r⟩ := ih (i := i) (by simpa [Vl.getO] using g) (by simpa using ha)
      exact ⟨(a', ds₀) :: W1, _, (List.Perm.cons _ p).trans (List.Perm.swap _ _ _), (List.Perm.cons _ q).trans (List.Perm.swap _ _ _), .ow r⟩
/-- .. is frozen -/
theorem Sl.frz {i : Nat} {a : Addr} {ds : List D} (h : Sl σ e F W) (g : Vl.getO e i = some ds) (ha : σ[i]? = some (some (.ref a))) : ∃ W1 F', W.Perm ((a, ds) :: W1) ∧ Sl σ (e.set i (.fz (.list ds))) F' W1 ∧ ∀ p ∈ F', p = (.ref a, .list ds) ∨ p ∈ F := by
  induction h generalizing i with
  | nil => simp [Vl.getO] at g
  | un s ih =>
    cases i with
    | zero => simp [Vl.getO] at g
    | succ i =>
      obtain ⟨W1, F', p, q, r⟩ := ih (i := i) (by simpa [Vl.getO] using g) (by simpa using ha)
      exact ⟨W1, F', p, .un q, r⟩
  | fz s ih =>
    cases i with
    | zero => simp [Vl.getO] at g
    | succ i =>
      obtain ⟨W1, F', p, q, r⟩ := ih (i := i) (by simpa [Vl.getO] using g) (by simpa using ha)
      refine ⟨W1, _, p, .fz q, fun x hx => ?_⟩
      rcases List.mem_cons.mp hx with hx | hx
      · exact .inr (hx ▸ List.mem_cons_self)
      · exact (r x hx).imp id (List.mem_cons_of_mem _)
  | @ow a' ds₀ _ _ F W s ih =>
    cases i with
    | zero =>
      have g : ds₀ = ds := by simpa [Vl.getO] using g
      have ha : a' = a := by simpa using ha
      subst g ha
      exact ⟨W, _, List.Perm.refl _, .fz s, fun p h => (List.mem_cons.mp h).elim .inl .inr⟩
    | succ i =>
      obtain ⟨W1, F', p, q, r⟩ := ih (i := i) (by simpa [Vl.getO] using g) (by simpa using ha)
      exact ⟨(a', ds₀) :: W1, F', (List.Perm.cons _ p).trans (List.Perm.swap _ _ _), .ow q, r⟩

/-- .. is moved out -/
theorem Sl.take {i : Nat} {a : Addr} {ds : List D} (h : Sl σ e F W) (g : Vl.getO e i = some ds) (ha : σ[i]? = some (some (.ref a))) : ∃ W1, W.Perm ((a, ds) :: W1) ∧ Sl σ (e.set i .un) F W1 := by
  induction h generalizing i with
  | nil => simp [Vl.getO] at g
  | un s ih =>
    cases i with
    | zero => simp [Vl.getO] at g
    | succ i =>
      obtain ⟨W1, p, q⟩ := ih (i := i) (by simpa [Vl.getO] using g) (by simpa using ha)
      exact ⟨W1, p, .un q⟩
  | fz s ih =>
    cases i with
    | zero => simp [Vl.getO] at g
    | succ i =>
      obtain ⟨W1, p, q⟩ := ih (i := i) (by simpa [Vl.getO] using g) (by simpa using ha)
      exact ⟨W1, p, .fz q⟩
  | @ow a' ds₀ _ _ F W s ih =>
    cases i with
    | zero =>
      have g : ds₀ = ds := by simpa [Vl.getO] using g
      have ha : a' = a := by simpa using ha
      subst g ha
      exact ⟨W, List.Perm.refl _, .un s⟩
    | succ i =>
      obtain ⟨W1, p, q⟩ := ih (i := i) (by simpa [Vl.getO] using g) (by simpa using ha)
      exact ⟨(a', ds₀) :: W1, (List.Perm.cons _ p).trans (List.Perm.swap _ _ _), .ow q⟩

/-! ### the state's steps -/
theorem SR.length (S : SR K H0 Z0 σ H e P PW) : σ.length = e.length := by
  obtain ⟨_, _, _, s, _⟩ := S
  exact s.length
theorem SR.sub (S : SR K H0 Z0 σ H e P PW) (hp : ∀ p ∈ P', p ∈ P) : SR K H0 Z0 σ H e P' PW := by
  obtain ⟨Z, F, W, s, S⟩ := S
  refine ⟨Z, F, W, s, S.sub (fun p h => ?_) (fun _ h => h) S.nd⟩
  rcases List.mem_append.mp h with h | h
  · exact List.mem_append_left _ (hp p h)
  · exact List.mem_append_right _ h
theorem SR.subP (S : SR K H0 Z0 σ H e P PW) (hp : ∀ p ∈ P', p ∈ P) : SR K H0 Z0 σ H e P' PW := S.sub hp
theorem SR.dropW (S : SR K H0 Z0 σ H e P PW) (hw : PW'.Sublist PW) : SR K H0 Z0 σ H e P PW' := by
  obtain ⟨Z, F, W, s, S⟩ := S
  have hs : (PW' ++ W).Sublist (PW ++ W) := hw.append (List.Sublist.refl _)
  exact ⟨Z, F, W, s, S.sub (fun p h => h) (fun q h => hs.subset h) (S.nd.sublist (hs.map _))⟩
theorem SR.same (S : SR K H0 Z0 σ H e P PW) : Same H0 H := by
  obtain ⟨_, _, _, _, S⟩ := S
  exact S.same
/-- the heap grows by what has no lists -/
theorem SR.grow (S : SR K H0 Z0 σ H e P PW) (sm : Same H H') : SR K H0 Z0 σ H' e P PW := by
  obtain ⟨Z, F, W, s, S⟩ := S
  exact ⟨Z, F, W, s, S.grow sm (fun _ z => z) (fun _ z => .inl z) fun b z => by
    obtain ⟨o, h⟩ := S.ztr b z
    exact ⟨o, sm _ _ h⟩⟩
theorem SR.addP {v : V} {d : D} (S : SR K H0 Z0 σ H e P PW) (r : ∀ Z, Rp K H Z v d) : SR K H0 Z0 σ H e ((v, d) :: P) PW := by
  obtain ⟨Z, F, W, s, S⟩ := S
  exact ⟨Z, F, W, s, S.addP (r Z)⟩
theorem SR.int {i : Int} (S : SR K H0 Z0 σ H e P PW) : SR K H0 Z0 σ H e ((.int i, .int i) :: P) PW := S.addP fun _ => .int i
theorem SR.bl {i : Bool} (S : SR K H0 Z0 σ H e P PW) : SR K H0 Z0 σ H e ((.bl i, .bool i) :: P) PW := S.addP fun _ => .bl i
theorem SR.getF {i : Nat} {d : D} (S : SR K H0 Z0 σ H e P PW) (g : Vl.getF e i = some d) : ∃ v, σ[i]? = some (some v) ∧ SR K H0 Z0 σ H e ((v, d) :: P) PW := by
  obtain ⟨Z, F, W, s, S⟩ := S
  obtain ⟨v, h1, h2⟩ := s.getF g
  exact ⟨v, h1, Z, F, W, s, S.addP (S.fz _ (List.mem_append_right _ h2))⟩
theorem SR.setF {i : Nat} {v : V} {d : D} (S : SR K H0 Z0 σ H e ((v, d) :: P) PW) : SR K H0 Z0 (σ.set i (some v)) H (e.set i (.fz d)) P PW := by
  obtain ⟨Z, F, W, s, S⟩ := S
  obtain ⟨F', W', s', hf, hw⟩ := s.setF (i := i) (v := v) (d := d)
  have hs : (PW ++ W').Sublist (PW ++ W) := (List.Sublist.refl _).append hw
  refine ⟨Z, F', W', s', S.sub (fun p h => ?_) (fun q h => hs.subset h) (S.nd.sublist (hs.map _))⟩
  rcases List.mem_append.mp h with h | h
  · exact List.mem_cons_of_mem _ (List.mem_append_left _ h)
  · rcases hf p h with h | h
    · exact h ▸ List.mem_cons_self
    · exact List.mem_cons_of_mem _ (List.mem_append_right _ h)
theorem SR.setO {i : Nat} {a : Addr} {ds : List D} (S : SR K H0 Z0 σ H e P ((a, ds) :: PW)) (hi : i < e.length) : SR K H0 Z0 (σ.set i (some (.ref a))) H (e.set i (.ow ds)) P PW := by
  obtain ⟨Z, F, W, s, S⟩ := S
  obtain ⟨F', W', W1, s', hf, hw, hp⟩ := s.setO (i := i) (a := a) (ds := ds) hi
  have hs : ((a, ds) :: (PW ++ W1)).Sublist ((a, ds) :: (PW ++ W)) := List.Sublist.cons_cons _ ((List.Sublist.refl _).append hw)
  have pm : (PW ++ W').Perm ((a, ds) :: (PW ++ W1)) := (List.Perm.append_left PW hp).trans (List.perm_middle)
  refine ⟨Z, F', W', s', Sta.perm (S.sub (fun p h => ?_) (fun q h => hs.subset h) (S.nd.sublist (hs.map _))) pm⟩
  rcases List.mem_append.mp h with h | h
  · exact List.mem_append_left _ h
  · exact List.mem_append_right _ (hf p h)
/-- a slot's list is at hand, with its items -/
theorem SR.getO {i : Nat} {ds : List D} (S : SR K H0 Z0 σ H e P PW) (g : Vl.getO e i = some ds) : ∃ a vs, σ[i]? = some (some (.ref a)) ∧ H a = some (.lst vs) ∧ vs.length = ds.length ∧ SR K H0 Z0 σ H e (vs.zip ds ++ P) PW := by
  obtain ⟨Z, F, W, s, S⟩ := S
  obtain ⟨a, h1, h2⟩ := s.getO g
  obtain ⟨_, _, vs, h3, h4⟩ := S.ow _ (List.mem_append_right _ h2)
  refine ⟨a, vs, h1, h3, h4.length, Z, F, W, s, ⟨S.zin, S.ztr, S.same, fun p h => ?_, S.ow, S.nd⟩⟩
  rw [List.append_assoc] at h
  rcases List.mem_append.mp h with h | h
  · exact h4.zip p h
  · exact S.fz p h
theorem SR.zipA {vs : List V} {ds : List D} {Z : Addr → Prop} {F : List (V × D)} (S : ∀ p ∈ (vs.zip ds ++ P) ++ F, Rp K H Z p.1 p.2) (hl : vs.length = ds.length) : RpA K H Z vs ds :=
  RpA.of_zip hl fun p h => S p (List.mem_append_left _ (List.mem_append_left _ h))
/-- a slot's list gets other items -/
theorem SR.change {i : Nat} {a : Addr} {ds ds' : List D} {vs vs' : List V} (S : SR K H0 Z0 σ H e (vs'.zip ds' ++ P) PW) (hl : vs'.length = ds'.length) (g : Vl.getO e i = some ds) (ha : σ[i]? = some (some (.ref a))) : SR K H0 Z0 σ (upd H a (.lst vs')) (e.set i (.ow ds')) P PW := by
  obtain ⟨Z, F, W, s, S⟩ := S
  obtain ⟨W1, W', p1, p2, s'⟩ := s.chg (ds' := ds') g ha
  have q1 : ((a, ds) :: (PW ++ W1)).Perm (PW ++ W) := ((List.Perm.append_left PW p1).trans List.perm_middle).symm
  have q2 : (PW ++ W').Perm ((a, ds') :: (PW ++ W1)) := (List.Perm.append_left PW p2).trans List.perm_middle
  have r := SR.zipA S.fz hl
  have S1 : Sta K H0 Z0 H (P ++ F) ((a, ds) :: (PW ++ W1)) Z := Sta.perm (S.sub (fun p h => by
    rw [List.append_assoc]
    exact List.mem_append_right _ h) (fun _ h => h) S.nd) q1
  exact ⟨Z, F, W', s', Sta.perm (S1.change r) q2⟩
theorem SR.freeze {i : Nat} {ds : List D} (S : SR K H0 Z0 σ H e P PW) (g : Vl.getO e i = some ds) : SR K H0 Z0 σ H (e.set i (.fz (.list ds))) P PW := by
  obtain ⟨Z, F, W, s, S⟩ := S
  obtain ⟨a, h1, h2⟩ := s.getO g
  obtain ⟨W1, F', p1, s', hf⟩ := s.frz g h1
  have q1 : ((a, ds) :: (PW ++ W1)).Perm (PW ++ W) := ((List.Perm.append_left PW p1).trans List.perm_middle).symm
  have S1 := (Sta.perm S q1).freeze
  refine ⟨_, F', W1, s', S1.sub (fun p h => ?_) (fun _ h => h) S1.nd⟩
  rcases List.mem_append.mp h with h | h
  · exact List.mem_cons_of_mem _ (List.mem_append_left _ h)
  · rcases hf p h with h | h
    · exact h ▸ List.mem_cons_self
    · exact List.mem_cons_of_mem _ (List.mem_append_right _ h)
theorem SR.take {i : Nat} {ds : List D} (S : SR K H0 Z0 σ H e P PW) (g : Vl.getO e i = some ds) : ∃ a, σ[i]? = some (some (.ref a)) ∧ SR K H0 Z0 σ H (e.set i .un) P ((a, ds) :: PW) := by
  obtain ⟨Z, F, W, s, S⟩ := S
  obtain ⟨a, h1, h2⟩ := s.getO g
  obtain ⟨W1, p1, s'⟩ := s.take g h1
  have q1 : ((a, ds) :: (PW ++ W1)).Perm (PW ++ W) := ((List.Perm.append_left PW p1).trans List.perm_middle).symm
  exact ⟨a, h1, Z, F, W1, s', Sta.perm S q1⟩
theorem SR.freezeW {a : Addr} {ds : List D} (S : SR K H0 Z0 σ H e P ((a, ds) :: PW)) : SR K H0 Z0 σ H e ((.ref a, .list ds) :: P) PW := by
  obtain ⟨Z, F, W, s, S⟩ := S
  exact ⟨_, F, W, s, Sta.freeze S⟩
/-- a new list of values at hand -/
theorem SR.lst {vs : List V} {ds : List D} {p : Addr} (S : SR K H0 Z0 σ H e (vs.zip ds ++ P) PW) (hl : vs.length = ds.length) (hp : H p = none) : SR K H0 Z0 σ (upd H p (.lst vs)) e P ((p, ds) :: PW) := by
  obtain ⟨Z, F, W, s, S⟩ := S
  have sm : Same H (upd H p (.lst vs)) := same_upd hp
  have r := SR.zipA S.fz hl
  have S1 : Sta K H0 Z0 (upd H p (.lst vs)) (vs.zip ds ++ P ++ F) (PW ++ W) Z := S.grow sm (fun _ z => z) (fun _ z => .inl z) fun b z => by
    obtain ⟨o, h⟩ := S.ztr b z
    exact ⟨o, sm _ _ h⟩
  refine ⟨Z, F, W, s, Sta.addW (S1.sub (fun q h => ?_) (fun _ h => h) S1.nd) (fun z => ?_) (Same.free S.same hp) upd_same (RpA.keep (Kp.same sm) (fun _ z => z) _ _ r) fun q hq z => ?_⟩
  · rw [List.append_assoc]
    exact List.mem_append_right _ h
  · obtain ⟨o, h⟩ := S.ztr _ z
    rw [hp] at h; cases h
  · obtain ⟨_, _, us, h, _⟩ := S.ow q hq
    rw [z, hp] at h; cases h
end
end Vl
/-! The value layer, 3: what a piece of text means over data; expressions. -/
namespace Vl
open PySem PySem.Spec PyProof.Rows L2

/-! ### meanings: by wishes (Wp), by computation (Op) -/
abbrev Wp (α : Type) := Sto → (α → Sto → Prop) → Prop
abbrev Op (α : Type) := Sto → Option (α × Sto)
def Wp.ret {α : Type} (a : α) : Wp α := fun e k => k a e
def Wp.bd {α β : Type} (w : Wp α) (f : α → Wp β) : Wp β := fun e k => w e fun a e1 => f a e1 k
def Wp.gt {α : Type} (g : Sto → Option α) : Wp α := fun e k => ∃ a, g e = some a ∧ k a e
def Op.ret {α : Type} (a : α) : Op α := fun e => some (a, e)
def Op.bd {α β : Type} (w : Op α) (f : α → Op β) : Op β := fun e => match w e with
  | some (a, e1) => f a e1
  | none => none
def Op.gt {α : Type} (g : Sto → Option α) : Op α := fun e => match g e with
  | some a => some (a, e)
  | none => none
def lift {α : Type} (f : Op α) : Wp α := fun e k => ∃ r, f e = some r ∧ k r.1 r.2
theorem lift_ret {α : Type} (a : α) : lift (Op.ret a) = Wp.ret a := by
  funext e k
  simp [lift, Op.ret, Wp.ret]
theorem lift_bd {α β : Type} (w : Op α) (f : α → Op β) : lift (Op.bd w f) = Wp.bd (lift w) fun a => lift (f a) := by
  funext e k
  simp only [lift, Op.bd, Wp.bd]
  cases h : w e with
  | none => simp
  | some r => simp
theorem lift_gt {α : Type} (g : Sto → Option α) : lift (Op.gt g) = Wp.gt g := by
  funext e k
  simp only [lift, Op.gt, Wp.gt]
  cases h : g e with
  | none => simp
  | some r => simp
theorem lift_ite {α : Type} (c : Bool) (f g : Op α) : lift (if c = true then f else g) = if c = true then lift f else lift g := by
  cases c <;> rfl

/-- a value at hand: one that nobody changes, or a list of this frame's -/
def SRo (K : PySem.W.Frag) (H0 : Hp) (Z0 : Addr → Prop) (σ : L2.St) (H : Hp) (e : Sto) (o : Bool) (v : V) (d : D) (P : List (V × D)) (PW : List (Addr × List D)) : Prop :=
  match o with
  | false => SR K H0 Z0 σ H e ((v, d) :: P) PW
  | true => ∃ a ds, v = .ref a ∧ d = .list ds ∧ SR K H0 Z0 σ H e P ((a, ds) :: PW)

def SndE (K : PySem.W.Frag) (m o : Bool) (t : TE) (w : Wp D) : Prop :=
  ∀ H0 Z0 σ H e P PW k Q, SR K H0 Z0 σ H e P PW → w e k → (∀ v d e' H', (m = false → e' = e ∧ Same H H') → SRo K H0 Z0 σ H' e' o v d P PW → k d e' → Q v H') → t σ H Q
/-- an expression -/
structure E (X : Cx) (m o : Bool) (ex : Expr) (t : TE) (w : Wp D) : Prop where
  pe : PE X ex t
  snd : SndE X.K m o t w
/-- a value that is looked at alone -/
def SndB (K : PySem.W.Frag) (t : TE) (w : Wp D) : Prop :=
  ∀ H0 Z0 σ H e P PW k Q, SR K H0 Z0 σ H e P PW → w e k → (∀ v d H', Same H H' → SR K H0 Z0 σ H' e P PW → Rp K H' (fun _ => True) v d → k d e → Q v H') → t σ H Q
structure Bo (X : Cx) (ex : Expr) (t : TE) (w : Wp D) : Prop where
  pe : PE X ex t
  snd : SndB X.K t w
def SndT (K : PySem.W.Frag) (m : Bool) (t : TT) (w : Wp Bool) : Prop :=
  ∀ H0 Z0 σ H e P PW k Q, SR K H0 Z0 σ H e P PW → w e k → (∀ c e' H', (m = false → e' = e ∧ Same H H') → SR K H0 Z0 σ H' e' P PW → k c e' → Q c H') → t σ H Q
/-- a test; one within and, or -/
structure T (X : Cx) (m : Bool) (ex : Expr) (t : TT) (w : Wp Bool) : Prop where
  pt : PT X ex t
  snd : SndT X.K m t w
structure TW (X : Cx) (m : Bool) (ex : Expr) (t : TT) (w : Wp Bool) : Prop where
  pt : PW X ex t
  snd : SndT X.K m t w
def SndA (K : PySem.W.Frag) (m : Bool) (t : TA) (w : Wp (List D)) : Prop :=
  ∀ H0 Z0 σ H e P PW k Q, SR K H0 Z0 σ H e P PW → w e k → (∀ vs ds e' H', (m = false → e' = e ∧ Same H H') → vs.length = ds.length → SR K H0 Z0 σ H' e' (vs.zip ds ++ P) PW → k ds e' → Q vs H') → t σ H Q
/-- several expressions -/
structure As (X : Cx) (m : Bool) (es : List Expr) (t : TA) (w : Wp (List D)) : Prop where
  pa : PA X es t
  snd : SndA X.K m t w
def SndAB (K : PySem.W.Frag) (t : TA) (w : Wp (List D)) : Prop :=
  ∀ H0 Z0 σ H e P PW k Q, SR K H0 Z0 σ H e P PW → w e k → (∀ vs ds H', Same H H' → SR K H0 Z0 σ H' e P PW → RpA K H' (fun _ => True) vs ds → k ds e → Q vs H') → t σ H Q
structure Abs (X : Cx) (es : List Expr) (t : TA) (w : Wp (List D)) : Prop where
  pa : PA X es t
  snd : SndAB X.K t w
/-! a sequence that is read: a slot's own list, or a value -/
abbrev QV := Sum Nat D
def qP (v : V) (q : QV) (P : List (V × D)) : List (V × D) := match q with
  | .inl _ => P
  | .inr d => (v, d) :: P
def qOk (σ : L2.St) (v : V) : QV → Prop
  | .inl i => σ[i]? = some (some v)
  | .inr _ => True
/-- its kind (a list: true), its items -/
def seqOf (e : Sto) : QV → Option (Bool × List D)
  | .inl i => (getO e i).map fun ds => (true, ds)
  | .inr (.list ds) => some (true, ds)
  | .inr (.tuple ds) => some (false, ds)
  | .inr _ => none
def SndQ (K : PySem.W.Frag) (m : Bool) (t : TE) (w : Wp QV) : Prop :=
  ∀ H0 Z0 σ H e P PW k Q, SR K H0 Z0 σ H e P PW → w e k → (∀ v q e' H', (m = false → e' = e ∧ Same H H') → qOk σ v q → SR K H0 Z0 σ H' e' (qP v q P) PW → k q e' → Q v H') → t σ H Q
structure Sq (X : Cx) (m : Bool) (ex : Expr) (t : TE) (w : Wp QV) : Prop where
  pe : PE X ex t
  snd : SndQ X.K m t w

section
variable {K : PySem.W.Frag} {H H' H0 : Hp} {Z Z' Z0 : Addr → Prop} {σ : L2.St} {e e' : Sto} {P P' : List (V × D)} {W W' PW PW' : List (Addr × List D)} {F : List (V × D)}
/-- the value at hand -/
theorem SR.hd {v : V} {d : D} (S : SR K H0 Z0 σ H e ((v, d) :: P) PW) : ∃ Z, Rp K H Z v d := by
  obtain ⟨Z, F, W, s, S⟩ := S
  exact ⟨Z, S.fz _ List.mem_cons_self⟩
theorem SR.tl {v : V} {d : D} (S : SR K H0 Z0 σ H e ((v, d) :: P) PW) : SR K H0 Z0 σ H e P PW := S.subP fun p h => List.mem_cons_of_mem _ h
theorem SR.hdInt {v : V} {i : Int} (S : SR K H0 Z0 σ H e ((v, .int i) :: P) PW) : v = .int i := by
  obtain ⟨Z, r⟩ := S.hd
  cases r; rfl
theorem SR.hdBl {v : V} {i : Bool} (S : SR K H0 Z0 σ H e ((v, .bool i) :: P) PW) : v = .bl i := by
  obtain ⟨Z, r⟩ := S.hd
  cases r; rfl
theorem SR.hdNon {v : V} (S : SR K H0 Z0 σ H e ((v, .none) :: P) PW) : v = .non := by
  obtain ⟨Z, r⟩ := S.hd
  cases r; rfl
theorem SR.hdStr {v : V} {x : Str} (S : SR K H0 Z0 σ H e ((v, .str x) :: P) PW) : v = .str x := by
  obtain ⟨Z, r⟩ := S.hd
  cases r; rfl
theorem SR.swap {a b : V × D} (S : SR K H0 Z0 σ H e (a :: b :: P) PW) : SR K H0 Z0 σ H e (b :: a :: P) PW := S.subP fun p h => by
  rcases List.mem_cons.mp h with h | h
  · exact h ▸ List.mem_cons_of_mem _ List.mem_cons_self
  · rcases List.mem_cons.mp h with h | h
    · exact h ▸ List.mem_cons_self
    · exact List.mem_cons_of_mem _ (List.mem_cons_of_mem _ h)
/-- a list, a tuple at hand is opened -/
theorem SR.openL {v : V} {ds : List D} (S : SR K H0 Z0 σ H e ((v, .list ds) :: P) PW) : ∃ a vs, v = .ref a ∧ H a = some (.lst vs) ∧ vs.length = ds.length ∧ SR K H0 Z0 σ H e (vs.zip ds ++ P) PW := by
  obtain ⟨Z, F, W, s, S⟩ := S
  have r := S.fz (v, .list ds) List.mem_cons_self
  cases r with
  | lst h z r =>
    refine ⟨_, _, rfl, h, r.length, Z, F, W, s, ⟨S.zin, S.ztr, S.same, fun p hp => ?_, S.ow, S.nd⟩⟩
    rw [List.append_assoc] at hp
    rcases List.mem_append.mp hp with hp | hp
    · exact r.zip p hp
    · exact S.fz p (List.mem_cons_of_mem _ hp)
theorem SR.openT {v : V} {ds : List D} (S : SR K H0 Z0 σ H e ((v, .tuple ds) :: P) PW) : ∃ a vs, v = .ref a ∧ TupOk K H a vs ∧ vs.length = ds.length ∧ SR K H0 Z0 σ H e (vs.zip ds ++ P) PW := by
  obtain ⟨Z, F, W, s, S⟩ := S
  have r := S.fz (v, .tuple ds) List.mem_cons_self
  cases r with
  | tup h r =>
    refine ⟨_, _, rfl, h, r.length, Z, F, W, s, ⟨S.zin, S.ztr, S.same, fun p hp => ?_, S.ow, S.nd⟩⟩
    rw [List.append_assoc] at hp
    rcases List.mem_append.mp hp with hp | hp
    · exact r.zip p hp
    · exact S.fz p (List.mem_cons_of_mem _ hp)
theorem SR.openP {v : V} {ds : List D} (S : SR K H0 Z0 σ H e ((v, pairD ds) :: P) PW) : ∃ a vs, v = .ref a ∧ SqT K H a vs ∧ vs.length = ds.length ∧ SR K H0 Z0 σ H e (vs.zip ds ++ P) PW := by
  obtain ⟨Z, F, W, s, S⟩ := S
  have r := S.fz (v, pairD ds) List.mem_cons_self
  have go : ∀ {a : Addr} {xs : List V}, v = .ref a → SqT K H a xs → RpA K H Z xs ds → ∃ a vs, v = .ref a ∧ SqT K H a vs ∧ vs.length = ds.length ∧ SR K H0 Z0 σ H e (vs.zip ds ++ P) PW := fun {a xs} ev h r => by
    refine ⟨_, _, ev, h, r.length, Z, F, W, s, ⟨S.zin, S.ztr, S.same, fun p hp => ?_, S.ow, S.nd⟩⟩
    rw [List.append_assoc] at hp
    rcases List.mem_append.mp hp with hp | hp
    · exact r.zip p hp
    · exact S.fz p (List.mem_cons_of_mem _ hp)
  cases r with
  | prs h r => exact go rfl h r
/-- a sequence that is read is opened -/
theorem SR.openQ {v : V} {q : QV} {b : Bool} {ds : List D} {R : List (V × D)} (S : SR K H0 Z0 σ H e (R ++ qP v q P) PW) (hq : qOk σ v q) (h : seqOf e q = some (b, ds)) :
    ∃ a vs, v = .ref a ∧ (b = true → H a = some (.lst vs)) ∧ (b = false → TupOk K H a vs) ∧ vs.length = ds.length ∧ SR K H0 Z0 σ H e (vs.zip ds ++ (R ++ qP v q P)) PW := by
  cases q with
  | inl i =>
    have h : (Vl.getO e i).map (fun ds => (true, ds)) = some (b, ds) := h
    obtain ⟨ds', h1, h2⟩ := Option.map_eq_some_iff.mp h
    obtain ⟨rfl, rfl⟩ := Prod.mk.inj h2
    obtain ⟨a, vs, e1, e2, e3, S'⟩ := S.getO h1
    have hq : σ[i]? = some (some v) := hq
    rw [e1] at hq
    obtain rfl : V.ref a = v := by simpa using hq
    exact ⟨a, vs, rfl, fun _ => e2, fun z => (nomatch z), e3, S'⟩
  | inr d =>
    have S2 : SR K H0 Z0 σ H e ((v, d) :: (R ++ qP v (.inr d) P)) PW := S.subP fun p hp => by
      rcases List.mem_cons.mp hp with hp | hp
      · exact hp ▸ List.mem_append_right _ List.mem_cons_self
      · exact hp
    cases d with
    | list es =>
      obtain ⟨rfl, rfl⟩ := Prod.mk.inj (Option.some.inj (show some (true, es) = some (b, ds) from h))
      obtain ⟨a, vs, e1, e2, e3, S'⟩ := S2.openL
      exact ⟨a, vs, e1, fun _ => e2, fun z => (nomatch z), e3, S'⟩
    | tuple es =>
      obtain ⟨rfl, rfl⟩ := Prod.mk.inj (Option.some.inj (show some (false, es) = some (b, ds) from h))
      obtain ⟨a, vs, e1, e2, e3, S'⟩ := S2.openT
      exact ⟨a, vs, e1, fun z => (nomatch z), fun _ => e2, e3, S'⟩
    | none => exact (nomatch (show (none : Option (Bool × List D)) = some (b, ds) from h))
    | bool _ => exact (nomatch (show (none : Option (Bool × List D)) = some (b, ds) from h))
    | int _ => exact (nomatch (show (none : Option (Bool × List D)) = some (b, ds) from h))
    | str _ => exact (nomatch (show (none : Option (Bool × List D)) = some (b, ds) from h))
    | dict _ => exact (nomatch (show (none : Option (Bool × List D)) = some (b, ds) from h))
theorem SR.item {vs : List V} {ds : List D} {R : List (V × D)} {i : Nat} {d : D} (S : SR K H0 Z0 σ H e (vs.zip ds ++ R) PW) (hl : vs.length = ds.length) (h : ds[i]? = some d) : ∃ v, vs[i]? = some v ∧ SR K H0 Z0 σ H e ((v, d) :: R) PW := by
  have hi : i < ds.length := (List.getElem?_eq_some_iff.mp h).1
  have hv : vs[i]? = some vs[i] := List.getElem?_eq_getElem (by omega)
  refine ⟨vs[i], hv, S.subP fun p hp => ?_⟩
  rcases List.mem_cons.mp hp with hp | hp
  · subst hp
    refine List.mem_append_left _ (List.mem_of_getElem? (i := i) ?_)
    rw [List.getElem?_zip_eq_some]
    exact ⟨hv, h⟩
  · exact List.mem_append_right _ hp

/-- two steps that change nothing -/
theorem mf {e1 e2 : Sto} {H1 H2 : Hp} {m : Bool} (h : m = false → e1 = e ∧ Same H H1) (h2 : m = false → e2 = e1 ∧ Same H1 H2) : m = false → e2 = e ∧ Same H H2 := fun z => ⟨(h2 z).1.trans (h z).1, (h z).2.trans (h2 z).2⟩
theorem mf1 {e1 : Sto} {H1 H2 : Hp} {m : Bool} (h : m = false → e1 = e ∧ Same H H1) (h2 : Same H1 H2) : m = false → e1 = e ∧ Same H H2 := fun z => ⟨(h z).1, (h z).2.trans h2⟩
/-! ### names, constants -/
def wVar (i : Nat) : Wp D := Wp.gt fun e => getF e i
def oVar (i : Nat) : Op D := Op.gt fun e => getF e i
variable {X : Cx} {m o : Bool}
theorem snd_var (i : Nat) : SndE K m false (tVar i) (wVar i) := by
  intro H0 Z0 σ H e P PW k Q S h q
  obtain ⟨d, g, hk⟩ := h
  obtain ⟨v, h1, S'⟩ := S.getF g
  exact ⟨v, h1, q v d e H (fun _ => ⟨rfl, Same.refl _⟩) S' hk⟩
theorem e_var (i : Nat) {x : Str} {pos : Pos} (hN : X.N[i]? = some x := by rfl) (hv : Vis X.env.scope x := by first | exact Or.inl rfl | exact Or.inr (Or.inl rfl) | exact Or.inr (Or.inr rfl)) (hd : (x == ("__debug__" : Str)) = false := by decide)
    (hcd : (x == ("__classdict__" : Str)) = false := by decide) : E X m false (.Name x pos) (tVar i) (wVar i) := ⟨pe_var hN hv hd hcd, snd_var i⟩
theorem d_var (i : Nat) {x : Str} {pos : Pos} (hN : X.N[i]? = some x := by rfl) (hv : Vis X.env.scope x := by first | exact Or.inl rfl | exact Or.inr (Or.inl rfl) | exact Or.inr (Or.inr rfl)) (hd : (x == ("__debug__" : Str)) = false := by decide)
    (hcd : (x == ("__classdict__" : Str)) = false := by decide) : E X m false (.Name x pos) (tVar i) (lift (oVar i)) := ⟨pe_var hN hv hd hcd, by rw [oVar, lift_gt]; exact snd_var i⟩
theorem snd_c {v : V} {d : D} (r : ∀ K H Z, Rp K H Z v d) : SndE K m false (tC v) (Wp.ret d) := by
  intro H0 Z0 σ H e P PW k Q S h q
  exact q v d e H (fun _ => ⟨rfl, Same.refl _⟩) (S.addP fun Z => r _ _ Z) h
theorem e_int {i : Int} {j pos} : E X m false (.Constant (.int i) j pos) (tC (.int i)) (Wp.ret (.int i)) := ⟨pe_int, snd_c fun _ _ _ => .int i⟩
theorem e_bl {b : Bool} {j pos} : E X m false (.Constant (.bool b) j pos) (tC (.bl b)) (Wp.ret (.bool b)) := ⟨pe_bl, snd_c fun _ _ _ => .bl b⟩
theorem e_non {j pos} : E X m false (.Constant .none j pos) (tC .non) (Wp.ret .none) := ⟨pe_non, snd_c fun _ _ _ => .non⟩
theorem e_str {x : Str} {j pos} : E X m false (.Constant (.str x) j pos) (tC (.str x)) (Wp.ret (.str x)) := ⟨pe_str, snd_c fun _ _ _ => .str x⟩
theorem d_int {i : Int} {j pos} : E X m false (.Constant (.int i) j pos) (tC (.int i)) (lift (Op.ret (.int i))) := by rw [lift_ret]; exact e_int
theorem d_bl {b : Bool} {j pos} : E X m false (.Constant (.bool b) j pos) (tC (.bl b)) (lift (Op.ret (.bool b))) := by rw [lift_ret]; exact e_bl
theorem d_non {j pos} : E X m false (.Constant .none j pos) (tC .non) (lift (Op.ret .none)) := by rw [lift_ret]; exact e_non
theorem d_str {x : Str} {j pos} : E X m false (.Constant (.str x) j pos) (tC (.str x)) (lift (Op.ret (.str x))) := by rw [lift_ret]; exact e_str
/-- an int of the module's -/
theorem e_gint {x : Str} {i : Int} {u : Value} {pos : Pos} (hg : Gl X x) (hm : X.mg x = some u) (r : RelV (.int i) u) (hd : (x == ("__debug__" : Str)) = false := by decide) : E X m false (.Name x pos) (tC (.int i)) (Wp.ret (.int i)) := ⟨pe_glob hg hm r hd, snd_c fun _ _ _ => .int i⟩
theorem d_gint {x : Str} {i : Int} {u : Value} {pos : Pos} (hg : Gl X x) (hm : X.mg x = some u) (r : RelV (.int i) u) (hd : (x == ("__debug__" : Str)) = false := by decide) : E X m false (.Name x pos) (tC (.int i)) (lift (Op.ret (.int i))) := by rw [lift_ret]; exact e_gint hg hm r hd
/-- a slot's own list, a value as a sequence -/
theorem q_own (i : Nat) {x : Str} {pos : Pos} (hN : X.N[i]? = some x := by rfl) (hv : Vis X.env.scope x := by first | exact Or.inl rfl | exact Or.inr (Or.inl rfl) | exact Or.inr (Or.inr rfl)) (hd : (x == ("__debug__" : Str)) = false := by decide)
    (hcd : (x == ("__classdict__" : Str)) = false := by decide) : Sq X m (.Name x pos) (tVar i) (Wp.gt fun e => (getO e i).map fun _ => (.inl i : QV)) := by
  refine ⟨pe_var hN hv hd hcd, ?_⟩
  intro H0 Z0 σ H e P PW k Q S h q
  obtain ⟨d, g, hk⟩ := h
  obtain ⟨ds, h1, rfl⟩ := Option.map_eq_some_iff.mp g
  obtain ⟨a, vs, e1, _, _, _⟩ := S.getO h1
  exact ⟨_, e1, q _ (.inl i) e H (fun _ => ⟨rfl, Same.refl _⟩) e1 S hk⟩
def oOwn (i : Nat) : Op QV := Op.gt fun e => (getO e i).map fun _ => (.inl i : QV)
theorem dq_own (i : Nat) {x : Str} {pos : Pos} (hN : X.N[i]? = some x := by rfl) (hv : Vis X.env.scope x := by first | exact Or.inl rfl | exact Or.inr (Or.inl rfl) | exact Or.inr (Or.inr rfl)) (hd : (x == ("__debug__" : Str)) = false := by decide)
    (hcd : (x == ("__classdict__" : Str)) = false := by decide) : Sq X m (.Name x pos) (tVar i) (lift (oOwn i)) := by
  rw [oOwn, lift_gt]; exact q_own i hN hv hd hcd
theorem q_of {ex : Expr} {t : TE} {w : Wp D} (h : E X m false ex t w) : Sq X m ex t (Wp.bd w fun d => Wp.ret (.inr d)) := by
  refine ⟨h.pe, ?_⟩
  intro H0 Z0 σ H e P PW k Q S hw q
  exact h.snd H0 Z0 σ H e P PW _ Q S hw fun v d e' H' he S' hk => q v (.inr d) e' H' he trivial S' hk
def oQ (f : Op D) : Op QV := Op.bd f fun d => Op.ret (.inr d)
theorem dq_of {ex : Expr} {t : TE} {f : Op D} (h : E X m false ex t (lift f)) : Sq X m ex t (lift (oQ f)) := by
  have q := q_of h
  simp only [oQ, lift_bd, lift_ret]
  exact q
/-- a list of this frame's taken as a value -/
theorem e_frz {ex : Expr} {t : TE} {w : Wp D} (h : E X m true ex t w) : E X m false ex t w := by
  refine ⟨h.pe, ?_⟩
  intro H0 Z0 σ H e P PW k Q S hw q
  refine h.snd H0 Z0 σ H e P PW _ Q S hw fun v d e' H' he S' hk => q v d e' H' he ?_ hk
  obtain ⟨a, ds, rfl, rfl, S'⟩ := S'
  exact S'.freezeW
end
end Vl
/-! The value layer, T: rules that lay new tuples, each known to its object. -/
namespace Vl
open PySem PySem.Spec PyProof.Rows L2
section
variable {X : Cx} {pins : List (Addr × Obj)} {σ : L2.St} {H : Hp} {s : Shared} {xs : List V} {its : List Value}
/-- a tuple's object -/
abbrev tupO (its : List Value) : Obj := { cls := .type "tuple", data := .seq its.toArray }
theorem Inv.tupF {t' : Nat} (I : Inv X pins σ H s) (r : Vals xs its) (hz : xs.length ≤ sizeLine) :
    Inv X pins σ (upd H s.heap.objs.size (.frz (tupO its) (.tup xs))) { s with heap := s.heap.push (tupO its), toks := t' } :=
  I.laid (t' := t') (fun _ _ q => Heap.get?_push_of_some _ q) (Nat.le_refl _) ⟨Heap.get?_push_size _ rfl, hz, its, r, IsTup.new _ _⟩
/-- what a rule for a new tuple says: at any free place, of any object without a dict -/
def NewT (H : Hp) (Q : VK) (xs : List V) : Prop := ∀ (p : Addr) (o : Obj), H p = none → o.dict = none → Q (.ref p) (upd H p (.frz o (.tup xs)))
theorem new_end {Q : VK} {t' : Nat} (I : Inv X pins σ H s) (r : Vals xs its) (hz : xs.length ≤ sizeLine) (q : NewT H Q xs) : EP X pins σ Q (.ref s.heap.objs.size) { s with heap := s.heap.push (tupO its), toks := t' } :=
  ⟨.ref s.heap.objs.size, _, Inv.tupF I r hz, rfl, q _ _ (I.hok.fresh (Nat.le_refl _)) rfl⟩
/-- (a, b, ..) -/
def tTupN (t : TA) : TE := fun σ H Q => t σ H fun xs H1 => xs.length ≤ sizeLine ∧ NewT H1 Q xs
theorem pe_tupN {es : List Expr} {t : TA} {pos : Pos} {x1} (h : PA X es t) : PE X (.Tuple es x1 pos) (tTupN t) := by
  refine ⟨fun pins s σ H Q I hq => wpAny_Tuple_spliced (thn (h.run pos pins s σ H _ I hq) fun us s1 hh => ?_)⟩
  obtain ⟨vs, H1, I1, r, z, q⟩ := hh
  exact ⟨by rw [← r.length]; exact z, new_end (t' := s1.toks) I1 r z q⟩
/-- t + u -/
def rCatN (K : PySem.W.Frag) : R2 := fun x y H Q => ∃ a b xs ys, x = .ref a ∧ y = .ref b ∧ SqT K H a xs ∧ SqT K H b ys ∧ xs.length + ys.length ≤ sizeLine ∧
  (xs = [] → Q (.ref b) H) ∧ (xs ≠ [] → ys = [] → Q (.ref a) H) ∧ (xs ≠ [] → ys ≠ [] → NewT H Q (xs ++ ys))
theorem op_catN : OpR X (binaryOp .Add) (rCatN X.K) := by
  intro pins s σ H x y v u Q I rx ry ⟨a, b, xs, ys, e1, e2, ha, hb, hz, q0, q1, q2⟩
  subst e1 e2
  cases rx
  cases ry
  obtain ⟨its, r1, p1, _⟩ := I.tuple ha
  obtain ⟨its2, r2, p2, _⟩ := I.tuple hb
  by_cases hx : xs = []
  · subst hx
    cases r1
    exact cat_tup0 p1 p2 ⟨.ref b, H, I, rfl, q0 rfl⟩
  · refine HT.cat_tup p1 p2 (fun z => hx (r1.nil_iff.mp z)) (fun z => ⟨.ref a, H, I, rfl, q1 hx (r2.nil_iff.mp z)⟩) (fun z => ?_) (by rw [← r1.length, ← r2.length]; exact hz)
    exact new_end (t' := s.toks) I (r1.append r2) (by rw [List.length_append]; exact hz) (q2 hx fun w => z (r2.nil_iff.mpr w))
/-- tuple(x) -/
def rTupN (K : PySem.W.Frag) : List V → Hp → VK → Prop := fun xs H Q => ∃ p ys, xs = [.ref p] ∧ ((SqL K H p ys ∧ NewT H Q ys) ∨ (SqT K H p ys ∧ Q (.ref p) H))
theorem call_tupN : CallR X (.type "tuple") (rTupN X.K) := by
  intro pins s σ H xs us Q I r ⟨p, ys, e, q⟩
  subst e
  obtain ⟨u, rfl, ru⟩ := vals1 r
  obtain rfl : u = Value.ref p := ru
  rcases q with ⟨hs, q⟩ | ⟨hs, q⟩
  · obtain ⟨its, rv, pl, hz⟩ := I.list hs
    refine call_tuple_list pl.isList (fun h' hk => ?_) (by rw [List.size_toArray, ← rv.length]; exact hz)
    exact new_end (s := { s with heap := h' }) (t' := s.toks) (I.kept (t' := s.toks) hk) rv hz q
  · obtain ⟨its, rv, pl, hz⟩ := I.tuple hs
    exact call_tuple_tup pl ⟨.ref p, H, I, rfl, q⟩
/-- t[lo:hi] -/
def rSlN (K : PySem.W.Frag) : V → Option Int → Option Int → Hp → VK → Prop := fun x lo hi H Q => ∃ a xs, x = .ref a ∧ SqT K H a xs ∧
  (HT.sIx xs.length 0 lo = 0 ∧ HT.sIx xs.length xs.length hi = xs.length → Q (.ref a) H) ∧ (¬ (HT.sIx xs.length 0 lo = 0 ∧ HT.sIx xs.length xs.length hi = xs.length) → NewT H Q (cutV xs lo hi))
theorem sl_tupN : SlR X (rSlN X.K) := by
  intro pins s σ H x v vl vu lo hi sl Q I rx hs pl pu ⟨a, xs, e, hx, q1, q2⟩
  subst e
  cases rx
  obtain ⟨its, r, ht, hz⟩ := I.tuple hx
  have hlen : its.toArray.size = xs.length := by rw [List.size_toArray]; exact r.length.symm
  refine ⟨"tuple", _, PyProof.Rows.slot_tuple_getitem.lookup, ht.typeIs, ?_⟩
  by_cases hw : HT.sIx xs.length 0 lo = 0 ∧ HT.sIx xs.length xs.length hi = xs.length
  · exact getItem_tuple_whole ht hs pl pu (by rw [hlen]; exact hw) ⟨.ref a, H, I, rfl, q1 hw⟩
  · refine HT.getItem_tuple_cut ht hs pl pu (by rw [hlen]; exact hw) ?_ (by rw [hlen]; exact hz)
    rw [hlen]
    exact new_end (t' := s.toks) I ((r.drop _).take _) (Nat.le_trans (cutV_length xs lo hi) hz) (q2 hw)
end
section
variable {K : PySem.W.Frag} {H H' H0 : Hp} {Z Z' Z0 : Addr → Prop} {σ : L2.St} {e e' : Sto} {P P' : List (V × D)} {PW : List (Addr × List D)}
/-- a new tuple of values at hand -/
theorem SR.tup {vs : List V} {ds : List D} {p : Addr} {ob : Obj} (S : SR K H0 Z0 σ H e (vs.zip ds ++ P) PW) (hl : vs.length = ds.length) (hp : H p = none) (hd : ob.dict = none) : SR K H0 Z0 σ (upd H p (.frz ob (.tup vs))) e ((.ref p, .tuple ds) :: P) PW := by
  obtain ⟨Z, F, W, s, S⟩ := S
  have sm : Same H (upd H p (.frz ob (.tup vs))) := same_upd hp
  have r := SR.zipA S.fz hl
  have S1 : Sta K H0 Z0 (upd H p (.frz ob (.tup vs))) (vs.zip ds ++ P ++ F) (PW ++ W) Z := S.grow sm (fun _ z => z) (fun _ z => .inl z) fun b z => by
    obtain ⟨o, h⟩ := S.ztr b z
    exact ⟨o, sm _ _ h⟩
  refine ⟨Z, F, W, s, Sta.addP (S1.sub (fun q h => ?_) (fun _ h => h) S1.nd) (.tup (.inl ⟨ob, upd_same, hd⟩) (RpA.keep (Kp.same sm) (fun _ z => z) _ _ r))⟩
  rw [List.append_assoc]
  exact List.mem_append_right _ h
end
end Vl
/-! The value layer, 4: operators, comparisons, tests, displays, items. -/
namespace Vl
open PySem PySem.Spec PyProof.Rows L2

/-- the greatest length that is let -/
abbrev lim : Nat := 10000000
theorem lim_le {n : Nat} (h : n ≤ lim) : n ≤ sizeLine := by rw [sizeLine_eq]; exact Nat.le_trans h (by decide)
theorem lim_lt {n : Nat} (h : n ≤ lim) : n < sizeLine := by rw [sizeLine_eq]; exact Nat.lt_of_le_of_lt h (by decide)

/-! ### the operators on data -/
def addD : D → D → Option D
  | .int i, .int j => some (.int (i + j))
  | .tuple a, .tuple b => if a.length + b.length ≤ lim then some (.tuple (a ++ b)) else none
  | .list a, .list b => if a.length + b.length ≤ lim then some (.list (a ++ b)) else none
  | _, _ => none
def subD : D → D → Option D
  | .int i, .int j => some (.int (i - j))
  | _, _ => none
def mulD : D → D → Option D
  | .int i, .int j => if i.natAbs.log2 + j.natAbs.log2 < 1000000 then some (.int (i * j)) else none
  | _, _ => none
def fdivD : D → D → Option D
  | .int i, .int j => if 0 < j ∧ j.natAbs.log2 < 9000 then some (.int (i / j)) else none
  | _, _ => none
def modD : D → D → Option D
  | .int i, .int j => if 0 < j then some (.int (i % j)) else none
  | _, _ => none
def powD : D → D → Option D
  | .int i, .int j => if 0 ≤ j ∧ j ≤ 1000000 ∧ i.natAbs < 18446744073709551616 then some (.int (i ^ j.toNat)) else none
  | _, _ => none
def negD : D → Option D
  | .int i => some (.int (-i))
  | _ => none
def cmpD (f : Int → Int → Bool) : D → D → Option Bool
  | .int i, .int j => some (f i j)
  | _, _ => none
def eqD (a b : D) : Option Bool := if SeqAt.shaped a = true ∧ SeqAt.shaped b = true then some (PyData.eqv a b) else none
def neD (a b : D) : Option Bool := (eqD a b).map (!·)
def isNoneD : D → Option Bool
  | .none => some true
  | .dict _ => none
  | _ => some false
def isBoolD (c : Bool) : D → Option Bool
  | .bool b => some (b == c)
  | _ => none

section
variable {K : PySem.W.Frag} {H H' H0 : Hp} {Z Z' Z0 : Addr → Prop} {σ : L2.St} {e e' : Sto} {P P' : List (V × D)} {PW : List (Addr × List D)}

/-- an operator's rule keeps what the data say -/
def OpS (K : PySem.W.Frag) (r : R2) (g : D → D → Option D) : Prop :=
  ∀ {H0 : Hp} {Z0 : Addr → Prop} {σ : L2.St} {H : Hp} {e : Sto} {P : List (V × D)} {PW : List (Addr × List D)} {x y : V} {d c z : D} {Q : VK}, SR K H0 Z0 σ H e ((y, c) :: (x, d) :: P) PW → g d c = some z →
    (∀ v H', Same H H' → SR K H0 Z0 σ H' e ((v, z) :: P) PW → Q v H') → r x y H Q
def rAddA (K : PySem.W.Frag) : R2 := fun x y H Q => rI0 (fun i j => .int (i + j)) x y H Q ∨ rCatN K x y H Q ∨ rCat x y H Q
theorem opAdd {X : Cx} : OpR X (binaryOp .Add) (rAddA X.K) := op_add.or (op_catN.or op_cat)
theorem SR.tl2 {a b : V × D} (S : SR K H0 Z0 σ H e (a :: b :: P) PW) : SR K H0 Z0 σ H e P PW := S.subP fun p h => List.mem_cons_of_mem _ (List.mem_cons_of_mem _ h)
/-- two sequences' items behind one another -/
theorem SR.cat {vs us : List V} {ds es : List D} (S : SR K H0 Z0 σ H e (us.zip es ++ (vs.zip ds ++ P)) PW) (hv : vs.length = ds.length) : SR K H0 Z0 σ H e ((vs ++ us).zip (ds ++ es) ++ P) PW := S.subP fun p h => by
  rw [List.zip_append hv] at h
  rcases List.mem_append.mp h with h | h
  · rcases List.mem_append.mp h with h | h
    · exact List.mem_append_right _ (List.mem_append_left _ h)
    · exact List.mem_append_left _ h
  · exact List.mem_append_right _ (List.mem_append_right _ h)
theorem addS : OpS K (rAddA K) addD := by
  intro H0 Z0 σ H e P PW x y d c z Q S g q
  cases d with
  | int i =>
    cases c with
    | int j =>
      have g : PyData.int (i + j) = z := Option.some.inj g
      subst g
      exact .inl ⟨i, j, S.tl.hdInt, S.hdInt, q _ H (Same.refl _) (S.tl2.int)⟩
    | _ => cases g
  | tuple a =>
    cases c with
    | tuple b =>
      have g : (if a.length + b.length ≤ lim then some (PyData.tuple (a ++ b)) else none) = some z := g
      by_cases hl : a.length + b.length ≤ lim
      · rw [if_pos hl] at g
        have g : PyData.tuple (a ++ b) = z := Option.some.inj g
        subst g
        obtain ⟨p, vs, rfl, h1, l1, S1⟩ := S.swap.openT
        have S2 : SR K H0 Z0 σ H e ((y, .tuple b) :: (vs.zip a ++ ((y, .tuple b) :: P))) PW := S1.subP fun p h => by
          rcases List.mem_cons.mp h with h | h
          · exact h ▸ List.mem_append_right _ List.mem_cons_self
          · exact h
        obtain ⟨p2, us, rfl, h2, l2, S3⟩ := S2.openT
        have S4 : SR K H0 Z0 σ H e (us.zip b ++ (vs.zip a ++ P)) PW := S3.subP fun p h => by
          rcases List.mem_append.mp h with h | h
          · exact List.mem_append_left _ h
          · rcases List.mem_append.mp h with h | h
            · exact List.mem_append_right _ (List.mem_append_left _ h)
            · exact List.mem_append_right _ (List.mem_append_right _ (List.mem_cons_of_mem _ h))
        have sz : vs.length + us.length ≤ sizeLine := by rw [l1, l2]; exact lim_le hl
        refine .inr (.inl ⟨p, p2, vs, us, rfl, rfl, h1.sqT, h2.sqT, sz, fun e0 => ?_, fun _ e0 => ?_, fun _ _ t ob nt hd => ?_⟩)
        · have e1 : a = [] := List.length_eq_zero_iff.mp (by rw [← l1, e0]; rfl)
          subst e1
          rw [List.nil_append] at q
          exact q _ H (Same.refl _) (S.subP fun p h => by
            rcases List.mem_cons.mp h with h | h
            · exact h ▸ List.mem_cons_self
            · exact List.mem_cons_of_mem _ (List.mem_cons_of_mem _ h))
        · have e1 : b = [] := List.length_eq_zero_iff.mp (by rw [← l2, e0]; rfl)
          subst e1
          rw [List.append_nil] at q
          exact q _ H (Same.refl _) S.tl
        · exact q _ _ (same_upd nt) ((S4.cat l1).tup (by rw [List.length_append, List.length_append, l1, l2]) nt hd)
      · rw [if_neg hl] at g; cases g
    | _ => cases g
  | list a =>
    cases c with
    | list b =>
      have g : (if a.length + b.length ≤ lim then some (PyData.list (a ++ b)) else none) = some z := g
      by_cases hl : a.length + b.length ≤ lim
      · rw [if_pos hl] at g
        have g : PyData.list (a ++ b) = z := Option.some.inj g
        subst g
        obtain ⟨p, vs, rfl, h1, l1, S1⟩ := S.swap.openL
        have S2 : SR K H0 Z0 σ H e ((y, .list b) :: (vs.zip a ++ ((y, .list b) :: P))) PW := S1.subP fun p h => by
          rcases List.mem_cons.mp h with h | h
          · exact h ▸ List.mem_append_right _ List.mem_cons_self
          · exact h
        obtain ⟨p2, us, rfl, h2, l2, S3⟩ := S2.openL
        have S4 : SR K H0 Z0 σ H e (us.zip b ++ (vs.zip a ++ P)) PW := S3.subP fun p h => by
          rcases List.mem_append.mp h with h | h
          · exact List.mem_append_left _ h
          · rcases List.mem_append.mp h with h | h
            · exact List.mem_append_right _ (List.mem_append_left _ h)
            · exact List.mem_append_right _ (List.mem_append_right _ (List.mem_cons_of_mem _ h))
        have sz : vs.length + us.length ≤ sizeLine := by rw [l1, l2]; exact lim_le hl
        refine .inr (.inr ⟨p, p2, vs, us, rfl, rfl, h1, h2, sz, fun t nt => q _ _ (same_upd nt) ?_⟩)
        exact ((S4.cat l1).lst (by rw [List.length_append, List.length_append, l1, l2]) nt).freezeW
      · rw [if_neg hl] at g; cases g
    | _ => cases g
  | _ => cases g
theorem opI_S {C : Int → Int → Prop} {f : Int → Int → Int} {g : D → D → Option D} (hg : ∀ d c z, g d c = some z → ∃ i j, d = .int i ∧ c = .int j ∧ C i j ∧ z = .int (f i j)) : OpS K (rI C fun i j => .int (f i j)) g := by
  intro H0 Z0 σ H e P PW x y d c z Q S h q
  obtain ⟨i, j, rfl, rfl, hc, rfl⟩ := hg d c z h
  exact ⟨i, j, S.tl.hdInt, S.hdInt, hc, q _ H (Same.refl _) S.tl2.int⟩
theorem opI0_S {f : Int → Int → Int} {g : D → D → Option D} (hg : ∀ d c z, g d c = some z → ∃ i j, d = .int i ∧ c = .int j ∧ z = .int (f i j)) : OpS K (rI0 fun i j => .int (f i j)) g := by
  intro H0 Z0 σ H e P PW x y d c z Q S h q
  obtain ⟨i, j, rfl, rfl, rfl⟩ := hg d c z h
  exact ⟨i, j, S.tl.hdInt, S.hdInt, q _ H (Same.refl _) S.tl2.int⟩
theorem subS : OpS K (rI0 fun i j => .int (i - j)) subD := opI0_S (f := fun i j => i - j) fun d c z h => by
  cases d with
  | int i =>
    cases c with
    | int j => exact ⟨i, j, rfl, rfl, (Option.some.inj h).symm⟩
    | _ => cases h
  | _ => cases h
theorem mulS : OpS K (rI CMulW fun i j => .int (i * j)) mulD := opI_S (f := fun i j => i * j) fun d c z h => by
  cases d with
  | int i =>
    cases c with
    | int j =>
      have h : (if i.natAbs.log2 + j.natAbs.log2 < 1000000 then some (PyData.int (i * j)) else none) = some z := h
      by_cases hc : i.natAbs.log2 + j.natAbs.log2 < 1000000
      · rw [if_pos hc] at h
        exact ⟨i, j, rfl, rfl, hc, (Option.some.inj h).symm⟩
      · rw [if_neg hc] at h; cases h
    | _ => cases h
  | _ => cases h
theorem fdivS : OpS K (rI CDivW fun i j => .int (i / j)) fdivD := opI_S (f := fun i j => i / j) fun d c z h => by
  cases d with
  | int i =>
    cases c with
    | int j =>
      have h : (if 0 < j ∧ j.natAbs.log2 < 9000 then some (PyData.int (i / j)) else none) = some z := h
      by_cases hc : 0 < j ∧ j.natAbs.log2 < 9000
      · rw [if_pos hc] at h
        exact ⟨i, j, rfl, rfl, hc, (Option.some.inj h).symm⟩
      · rw [if_neg hc] at h; cases h
    | _ => cases h
  | _ => cases h
theorem modS : OpS K (rI (fun _ j => 0 < j) fun i j => .int (i % j)) modD := opI_S (f := fun i j => i % j) fun d c z h => by
  cases d with
  | int i =>
    cases c with
    | int j =>
      have h : (if 0 < j then some (PyData.int (i % j)) else none) = some z := h
      by_cases hc : 0 < j
      · rw [if_pos hc] at h
        exact ⟨i, j, rfl, rfl, hc, (Option.some.inj h).symm⟩
      · rw [if_neg hc] at h; cases h
    | _ => cases h
  | _ => cases h
theorem powS : OpS K (rI CPow fun i j => .int (i ^ j.toNat)) powD := opI_S (f := fun i j => i ^ j.toNat) fun d c z h => by
  cases d with
  | int i =>
    cases c with
    | int j =>
      have h : (if 0 ≤ j ∧ j ≤ 1000000 ∧ i.natAbs < 18446744073709551616 then some (PyData.int (i ^ j.toNat)) else none) = some z := h
      by_cases hc : 0 ≤ j ∧ j ≤ 1000000 ∧ i.natAbs < 18446744073709551616
      · rw [if_pos hc] at h
        exact ⟨i, j, rfl, rfl, hc, (Option.some.inj h).symm⟩
      · rw [if_neg hc] at h; cases h
    | _ => cases h
  | _ => cases h

/-! ### operators as rules -/
variable {X : Cx} {m m2 : Bool} {a b : Expr} {ta tb : TE} {wa wb : Wp D} {fa fb : Op D} {pos : Pos}
/-- one behind another -/
def wB2 {α β γ : Type} (g : α → β → Option γ) (wa : Wp α) (wb : Wp β) : Wp γ := Wp.bd wa fun x => Wp.bd wb fun y => Wp.gt fun _ => g x y
def oB2 {α β γ : Type} (g : α → β → Option γ) (fa : Op α) (fb : Op β) : Op γ := Op.bd fa fun x => Op.bd fb fun y => Op.gt fun _ => g x y
theorem lift_B2 {α β γ : Type} (g : α → β → Option γ) (fa : Op α) (fb : Op β) : lift (oB2 g fa fb) = wB2 g (lift fa) (lift fb) := by
  simp only [oB2, wB2, lift_bd, lift_gt]
theorem snd_op {r : R2} {g : D → D → Option D} (s : OpS K r g) (ha : SndE K m false ta wa) (hb : SndE K m false tb wb) : SndE K m false (tOp r ta tb) (wB2 g wa wb) := by
  intro H0 Z0 σ H e P PW k Q S h q
  refine ha H0 Z0 σ H e P PW _ _ S h fun v d e1 H1 he S1 h1 => ?_
  refine hb H0 Z0 σ H1 e1 _ PW _ _ S1 h1 fun u c e2 H2 he2 S2 h2 => ?_
  obtain ⟨z, hz, hk⟩ := h2
  exact s S2 hz fun v' H' sm S' => q v' z e2 H' (mf1 (mf he he2) sm) S' hk
theorem e_op {op : Operator} {r : R2} {g : D → D → Option D} (ho : OpR X (binaryOp op) r) (s : OpS X.K r g) (ha : E X m false a ta wa) (hb : E X m false b tb wb) : E X m false (.BinOp a op b pos) (tOp r ta tb) (wB2 g wa wb) :=
  ⟨pe_op ho ha.pe hb.pe, snd_op s ha.snd hb.snd⟩
theorem d_op {op : Operator} {r : R2} {g : D → D → Option D} (ho : OpR X (binaryOp op) r) (s : OpS X.K r g) (ha : E X m false a ta (lift fa)) (hb : E X m false b tb (lift fb)) : E X m false (.BinOp a op b pos) (tOp r ta tb) (lift (oB2 g fa fb)) := by
  rw [lift_B2]; exact e_op ho s ha hb
theorem e_add (ha : E X m false a ta wa) (hb : E X m false b tb wb) : E X m false (.BinOp a .Add b pos) (tOp (rAddA X.K) ta tb) (wB2 addD wa wb) := e_op opAdd addS ha hb
theorem e_sub (ha : E X m false a ta wa) (hb : E X m false b tb wb) : E X m false (.BinOp a .Sub b pos) (tOp (rI0 fun i j => .int (i - j)) ta tb) (wB2 subD wa wb) := e_op op_sub subS ha hb
theorem e_mul (ha : E X m false a ta wa) (hb : E X m false b tb wb) : E X m false (.BinOp a .Mult b pos) (tOp (rI CMulW fun i j => .int (i * j)) ta tb) (wB2 mulD wa wb) := e_op op_mulW mulS ha hb
theorem e_fdiv (ha : E X m false a ta wa) (hb : E X m false b tb wb) : E X m false (.BinOp a .FloorDiv b pos) (tOp (rI CDivW fun i j => .int (i / j)) ta tb) (wB2 fdivD wa wb) := e_op op_fdivW fdivS ha hb
theorem e_mod (ha : E X m false a ta wa) (hb : E X m false b tb wb) : E X m false (.BinOp a .Mod b pos) (tOp (rI (fun _ j => 0 < j) fun i j => .int (i % j)) ta tb) (wB2 modD wa wb) := e_op op_mod modS ha hb
theorem e_pow (ha : E X m false a ta wa) (hb : E X m false b tb wb) : E X m false (.BinOp a .Pow b pos) (tOp (rI CPow fun i j => .int (i ^ j.toNat)) ta tb) (wB2 powD wa wb) := e_op op_pow powS ha hb
theorem d_add (ha : E X m false a ta (lift fa)) (hb : E X m false b tb (lift fb)) : E X m false (.BinOp a .Add b pos) (tOp (rAddA X.K) ta tb) (lift (oB2 addD fa fb)) := d_op opAdd addS ha hb
theorem d_sub (ha : E X m false a ta (lift fa)) (hb : E X m false b tb (lift fb)) : E X m false (.BinOp a .Sub b pos) (tOp (rI0 fun i j => .int (i - j)) ta tb) (lift (oB2 subD fa fb)) := d_op op_sub subS ha hb
theorem d_mul (ha : E X m false a ta (lift fa)) (hb : E X m false b tb (lift fb)) : E X m false (.BinOp a .Mult b pos) (tOp (rI CMulW fun i j => .int (i * j)) ta tb) (lift (oB2 mulD fa fb)) := d_op op_mulW mulS ha hb
theorem d_fdiv (ha : E X m false a ta (lift fa)) (hb : E X m false b tb (lift fb)) : E X m false (.BinOp a .FloorDiv b pos) (tOp (rI CDivW fun i j => .int (i / j)) ta tb) (lift (oB2 fdivD fa fb)) := d_op op_fdivW fdivS ha hb
theorem d_mod (ha : E X m false a ta (lift fa)) (hb : E X m false b tb (lift fb)) : E X m false (.BinOp a .Mod b pos) (tOp (rI (fun _ j => 0 < j) fun i j => .int (i % j)) ta tb) (lift (oB2 modD fa fb)) := d_op op_mod modS ha hb
theorem d_pow (ha : E X m false a ta (lift fa)) (hb : E X m false b tb (lift fb)) : E X m false (.BinOp a .Pow b pos) (tOp (rI CPow fun i j => .int (i ^ j.toNat)) ta tb) (lift (oB2 powD fa fb)) := d_op op_pow powS ha hb
/-! one operand -/
def wB1 {α γ : Type} (g : α → Option γ) (wa : Wp α) : Wp γ := Wp.bd wa fun x => Wp.gt fun _ => g x
def oB1 {α γ : Type} (g : α → Option γ) (fa : Op α) : Op γ := Op.bd fa fun x => Op.gt fun _ => g x
theorem lift_B1 {α γ : Type} (g : α → Option γ) (fa : Op α) : lift (oB1 g fa) = wB1 g (lift fa) := by
  simp only [oB1, wB1, lift_bd, lift_gt]
theorem e_neg (ha : E X m false a ta wa) : E X m false (.UnaryOp .USub a pos) (tUn (rU fun i => .int (-i)) ta) (wB1 negD wa) := by
  refine ⟨pe_un un_neg ha.pe, ?_⟩
  intro H0 Z0 σ H e P PW k Q S h q
  refine ha.snd H0 Z0 σ H e P PW _ _ S h fun v d e1 H1 he S1 h1 => ?_
  obtain ⟨z, hz, hk⟩ := h1
  cases d with
  | int i =>
    have hz : PyData.int (-i) = z := Option.some.inj hz
    subst hz
    exact ⟨i, S1.hdInt, q _ _ e1 H1 he S1.tl.int hk⟩
  | _ => cases hz
theorem d_neg (ha : E X m false a ta (lift fa)) : E X m false (.UnaryOp .USub a pos) (tUn (rU fun i => .int (-i)) ta) (lift (oB1 negD fa)) := by
  rw [lift_B1]; exact e_neg ha

/-! ### comparisons -/
def ofB {α : Type} (g : α → Option Bool) : α → Option D := fun x => (g x).map .bool
/-- a comparison by its operands: as a value, as a test -/
def CmS (K : PySem.W.Frag) (r : R2) (g : D → D → Option Bool) : Prop :=
  ∀ {H0 : Hp} {Z0 : Addr → Prop} {σ : L2.St} {H : Hp} {e : Sto} {P : List (V × D)} {PW : List (Addr × List D)} {x y : V} {d c : D} {z : Bool} {Q : VK}, SR K H0 Z0 σ H e ((y, c) :: (x, d) :: P) PW → g d c = some z →
    Q (.bl z) H → r x y H Q
theorem cmpI_S (f : Int → Int → Bool) : CmS K (rI0 fun i j => .bl (f i j)) (cmpD f) := by
  intro H0 Z0 σ H e P PW x y d c z Q S h q
  cases d with
  | int i =>
    cases c with
    | int j =>
      have h : f i j = z := Option.some.inj h
      subst h
      exact ⟨i, j, S.tl.hdInt, S.hdInt, q⟩
    | _ => cases h
  | _ => cases h
theorem snd_cmp {r : R2} {g : D → D → Option Bool} (s : CmS K r g) (ha : SndE K m false ta wa) (hb : SndE K m false tb wb) : SndT K m (tTest (tOp r ta tb)) (wB2 g wa wb) := by
  intro H0 Z0 σ H e P PW k Q S h q
  refine ha H0 Z0 σ H e P PW _ _ S h fun v d e1 H1 he S1 h1 => ?_
  refine hb H0 Z0 σ H1 e1 _ PW _ _ S1 h1 fun u c e2 H2 he2 S2 h2 => ?_
  obtain ⟨z, hz, hk⟩ := h2
  exact s S2 hz ⟨z, rfl, q z e2 H2 (mf he he2) S2.tl2 hk⟩
theorem t_cmp {op : CmpOp} {r : R2} {g : D → D → Option Bool} (ho : OpR X (compareOp op) r) (s : CmS X.K r g) (ha : E X m false a ta wa) (hb : E X m false b tb wb) (hmk : behindInMarks op b = false) : T X m (.Compare a [op] [b] pos) (tTest (tOp r ta tb)) (wB2 g wa wb) :=
  ⟨pt_cmpR ho ha.pe hb.pe hmk, snd_cmp s ha.snd hb.snd⟩
/-- a test as a value -/
def wVal (w : Wp Bool) : Wp D := Wp.bd w fun c => Wp.ret (.bool c)
def oVal (f : Op Bool) : Op D := Op.bd f fun c => Op.ret (.bool c)
theorem lift_Val (f : Op Bool) : lift (oVal f) = wVal (lift f) := by simp only [oVal, wVal, lift_bd, lift_ret]
theorem e_cmp {op : CmpOp} {r : R2} {g : D → D → Option Bool} (ho : OpR X (compareOp op) r) (s : CmS X.K r g) (ha : E X m false a ta wa) (hb : E X m false b tb wb) (hmk : behindInMarks op b = false) : E X m false (.Compare a [op] [b] pos) (tOp r ta tb) (wVal (wB2 g wa wb)) := by
  refine ⟨pe_cmpR ho ha.pe hb.pe hmk, ?_⟩
  intro H0 Z0 σ H e P PW k Q S h q
  refine ha.snd H0 Z0 σ H e P PW _ _ S h fun v d e1 H1 he S1 h1 => ?_
  refine hb.snd H0 Z0 σ H1 e1 _ PW _ _ S1 h1 fun u c e2 H2 he2 S2 h2 => ?_
  obtain ⟨z, hz, hk⟩ := h2
  exact s S2 hz (q _ _ e2 H2 (mf he he2) S2.tl2.bl hk)
theorem dt_cmp {op : CmpOp} {r : R2} {g : D → D → Option Bool} (ho : OpR X (compareOp op) r) (s : CmS X.K r g) (ha : E X m false a ta (lift fa)) (hb : E X m false b tb (lift fb)) (hmk : behindInMarks op b = false) : T X m (.Compare a [op] [b] pos) (tTest (tOp r ta tb)) (lift (oB2 g fa fb)) := by
  rw [lift_B2]; exact t_cmp ho s ha hb hmk
theorem d_cmp {op : CmpOp} {r : R2} {g : D → D → Option Bool} (ho : OpR X (compareOp op) r) (s : CmS X.K r g) (ha : E X m false a ta (lift fa)) (hb : E X m false b tb (lift fb)) (hmk : behindInMarks op b = false) : E X m false (.Compare a [op] [b] pos) (tOp r ta tb) (lift (oVal (oB2 g fa fb))) := by
  rw [lift_Val, lift_B2]; exact e_cmp ho s ha hb hmk
def ltI : D → D → Option Bool := cmpD fun i j => decide (i < j)
def leI : D → D → Option Bool := cmpD fun i j => decide (i ≤ j)
def gtI : D → D → Option Bool := cmpD fun i j => decide (j < i)
def geI : D → D → Option Bool := cmpD fun i j => decide (j ≤ i)
theorem ltS : CmS K (rI0 fun i j => .bl (decide (i < j))) ltI := cmpI_S _
theorem leS : CmS K (rI0 fun i j => .bl (decide (i ≤ j))) leI := cmpI_S _
theorem gtS : CmS K (rI0 fun i j => .bl (decide (j < i))) gtI := cmpI_S _
theorem geS : CmS K (rI0 fun i j => .bl (decide (j ≤ i))) geI := cmpI_S _
/-- is None, is not None -/
theorem isNoneS : CmS K (fun x y H Q => y = .non ∧ Q (.bl (decide (x = .non))) H) (fun d c => match c with | .none => isNoneD d | _ => none) := by
  intro H0 Z0 σ H e P PW x y d c z Q S h q
  cases c with
  | none =>
    refine ⟨S.hdNon, ?_⟩
    obtain ⟨Z, r⟩ := S.tl.hd
    have e : decide (x = V.non) = z := by
      cases r with
      | non => exact Option.some.inj h
      | bl _ => exact Option.some.inj h
      | int _ => exact Option.some.inj h
      | str _ => exact Option.some.inj h
      | lst _ _ _ => exact Option.some.inj h
      | tup _ _ => exact Option.some.inj h
      | pot _ => cases h
      | prs _ _ => cases h
      | scr _ => cases h
    rw [e]; exact q
  | _ => cases h
theorem notNoneS : CmS K (fun x y H Q => y = .non ∧ Q (.bl (!decide (x = .non))) H) (fun d c => match c with | .none => (isNoneD d).map (!·) | _ => none) := by
  intro H0 Z0 σ H e P PW x y d c z Q S h q
  cases c with
  | none =>
    obtain ⟨z', h1, rfl⟩ := Option.map_eq_some_iff.mp (show (isNoneD d).map (!·) = some z from h)
    exact isNoneS (K := K) (Q := fun v H => ∀ b, v = .bl b → Q (.bl (!b)) H) S (show (match PyData.none with | .none => isNoneD d | _ => none) = some z' from h1) (fun b hb => by cases hb; exact q) |>.imp id fun f => f _ rfl
  | _ => cases h
theorem isBoolS : CmS K rIsB (fun d c => match c with | .bool k => isBoolD k d | _ => none) := by
  intro H0 Z0 σ H e P PW x y d c z Q S h q
  cases c with
  | bool k =>
    cases d with
    | bool b =>
      have h : (b == k) = z := Option.some.inj h
      refine ⟨b, k, S.tl.hdBl, S.hdBl, ?_⟩
      have e : decide (b = k) = z := by rw [← h]; cases b <;> cases k <;> rfl
      rw [e]; exact q
    | _ => cases h
  | _ => cases h
theorem notBoolS : CmS K rNotB (fun d c => match c with | .bool k => (isBoolD k d).map (!·) | _ => none) := by
  intro H0 Z0 σ H e P PW x y d c z Q S h q
  cases c with
  | bool k =>
    cases d with
    | bool b =>
      have h : (!(b == k)) = z := Option.some.inj h
      refine ⟨b, k, S.tl.hdBl, S.hdBl, ?_⟩
      have e : (!decide (b = k)) = z := by rw [← h]; cases b <;> cases k <;> rfl
      rw [e]; exact q
    | _ => cases h
  | _ => cases h
end
end Vl
/-! The value layer, 5: ==, in, and, or, not, chains, displays, items, built-in calls of sequences. -/
namespace Vl
open PySem PySem.Spec PyProof.Rows L2

section
variable {K : PySem.W.Frag} {H : Hp} {Z : Addr → Prop}
mutual
theorem Rp.dp : ∀ (d : D) (v : V), Rp K H Z v d → d.canLay0 = true → Dp K H v d
  | .none, _, h, _ => by cases h; exact .non
  | .bool b, _, h, _ => by cases h; exact .bl b
  | .int i, _, h, _ => by cases h; exact .int i
  | .str x, _, h, _ => by cases h; exact .str x
  | .list ds, _, h, c => by
    cases h with
    | lst r _ a => exact .lst (SqL.of r) (RpA.dp ds _ a (by simpa [PyData.canLay0] using c))
  | .tuple ds, _, h, c => by
    cases h with
    | tup r a => exact .tup r.sqT (RpA.dp ds _ a (by simpa [PyData.canLay0] using c))
  | .dict _, _, _, c => by simp [PyData.canLay0] at c
theorem RpA.dp : ∀ (ds : List D) (vs : List V), RpA K H Z vs ds → PyData.canLayAll0 ds = true → DpAll K H vs ds
  | [], _, h, _ => by cases h; exact .nil
  | d :: ds, _, h, c => by
    cases h with
    | cons h1 h2 =>
      have c : d.canLay0 = true ∧ PyData.canLayAll0 ds = true := by simpa [PyData.canLayAll0] using c
      exact .cons (Rp.dp d _ h1 c.1) (RpA.dp ds _ h2 c.2)
end
end

section
variable {K : PySem.W.Frag} {H H' H0 : Hp} {Z Z' Z0 : Addr → Prop} {σ : L2.St} {e e' : Sto} {P P' : List (V × D)} {PW : List (Addr × List D)}
variable {X : Cx} {m m2 o : Bool} {a b c : Expr} {ta tb tc : TE} {wa wb wc : Wp D} {fa fb fc : Op D} {pos : Pos}
theorem SR.dpP {v : V} {d : D} (S : SR K H0 Z0 σ H e P PW) (hp : (v, d) ∈ P) (c : SeqAt.shaped d = true) : Dp K H v d := by
  obtain ⟨Z, F, W, s, S⟩ := S
  exact Rp.dp d v (S.fz _ (List.mem_append_left _ hp)) (SeqAt.canLay_of_shaped c)
theorem Rp.dpT {v : V} {d : D} (r : Rp K H Z v d) (c : SeqAt.shaped d = true) : Dp K H v d := Rp.dp d v r (SeqAt.canLay_of_shaped c)
/-! ### looked at alone -/
theorem b_of (h : E X false false a ta wa) : Bo X a ta wa := by
  refine ⟨h.pe, ?_⟩
  intro H0 Z0 σ H e P PW k Q S hw q
  refine h.snd H0 Z0 σ H e P PW _ Q S hw fun v d e' H' he S' hk => ?_
  obtain ⟨rfl, sm⟩ := he rfl
  have S' : SR X.K H0 Z0 σ H' e' ((v, d) :: P) PW := S'
  obtain ⟨Z, r⟩ := S'.hd
  exact q v d H' sm S'.tl (Rp.keep (Kp.same (Same.refl _)) (fun _ _ => trivial) _ _ r) hk
def oOwnL (i : Nat) : Op D := Op.gt fun e => (getO e i).map .list
theorem b_own (i : Nat) {x : Str} {pos : Pos} (hN : X.N[i]? = some x := by rfl) (hv : Vis X.env.scope x := by first | exact Or.inl rfl | exact Or.inr (Or.inl rfl) | exact Or.inr (Or.inr rfl)) (hd : (x == ("__debug__" : Str)) = false := by decide)
    (hcd : (x == ("__classdict__" : Str)) = false := by decide) : Bo X (.Name x pos) (tVar i) (lift (oOwnL i)) := by
  refine ⟨pe_var hN hv hd hcd, ?_⟩
  rw [oOwnL, lift_gt]
  intro H0 Z0 σ H e P PW k Q S h q
  obtain ⟨d, g, hk⟩ := h
  obtain ⟨ds, h1, rfl⟩ := Option.map_eq_some_iff.mp g
  obtain ⟨a, vs, e1, e2, e3, S'⟩ := S.getO h1
  obtain ⟨Z, F, W, s, S'⟩ := S'
  have r := RpA.of_zip (K := X.K) (H := H) (Z := Z) e3 fun p hp => S'.fz p (List.mem_append_left _ (List.mem_append_left _ hp))
  exact ⟨_, e1, q _ _ H (Same.refl _) S (.lst e2 trivial (RpA.keep (Kp.same (Same.refl _)) (fun _ _ => trivial) _ _ r)) hk⟩
/-! ### == and != -/
theorem rp_same {H1 H2 : Hp} {v : V} {d : D} (r : Rp K H1 (fun _ => True) v d) (sm : Same H1 H2) : Rp K H2 (fun _ => True) v d := Rp.keep (Kp.same sm) (fun _ h => h) _ _ r
theorem snd_eqB {r : R2} {g : D → D → Option Bool} (s : ∀ {H : Hp} {x y : V} {d c : D} {z : Bool} {Q : VK}, (SeqAt.shaped d = true → Dp K H x d) → (SeqAt.shaped c = true → Dp K H y c) → g d c = some z → Q (.bl z) H → r x y H Q)
    (ha : SndB K ta wa) (hb : SndB K tb wb) : SndE K m false (tOp r ta tb) (wVal (wB2 g wa wb)) := by
  intro H0 Z0 σ H e P PW k Q S h q
  refine ha H0 Z0 σ H e P PW _ _ S h fun v d H1 sm1 S1 r1 h1 => ?_
  refine hb H0 Z0 σ H1 e P PW _ _ S1 h1 fun u c H2 sm2 S2 r2 h2 => ?_
  obtain ⟨z, hz, hk⟩ := h2
  exact s (fun sd => (rp_same r1 sm2).dpT sd) (fun sc => r2.dpT sc) hz (q _ _ e H2 (fun _ => ⟨rfl, sm1.trans sm2⟩) S2.bl hk)
theorem snd_eqBt {r : R2} {g : D → D → Option Bool} (s : ∀ {H : Hp} {x y : V} {d c : D} {z : Bool} {Q : VK}, (SeqAt.shaped d = true → Dp K H x d) → (SeqAt.shaped c = true → Dp K H y c) → g d c = some z → Q (.bl z) H → r x y H Q)
    (ha : SndB K ta wa) (hb : SndB K tb wb) : SndT K m (tTest (tOp r ta tb)) (wB2 g wa wb) := by
  intro H0 Z0 σ H e P PW k Q S h q
  refine ha H0 Z0 σ H e P PW _ _ S h fun v d H1 sm1 S1 r1 h1 => ?_
  refine hb H0 Z0 σ H1 e P PW _ _ S1 h1 fun u c H2 sm2 S2 r2 h2 => ?_
  obtain ⟨z, hz, hk⟩ := h2
  exact s (fun sd => (rp_same r1 sm2).dpT sd) (fun sc => r2.dpT sc) hz ⟨z, rfl, q z e H2 (fun _ => ⟨rfl, sm1.trans sm2⟩) S2 hk⟩
theorem eq_S {H : Hp} {x y : V} {d c : D} {z : Bool} {Q : VK} (h1 : SeqAt.shaped d = true → Dp K H x d) (h2 : SeqAt.shaped c = true → Dp K H y c) (g : eqD d c = some z) (q : Q (.bl z) H) : rEqD K x y H Q := by
  unfold eqD at g
  by_cases h : SeqAt.shaped d = true ∧ SeqAt.shaped c = true
  · rw [if_pos h] at g
    have g : PyData.eqv d c = z := Option.some.inj g
    subst g
    exact ⟨d, c, h1 h.1, h2 h.2, h.1, h.2, q⟩
  · rw [if_neg h] at g; cases g
theorem ne_S {H : Hp} {x y : V} {d c : D} {z : Bool} {Q : VK} (h1 : SeqAt.shaped d = true → Dp K H x d) (h2 : SeqAt.shaped c = true → Dp K H y c) (g : neD d c = some z) (q : Q (.bl z) H) : rNeD K x y H Q := by
  unfold neD eqD at g
  by_cases h : SeqAt.shaped d = true ∧ SeqAt.shaped c = true
  · rw [if_pos h] at g
    have g : (!PyData.eqv d c) = z := Option.some.inj g
    subst g
    exact ⟨d, c, h1 h.1, h2 h.2, h.1, h.2, q⟩
  · rw [if_neg h] at g; cases g
theorem t_eq {k : Nat} (hr : Room k X.A) (ha : Bo X a ta wa) (hb : Bo X b tb wb) (hmk : behindInMarks .Eq b = false := by first | exact nobehind _ (by decide) (by decide) | rfl) : T X m (.Compare a [.Eq] [b] pos) (tTest (tOp (rEqD X.K) ta tb)) (wB2 eqD wa wb) :=
  ⟨pt_cmpR (op_eqD hr.units) ha.pe hb.pe hmk, snd_eqBt eq_S ha.snd hb.snd⟩
theorem t_ne {k : Nat} (hr : Room k X.A) (ha : Bo X a ta wa) (hb : Bo X b tb wb) (hmk : behindInMarks .NotEq b = false := by first | exact nobehind _ (by decide) (by decide) | rfl) : T X m (.Compare a [.NotEq] [b] pos) (tTest (tOp (rNeD X.K) ta tb)) (wB2 neD wa wb) :=
  ⟨pt_cmpR (op_neD hr.units) ha.pe hb.pe hmk, snd_eqBt ne_S ha.snd hb.snd⟩
theorem e_eq {k : Nat} (hr : Room k X.A) (ha : Bo X a ta wa) (hb : Bo X b tb wb) (hmk : behindInMarks .Eq b = false := by first | exact nobehind _ (by decide) (by decide) | rfl) : E X m false (.Compare a [.Eq] [b] pos) (tOp (rEqD X.K) ta tb) (wVal (wB2 eqD wa wb)) :=
  ⟨pe_cmpR (op_eqD hr.units) ha.pe hb.pe hmk, snd_eqB eq_S ha.snd hb.snd⟩
theorem e_ne {k : Nat} (hr : Room k X.A) (ha : Bo X a ta wa) (hb : Bo X b tb wb) (hmk : behindInMarks .NotEq b = false := by first | exact nobehind _ (by decide) (by decide) | rfl) : E X m false (.Compare a [.NotEq] [b] pos) (tOp (rNeD X.K) ta tb) (wVal (wB2 neD wa wb)) :=
  ⟨pe_cmpR (op_neD hr.units) ha.pe hb.pe hmk, snd_eqB ne_S ha.snd hb.snd⟩
theorem dt_eq {k : Nat} (hr : Room k X.A) (ha : Bo X a ta (lift fa)) (hb : Bo X b tb (lift fb)) (hmk : behindInMarks .Eq b = false := by first | exact nobehind _ (by decide) (by decide) | rfl) : T X m (.Compare a [.Eq] [b] pos) (tTest (tOp (rEqD X.K) ta tb)) (lift (oB2 eqD fa fb)) := by
  rw [lift_B2]; exact t_eq hr ha hb hmk
theorem dt_ne {k : Nat} (hr : Room k X.A) (ha : Bo X a ta (lift fa)) (hb : Bo X b tb (lift fb)) (hmk : behindInMarks .NotEq b = false := by first | exact nobehind _ (by decide) (by decide) | rfl) : T X m (.Compare a [.NotEq] [b] pos) (tTest (tOp (rNeD X.K) ta tb)) (lift (oB2 neD fa fb)) := by
  rw [lift_B2]; exact t_ne hr ha hb hmk
theorem d_eq {k : Nat} (hr : Room k X.A) (ha : Bo X a ta (lift fa)) (hb : Bo X b tb (lift fb)) (hmk : behindInMarks .Eq b = false := by first | exact nobehind _ (by decide) (by decide) | rfl) : E X m false (.Compare a [.Eq] [b] pos) (tOp (rEqD X.K) ta tb) (lift (oVal (oB2 eqD fa fb))) := by
  rw [lift_Val, lift_B2]; exact e_eq hr ha hb hmk
theorem d_ne {k : Nat} (hr : Room k X.A) (ha : Bo X a ta (lift fa)) (hb : Bo X b tb (lift fb)) (hmk : behindInMarks .NotEq b = false := by first | exact nobehind _ (by decide) (by decide) | rfl) : E X m false (.Compare a [.NotEq] [b] pos) (tOp (rNeD X.K) ta tb) (lift (oVal (oB2 neD fa fb))) := by
  rw [lift_Val, lift_B2]; exact e_ne hr ha hb hmk
/-! ### in, not in -/
def rInTD (K : PySem.W.Frag) : R2 := fun x y H Q => ∃ d ds, Dp K H x d ∧ Dp K H y (.tuple ds) ∧ SeqAt.shaped d = true ∧ SeqAt.shaped (.tuple ds) = true ∧ Q (.bl (ds.any fun z => PyData.eqv z d)) H
def rNotInTD (K : PySem.W.Frag) : R2 := fun x y H Q => ∃ d ds, Dp K H x d ∧ Dp K H y (.tuple ds) ∧ SeqAt.shaped d = true ∧ SeqAt.shaped (.tuple ds) = true ∧ Q (.bl (!ds.any fun z => PyData.eqv z d)) H
theorem op_inTD (hu : X.A.units + 65 < cLine) : OpR X (compareOp .In) (rInTD X.K) := by
  intro pins s σ H x y v u Q I rx ry ⟨d, ds, hd, he, sd, se, q⟩
  obtain ⟨_, r1⟩ := Dp.reads I d x v hd rx
  obtain ⟨_, r2⟩ := Dp.reads I (.tuple ds) y u he ry
  have hroom : X.A.units + 1 + min (PyData.depthAll ds) d.depth < cLine := by
    have := SeqAt.depth_of_shaped sd
    have := Nat.min_le_right (PyData.depthAll ds) d.depth
    omega
  exact SeqAt.in_tuple_reads r2 r1 (by simpa [PyData.canLay0] using SeqAt.canLay_of_shaped se) (SeqAt.canLay_of_shaped sd) hroom ⟨.bl _, H, I, rfl, q⟩
theorem op_notInTD (hu : X.A.units + 65 < cLine) : OpR X (compareOp .NotIn) (rNotInTD X.K) := by
  intro pins s σ H x y v u Q I rx ry ⟨d, ds, hd, he, sd, se, q⟩
  obtain ⟨_, r1⟩ := Dp.reads I d x v hd rx
  obtain ⟨_, r2⟩ := Dp.reads I (.tuple ds) y u he ry
  have hroom : X.A.units + 1 + min (PyData.depthAll ds) d.depth < cLine := by
    have := SeqAt.depth_of_shaped sd
    have := Nat.min_le_right (PyData.depthAll ds) d.depth
    omega
  exact SeqAt.notIn_tuple_reads r2 r1 (by simpa [PyData.canLay0] using SeqAt.canLay_of_shaped se) (SeqAt.canLay_of_shaped sd) hroom ⟨.bl _, H, I, rfl, q⟩
/-- d in a sequence -/
def inD (d : D) (q : Bool × List D) : Option Bool := if SeqAt.shaped d = true ∧ SeqAt.shaped (.list q.2) = true then some (q.2.any fun z => PyData.eqv z d) else none
def notInD (d : D) (q : Bool × List D) : Option Bool := (inD d q).map (!·)
/-- the second operand a sequence that is read then -/
def wB2Q {β : Type} (g : D → Bool × List D → Option β) (wa : Wp D) (wb : Wp QV) : Wp β := Wp.bd wa fun x => Wp.bd wb fun q => Wp.gt fun e => (seqOf e q).bind (g x)
def oB2Q {β : Type} (g : D → Bool × List D → Option β) (fa : Op D) (fb : Op QV) : Op β := Op.bd fa fun x => Op.bd fb fun q => Op.gt fun e => (seqOf e q).bind (g x)
theorem lift_B2Q {β : Type} (g : D → Bool × List D → Option β) (fa : Op D) (fb : Op QV) : lift (oB2Q g fa fb) = wB2Q g (lift fa) (lift fb) := by
  simp only [oB2Q, wB2Q, lift_bd, lift_gt]
theorem shaped_tl (ds : List D) : SeqAt.shaped (.tuple ds) = SeqAt.shaped (.list ds) := by simp [SeqAt.shaped, PyData.canLay0, PyData.depth]
theorem in_S {rl rt : R2} {neg : Bool} (hl : ∀ {x y H Q d ds}, Dp K H x d → Dp K H y (.list ds) → SeqAt.shaped d = true → SeqAt.shaped (.list ds) = true → Q (.bl (neg ^^ ds.any fun z => PyData.eqv z d)) H → rl x y H Q)
    (ht : ∀ {x y H Q d ds}, Dp K H x d → Dp K H y (.tuple ds) → SeqAt.shaped d = true → SeqAt.shaped (.tuple ds) = true → Q (.bl (neg ^^ ds.any fun z => PyData.eqv z d)) H → rt x y H Q)
    {x y : V} {d : D} {q : QV} {z : Bool} {Q : VK} (S : SR K H0 Z0 σ H e (qP y q P) PW) (hB : Rp K H (fun _ => True) x d) (hq : qOk σ y q) (hz : (seqOf e q).bind (inD d) = some z) (k : Q (.bl (neg ^^ z)) H) : rl x y H Q ∨ rt x y H Q := by
  obtain ⟨⟨b, ds⟩, h1, h2⟩ := Option.bind_eq_some_iff.mp hz
  unfold inD at h2
  by_cases h : SeqAt.shaped d = true ∧ SeqAt.shaped (.list ds) = true
  · rw [if_pos h] at h2
    have h2 : (ds.any fun z => PyData.eqv z d) = z := Option.some.inj h2
    subst h2
    obtain ⟨a, vs, rfl, hl1, ht1, l, S'⟩ := SR.openQ (R := []) S hq h1
    have dx : Dp K H x d := hB.dpT h.1
    have cl : PyData.canLayAll0 ds = true := by simpa [PyData.canLay0] using SeqAt.canLay_of_shaped h.2
    obtain ⟨Z, F, W, s, S'⟩ := S'
    have da : DpAll K H vs ds := RpA.dp (Z := Z) ds vs (RpA.of_zip l fun p hp => S'.fz p (List.mem_append_left _ (List.mem_append_left _ hp))) cl
    cases b with
    | true => exact .inl (hl dx (.lst (SqL.of (hl1 rfl)) da) h.1 h.2 k)
    | false => exact .inr (ht dx (.tup (ht1 rfl).sqT da) h.1 (by rw [shaped_tl]; exact h.2) k)
  · rw [if_neg h] at h2; cases h2
theorem snd_in {r : R2} {g : D → Bool × List D → Option Bool} (hb : SndQ K false tb wq) (ha : SndB K ta wa)
    (s : ∀ {H0 Z0 σ H e P PW} {x y : V} {d : D} {q : QV} {z : Bool} {Q : VK}, SR K H0 Z0 σ H e (qP y q P) PW → Rp K H (fun _ => True) x d → qOk σ y q → (seqOf e q).bind (g d) = some z → Q (.bl z) H → r x y H Q) :
    SndE K m false (tOp r ta tb) (wVal (wB2Q g wa wq)) ∧ SndT K m (tTest (tOp r ta tb)) (wB2Q g wa wq) := by
  constructor
  · intro H0 Z0 σ H e P PW k Q S h q
    refine ha H0 Z0 σ H e P PW _ _ S h fun v d H1 sm1 S1 r1 h1 => ?_
    refine hb H0 Z0 σ H1 e P PW _ _ S1 h1 fun u c e2 H2 he2 hq S2 h2 => ?_
    obtain ⟨rfl, sm2⟩ := he2 rfl
    obtain ⟨z, hz, hk⟩ := h2
    refine s S2 (rp_same r1 sm2) hq hz (q _ _ _ H2 (fun _ => ⟨rfl, sm1.trans sm2⟩) ?_ hk)
    refine SR.bl (S2.subP fun p h => ?_)
    cases c with
    | inl i => exact h
    | inr d => exact List.mem_cons_of_mem _ h
  · intro H0 Z0 σ H e P PW k Q S h q
    refine ha H0 Z0 σ H e P PW _ _ S h fun v d H1 sm1 S1 r1 h1 => ?_
    refine hb H0 Z0 σ H1 e P PW _ _ S1 h1 fun u c e2 H2 he2 hq S2 h2 => ?_
    obtain ⟨rfl, sm2⟩ := he2 rfl
    obtain ⟨z, hz, hk⟩ := h2
    refine s S2 (rp_same r1 sm2) hq hz ⟨z, rfl, q z _ H2 (fun _ => ⟨rfl, sm1.trans sm2⟩) ?_ hk⟩
    refine S2.subP fun p h => ?_
    cases c with
    | inl i => exact h
    | inr d => exact List.mem_cons_of_mem _ h
def rInA (K : PySem.W.Frag) : R2 := fun x y H Q => rInD K x y H Q ∨ rInTD K x y H Q
def rNotInA (K : PySem.W.Frag) : R2 := fun x y H Q => rNotInD K x y H Q ∨ rNotInTD K x y H Q
theorem inA_S {x y : V} {d : D} {q : QV} {z : Bool} {Q : VK} (S : SR K H0 Z0 σ H e (qP y q P) PW) (hB : Rp K H (fun _ => True) x d) (hq : qOk σ y q) (hz : (seqOf e q).bind (inD d) = some z) (k : Q (.bl z) H) : rInA K x y H Q :=
  in_S (neg := false) (fun a b c d q => ⟨_, _, a, b, c, d, by simpa using q⟩) (fun a b c d q => ⟨_, _, a, b, c, d, by simpa using q⟩) S hB hq hz (by simpa using k)
theorem notInA_S {x y : V} {d : D} {q : QV} {z : Bool} {Q : VK} (S : SR K H0 Z0 σ H e (qP y q P) PW) (hB : Rp K H (fun _ => True) x d) (hq : qOk σ y q) (hz : (seqOf e q).bind (notInD d) = some z) (k : Q (.bl z) H) : rNotInA K x y H Q := by
  obtain ⟨b, h1, h2⟩ := Option.bind_eq_some_iff.mp hz
  obtain ⟨z', h3, rfl⟩ := Option.map_eq_some_iff.mp h2
  exact in_S (neg := true) (fun a b c d q => ⟨_, _, a, b, c, d, by simpa using q⟩) (fun a b c d q => ⟨_, _, a, b, c, d, by simpa using q⟩) S hB hq (z := z') (by rw [h1]; exact h3) (by simpa using k)
variable {wq : Wp QV} {fq : Op QV}
theorem units65 {k : Nat} (hr : Room k X.A) : X.A.units + 65 < cLine := by have := hr.un; omega
theorem t_in {k : Nat} (hr : Room k X.A) (ha : Bo X a ta wa) (hb : Sq X false b tb wq) (hmk : behindInMarks .In b = false := by rfl) : T X m (.Compare a [.In] [b] pos) (tTest (tOp (rInA X.K) ta tb)) (wB2Q inD wa wq) :=
  ⟨pt_cmpR ((op_inD (units65 hr)).or (op_inTD (units65 hr))) ha.pe hb.pe hmk, (snd_in hb.snd ha.snd inA_S).2⟩
theorem e_in {k : Nat} (hr : Room k X.A) (ha : Bo X a ta wa) (hb : Sq X false b tb wq) (hmk : behindInMarks .In b = false := by rfl) : E X m false (.Compare a [.In] [b] pos) (tOp (rInA X.K) ta tb) (wVal (wB2Q inD wa wq)) :=
  ⟨pe_cmpR ((op_inD (units65 hr)).or (op_inTD (units65 hr))) ha.pe hb.pe hmk, (snd_in hb.snd ha.snd inA_S).1⟩
theorem t_notin {k : Nat} (hr : Room k X.A) (ha : Bo X a ta wa) (hb : Sq X false b tb wq) (hmk : behindInMarks .NotIn b = false := by rfl) : T X m (.Compare a [.NotIn] [b] pos) (tTest (tOp (rNotInA X.K) ta tb)) (wB2Q notInD wa wq) :=
  ⟨pt_cmpR ((op_notInD (units65 hr)).or (op_notInTD (units65 hr))) ha.pe hb.pe hmk, (snd_in hb.snd ha.snd notInA_S).2⟩
theorem e_notin {k : Nat} (hr : Room k X.A) (ha : Bo X a ta wa) (hb : Sq X false b tb wq) (hmk : behindInMarks .NotIn b = false := by rfl) : E X m false (.Compare a [.NotIn] [b] pos) (tOp (rNotInA X.K) ta tb) (wVal (wB2Q notInD wa wq)) :=
  ⟨pe_cmpR ((op_notInD (units65 hr)).or (op_notInTD (units65 hr))) ha.pe hb.pe hmk, (snd_in hb.snd ha.snd notInA_S).1⟩
theorem dt_in {k : Nat} (hr : Room k X.A) (ha : Bo X a ta (lift fa)) (hb : Sq X false b tb (lift fq)) (hmk : behindInMarks .In b = false := by rfl) : T X m (.Compare a [.In] [b] pos) (tTest (tOp (rInA X.K) ta tb)) (lift (oB2Q inD fa fq)) := by
  rw [lift_B2Q]; exact t_in hr ha hb hmk
theorem d_in {k : Nat} (hr : Room k X.A) (ha : Bo X a ta (lift fa)) (hb : Sq X false b tb (lift fq)) (hmk : behindInMarks .In b = false := by rfl) : E X m false (.Compare a [.In] [b] pos) (tOp (rInA X.K) ta tb) (lift (oVal (oB2Q inD fa fq))) := by
  rw [lift_Val, lift_B2Q]; exact e_in hr ha hb hmk
theorem dt_notin {k : Nat} (hr : Room k X.A) (ha : Bo X a ta (lift fa)) (hb : Sq X false b tb (lift fq)) (hmk : behindInMarks .NotIn b = false := by rfl) : T X m (.Compare a [.NotIn] [b] pos) (tTest (tOp (rNotInA X.K) ta tb)) (lift (oB2Q notInD fa fq)) := by
  rw [lift_B2Q]; exact t_notin hr ha hb hmk
theorem d_notin {k : Nat} (hr : Room k X.A) (ha : Bo X a ta (lift fa)) (hb : Sq X false b tb (lift fq)) (hmk : behindInMarks .NotIn b = false := by rfl) : E X m false (.Compare a [.NotIn] [b] pos) (tOp (rNotInA X.K) ta tb) (lift (oVal (oB2Q notInD fa fq))) := by
  rw [lift_Val, lift_B2Q]; exact e_notin hr ha hb hmk

/-! ### tests -/
variable {tt tu : TT} {wt wu : Wp Bool} {ft fu : Op Bool} {rest : List Expr}
def tru : D → Option Bool
  | .bool b => some b
  | _ => none
theorem t_val (h : E X m false a ta wa) (he : ∀ whole, isTrue a X.env whole = (do let v ← whole; standAt a.pos; holding [v] (truthy v)) := by intro _; rfl) : T X m a (L2.tB ta) (wB1 tru wa) := by
  refine ⟨L2.pt_val h.pe he, ?_⟩
  intro H0 Z0 σ H e P PW k Q S hw q
  refine h.snd H0 Z0 σ H e P PW _ _ S hw fun v d e1 H1 he S1 h1 => ?_
  obtain ⟨z, hz, hk⟩ := h1
  cases d with
  | bool b =>
    have hz : b = z := Option.some.inj hz
    subst hz
    exact ⟨b, S1.hdBl, q _ e1 H1 he S1.tl hk⟩
  | _ => cases hz
theorem dt_val (h : E X m false a ta (lift fa)) (he : ∀ whole, isTrue a X.env whole = (do let v ← whole; standAt a.pos; holding [v] (truthy v)) := by intro _; rfl) : T X m a (L2.tB ta) (lift (oB1 tru fa)) := by
  rw [lift_B1]; exact t_val h he
def wNot (w : Wp Bool) : Wp Bool := Wp.bd w fun c => Wp.ret (!c)
def oNot (w : Op Bool) : Op Bool := Op.bd w fun c => Op.ret (!c)
theorem lift_Not (f : Op Bool) : lift (oNot f) = wNot (lift f) := by simp only [oNot, wNot, lift_bd, lift_ret]
theorem t_not (h : T X m a tt wt) : T X m (.UnaryOp .Not a pos) (tNot tt) (wNot wt) :=
  ⟨pt_not h.pt, fun H0 Z0 σ H e P PW k Q S hw q => h.snd H0 Z0 σ H e P PW _ _ S hw fun c e1 H1 he S1 h1 => q _ e1 H1 he S1 h1⟩
theorem dt_not (h : T X m a tt (lift ft)) : T X m (.UnaryOp .Not a pos) (tNot tt) (lift (oNot ft)) := by rw [lift_Not]; exact t_not h
def wAnd (w u : Wp Bool) : Wp Bool := Wp.bd w fun c => if c = true then u else Wp.ret false
def wOr (w u : Wp Bool) : Wp Bool := Wp.bd w fun c => if c = true then Wp.ret true else u
def oAnd (w u : Op Bool) : Op Bool := Op.bd w fun c => if c = true then u else Op.ret false
def oOr (w u : Op Bool) : Op Bool := Op.bd w fun c => if c = true then Op.ret true else u
theorem lift_And (f g : Op Bool) : lift (oAnd f g) = wAnd (lift f) (lift g) := by simp only [oAnd, wAnd, lift_bd, lift_ret, lift_ite]
theorem lift_Or (f g : Op Bool) : lift (oOr f g) = wOr (lift f) (lift g) := by simp only [oOr, wOr, lift_bd, lift_ret, lift_ite]
theorem t_w (h : TW X m a tt wt) : T X m a tt wt := ⟨h.pt.pt, h.snd⟩
theorem tw_and1 (h : T X m a tt wt) : TW X m (.BoolOp .And [a] pos) tt wt := ⟨pw_and1 h.pt, h.snd⟩
theorem tw_or1 (h : T X m a tt wt) : TW X m (.BoolOp .Or [a] pos) tt wt := ⟨pw_or1 h.pt, h.snd⟩
theorem tw_and (h : T X m a tt wt) (g : TW X m (.BoolOp .And (b :: rest) pos) tu wu) : TW X m (.BoolOp .And (a :: b :: rest) pos) (tAnd tt tu) (wAnd wt wu) := by
  refine ⟨pw_and h.pt g.pt, ?_⟩
  intro H0 Z0 σ H e P PW k Q S hw q
  refine h.snd H0 Z0 σ H e P PW _ _ S hw fun c e1 H1 he S1 h1 => ?_
  cases c with
  | true => exact iteT (g.snd H0 Z0 σ H1 e1 P PW _ _ S1 (by simpa using h1) fun c e2 H2 he2 S2 h2 => q c e2 H2 (mf he he2) S2 h2)
  | false => exact iteF (q false e1 H1 he S1 (by simpa [Wp.ret] using h1))
theorem tw_or (h : T X m a tt wt) (g : TW X m (.BoolOp .Or (b :: rest) pos) tu wu) : TW X m (.BoolOp .Or (a :: b :: rest) pos) (tOr tt tu) (wOr wt wu) := by
  refine ⟨pw_or h.pt g.pt, ?_⟩
  intro H0 Z0 σ H e P PW k Q S hw q
  refine h.snd H0 Z0 σ H e P PW _ _ S hw fun c e1 H1 he S1 h1 => ?_
  cases c with
  | false => exact iteF (g.snd H0 Z0 σ H1 e1 P PW _ _ S1 (by simpa using h1) fun c e2 H2 he2 S2 h2 => q c e2 H2 (mf he he2) S2 h2)
  | true => exact iteT (q true e1 H1 he S1 (by simpa [Wp.ret] using h1))
theorem dtw_and1 (h : T X m a tt (lift ft)) : TW X m (.BoolOp .And [a] pos) tt (lift ft) := tw_and1 h
theorem dtw_or1 (h : T X m a tt (lift ft)) : TW X m (.BoolOp .Or [a] pos) tt (lift ft) := tw_or1 h
theorem dtw_and (h : T X m a tt (lift ft)) (g : TW X m (.BoolOp .And (b :: rest) pos) tu (lift fu)) : TW X m (.BoolOp .And (a :: b :: rest) pos) (tAnd tt tu) (lift (oAnd ft fu)) := by rw [lift_And]; exact tw_and h g
theorem dtw_or (h : T X m a tt (lift ft)) (g : TW X m (.BoolOp .Or (b :: rest) pos) tu (lift fu)) : TW X m (.BoolOp .Or (a :: b :: rest) pos) (tOr tt tu) (lift (oOr ft fu)) := by rw [lift_Or]; exact tw_or h g
/-! .. as values -/
def wAndV (w u : Wp D) : Wp D := Wp.bd w fun x => Wp.bd (Wp.gt fun _ => tru x) fun c => if c = true then u else Wp.ret (.bool false)
def wOrV (w u : Wp D) : Wp D := Wp.bd w fun x => Wp.bd (Wp.gt fun _ => tru x) fun c => if c = true then Wp.ret (.bool true) else u
def wNotV (w : Wp D) : Wp D := Wp.bd w fun x => Wp.bd (Wp.gt fun _ => tru x) fun c => Wp.ret (.bool (!c))
def oAndV (w u : Op D) : Op D := Op.bd w fun x => Op.bd (Op.gt fun _ => tru x) fun c => if c = true then u else Op.ret (.bool false)
def oOrV (w u : Op D) : Op D := Op.bd w fun x => Op.bd (Op.gt fun _ => tru x) fun c => if c = true then Op.ret (.bool true) else u
def oNotV (w : Op D) : Op D := Op.bd w fun x => Op.bd (Op.gt fun _ => tru x) fun c => Op.ret (.bool (!c))
theorem lift_AndV (f g : Op D) : lift (oAndV f g) = wAndV (lift f) (lift g) := by simp only [oAndV, wAndV, lift_bd, lift_ret, lift_gt, lift_ite]
theorem lift_OrV (f g : Op D) : lift (oOrV f g) = wOrV (lift f) (lift g) := by simp only [oOrV, wOrV, lift_bd, lift_ret, lift_gt, lift_ite]
theorem lift_NotV (f : Op D) : lift (oNotV f) = wNotV (lift f) := by simp only [oNotV, wNotV, lift_bd, lift_ret, lift_gt]
theorem e_one {op : BoolOp} (h : E X m false a ta wa) : E X m false (.BoolOp op [a] pos) ta wa := ⟨pe_one h.pe, h.snd⟩
theorem tru_bl {d : D} {z : Bool} (h : tru d = some z) : d = .bool z := by
  cases d with
  | bool b => rw [Option.some.inj h]
  | _ => cases h
theorem e_and (h : E X m false a ta wa) (g : E X m false (.BoolOp .And (b :: rest) pos) tb wb) : E X m false (.BoolOp .And (a :: b :: rest) pos) (tAndV ta tb) (wAndV wa wb) := by
  refine ⟨pe_and h.pe g.pe, ?_⟩
  intro H0 Z0 σ H e P PW k Q S hw q
  refine h.snd H0 Z0 σ H e P PW _ _ S hw fun v d e1 H1 he S1 h1 => ?_
  obtain ⟨z, hz, h1⟩ := h1
  obtain rfl := tru_bl hz
  refine ⟨z, S1.hdBl, ?_⟩
  cases z with
  | true => exact iteT (g.snd H0 Z0 σ H1 e1 P PW _ _ S1.tl (by simpa using h1) fun v d e2 H2 he2 S2 h2 => q v d e2 H2 (mf he he2) S2 h2)
  | false => exact iteF (q _ _ e1 H1 he S1.tl.bl (by simpa [Wp.ret] using h1))
theorem e_or (h : E X m false a ta wa) (g : E X m false (.BoolOp .Or (b :: rest) pos) tb wb) : E X m false (.BoolOp .Or (a :: b :: rest) pos) (tOrV ta tb) (wOrV wa wb) := by
  refine ⟨pe_or h.pe g.pe, ?_⟩
  intro H0 Z0 σ H e P PW k Q S hw q
  refine h.snd H0 Z0 σ H e P PW _ _ S hw fun v d e1 H1 he S1 h1 => ?_
  obtain ⟨z, hz, h1⟩ := h1
  obtain rfl := tru_bl hz
  refine ⟨z, S1.hdBl, ?_⟩
  cases z with
  | false => exact iteF (g.snd H0 Z0 σ H1 e1 P PW _ _ S1.tl (by simpa using h1) fun v d e2 H2 he2 S2 h2 => q v d e2 H2 (mf he he2) S2 h2)
  | true => exact iteT (q _ _ e1 H1 he S1.tl.bl (by simpa [Wp.ret] using h1))
theorem e_not (h : E X m false a ta wa) : E X m false (.UnaryOp .Not a pos) (tNotV ta) (wNotV wa) := by
  refine ⟨pe_not h.pe, ?_⟩
  intro H0 Z0 σ H e P PW k Q S hw q
  refine h.snd H0 Z0 σ H e P PW _ _ S hw fun v d e1 H1 he S1 h1 => ?_
  obtain ⟨z, hz, h1⟩ := h1
  obtain rfl := tru_bl hz
  exact ⟨z, S1.hdBl, q _ _ e1 H1 he S1.tl.bl h1⟩
theorem d_and (h : E X m false a ta (lift fa)) (g : E X m false (.BoolOp .And (b :: rest) pos) tb (lift fb)) : E X m false (.BoolOp .And (a :: b :: rest) pos) (tAndV ta tb) (lift (oAndV fa fb)) := by rw [lift_AndV]; exact e_and h g
theorem d_or (h : E X m false a ta (lift fa)) (g : E X m false (.BoolOp .Or (b :: rest) pos) tb (lift fb)) : E X m false (.BoolOp .Or (a :: b :: rest) pos) (tOrV ta tb) (lift (oOrV fa fb)) := by rw [lift_OrV]; exact e_or h g
theorem d_not (h : E X m false a ta (lift fa)) : E X m false (.UnaryOp .Not a pos) (tNotV ta) (lift (oNotV fa)) := by rw [lift_NotV]; exact e_not h
/-! a if c else b -/
def wIf {α : Type} (c : Wp Bool) (w u : Wp α) : Wp α := Wp.bd c fun c => if c = true then w else u
def oIf {α : Type} (c : Op Bool) (w u : Op α) : Op α := Op.bd c fun c => if c = true then w else u
theorem lift_If {α : Type} (c : Op Bool) (f g : Op α) : lift (oIf c f g) = wIf (lift c) (lift f) (lift g) := by simp only [oIf, wIf, lift_bd, lift_ite]
theorem e_if (hc : T X m c tt wt) (ha : E X m o a ta wa) (hb : E X m o b tb wb) : E X m o (.IfExp c a b pos) (tIf tt ta tb) (wIf wt wa wb) := by
  refine ⟨pe_ifExp hc.pt ha.pe hb.pe, ?_⟩
  intro H0 Z0 σ H e P PW k Q S hw q
  refine hc.snd H0 Z0 σ H e P PW _ _ S hw fun z e1 H1 he S1 h1 => ?_
  cases z with
  | true => exact iteT (ha.snd H0 Z0 σ H1 e1 P PW _ _ S1 (by simpa using h1) fun v d e2 H2 he2 S2 h2 => q v d e2 H2 (mf he he2) S2 h2)
  | false => exact iteF (hb.snd H0 Z0 σ H1 e1 P PW _ _ S1 (by simpa using h1) fun v d e2 H2 he2 S2 h2 => q v d e2 H2 (mf he he2) S2 h2)
theorem d_if (hc : T X m c tt (lift ft)) (ha : E X m o a ta (lift fa)) (hb : E X m o b tb (lift fb)) : E X m o (.IfExp c a b pos) (tIf tt ta tb) (lift (oIf ft fa fb)) := by rw [lift_If]; exact e_if hc ha hb
/-! a <= b <= c -/
def wCh (g h : D → D → Option Bool) (wa wb wc : Wp D) : Wp Bool := Wp.bd wa fun x => Wp.bd wb fun y => Wp.bd (Wp.gt fun _ => g x y) fun k => if k = true then Wp.bd wc fun z => Wp.gt fun _ => h y z else Wp.ret false
def oCh (g h : D → D → Option Bool) (wa wb wc : Op D) : Op Bool := Op.bd wa fun x => Op.bd wb fun y => Op.bd (Op.gt fun _ => g x y) fun k => if k = true then Op.bd wc fun z => Op.gt fun _ => h y z else Op.ret false
theorem lift_Ch (g h : D → D → Option Bool) (fa fb fc : Op D) : lift (oCh g h fa fb fc) = wCh g h (lift fa) (lift fb) (lift fc) := by simp only [oCh, wCh, lift_bd, lift_gt, lift_ret, lift_ite]
theorem snd_ch {r r' : R2} {g h : D → D → Option Bool} (s : CmS K r g) (s' : CmS K r' h) (ha : SndE K m false ta wa) (hb : SndE K m false tb wb) (hc : SndE K m false tc wc) {k : Bool → Sto → Prop} {Q : VK}
    (S : SR K H0 Z0 σ H e P PW) (hw : wCh g h wa wb wc e k) (q : ∀ c e' H', (m = false → e' = e ∧ Same H H') → SR K H0 Z0 σ H' e' P PW → k c e' → Q (.bl c) H') : tChain r r' ta tb tc σ H Q := by
  refine ha H0 Z0 σ H e P PW _ _ S hw fun v d e1 H1 he S1 h1 => ?_
  refine hb H0 Z0 σ H1 e1 _ PW _ _ S1 h1 fun u c e2 H2 he2 S2 h2 => ?_
  obtain ⟨z, hz, hk⟩ := h2
  refine s S2 hz ⟨z, rfl, ?_⟩
  cases z with
  | false => exact iteF (q false e2 H2 (mf he he2) S2.tl2 (by simpa [Wp.ret] using hk))
  | true =>
    have hk2 : (Wp.bd wc fun z => Wp.gt fun _ => h c z) e2 k := hk
    refine iteT (hc H0 Z0 σ H2 e2 _ PW _ _ S2 hk2 fun u' c' e3 H3 he3 S3 h3 => ?_)
    obtain ⟨z', hz', hk'⟩ := h3
    refine s' (S3.subP (P' := (u', c') :: (u, c) :: P) fun p hp => ?_) hz' (q z' e3 H3 (mf (mf he he2) he3) (S3.subP fun p hp => List.mem_cons_of_mem _ (List.mem_cons_of_mem _ (List.mem_cons_of_mem _ hp))) hk')
    rcases List.mem_cons.mp hp with hp | hp
    · exact hp ▸ List.mem_cons_self
    · rcases List.mem_cons.mp hp with hp | hp
      · exact hp ▸ List.mem_cons_of_mem _ List.mem_cons_self
      · exact List.mem_cons_of_mem _ (List.mem_cons_of_mem _ (List.mem_cons_of_mem _ hp))
theorem t_ch {op op' : CmpOp} {r r' : R2} {g h : D → D → Option Bool} (ho : OpR X (compareOp op) r) (ho' : OpR X (compareOp op') r') (s : CmS X.K r g) (s' : CmS X.K r' h) (ha : E X m false a ta wa) (hb : E X m false b tb wb) (hc : E X m false c tc wc)
    (hmk : lastMarks [op, op'] [b, c] = false := by with_unfolding_all rfl) : T X m (.Compare a [op, op'] [b, c] pos) (tTest (tChain r r' ta tb tc)) (wCh g h wa wb wc) :=
  ⟨pt_chain ho ho' ha.pe hb.pe hc.pe hmk, fun H0 Z0 σ H e P PW k Q S hw q => snd_ch s s' ha.snd hb.snd hc.snd S hw fun c e' H' he S' hk => ⟨c, rfl, q c e' H' he S' hk⟩⟩
theorem e_ch {op op' : CmpOp} {r r' : R2} {g h : D → D → Option Bool} (ho : OpR X (compareOp op) r) (ho' : OpR X (compareOp op') r') (s : CmS X.K r g) (s' : CmS X.K r' h) (ha : E X m false a ta wa) (hb : E X m false b tb wb) (hc : E X m false c tc wc)
    (hmk : lastMarks [op, op'] [b, c] = false := by with_unfolding_all rfl) : E X m false (.Compare a [op, op'] [b, c] pos) (tChain r r' ta tb tc) (wVal (wCh g h wa wb wc)) :=
  ⟨pe_chain ho ho' ha.pe hb.pe hc.pe hmk, fun H0 Z0 σ H e P PW k Q S hw q => snd_ch s s' ha.snd hb.snd hc.snd S hw fun c e' H' he S' hk => q _ _ e' H' he S'.bl hk⟩
theorem dt_ch {op op' : CmpOp} {r r' : R2} {g h : D → D → Option Bool} (ho : OpR X (compareOp op) r) (ho' : OpR X (compareOp op') r') (s : CmS X.K r g) (s' : CmS X.K r' h) (ha : E X m false a ta (lift fa)) (hb : E X m false b tb (lift fb)) (hc : E X m false c tc (lift fc))
    (hmk : lastMarks [op, op'] [b, c] = false := by with_unfolding_all rfl) : T X m (.Compare a [op, op'] [b, c] pos) (tTest (tChain r r' ta tb tc)) (lift (oCh g h fa fb fc)) := by
  rw [lift_Ch]; exact t_ch ho ho' s s' ha hb hc hmk
theorem d_ch {op op' : CmpOp} {r r' : R2} {g h : D → D → Option Bool} (ho : OpR X (compareOp op) r) (ho' : OpR X (compareOp op') r') (s : CmS X.K r g) (s' : CmS X.K r' h) (ha : E X m false a ta (lift fa)) (hb : E X m false b tb (lift fb)) (hc : E X m false c tc (lift fc))
    (hmk : lastMarks [op, op'] [b, c] = false := by with_unfolding_all rfl) : E X m false (.Compare a [op, op'] [b, c] pos) (tChain r r' ta tb tc) (lift (oVal (oCh g h fa fb fc))) := by
  rw [lift_Val, lift_Ch]; exact e_ch ho ho' s s' ha hb hc hmk
end
end Vl
/-! The value layer, 6: arguments, displays, built-in calls of one sequence, items, slices. -/
namespace Vl
open PySem PySem.Spec PyProof.Rows L2
section
variable {K : PySem.W.Frag} {H H' H0 : Hp} {Z Z' Z0 : Addr → Prop} {σ : L2.St} {e e' : Sto} {P P' : List (V × D)} {PW : List (Addr × List D)}
variable {X : Cx} {m m2 o : Bool} {a b c : Expr} {es : List Expr} {ta tb tc : TE} {t : TA} {wa wb wc : Wp D} {fa fb fc : Op D} {w : Wp (List D)} {f : Op (List D)} {wq : Wp QV} {fq : Op QV} {pos p p2 : Pos} {x : Str} {id : String}
/-! ### arguments -/
def wCons (w : Wp D) (u : Wp (List D)) : Wp (List D) := Wp.bd w fun x => Wp.bd u fun xs => Wp.ret (x :: xs)
def oCons (w : Op D) (u : Op (List D)) : Op (List D) := Op.bd w fun x => Op.bd u fun xs => Op.ret (x :: xs)
theorem lift_Cons (f : Op D) (g : Op (List D)) : lift (oCons f g) = wCons (lift f) (lift g) := by simp only [oCons, wCons, lift_bd, lift_ret]
theorem as_nil : As X m [] tNil (Wp.ret []) := ⟨pa_nil, fun H0 Z0 σ H e P PW k Q S h q => q [] [] e H (fun _ => ⟨rfl, Same.refl _⟩) rfl S h⟩
theorem as_cons (ha : E X m false a ta wa) (hs : As X m es t w) (hst : starEach (a :: es) X.env = (false, eval a X.env) :: starEach es X.env := by rfl) : As X m (a :: es) (tCons ta t) (wCons wa w) := by
  refine ⟨pa_cons ha.pe hs.pa hst, ?_⟩
  intro H0 Z0 σ H e P PW k Q S h q
  refine ha.snd H0 Z0 σ H e P PW _ _ S h fun v d e1 H1 he S1 h1 => ?_
  refine hs.snd H0 Z0 σ H1 e1 _ PW _ _ S1 h1 fun vs ds e2 H2 he2 hl S2 h2 => ?_
  refine q (v :: vs) (d :: ds) e2 H2 (mf he he2) (by rw [List.length_cons, List.length_cons, hl]) (S2.subP fun r hr => ?_) h2
  rw [List.zip_cons_cons, List.cons_append] at hr
  rcases List.mem_cons.mp hr with hr | hr
  · exact hr ▸ List.mem_append_right _ List.mem_cons_self
  · rcases List.mem_append.mp hr with hr | hr
    · exact List.mem_append_left _ hr
    · exact List.mem_append_right _ (List.mem_cons_of_mem _ hr)
theorem ds_nil : As X m [] tNil (lift (Op.ret [])) := by rw [lift_ret]; exact as_nil
theorem ds_cons (ha : E X m false a ta (lift fa)) (hs : As X m es t (lift f)) (hst : starEach (a :: es) X.env = (false, eval a X.env) :: starEach es X.env := by rfl) : As X m (a :: es) (tCons ta t) (lift (oCons fa f)) := by
  rw [lift_Cons]; exact as_cons ha hs hst
/-! looked at alone -/
theorem ab_nil : Abs X [] tNil (Wp.ret []) := ⟨pa_nil, fun H0 Z0 σ H e P PW k Q S h q => q [] [] H (Same.refl _) S .nil h⟩
theorem RpA.same {H1 H2 : Hp} {vs : List V} {ds : List D} (r : RpA K H1 (fun _ => True) vs ds) (sm : Same H1 H2) : RpA K H2 (fun _ => True) vs ds := RpA.keep (Kp.same sm) (fun _ h => h) _ _ r
theorem ab_cons (ha : Bo X a ta wa) (hs : Abs X es t w) (hst : starEach (a :: es) X.env = (false, eval a X.env) :: starEach es X.env := by rfl) : Abs X (a :: es) (tCons ta t) (wCons wa w) := by
  refine ⟨pa_cons ha.pe hs.pa hst, ?_⟩
  intro H0 Z0 σ H e P PW k Q S h q
  refine ha.snd H0 Z0 σ H e P PW _ _ S h fun v d H1 sm S1 r1 h1 => ?_
  refine hs.snd H0 Z0 σ H1 e P PW _ _ S1 h1 fun vs ds H2 sm2 S2 r2 h2 => ?_
  exact q (v :: vs) (d :: ds) H2 (sm.trans sm2) S2 (.cons (rp_same r1 sm2) r2) h2
theorem dab_nil : Abs X [] tNil (lift (Op.ret [])) := by rw [lift_ret]; exact ab_nil
theorem dab_cons (ha : Bo X a ta (lift fa)) (hs : Abs X es t (lift f)) (hst : starEach (a :: es) X.env = (false, eval a X.env) :: starEach es X.env := by rfl) : Abs X (a :: es) (tCons ta t) (lift (oCons fa f)) := by
  rw [lift_Cons]; exact ab_cons ha hs hst
/-! ### displays -/
def mkT (ds : List D) : Option D := if ds.length ≤ lim then some (.tuple ds) else none
def mkL (ds : List D) : Option D := if ds.length ≤ lim then some (.list ds) else none
theorem mkT_some {ds : List D} {z : D} (h : mkT ds = some z) : ds.length ≤ lim ∧ z = .tuple ds := by
  unfold mkT at h
  by_cases hl : ds.length ≤ lim
  · rw [if_pos hl] at h; exact ⟨hl, (Option.some.inj h).symm⟩
  · rw [if_neg hl] at h; cases h
theorem mkL_some {ds : List D} {z : D} (h : mkL ds = some z) : ds.length ≤ lim ∧ z = .list ds := by
  unfold mkL at h
  by_cases hl : ds.length ≤ lim
  · rw [if_pos hl] at h; exact ⟨hl, (Option.some.inj h).symm⟩
  · rw [if_neg hl] at h; cases h
theorem e_tup {x1} (h : As X m es t w) : E X m false (.Tuple es x1 pos) (tTupN t) (wB1 mkT w) := by
  refine ⟨pe_tupN h.pa, ?_⟩
  intro H0 Z0 σ H e P PW k Q S hw q
  refine h.snd H0 Z0 σ H e P PW _ _ S hw fun vs ds e1 H1 he hl S1 h1 => ?_
  obtain ⟨z, hz, hk⟩ := h1
  obtain ⟨hle, rfl⟩ := mkT_some hz
  exact ⟨by rw [hl]; exact lim_le hle, fun p ob np hd => q _ _ e1 _ (mf1 he (same_upd np)) (S1.tup hl np hd) hk⟩
theorem e_lst (h : As X m es t w) : E X m true (.List es pos) (tLst t) (wB1 mkL w) := by
  refine ⟨pe_lst h.pa, ?_⟩
  intro H0 Z0 σ H e P PW k Q S hw q
  refine h.snd H0 Z0 σ H e P PW _ _ S hw fun vs ds e1 H1 he hl S1 h1 => ?_
  obtain ⟨z, hz, hk⟩ := h1
  obtain ⟨hle, rfl⟩ := mkL_some hz
  exact ⟨by rw [hl]; exact lim_le hle, fun p np => q _ _ e1 _ (mf1 he (same_upd np)) ⟨p, ds, rfl, rfl, S1.lst hl np⟩ hk⟩
theorem d_tup {x1} (h : As X m es t (lift f)) : E X m false (.Tuple es x1 pos) (tTupN t) (lift (oB1 mkT f)) := by rw [lift_B1]; exact e_tup h
theorem d_lst (h : As X m es t (lift f)) : E X m true (.List es pos) (tLst t) (lift (oB1 mkL f)) := by rw [lift_B1]; exact e_lst h
/-- a display that is looked at alone -/
theorem b_lst (h : Abs X es t w) : Bo X (.List es pos) (tLst t) (wB1 mkL w) := by
  refine ⟨pe_lst h.pa, ?_⟩
  intro H0 Z0 σ H e P PW k Q S hw q
  refine h.snd H0 Z0 σ H e P PW _ _ S hw fun vs ds H1 sm1 S1 r1 h1 => ?_
  obtain ⟨z, hz, hk⟩ := h1
  obtain ⟨hle, rfl⟩ := mkL_some hz
  refine ⟨by rw [r1.length]; exact lim_le hle, fun p np => ?_⟩
  have sm : Same H1 (upd H1 p (.lst vs)) := same_upd np
  exact q _ _ _ (sm1.trans sm) (S1.grow sm) (.lst upd_same trivial (r1.same sm)) hk
theorem b_tup {x1} (h : Abs X es t w) : Bo X (.Tuple es x1 pos) (tTupN t) (wB1 mkT w) := by
  refine ⟨pe_tupN h.pa, ?_⟩
  intro H0 Z0 σ H e P PW k Q S hw q
  refine h.snd H0 Z0 σ H e P PW _ _ S hw fun vs ds H1 sm1 S1 r1 h1 => ?_
  obtain ⟨z, hz, hk⟩ := h1
  obtain ⟨hle, rfl⟩ := mkT_some hz
  refine ⟨by rw [r1.length]; exact lim_le hle, fun p ob np hd => ?_⟩
  have sm : Same H1 (upd H1 p (.frz ob (.tup vs))) := same_upd np
  exact q _ _ _ (sm1.trans sm) (S1.grow sm) (.tup (.inl ⟨ob, upd_same, hd⟩) (r1.same sm)) hk
theorem db_lst (h : Abs X es t (lift f)) : Bo X (.List es pos) (tLst t) (lift (oB1 mkL f)) := by rw [lift_B1]; exact b_lst h
theorem db_tup {x1} (h : Abs X es t (lift f)) : Bo X (.Tuple es x1 pos) (tTupN t) (lift (oB1 mkT f)) := by rw [lift_B1]; exact b_tup h

/-! ### calls of one sequence -/
def wQ1 {α : Type} (g : Bool × List D → Option α) (wq : Wp QV) : Wp α := Wp.bd wq fun q => Wp.gt fun e => (seqOf e q).bind g
def oQ1 {α : Type} (g : Bool × List D → Option α) (fq : Op QV) : Op α := Op.bd fq fun q => Op.gt fun e => (seqOf e q).bind g
theorem lift_Q1 {α : Type} (g : Bool × List D → Option α) (f : Op QV) : lift (oQ1 g f) = wQ1 g (lift f) := by simp only [oQ1, wQ1, lift_bd, lift_gt]
/-- what a call of one sequence does -/
def Q1S (K : PySem.W.Frag) (o : Bool) (r : List V → Hp → VK → Prop) (g : Bool × List D → Option D) : Prop :=
  ∀ {H0 : Hp} {Z0 : Addr → Prop} {σ : L2.St} {H : Hp} {e : Sto} {P : List (V × D)} {PW : List (Addr × List D)} {a : Addr} {vs : List V} {k : Bool} {ds : List D} {z : D} {Q : VK},
    (k = true → H a = some (.lst vs)) → (k = false → TupOk K H a vs) → vs.length = ds.length → SR K H0 Z0 σ H e (vs.zip ds ++ P) PW → (k = false → SR K H0 Z0 σ H e ((.ref a, .tuple ds) :: P) PW) → g (k, ds) = some z → (∀ v H', Same H H' → SRo K H0 Z0 σ H' e o v z P PW → Q v H') → r [.ref a] H Q
theorem SRo.subP {v : V} {d : D} (S : SRo K H0 Z0 σ H e o v d P PW) (h : ∀ p ∈ P', p ∈ P) : SRo K H0 Z0 σ H e o v d P' PW := by
  cases o with
  | false =>
    have S : SR K H0 Z0 σ H e ((v, d) :: P) PW := S
    exact S.subP fun p hp => (List.mem_cons.mp hp).elim (fun z => z ▸ List.mem_cons_self) fun z => List.mem_cons_of_mem _ (h p z)
  | true =>
    obtain ⟨a, ds, e1, e2, S⟩ := S
    exact ⟨a, ds, e1, e2, S.subP h⟩
theorem qP_sub {v : V} {q : QV} : ∀ p ∈ P, p ∈ qP v q P := fun p h => by
  cases q with
  | inl i => exact h
  | inr d => exact List.mem_cons_of_mem _ h
theorem snd_q1 {r : List V → Hp → VK → Prop} {g : Bool × List D → Option D} (s : Q1S K o r g) (hq : SndQ K m ta wq) : SndE K m o (tCB r (tCons ta tNil)) (wQ1 g wq) := by
  intro H0 Z0 σ H e P PW k Q S h q
  refine hq H0 Z0 σ H e P PW _ _ S h fun v u e1 H1 he ho S1 h1 => ?_
  obtain ⟨z, hz, hk⟩ := h1
  obtain ⟨⟨kd, ds⟩, h2, h3⟩ := Option.bind_eq_some_iff.mp hz
  obtain ⟨a, vs, rfl, hl, ht, l, S2⟩ := SR.openQ (R := []) S1 ho h2
  refine s hl ht l S2 (fun hk => ?_) h3 fun v' H' sm S3 => q v' z e1 H' (mf1 he sm) (S3.subP fun p hp => qP_sub p hp) hk
  subst hk
  cases u with
  | inl i =>
    obtain ⟨x, _, e2⟩ := Option.map_eq_some_iff.mp (show (getO e1 i).map _ = some (false, ds) from h2)
    cases e2
  | inr d =>
    cases d with
    | tuple ds' =>
      have e2 : ds' = ds := (Prod.mk.inj (Option.some.inj (show some (false, ds') = some (false, ds) from h2))).2
      subst e2
      exact S1.subP fun p hp => (List.mem_cons.mp hp).elim (fun z => z ▸ List.mem_cons_self) fun z => z
    | list ds' => exact absurd (Prod.mk.inj (Option.some.inj (show some (true, ds') = some (false, ds) from h2))).1 (by decide)
    | none => exact (nomatch (show (none : Option (Bool × List D)) = some (false, ds) from h2))
    | bool _ => exact (nomatch (show (none : Option (Bool × List D)) = some (false, ds) from h2))
    | int _ => exact (nomatch (show (none : Option (Bool × List D)) = some (false, ds) from h2))
    | str _ => exact (nomatch (show (none : Option (Bool × List D)) = some (false, ds) from h2))
    | dict _ => exact (nomatch (show (none : Option (Bool × List D)) = some (false, ds) from h2))
theorem e_q1B {r : List V → Hp → VK → Prop} {g : Bool × List D → Option D} (hc : CallR X (.builtin id) r) (s : Q1S X.K o r g) (hv : bootBuiltins x = some (.builtin id)) (hg : Gl X x) (hm : X.mg x = none) (hq : Sq X m a ta wq) (hn : x ≠ "__name__" := by decide) (hdb : (x == ("__debug__" : Str)) = false := by decide)
    (hst : starEach [a] X.env = (false, eval a X.env) :: starEach [] X.env := by rfl) : E X m o (.Call (.Name x p) [a] [] pos) (tCB r (tCons ta tNil)) (wQ1 g wq) :=
  ⟨pe_callB hc hg hm hv (pa_cons hq.pe pa_nil hst) hn hdb hst, snd_q1 s hq.snd⟩
theorem e_q1T {r : List V → Hp → VK → Prop} {g : Bool × List D → Option D} (hc : CallR X (.type id) r) (s : Q1S X.K o r g) (hv : bootBuiltins x = some (.type id)) (hg : Gl X x) (hm : X.mg x = none) (hq : Sq X m a ta wq) (hn : x ≠ "__name__" := by decide) (hdb : (x == ("__debug__" : Str)) = false := by decide)
    (hst : starEach [a] X.env = (false, eval a X.env) :: starEach [] X.env := by rfl) : E X m o (.Call (.Name x p) [a] [] pos) (tCB r (tCons ta tNil)) (wQ1 g wq) :=
  ⟨pe_callTy hc hg hm hv (pa_cons hq.pe pa_nil hst) hn hdb hst, snd_q1 s hq.snd⟩
/-! len, list, tuple -/
def lenQ (s : Bool × List D) : Option D := some (.int s.2.length)
def listQ (s : Bool × List D) : Option D := some (.list s.2)
def tupQ (s : Bool × List D) : Option D := some (.tuple s.2)
def rLen (K : PySem.W.Frag) : List V → Hp → VK → Prop := fun xs H Q => ∃ p ys, xs = [.ref p] ∧ (SqL K H p ys ∨ SqT K H p ys) ∧ Q (.int ys.length) H
def rLst (K : PySem.W.Frag) : List V → Hp → VK → Prop := fun xs H Q => ∃ p ys, xs = [.ref p] ∧ (SqL K H p ys ∨ SqT K H p ys) ∧ ∀ l, H l = none → Q (.ref l) (upd H l (.lst ys))
theorem seq_k {k : Bool} {i : Addr} {vs : List V} (h1 : k = true → H i = some (.lst vs)) (h2 : k = false → TupOk K H i vs) : SqL K H i vs ∨ SqT K H i vs := by
  cases k with
  | true => exact .inl (SqL.of (h1 rfl))
  | false => exact .inr (h2 rfl).sqT
theorem zipR {vs : List V} {ds : List D} : ∀ p ∈ P, p ∈ vs.zip ds ++ P := fun p h => List.mem_append_right _ h
theorem lenS : Q1S K false (rLen K) lenQ := by
  intro H0 Z0 σ H e P PW i vs k ds z Q h1 h2 l S _ g q
  have g : PyData.int ds.length = z := Option.some.inj g
  subst g
  refine ⟨i, vs, rfl, seq_k h1 h2, ?_⟩
  rw [l]
  exact q _ H (Same.refl _) (S.subP zipR).int
theorem listS : Q1S K true (rLst K) listQ := by
  intro H0 Z0 σ H e P PW i vs k ds z Q h1 h2 l S _ g q
  have g : PyData.list ds = z := Option.some.inj g
  subst g
  exact ⟨i, vs, rfl, seq_k h1 h2, fun p np => q _ _ (same_upd np) ⟨p, ds, rfl, rfl, S.lst l np⟩⟩
theorem tupS : Q1S K false (rTupN K) tupQ := by
  intro H0 Z0 σ H e P PW i vs k ds z Q h1 h2 l S S2 g q
  have g : PyData.tuple ds = z := Option.some.inj g
  subst g
  refine ⟨i, vs, rfl, ?_⟩
  cases k with
  | true => exact .inl ⟨SqL.of (h1 rfl), fun p ob np hd => q _ _ (same_upd np) (S.tup l np hd)⟩
  | false => exact .inr ⟨(h2 rfl).sqT, q _ H (Same.refl _) (S2 rfl)⟩
theorem e_len (hg : Gl X "len") (hm : X.mg "len" = none) (hq : Sq X m a ta wq) (hst : starEach [a] X.env = (false, eval a X.env) :: starEach [] X.env := by rfl) : E X m false (.Call (.Name "len" p) [a] [] pos) (tCB (rLen X.K) (tCons ta tNil)) (wQ1 lenQ wq) :=
  e_q1B (r := rLen X.K) call_len_seq lenS PySem.boot_len hg hm hq (by decide) (by decide) hst
theorem e_list (hg : Gl X "list") (hm : X.mg "list" = none) (hq : Sq X m a ta wq) (hst : starEach [a] X.env = (false, eval a X.env) :: starEach [] X.env := by rfl) : E X m true (.Call (.Name "list" p) [a] [] pos) (tCB (rLst X.K) (tCons ta tNil)) (wQ1 listQ wq) :=
  e_q1T (r := rLst X.K) call_list_of listS (by decide +kernel) hg hm hq (by decide) (by decide) hst
theorem e_tuple (hg : Gl X "tuple") (hm : X.mg "tuple" = none) (hq : Sq X m a ta wq) (hst : starEach [a] X.env = (false, eval a X.env) :: starEach [] X.env := by rfl) : E X m false (.Call (.Name "tuple" p) [a] [] pos) (tCB (rTupN X.K) (tCons ta tNil)) (wQ1 tupQ wq) :=
  e_q1T (r := rTupN X.K) call_tupN tupS (by decide +kernel) hg hm hq (by decide) (by decide) hst
theorem d_len (hg : Gl X "len") (hm : X.mg "len" = none) (hq : Sq X m a ta (lift fq)) (hst : starEach [a] X.env = (false, eval a X.env) :: starEach [] X.env := by rfl) : E X m false (.Call (.Name "len" p) [a] [] pos) (tCB (rLen X.K) (tCons ta tNil)) (lift (oQ1 lenQ fq)) := by rw [lift_Q1]; exact e_len hg hm hq hst
theorem d_list (hg : Gl X "list") (hm : X.mg "list" = none) (hq : Sq X m a ta (lift fq)) (hst : starEach [a] X.env = (false, eval a X.env) :: starEach [] X.env := by rfl) : E X m true (.Call (.Name "list" p) [a] [] pos) (tCB (rLst X.K) (tCons ta tNil)) (lift (oQ1 listQ fq)) := by rw [lift_Q1]; exact e_list hg hm hq hst
theorem d_tuple (hg : Gl X "tuple") (hm : X.mg "tuple" = none) (hq : Sq X m a ta (lift fq)) (hst : starEach [a] X.env = (false, eval a X.env) :: starEach [] X.env := by rfl) : E X m false (.Call (.Name "tuple" p) [a] [] pos) (tCB (rTupN X.K) (tCons ta tNil)) (lift (oQ1 tupQ fq)) := by rw [lift_Q1]; exact e_tuple hg hm hq hst
/-! all, any, sum, max, min -/
def truA : List D → Option (List Bool)
  | [] => some []
  | d :: ds => match tru d, truA ds with
    | some b, some bs => some (b :: bs)
    | _, _ => none
def intA : List D → Option (List Int)
  | [] => some []
  | .int i :: ds => (intA ds).map (i :: ·)
  | _ :: _ => none
theorem truA_map : ∀ {ds : List D} {bs : List Bool}, truA ds = some bs → ds = bs.map .bool
  | [], bs, h => by cases h; rfl
  | d :: ds, bs, h => by
    unfold truA at h
    cases h1 : tru d with
    | none => rw [h1] at h; cases h
    | some b =>
      cases h2 : truA ds with
      | none => rw [h1, h2] at h; cases h
      | some bs' =>
        rw [h1, h2] at h
        cases h
        rw [tru_bl h1, truA_map h2]; rfl
theorem intA_map : ∀ {ds : List D} {ns : List Int}, intA ds = some ns → ds = ns.map .int
  | [], ns, h => by cases h; rfl
  | d :: ds, ns, h => by
    cases d with
    | int i =>
      obtain ⟨ns', h1, rfl⟩ := Option.map_eq_some_iff.mp (show (intA ds).map (i :: ·) = some ns from h)
      rw [intA_map h1]; rfl
    | _ => cases h
theorem intA_of : ∀ ns : List Int, intA (ns.map .int) = some ns
  | [] => rfl
  | n :: ns => by
    show (intA (ns.map .int)).map (n :: ·) = _
    rw [intA_of ns]; rfl
theorem truA_of : ∀ ns : List Bool, truA (ns.map .bool) = some ns
  | [] => rfl
  | n :: ns => by
    show (match tru (.bool n), truA (ns.map .bool) with | some b, some bs => some (b :: bs) | _, _ => none) = _
    rw [truA_of ns]; rfl
theorem RpA.ints : ∀ {ns : List Int} {vs : List V}, RpA K H Z vs (ns.map .int) → vs = ns.map V.int
  | [], _, h => by cases h; rfl
  | n :: ns, _, h => by
    cases h with
    | cons h1 h2 =>
      cases h1
      rw [RpA.ints h2]; rfl
theorem RpA.bls : ∀ {ns : List Bool} {vs : List V}, RpA K H Z vs (ns.map .bool) → vs = ns.map V.bl
  | [], _, h => by cases h; rfl
  | n :: ns, _, h => by
    cases h with
    | cons h1 h2 =>
      cases h1
      rw [RpA.bls h2]; rfl
theorem SR.rpA {vs : List V} {ds : List D} (S : SR K H0 Z0 σ H e (vs.zip ds ++ P) PW) (hl : vs.length = ds.length) : ∃ Z, RpA K H Z vs ds := by
  obtain ⟨Z, F, W, s, S⟩ := S
  exact ⟨Z, RpA.of_zip hl fun p hp => S.fz p (List.mem_append_left _ (List.mem_append_left _ hp))⟩
theorem SR.ints {vs : List V} {ds : List D} {ns : List Int} (S : SR K H0 Z0 σ H e (vs.zip ds ++ P) PW) (hl : vs.length = ds.length) (h : intA ds = some ns) : vs = ns.map V.int := by
  obtain ⟨Z, r⟩ := S.rpA hl
  rw [intA_map h] at r
  exact r.ints
theorem SR.bls {vs : List V} {ds : List D} {ns : List Bool} (S : SR K H0 Z0 σ H e (vs.zip ds ++ P) PW) (hl : vs.length = ds.length) (h : truA ds = some ns) : vs = ns.map V.bl := by
  obtain ⟨Z, r⟩ := S.rpA hl
  rw [truA_map h] at r
  exact r.bls
def allQ (s : Bool × List D) : Option D := if s.1 = true then (truA s.2).map fun bs => .bool (bs.all _root_.id) else none
def anyQ (s : Bool × List D) : Option D := if s.1 = true then (truA s.2).map fun bs => .bool (bs.any _root_.id) else none
def sumQ (s : Bool × List D) : Option D := if s.1 = true then (intA s.2).map fun ns => .int ns.sum else none
theorem allS : Q1S K false (rAll K) allQ := by
  intro H0 Z0 σ H e P PW i vs k ds z Q h1 h2 l S _ g q
  cases k with
  | false => cases g
  | true =>
    obtain ⟨bs, hb, rfl⟩ := Option.map_eq_some_iff.mp (show (truA ds).map (fun bs => PyData.bool (bs.all _root_.id)) = some z from g)
    refine ⟨i, bs, rfl, SqL.of ?_, q _ H (Same.refl _) (S.subP zipR).bl⟩
    rw [← S.bls l hb]; exact h1 rfl
theorem anyS : Q1S K false (rAny K) anyQ := by
  intro H0 Z0 σ H e P PW i vs k ds z Q h1 h2 l S _ g q
  cases k with
  | false => cases g
  | true =>
    obtain ⟨bs, hb, rfl⟩ := Option.map_eq_some_iff.mp (show (truA ds).map (fun bs => PyData.bool (bs.any _root_.id)) = some z from g)
    refine ⟨i, bs, rfl, SqL.of ?_, q _ H (Same.refl _) (S.subP zipR).bl⟩
    rw [← S.bls l hb]; exact h1 rfl
theorem sumS : Q1S K false (rSum K) sumQ := by
  intro H0 Z0 σ H e P PW i vs k ds z Q h1 h2 l S _ g q
  cases k with
  | false => cases g
  | true =>
    obtain ⟨ns, hb, rfl⟩ := Option.map_eq_some_iff.mp (show (intA ds).map (fun ns => PyData.int ns.sum) = some z from g)
    refine ⟨i, ns, rfl, SqL.of ?_, q _ H (Same.refl _) (S.subP zipR).int⟩
    rw [← S.ints l hb]; exact h1 rfl
theorem e_all (hc : X.calm = true) (hg : Gl X "all") (hm : X.mg "all" = none) (hq : Sq X m a ta wq) (hst : starEach [a] X.env = (false, eval a X.env) :: starEach [] X.env := by rfl) : E X m false (.Call (.Name "all" p) [a] [] pos) (tCB (rAll X.K) (tCons ta tNil)) (wQ1 allQ wq) :=
  e_q1B (cr_all hc) allS (by decide +kernel) hg hm hq (by decide) (by decide) hst
theorem e_any (hc : X.calm = true) (hg : Gl X "any") (hm : X.mg "any" = none) (hq : Sq X m a ta wq) (hst : starEach [a] X.env = (false, eval a X.env) :: starEach [] X.env := by rfl) : E X m false (.Call (.Name "any" p) [a] [] pos) (tCB (rAny X.K) (tCons ta tNil)) (wQ1 anyQ wq) :=
  e_q1B (cr_any hc) anyS (by decide +kernel) hg hm hq (by decide) (by decide) hst
theorem e_sum (hc : X.calm = true) (hg : Gl X "sum") (hm : X.mg "sum" = none) (hq : Sq X m a ta wq) (hst : starEach [a] X.env = (false, eval a X.env) :: starEach [] X.env := by rfl) : E X m false (.Call (.Name "sum" p) [a] [] pos) (tCB (rSum X.K) (tCons ta tNil)) (wQ1 sumQ wq) :=
  e_q1B (cr_sum hc) sumS (by decide +kernel) hg hm hq (by decide) (by decide) hst
theorem d_all (hc : X.calm = true) (hg : Gl X "all") (hm : X.mg "all" = none) (hq : Sq X m a ta (lift fq)) (hst : starEach [a] X.env = (false, eval a X.env) :: starEach [] X.env := by rfl) : E X m false (.Call (.Name "all" p) [a] [] pos) (tCB (rAll X.K) (tCons ta tNil)) (lift (oQ1 allQ fq)) := by rw [lift_Q1]; exact e_all hc hg hm hq hst
theorem d_any (hc : X.calm = true) (hg : Gl X "any") (hm : X.mg "any" = none) (hq : Sq X m a ta (lift fq)) (hst : starEach [a] X.env = (false, eval a X.env) :: starEach [] X.env := by rfl) : E X m false (.Call (.Name "any" p) [a] [] pos) (tCB (rAny X.K) (tCons ta tNil)) (lift (oQ1 anyQ fq)) := by rw [lift_Q1]; exact e_any hc hg hm hq hst
theorem d_sum (hc : X.calm = true) (hg : Gl X "sum") (hm : X.mg "sum" = none) (hq : Sq X m a ta (lift fq)) (hst : starEach [a] X.env = (false, eval a X.env) :: starEach [] X.env := by rfl) : E X m false (.Call (.Name "sum" p) [a] [] pos) (tCB (rSum X.K) (tCons ta tNil)) (lift (oQ1 sumQ fq)) := by rw [lift_Q1]; exact e_sum hc hg hm hq hst
/-! ### items -/
def ixD (s : Bool × List D) (j : D) : Option D := match j with
  | .int i => atI s.2 i
  | _ => none
def rIxA (K : PySem.W.Frag) : R2 := fun x y H Q => rIxL K x y H Q ∨ rIxT K x y H Q
def wIx (wq : Wp QV) (wb : Wp D) : Wp D := Wp.bd wq fun q => Wp.bd wb fun j => Wp.gt fun e => (seqOf e q).bind fun s => ixD s j
def oIx (wq : Op QV) (wb : Op D) : Op D := Op.bd wq fun q => Op.bd wb fun j => Op.gt fun e => (seqOf e q).bind fun s => ixD s j
theorem lift_Ix (f : Op QV) (g : Op D) : lift (oIx f g) = wIx (lift f) (lift g) := by simp only [oIx, wIx, lift_bd, lift_gt]
theorem atI_map {ds : List D} {vs : List V} {i : Int} {d : D} (hl : vs.length = ds.length) (h : atI ds i = some d) : ∃ (j : Nat) (v : V), ds[j]? = some d ∧ vs[j]? = some v ∧ atI vs i = some v := by
  obtain ⟨j, h1, h2⟩ := Option.bind_eq_some_iff.mp (show (ixN ds.length i).bind (fun j => ds[j]?) = some d from h)
  have hj : j < ds.length := (List.getElem?_eq_some_iff.mp h2).1
  obtain ⟨v, hv⟩ : ∃ v, vs[j]? = some v := ⟨vs[j], List.getElem?_eq_getElem (by omega)⟩
  refine ⟨j, v, h2, hv, ?_⟩
  unfold atI
  rw [hl, h1]
  exact hv
theorem snd_ix (hq : SndQ K m ta wq) (hb : SndE K m false tb wb) : SndE K m false (tOp (rIxA K) ta tb) (wIx wq wb) := by
  intro H0 Z0 σ H e P PW k Q S h q
  refine hq H0 Z0 σ H e P PW _ _ S h fun v u e1 H1 he ho S1 h1 => ?_
  refine hb H0 Z0 σ H1 e1 _ PW _ _ S1 h1 fun v2 j e2 H2 he2 S2 h2 => ?_
  obtain ⟨z, hz, hk⟩ := h2
  obtain ⟨⟨kd, ds⟩, h2, h3⟩ := Option.bind_eq_some_iff.mp hz
  cases j with
  | int i =>
    have h3 : atI ds i = some z := h3
    obtain ⟨a, vs, rfl, hl, ht, l, S3⟩ := SR.openQ (R := [(v2, .int i)]) S2 ho h2
    obtain ⟨n, d, e1', e2', e3'⟩ := atI_map l h3
    obtain ⟨d', e4', S4⟩ := S3.item l e1'
    have ed : d = d' := Option.some.inj (e2'.symm.trans e4')
    subst ed
    have fin := q d z e2 H2 (mf he he2) (S4.subP fun p hp => (List.mem_cons.mp hp).elim (fun z => z ▸ List.mem_cons_self) fun z => List.mem_cons_of_mem _ (List.mem_cons_of_mem _ (qP_sub p z))) hk
    cases kd with
    | true => exact .inl ⟨a, vs, i, d, rfl, S2.hdInt, SqL.of (hl rfl), e3', fin⟩
    | false => exact .inr ⟨a, vs, i, d, rfl, S2.hdInt, (ht rfl).sqT, e3', fin⟩
  | _ => cases h3
theorem e_ix (hq : Sq X m a ta wq) (hb : E X m false b tb wb) (hs : PlainIx b := by exact fun _ _ => rfl) : E X m false (.Subscript a b pos) (tOp (rIxA X.K) ta tb) (wIx wq wb) :=
  ⟨pe_ix (ix_list.or ix_tup) hq.pe hb.pe hs, snd_ix hq.snd hb.snd⟩
theorem d_ix (hq : Sq X m a ta (lift fq)) (hb : E X m false b tb (lift fb)) (hs : PlainIx b := by exact fun _ _ => rfl) : E X m false (.Subscript a b pos) (tOp (rIxA X.K) ta tb) (lift (oIx fq fb)) := by
  rw [lift_Ix]; exact e_ix hq hb hs
end
end Vl
/-! The value layer, 7: defs and their calls (with the frames' guards known), statements. -/
namespace Vl
open PySem PySem.Spec PyProof.Rows L2

/-! ### a def's promise, where no repr is under way -/
structure FnG (P : Program) (w : World) (K : PySem.W.Frag) (mg : Str → Option Value) (base : Heap) (k : Nat) (f : Addr) (fd : FuncData) (ps : List Str) (sp : Sp) : Prop where
  len : ∀ vs H Q E, sp vs H Q E → vs.length = ps.length
  run : ∀ (A : Around) (outer : List Env) (s : Shared) (H : Hp) (args : Args) (us : List Value) (vs : List V) (Q : VK), A.guards = some [] → Room k A → Env0 P w K mg base A outer s H → BindsTo s fd args (ps.zip us) → Vals vs us → sp vs H Q E0 →
    codeAny (model P w) A (.call (.ref f) args) (CR CX0 outer P w H s Q E0) s
section
variable {P : Program} {w : World} {K : PySem.W.Frag} {mg : Str → Option Value} {base : Heap}
theorem FnG.mono {j k : Nat} {f : Addr} {fd : FuncData} {ps : List Str} {sp : Sp} (F : FnG P w K mg base j f fd ps sp) (h : j ≤ k) : FnG P w K mg base k f fd ps sp :=
  ⟨F.len, fun A outer s H args us vs Q hg hr => F.run A outer s H args us vs Q hg (hr.mono h)⟩
theorem FnG.imp {k : Nat} {f : Addr} {fd : FuncData} {ps : List Str} {sp sp' : Sp} (F : FnG P w K mg base k f fd ps sp) (h : ∀ vs H Q E, sp' vs H Q E → sp vs H Q E) : FnG P w K mg base k f fd ps sp' :=
  ⟨fun vs H Q E q => F.len vs H Q E (h _ _ _ _ q), fun A outer s H args us vs Q hg hr he hb hv hs => F.run A outer s H args us vs Q hg hr he hb hv (h _ _ _ _ hs)⟩
theorem fnG_of {k : Nat} {f : Addr} {name qual : Str} {params : Arguments} {body : List Stmt} {scope : Scope} {dV kV doc pm cdv ct oc : Value} {an od : Option Addr} {osl : Array (Option Value)} {N ps : List Str} {sp : Sp}
    (lk : K.lookup f = some ⟨oc, od, .func (PySem.W.fnOf name qual params body scope dV kV doc pm an cdv ct), osl⟩) (hcd : PySem.W.codeIn K cdv qual = true) (S : FnScope N ps scope) (len : ∀ vs H Q E, sp vs H Q E → vs.length = ps.length)
    (hbody : ∀ (A : Around) (outer : List Env) (s : Shared) (H : Hp) (vs : List V) (Q : VK), A.guards = some [] → Room k (A.deeper (envOfC qual scope s.heap.objs.size f cdv)) → sp vs H Q E0 →
      ∃ t, PSs (cxOf CX0 P w K mg base N qual scope f cdv A outer s H E0) body t ∧ t { nx := fun _ H' => Q .non H', rt := Q } (start N vs) H) :
    FnG P w K mg base (k + 1) f (PySem.W.fnOf name qual params body scope dV kV doc pm an cdv ct) ps sp := by
  refine ⟨len, fun A outer s H args us vs Q hga hroom env hbind hvals hsp => ?_⟩
  have kept := fun b o (e : base.get? b = some o) => (env.bs b o e).1
  have KX : K.In s.heap := env.mod.kin.keeps kept
  have lim : s.heap.NoLimit := env.mod.nolimit.keeps kept
  obtain ⟨t, ht, hq⟩ := hbody A outer s H vs Q hga (hroom.deeper _) hsp
  have params_ok : ∀ y ∈ ps.zip us, scope.names.lookup y.1 = some .local ∨ (scope.names.lookup y.1 = some .cell ∧ ((cellsFrom (s.heap.objs.size + 1) scope.names []).lookup y.1).isSome = true) := by
    intro y hy
    have := S.par y.1 (List.of_mem_zip (show (y.1, y.2) ∈ ps.zip us from hy)).1
    exact this.imp id fun q => ⟨q, PySem.W.cellsFrom_some _ _ _ (.inl q)⟩
  refine codeAny_call_function hroom.depth (KX _ _ lk) rfl S.co S.gen rfl (PySem.W.codeRec_of KX hcd) (hbind _ _ _ _ (wpAny_newFunctionEnv_cells S.kind params_ok ?_))
  rintro _ rfl s1 x
  refine ⟨lim.keeps x.toInCall.keep, codeAny_func (wpAny_mono (ht.run [] s1 _ H _ (inv_start S hroom.hd env (len _ _ _ _ hsp) hvals x) hq) (fun fl s' h => ?_) fun _ _ h => h)⟩
  cases fl with
  | ret u => obtain ⟨v, _, H', J, rv, q⟩ := h; exact ⟨v, H', J.os, J.bare, J.base, J.hok, rv, q⟩
  | next => obtain ⟨_, H', J, q⟩ := h; exact ⟨.non, H', J.os, J.bare, J.base, J.hok, rfl, q⟩
  | brk => obtain ⟨_, _, _, q⟩ := h; exact q.elim
  | cont => obtain ⟨_, _, _, q⟩ := h; exact q.elim
/-- for a def with defaults or without -/
theorem okG {x qual : Str} {params : Arguments} {body : List Stmt} {scope : Scope} {dvs : List V} {kws : List (Str × V)} {f : Addr} {fd : FuncData} {N ps : List Str} {k : Nat} {sp : Sp} (F : FunD K x qual params body scope dvs kws f fd) (S : FnScope N ps scope)
    (len : ∀ vs H Q E, sp vs H Q E → vs.length = ps.length)
    (hbody : ∀ (cdv : Value) (A : Around) (outer : List Env) (s : Shared) (H : Hp) (vs : List V) (Q : VK), A.guards = some [] → Room k (A.deeper (envOfC qual scope s.heap.objs.size f cdv)) → sp vs H Q E0 →
      ∃ t, PSs (cxOf CX0 P w K mg base N qual scope f cdv A outer s H E0) body t ∧ t { nx := fun _ H' => Q .non H', rt := Q } (start N vs) H) : FnG P w K mg base (k + 1) f fd ps sp := by
  obtain ⟨oc, od, dV, kV, doc, pm, an, cdv, ct, osl, rfl, lk, hcd, _⟩ := F.ex
  exact fnG_of lk hcd S len (hbody cdv)
end

/-! ### calls -/
def pick {α : Type} (pm : List Nat) (l : List α) : List α := pm.filterMap fun i => l[i]?
theorem Vals.pick {vs : List V} {us : List Value} (h : Vals vs us) : ∀ pm : List Nat, Vals (pick pm vs) (pick pm us)
  | [] => .nil
  | i :: pm => by
    unfold Vl.pick
    rw [List.filterMap_cons, List.filterMap_cons]
    cases e : vs[i]? with
    | none =>
      rw [h.none_of e]
      exact Vals.pick h pm
    | some v =>
      obtain ⟨u, e2, r⟩ := h.get e
      rw [e2]
      exact .cons r (Vals.pick h pm)
/-- n values by place, the keywords ks, defaults dvs: parameter by parameter where each comes from -/
def KB (K : PySem.W.Frag) (fd : FuncData) (ps : List Str) (n : Nat) (ks : List Str) (dvs : List V) (pm : List Nat) : Prop :=
  ∃ its : List Value, Vals dvs its ∧ ∀ (s : Shared) (us ws : List Value), K.In s.heap → us.length = n → ws.length = ks.length → BindsTo s fd ⟨us, ks.zip ws⟩ (ps.zip (pick pm (us ++ ws ++ its)))
def tCallG (sp : Sp) (n l : Nat) (dvs : List V) (pm : List Nat) (t tk : TA) : TE := fun σ H Q => t σ H fun vs H1 => tk σ H1 fun zs H2 => vs.length = n ∧ zs.length = l ∧ sp (pick pm (vs ++ zs ++ dvs)) H2 Q E0
section
variable {X : Cx} {k n : Nat} {f : Addr} {fd : FuncData} {ps ks : List Str} {sp : Sp} {dvs : List V} {pm : List Nat} {x : Str} {p pos : Pos} {ex : Expr} {es : List Expr} {kws : List Keyword} {t tk : TA}
theorem run_G {pins : List (Addr × Obj)} {σ : L2.St} {H : Hp} {s : Shared} {Q : VK} {us ws : List Value} {vs zs : List V} (F : FnG X.prog X.w X.K X.mg X.base k f fd ps sp) (hga : X.A.guards = some []) (hr : Room k X.A) (hb : KB X.K fd ps n ks dvs pm)
    (I : Inv X pins σ H s) (rv : Vals vs us) (rz : Vals zs ws) (hn : vs.length = n) (hl : zs.length = ks.length) (h : sp (pick pm (vs ++ zs ++ dvs)) H Q E0) : wpAny (model X.prog X.w) X.A (call (.ref f) us (ks.zip ws)) (EP X pins σ Q) X.xe s := by
  obtain ⟨its, rd, hb⟩ := hb
  refine wpAny_call (codeAny_mono (F.run X.A X.stack s H ⟨us, ks.zip ws⟩ _ _ Q hga hr I.env0 (hb s us ws I.kIn (rv.length ▸ hn) (rz.length ▸ hl)) (Vals.pick ((rv.append rz).append rd) pm) h) fun r s' hq => ?_)
  cases r with
  | error _ => cases hq
  | ok fl => cases fl with
    | ret u => exact I.after hq
    | _ => cases hq
/-- f(e, ..) -/
theorem pe_callP (F : FnG X.prog X.w X.K X.mg X.base k f fd ps sp) (hga : X.A.guards = some []) (hr : Room k X.A) (hg : Gl X x) (hm : X.mg x = some (.ref f)) (hk : PySem.W.keepIn X.K (.ref f) = true) (hb : KB X.K fd ps n [] dvs pm) (ha : PA X (ex :: es) t)
    (hdb : (x == ("__debug__" : Str)) = false := by decide) (he : starEach (ex :: es) X.env = (false, eval ex X.env) :: starEach es X.env := by rfl) (hpl : (backTo pos (starEach es X.env)).any (·.1) = false := by rfl) :
    PE X (.Call (.Name x p) (ex :: es) [] pos) (tCallG sp n 0 dvs pm t tNil) := by
  refine ⟨fun pins s σ H Q I h => wpAny_Call_Name_kw (ld_glob I hg hm ?_ hdb)⟩
  refine PySem.W.callWith_K (h₀ := X.base) I.ok.mod.kin hk (thn (ha.run pos pins s σ H _ I h) fun us s1 hh => ?_) he hpl
  obtain ⟨vs, H1, I1, r, hn, hl, q⟩ := hh
  exact ⟨I1.kIn, run_G (zs := []) (ws := []) F hga hr hb I1 r .nil hn hl q⟩
/-- f() -/
theorem pe_call0G (F : FnG X.prog X.w X.K X.mg X.base k f fd ps sp) (hga : X.A.guards = some []) (hr : Room k X.A) (hg : Gl X x) (hm : X.mg x = some (.ref f)) (hk : PySem.W.keepIn X.K (.ref f) = true) (hb : KB X.K fd ps 0 [] dvs pm)
    (hdb : (x == ("__debug__" : Str)) = false := by decide) : PE X (.Call (.Name x p) [] [] pos) (tCallG sp 0 0 dvs pm tNil tNil) := by
  refine ⟨fun pins s σ H Q I h => wpAny_Call_Name_kw (ld_glob I hg hm ?_ hdb)⟩
  obtain ⟨hn, hl, q⟩ := h
  exact PySem.W.callWith_K0 I.kIn hk (run_G (us := []) (vs := []) (zs := []) (ws := []) F hga hr hb I .nil .nil hn hl q)
/-- f(e, .., k = v, ..) -/
theorem pe_callPK (F : FnG X.prog X.w X.K X.mg X.base k f fd ps sp) (hga : X.A.guards = some []) (hr : Room k X.A) (hg : Gl X x) (hm : X.mg x = some (.ref f)) (hk : PySem.W.keepIn X.K (.ref f) = true) (hb : KB X.K fd ps n ks dvs pm) (ha : PA X (ex :: es) t) (hkw : PK X kws tk)
    (hall : (backToKw pos (keywordEach kws X.env)).all (·.1.isSome) = true := by rfl) (hks : (backToKw pos (keywordEach kws X.env)).filterMap (·.1) = ks := by rfl)
    (hdb : (x == ("__debug__" : Str)) = false := by decide) (he : starEach (ex :: es) X.env = (false, eval ex X.env) :: starEach es X.env := by rfl)
    (hpl : ((backTo pos (starEach (ex :: es) X.env)).any (·.1) || (backToKw pos (keywordEach kws X.env)).any (·.1.isNone)) = false := by rfl) :
    PE X (.Call (.Name x p) (ex :: es) kws pos) (tCallG sp n ks.length dvs pm t tk) := by
  refine ⟨fun pins s σ H Q I h => wpAny_Call_Name_kw (ld_glob I hg hm ?_ hdb)⟩
  refine PySem.W.callWith_KW (h₀ := X.base) I.ok.mod.kin hk hall (thn (ha.run pos pins s σ H _ I h) fun us s1 hh => ?_) hpl he
  obtain ⟨vs, H1, I1, r, q⟩ := hh
  refine thn (hkw.run pos pins s1 σ H1 _ I1 q) fun ws s2 hh => ?_
  obtain ⟨zs, H2, I2, rz, hn, hl, q⟩ := hh
  rw [hks]
  exact ⟨I2.kIn, run_G F hga hr hb I2 r rz hn hl q⟩
/-- f(k = v, ..) -/
theorem pe_callK0 (F : FnG X.prog X.w X.K X.mg X.base k f fd ps sp) (hga : X.A.guards = some []) (hr : Room k X.A) (hg : Gl X x) (hm : X.mg x = some (.ref f)) (hk : PySem.W.keepIn X.K (.ref f) = true) (hb : KB X.K fd ps 0 ks dvs pm) (hkw : PK X kws tk)
    (hall : (backToKw pos (keywordEach kws X.env)).all (·.1.isSome) = true := by rfl) (hks : (backToKw pos (keywordEach kws X.env)).filterMap (·.1) = ks := by rfl)
    (hdb : (x == ("__debug__" : Str)) = false := by decide)
    (hpl : ((backTo pos (starEach [] X.env)).any (·.1) || (backToKw pos (keywordEach kws X.env)).any (·.1.isNone)) = false := by rfl) :
    PE X (.Call (.Name x p) [] kws pos) (tCallG sp 0 ks.length dvs pm tNil tk) := by
  refine ⟨fun pins s σ H Q I h => wpAny_Call_Name_kw (ld_glob I hg hm ?_ hdb)⟩
  refine PySem.W.callWith_KW0 (h₀ := X.base) I.ok.mod.kin hk hall (thn (hkw.run pos pins s σ H _ I h) fun ws s2 hh => ?_) hpl
  obtain ⟨zs, H2, I2, rz, hn, hl, q⟩ := hh
  rw [hks]
  exact ⟨I2.kIn, run_G (us := []) (vs := []) F hga hr hb I2 .nil rz hn hl q⟩
end

/-! ### a def over data -/
/-- what stands behind a call: the heap is kept, the value is there; o: a new list of nobody's -/
def Fin (K : PySem.W.Frag) (H : Hp) (Z : Addr → Prop) (o : Bool) (v : V) (d : D) (H' : Hp) : Prop :=
  Same H H' ∧ ∃ Z' : Addr → Prop, (∀ b, Z' b → Z b ∨ H b = none) ∧ (∀ b, Z' b → ∃ x, H' b = some x) ∧ match o with
    | false => Rp K H' Z' v d
    | true => ∃ a ds vs, v = .ref a ∧ d = .list ds ∧ ¬ Z' a ∧ H a = none ∧ H' a = some (.lst vs) ∧ RpA K H' Z' vs ds
abbrev Fw := List D → (D → Prop) → Prop
def liftF (g : List D → Option D) : Fw := fun ds k => ∃ d, g ds = some d ∧ k d
def spV (K : PySem.W.Frag) (o : Bool) (np : Nat) (fw : Fw) : Sp := fun vs H Q _ => vs.length = np ∧ ∃ ds k Z, RpA K H Z vs ds ∧ (∀ a, Z a → ∃ x, H a = some x) ∧ fw ds k ∧ ∀ v d H', Fin K H Z o v d H' → k d → Q v H'
theorem spV_len {K : PySem.W.Frag} {o : Bool} {ps : List Str} {fw : Fw} : ∀ vs H Q E, spV K o ps.length fw vs H Q E → vs.length = ps.length := fun _ _ _ _ h => h.1
theorem RpA.pick {K : PySem.W.Frag} {H : Hp} {Z : Addr → Prop} {vs : List V} {ds : List D} (h : RpA K H Z vs ds) : ∀ pm : List Nat, RpA K H Z (pick pm vs) (pick pm ds)
  | [] => .nil
  | i :: pm => by
    unfold Vl.pick
    rw [List.filterMap_cons, List.filterMap_cons]
    cases e : ds[i]? with
    | none =>
      have l := h.length
      have : vs[i]? = none := by
        rw [List.getElem?_eq_none_iff] at e ⊢
        omega
      rw [this]
      exact RpA.pick h pm
    | some d =>
      obtain ⟨v, e2, r⟩ := h.get e
      rw [e2]
      exact .cons r (RpA.pick h pm)
section
variable {K : PySem.W.Frag} {H H' H0 : Hp} {Z Z' Z0 : Addr → Prop} {σ : L2.St} {e e' : Sto} {P P' : List (V × D)} {PW : List (Addr × List D)} {m o : Bool}
/-- behind a call, at the caller's -/
theorem SR.call {v : V} {d : D} (S : ∃ F W, Sl σ e F W ∧ Sta K H0 Z0 H (P ++ F) (PW ++ W) Z) (h : Fin K H Z o v d H') : SRo K H0 Z0 σ H' e o v d P PW := by
  obtain ⟨F, W, s, S⟩ := S
  obtain ⟨sm, Z', z1, z2, h⟩ := h
  have S1 : Sta K H0 Z0 H' (P ++ F) (PW ++ W) (fun b => Z b ∨ Z' b) := S.grow sm (fun _ z => .inl z) (fun b z => z.elim .inl (z1 b)) fun b z => z.elim (fun z => by
    obtain ⟨x, hx⟩ := S.ztr b z
    exact ⟨x, sm _ _ hx⟩) (z2 b)
  have kz : Kp K Z' H' H' := Kp.same (Same.refl _)
  cases o with
  | false => exact ⟨_, F, W, s, Sta.addP S1 (Rp.keep kz (fun _ z => .inr z) _ _ h)⟩
  | true =>
    obtain ⟨a, ds, vs, rfl, rfl, h1, h2, h3, h4⟩ := h
    refine ⟨a, ds, rfl, rfl, _, F, W, s, Sta.addW S1 (fun z => ?_) (Same.free S.same h2) h3 (RpA.keep kz (fun _ z => .inr z) _ _ h4) fun q hq e => ?_⟩
    · rcases z with z | z
      · obtain ⟨x, hx⟩ := S.ztr a z
        rw [h2] at hx; cases hx
      · exact h1 z
    · obtain ⟨_, _, us, hu, _⟩ := S.ow q hq
      rw [e, h2] at hu; cases hu
/-- a body's return is the call's end -/
theorem SRo.fin {v : V} {d : D} (S : SRo K H0 Z0 σ H e o v d [] []) : Fin K H0 Z0 o v d H := by
  cases o with
  | false =>
    obtain ⟨Z, F, W, s, S⟩ := S
    exact ⟨S.same, Z, S.zin, S.ztr, S.fz _ List.mem_cons_self⟩
  | true =>
    obtain ⟨a, ds, rfl, rfl, Z, F, W, s, S⟩ := S
    obtain ⟨h1, h2, vs, h3, h4⟩ := S.ow (a, ds) (List.mem_append_left _ List.mem_cons_self)
    exact ⟨S.same, Z, S.zin, S.ztr, a, ds, vs, rfl, rfl, h1, h2, h3, h4⟩
variable {X : Cx} {k n : Nat} {f : Addr} {fd : FuncData} {ps ks : List Str} {dvs : List V} {dis : List Int} {pm : List Nat} {x : Str} {p pos : Pos} {ex : Expr} {es : List Expr} {kws : List Keyword} {t tk : TA} {w wk : Wp (List D)} {u uk : Op (List D)} {fw : Fw} {g : List D → Option D}
/-- keywords -/
structure Ks (X : Cx) (m : Bool) (kws : List Keyword) (t : TA) (w : Wp (List D)) : Prop where
  pk : PK X kws t
  snd : SndA X.K m t w
theorem ks_nil : Ks X m [] tNil (Wp.ret []) := ⟨pk_nil, (as_nil (X := X)).snd⟩
theorem ks_cons {a : Expr} {ta : TE} {wa : Wp D} {nm : Option Str} {kp : Pos} (ha : E X m false a ta wa) (hs : Ks X m kws tk wk) : Ks X m (⟨nm, a, kp⟩ :: kws) (tCons ta tk) (wCons wa wk) := by
  refine ⟨pk_cons ha.pe hs.pk, ?_⟩
  intro H0 Z0 σ H e P PW k Q S h q
  refine ha.snd H0 Z0 σ H e P PW _ _ S h fun v d e1 H1 he S1 h1 => ?_
  refine hs.snd H0 Z0 σ H1 e1 _ PW _ _ S1 h1 fun vs ds e2 H2 he2 hl S2 h2 => ?_
  refine q (v :: vs) (d :: ds) e2 H2 (mf he he2) (by rw [List.length_cons, List.length_cons, hl]) (S2.subP fun r hr => ?_) h2
  rw [List.zip_cons_cons, List.cons_append] at hr
  rcases List.mem_cons.mp hr with hr | hr
  · exact hr ▸ List.mem_append_right _ List.mem_cons_self
  · exact (List.mem_append.mp hr).elim (fun z => List.mem_append_left _ z) fun z => List.mem_append_right _ (List.mem_cons_of_mem _ z)
theorem dks_nil : Ks X m [] tNil (lift (Op.ret [])) := by rw [lift_ret]; exact ks_nil
theorem dks_cons {a : Expr} {ta : TE} {fa : Op D} {nm : Option Str} {kp : Pos} (ha : E X m false a ta (lift fa)) (hs : Ks X m kws tk (lift uk)) : Ks X m (⟨nm, a, kp⟩ :: kws) (tCons ta tk) (lift (oCons fa uk)) := by
  rw [lift_Cons]; exact ks_cons ha hs
def wCall (fw : Fw) (n l : Nat) (pm : List Nat) (dis : List Int) (w wk : Wp (List D)) : Wp D := fun e k => w e fun ds e1 => wk e1 fun zs e2 => (ds.length = n ∧ zs.length = l) ∧ fw (pick pm (ds ++ zs ++ dis.map .int)) fun d => k d e2
def oCall (g : List D → Option D) (n l : Nat) (pm : List Nat) (dis : List Int) (w wk : Op (List D)) : Op D := Op.bd w fun ds => Op.bd wk fun zs => Op.gt fun _ => if ds.length = n ∧ zs.length = l then g (pick pm (ds ++ zs ++ dis.map .int)) else none
theorem lift_Call (g : List D → Option D) (n l : Nat) (pm : List Nat) (dis : List Int) (w wk : Op (List D)) : lift (oCall g n l pm dis w wk) = wCall (liftF g) n l pm dis (lift w) (lift wk) := by
  simp only [oCall, lift_bd, lift_gt]
  funext e k
  simp only [Wp.bd, Wp.gt, wCall, liftF]
  congr 1
  funext ds e1
  congr 1
  funext zs e2
  by_cases h : ds.length = n ∧ zs.length = l
  · rw [if_pos h]; simp [h]
  · rw [if_neg h]; simp [h]
theorem zip_app2 {vs zs : List V} {ds es : List D} (S : SR K H0 Z0 σ H e (zs.zip es ++ (vs.zip ds ++ P)) PW) (hv : vs.length = ds.length) (hz : zs.length = es.length) : ∃ Z, (∃ F W, Sl σ e F W ∧ Sta K H0 Z0 H (P ++ F) (PW ++ W) Z) ∧ RpA K H Z (vs ++ zs) (ds ++ es) := by
  obtain ⟨Z, F, W, s, S⟩ := S
  refine ⟨Z, ⟨F, W, s, S.sub (fun q hq => ?_) (fun _ h => h) S.nd⟩, RpA.append (RpA.of_zip hv fun q hq => ?_) (RpA.of_zip hz fun q hq => ?_)⟩
  · rcases List.mem_append.mp hq with hq | hq
    · exact List.mem_append_left _ (List.mem_append_right _ (List.mem_append_right _ hq))
    · exact List.mem_append_right _ hq
  · exact S.fz q (List.mem_append_left _ (List.mem_append_right _ (List.mem_append_left _ hq)))
  · exact S.fz q (List.mem_append_left _ (List.mem_append_left _ hq))
theorem RpA.of_ints : ∀ ns : List Int, RpA K H Z (ns.map V.int) (ns.map .int)
  | [] => .nil
  | n :: ns => .cons (.int n) (RpA.of_ints ns)
theorem snd_call {np l : Nat} (hp : pm.length = np) (hin : ∀ i ∈ pm, i < n + l + dis.length) (ha : SndA K m t w) (hk : SndA K m tk wk) : SndE K m o (tCallG (spV K o np fw) n l (dis.map V.int) pm t tk) (wCall fw n l pm dis w wk) := by
  intro H0 Z0 σ H e P PW k Q S h q
  refine ha H0 Z0 σ H e P PW _ _ S h fun vs ds e1 H1 he hl S1 h1 => ?_
  refine hk H0 Z0 σ H1 e1 _ PW _ _ S1 h1 fun zs es e2 H2 he2 hl2 S2 h2 => ?_
  obtain ⟨⟨hn, hll⟩, hw⟩ := h2
  obtain ⟨Z, S3, r⟩ := zip_app2 S2 hl hl2
  have r' := RpA.append r (RpA.of_ints (K := K) (H := H2) (Z := Z) dis)
  have len : ∀ (pm : List Nat) (us : List V), (∀ i ∈ pm, i < us.length) → (pick pm us).length = pm.length := by
    intro pm us
    induction pm with
    | nil => intro _; rfl
    | cons i pm ih =>
      intro hi
      have h1 : us[i]? = some (us[i]'(hi i List.mem_cons_self)) := List.getElem?_eq_getElem (hi i List.mem_cons_self)
      unfold pick at ih ⊢
      rw [List.filterMap_cons, h1, List.length_cons, List.length_cons, ih fun j hj => hi j (List.mem_cons_of_mem _ hj)]
  refine ⟨hl.trans hn, hl2.trans hll, (len pm _ fun i hi => ?_).trans hp, _, _, Z, r'.pick pm, fun a za => ?_, hw, fun v d H' hf hk => q v d e2 H' (mf1 (mf he he2) hf.1) (SR.call S3 hf) hk⟩
  · have := hin i hi
    rw [List.length_append, List.length_append, List.length_map, hl, hl2, hn, hll]
    exact this
  · obtain ⟨F, W, s, S3⟩ := S3
    exact S3.ztr a za
abbrev FnV (X : Cx) (k : Nat) (f : Addr) (fd : FuncData) (ps : List Str) (o : Bool) (fw : Fw) : Prop := FnG X.prog X.w X.K X.mg X.base k f fd ps (spV X.K o ps.length fw)
theorem e_call (F : FnG X.prog X.w K X.mg X.base k f fd ps (spV K o ps.length fw)) (hga : X.A.guards = some []) (hr : Room k X.A) (hg : Gl X x) (hm : X.mg x = some (.ref f)) (hkp : PySem.W.keepIn X.K (.ref f) = true) (hb : KB X.K fd ps n [] (dis.map V.int) pm) (ha : As X m (ex :: es) t w)
    (hp : pm.length = ps.length := by rfl) (hin : ∀ i ∈ pm, i < n + 0 + dis.length := by decide)
    (hdb : (x == ("__debug__" : Str)) = false := by decide) (he : starEach (ex :: es) X.env = (false, eval ex X.env) :: starEach es X.env := by rfl) (hpl : (backTo pos (starEach es X.env)).any (·.1) = false := by rfl) (hK : X.K = K := by rfl) :
    E X m o (.Call (.Name x p) (ex :: es) [] pos) (tCallG (spV K o ps.length fw) n 0 (dis.map V.int) pm t tNil) (wCall fw n 0 pm dis w (Wp.ret [])) := by
  subst hK
  exact ⟨pe_callP F hga hr hg hm hkp hb ha.pa hdb he hpl, snd_call hp hin ha.snd (as_nil (X := X)).snd⟩
theorem e_callPK (F : FnG X.prog X.w K X.mg X.base k f fd ps (spV K o ps.length fw)) (hga : X.A.guards = some []) (hr : Room k X.A) (hg : Gl X x) (hm : X.mg x = some (.ref f)) (hkp : PySem.W.keepIn X.K (.ref f) = true) (hb : KB X.K fd ps n ks (dis.map V.int) pm) (ha : As X m (ex :: es) t w) (hkw : Ks X m kws tk wk)
    (hp : pm.length = ps.length := by rfl) (hin : ∀ i ∈ pm, i < n + ks.length + dis.length := by decide)
    (hall : (backToKw pos (keywordEach kws X.env)).all (·.1.isSome) = true := by rfl) (hks : (backToKw pos (keywordEach kws X.env)).filterMap (·.1) = ks := by rfl)
    (hdb : (x == ("__debug__" : Str)) = false := by decide) (he : starEach (ex :: es) X.env = (false, eval ex X.env) :: starEach es X.env := by rfl)
    (hpl : ((backTo pos (starEach (ex :: es) X.env)).any (·.1) || (backToKw pos (keywordEach kws X.env)).any (·.1.isNone)) = false := by rfl) (hK : X.K = K := by rfl) :
    E X m o (.Call (.Name x p) (ex :: es) kws pos) (tCallG (spV K o ps.length fw) n ks.length (dis.map V.int) pm t tk) (wCall fw n ks.length pm dis w wk) := by
  subst hK
  exact ⟨pe_callPK F hga hr hg hm hkp hb ha.pa hkw.pk hall hks hdb he hpl, snd_call hp hin ha.snd hkw.snd⟩
theorem e_callK (F : FnG X.prog X.w K X.mg X.base k f fd ps (spV K o ps.length fw)) (hga : X.A.guards = some []) (hr : Room k X.A) (hg : Gl X x) (hm : X.mg x = some (.ref f)) (hkp : PySem.W.keepIn X.K (.ref f) = true) (hb : KB X.K fd ps 0 ks (dis.map V.int) pm) (hkw : Ks X m kws tk wk)
    (hp : pm.length = ps.length := by rfl) (hin : ∀ i ∈ pm, i < 0 + ks.length + dis.length := by decide)
    (hall : (backToKw pos (keywordEach kws X.env)).all (·.1.isSome) = true := by rfl) (hks : (backToKw pos (keywordEach kws X.env)).filterMap (·.1) = ks := by rfl)
    (hdb : (x == ("__debug__" : Str)) = false := by decide)
    (hpl : ((backTo pos (starEach [] X.env)).any (·.1) || (backToKw pos (keywordEach kws X.env)).any (·.1.isNone)) = false := by rfl) (hK : X.K = K := by rfl) :
    E X m o (.Call (.Name x p) [] kws pos) (tCallG (spV K o ps.length fw) 0 ks.length (dis.map V.int) pm tNil tk) (wCall fw 0 ks.length pm dis (Wp.ret []) wk) := by
  subst hK
  exact ⟨pe_callK0 F hga hr hg hm hkp hb hkw.pk hall hks hdb hpl, snd_call hp hin (as_nil (X := X)).snd hkw.snd⟩
theorem d_call (F : FnG X.prog X.w K X.mg X.base k f fd ps (spV K o ps.length (liftF g))) (hga : X.A.guards = some []) (hr : Room k X.A) (hg : Gl X x) (hm : X.mg x = some (.ref f)) (hkp : PySem.W.keepIn X.K (.ref f) = true) (hb : KB X.K fd ps n [] (dis.map V.int) pm) (ha : As X m (ex :: es) t (lift u))
    (hp : pm.length = ps.length := by rfl) (hin : ∀ i ∈ pm, i < n + 0 + dis.length := by decide)
    (hdb : (x == ("__debug__" : Str)) = false := by decide) (he : starEach (ex :: es) X.env = (false, eval ex X.env) :: starEach es X.env := by rfl) (hpl : (backTo pos (starEach es X.env)).any (·.1) = false := by rfl) (hK : X.K = K := by rfl) :
    E X m o (.Call (.Name x p) (ex :: es) [] pos) (tCallG (spV K o ps.length (liftF g)) n 0 (dis.map V.int) pm t tNil) (lift (oCall g n 0 pm dis u (Op.ret []))) := by
  subst hK; rw [lift_Call, lift_ret]; exact e_call F hga hr hg hm hkp hb ha hp hin hdb he hpl
theorem d_callPK (F : FnG X.prog X.w K X.mg X.base k f fd ps (spV K o ps.length (liftF g))) (hga : X.A.guards = some []) (hr : Room k X.A) (hg : Gl X x) (hm : X.mg x = some (.ref f)) (hkp : PySem.W.keepIn X.K (.ref f) = true) (hb : KB X.K fd ps n ks (dis.map V.int) pm) (ha : As X m (ex :: es) t (lift u)) (hkw : Ks X m kws tk (lift uk))
    (hp : pm.length = ps.length := by rfl) (hin : ∀ i ∈ pm, i < n + ks.length + dis.length := by decide)
    (hall : (backToKw pos (keywordEach kws X.env)).all (·.1.isSome) = true := by rfl) (hks : (backToKw pos (keywordEach kws X.env)).filterMap (·.1) = ks := by rfl)
    (hdb : (x == ("__debug__" : Str)) = false := by decide) (he : starEach (ex :: es) X.env = (false, eval ex X.env) :: starEach es X.env := by rfl)
    (hpl : ((backTo pos (starEach (ex :: es) X.env)).any (·.1) || (backToKw pos (keywordEach kws X.env)).any (·.1.isNone)) = false := by rfl) (hK : X.K = K := by rfl) :
    E X m o (.Call (.Name x p) (ex :: es) kws pos) (tCallG (spV K o ps.length (liftF g)) n ks.length (dis.map V.int) pm t tk) (lift (oCall g n ks.length pm dis u uk)) := by
  subst hK; rw [lift_Call]; exact e_callPK F hga hr hg hm hkp hb ha hkw hp hin hall hks hdb he hpl
theorem d_callK (F : FnG X.prog X.w K X.mg X.base k f fd ps (spV K o ps.length (liftF g))) (hga : X.A.guards = some []) (hr : Room k X.A) (hg : Gl X x) (hm : X.mg x = some (.ref f)) (hkp : PySem.W.keepIn X.K (.ref f) = true) (hb : KB X.K fd ps 0 ks (dis.map V.int) pm) (hkw : Ks X m kws tk (lift uk))
    (hp : pm.length = ps.length := by rfl) (hin : ∀ i ∈ pm, i < 0 + ks.length + dis.length := by decide)
    (hall : (backToKw pos (keywordEach kws X.env)).all (·.1.isSome) = true := by rfl) (hks : (backToKw pos (keywordEach kws X.env)).filterMap (·.1) = ks := by rfl)
    (hdb : (x == ("__debug__" : Str)) = false := by decide)
    (hpl : ((backTo pos (starEach [] X.env)).any (·.1) || (backToKw pos (keywordEach kws X.env)).any (·.1.isNone)) = false := by rfl) (hK : X.K = K := by rfl) :
    E X m o (.Call (.Name x p) [] kws pos) (tCallG (spV K o ps.length (liftF g)) 0 ks.length (dis.map V.int) pm tNil tk) (lift (oCall g 0 ks.length pm dis (Op.ret []) uk)) := by
  subst hK; rw [lift_Call, lift_ret]; exact e_callK F hga hr hg hm hkp hb hkw hp hin hall hks hdb hpl
end
end Vl
/-! The value layer, 8: statements, targets, a def from its body. -/
namespace Vl
open PySem PySem.Spec PyProof.Rows L2

/-- how a statement ends -/
inductive Fl where
  | nx
  | bk
  | ct
  | rt (d : D)
def SndS (K : PySem.W.Frag) (o : Bool) (t : TS) (w : Wp Fl) : Prop :=
  ∀ H0 Z0 σ H e P k (Dn : Ends), SR K H0 Z0 σ H e P [] → w e k → (∀ σ' H' e', SR K H0 Z0 σ' H' e' P [] → k .nx e' → Dn.nx σ' H') → (∀ σ' H' e', SR K H0 Z0 σ' H' e' P [] → k .bk e' → Dn.bk σ' H') →
    (∀ σ' H' e', SR K H0 Z0 σ' H' e' P [] → k .ct e' → Dn.ct σ' H') → (∀ σ' v d H' e', SRo K H0 Z0 σ' H' e' o v d [] [] → k (.rt d) e' → Dn.rt v H') → t Dn σ H
structure St1 (X : Cx) (o : Bool) (st : Stmt) (t : TS) (w : Wp Fl) : Prop where
  ps : PS X st t
  snd : SndS X.K o t w
structure Sts (X : Cx) (o : Bool) (st : List Stmt) (t : TS) (w : Wp Fl) : Prop where
  ps : PSs X st t
  snd : SndS X.K o t w
def SndG (K : PySem.W.Frag) (m : Bool) (is : List Nat) (g : TG) (γ : D → Sto → Option Sto) : Prop :=
  ∀ H0 Z0 σ H e P PW v d e' Q, SR K H0 Z0 σ H e ((v, d) :: P) PW → γ d e = some e' → (∀ σ' H', SR K H0 Z0 σ' H' e' P PW → (m = false → H' = H) → (∀ j, j ∉ is → σ'[j]? = σ[j]?) → Q σ' H') → g v σ H Q
structure Tg (X : Cx) (m : Bool) (is : List Nat) (tg : Expr) (g : TG) (γ : D → Sto → Option Sto) : Prop where
  pg : PG X tg g
  snd : SndG X.K m is g γ
def SndGs (K : PySem.W.Frag) (m : Bool) (is : List Nat) (g : TGs) (γ : List D → Sto → Option Sto) : Prop :=
  ∀ H0 Z0 σ H e P PW vs ds e' Q, vs.length = ds.length → SR K H0 Z0 σ H e (vs.zip ds ++ P) PW → γ ds e = some e' → (∀ σ' H', SR K H0 Z0 σ' H' e' P PW → (m = false → H' = H) → (∀ j, j ∉ is → σ'[j]? = σ[j]?) → Q σ' H') → g vs σ H Q
structure Tgs (X : Cx) (m : Bool) (is : List Nat) (tg : List Expr) (g : TGs) (γ : List D → Sto → Option Sto) : Prop where
  pg : PGs X tg g
  snd : SndGs X.K m is g γ

/-! ### meanings -/
def wSeq (w u : Wp Fl) : Wp Fl := Wp.bd w fun f => match f with
  | .nx => u
  | f => Wp.ret f
def oSeq (w u : Op Fl) : Op Fl := Op.bd w fun f => match f with
  | .nx => u
  | f => Op.ret f
theorem lift_Seq (f g : Op Fl) : lift (oSeq f g) = wSeq (lift f) (lift g) := by
  simp only [oSeq, wSeq, lift_bd]
  congr 1
  funext r
  cases r <;> simp [lift_ret]
/-- the state is changed -/
def Wp.md (g : Sto → Option Sto) : Wp Fl := fun e k => ∃ e', g e = some e' ∧ k .nx e'
def Op.md (g : Sto → Option Sto) : Op Fl := fun e => (g e).map fun e' => (.nx, e')
theorem lift_md (g : Sto → Option Sto) : lift (Op.md g) = Wp.md g := by
  funext e k
  simp only [lift, Op.md, Wp.md]
  cases h : g e with
  | none => simp
  | some r => simp
/-- a value in a slot -/
def slotOf (o : Bool) (d : D) : Slot := match o, d with
  | false, d => .fz d
  | true, .list ds => .ow ds
  | true, _ => .un
def wSet (i : Nat) (o : Bool) (w : Wp D) : Wp Fl := Wp.bd w fun d => Wp.md fun e => if i < e.length then some (e.set i (slotOf o d)) else none
def oSet (i : Nat) (o : Bool) (w : Op D) : Op Fl := Op.bd w fun d => Op.md fun e => if i < e.length then some (e.set i (slotOf o d)) else none
theorem lift_Set (i : Nat) (o : Bool) (f : Op D) : lift (oSet i o f) = wSet i o (lift f) := by simp only [oSet, wSet, lift_bd, lift_md]
def wRet (w : Wp D) : Wp Fl := Wp.bd w fun d => Wp.ret (.rt d)
def oRet (w : Op D) : Op Fl := Op.bd w fun d => Op.ret (.rt d)
theorem lift_Ret (f : Op D) : lift (oRet f) = wRet (lift f) := by simp only [oRet, wRet, lift_bd, lift_ret]
def wDo (w : Wp D) : Wp Fl := Wp.bd w fun _ => Wp.ret .nx
def oDo (w : Op D) : Op Fl := Op.bd w fun _ => Op.ret .nx
theorem lift_Do (f : Op D) : lift (oDo f) = wDo (lift f) := by simp only [oDo, wDo, lift_bd, lift_ret]
def wNo {α : Type} : Wp α := fun _ _ => False
def oNo {α : Type} : Op α := fun _ => none
theorem lift_No {α : Type} : lift (oNo : Op α) = wNo := by
  funext e k
  simp [lift, oNo, wNo]

section
variable {K : PySem.W.Frag} {H H' H0 : Hp} {Z Z' Z0 : Addr → Prop} {σ : L2.St} {e e' : Sto} {P P' : List (V × D)} {PW : List (Addr × List D)}
variable {X : Cx} {m m2 o o2 : Bool} {a b c : Expr} {es : List Expr} {ta tb tc : TE} {t u : TS} {tt : TT} {wa wb : Wp D} {fa fb : Op D} {w w2 w3 : Wp Fl} {f f2 f3 : Op Fl} {wt : Wp Bool} {ft : Op Bool} {pos p : Pos} {x : Str} {st : Stmt} {sts sts2 : List Stmt}
/-! ### blocks -/
theorem ss_nil : Sts X o [] tNext (Wp.ret .nx) := ⟨pss_nil, fun H0 Z0 σ H e P k Dn S h q _ _ _ => q σ H e S h⟩
theorem snd_seq (h1 : SndS K o t w) (h2 : SndS K o u w2) : SndS K o (tSeq t u) (wSeq w w2) := by
  intro H0 Z0 σ H e P k Dn S h qn qb qc qr
  exact h1 H0 Z0 σ H e P _ { Dn with nx := u Dn } S h (fun σ' H' e' S' h' => h2 H0 Z0 σ' H' e' P k Dn S' h' qn qb qc qr) (fun σ' H' e' S' h' => qb σ' H' e' S' h') (fun σ' H' e' S' h' => qc σ' H' e' S' h') fun σ' v d H' e' S' h' => qr σ' v d H' e' S' h'
theorem ss_cons (h1 : St1 X o st t w) (h2 : Sts X o sts u w2) : Sts X o (st :: sts) (tSeq t u) (wSeq w w2) := ⟨pss_cons h1.ps h2.ps, snd_seq h1.snd h2.snd⟩
theorem ss_one (h1 : St1 X o st t w) : Sts X o [st] t w := ⟨pss_one h1.ps, h1.snd⟩
theorem dss_nil : Sts X o [] tNext (lift (Op.ret .nx)) := by rw [lift_ret]; exact ss_nil
theorem dss_cons (h1 : St1 X o st t (lift f)) (h2 : Sts X o sts u (lift f2)) : Sts X o (st :: sts) (tSeq t u) (lift (oSeq f f2)) := by rw [lift_Seq]; exact ss_cons h1 h2
theorem dss_one (h1 : St1 X o st t (lift f)) : Sts X o [st] t (lift f) := ss_one h1
/-- never reached -/
theorem s_never : St1 X o st tNever wNo := ⟨ps_never, fun _ _ _ _ _ _ _ _ _ h _ _ _ _ => h.elim⟩
theorem ss_never : Sts X o sts tNever wNo := ⟨pss_never, fun _ _ _ _ _ _ _ _ _ h _ _ _ _ => h.elim⟩
theorem ds_never : St1 X o st tNever (lift oNo) := by rw [lift_No]; exact s_never
theorem dss_never : Sts X o sts tNever (lift oNo) := by rw [lift_No]; exact ss_never
theorem s_pass : St1 X o (.Pass pos) tNext (Wp.ret .nx) := ⟨ps_pass, fun H0 Z0 σ H e P k Dn S h q _ _ _ => q σ H e S h⟩
theorem s_break : St1 X o (.Break pos) tBreak (Wp.ret .bk) := ⟨ps_break, fun H0 Z0 σ H e P k Dn S h _ q _ _ => q σ H e S h⟩
theorem s_cont : St1 X o (.Continue pos) tCont (Wp.ret .ct) := ⟨ps_continue, fun H0 Z0 σ H e P k Dn S h _ _ q _ => q σ H e S h⟩
theorem ds_pass : St1 X o (.Pass pos) tNext (lift (Op.ret .nx)) := by rw [lift_ret]; exact s_pass
theorem ds_break : St1 X o (.Break pos) tBreak (lift (Op.ret .bk)) := by rw [lift_ret]; exact s_break
theorem ds_cont : St1 X o (.Continue pos) tCont (lift (Op.ret .ct)) := by rw [lift_ret]; exact s_cont
theorem s_expr (ha : E X true false a ta wa) (hs : swapsWith a none pos.line X.env = pure false := by rfl) : St1 X o (.Expr a pos) (tDrop ta) (wDo wa) := by
  refine ⟨ps_expr ha.pe hs, ?_⟩
  intro H0 Z0 σ H e P k Dn S h q _ _ _
  exact ha.snd H0 Z0 σ H e P [] _ _ S h fun v d e1 H1 _ S1 h1 => q σ H1 e1 (SR.tl S1) h1
theorem ds_expr (ha : E X true false a ta (lift fa)) (hs : swapsWith a none pos.line X.env = pure false := by rfl) : St1 X o (.Expr a pos) (tDrop ta) (lift (oDo fa)) := by rw [lift_Do]; exact s_expr ha hs
theorem SRo.nil {v : V} {d : D} (S : SRo K H0 Z0 σ H e o v d P PW) : SRo K H0 Z0 σ H e o v d [] [] := by
  cases o with
  | false =>
    have S : SR K H0 Z0 σ H e ((v, d) :: P) PW := S
    exact (S.sub (P' := [(v, d)]) (fun p h => by
      rcases List.mem_cons.mp h with h | h
      · exact h ▸ List.mem_cons_self
      · cases h)).dropW (List.nil_sublist _)
  | true =>
    obtain ⟨a, ds, e1, e2, S⟩ := S
    exact ⟨a, ds, e1, e2, (S.sub (P' := []) (fun p h => (nomatch h))).dropW (List.Sublist.cons_cons _ (List.nil_sublist _))⟩
theorem s_ret (ha : E X true o a ta wa) : St1 X o (.Return (some a) pos) (tRet ta) (wRet wa) := by
  refine ⟨ps_ret ha.pe, ?_⟩
  intro H0 Z0 σ H e P k Dn S h _ _ _ q
  exact ha.snd H0 Z0 σ H e P [] _ _ S h fun v d e1 H1 _ S1 h1 => q σ v d H1 e1 S1.nil h1
theorem ds_ret (ha : E X true o a ta (lift fa)) : St1 X o (.Return (some a) pos) (tRet ta) (lift (oRet fa)) := by rw [lift_Ret]; exact s_ret ha
theorem s_retN : St1 X false (.Return none pos) tRetN (Wp.ret (.rt .none)) := ⟨ps_retN, fun H0 Z0 σ H e P k Dn S h _ _ _ q => q σ .non .none H e (SRo.nil (o := false) (S.addP fun _ => .non)) h⟩
theorem ds_retN : St1 X false (.Return none pos) tRetN (lift (Op.ret (.rt .none))) := by rw [lift_ret]; exact s_retN
/-- return x, x a list of this frame's -/
def oTake (i : Nat) : Op D := fun e => (getO e i).map fun ds => (.list ds, e.set i .un)
theorem e_take (i : Nat) {x : Str} (hN : X.N[i]? = some x := by rfl) (hv : Vis X.env.scope x := by first | exact Or.inl rfl | exact Or.inr (Or.inl rfl) | exact Or.inr (Or.inr rfl)) (hd : (x == ("__debug__" : Str)) = false := by decide)
    (hcd : (x == ("__classdict__" : Str)) = false := by decide) : E X true true (.Name x pos) (tVar i) (lift (oTake i)) := by
  refine ⟨pe_var hN hv hd hcd, ?_⟩
  intro H0 Z0 σ H e P PW k Q S h q
  obtain ⟨r, h1, hk⟩ := h
  obtain ⟨ds, h2, rfl⟩ := Option.map_eq_some_iff.mp h1
  obtain ⟨a, h3, S'⟩ := S.take h2
  exact ⟨_, h3, q _ _ _ H (fun z => (nomatch z)) ⟨a, ds, rfl, rfl, S'⟩ hk⟩
/-! ### if, assignments -/
theorem snd_if (hc : SndT K true tt wt) (h1 : SndS K o t w) (h2 : SndS K o u w2) : SndS K o (tIfS tt t u) (wIf wt w w2) := by
  intro H0 Z0 σ H e P k Dn S h qn qb qc qr
  refine hc H0 Z0 σ H e P [] _ _ S h fun c e1 H1 _ S1 hk => ?_
  cases c with
  | true => exact iteT (h1 H0 Z0 σ H1 e1 P k Dn S1 (by simpa using hk) qn qb qc qr)
  | false => exact iteF (h2 H0 Z0 σ H1 e1 P k Dn S1 (by simpa using hk) qn qb qc qr)
theorem s_if (hc : T X true a tt wt) (h1 : Sts X o sts t w) (h2 : Sts X o sts2 u w2) : St1 X o (.If a sts sts2 pos) (tIfS tt t u) (wIf wt w w2) := ⟨ps_if hc.pt h1.ps h2.ps, snd_if hc.snd h1.snd h2.snd⟩
theorem ds_if (hc : T X true a tt (lift ft)) (h1 : Sts X o sts t (lift f)) (h2 : Sts X o sts2 u (lift f2)) : St1 X o (.If a sts sts2 pos) (tIfS tt t u) (lift (oIf ft f f2)) := by rw [lift_If]; exact s_if hc h1 h2
theorem SR.permW {PW' : List (Addr × List D)} (S : SR K H0 Z0 σ H e P PW) (p : PW'.Perm PW) : SR K H0 Z0 σ H e P PW' := by
  obtain ⟨Z, F, W, s, S⟩ := S
  exact ⟨Z, F, W, s, Sta.perm S (p.append_right W)⟩
theorem SRo.set {i : Nat} {v : V} {d : D} (S : SRo K H0 Z0 σ H e o v d P PW) (hi : i < e.length) : SR K H0 Z0 (σ.set i (some v)) H (e.set i (slotOf o d)) P PW := by
  cases o with
  | false => exact SR.setF S
  | true =>
    obtain ⟨a, ds, rfl, rfl, S⟩ := S
    exact SR.setO S hi
theorem snd_set {i : Nat} (ha : SndE K true o ta wa) : SndS K o2 (tAsg ta (gName i)) (wSet i o wa) := by
  intro H0 Z0 σ H e P k Dn S h q _ _ _
  refine ha H0 Z0 σ H e P [] _ _ S h fun v d e1 H1 _ S1 h1 => ?_
  obtain ⟨e2, h2, hk⟩ := h1
  dsimp only at h2
  by_cases hi : i < e1.length
  · rw [if_pos hi] at h2
    have h2 := Option.some.inj h2
    subst h2
    exact q _ H1 _ (S1.set hi) hk
  · rw [if_neg hi] at h2; cases h2
theorem s_set {i : Nat} {pos' : Pos} (hN : X.N.Nodup) (ha : E X true o a ta wa) (hi : X.N[i]? = some x := by rfl) (hx : Loc X.env.scope x := by first | exact Or.inl rfl | exact Or.inr rfl) (hs : swapsWith a (some (.Name x pos')) pos.line X.env = pure false := by rfl)
    (hf : X.fn x = true ∨ X.env.scope.names.lookup x = some .local := by first | exact .inl rfl | exact .inr rfl | assumption) : St1 X o2 (.Assign [.Name x pos'] a pos) (tAsg ta (gName i)) (wSet i o wa) :=
  ⟨ps_set hN hi hx ha.pe hs hf, snd_set ha.snd⟩
theorem ds_set {i : Nat} {pos' : Pos} (hN : X.N.Nodup) (ha : E X true o a ta (lift fa)) (hi : X.N[i]? = some x := by rfl) (hx : Loc X.env.scope x := by first | exact Or.inl rfl | exact Or.inr rfl) (hs : swapsWith a (some (.Name x pos')) pos.line X.env = pure false := by rfl)
    (hf : X.fn x = true ∨ X.env.scope.names.lookup x = some .local := by first | exact .inl rfl | exact .inr rfl | assumption) : St1 X o2 (.Assign [.Name x pos'] a pos) (tAsg ta (gName i)) (lift (oSet i o fa)) := by
  rw [lift_Set]; exact s_set hN ha hi hx hs hf
/-! a slot is frozen ahead of a statement -/
def frzAt (i : Nat) (e : Sto) : Option Sto := (getO e i).map fun ds => e.set i (.fz (.list ds))
theorem s_frz (i : Nat) (h : St1 X o st t w) : St1 X o st t (wSeq (Wp.md (frzAt i)) w) := by
  refine ⟨h.ps, ?_⟩
  intro H0 Z0 σ H e P k Dn S hw qn qb qc qr
  obtain ⟨e1, h1, hk⟩ := hw
  obtain ⟨ds, h2, rfl⟩ := Option.map_eq_some_iff.mp h1
  exact h.snd H0 Z0 σ H _ P k Dn (S.freeze h2) hk qn qb qc qr
theorem ds_frz (i : Nat) (h : St1 X o st t (lift f)) : St1 X o st t (lift (oSeq (Op.md (frzAt i)) f)) := by rw [lift_Seq, lift_md]; exact s_frz i h
/-! ### targets -/
variable {is is2 : List Nat} {g g2 : TG} {gs : TGs} {γ γ2 : D → Sto → Option Sto} {γs : List D → Sto → Option Sto}
def gmName (i : Nat) : D → Sto → Option Sto := fun d e => some (e.set i (.fz d))
def gmNil : List D → Sto → Option Sto := fun ds e => match ds with
  | [] => some e
  | _ => none
def gmCons (γ : D → Sto → Option Sto) (γs : List D → Sto → Option Sto) : List D → Sto → Option Sto := fun ds e => match ds with
  | d :: ds => (γ d e).bind (γs ds)
  | [] => none
def gmTup (n : Nat) (γs : List D → Sto → Option Sto) : D → Sto → Option Sto := fun d e => match d with
  | .tuple ds => if ds.length = n then γs ds e else none
  | .dict [(.tuple ds, .none)] => if ds.length = n then γs ds e else none
  | _ => none
theorem snd_name (i : Nat) : SndG K m [i] (gName i) (gmName i) := by
  intro H0 Z0 σ H e P PW v d e' Q S h q
  have h : e.set i (.fz d) = e' := Option.some.inj h
  subst h
  exact q _ H S.setF (fun _ => rfl) fun j hj => List.getElem?_set_ne fun z => hj (by simp [z])
theorem tg_name {i : Nat} (hN : X.N.Nodup) (hi : X.N[i]? = some x := by rfl) (hx : Loc X.env.scope x := by first | exact Or.inl rfl | exact Or.inr rfl) (hf : X.fn x = true ∨ X.env.scope.names.lookup x = some .local := by first | exact .inl rfl | exact .inr rfl | assumption) :
    Tg X m [i] (.Name x pos) (gName i) (gmName i) := ⟨pg_name hN hi hx hf, snd_name i⟩
theorem tgs_nil : Tgs X m [] [] gNil gmNil := by
  refine ⟨pgs_nil, ?_⟩
  intro H0 Z0 σ H e P PW vs ds e' Q hl S h q
  cases ds with
  | nil =>
    have h : e = e' := Option.some.inj h
    subst h
    obtain rfl := List.length_eq_zero_iff.mp hl
    exact ⟨rfl, q σ H S (fun _ => rfl) fun _ _ => rfl⟩
  | cons _ _ => cases h
theorem snd_cons (h1 : SndG K m is g γ) (h2 : SndGs K m is2 gs γs) : SndGs K m (is ++ is2) (gCons g gs) (gmCons γ γs) := by
  intro H0 Z0 σ H e P PW vs ds e' Q hl S h q
  cases ds with
  | nil => cases h
  | cons d ds =>
    cases vs with
    | nil => simp at hl
    | cons v vs =>
      obtain ⟨e1, he1, he2⟩ := Option.bind_eq_some_iff.mp h
      refine ⟨v, vs, rfl, h1 H0 Z0 σ H e (vs.zip ds ++ P) PW v d e1 _ (by rw [List.zip_cons_cons] at S; exact S) he1 fun σ1 H1 S1 hh hj => ?_⟩
      refine h2 H0 Z0 σ1 H1 e1 P PW vs ds e' _ (by simpa using hl) S1 he2 fun σ2 H2 S2 hh2 hj2 => q σ2 H2 S2 (fun z => (hh2 z).trans (hh z)) fun j hj' => ?_
      rw [List.mem_append, not_or] at hj'
      exact (hj2 j hj'.2).trans (hj j hj'.1)
theorem tgs_cons (h1 : Tg X m is a g γ) (h2 : Tgs X m is2 es gs γs) (hs : (assignEach (a :: es) X.env).map (·.2) = assign a X.env :: (assignEach es X.env).map (·.2) := by rfl) : Tgs X m (is ++ is2) (a :: es) (gCons g gs) (gmCons γ γs) :=
  ⟨pgs_cons h1.pg h2.pg hs, snd_cons h1.snd h2.snd⟩
theorem snd_gtup {n : Nat} (h : SndGs K m is gs γs) : SndG K m is (gTup K n gs) (gmTup n γs) := by
  intro H0 Z0 σ H e P PW v d e' Q S hg q
  cases d with
  | tuple ds =>
    have hg : (if ds.length = n then γs ds e else none) = some e' := hg
    by_cases hn : ds.length = n
    · rw [if_pos hn] at hg
      obtain ⟨a, vs, rfl, h1, h2, S1⟩ := S.openT
      exact ⟨a, vs, rfl, h1.sqT, h2.trans hn, h H0 Z0 σ H e P PW vs ds e' Q h2 S1 hg q⟩
    · rw [if_neg hn] at hg; cases hg
  | dict l =>
    match l, S, hg with
    | [(.tuple ds, .none)], S, hg =>
      have hg : (if ds.length = n then γs ds e else none) = some e' := hg
      by_cases hn : ds.length = n
      · rw [if_pos hn] at hg
        obtain ⟨a, vs, rfl, h1, h2, S1⟩ := SR.openP S
        exact ⟨a, vs, rfl, h1, h2.trans hn, h H0 Z0 σ H e P PW vs ds e' Q h2 S1 hg q⟩
      · rw [if_neg hn] at hg; cases hg
  | _ => cases hg
theorem tg_tup {n k : Nat} (hc : X.calm = true) (h : Tgs X m is es gs γs) (hn : (assignEach es X.env).length = n := by rfl) (hst : (assignEach es X.env).findIdx? (·.1) = none := by rfl) : Tg X m is (.Tuple es k pos) (gTup X.K n gs) (gmTup n γs) :=
  ⟨pg_tup hc h.pg hn hst, snd_gtup h.snd⟩
/-- target = value -/
def wAsg (γ : D → Sto → Option Sto) (w : Wp D) : Wp Fl := Wp.bd w fun d => Wp.md fun e => γ d e
def oAsg (γ : D → Sto → Option Sto) (w : Op D) : Op Fl := Op.bd w fun d => Op.md fun e => γ d e
theorem lift_Asg (γ : D → Sto → Option Sto) (f : Op D) : lift (oAsg γ f) = wAsg γ (lift f) := by simp only [oAsg, wAsg, lift_bd, lift_md]
theorem snd_asg (ha : SndE K true false ta wa) (hg : SndG K true is g γ) : SndS K o (tAsg ta g) (wAsg γ wa) := by
  intro H0 Z0 σ H e P k Dn S h q _ _ _
  refine ha H0 Z0 σ H e P [] _ _ S h fun v d e1 H1 _ S1 h1 => ?_
  obtain ⟨e2, h2, hk⟩ := h1
  exact hg H0 Z0 σ H1 e1 P [] v d e2 _ S1 h2 fun σ' H' S' _ _ => q σ' H' e2 S' hk
theorem s_asg {tg : Expr} (ha : E X true false a ta wa) (hg : Tg X true is tg g γ) (hs : swapsWithSole [tg] a pos.line X.env = pure false := by rfl) (hw : swappedStores [tg] a X.env = pure none := by rfl)
    (h1 : (assignEach [tg] X.env).map (·.2) = [assign tg X.env] := by rfl) : St1 X o (.Assign [tg] a pos) (tAsg ta g) (wAsg γ wa) := ⟨ps_asg ha.pe hg.pg hs hw h1, snd_asg ha.snd hg.snd⟩
theorem ds_asg {tg : Expr} (ha : E X true false a ta (lift fa)) (hg : Tg X true is tg g γ) (hs : swapsWithSole [tg] a pos.line X.env = pure false := by rfl) (hw : swappedStores [tg] a X.env = pure none := by rfl)
    (h1 : (assignEach [tg] X.env).map (·.2) = [assign tg X.env] := by rfl) : St1 X o (.Assign [tg] a pos) (tAsg ta g) (lift (oAsg γ fa)) := by rw [lift_Asg]; exact s_asg ha hg hs hw h1
end
end Vl
/-! The value layer, 9: several names at once, lists that are changed, loops. -/
namespace Vl
open PySem PySem.Spec PyProof.Rows L2
section
variable {K : PySem.W.Frag} {H H' H0 : Hp} {Z Z' Z0 : Addr → Prop} {σ : L2.St} {e e' : Sto} {P P' : List (V × D)} {PW : List (Addr × List D)}
variable {X : Cx} {m m2 o o2 : Bool} {a b c : Expr} {es : List Expr} {ta tb tc : TE} {t u : TS} {tas : TA} {tt : TT} {wa wb : Wp D} {fa fb : Op D} {w w2 w3 : Wp Fl} {f f2 f3 : Op Fl} {wt : Wp Bool} {ft : Op Bool} {pos p : Pos} {x y z : Str} {st : Stmt} {sts sts2 : List Stmt} {os : List Bool} {ws : Wp (List D)} {fs : Op (List D)}
/-! ### values at hand, of both kinds -/
structure It3 where
  o : Bool
  v : V
  d : D
def It3.ok (i : It3) : Prop := i.o = true → ∃ a ds, i.v = .ref a ∧ i.d = .list ds
def fzs : List It3 → List (V × D)
  | [] => []
  | ⟨false, v, d⟩ :: r => (v, d) :: fzs r
  | ⟨true, _, _⟩ :: r => fzs r
def ows : List It3 → List (Addr × List D)
  | [] => []
  | ⟨true, .ref a, .list ds⟩ :: r => (a, ds) :: ows r
  | _ :: r => ows r
def SndAO (K : PySem.W.Frag) (m : Bool) (os : List Bool) (t : TA) (w : Wp (List D)) : Prop :=
  ∀ H0 Z0 σ H e P PW k Q, SR K H0 Z0 σ H e P PW → w e k → (∀ is e' H', (m = false → e' = e ∧ Same H H') → is.map It3.o = os → (∀ i ∈ is, It3.ok i) → SR K H0 Z0 σ H' e' (fzs is ++ P) (ows is ++ PW) → k (is.map It3.d) e' → Q (is.map It3.v) H') → t σ H Q
structure AsO (X : Cx) (m : Bool) (os : List Bool) (es : List Expr) (t : TA) (w : Wp (List D)) : Prop where
  pa : PA X es t
  snd : SndAO X.K m os t w
theorem ao_nil : AsO X m [] [] tNil (Wp.ret []) := ⟨pa_nil, fun H0 Z0 σ H e P PW k Q S h q => q [] e H (fun _ => ⟨rfl, Same.refl _⟩) rfl (fun _ h => (nomatch h)) S h⟩
theorem ao_cons (ha : E X m o a ta wa) (hs : AsO X m os es tas ws) (hst : starEach (a :: es) X.env = (false, eval a X.env) :: starEach es X.env := by rfl) : AsO X m (o :: os) (a :: es) (tCons ta tas) (wCons wa ws) := by
  refine ⟨pa_cons ha.pe hs.pa hst, ?_⟩
  intro H0 Z0 σ H e P PW k Q S h q
  refine ha.snd H0 Z0 σ H e P PW _ _ S h fun v d e1 H1 he S1 h1 => ?_
  cases o with
  | false =>
    refine hs.snd H0 Z0 σ H1 e1 ((v, d) :: P) PW _ _ S1 h1 fun is e2 H2 he2 ho hok S2 h2 => ?_
    refine q (⟨false, v, d⟩ :: is) e2 H2 (mf he he2) (by rw [List.map_cons, ho]) (fun i hi => (List.mem_cons.mp hi).elim (fun z => z ▸ fun e => (nomatch e)) (hok i)) (S2.subP fun r hr => ?_) h2
    rcases List.mem_cons.mp (show r ∈ (v, d) :: (fzs is ++ P) from hr) with hr | hr
    · exact hr ▸ List.mem_append_right _ List.mem_cons_self
    · exact (List.mem_append.mp hr).elim (fun z => List.mem_append_left _ z) fun z => List.mem_append_right _ (List.mem_cons_of_mem _ z)
  | true =>
    obtain ⟨ad, ds, rfl, rfl, S1⟩ := S1
    refine hs.snd H0 Z0 σ H1 e1 P ((ad, ds) :: PW) _ _ S1 h1 fun is e2 H2 he2 ho hok S2 h2 => ?_
    refine q (⟨true, .ref ad, .list ds⟩ :: is) e2 H2 (mf he he2) (by rw [List.map_cons, ho]) (fun i hi => (List.mem_cons.mp hi).elim (fun z => z ▸ fun _ => ⟨ad, ds, rfl, rfl⟩) (hok i)) (S2.permW ?_) h2
    exact (List.perm_middle (a := (ad, ds)) (l₁ := ows is) (l₂ := PW)).symm
theorem dao_nil : AsO X m [] [] tNil (lift (Op.ret [])) := by rw [lift_ret]; exact ao_nil
theorem dao_cons (ha : E X m o a ta (lift fa)) (hs : AsO X m os es tas (lift fs)) (hst : starEach (a :: es) X.env = (false, eval a X.env) :: starEach es X.env := by rfl) : AsO X m (o :: os) (a :: es) (tCons ta tas) (lift (oCons fa fs)) := by
  rw [lift_Cons]; exact ao_cons ha hs hst
def setsE : List Nat → List Bool → List D → Sto → Sto
  | i :: is, o :: os, d :: ds, e => setsE is os ds (e.set i (slotOf o d))
  | _, _, _, e => e
def setsV : List Nat → List V → L2.St → L2.St
  | i :: is, v :: vs, σ => setsV is vs (σ.set i (some v))
  | _, _, σ => σ
theorem SR.sets : ∀ {is : List It3} {js : List Nat} {σ : L2.St} {e : Sto}, (∀ i ∈ is, It3.ok i) → (∀ j ∈ js, j < e.length) → is.length = js.length → SR K H0 Z0 σ H e (fzs is ++ P) (ows is ++ PW) →
    SR K H0 Z0 (setsV js (is.map It3.v) σ) H (setsE js (is.map It3.o) (is.map It3.d) e) P PW
  | [], [], _, _, _, _, _, S => S
  | [], _ :: _, _, _, _, _, h, _ => by simp at h
  | _ :: _, [], _, _, _, _, h, _ => by simp at h
  | ⟨false, v, d⟩ :: is, j :: js, σ, e, hok, hj, hl, S => by
    have S1 : SR K H0 Z0 (σ.set j (some v)) H (e.set j (.fz d)) (fzs is ++ P) (ows is ++ PW) := SR.setF S
    exact SR.sets (is := is) (fun i hi => hok i (List.mem_cons_of_mem _ hi)) (fun i hi => by rw [List.length_set]; exact hj i (List.mem_cons_of_mem _ hi)) (by simpa using hl) S1
  | ⟨true, v, d⟩ :: is, j :: js, σ, e, hok, hj, hl, S => by
    obtain ⟨a, ds, ev, ed⟩ := hok _ List.mem_cons_self rfl
    have ev : v = .ref a := ev
    have ed : d = .list ds := ed
    subst ev ed
    have S1 : SR K H0 Z0 (σ.set j (some (.ref a))) H (e.set j (.ow ds)) (fzs is ++ P) (ows is ++ PW) := SR.setO (S.subP fun _ h => h) (hj j List.mem_cons_self)
    exact SR.sets (is := is) (fun i hi => hok i (List.mem_cons_of_mem _ hi)) (fun i hi => by rw [List.length_set]; exact hj i (List.mem_cons_of_mem _ hi)) (by simpa using hl) S1
def wPar (js : List Nat) (os : List Bool) (ws : Wp (List D)) : Wp Fl := Wp.bd ws fun ds => Wp.md fun e => if (∀ j ∈ js, j < e.length) then some (setsE js os ds e) else none
def oPar (js : List Nat) (os : List Bool) (ws : Op (List D)) : Op Fl := Op.bd ws fun ds => Op.md fun e => if (∀ j ∈ js, j < e.length) then some (setsE js os ds e) else none
theorem lift_Par (js : List Nat) (os : List Bool) (fs : Op (List D)) : lift (oPar js os fs) = wPar js os (lift fs) := by simp only [oPar, wPar, lift_bd, lift_md]
theorem snd_par {js : List Nat} {t : TS} (hl : os.length = js.length) (ha : SndAO K true os tas ws) (ht : ∀ σ H Dn, tas σ H (fun vs H1 => vs.length = js.length ∧ Dn.nx (setsV js vs σ) H1) → t Dn σ H) : SndS K o t (wPar js os ws) := by
  intro H0 Z0 σ H e P k Dn S h q _ _ _
  refine ht σ H Dn (ha H0 Z0 σ H e P [] _ _ S h fun is e1 H1 _ ho hok S1 h1 => ?_)
  obtain ⟨e2, h2, hk⟩ := h1
  dsimp only at h2
  have l : is.length = js.length := by rw [← hl, ← ho, List.length_map]
  by_cases hj : ∀ j ∈ js, j < e1.length
  · rw [if_pos hj] at h2
    have h2 := Option.some.inj h2
    subst h2
    refine ⟨by rw [List.length_map]; exact l, q _ H1 _ ?_ hk⟩
    rw [← ho]
    exact SR.sets hok hj l S1
  · rw [if_neg hj] at h2; cases h2
/-- a, b = x, y -/
theorem s_par2 {i j : Nat} {px py pt : Pos} {kt k2 pt2} (hc : X.calm = true) (hN : X.N.Nodup) (ha : AsO X true os [a, b] tas ws) (hl : os.length = 2 := by rfl) (hi : X.N[i]? = some x := by rfl) (hj : X.N[j]? = some y := by rfl) (hij : i ≠ j := by decide)
    (hx : X.env.scope.names.lookup x = some .local := by rfl) (hy : X.env.scope.names.lookup y = some .local := by rfl) (hw : swappedStores [.Tuple [.Name x px, .Name y py] kt pt] (.Tuple [a, b] k2 pt2) X.env = pure (some [x, y]) := by rfl)
    (hs : swapsWithSole [.Tuple [.Name x px, .Name y py] kt pt] (.Tuple [a, b] k2 pt2) pos.line X.env = pure false := by rfl) :
    St1 X o (.Assign [.Tuple [.Name x px, .Name y py] kt pt] (.Tuple [a, b] k2 pt2) pos) (tPar i j tas) (wPar [i, j] os ws) := by
  refine ⟨ps_par hc hN hi hj hij hx hy ha.pa hw hs, snd_par hl ha.snd fun σ H Dn h => ?_⟩
  show tas σ H _
  have e : (fun (vs : List V) (H1 : Hp) => ∃ v w, vs = [v, w] ∧ Dn.nx ((σ.set i (some v)).set j (some w)) H1) = fun vs H1 => vs.length = [i, j].length ∧ Dn.nx (setsV [i, j] vs σ) H1 := by
    funext vs H1
    apply propext
    constructor
    · rintro ⟨v, w, rfl, q⟩
      exact ⟨rfl, q⟩
    · rintro ⟨hl, q⟩
      match vs, hl, q with
      | [v, w], _, q => exact ⟨v, w, rfl, q⟩
  rw [e]
  exact h
theorem s_par3 {i j l : Nat} {px py pz pt : Pos} {kt k2 pt2} (hc : X.calm = true) (hN : X.N.Nodup) (ha : AsO X true os [a, b, c] tas ws) (hlo : os.length = 3 := by rfl) (hi : X.N[i]? = some x := by rfl) (hj : X.N[j]? = some y := by rfl) (hl : X.N[l]? = some z := by rfl) (hij : i ≠ j := by decide) (hil : i ≠ l := by decide) (hjl : j ≠ l := by decide)
    (hx : X.env.scope.names.lookup x = some .local := by rfl) (hy : X.env.scope.names.lookup y = some .local := by rfl) (hz : X.env.scope.names.lookup z = some .local := by rfl)
    (hw : swappedStores [.Tuple [.Name x px, .Name y py, .Name z pz] kt pt] (.Tuple [a, b, c] k2 pt2) X.env = pure (some [x, y, z]) := by rfl)
    (hs : swapsWithSole [.Tuple [.Name x px, .Name y py, .Name z pz] kt pt] (.Tuple [a, b, c] k2 pt2) pos.line X.env = pure false := by rfl) :
    St1 X o (.Assign [.Tuple [.Name x px, .Name y py, .Name z pz] kt pt] (.Tuple [a, b, c] k2 pt2) pos) (tPar3 i j l tas) (wPar [i, j, l] os ws) := by
  refine ⟨ps_par3 hc hN hi hj hl hij hil hjl hx hy hz ha.pa hw hs, snd_par hlo ha.snd fun σ H Dn h => ?_⟩
  show tas σ H _
  have e : (fun (vs : List V) (H1 : Hp) => ∃ u v w, vs = [u, v, w] ∧ Dn.nx (((σ.set i (some u)).set j (some v)).set l (some w)) H1) = fun vs H1 => vs.length = [i, j, l].length ∧ Dn.nx (setsV [i, j, l] vs σ) H1 := by
    funext vs H1
    apply propext
    constructor
    · rintro ⟨u, v, w, rfl, q⟩
      exact ⟨rfl, q⟩
    · rintro ⟨hl, q⟩
      match vs, hl, q with
      | [u, v, w], _, q => exact ⟨u, v, w, rfl, q⟩
  rw [e]
  exact h
/-- names, one behind another -/
def gNms : List Nat → TGs
  | [] => gNil
  | i :: is => gCons (gName i) (gNms is)
theorem gNms_sets : ∀ {js : List Nat} {vs : List V} {σ : L2.St} {H : Hp} {Q : L2.St → Hp → Prop}, vs.length = js.length → Q (setsV js vs σ) H → gNms js vs σ H Q
  | [], [], _, _, _, _, q => ⟨rfl, q⟩
  | [], _ :: _, _, _, _, h, _ => by simp at h
  | _ :: _, [], _, _, _, h, _ => by simp at h
  | j :: js, v :: vs, σ, H, Q, h, q => ⟨v, vs, rfl, gNms_sets (js := js) (by simpa using h) q⟩
structure Nms (X : Cx) (js : List Nat) (ts : List Expr) : Prop where
  pg : PGs X ts (gNms js)
theorem nms_nil : Nms X [] [] := ⟨pgs_nil⟩
theorem nms_cons {i : Nat} {js : List Nat} (hN : X.N.Nodup) (h : Nms X js es) (hi : X.N[i]? = some x := by rfl) (hx : Loc X.env.scope x := by first | exact Or.inl rfl | exact Or.inr rfl) (hf : X.fn x = true ∨ X.env.scope.names.lookup x = some .local := by first | exact .inl rfl | exact .inr rfl | assumption)
    (hs : (assignEach (.Name x pos :: es) X.env).map (·.2) = assign (.Name x pos) X.env :: (assignEach es X.env).map (·.2) := by rfl) : Nms X (i :: js) (.Name x pos :: es) := ⟨pgs_cons (pg_name hN hi hx hf) h.pg hs⟩
/-- a, b, .. = x, y, .. by way of a tuple -/
theorem s_parG {js : List Nat} {ts : List Expr} {kt k2 pt pt2} (hc : X.calm = true) (ha : AsO X true os es tas ws) (hn : Nms X js ts) (hl : os.length = js.length := by rfl) (hsz : js.length ≤ 1000 := by decide) (hlen : (assignEach ts X.env).length = js.length := by rfl) (hst : (assignEach ts X.env).findIdx? (·.1) = none := by rfl)
    (hs : swapsWithSole [.Tuple ts kt pt] (.Tuple es k2 pt2) pos.line X.env = pure false := by rfl) (hw : swappedStores [.Tuple ts kt pt] (.Tuple es k2 pt2) X.env = pure none := by rfl)
    (h1 : (assignEach [.Tuple ts kt pt] X.env).map (·.2) = [assign (.Tuple ts kt pt) X.env] := by rfl) : St1 X o (.Assign [.Tuple ts kt pt] (.Tuple es k2 pt2) pos) (tAsg (tTup tas) (gTup X.K js.length (gNms js))) (wPar js os ws) := by
  refine ⟨ps_asg (pe_tup ha.pa) (pg_tup hc hn.pg hlen hst) hs hw h1, ?_⟩
  intro H0 Z0 σ H e P k Dn S h q _ _ _
  show tas σ H _
  refine ha.snd H0 Z0 σ H e P [] _ _ S h fun is e1 H1 _ ho hok S1 h1 => ?_
  obtain ⟨e2, h2, hk⟩ := h1
  dsimp only at h2
  have l : is.length = js.length := by rw [← hl, ← ho, List.length_map]
  by_cases hj : ∀ j ∈ js, j < e1.length
  · rw [if_pos hj] at h2
    have h2 := Option.some.inj h2
    subst h2
    refine ⟨by rw [List.length_map, l]; exact Nat.le_of_lt (small1000 hsz), fun p np => ⟨p, is.map It3.v, rfl, .inl (.inl upd_same), by rw [List.length_map]; exact l, gNms_sets (by rw [List.length_map]; exact l) (q _ _ _ ?_ hk)⟩⟩
    rw [← ho]
    exact SR.sets hok hj l (S1.grow (same_upd np))
  · rw [if_neg hj] at h2; cases h2
theorem ds_par2 {i j : Nat} {px py pt : Pos} {kt k2 pt2} (hc : X.calm = true) (hN : X.N.Nodup) (ha : AsO X true os [a, b] tas (lift fs)) (hl : os.length = 2 := by rfl) (hi : X.N[i]? = some x := by rfl) (hj : X.N[j]? = some y := by rfl) (hij : i ≠ j := by decide)
    (hx : X.env.scope.names.lookup x = some .local := by rfl) (hy : X.env.scope.names.lookup y = some .local := by rfl) (hw : swappedStores [.Tuple [.Name x px, .Name y py] kt pt] (.Tuple [a, b] k2 pt2) X.env = pure (some [x, y]) := by rfl)
    (hs : swapsWithSole [.Tuple [.Name x px, .Name y py] kt pt] (.Tuple [a, b] k2 pt2) pos.line X.env = pure false := by rfl) :
    St1 X o (.Assign [.Tuple [.Name x px, .Name y py] kt pt] (.Tuple [a, b] k2 pt2) pos) (tPar i j tas) (lift (oPar [i, j] os fs)) := by
  rw [lift_Par]; exact s_par2 hc hN ha hl hi hj hij hx hy hw hs
theorem ds_par3 {i j l : Nat} {px py pz pt : Pos} {kt k2 pt2} (hc : X.calm = true) (hN : X.N.Nodup) (ha : AsO X true os [a, b, c] tas (lift fs)) (hlo : os.length = 3 := by rfl) (hi : X.N[i]? = some x := by rfl) (hj : X.N[j]? = some y := by rfl) (hl : X.N[l]? = some z := by rfl) (hij : i ≠ j := by decide) (hil : i ≠ l := by decide) (hjl : j ≠ l := by decide)
    (hx : X.env.scope.names.lookup x = some .local := by rfl) (hy : X.env.scope.names.lookup y = some .local := by rfl) (hz : X.env.scope.names.lookup z = some .local := by rfl)
    (hw : swappedStores [.Tuple [.Name x px, .Name y py, .Name z pz] kt pt] (.Tuple [a, b, c] k2 pt2) X.env = pure (some [x, y, z]) := by rfl)
    (hs : swapsWithSole [.Tuple [.Name x px, .Name y py, .Name z pz] kt pt] (.Tuple [a, b, c] k2 pt2) pos.line X.env = pure false := by rfl) :
    St1 X o (.Assign [.Tuple [.Name x px, .Name y py, .Name z pz] kt pt] (.Tuple [a, b, c] k2 pt2) pos) (tPar3 i j l tas) (lift (oPar [i, j, l] os fs)) := by
  rw [lift_Par]; exact s_par3 hc hN ha hlo hi hj hl hij hil hjl hx hy hz hw hs
theorem ds_parG {js : List Nat} {ts : List Expr} {kt k2 pt pt2} (hc : X.calm = true) (ha : AsO X true os es tas (lift fs)) (hn : Nms X js ts) (hl : os.length = js.length := by rfl) (hsz : js.length ≤ 1000 := by decide) (hlen : (assignEach ts X.env).length = js.length := by rfl) (hst : (assignEach ts X.env).findIdx? (·.1) = none := by rfl)
    (hs : swapsWithSole [.Tuple ts kt pt] (.Tuple es k2 pt2) pos.line X.env = pure false := by rfl) (hw : swappedStores [.Tuple ts kt pt] (.Tuple es k2 pt2) X.env = pure none := by rfl)
    (h1 : (assignEach [.Tuple ts kt pt] X.env).map (·.2) = [assign (.Tuple ts kt pt) X.env] := by rfl) : St1 X o (.Assign [.Tuple ts kt pt] (.Tuple es k2 pt2) pos) (tAsg (tTup tas) (gTup X.K js.length (gNms js))) (lift (oPar js os fs)) := by
  rw [lift_Par]; exact s_parG hc ha hn hl hsz hlen hst hs hw h1
end
end Vl
/-! The value layer, 10: calls of built-ins with values, isinstance, repr. -/
namespace Vl
open PySem PySem.Spec PyProof.Rows L2
section
variable {K : PySem.W.Frag} {H H' H0 : Hp} {Z Z' Z0 : Addr → Prop} {σ : L2.St} {e e' : Sto} {P P' : List (V × D)} {PW : List (Addr × List D)}
variable {X : Cx} {m m2 o o2 : Bool} {a b c : Expr} {es : List Expr} {ta tb tc : TE} {tas : TA} {wa wb : Wp D} {fa fb : Op D} {ws : Wp (List D)} {fs : Op (List D)} {pos p p2 : Pos} {x y z : Str} {id : String} {wq wq2 : Wp QV} {fq fq2 : Op QV}
def DcS (K : PySem.W.Frag) (o : Bool) (r : List V → Hp → VK → Prop) (g : List D → Option D) : Prop :=
  ∀ {H0 : Hp} {Z0 : Addr → Prop} {σ : L2.St} {H : Hp} {e : Sto} {P : List (V × D)} {PW : List (Addr × List D)} {vs : List V} {ds : List D} {z : D} {Q : VK}, vs.length = ds.length → SR K H0 Z0 σ H e (vs.zip ds ++ P) PW → g ds = some z →
    (∀ v H', Same H H' → SRo K H0 Z0 σ H' e o v z P PW → Q v H') → r vs H Q
theorem snd_dc {r : List V → Hp → VK → Prop} {g : List D → Option D} (s : DcS K o r g) (ha : SndA K m tas ws) : SndE K m o (tCB r tas) (wB1 g ws) := by
  intro H0 Z0 σ H e P PW k Q S h q
  refine ha H0 Z0 σ H e P PW _ _ S h fun vs ds e1 H1 he hl S1 h1 => ?_
  obtain ⟨z, hz, hk⟩ := h1
  exact s hl S1 hz fun v H' sm S2 => q v z e1 H' (mf1 he sm) S2 hk
theorem e_cB {r : List V → Hp → VK → Prop} {g : List D → Option D} (hc : CallR X (.builtin id) r) (s : DcS X.K o r g) (hv : bootBuiltins x = some (.builtin id)) (hg : Gl X x) (hm : X.mg x = none) (ha : As X m (a :: es) tas ws) (hn : x ≠ "__name__" := by decide) (hdb : (x == ("__debug__" : Str)) = false := by decide)
    (hst : starEach (a :: es) X.env = (false, eval a X.env) :: starEach es X.env := by rfl) (hpl : (backTo pos (starEach es X.env)).any (·.1) = false := by rfl) : E X m o (.Call (.Name x p) (a :: es) [] pos) (tCB r tas) (wB1 g ws) :=
  ⟨pe_callB hc hg hm hv ha.pa hn hdb hst hpl, snd_dc s ha.snd⟩
theorem e_cT {r : List V → Hp → VK → Prop} {g : List D → Option D} (hc : CallR X (.type id) r) (s : DcS X.K o r g) (hv : bootBuiltins x = some (.type id)) (hg : Gl X x) (hm : X.mg x = none) (ha : As X m [a] tas ws) (hn : x ≠ "__name__" := by decide) (hdb : (x == ("__debug__" : Str)) = false := by decide)
    (hst : starEach [a] X.env = (false, eval a X.env) :: starEach [] X.env := by rfl) : E X m o (.Call (.Name x p) [a] [] pos) (tCB r tas) (wB1 g ws) :=
  ⟨pe_callTy hc hg hm hv ha.pa hn hdb hst, snd_dc s ha.snd⟩
/-! ### ints -/
def absF : List D → Option D
  | [.int i] => some (.int (if i < 0 then -i else i))
  | _ => none
def maxF : List D → Option D
  | [.int i, .int j] => some (.int (if j > i then j else i))
  | _ => none
def minF : List D → Option D
  | [.int i, .int j] => some (.int (if j < i then j else i))
  | _ => none
def intF : List D → Option D
  | [.int i] => some (.int i)
  | [.bool k] => some (.int (if k then 1 else 0))
  | _ => none
def divmodF : List D → Option D
  | [.int i, .int j] => if 0 < j ∧ Builtin.divisionGoesByPylong i j = false then some (pairD [.int (i / j), .int (i % j)]) else none
  | _ => none
theorem one_int {vs : List V} {i : Int} (hl : vs.length = [PyData.int i].length) (S : SR K H0 Z0 σ H e (vs.zip [.int i] ++ P) PW) : vs = [.int i] := by
  simpa using S.ints hl (ns := [i]) rfl
theorem two_int {vs : List V} {i j : Int} (hl : vs.length = [PyData.int i, PyData.int j].length) (S : SR K H0 Z0 σ H e (vs.zip [.int i, .int j] ++ P) PW) : vs = [.int i, .int j] := by
  simpa using S.ints hl (ns := [i, j]) rfl
theorem absS : DcS K false (fun xs H Q => ∃ i, xs = [.int i] ∧ Q (.int (if i < 0 then -i else i)) H) absF := by
  intro H0 Z0 σ H e P PW vs ds z Q hl S g q
  match ds, g with
  | [.int i], g =>
    have g := Option.some.inj g
    subst g
    exact ⟨i, one_int hl S, q _ H (Same.refl _) (S.subP zipR).int⟩
theorem maxS : DcS K false (fun xs H Q => ∃ i j, xs = [.int i, .int j] ∧ Q (.int (if j > i then j else i)) H) maxF := by
  intro H0 Z0 σ H e P PW vs ds z Q hl S g q
  match ds, g with
  | [.int i, .int j], g =>
    have g := Option.some.inj g
    subst g
    exact ⟨i, j, two_int hl S, q _ H (Same.refl _) (S.subP zipR).int⟩
theorem minS : DcS K false (fun xs H Q => ∃ i j, xs = [.int i, .int j] ∧ Q (.int (if j < i then j else i)) H) minF := by
  intro H0 Z0 σ H e P PW vs ds z Q hl S g q
  match ds, g with
  | [.int i, .int j], g =>
    have g := Option.some.inj g
    subst g
    exact ⟨i, j, two_int hl S, q _ H (Same.refl _) (S.subP zipR).int⟩
theorem intS : DcS K false (fun xs H Q => (∃ i, xs = [.int i] ∧ Q (.int i) H) ∨ ∃ k, xs = [.bl k] ∧ Q (.int (if k then 1 else 0)) H) intF := by
  intro H0 Z0 σ H e P PW vs ds z Q hl S g q
  match ds, g with
  | [.int i], g =>
    have g := Option.some.inj g
    subst g
    exact .inl ⟨i, one_int hl S, q _ H (Same.refl _) (S.subP zipR).int⟩
  | [.bool k], g =>
    have g := Option.some.inj g
    subst g
    exact .inr ⟨k, by simpa using S.bls hl (ns := [k]) rfl, q _ H (Same.refl _) (S.subP zipR).int⟩
theorem divmodS : DcS K false (fun xs H Q => ∃ i j, xs = [.int i, .int j] ∧ CDivP i j ∧ ∀ p, H p = none → Q (.ref p) (upd H p (.tup [.int (i / j), .int (i % j)]))) divmodF := by
  intro H0 Z0 σ H e P PW vs ds z Q hl S g q
  match ds, g with
  | [.int i, .int j], g =>
    have g : (if 0 < j ∧ Builtin.divisionGoesByPylong i j = false then some (pairD [.int (i / j), .int (i % j)]) else none) = some z := g
    by_cases h : 0 < j ∧ Builtin.divisionGoesByPylong i j = false
    · rw [if_pos h] at g
      have g := Option.some.inj g
      subst g
      refine ⟨i, j, two_int hl S, h, fun p np => q _ _ (same_upd np) ?_⟩
      exact ((S.subP zipR).grow (same_upd np)).addP fun Z => .prs (.inl (.inl upd_same)) (.cons (.int _) (.cons (.int _) .nil))
    · rw [if_neg h] at g; cases g
theorem d_abs (hg : Gl X "abs") (hm : X.mg "abs" = none) (ha : As X m [a] tas (lift fs)) (hst : starEach [a] X.env = (false, eval a X.env) :: starEach [] X.env := by rfl) : E X m false (.Call (.Name "abs" p) [a] [] pos) (tCB (fun xs H Q => ∃ i, xs = [.int i] ∧ Q (.int (if i < 0 then -i else i)) H) tas) (lift (oB1 absF fs)) := by
  rw [lift_B1]; exact e_cB call_abs absS (by decide +kernel) hg hm ha (by decide) (by decide) hst
theorem d_max2 (hc : X.calm = true) (hg : Gl X "max") (hm : X.mg "max" = none) (ha : As X m [a, b] tas (lift fs)) (hst : starEach [a, b] X.env = (false, eval a X.env) :: starEach [b] X.env := by rfl) (hpl : (backTo pos (starEach [b] X.env)).any (·.1) = false := by rfl) : E X m false (.Call (.Name "max" p) [a, b] [] pos) (tCB (fun xs H Q => ∃ i j, xs = [.int i, .int j] ∧ Q (.int (if j > i then j else i)) H) tas) (lift (oB1 maxF fs)) := by
  rw [lift_B1]; exact e_cB (call_max2 hc) maxS (by decide +kernel) hg hm ha (by decide) (by decide) hst hpl
theorem d_min2 (hc : X.calm = true) (hg : Gl X "min") (hm : X.mg "min" = none) (ha : As X m [a, b] tas (lift fs)) (hst : starEach [a, b] X.env = (false, eval a X.env) :: starEach [b] X.env := by rfl) (hpl : (backTo pos (starEach [b] X.env)).any (·.1) = false := by rfl) : E X m false (.Call (.Name "min" p) [a, b] [] pos) (tCB (fun xs H Q => ∃ i j, xs = [.int i, .int j] ∧ Q (.int (if j < i then j else i)) H) tas) (lift (oB1 minF fs)) := by
  rw [lift_B1]; exact e_cB (call_min2 hc) minS (by decide +kernel) hg hm ha (by decide) (by decide) hst hpl
theorem d_divmod (hg : Gl X "divmod") (hm : X.mg "divmod" = none) (ha : As X m [a, b] tas (lift fs)) (hst : starEach [a, b] X.env = (false, eval a X.env) :: starEach [b] X.env := by rfl) (hpl : (backTo pos (starEach [b] X.env)).any (·.1) = false := by rfl) : E X m false (.Call (.Name "divmod" p) [a, b] [] pos) (tCB (fun xs H Q => ∃ i j, xs = [.int i, .int j] ∧ CDivP i j ∧ ∀ p, H p = none → Q (.ref p) (upd H p (.tup [.int (i / j), .int (i % j)]))) tas) (lift (oB1 divmodF fs)) := by
  rw [lift_B1]; exact e_cB call_divmodW divmodS (by decide +kernel) hg hm ha (by decide) (by decide) hst hpl
theorem d_int1 (hg : Gl X "int") (hm : X.mg "int" = none) (ha : As X m [a] tas (lift fs)) (hst : starEach [a] X.env = (false, eval a X.env) :: starEach [] X.env := by rfl) : E X m false (.Call (.Name "int" p) [a] [] pos) (tCB (fun xs H Q => (∃ i, xs = [.int i] ∧ Q (.int i) H) ∨ ∃ k, xs = [.bl k] ∧ Q (.int (if k then 1 else 0)) H) tas) (lift (oB1 intF fs)) := by
  rw [lift_B1]; exact e_cT call_int1 intS (by decide +kernel) hg hm ha (by decide) (by decide) hst
/-! ### isinstance -/
/-- a value's type, by its data -/
def tyD : D → Option String
  | .none => some "NoneType"
  | .bool _ => some "bool"
  | .int _ => some "int"
  | .str _ => some "str"
  | .list _ => some "list"
  | .tuple _ => some "tuple"
  | .dict _ => none
theorem Rp.tyX {v : V} {d : D} {t : String} (r : Rp K H Z v d) (h : tyD d = some t) : TyX K H v (.type t) := by
  cases r with
  | non => cases h; exact .base .non
  | bl b => cases h; exact .base (.bl b)
  | int i => cases h; exact .base (.int i)
  | str x => cases h; exact .base (.str x)
  | lst e _ _ => cases h; exact .base (.lst e)
  | tup e _ =>
    cases h
    rcases e with ⟨o, e, _⟩ | ⟨o, its, n, e, c, _⟩
    · exact .fTuple e
    · exact .kTuple e c
  | prs _ _ => cases h
  | pot _ => cases h
  | scr _ => cases h
/-- is a type one of those named: int has bool below it -/
def subT (t c : String) : Bool := t == c || (t == "bool" && c == "int")
def okT (c : String) : Bool := c == "int" || c == "bool" || c == "str" || c == "list" || c == "tuple"
def isiD (cs : List String) (d : D) : Option Bool := (tyD d).map fun t => cs.any (subT t)
theorem kit_t (K : PySem.W.Frag) {d : D} {t c : String} (h : tyD d = some t) (hc : okT c = true) : PySem.W.kitOne K (.type t) (.type c) = some (subT t c) := by
  have ht : t = "NoneType" ∨ t = "bool" ∨ t = "int" ∨ t = "str" ∨ t = "list" ∨ t = "tuple" := by
    cases d <;> first | (cases h; simp; done) | (cases h)
  have hc : c = "int" ∨ c = "bool" ∨ c = "str" ∨ c = "list" ∨ c = "tuple" := by
    simpa [okT, or_assoc] using hc
  rcases ht with rfl | rfl | rfl | rfl | rfl | rfl <;> rcases hc with rfl | rfl | rfl | rfl | rfl <;> kernel_rfl
theorem kit_ts (K : PySem.W.Frag) {d : D} {t : String} (h : tyD d = some t) : ∀ {cs : List String}, (∀ c ∈ cs, okT c = true) → PySem.W.kitAny K (.type t) (cs.map .type) = some (cs.any (subT t))
  | [], _ => rfl
  | c :: cs, hc => by
    have h1 := kit_t K h (hc c List.mem_cons_self)
    have h2 := kit_ts K h fun c q => hc c (List.mem_cons_of_mem _ q)
    show (match PySem.W.kitOne K (.type t) (.type c) with | some true => some true | some false => PySem.W.kitAny K (.type t) (cs.map .type) | none => none) = _
    rw [h1, List.any_cons]
    cases subT t c with
    | true => rfl
    | false => simpa using h2
theorem isi_some {cs : List String} {d : D} {z : Bool} (h : isiD cs d = some z) : ∃ t, tyD d = some t ∧ z = cs.any (subT t) := by
  obtain ⟨t, h1, h2⟩ := Option.map_eq_some_iff.mp h
  exact ⟨t, h1, h2.symm⟩
/-- isinstance(x, c) -/
theorem e_isi {cn : Str} {cs : String} (ha : Bo X a ta wa) (hg : Gl X "isinstance") (hm : X.mg "isinstance" = none) (hg2 : Gl X cn) (hm2 : X.mg cn = none) (hb : bootBuiltins cn = some (.type cs)) (hc : okT cs = true := by decide) (hn : cn ≠ "__name__" := by decide) (hd : (cn == ("__debug__" : Str)) = false := by decide)
    (hst : starEach [a, .Name cn p2] X.env = (false, eval a X.env) :: starEach [.Name cn p2] X.env := by rfl) (hst2 : starEach [.Name cn p2] X.env = (false, eval (.Name cn p2) X.env) :: starEach [] X.env := by rfl) (hpl : (backTo pos (starEach [.Name cn p2] X.env)).any (·.1) = false := by rfl) :
    E X m false (.Call (.Name "isinstance" p) [a, .Name cn p2] [] pos) (tCB (rIsi X.K) (tCons ta (tCons (tC (.ty cs)) tNil))) (wVal (wB1 (isiD [cs]) wa)) := by
  refine ⟨pe_callB call_isi hg hm (by decide +kernel) (pa_cons ha.pe (pa_cons (pe_bltn hg2 hm2 hb rfl hn hd) pa_nil hst2) hst) (by decide) (by decide) hst hpl, ?_⟩
  intro H0 Z0 σ H e P PW k Q S h q
  refine ha.snd H0 Z0 σ H e P PW _ _ S h fun v d H1 sm S1 r h1 => ?_
  obtain ⟨z, hz, hk⟩ := h1
  obtain ⟨t, ht, rfl⟩ := isi_some hz
  refine ⟨v, .ty cs, .type t, .type cs, _, rfl, .ty cs, r.tyX ht, kit_t X.K ht hc, q _ _ e H1 (fun _ => ⟨rfl, sm⟩) S1.bl ?_⟩
  rw [List.any_cons, List.any_nil, Bool.or_false] at hk
  exact hk
theorem d_isi {cn : Str} {cs : String} (ha : Bo X a ta (lift fa)) (hg : Gl X "isinstance") (hm : X.mg "isinstance" = none) (hg2 : Gl X cn) (hm2 : X.mg cn = none) (hb : bootBuiltins cn = some (.type cs)) (hc : okT cs = true := by decide) (hn : cn ≠ "__name__" := by decide) (hd : (cn == ("__debug__" : Str)) = false := by decide)
    (hst : starEach [a, .Name cn p2] X.env = (false, eval a X.env) :: starEach [.Name cn p2] X.env := by rfl) (hst2 : starEach [.Name cn p2] X.env = (false, eval (.Name cn p2) X.env) :: starEach [] X.env := by rfl) (hpl : (backTo pos (starEach [.Name cn p2] X.env)).any (·.1) = false := by rfl) :
    E X m false (.Call (.Name "isinstance" p) [a, .Name cn p2] [] pos) (tCB (rIsi X.K) (tCons ta (tCons (tC (.ty cs)) tNil))) (lift (oVal (oB1 (isiD [cs]) fa))) := by
  rw [lift_Val, lift_B1]; exact e_isi ha hg hm hg2 hm2 hb hc hn hd hst hst2 hpl
/-- isinstance(x, (c1, c2)) -/
theorem e_isi2 {cn dn : Str} {cs ds : String} {p3 p4 : Pos} {kt} (ha : Bo X a ta wa) (hg : Gl X "isinstance") (hm : X.mg "isinstance" = none) (hg2 : Gl X cn) (hm2 : X.mg cn = none) (hb : bootBuiltins cn = some (.type cs)) (hg3 : Gl X dn) (hm3 : X.mg dn = none) (hb3 : bootBuiltins dn = some (.type ds)) (hc : okT cs = true := by decide) (hc3 : okT ds = true := by decide) (hn : cn ≠ "__name__" := by decide) (hd : (cn == ("__debug__" : Str)) = false := by decide) (hn3 : dn ≠ "__name__" := by decide) (hd3 : (dn == ("__debug__" : Str)) = false := by decide)
    (hst : starEach [a, .Tuple [.Name cn p2, .Name dn p3] kt p4] X.env = (false, eval a X.env) :: starEach [.Tuple [.Name cn p2, .Name dn p3] kt p4] X.env := by rfl) (hst2 : starEach [.Tuple [.Name cn p2, .Name dn p3] kt p4] X.env = (false, eval (.Tuple [.Name cn p2, .Name dn p3] kt p4) X.env) :: starEach [] X.env := by rfl) 
    (hs3 : starEach [.Name cn p2, .Name dn p3] X.env = (false, eval (.Name cn p2) X.env) :: starEach [.Name dn p3] X.env := by rfl) (hs4 : starEach [.Name dn p3] X.env = (false, eval (.Name dn p3) X.env) :: starEach [] X.env := by rfl) (hpl : (backTo pos (starEach [.Tuple [.Name cn p2, .Name dn p3] kt p4] X.env)).any (·.1) = false := by rfl) :
    E X m false (.Call (.Name "isinstance" p) [a, .Tuple [.Name cn p2, .Name dn p3] kt p4] [] pos) (tCB (rIsiT X.K) (tCons ta (tCons (tTup (tCons (tC (.ty cs)) (tCons (tC (.ty ds)) tNil))) tNil))) (wVal (wB1 (isiD [cs, ds]) wa)) := by
  refine ⟨pe_callB call_isiT hg hm (by decide +kernel) (pa_cons ha.pe (pa_cons (pe_tup (pa_cons (pe_bltn hg2 hm2 hb rfl hn hd) (pa_cons (pe_bltn hg3 hm3 hb3 rfl hn3 hd3) pa_nil hs4) hs3)) pa_nil hst2) hst) (by decide) (by decide) hst hpl, ?_⟩
  intro H0 Z0 σ H e P PW k Q S h q
  refine ha.snd H0 Z0 σ H e P PW _ _ S h fun v d H1 sm S1 r h1 => ?_
  obtain ⟨z, hz, hk⟩ := h1
  obtain ⟨t, ht, rfl⟩ := isi_some hz
  refine ⟨by show 2 ≤ sizeLine; rw [sizeLine_eq]; omega, fun pt np => ?_⟩
  have sm2 := same_upd (o := .tup [.ty cs, .ty ds]) np
  refine ⟨v, pt, [.ty cs, .ty ds], .type t, [.type cs, .type ds], _, rfl, upd_same, .cons (.ty _) (.cons (.ty _) .nil), (rp_same r sm2).tyX ht, kit_ts X.K ht (cs := [cs, ds]) fun c hq => ?_, q _ _ e _ (fun _ => ⟨rfl, sm.trans sm2⟩) (S1.grow sm2).bl hk⟩
  rcases List.mem_cons.mp hq with rfl | hq
  · exact hc
  · rcases List.mem_cons.mp hq with rfl | hq
    · exact hc3
    · cases hq
theorem d_isi2 {cn dn : Str} {cs ds : String} {p3 p4 : Pos} {kt} (ha : Bo X a ta (lift fa)) (hg : Gl X "isinstance") (hm : X.mg "isinstance" = none) (hg2 : Gl X cn) (hm2 : X.mg cn = none) (hb : bootBuiltins cn = some (.type cs)) (hg3 : Gl X dn) (hm3 : X.mg dn = none) (hb3 : bootBuiltins dn = some (.type ds)) (hc : okT cs = true := by decide) (hc3 : okT ds = true := by decide) (hn : cn ≠ "__name__" := by decide) (hd : (cn == ("__debug__" : Str)) = false := by decide) (hn3 : dn ≠ "__name__" := by decide) (hd3 : (dn == ("__debug__" : Str)) = false := by decide)
    (hst : starEach [a, .Tuple [.Name cn p2, .Name dn p3] kt p4] X.env = (false, eval a X.env) :: starEach [.Tuple [.Name cn p2, .Name dn p3] kt p4] X.env := by rfl) (hst2 : starEach [.Tuple [.Name cn p2, .Name dn p3] kt p4] X.env = (false, eval (.Tuple [.Name cn p2, .Name dn p3] kt p4) X.env) :: starEach [] X.env := by rfl) 
    (hs3 : starEach [.Name cn p2, .Name dn p3] X.env = (false, eval (.Name cn p2) X.env) :: starEach [.Name dn p3] X.env := by rfl) (hs4 : starEach [.Name dn p3] X.env = (false, eval (.Name dn p3) X.env) :: starEach [] X.env := by rfl) (hpl : (backTo pos (starEach [.Tuple [.Name cn p2, .Name dn p3] kt p4] X.env)).any (·.1) = false := by rfl) :
    E X m false (.Call (.Name "isinstance" p) [a, .Tuple [.Name cn p2, .Name dn p3] kt p4] [] pos) (tCB (rIsiT X.K) (tCons ta (tCons (tTup (tCons (tC (.ty cs)) (tCons (tC (.ty ds)) tNil))) tNil))) (lift (oVal (oB1 (isiD [cs, ds]) fa))) := by
  rw [lift_Val, lift_B1]; exact e_isi2 ha hg hm hg2 hm2 hb hg3 hm3 hb3 hc hc3 hn hd hn3 hd3 hst hst2 hs3 hs4 hpl
/-! ### repr -/
def reprD (d : D) : Option D := if SeqAt.shaped d = true ∧ d.showable = true ∧ d.shown.length ≤ lim then some (.str d.shown) else none
mutual
theorem noDict : ∀ {d : PyData}, d.canLay0 = true → d.hasDict = false
  | .none, _ => rfl
  | .bool _, _ => rfl
  | .int _, _ => rfl
  | .str _, _ => rfl
  | .list ds, h => by simp only [PyData.hasDict]; exact noDicts (by simpa [PyData.canLay0] using h)
  | .tuple ds, h => by simp only [PyData.hasDict]; exact noDicts (by simpa [PyData.canLay0] using h)
  | .dict _, h => by simp [PyData.canLay0] at h
theorem noDicts : ∀ {ds : List PyData}, PyData.canLayAll0 ds = true → PyData.hasDictAll ds = false
  | [], _ => rfl
  | d :: ds, h => by
    have h : d.canLay0 = true ∧ PyData.canLayAll0 ds = true := by simpa [PyData.canLayAll0] using h
    simp only [PyData.hasDictAll, noDict h.1, noDicts h.2, Bool.or_self]
end
/-- a value whose text is asked for -/
def rRepr (K : PySem.W.Frag) : List V → Hp → VK → Prop := fun xs H Q => ∃ (a : Addr) (d : D), xs = [.ref a] ∧ Dp K H (.ref a) d ∧ SeqAt.shaped d = true ∧ d.showable = true ∧ d.shown.length ≤ lim ∧ Q (.str d.shown) H
theorem call_reprV (hga : X.A.guards = some []) {k : Nat} (hr : Room k X.A) : CallR X (.builtin "repr") (rRepr X.K) := by
  intro pins s σ H xs us Q I r ⟨a, d, e, hd, sd, hs, hz, q⟩
  subst e
  obtain ⟨u, rfl, ru⟩ := vals1 r
  obtain rfl : u = Value.ref a := ru
  obtain ⟨as, rd⟩ := Dp.reads I d _ _ hd rfl
  have hn : d.hasDict = false := noDict (SeqAt.canLay_of_shaped sd)
  have hu := hr.un
  have hdp := SeqAt.depth_of_shaped sd
  exact repr_of_reads' rd hs (fun z => by rw [hn] at z; cases z) hga (by omega) (fun _ _ e => e) (fun h' u tk hk => ⟨.str d.shown, H, I.kept hk, ⟨_, rfl⟩, q⟩) (lim_le hz)
end
end Vl
/-! The value layer, 11: repr, slices, lists added and repeated, index. -/
namespace Vl
open PySem PySem.Spec PyProof.Rows L2
section
variable {K : PySem.W.Frag} {H H' H0 : Hp} {Z Z' Z0 : Addr → Prop} {σ : L2.St} {e e' : Sto} {P P' : List (V × D)} {PW : List (Addr × List D)}
variable {X : Cx} {m m2 o o2 : Bool} {a b c : Expr} {es : List Expr} {ta tb tc : TE} {tas : TA} {wa wb : Wp D} {fa fb : Op D} {ws : Wp (List D)} {fs : Op (List D)} {pos p p2 : Pos} {x y z : Str} {id : String} {wq wq2 : Wp QV} {fq fq2 : Op QV}
/-- repr(x) -/
def isSq : D → Bool
  | .list _ => true
  | .tuple _ => true
  | _ => false
def reprF (d : D) : Option D := if isSq d = true then reprD d else none
theorem e_repr {k : Nat} (hga : X.A.guards = some []) (hr : Room k X.A) (hg : Gl X "repr") (hm : X.mg "repr" = none) (ha : Bo X a ta wa) (hst : starEach [a] X.env = (false, eval a X.env) :: starEach [] X.env := by rfl) : E X m false (.Call (.Name "repr" p) [a] [] pos) (tCB (rRepr X.K) (tCons ta tNil)) (wB1 reprF wa) := by
  refine ⟨pe_callB (call_reprV hga hr) hg hm (by decide +kernel) (pa_cons ha.pe pa_nil hst) (by decide) (by decide) hst, ?_⟩
  intro H0 Z0 σ H e P PW k Q S h q
  refine ha.snd H0 Z0 σ H e P PW _ _ S h fun v d H1 sm S1 r h1 => ?_
  obtain ⟨z, hz, hk⟩ := h1
  have hz : (if isSq d = true then reprD d else none) = some z := hz
  by_cases hi : isSq d = true
  · rw [if_pos hi] at hz
    have hz : (if SeqAt.shaped d = true ∧ d.showable = true ∧ d.shown.length ≤ lim then some (PyData.str d.shown) else none) = some z := hz
    by_cases hc : SeqAt.shaped d = true ∧ d.showable = true ∧ d.shown.length ≤ lim
    · rw [if_pos hc] at hz
      have hz := Option.some.inj hz
      subst hz
      have hd := r.dpT hc.1
      have : ∃ ad, v = .ref ad := by
        cases r with
        | lst _ _ _ => exact ⟨_, rfl⟩
        | tup _ _ => exact ⟨_, rfl⟩
        | _ => cases hi
      obtain ⟨ad, rfl⟩ := this
      exact ⟨ad, d, rfl, hd, hc.1, hc.2.1, hc.2.2, q _ _ e H1 (fun _ => ⟨rfl, sm⟩) (S1.addP fun _ => .str _) hk⟩
    · rw [if_neg hc] at hz; cases hz
  · rw [if_neg hi] at hz; cases hz
theorem d_repr {k : Nat} (hga : X.A.guards = some []) (hr : Room k X.A) (hg : Gl X "repr") (hm : X.mg "repr" = none) (ha : Bo X a ta (lift fa)) (hst : starEach [a] X.env = (false, eval a X.env) :: starEach [] X.env := by rfl) : E X m false (.Call (.Name "repr" p) [a] [] pos) (tCB (rRepr X.K) (tCons ta tNil)) (lift (oB1 reprF fa)) := by
  rw [lift_B1]; exact e_repr hga hr hg hm ha hst
/-! ### slices -/
def SndPo (K : PySem.W.Frag) (m : Bool) (t : TO) (w : Wp (Option Int)) : Prop :=
  ∀ H0 Z0 σ H e P PW k Q, SR K H0 Z0 σ H e P PW → w e k → (∀ o e' H', (m = false → e' = e ∧ Same H H') → SR K H0 Z0 σ H' e' P PW → k o e' → Q o H') → t σ H Q
structure Po (X : Cx) (m : Bool) (ex : Option Expr) (t : TO) (w : Wp (Option Int)) : Prop where
  po : PO X ex t
  snd : SndPo X.K m t w
theorem p_none : Po X m none tNoPart (Wp.ret none) := ⟨po_none, fun H0 Z0 σ H e P PW k Q S h q => q none e H (fun _ => ⟨rfl, Same.refl _⟩) S h⟩
def intO : D → Option (Option Int)
  | .int i => some (some i)
  | _ => none
theorem p_some (ha : E X m false a ta wa) : Po X m (some a) (tPart ta) (wB1 intO wa) := by
  refine ⟨po_some ha.pe, ?_⟩
  intro H0 Z0 σ H e P PW k Q S h q
  refine ha.snd H0 Z0 σ H e P PW _ _ S h fun v d e1 H1 he S1 h1 => ?_
  obtain ⟨z, hz, hk⟩ := h1
  cases d with
  | int i =>
    have hz : some i = z := Option.some.inj hz
    subst hz
    exact ⟨i, S1.hdInt, q _ e1 H1 he S1.tl hk⟩
  | _ => cases hz
theorem dp_none : Po X m none tNoPart (lift (Op.ret none)) := by rw [lift_ret]; exact p_none
theorem dp_some (ha : E X m false a ta (lift fa)) : Po X m (some a) (tPart ta) (lift (oB1 intO fa)) := by rw [lift_B1]; exact p_some ha
/-- xs[lo:hi] -/
def cut {α : Type} (xs : List α) (lo hi : Option Int) : List α := (xs.drop (HT.sIx xs.length 0 lo)).take (HT.sIx xs.length xs.length hi - HT.sIx xs.length 0 lo)
theorem cut_all {α : Type} {xs : List α} {lo hi : Option Int} (h : HT.sIx xs.length 0 lo = 0 ∧ HT.sIx xs.length xs.length hi = xs.length) : cut xs lo hi = xs := by
  unfold cut
  rw [h.1, h.2, List.drop_zero, Nat.sub_zero, List.take_length]
theorem zip_drop {α β : Type} : ∀ (n : Nat) (xs : List α) (ys : List β), (xs.drop n).zip (ys.drop n) = (xs.zip ys).drop n
  | 0, _, _ => rfl
  | n + 1, [], _ => by simp
  | n + 1, _ :: _, [] => by simp
  | n + 1, x :: xs, y :: ys => by simpa using zip_drop n xs ys
theorem zip_take {α β : Type} : ∀ (n : Nat) (xs : List α) (ys : List β), (xs.take n).zip (ys.take n) = (xs.zip ys).take n
  | 0, _, _ => by simp
  | n + 1, [], _ => by simp
  | n + 1, _ :: _, [] => by simp
  | n + 1, x :: xs, y :: ys => by simpa using zip_take n xs ys
theorem zip_cut {vs : List V} {ds : List D} (hl : vs.length = ds.length) (lo hi : Option Int) : ∀ p ∈ (cut vs lo hi).zip (cut ds lo hi), p ∈ vs.zip ds := fun p h => by
  unfold cut at h
  rw [hl, zip_take, zip_drop] at h
  exact List.mem_of_mem_drop (List.mem_of_mem_take h)
theorem cut_length {vs : List V} {ds : List D} (hl : vs.length = ds.length) (lo hi : Option Int) : (cut vs lo hi).length = (cut ds lo hi).length := by
  unfold cut
  simp only [List.length_take, List.length_drop, hl]
/-- one that is read, with the kind o -/
def slQ (o : Bool) (lo hi : Option Int) (s : Bool × List D) : Option D := match o, s.1 with
  | true, true => some (.list (cut s.2 lo hi))
  | false, false => some (.tuple (cut s.2 lo hi))
  | _, _ => none
def wSl (o : Bool) (wq : Wp QV) (wl wh : Wp (Option Int)) : Wp D := Wp.bd wq fun q => Wp.bd wl fun l => Wp.bd wh fun h => Wp.gt fun e => (seqOf e q).bind (slQ o l h)
def oSl (o : Bool) (wq : Op QV) (wl wh : Op (Option Int)) : Op D := Op.bd wq fun q => Op.bd wl fun l => Op.bd wh fun h => Op.gt fun e => (seqOf e q).bind (slQ o l h)
theorem lift_Sl (o : Bool) (f : Op QV) (g h : Op (Option Int)) : lift (oSl o f g h) = wSl o (lift f) (lift g) (lift h) := by simp only [oSl, wSl, lift_bd, lift_gt]
def rSlA (K : PySem.W.Frag) : V → Option Int → Option Int → Hp → VK → Prop := fun x lo hi H Q => rSlL K x lo hi H Q ∨ rSlN K x lo hi H Q
theorem snd_sl {tl th : TO} {wl wh : Wp (Option Int)} (hq : SndQ K m ta wq) (hl : SndPo K m tl wl) (hh : SndPo K m th wh) : SndE K m o (tSl (rSlA K) ta tl th) (wSl o wq wl wh) := by
  intro H0 Z0 σ H e P PW k Q S h q
  refine hq H0 Z0 σ H e P PW _ _ S h fun v u e1 H1 he ho S1 h1 => ?_
  refine hl H0 Z0 σ H1 e1 _ PW _ _ S1 h1 fun l e2 H2 he2 S2 h2 => ?_
  refine hh H0 Z0 σ H2 e2 _ PW _ _ S2 h2 fun r e3 H3 he3 S3 h3 => ?_
  obtain ⟨z, hz, hk⟩ := h3
  obtain ⟨⟨kd, ds⟩, h4, h5⟩ := Option.bind_eq_some_iff.mp hz
  obtain ⟨ad, vs, rfl, hl1, ht1, len, S4⟩ := SR.openQ (R := []) S3 ho h4
  have sub : ∀ p ∈ (cut vs l r).zip (cut ds l r) ++ P, p ∈ vs.zip ds ++ ([] ++ qP (.ref ad) u P) := fun p hp => by
    rcases List.mem_append.mp hp with hp | hp
    · exact List.mem_append_left _ (zip_cut len l r p hp)
    · exact List.mem_append_right _ (qP_sub p hp)
  have S5 : SR K H0 Z0 σ H3 e3 ((cut vs l r).zip (cut ds l r) ++ P) PW := S4.subP sub
  have clen := cut_length len l r
  cases o with
  | true =>
    cases kd with
    | false => cases h5
    | true =>
      have h5 : PyData.list (cut ds l r) = z := Option.some.inj h5
      subst h5
      exact .inl ⟨ad, vs, rfl, SqL.of (hl1 rfl), fun p np => q _ _ e3 _ (mf1 (mf (mf he he2) he3) (same_upd np)) ⟨p, _, rfl, rfl, S5.lst clen np⟩ hk⟩
  | false =>
    cases kd with
    | true => cases h5
    | false =>
      have h5 : PyData.tuple (cut ds l r) = z := Option.some.inj h5
      subst h5
      refine .inr ⟨ad, vs, rfl, (ht1 rfl).sqT, fun hw => ?_, fun _ p ob np hd => q _ _ e3 _ (mf1 (mf (mf he he2) he3) (same_upd np)) (S5.tup clen np hd) hk⟩
      rw [cut_all (by rw [← len]; exact hw)] at hk
      refine q _ _ e3 H3 (mf (mf he he2) he3) ?_ hk
      cases u with
      | inl i =>
        obtain ⟨x, _, e2⟩ := Option.map_eq_some_iff.mp (show (getO e3 i).map _ = some (false, ds) from h4)
        cases e2
      | inr d =>
        cases d with
        | tuple ds' =>
          have e2 : ds' = ds := (Prod.mk.inj (Option.some.inj (show some (false, ds') = some (false, ds) from h4))).2
          subst e2
          exact S3.subP fun p hp => (List.mem_cons.mp hp).elim (fun z => z ▸ List.mem_cons_self) fun z => List.mem_cons_of_mem _ z
        | list ds' => exact absurd (Prod.mk.inj (Option.some.inj (show some (true, ds') = some (false, ds) from h4))).1 (by decide)
        | none => exact (nomatch (show (none : Option (Bool × List D)) = some (false, ds) from h4))
        | bool _ => exact (nomatch (show (none : Option (Bool × List D)) = some (false, ds) from h4))
        | int _ => exact (nomatch (show (none : Option (Bool × List D)) = some (false, ds) from h4))
        | str _ => exact (nomatch (show (none : Option (Bool × List D)) = some (false, ds) from h4))
        | dict _ => exact (nomatch (show (none : Option (Bool × List D)) = some (false, ds) from h4))
theorem e_sl {lo hi : Option Expr} {tl th : TO} {wl wh : Wp (Option Int)} (hq : Sq X m a ta wq) (hl : Po X m lo tl wl) (hh : Po X m hi th wh) : E X m o (.Subscript a (.Slice lo hi none p2) pos) (tSl (rSlA X.K) ta tl th) (wSl o wq wl wh) :=
  ⟨pe_slice (sl_list.or sl_tupN) hq.pe hl.po hh.po, snd_sl hq.snd hl.snd hh.snd⟩
theorem d_sl {lo hi : Option Expr} {tl th : TO} {fl fh : Op (Option Int)} (o : Bool) (hq : Sq X m a ta (lift fq)) (hl : Po X m lo tl (lift fl)) (hh : Po X m hi th (lift fh)) : E X m o (.Subscript a (.Slice lo hi none p2) pos) (tSl (rSlA X.K) ta tl th) (lift (oSl o fq fl fh)) := by
  rw [lift_Sl]; exact e_sl hq hl hh
/-! ### two lists: a new one -/
def catQ (s : Bool × List D) (t : Bool × List D) : Option D := if s.1 = true ∧ t.1 = true ∧ s.2.length + t.2.length ≤ lim then some (.list (s.2 ++ t.2)) else none
def wCatL (w u : Wp QV) : Wp D := Wp.bd w fun q => Wp.bd u fun r => Wp.gt fun e => (seqOf e q).bind fun s => (seqOf e r).bind (catQ s)
def oCatL (w u : Op QV) : Op D := Op.bd w fun q => Op.bd u fun r => Op.gt fun e => (seqOf e q).bind fun s => (seqOf e r).bind (catQ s)
theorem lift_CatL (f g : Op QV) : lift (oCatL f g) = wCatL (lift f) (lift g) := by simp only [oCatL, wCatL, lift_bd, lift_gt]
theorem e_catL (ha : Sq X m a ta wq) (hb : Sq X m b tb wq2) : E X m true (.BinOp a .Add b pos) (tOp rCat ta tb) (wCatL wq wq2) := by
  refine ⟨pe_op op_cat ha.pe hb.pe, ?_⟩
  intro H0 Z0 σ H e P PW k Q S h q
  refine ha.snd H0 Z0 σ H e P PW _ _ S h fun v u e1 H1 he ho S1 h1 => ?_
  refine hb.snd H0 Z0 σ H1 e1 _ PW _ _ S1 h1 fun v2 u2 e2 H2 he2 ho2 S2 h2 => ?_
  obtain ⟨z, hz, hk⟩ := h2
  obtain ⟨⟨kd, ds⟩, h4, h5⟩ := Option.bind_eq_some_iff.mp hz
  obtain ⟨⟨kd2, ds2⟩, h6, h7⟩ := Option.bind_eq_some_iff.mp h5
  have h7 : (if kd = true ∧ kd2 = true ∧ ds.length + ds2.length ≤ lim then some (PyData.list (ds ++ ds2)) else none) = some z := h7
  by_cases hc : kd = true ∧ kd2 = true ∧ ds.length + ds2.length ≤ lim
  · rw [if_pos hc] at h7
    have h7 := Option.some.inj h7
    subst h7
    obtain ⟨rfl, rfl, hl⟩ := hc
    obtain ⟨ad2, vs2, rfl, hl2, _, len2, S3⟩ := SR.openQ (R := []) S2 ho2 h6
    have S3' : SR X.K H0 Z0 σ H2 e2 ((vs2.zip ds2) ++ qP v u P) PW := S3.subP fun p hp => (List.mem_append.mp hp).elim (fun z => List.mem_append_left _ z) fun z => List.mem_append_right _ (qP_sub p z)
    obtain ⟨ad, vs, rfl, hl1, _, len, S4⟩ := SR.openQ S3' ho h4
    have S5 : SR X.K H0 Z0 σ H2 e2 (vs2.zip ds2 ++ (vs.zip ds ++ P)) PW := S4.subP fun p hp => by
      rcases List.mem_append.mp hp with hp | hp
      · exact List.mem_append_right _ (List.mem_append_left _ hp)
      · rcases List.mem_append.mp hp with hp | hp
        · exact List.mem_append_left _ hp
        · exact List.mem_append_right _ (List.mem_append_right _ (qP_sub p hp))
    refine ⟨ad, ad2, vs, vs2, rfl, rfl, hl1 rfl, hl2 rfl, by rw [len, len2]; exact lim_le hl, fun p np => q _ _ e2 _ (mf1 (mf he he2) (same_upd np)) ⟨p, _, rfl, rfl, (S5.cat len).lst (by rw [List.length_append, List.length_append, len, len2]) np⟩ hk⟩
  · rw [if_neg hc] at h7; cases h7
theorem d_catL (ha : Sq X m a ta (lift fq)) (hb : Sq X m b tb (lift fq2)) : E X m true (.BinOp a .Add b pos) (tOp rCat ta tb) (lift (oCatL fq fq2)) := by
  rw [lift_CatL]; exact e_catL ha hb
/-! ### a list so many times -/
def repD (s : Bool × List D) (j : D) : Option D := match j with
  | .int k => if s.1 = true ∧ k < 1000000 ∧ -1000000 < k ∧ s.2.length * k.toNat ≤ lim then some (.list (List.replicate k.toNat s.2).flatten) else none
  | _ => none
def wRep (wq : Wp QV) (wb : Wp D) : Wp D := Wp.bd wq fun q => Wp.bd wb fun j => Wp.gt fun e => (seqOf e q).bind fun s => repD s j
def oRep (wq : Op QV) (wb : Op D) : Op D := Op.bd wq fun q => Op.bd wb fun j => Op.gt fun e => (seqOf e q).bind fun s => repD s j
theorem lift_Rep (f : Op QV) (g : Op D) : lift (oRep f g) = wRep (lift f) (lift g) := by simp only [oRep, wRep, lift_bd, lift_gt]
theorem zip_rep {vs : List V} {ds : List D} (hl : vs.length = ds.length) : ∀ n : Nat, ((List.replicate n vs).flatten).length = ((List.replicate n ds).flatten).length ∧ ∀ p ∈ (List.replicate n vs).flatten.zip (List.replicate n ds).flatten, p ∈ vs.zip ds
  | 0 => ⟨rfl, fun p h => by simp at h⟩
  | n + 1 => by
    obtain ⟨h1, h2⟩ := zip_rep hl n
    rw [List.replicate_succ, List.replicate_succ, List.flatten_cons, List.flatten_cons]
    refine ⟨by rw [List.length_append, List.length_append, hl, h1], fun p h => ?_⟩
    rw [List.zip_append hl] at h
    exact (List.mem_append.mp h).elim _root_.id (h2 p)
theorem e_rep (hq : Sq X m a ta wq) (hb : E X m false b tb wb) : E X m true (.BinOp a .Mult b pos) (tOp rRep ta tb) (wRep wq wb) := by
  refine ⟨pe_op op_rep hq.pe hb.pe, ?_⟩
  intro H0 Z0 σ H e P PW k Q S h q
  refine hq.snd H0 Z0 σ H e P PW _ _ S h fun v u e1 H1 he ho S1 h1 => ?_
  refine hb.snd H0 Z0 σ H1 e1 _ PW _ _ S1 h1 fun v2 j e2 H2 he2 S2 h2 => ?_
  obtain ⟨z, hz, hk⟩ := h2
  obtain ⟨⟨kd, ds⟩, h4, h5⟩ := Option.bind_eq_some_iff.mp hz
  cases j with
  | int i =>
    have h5 : (if kd = true ∧ i < 1000000 ∧ -1000000 < i ∧ ds.length * i.toNat ≤ lim then some (PyData.list (List.replicate i.toNat ds).flatten) else none) = some z := h5
    by_cases hc : kd = true ∧ i < 1000000 ∧ -1000000 < i ∧ ds.length * i.toNat ≤ lim
    · rw [if_pos hc] at h5
      have h5 := Option.some.inj h5
      subst h5
      obtain ⟨rfl, c1, c2, c3⟩ := hc
      obtain ⟨ad, vs, rfl, hl, _, l, S3⟩ := SR.openQ (R := [(v2, .int i)]) S2 ho h4
      obtain ⟨r1, r2⟩ := zip_rep l i.toNat
      have S4 : SR X.K H0 Z0 σ H2 e2 ((List.replicate i.toNat vs).flatten.zip (List.replicate i.toNat ds).flatten ++ P) PW := S3.subP fun p hp => by
        rcases List.mem_append.mp hp with hp | hp
        · exact List.mem_append_left _ (r2 p hp)
        · exact List.mem_append_right _ (List.mem_cons_of_mem _ (qP_sub p hp))
      exact ⟨ad, i, vs, rfl, S2.hdInt, hl rfl, by omega, by omega, by rw [l]; exact lim_le c3, fun p np => q _ _ e2 _ (mf1 (mf he he2) (same_upd np)) ⟨p, _, rfl, rfl, S4.lst r1 np⟩ hk⟩
    · rw [if_neg hc] at h5; cases h5
  | _ => cases h5
theorem d_rep (hq : Sq X m a ta (lift fq)) (hb : E X m false b tb (lift fb)) : E X m true (.BinOp a .Mult b pos) (tOp rRep ta tb) (lift (oRep fq fb)) := by
  rw [lift_Rep]; exact e_rep hq hb
/-! ### xs[::-1] of a list -/
def revQ (s : Bool × List D) : Option D := if s.1 = true then some (.list s.2.reverse) else none
theorem e_revL {k : Nat} {p1 p2 p3 : Pos} (hq : Sq X m a ta wq) : E X m true (.Subscript a (.Slice none none (some (.UnaryOp .USub (.Constant (.int 1) k p1) p2)) p3) pos) (tRevL X.K ta) (wQ1 revQ wq) := by
  refine ⟨pe_revL hq.pe, ?_⟩
  intro H0 Z0 σ H e P PW k Q S h q
  refine hq.snd H0 Z0 σ H e P PW _ _ S h fun v u e1 H1 he ho S1 h1 => ?_
  obtain ⟨z, hz, hk⟩ := h1
  obtain ⟨⟨kd, ds⟩, h2, h3⟩ := Option.bind_eq_some_iff.mp hz
  cases kd with
  | false => cases h3
  | true =>
    have h3 : PyData.list ds.reverse = z := Option.some.inj h3
    subst h3
    obtain ⟨ad, vs, rfl, hl, _, l, S2⟩ := SR.openQ (R := []) S1 ho h2
    refine ⟨ad, vs, rfl, SqL.of (hl rfl), fun p np => q _ _ e1 _ (mf1 he (same_upd np)) ⟨p, _, rfl, rfl, SR.lst (S2.subP fun p hp => ?_) (by rw [List.length_reverse, List.length_reverse, l]) np⟩ hk⟩
    rcases List.mem_append.mp hp with hp | hp
    · refine List.mem_append_left _ ?_
      have e1 : vs.reverse.zip ds.reverse = (vs.zip ds).reverse := by
        rw [List.zip_eq_zipWith, List.zip_eq_zipWith, List.reverse_zipWith l]
      rw [e1] at hp
      exact List.mem_reverse.mp hp
    · exact List.mem_append_right _ (qP_sub p hp)
theorem d_revL {k : Nat} {p1 p2 p3 : Pos} (hq : Sq X m a ta (lift fq)) : E X m true (.Subscript a (.Slice none none (some (.UnaryOp .USub (.Constant (.int 1) k p1) p2)) p3) pos) (tRevL X.K ta) (lift (oQ1 revQ fq)) := by
  rw [lift_Q1]; exact e_revL hq
end
end Vl
/-! The value layer, 12: lists of this frame's that are changed. -/
namespace Vl
open PySem PySem.Spec PyProof.Rows L2
section
variable {K : PySem.W.Frag} {H H' H0 : Hp} {Z Z' Z0 : Addr → Prop} {σ : L2.St} {e e' : Sto} {P P' : List (V × D)} {PW : List (Addr × List D)}
variable {X : Cx} {m m2 o o2 : Bool} {a b c : Expr} {es : List Expr} {ta tb tc : TE} {tas : TA} {wa wb : Wp D} {fa fb : Op D} {ws : Wp (List D)} {fs : Op (List D)} {pos p p2 : Pos} {x y z nm : Str} {id : String} {wq wq2 : Wp QV} {fq fq2 : Op QV}
/-- what a method does to a list: by the list's items and the arguments' values -/
def MuS (r : V → List V → Hp → VK → Prop) (g : List D → List D → Option (D × List D)) : Prop :=
  ∀ {H : Hp} {a : Addr} {vs xs : List V} {cur ds cur' : List D} {ret : D}, H a = some (.lst vs) → vs.length = cur.length → xs.length = ds.length → (∀ v i, (v, PyData.int i) ∈ xs.zip ds → v = .int i) → g cur ds = some (ret, cur') →
    ∃ v vs', vs'.length = cur'.length ∧ ((v = .non ∧ ret = .none) ∨ (v, ret) ∈ xs.zip ds ++ vs.zip cur) ∧ (∀ p ∈ vs'.zip cur', p ∈ xs.zip ds ++ vs.zip cur) ∧ ∀ Q : VK, Q v (upd H a (.lst vs')) → r (.ref a) xs H Q
def chgO (i : Nat) (g : List D → Option (D × List D)) : Op D := fun e => (getO e i).bind fun cur => (g cur).map fun r => (r.1, e.set i (.ow r.2))
def oMut (i : Nat) (g : List D → List D → Option (D × List D)) (fs : Op (List D)) : Op D := Op.bd (Op.gt fun e => getO e i) fun _ => Op.bd fs fun ds => chgO i fun cur => g cur ds
def wMut (i : Nat) (g : List D → List D → Option (D × List D)) (ws : Wp (List D)) : Wp D := Wp.bd (Wp.gt fun e => getO e i) fun _ => Wp.bd ws fun ds => lift (chgO i fun cur => g cur ds)
theorem lift_Mut (i : Nat) (g : List D → List D → Option (D × List D)) (f : Op (List D)) : lift (oMut i g f) = wMut i g (lift f) := by simp only [oMut, wMut, lift_bd, lift_gt]
/-- the change itself -/
theorem SR.mut {i : Nat} {ad : Addr} {ds : List D} {xs : List V} {gg : List D → List D → Option (D × List D)} {r : V → List V → Hp → VK → Prop} (s : MuS r gg) (hl : xs.length = ds.length) (S : SR K H0 Z0 σ H e (xs.zip ds ++ P) PW)
    (ha : σ[i]? = some (some (.ref ad))) {k : D → Sto → Prop} {Q : VK} (h : lift (chgO i fun cur => gg cur ds) e k) (q : ∀ v d e' H', SR K H0 Z0 σ H' e' ((v, d) :: P) PW → k d e' → Q v H') : r (.ref ad) xs H Q := by
  obtain ⟨⟨ret, e2⟩, h1, hk⟩ := h
  obtain ⟨cur, h2, h3⟩ := Option.bind_eq_some_iff.mp h1
  obtain ⟨⟨ret', cur'⟩, h4, h5⟩ := Option.map_eq_some_iff.mp h3
  obtain ⟨rfl, rfl⟩ := Prod.mk.inj h5
  obtain ⟨a2, vs, e3, e4, e5, S2⟩ := S.getO h2
  rw [ha] at e3
  obtain rfl : ad = a2 := by simpa using e3
  have hint : ∀ v i, (v, PyData.int i) ∈ xs.zip ds → v = .int i := fun v i hv => (S.subP (P' := [(v, PyData.int i)]) fun p hp => by
    obtain rfl := List.mem_singleton.mp hp
    exact List.mem_append_left _ hv).hdInt
  obtain ⟨v, vs', l, hv, hp, hr⟩ := s e4 e5 hl hint h4
  refine hr Q (q v _ _ _ (SR.change (P := (v, _) :: P) (vs := vs) (vs' := vs') (ds' := cur') ?_ l h2 ha) hk)
  have sub : ∀ p ∈ xs.zip ds ++ vs.zip cur, p ∈ vs.zip cur ++ (xs.zip ds ++ P) := fun p hp => (List.mem_append.mp hp).elim (fun z => List.mem_append_right _ (List.mem_append_left _ z)) fun z => List.mem_append_left _ z
  have S3 : SR K H0 Z0 σ H e (vs'.zip cur' ++ P) PW := S2.subP fun p h => by
    rcases List.mem_append.mp h with h | h
    · exact sub p (hp p h)
    · exact List.mem_append_right _ (List.mem_append_right _ h)
  rcases hv with ⟨rfl, rfl⟩ | hv
  · exact (S3.addP fun _ => .non).subP fun p h => by
      rcases List.mem_append.mp h with h | h
      · exact List.mem_cons_of_mem _ (List.mem_append_left _ h)
      · rcases List.mem_cons.mp h with h | h
        · exact h ▸ List.mem_cons_self
        · exact List.mem_cons_of_mem _ (List.mem_append_right _ h)
  · exact S2.subP fun p h => by
      rcases List.mem_append.mp h with h | h
      · exact sub p (hp p h)
      · rcases List.mem_cons.mp h with h | h
        · exact h ▸ sub _ hv
        · exact List.mem_append_right _ (List.mem_append_right _ h)
theorem tyL {ad : Addr} {vs : List V} (h : H ad = some (.lst vs)) : tyV K "list" (.ref ad) H := .inl ⟨rfl, vs, SqL.of h⟩
theorem e_mut {i : Nat} {r : V → List V → Hp → VK → Prop} {g : List D → List D → Option (D × List D)} {apos : Pos} (slot : PySem.Slot "list" nm id) (hty : typeOf (.builtin id) = pure (.type "method_descriptor")) (hm : MtR X id r) (s : MuS r g) (ha : As X true (a :: es) tas ws) (hN : X.N[i]? = some x := by rfl) (hv : Vis X.env.scope x := by first | exact Or.inl rfl | exact Or.inr (Or.inl rfl) | exact Or.inr (Or.inr rfl)) (hd : (x == ("__debug__" : Str)) = false := by decide)
    (hcd : (x == ("__classdict__" : Str)) = false := by decide) (hbase : attributeBase (.Name x p) nm X.env (eval (.Name x p) X.env) = eval (.Name x p) X.env := by rfl)
    (hfew : ((backTo pos (starEach (a :: es) X.env)).all (fun x => !x.1) && (backToKw pos (keywordEach [] X.env)).all (fun x => x.1.isSome) && decide ((a :: es).length + ([] : List Keyword).length + (if ([] : List Keyword).isEmpty then 0 else 1) < 30)) = true := by rfl)
    (hline : (apos.endLine == pos.line) = true := by rfl) (hs : starEach (a :: es) X.env = (false, eval a X.env) :: starEach es X.env := by rfl) (hplain : (backTo pos (starEach es X.env)).any (·.1) = false := by rfl) :
    E X true false (.Call (.Attribute (.Name x p) nm apos) (a :: es) [] pos) (tBM X.K "list" r (tVar i) tas) (wMut i g ws) := by
  refine ⟨pe_bm PySem.F.plainAttrs_list slot hty hm (pe_var hN hv hd hcd) ha.pa hbase hfew hline hs hplain, ?_⟩
  intro H0 Z0 σ H e P PW k Q S h q
  obtain ⟨ds0, h0, h⟩ := h
  obtain ⟨ad, vs, e1, e2, _, _⟩ := S.getO h0
  refine ⟨_, e1, tyL e2, ha.snd H0 Z0 σ H e P PW _ _ S h fun xs ds e1' H1 _ hl S1 h1 => ?_⟩
  exact S1.mut s hl e1 h1 fun v d e' H' S2 hk => q v d e' H' (fun z => nomatch z) S2 hk
theorem e_mut0 {i : Nat} {r : V → List V → Hp → VK → Prop} {g : List D → List D → Option (D × List D)} {apos : Pos} (slot : PySem.Slot "list" nm id) (hty : typeOf (.builtin id) = pure (.type "method_descriptor")) (hm : MtR X id r) (s : MuS r g) (hN : X.N[i]? = some x := by rfl) (hv : Vis X.env.scope x := by first | exact Or.inl rfl | exact Or.inr (Or.inl rfl) | exact Or.inr (Or.inr rfl)) (hd : (x == ("__debug__" : Str)) = false := by decide)
    (hcd : (x == ("__classdict__" : Str)) = false := by decide) (hbase : attributeBase (.Name x p) nm X.env (eval (.Name x p) X.env) = eval (.Name x p) X.env := by rfl) (hline : (apos.endLine == pos.line) = true := by rfl) :
    E X true false (.Call (.Attribute (.Name x p) nm apos) [] [] pos) (tBM0 X.K "list" r (tVar i)) (wMut i g (Wp.ret [])) := by
  refine ⟨pe_bm0 PySem.F.plainAttrs_list slot hty hm (pe_var hN hv hd hcd) hbase hline, ?_⟩
  intro H0 Z0 σ H e P PW k Q S h q
  obtain ⟨ds0, h0, h⟩ := h
  obtain ⟨ad, vs, e1, e2, _, _⟩ := S.getO h0
  refine ⟨_, e1, tyL e2, SR.mut (xs := []) (ds := []) s rfl S e1 h fun v d e' H' S2 hk => q v d e' H' (fun z => nomatch z) S2 hk⟩
def appG (cur ds : List D) : Option (D × List D) := match ds with
  | [d] => if cur.length < lim then some (.none, cur ++ [d]) else none
  | _ => none
theorem appS : MuS rAppend appG := by
  intro H a vs xs cur ds cur' ret hH hl hx hi g
  match ds, g, xs, hx with
  | [d], g, [v], _ =>
    have g : (if cur.length < lim then some (PyData.none, cur ++ [d]) else none) = some (ret, cur') := g
    by_cases hc : cur.length < lim
    · rw [if_pos hc] at g
      obtain ⟨rfl, rfl⟩ := Prod.mk.inj (Option.some.inj g)
      refine ⟨.non, vs ++ [v], by rw [List.length_append, List.length_append, hl]; rfl, .inl ⟨rfl, rfl⟩, fun p hp => ?_, fun Q q => ⟨a, vs, v, rfl, rfl, hH, by rw [hl]; exact lim_lt (by omega), q⟩⟩
      rw [List.zip_append hl] at hp
      exact (List.mem_append.mp hp).elim (fun z => List.mem_append_right _ z) fun z => List.mem_append_left _ z
    · rw [if_neg hc] at g; cases g
def popG (cur ds : List D) : Option (D × List D) := match ds with
  | [] => (cur[cur.length - 1]?).map fun d => (d, cur.dropLast)
  | _ => none
theorem mem_zipAt {vs : List V} {cur : List D} {j : Nat} {v : V} {d : D} (h1 : vs[j]? = some v) (h2 : cur[j]? = some d) : (v, d) ∈ vs.zip cur := by
  refine List.mem_of_getElem? (i := j) ?_
  rw [List.getElem?_zip_eq_some]
  exact ⟨h1, h2⟩
theorem zip_dropLast (hl : ∀ {vs : List V} {cur : List D}, vs.length = cur.length → True) {vs : List V} {cur : List D} (h : vs.length = cur.length) : ∀ p ∈ vs.dropLast.zip cur.dropLast, p ∈ vs.zip cur := fun p hp => by
  rw [List.dropLast_eq_take, List.dropLast_eq_take, h, zip_take] at hp
  exact List.mem_of_mem_take hp
theorem popS : MuS rPop popG := by
  intro H a vs xs cur ds cur' ret hH hl hx hi g
  match ds, g, xs, hx with
  | [], g, [], _ =>
    obtain ⟨d, h1, h2⟩ := Option.map_eq_some_iff.mp (show (cur[cur.length - 1]?).map (fun d => (d, cur.dropLast)) = some (ret, cur') from g)
    obtain ⟨rfl, rfl⟩ := Prod.mk.inj h2
    have hj : cur.length - 1 < cur.length := (List.getElem?_eq_some_iff.mp h1).1
    have hv : vs[vs.length - 1]? = some (vs[vs.length - 1]'(by omega)) := List.getElem?_eq_getElem (by omega)
    refine ⟨_, vs.dropLast, by rw [List.length_dropLast, List.length_dropLast, hl], .inr (List.mem_append_right _ (mem_zipAt (by rw [← hl]; exact hv) h1)), fun p hp => List.mem_append_right _ (zip_dropLast (fun _ => trivial) hl p hp), fun Q q => ⟨a, vs, _, rfl, rfl, hH, hv, q⟩⟩
def popAtG (cur ds : List D) : Option (D × List D) := match ds with
  | [.int i] => if cur.length ≤ lim then (ixN cur.length i).bind fun j => (cur[j]?).map fun d => (d, cur.eraseIdx j) else none
  | _ => none
theorem zip_eraseIdx : ∀ {vs : List V} {cur : List D} (j : Nat), vs.length = cur.length → ∀ p ∈ (vs.eraseIdx j).zip (cur.eraseIdx j), p ∈ vs.zip cur
  | [], [], _, _, p, hp => by simp at hp
  | v :: vs, d :: cur, 0, _, p, hp => by
    rw [List.zip_cons_cons]
    exact List.mem_cons_of_mem _ (by simpa using hp)
  | v :: vs, d :: cur, j + 1, h, p, hp => by
    rw [List.zip_cons_cons]
    rw [List.eraseIdx_cons_succ, List.eraseIdx_cons_succ, List.zip_cons_cons] at hp
    rcases List.mem_cons.mp hp with hp | hp
    · exact hp ▸ List.mem_cons_self
    · exact List.mem_cons_of_mem _ (zip_eraseIdx j (by simpa using h) p hp)
  | [], _ :: _, _, h, _, _ => by simp at h
  | _ :: _, [], _, h, _, _ => by simp at h
theorem popAtS : MuS rPopAt popAtG := by
  intro H a vs xs cur ds cur' ret hH hl hx hi g
  match ds, g, xs, hx, hi with
  | [.int i], g, [v], _, hi =>
    obtain rfl := hi v i (by simp)
    have g : (if cur.length ≤ lim then (ixN cur.length i).bind (fun j => (cur[j]?).map fun d => (d, cur.eraseIdx j)) else none) = some (ret, cur') := g
    by_cases hc : cur.length ≤ lim
    · rw [if_pos hc] at g
      obtain ⟨j, h1, h2⟩ := Option.bind_eq_some_iff.mp g
      obtain ⟨d, h3, h4⟩ := Option.map_eq_some_iff.mp h2
      obtain ⟨rfl, rfl⟩ := Prod.mk.inj h4
      obtain ⟨s1, s2, s3, s4⟩ := ixN_seq h1
      have hv : vs[j]? = some (vs[j]'(by omega)) := List.getElem?_eq_getElem (by omega)
      refine ⟨_, vs.eraseIdx j, by rw [List.length_eraseIdx, List.length_eraseIdx, hl], .inr (List.mem_append_right _ (mem_zipAt hv h3)), fun p hp => List.mem_append_right _ (zip_eraseIdx j hl p hp), fun Q q => ⟨a, vs, i, j, _, rfl, rfl, hH, ?_, ?_, by rw [hl]; exact s1, hv, q⟩⟩
      · have := lim_le hc
        have : cur.length ≤ 10000000 := hc
        omega
      · have : cur.length ≤ 10000000 := hc
        omega
    · rw [if_neg hc] at g; cases g
def insG (cur ds : List D) : Option (D × List D) := match ds with
  | [.int i, d] => if cur.length < lim ∧ 0 ≤ i ∧ i ≤ 10000000 then some (.none, cur.take i.toNat ++ [d] ++ cur.drop i.toNat) else none
  | _ => none
theorem insS : MuS (fun x vs H Q => ∃ (l : Addr) (xs : List V) (i : Int) (y : V), x = .ref l ∧ vs = [.int i, y] ∧ H l = some (.lst xs) ∧ xs.length < sizeLine ∧ 0 ≤ i ∧ i < 2 ^ 63 ∧ Q .non (upd H l (.lst (xs.take i.toNat ++ [y] ++ xs.drop i.toNat)))) insG := by
  intro H a vs xs cur ds cur' ret hH hl hx hi g
  match ds, g, xs, hx, hi with
  | [.int i, d], g, [v, u], _, hi =>
    obtain rfl := hi v i (by simp)
    have g : (if cur.length < lim ∧ 0 ≤ i ∧ i ≤ 10000000 then some (PyData.none, cur.take i.toNat ++ [d] ++ cur.drop i.toNat) else none) = some (ret, cur') := g
    by_cases hc : cur.length < lim ∧ 0 ≤ i ∧ i ≤ 10000000
    · rw [if_pos hc] at g
      obtain ⟨rfl, rfl⟩ := Prod.mk.inj (Option.some.inj g)
      have lt : (vs.take i.toNat).length = (cur.take i.toNat).length := by rw [List.length_take, List.length_take, hl]
      refine ⟨.non, vs.take i.toNat ++ [u] ++ vs.drop i.toNat, by simp only [List.length_append, List.length_drop, lt, hl, List.length_cons, List.length_nil], .inl ⟨rfl, rfl⟩, fun p hp => ?_, fun Q q => ⟨a, vs, i, u, rfl, rfl, hH, by rw [hl]; exact lim_lt (by omega), hc.2.1, by omega, q⟩⟩
      rw [List.zip_append (by rw [List.length_append, List.length_append, lt]; rfl), List.zip_append lt] at hp
      rcases List.mem_append.mp hp with hp | hp
      · rcases List.mem_append.mp hp with hp | hp
        · rw [zip_take] at hp
          exact List.mem_append_right _ (List.mem_of_mem_take hp)
        · refine List.mem_append_left _ ?_
          rw [List.zip_cons_cons]
          exact List.mem_cons_of_mem _ hp
      · rw [zip_drop] at hp
        exact List.mem_append_right _ (List.mem_of_mem_drop hp)
    · rw [if_neg hc] at g; cases g
/-! ### x.extend(y) -/
def extG (cur : List D) (s : Bool × List D) : Option (D × List D) := if s.1 = true ∧ cur.length + s.2.length ≤ lim then some (.none, cur ++ s.2) else none
def chgQ (i : Nat) (g : List D → Bool × List D → Option (D × List D)) (q : QV) : Op D := fun e => (seqOf e q).bind fun s => chgO i (fun cur => g cur s) e
def oExt (i : Nat) (fq : Op QV) : Op D := Op.bd (Op.gt fun e => getO e i) fun _ => Op.bd fq fun q => chgQ i extG q
def wExt (i : Nat) (wq : Wp QV) : Wp D := Wp.bd (Wp.gt fun e => getO e i) fun _ => Wp.bd wq fun q => lift (chgQ i extG q)
theorem lift_Ext (i : Nat) (f : Op QV) : lift (oExt i f) = wExt i (lift f) := by simp only [oExt, wExt, lift_bd, lift_gt]
theorem e_ext {i : Nat} {apos : Pos} (hq : Sq X true a ta wq) (hN : X.N[i]? = some x := by rfl) (hv : Vis X.env.scope x := by first | exact Or.inl rfl | exact Or.inr (Or.inl rfl) | exact Or.inr (Or.inr rfl)) (hd : (x == ("__debug__" : Str)) = false := by decide)
    (hcd : (x == ("__classdict__" : Str)) = false := by decide) (hbase : attributeBase (.Name x p) "extend" X.env (eval (.Name x p) X.env) = eval (.Name x p) X.env := by rfl)
    (hfew : ((backTo pos (starEach [a] X.env)).all (fun x => !x.1) && (backToKw pos (keywordEach [] X.env)).all (fun x => x.1.isSome) && decide ([a].length + ([] : List Keyword).length + (if ([] : List Keyword).isEmpty then 0 else 1) < 30)) = true := by rfl)
    (hline : (apos.endLine == pos.line) = true := by rfl) (hs : starEach [a] X.env = (false, eval a X.env) :: starEach [] X.env := by rfl) (hplain : (backTo pos (starEach [] X.env)).any (·.1) = false := by rfl) :
    E X true false (.Call (.Attribute (.Name x p) "extend" apos) [a] [] pos) (tBM X.K "list" rExtend (tVar i) (tCons ta tNil)) (wExt i wq) := by
  refine ⟨pe_bm PySem.F.plainAttrs_list PySem.F.slot_list_extend PySem.F.type_list_extend mt_extend (pe_var hN hv hd hcd) (pa_cons hq.pe pa_nil hs) hbase hfew hline hs hplain, ?_⟩
  intro H0 Z0 σ H e P PW k Q S h q
  obtain ⟨ds0, h0, h⟩ := h
  obtain ⟨ad, vs0, e1, e2, _, _⟩ := S.getO h0
  refine ⟨_, e1, tyL e2, hq.snd H0 Z0 σ H e P PW _ _ S h fun v u e1' H1 _ ho S1 h1 => ?_⟩
  obtain ⟨⟨ret, e3⟩, h2, hk⟩ := h1
  obtain ⟨⟨kd, ds⟩, h3, h4⟩ := Option.bind_eq_some_iff.mp h2
  obtain ⟨cur, h5, h6⟩ := Option.bind_eq_some_iff.mp h4
  obtain ⟨⟨ret', cur'⟩, h7, h8⟩ := Option.map_eq_some_iff.mp h6
  obtain ⟨rfl, rfl⟩ := Prod.mk.inj h8
  have h7 : (if kd = true ∧ cur.length + ds.length ≤ lim then some (PyData.none, cur ++ ds) else none) = some (ret', cur') := h7
  by_cases hc : kd = true ∧ cur.length + ds.length ≤ lim
  · rw [if_pos hc] at h7
    obtain ⟨rfl, rfl⟩ := Prod.mk.inj (Option.some.inj h7)
    obtain ⟨rfl, hc⟩ := hc
    obtain ⟨ad2, us, rfl, hl2, _, len2, S2⟩ := SR.openQ (R := []) S1 ho h3
    obtain ⟨a3, vs, e4, e5, len, S3⟩ := S2.getO h5
    rw [e1] at e4
    obtain rfl : ad = a3 := by simpa using e4
    refine ⟨ad, ad2, vs, us, rfl, rfl, e5, hl2 rfl, by rw [len, len2]; exact lim_le hc, ?_⟩
    refine q .non _ _ _ (fun z => nomatch z) (SR.change (P := (.non, .none) :: P) (vs := vs) (vs' := vs ++ us) (ds' := cur ++ ds) ?_ (by rw [List.length_append, List.length_append, len, len2]) h5 e1) hk
    refine (SR.addP (P := vs.zip cur ++ (us.zip ds ++ P)) (v := .non) (d := .none) ?_ fun _ => .non).subP fun p hp => ?_
    · exact S3.subP fun p hp => by
        rcases List.mem_append.mp hp with hp | hp
        · exact List.mem_append_left _ hp
        · rcases List.mem_append.mp hp with hp | hp
          · exact List.mem_append_right _ (List.mem_append_left _ hp)
          · exact List.mem_append_right _ (List.mem_append_right _ (qP_sub p hp))
    · rw [List.zip_append len] at hp
      rcases List.mem_append.mp hp with hp | hp
      · rcases List.mem_append.mp hp with hp | hp
        · exact List.mem_cons_of_mem _ (List.mem_append_left _ hp)
        · exact List.mem_cons_of_mem _ (List.mem_append_right _ (List.mem_append_left _ hp))
      · rcases List.mem_cons.mp hp with hp | hp
        · exact hp ▸ List.mem_cons_self
        · exact List.mem_cons_of_mem _ (List.mem_append_right _ (List.mem_append_right _ hp))
  · rw [if_neg hc] at h7; cases h7
/-! ### as computations -/
theorem d_app {i : Nat} {apos : Pos} (ha : As X true [a] tas (lift fs)) (hN : X.N[i]? = some x := by rfl) (hv : Vis X.env.scope x := by first | exact Or.inl rfl | exact Or.inr (Or.inl rfl) | exact Or.inr (Or.inr rfl)) (hd : (x == ("__debug__" : Str)) = false := by decide)
    (hcd : (x == ("__classdict__" : Str)) = false := by decide) (hbase : attributeBase (.Name x p) "append" X.env (eval (.Name x p) X.env) = eval (.Name x p) X.env := by rfl)
    (hfew : ((backTo pos (starEach [a] X.env)).all (fun x => !x.1) && (backToKw pos (keywordEach [] X.env)).all (fun x => x.1.isSome) && decide ([a].length + ([] : List Keyword).length + (if ([] : List Keyword).isEmpty then 0 else 1) < 30)) = true := by rfl)
    (hline : (apos.endLine == pos.line) = true := by rfl) (hs : starEach [a] X.env = (false, eval a X.env) :: starEach [] X.env := by rfl) (hplain : (backTo pos (starEach [] X.env)).any (·.1) = false := by rfl) :
    E X true false (.Call (.Attribute (.Name x p) "append" apos) [a] [] pos) (tBM X.K "list" rAppend (tVar i) tas) (lift (oMut i appG fs)) := by
  rw [lift_Mut]; exact e_mut PySem.F.slot_list_append PySem.F.type_list_append mt_append appS ha hN hv hd hcd hbase hfew hline hs hplain
theorem d_popAt {i : Nat} {apos : Pos} (ha : As X true [a] tas (lift fs)) (hN : X.N[i]? = some x := by rfl) (hv : Vis X.env.scope x := by first | exact Or.inl rfl | exact Or.inr (Or.inl rfl) | exact Or.inr (Or.inr rfl)) (hd : (x == ("__debug__" : Str)) = false := by decide)
    (hcd : (x == ("__classdict__" : Str)) = false := by decide) (hbase : attributeBase (.Name x p) "pop" X.env (eval (.Name x p) X.env) = eval (.Name x p) X.env := by rfl)
    (hfew : ((backTo pos (starEach [a] X.env)).all (fun x => !x.1) && (backToKw pos (keywordEach [] X.env)).all (fun x => x.1.isSome) && decide ([a].length + ([] : List Keyword).length + (if ([] : List Keyword).isEmpty then 0 else 1) < 30)) = true := by rfl)
    (hline : (apos.endLine == pos.line) = true := by rfl) (hs : starEach [a] X.env = (false, eval a X.env) :: starEach [] X.env := by rfl) (hplain : (backTo pos (starEach [] X.env)).any (·.1) = false := by rfl) :
    E X true false (.Call (.Attribute (.Name x p) "pop" apos) [a] [] pos) (tBM X.K "list" rPopAt (tVar i) tas) (lift (oMut i popAtG fs)) := by
  rw [lift_Mut]; exact e_mut PySem.F.slot_list_pop PySem.F.type_list_pop mt_popAt popAtS ha hN hv hd hcd hbase hfew hline hs hplain
theorem d_pop {i : Nat} {apos : Pos} (hN : X.N[i]? = some x := by rfl) (hv : Vis X.env.scope x := by first | exact Or.inl rfl | exact Or.inr (Or.inl rfl) | exact Or.inr (Or.inr rfl)) (hd : (x == ("__debug__" : Str)) = false := by decide)
    (hcd : (x == ("__classdict__" : Str)) = false := by decide) (hbase : attributeBase (.Name x p) "pop" X.env (eval (.Name x p) X.env) = eval (.Name x p) X.env := by rfl) (hline : (apos.endLine == pos.line) = true := by rfl) :
    E X true false (.Call (.Attribute (.Name x p) "pop" apos) [] [] pos) (tBM0 X.K "list" rPop (tVar i)) (lift (oMut i popG (Op.ret []))) := by
  rw [lift_Mut, lift_ret]; exact e_mut0 PySem.F.slot_list_pop PySem.F.type_list_pop mt_pop popS hN hv hd hcd hbase hline
theorem d_ins {i : Nat} {apos : Pos} (ha : As X true [a, b] tas (lift fs)) (hN : X.N[i]? = some x := by rfl) (hv : Vis X.env.scope x := by first | exact Or.inl rfl | exact Or.inr (Or.inl rfl) | exact Or.inr (Or.inr rfl)) (hd : (x == ("__debug__" : Str)) = false := by decide)
    (hcd : (x == ("__classdict__" : Str)) = false := by decide) (hbase : attributeBase (.Name x p) "insert" X.env (eval (.Name x p) X.env) = eval (.Name x p) X.env := by rfl)
    (hfew : ((backTo pos (starEach [a, b] X.env)).all (fun x => !x.1) && (backToKw pos (keywordEach [] X.env)).all (fun x => x.1.isSome) && decide ([a, b].length + ([] : List Keyword).length + (if ([] : List Keyword).isEmpty then 0 else 1) < 30)) = true := by rfl)
    (hline : (apos.endLine == pos.line) = true := by rfl) (hs : starEach [a, b] X.env = (false, eval a X.env) :: starEach [b] X.env := by rfl) (hplain : (backTo pos (starEach [b] X.env)).any (·.1) = false := by rfl) :
    E X true false (.Call (.Attribute (.Name x p) "insert" apos) [a, b] [] pos) (tBM X.K "list" (fun x vs H Q => ∃ (l : Addr) (xs : List V) (i : Int) (y : V), x = .ref l ∧ vs = [.int i, y] ∧ H l = some (.lst xs) ∧ xs.length < sizeLine ∧ 0 ≤ i ∧ i < 2 ^ 63 ∧ Q .non (upd H l (.lst (xs.take i.toNat ++ [y] ++ xs.drop i.toNat)))) (tVar i) tas) (lift (oMut i insG fs)) := by
  rw [lift_Mut]; exact e_mut PySem.F.slot_list_insert PySem.F.type_list_insert mt_insert insS ha hN hv hd hcd hbase hfew hline hs hplain
theorem d_ext {i : Nat} {apos : Pos} (hq : Sq X true a ta (lift fq)) (hN : X.N[i]? = some x := by rfl) (hv : Vis X.env.scope x := by first | exact Or.inl rfl | exact Or.inr (Or.inl rfl) | exact Or.inr (Or.inr rfl)) (hd : (x == ("__debug__" : Str)) = false := by decide)
    (hcd : (x == ("__classdict__" : Str)) = false := by decide) (hbase : attributeBase (.Name x p) "extend" X.env (eval (.Name x p) X.env) = eval (.Name x p) X.env := by rfl)
    (hfew : ((backTo pos (starEach [a] X.env)).all (fun x => !x.1) && (backToKw pos (keywordEach [] X.env)).all (fun x => x.1.isSome) && decide ([a].length + ([] : List Keyword).length + (if ([] : List Keyword).isEmpty then 0 else 1) < 30)) = true := by rfl)
    (hline : (apos.endLine == pos.line) = true := by rfl) (hs : starEach [a] X.env = (false, eval a X.env) :: starEach [] X.env := by rfl) (hplain : (backTo pos (starEach [] X.env)).any (·.1) = false := by rfl) :
    E X true false (.Call (.Attribute (.Name x p) "extend" apos) [a] [] pos) (tBM X.K "list" rExtend (tVar i) (tCons ta tNil)) (lift (oExt i fq)) := by
  rw [lift_Ext]; exact e_ext hq hN hv hd hcd hbase hfew hline hs hplain
end
end Vl
/-! The value layer, 13: what a loop walks; for, while, list comprehensions. -/
namespace Vl
open PySem PySem.Spec PyProof.Rows L2
section
variable {K : PySem.W.Frag} {H H' H0 : Hp} {Z Z' Z0 : Addr → Prop} {σ σ' : L2.St} {e e' : Sto} {P P' : List (V × D)} {PW : List (Addr × List D)} {F F' : List (V × D)} {W W' : List (Addr × List D)}
/-! ### slots told apart -/
theorem Sl.det : ∀ {σ : L2.St} {e : Sto} {F F' : List (V × D)} {W W' : List (Addr × List D)}, Sl σ e F W → Sl σ e F' W' → F' = F ∧ W' = W
  | _, _, _, _, _, _, .nil, .nil => ⟨rfl, rfl⟩
  | _, _, _, _, _, _, .un a, .un b => Sl.det a b
  | _, _, _, _, _, _, .fz a, .fz b => by
    obtain ⟨h1, h2⟩ := Sl.det a b
    exact ⟨by rw [h1], h2⟩
  | _, _, _, _, _, _, .ow a, .ow b => by
    obtain ⟨h1, h2⟩ := Sl.det a b
    exact ⟨h1, by rw [h2]⟩
/-- the slots are told otherwise, the lists of this frame's the same -/
theorem SR.swapE {σ1 σ2 : L2.St} {e1 e2 : Sto} {F1 F2 : List (V × D)} (s1 : Sl σ1 e1 F1 W) (s2 : Sl σ2 e2 F2 W) (S : SR K H0 Z0 σ1 H e1 P PW) (h : ∀ p ∈ F2, p ∈ P) : SR K H0 Z0 σ2 H e2 P PW := by
  obtain ⟨Z, F, W', s, S⟩ := S
  obtain ⟨rfl, rfl⟩ := s1.det s
  refine ⟨Z, F2, _, s2, S.sub (fun p hp => ?_) (fun _ h => h) S.nd⟩
  rcases List.mem_append.mp hp with hp | hp
  · exact List.mem_append_left _ hp
  · exact List.mem_append_left _ (h p hp)
/-- one slot that holds no list of this frame's is set or forgotten -/
theorem Sl.setN {i : Nat} {v : V} {d : D} (h : Sl σ e F W) (g : Vl.getO e i = none) : ∃ F', Sl (σ.set i (some v)) (e.set i (.fz d)) F' W ∧ ∀ p ∈ F', p = (v, d) ∨ p ∈ F := by
  induction h generalizing i with
  | nil => exact ⟨[], .nil, fun p h => (nomatch h)⟩
  | @un x _ _ F W s ih =>
    cases i with
    | zero => exact ⟨_, .fz s, fun p h => (List.mem_cons.mp h).elim .inl .inr⟩
    | succ i =>
      obtain ⟨F', a, b⟩ := ih (i := i) (by simpa [Vl.getO] using g)
      exact ⟨F', .un a, b⟩
  | @fz v' d' _ _ F W s ih =>
    cases i with
    | zero => exact ⟨_, .fz s, fun p h => (List.mem_cons.mp h).elim .inl fun h => .inr (List.mem_cons_of_mem _ h)⟩
    | succ i =>
      obtain ⟨F', a, b⟩ := ih (i := i) (by simpa [Vl.getO] using g)
      refine ⟨_, .fz a, fun p h => ?_⟩
      rcases List.mem_cons.mp h with h | h
      · exact .inr (h ▸ List.mem_cons_self)
      · exact (b p h).imp _root_.id (List.mem_cons_of_mem _)
  | @ow a' ds' _ _ F W s ih =>
    cases i with
    | zero => simp [Vl.getO] at g
    | succ i =>
      obtain ⟨F', a, b⟩ := ih (i := i) (by simpa [Vl.getO] using g)
      exact ⟨F', .ow a, b⟩
theorem Sl.unN {i : Nat} (h : Sl σ e F W) (g : Vl.getO e i = none) : ∃ F', Sl (σ.set i none) (e.set i .un) F' W ∧ ∀ p ∈ F', p ∈ F := by
  induction h generalizing i with
  | nil => exact ⟨[], .nil, fun p h => (nomatch h)⟩
  | @un x _ _ F W s ih =>
    cases i with
    | zero => exact ⟨_, .un s, fun p h => h⟩
    | succ i =>
      obtain ⟨F', a, b⟩ := ih (i := i) (by simpa [Vl.getO] using g)
      exact ⟨F', .un a, b⟩
  | @fz v' d' _ _ F W s ih =>
    cases i with
    | zero => exact ⟨_, .un s, fun p h => List.mem_cons_of_mem _ h⟩
    | succ i =>
      obtain ⟨F', a, b⟩ := ih (i := i) (by simpa [Vl.getO] using g)
      refine ⟨_, .fz a, fun p h => ?_⟩
      rcases List.mem_cons.mp h with h | h
      · exact h ▸ List.mem_cons_self
      · exact List.mem_cons_of_mem _ (b p h)
  | @ow a' ds' _ _ F W s ih =>
    cases i with
    | zero => simp [Vl.getO] at g
    | succ i =>
      obtain ⟨F', a, b⟩ := ih (i := i) (by simpa [Vl.getO] using g)
      exact ⟨F', .ow a, b⟩
def wipeE (e : Sto) : List Nat → Sto
  | [] => e
  | v :: vs => (wipeE e vs).set v .un
theorem getO_set_un {e : Sto} {i j : Nat} (h : Vl.getO e i = none) : Vl.getO (e.set j .un) i = none := by
  unfold Vl.getO at h ⊢
  rw [List.getElem?_set]
  by_cases hij : j = i
  · rw [if_pos hij]
    by_cases hl : j < e.length
    · rw [if_pos hl]
    · rw [if_neg hl]
  · rw [if_neg hij]; exact h
theorem getO_set_fz {e : Sto} {i j : Nat} {d : D} (h : Vl.getO e i = none) : Vl.getO (e.set j (.fz d)) i = none := by
  unfold Vl.getO at h ⊢
  rw [List.getElem?_set]
  by_cases hij : j = i
  · rw [if_pos hij]
    by_cases hl : j < e.length
    · rw [if_pos hl]
    · rw [if_neg hl]
  · rw [if_neg hij]; exact h
theorem getO_wipe {e : Sto} {i : Nat} (h : Vl.getO e i = none) : ∀ vs : List Nat, Vl.getO (wipeE e vs) i = none
  | [] => h
  | _ :: vs => getO_set_un (getO_wipe h vs)
theorem Sl.wipe (s : Sl σ e F W) : ∀ {vs : List Nat}, (∀ i ∈ vs, Vl.getO e i = none) → ∃ F', Sl (L2.wipe σ vs) (wipeE e vs) F' W ∧ ∀ p ∈ F', p ∈ F
  | [], _ => ⟨F, s, fun _ h => h⟩
  | v :: vs, h => by
    obtain ⟨F1, s1, h1⟩ := s.wipe (vs := vs) fun i hi => h i (List.mem_cons_of_mem _ hi)
    obtain ⟨F2, s2, h2⟩ := s1.unN (i := v) (getO_wipe (h v List.mem_cons_self) vs)
    exact ⟨F2, s2, fun p hp => h1 p (h2 p hp)⟩
/-! ### targets of a comprehension: names, tuples of names -/
def SndC (K : PySem.W.Frag) (is : List Nat) (g : TG) (γ : D → Sto → Option Sto) : Prop :=
  ∀ H0 Z0 σ H e P PW v d e' Q, SR K H0 Z0 σ H e ((v, d) :: P) PW → (∀ i ∈ is, Vl.getO e i = none) → γ d e = some e' → (∀ σ', SR K H0 Z0 σ' H e' P PW → σ'.length = σ.length → (∀ j, j ∉ is → σ'[j]? = σ[j]?) → (∀ i, Vl.getO e i = none → Vl.getO e' i = none) → (∀ F W, Sl σ e F W → ∃ F', Sl σ' e' F' W) → Q σ' H) → g v σ H Q
def SndCs (K : PySem.W.Frag) (is : List Nat) (g : TGs) (γ : List D → Sto → Option Sto) : Prop :=
  ∀ H0 Z0 σ H e P PW vs ds e' Q, vs.length = ds.length → SR K H0 Z0 σ H e (vs.zip ds ++ P) PW → (∀ i ∈ is, Vl.getO e i = none) → γ ds e = some e' → (∀ σ', SR K H0 Z0 σ' H e' P PW → σ'.length = σ.length → (∀ j, j ∉ is → σ'[j]? = σ[j]?) → (∀ i, Vl.getO e i = none → Vl.getO e' i = none) → (∀ F W, Sl σ e F W → ∃ F', Sl σ' e' F' W) → Q σ' H) → g vs σ H Q
structure Tc (X : Cx) (is : List Nat) (tg : Expr) (g : TG) (γ : D → Sto → Option Sto) : Prop where
  pg : PG X tg g
  snd : SndC X.K is g γ
structure Tcs (X : Cx) (is : List Nat) (tg : List Expr) (g : TGs) (γ : List D → Sto → Option Sto) : Prop where
  pg : PGs X tg g
  snd : SndCs X.K is g γ
variable {X : Cx} {m m2 o o2 : Bool} {a b c : Expr} {es : List Expr} {ta tb tc : TE} {tas : TA} {wa wb : Wp D} {fa fb : Op D} {ws : Wp (List D)} {fs : Op (List D)} {pos p p2 : Pos} {x y z nm : Str} {id : String} {wq wq2 : Wp QV} {fq fq2 : Op QV} {is is2 : List Nat} {g g2 : TG} {gs : TGs} {γ γ2 : D → Sto → Option Sto} {γs : List D → Sto → Option Sto}
theorem c_name {i : Nat} (hN : X.N.Nodup) (hi : X.N[i]? = some x := by rfl) (hx : Loc X.env.scope x := by first | exact Or.inl rfl | exact Or.inr rfl) (hf : X.fn x = true ∨ X.env.scope.names.lookup x = some .local := by first | exact .inl rfl | exact .inr rfl | assumption) :
    Tc X [i] (.Name x pos) (gName i) (gmName i) := by
  refine ⟨pg_name hN hi hx hf, ?_⟩
  intro H0 Z0 σ H e P PW v d e' Q S ho h q
  have h : e.set i (.fz d) = e' := Option.some.inj h
  subst h
  refine q _ S.setF (List.length_set ..) (fun j hj => List.getElem?_set_ne fun z => hj (by simp [z])) (fun j hj => getO_set_fz hj) fun F W s => ?_
  obtain ⟨F', s', _⟩ := s.setN (v := v) (d := d) (ho i List.mem_cons_self)
  exact ⟨F', s'⟩
theorem cs_nil : Tcs X [] [] gNil gmNil := by
  refine ⟨pgs_nil, ?_⟩
  intro H0 Z0 σ H e P PW vs ds e' Q hl S _ h q
  cases ds with
  | nil =>
    have h : e = e' := Option.some.inj h
    subst h
    obtain rfl := List.length_eq_zero_iff.mp hl
    exact ⟨rfl, q σ S rfl (fun _ _ => rfl) (fun _ h => h) fun F W s => ⟨F, s⟩⟩
  | cons _ _ => cases h
theorem cs_cons (h1 : Tc X is a g γ) (h2 : Tcs X is2 es gs γs) (hs : (assignEach (a :: es) X.env).map (·.2) = assign a X.env :: (assignEach es X.env).map (·.2) := by rfl) : Tcs X (is ++ is2) (a :: es) (gCons g gs) (gmCons γ γs) := by
  refine ⟨pgs_cons h1.pg h2.pg hs, ?_⟩
  intro H0 Z0 σ H e P PW vs ds e' Q hl S ho h q
  cases ds with
  | nil => cases h
  | cons d ds =>
    cases vs with
    | nil => simp at hl
    | cons v vs =>
      obtain ⟨e1, he1, he2⟩ := Option.bind_eq_some_iff.mp h
      refine ⟨v, vs, rfl, h1.snd H0 Z0 σ H e (vs.zip ds ++ P) PW v d e1 _ (by rw [List.zip_cons_cons] at S; exact S) (fun i hi => ho i (List.mem_append_left _ hi)) he1 fun σ1 S1 l1 hj g1 f1 => ?_⟩
      refine h2.snd H0 Z0 σ1 H e1 P PW vs ds e' _ (by simpa using hl) S1 (fun i hi => g1 i (ho i (List.mem_append_right _ hi))) he2 fun σ2 S2 l2 hj2 g2 f2 => q σ2 S2 (l2.trans l1) (fun j hj' => ?_) (fun i hi => g2 i (g1 i hi)) fun F W s => ?_
      · rw [List.mem_append, not_or] at hj'
        exact (hj2 j hj'.2).trans (hj j hj'.1)
      · obtain ⟨F1, s1⟩ := f1 F W s
        exact f2 F1 W s1
theorem c_tup {n k : Nat} (hc : X.calm = true) (h : Tcs X is es gs γs) (hn : (assignEach es X.env).length = n := by rfl) (hst : (assignEach es X.env).findIdx? (·.1) = none := by rfl) : Tc X is (.Tuple es k pos) (gTup X.K n gs) (gmTup n γs) := by
  refine ⟨pg_tup hc h.pg hn hst, ?_⟩
  intro H0 Z0 σ H e P PW v d e' Q S ho hg q
  cases d with
  | tuple ds =>
    have hg : (if ds.length = n then γs ds e else none) = some e' := hg
    by_cases hn : ds.length = n
    · rw [if_pos hn] at hg
      obtain ⟨a, vs, rfl, h1, h2, S1⟩ := S.openT
      exact ⟨a, vs, rfl, h1.sqT, h2.trans hn, h.snd H0 Z0 σ H e P PW vs ds e' Q h2 S1 ho hg q⟩
    · rw [if_neg hn] at hg; cases hg
  | dict l =>
    match l, S, hg with
    | [(.tuple ds, .none)], S, hg =>
      have hg : (if ds.length = n then γs ds e else none) = some e' := hg
      by_cases hn : ds.length = n
      · rw [if_pos hn] at hg
        obtain ⟨a, vs, rfl, h1, h2, S1⟩ := SR.openP S
        exact ⟨a, vs, rfl, h1, h2.trans hn, h.snd H0 Z0 σ H e P PW vs ds e' Q h2 S1 ho hg q⟩
      · rw [if_neg hn] at hg; cases hg
  | _ => cases hg
/-! ### x[i] = .. -/
def gmSub (i : Nat) (f : Op D) : D → Sto → Option Sto := fun d e => (Vl.getO e i).bind fun _ => match f e with
  | some (.int j, e1) => (Vl.getO e1 i).bind fun cur => (ixN cur.length j).map fun k => e1.set i (.ow (cur.set k d))
  | _ => none
theorem zip_set {vs : List V} {cur : List D} {v : V} {d : D} : ∀ {vs : List V} {cur : List D} (k : Nat), vs.length = cur.length → ∀ p ∈ (vs.set k v).zip (cur.set k d), p = (v, d) ∨ p ∈ vs.zip cur
  | [], [], _, _, p, hp => by simp at hp
  | u :: vs, c :: cur, 0, _, p, hp => by
    rw [List.set_cons_zero, List.set_cons_zero, List.zip_cons_cons] at hp
    rw [List.zip_cons_cons]
    exact (List.mem_cons.mp hp).imp _root_.id (List.mem_cons_of_mem _)
  | u :: vs, c :: cur, k + 1, h, p, hp => by
    rw [List.set_cons_succ, List.set_cons_succ, List.zip_cons_cons] at hp
    rw [List.zip_cons_cons]
    rcases List.mem_cons.mp hp with hp | hp
    · exact .inr (hp ▸ List.mem_cons_self)
    · exact (zip_set (vs := vs) (cur := cur) k (by simpa using h) p hp).imp _root_.id (List.mem_cons_of_mem _)
  | [], _ :: _, _, h, _, _ => by simp at h
  | _ :: _, [], _, h, _, _ => by simp at h
theorem tg_sub {i : Nat} (hb : E X true false b tb (lift fb)) (hN : X.N[i]? = some x := by rfl) (hv : Vis X.env.scope x := by first | exact Or.inl rfl | exact Or.inr (Or.inl rfl) | exact Or.inr (Or.inr rfl)) (hd : (x == ("__debug__" : Str)) = false := by decide)
    (hcd : (x == ("__classdict__" : Str)) = false := by decide) (hs : ∀ v, assign (.Subscript (.Name x p) b pos) X.env v = (do
      let ov ← holding [v] (eval (.Name x p) X.env)
      let iv ← holding [v, ov] (eval b X.env)
      standAt pos
      holding [v, ov, iv] (setItem ov iv v)
      release [v, ov, iv] []) := by intro _; rfl) : Tg X true [] (.Subscript (.Name x p) b pos) (gSub (tVar i) tb rSetL) (gmSub i fb) := by
  refine ⟨pg_sub (pe_var hN hv hd hcd) hb.pe set_list hs, ?_⟩
  intro H0 Z0 σ H e P PW v d e' Q S hg q
  obtain ⟨cur0, h0, hg⟩ := Option.bind_eq_some_iff.mp (show (Vl.getO e i).bind (fun _ => match fb e with | some (.int j, e1) => (Vl.getO e1 i).bind fun cur => (ixN cur.length j).map fun k => e1.set i (.ow (cur.set k d)) | _ => none) = some e' from hg)
  obtain ⟨ad, vs0, ea, _, _, _⟩ := S.getO h0
  refine ⟨_, ea, ?_⟩
  cases hf : fb e with
  | none => rw [hf] at hg; cases hg
  | some r =>
    rw [hf] at hg
    obtain ⟨j, e1⟩ := r
    cases j with
    | int j =>
      obtain ⟨cur, h1, h2⟩ := Option.bind_eq_some_iff.mp (show (Vl.getO e1 i).bind (fun cur => (ixN cur.length j).map fun k => e1.set i (.ow (cur.set k d))) = some e' from hg)
      obtain ⟨k, h3, rfl⟩ := Option.map_eq_some_iff.mp h2
      refine hb.snd H0 Z0 σ H e _ PW (fun d2 e2 => d2 = .int j ∧ e2 = e1) _ S ⟨_, hf, rfl, rfl⟩ fun u d2 e2 H1 _ S1 hk => ?_
      obtain ⟨rfl, rfl⟩ := hk
      have S1 : SR X.K H0 Z0 σ H1 e2 ((u, .int j) :: (v, d) :: P) PW := S1
      obtain ⟨a2, vs, e3, e4, l, S2⟩ := S1.getO h1
      rw [ea] at e3
      obtain rfl : ad = a2 := by simpa using e3
      refine ⟨ad, vs, j, k, rfl, S1.hdInt, e4, by rw [l]; exact h3, q _ _ (SR.change (vs := vs) (vs' := vs.set k v) (ds' := cur.set k d) (S2.subP fun p hp => ?_) (by rw [List.length_set, List.length_set, l]) h1 ea) (fun z => nomatch z) fun _ _ => rfl⟩
      rcases List.mem_append.mp hp with hp | hp
      · rcases zip_set (vs := vs) (cur := cur) k l p hp with hp | hp
        · exact List.mem_append_right _ (hp ▸ List.mem_cons_of_mem _ List.mem_cons_self)
        · exact List.mem_append_left _ hp
      · exact List.mem_append_right _ (List.mem_cons_of_mem _ (List.mem_cons_of_mem _ hp))
    | _ => cases hg
/-! ### what a loop walks -/
/-- the turns: P1 what is kept at hand, q the slot whose own list is walked -/
def Trn (K : PySem.W.Frag) (σ : L2.St) (J : It) (P1 : List (V × D)) (q : Option Nat) (xs : List D) : Prop :=
  ∀ {H0 : Hp} {Z0 : Addr → Prop} {σ' : L2.St} {H : Hp} {e : Sto} {P : List (V × D)} {PW : List (Addr × List D)}, SR K H0 Z0 σ' H e (P1 ++ P) PW → (∀ i, q = some i → σ'[i]? = σ[i]? ∧ Vl.getO e i = some xs) →
    (∀ i, xs.length ≤ i → J.stop i H) ∧ ∀ i d, xs[i]? = some d → J.go i H ∧ ∀ x H', J.yld i H x H' → Same H H' ∧ SR K H0 Z0 σ' H' e ((x, d) :: (P1 ++ P)) PW
def SndI (K : PySem.W.Frag) (m : Bool) (q : Option Nat) (wi : TI) (w : Wp (List D)) : Prop :=
  ∀ H0 Z0 σ H e P PW k R, SR K H0 Z0 σ H e P PW → w e k → (∀ J P1 xs e' H', (m = false → e' = e ∧ Same H H') → SR K H0 Z0 σ H' e' (P1 ++ P) PW → (∀ i, q = some i → Vl.getO e' i = some xs) → Trn K σ J P1 q xs → k xs e' → R J H') → wi σ H R
structure Itr (X : Cx) (m : Bool) (q : Option Nat) (tg ex : Expr) (wi : TI) (w : Wp (List D)) : Prop where
  pi : PI X tg ex wi
  snd : SndI X.K m q wi w
theorem PI.or {tg ex : Expr} {wi wi2 : TI} (h : PI X tg ex wi) (h2 : PI X tg ex wi2) : PI X tg ex (fun σ H R => wi σ H R ∨ wi2 σ H R) :=
  ⟨fun pins s σ H R I q => q.elim (h.run pins s σ H R I) (h2.run pins s σ H R I)⟩
/-- a list or a tuple -/
def itQ : D → Option (List D)
  | .list ds => some ds
  | .tuple ds => some ds
  | _ => none
def iSeq (K : PySem.W.Frag) (tl : TE) : TI := fun σ H R => tl σ H fun x H1 => ∃ a, x = .ref a ∧ (((∃ xs, SqL K H1 a xs) ∧ R (Itl K a) H1) ∨ ((∃ xs, SqT K H1 a xs) ∧ R (Itt K a) H1))
theorem pie_new {pins : List (Addr × Obj)} {σ : L2.St} {H : Hp} {s : Shared} {R : It → Hp → Prop} {tg : Expr} {J : It} {tn : Nat → Heap → Prop} {ob : Obj} (I : Inv X pins σ H s) (T : Turn X.prog X.w X.K tg J [s.heap.objs.size] s.heap.objs.size tn) (h0 : tn 0 (s.heap.push ob)) (q : R J H) :
    PIE X pins σ tg R (.ref s.heap.objs.size) { s with heap := s.heap.push ob } :=
  ⟨_, _, tn, J, H, rfl, I.kept (t' := s.toks) fun b u e => Heap.get?_push_of_some _ e, T, h0, fun b hb => (List.mem_singleton.mp hb) ▸ I.fpOk (Nat.le_refl _) (I.hok.fresh (Nat.le_refl _)), q⟩
theorem pi_seq {tg l : Expr} {tl : TE} (hl : PE X l tl) : PI X tg l (iSeq X.K tl) := by
  refine ⟨fun pins s σ H R I h => ?_⟩
  refine thn (hl.run pins s σ H _ I h) fun v s1 hh => ?_
  obtain ⟨x, H1, I1, r1, a, rfl, q⟩ := hh
  have r1 : v = Value.ref a := r1
  subst r1
  rcases q with ⟨⟨xs, hq⟩, q⟩ | ⟨⟨xs, hq⟩, q⟩
  · obtain ⟨its, _, pl, _⟩ := I1.list hq
    exact wpAny_pyIter_list pl.isList (pie_new I1 (turn_list a _) ⟨_, Heap.get?_push_size _ rfl, rfl, rfl⟩ q)
  · obtain ⟨its, _, pl, _⟩ := I1.tuple hq
    exact wpAny_pyIter_tuple (show s1.heap.IsTuple a its.toArray from pl) (pie_new I1 (turn_tuple a _) ⟨_, Heap.get?_push_size _ rfl, rfl, rfl⟩ q)
theorem trn_list {a : Addr} {xs : List D} : Trn K σ (Itl K a) [(.ref a, .list xs)] none xs := by
  intro H0 Z0 σ' H e P PW S _
  have S0 : SR K H0 Z0 σ' H e ((.ref a, .list xs) :: P) PW := S
  obtain ⟨a', vs, e1, h1, l, S1⟩ := S0.openL
  obtain rfl : a = a' := by simpa using e1
  refine ⟨fun i hi => ⟨vs, SqL.of h1, by omega⟩, fun i d hd => ?_⟩
  obtain ⟨v, hv, S2⟩ := S1.item l hd
  refine ⟨⟨vs, v, SqL.of h1, hv⟩, fun x H' hy => ?_⟩
  obtain ⟨rfl, hy⟩ := hy
  have ex : x = v := Option.some.inj ((hy vs (SqL.of h1)).symm.trans hv)
  subst ex
  refine ⟨Same.refl _, ?_⟩
  obtain ⟨Z, F, W, s, S0⟩ := S0
  have rd := S0.fz (.ref a, .list xs) List.mem_cons_self
  cases rd with
  | lst h z r =>
    rw [h1] at h
    cases h
    obtain ⟨v', e3, r'⟩ := r.get hd
    rw [hv] at e3
    obtain rfl := Option.some.inj e3
    exact ⟨Z, F, W, s, S0.addP r'⟩
theorem trn_tup {a : Addr} {xs : List D} : Trn K σ (Itt K a) [(.ref a, .tuple xs)] none xs := by
  intro H0 Z0 σ' H e P PW S _
  have S0 : SR K H0 Z0 σ' H e ((.ref a, .tuple xs) :: P) PW := S
  obtain ⟨Z, F, W, s, S0⟩ := S0
  have rd := S0.fz (.ref a, .tuple xs) List.mem_cons_self
  cases rd with
  | @tup _ vs _ h r =>
    have l := r.length
    refine ⟨fun i hi => ⟨vs, h.sqT, by omega⟩, fun i d hd => ?_⟩
    obtain ⟨v, hv, r'⟩ := r.get hd
    refine ⟨⟨vs, v, h.sqT, hv⟩, fun x H' hy => ?_⟩
    obtain ⟨rfl, hy⟩ := hy
    have ex : x = v := Option.some.inj ((hy vs h.sqT).symm.trans hv)
    subst ex
    exact ⟨Same.refl _, Z, F, W, s, S0.addP r'⟩
theorem trn_own {a : Addr} {xs : List D} {i : Nat} (ha : σ[i]? = some (some (.ref a))) : Trn K σ (Itl K a) [] (some i) xs := by
  intro H0 Z0 σ' H e P PW S hq
  obtain ⟨h1, h2⟩ := hq i rfl
  obtain ⟨a', vs, e1, e2, l, S1⟩ := SR.getO S h2
  rw [h1, ha] at e1
  obtain rfl : a = a' := by simpa using e1
  refine ⟨fun j hj => ⟨vs, SqL.of e2, by omega⟩, fun j d hd => ?_⟩
  obtain ⟨v, hv, S2⟩ := S1.item l hd
  refine ⟨⟨vs, v, SqL.of e2, hv⟩, fun x H' hy => ?_⟩
  obtain ⟨rfl, hy⟩ := hy
  have ex : x = v := Option.some.inj ((hy vs (SqL.of e2)).symm.trans hv)
  subst ex
  exact ⟨Same.refl _, S2⟩
theorem i_val {tg : Expr} (ha : E X m false a ta wa) : Vl.Itr X m none tg a (iSeq X.K ta) (wB1 itQ wa) := by
  refine ⟨pi_seq ha.pe, ?_⟩
  intro H0 Z0 σ H e P PW k R S h q
  refine ha.snd H0 Z0 σ H e P PW _ _ S h fun v d e1 H1 he S1 h1 => ?_
  obtain ⟨xs, hz, hk⟩ := h1
  have S1 : SR X.K H0 Z0 σ H1 e1 ((v, d) :: P) PW := S1
  cases d with
  | list ds =>
    have hz : ds = xs := Option.some.inj hz
    subst hz
    obtain ⟨ad, vs, rfl, h1, _, _⟩ := S1.openL
    exact ⟨ad, rfl, .inl ⟨⟨vs, SqL.of h1⟩, q _ [(.ref ad, .list ds)] ds e1 H1 he S1 (fun i z => nomatch z) trn_list hk⟩⟩
  | tuple ds =>
    have hz : ds = xs := Option.some.inj hz
    subst hz
    obtain ⟨ad, vs, rfl, h1, _, _⟩ := S1.openT
    exact ⟨ad, rfl, .inr ⟨⟨vs, h1.sqT⟩, q _ [(.ref ad, .tuple ds)] ds e1 H1 he S1 (fun i z => nomatch z) trn_tup hk⟩⟩
  | _ => cases hz
theorem di_val {tg : Expr} (ha : E X m false a ta (lift fa)) : Vl.Itr X m none tg a (iSeq X.K ta) (lift (oB1 itQ fa)) := by rw [lift_B1]; exact i_val ha
def oOwnI (i : Nat) : Op (List D) := Op.gt fun e => Vl.getO e i
theorem di_own {tg : Expr} (i : Nat) (hN : X.N[i]? = some x := by rfl) (hv : Vis X.env.scope x := by first | exact Or.inl rfl | exact Or.inr (Or.inl rfl) | exact Or.inr (Or.inr rfl)) (hd : (x == ("__debug__" : Str)) = false := by decide)
    (hcd : (x == ("__classdict__" : Str)) = false := by decide) : Vl.Itr X m (some i) tg (.Name x pos) (iSeq X.K (tVar i)) (lift (oOwnI i)) := by
  refine ⟨pi_seq (pe_var hN hv hd hcd), ?_⟩
  rw [oOwnI, lift_gt]
  intro H0 Z0 σ H e P PW k R S h q
  obtain ⟨xs, h1, hk⟩ := h
  obtain ⟨ad, vs, e1, e2, l, S1⟩ := S.getO h1
  exact ⟨_, e1, ad, rfl, .inl ⟨⟨vs, SqL.of e2⟩, q _ [] xs e H (fun _ => ⟨rfl, Same.refl _⟩) S (fun j hj => by cases hj; exact h1) (trn_own e1) hk⟩⟩
/-! ranges -/
def rngL (lo : Int) (n : Nat) : List D := (List.range n).map fun (i : Nat) => .int (lo + i)
def rng1 : List D → Option (List D)
  | [.int j] => if j ≤ 10000000 ∧ -10000000 ≤ j then some (rngL 0 j.toNat) else none
  | _ => none
def rng2 : List D → Option (List D)
  | [.int i, .int j] => if (j ≤ 10000000 ∧ -10000000 ≤ j) ∧ i ≤ 10000000 ∧ -10000000 ≤ i then some (rngL i (j - i).toNat) else none
  | _ => none
theorem trn_rng {lo : Int} {n : Nat} : Trn K σ (L2.Itr lo n) [] none (rngL lo n) := by
  intro H0 Z0 σ' H e P PW S _
  have l : (rngL lo n).length = n := by simp [rngL]
  refine ⟨fun i hi => by rw [l] at hi; exact hi, fun i d hd => ?_⟩
  have hi : i < n := by
    have := (List.getElem?_eq_some_iff.mp hd).1
    omega
  refine ⟨hi, fun x H' hy => ?_⟩
  obtain ⟨rfl, rfl⟩ := hy
  have ed : d = .int (lo + i) := by
    have : (rngL lo n)[i]? = some (.int (lo + i)) := by simp [rngL, hi]
    rw [this] at hd
    exact (Option.some.inj hd).symm
  subst ed
  exact ⟨Same.refl _, SR.int S⟩
theorem i_rng1 {tg : Expr} (hg : Gl X "range") (hm : X.mg "range" = none) (ha : As X m [a] tas ws) (hs : starEach [a] X.env = [(false, eval a X.env)] := by rfl) : Vl.Itr X m none tg (.Call (.Name "range" p) [a] [] pos) (iRng1 tas) (wB1 rng1 ws) := by
  refine ⟨pi_range1 hg hm ha.pa hs, ?_⟩
  intro H0 Z0 σ H e P PW k R S h q
  refine ha.snd H0 Z0 σ H e P PW _ _ S h fun vs ds e1 H1 he hl S1 h1 => ?_
  obtain ⟨xs, hz, hk⟩ := h1
  match ds, hz, hl, S1 with
  | [.int j], hz, hl, S1 =>
    have hz : (if j ≤ 10000000 ∧ -10000000 ≤ j then some (rngL 0 j.toNat) else none) = some xs := hz
    by_cases hc : j ≤ 10000000 ∧ -10000000 ≤ j
    · rw [if_pos hc] at hz
      obtain rfl := Option.some.inj hz
      exact ⟨j, one_int hl S1, by omega, by omega, q _ [] _ e1 H1 he (S1.subP zipR) (fun i z => nomatch z) trn_rng hk⟩
    · rw [if_neg hc] at hz; cases hz
theorem di_rng1 {tg : Expr} (hg : Gl X "range") (hm : X.mg "range" = none) (ha : As X m [a] tas (lift fs)) (hs : starEach [a] X.env = [(false, eval a X.env)] := by rfl) : Vl.Itr X m none tg (.Call (.Name "range" p) [a] [] pos) (iRng1 tas) (lift (oB1 rng1 fs)) := by rw [lift_B1]; exact i_rng1 hg hm ha hs
theorem i_rng2 {tg : Expr} (hg : Gl X "range") (hm : X.mg "range" = none) (ha : As X m [a, b] tas ws) (hs : starEach [a, b] X.env = [(false, eval a X.env), (false, eval b X.env)] := by rfl) (hs2 : starEach [b] X.env = [(false, eval b X.env)] := by rfl) :
    Vl.Itr X m none tg (.Call (.Name "range" p) [a, b] [] pos) (iRng2 tas) (wB1 rng2 ws) := by
  refine ⟨pi_range2 hg hm ha.pa hs hs2, ?_⟩
  intro H0 Z0 σ H e P PW k R S h q
  refine ha.snd H0 Z0 σ H e P PW _ _ S h fun vs ds e1 H1 he hl S1 h1 => ?_
  obtain ⟨xs, hz, hk⟩ := h1
  match ds, hz, hl, S1 with
  | [.int i, .int j], hz, hl, S1 =>
    have hz : (if (j ≤ 10000000 ∧ -10000000 ≤ j) ∧ i ≤ 10000000 ∧ -10000000 ≤ i then some (rngL i (j - i).toNat) else none) = some xs := hz
    by_cases hc : (j ≤ 10000000 ∧ -10000000 ≤ j) ∧ i ≤ 10000000 ∧ -10000000 ≤ i
    · rw [if_pos hc] at hz
      obtain rfl := Option.some.inj hz
      exact ⟨i, j, two_int hl S1, by omega, q _ [] _ e1 H1 he (S1.subP zipR) (fun i z => nomatch z) trn_rng hk⟩
    · rw [if_neg hc] at hz; cases hz
theorem di_rng2 {tg : Expr} (hg : Gl X "range") (hm : X.mg "range" = none) (ha : As X m [a, b] tas (lift fs)) (hs : starEach [a, b] X.env = [(false, eval a X.env), (false, eval b X.env)] := by rfl) (hs2 : starEach [b] X.env = [(false, eval b X.env)] := by rfl) :
    Vl.Itr X m none tg (.Call (.Name "range" p) [a, b] [] pos) (iRng2 tas) (lift (oB1 rng2 fs)) := by rw [lift_B1]; exact i_rng2 hg hm ha hs hs2
end
end Vl
/-! The value layer, 14: for, while, list comprehensions. -/
namespace Vl
open PySem PySem.Spec PyProof.Rows L2
/-! ### for, while -/
def wFor (γ : D → Sto → Option Sto) (w : Wp Fl) : List D → Wp Fl
  | [] => Wp.ret .nx
  | x :: xs => fun e k => ∃ e1, γ x e = some e1 ∧ w e1 fun f e2 => match f with
    | .nx => wFor γ w xs e2 k
    | .ct => wFor γ w xs e2 k
    | .bk => k .nx e2
    | .rt d => k (.rt d) e2
def oFor (γ : D → Sto → Option Sto) (w : Op Fl) : List D → Op Fl
  | [] => Op.ret .nx
  | x :: xs => fun e => (γ x e).bind fun e1 => (w e1).bind fun r => match r.1 with
    | .nx => oFor γ w xs r.2
    | .ct => oFor γ w xs r.2
    | .bk => some (.nx, r.2)
    | .rt d => some (.rt d, r.2)
theorem lift_For (γ : D → Sto → Option Sto) (f : Op Fl) : ∀ xs, lift (oFor γ f xs) = wFor γ (lift f) xs
  | [] => lift_ret _
  | x :: xs => by
    funext e k
    have ih := lift_For γ f xs
    apply propext
    constructor
    · rintro ⟨r, h, hk⟩
      obtain ⟨e1, h1, h2⟩ := Option.bind_eq_some_iff.mp (show (γ x e).bind _ = some r from h)
      obtain ⟨⟨fl, e2⟩, h3, h4⟩ := Option.bind_eq_some_iff.mp h2
      refine ⟨e1, h1, (fl, e2), h3, ?_⟩
      cases fl with
      | nx => show wFor γ (lift f) xs e2 k; rw [← ih]; exact ⟨r, h4, hk⟩
      | ct => show wFor γ (lift f) xs e2 k; rw [← ih]; exact ⟨r, h4, hk⟩
      | bk => cases h4; exact hk
      | rt d => cases h4; exact hk
    · rintro ⟨e1, h1, ⟨fl, e2⟩, h3, h4⟩
      have go : ∀ r, (match fl with | .nx => oFor γ f xs e2 | .ct => oFor γ f xs e2 | .bk => some (.nx, e2) | .rt d => some (.rt d, e2)) = some r → k r.1 r.2 → lift (oFor γ f (x :: xs)) e k := fun r hr hk =>
        ⟨r, by show (γ x e).bind _ = some r; rw [h1]; show (f e1).bind _ = some r; rw [h3]; exact hr, hk⟩
      cases fl with
      | nx =>
        have h4 : wFor γ (lift f) xs e2 k := h4
        rw [← ih] at h4
        obtain ⟨r, h5, h6⟩ := h4
        exact go r h5 h6
      | ct =>
        have h4 : wFor γ (lift f) xs e2 k := h4
        rw [← ih] at h4
        obtain ⟨r, h5, h6⟩ := h4
        exact go r h5 h6
      | bk => exact go _ rfl h4
      | rt d => exact go _ rfl h4
def wWhile (c : Wp Bool) (w : Wp Fl) : Nat → Wp Fl
  | 0 => fun _ _ => False
  | n + 1 => fun e k => c e fun b e1 => if b = true then w e1 (fun f e2 => match f with
    | .nx => wWhile c w n e2 k
    | .ct => wWhile c w n e2 k
    | .bk => k .nx e2
    | .rt d => k (.rt d) e2) else k .nx e1
def oWhile (c : Op Bool) (w : Op Fl) : Nat → Op Fl
  | 0 => fun _ => none
  | n + 1 => fun e => (c e).bind fun b => if b.1 = true then (w b.2).bind fun r => match r.1 with
    | .nx => oWhile c w n r.2
    | .ct => oWhile c w n r.2
    | .bk => some (.nx, r.2)
    | .rt d => some (.rt d, r.2) else some (.nx, b.2)
theorem while_of (c : Op Bool) (w : Op Fl) : ∀ (n : Nat) (e : Sto) (k : Fl → Sto → Prop), lift (oWhile c w n) e k → wWhile (lift c) (lift w) n e k
  | 0, _, _, ⟨_, h, _⟩ => by cases h
  | n + 1, e, k, ⟨r, h, hk⟩ => by
    obtain ⟨⟨b, e1⟩, h1, h2⟩ := Option.bind_eq_some_iff.mp (show (c e).bind _ = some r from h)
    refine ⟨(b, e1), h1, ?_⟩
    cases b with
    | false => cases h2; exact hk
    | true =>
      obtain ⟨⟨fl, e2⟩, h3, h4⟩ := Option.bind_eq_some_iff.mp (show (w e1).bind _ = some r from h2)
      refine ⟨(fl, e2), h3, ?_⟩
      cases fl with
      | nx => exact while_of c w n e2 k ⟨r, h4, hk⟩
      | ct => exact while_of c w n e2 k ⟨r, h4, hk⟩
      | bk => cases h4; exact hk
      | rt d => cases h4; exact hk
section
variable {K : PySem.W.Frag} {H H' H0 : Hp} {Z Z' Z0 : Addr → Prop} {σ σ' : L2.St} {e e' : Sto} {P P' : List (V × D)} {PW : List (Addr × List D)} {F F' : List (V × D)} {W W' : List (Addr × List D)}
variable {X : Cx} {m m2 o o2 : Bool} {a b c : Expr} {es : List Expr} {ta tb tc : TE} {tas : TA} {wa wb : Wp D} {fa fb : Op D} {ws : Wp (List D)} {fs : Op (List D)} {pos p p2 : Pos} {x y z nm : Str} {id : String} {wq wq2 : Wp QV} {fq fq2 : Op QV} {is is2 : List Nat} {g g2 : TG} {gs : TGs} {γ γ2 : D → Sto → Option Sto} {γs : List D → Sto → Option Sto}
variable {wi : TI} {t u : TS} {tt : TT} {w w2 : Wp Fl} {f f2 : Op Fl} {wt : Wp Bool} {ft : Op Bool} {sts : List Stmt} {tg : Expr} {q : Option Nat}
def wForS (γ : D → Sto → Option Sto) (ws : Wp (List D)) (w : Wp Fl) : Wp Fl := Wp.bd ws fun xs => wFor γ w xs
def oForS (γ : D → Sto → Option Sto) (ws : Op (List D)) (w : Op Fl) : Op Fl := Op.bd ws fun xs => oFor γ w xs
theorem lift_ForS (f : Op (List D)) (g : Op Fl) : lift (oForS γ f g) = wForS γ (lift f) (lift g) := by simp only [oForS, wForS, lift_bd, lift_For]
theorem snd_for {m : Bool} (hi : SndI K m none wi ws) (hg : SndG K true is g γ) (hb : SndS K o t w) : SndS K o (tFor wi g t) (wForS γ ws w) := by
  intro H0 Z0 σ H e P k Dn S h qn qb qc qr
  refine hi H0 Z0 σ H e P [] _ _ S h fun J P1 xs e1 H1 _ S1 _ T hk => ?_
  refine ⟨fun i n σ' H' => i + n = xs.length ∧ ∃ e2, SR K H0 Z0 σ' H' e2 (P1 ++ P) [] ∧ wFor γ w (xs.drop i) e2 k, ⟨xs.length, by omega, e1, S1, by rw [List.drop_zero]; exact hk⟩, ?_⟩
  rintro i n σ' H' ⟨hn, e2, S2, h2⟩
  obtain ⟨T1, T2⟩ := T S2 (fun i z => nomatch z)
  have out : ∀ {σ : L2.St} {H : Hp} {e : Sto}, SR K H0 Z0 σ H e (P1 ++ P) [] → SR K H0 Z0 σ H e P [] := fun S => S.subP fun p hp => List.mem_append_right _ hp
  cases n with
  | zero =>
    have : xs.drop i = [] := List.drop_eq_nil_of_le (by omega)
    rw [this] at h2
    exact .inl ⟨T1 i (by omega), qn _ _ _ (out S2) h2⟩
  | succ n =>
    have hlt : i < xs.length := by omega
    have hd : xs[i]? = some xs[i] := List.getElem?_eq_getElem hlt
    rw [List.drop_eq_getElem_cons hlt] at h2
    obtain ⟨e3, h3, h4⟩ := h2
    obtain ⟨go, hy⟩ := T2 i _ hd
    refine .inr ⟨go, fun σ'' H'' => ∃ e4, SR K H0 Z0 σ'' H'' e4 (P1 ++ P) [] ∧ wFor γ w (xs.drop (i + 1)) e4 k, fun σ'' H'' hN => ⟨n, by omega, by omega, hN⟩, fun v H'' hv => ?_⟩
    obtain ⟨sm, S3⟩ := hy v H'' hv
    refine hg H0 Z0 σ' H'' e2 (P1 ++ P) [] v _ e3 _ S3 h3 fun σ3 H3 S4 _ _ => ?_
    exact hb H0 Z0 σ3 H3 e3 (P1 ++ P) _ _ S4 h4 (fun σ4 H4 e4 S5 h5 => ⟨e4, S5, h5⟩) (fun σ4 H4 e4 S5 h5 => qn _ _ _ (out S5) h5) (fun σ4 H4 e4 S5 h5 => ⟨e4, S5, h5⟩) fun σ4 v d H4 e4 S5 h5 => qr σ4 v d H4 e4 S5 h5
theorem s_for {m : Bool} (hp : PassesOwn (model X.prog X.w) X.A X.env X.xe) (hc : X.calm = true) (hi : Vl.Itr X m none tg a wi ws) (hg : Tg X true is tg g γ) (hb : Sts X o sts t w) (hs : ∀ x, foldedSetIterable a X.env x = pure x := by intro _; rfl) : St1 X o (.For tg a sts [] pos) (tFor wi g t) (wForS γ ws w) :=
  ⟨ps_for hp hc hi.pi hg.pg hb.ps hs, snd_for hi.snd hg.snd hb.snd⟩
theorem ds_for {m : Bool} (hp : PassesOwn (model X.prog X.w) X.A X.env X.xe) (hc : X.calm = true) (hi : Vl.Itr X m none tg a wi (lift fs)) (hg : Tg X true is tg g γ) (hb : Sts X o sts t (lift f)) (hs : ∀ x, foldedSetIterable a X.env x = pure x := by intro _; rfl) : St1 X o (.For tg a sts [] pos) (tFor wi g t) (lift (oForS γ fs f)) := by
  rw [lift_ForS]; exact s_for hp hc hi hg hb hs
/-- while: in some number of turns -/
def wWh (c : Wp Bool) (w : Wp Fl) : Wp Fl := fun e k => ∃ n, wWhile c w n e k
theorem snd_while (hc : SndT K true tt wt) (hb : SndS K o t w) : SndS K o (tWhile tt t) (wWh wt w) := by
  intro H0 Z0 σ H e P k Dn S h qn qb qc qr
  obtain ⟨n0, h⟩ := h
  refine ⟨fun n σ' H' => ∃ e2, SR K H0 Z0 σ' H' e2 P [] ∧ wWhile wt w n e2 k, ⟨n0, e, S, h⟩, ?_⟩
  rintro n σ' H' ⟨e2, S2, h2⟩
  cases n with
  | zero => exact h2.elim
  | succ n =>
    refine hc H0 Z0 σ' H' e2 P [] _ _ S2 h2 fun b e3 H3 _ S3 h3 => ?_
    cases b with
    | false => exact iteF (qn _ _ _ S3 (by simpa using h3))
    | true =>
      rw [if_pos rfl] at h3
      refine iteT ⟨fun σ'' H'' => ∃ e4, SR K H0 Z0 σ'' H'' e4 P [] ∧ wWhile wt w n e4 k, fun σ'' H'' hN => ⟨n, by omega, hN⟩, ?_⟩
      exact hb H0 Z0 σ' H3 e3 P _ _ S3 h3 (fun σ4 H4 e4 S5 h5 => ⟨e4, S5, h5⟩) (fun σ4 H4 e4 S5 h5 => qn _ _ _ S5 h5) (fun σ4 H4 e4 S5 h5 => ⟨e4, S5, h5⟩) fun σ4 v d H4 e4 S5 h5 => qr σ4 v d H4 e4 S5 h5
theorem s_while (hp : PassesOwn (model X.prog X.w) X.A X.env X.xe) (hc : T X true a tt wt) (hb : Sts X o sts t w) : St1 X o (.While a sts [] pos) (tWhile tt t) (wWh wt w) := ⟨ps_while hp hc.pt hb.ps, snd_while hc.snd hb.snd⟩
theorem ds_while (n : Nat) (hp : PassesOwn (model X.prog X.w) X.A X.env X.xe) (hc : T X true a tt (lift ft)) (hb : Sts X o sts t (lift f)) : St1 X o (.While a sts [] pos) (tWhile tt t) (lift (oWhile ft f n)) := by
  refine ⟨ps_while hp hc.pt hb.ps, ?_⟩
  intro H0 Z0 σ H e P k Dn S h qn qb qc qr
  exact snd_while hc.snd hb.snd H0 Z0 σ H e P k Dn S ⟨n, while_of ft f n e k h⟩ qn qb qc qr
/-! ### list comprehensions -/
def wRun (f : D → (Option D → Prop) → Prop) : List D → (List D → Prop) → Prop
  | [], k => k []
  | x :: xs, k => f x fun r => match r with
    | none => wRun f xs k
    | some d => wRun f xs fun ds => k (d :: ds)
def oRun (f : D → Option (Option D)) : List D → Option (List D)
  | [] => some []
  | x :: xs => (f x).bind fun r => match r with
    | none => oRun f xs
    | some d => (oRun f xs).map (d :: ·)
theorem lift_Run (f : D → Option (Option D)) : ∀ (xs : List D) (k : List D → Prop), (∃ ds, oRun f xs = some ds ∧ k ds) ↔ wRun (fun x k => ∃ r, f x = some r ∧ k r) xs k
  | [], k => by simp [oRun, wRun]
  | x :: xs, k => by
    constructor
    · rintro ⟨ds, h, hk⟩
      obtain ⟨r, h1, h2⟩ := Option.bind_eq_some_iff.mp (show (f x).bind _ = some ds from h)
      refine ⟨r, h1, ?_⟩
      cases r with
      | none => exact (lift_Run f xs k).mp ⟨ds, h2, hk⟩
      | some d =>
        obtain ⟨ds', h3, rfl⟩ := Option.map_eq_some_iff.mp h2
        exact (lift_Run f xs fun ds => k (d :: ds)).mp ⟨ds', h3, hk⟩
    · rintro ⟨r, h1, h2⟩
      cases r with
      | none =>
        obtain ⟨ds, h3, hk⟩ := (lift_Run f xs k).mpr h2
        exact ⟨ds, by show (f x).bind _ = some ds; rw [h1]; exact h3, hk⟩
      | some d =>
        obtain ⟨ds, h3, hk⟩ := (lift_Run f xs fun ds => k (d :: ds)).mpr h2
        exact ⟨d :: ds, by show (f x).bind _ = some (d :: ds); rw [h1]; show (oRun f xs).map (d :: ·) = _; rw [h3]; rfl, hk⟩
def wEl (γ : D → Sto → Option Sto) (wt : Wp Bool) (we : Wp D) (e : Sto) : D → (Option D → Prop) → Prop := fun x k => ∃ e1, γ x e = some e1 ∧ wt e1 fun b e2 => if b = true then we e2 fun d _ => k (some d) else k none
def oEl (γ : D → Sto → Option Sto) (ft : Op Bool) (fe : Op D) (e : Sto) : D → Option (Option D) := fun x => (γ x e).bind fun e1 => (ft e1).bind fun b => if b.1 = true then (fe b.2).map fun r => some r.1 else some none
theorem lift_El (γ : D → Sto → Option Sto) (ft : Op Bool) (fe : Op D) (e : Sto) (x : D) (k : Option D → Prop) : (∃ r, oEl γ ft fe e x = some r ∧ k r) ↔ wEl γ (lift ft) (lift fe) e x k := by
  constructor
  · rintro ⟨r, h, hk⟩
    obtain ⟨e1, h1, h2⟩ := Option.bind_eq_some_iff.mp (show (γ x e).bind _ = some r from h)
    obtain ⟨⟨b, e2⟩, h3, h4⟩ := Option.bind_eq_some_iff.mp h2
    refine ⟨e1, h1, (b, e2), h3, ?_⟩
    cases b with
    | false => cases h4; exact hk
    | true =>
      obtain ⟨r2, h5, rfl⟩ := Option.map_eq_some_iff.mp (show (fe e2).map (fun r => some r.1) = some r from h4)
      exact ⟨r2, h5, hk⟩
  · rintro ⟨e1, h1, ⟨b, e2⟩, h3, h4⟩
    cases b with
    | false => exact ⟨none, by show (γ x e).bind _ = _; rw [h1]; show (ft e1).bind _ = _; rw [h3]; rfl, h4⟩
    | true =>
      obtain ⟨r2, h5, hk⟩ := h4
      refine ⟨some r2.1, ?_, hk⟩
      show (γ x e).bind _ = _
      rw [h1]
      show (ft e1).bind _ = _
      rw [h3]
      show (fe e2).map (fun r => some r.1) = _
      rw [show fe e2 = some r2 from h5]
      rfl
/-- [elt for target in source if test] -/
def wLc (vs : List Nat) (ws : Wp (List D)) (γ : D → Sto → Option Sto) (wt : Wp Bool) (we : Wp D) : Wp D := Wp.bd ws fun xs e k => ((∀ i ∈ vs, Vl.getO e i = none) ∧ xs.length ≤ lim) ∧ wRun (wEl γ wt we (wipeE e vs)) xs fun ds => k (.list ds) e
def oLc (vs : List Nat) (fs : Op (List D)) (γ : D → Sto → Option Sto) (ft : Op Bool) (fe : Op D) : Op D := Op.bd fs fun xs e => if (∀ i ∈ vs, (Vl.getO e i).isNone = true) ∧ xs.length ≤ lim then (oRun (oEl γ ft fe (wipeE e vs)) xs).map fun ds => (.list ds, e) else none
theorem lift_Lc (vs : List Nat) (fs : Op (List D)) (γ : D → Sto → Option Sto) (ft : Op Bool) (fe : Op D) : lift (oLc vs fs γ ft fe) = wLc vs (lift fs) γ (lift ft) (lift fe) := by
  unfold oLc wLc
  rw [lift_bd]
  congr 1
  funext xs e k
  apply propext
  have ef : (fun x k => ∃ r, oEl γ ft fe (wipeE e vs) x = some r ∧ k r) = wEl γ (lift ft) (lift fe) (wipeE e vs) := by
    funext x k
    exact propext (lift_El γ ft fe _ x k)
  constructor
  · rintro ⟨r, h, hk⟩
    dsimp only at h
    by_cases hc : (∀ i ∈ vs, (Vl.getO e i).isNone = true) ∧ xs.length ≤ lim
    · rw [if_pos hc] at h
      obtain ⟨ds, h1, rfl⟩ := Option.map_eq_some_iff.mp h
      refine ⟨⟨fun i hi => Option.isNone_iff_eq_none.mp (hc.1 i hi), hc.2⟩, ?_⟩
      rw [← ef]
      exact (lift_Run _ xs _).mp ⟨ds, h1, hk⟩
    · rw [if_neg hc] at h; cases h
  · rintro ⟨⟨h1, h2⟩, h3⟩
    rw [← ef] at h3
    obtain ⟨ds, h4, hk⟩ := (lift_Run _ xs _).mpr h3
    refine ⟨(.list ds, e), ?_, hk⟩
    dsimp only
    rw [if_pos ⟨fun i hi => Option.isNone_iff_eq_none.mpr (h1 i hi), h2⟩, h4]
    rfl
theorem SR.pushW {ad : Addr} {acc : List D} {v : V} {d : D} (S : SR K H0 Z0 σ H e ((v, d) :: P) ((ad, acc) :: PW)) : ∃ vs, H ad = some (.lst vs) ∧ vs.length = acc.length ∧ SR K H0 Z0 σ (upd H ad (.lst (vs ++ [v]))) e P ((ad, acc ++ [d]) :: PW) := by
  obtain ⟨Z, F, W, s, S⟩ := S
  obtain ⟨_, _, vs, h1, h2⟩ := S.ow (ad, acc) (List.mem_append_left _ List.mem_cons_self)
  refine ⟨vs, h1, h2.length, Z, F, W, s, ?_⟩
  have r := S.fz (v, d) List.mem_cons_self
  have S1 : Sta K H0 Z0 H (P ++ F) ((ad, acc) :: (PW ++ W)) Z := S.sub (fun p hp => List.mem_cons_of_mem _ hp) (fun _ h => h) S.nd
  exact S1.change (RpA.append h2 (.cons r .nil))
structure Tms (X : Cx) (ex : List Expr) (t : TT) (w : Wp Bool) : Prop where
  pt : PTs X ex t
  snd : SndT X.K false t w
theorem tm_nil : Tms X [] tYes (Wp.ret true) := ⟨pts_nil, fun H0 Z0 σ H e P PW k Q S h q => q true e H (fun _ => ⟨rfl, Same.refl _⟩) S h⟩
theorem tm_one (h : T X false a tt wt) : Tms X [a] tt wt := ⟨pts_one h.pt, h.snd⟩
theorem dtm_nil : Tms X [] tYes (lift (Op.ret true)) := by rw [lift_ret]; exact tm_nil
theorem snd_lc {vs : List Nat} {te : TE} {we : Wp D} (hi : SndI K m q wi ws) (hg : SndC K is g γ) (ht : SndT K false tt wt) (he : SndE K false false te we) (his : ∀ i ∈ is, i ∈ vs) (hq : ∀ i, q = some i → i ∉ vs) : SndE K m true (tLc wi g tt te vs) (wLc vs ws γ wt we) := by
  intro H0 Z0 σ H e P PW k Q S h qq
  refine hi H0 Z0 σ H e P PW _ _ S h fun J P1 xs e1 H1 hm S1 hown T hk => ?_
  obtain ⟨⟨hno, hlen⟩, hk⟩ := hk
  intro ad had
  -- the slots that the block forgets
  obtain ⟨Z, F, W, s, S1⟩ := S1
  obtain ⟨F1, s1, hF1⟩ := s.wipe hno
  have B1 : SR K H0 Z0 (L2.wipe σ vs) H1 (wipeE e1 vs) (P1 ++ (F ++ P)) PW := ⟨Z, F1, W, s1, S1.sub (fun p hp => by
    rcases List.mem_append.mp hp with hp | hp
    · rcases List.mem_append.mp hp with hp | hp
      · exact List.mem_append_left _ (List.mem_append_left _ hp)
      · rcases List.mem_append.mp hp with hp | hp
        · exact List.mem_append_right _ hp
        · exact List.mem_append_left _ (List.mem_append_right _ hp)
    · exact List.mem_append_right _ (hF1 p hp)) (fun _ h => h) S1.nd⟩
  have B0 : SR K H0 Z0 (L2.wipe σ vs) (upd H1 ad (.lst [])) (wipeE e1 vs) (P1 ++ (F ++ P)) ((ad, []) :: PW) := SR.lst (vs := []) (ds := []) B1 rfl had
  refine ⟨fun i n H' => i + n = xs.length ∧ Same H1 H' ∧ ∃ acc : List D, acc.length ≤ i ∧ SR K H0 Z0 (L2.wipe σ vs) H' (wipeE e1 vs) (P1 ++ (F ++ P)) ((ad, acc) :: PW) ∧ wRun (wEl γ wt we (wipeE e1 vs)) (xs.drop i) fun ds => k (.list (acc ++ ds)) e1, ⟨xs.length, by omega, same_upd had, [], Nat.le_refl _, B0, by rw [List.drop_zero]; exact hk⟩, ?_⟩
  rintro i n H' ⟨hn, sm, acc, hacc, B, hr⟩
  have own : ∀ j, q = some j → (L2.wipe σ vs)[j]? = σ[j]? ∧ Vl.getO (wipeE e1 vs) j = some xs := fun j hj => by
    have hj2 := hq j hj
    refine ⟨wipe_out hj2, ?_⟩
    have : ∀ vs : List Nat, j ∉ vs → Vl.getO (wipeE e1 vs) j = Vl.getO e1 j := by
      intro vs
      induction vs with
      | nil => intro _; rfl
      | cons v vs ih =>
        intro hv
        rw [List.mem_cons, not_or] at hv
        rw [← ih hv.2]
        show Vl.getO ((wipeE e1 vs).set v .un) j = _
        unfold Vl.getO
        rw [List.getElem?_set_ne (fun z => hv.1 z.symm)]
    rw [this vs hj2]
    exact hown j hj
  obtain ⟨T1, T2⟩ := T B own
  cases n with
  | zero =>
    have hd : xs.drop i = [] := List.drop_eq_nil_of_le (by omega)
    rw [hd] at hr
    refine .inl ⟨T1 i (by omega), qq _ _ e1 H' (mf1 hm sm) ⟨ad, acc, rfl, rfl, ?_⟩ (by
      have hr : k (.list (acc ++ [])) e1 := hr
      rw [List.append_nil] at hr; exact hr)⟩
    exact (SR.swapE s1 s B fun p hp => List.mem_append_right _ (List.mem_append_left _ hp)).subP fun p hp => List.mem_append_right _ (List.mem_append_right _ hp)
  | succ n =>
    have hlt : i < xs.length := by omega
    have hd : xs[i]? = some xs[i] := List.getElem?_eq_getElem hlt
    rw [List.drop_eq_getElem_cons hlt] at hr
    obtain ⟨e3, h3, h4⟩ := hr
    obtain ⟨go, hy⟩ := T2 i _ hd
    refine .inr ⟨go, fun H'' => Same H1 H'' ∧ ∃ acc : List D, acc.length ≤ i + 1 ∧ SR K H0 Z0 (L2.wipe σ vs) H'' (wipeE e1 vs) (P1 ++ (F ++ P)) ((ad, acc) :: PW) ∧ wRun (wEl γ wt we (wipeE e1 vs)) (xs.drop (i + 1)) fun ds => k (.list (acc ++ ds)) e1, fun H'' hN => ⟨n, by omega, by omega, hN⟩, fun v H2 hv => ?_⟩
    obtain ⟨sm2, S3⟩ := hy v H2 hv
    refine hg H0 Z0 (L2.wipe σ vs) H2 (wipeE e1 vs) _ _ v _ e3 _ S3 (fun j hj => getO_wipe (hno j (his j hj)) vs) h3 fun σ3 S4 l4 j4 _ f4 => ?_
    obtain ⟨F3, s3⟩ := f4 F1 W s1
    refine ⟨?_, ?_⟩
    · refine List.ext_getElem? fun j => ?_
      by_cases hj : j ∈ vs
      · have hw : ∀ {σ τ : L2.St} (vs : List Nat), σ.length = τ.length → j ∈ vs → (L2.wipe σ vs)[j]? = (L2.wipe τ vs)[j]? := by
          intro σ τ vs hl
          induction vs with
          | nil => intro h; cases h
          | cons v vs ih =>
            intro hj
            unfold L2.wipe
            rw [List.getElem?_set, List.getElem?_set, wipe_length, wipe_length, hl]
            by_cases hv : v = j
            · rw [if_pos hv, if_pos hv]
            · rw [if_neg hv, if_neg hv]
              exact ih ((List.mem_cons.mp hj).resolve_left fun z => hv z.symm)
        exact hw vs (l4.trans (wipe_length σ vs)) hj
      · rw [wipe_out hj, j4 j fun z => hj (his j z)]
    · refine ht H0 Z0 σ3 H2 e3 _ _ _ _ S4 h4 fun b e5 H5 hm5 S5 h5 => ?_
      obtain ⟨rfl, sm5⟩ := hm5 rfl
      have back : ∀ {H : Hp} {acc : List D}, SR K H0 Z0 σ3 H e5 (P1 ++ (F ++ P)) ((ad, acc) :: PW) → SR K H0 Z0 (L2.wipe σ vs) H (wipeE e1 vs) (P1 ++ (F ++ P)) ((ad, acc) :: PW) := fun S => SR.swapE s3 s1 S fun p hp => List.mem_append_right _ (List.mem_append_left _ (hF1 p hp))
      cases b with
      | false => exact iteF ⟨(sm.trans sm2).trans sm5, acc, by omega, back S5, by simpa using h5⟩
      | true =>
        rw [if_pos rfl] at h5
        refine iteT (he H0 Z0 σ3 H5 e5 _ _ _ _ S5 h5 fun y d e6 H6 hm6 S6 h6 => ?_)
        obtain ⟨rfl, sm6⟩ := hm6 rfl
        obtain ⟨vs6, e7, l7, S7⟩ := SR.pushW (show SR K H0 Z0 σ3 H6 e6 ((y, d) :: (P1 ++ (F ++ P))) ((ad, acc) :: PW) from S6)
        have sm7 := ((sm.trans sm2).trans sm5).trans sm6
        refine ⟨vs6, e7, by rw [l7]; exact lim_lt (by omega), fun z ob hz => ?_, acc ++ [d], by rw [List.length_append]; simp; omega, back S7, ?_⟩
        · rw [upd_ne (fun w => by rw [w, had] at hz; cases hz)]
          exact sm7 z ob hz
        · simpa using h6
end
end Vl
/-! The value layer, 15: list comprehensions as rules; a def from its body. -/
namespace Vl
open PySem PySem.Spec PyProof.Rows L2
section
variable {K : PySem.W.Frag} {H H' H0 : Hp} {Z Z' Z0 : Addr → Prop} {σ σ' : L2.St} {e e' : Sto} {P P' : List (V × D)} {PW : List (Addr × List D)}
variable {X : Cx} {m m2 o o2 : Bool} {a b c : Expr} {es ifs : List Expr} {ta tb tc te : TE} {tas : TA} {wa wb we : Wp D} {fa fb fe : Op D} {ws : Wp (List D)} {fs : Op (List D)} {pos p p2 spos : Pos} {x y z nm : Str} {is : List Nat} {g : TG} {γ : D → Sto → Option Sto}
variable {wi : TI} {tt : TT} {wt : Wp Bool} {ft : Op Bool} {tg elt iter : Expr} {q : Option Nat} {scope : Scope} {own : List (Str × Nat)}
theorem e_lc {gB : Shared → Hp → Addr → List (Str × Addr) → List Addr → TG} {ttB : Shared → Hp → Addr → List (Str × Addr) → List Addr → TT} {teB : Shared → Hp → Addr → List (Str × Addr) → List Addr → TE} (hc : X.calm = true) (hN : X.N.Nodup) (hi : Vl.Itr X m q tg iter wi ws) (ok : BlkOk X.N X.env.scope scope own)
    (hg : ∀ (s : Shared) (H : Hp) (C : Addr) (cl : List (Str × Addr)) (fp : List Addr), Tc (X.blk s H scope (compEnvC scope cl C X.env) fp) is tg (gB s H C cl fp) γ)
    (ht : ∀ (s : Shared) (H : Hp) (C : Addr) (cl : List (Str × Addr)) (fp : List Addr), Tms (X.blk s H scope (compEnvC scope cl C X.env) fp) ifs (ttB s H C cl fp) wt)
    (he : ∀ (s : Shared) (H : Hp) (C : Addr) (cl : List (Str × Addr)) (fp : List Addr), E (X.blk s H scope (compEnvC scope cl C X.env) fp) false false elt (teB s H C cl fp) we)
    (his : ∀ i ∈ is, i ∈ own.map (·.2) := by decide) (hq : ∀ i, q = some i → i ∉ own.map (·.2) := by first | exact fun _ z => nomatch z | (intro i z; cases z; decide)) (hs : ∀ x, foldedSetIterable iter X.env x = pure x := by intro _; rfl) (hgB : ∀ (s : Shared) (H : Hp) (C : Addr) (cl : List (Str × Addr)) (fp : List Addr), gB s H C cl fp = gB X.s_0 X.H_0 0 [] [] := by intros; rfl) (htB : ∀ (s : Shared) (H : Hp) (C : Addr) (cl : List (Str × Addr)) (fp : List Addr), ttB s H C cl fp = ttB X.s_0 X.H_0 0 [] [] := by intros; rfl) (heB : ∀ (s : Shared) (H : Hp) (C : Addr) (cl : List (Str × Addr)) (fp : List Addr), teB s H C cl fp = teB X.s_0 X.H_0 0 [] [] := by intros; rfl) :
    E X m true (.ListComp elt [⟨tg, iter, ifs, 0⟩] scope pos) (tLc wi (gB X.s_0 X.H_0 0 [] []) (ttB X.s_0 X.H_0 0 [] []) (teB X.s_0 X.H_0 0 [] []) (own.map (·.2))) (wLc (own.map (·.2)) ws γ wt we) :=
  ⟨pe_lc hc hN hi.pi ok (fun s H C cl fp => hgB s H C cl fp ▸ (hg s H C cl fp).pg) (fun s H C cl fp => htB s H C cl fp ▸ (ht s H C cl fp).pt) (fun s H C cl fp => heB s H C cl fp ▸ (he s H C cl fp).pe) hs,
    snd_lc hi.snd (hg X.s_0 X.H_0 0 [] []).snd (ht X.s_0 X.H_0 0 [] []).snd (he X.s_0 X.H_0 0 [] []).snd his hq⟩
theorem d_lc {gB : Shared → Hp → Addr → List (Str × Addr) → List Addr → TG} {ttB : Shared → Hp → Addr → List (Str × Addr) → List Addr → TT} {teB : Shared → Hp → Addr → List (Str × Addr) → List Addr → TE} (hc : X.calm = true) (hN : X.N.Nodup) (hi : Vl.Itr X m q tg iter wi (lift fs)) (ok : BlkOk X.N X.env.scope scope own)
    (hg : ∀ (s : Shared) (H : Hp) (C : Addr) (cl : List (Str × Addr)) (fp : List Addr), Tc (X.blk s H scope (compEnvC scope cl C X.env) fp) is tg (gB s H C cl fp) γ)
    (ht : ∀ (s : Shared) (H : Hp) (C : Addr) (cl : List (Str × Addr)) (fp : List Addr), Tms (X.blk s H scope (compEnvC scope cl C X.env) fp) ifs (ttB s H C cl fp) (lift ft))
    (he : ∀ (s : Shared) (H : Hp) (C : Addr) (cl : List (Str × Addr)) (fp : List Addr), E (X.blk s H scope (compEnvC scope cl C X.env) fp) false false elt (teB s H C cl fp) (lift fe))
    (his : ∀ i ∈ is, i ∈ own.map (·.2) := by decide) (hq : ∀ i, q = some i → i ∉ own.map (·.2) := by first | exact fun _ z => nomatch z | (intro i z; cases z; decide)) (hs : ∀ x, foldedSetIterable iter X.env x = pure x := by intro _; rfl) (hgB : ∀ (s : Shared) (H : Hp) (C : Addr) (cl : List (Str × Addr)) (fp : List Addr), gB s H C cl fp = gB X.s_0 X.H_0 0 [] [] := by intros; rfl) (htB : ∀ (s : Shared) (H : Hp) (C : Addr) (cl : List (Str × Addr)) (fp : List Addr), ttB s H C cl fp = ttB X.s_0 X.H_0 0 [] [] := by intros; rfl) (heB : ∀ (s : Shared) (H : Hp) (C : Addr) (cl : List (Str × Addr)) (fp : List Addr), teB s H C cl fp = teB X.s_0 X.H_0 0 [] [] := by intros; rfl) :
    E X m true (.ListComp elt [⟨tg, iter, ifs, 0⟩] scope pos) (tLc wi (gB X.s_0 X.H_0 0 [] []) (ttB X.s_0 X.H_0 0 [] []) (teB X.s_0 X.H_0 0 [] []) (own.map (·.2))) (lift (oLc (own.map (·.2)) fs γ ft fe)) := by
  rw [lift_Lc]; exact e_lc hc hN hi ok hg ht he his hq hs hgB htB heB
/-- name = [..] -/
theorem s_setLc {gB : Shared → Hp → Addr → List (Str × Addr) → List Addr → TG} {ttB : Shared → Hp → Addr → List (Str × Addr) → List Addr → TT} {teB : Shared → Hp → Addr → List (Str × Addr) → List Addr → TE} {i : Nat} {py : Pos} (hc : X.calm = true) (hN : X.N.Nodup) (hi : Vl.Itr X true q tg iter wi ws) (ok : BlkOk X.N X.env.scope scope own)
    (hg : ∀ (s : Shared) (H : Hp) (C : Addr) (cl : List (Str × Addr)) (fp : List Addr), Tc (X.blk s H scope (compEnvC scope cl C X.env) fp) is tg (gB s H C cl fp) γ)
    (ht : ∀ (s : Shared) (H : Hp) (C : Addr) (cl : List (Str × Addr)) (fp : List Addr), Tms (X.blk s H scope (compEnvC scope cl C X.env) fp) ifs (ttB s H C cl fp) wt)
    (he : ∀ (s : Shared) (H : Hp) (C : Addr) (cl : List (Str × Addr)) (fp : List Addr), E (X.blk s H scope (compEnvC scope cl C X.env) fp) false false elt (teB s H C cl fp) we)
    (hw : E X true o (.ListComp elt [⟨tg, iter, ifs, 0⟩] scope pos) (tLc wi (gB X.s_0 X.H_0 0 [] []) (ttB X.s_0 X.H_0 0 [] []) (teB X.s_0 X.H_0 0 [] []) (own.map (·.2))) wa)
    (hy : X.N[i]? = some y := by rfl) (hyl : X.env.scope.names.lookup y = some .local := by rfl) (hsw : swapsWith (.ListComp elt [⟨tg, iter, ifs, 0⟩] scope pos) (some (.Name y py)) spos.line X.env = pure true := by rfl) (hs : ∀ x, foldedSetIterable iter X.env x = pure x := by intro _; rfl) (hgB : ∀ (s : Shared) (H : Hp) (C : Addr) (cl : List (Str × Addr)) (fp : List Addr), gB s H C cl fp = gB X.s_0 X.H_0 0 [] [] := by intros; rfl) (htB : ∀ (s : Shared) (H : Hp) (C : Addr) (cl : List (Str × Addr)) (fp : List Addr), ttB s H C cl fp = ttB X.s_0 X.H_0 0 [] [] := by intros; rfl) (heB : ∀ (s : Shared) (H : Hp) (C : Addr) (cl : List (Str × Addr)) (fp : List Addr), teB s H C cl fp = teB X.s_0 X.H_0 0 [] [] := by intros; rfl) :
    St1 X o2 (.Assign [.Name y py] (.ListComp elt [⟨tg, iter, ifs, 0⟩] scope pos) spos) (tAsg (tLc wi (gB X.s_0 X.H_0 0 [] []) (ttB X.s_0 X.H_0 0 [] []) (teB X.s_0 X.H_0 0 [] []) (own.map (·.2))) (gName i)) (wSet i o wa) :=
  ⟨ps_setLc hc hN hy hyl hsw hi.pi ok (fun s H C cl fp => hgB s H C cl fp ▸ (hg s H C cl fp).pg) (fun s H C cl fp => htB s H C cl fp ▸ (ht s H C cl fp).pt) (fun s H C cl fp => heB s H C cl fp ▸ (he s H C cl fp).pe) hs, snd_set hw.snd⟩
end

/-! ### a def from its body -/
/-- the slots at the entry -/
def ini (N : List Str) (ds : List D) : Sto := ds.map .fz ++ List.replicate (N.length - ds.length) .un
theorem sl_un : ∀ n : Nat, Sl (List.replicate n none) (List.replicate n .un) [] []
  | 0 => .nil
  | n + 1 => .un (sl_un n)
theorem sl_ini : ∀ (vs : List V) (ds : List D) (n : Nat), vs.length = ds.length → Sl (vs.map some ++ List.replicate n none) (ds.map .fz ++ List.replicate n .un) (vs.zip ds) []
  | [], [], n, _ => sl_un n
  | v :: vs, d :: ds, n, h => .fz (sl_ini vs ds n (by simpa using h))
  | [], _ :: _, _, h => by simp at h
  | _ :: _, [], _, h => by simp at h
theorem sr_ini {K : PySem.W.Frag} {H : Hp} {Z : Addr → Prop} {N : List Str} {vs : List V} {ds : List D} (r : RpA K H Z vs ds) (zt : ∀ a, Z a → ∃ x, H a = some x) : SR K H Z (L2.start N vs) H (ini N ds) [] [] := by
  have l := r.length
  have s := sl_ini vs ds (N.length - vs.length) l
  rw [l] at s
  refine ⟨Z, vs.zip ds, [], ?_, fun a z => .inl z, zt, Same.refl _, fun p hp => r.zip p (by simpa using hp), fun _ h => (nomatch h), List.nodup_nil⟩
  unfold L2.start ini
  rw [l]
  exact s
/-- how a body ends -/
def endK (o : Bool) (k : D → Prop) : Fl → Sto → Prop := fun f _ => match f with
  | .nx => o = false ∧ k .none
  | .rt d => k d
  | _ => False
section
variable {P : Program} {w : World} {K : PySem.W.Frag} {mg : Str → Option Value} {base : Heap}
theorem fnV {o : Bool} {x qual : Str} {params : Arguments} {body : List Stmt} {scope : Scope} {dvs : List V} {kws : List (Str × V)} {f : Addr} {fd : FuncData} {N ps : List Str} {k : Nat} {fw : Fw} {wb : Wp Fl} (F : FunD K x qual params body scope dvs kws f fd) (S : FnScope N ps scope)
    (hb : ∀ (cdv : Value) (A : Around) (outer : List Env) (s : Shared) (H : Hp), A.guards = some [] → Room k (A.deeper (envOfC qual scope s.heap.objs.size f cdv)) → ∃ t, Sts (cxOf CX0 P w K mg base N qual scope f cdv A outer s H E0).nox o body t wb)
    (hw : ∀ ds k, ds.length = ps.length → fw ds k → wb (ini N ds) (endK o k)) : FnG P w K mg base (k + 1) f fd ps (spV K o ps.length fw) := by
  refine okG F S spV_len fun cdv A outer s H vs Q hg hr hsp => ?_
  obtain ⟨t, ht⟩ := hb cdv A outer s H hg hr
  refine ⟨t, PSs.nox ht.ps, ?_⟩
  obtain ⟨hl, ds, k1, Z, r, zt, hf, q⟩ := hsp
  have l := r.length
  refine ht.snd H Z (L2.start N vs) H (ini N ds) [] (endK o k1) _ (sr_ini r zt) (hw ds k1 (by rw [← l]; exact hl) hf) (fun σ' H' e' S' hk => ?_) (fun _ _ _ _ h => h.elim) (fun _ _ _ _ h => h.elim) fun σ' v d H' e' S' hk => ?_
  · obtain ⟨rfl, hk⟩ := hk
    exact q .non .none H' (SRo.fin (o := false) (S'.addP fun _ => .non)) hk
  · exact q v d H' S'.fin hk
/-- .. by what it computes -/
theorem fnO {o : Bool} {x qual : Str} {params : Arguments} {body : List Stmt} {scope : Scope} {dvs : List V} {kws : List (Str × V)} {f : Addr} {fd : FuncData} {N ps : List Str} {k : Nat} {fw : Fw} {fb : Op Fl} (F : FunD K x qual params body scope dvs kws f fd) (S : FnScope N ps scope)
    (hb : ∀ (cdv : Value) (A : Around) (outer : List Env) (s : Shared) (H : Hp), A.guards = some [] → Room k (A.deeper (envOfC qual scope s.heap.objs.size f cdv)) → ∃ t, Sts (cxOf CX0 P w K mg base N qual scope f cdv A outer s H E0).nox o body t (lift fb))
    (hw : ∀ ds k, ds.length = ps.length → fw ds k → ∃ r, fb (ini N ds) = some r ∧ endK o k r.1 r.2) : FnG P w K mg base (k + 1) f fd ps (spV K o ps.length fw) := fnV F S hb hw
/-- a weaker promise -/
theorem FnG.imV {o : Bool} {np k : Nat} {f : Addr} {fd : FuncData} {ps : List Str} {fw fw' : Fw} (F : FnG P w K mg base k f fd ps (spV K o np fw)) (h : ∀ ds k, fw' ds k → fw ds k) : FnG P w K mg base k f fd ps (spV K o np fw') :=
  F.imp fun vs H Q E ⟨h1, ds, k, Z, r, z, hf, q⟩ => ⟨h1, ds, k, Z, r, z, h ds k hf, q⟩
/-- what a body computes, as a function of the arguments -/
def runF (N : List Str) (o : Bool) (f : Op Fl) (ds : List D) : Option D := match f (ini N ds) with
  | some (.nx, _) => if o = false then some .none else none
  | some (.rt d, _) => some d
  | _ => none
theorem fnF {o : Bool} {x qual : Str} {params : Arguments} {body : List Stmt} {scope : Scope} {dvs : List V} {kws : List (Str × V)} {f : Addr} {fd : FuncData} {N ps : List Str} {k : Nat} {fb : Op Fl} (F : FunD K x qual params body scope dvs kws f fd) (S : FnScope N ps scope)
    (hb : ∀ (cdv : Value) (A : Around) (outer : List Env) (s : Shared) (H : Hp), A.guards = some [] → Room k (A.deeper (envOfC qual scope s.heap.objs.size f cdv)) → ∃ t, Sts (cxOf CX0 P w K mg base N qual scope f cdv A outer s H E0).nox o body t (lift fb)) :
    FnG P w K mg base (k + 1) f fd ps (spV K o ps.length (liftF (runF N o fb))) := by
  refine fnO F S hb fun ds k _ hf => ?_
  obtain ⟨d, h, hk⟩ := hf
  unfold runF at h
  cases hr : fb (ini N ds) with
  | none => rw [hr] at h; cases h
  | some r =>
    rw [hr] at h
    refine ⟨r, rfl, ?_⟩
    obtain ⟨fl, e⟩ := r
    cases fl with
    | nx =>
      by_cases ho : o = false
      · have h : (if o = false then some PyData.none else none) = some d := h
        rw [if_pos ho] at h
        cases h
        exact ⟨ho, hk⟩
      · have h : (if o = false then some PyData.none else none) = some d := h
        rw [if_neg ho] at h; cases h
    | rt d' =>
      have h : d' = d := Option.some.inj h
      subst h; exact hk
    | bk => cases h
    | ct => cases h
end
end Vl
/-! The value layer, 16: the script, a pot, a draw from it. -/
namespace Vl
open PySem PySem.Spec PyProof.Rows L2
section
variable {K : PySem.W.Frag} {H H' H0 : Hp} {Z Z' Z0 : Addr → Prop} {σ σ' : L2.St} {e e' : Sto} {P P' : List (V × D)} {PW : List (Addr × List D)}
variable {X : Cx} {m m2 o o2 : Bool} {a b c : Expr} {es ifs : List Expr} {ta tb tc te : TE} {tas : TA} {wa wb we : Wp D} {fa fb fe : Op D} {ws : Wp (List D)} {fs : Op (List D)} {pos p p2 spos : Pos} {x y z nm : Str}
/-! ### the script -/
def scrI : D → Option (List Int)
  | .dict [(.list l, .bool true)] => intA l
  | _ => none
theorem scrI_D (ns : List Int) : scrI (scrD ns) = some ns := intA_of ns
theorem SR.scr {v : V} {d : D} {ns : List Int} (S : SR K H0 Z0 σ H e ((v, d) :: P) PW) (h : scrI d = some ns) : ∃ ad, v = .ref ad ∧ SqL K H ad (ns.map V.int) := by
  obtain ⟨Z, r⟩ := S.hd
  cases r with
  | scr rd =>
    rw [scrI_D] at h
    obtain rfl := Option.some.inj h
    exact ⟨_, rfl, rd.sqL⟩
  | pot _ => cases h
  | prs _ _ => cases h
  | _ => cases h
def scrLen (d : D) : Option D := (scrI d).map fun ns => .int ns.length
def scrIx (d j : D) : Option D := match j with
  | .int i => (scrI d).bind fun ns => (atI ns i).map .int
  | _ => none
def scrSl (lo hi : Option Int) (d : D) : Option D := (scrI d).map fun ns => .list (cut (ns.map .int) lo hi)
theorem d_slen (hg : Gl X "len") (hm : X.mg "len" = none) (ha : E X m false a ta (lift fa)) (hst : starEach [a] X.env = (false, eval a X.env) :: starEach [] X.env := by rfl) : E X m false (.Call (.Name "len" p) [a] [] pos) (tCB (rLen X.K) (tCons ta tNil)) (lift (oB1 scrLen fa)) := by
  rw [lift_B1]
  generalize lift fa = wa at ha ⊢
  refine ⟨pe_callB (r := rLen X.K) call_len_seq hg hm PySem.boot_len (pa_cons ha.pe pa_nil hst) (by decide) (by decide) hst, ?_⟩
  intro H0 Z0 σ H e P PW k Q S h q
  refine ha.snd H0 Z0 σ H e P PW _ _ S h fun v d e1 H1 he S1 h1 => ?_
  obtain ⟨zz, hz, hk⟩ := h1
  obtain ⟨ns, h2, rfl⟩ := Option.map_eq_some_iff.mp hz
  obtain ⟨ad, rfl, hs⟩ := SR.scr S1 h2
  refine ⟨ad, _, rfl, .inl hs, ?_⟩
  rw [List.length_map]
  exact q _ _ e1 H1 he (SR.tl S1).int hk
theorem atI_int {ns : List Int} {i z : Int} (h : atI ns i = some z) : atI (ns.map V.int) i = some (.int z) := by
  obtain ⟨j, h1, h2⟩ := Option.bind_eq_some_iff.mp (show (ixN ns.length i).bind (fun j => ns[j]?) = some z from h)
  unfold atI
  rw [List.length_map, h1]
  show (ns.map V.int)[j]? = _
  rw [List.getElem?_map, h2]; rfl
theorem d_six (ha : E X m false a ta (lift fa)) (hb : E X m false b tb (lift fb)) (hs : PlainIx b := by exact fun _ _ => rfl) : E X m false (.Subscript a b pos) (tOp (rIxL X.K) ta tb) (lift (oB2 scrIx fa fb)) := by
  rw [lift_B2]
  generalize lift fa = wa at ha ⊢
  generalize lift fb = wb at hb ⊢
  refine ⟨pe_ix ix_list ha.pe hb.pe hs, ?_⟩
  intro H0 Z0 σ H e P PW k Q S h q
  refine ha.snd H0 Z0 σ H e P PW _ _ S h fun v d e1 H1 he S1 h1 => ?_
  refine hb.snd H0 Z0 σ H1 e1 _ PW _ _ S1 h1 fun u j e2 H2 he2 S2 h2 => ?_
  obtain ⟨zz, hz, hk⟩ := h2
  cases j with
  | int i =>
    obtain ⟨ns, h3, h4⟩ := Option.bind_eq_some_iff.mp (show (scrI d).bind (fun ns => (atI ns i).map PyData.int) = some zz from hz)
    obtain ⟨z', h5, rfl⟩ := Option.map_eq_some_iff.mp h4
    have S2 : SR X.K H0 Z0 σ H2 e2 ((u, .int i) :: (v, d) :: P) PW := S2
    obtain ⟨ad, rfl, hsq⟩ := SR.scr S2.tl h3
    exact ⟨ad, _, i, _, rfl, S2.hdInt, hsq, atI_int h5, q _ _ e2 H2 (mf he he2) S2.tl2.int hk⟩
  | _ => cases hz
theorem cut_map {α β : Type} (f : α → β) (xs : List α) (lo hi : Option Int) : (cut xs lo hi).map f = cut (xs.map f) lo hi := by
  unfold cut
  rw [List.map_take, List.map_drop, List.length_map]
theorem zip_ints : ∀ ns : List Int, ∀ p ∈ (ns.map V.int).zip (ns.map PyData.int), ∃ i, p = (.int i, .int i)
  | [], _, h => by simp at h
  | n :: ns, p, h => by
    rw [List.map_cons, List.map_cons, List.zip_cons_cons] at h
    rcases List.mem_cons.mp h with h | h
    · exact ⟨n, h⟩
    · exact zip_ints ns p h
theorem SR.intsP {ns : List Int} (S : SR K H0 Z0 σ H e P PW) : SR K H0 Z0 σ H e ((ns.map V.int).zip (ns.map PyData.int) ++ P) PW := by
  obtain ⟨Z, F, W, s, S⟩ := S
  refine ⟨Z, F, W, s, S.zin, S.ztr, S.same, fun p hp => ?_, S.ow, S.nd⟩
  rw [List.append_assoc] at hp
  rcases List.mem_append.mp hp with hp | hp
  · obtain ⟨i, rfl⟩ := zip_ints ns p hp
    exact .int i
  · exact S.fz p hp
theorem d_ssl {lo hi : Option Expr} {tl th : TO} {fl fh : Op (Option Int)} (ha : E X m false a ta (lift fa)) (hl : Po X m lo tl (lift fl)) (hh : Po X m hi th (lift fh)) : E X m true (.Subscript a (.Slice lo hi none p2) pos) (tSl (rSlL X.K) ta tl th) (lift (Op.bd fa fun d => Op.bd fl fun l => Op.bd fh fun h => Op.gt fun _ => scrSl l h d)) := by
  refine ⟨pe_slice sl_list ha.pe hl.po hh.po, ?_⟩
  simp only [lift_bd, lift_gt]
  obtain ⟨_, ha⟩ := ha
  obtain ⟨_, hl⟩ := hl
  obtain ⟨_, hh⟩ := hh
  generalize lift fa = wa at ha ⊢
  generalize lift fl = wl at hl ⊢
  generalize lift fh = wh at hh ⊢
  intro H0 Z0 σ H e P PW k Q S h q
  refine ha H0 Z0 σ H e P PW _ _ S h fun v d e1 H1 he S1 h1 => ?_
  refine hl H0 Z0 σ H1 e1 _ PW _ _ S1 h1 fun l e2 H2 he2 S2 h2 => ?_
  refine hh H0 Z0 σ H2 e2 _ PW _ _ S2 h2 fun r e3 H3 he3 S3 h3 => ?_
  obtain ⟨zz, hz, hk⟩ := h3
  obtain ⟨ns, h4, rfl⟩ := Option.map_eq_some_iff.mp hz
  obtain ⟨ad, rfl, hsq⟩ := SR.scr S3 h4
  refine ⟨ad, _, rfl, hsq, fun p np => q _ _ e3 _ (mf1 (mf (mf he he2) he3) (same_upd np)) ⟨p, _, rfl, rfl, ?_⟩ hk⟩
  rw [show cutV (ns.map V.int) l r = (cut ns l r).map V.int from (cut_map V.int ns l r).symm, ← cut_map]
  exact SR.lst (SR.intsP (SR.tl S3)) (by rw [List.length_map, List.length_map]) np
/-! ### a pot is laid -/
def tPot (t : TA) : TE := fun σ H Q => t σ H fun xs H1 => ∃ i j : Int, xs = [.int i, .int j] ∧ (0 ≤ i ∧ 0 ≤ j ∧ j < 4294967296) ∧ ∀ p, H1 p = none → Q (.ref p) (upd H1 p (.ext (PotP p)))
theorem potP_new {h : Heap} {p : Addr} {i j : Int} {us : List Value} {n : Nat} (hb : 0 ≤ i ∧ 0 ≤ j ∧ j < 4294967296) (r : Vals [.int i, .int j] us) (e : h.get? p = some { cls := .type "list", data := .seq us.toArray n }) : PotP p h := by
  obtain ⟨u1, u2, rfl, ⟨t1, rfl⟩, ⟨t2, rfl⟩⟩ := vals2 r
  exact ⟨i, j, t1, t2, n, hb, e⟩
theorem pot_ok {P : Program} {w : World} {H : Hp} {h : Heap} {p : Addr} (q : PotP p h) : ObjOk P w H h p (.ext (PotP p)) := by
  obtain ⟨i, j, t, u, n, hb, e⟩ := id q
  exact ⟨q, ⟨_, e⟩, fun h1 h2 ⟨i, j, t, u, n, hb, e⟩ k => ⟨i, j, t, u, n, hb, k _ e⟩⟩
theorem pe_pot (h : PA X es tas) : PE X (.List es pos) (tPot tas) := by
  refine ⟨fun pins s σ H Q I hq => wpAny_List_spliced (thn (h.run pos pins s σ H _ I hq) fun us s1 hh => ?_)⟩
  obtain ⟨vs, H1, I1, r, i, j, rfl, hb, q⟩ := hh
  have hl : us.length = 2 := r.length.symm
  refine ⟨by rw [hl, sizeLine_eq]; decide, ?_⟩
  have hf : H1 s1.heap.objs.size = none := I1.hok.fresh (Nat.le_refl _)
  have I2 := I1.lnew (t' := s1.toks) r (by show 2 ≤ sizeLine; rw [sizeLine_eq]; decide)
  have hg : (s1.heap.push { cls := .type "list", data := .seq us.toArray }).get? s1.heap.objs.size = some { cls := .type "list", data := .seq us.toArray } := Heap.get?_push_size _ rfl
  have I3 := I2.write (x := s1.heap.objs.size) (e := s1.heap.objs.size) (o := .ext (PotP s1.heap.objs.size)) (t' := s1.toks) (by rw [upd_same]; exact trivial) (.inl rfl) (fun b u _ q => q) ⟨_, hg⟩ (pot_ok (potP_new hb r hg))
  have eu : upd (upd H1 s1.heap.objs.size (.lst [.int i, .int j])) s1.heap.objs.size (.ext (PotP s1.heap.objs.size)) = upd H1 s1.heap.objs.size (.ext (PotP s1.heap.objs.size)) := by
    funext b
    by_cases hb : b = s1.heap.objs.size
    · rw [hb, upd_same, upd_same]
    · rw [upd_ne hb, upd_ne hb, upd_ne hb]
  rw [eu] at I3
  exact ⟨.ref s1.heap.objs.size, _, I3, rfl, q _ hf⟩
def potF : List D → Option D
  | [.int i, .int j] => if 0 ≤ i ∧ 0 ≤ j ∧ j < 4294967296 then some potD else none
  | _ => none
theorem d_pot (ha : As X m es tas (lift fs)) : E X m false (.List es pos) (tPot tas) (lift (oB1 potF fs)) := by
  rw [lift_B1]
  generalize lift fs = ws at ha ⊢
  refine ⟨pe_pot ha.pa, ?_⟩
  intro H0 Z0 σ H e P PW k Q S h q
  refine ha.snd H0 Z0 σ H e P PW _ _ S h fun vs ds e1 H1 he hl S1 h1 => ?_
  obtain ⟨z, hz, hk⟩ := h1
  match ds, hz, hl, S1 with
  | [.int i, .int j], hz, hl, S1 =>
    have hz : (if 0 ≤ i ∧ 0 ≤ j ∧ j < 4294967296 then some potD else none) = some z := hz
    by_cases hc : 0 ≤ i ∧ 0 ≤ j ∧ j < 4294967296
    · rw [if_pos hc] at hz
      obtain rfl := Option.some.inj hz
      exact ⟨i, j, two_int hl S1, hc, fun p np => q _ _ e1 _ (mf1 he (same_upd np)) (((S1.subP zipR).grow (same_upd np)).addP fun _ => .pot upd_same) hk⟩
    · rw [if_neg hc] at hz; cases hz
end
/-! ### a draw -/
def rDm : List V → Hp → VK → Prop := fun xs H Q => ∃ i j, xs = [.int i, .int j] ∧ CDivP i j ∧ ∀ p, H p = none → Q (.ref p) (upd H p (.tup [.int (i / j), .int (i % j)]))
def rInt : List V → Hp → VK → Prop := fun xs H Q => (∃ i, xs = [.int i] ∧ Q (.int i) H) ∨ ∃ k, xs = [.bl k] ∧ Q (.int (if k then 1 else 0)) H
abbrev tP (K : PySem.W.Frag) (i : Int) : TE := tOp (rIxL K) (tVar 0) (tC (.int i))
abbrev mMul : R2 := rI CMulW fun i j => .int (i * j)
abbrev mAdd : R2 := rI0 fun i j => .int (i + j)
abbrev mMod : R2 := rI (fun _ j => 0 < j) fun i j => .int (i % j)
abbrev mDiv : R2 := rI CDivW fun i j => .int (i / j)
abbrev tInt (t : TE) : TE := tCB rInt (tCons t tNil)
def tDraw (K : PySem.W.Frag) (A B M N F : Int) : TS :=
  tSeq (tIfS (tTest (tOp (rI0 fun i j => .bl (decide (j < i))) (tP K 0) (tC (.int 0)))) (tSeq (tAsg (tCB rDm (tCons (tP K 0) (tCons (tVar 1) tNil))) (gTup K 2 (gCons (gSub (tVar 0) (tC (.int 0)) rSetL) (gCons (gName 2) gNil)))) (tRet (tVar 2))) tNext)
    (tSeq (tAsg (tOp mMod (tInt (tOp mAdd (tOp mMul (tP K 1) (tC (.int A))) (tC (.int B)))) (tC (.int M))) (gSub (tVar 0) (tC (.int 1)) rSetL))
      (tRet (tOp mMod (tInt (tOp mDiv (tOp mMod (tInt (tOp mMul (tP K 1) (tP K 1))) (tC (.int N))) (tC (.int F)))) (tVar 1))))
def spD : Sp := fun vs H Q _ => ∃ (p : Addr) (i j many : Int), vs = [.ref p, .int many] ∧ H p = some (.lst [.int i, .int j]) ∧ (0 ≤ i ∧ 0 ≤ j ∧ j < 4294967296) ∧ (0 < many ∧ many.natAbs.log2 < 9000) ∧
  ∀ (d i' j' : Int) (H' : Hp), 0 ≤ d → d < many → (0 ≤ i' ∧ 0 ≤ j' ∧ j' < 4294967296) → (∀ b o, b ≠ p → H b = some o → H' b = some o) → H' p = some (.lst [.int i', .int j']) → Q (.int d) H'
theorem log32 {j : Int} (h : 0 ≤ j ∧ j < 4294967296) : j.natAbs.log2 < 32 := by
  by_cases h0 : j.natAbs = 0
  · rw [h0]; decide
  · exact (Nat.log2_lt h0).mpr (by omega)
theorem draw_pure {K : PySem.W.Frag} {A B M N F : Int} (hA : 0 ≤ A ∧ A < 4294967296) (hB : 0 ≤ B) (hM : 0 < M ∧ M ≤ 4294967296) (hN : 0 < N) (hF : 0 < F ∧ F < 4294967296) {vs : List V} {H : Hp} {Q : VK} {n3 : List Str} (hl : n3.length = 3) (h : spD vs H Q E0) :
    tDraw K A B M N F { nx := fun _ H' => Q .non H', rt := Q } (L2.start n3 vs) H := by
  obtain ⟨p, i, j, many, rfl, hp, hb, hm, q⟩ := h
  have est : L2.start n3 [.ref p, .int many] = [some (.ref p), some (.int many), none] := by
    unfold L2.start
    rw [hl]; rfl
  rw [est]
  refine ⟨.ref p, rfl, p, [.int i, .int j], 0, .int i, rfl, rfl, SqL.of hp, rfl, i, 0, rfl, rfl, _, rfl, ?_⟩
  by_cases hi : 0 < i
  · rw [decide_eq_true hi]
    refine iteT ?_
    refine ⟨.ref p, rfl, p, [.int i, .int j], 0, .int i, rfl, rfl, SqL.of hp, rfl, .int many, rfl, i, many, rfl, ⟨hm.1, PyProof.noPylong_of_log2 hm.2⟩, fun t nt => ?_⟩
    have npt : p ≠ t := fun e => by rw [e, nt] at hp; cases hp
    refine ⟨t, _, rfl, .inl (.inl upd_same), rfl, _, _, rfl, ?_⟩
    refine ⟨.ref p, rfl, p, [.int i, .int j], 0, 0, rfl, rfl, by rw [upd_ne npt]; exact hp, rfl, _, _, rfl, rfl, ?_⟩
    refine ⟨.int (i % many), rfl, q (i % many) (i / many) j _ (Int.emod_nonneg _ (by omega)) (Int.emod_lt_of_pos _ hm.1) ⟨Int.ediv_nonneg hb.1 (by omega), hb.2⟩ (fun b o nb e => ?_) (by rw [upd_same]; rfl)⟩
    rw [upd_ne nb, upd_ne (fun z => by rw [z, nt] at e; cases e)]
    exact e
  · rw [decide_eq_false hi]
    refine iteF ?_
    have c1 : CMulW j A := by
      have := log32 hb.2
      have := log32 hA
      show j.natAbs.log2 + A.natAbs.log2 < 1000000
      omega
    refine ⟨.ref p, rfl, p, [.int i, .int j], 1, .int j, rfl, rfl, SqL.of hp, rfl, j, A, rfl, rfl, c1, _, _, rfl, rfl, .inl ⟨_, rfl, _, M, rfl, rfl, hM.1, ?_⟩⟩
    have hj' : 0 ≤ (j * A + B) % M ∧ (j * A + B) % M < 4294967296 := ⟨Int.emod_nonneg _ (by omega), Int.lt_of_lt_of_le (Int.emod_lt_of_pos _ hM.1) hM.2⟩
    dsimp only
    generalize hj : (j * A + B) % M = j' at hj'
    refine ⟨.ref p, rfl, p, [.int i, .int j], 1, 1, rfl, rfl, hp, rfl, ?_⟩
    have e1 : upd H p (.lst ([V.int i, V.int j].set 1 (.int j'))) p = some (.lst [.int i, .int j']) := upd_same
    have c2 : CMulW j' j' := by
      have := log32 hj'
      show j'.natAbs.log2 + j'.natAbs.log2 < 1000000
      omega
    have c3 : CDivW (j' * j' % N) F := ⟨hF.1, by have := log32 ⟨Int.le_of_lt hF.1, hF.2⟩; omega⟩
    refine ⟨.ref p, rfl, p, [.int i, .int j'], 1, .int j', rfl, rfl, SqL.of e1, rfl, .ref p, rfl, p, [.int i, .int j'], 1, .int j', rfl, rfl, SqL.of e1, rfl, j', j', rfl, rfl, c2, .inl ⟨_, rfl, _, N, rfl, rfl, hN, _, F, rfl, rfl, c3, .inl ⟨_, rfl, ?_⟩⟩⟩
    refine ⟨.int many, rfl, _, many, rfl, rfl, hm.1, q _ i j' _ (Int.emod_nonneg _ (by omega)) (Int.emod_lt_of_pos _ hm.1) ⟨hb.1, hj'⟩ (fun b o nb e => ?_) e1⟩
    rw [upd_ne nb]
    exact e
def fwDraw : Fw := fun ds k => ∃ many : Int, ds = [potD, .int many] ∧ (0 < many ∧ many.natAbs.log2 < 9000) ∧ ∀ d : Int, 0 ≤ d → d < many → k (.int d)
section
variable {P : Program} {w : World} {K : PySem.W.Frag} {mg : Str → Option Value} {base : Heap}
theorem Rp.potE {H : Hp} {Z : Addr → Prop} {v : V} (r : Rp K H Z v potD) : ∃ a, v = .ref a ∧ H a = some (.ext (PotP a)) := by
  have go : ∀ d, Rp K H Z v d → d = potD → ∃ a, v = .ref a ∧ H a = some (.ext (PotP a)) := by
    intro d r e
    cases r with
    | pot h => exact ⟨_, rfl, h⟩
    | scr _ => simp [scrD, potD] at e
    | prs _ _ => simp [pairD, potD] at e
    | _ => cases e
  exact go _ r rfl
theorem Rp.intE {H : Hp} {Z : Addr → Prop} {v : V} {i : Int} (r : Rp K H Z v (.int i)) : v = .int i := by
  cases r with
  | int => rfl
theorem pot_open {k : Nat} {f : Addr} {fd : FuncData} {ps : List Str} (hp : ps.length = 2) (F : FnG P w K mg base k f fd ps spD) : FnG P w K mg base k f fd ps (spV K false ps.length fwDraw) := by
  refine ⟨spV_len, fun A outer s H args us vs Q hga hr env hb hv hsp => ?_⟩
  obtain ⟨hl, ds, k1, Z, r, zt, ⟨many, rfl, hm, hk⟩, q⟩ := hsp
  cases r with
  | cons r1 r =>
    cases r with
    | cons r2 r =>
      cases r
      obtain ⟨p, rfl, hp⟩ := r1.potE
      obtain rfl := r2.intE
      obtain ⟨⟨i, j, t, u, n, hbd, hg⟩, _, _⟩ := (show ObjOk P w H s.heap p (.ext (PotP p)) from env.hok p _ hp)
      have mu : Mut (H p) := by rw [hp]; exact trivial
      have new : ObjOk P w (upd H p (.lst [.int i, .int j])) s.heap p (.lst [.int i, .int j]) := ⟨by show 2 ≤ sizeLine; rw [sizeLine_eq]; decide, [.int i t, .int j u], n, .cons ⟨t, rfl⟩ (.cons ⟨u, rfl⟩ .nil), hg⟩
      have np : ∀ b, H b = none → b ≠ p := fun b e z => by rw [z, hp] at e; cases e
      have env1 : Env0 P w K mg base A outer s (upd H p (.lst [.int i, .int j])) := ⟨env.frames, env.mod, fun b o e => ⟨(env.bs b o e).1, by rw [upd_ne (np b (env.bs b o e).2)]; exact (env.bs b o e).2⟩, env.bsz, env.funs, fun b hb => by rw [upd_ne (np b (env.frf b hb))]; exact env.frf b hb,
        env.hok.write mu (.inl rfl) (fun _ _ _ e => e) ⟨_, hg⟩ new, env.bare⟩
      have un1 : Un (frs outer) [] H (upd H p (.lst [.int i, .int j])) s.heap s.heap := Un.write mu (.inl rfl) (fun _ _ _ e => e) ⟨_, hg⟩
      refine codeAny_mono (F.run A outer s (upd H p (.lst [.int i, .int j])) args us _ (fun v H' => ∃ d i' j' : Int, v = .int d ∧ (0 ≤ d ∧ d < many) ∧ (0 ≤ i' ∧ 0 ≤ j' ∧ j' < 4294967296) ∧ (∀ b o, b ≠ p → upd H p (.lst [.int i, .int j]) b = some o → H' b = some o) ∧ H' p = some (.lst [.int i', .int j'])) hga hr env1 hb hv
        ⟨p, i, j, many, rfl, upd_same, hbd, hm, fun d i' j' H' h1 h2 h3 h4 h5 => ⟨d, i', j', rfl, ⟨h1, h2⟩, h3, h4, h5⟩⟩) fun rr s' hq => ?_
      cases rr with
      | error _ => cases hq
      | ok fl =>
        cases fl with
        | ret u =>
          obtain ⟨v, H1, c1, c2, c3, c4, c5, d, i', j', rfl, hd, hb', hsame, hp1⟩ := hq
          obtain ⟨_, its, n', rv, hg'⟩ := (show ObjOk P w H1 s'.heap p (.lst [.int i', .int j']) from c4 p _ hp1)
          have mu1 : Mut (H1 p) := by rw [hp1]; exact trivial
          refine ⟨.int d, upd H1 p (.ext (PotP p)), c1, c2, (un1.trans c3).trans (Un.write mu1 (.inl rfl) (fun _ _ _ e => e) ⟨_, hg'⟩), c4.write mu1 (.inl rfl) (fun _ _ _ e => e) ⟨_, hg'⟩ (pot_ok (potP_new hb' rv hg')), c5, q _ _ _ ⟨fun b o e => ?_, fun _ => False, fun _ z => z.elim, fun _ z => z.elim, .int d⟩ (hk d hd.1 hd.2)⟩
          by_cases hbp : b = p
          · rw [hbp, hp] at e
            cases e
            rw [hbp, upd_same]
          · rw [upd_ne hbp]
            exact hsame b o hbp (by rw [upd_ne hbp]; exact e)
        | next => cases hq
        | brk => cases hq
        | cont => cases hq
theorem drawG {x qual : Str} {params : Arguments} {body : List Stmt} {scope : Scope} {dvs : List V} {kws : List (Str × V)} {f : Addr} {fd : FuncData} {N ps : List Str} {k : Nat} {A B M N2 Fv : Int} (F : FunD K x qual params body scope dvs kws f fd) (S : FnScope N ps scope)
    (hb : ∀ (cdv : Value) (Ar : Around) (outer : List Env) (s : Shared) (H : Hp), Ar.guards = some [] → Room k (Ar.deeper (envOfC qual scope s.heap.objs.size f cdv)) → PSs (cxOf CX0 P w K mg base N qual scope f cdv Ar outer s H E0) body (tDraw K A B M N2 Fv))
    (hA : 0 ≤ A ∧ A < 4294967296 := by decide) (hB : 0 ≤ B := by decide) (hM : 0 < M ∧ M ≤ 4294967296 := by decide) (hN : 0 < N2 := by decide) (hF : 0 < Fv ∧ Fv < 4294967296 := by decide) (h3 : N.length = 3 := by rfl) (h2 : ps.length = 2 := by rfl) : FnG P w K mg base (k + 1) f fd ps (spV K false ps.length fwDraw) := by
  refine pot_open h2 (okG F S (fun vs H Q E h => ?_) fun cdv Ar outer s H vs Q hg hr hsp => ⟨_, hb cdv Ar outer s H hg hr, draw_pure hA hB hM hN hF h3 hsp⟩)
  obtain ⟨p, i, j, many, rfl, _⟩ := h
  exact h2.symm
end
end Vl
/-! The value layer, 17: ranges laid out, distinct ints, index, enumerate, zip. -/
namespace Vl
open PySem PySem.Spec PyProof.Rows L2
section
variable {K : PySem.W.Frag} {H H' H0 : Hp} {Z Z' Z0 : Addr → Prop} {σ σ' : L2.St} {e e' : Sto} {P P' : List (V × D)} {PW : List (Addr × List D)}
variable {X : Cx} {m m2 o o2 : Bool} {a b c : Expr} {es ifs : List Expr} {ta tb tc te : TE} {tas : TA} {wa wb we : Wp D} {fa fb fe : Op D} {ws : Wp (List D)} {fs : Op (List D)} {pos p p2 p3 spos : Pos} {x y z nm : Str} {wq wq2 : Wp QV} {fq fq2 : Op QV}
/-! ### list(range(..)) -/
def SndR (K : PySem.W.Frag) (m : Bool) (t : L2.St → Hp → (Int → Int → Hp → Prop) → Prop) (w : Wp (Int × Int)) : Prop :=
  ∀ H0 Z0 σ H e P PW k Q, SR K H0 Z0 σ H e P PW → w e k → (∀ i j e' H', (m = false → e' = e ∧ Same H H') → SR K H0 Z0 σ H' e' P PW → k (i, j) e' → Q i j H') → t σ H Q
structure Rg (X : Cx) (m : Bool) (ex : Expr) (t : L2.St → Hp → (Int → Int → Hp → Prop) → Prop) (w : Wp (Int × Int)) : Prop where
  pr : PRg X ex t
  snd : SndR X.K m t w
def int1 : D → Option (Int × Int)
  | .int j => some (0, j)
  | _ => none
def int2 : D → D → Option (Int × Int)
  | .int i, .int j => some (i, j)
  | _, _ => none
theorem r_1 (hg : Gl X "range") (hm : X.mg "range" = none) (ha : E X m false a ta wa) (na : starEach [a] X.env = (false, eval a X.env) :: starEach [] X.env := by rfl) : Rg X m (.Call (.Name "range" p) [a] [] pos) (tRg1 ta) (wB1 int1 wa) := by
  refine ⟨prg_1 hg hm ha.pe na, ?_⟩
  intro H0 Z0 σ H e P PW k Q S h q
  refine ha.snd H0 Z0 σ H e P PW _ _ S h fun v d e1 H1 he S1 h1 => ?_
  obtain ⟨z, hz, hk⟩ := h1
  cases d with
  | int i =>
    have hz : (0, i) = z := Option.some.inj hz
    subst hz
    exact ⟨i, SR.hdInt S1, q 0 i e1 H1 he (SR.tl S1) hk⟩
  | _ => cases hz
theorem r_2 (hg : Gl X "range") (hm : X.mg "range" = none) (ha : E X m false a ta wa) (hb : E X m false b tb wb) (na : starEach [a, b] X.env = (false, eval a X.env) :: starEach [b] X.env := by rfl)
    (nb : starEach [b] X.env = (false, eval b X.env) :: starEach [] X.env := by rfl) (hp : (backTo pos (starEach [b] X.env)).any (·.1) = false := by rfl) : Rg X m (.Call (.Name "range" p) [a, b] [] pos) (tRg2 ta tb) (wB2 int2 wa wb) := by
  refine ⟨prg_2 hg hm ha.pe hb.pe na nb hp, ?_⟩
  intro H0 Z0 σ H e P PW k Q S h q
  refine ha.snd H0 Z0 σ H e P PW _ _ S h fun v d e1 H1 he S1 h1 => ?_
  refine hb.snd H0 Z0 σ H1 e1 _ PW _ _ S1 h1 fun u d2 e2 H2 he2 S2 h2 => ?_
  obtain ⟨z, hz, hk⟩ := h2
  cases d with
  | int i =>
    cases d2 with
    | int j =>
      have hz : (i, j) = z := Option.some.inj hz
      subst hz
      have S2 : SR X.K H0 Z0 σ H2 e2 ((u, .int j) :: (v, .int i) :: P) PW := S2
      exact ⟨i, j, S2.tl.hdInt, S2.hdInt, q i j e2 H2 (mf he he2) S2.tl2 hk⟩
    | _ => cases hz
  | _ => cases hz
theorem dr_1 (hg : Gl X "range") (hm : X.mg "range" = none) (ha : E X m false a ta (lift fa)) (na : starEach [a] X.env = (false, eval a X.env) :: starEach [] X.env := by rfl) : Rg X m (.Call (.Name "range" p) [a] [] pos) (tRg1 ta) (lift (oB1 int1 fa)) := by rw [lift_B1]; exact r_1 hg hm ha na
theorem dr_2 (hg : Gl X "range") (hm : X.mg "range" = none) (ha : E X m false a ta (lift fa)) (hb : E X m false b tb (lift fb)) (na : starEach [a, b] X.env = (false, eval a X.env) :: starEach [b] X.env := by rfl)
    (nb : starEach [b] X.env = (false, eval b X.env) :: starEach [] X.env := by rfl) (hp : (backTo pos (starEach [b] X.env)).any (·.1) = false := by rfl) : Rg X m (.Call (.Name "range" p) [a, b] [] pos) (tRg2 ta tb) (lift (oB2 int2 fa fb)) := by rw [lift_B2]; exact r_2 hg hm ha hb na nb hp
def rgOk (r : Int × Int) : Prop := (r.2 ≤ 10000000 ∧ -10000000 ≤ r.2) ∧ r.1 ≤ 10000000 ∧ -10000000 ≤ r.1 ∧ (r.2 - r.1).toNat ≤ 10000000
instance (r : Int × Int) : Decidable (rgOk r) := inferInstanceAs (Decidable ((r.2 ≤ 10000000 ∧ -10000000 ≤ r.2) ∧ r.1 ≤ 10000000 ∧ -10000000 ≤ r.1 ∧ (r.2 - r.1).toNat ≤ 10000000))
theorem rgOk_ok {r : Int × Int} (h : rgOk r) : RgOk r.1 r.2 := by
  obtain ⟨⟨h1, h2⟩, h3, h4, h5⟩ := h
  exact ⟨by omega, by omega, by omega, by omega, by omega⟩
def lstRg (r : Int × Int) : Option D := if rgOk r then some (.list (rngL r.1 (r.2 - r.1).toNat)) else none
def tupRg (r : Int × Int) : Option D := if rgOk r then some (.tuple (rngL r.1 (r.2 - r.1).toNat)) else none
theorem rgV_ints (i j : Int) : rgV i j = ((List.range (j - i).toNat).map fun (k : Nat) => i + (k : Int)).map V.int := by
  unfold rgV
  rw [List.map_map]; rfl
theorem rngL_ints (i : Int) (n : Nat) : rngL i n = ((List.range n).map fun (k : Nat) => i + (k : Int)).map PyData.int := by
  unfold rngL
  rw [List.map_map]; rfl
variable {tr : L2.St → Hp → (Int → Int → Hp → Prop) → Prop} {wr : Wp (Int × Int)} {fr : Op (Int × Int)}
theorem e_lstRg (hc : X.calm = true) (hg : Gl X "list") (hm : X.mg "list" = none) (hr : Rg X m a tr wr) (na : starEach [a] X.env = (false, eval a X.env) :: starEach [] X.env := by rfl) : E X m true (.Call (.Name "list" p) [a] [] pos) (tLstRg tr) (wB1 lstRg wr) := by
  refine ⟨pe_listRg hc hg hm hr.pr na, ?_⟩
  intro H0 Z0 σ H e P PW k Q S h q
  refine hr.snd H0 Z0 σ H e P PW _ _ S h fun i j e1 H1 he S1 h1 => ?_
  obtain ⟨z, hz, hk⟩ := h1
  have hz : (if rgOk (i, j) then some (PyData.list (rngL i (j - i).toNat)) else none) = some z := hz
  by_cases ho : rgOk (i, j)
  · rw [if_pos ho] at hz
    obtain rfl := Option.some.inj hz
    refine ⟨rgOk_ok ho, fun p np => q _ _ e1 _ (mf1 he (same_upd np)) ⟨p, _, rfl, rfl, ?_⟩ hk⟩
    rw [rgV_ints, rngL_ints]
    exact SR.lst (SR.intsP S1) (by simp) np
  · rw [if_neg ho] at hz; cases hz
theorem d_lstRg (hc : X.calm = true) (hg : Gl X "list") (hm : X.mg "list" = none) (hr : Rg X m a tr (lift fr)) (na : starEach [a] X.env = (false, eval a X.env) :: starEach [] X.env := by rfl) : E X m true (.Call (.Name "list" p) [a] [] pos) (tLstRg tr) (lift (oB1 lstRg fr)) := by rw [lift_B1]; exact e_lstRg hc hg hm hr na
/-- tuple(range(..)): known to its object -/
def tTupRgN (tr : L2.St → Hp → (Int → Int → Hp → Prop) → Prop) : TE := fun σ H Q => tr σ H fun i j H1 => RgOk i j ∧ NewT H1 Q (rgV i j)
theorem pe_tupRgN (hc : X.calm = true) (hg : Gl X "tuple") (hm : X.mg "tuple" = none) (he : PRg X a tr) (na : starEach [a] X.env = (false, eval a X.env) :: starEach [] X.env := by rfl) : PE X (.Call (.Name "tuple" p) [a] [] pos) (tTupRgN tr) := by
  refine ⟨fun pins s σ H Q I h => Call_ (ld_blt I hg hm boot_tuple (PyProof.Rows.callWith_type1 (args_cons (thn (he pins s σ H _ I h) fun x s1 hh => args_nil ?_) na) na))⟩
  obtain ⟨r, i, j, t, u, v, H1, rfl, hr, I1, ok, q⟩ := hh
  obtain ⟨b1, b2, b3, b4, b5⟩ := ok
  refine call_tuple_range (n := (j - i).toNat) (I1.ok.hd hc) hr (small_one b1 b2 b3 b4) (rangeSize_nat i j) b5 fun h' tk acc hk hi => ?_
  have I2 : Inv X pins σ H1 { s1 with heap := h', toks := tk } := I1.kept hk
  have r2 := new_end (t' := tk) I2 (vals_rg hi) (by rw [rgV_length, sizeLine_eq]; omega) q
  rw [show tupO acc.toList = { cls := .type "tuple", data := .seq acc } from by unfold tupO; rw [Array.toArray_toList]] at r2
  exact r2
theorem e_tupRg (hc : X.calm = true) (hg : Gl X "tuple") (hm : X.mg "tuple" = none) (hr : Rg X m a tr wr) (na : starEach [a] X.env = (false, eval a X.env) :: starEach [] X.env := by rfl) : E X m false (.Call (.Name "tuple" p) [a] [] pos) (tTupRgN tr) (wB1 tupRg wr) := by
  refine ⟨pe_tupRgN hc hg hm hr.pr na, ?_⟩
  intro H0 Z0 σ H e P PW k Q S h q
  refine hr.snd H0 Z0 σ H e P PW _ _ S h fun i j e1 H1 he S1 h1 => ?_
  obtain ⟨z, hz, hk⟩ := h1
  have hz : (if rgOk (i, j) then some (PyData.tuple (rngL i (j - i).toNat)) else none) = some z := hz
  by_cases ho : rgOk (i, j)
  · rw [if_pos ho] at hz
    obtain rfl := Option.some.inj hz
    refine ⟨rgOk_ok ho, fun p ob np hd => q _ _ e1 _ (mf1 he (same_upd np)) ?_ hk⟩
    rw [rgV_ints, rngL_ints]
    exact SR.tup (SR.intsP S1) (by simp) np hd
  · rw [if_neg ho] at hz; cases hz
theorem d_tupRg (hc : X.calm = true) (hg : Gl X "tuple") (hm : X.mg "tuple" = none) (hr : Rg X m a tr (lift fr)) (na : starEach [a] X.env = (false, eval a X.env) :: starEach [] X.env := by rfl) : E X m false (.Call (.Name "tuple" p) [a] [] pos) (tTupRgN tr) (lift (oB1 tupRg fr)) := by rw [lift_B1]; exact e_tupRg hc hg hm hr na
/-! ### len(set(x)), x a tuple of ints -/
def distinct : List Int → List Int
  | [] => []
  | n :: ns => if n ∈ distinct ns then distinct ns else n :: distinct ns
theorem mem_distinct : ∀ {ns : List Int} {k : Int}, k ∈ distinct ns ↔ k ∈ ns
  | [], k => Iff.rfl
  | n :: ns, k => by
    unfold distinct
    by_cases h : n ∈ distinct ns
    · rw [if_pos h, mem_distinct, List.mem_cons]
      refine ⟨.inr, fun z => z.elim (fun z => ?_) _root_.id⟩
      rw [z]; exact mem_distinct.mp h
    · rw [if_neg h, List.mem_cons, List.mem_cons, mem_distinct]
theorem nodup_distinct : ∀ ns : List Int, (distinct ns).Nodup
  | [] => List.nodup_nil
  | n :: ns => by
    unfold distinct
    by_cases h : n ∈ distinct ns
    · rw [if_pos h]; exact nodup_distinct ns
    · rw [if_neg h, List.nodup_cons]; exact ⟨h, nodup_distinct ns⟩
def tLenSetT (K : PySem.W.Frag) (ta : TE) : TE := fun σ H Q => ta σ H fun x H1 => ∃ (l : Addr) (ns : List Int), x = .ref l ∧ SqT K H1 l (ns.map V.int) ∧ ns.length ≤ 4000 ∧ Q (.int ((distinct ns).length : Nat)) H1
theorem pe_lenSetT (hg : Gl X "len") (hm : X.mg "len" = none) (hg2 : Gl X "set") (hm2 : X.mg "set" = none) (ha : PE X a ta) (hc : X.calm = true)
    (na : starEach [a] X.env = (false, eval a X.env) :: starEach [] X.env := by rfl) : PE X (.Call (.Name "len" p) [.Call (.Name "set" p2) [a] [] p3] [] pos) (tLenSetT X.K ta) := by
  refine ⟨fun pins s σ H Q I h => Call_ (ld_blt I hg hm boot_len (PyProof.Rows.callWith_builtin1 (args_cons ?_ rfl) rfl rfl))⟩
  refine Call_ (ld_blt I hg2 hm2 PyProof.Rows.boot_set (PyProof.Rows.callWith_type1 (args_cons (thn (ha.run pins s σ H _ I h) fun v s1 hh => args_nil ?_) na) na rfl))
  obtain ⟨w, H1, I1, r1, l, ns, rfl, hq, hl, q1⟩ := hh
  obtain rfl : v = Value.ref l := r1
  obtain ⟨its, r, pl, hz⟩ := I1.tuple hq
  refine call_set_tupI ns (I1.ok.hd hc) (show s1.heap.IsTuple l its.toArray from pl) (by simpa using RZ.intsAre_vals r) (by unfold scanBound; omega) fun h' tk n hS hn hk => args_nil ?_
  obtain ⟨ob, es, ep, t, ho, hex, hd, _, nd, hm, _, hf, hn', _⟩ := hS
  have I2 : Inv X pins σ H1 { s1 with heap := h', toks := tk } := I1.kept hk
  have pm : (distinct ns).Perm (es.toList.map keyOf) := (List.perm_ext_iff_of_nodup (nodup_distinct ns) nd).mpr fun k => by
    rw [mem_distinct, ← hm k, decide_eq_true_eq]
  have el : es.size = (distinct ns).length := by
    rw [pm.length_eq, List.length_map, Array.length_toList]
  exact call_len_set ho hex hd hf (by omega) ⟨.int (distinct ns).length, H1, I2.tok _, ⟨_, by rw [el]⟩, q1⟩
def lenSetF : D → Option D
  | .tuple ds => (intA ds).bind fun ns => if ns.length ≤ 4000 then some (.int ((distinct ns).length : Nat)) else none
  | _ => none
theorem d_lenSet (hg : Gl X "len") (hm : X.mg "len" = none) (hg2 : Gl X "set") (hm2 : X.mg "set" = none) (ha : E X m false a ta (lift fa)) (hc : X.calm = true)
    (na : starEach [a] X.env = (false, eval a X.env) :: starEach [] X.env := by rfl) : E X m false (.Call (.Name "len" p) [.Call (.Name "set" p2) [a] [] p3] [] pos) (tLenSetT X.K ta) (lift (oB1 lenSetF fa)) := by
  rw [lift_B1]
  generalize lift fa = wa at ha ⊢
  refine ⟨pe_lenSetT hg hm hg2 hm2 ha.pe hc na, ?_⟩
  intro H0 Z0 σ H e P PW k Q S h q
  refine ha.snd H0 Z0 σ H e P PW _ _ S h fun v d e1 H1 he S1 h1 => ?_
  obtain ⟨z, hz, hk⟩ := h1
  cases d with
  | tuple ds =>
    obtain ⟨ns, h2, h3⟩ := Option.bind_eq_some_iff.mp (show (intA ds).bind (fun ns => if ns.length ≤ 4000 then some (PyData.int ((distinct ns).length : Nat)) else none) = some z from hz)
    by_cases hl : ns.length ≤ 4000
    · rw [if_pos hl] at h3
      obtain rfl := Option.some.inj h3
      have S1 : SR X.K H0 Z0 σ H1 e1 ((v, .tuple ds) :: P) PW := S1
      obtain ⟨ad, vs, rfl, ht, l, S2⟩ := S1.openT
      refine ⟨ad, ns, rfl, ?_, hl, q _ _ e1 H1 he S1.tl.int hk⟩
      rw [← S2.ints l h2]
      exact ht.sqT
    · rw [if_neg hl] at h3; cases h3
  | _ => cases hz
/-! ### x.index(y) -/
def firstAt (d : D) : List D → Option Nat
  | [] => none
  | z :: zs => if PyData.eqv z d = true then some 0 else (firstAt d zs).map (· + 1)
theorem firstAt_ok {d : D} : ∀ {ds : List D} {j : Nat}, firstAt d ds = some j → (∃ z, ds[j]? = some z ∧ PyData.eqv z d = true) ∧ ∀ (m : Nat) (z' : D), m < j → ds[m]? = some z' → PyData.eqv z' d = false
  | [], _, h => by cases h
  | z :: zs, j, h => by
    unfold firstAt at h
    by_cases hz : PyData.eqv z d = true
    · rw [if_pos hz] at h
      obtain rfl := Option.some.inj h
      exact ⟨⟨z, rfl, hz⟩, fun m z' hm => (Nat.not_lt_zero m hm).elim⟩
    · rw [if_neg hz] at h
      obtain ⟨i, h1, rfl⟩ := Option.map_eq_some_iff.mp h
      obtain ⟨⟨w, h2, h3⟩, h4⟩ := firstAt_ok h1
      refine ⟨⟨w, by simpa using h2, h3⟩, fun m z' hm e => ?_⟩
      cases m with
      | zero =>
        obtain rfl : z = z' := by simpa using e
        simpa using hz
      | succ m => exact h4 m z' (by omega) (by simpa using e)
def indexF (s : Bool × List D) (d : D) : Option D := if SeqAt.shaped (.list s.2) = true ∧ SeqAt.shaped d = true then (firstAt d s.2).map fun j => .int (j : Nat) else none
/-- t.index(x) over data -/
def rIndexT (K : PySem.W.Frag) : V → List V → Hp → VK → Prop := fun x xs H Q => ∃ (ad : Addr) (ys : List V) (y : V) (d : D) (ds : List D) (j : Nat) (z : D), x = V.ref ad ∧ xs = [y] ∧ SqT K H ad ys ∧ DpAll K H ys ds ∧ Dp K H y d ∧
  SeqAt.shaped (.list ds) = true ∧ SeqAt.shaped d = true ∧ ds[j]? = some z ∧ PyData.eqv z d = true ∧ (∀ (m : Nat) (z' : D), m < j → ds[m]? = some z' → PyData.eqv z' d = false) ∧ Q (.int (j : Nat)) H
theorem mt_indexT (hu : X.A.units + 65 < cLine) : MtR X "tuple.index" (rIndexT X.K) := by
  intro pins s σ H x xs v us Q I rx rxs h
  obtain ⟨ad, ys, y, d, ds, j, z, rfl, rfl, hq, ha, hy, sl, sd, hz, hzj, hno, q⟩ := h
  obtain rfl : v = Value.ref ad := rx
  obtain ⟨u, rfl, ru⟩ := rxs.one
  obtain ⟨bs, rdy⟩ := Dp.reads I d y u hy ru
  have cl : PyData.canLayAll0 ds = true := by simpa [PyData.canLay0] using SeqAt.canLay_of_shaped sl
  have room : X.A.units + 1 + min (PyData.depthAll ds) d.depth < cLine := by
    have := SeqAt.depth_of_shaped sd
    have := Nat.min_le_right (PyData.depthAll ds) d.depth
    omega
  obtain ⟨its, rv, pl, hlen⟩ := I.tuple hq
  obtain ⟨⟨cls, dd, data, sls⟩, ho, hc, n, hdt⟩ := pl
  simp only at hc hdt
  subst hc hdt
  obtain ⟨as, rds⟩ := Dp.readsAll I ds _ its ha rv
  have hn : its.length = ds.length := SeqAt.ReadsAll.length ds its as rds
  have hmap : its.map (SeqAt.readOf s.heap) = ds := SeqAt.readsAll_map ds its as cl rds
  have hjd : j < ds.length := (List.getElem?_eq_some_iff.mp hz).1
  have hj : j < its.toArray.size := by simp; omega
  have look : ∀ (m : Nat) (hm : m < its.toArray.size) (w : D), ds[m]? = some w → SeqAt.readOf s.heap its.toArray[m] = w := fun m hm w hw => by
    have hml : m < its.length := by simpa using hm
    rw [← hmap, List.getElem?_map, List.getElem?_eq_getElem hml] at hw
    simpa using hw
  refine call_meets PySem.F.slot_tuple_index ⟨_, ho, rfl⟩ PySem.F.entry_tuple_index (PySem.F.args_tuple_index_2 _ _)
    (TI.tuple_indexAt ad its.toArray n dd sls u (fun w => PyData.eqv (SeqAt.readOf s.heap w) d) j hj ?_ fun m hm hmj => ?_) ⟨ho, SeqAt.items_eqAt (vs := its.toArray) (show ReadsAll s.heap its.toArray.toList ds as from rds) rdy cl (SeqAt.canLay_of_shaped sd) room, ⟨.int (j : Nat), H, I.tok _, ⟨_, rfl⟩, q⟩⟩
  · show PyData.eqv (SeqAt.readOf s.heap its.toArray[j]) d = true
    rw [look j hj z hz]; exact hzj
  · have hw : ds[m]? = some (ds[m]'(by omega)) := List.getElem?_eq_getElem (by omega)
    show PyData.eqv (SeqAt.readOf s.heap its.toArray[m]) d = false
    rw [look m hm _ hw]
    exact hno m _ hmj hw
/-- a method of a tuple that is known -/
def tBMT (K : PySem.W.Frag) (r : V → List V → Hp → VK → Prop) (to : TE) (t : TA) : TE := fun σ H Q => to σ H fun x H1 => (∃ ad xs, x = .ref ad ∧ TupOk K H1 ad xs) ∧ t σ H1 fun xs H2 => r x xs H2 Q
theorem pe_bmT {ob b : Expr} {id : String} {to : TE} {r : V → List V → Hp → VK → Prop} {apos : Pos} (slot : PySem.Slot "tuple" nm id) (hty : typeOf (.builtin id) = pure (.type "method_descriptor")) (hm : MtR X id r) (ho : PE X ob to) (ha : PA X (b :: es) tas)
    (hbase : attributeBase ob nm X.env (eval ob X.env) = eval ob X.env := by rfl)
    (hfew : ((backTo pos (starEach (b :: es) X.env)).all (fun x => !x.1) && (backToKw pos (keywordEach [] X.env)).all (fun x => x.1.isSome) && decide ((b :: es).length + ([] : List Keyword).length + (if ([] : List Keyword).isEmpty then 0 else 1) < 30)) = true := by rfl)
    (hline : (apos.endLine == pos.line) = true := by rfl) (hs : starEach (b :: es) X.env = (false, eval b X.env) :: starEach es X.env := by rfl) (hplain : (backTo pos (starEach es X.env)).any (·.1) = false := by rfl) :
    PE X (.Call (.Attribute ob nm apos) (b :: es) [] pos) (tBMT X.K r to tas) := by
  refine ⟨fun pins s σ H Q I h => wpAny_Call_method_late hbase hfew hline rfl (thn (ho.run pins s σ H _ I h) fun v s1 hh => ?_)⟩
  obtain ⟨x, H1, I1, r1, ⟨ad, xs, rfl, ht⟩, q1⟩ := hh
  have rv : v = Value.ref ad := r1
  subst rv
  have own : ∃ oo, s1.heap.get? ad = some oo ∧ oo.cls = .type "tuple" ∧ oo.dict = none := by
    rcases ht with ⟨oo, hf, hd⟩ | ⟨oo, its, n, hk, hc, hd, _⟩
    · obtain ⟨ho', _, _, _, hT⟩ := (show ObjOk X.prog X.w H1 s1.heap ad (.frz oo (.tup xs)) from I1.hok ad _ hf)
      obtain ⟨o2, h2, hc2, _⟩ := hT
      rw [ho'] at h2
      obtain rfl := Option.some.inj h2
      exact ⟨oo, ho', hc2, hd⟩
    · exact ⟨oo, I1.kIn ad oo hk, hc, hd⟩
  obtain ⟨oo, h1, h2, h3⟩ := own
  refine ⟨"tuple", id, PySem.F.plainAttrs_tuple, slot, hty, ⟨oo, h1, h2⟩, fun a e => by cases e; exact ⟨oo, h1, h3⟩, ?_⟩
  have hA := ha.run pos pins s1 σ H1 _ I1 q1
  rw [hs] at hA ⊢
  refine Calls.callWith_builtin (by show (false || (backTo pos (starEach es X.env)).any (·.1)) = false; rw [hplain] <;> rfl) (Calls.evalArgs_plain (thn hA fun us s2 hh => ?_))
  obtain ⟨vs, H2, I2, r2, q2⟩ := hh
  exact hm pins s2 σ H2 _ vs _ us Q I2 r1 r2 q2
/-- x.index(y), x a tuple (k = false), a list (k = true) -/
def kindQ (k : Bool) (q : QV) : Sto → Option Unit := fun e => (seqOf e q).bind fun s => if s.1 = k then some () else none
def wIdx (k : Bool) (wq : Wp QV) (wb : Wp D) : Wp D := Wp.bd wq fun q => Wp.bd (Wp.gt (kindQ k q)) fun _ => Wp.bd wb fun d => Wp.gt fun e => (seqOf e q).bind fun s => if s.1 = k then indexF s d else none
def oIdx (k : Bool) (wq : Op QV) (wb : Op D) : Op D := Op.bd wq fun q => Op.bd (Op.gt (kindQ k q)) fun _ => Op.bd wb fun d => Op.gt fun e => (seqOf e q).bind fun s => if s.1 = k then indexF s d else none
theorem lift_Idx (k : Bool) (f : Op QV) (g : Op D) : lift (oIdx k f g) = wIdx k (lift f) (lift g) := by simp only [oIdx, wIdx, lift_bd, lift_gt]
theorem idx_some {k : Bool} {s : Bool × List D} {d z : D} (h : (if s.1 = k then indexF s d else none) = some z) : s.1 = k ∧ SeqAt.shaped (.list s.2) = true ∧ SeqAt.shaped d = true ∧ ∃ j, firstAt d s.2 = some j ∧ z = .int (j : Nat) := by
  by_cases h1 : s.1 = k
  · rw [if_pos h1] at h
    unfold indexF at h
    by_cases h2 : SeqAt.shaped (.list s.2) = true ∧ SeqAt.shaped d = true
    · rw [if_pos h2] at h
      obtain ⟨j, h3, h4⟩ := Option.map_eq_some_iff.mp h
      exact ⟨h1, h2.1, h2.2, j, h3, h4.symm⟩
    · rw [if_neg h2] at h; cases h
  · rw [if_neg h1] at h; cases h
theorem kind_some {k : Bool} {q : QV} {e : Sto} {u : Unit} (h : kindQ k q e = some u) : ∃ ds, seqOf e q = some (k, ds) := by
  obtain ⟨⟨k', ds⟩, h1, h2⟩ := Option.bind_eq_some_iff.mp h
  by_cases hk : k' = k
  · exact ⟨ds, by rw [h1, hk]⟩
  · have h2 : (if k' = k then some () else none) = some u := h2
    rw [if_neg hk] at h2; cases h2
theorem SR.seqDp {v : V} {q : QV} {kd : Bool} {ds : List D} {R : List (V × D)} (S : SR K H0 Z0 σ H e (R ++ qP v q P) PW) (hq : qOk σ v q) (h : seqOf e q = some (kd, ds)) (c : SeqAt.shaped (.list ds) = true) :
    ∃ ad vs, v = .ref ad ∧ (kd = true → H ad = some (.lst vs)) ∧ (kd = false → TupOk K H ad vs) ∧ DpAll K H vs ds := by
  obtain ⟨ad, vs, rfl, h1, h2, l, S1⟩ := S.openQ hq h
  obtain ⟨Z, r⟩ := S1.rpA l
  exact ⟨ad, vs, rfl, h1, h2, RpA.dp ds vs r (by simpa [PyData.canLay0] using SeqAt.canLay_of_shaped c)⟩
theorem e_idxT {k : Nat} {apos : Pos} (hr : Room k X.A) (hq : Sq X m a ta wq) (hb : E X m false b tb wb)
    (hbase : attributeBase a "index" X.env (eval a X.env) = eval a X.env := by rfl)
    (hfew : ((backTo pos (starEach [b] X.env)).all (fun x => !x.1) && (backToKw pos (keywordEach [] X.env)).all (fun x => x.1.isSome) && decide ([b].length + ([] : List Keyword).length + (if ([] : List Keyword).isEmpty then 0 else 1) < 30)) = true := by rfl)
    (hline : (apos.endLine == pos.line) = true := by rfl) (hs : starEach [b] X.env = (false, eval b X.env) :: starEach [] X.env := by rfl) (hplain : (backTo pos (starEach [] X.env)).any (·.1) = false := by rfl) :
    E X m false (.Call (.Attribute a "index" apos) [b] [] pos) (tBMT X.K (rIndexT X.K) ta (tCons tb tNil)) (wIdx false wq wb) := by
  refine ⟨pe_bmT PySem.F.slot_tuple_index PySem.F.type_tuple_index (mt_indexT (units65 hr)) hq.pe (pa_cons hb.pe pa_nil hs) hbase hfew hline hs hplain, ?_⟩
  intro H0 Z0 σ H e P PW k Q S h q
  refine hq.snd H0 Z0 σ H e P PW _ _ S h fun v u e1 H1 he ho S1 h1 => ?_
  obtain ⟨_, hkd, h1⟩ := h1
  obtain ⟨ds0, hs0⟩ := kind_some hkd
  obtain ⟨ad, vs0, rfl, _, ht0, _, _⟩ := SR.openQ (R := []) S1 ho hs0
  refine ⟨⟨ad, vs0, rfl, ht0 rfl⟩, hb.snd H0 Z0 σ H1 e1 _ PW _ _ S1 h1 fun y d e2 H2 he2 S2 h2 => ?_⟩
  obtain ⟨z, hz, hk⟩ := h2
  obtain ⟨s, h3, h4⟩ := Option.bind_eq_some_iff.mp hz
  obtain ⟨kd, ds⟩ := s
  obtain ⟨rfl, sl, sd, j, hj, rfl⟩ := idx_some h4
  have S2 : SR X.K H0 Z0 σ H2 e2 ([(y, d)] ++ qP (.ref ad) u P) PW := S2
  obtain ⟨ad2, vs, e3, _, ht, dp⟩ := S2.seqDp ho h3 sl
  obtain rfl : ad = ad2 := by simpa using e3
  obtain ⟨⟨w, h5, h6⟩, h7⟩ := firstAt_ok hj
  exact ⟨ad, vs, y, d, ds, j, w, rfl, rfl, (ht rfl).sqT, dp, S2.dpP List.mem_cons_self sd, sl, sd, h5, h6, h7, q _ _ e2 H2 (mf he he2) (SR.int (S2.subP fun p hp => List.mem_cons_of_mem _ (qP_sub p hp))) hk⟩
theorem e_idxL {k : Nat} {apos : Pos} (hr : Room k X.A) (hq : Sq X m a ta wq) (hb : E X m false b tb wb)
    (hbase : attributeBase a "index" X.env (eval a X.env) = eval a X.env := by rfl)
    (hfew : ((backTo pos (starEach [b] X.env)).all (fun x => !x.1) && (backToKw pos (keywordEach [] X.env)).all (fun x => x.1.isSome) && decide ([b].length + ([] : List Keyword).length + (if ([] : List Keyword).isEmpty then 0 else 1) < 30)) = true := by rfl)
    (hline : (apos.endLine == pos.line) = true := by rfl) (hs : starEach [b] X.env = (false, eval b X.env) :: starEach [] X.env := by rfl) (hplain : (backTo pos (starEach [] X.env)).any (·.1) = false := by rfl) :
    E X m false (.Call (.Attribute a "index" apos) [b] [] pos) (tBM X.K "list" (rIndexD X.K) ta (tCons tb tNil)) (wIdx true wq wb) := by
  refine ⟨pe_bm PySem.F.plainAttrs_list PySem.F.slot_list_index PySem.F.type_list_index (mt_indexD (units65 hr)) hq.pe (pa_cons hb.pe pa_nil hs) hbase hfew hline hs hplain, ?_⟩
  intro H0 Z0 σ H e P PW k Q S h q
  refine hq.snd H0 Z0 σ H e P PW _ _ S h fun v u e1 H1 he ho S1 h1 => ?_
  obtain ⟨_, hkd, h1⟩ := h1
  obtain ⟨ds0, hs0⟩ := kind_some hkd
  obtain ⟨ad, vs0, rfl, hl0, _, _, _⟩ := SR.openQ (R := []) S1 ho hs0
  refine ⟨tyL (hl0 rfl), hb.snd H0 Z0 σ H1 e1 _ PW _ _ S1 h1 fun y d e2 H2 he2 S2 h2 => ?_⟩
  obtain ⟨z, hz, hk⟩ := h2
  obtain ⟨s, h3, h4⟩ := Option.bind_eq_some_iff.mp hz
  obtain ⟨kd, ds⟩ := s
  obtain ⟨rfl, sl, sd, j, hj, rfl⟩ := idx_some h4
  have S2 : SR X.K H0 Z0 σ H2 e2 ([(y, d)] ++ qP (.ref ad) u P) PW := S2
  obtain ⟨ad2, vs, e3, hl, _, dp⟩ := S2.seqDp ho h3 sl
  obtain rfl : ad = ad2 := by simpa using e3
  obtain ⟨⟨w, h5, h6⟩, h7⟩ := firstAt_ok hj
  exact ⟨ad, y, d, ds, j, w, rfl, rfl, .lst (SqL.of (hl rfl)) dp, S2.dpP List.mem_cons_self sd, sl, sd, h5, h6, h7, q _ _ e2 H2 (mf he he2) (SR.int (S2.subP fun p hp => List.mem_cons_of_mem _ (qP_sub p hp))) hk⟩
theorem d_idxT {k : Nat} {apos : Pos} (hr : Room k X.A) (hq : Sq X m a ta (lift fq)) (hb : E X m false b tb (lift fb))
    (hbase : attributeBase a "index" X.env (eval a X.env) = eval a X.env := by rfl)
    (hfew : ((backTo pos (starEach [b] X.env)).all (fun x => !x.1) && (backToKw pos (keywordEach [] X.env)).all (fun x => x.1.isSome) && decide ([b].length + ([] : List Keyword).length + (if ([] : List Keyword).isEmpty then 0 else 1) < 30)) = true := by rfl)
    (hline : (apos.endLine == pos.line) = true := by rfl) (hs : starEach [b] X.env = (false, eval b X.env) :: starEach [] X.env := by rfl) (hplain : (backTo pos (starEach [] X.env)).any (·.1) = false := by rfl) :
    E X m false (.Call (.Attribute a "index" apos) [b] [] pos) (tBMT X.K (rIndexT X.K) ta (tCons tb tNil)) (lift (oIdx false fq fb)) := by rw [lift_Idx]; exact e_idxT hr hq hb hbase hfew hline hs hplain
theorem d_idxL {k : Nat} {apos : Pos} (hr : Room k X.A) (hq : Sq X m a ta (lift fq)) (hb : E X m false b tb (lift fb))
    (hbase : attributeBase a "index" X.env (eval a X.env) = eval a X.env := by rfl)
    (hfew : ((backTo pos (starEach [b] X.env)).all (fun x => !x.1) && (backToKw pos (keywordEach [] X.env)).all (fun x => x.1.isSome) && decide ([b].length + ([] : List Keyword).length + (if ([] : List Keyword).isEmpty then 0 else 1) < 30)) = true := by rfl)
    (hline : (apos.endLine == pos.line) = true := by rfl) (hs : starEach [b] X.env = (false, eval b X.env) :: starEach [] X.env := by rfl) (hplain : (backTo pos (starEach [] X.env)).any (·.1) = false := by rfl) :
    E X m false (.Call (.Attribute a "index" apos) [b] [] pos) (tBM X.K "list" (rIndexD X.K) ta (tCons tb tNil)) (lift (oIdx true fq fb)) := by rw [lift_Idx]; exact e_idxL hr hq hb hbase hfew hline hs hplain
/-! ### zip -/
def zipQ : Bool × List D → Bool × List D → Option (List D) := fun s t => if s.1 = t.1 then some ((s.2.zip t.2).map fun p => pairD [p.1, p.2]) else none
theorem SR.same2 {v : V} {d : D} (r : ∀ Z, Rp K H Z v d) (S : SR K H0 Z0 σ H e P PW) : SR K H0 Z0 σ H e ((v, d) :: P) PW := S.addP r
theorem pairs_len {xs ys : List D} : ((xs.zip ys).map fun p => pairD [p.1, p.2]).length = min xs.length ys.length := by rw [List.length_map, List.length_zip]
theorem pair_new {x y : V} {c d : D} {t : Addr} (S : SR K H0 Z0 σ H e ((x, c) :: (y, d) :: P) PW) (nt : H t = none) : SR K H0 Z0 σ (upd H t (.tup [x, y])) e ((.ref t, pairD [c, d]) :: P) PW := by
  have S1 := S.grow (same_upd (o := .tup [x, y]) nt)
  obtain ⟨Z, F, W, s, S1⟩ := S1
  have r1 := S1.fz (x, c) List.mem_cons_self
  have r2 := S1.fz (y, d) (List.mem_cons_of_mem _ List.mem_cons_self)
  exact ⟨Z, F, W, s, (S1.sub (fun p hp => List.mem_cons_of_mem _ (List.mem_cons_of_mem _ hp)) (fun _ h => h) S1.nd).addP (.prs (.inl (.inl upd_same)) (.cons r1 (.cons r2 .nil)))⟩
theorem trn_zipL {ad bd : Addr} {xs ys : List D} : Trn K σ (Itz K ad bd) [(.ref ad, .list xs), (.ref bd, .list ys)] none ((xs.zip ys).map fun p => pairD [p.1, p.2]) := by
  intro H0 Z0 σ' H e P PW S _
  have S0 : SR K H0 Z0 σ' H e ((.ref ad, .list xs) :: (.ref bd, .list ys) :: P) PW := S
  obtain ⟨a1, vs, e1, h1, l1, _⟩ := S0.openL
  obtain rfl : ad = a1 := by simpa using e1
  obtain ⟨b1, us, e2, h2, l2, _⟩ := S0.tl.openL
  obtain rfl : bd = b1 := by simpa using e2
  refine ⟨fun i hi => ⟨vs, us, SqL.of h1, SqL.of h2, ?_⟩, fun i d hd => ?_⟩
  · rw [pairs_len] at hi
    omega
  · rw [List.getElem?_map] at hd
    obtain ⟨⟨c, c2⟩, h3, rfl⟩ := Option.map_eq_some_iff.mp hd
    rw [List.getElem?_zip_eq_some] at h3
    obtain ⟨Z, F, W, s, S1⟩ := id S0
    have ra := S1.fz (.ref ad, .list xs) List.mem_cons_self
    have rb := S1.fz (.ref bd, .list ys) (List.mem_cons_of_mem _ List.mem_cons_self)
    cases ra with
    | lst ha _ ra =>
      rw [h1] at ha
      cases ha
      cases rb with
      | lst hb _ rb =>
        rw [h2] at hb
        cases hb
        obtain ⟨x, hx, rx⟩ := ra.get h3.1
        obtain ⟨y, hy, ry⟩ := rb.get h3.2
        refine ⟨⟨vs, us, x, y, SqL.of h1, SqL.of h2, hx, hy⟩, fun v H' hyl => ?_⟩
        obtain ⟨t, x', y', rfl, nt, rfl, g1, g2⟩ := hyl
        have ex : x = x' := Option.some.inj (hx.symm.trans (g1 vs (SqL.of h1)))
        have ey : y = y' := Option.some.inj (hy.symm.trans (g2 us (SqL.of h2)))
        subst ex ey
        exact ⟨same_upd nt, pair_new (P := [(.ref ad, .list xs), (.ref bd, .list ys)] ++ P) ⟨Z, F, W, s, (S1.addP ry).addP rx⟩ nt⟩
theorem trn_zipT {ad bd : Addr} {xs ys : List D} : Trn K σ (RZ.ItzT K ad bd) [(.ref ad, .tuple xs), (.ref bd, .tuple ys)] none ((xs.zip ys).map fun p => pairD [p.1, p.2]) := by
  intro H0 Z0 σ' H e P PW S _
  have S0 : SR K H0 Z0 σ' H e ((.ref ad, .tuple xs) :: (.ref bd, .tuple ys) :: P) PW := S
  obtain ⟨Z, F, W, s, S1⟩ := id S0
  have ra := S1.fz (.ref ad, .tuple xs) List.mem_cons_self
  have rb := S1.fz (.ref bd, .tuple ys) (List.mem_cons_of_mem _ List.mem_cons_self)
  cases ra with
  | @tup _ vs _ ha ra =>
    cases rb with
    | @tup _ us _ hb rb =>
      have l1 := ra.length
      have l2 := rb.length
      refine ⟨fun i hi => ⟨vs, us, ha.sqT, hb.sqT, ?_⟩, fun i d hd => ?_⟩
      · rw [pairs_len] at hi
        omega
      · rw [List.getElem?_map] at hd
        obtain ⟨⟨c, c2⟩, h3, rfl⟩ := Option.map_eq_some_iff.mp hd
        rw [List.getElem?_zip_eq_some] at h3
        obtain ⟨x, hx, rx⟩ := ra.get h3.1
        obtain ⟨y, hy, ry⟩ := rb.get h3.2
        refine ⟨⟨vs, us, x, y, ha.sqT, hb.sqT, hx, hy⟩, fun v H' hyl => ?_⟩
        obtain ⟨t, x', y', rfl, nt, rfl, g1, g2⟩ := hyl
        have ex : x = x' := Option.some.inj (hx.symm.trans (g1 vs ha.sqT))
        have ey : y = y' := Option.some.inj (hy.symm.trans (g2 us hb.sqT))
        subst ex ey
        exact ⟨same_upd nt, pair_new (P := [(.ref ad, .tuple xs), (.ref bd, .tuple ys)] ++ P) ⟨Z, F, W, s, (S1.addP ry).addP rx⟩ nt⟩
def zipF : D → D → Option (List D)
  | .list xs, .list ys => some ((xs.zip ys).map fun p => pairD [p.1, p.2])
  | .tuple xs, .tuple ys => some ((xs.zip ys).map fun p => pairD [p.1, p.2])
  | _, _ => none
theorem i_zip {elts : List Expr} {kk : Nat} {tpos : Pos} (hg : Gl X "zip") (hm : X.mg "zip" = none) (ha : E X m false a ta wa) (hb : E X m false b tb wb)
    (hs : starEach [a, b] X.env = (false, eval a X.env) :: starEach [b] X.env := by rfl) (hs2 : starEach [b] X.env = (false, eval b X.env) :: starEach [] X.env := by rfl) (hpl : (backTo pos (starEach [b] X.env)).any (·.1) = false := by rfl) :
    Vl.Itr X m none (.Tuple elts kk tpos) (.Call (.Name "zip" p) [a, b] [] pos) (RZ.iZipA X.K (tCons ta (tCons tb tNil))) (wB2 zipF wa wb) := by
  refine ⟨RZ.pi_zipA hg hm (pa_cons ha.pe (pa_cons hb.pe pa_nil hs2) hs) hs hpl, ?_⟩
  intro H0 Z0 σ H e P PW k R S h q
  refine ha.snd H0 Z0 σ H e P PW _ _ S h fun v d e1 H1 he S1 h1 => ?_
  refine hb.snd H0 Z0 σ H1 e1 _ PW _ _ S1 h1 fun u d2 e2 H2 he2 S2 h2 => ?_
  obtain ⟨z, hz, hk⟩ := h2
  have S2 : SR X.K H0 Z0 σ H2 e2 ((u, d2) :: (v, d) :: P) PW := S2
  cases d with
  | list xs =>
    cases d2 with
    | list ys =>
      obtain rfl := Option.some.inj (show some _ = some z from hz)
      obtain ⟨ad, vs, rfl, h3, _, _⟩ := S2.tl.openL
      obtain ⟨bd, us, rfl, h4, _, _⟩ := S2.openL
      exact ⟨ad, bd, vs, us, rfl, .inl ⟨SqL.of h3, SqL.of h4, q _ [(.ref ad, .list xs), (.ref bd, .list ys)] _ e2 H2 (mf he he2) S2.swap (fun i z => nomatch z) trn_zipL hk⟩⟩
    | _ => cases hz
  | tuple xs =>
    cases d2 with
    | tuple ys =>
      obtain rfl := Option.some.inj (show some _ = some z from hz)
      obtain ⟨ad, vs, rfl, h3, _, _⟩ := S2.tl.openT
      obtain ⟨bd, us, rfl, h4, _, _⟩ := S2.openT
      exact ⟨ad, bd, vs, us, rfl, .inr ⟨h3.sqT, h4.sqT, q _ [(.ref ad, .tuple xs), (.ref bd, .tuple ys)] _ e2 H2 (mf he he2) S2.swap (fun i z => nomatch z) trn_zipT hk⟩⟩
    | _ => cases hz
  | _ => cases hz
theorem di_zip {elts : List Expr} {kk : Nat} {tpos : Pos} (hg : Gl X "zip") (hm : X.mg "zip" = none) (ha : E X m false a ta (lift fa)) (hb : E X m false b tb (lift fb))
    (hs : starEach [a, b] X.env = (false, eval a X.env) :: starEach [b] X.env := by rfl) (hs2 : starEach [b] X.env = (false, eval b X.env) :: starEach [] X.env := by rfl) (hpl : (backTo pos (starEach [b] X.env)).any (·.1) = false := by rfl) :
    Vl.Itr X m none (.Tuple elts kk tpos) (.Call (.Name "zip" p) [a, b] [] pos) (RZ.iZipA X.K (tCons ta (tCons tb tNil))) (lift (oB2 zipF fa fb)) := by rw [lift_B2]; exact i_zip hg hm ha hb hs hs2 hpl
/-! ### enumerate, a list -/
def enumL : Nat → List D → List D
  | _, [] => []
  | n, d :: ds => pairD [.int n, d] :: enumL (n + 1) ds
theorem enumL_len : ∀ (n : Nat) (ds : List D), (enumL n ds).length = ds.length
  | _, [] => rfl
  | n, _ :: ds => by
    show (enumL (n + 1) ds).length + 1 = ds.length + 1
    rw [enumL_len]
theorem enumL_at : ∀ (n : Nat) (ds : List D) (i : Nat), (enumL n ds)[i]? = (ds[i]?).map fun d => pairD [.int ((n + i : Nat) : Int), d]
  | _, [], i => by simp [enumL]
  | n, d :: ds, 0 => by simp [enumL]
  | n, d :: ds, i + 1 => by
    have := enumL_at (n + 1) ds i
    simp only [enumL, List.getElem?_cons_succ]
    rw [this]
    have e : n + 1 + i = n + (i + 1) := by omega
    rw [e]
theorem trn_enum {ad : Addr} {xs : List D} : Trn K σ (Ite K ad) [(.ref ad, .list xs)] none (enumL 0 xs) := by
  intro H0 Z0 σ' H e P PW S _
  have S0 : SR K H0 Z0 σ' H e ((.ref ad, .list xs) :: P) PW := S
  obtain ⟨a1, vs, e1, h1, l1, S1⟩ := S0.openL
  obtain rfl : ad = a1 := by simpa using e1
  refine ⟨fun i hi => ⟨vs, SqL.of h1, by rw [enumL_len] at hi; omega⟩, fun i d hd => ?_⟩
  rw [enumL_at] at hd
  obtain ⟨c, h2, rfl⟩ := Option.map_eq_some_iff.mp hd
  obtain ⟨Z, F, W, s, S2⟩ := id S0
  have ra := S2.fz (.ref ad, .list xs) List.mem_cons_self
  cases ra with
  | lst ha _ ra =>
    rw [h1] at ha
    cases ha
    obtain ⟨x, hx, rx⟩ := ra.get h2
    refine ⟨⟨vs, x, SqL.of h1, hx⟩, fun v H' hy => ?_⟩
    obtain ⟨t, x', rfl, nt, rfl, g⟩ := hy
    have ex : x = x' := Option.some.inj (hx.symm.trans (g vs (SqL.of h1)))
    subst ex
    rw [Nat.zero_add]
    exact ⟨same_upd nt, pair_new (P := [(.ref ad, .list xs)] ++ P) ⟨Z, F, W, s, (S2.addP rx).addP (.int _)⟩ nt⟩
def enumF : D → Option (List D)
  | .list xs => some (enumL 0 xs)
  | _ => none
theorem i_enum {elts : List Expr} {kk : Nat} {tpos : Pos} (hg : Gl X "enumerate") (hm : X.mg "enumerate" = none) (ha : E X m false a ta wa) (hs : starEach [a] X.env = [(false, eval a X.env)] := by rfl) :
    Vl.Itr X m none (.Tuple elts kk tpos) (.Call (.Name "enumerate" p) [a] [] pos) (iEnum X.K (tCons ta tNil)) (wB1 enumF wa) := by
  refine ⟨pi_enum hg hm (pa_cons ha.pe pa_nil hs) hs, ?_⟩
  intro H0 Z0 σ H e P PW k R S h q
  refine ha.snd H0 Z0 σ H e P PW _ _ S h fun v d e1 H1 he S1 h1 => ?_
  obtain ⟨z, hz, hk⟩ := h1
  have S1 : SR X.K H0 Z0 σ H1 e1 ((v, d) :: P) PW := S1
  cases d with
  | list xs =>
    obtain rfl := Option.some.inj (show some _ = some z from hz)
    obtain ⟨ad, vs, rfl, h3, _, _⟩ := S1.openL
    exact ⟨ad, vs, rfl, SqL.of h3, q _ [(.ref ad, .list xs)] _ e1 H1 he S1 (fun i z => nomatch z) trn_enum hk⟩
  | _ => cases hz
theorem di_enum {elts : List Expr} {kk : Nat} {tpos : Pos} (hg : Gl X "enumerate") (hm : X.mg "enumerate" = none) (ha : E X m false a ta (lift fa)) (hs : starEach [a] X.env = [(false, eval a X.env)] := by rfl) :
    Vl.Itr X m none (.Tuple elts kk tpos) (.Call (.Name "enumerate" p) [a] [] pos) (iEnum X.K (tCons ta tNil)) (lift (oB1 enumF fa)) := by rw [lift_B1]; exact i_enum hg hm ha hs
end
end Vl
/-! The value layer, 18: arguments bound; the law's end. -/
namespace Vl
open PySem PySem.Spec PyProof.Rows L2
section
variable {P : Program} {w : World} {K : PySem.W.Frag} {mg : Str → Option Value} {base : Heap} {x qual : Str} {params : Arguments} {body : List Stmt} {scope : Scope} {dvs : List V} {kws : List (Str × V)} {f : Addr} {fd : FuncData} {ps : List Str}
/-- a call of a def without defaults -/
theorem kb0 (F : FunD K x qual params body scope [] [] f fd) (n : Nat) (ks : List Str) (pm : List Nat)
    (h : ∀ (doc pmv : Value) (an : Option Addr) (cdv ct kV : Value) (us ws : List Value), us.length = n → ws.length = ks.length → bindArgs (PySem.W.fnOf x qual params body scope .none kV doc pmv an cdv ct) ⟨us, ks.zip ws⟩ = pure (ps.zip (pick pm (us ++ ws ++ [])))) :
    KB K fd ps n ks [] pm := by
  obtain ⟨oc, od, dV, kV, doc, pmv, an, cdv, ct, osl, rfl, lk, hcd, hD, _⟩ := F.ex
  rcases hD with ⟨_, rfl⟩ | ⟨e, _⟩
  · exact ⟨[], .nil, fun s us ws _ hu hw => .of_eq (h doc pmv an cdv ct kV us ws hu hw)⟩
  · exact absurd rfl e
/-- .. with defaults -/
theorem kb1 (F : FunD K x qual params body scope dvs [] f fd) (n : Nat) (ks : List Str) (pm : List Nat) (hd : dvs ≠ [])
    (h : ∀ (T : Addr) (doc pmv : Value) (an : Option Addr) (cdv ct kV : Value) (us its ws : List Value), us.length = n → its.length = dvs.length → ws.length = ks.length →
      ∃ k, bindArgs (PySem.W.fnOf x qual params body scope (.ref T) kV doc pmv an cdv ct) ⟨us, ks.zip ws⟩ = seqItems? (.ref T) >>= k ∧ k (some its.toArray) = pure (ps.zip (pick pm (us ++ ws ++ its)))) :
    KB K fd ps n ks dvs pm := by
  obtain ⟨oc, od, dV, kV, doc, pmv, an, cdv, ct, osl, rfl, lk, hcd, hD, _⟩ := F.ex
  rcases hD with ⟨e, _⟩ | ⟨_, T, o, its, m, rfl, lT, oT, rT⟩
  · exact absurd e hd
  · refine ⟨its, rT, fun s us ws KI hu hw => ?_⟩
    obtain ⟨k, e1, e2⟩ := h T doc pmv an cdv ct kV us its ws hu rT.length.symm hw
    exact BindsTo.of_looks fun M => by rw [e1]; exact looks_items KI lT oT (.of_pure e2)
end
/-! ### the law's end -/
/-- the script alone is told, if it is none of the module's -/
def OnlyS (K : PySem.W.Frag) (H : Hp) (a : Addr) (ob : Obj) (ns : List Int) : Prop := (∀ b, H b = none) ∧ (∃ o, K.lookup a = some o) ∨ (K.lookup a = none ∧ H a = some (.frz ob (.lst (ns.map V.int))) ∧ ∀ b, b ≠ a → H b = none)
/-- behind the top the law's def keeps its promise -/
theorem law_run {P : Program} {w : World} {K : PySem.W.Frag} {mg mb : Str → Option Value} {k : Nat} {fa a : Addr} {fd : FuncData} {x : Str} {fw : Fw} {s : Shared} {us : List Value} {ns : List Int}
    (hK : K.In s.heap) (hg : s.heap.Ns mainGlobals mg) (hm : s.heap.Ns builtinsNs mb) (hbb : ∀ x : Str, x ≠ "__name__" → mb x = bootBuiltins x) (hlim : s.heap.NoLimit) (hgen : s.gens = #[])
    (ha : s.heap.get? a = some { cls := .type "list", data := .seq us.toArray }) (hi : IntsAre us ns) (hl : ns.length ≤ sizeLine) (hr : Room k callerA)
    (F : ∀ base : Heap, K.In base → base.Ns mainGlobals mg → FnG P w K mg base k fa fd [x] (spV K false 1 fw)) (hb : ∀ (s : Shared) (u : Value), BindsTo s fd ⟨[u], []⟩ [(x, u)])
    (hfw : fw [scrD ns] fun d => d = .bool true) :
    codeAny (model P w) callerA (.call (.ref fa) ⟨[.ref a], []⟩) (fun r s' => r = .ok (.ret (.bool true)) ∧ OldK s.heap s'.heap ∧ s'.os = s.os ∧ AllBare s'.gens) s := by
  have rv : Vals (ns.map V.int) us := L2.vals_ints hi
  have hlu : us.length = ns.length := hi.length
  -- from a heap that tells the script alone
  have main : ∀ (H : Hp) (ob : Obj), s.heap.get? a = some ob → OnlyS K H a ob ns → ScrOk K H a ns → HOk P w H s.heap →
      codeAny (model P w) callerA (.call (.ref fa) ⟨[.ref a], []⟩) (fun r s' => r = .ok (.ret (.bool true)) ∧ OldK s.heap s'.heap ∧ s'.os = s.os ∧ AllBare s'.gens) s := by
    intro H ob hob hO hS hok
    have off : ∀ b, b ≠ a → H b = none := fun b n => hO.elim (fun z => z.1 b) fun z => z.2.2 b n
    have keep : ∀ {b : Addr} {o : Obj} {es : Array DictEntry} {ep : Nat}, s.heap.get? b = some o → o.data = .dict es ep → (hidT s.heap H).get? b = some o := fun {b o es ep} e hd => hidT_get e (off b fun z => by
      rw [z, ha] at e
      cases e
      cases (show Data.seq us.toArray _ = Data.dict es ep from hd))
    have ns' : ∀ {b : Addr} {m : Str → Option Value}, s.heap.Ns b m → (hidT s.heap H).Ns b m := fun {b m} ⟨o, es, ep, e, d, r⟩ => ⟨o, es, ep, keep e d, d, r⟩
    have kin : K.In (hidT s.heap H) := fun b o e => hidT_get (hK b o e) (by
      rcases hO with z | ⟨z, _, _⟩
      · exact z.1 b
      · exact off b fun q => by rw [q, z] at e; cases e)
    obtain ⟨mc, c1, c2⟩ := hlim
    have env : Env0 P w K mg (hidT s.heap H) callerA [] s H := ⟨rfl, ⟨kin, ns' hg, ⟨mb, ns' hm, hbb⟩, ⟨mc, ns' c1, c2⟩⟩, fun b o e => of_hidT e, Nat.le_of_eq (hidT_size _ _), trivial, (fun b z => nomatch (show b ∈ ([] : List Addr) from z)), hok, .of_eq hgen⟩
    have prom : spV K false 1 fw [.ref a] H (fun v _ => v = .bl true) E0 := ⟨rfl, [scrD ns], _, fun _ => False, .cons (.scr hS) .nil, fun _ z => z.elim, hfw, fun v d H' hf hd => by
      subst hd
      obtain ⟨_, _, _, _, r⟩ := hf
      cases r; rfl⟩
    refine codeAny_mono ((F _ kin (ns' hg)).run callerA [] s H ⟨[.ref a], []⟩ [.ref a] [.ref a] _ rfl hr env (hb s (.ref a)) (.cons rfl .nil) prom) fun r s' q => ?_
    cases r with
    | error e => cases q
    | ok fl =>
      cases fl with
      | ret u =>
        obtain ⟨v, H', hos, hba, un, hok', r', hv⟩ := q
        have hv : v = .bl true := hv
        subst hv
        obtain rfl : u = Value.bool true := r'
        refine ⟨rfl, OldK.of_keep fun b o e => ?_, hos, hba⟩
        cases hb : H b with
        | none => exact un.keep b o e hb (fun z => nomatch (show b ∈ ([] : List Addr) from z)) (fun z => nomatch (show b ∈ ([] : List Addr) from z))
        | some u =>
          have hba : b = a := Classical.byContradiction fun z => by rw [off b z] at hb; cases hb
          rcases hO with z | ⟨_, z, _⟩
          · rw [z.1 b] at hb; cases hb
          · subst hba
            obtain ⟨g1, _⟩ := hok' b _ (un.frzs b ob _ z)
            rw [hob] at e
            cases e
            exact g1
      | _ => cases q
  cases hk : K.lookup a with
  | some o =>
    have e := hK a o hk
    rw [ha] at e
    cases e
    exact main (fun _ => none) _ ha (.inl ⟨fun _ => rfl, _, hk⟩) (.inr ⟨_, us.toArray, _, hk, rfl, rfl, rfl, by rw [List.size_toArray, hlu]; exact hl, by simpa using rv⟩) fun b u z => nomatch (show (none : Option HO) = some u from z)
  | none =>
    have hH : ∀ b, (upd (fun _ => none) a (.frz { cls := .type "list", data := .seq us.toArray } (.lst (ns.map V.int))) : Hp) b = if b = a then some (.frz { cls := .type "list", data := .seq us.toArray } (.lst (ns.map V.int))) else none := fun b => by
      by_cases hb : b = a
      · rw [hb, upd_same, if_pos rfl]
      · rw [upd_ne hb, if_neg hb]
    refine main (upd (fun _ => none) a (.frz { cls := .type "list", data := .seq us.toArray } (.lst (ns.map V.int)))) _ ha (.inr ⟨hk, upd_same, fun b hb => upd_ne hb⟩) (.inl ⟨_, upd_same⟩) fun b u z => ?_
    by_cases hb : b = a
    · rw [hb, upd_same] at z
      cases z
      rw [hb]
      exact ⟨ha, by rw [List.length_map]; exact hl, us, _, rv, ha⟩
    · rw [upd_ne hb] at z; cases z
theorem lawV {l : PySem.W.OpenLaw} {n k : Nat} {q : Program} {loose : List Str} {XP : (Str → Option Value) → Heap → Prop} {YP : World → Heap → Prop} {d : DefRec} {x : Str} {fw : Fw} (hn : l.most = some n) (hn2 : n ≤ sizeLine) (hdf : d.params.defaults = []) (hr : Room k callerA)
    (hfw : ∀ ns : List Int, ns.length ≤ n → fw [scrD ns] fun d => d = .bool true)
    (F : ∀ (w : World) (mg : Str → Option Value) (fa : Addr) (h : Heap), YP w h → h.Ns mainGlobals mg → mg d.name = some (.ref fa) →
      ∃ (K : PySem.W.Frag) (fd : FuncData), K.In h ∧ (∀ (s : Shared) (u : Value), BindsTo s fd ⟨[u], []⟩ [(x, u)]) ∧ ∀ base : Heap, K.In base → base.Ns mainGlobals mg → FnG l.prog w K mg base k fa fd [x] (spV K false 1 fw)) :
    PySem.W.WalkO q loose XP YP l.row.toRowW d [] (fun f vs => PySem.call f vs) := by
  refine Att.attach_call hn hdf fun w s₀ s₁ mg mb fa o pm cd doc a vs ns G Y ho hd hcd hmg hobj hints hlen hg => ?_
  obtain ⟨K, fd, hK, hb, hF⟩ := F w mg fa _ Y G.T.g hmg
  exact law_run hK G.T.g G.T.b G.T.builtins G.T.nolimit hg hobj hints (Nat.le_trans hlen hn2) hr hF hb (hfw ns hlen)
end Vl
/-! The value layer, 19: more forms of the rules. -/
namespace Vl
open PySem PySem.Spec PyProof.Rows L2
section
variable {K : PySem.W.Frag} {H H' H0 : Hp} {Z Z' Z0 : Addr → Prop} {σ σ' : L2.St} {e e' : Sto} {P P' : List (V × D)} {PW : List (Addr × List D)}
variable {X : Cx} {m m2 o o2 : Bool} {a b c : Expr} {es ifs : List Expr} {ta tb tc te : TE} {tas : TA} {wa wb we : Wp D} {fa fb fe : Op D} {ws : Wp (List D)} {fs : Op (List D)} {pos p p2 p3 spos : Pos} {x y z nm : Str} {wq wq2 : Wp QV} {fq fq2 : Op QV}
variable {wi : TI} {tt : TT} {wt : Wp Bool} {ft : Op Bool} {tg elt iter : Expr} {q : Option Nat} {scope : Scope} {own : List (Str × Nat)} {is : List Nat} {g : TG} {γ : D → Sto → Option Sto}
theorem e_app {i : Nat} {apos : Pos} (ha : As X true [a] tas ws) (hN : X.N[i]? = some x := by rfl) (hv : Vis X.env.scope x := by first | exact Or.inl rfl | exact Or.inr (Or.inl rfl) | exact Or.inr (Or.inr rfl)) (hd : (x == ("__debug__" : Str)) = false := by decide)
    (hcd : (x == ("__classdict__" : Str)) = false := by decide) (hbase : attributeBase (.Name x p) "append" X.env (eval (.Name x p) X.env) = eval (.Name x p) X.env := by rfl)
    (hfew : ((backTo pos (starEach [a] X.env)).all (fun x => !x.1) && (backToKw pos (keywordEach [] X.env)).all (fun x => x.1.isSome) && decide ([a].length + ([] : List Keyword).length + (if ([] : List Keyword).isEmpty then 0 else 1) < 30)) = true := by rfl)
    (hline : (apos.endLine == pos.line) = true := by rfl) (hs : starEach [a] X.env = (false, eval a X.env) :: starEach [] X.env := by rfl) (hplain : (backTo pos (starEach [] X.env)).any (·.1) = false := by rfl) :
    E X true false (.Call (.Attribute (.Name x p) "append" apos) [a] [] pos) (tBM X.K "list" rAppend (tVar i) tas) (wMut i appG ws) := by
  exact e_mut PySem.F.slot_list_append PySem.F.type_list_append mt_append appS ha hN hv hd hcd hbase hfew hline hs hplain
theorem e_popAt {i : Nat} {apos : Pos} (ha : As X true [a] tas ws) (hN : X.N[i]? = some x := by rfl) (hv : Vis X.env.scope x := by first | exact Or.inl rfl | exact Or.inr (Or.inl rfl) | exact Or.inr (Or.inr rfl)) (hd : (x == ("__debug__" : Str)) = false := by decide)
    (hcd : (x == ("__classdict__" : Str)) = false := by decide) (hbase : attributeBase (.Name x p) "pop" X.env (eval (.Name x p) X.env) = eval (.Name x p) X.env := by rfl)
    (hfew : ((backTo pos (starEach [a] X.env)).all (fun x => !x.1) && (backToKw pos (keywordEach [] X.env)).all (fun x => x.1.isSome) && decide ([a].length + ([] : List Keyword).length + (if ([] : List Keyword).isEmpty then 0 else 1) < 30)) = true := by rfl)
    (hline : (apos.endLine == pos.line) = true := by rfl) (hs : starEach [a] X.env = (false, eval a X.env) :: starEach [] X.env := by rfl) (hplain : (backTo pos (starEach [] X.env)).any (·.1) = false := by rfl) :
    E X true false (.Call (.Attribute (.Name x p) "pop" apos) [a] [] pos) (tBM X.K "list" rPopAt (tVar i) tas) (wMut i popAtG ws) := by
  exact e_mut PySem.F.slot_list_pop PySem.F.type_list_pop mt_popAt popAtS ha hN hv hd hcd hbase hfew hline hs hplain
theorem e_ins {i : Nat} {apos : Pos} (ha : As X true [a, b] tas ws) (hN : X.N[i]? = some x := by rfl) (hv : Vis X.env.scope x := by first | exact Or.inl rfl | exact Or.inr (Or.inl rfl) | exact Or.inr (Or.inr rfl)) (hd : (x == ("__debug__" : Str)) = false := by decide)
    (hcd : (x == ("__classdict__" : Str)) = false := by decide) (hbase : attributeBase (.Name x p) "insert" X.env (eval (.Name x p) X.env) = eval (.Name x p) X.env := by rfl)
    (hfew : ((backTo pos (starEach [a, b] X.env)).all (fun x => !x.1) && (backToKw pos (keywordEach [] X.env)).all (fun x => x.1.isSome) && decide ([a, b].length + ([] : List Keyword).length + (if ([] : List Keyword).isEmpty then 0 else 1) < 30)) = true := by rfl)
    (hline : (apos.endLine == pos.line) = true := by rfl) (hs : starEach [a, b] X.env = (false, eval a X.env) :: starEach [b] X.env := by rfl) (hplain : (backTo pos (starEach [b] X.env)).any (·.1) = false := by rfl) :
    E X true false (.Call (.Attribute (.Name x p) "insert" apos) [a, b] [] pos) (tBM X.K "list" (fun x vs H Q => ∃ (l : Addr) (xs : List V) (i : Int) (y : V), x = .ref l ∧ vs = [.int i, y] ∧ H l = some (.lst xs) ∧ xs.length < sizeLine ∧ 0 ≤ i ∧ i < 2 ^ 63 ∧ Q .non (upd H l (.lst (xs.take i.toNat ++ [y] ++ xs.drop i.toNat)))) (tVar i) tas) (wMut i insG ws) := by
  exact e_mut PySem.F.slot_list_insert PySem.F.type_list_insert mt_insert insS ha hN hv hd hcd hbase hfew hline hs hplain
theorem e_abs (hg : Gl X "abs") (hm : X.mg "abs" = none) (ha : As X m [a] tas ws) (hst : starEach [a] X.env = (false, eval a X.env) :: starEach [] X.env := by rfl) : E X m false (.Call (.Name "abs" p) [a] [] pos) (tCB (fun xs H Q => ∃ i, xs = [.int i] ∧ Q (.int (if i < 0 then -i else i)) H) tas) (wB1 absF ws) := by
  exact e_cB call_abs absS (by decide +kernel) hg hm ha (by decide) (by decide) hst
theorem e_max2 (hc : X.calm = true) (hg : Gl X "max") (hm : X.mg "max" = none) (ha : As X m [a, b] tas ws) (hst : starEach [a, b] X.env = (false, eval a X.env) :: starEach [b] X.env := by rfl) (hpl : (backTo pos (starEach [b] X.env)).any (·.1) = false := by rfl) : E X m false (.Call (.Name "max" p) [a, b] [] pos) (tCB (fun xs H Q => ∃ i j, xs = [.int i, .int j] ∧ Q (.int (if j > i then j else i)) H) tas) (wB1 maxF ws) := by
  exact e_cB (call_max2 hc) maxS (by decide +kernel) hg hm ha (by decide) (by decide) hst hpl
theorem e_min2 (hc : X.calm = true) (hg : Gl X "min") (hm : X.mg "min" = none) (ha : As X m [a, b] tas ws) (hst : starEach [a, b] X.env = (false, eval a X.env) :: starEach [b] X.env := by rfl) (hpl : (backTo pos (starEach [b] X.env)).any (·.1) = false := by rfl) : E X m false (.Call (.Name "min" p) [a, b] [] pos) (tCB (fun xs H Q => ∃ i j, xs = [.int i, .int j] ∧ Q (.int (if j < i then j else i)) H) tas) (wB1 minF ws) := by
  exact e_cB (call_min2 hc) minS (by decide +kernel) hg hm ha (by decide) (by decide) hst hpl
theorem e_int1 (hg : Gl X "int") (hm : X.mg "int" = none) (ha : As X m [a] tas ws) (hst : starEach [a] X.env = (false, eval a X.env) :: starEach [] X.env := by rfl) : E X m false (.Call (.Name "int" p) [a] [] pos) (tCB (fun xs H Q => (∃ i, xs = [.int i] ∧ Q (.int i) H) ∨ ∃ k, xs = [.bl k] ∧ Q (.int (if k then 1 else 0)) H) tas) (wB1 intF ws) := by
  exact e_cT call_int1 intS (by decide +kernel) hg hm ha (by decide) (by decide) hst
theorem ds_setLc {gB : Shared → Hp → Addr → List (Str × Addr) → List Addr → TG} {ttB : Shared → Hp → Addr → List (Str × Addr) → List Addr → TT} {teB : Shared → Hp → Addr → List (Str × Addr) → List Addr → TE} {i : Nat} {py : Pos} (hc : X.calm = true) (hN : X.N.Nodup) (hi : Vl.Itr X true q tg iter wi (lift fs)) (ok : BlkOk X.N X.env.scope scope own)
    (hg : ∀ (s : Shared) (H : Hp) (C : Addr) (cl : List (Str × Addr)) (fp : List Addr), Tc (X.blk s H scope (compEnvC scope cl C X.env) fp) is tg (gB s H C cl fp) γ)
    (ht : ∀ (s : Shared) (H : Hp) (C : Addr) (cl : List (Str × Addr)) (fp : List Addr), Tms (X.blk s H scope (compEnvC scope cl C X.env) fp) ifs (ttB s H C cl fp) (lift ft))
    (he : ∀ (s : Shared) (H : Hp) (C : Addr) (cl : List (Str × Addr)) (fp : List Addr), E (X.blk s H scope (compEnvC scope cl C X.env) fp) false false elt (teB s H C cl fp) (lift fe))
    (hw : E X true o (.ListComp elt [⟨tg, iter, ifs, 0⟩] scope pos) (tLc wi (gB X.s_0 X.H_0 0 [] []) (ttB X.s_0 X.H_0 0 [] []) (teB X.s_0 X.H_0 0 [] []) (own.map (·.2))) (lift fa))
    (hy : X.N[i]? = some y := by rfl) (hyl : X.env.scope.names.lookup y = some .local := by rfl) (hsw : swapsWith (.ListComp elt [⟨tg, iter, ifs, 0⟩] scope pos) (some (.Name y py)) spos.line X.env = pure true := by rfl) (hs : ∀ x, foldedSetIterable iter X.env x = pure x := by intro _; rfl) (hgB : ∀ (s : Shared) (H : Hp) (C : Addr) (cl : List (Str × Addr)) (fp : List Addr), gB s H C cl fp = gB X.s_0 X.H_0 0 [] [] := by intros; rfl) (htB : ∀ (s : Shared) (H : Hp) (C : Addr) (cl : List (Str × Addr)) (fp : List Addr), ttB s H C cl fp = ttB X.s_0 X.H_0 0 [] [] := by intros; rfl) (heB : ∀ (s : Shared) (H : Hp) (C : Addr) (cl : List (Str × Addr)) (fp : List Addr), teB s H C cl fp = teB X.s_0 X.H_0 0 [] [] := by intros; rfl) :
    St1 X o2 (.Assign [.Name y py] (.ListComp elt [⟨tg, iter, ifs, 0⟩] scope pos) spos) (tAsg (tLc wi (gB X.s_0 X.H_0 0 [] []) (ttB X.s_0 X.H_0 0 [] []) (teB X.s_0 X.H_0 0 [] []) (own.map (·.2))) (gName i)) (lift (oSet i o fa)) := by
  rw [lift_Set]; exact s_setLc hc hN hi ok hg ht he hw hy hyl hsw hs hgB htB heB
abbrev wQ (w : Wp D) : Wp QV := Wp.bd w fun d => Wp.ret (.inr d)
def isNoneF : D → D → Option Bool := fun d c => match c with | .none => isNoneD d | _ => none
def notNoneF : D → D → Option Bool := fun d c => match c with | .none => (isNoneD d).map (!·) | _ => none
def isBoolF : D → D → Option Bool := fun d c => match c with | .bool k => isBoolD k d | _ => none
def notBoolF : D → D → Option Bool := fun d c => match c with | .bool k => (isBoolD k d).map (!·) | _ => none
theorem isNoneS2 : CmS K (fun x y H Q => y = .non ∧ Q (.bl (decide (x = .non))) H) isNoneF := isNoneS
theorem notNoneS2 : CmS K (fun x y H Q => y = .non ∧ Q (.bl (!decide (x = .non))) H) notNoneF := notNoneS
theorem isBoolS2 : CmS K rIsB isBoolF := isBoolS
theorem notBoolS2 : CmS K rNotB notBoolF := notBoolS
/-- f() -/
theorem e_call0 {k : Nat} {f : Addr} {fd : FuncData} {ps : List Str} {dis : List Int} {pm : List Nat} {fw : Fw} (F : FnG X.prog X.w K X.mg X.base k f fd ps (spV K o ps.length fw)) (hga : X.A.guards = some []) (hr : Room k X.A) (hg : Gl X x) (hm : X.mg x = some (.ref f)) (hkp : PySem.W.keepIn X.K (.ref f) = true) (hb : KB X.K fd ps 0 [] (dis.map V.int) pm)
    (hp : pm.length = ps.length := by rfl) (hin : ∀ i ∈ pm, i < 0 + 0 + dis.length := by decide) (hdb : (x == ("__debug__" : Str)) = false := by decide) (hK : X.K = K := by rfl) :
    E X m o (.Call (.Name x p) [] [] pos) (tCallG (spV K o ps.length fw) 0 0 (dis.map V.int) pm tNil tNil) (wCall fw 0 0 pm dis (Wp.ret []) (Wp.ret [])) := by
  subst hK
  exact ⟨pe_call0G F hga hr hg hm hkp hb hdb, snd_call hp hin (as_nil (X := X)).snd (as_nil (X := X)).snd⟩
theorem d_call0 {k : Nat} {f : Addr} {fd : FuncData} {ps : List Str} {dis : List Int} {pm : List Nat} {g : List D → Option D} (F : FnG X.prog X.w K X.mg X.base k f fd ps (spV K o ps.length (liftF g))) (hga : X.A.guards = some []) (hr : Room k X.A) (hg : Gl X x) (hm : X.mg x = some (.ref f)) (hkp : PySem.W.keepIn X.K (.ref f) = true) (hb : KB X.K fd ps 0 [] (dis.map V.int) pm)
    (hp : pm.length = ps.length := by rfl) (hin : ∀ i ∈ pm, i < 0 + 0 + dis.length := by decide) (hdb : (x == ("__debug__" : Str)) = false := by decide) (hK : X.K = K := by rfl) :
    E X m o (.Call (.Name x p) [] [] pos) (tCallG (spV K o ps.length (liftF g)) 0 0 (dis.map V.int) pm tNil tNil) (lift (oCall g 0 0 pm dis (Op.ret []) (Op.ret []))) := by
  subst hK; rw [lift_Call, lift_ret]; exact e_call0 F hga hr hg hm hkp hb hp hin hdb
end
/-- a def with its name and promise -/
def Bd (P : Program) (w : World) (K : PySem.W.Frag) (mg : Str → Option Value) (base : Heap) (k : Nat) (x : Str) (FD : Addr → FuncData → Prop) (ps : List Str) (o : Bool) (fw : Fw) : Prop :=
  ∃ f fd, FD f fd ∧ mg x = some (.ref f) ∧ FnG P w K mg base k f fd ps (spV K o ps.length fw)
/-- no wish, no promise -/
theorem fnNo {P : Program} {w : World} {K : PySem.W.Frag} {mg : Str → Option Value} {base : Heap} {k : Nat} {f : Addr} {fd : FuncData} {ps : List Str} {o : Bool} {fw : Fw} (h : ∀ ds k, ¬ fw ds k) : FnG P w K mg base k f fd ps (spV K o ps.length fw) :=
  ⟨spV_len, fun _ _ _ _ _ _ _ _ _ _ _ _ _ hsp => by
    obtain ⟨_, ds, k, Z, _, _, hf, _⟩ := hsp
    exact (h ds k hf).elim⟩
end Vl
/-! The value layer, 20: plain facts of data. -/
namespace Vl
open PySem PySem.Spec PyProof.Rows L2
/-- a tuple, a list of ints -/
abbrev tp (p : List Int) : D := .tuple (p.map .int)
abbrev ls (p : List Int) : D := .list (p.map .int)
theorem lay_ints : ∀ p : List Int, PyData.canLayAll0 (p.map .int) = true
  | [] => rfl
  | n :: p => by simp [PyData.canLayAll0, PyData.canLay0, lay_ints p]
theorem depth_ints : ∀ p : List Int, PyData.depthAll (p.map .int) ≤ 1
  | [] => by simp [PyData.depthAll]
  | n :: p => by
    have := depth_ints p
    simp [PyData.depthAll, PyData.depth]
    omega
theorem shaped_tp (p : List Int) : SeqAt.shaped (tp p) = true := by
  have := depth_ints p
  simp [SeqAt.shaped, PyData.canLay0, PyData.depth, lay_ints]
  omega
theorem shaped_ls (p : List Int) : SeqAt.shaped (ls p) = true := by
  have := depth_ints p
  simp [SeqAt.shaped, PyData.canLay0, PyData.depth, lay_ints]
  omega
theorem shaped_int (i : Int) : SeqAt.shaped (.int i) = true := by simp [SeqAt.shaped, PyData.canLay0, PyData.depth]
theorem eqv_ints : ∀ p q : List Int, PyData.eqvAll (p.map .int) (q.map .int) = decide (p = q)
  | [], [] => rfl
  | [], _ :: _ => rfl
  | _ :: _, [] => rfl
  | a :: p, b :: q => by
    rw [List.map_cons, List.map_cons]
    show (PyData.eqv (.int a) (.int b) && PyData.eqvAll (p.map .int) (q.map .int)) = _
    rw [eqv_ints p q]
    show ((a == b) && decide (p = q)) = decide (a :: p = b :: q)
    by_cases h : a = b <;> by_cases h2 : p = q <;> simp [h, h2]
theorem eqv_tp (p q : List Int) : PyData.eqv (tp p) (tp q) = decide (p = q) := eqv_ints p q
theorem eqv_ls (p q : List Int) : PyData.eqv (ls p) (ls q) = decide (p = q) := eqv_ints p q
theorem eqD_tp (p q : List Int) : eqD (tp p) (tp q) = some (decide (p = q)) := by
  unfold eqD
  rw [if_pos ⟨shaped_tp p, shaped_tp q⟩, eqv_tp]
theorem eqD_ls (p q : List Int) : eqD (ls p) (ls q) = some (decide (p = q)) := by
  unfold eqD
  rw [if_pos ⟨shaped_ls p, shaped_ls q⟩, eqv_ls]
theorem eqD_int (i j : Int) : eqD (.int i) (.int j) = some (decide (i = j)) := by
  unfold eqD
  rw [if_pos ⟨shaped_int i, shaped_int j⟩]
  rfl
theorem neD_tp (p q : List Int) : neD (tp p) (tp q) = some (!decide (p = q)) := by unfold neD; rw [eqD_tp]; rfl
theorem neD_ls (p q : List Int) : neD (ls p) (ls q) = some (!decide (p = q)) := by unfold neD; rw [eqD_ls]; rfl
theorem neD_int (i j : Int) : neD (.int i) (.int j) = some (!decide (i = j)) := by unfold neD; rw [eqD_int]; rfl
/-! ### texts -/
theorem show_ints : ∀ p : List Int, (∀ n ∈ p, n.natAbs.log2 < 1920) → PyData.showableAll (p.map .int) = true
  | [], _ => rfl
  | n :: p, h => by
    have h1 := h n List.mem_cons_self
    have h2 := show_ints p fun m hm => h m (List.mem_cons_of_mem _ hm)
    simp [PyData.showableAll, PyData.showable, h1, h2]
theorem piled_ints : ∀ p : List Int, (∀ n ∈ p, n.natAbs.log2 < 1920) → piled (PyData.shownAll (p.map .int)) ≤ 1923 * p.length
  | [], _ => by simp [PyData.shownAll, piled]
  | n :: p, h => by
    have h1 := int_text_length_le (k := 1920) (by decide) (h n List.mem_cons_self)
    have h2 := piled_ints p fun m hm => h m (List.mem_cons_of_mem _ hm)
    rw [List.map_cons, PyData.shownAll, List.length_cons, piled_cons]
    have e : (PyData.shown (.int n)).length = (toString n).length := by
      simp only [PyData.shown]
      exact PySem.ofString_length _
    omega
theorem tupleText_le (ts : List Str) : (tupleText ts).length ≤ piled ts + 3 := by
  unfold tupleText
  cases ts with
  | nil => decide
  | cons t ts =>
    have h := join_length_add (t :: ts) (by simp)
    by_cases hc : ((t :: ts).length == 1) = true
    · simp only [hc, if_true, Str.length_append]
      have h1 : (",)" : Str).length = 2 := by decide
      have h2 : ("(" : Str).length = 1 := by decide
      omega
    · simp only [hc, Str.length_append]
      have h1 : (")" : Str).length = 1 := by decide
      have h2 : ("(" : Str).length = 1 := by decide
      simp only [Bool.false_eq_true, if_false]
      omega
theorem repr_tp {p : List Int} (hl : p.length ≤ 4000) (hn : ∀ n ∈ p, n.natAbs.log2 < 1920) : reprF (tp p) = some (.str (tp p).shown) := by
  have h1 : (tp p).showable = true := by
    show PyData.showableAll (p.map .int) = true
    exact show_ints p hn
  have h2 : (tp p).shown.length ≤ lim := by
    have := piled_ints p hn
    have h3 : (tp p).shown.length ≤ piled (PyData.shownAll (p.map .int)) + 3 := by
      show (PyData.shown (.tuple (p.map .int))).length ≤ _
      simp only [PyData.shown]
      exact tupleText_le _
    show _ ≤ 10000000
    omega
  show (if isSq (tp p) = true then reprD (tp p) else none) = _
  rw [if_pos (show isSq (tp p) = true from rfl)]
  unfold reprD
  rw [if_pos ⟨shaped_tp p, h1, h2⟩]
/-! ### lists of ints -/
theorem oRun_map {f : D → Option (Option D)} {g : D → D} : ∀ {xs : List D}, (∀ x ∈ xs, f x = some (some (g x))) → oRun f xs = some (xs.map g)
  | [], _ => rfl
  | x :: xs, h => by
    show (f x).bind _ = _
    rw [h x List.mem_cons_self]
    show (oRun f xs).map _ = _
    rw [oRun_map fun y hy => h y (List.mem_cons_of_mem _ hy)]
    rfl
theorem oRun_ints {f : D → Option (Option D)} {g : Int → D} {ns : List Int} (h : ∀ n ∈ ns, f (.int n) = some (some (g n))) : oRun f (ns.map .int) = some (ns.map g) := by
  induction ns with
  | nil => rfl
  | cons n ns ih =>
    rw [List.map_cons, List.map_cons]
    show (f (.int n)).bind _ = _
    rw [h n List.mem_cons_self]
    show (oRun f (ns.map .int)).map _ = _
    rw [ih fun m hm => h m (List.mem_cons_of_mem _ hm)]
    rfl
/-- the item at i -/
def at0 (p : List Int) (i : Int) : Int := p.getD i.toNat 0
theorem ixN_in {n : Nat} {i : Int} (h : 0 ≤ i ∧ i < n) : ixN n i = some i.toNat := by
  unfold ixN
  rw [if_pos h.1, if_pos h.2]
theorem atI_ints {p : List Int} {i : Int} (h : 0 ≤ i ∧ i < p.length) : atI (p.map (PyData.int)) i = some (.int (at0 p i)) := by
  unfold atI
  rw [List.length_map, ixN_in h]
  show (p.map PyData.int)[i.toNat]? = _
  have hi : i.toNat < p.length := by omega
  rw [List.getElem?_map, List.getElem?_eq_getElem hi]
  simp [at0, hi]
theorem distinct_nodup : ∀ {ns : List Int}, ns.Nodup → distinct ns = ns
  | [], _ => rfl
  | n :: ns, h => by
    rw [List.nodup_cons] at h
    unfold distinct
    rw [distinct_nodup h.2, if_neg h.1]
theorem firstAt_ints {p : List Int} (h : p.Nodup) {j : Nat} (hj : j < p.length) : firstAt (.int p[j]) (p.map .int) = some j := by
  induction p generalizing j with
  | nil => simp at hj
  | cons a p ih =>
    rw [List.nodup_cons] at h
    cases j with
    | zero =>
      show (if PyData.eqv (.int a) (.int a) = true then some 0 else _) = _
      rw [if_pos (by show (a == a) = true; simp)]
    | succ j =>
      have hj2 : j < p.length := by simpa using hj
      have hne : a ≠ p[j] := fun e => h.1 (e ▸ List.getElem_mem hj2)
      show (if PyData.eqv (.int a) (.int p[j]) = true then some 0 else (firstAt (.int p[j]) (p.map .int)).map (· + 1)) = _
      rw [if_neg (by show ¬ (a == p[j]) = true; simpa using hne), ih h.2 hj2]
      rfl
theorem sIx_nat' {n d : Nat} {k : Int} (h : 0 ≤ k ∧ k ≤ n) : HT.sIx n d (some k) = k.toNat := by
  obtain ⟨m, rfl⟩ : ∃ m : Nat, k = m := ⟨k.toNat, by omega⟩
  rw [HT.sIx_nat]
  omega
theorem cut_from {α : Type} {xs : List α} {k : Int} (h : 0 ≤ k ∧ k ≤ xs.length) : cut xs (some k) none = xs.drop k.toNat := by
  unfold cut
  rw [sIx_nat' h, HT.sIx_none]
  exact List.take_of_length_le (by rw [List.length_drop]; omega)
theorem cut_to {α : Type} {xs : List α} {k : Int} (h : 0 ≤ k ∧ k ≤ xs.length) : cut xs none (some k) = xs.take k.toNat := by
  unfold cut
  rw [sIx_nat' h, HT.sIx_none, List.drop_zero, Nat.sub_zero]
end Vl
/-! The value layer, 21: what is computed, step by step. -/
namespace Vl
open PySem PySem.Spec PyProof.Rows L2
@[simp] theorem ap_Op_ret {α : Type} (a : α) (e : Sto) : Op.ret a e = (fun e => some (a, e)) e := rfl
@[simp] theorem ap_Op_bd {α β : Type} (w : Op α) (f : α → Op β) (e : Sto) : Op.bd w f e = (fun e => match w e with
  | some (a, e1) => f a e1
  | none => none) e := rfl
@[simp] theorem ap_Op_gt {α : Type} (g : Sto → Option α) (e : Sto) : Op.gt g e = (fun e => match g e with
  | some a => some (a, e)
  | none => none) e := rfl
@[simp] theorem ap_oVar (i : Nat) (e : Sto) : oVar i e = (Op.gt fun e => getF e i) e := rfl
@[simp] theorem ap_oOwn (i : Nat) (e : Sto) : oOwn i e = (Op.gt fun e => (getO e i).map fun _ => (.inl i : QV)) e := rfl
@[simp] theorem ap_oQ (f : Op D) (e : Sto) : oQ f e = (Op.bd f fun d => Op.ret (.inr d)) e := rfl
@[simp] theorem ap_oB2 {α β γ : Type} (g : α → β → Option γ) (fa : Op α) (fb : Op β) (e : Sto) : oB2 g fa fb e = (Op.bd fa fun x => Op.bd fb fun y => Op.gt fun _ => g x y) e := rfl
@[simp] theorem ap_oB1 {α γ : Type} (g : α → Option γ) (fa : Op α) (e : Sto) : oB1 g fa e = (Op.bd fa fun x => Op.gt fun _ => g x) e := rfl
@[simp] theorem ap_oVal (f : Op Bool) (e : Sto) : oVal f e = (Op.bd f fun c => Op.ret (.bool c)) e := rfl
@[simp] theorem ap_oOwnL (i : Nat) (e : Sto) : oOwnL i e = (Op.gt fun e => (getO e i).map .list) e := rfl
@[simp] theorem ap_oB2Q {β : Type} (g : D → Bool × List D → Option β) (fa : Op D) (fb : Op QV) (e : Sto) : oB2Q g fa fb e = (Op.bd fa fun x => Op.bd fb fun q => Op.gt fun e => (seqOf e q).bind (g x)) e := rfl
@[simp] theorem ap_oNot (w : Op Bool) (e : Sto) : oNot w e = (Op.bd w fun c => Op.ret (!c)) e := rfl
@[simp] theorem ap_oAnd (w u : Op Bool) (e : Sto) : oAnd w u e = (Op.bd w fun c => if c = true then u else Op.ret false) e := rfl
@[simp] theorem ap_oOr (w u : Op Bool) (e : Sto) : oOr w u e = (Op.bd w fun c => if c = true then Op.ret true else u) e := rfl
@[simp] theorem ap_oAndV (w u : Op D) (e : Sto) : oAndV w u e = (Op.bd w fun x => Op.bd (Op.gt fun _ => tru x) fun c => if c = true then u else Op.ret (.bool false)) e := rfl
@[simp] theorem ap_oOrV (w u : Op D) (e : Sto) : oOrV w u e = (Op.bd w fun x => Op.bd (Op.gt fun _ => tru x) fun c => if c = true then Op.ret (.bool true) else u) e := rfl
@[simp] theorem ap_oNotV (w : Op D) (e : Sto) : oNotV w e = (Op.bd w fun x => Op.bd (Op.gt fun _ => tru x) fun c => Op.ret (.bool (!c))) e := rfl
@[simp] theorem ap_oIf {α : Type} (c : Op Bool) (w u : Op α) (e : Sto) : oIf c w u e = (Op.bd c fun c => if c = true then w else u) e := rfl
@[simp] theorem ap_oCh (g h : D → D → Option Bool) (wa wb wc : Op D) (e : Sto) : oCh g h wa wb wc e = (Op.bd wa fun x => Op.bd wb fun y => Op.bd (Op.gt fun _ => g x y) fun k => if k = true then Op.bd wc fun z => Op.gt fun _ => h y z else Op.ret false) e := rfl
@[simp] theorem ap_oCons (w : Op D) (u : Op (List D)) (e : Sto) : oCons w u e = (Op.bd w fun x => Op.bd u fun xs => Op.ret (x :: xs)) e := rfl
@[simp] theorem ap_oQ1 {α : Type} (g : Bool × List D → Option α) (fq : Op QV) (e : Sto) : oQ1 g fq e = (Op.bd fq fun q => Op.gt fun e => (seqOf e q).bind g) e := rfl
@[simp] theorem ap_oIx (wq : Op QV) (wb : Op D) (e : Sto) : oIx wq wb e = (Op.bd wq fun q => Op.bd wb fun j => Op.gt fun e => (seqOf e q).bind fun s => ixD s j) e := rfl
@[simp] theorem ap_oCall (g : List D → Option D) (n l : Nat) (pm : List Nat) (dis : List Int) (w wk : Op (List D)) (e : Sto) : oCall g n l pm dis w wk e = (Op.bd w fun ds => Op.bd wk fun zs => Op.gt fun _ => if ds.length = n ∧ zs.length = l then g (pick pm (ds ++ zs ++ dis.map .int)) else none) e := rfl
@[simp] theorem ap_oSeq (w u : Op Fl) (e : Sto) : oSeq w u e = (Op.bd w fun f => match f with
  | .nx => u
  | f => Op.ret f) e := rfl
@[simp] theorem ap_Op_md (g : Sto → Option Sto) (e : Sto) : Op.md g e = (fun e => (g e).map fun e' => (.nx, e')) e := rfl
@[simp] theorem ap_oSet (i : Nat) (o : Bool) (w : Op D) (e : Sto) : oSet i o w e = (Op.bd w fun d => Op.md fun e => if i < e.length then some (e.set i (slotOf o d)) else none) e := rfl
@[simp] theorem ap_oRet (w : Op D) (e : Sto) : oRet w e = (Op.bd w fun d => Op.ret (.rt d)) e := rfl
@[simp] theorem ap_oDo (w : Op D) (e : Sto) : oDo w e = (Op.bd w fun _ => Op.ret .nx) e := rfl
@[simp] theorem ap_oNo {α : Type} (e : Sto) : (oNo : Op α) e = none := rfl
@[simp] theorem ap_oTake (i : Nat) (e : Sto) : oTake i e = (fun e => (getO e i).map fun ds => (.list ds, e.set i .un)) e := rfl
@[simp] theorem ap_oAsg (γ : D → Sto → Option Sto) (w : Op D) (e : Sto) : oAsg γ w e = (Op.bd w fun d => Op.md fun e => γ d e) e := rfl
@[simp] theorem ap_oPar (js : List Nat) (os : List Bool) (ws : Op (List D)) (e : Sto) : oPar js os ws e = (Op.bd ws fun ds => Op.md fun e => if (∀ j ∈ js, j < e.length) then some (setsE js os ds e) else none) e := rfl
@[simp] theorem ap_oSl (o : Bool) (wq : Op QV) (wl wh : Op (Option Int)) (e : Sto) : oSl o wq wl wh e = (Op.bd wq fun q => Op.bd wl fun l => Op.bd wh fun h => Op.gt fun e => (seqOf e q).bind (slQ o l h)) e := rfl
@[simp] theorem ap_oCatL (w u : Op QV) (e : Sto) : oCatL w u e = (Op.bd w fun q => Op.bd u fun r => Op.gt fun e => (seqOf e q).bind fun s => (seqOf e r).bind (catQ s)) e := rfl
@[simp] theorem ap_oRep (wq : Op QV) (wb : Op D) (e : Sto) : oRep wq wb e = (Op.bd wq fun q => Op.bd wb fun j => Op.gt fun e => (seqOf e q).bind fun s => repD s j) e := rfl
@[simp] theorem ap_chgO (i : Nat) (g : List D → Option (D × List D)) (e : Sto) : chgO i g e = (fun e => (getO e i).bind fun cur => (g cur).map fun r => (r.1, e.set i (.ow r.2))) e := rfl
@[simp] theorem ap_oMut (i : Nat) (g : List D → List D → Option (D × List D)) (fs : Op (List D)) (e : Sto) : oMut i g fs e = (Op.bd (Op.gt fun e => getO e i) fun _ => Op.bd fs fun ds => chgO i fun cur => g cur ds) e := rfl
@[simp] theorem ap_chgQ (i : Nat) (g : List D → Bool × List D → Option (D × List D)) (q : QV) (e : Sto) : chgQ i g q e = (fun e => (seqOf e q).bind fun s => chgO i (fun cur => g cur s) e) e := rfl
@[simp] theorem ap_oExt (i : Nat) (fq : Op QV) (e : Sto) : oExt i fq e = (Op.bd (Op.gt fun e => getO e i) fun _ => Op.bd fq fun q => chgQ i extG q) e := rfl
@[simp] theorem ap_oOwnI (i : Nat) (e : Sto) : oOwnI i e = (Op.gt fun e => Vl.getO e i) e := rfl
@[simp] theorem ap_oForS (γ : D → Sto → Option Sto) (ws : Op (List D)) (w : Op Fl) (e : Sto) : oForS γ ws w e = (Op.bd ws fun xs => oFor γ w xs) e := rfl
@[simp] theorem ap_oLc (vs : List Nat) (fs : Op (List D)) (γ : D → Sto → Option Sto) (ft : Op Bool) (fe : Op D) (e : Sto) : oLc vs fs γ ft fe e = (Op.bd fs fun xs e => if (∀ i ∈ vs, (Vl.getO e i).isNone = true) ∧ xs.length ≤ lim then (oRun (oEl γ ft fe (wipeE e vs)) xs).map fun ds => (.list ds, e) else none) e := rfl
@[simp] theorem ap_oIdx (k : Bool) (wq : Op QV) (wb : Op D) (e : Sto) : oIdx k wq wb e = (Op.bd wq fun q => Op.bd (Op.gt (kindQ k q)) fun _ => Op.bd wb fun d => Op.gt fun e => (seqOf e q).bind fun s => if s.1 = k then indexF s d else none) e := rfl
@[simp] theorem ap_oEl (γ : D → Sto → Option Sto) (ft : Op Bool) (fe : Op D) (e : Sto) (x : D) : oEl γ ft fe e x = ((γ x e).bind fun e1 => (ft e1).bind fun b => if b.1 = true then (fe b.2).map fun r => some r.1 else some none) := rfl
theorem for_cons (γ : D → Sto → Option Sto) (w : Op Fl) (x : D) (xs : List D) (e : Sto) : oFor γ w (x :: xs) e = ((γ x e).bind fun e1 => (w e1).bind fun r => match r.1 with
  | .nx => oFor γ w xs r.2
  | .ct => oFor γ w xs r.2
  | .bk => some (.nx, r.2)
  | .rt d => some (.rt d, r.2)) := rfl
@[simp] theorem for_nil (γ : D → Sto → Option Sto) (w : Op Fl) (e : Sto) : oFor γ w [] e = some (.nx, e) := rfl
/-! ### wishes -/
@[simp] theorem wp_ret {α : Type} (a : α) (e : Sto) (k : α → Sto → Prop) : Wp.ret a e k = k a e := rfl
@[simp] theorem wp_bd {α β : Type} (w : Wp α) (f : α → Wp β) (e : Sto) (k : β → Sto → Prop) : Wp.bd w f e k = w e fun a e1 => f a e1 k := rfl
theorem wp_gt {α : Type} (g : Sto → Option α) (e : Sto) (k : α → Sto → Prop) : Wp.gt g e k = ∃ a, g e = some a ∧ k a e := rfl
theorem lift_ap {α : Type} (f : Op α) (e : Sto) (k : α → Sto → Prop) : lift f e k = (match f e with | some r => k r.1 r.2 | none => False) := by
  unfold lift
  cases h : f e with
  | none => simp
  | some r => simp
theorem gt_ap {α : Type} (g : Sto → Option α) (e : Sto) (k : α → Sto → Prop) : Wp.gt g e k = (match g e with | some a => k a e | none => False) := by
  unfold Wp.gt
  cases h : g e with
  | none => simp
  | some r => simp
theorem wp_lift {α : Type} {f : Op α} {e : Sto} {r : α × Sto} {k : α → Sto → Prop} (h : f e = some r) (hk : k r.1 r.2) : lift f e k := ⟨r, h, hk⟩
end Vl
/-! The value layer, 22: sorted of ints. -/
namespace Vl
open PySem PySem.Spec PyProof.Rows L2
section
variable {K : PySem.W.Frag} {H H' H0 : Hp} {Z Z' Z0 : Addr → Prop} {σ : L2.St} {e e' : Sto} {P P' : List (V × D)} {PW : List (Addr × List D)}
variable {X : Cx} {m m2 o o2 : Bool} {a b c : Expr} {ta tb tc : TE} {wq : Wp QV} {fq : Op QV} {p pos : Pos}
/-- ints in their sequence -/
def insI (a : Int) : List Int → List Int
  | [] => [a]
  | b :: r => if a ≤ b then a :: b :: r else b :: insI a r
def srt : List Int → List Int
  | [] => []
  | a :: r => insI a (srt r)
theorem insI_perm (a : Int) : ∀ l : List Int, (insI a l).Perm (a :: l)
  | [] => List.Perm.refl _
  | b :: r => by
    unfold insI
    split
    · exact List.Perm.refl _
    · exact (List.Perm.cons _ (insI_perm a r)).trans (List.Perm.swap _ _ _)
theorem srt_perm : ∀ ns : List Int, (srt ns).Perm ns
  | [] => List.Perm.refl _
  | a :: r => (insI_perm a (srt r)).trans (List.Perm.cons _ (srt_perm r))
theorem insI_le {a : Int} : ∀ {l : List Int}, l.Pairwise (· ≤ ·) → (insI a l).Pairwise (· ≤ ·)
  | [], _ => by simp [insI]
  | b :: r, h => by
    unfold insI
    rw [List.pairwise_cons] at h
    split
    · rename_i hab
      rw [List.pairwise_cons, List.pairwise_cons]
      exact ⟨fun x hx => by
        rcases List.mem_cons.mp hx with rfl | hx
        · exact hab
        · exact Int.le_trans hab (h.1 x hx), h⟩
    · rename_i hab
      rw [List.pairwise_cons]
      refine ⟨fun x hx => ?_, insI_le h.2⟩
      rcases List.mem_cons.mp ((insI_perm a r).mem_iff.mp hx) with rfl | hx
      · omega
      · exact h.1 x hx
theorem srt_le : ∀ ns : List Int, (srt ns).Pairwise (· ≤ ·)
  | [] => List.Pairwise.nil
  | a :: r => insI_le (srt_le r)
theorem srt_only {ns ms : List Int} (hp : ms.Perm ns) (hs : ms.Pairwise (· ≤ ·)) : ms = srt ns :=
  List.Perm.eq_of_pairwise (fun a b _ _ h1 h2 => Int.le_antisymm h1 h2) hs (srt_le ns) (hp.trans (srt_perm ns).symm)
def srtQ (s : Bool × List D) : Option D := if s.1 = true then (intA s.2).map fun ns => .list ((srt ns).map .int) else none
theorem intsZ : ∀ (ns : List Int) (S : SR K H0 Z0 σ H e P PW), SR K H0 Z0 σ H e ((ns.map V.int).zip (ns.map PyData.int) ++ P) PW
  | [], S => S
  | n :: ns, S => (intsZ ns S).int
theorem srtS : Q1S K true (rSortedI K) srtQ := by
  intro H0 Z0 σ H e P PW i vs k ds z Q h1 h2 l S _ g q
  cases k with
  | false => cases g
  | true =>
    obtain ⟨ns, hb, rfl⟩ := Option.map_eq_some_iff.mp (show (intA ds).map (fun ns => PyData.list ((srt ns).map .int)) = some z from g)
    refine ⟨i, ns, rfl, SqL.of ?_, fun ns' p hp hs np => ?_⟩
    · rw [← S.ints l hb]; exact h1 rfl
    · have e1 := srt_only hp hs
      subst e1
      have S2 := intsZ (srt ns) (S.subP zipR)
      exact q _ _ (same_upd np) ⟨p, _, rfl, rfl, S2.lst (by simp) np⟩
theorem e_sorted (hg : Gl X "sorted") (hm : X.mg "sorted" = none) (hq : Sq X m a ta wq) (hst : starEach [a] X.env = (false, eval a X.env) :: starEach [] X.env := by rfl) : E X m true (.Call (.Name "sorted" p) [a] [] pos) (tCB (rSortedI X.K) (tCons ta tNil)) (wQ1 srtQ wq) :=
  e_q1B cr_sortedI srtS (by decide +kernel) hg hm hq (by decide) (by decide) hst
theorem d_sorted (hg : Gl X "sorted") (hm : X.mg "sorted" = none) (hq : Sq X m a ta (lift fq)) (hst : starEach [a] X.env = (false, eval a X.env) :: starEach [] X.env := by rfl) : E X m true (.Call (.Name "sorted" p) [a] [] pos) (tCB (rSortedI X.K) (tCons ta tNil)) (lift (oQ1 srtQ fq)) := by rw [lift_Q1]; exact e_sorted hg hm hq hst
end
end Vl
/-! The value layer, plain facts of every law: numbers from 0 on, texts of values, packs. -/
namespace Vl
open PySem PySem.Spec PyProof.Rows L2
/-! ### 0, 1, .. -/
def rg (n : Nat) : List Int := (List.range n).map fun (i : Nat) => (i : Int)
theorem rg_len (n : Nat) : (rg n).length = n := by simp [rg]
theorem rg_mem {n : Nat} {i : Int} : i ∈ rg n ↔ 0 ≤ i ∧ i < n := by
  unfold rg
  rw [List.mem_map]
  constructor
  · rintro ⟨k, hk, rfl⟩
    rw [List.mem_range] at hk
    omega
  · intro h
    exact ⟨i.toNat, by rw [List.mem_range]; omega, by omega⟩
theorem rg_nodup (n : Nat) : (rg n).Nodup := by
  unfold rg
  exact List.Pairwise.map _ (fun a b h => by omega) (List.nodup_range (n := n))
theorem rngL_rg (n : Nat) : rngL 0 n = (rg n).map .int := by
  rw [rngL_ints]
  congr 1
  unfold rg
  refine List.map_congr_left fun a _ => by omega
theorem map_at0 (p : List Int) : (rg p.length).map (at0 p) = p := by
  refine List.ext_getElem (by simp [rg]) fun i h1 h2 => ?_
  simp [rg, at0, h2]
theorem rg_succ (n : Nat) : rg (n + 1) = rg n ++ [(n : Int)] := by simp [rg, List.range_succ]
theorem at0_rg {n : Nat} {i : Int} (hi : 0 ≤ i ∧ i < n) : at0 (rg n) i = i := by
  have h2 : i.toNat < n := by omega
  simp [at0, rg, h2]
  omega
theorem at0_map {m p : List Int} {i : Int} (hi : 0 ≤ i ∧ i < p.length) : at0 (p.map (at0 m)) i = at0 m (at0 p i) := by
  have h2 : i.toNat < p.length := by omega
  simp [at0, h2]
theorem at0_mapf {f : Int → Int} {p : List Int} {i : Int} (hi : 0 ≤ i ∧ i < p.length) : at0 (p.map f) i = f (at0 p i) := by
  have h2 : i.toNat < p.length := by omega
  simp [at0, h2]
theorem at0_mem {p : List Int} {i : Int} (h : 0 ≤ i ∧ i < p.length) : at0 p i ∈ p := by
  have h2 : i.toNat < p.length := by omega
  simp [at0, h2]
theorem at0_inj {p : List Int} (hn : p.Nodup) {i j : Int} (hi : 0 ≤ i ∧ i < p.length) (hj : 0 ≤ j ∧ j < p.length) (e : at0 p i = at0 p j) : i = j := by
  have h2 : i.toNat < p.length := by omega
  have h3 : j.toNat < p.length := by omega
  simp [at0, h2, h3] at e
  have : i.toNat = j.toNat := by
    rcases Nat.lt_trichotomy i.toNat j.toNat with h | h | h
    · exact absurd e (List.pairwise_iff_getElem.mp hn _ _ h2 h3 h)
    · exact h
    · exact absurd e.symm (List.pairwise_iff_getElem.mp hn _ _ h3 h2 h)
  omega
/-- one of 1 to n -/
theorem all_from1 {P : Int → Bool} {n : Nat} (h : ((rg (n + 1)).drop 1).all P = true) {c : Int} (hc : 1 ≤ c ∧ c ≤ n) : P c = true := by
  rw [List.all_eq_true] at h
  refine h c ?_
  rw [List.mem_iff_getElem]
  refine ⟨c.toNat - 1, by rw [List.length_drop, rg_len]; omega, ?_⟩
  rw [List.getElem_drop]
  simp [rg]
  omega
theorem all_rg {P : Int → Bool} {n : Nat} (h : (rg n).all P = true) {c : Int} (hc : 0 ≤ c ∧ c < n) : P c = true := by
  rw [List.all_eq_true] at h
  exact h c (rg_mem.mpr hc)
/-! ### texts of values -/
mutual
/-- a value whose text is told -/
def rok : D → Bool
  | .none => true
  | .bool _ => true
  | .int i => decide (i.natAbs.log2 < 1920)
  | .str x => PyData.strOk x && PyData.strOk (reprText x) && decide ((reprText x).length ≤ 1920)
  | .list ds => rokA ds
  | .tuple ds => rokA ds
  | .dict _ => false
def rokA : List D → Bool
  | [] => true
  | d :: ds => rok d && rokA ds
end
mutual
/-- more than its length -/
def rwt : D → Nat
  | .list ds => rwtA ds + 3
  | .tuple ds => rwtA ds + 3
  | _ => 1921
def rwtA : List D → Nat
  | [] => 0
  | d :: ds => rwt d + 2 + rwtA ds
end
theorem listText_le (ts : List Str) : (listText ts).length ≤ piled ts + 3 := by
  have := listText_len_le ts
  have h : piled ts = (ts.map (·.length)).sum + 2 * ts.length := by
    induction ts with
    | nil => rfl
    | cons t ts ih =>
      have ih := ih (listText_len_le ts)
      rw [piled_cons, ih, List.map_cons, List.sum_cons, List.length_cons]
      omega
  omega
theorem sOk_app {a b : Str} (h1 : PyData.strOk a = true) (h2 : PyData.strOk b = true) : PyData.strOk (a ++ b) = true := by
  unfold PyData.strOk at *
  show (a.cps ++ b.cps).all _ = true
  rw [Array.all_append, h1, h2]; rfl
theorem sOk_join {z : Str} (hz : PyData.strOk z = true) : ∀ {l : List Str}, (∀ x ∈ l, PyData.strOk x = true) → PyData.strOk (Str.join z l) = true
  | [], _ => by simp [Str.join, PyData.strOk, Str.empty]
  | [x], h => h x List.mem_cons_self
  | x :: y :: r, h => sOk_app (sOk_app (h x List.mem_cons_self) hz) (sOk_join hz fun q hq => h q (List.mem_cons_of_mem _ hq))
theorem sOk_of (s : String) : PyData.strOk (s : Str) = true := by
  unfold PyData.strOk
  have e : (Str.ofString s) = ⟨(s.toList.map Char.toNat).toArray⟩ := PySem.Str.ofString_eq_toList s
  show (Str.ofString s).cps.all _ = true
  rw [e]
  simp only [List.all_toArray, List.all_map, List.all_eq_true]
  intro c hc
  have := c.valid
  have h2 : c.toNat < 55296 ∨ 57343 < c.toNat ∧ c.toNat < 1114112 := this
  simp
  omega
theorem sOk_list {ts : List Str} (h : ∀ x ∈ ts, PyData.strOk x = true) : PyData.strOk (listText ts) = true := by
  rw [listText_eq_join]
  exact sOk_app (sOk_app (sOk_of _) (sOk_join (sOk_of _) h)) (sOk_of _)
theorem sOk_tuple {ts : List Str} (h : ∀ x ∈ ts, PyData.strOk x = true) : PyData.strOk (tupleText ts) = true := by
  unfold tupleText
  exact sOk_app (sOk_app (sOk_of _) (sOk_join (sOk_of _) h)) (sOk_of _)
mutual
theorem rok_all : ∀ d : D, rok d = true → d.showable = true ∧ d.canLay0 = true ∧ PyData.strOk d.shown = true ∧ d.shown.length ≤ rwt d
  | .none, _ => ⟨rfl, rfl, sOk_of _, by decide +kernel⟩
  | .bool b, _ => ⟨rfl, rfl, by cases b <;> exact sOk_of _, by cases b <;> decide +kernel⟩
  | .int i, h => by
    have h : i.natAbs.log2 < 1920 := of_decide_eq_true (by simpa [rok] using h)
    refine ⟨by simp [PyData.showable, h], rfl, by simp only [PyData.shown]; exact sOk_of _, ?_⟩
    have h1 := int_text_length_le (k := 1920) (by decide) h
    simp only [PyData.shown, rwt]
    have e : ((toString i : String) : Str).length = (toString i).length := PySem.ofString_length _
    omega
  | .str x, h => by
    have h : (PyData.strOk x = true ∧ PyData.strOk (reprText x) = true) ∧ (reprText x).length ≤ 1920 := by simpa [rok] using h
    refine ⟨rfl, by simpa [PyData.canLay0] using h.1.1, by simpa [PyData.shown] using h.1.2, ?_⟩
    simp only [PyData.shown, rwt]
    omega
  | .list ds, h => by
    obtain ⟨h1, h2, h3, h4⟩ := rokA_all ds (by simpa [rok] using h)
    refine ⟨by simpa [PyData.showable] using h1, by simpa [PyData.canLay0] using h2, by simp only [PyData.shown]; exact sOk_list h3, ?_⟩
    simp only [PyData.shown, rwt]
    exact Nat.le_trans (listText_le _) (by omega)
  | .tuple ds, h => by
    obtain ⟨h1, h2, h3, h4⟩ := rokA_all ds (by simpa [rok] using h)
    refine ⟨by simpa [PyData.showable] using h1, by simpa [PyData.canLay0] using h2, by simp only [PyData.shown]; exact sOk_tuple h3, ?_⟩
    simp only [PyData.shown, rwt]
    exact Nat.le_trans (tupleText_le _) (by omega)
  | .dict _, h => by simp [rok] at h
theorem rokA_all : ∀ ds : List D, rokA ds = true → PyData.showableAll ds = true ∧ PyData.canLayAll0 ds = true ∧ (∀ x ∈ PyData.shownAll ds, PyData.strOk x = true) ∧ piled (PyData.shownAll ds) ≤ rwtA ds
  | [], _ => ⟨rfl, rfl, fun x h => by simp [PyData.shownAll] at h, by simp [PyData.shownAll, piled, rwtA]⟩
  | d :: ds, h => by
    have h : rok d = true ∧ rokA ds = true := by simpa [rokA] using h
    obtain ⟨a1, a2, a3, a4⟩ := rok_all d h.1
    obtain ⟨h1, h2, h3, h4⟩ := rokA_all ds h.2
    refine ⟨by simp [PyData.showableAll, a1, h1], by simp [PyData.canLayAll0, a2, h2], fun x hx => ?_, ?_⟩
    · rw [PyData.shownAll] at hx
      rcases List.mem_cons.mp hx with rfl | hx
      · exact a3
      · exact h3 x hx
    · rw [PyData.shownAll, piled_cons, rwtA]
      omega
end
/-- a value whose text is told, and short -/
def rsh (d : D) : Bool := isSq d && rok d && decide (d.depth ≤ 64) && decide (rwt d ≤ lim)
theorem neD_str {s : Str} (h : PyData.strOk s = true) : neD (.str s) (.str s) = some false := by
  unfold neD eqD
  rw [if_pos ⟨by simp [SeqAt.shaped, PyData.canLay0, PyData.depth, h], by simp [SeqAt.shaped, PyData.canLay0, PyData.depth, h]⟩]
  simp [PyData.eqv, h]
theorem eqD_str {s : Str} (h : PyData.strOk s = true) : eqD (.str s) (.str s) = some true := by
  unfold eqD
  rw [if_pos ⟨by simp [SeqAt.shaped, PyData.canLay0, PyData.depth, h], by simp [SeqAt.shaped, PyData.canLay0, PyData.depth, h]⟩]
  simp [PyData.eqv, h]
theorem repr_ok {d : D} (h : rsh d = true) : reprF d = some (.str d.shown) ∧ PyData.strOk d.shown = true := by
  have h : ((isSq d = true ∧ rok d = true) ∧ d.depth ≤ 64) ∧ rwt d ≤ lim := by simpa [rsh] using h
  obtain ⟨a1, a2, a3, a4⟩ := rok_all d h.1.1.2
  refine ⟨?_, a3⟩
  unfold reprF reprD
  rw [if_pos h.1.1.1, if_pos ⟨by simp [SeqAt.shaped, a2, h.1.2], a1, Nat.le_trans a4 h.2⟩]
mutual
/-- the same data -/
def same : D → D → Bool
  | .none, .none => true
  | .bool a, .bool b => a == b
  | .int a, .int b => decide (a = b)
  | .str a, .str b => decide (a.cps.toList = b.cps.toList)
  | .list a, .list b => sameA a b
  | .tuple a, .tuple b => sameA a b
  | _, _ => false
def sameA : List D → List D → Bool
  | [], [] => true
  | a :: p, b :: q => same a b && sameA p q
  | _, _ => false
end
mutual
theorem same_eq : ∀ {a b : D}, same a b = true → a = b
  | .none, b, h => by cases b <;> simp [same] at h; rfl
  | .bool x, b, h => by cases b <;> simp [same] at h; rw [h]
  | .int x, b, h => by cases b <;> simp [same] at h; rw [h]
  | .str x, b, h => by
    cases b <;> simp [same] at h
    rename_i y
    cases x; cases y
    simp at h
    rw [h]
  | .list x, b, h => by
    cases b <;> simp [same] at h
    rw [sameA_eq h]
  | .tuple x, b, h => by
    cases b <;> simp [same] at h
    rw [sameA_eq h]
  | .dict x, b, h => by cases b <;> simp [same] at h
theorem sameA_eq : ∀ {a b : List D}, sameA a b = true → a = b
  | [], b, h => by cases b <;> simp [sameA] at h; rfl
  | x :: a, b, h => by
    cases b <;> simp [sameA] at h
    rw [same_eq h.1, sameA_eq h.2]
end
/-- repr(a) != repr(b), quickly where they are the same -/
def neR (a b : D) : Option Bool := if (same a b && rsh a) = true then some false else (reprF a).bind fun x => (reprF b).bind fun y => neD x y
theorem neR_eq (a b : D) : neR a b = (reprF a).bind fun x => (reprF b).bind fun y => neD x y := by
  unfold neR
  split
  · rename_i h
    rw [Bool.and_eq_true] at h
    obtain rfl := same_eq h.1
    obtain ⟨h1, h2⟩ := repr_ok h.2
    rw [h1]
    simp [neD_str h2]
  · rfl
def eqR (a b : D) : Option Bool := if (same a b && rsh a) = true then some true else (reprF a).bind fun x => (reprF b).bind fun y => eqD x y
theorem eqR_eq (a b : D) : eqR a b = (reprF a).bind fun x => (reprF b).bind fun y => eqD x y := by
  unfold eqR
  split
  · rename_i h
    rw [Bool.and_eq_true] at h
    obtain rfl := same_eq h.1
    obtain ⟨h1, h2⟩ := repr_ok h.2
    rw [h1]
    simp [eqD_str h2]
  · rfl
theorem op_neR (f g : Op D) : oB2 neD (oB1 reprF f) (oB1 reprF g) = oB2 neR f g := by
  funext e
  simp only [oB2, oB1, Op.bd, Op.gt]
  cases f e with
  | none => rfl
  | some r =>
    obtain ⟨a, e1⟩ := r
    dsimp only
    cases ha : reprF a with
    | none =>
      dsimp only
      cases g e1 with
      | none => rfl
      | some r => simp [neR_eq, ha]
    | some x =>
      dsimp only
      cases g e1 with
      | none => rfl
      | some r =>
        obtain ⟨b, e2⟩ := r
        dsimp only
        rw [neR_eq, ha]
        cases hb : reprF b with
        | none => simp
        | some y => simp [hb]
theorem op_eqR (f g : Op D) : oB2 eqD (oB1 reprF f) (oB1 reprF g) = oB2 eqR f g := by
  funext e
  simp only [oB2, oB1, Op.bd, Op.gt]
  cases f e with
  | none => rfl
  | some r =>
    obtain ⟨a, e1⟩ := r
    dsimp only
    cases ha : reprF a with
    | none =>
      dsimp only
      cases g e1 with
      | none => rfl
      | some r => simp [eqR_eq, ha]
    | some x =>
      dsimp only
      cases g e1 with
      | none => rfl
      | some r =>
        obtain ⟨b, e2⟩ := r
        dsimp only
        rw [eqR_eq, ha]
        cases hb : reprF b with
        | none => simp
        | some y => simp [hb]
section
variable {X : Cx} {m o : Bool} {ex : Expr} {t : TE} {tt : TT} {f g : Op D} {fb gb : Op Bool}
theorem cast_E (h : f = g) (p : E X m o ex t (lift f)) : E X m o ex t (lift g) := h ▸ p
theorem cast_T (h : fb = gb) (p : T X m ex tt (lift fb)) : T X m ex tt (lift gb) := h ▸ p
theorem cast_V (h : fb = gb) (p : E X m o ex t (lift (oVal fb))) : E X m o ex t (lift (oVal gb)) := h ▸ p
end
theorem neR_same {d : D} (h : rsh d = true) : neR d d = some false := by
  obtain ⟨h1, h2⟩ := repr_ok h
  rw [neR_eq, h1]
  simp [neD_str h2]
theorem eqR_same {d : D} (h : rsh d = true) : eqR d d = some true := by
  obtain ⟨h1, h2⟩ := repr_ok h
  rw [eqR_eq, h1]
  simp [eqD_str h2]
end Vl
/-! The value layer, 23: slices with a step. -/
namespace Vl
open PySem PySem.Spec PyProof.Rows L2 HT
/-- the places of xs[lo:hi:st] -/
def stB (lo hi : Option Int) (st : Int) (n : Nat) : Int × Nat := ((Builtin.Slice.sliceAdjust lo hi st (n : Int)).1, Builtin.Slice.slicePlaces (Builtin.Slice.sliceAdjust lo hi st (n : Int)).1 (Builtin.Slice.sliceAdjust lo hi st (n : Int)).2 st)
def pkAt {α : Type} (xs : List α) (is : List Nat) : List α := is.filterMap fun i => xs[i]?
def pkT {α : Type} (xs : List α) (lo hi : Option Int) (st : Int) : List α := pkAt xs ((List.range (stB lo hi st xs.length).2).map fun (k : Nat) => ((stB lo hi st xs.length).1 + (k : Int) * st).toNat)
def pkL {α : Type} (xs : List α) (lo hi : Option Int) (st : Int) : List α := pkAt xs (sliceRange (sliceBounds lo hi (some st) xs.length).1 (sliceBounds lo hi (some st) xs.length).2.1 (sliceBounds lo hi (some st) xs.length).2.2)
theorem pkAt_vals {xs : List V} {us : List Value} (r : Vals xs us) : ∀ is : List Nat, Vals (pkAt xs is) (pkAt us is)
  | [] => .nil
  | i :: is => by
    have ih := pkAt_vals r is
    unfold pkAt at *
    rw [List.filterMap_cons, List.filterMap_cons]
    have hl := r.length
    by_cases h : i < xs.length
    · have h2 : i < us.length := by omega
      rw [List.getElem?_eq_getElem h, List.getElem?_eq_getElem h2]
      obtain ⟨v, e1, e2⟩ := r.get (List.getElem?_eq_getElem h)
      rw [List.getElem?_eq_getElem h2] at e1
      obtain rfl := Option.some.inj e1
      exact .cons e2 ih
    · rw [List.getElem?_eq_none (by omega), List.getElem?_eq_none (by omega)]
      exact ih
theorem pkAt_all {α : Type} : ∀ (xs : List α), pkAt xs (List.range xs.length) = xs
  | [] => rfl
  | x :: xs => by
    have ih := pkAt_all xs
    unfold pkAt at *
    rw [List.length_cons, List.range_succ_eq_map, List.filterMap_cons]
    simp only [List.getElem?_cons_zero, List.filterMap_map]
    congr 1
theorem pkT_whole {α : Type} {xs : List α} {lo hi : Option Int} {st : Int} (h : (stB lo hi st xs.length).1 = 0 ∧ st = 1 ∧ (stB lo hi st xs.length).2 = xs.length) : pkT xs lo hi st = xs := by
  unfold pkT
  rw [h.1, h.2.2, h.2.1]
  have e : ((List.range xs.length).map fun (k : Nat) => ((0 : Int) + (k : Int) * 1).toNat) = List.range xs.length := by
    conv => rhs; rw [← List.map_id (List.range xs.length)]
    refine List.map_congr_left fun a _ => ?_
    show _ = a
    omega
  rw [e, pkAt_all]
section
variable {prog : Program} {w : World} {A : Around} {E : Value → Shared → Prop} {s : Shared}
theorem sliceApplied_st {sl : Addr} {vl vu vs : Value} {lo hi : Option Int} {st : Int} {n : Nat} {Q : Int × Int × Nat → Shared → Prop} (hs : s.heap.IsSliceOf sl vl vu vs) (pl : IsPart vl lo) (pu : IsPart vu hi) (ps : IsPart vs (some st)) (h0 : st ≠ 0)
    (h : Q ((stB lo hi st n).1, st, (stB lo hi st n).2) s) : wpAny (model prog w) A (Builtin.Slice.sliceApplied (.ref sl) (pure (n : Int))) Q E s := by
  obtain ⟨os, hos, hcs, hds⟩ := id hs
  unfold Builtin.Slice.sliceApplied Builtin.Slice.sliceFields
  refine wpAny_bind (wpAny_bind (wpAny_field hos hds (x := vl) rfl (wpAny_bind (wpAny_field hos hds (x := vu) rfl (wpAny_bind (wpAny_field hos hds (x := vs) rfl (wpAny_pure ?_)))))))
  refine wpAny_bind (slicePart_ ps ?_)
  show wpAny _ _ (if (st == 0) = true then _ else _) _ _ s
  rw [if_neg (by simpa using h0)]
  refine wpAny_bind (slicePart_ pl (wpAny_bind (slicePart_ pu (wpAny_bind (wpAny_pure ?_)))))
  show wpAny _ _ (match Builtin.Slice.sliceAdjust lo hi st (n : Int) with | (lo, hi) => pure (lo, st, Builtin.Slice.slicePlaces lo hi st)) _ _ s
  exact wpAny_pure h
theorem getItem_tuple_st {t sl : Addr} {items : Array Value} {vl vu vs : Value} {lo hi : Option Int} {st : Int} {Q : Value → Shared → Prop} (ht : IsTup s.heap t items) (hs : s.heap.IsSliceOf sl vl vu vs) (pl : IsPart vl lo) (pu : IsPart vu hi) (ps : IsPart vs (some st)) (h0 : st ≠ 0)
    (hz : (pkT items.toList lo hi st).length ≤ sizeLine)
    (q1 : ((stB lo hi st items.size).1 = 0 ∧ st = 1 ∧ (stB lo hi st items.size).2 = items.size) → Q (.ref t) s)
    (q2 : ¬ ((stB lo hi st items.size).1 = 0 ∧ st = 1 ∧ (stB lo hi st items.size).2 = items.size) → Q (.ref s.heap.objs.size) { s with heap := s.heap.push { cls := .type "tuple", data := .seq (pkT items.toList lo hi st).toArray } }) :
    wpAny (model prog w) A (getItem (.ref t) (.ref sl)) Q E s := by
  obtain ⟨os, hos, hcs, hds⟩ := id hs
  have hTs : s.TypeIs (.ref sl) "slice" := ⟨os, hos, hcs⟩
  unfold getItem
  try with_reducible refine wpAny_holding ?_
  first | refine wpAny_bind (wpAny_pure ?_) | skip
  refine wpAny_bind (wpAny_sequenceKey ht.typeIs (by decide) ?_)
  refine wpAny_bind (wpAny_callSpecial?_slot (name := Str.ofString "__getitem__") ht.typeIs PyProof.Rows.slot_tuple_getitem
    (wpAny_call_entry PyProof.Rows.slot_tuple_getitem ht.typeIs PyProof.Rows.entry_tuple_getitem ?_ (PyProof.Rows.args_tuple_getitem _ _)))
  show wpAny _ _ (Builtin.Tuple.tupleItemsOf (.ref t) >>= _) _ _ s
  refine wpAny_bind (tupleItemsOf_ ht ?_)
  refine wpAny_bind (wpAny_typeOf hTs ?_)
  rw [if_pos (by decide)]
  refine wpAny_bind (sliceApplied_st hs pl pu ps h0 ?_)
  have hc : ((((stB lo hi st items.size).1 == 0) && (st == 1) && ((stB lo hi st items.size).2 == items.size)) = true) ↔ ((stB lo hi st items.size).1 = 0 ∧ st = 1 ∧ (stB lo hi st items.size).2 = items.size) := by
    simp [and_assoc]
  show wpAny _ _ (if (((stB lo hi st items.size).1 == 0) && (st == 1) && ((stB lo hi st items.size).2 == items.size)) = true then _ else _) _ _ s
  by_cases hw : (stB lo hi st items.size).1 = 0 ∧ st = 1 ∧ (stB lo hi st items.size).2 = items.size
  · rw [if_pos (hc.mpr hw)]
    refine wpAny_bind ?_
    show wpAny _ _ (typeOf (.ref t) >>= fun T => pure (T == .type "tuple")) _ _ s
    refine wpAny_bind (wpAny_typeOf ht.typeIs (wpAny_pure ?_))
    first
      | rw [if_pos (by decide)]
      | simp only [beq_self_eq_true, if_true]
    first
      | exact wpAny_bind (wpAny_rule (wpAny_pure ⟨_, rfl, wpAny_pure (q1 hw)⟩))
      | exact wpAny_bind (wpAny_rule (wpAny_bind (wpAny_pure (wpAny_pure ⟨_, rfl, wpAny_pure (q1 hw)⟩))))
  · rw [if_neg (fun z => hw (hc.mp z))]
    have e : ((List.range (stB lo hi st items.size).2).filterMap fun (k : Nat) => items[((stB lo hi st items.size).1 + (k : Int) * st).toNat]?).toArray = (pkT items.toList lo hi st).toArray := by
      unfold pkT pkAt
      rw [List.filterMap_map]
      simp only [Array.length_toList]
      simp [Function.comp_def]
    have hsz : sizeOk (.seq (pkT items.toList lo hi st).toArray) := by
      show (pkT items.toList lo hi st).toArray.size ≤ sizeLine
      rw [List.size_toArray]; exact hz
    rw [e]
    have h := q2 hw
    first
      | exact wpAny_bind (m := Builtin.Tuple.tupleExact _) (wpAny_newObj_type (wpAny_pure ⟨_, rfl, wpAny_pure h⟩) hsz)
      | exact wpAny_bind (m := Builtin.Tuple.tupleExact _) (wpAny_newObj_type (wpAny_bind (wpAny_pure (wpAny_pure ⟨_, rfl, wpAny_pure h⟩))) hsz)
      | exact wpAny_bind (wpAny_bind (m := Builtin.Tuple.tupleExact _) (wpAny_newObj_type (wpAny_pure (wpAny_pure ⟨_, rfl, wpAny_pure h⟩)) hsz))
      | exact wpAny_bind (wpAny_bind (m := Builtin.Tuple.tupleExact _) (wpAny_newObj_type (wpAny_pure ⟨_, rfl, wpAny_pure h⟩) hsz))
end
section
variable {X : Cx} {e : Expr} {te : TE} {lo hi : Option Expr} {st : Expr} {tl th ts : TO} {pos p2 : Pos}
/-- what a slice of a value is, by values, with a step -/
def SlS (X : Cx) (r : V → Option Int → Option Int → Option Int → Hp → VK → Prop) : Prop :=
  ∀ (pins : List (Addr × Obj)) (s : Shared) (σ : L2.St) (H : Hp) (x : V) (v vl vu vs : Value) (lo hi st : Option Int) (sl : Addr) (Q : VK), Inv X pins σ H s → RelV x v → s.heap.IsSliceOf sl vl vu vs → IsPart vl lo → IsPart vu hi → IsPart vs st → r x lo hi st H Q →
    ∃ T id, typeLookup (.type T) "__getitem__" = pure (some (.builtin id)) ∧ s.TypeIs v T ∧ wpAny (model X.prog X.w) X.A (getItem v (.ref sl)) (EP X pins σ Q) X.xe s
def tSlS (r : V → Option Int → Option Int → Option Int → Hp → VK → Prop) (te : TE) (tl th ts : TO) : TE := fun σ H Q => te σ H fun x H1 => tl σ H1 fun l H2 => th σ H2 fun u H3 => ts σ H3 fun k H4 => r x l u k H4 Q
theorem pe_sliceS {r : V → Option Int → Option Int → Option Int → Hp → VK → Prop} (hr : SlS X r) (he : PE X e te) (hl : PO X lo tl) (hu : PO X hi th) (hs : PO X (some st) ts) : PE X (.Subscript e (.Slice lo hi (some st) p2) pos) (tSlS r te tl th ts) := by
  refine ⟨fun pins s σ H Q I h => ?_⟩
  refine Subscript_ (thn (he.run pins s σ H _ I h) fun v s1 ⟨x, H1, I1, r1, q1⟩ => ?_)
  refine wpAny_Slice (thn (hl.run pins s1 σ H1 _ I1 q1) fun vl s2 ⟨l, H2, I2, pl, q2⟩ => thn (hu.run pins s2 σ H2 _ I2 q2) fun vu s3 ⟨u, H3, I3, pu, q3⟩ => thn (hs.run pins s3 σ H3 _ I3 q3) fun vs s4 ⟨k, H4, I4, ps, q4⟩ => ?_)
  have I5 : Inv X pins σ H4 { s4 with heap := s4.heap.push { cls := .type "slice", data := .fields #[vl, vu, vs] } } := I4.kept (t' := s4.toks) fun b ob q => Heap.get?_push_of_some _ q
  obtain ⟨T, id, hT, ht, hg⟩ := hr pins { s4 with heap := s4.heap.push { cls := .type "slice", data := .fields #[vl, vu, vs] } } σ H4 x v vl vu vs l u k s4.heap.objs.size Q I5 r1 (Heap.IsSliceOf.new ..) pl pu ps q4
  show wpAny (model X.prog X.w) X.A (subscriptTail e (.Slice lo hi (some st) p2) v (.ref s4.heap.objs.size)) (EP X pins σ Q) X.xe { s4 with heap := s4.heap.push { cls := .type "slice", data := .fields #[vl, vu, vs] } }
  exact tail_any (ops := [v, .ref s4.heap.objs.size]) ht hT hg (by with_unfolding_all rfl)
/-- t[lo:hi:k] -/
def rStT (K : PySem.W.Frag) : V → Option Int → Option Int → Option Int → Hp → VK → Prop := fun x lo hi st H Q => ∃ a xs k, x = .ref a ∧ st = some k ∧ k ≠ 0 ∧ SqT K H a xs ∧ (pkT xs lo hi k).length ≤ sizeLine ∧
  (((stB lo hi k xs.length).1 = 0 ∧ k = 1 ∧ (stB lo hi k xs.length).2 = xs.length) → Q (.ref a) H) ∧ (¬ ((stB lo hi k xs.length).1 = 0 ∧ k = 1 ∧ (stB lo hi k xs.length).2 = xs.length) → NewT H Q (pkT xs lo hi k))
theorem pkT_vals {xs : List V} {us : List Value} (r : Vals xs us) (lo hi : Option Int) (k : Int) : Vals (pkT xs lo hi k) (pkT us lo hi k) := by
  unfold pkT
  rw [r.length]
  exact pkAt_vals r _
theorem sl_stT : SlS X (rStT X.K) := by
  intro pins s σ H x v vl vu vs lo hi st sl Q I rx hs pl pu ps h
  obtain ⟨a, xs, k, rfl, rfl, h0, hx, hz, q1, q2⟩ := h
  cases rx
  obtain ⟨its, r, ht, hz2⟩ := I.tuple hx
  have hlen : its.toArray.size = xs.length := by rw [List.size_toArray]; exact r.length.symm
  have rv := pkT_vals r lo hi k
  refine ⟨"tuple", _, PyProof.Rows.slot_tuple_getitem.lookup, ht.typeIs, ?_⟩
  refine getItem_tuple_st ht hs pl pu ps h0 (by rw [List.toList_toArray, ← rv.length]; exact hz) (fun w => ?_) (fun w => ?_)
  · rw [hlen] at w
    exact ⟨.ref a, H, I, rfl, q1 w⟩
  · rw [hlen] at w
    rw [List.toList_toArray]
    exact new_end (t' := s.toks) I rv hz (q2 w)
/-- xs[lo:hi:k], a list -/
def rStL (K : PySem.W.Frag) : V → Option Int → Option Int → Option Int → Hp → VK → Prop := fun x lo hi st H Q => ∃ a xs k, x = .ref a ∧ st = some k ∧ k ≠ 0 ∧ SqL K H a xs ∧ (pkL xs lo hi k).length ≤ sizeLine ∧ ∀ p, H p = none → Q (.ref p) (upd H p (.lst (pkL xs lo hi k)))
theorem pkL_vals {xs : List V} {us : List Value} (r : Vals xs us) (lo hi : Option Int) (k : Int) : Vals (pkL xs lo hi k) (slicePick us.toArray lo hi (some k)).toList := by
  unfold pkL slicePick
  rw [List.toList_toArray, List.size_toArray, ← r.length]
  have := pkAt_vals r (sliceRange (sliceBounds lo hi (some k) xs.length).1 (sliceBounds lo hi (some k) xs.length).2.1 (sliceBounds lo hi (some k) xs.length).2.2)
  unfold pkAt at *
  simpa using this
theorem sl_stL : SlS X (rStL X.K) := by
  intro pins s σ H x v vl vu vs lo hi st sl Q I rx hs pl pu ps h
  obtain ⟨a, xs, k, rfl, rfl, h0, hx, hz, q⟩ := h
  cases rx
  obtain ⟨its, r, ht, hz2⟩ := I.list hx
  have rv := pkL_vals r lo hi k
  refine ⟨"list", _, (PySem.slot_list_getitem.lookup), ht.isList.typeIs, ?_⟩
  refine wpAny_getItem_list_slice ht.isList hs pl pu ps (by simpa using h0) ?_ (by rw [List.size_toArray]; have := r.length; omega)
  refine ⟨.ref _, _, I.laid (t' := s.toks) (o := .lst (pkL xs lo hi k)) (fun b ob q => Heap.get?_push_of_some _ q) (Nat.le_refl _) ?_, rfl, q _ (I.hok.fresh (Nat.le_refl _))⟩
  exact ⟨hz, _, 0, rv, Heap.get?_push_size _ rfl⟩
end
section
variable {K : PySem.W.Frag} {H H' H0 : Hp} {Z Z' Z0 : Addr → Prop} {σ : L2.St} {e e' : Sto} {P P' : List (V × D)} {PW : List (Addr × List D)}
variable {X : Cx} {m m2 o o2 : Bool} {a b c : Expr} {ta tb tc : TE} {wa wb : Wp D} {fa fb : Op D} {pos p p2 : Pos} {wq : Wp QV} {fq : Op QV}
theorem zip_pkAt {vs : List V} {ds : List D} (hl : vs.length = ds.length) : ∀ is : List Nat, (pkAt vs is).length = (pkAt ds is).length ∧ ∀ p ∈ (pkAt vs is).zip (pkAt ds is), p ∈ vs.zip ds
  | [] => ⟨rfl, fun p hp => by simp [pkAt] at hp⟩
  | i :: is => by
    have ih := zip_pkAt hl is
    unfold pkAt at *
    rw [List.filterMap_cons, List.filterMap_cons]
    by_cases h : i < vs.length
    · have h2 : i < ds.length := by omega
      rw [List.getElem?_eq_getElem h, List.getElem?_eq_getElem h2]
      refine ⟨by simp [ih.1], fun p hp => ?_⟩
      rw [List.zip_cons_cons] at hp
      rcases List.mem_cons.mp hp with rfl | hp
      · exact mem_zipAt (List.getElem?_eq_getElem h) (List.getElem?_eq_getElem h2)
      · exact ih.2 p hp
    · rw [List.getElem?_eq_none (by omega), List.getElem?_eq_none (by omega)]
      exact ih
def stQ (o : Bool) (lo hi st : Option Int) (s : Bool × List D) : Option D := match st with
  | some k => if k = 0 then none else (match o, s.1 with
    | true, true => if (pkL s.2 lo hi k).length ≤ lim then some (.list (pkL s.2 lo hi k)) else none
    | false, false => if (pkT s.2 lo hi k).length ≤ lim then some (.tuple (pkT s.2 lo hi k)) else none
    | _, _ => none)
  | none => none
def wSt (o : Bool) (wq : Wp QV) (wl wh ws : Wp (Option Int)) : Wp D := Wp.bd wq fun q => Wp.bd wl fun l => Wp.bd wh fun h => Wp.bd ws fun s => Wp.gt fun e => (seqOf e q).bind (stQ o l h s)
def oSt (o : Bool) (wq : Op QV) (wl wh ws : Op (Option Int)) : Op D := Op.bd wq fun q => Op.bd wl fun l => Op.bd wh fun h => Op.bd ws fun s => Op.gt fun e => (seqOf e q).bind (stQ o l h s)
theorem lift_St (o : Bool) (f : Op QV) (g h s : Op (Option Int)) : lift (oSt o f g h s) = wSt o (lift f) (lift g) (lift h) (lift s) := by simp only [oSt, wSt, lift_bd, lift_gt]
theorem opened {v : V} {u : D} {kd : Bool} {ds : List D} {i : QV} (h : seqOf e i = some (false, ds)) (S : SR K H0 Z0 σ H e (qP v i P) PW) : SR K H0 Z0 σ H e ((v, .tuple ds) :: P) PW := by
  cases i with
  | inl i =>
    obtain ⟨x, _, e2⟩ := Option.map_eq_some_iff.mp (show (getO e i).map _ = some (false, ds) from h)
    cases e2
  | inr d =>
    cases d with
    | tuple ds' =>
      have e2 : ds' = ds := (Prod.mk.inj (Option.some.inj (show some (false, ds') = some (false, ds) from h))).2
      subst e2
      exact S
    | list ds' => exact absurd (Prod.mk.inj (Option.some.inj (show some (true, ds') = some (false, ds) from h))).1 (by decide)
    | none => exact (nomatch (show (none : Option (Bool × List D)) = some (false, ds) from h))
    | bool _ => exact (nomatch (show (none : Option (Bool × List D)) = some (false, ds) from h))
    | int _ => exact (nomatch (show (none : Option (Bool × List D)) = some (false, ds) from h))
    | str _ => exact (nomatch (show (none : Option (Bool × List D)) = some (false, ds) from h))
    | dict _ => exact (nomatch (show (none : Option (Bool × List D)) = some (false, ds) from h))
theorem stB_len {vs : List V} {ds : List D} (hl : vs.length = ds.length) (lo hi : Option Int) (k : Int) : (pkT vs lo hi k).length = (pkT ds lo hi k).length ∧ ∀ p ∈ (pkT vs lo hi k).zip (pkT ds lo hi k), p ∈ vs.zip ds := by
  unfold pkT
  rw [hl]
  exact zip_pkAt hl _
theorem stL_len {vs : List V} {ds : List D} (hl : vs.length = ds.length) (lo hi : Option Int) (k : Int) : (pkL vs lo hi k).length = (pkL ds lo hi k).length ∧ ∀ p ∈ (pkL vs lo hi k).zip (pkL ds lo hi k), p ∈ vs.zip ds := by
  unfold pkL
  rw [hl]
  exact zip_pkAt hl _
theorem e_stT {lo hi : Option Expr} {st : Expr} {tl th ts : TO} {wl wh ws : Wp (Option Int)} (hq : Sq X m a ta wq) (hl : Po X m lo tl wl) (hh : Po X m hi th wh) (hs : Po X m (some st) ts ws) : E X m false (.Subscript a (.Slice lo hi (some st) p2) pos) (tSlS (rStT X.K) ta tl th ts) (wSt false wq wl wh ws) := by
  refine ⟨pe_sliceS sl_stT hq.pe hl.po hh.po hs.po, ?_⟩
  intro H0 Z0 σ H e P PW k Q S h q
  refine hq.snd H0 Z0 σ H e P PW _ _ S h fun v u e1 H1 he ho S1 h1 => ?_
  refine hl.snd H0 Z0 σ H1 e1 _ PW _ _ S1 h1 fun l e2 H2 he2 S2 h2 => ?_
  refine hh.snd H0 Z0 σ H2 e2 _ PW _ _ S2 h2 fun r e3 H3 he3 S3 h3 => ?_
  refine hs.snd H0 Z0 σ H3 e3 _ PW _ _ S3 h3 fun j e4 H4 he4 S4 h4 => ?_
  obtain ⟨z, hz, hk⟩ := h4
  obtain ⟨⟨kd, ds⟩, h4, h5⟩ := Option.bind_eq_some_iff.mp hz
  obtain ⟨ad, vs, rfl, hl1, ht1, len, S5⟩ := SR.openQ (R := []) S4 ho h4
  have hm := mf (mf (mf he he2) he3) he4
  cases j with
  | none => cases h5
  | some j =>
    dsimp only [stQ] at h5
    by_cases h0 : j = 0
    · rw [if_pos h0] at h5; cases h5
    · rw [if_neg h0] at h5
      cases kd with
      | true => cases h5
      | false =>
        dsimp only at h5
        by_cases hzz : (pkT ds l r j).length ≤ lim
        · rw [if_pos hzz] at h5
          have h5 := Option.some.inj h5
          subst h5
          obtain ⟨plen, pz⟩ := stB_len len l r j
          refine ⟨ad, vs, j, rfl, rfl, h0, (ht1 rfl).sqT, by rw [plen]; exact lim_le hzz, fun hw => ?_, fun _ p ob np hd => ?_⟩
          · rw [len] at hw
            rw [pkT_whole hw] at hk
            exact q _ _ e4 H4 hm (opened (u := .none) (kd := true) h4 S4) hk
          · refine q _ _ e4 _ (mf1 hm (same_upd np)) ((S5.subP fun p hp => ?_ : SR X.K H0 Z0 σ H4 e4 ((pkT vs l r j).zip (pkT ds l r j) ++ P) PW).tup plen np hd) hk
            rcases List.mem_append.mp hp with hp | hp
            · exact List.mem_append_left _ (pz p hp)
            · exact List.mem_append_right _ (qP_sub p hp)
        · rw [if_neg hzz] at h5; cases h5
theorem e_stL {lo hi : Option Expr} {st : Expr} {tl th ts : TO} {wl wh ws : Wp (Option Int)} (hq : Sq X m a ta wq) (hl : Po X m lo tl wl) (hh : Po X m hi th wh) (hs : Po X m (some st) ts ws) : E X m true (.Subscript a (.Slice lo hi (some st) p2) pos) (tSlS (rStL X.K) ta tl th ts) (wSt true wq wl wh ws) := by
  refine ⟨pe_sliceS sl_stL hq.pe hl.po hh.po hs.po, ?_⟩
  intro H0 Z0 σ H e P PW k Q S h q
  refine hq.snd H0 Z0 σ H e P PW _ _ S h fun v u e1 H1 he ho S1 h1 => ?_
  refine hl.snd H0 Z0 σ H1 e1 _ PW _ _ S1 h1 fun l e2 H2 he2 S2 h2 => ?_
  refine hh.snd H0 Z0 σ H2 e2 _ PW _ _ S2 h2 fun r e3 H3 he3 S3 h3 => ?_
  refine hs.snd H0 Z0 σ H3 e3 _ PW _ _ S3 h3 fun j e4 H4 he4 S4 h4 => ?_
  obtain ⟨z, hz, hk⟩ := h4
  obtain ⟨⟨kd, ds⟩, h4, h5⟩ := Option.bind_eq_some_iff.mp hz
  obtain ⟨ad, vs, rfl, hl1, ht1, len, S5⟩ := SR.openQ (R := []) S4 ho h4
  have hm := mf (mf (mf he he2) he3) he4
  cases j with
  | none => cases h5
  | some j =>
    dsimp only [stQ] at h5
    by_cases h0 : j = 0
    · rw [if_pos h0] at h5; cases h5
    · rw [if_neg h0] at h5
      cases kd with
      | false => cases h5
      | true =>
        dsimp only at h5
        by_cases hzz : (pkL ds l r j).length ≤ lim
        · rw [if_pos hzz] at h5
          have h5 := Option.some.inj h5
          subst h5
          obtain ⟨plen, pz⟩ := stL_len len l r j
          refine ⟨ad, vs, j, rfl, rfl, h0, SqL.of (hl1 rfl), by rw [plen]; exact lim_le hzz, fun p np => ?_⟩
          refine q _ _ e4 _ (mf1 hm (same_upd np)) ⟨p, _, rfl, rfl, (S5.subP fun p hp => ?_ : SR X.K H0 Z0 σ H4 e4 ((pkL vs l r j).zip (pkL ds l r j) ++ P) PW).lst plen np⟩ hk
          rcases List.mem_append.mp hp with hp | hp
          · exact List.mem_append_left _ (pz p hp)
          · exact List.mem_append_right _ (qP_sub p hp)
        · rw [if_neg hzz] at h5; cases h5
theorem d_stT {lo hi : Option Expr} {st : Expr} {tl th ts : TO} {fl fh fs : Op (Option Int)} (hq : Sq X m a ta (lift fq)) (hl : Po X m lo tl (lift fl)) (hh : Po X m hi th (lift fh)) (hs : Po X m (some st) ts (lift fs)) : E X m false (.Subscript a (.Slice lo hi (some st) p2) pos) (tSlS (rStT X.K) ta tl th ts) (lift (oSt false fq fl fh fs)) := by
  rw [lift_St]; exact e_stT hq hl hh hs
theorem d_stL {lo hi : Option Expr} {st : Expr} {tl th ts : TO} {fl fh fs : Op (Option Int)} (hq : Sq X m a ta (lift fq)) (hl : Po X m lo tl (lift fl)) (hh : Po X m hi th (lift fh)) (hs : Po X m (some st) ts (lift fs)) : E X m true (.Subscript a (.Slice lo hi (some st) p2) pos) (tSlS (rStL X.K) ta tl th ts) (lift (oSt true fq fl fh fs)) := by
  rw [lift_St]; exact e_stL hq hl hh hs
@[simp] theorem ap_oSt (o : Bool) (wq : Op QV) (wl wh ws : Op (Option Int)) (e : Sto) : oSt o wq wl wh ws e = (Op.bd wq fun q => Op.bd wl fun l => Op.bd wh fun h => Op.bd ws fun s => Op.gt fun e => (seqOf e q).bind (stQ o l h s)) e := rfl
end
end Vl
/-! The value layer, 24: enumerate over tuples. -/
namespace Vl
open PySem PySem.Spec PyProof.Rows L2 HT
open Builtin Builtin.Str in
section
variable {prog : Program} {w : World} {A : Around} {E : Value → Shared → Prop} {s : Shared}
theorem nextOf_tup_item {it t : Addr} {i : Nat} {items : Array Value} {x : Value} {Q : Value → Shared → Prop} (hit : IsTupIter s.heap it t i)
    (ht : IsTup s.heap t items) (hx : items[i]? = some x)
    (hQ : ∀ h', IsTupIter h' it t (i + 1) → Heap.SameBut it s.heap h' → Q x { s with heap := h' }) :
    wpAny (model prog w) A (Builtin.SmallTypes.nextOf (.ref it)) Q E s := by
  obtain ⟨o, ho, hc, hd⟩ := id hit
  obtain ⟨ol, hol, _, nl, hdl⟩ := ht
  unfold Builtin.SmallTypes.nextOf
  refine wpAny_bind (wpAny_callSpecial?_slot (name := Str.ofString "__next__") hit.typeIs slot_tupleiter_next
    (wpAny_call_entry slot_tupleiter_next hit.typeIs entry_tupleiter_next ?_ (args_tupleiter_next _)))
  show wpAny _ _ (field (.ref it) 0 >>= _) _ _ s
  refine wpAny_bind (wpAny_field ho hd (x := .ref t) rfl ?_)
  show wpAny _ _ (if (Value.ref t == Value.none) = true then _ else _) _ _ s
  rw [if_neg (show ¬ ((Value.ref t == Value.none) = true) from Bool.false_ne_true)]
  show wpAny _ _ (field (.ref it) 1 >>= _) _ _ s
  refine wpAny_bind (wpAny_field ho hd (x := .int i 0) rfl ?_)
  show wpAny _ _ (seqItems? (.ref t) >>= _) _ _ s
  refine wpAny_bind (wpAny_seqItems hol hdl ?_)
  simp only [Int.toNat_natCast, hx]
  refine wpAny_bind (wpAny_setField ho hd (by simp) (wpAny_pure ⟨x, rfl, wpAny_pure (hQ _ ?_ (Heap.SameBut.update ..))⟩))
  exact ⟨_, Heap.get?_update_self _ ho (Obj.isFreed_of_fields (Obj.data_mapFields hd _)), (Obj.cls_mapFields ..).trans hc, by
    rw [Obj.data_mapFields hd]; simp [rawInt]⟩
theorem nextOf_tup_end {it t : Addr} {i : Nat} {items : Array Value} {Q : Value → Shared → Prop} (hh : A.handled = none)
    (hit : IsTupIter s.heap it t i) (ht : IsTup s.heap t items) (hx : items[i]? = none)
    (hE : ∀ h' e, Heap.ExtBut it s.heap h' → (∃ o, h'.get? e = some o ∧ o.cls = .type "StopIteration") → E (.ref e) { s with heap := h' }) :
    wpAny (model prog w) A (Builtin.SmallTypes.nextOf (.ref it)) Q E s := by
  obtain ⟨o, ho, hc, hd⟩ := id hit
  obtain ⟨ol, hol, _, nl, hdl⟩ := ht
  unfold Builtin.SmallTypes.nextOf
  refine wpAny_bind (wpAny_callSpecial?_slot (name := Str.ofString "__next__") hit.typeIs slot_tupleiter_next
    (wpAny_call_entry slot_tupleiter_next hit.typeIs entry_tupleiter_next ?_ (args_tupleiter_next _)))
  show wpAny _ _ (field (.ref it) 0 >>= _) _ _ s
  refine wpAny_bind (wpAny_field ho hd (x := .ref t) rfl ?_)
  show wpAny _ _ (if (Value.ref t == Value.none) = true then _ else _) _ _ s
  rw [if_neg (show ¬ ((Value.ref t == Value.none) = true) from Bool.false_ne_true)]
  show wpAny _ _ (field (.ref it) 1 >>= _) _ _ s
  refine wpAny_bind (wpAny_field ho hd (x := .int i 0) rfl ?_)
  show wpAny _ _ (seqItems? (.ref t) >>= _) _ _ s
  refine wpAny_bind (wpAny_seqItems hol hdl ?_)
  simp only [Int.toNat_natCast, hx]
  refine wpAny_bind (wpAny_rule (wpAny_bind (wpAny_setField ho hd (by simp) ?_)))
  show wpAny _ _ (newExc (.type "StopIteration") [] >>= _) _ _ _
  refine wpAny_bind ?_
  simp only [newExc, newTuple]
  refine wpAny_bind (wpAny_newObj_type ?_ (by size_fits))
  refine wpAny_bind (m := firstArgMember _ _) (wpAny_of_eq (a := Value.none) (by first | rfl | (simp only [firstArgMember]; rfl)) ?_)
  refine wpAny_newObj_type ?_ (by size_fits)
  simp only [raiseNew]
  refine wpAny_bind (wpAny_handled ?_)
  first | rw [show A.in1.handled = none from hh] | rw [hh]
  refine wpAny_bind (wpAny_pure (wpAny_throw ?_))
  exact hE _ _ (((Heap.SameBut.update ..).extBut.push _).push _) ⟨_, Heap.get?_push_size _ rfl, rfl⟩
end
theorem draws_tup {prog : Program} {w : World} {A : Around} {it t : Addr} {items : Array Value} (hh : A.handled = none) (hne : t ≠ it) :
    Draws prog w A it [it, t] items.size (fun i x => items[i]? = some x) (fun i h => IsTupIter h it t i ∧ IsTup h t items) where
  live := fun i h st => let ⟨⟨o, ho, _⟩, _⟩ := st; ⟨o, ho⟩
  frame := fun i h h' st k => by
    obtain ⟨⟨o, ho, r⟩, ⟨o2, ho2, r2⟩⟩ := st
    exact ⟨⟨o, k it (by simp) o ho, r⟩, ⟨o2, k t (by simp) o2 ho2, r2⟩⟩
  item := fun i s Q E hi st hQ => by
    obtain ⟨st, tt⟩ := st
    refine nextOf_tup_item st tt (x := items[i]) (by simp [hi]) fun h' a b => ?_
    exact hQ _ h' s.toks (by simp [hi]) ⟨a, by obtain ⟨o2, ho2, r2⟩ := tt; exact ⟨o2, (b.2 t hne).trans ho2, r2⟩⟩ b
  done := fun s Q E st hE => nextOf_tup_end hh st.1 st.2 (by simp) hE
theorem meets_enumerate_newT (l : Addr) (items : Array Value) :
    Meets (Builtin.«enumerate.__new__» ⟨[.type "enumerate", .ref l], []⟩) (fun _ R s => (∃ dct n sl, s.heap.get? l = some { cls := .type "tuple", dict := dct, data := .seq items n, slots := sl }) ∧
      R (.ok (.ret (.ref (s.heap.push { cls := .type "tuple_iterator", data := .fields #[.ref l, .int 0 0] }).objs.size)))
        { s with heap := (s.heap.push { cls := .type "tuple_iterator", data := .fields #[.ref l, .int 0 0] }).push { cls := .type "enumerate", data := .fields #[.none, .bool false, .ref s.heap.objs.size, rawInt 0, .none, .none] } }) :=
  .of_wp fun prog w A R s h => by
    obtain ⟨hp, g, d, tk, os⟩ := s; obtain ⟨⟨dct, n, sl, hl⟩, h⟩ := h
    have hsub := sub_enumerate
    have hL : IsTup (Shared.heap ⟨hp, g, d, tk, os⟩) l items := ⟨_, hl, rfl, n, rfl⟩
    wp_walk using AutoSeq1.wpAny_loadPart' hl
    refine wpAny_stack_any fun st => wpAny_pure ?_
    split
    · rename_i c _ _ _ _ _
      cases (c == Value.type "enumerate")
      · wp_walk using AutoSeq1.wpAny_loadPart' hl, iter_tuple hL
        exact ⟨_, rfl, h⟩
      · wp_walk using AutoSeq1.wpAny_loadPart' hl, iter_tuple hL
        exact ⟨_, rfl, h⟩
    · wp_walk using AutoSeq1.wpAny_loadPart' hl, iter_tuple hL
      exact ⟨_, rfl, h⟩
section
variable {prog : Program} {w : World} {A : Around} {E : Value → Shared → Prop} {s : Shared}
theorem call_enumerate_tup {l : Addr} {items : Array Value} {Q : Value → Shared → Prop} (hL : IsTup s.heap l items)
    (h : ∀ h', IsEnum h' (s.heap.objs.size + 1) s.heap.objs.size 0 .none → IsTupIter h' s.heap.objs.size l 0 → h'.objs.size = s.heap.objs.size + 2 →
      (∀ b o, s.heap.get? b = some o → h'.get? b = some o) → Q (.ref (s.heap.objs.size + 1)) { s with heap := h' }) :
    wpAny (model prog w) A (call (.type "enumerate") [.ref l]) Q E s := by
  obtain ⟨⟨c, dct, dt, sl⟩, hl, hc, n, hd⟩ := hL
  replace hc : c = .type "tuple" := hc
  replace hd : dt = .seq items n := hd
  subst hc hd
  refine callType_new F.called_enumerate (by decide) (F.typeCall_enumerate_1 _) (F.newCall_enumerate_1 _) (fun obj => F.args_object_init_2 obj _) F.entry_enumerate_new
    (meets_enumerate_newT l items) ⟨⟨_, _, _, hl⟩, ?_⟩
  have hz : (s.heap.push { cls := .type "tuple_iterator", data := .fields #[.ref l, .int 0 0] }).objs.size = s.heap.objs.size + 1 := Heap.size_push ..
  show _ ∧ _
  rw [hz]
  have he : IsEnum ((s.heap.push { cls := .type "tuple_iterator", data := .fields #[.ref l, .int 0 0] }).push
      { cls := .type "enumerate", data := .fields #[.none, .bool false, .ref s.heap.objs.size, rawInt 0, .none, .none] }) (s.heap.objs.size + 1) s.heap.objs.size 0 .none := by
    have := Heap.get?_push_size (s.heap.push { cls := .type "tuple_iterator", data := .fields #[.ref l, .int 0 0] })
      (o := { cls := .type "enumerate", data := .fields #[.none, .bool false, .ref s.heap.objs.size, rawInt 0, .none, .none] }) rfl
    rw [hz] at this; exact this
  refine ⟨⟨_, he, rfl⟩, h _ he ⟨_, Heap.get?_push_of_some _ (Heap.get?_push_size _ rfl), rfl, rfl⟩ (by rw [Heap.size_push, hz]) fun b o x => Heap.get?_push_of_some _ (Heap.get?_push_of_some _ x)⟩
end
theorem pyNext_enumT_end {prog : Program} {w : World} {A : Around} {E : Value → Shared → Prop} {s : Shared} {e it t : Addr} {i : Nat} {j : Int} {items : Array Value} {old : Value} {Q : Option Value → Shared → Prop} (hh : A.handled = none)
    (he : IsEnum s.heap e it j old) (hit : IsTupIter s.heap it t i) (ht : IsTup s.heap t items) (hx : items[i]? = none)
    (hQ : ∀ h', Heap.ExtBut it s.heap h' → Q none { s with heap := h' }) : wpAny (model prog w) A (pyNext (.ref e)) Q E s := by
  have hT : s.TypeIs (.ref e) "enumerate" := ⟨_, he, rfl⟩
  unfold pyNext
  refine wpAny_bind (wpAny_attempt (wpAny_callSpecial?_slot (name := Str.ofString "__next__") hT F.slot_enumerate_next
    (wpAny_call_entry F.slot_enumerate_next hT F.entry_enumerate_next ?_ (F.args_enumerate_next_1 _))))
  show wpAny _ _ (field (.ref e) 2 >>= _) _ _ _
  refine wpAny_bind (wpAny_field he rfl (x := .ref it) rfl ?_)
  refine wpAny_bind (nextOf_tup_end (show A.in1.handled = none from hh) hit ht hx fun h' x he' hx' => ?_)
  obtain ⟨o, ho, hc⟩ := hx'
  refine wpAny_bind (wpAny_isInstance (T := "StopIteration") (b := true) ⟨o, ho, hc⟩ isSubtype_stop ?_)
  exact wpAny_pure (hQ _ he')
/-- the tuple at a, each item in a new pair -/
def IteT (K : PySem.W.Frag) (a : Addr) : It :=
  ⟨fun i H => ∃ (xs : List V) (x : V), SqT K H a xs ∧ xs[i]? = some x, fun i H v H' => ∃ T x, v = .ref T ∧ H T = none ∧ H' = upd H T (.tup [.int (i : Nat), x]) ∧ ∀ xs, SqT K H a xs → xs[i]? = some x, fun i H => ∃ xs : List V, SqT K H a xs ∧ xs.length ≤ i⟩
theorem turn_enumT {P : Program} {w : World} {K : PySem.W.Frag} {elts : List Expr} {kk : Nat} {tpos : Pos} (a e it : Addr) (hae : a ≠ e) (hai : a ≠ it) :
    Turn P w K (.Tuple elts kk tpos) (IteT K a) [e, it] e (fun i h => (∃ old, IsEnum h e it ((i : Nat) : Int) old) ∧ IsTupIter h it a i ∧ e ≠ it) where
  mem := by simp
  obj := fun i h st b hb => by
    obtain ⟨⟨old, he⟩, ⟨o, ho, hc, hd⟩, _⟩ := st
    have e' : b = e ∨ b = it := by simpa using hb
    rcases e' with z | z
    · rw [z]; exact ⟨_, he, fun v q => nomatch q⟩
    · rw [z]; exact ⟨o, ho, fun v q => by rw [hd] at q; cases q⟩
  keep := fun i h h' st k => let ⟨⟨old, he⟩, ⟨o, ho, r⟩, hne⟩ := st; ⟨⟨old, k e (by simp) _ he⟩, ⟨o, k it (by simp) o ho, r⟩, hne⟩
  item := by
    intro X hP hw hK hc i pins s σ H E I hf st hg
    subst hP hw hK
    obtain ⟨⟨old, he⟩, hit, hne⟩ := st
    obtain ⟨xs, x, hq, hx⟩ := hg
    obtain ⟨its, rv, p, hz⟩ := I.tuple hq
    obtain ⟨u, hu, ru⟩ := rv.get hx
    have hel : e < s.heap.objs.size := Heap.lt_size he
    have hil : it < s.heap.objs.size := by obtain ⟨_, q, _⟩ := hit; exact Heap.lt_size q
    have hlt : i < its.toArray.size := by
      rw [List.size_toArray]
      exact (List.getElem?_eq_some_iff.mp hu).1
    refine wpAny_pyNext_enum_itemD (draws_tup (A := X.A.in1) (items := its.toArray) (show X.A.in1.handled = none from I.ok.hd hc) hai) he ⟨hit, p⟩ hlt hne (by simp [hne, Ne.symm hae]) fun u' h' tk hu' ho hst' hT hsz hk => ?_
    have eu : u' = u := by
      have h1 : its[i]? = some u' := by simpa using hu'
      rw [hu] at h1
      exact (Option.some.inj h1).symm
    subst eu
    refine ⟨_, rfl, wpAny_letOwnedTupleGo_enum (s := { s with heap := h', toks := tk + 1 }) ho fun h'' he' sb => ?_⟩
    have hT2 : h''.get? s.heap.objs.size = some { cls := .type "tuple", data := .seq #[.int i tk, u'] } := (sb.2 _ (Nat.ne_of_gt hel)).trans hT
    have new : ObjOk X.prog X.w (upd H s.heap.objs.size (.tup [.int (i : Nat), x])) h'' s.heap.objs.size (.tup [.int (i : Nat), x]) :=
      ⟨by show 2 ≤ sizeLine; decide, [.int i tk, u'], .cons ⟨_, rfl⟩ (.cons ru .nil), ⟨_, hT2, rfl, _, rfl⟩⟩
    have I1 : Inv X pins σ (upd H s.heap.objs.size (.tup [.int (i : Nat), x])) { s with heap := h'', toks := tk + 1 } :=
      I.turnedNew (ch := [e, it]) (fun b ob hb q => (sb.2 b (fun z => hb (by simp [z]))).trans (hk b ob (fun z => hb (by simp [z])) (fun z => hb (by simp [z])) q)) hf (Nat.le_refl _) new
    refine ⟨.ref s.heap.objs.size, _, I1, rfl, ⟨_, x, rfl, I.hok.fresh (Nat.le_refl _), rfl, fun ys hy => by rw [I.tuple_inj hy hq]; exact hx⟩, ⟨⟨u', ?_⟩, ?_, hne⟩, fun b hb => ?_⟩
    · have e1 : ((i + 1 : Nat) : Int) = (i : Int) + 1 := by omega
      rw [e1]; exact he'
    · obtain ⟨o, q1, q2⟩ := hst'.1
      exact ⟨o, (sb.2 it (Ne.symm hne)).trans q1, q2⟩
    · have hb' : b < s.heap.objs.size := by
        have e' : b = e ∨ b = it := by simpa using hb
        rcases e' with z | z
        · rw [z]; exact hel
        · rw [z]; exact hil
      rw [upd_ne (Nat.ne_of_lt hb')]
      exact (hf b hb).1
  done := by
    intro X hP hw hK hc i pins s σ H E I hf st hg
    subst hP hw hK
    obtain ⟨⟨old, he⟩, hit, hne⟩ := st
    obtain ⟨xs, hq, hx⟩ := hg
    obtain ⟨its, rv, p, hz⟩ := I.tuple hq
    obtain ⟨f0, f1, f2, f3, f4, f5⟩ := hf it (by simp)
    have hl := rv.length
    exact pyNext_enumT_end (I.ok.hd hc) he hit p (by simp; omega) fun h' eb => ⟨rfl, I.turned (t' := s.toks) (fun b o hb q => eb b o hb q) f0 f1 f3 f4 f5⟩
  self := fun A i s Q E st h => let ⟨⟨_, he⟩, _⟩ := st; wpAny_pyIter_enum he h
def iEnumA (K : PySem.W.Frag) (ta : TA) : TI := fun σ H R => ta σ H fun vs H1 => ∃ a xs, vs = [.ref a] ∧ ((SqL K H1 a xs ∧ R (Ite K a) H1) ∨ (SqT K H1 a xs ∧ R (IteT K a) H1))
theorem pi_enumA {X : Cx} {e : Expr} {ta : TA} {p pos tpos : Pos} {elts : List Expr} {kk : Nat} (hg : Gl X "enumerate") (hm : X.mg "enumerate" = none) (ha : PA X [e] ta) (hs : starEach [e] X.env = [(false, eval e X.env)] := by rfl) :
    PI X (.Tuple elts kk tpos) (.Call (.Name "enumerate" p) [e] [] pos) (iEnumA X.K ta) := by
  refine ⟨fun pins s σ H R I h => ?_⟩
  refine Call_ (ld_blt I hg hm boot_enumerate (PyProof.Rows.callWith_type1 (thn (ha.run pos pins s σ H _ I h) fun us s1 ⟨vs, H1, I1, r1, q1⟩ => ?_) hs rfl))
  obtain ⟨a, xs, ex, hq⟩ := q1
  subst ex
  cases r1 with
  | cons r rr =>
    cases rr
    cases r
    have new : ∀ b, (b = s1.heap.objs.size + 1 ∨ b = s1.heap.objs.size) → s1.heap.objs.size ≤ b := fun b e' => by
      rcases e' with z | z
      · rw [z]; exact Nat.le_add_right _ _
      · rw [z]; exact Nat.le_refl _
    rcases hq with ⟨hq, q⟩ | ⟨hq, q⟩
    · obtain ⟨its, rv, p', hz⟩ := I1.list hq
      refine call_enumerate_list p'.isList fun h' he hit hsz hk => wpAny_pyIter_enum he ?_
      have I2 : Inv X pins σ H1 { s1 with heap := h' } := I1.kept (t' := s1.toks) hk
      refine ⟨s1.heap.objs.size + 1, [s1.heap.objs.size + 1, s1.heap.objs.size], _, _, H1, rfl, I2, turn_enum a (s1.heap.objs.size + 1) s1.heap.objs.size, ⟨⟨.none, he⟩, hit, Nat.succ_ne_self _⟩, fun b hb => ?_, q⟩
      have hle := new b (by simpa using hb)
      exact I1.fpOk hle (I1.hok.fresh hle)
    · obtain ⟨its, rv, p', hz⟩ := I1.tuple hq
      have hlt := p'.lt
      refine call_enumerate_tup p' fun h' he hit hsz hk => wpAny_pyIter_enum he ?_
      have I2 : Inv X pins σ H1 { s1 with heap := h' } := I1.kept (t' := s1.toks) hk
      refine ⟨s1.heap.objs.size + 1, [s1.heap.objs.size + 1, s1.heap.objs.size], _, _, H1, rfl, I2, turn_enumT a (s1.heap.objs.size + 1) s1.heap.objs.size (Nat.ne_of_lt (Nat.lt_succ_of_lt hlt)) (Nat.ne_of_lt hlt), ⟨⟨.none, he⟩, hit, Nat.succ_ne_self _⟩, fun b hb => ?_, q⟩
      have hle := new b (by simpa using hb)
      exact I1.fpOk hle (I1.hok.fresh hle)
section
variable {K : PySem.W.Frag} {H H' H0 : Hp} {Z Z' Z0 : Addr → Prop} {σ : L2.St} {e e' : Sto} {P P' : List (V × D)} {PW : List (Addr × List D)}
variable {X : Cx} {m m2 o o2 : Bool} {a b c : Expr} {ta tb tc : TE} {wa wb : Wp D} {fa fb : Op D} {pos p p2 : Pos}
theorem trn_enumT {ad : Addr} {xs : List D} : Trn K σ (IteT K ad) [(.ref ad, .tuple xs)] none (enumL 0 xs) := by
  intro H0 Z0 σ' H e P PW S _
  have S0 : SR K H0 Z0 σ' H e ((.ref ad, .tuple xs) :: P) PW := S
  obtain ⟨Z, F, W, s, S1⟩ := id S0
  have ra := S1.fz (.ref ad, .tuple xs) List.mem_cons_self
  cases ra with
  | @tup _ vs _ ha ra =>
    have l1 := ra.length
    refine ⟨fun i hi => ⟨vs, ha.sqT, by rw [enumL_len] at hi; omega⟩, fun i d hd => ?_⟩
    rw [enumL_at] at hd
    obtain ⟨c, h2, rfl⟩ := Option.map_eq_some_iff.mp hd
    obtain ⟨x, hx, rx⟩ := ra.get h2
    refine ⟨⟨vs, x, ha.sqT, hx⟩, fun v H' hyl => ?_⟩
    obtain ⟨t, x', rfl, nt, rfl, g⟩ := hyl
    have ex : x = x' := Option.some.inj (hx.symm.trans (g vs ha.sqT))
    subst ex
    rw [Nat.zero_add]
    exact ⟨same_upd nt, pair_new (P := [(.ref ad, .tuple xs)] ++ P) ⟨Z, F, W, s, (S1.addP rx).addP (.int _)⟩ nt⟩
/-- enumerate of a list or a tuple -/
def enumA : D → Option (List D)
  | .list xs => some (enumL 0 xs)
  | .tuple xs => some (enumL 0 xs)
  | _ => none
theorem i_enumA {elts : List Expr} {kk : Nat} {tpos : Pos} (hg : Gl X "enumerate") (hm : X.mg "enumerate" = none) (ha : E X m false a ta wa) (hs : starEach [a] X.env = [(false, eval a X.env)] := by rfl) :
    Vl.Itr X m none (.Tuple elts kk tpos) (.Call (.Name "enumerate" p) [a] [] pos) (iEnumA X.K (tCons ta tNil)) (wB1 enumA wa) := by
  refine ⟨pi_enumA hg hm (pa_cons ha.pe pa_nil hs) hs, ?_⟩
  intro H0 Z0 σ H e P PW k R S h q
  refine ha.snd H0 Z0 σ H e P PW _ _ S h fun v d e1 H1 he S1 h1 => ?_
  obtain ⟨z, hz, hk⟩ := h1
  have S1 : SR X.K H0 Z0 σ H1 e1 ((v, d) :: P) PW := S1
  cases d with
  | list xs =>
    obtain rfl := Option.some.inj (show some _ = some z from hz)
    obtain ⟨ad, vs, rfl, h3, _, _⟩ := S1.openL
    exact ⟨ad, vs, rfl, .inl ⟨SqL.of h3, q _ [(.ref ad, .list xs)] _ e1 H1 he S1 (fun i z => nomatch z) trn_enum hk⟩⟩
  | tuple xs =>
    obtain rfl := Option.some.inj (show some _ = some z from hz)
    obtain ⟨ad, vs, rfl, h3, _, _⟩ := S1.openT
    exact ⟨ad, vs, rfl, .inr ⟨h3.sqT, q _ [(.ref ad, .tuple xs)] _ e1 H1 he S1 (fun i z => nomatch z) trn_enumT hk⟩⟩
  | _ => cases hz
theorem di_enumA {elts : List Expr} {kk : Nat} {tpos : Pos} (hg : Gl X "enumerate") (hm : X.mg "enumerate" = none) (ha : E X m false a ta (lift fa)) (hs : starEach [a] X.env = [(false, eval a X.env)] := by rfl) :
    Vl.Itr X m none (.Tuple elts kk tpos) (.Call (.Name "enumerate" p) [a] [] pos) (iEnumA X.K (tCons ta tNil)) (lift (oB1 enumA fa)) := by rw [lift_B1]; exact i_enumA hg hm ha hs
end
end Vl
/-! The value layer, 25: one of two lists of this frame's, by another name, taken from. -/
namespace Vl
open PySem PySem.Spec PyProof.Rows L2
section
variable {K : PySem.W.Frag} {H H' H0 : Hp} {Z Z' Z0 : Addr → Prop} {σ : L2.St} {e e' : Sto} {P P' : List (V × D)} {PW : List (Addr × List D)}
variable {X : Cx} {m m2 o o2 : Bool} {c : Expr} {tt : TT} {wt : Wp Bool} {ft : Op Bool} {u : TS} {w2 : Wp Fl} {f2 : Op Fl} {sts : List Stmt}
theorem SR.setU (S : SR K H0 Z0 σ H e P PW) (i : Nat) (x : Option V) : SR K H0 Z0 (σ.set i x) H (e.set i .un) P PW := by
  obtain ⟨Z, F, W, s, S⟩ := S
  obtain ⟨F', W', s', hf, hw⟩ := s.setU (i := i) (x := x)
  have hs : (PW ++ W').Sublist (PW ++ W) := (List.Sublist.refl _).append hw
  refine ⟨Z, F', W', s', S.sub (fun p h => ?_) (fun q h => hs.subset h) (S.nd.sublist (hs.map _))⟩
  rcases List.mem_append.mp h with h | h
  · exact List.mem_append_left _ h
  · exact List.mem_append_right _ (hf p h)
/-- the slot h names the list of slot i: it is forgotten; the list's first item goes behind slot f's -/
def oTk (h f i : Nat) : Op Fl := oSeq (Op.md fun e => if h < e.length then some (e.set h .un) else none) (oDo (oMut f appG (oCons (oMut i popAtG (oCons (Op.ret (.int 0)) (Op.ret []))) (Op.ret []))))
def wTk (h f i : Nat) : Wp Fl := lift (oTk h f i)
abbrev tTk2 (K : PySem.W.Frag) (h f : Nat) : TS := tDrop (tBM K "list" rAppend (tVar f) (tCons (tBM K "list" rPopAt (tVar h) (tCons (tC (.int 0)) tNil)) tNil))
theorem snd_tk {h f i : Nat} (hf : h ≠ f) (hi : h ≠ i) {H0 Z0 σ H e P} {k : Fl → Sto → Prop} {Dn : Ends} (S : SR K H0 Z0 σ H e P []) (hw : wTk h f i e k) (qn : ∀ σ' H' e', SR K H0 Z0 σ' H' e' P [] → k .nx e' → Dn.nx σ' H') :
    ∃ v, σ[i]? = some (some v) ∧ tTk2 K h f Dn (σ.set h (some v)) H := by
  unfold wTk oTk at hw
  simp only [lift_Seq, lift_md, lift_Do, lift_Mut, lift_Cons, lift_ret] at hw
  obtain ⟨e2, h2, hw⟩ := hw
  dsimp only at h2
  by_cases lh : h < e.length
  · rw [if_pos lh] at h2
    obtain rfl := (Option.some.inj h2).symm
    obtain ⟨df, h3, di, h4, hw⟩ := hw
    dsimp only at hw h3 h4
    have S2' : ∀ x, SR K H0 Z0 (σ.set h x) H (e.set h .un) P [] := fun x => S.setU h x
    have gi : Vl.getO (e.set h .un) i = some di := h4
    obtain ⟨ai, vsi, e1, e2', _, _⟩ := (S2' none).getO gi
    rw [List.getElem?_set_ne hi] at e1
    refine ⟨_, e1, ?_⟩
    have S2 := S2' (some (.ref ai))
    have lh2 : h < σ.length := by rw [S.length]; exact lh
    obtain ⟨af, vsf, e3, e4, _, _⟩ := S2.getO h3
    refine ⟨.ref af, e3, tyL e4, .ref ai, by rw [List.getElem?_set_self lh2], tyL e2', ?_⟩
    have e1' : (σ.set h (some (.ref ai)))[i]? = some (some (.ref ai)) := by rw [List.getElem?_set_ne hi]; exact e1
    simp only [wCons, Wp.bd, Wp.ret] at hw
    refine SR.mut popAtS (xs := [.int 0]) (ds := [.int 0]) rfl S2.int e1' hw fun v d e3' H3 S3 hk => ?_
    exact SR.mut appS (xs := [v]) (ds := [d]) rfl S3 e3 hk fun v' d' e4' H4 S4 h4' => qn _ _ _ S4.tl h4'
  · rw [if_neg lh] at h2; cases h2
theorem snd_laid {i j h f : Nat} (hf : h ≠ f) (hi : h ≠ i) (hj : h ≠ j) (hc : SndT K true tt wt) (hu : SndS K o u w2) :
    SndS K o (tSeq (tAsg (tIf tt (tVar i) (tVar j)) (gName h)) (tSeq (tTk2 K h f) u)) (wSeq (wIf wt (wTk h f i) (wTk h f j)) w2) := by
  intro H0 Z0 σ H e P k Dn S hw qn qb qc qr
  refine hc H0 Z0 σ H e P [] _ _ S hw fun c e1 H1 _ S1 h1 => ?_
  have go : ∀ (l : Nat) (k2 : Fl → Sto → Prop), (∀ e2, k2 .nx e2 → w2 e2 k) → h ≠ l → (wTk h f l) e1 k2 → ∃ v, σ[l]? = some (some v) ∧ tSeq (tTk2 K h f) u Dn (σ.set h (some v)) H1 := fun l k2 h2 hl hw =>
    snd_tk (Dn := { Dn with nx := u Dn }) hf hl S1 hw fun σ' H' e' S' h' => hu H0 Z0 σ' H' e' P k Dn S' (h2 _ h') qn qb qc qr
  cases c with
  | true => exact iteT (go i _ (fun e2 z => z) hi h1)
  | false => exact iteF (go j _ (fun e2 z => z) hj h1)
theorem ss_laid {i j h f : Nat} {xh xi xj : Str} {ex : Expr} {wx : Wp D} {p1 p2 p3 p4 p5 p6 : Pos} (hN : X.N.Nodup) (hc : T X true c tt wt) (hs : Sts X o sts u w2)
    (pe2 : E X true false ex (tBM X.K "list" rAppend (tVar f) (tCons (tBM X.K "list" rPopAt (tVar h) (tCons (tC (.int 0)) tNil)) tNil)) wx)
    (hf : h ≠ f := by decide) (hi : h ≠ i := by decide) (hj : h ≠ j := by decide)
    (hNi : X.N[i]? = some xi := by rfl) (hvi : Vis X.env.scope xi := by first | exact Or.inl rfl | exact Or.inr (Or.inl rfl) | exact Or.inr (Or.inr rfl)) (hdi : (xi == ("__debug__" : Str)) = false := by decide) (hci : (xi == ("__classdict__" : Str)) = false := by decide)
    (hNj : X.N[j]? = some xj := by rfl) (hvj : Vis X.env.scope xj := by first | exact Or.inl rfl | exact Or.inr (Or.inl rfl) | exact Or.inr (Or.inr rfl)) (hdj : (xj == ("__debug__" : Str)) = false := by decide) (hcj : (xj == ("__classdict__" : Str)) = false := by decide)
    (hNh : X.N[h]? = some xh := by rfl) (hx : Loc X.env.scope xh := by first | exact Or.inl rfl | exact Or.inr rfl) (hs1 : swapsWith (.IfExp c (.Name xi p2) (.Name xj p3) p4) (some (.Name xh p1)) p5.line X.env = pure false := by rfl) (hfn : X.fn xh = true ∨ X.env.scope.names.lookup xh = some .local := by first | exact .inl rfl | exact .inr rfl | assumption)
    (hsw : swapsWith ex none p6.line X.env = pure false := by rfl) :
    Sts X o (.Assign [.Name xh p1] (.IfExp c (.Name xi p2) (.Name xj p3) p4) p5 :: .Expr ex p6 :: sts) (tSeq (tAsg (tIf tt (tVar i) (tVar j)) (gName h)) (tSeq (tTk2 X.K h f) u)) (wSeq (wIf wt (wTk h f i) (wTk h f j)) w2) :=
  ⟨pss_cons (ps_set hN hNh hx (pe_ifExp hc.pt (pe_var hNi hvi hdi hci) (pe_var hNj hvj hdj hcj)) hs1 hfn) (pss_cons (ps_expr pe2.pe hsw) hs.ps), snd_laid hf hi hj hc.snd hs.snd⟩
theorem dss_laid {i j h f : Nat} {xh xi xj : Str} {ex : Expr} {wx : Wp D} {p1 p2 p3 p4 p5 p6 : Pos} (hN : X.N.Nodup) (hc : T X true c tt (lift ft)) (hs : Sts X o sts u (lift f2))
    (pe2 : E X true false ex (tBM X.K "list" rAppend (tVar f) (tCons (tBM X.K "list" rPopAt (tVar h) (tCons (tC (.int 0)) tNil)) tNil)) wx)
    (hf : h ≠ f := by decide) (hi : h ≠ i := by decide) (hj : h ≠ j := by decide)
    (hNi : X.N[i]? = some xi := by rfl) (hvi : Vis X.env.scope xi := by first | exact Or.inl rfl | exact Or.inr (Or.inl rfl) | exact Or.inr (Or.inr rfl)) (hdi : (xi == ("__debug__" : Str)) = false := by decide) (hci : (xi == ("__classdict__" : Str)) = false := by decide)
    (hNj : X.N[j]? = some xj := by rfl) (hvj : Vis X.env.scope xj := by first | exact Or.inl rfl | exact Or.inr (Or.inl rfl) | exact Or.inr (Or.inr rfl)) (hdj : (xj == ("__debug__" : Str)) = false := by decide) (hcj : (xj == ("__classdict__" : Str)) = false := by decide)
    (hNh : X.N[h]? = some xh := by rfl) (hx : Loc X.env.scope xh := by first | exact Or.inl rfl | exact Or.inr rfl) (hs1 : swapsWith (.IfExp c (.Name xi p2) (.Name xj p3) p4) (some (.Name xh p1)) p5.line X.env = pure false := by rfl) (hfn : X.fn xh = true ∨ X.env.scope.names.lookup xh = some .local := by first | exact .inl rfl | exact .inr rfl | assumption)
    (hsw : swapsWith ex none p6.line X.env = pure false := by rfl) :
    Sts X o (.Assign [.Name xh p1] (.IfExp c (.Name xi p2) (.Name xj p3) p4) p5 :: .Expr ex p6 :: sts) (tSeq (tAsg (tIf tt (tVar i) (tVar j)) (gName h)) (tSeq (tTk2 X.K h f) u)) (lift (oSeq (oIf ft (oTk h f i) (oTk h f j)) f2)) := by
  rw [lift_Seq, lift_If]
  exact ss_laid hN hc hs pe2 hf hi hj hNi hvi hdi hci hNj hvj hdj hcj hNh hx hs1 hfn hsw
@[simp] theorem ap_oTk (h f i : Nat) (e : Sto) : oTk h f i e = (oSeq (Op.md fun e => if h < e.length then some (e.set h .un) else none) (oDo (oMut f appG (oCons (oMut i popAtG (oCons (Op.ret (.int 0)) (Op.ret []))) (Op.ret []))))) e := rfl
/-! ### repr(a) != repr(b) -/
variable {a b : Expr} {ta tb : TE} {fa fb : Op D} {pos : Pos}
theorem dt_eqR {k : Nat} (hr : Room k X.A) (ha : Bo X a ta (lift (oB1 reprF fa))) (hb : Bo X b tb (lift (oB1 reprF fb))) (hmk : behindInMarks .Eq b = false := by first | exact nobehind _ (by decide) (by decide) | rfl) : T X m (.Compare a [.Eq] [b] pos) (tTest (tOp (rEqD X.K) ta tb)) (lift (oB2 eqR fa fb)) := by
  rw [← op_eqR]; exact dt_eq hr ha hb hmk
theorem dt_neR {k : Nat} (hr : Room k X.A) (ha : Bo X a ta (lift (oB1 reprF fa))) (hb : Bo X b tb (lift (oB1 reprF fb))) (hmk : behindInMarks .NotEq b = false := by first | exact nobehind _ (by decide) (by decide) | rfl) : T X m (.Compare a [.NotEq] [b] pos) (tTest (tOp (rNeD X.K) ta tb)) (lift (oB2 neR fa fb)) := by
  rw [← op_neR]; exact dt_ne hr ha hb hmk
theorem d_eqR {k : Nat} (hr : Room k X.A) (ha : Bo X a ta (lift (oB1 reprF fa))) (hb : Bo X b tb (lift (oB1 reprF fb))) (hmk : behindInMarks .Eq b = false := by first | exact nobehind _ (by decide) (by decide) | rfl) : E X m false (.Compare a [.Eq] [b] pos) (tOp (rEqD X.K) ta tb) (lift (oVal (oB2 eqR fa fb))) := by
  rw [← op_eqR]; exact d_eq hr ha hb hmk
theorem d_neR {k : Nat} (hr : Room k X.A) (ha : Bo X a ta (lift (oB1 reprF fa))) (hb : Bo X b tb (lift (oB1 reprF fb))) (hmk : behindInMarks .NotEq b = false := by first | exact nobehind _ (by decide) (by decide) | rfl) : E X m false (.Compare a [.NotEq] [b] pos) (tOp (rNeD X.K) ta tb) (lift (oVal (oB2 neR fa fb))) := by
  rw [← op_neR]; exact d_ne hr ha hb hmk
end
end Vl
/-! The value layer, 26: len(set(x)), x a tuple or a list of ints. -/
namespace Vl
open PySem PySem.Spec PyProof.Rows L2
theorem fm_nodup (f : Nat → Int) : ∀ i, (firstMet f i).Nodup
  | 0 => List.nodup_nil
  | i + 1 => by
    rw [firstMet_succ]
    unfold step_dedup
    by_cases h : (firstMet f i).any (· == f i) = true
    · rw [if_pos h]; exact fm_nodup f i
    · rw [if_neg h, List.nodup_append]
      refine ⟨fm_nodup f i, List.nodup_cons.mpr ⟨by simp, List.nodup_nil⟩, fun a ha b hb e => h ?_⟩
      rw [List.mem_singleton.mp hb] at e
      exact List.any_eq_true.mpr ⟨a, ha, by simp [e]⟩
theorem fm_mem (ns : List Int) (k : Int) : k ∈ firstMet (fun i => ns.getD i 0) ns.length ↔ k ∈ ns := by
  have h := firstMet_any (fun i => ns.getD i 0) ns.length k
  have e : (List.range ns.length).map (fun i => ns.getD i 0) = ns := by
    refine List.ext_getElem (by simp) fun i h1 h2 => ?_
    simp [h2]
  rw [e] at h
  constructor
  · intro hk
    have : (firstMet (fun i => ns.getD i 0) ns.length).any (· == k) = true := List.any_eq_true.mpr ⟨k, hk, by simp⟩
    rw [h] at this
    obtain ⟨y, hy, ey⟩ := List.any_eq_true.mp this
    exact (eq_of_beq ey) ▸ hy
  · intro hk
    have : ns.any (· == k) = true := List.any_eq_true.mpr ⟨k, hk, by simp⟩
    rw [← h] at this
    obtain ⟨y, hy, ey⟩ := List.any_eq_true.mp this
    exact (eq_of_beq ey) ▸ hy
theorem fm_len (ns : List Int) : (firstMet (fun i => ns.getD i 0) ns.length).length = (distinct ns).length :=
  ((List.perm_ext_iff_of_nodup (fm_nodup _ _) (nodup_distinct ns)).mpr fun k => by rw [fm_mem, mem_distinct]).length_eq
section
variable {X : Cx} {m : Bool} {a : Expr} {ta : TE} {fa : Op D} {p p2 p3 pos : Pos}
def tLenSetA (K : PySem.W.Frag) (ta : TE) : TE := fun σ H Q => ta σ H fun x H1 => ∃ (l : Addr) (ns : List Int), x = .ref l ∧ (SqT K H1 l (ns.map V.int) ∨ SqL K H1 l (ns.map V.int)) ∧ ns.length ≤ 4000 ∧ Q (.int ((distinct ns).length : Nat)) H1
theorem pe_lenSetA (hg : Gl X "len") (hm : X.mg "len" = none) (hg2 : Gl X "set") (hm2 : X.mg "set" = none) (ha : PE X a ta) (hc : X.calm = true)
    (na : starEach [a] X.env = (false, eval a X.env) :: starEach [] X.env := by rfl) : PE X (.Call (.Name "len" p) [.Call (.Name "set" p2) [a] [] p3] [] pos) (tLenSetA X.K ta) := by
  refine ⟨fun pins s σ H Q I h => Call_ (ld_blt I hg hm boot_len (PyProof.Rows.callWith_builtin1 (args_cons ?_ rfl) rfl rfl))⟩
  refine Call_ (ld_blt I hg2 hm2 PyProof.Rows.boot_set (PyProof.Rows.callWith_type1 (args_cons (thn (ha.run pins s σ H _ I h) fun v s1 hh => args_nil ?_) na) na rfl))
  obtain ⟨w, H1, I1, r1, l, ns, rfl, hq, hl, q1⟩ := hh
  obtain rfl : v = Value.ref l := r1
  rcases hq with hq | hq
  · obtain ⟨its, r, pl, hz⟩ := I1.tuple hq
    refine call_set_tupI ns (I1.ok.hd hc) (show s1.heap.IsTuple l its.toArray from pl) (by simpa using RZ.intsAre_vals r) (by unfold scanBound; omega) fun h' tk n hS hn hk => args_nil ?_
    obtain ⟨ob, es, ep, t, ho, hex, hd, _, nd, hm, _, hf, hn', _⟩ := hS
    have I2 : Inv X pins σ H1 { s1 with heap := h', toks := tk } := I1.kept hk
    have pm : (distinct ns).Perm (es.toList.map keyOf) := (List.perm_ext_iff_of_nodup (nodup_distinct ns) nd).mpr fun k => by
      rw [mem_distinct, ← hm k, decide_eq_true_eq]
    have el : es.size = (distinct ns).length := by
      rw [pm.length_eq, List.length_map, Array.length_toList]
    exact call_len_set ho hex hd hf (by omega) ⟨.int (distinct ns).length, H1, I2.tok _, ⟨_, by rw [el]⟩, q1⟩
  · obtain ⟨its, r, pl, hz⟩ := I1.list hq
    have hlen : its.toArray.size = ns.length := by rw [List.size_toArray, ← r.length, List.length_map]
    have dl : (distinct ns).length ≤ ns.length := by
      rw [← fm_len]; exact firstMet_length_le _ _
    refine call_set_list (I1.ok.hd hc) pl.isList (by simpa using RZ.intsAre_vals r) (by rw [hlen]; unfold scanBound; omega) fun h' tk hS hk => args_nil ?_
    rw [hlen, fm_len] at hS
    obtain ⟨o, es, ep, t, ho, hex, hd, _, _, _, hf, hn⟩ := hS
    have I2 : Inv X pins σ H1 { s1 with heap := h', toks := tk } := I1.kept fun b o e => hk b o (Heap.lt_size e) e
    exact call_len_set ho hex hd hf (by rw [hn] <;> omega) ⟨.int (distinct ns).length, H1, I2.tok _, ⟨_, by rw [hn]⟩, q1⟩
def lenSetA : D → Option D
  | .tuple ds => (intA ds).bind fun ns => if ns.length ≤ 4000 then some (.int ((distinct ns).length : Nat)) else none
  | .list ds => (intA ds).bind fun ns => if ns.length ≤ 4000 then some (.int ((distinct ns).length : Nat)) else none
  | _ => none
theorem d_lenSetA (hg : Gl X "len") (hm : X.mg "len" = none) (hg2 : Gl X "set") (hm2 : X.mg "set" = none) (ha : E X m false a ta (lift fa)) (hc : X.calm = true)
    (na : starEach [a] X.env = (false, eval a X.env) :: starEach [] X.env := by rfl) : E X m false (.Call (.Name "len" p) [.Call (.Name "set" p2) [a] [] p3] [] pos) (tLenSetA X.K ta) (lift (oB1 lenSetA fa)) := by
  rw [lift_B1]
  generalize lift fa = wa at ha ⊢
  refine ⟨pe_lenSetA hg hm hg2 hm2 ha.pe hc na, ?_⟩
  intro H0 Z0 σ H e P PW k Q S h q
  refine ha.snd H0 Z0 σ H e P PW _ _ S h fun v d e1 H1 he S1 h1 => ?_
  obtain ⟨z, hz, hk⟩ := h1
  cases d with
  | tuple ds =>
    obtain ⟨ns, h2, h3⟩ := Option.bind_eq_some_iff.mp (show (intA ds).bind (fun ns => if ns.length ≤ 4000 then some (PyData.int ((distinct ns).length : Nat)) else none) = some z from hz)
    by_cases hl : ns.length ≤ 4000
    · rw [if_pos hl] at h3
      obtain rfl := Option.some.inj h3
      have S1 : SR X.K H0 Z0 σ H1 e1 ((v, .tuple ds) :: P) PW := S1
      obtain ⟨ad, vs, rfl, ht, l, S2⟩ := S1.openT
      refine ⟨ad, ns, rfl, .inl ?_, hl, q _ _ e1 H1 he S1.tl.int hk⟩
      rw [← S2.ints l h2]
      exact ht.sqT
    · rw [if_neg hl] at h3; cases h3
  | list ds =>
    obtain ⟨ns, h2, h3⟩ := Option.bind_eq_some_iff.mp (show (intA ds).bind (fun ns => if ns.length ≤ 4000 then some (PyData.int ((distinct ns).length : Nat)) else none) = some z from hz)
    by_cases hl : ns.length ≤ 4000
    · rw [if_pos hl] at h3
      obtain rfl := Option.some.inj h3
      have S1 : SR X.K H0 Z0 σ H1 e1 ((v, .list ds) :: P) PW := S1
      obtain ⟨ad, vs, rfl, ht, l, S2⟩ := S1.openL
      refine ⟨ad, ns, rfl, .inr ?_, hl, q _ _ e1 H1 he S1.tl.int hk⟩
      rw [← S2.ints l h2]
      exact .inl (.inl ht)
    · rw [if_neg hl] at h3; cases h3
  | _ => cases hz
end
end Vl
/-! The value layer, plain facts of every law, 2: pots, draws, mixed packs, the law's own loop. -/
namespace Vl
open PySem PySem.Spec PyProof.Rows L2
theorem seq_lift {f : Op Fl} {U : Wp Fl} {e e1 : Sto} {k : Fl → Sto → Prop} (h : f e = some (.nx, e1)) (hu : U e1 k) : wSeq (lift f) U e k := ⟨_, h, hu⟩
theorem oSeq_nx {f g : Op Fl} {e e1 : Sto} (h : f e = some (.nx, e1)) : oSeq f g e = g e1 := by simp [getF, Vl.getO, ini, pick, runF, Vl.endK, tru, isiD, tyD, subT, leI, ltI, gtI, geI, cmpD, frzAt, slotOf, seqOf, lenQ, addD, subD, modD, ixD, setsE, mkL, mkT, lstRg, int1, rng1, slQ, intO, catQ, appG, listQ, tupQ, allQ, itQ, gmName, wipeE, h]
theorem mulD_ok {i j : Int} (hi : 0 ≤ i ∧ i < 4294967296) (hj : 0 ≤ j ∧ j < 4294967296) : mulD (.int i) (.int j) = some (.int (i * j)) := by
  have h1 := log32 hi
  have h2 := log32 hj
  show (if i.natAbs.log2 + j.natAbs.log2 < 1000000 then some (PyData.int (i * j)) else none) = _
  rw [if_pos (by omega)]
/-! ### pots -/
theorem pot_end {ns : List Int} {k : Nat} {M1 C1 C2 C3 M2 : Int} (hk : k ≤ 100) (h1 : 0 < M1 ∧ M1 < 4294967296) (h2 : 0 ≤ C1 ∧ C1 < 4294967296) (h3 : 0 ≤ C2 ∧ C2 < 4294967296) (h5 : 0 < M2 ∧ M2 < 4294967295) (h6 : M1.natAbs.log2 < 9000 := by decide) (h7 : M2.natAbs.log2 < 9000 := by decide) (cell : Int) (hc : 0 ≤ cell) :
    (oRet  (oB1 potF (oCons  (oB1 maxF (oCons  (Op.ret (.int 0)) (oCons  (oB2 subD (oVar 2) (oB2 powD (Op.ret (.int 10)) (Op.ret (.int 18)))) (Op.ret [])))) (oCons  (oB2 addD (oB2 modD (oB1 intF (oCons  (oB2 addD (oB2 addD (oB2 mulD (oB2 modD (oB1 intF (oCons  (oVar 2) (Op.ret []))) (Op.ret (.int M1))) (Op.ret (.int C1))) (oB2 mulD (Op.ret (.int C2)) (oVar 1))) (Op.ret (.int C3))) (Op.ret []))) (Op.ret (.int M2))) (Op.ret (.int 1))) (Op.ret [])))))
      [.fz (scrD ns), .fz (.int k), .fz (.int cell)] = some (.rt potD, [.fz (scrD ns), .fz (.int k), .fz (.int cell)]) := by
  have m1 := mulD_ok (i := cell % M1) (j := C1) ⟨Int.emod_nonneg _ (by omega), by have := Int.emod_lt_of_pos cell h1.1; omega⟩ h2
  have m2 := mulD_ok (i := C2) (j := (k : Int)) h3 (by omega)
  have f : potF [.int (if cell - 1000000000000000000 > 0 then cell - 1000000000000000000 else 0), .int ((cell % M1 * C1 + C2 * (k : Int) + C3) % M2 + 1)] = some potD := by
    have g1 : 0 ≤ (cell % M1 * C1 + C2 * (k : Int) + C3) % M2 := Int.emod_nonneg _ (by omega)
    have g2 : (cell % M1 * C1 + C2 * (k : Int) + C3) % M2 < M2 := Int.emod_lt_of_pos _ h5.1
    show (if _ then some potD else none) = _
    rw [if_pos ⟨by split <;> omega, by omega, by omega⟩]
  simp only [gt_iff_lt] at f
  simp [getF, Vl.getO, ini, pick, runF, Vl.endK, tru, isiD, tyD, subT, leI, ltI, gtI, geI, cmpD, frzAt, slotOf, seqOf, lenQ, addD, subD, modD, ixD, setsE, mkL, mkT, lstRg, int1, rng1, slQ, intO, catQ, appG, listQ, tupQ, allQ, itQ, gmName, wipeE, m1, m2, intF, maxF, powD, h1.1, h5.1, h6, h7]
  simp [getF, Vl.getO, ini, pick, runF, Vl.endK, tru, isiD, tyD, subT, leI, ltI, gtI, geI, cmpD, frzAt, slotOf, seqOf, lenQ, addD, subD, modD, ixD, setsE, mkL, mkT, lstRg, int1, rng1, slQ, intO, catQ, appG, listQ, tupQ, allQ, itQ, gmName, wipeE] at f
  simp [getF, Vl.getO, ini, pick, runF, Vl.endK, tru, isiD, tyD, subT, leI, ltI, gtI, geI, cmpD, frzAt, slotOf, seqOf, lenQ, addD, subD, modD, ixD, setsE, mkL, mkT, lstRg, int1, rng1, slQ, intO, catQ, appG, listQ, tupQ, allQ, itQ, gmName, wipeE, f]
theorem scr_at {ns : List Int} {k : Nat} (hlt : (k : Int) < (ns.length : Int)) : atI ns k = some (ns[k]'(by omega)) := by
  unfold atI
  rw [ixN_in ⟨by omega, hlt⟩]
  simp [getF, Vl.getO, ini, pick, runF, Vl.endK, tru, isiD, tyD, subT, leI, ltI, gtI, geI, cmpD, frzAt, slotOf, seqOf, lenQ, addD, subD, modD, ixD, setsE, mkL, mkT, lstRg, int1, rng1, slQ, intO, catQ, appG, listQ, tupQ, allQ, itQ, gmName, wipeE]
/-- cell = A * k + B, the script's if it is there -/
theorem potB {ns : List Int} {k : Nat} {A B M1 C1 C2 C3 M2 : Int} (hk : k ≤ 100) (hA : 0 ≤ A ∧ A < 4294967296 := by decide) (hB : 0 ≤ B := by decide) (h1 : 0 < M1 ∧ M1 < 4294967296 := by decide) (h2 : 0 ≤ C1 ∧ C1 < 4294967296 := by decide) (h3 : 0 ≤ C2 ∧ C2 < 4294967296 := by decide) (h5 : 0 < M2 ∧ M2 < 4294967295 := by decide) (h6 : M1.natAbs.log2 < 9000 := by decide) (h7 : M2.natAbs.log2 < 9000 := by decide) :
    runF ["script", "k", "cell"] false (oSeq  (oSet 2 false (oB2 addD (oB2 mulD (Op.ret (.int A)) (oVar 1)) (Op.ret (.int B)))) (oSeq  (oIf  (oB2 ltI (oVar 1) (oB1 scrLen (oVar 0))) (oSet 2 false (oB1 absF (oCons  (oB2 scrIx (oVar 0) (oVar 1)) (Op.ret [])))) (Op.ret .nx)) (oRet  (oB1 potF (oCons  (oB1 maxF (oCons  (Op.ret (.int 0)) (oCons  (oB2 subD (oVar 2) (oB2 powD (Op.ret (.int 10)) (Op.ret (.int 18)))) (Op.ret [])))) (oCons  (oB2 addD (oB2 modD (oB1 intF (oCons  (oB2 addD (oB2 addD (oB2 mulD (oB2 modD (oB1 intF (oCons  (oVar 2) (Op.ret []))) (Op.ret (.int M1))) (Op.ret (.int C1))) (oB2 mulD (Op.ret (.int C2)) (oVar 1))) (Op.ret (.int C3))) (Op.ret []))) (Op.ret (.int M2))) (Op.ret (.int 1))) (Op.ret [])))))))
      [scrD ns, .int k] = some potD := by
  have m3 := mulD_ok (i := A) (j := (k : Int)) hA (by omega)
  have tail := pot_end (ns := ns) hk h1 h2 h3 h5 h6 h7 (C3 := C3)
  simp only [runF]
  by_cases hlt : (k : Int) < (ns.length : Int)
  · have e1 := scr_at hlt
    rw [oSeq_nx (e1 := [.fz (scrD ns), .fz (.int k), .fz (.int (A * (k : Int) + B))]), oSeq_nx (e1 := [.fz (scrD ns), .fz (.int k), .fz (.int (if (ns[k]'(by omega)) < 0 then -(ns[k]'(by omega)) else (ns[k]'(by omega))))]), tail _ (by split <;> omega)]
    · simp [getF, Vl.getO, ini, pick, runF, Vl.endK, tru, isiD, tyD, subT, leI, ltI, gtI, geI, cmpD, frzAt, slotOf, seqOf, lenQ, addD, subD, modD, ixD, setsE, mkL, mkT, lstRg, int1, rng1, slQ, intO, catQ, appG, listQ, tupQ, allQ, itQ, gmName, wipeE, scrLen, scrI_D, scrIx, hlt, show k < ns.length by omega, e1, absF]
    · simp [getF, Vl.getO, ini, pick, runF, Vl.endK, tru, isiD, tyD, subT, leI, ltI, gtI, geI, cmpD, frzAt, slotOf, seqOf, lenQ, addD, subD, modD, ixD, setsE, mkL, mkT, lstRg, int1, rng1, slQ, intO, catQ, appG, listQ, tupQ, allQ, itQ, gmName, wipeE, m3]
  · have hn : 0 ≤ A * (k : Int) := Int.mul_nonneg hA.1 (by omega)
    rw [oSeq_nx (e1 := [.fz (scrD ns), .fz (.int k), .fz (.int (A * (k : Int) + B))]), oSeq_nx (e1 := [.fz (scrD ns), .fz (.int k), .fz (.int (A * (k : Int) + B))]), tail _ (by omega)]
    · simp [getF, Vl.getO, ini, pick, runF, Vl.endK, tru, isiD, tyD, subT, leI, ltI, gtI, geI, cmpD, frzAt, slotOf, seqOf, lenQ, addD, subD, modD, ixD, setsE, mkL, mkT, lstRg, int1, rng1, slQ, intO, catQ, appG, listQ, tupQ, allQ, itQ, gmName, wipeE, scrLen, scrI_D, hlt, show ¬ k < ns.length by omega]
    · simp [getF, Vl.getO, ini, pick, runF, Vl.endK, tru, isiD, tyD, subT, leI, ltI, gtI, geI, cmpD, frzAt, slotOf, seqOf, lenQ, addD, subD, modD, ixD, setsE, mkL, mkT, lstRg, int1, rng1, slQ, intO, catQ, appG, listQ, tupQ, allQ, itQ, gmName, wipeE, m3]
/-- the same in one row -/
theorem potA {ns : List Int} {k : Nat} {A B M1 C1 C2 C3 M2 : Int} (hk : k ≤ 100) (hA : 0 ≤ A ∧ A < 4294967296 := by decide) (hB : 0 ≤ B := by decide) (h1 : 0 < M1 ∧ M1 < 4294967296 := by decide) (h2 : 0 ≤ C1 ∧ C1 < 4294967296 := by decide) (h3 : 0 ≤ C2 ∧ C2 < 4294967296 := by decide) (h5 : 0 < M2 ∧ M2 < 4294967295 := by decide) (h6 : M1.natAbs.log2 < 9000 := by decide) (h7 : M2.natAbs.log2 < 9000 := by decide) :
    runF ["script", "k", "cell"] false (oSeq  (oSet 2 false (oIf  (oB2 ltI (oVar 1) (oB1 scrLen (oVar 0))) (oB1 absF (oCons  (oB2 scrIx (oVar 0) (oVar 1)) (Op.ret []))) (oB2 addD (oB2 mulD (Op.ret (.int A)) (oVar 1)) (Op.ret (.int B))))) (oRet  (oB1 potF (oCons  (oB1 maxF (oCons  (Op.ret (.int 0)) (oCons  (oB2 subD (oVar 2) (oB2 powD (Op.ret (.int 10)) (Op.ret (.int 18)))) (Op.ret [])))) (oCons  (oB2 addD (oB2 modD (oB1 intF (oCons  (oB2 addD (oB2 addD (oB2 mulD (oB2 modD (oB1 intF (oCons  (oVar 2) (Op.ret []))) (Op.ret (.int M1))) (Op.ret (.int C1))) (oB2 mulD (Op.ret (.int C2)) (oVar 1))) (Op.ret (.int C3))) (Op.ret []))) (Op.ret (.int M2))) (Op.ret (.int 1))) (Op.ret []))))))
      [scrD ns, .int k] = some potD := by
  have m3 := mulD_ok (i := A) (j := (k : Int)) hA (by omega)
  have tail := pot_end (ns := ns) hk h1 h2 h3 h5 h6 h7 (C3 := C3)
  simp only [runF]
  by_cases hlt : (k : Int) < (ns.length : Int)
  · have e1 := scr_at hlt
    rw [oSeq_nx (e1 := [.fz (scrD ns), .fz (.int k), .fz (.int (if (ns[k]'(by omega)) < 0 then -(ns[k]'(by omega)) else (ns[k]'(by omega))))]), tail _ (by split <;> omega)]
    simp [getF, Vl.getO, ini, pick, runF, Vl.endK, tru, isiD, tyD, subT, leI, ltI, gtI, geI, cmpD, frzAt, slotOf, seqOf, lenQ, addD, subD, modD, ixD, setsE, mkL, mkT, lstRg, int1, rng1, slQ, intO, catQ, appG, listQ, tupQ, allQ, itQ, gmName, wipeE, scrLen, scrI_D, scrIx, hlt, show k < ns.length by omega, e1, absF]
  · have hn : 0 ≤ A * (k : Int) := Int.mul_nonneg hA.1 (by omega)
    rw [oSeq_nx (e1 := [.fz (scrD ns), .fz (.int k), .fz (.int (A * (k : Int) + B))]), tail _ (by omega)]
    simp [getF, Vl.getO, ini, pick, runF, Vl.endK, tru, isiD, tyD, subT, leI, ltI, gtI, geI, cmpD, frzAt, slotOf, seqOf, lenQ, addD, subD, modD, ixD, setsE, mkL, mkT, lstRg, int1, rng1, slQ, intO, catQ, appG, listQ, tupQ, allQ, itQ, gmName, wipeE, scrLen, scrI_D, hlt, show ¬ k < ns.length by omega, m3]
/-! ### draws -/
/-- any number below may come -/
def DrawG (fD : Fw) : Prop := ∀ (m : Int) (k : D → Prop), 0 < m ∧ m ≤ 1000000000000000000000000000000 → (∀ d : Int, 0 ≤ d → d < m → k (.int d)) → fD [potD, .int m] k
theorem log_ok {m : Int} (h : 0 ≤ m ∧ m ≤ 1000000000000000000000000000000) : m.natAbs.log2 < 9000 := by
  by_cases h0 : m.natAbs = 0
  · rw [h0]; decide
  · refine Nat.lt_of_lt_of_le ((Nat.log2_lt h0 (k := 100)).mpr ?_) (by decide)
    have : (2 : Nat) ^ 100 = 1267650600228229401496703205376 := by decide
    omega
theorem drawG_ok : DrawG fwDraw := fun m k h hk => ⟨m, rfl, ⟨h.1, log_ok ⟨by omega, h.2⟩⟩, hk⟩
/-- a comprehension whose items are drawn -/
theorem run_draw {F : D → (Option D → Prop) → Prop} {m : Int} (hF : ∀ x k, (∀ d : Int, 0 ≤ d → d < m → k (some (.int d))) → F x k) : ∀ (xs : List D) (K : List D → Prop), (∀ rs : List Int, rs.length = xs.length → (∀ r ∈ rs, 0 ≤ r ∧ r < m) → K (rs.map .int)) → wRun F xs K
  | [], K, h => h [] rfl (by simp [getF, Vl.getO, ini, pick, runF, Vl.endK, tru, isiD, tyD, subT, leI, ltI, gtI, geI, cmpD, frzAt, slotOf, seqOf, lenQ, addD, subD, modD, ixD, setsE, mkL, mkT, lstRg, int1, rng1, slQ, intO, catQ, appG, listQ, tupQ, allQ, itQ, gmName, wipeE])
  | x :: xs, K, h => by
    refine hF x _ fun d h0 h1 => ?_
    refine run_draw hF xs _ fun rs hl hb => ?_
    have := h (d :: rs) (by simp [getF, Vl.getO, ini, pick, runF, Vl.endK, tru, isiD, tyD, subT, leI, ltI, gtI, geI, cmpD, frzAt, slotOf, seqOf, lenQ, addD, subD, modD, ixD, setsE, mkL, mkT, lstRg, int1, rng1, slQ, intO, catQ, appG, listQ, tupQ, allQ, itQ, gmName, wipeE, hl]) (fun r hr => (List.mem_cons.mp hr).elim (fun e => e ▸ ⟨h0, h1⟩) (hb r))
    simpa [getF, Vl.getO, ini, pick, runF, Vl.endK, tru, isiD, tyD, subT, leI, ltI, gtI, geI, cmpD, frzAt, slotOf, seqOf, lenQ, addD, subD, modD, ixD, setsE, mkL, mkT, lstRg, int1, rng1, slQ, intO, catQ, appG, listQ, tupQ, allQ, itQ, gmName, wipeE] using this
/-- x = a + draw(pot, m) -/
theorem st_draw1 {fD : Fw} (hD : DrawG fD) {i : Nat} {a m : Int} {e : Sto} {U : Wp Fl} {k : Fl → Sto → Prop} (h0 : e[0]? = some (.fz potD)) (hi : i < e.length) (hm : 0 < m ∧ m ≤ 1000000000000000000000000000000) (h : ∀ d : Int, 0 ≤ d → d < m → U (e.set i (.fz (.int (a + d)))) k) :
    wSeq (wSet i false (wB2 addD (lift (Op.ret (.int a))) (wCall fD 2 0 [0, 1] [] (lift (oCons  (oVar 0) (oCons  (Op.ret (.int m)) (Op.ret [])))) (Wp.ret [])))) U e k := by
  simp only [wSeq, wSet, wB2, wCall, wp_bd, wp_ret, lift_ap, gt_ap, Wp.md]
  simp [getF, Vl.getO, ini, pick, runF, Vl.endK, tru, isiD, tyD, subT, leI, ltI, gtI, geI, cmpD, frzAt, slotOf, seqOf, lenQ, addD, subD, modD, ixD, setsE, mkL, mkT, lstRg, int1, rng1, slQ, intO, catQ, appG, listQ, tupQ, allQ, itQ, gmName, wipeE, h0]
  refine hD _ _ hm fun d h1 h2 => ?_
  simpa [getF, Vl.getO, ini, pick, runF, Vl.endK, tru, isiD, tyD, subT, leI, ltI, gtI, geI, cmpD, frzAt, slotOf, seqOf, lenQ, addD, subD, modD, ixD, setsE, mkL, mkT, lstRg, int1, rng1, slQ, intO, catQ, appG, listQ, tupQ, allQ, itQ, gmName, wipeE, hi] using h d h1 h2
/-- x = draw(pot, m) -/
theorem st_draw0 {fD : Fw} (hD : DrawG fD) {i : Nat} {m : Int} {e : Sto} {U : Wp Fl} {k : Fl → Sto → Prop} (h0 : e[0]? = some (.fz potD)) (hi : i < e.length) (hm : 0 < m ∧ m ≤ 1000000000000000000000000000000) (h : ∀ d : Int, 0 ≤ d → d < m → U (e.set i (.fz (.int d))) k) :
    wSeq (wSet i false (wCall fD 2 0 [0, 1] [] (lift (oCons  (oVar 0) (oCons  (Op.ret (.int m)) (Op.ret [])))) (Wp.ret []))) U e k := by
  simp only [wSeq, wSet, wCall, wp_bd, wp_ret, lift_ap, Wp.md]
  simp [getF, Vl.getO, ini, pick, runF, Vl.endK, tru, isiD, tyD, subT, leI, ltI, gtI, geI, cmpD, frzAt, slotOf, seqOf, lenQ, addD, subD, modD, ixD, setsE, mkL, mkT, lstRg, int1, rng1, slQ, intO, catQ, appG, listQ, tupQ, allQ, itQ, gmName, wipeE, h0]
  refine hD _ _ hm fun d h1 h2 => ?_
  simpa [getF, Vl.getO, ini, pick, runF, Vl.endK, tru, isiD, tyD, subT, leI, ltI, gtI, geI, cmpD, frzAt, slotOf, seqOf, lenQ, addD, subD, modD, ixD, setsE, mkL, mkT, lstRg, int1, rng1, slQ, intO, catQ, appG, listQ, tupQ, allQ, itQ, gmName, wipeE, hi] using h d h1 h2
/-- the last pure piece gives True -/
def okTr (r : Option (Fl × Sto)) : Bool := match r with
  | some (.rt (.bool true), _) => true
  | _ => false
theorem okTr_ok {f : Op Fl} {e : Sto} {kk : D → Prop} (h : okTr (f e) = true) (hk : kk (.bool true)) : lift f e (endK false kk) := by
  unfold okTr at h
  split at h
  · rename_i x e' he
    exact ⟨_, he, hk⟩
  · cases h
/-! ### mixed -/
theorem cons_erase : ∀ (l : List Int) (i : Nat) (h : i < l.length), (l[i] :: l.eraseIdx i).Perm l
  | x :: l, 0, _ => by simp [getF, Vl.getO, ini, pick, runF, Vl.endK, tru, isiD, tyD, subT, leI, ltI, gtI, geI, cmpD, frzAt, slotOf, seqOf, lenQ, addD, subD, modD, ixD, setsE, mkL, mkT, lstRg, int1, rng1, slQ, intO, catQ, appG, listQ, tupQ, allQ, itQ, gmName, wipeE]
  | x :: l, i + 1, h => by
    have ih := cons_erase l i (by simpa [getF, Vl.getO, ini, pick, runF, Vl.endK, tru, isiD, tyD, subT, leI, ltI, gtI, geI, cmpD, frzAt, slotOf, seqOf, lenQ, addD, subD, modD, ixD, setsE, mkL, mkT, lstRg, int1, rng1, slQ, intO, catQ, appG, listQ, tupQ, allQ, itQ, gmName, wipeE] using h)
    simp only [List.getElem_cons_succ, List.eraseIdx_cons_succ]
    exact (List.Perm.swap _ _ _).trans (List.Perm.cons _ ih)
theorem map_erase : ∀ (l : List Int) (i : Nat), (l.map PyData.int).eraseIdx i = (l.eraseIdx i).map PyData.int
  | [], _ => by simp [getF, Vl.getO, ini, pick, runF, Vl.endK, tru, isiD, tyD, subT, leI, ltI, gtI, geI, cmpD, frzAt, slotOf, seqOf, lenQ, addD, subD, modD, ixD, setsE, mkL, mkT, lstRg, int1, rng1, slQ, intO, catQ, appG, listQ, tupQ, allQ, itQ, gmName, wipeE]
  | x :: l, 0 => by simp [getF, Vl.getO, ini, pick, runF, Vl.endK, tru, isiD, tyD, subT, leI, ltI, gtI, geI, cmpD, frzAt, slotOf, seqOf, lenQ, addD, subD, modD, ixD, setsE, mkL, mkT, lstRg, int1, rng1, slQ, intO, catQ, appG, listQ, tupQ, allQ, itQ, gmName, wipeE]
  | x :: l, i + 1 => by simp [getF, Vl.getO, ini, pick, runF, Vl.endK, tru, isiD, tyD, subT, leI, ltI, gtI, geI, cmpD, frzAt, slotOf, seqOf, lenQ, addD, subD, modD, ixD, setsE, mkL, mkT, lstRg, int1, rng1, slQ, intO, catQ, appG, listQ, tupQ, allQ, itQ, gmName, wipeE, map_erase l i]
def mixB (fD : Fw) : Wp Fl := wDo  (wMut 3 appG (wCons  (wMut 2 popAtG (wCons  (wCall fD 2 0 [0, 1] [] (lift (oCons  (oVar 0) (oCons  (oQ1 lenQ (oOwn 2)) (Op.ret [])))) (Wp.ret [])) (lift (Op.ret [])))) (lift (Op.ret []))))
theorem mixed_body {fD : Fw} (hD : DrawG fD) {x1 : Slot} {left found : List Int} {K : Fl → Sto → Prop} (h0 : 0 < left.length) (h1 : left.length ≤ 1000) (h2 : found.length ≤ 1000) (hk : ∀ (j : Nat) (hj : j < left.length), K .nx [.fz potD, x1, .ow ((left.eraseIdx j).map .int), .ow ((found ++ [left[j]]).map .int)]) :
    mixB fD [.fz potD, x1, .ow (left.map .int), .ow (found.map .int)] K := by
  simp only [mixB, wDo, wMut, wCons, wCall, wp_bd, gt_ap, wp_ret, lift_ap]
  simp [getF, Vl.getO, ini, pick, runF, Vl.endK, tru, isiD, tyD, subT, leI, ltI, gtI, geI, cmpD, frzAt, slotOf, seqOf, lenQ, addD, subD, modD, ixD, setsE, mkL, mkT, lstRg, int1, rng1, slQ, intO, catQ, appG, listQ, tupQ, allQ, itQ, gmName, wipeE]
  refine hD _ _ (by omega) fun d h3 h4 => ?_
  have hd : d.toNat < left.length := by omega
  have ix : ixN left.length d = some d.toNat := ixN_in ⟨h3, by omega⟩
  have := hk d.toNat hd
  simp [getF, Vl.getO, ini, pick, runF, Vl.endK, tru, isiD, tyD, subT, leI, ltI, gtI, geI, cmpD, frzAt, slotOf, seqOf, lenQ, addD, subD, modD, ixD, setsE, mkL, mkT, lstRg, int1, rng1, slQ, intO, catQ, appG, listQ, tupQ, allQ, itQ, gmName, wipeE, popAtG, ix, hd, lim, show left.length ≤ 10000000 by omega]
  simp [getF, Vl.getO, ini, pick, runF, Vl.endK, tru, isiD, tyD, subT, leI, ltI, gtI, geI, cmpD, frzAt, slotOf, seqOf, lenQ, addD, subD, modD, ixD, setsE, mkL, mkT, lstRg, int1, rng1, slQ, intO, catQ, appG, listQ, tupQ, allQ, itQ, gmName, wipeE, show found.length < 10000000 by omega]
  simpa [getF, Vl.getO, ini, pick, runF, Vl.endK, tru, isiD, tyD, subT, leI, ltI, gtI, geI, cmpD, frzAt, slotOf, seqOf, lenQ, addD, subD, modD, ixD, setsE, mkL, mkT, lstRg, int1, rng1, slQ, intO, catQ, appG, listQ, tupQ, allQ, itQ, gmName, wipeE, map_erase] using this
theorem mixed_loop {fD : Fw} (hD : DrawG fD) {p : List Int} (hp : p.length ≤ 1000) {x1 : Slot} {K : Fl → Sto → Prop} (hK : ∀ q : List Int, q.Perm p → K .nx [.fz potD, x1, .ow [], .ow (q.map .int)]) : ∀ (n : Nat) (left found : List Int), left.length = n → (found ++ left).Perm p →
    wWhile (lift (oB2 neD (oOwnL 2) (oB1 mkL (Op.ret [])))) (mixB fD) (n + 1) [.fz potD, x1, .ow (left.map .int), .ow (found.map .int)] K
  | 0, left, found, hl, hm => by
    obtain rfl := List.length_eq_zero_iff.mp hl
    rw [List.append_nil] at hm
    have e0 : neD (.list []) (.list []) = some false := by rfl
    have := hK found hm
    simp only [wWhile, lift_ap]
    simpa [getF, Vl.getO, ini, pick, runF, Vl.endK, tru, isiD, tyD, subT, leI, ltI, gtI, geI, cmpD, frzAt, slotOf, seqOf, lenQ, addD, subD, modD, ixD, setsE, mkL, mkT, lstRg, int1, rng1, slQ, intO, catQ, appG, listQ, tupQ, allQ, itQ, gmName, wipeE, e0] using this
  | n + 1, left, found, hl, hm => by
    have hlen := hm.length_eq
    rw [List.length_append, hl] at hlen
    have e0 : neD (ls left) (ls []) = some true := by
      rw [neD_ls]
      have : left ≠ [] := by intro e; rw [e] at hl; simp [getF, Vl.getO, ini, pick, runF, Vl.endK, tru, isiD, tyD, subT, leI, ltI, gtI, geI, cmpD, frzAt, slotOf, seqOf, lenQ, addD, subD, modD, ixD, setsE, mkL, mkT, lstRg, int1, rng1, slQ, intO, catQ, appG, listQ, tupQ, allQ, itQ, gmName, wipeE] at hl
      simp [getF, Vl.getO, ini, pick, runF, Vl.endK, tru, isiD, tyD, subT, leI, ltI, gtI, geI, cmpD, frzAt, slotOf, seqOf, lenQ, addD, subD, modD, ixD, setsE, mkL, mkT, lstRg, int1, rng1, slQ, intO, catQ, appG, listQ, tupQ, allQ, itQ, gmName, wipeE, this]
    simp only [ls, List.map_nil] at e0
    rw [wWhile]
    refine wp_lift (r := (true, [.fz potD, x1, .ow (left.map .int), .ow (found.map .int)])) (by simp [getF, Vl.getO, ini, pick, runF, Vl.endK, tru, isiD, tyD, subT, leI, ltI, gtI, geI, cmpD, frzAt, slotOf, seqOf, lenQ, addD, subD, modD, ixD, setsE, mkL, mkT, lstRg, int1, rng1, slQ, intO, catQ, appG, listQ, tupQ, allQ, itQ, gmName, wipeE, e0, lim]) ?_
    simp only [if_true]
    refine mixed_body hD (by omega) (by omega) (by omega) fun j hj => ?_
    refine mixed_loop hD hp hK n (left.eraseIdx j) (found ++ [left[j]]) (by rw [List.length_eraseIdx, if_pos hj]; omega) ?_
    refine List.Perm.trans ?_ hm
    rw [List.append_assoc]
    exact List.Perm.append_left found (cons_erase left j hj)
/-- mixed(pot, some): a list -/
theorem mixedL {fD : Fw} (hD : DrawG fD) {p : List Int} {k : D → Prop} (hp : p.length ≤ 1000) (hk : ∀ q : List Int, q.Perm p → k (ls q)) :
    (wSeq  (lift (oPar [2, 3] [true, true] (oCons  (oQ1 listQ (oQ (oVar 1))) (oCons  (oB1 mkL (Op.ret [])) (Op.ret []))))) (wSeq  (wWh (lift (oB2 neD (oOwnL 2) (oB1 mkL (Op.ret [])))) (mixB fD)) (lift (oSeq (Op.md (frzAt 3)) (oRet  (oVar 3)))))) (ini ["pot", "some", "left", "found"] [potD, ls p]) (endK false k) := by
  simp only [wSeq, wp_bd, wp_ret, lift_ap]
  simp [getF, Vl.getO, ini, pick, runF, Vl.endK, tru, isiD, tyD, subT, leI, ltI, gtI, geI, cmpD, frzAt, slotOf, seqOf, lenQ, addD, subD, modD, ixD, setsE, mkL, mkT, lstRg, int1, rng1, slQ, intO, catQ, appG, listQ, tupQ, allQ, itQ, gmName, wipeE, lim]
  refine ⟨p.length + 1, ?_⟩
  have := mixed_loop hD hp (x1 := .fz (ls p)) (K := fun fl e1 => (match fl with | .nx => lift (oSeq (Op.md (frzAt 3)) (oRet  (oVar 3))) | f => Wp.ret f) e1 fun f e2 => endK false k f e2) (fun q hq => by
    simp only [lift_ap]
    simpa [getF, Vl.getO, ini, pick, runF, Vl.endK, tru, isiD, tyD, subT, leI, ltI, gtI, geI, cmpD, frzAt, slotOf, seqOf, lenQ, addD, subD, modD, ixD, setsE, mkL, mkT, lstRg, int1, rng1, slQ, intO, catQ, appG, listQ, tupQ, allQ, itQ, gmName, wipeE] using hk q hq) p.length p [] rfl (List.Perm.refl _)
  simp only [lift_ap, List.map_nil] at this
  exact this
/-- mixed(pot, many): a tuple, by while -/
theorem mixedW {fD : Fw} (hD : DrawG fD) {c : Nat} {k : D → Prop} (hp : c ≤ 1000) (hk : ∀ q : List Int, q.Perm (rg c) → k (tp q)) :
    (wSeq  (lift (oPar [2, 3] [true, true] (oCons  (oB1 lstRg (oB1 int1 (oVar 1))) (oCons  (oB1 mkL (Op.ret [])) (Op.ret []))))) (wSeq  (wWh (lift (oB2 neD (oOwnL 2) (oB1 mkL (Op.ret [])))) (mixB fD)) (lift (oRet  (oQ1 tupQ (oOwn 3)))))) (ini ["pot", "many", "left", "found"] [potD, .int c]) (endK false k) := by
  have o1 : rgOk (0, (c : Int)) := ⟨by omega, by omega, by omega, by show ((c : Int) - 0).toNat ≤ 10000000; omega⟩
  simp only [wSeq, wp_bd, wp_ret, lift_ap]
  simp [getF, Vl.getO, ini, pick, runF, Vl.endK, tru, isiD, tyD, subT, leI, ltI, gtI, geI, cmpD, frzAt, slotOf, seqOf, lenQ, addD, subD, modD, ixD, setsE, mkL, mkT, lstRg, int1, rng1, slQ, intO, catQ, appG, listQ, tupQ, allQ, itQ, gmName, wipeE, lim, o1, rngL_rg]
  refine ⟨c + 1, ?_⟩
  have := mixed_loop hD (p := rg c) (by rw [rg_len]; omega) (x1 := .fz (.int c)) (K := fun fl e1 => (match fl with | .nx => lift (oRet  (oQ1 tupQ (oOwn 3))) | f => Wp.ret f) e1 fun f e2 => endK false k f e2) (fun q hq => by
    simp only [lift_ap]
    simpa [getF, Vl.getO, ini, pick, runF, Vl.endK, tru, isiD, tyD, subT, leI, ltI, gtI, geI, cmpD, frzAt, slotOf, seqOf, lenQ, addD, subD, modD, ixD, setsE, mkL, mkT, lstRg, int1, rng1, slQ, intO, catQ, appG, listQ, tupQ, allQ, itQ, gmName, wipeE] using hk q hq) c (rg c) [] (rg_len c) (List.Perm.refl _)
  simp only [lift_ap, List.map_nil] at this
  exact this
/-- .. by for -/
theorem mixedF {fD : Fw} (hD : DrawG fD) {c : Nat} {k : D → Prop} (hp : c ≤ 1000) (hk : ∀ q : List Int, q.Perm (rg c) → k (tp q)) :
    (wSeq  (lift (oPar [2, 3] [true, true] (oCons  (oB1 lstRg (oB1 int1 (oVar 1))) (oCons  (oB1 mkL (Op.ret [])) (Op.ret []))))) (wSeq  (wForS (gmName 4) (lift (oB1 rng1 (oCons  (oVar 1) (Op.ret [])))) (mixB fD)) (lift (oRet  (oQ1 tupQ (oOwn 3)))))) (ini ["pot", "many", "left", "found", "turn"] [potD, .int c]) (endK false k) := by
  have o1 : rgOk (0, (c : Int)) := ⟨by omega, by omega, by omega, by show ((c : Int) - 0).toNat ≤ 10000000; omega⟩
  have body : ∀ {x1 x4 : Slot} {left found : List Int} {K : Fl → Sto → Prop}, 0 < left.length → left.length ≤ 1000 → found.length ≤ 1000 → (∀ (j : Nat) (hj : j < left.length), K .nx [.fz potD, x1, .ow ((left.eraseIdx j).map .int), .ow ((found ++ [left[j]]).map .int), x4]) → mixB fD [.fz potD, x1, .ow (left.map .int), .ow (found.map .int), x4] K := fun {x1 x4 left found K} h0 h1 h2 hk => by
    simp only [mixB, wDo, wMut, wCons, wCall, wp_bd, gt_ap, wp_ret, lift_ap]
    simp [getF, Vl.getO, ini, pick, runF, Vl.endK, tru, isiD, tyD, subT, leI, ltI, gtI, geI, cmpD, frzAt, slotOf, seqOf, lenQ, addD, subD, modD, ixD, setsE, mkL, mkT, lstRg, int1, rng1, slQ, intO, catQ, appG, listQ, tupQ, allQ, itQ, gmName, wipeE]
    refine hD _ _ (by omega) fun d h3 h4 => ?_
    have hd : d.toNat < left.length := by omega
    have ix : ixN left.length d = some d.toNat := ixN_in ⟨h3, by omega⟩
    have := hk d.toNat hd
    simp [getF, Vl.getO, ini, pick, runF, Vl.endK, tru, isiD, tyD, subT, leI, ltI, gtI, geI, cmpD, frzAt, slotOf, seqOf, lenQ, addD, subD, modD, ixD, setsE, mkL, mkT, lstRg, int1, rng1, slQ, intO, catQ, appG, listQ, tupQ, allQ, itQ, gmName, wipeE, popAtG, ix, hd, lim, show left.length ≤ 10000000 by omega]
    simp [getF, Vl.getO, ini, pick, runF, Vl.endK, tru, isiD, tyD, subT, leI, ltI, gtI, geI, cmpD, frzAt, slotOf, seqOf, lenQ, addD, subD, modD, ixD, setsE, mkL, mkT, lstRg, int1, rng1, slQ, intO, catQ, appG, listQ, tupQ, allQ, itQ, gmName, wipeE, show found.length < 10000000 by omega]
    simpa [getF, Vl.getO, ini, pick, runF, Vl.endK, tru, isiD, tyD, subT, leI, ltI, gtI, geI, cmpD, frzAt, slotOf, seqOf, lenQ, addD, subD, modD, ixD, setsE, mkL, mkT, lstRg, int1, rng1, slQ, intO, catQ, appG, listQ, tupQ, allQ, itQ, gmName, wipeE, map_erase] using this
  have loop : ∀ (K : Fl → Sto → Prop) (x1 : Slot), (∀ (q : List Int) (x4 : Slot), q.Perm (rg c) → K .nx [.fz potD, x1, .ow [], .ow (q.map .int), x4]) → ∀ (xs : List D) (left found : List Int) (x4 : Slot), left.length = xs.length → (found ++ left).Perm (rg c) → wFor (gmName 4) (mixB fD) xs [.fz potD, x1, .ow (left.map .int), .ow (found.map .int), x4] K := by
    intro K x1 hK xs
    induction xs with
    | nil =>
      intro left found x4 hl hm
      obtain rfl := List.length_eq_zero_iff.mp hl
      rw [List.append_nil] at hm
      exact hK found x4 hm
    | cons x xs ih =>
      intro left found x4 hl hm
      have hlen := hm.length_eq
      rw [List.length_append, rg_len] at hlen
      rw [List.length_cons] at hl
      refine ⟨_, rfl, body (x4 := .fz x) (by omega) (by omega) (by omega) fun j hj => ?_⟩
      refine ih (left.eraseIdx j) (found ++ [left[j]]) _ (by rw [List.length_eraseIdx, if_pos hj]; omega) ?_
      refine List.Perm.trans ?_ hm
      rw [List.append_assoc]
      exact List.Perm.append_left found (cons_erase left j hj)
  have hc : (c : Int) ≤ 10000000 ∧ -10000000 ≤ (c : Int) := by omega
  simp only [wSeq, wForS, wp_bd, wp_ret, lift_ap]
  simp [getF, Vl.getO, ini, pick, runF, Vl.endK, tru, isiD, tyD, subT, leI, ltI, gtI, geI, cmpD, frzAt, slotOf, seqOf, lenQ, addD, subD, modD, ixD, setsE, mkL, mkT, lstRg, int1, rng1, slQ, intO, catQ, appG, listQ, tupQ, allQ, itQ, gmName, wipeE, lim, o1, rngL_rg]
  simp only [lift_ap]
  simp [getF, Vl.getO, ini, pick, runF, Vl.endK, tru, isiD, tyD, subT, leI, ltI, gtI, geI, cmpD, frzAt, slotOf, seqOf, lenQ, addD, subD, modD, ixD, setsE, mkL, mkT, lstRg, int1, rng1, slQ, intO, catQ, appG, listQ, tupQ, allQ, itQ, gmName, wipeE, hc, rngL_rg]
  have := loop (fun fl e1 => (match fl with | .nx => lift (oRet  (oQ1 tupQ (oOwn 3))) | f => Wp.ret f) e1 fun f e2 => endK false k f e2) (.fz (.int c)) (fun q x4 hq => by
    simp only [lift_ap]
    simpa [getF, Vl.getO, ini, pick, runF, Vl.endK, tru, isiD, tyD, subT, leI, ltI, gtI, geI, cmpD, frzAt, slotOf, seqOf, lenQ, addD, subD, modD, ixD, setsE, mkL, mkT, lstRg, int1, rng1, slQ, intO, catQ, appG, listQ, tupQ, allQ, itQ, gmName, wipeE] using hk q hq) ((rg c).map .int) (rg c) [] .un (by simp [getF, Vl.getO, ini, pick, runF, Vl.endK, tru, isiD, tyD, subT, leI, ltI, gtI, geI, cmpD, frzAt, slotOf, seqOf, lenQ, addD, subD, modD, ixD, setsE, mkL, mkT, lstRg, int1, rng1, slQ, intO, catQ, appG, listQ, tupQ, allQ, itQ, gmName, wipeE]) (List.Perm.refl _)
  simp only [lift_ap, List.map_nil] at this
  exact this
theorem pack_facts {c : Nat} {p : List Int} (hp : p.Perm (rg c)) : p.length = c ∧ p.Nodup ∧ ∀ i ∈ p, 0 ≤ i ∧ i < p.length := by
  have hl : p.length = c := by rw [hp.length_eq, rg_len]
  refine ⟨hl, hp.nodup_iff.mpr (rg_nodup c), fun i hi => ?_⟩
  rw [hl]
  exact rg_mem.mp (hp.mem_iff.mp hi)
end Vl
/-! The value layer: all ends of a piece of text that draws among few numbers, one by one. -/
namespace Vl
open PySem PySem.Spec PyProof.Rows L2
/-- all ends -/
abbrev Nd (α : Type) := Sto → Option (List (α × Sto))
def bindAll {α β : Type} (f : α → Option (List β)) : List α → Option (List β)
  | [] => some []
  | a :: r => match f a with
    | some l => match bindAll f r with
      | some m => some (l ++ m)
      | none => none
    | none => none
theorem bindAll_mem {α β : Type} {f : α → Option (List β)} : ∀ {l : List α} {m : List β}, bindAll f l = some m → ∀ a ∈ l, ∃ x, f a = some x ∧ ∀ b ∈ x, b ∈ m
  | [], m, _, a, h => by simp at h
  | c :: r, m, h, a, ha => by
    unfold bindAll at h
    split at h
    · rename_i x hx
      split at h
      · rename_i y hy
        obtain rfl := Option.some.inj h
        rcases List.mem_cons.mp ha with rfl | ha
        · exact ⟨x, hx, fun b hb => List.mem_append_left _ hb⟩
        · obtain ⟨z, h1, h2⟩ := bindAll_mem hy a ha
          exact ⟨z, h1, fun b hb => List.mem_append_right _ (h2 b hb)⟩
      · cases h
    · cases h
def Nd.ret {α : Type} (a : α) : Nd α := fun e => some [(a, e)]
def Nd.bd {α β : Type} (n : Nd α) (f : α → Nd β) : Nd β := fun e => match n e with
  | some l => bindAll (fun r => f r.1 r.2) l
  | none => none
def Nd.gt {α : Type} (g : Sto → Option α) : Nd α := fun e => match g e with
  | some a => some [(a, e)]
  | none => none
def Nd.md (g : Sto → Option Sto) : Nd Fl := fun e => match g e with
  | some e' => some [(.nx, e')]
  | none => none
def liftN {α : Type} (f : Op α) : Nd α := fun e => match f e with
  | some r => some [r]
  | none => none
def SndN {α : Type} (w : Wp α) (n : Nd α) : Prop := ∀ e l k, n e = some l → (∀ r ∈ l, k r.1 r.2) → w e k
theorem sn_ret {α : Type} (a : α) : SndN (Wp.ret a) (Nd.ret a) := fun e l k h g => by
  obtain rfl := Option.some.inj h
  exact g (a, e) (by simp)
theorem sn_bd {α β : Type} {w : Wp α} {n : Nd α} {f : α → Wp β} {g : α → Nd β} (h1 : SndN w n) (h2 : ∀ a, SndN (f a) (g a)) : SndN (Wp.bd w f) (Nd.bd n g) := fun e l k h hk => by
  unfold Nd.bd at h
  split at h
  · rename_i x hx
    refine h1 e x _ hx fun r hr => ?_
    obtain ⟨y, hy, hm⟩ := bindAll_mem h r hr
    exact h2 r.1 r.2 y k hy fun q hq => hk q (hm q hq)
  · cases h
theorem sn_gt {α : Type} (g : Sto → Option α) : SndN (Wp.gt g) (Nd.gt g) := fun e l k h hk => by
  unfold Nd.gt at h
  split at h
  · rename_i a ha
    obtain rfl := Option.some.inj h
    exact ⟨a, ha, hk (a, e) (by simp)⟩
  · cases h
theorem sn_md (g : Sto → Option Sto) : SndN (Wp.md g) (Nd.md g) := fun e l k h hk => by
  unfold Nd.md at h
  split at h
  · rename_i a ha
    obtain rfl := Option.some.inj h
    exact ⟨a, ha, hk (.nx, a) (by simp)⟩
  · cases h
theorem sn_lift {α : Type} (f : Op α) : SndN (lift f) (liftN f) := fun e l k h hk => by
  unfold liftN at h
  split at h
  · rename_i a ha
    obtain rfl := Option.some.inj h
    exact ⟨a, ha, hk a (by simp)⟩
  · cases h
/-! ### the same ends once -/
def sameX : D → D → Bool
  | .dict [(.list [], .none)], .dict [(.list [], .none)] => true
  | a, b => same a b
theorem sameX_eq {a b : D} (h : sameX a b = true) : a = b := by
  unfold sameX at h
  split at h
  · rfl
  · exact same_eq h
def sameSl : Slot → Slot → Bool
  | .un, .un => true
  | .fz a, .fz b => sameX a b
  | .ow a, .ow b => sameA a b
  | _, _ => false
theorem sameSl_eq : ∀ {a b : Slot}, sameSl a b = true → a = b
  | .un, .un, _ => rfl
  | .fz a, .fz b, h => by rw [sameX_eq (show sameX a b = true from h)]
  | .ow a, .ow b, h => by rw [sameA_eq (show sameA a b = true from h)]
  | .un, .fz _, h => nomatch h
  | .un, .ow _, h => nomatch h
  | .fz _, .un, h => nomatch h
  | .fz _, .ow _, h => nomatch h
  | .ow _, .un, h => nomatch h
  | .ow _, .fz _, h => nomatch h
def sameSt : Sto → Sto → Bool
  | [], [] => true
  | a :: p, b :: q => sameSl a b && sameSt p q
  | _, _ => false
theorem sameSt_eq : ∀ {a b : Sto}, sameSt a b = true → a = b
  | [], [], _ => rfl
  | a :: p, b :: q, h => by
    have h : (sameSl a b && sameSt p q) = true := h
    rw [Bool.and_eq_true] at h
    rw [sameSl_eq h.1, sameSt_eq h.2]
  | [], _ :: _, h => nomatch h
  | _ :: _, [], h => nomatch h
def sameFl : Fl → Fl → Bool
  | .nx, .nx => true
  | .bk, .bk => true
  | .ct, .ct => true
  | .rt a, .rt b => sameX a b
  | _, _ => false
theorem sameFl_eq : ∀ {a b : Fl}, sameFl a b = true → a = b
  | .nx, .nx, _ => rfl
  | .bk, .bk, _ => rfl
  | .ct, .ct, _ => rfl
  | .rt a, .rt b, h => by rw [sameX_eq (show sameX a b = true from h)]
  | .nx, .bk, h => nomatch h
  | .nx, .ct, h => nomatch h
  | .nx, .rt _, h => nomatch h
  | .bk, .nx, h => nomatch h
  | .bk, .ct, h => nomatch h
  | .bk, .rt _, h => nomatch h
  | .ct, .nx, h => nomatch h
  | .ct, .bk, h => nomatch h
  | .ct, .rt _, h => nomatch h
  | .rt _, .nx, h => nomatch h
  | .rt _, .bk, h => nomatch h
  | .rt _, .ct, h => nomatch h
def sameR (a b : Fl × Sto) : Bool := sameFl a.1 b.1 && sameSt a.2 b.2
theorem sameR_eq {a b : Fl × Sto} (h : sameR a b = true) : a = b := by
  unfold sameR at h
  rw [Bool.and_eq_true] at h
  exact Prod.ext (sameFl_eq h.1) (sameSt_eq h.2)
def dd {α : Type} (eq : α → α → Bool) : List α → List α
  | [] => []
  | a :: r => if ((dd eq r).any fun b => eq a b) = true then dd eq r else a :: dd eq r
theorem dd_mem {α : Type} {eq : α → α → Bool} (he : ∀ a b, eq a b = true → a = b) : ∀ {l : List α} {a : α}, a ∈ l → a ∈ dd eq l
  | c :: r, a, h => by
    unfold dd
    split
    · rename_i hc
      rcases List.mem_cons.mp h with rfl | h
      · obtain ⟨b, hb, e⟩ := List.any_eq_true.mp hc
        exact he _ _ e ▸ hb
      · exact dd_mem he h
    · rcases List.mem_cons.mp h with rfl | h
      · exact List.mem_cons_self
      · exact List.mem_cons_of_mem _ (dd_mem he h)
def ddN (n : Nd Fl) : Nd Fl := fun e => match n e with
  | some l => some (dd sameR l)
  | none => none
theorem sn_dd {w : Wp Fl} {n : Nd Fl} (h : SndN w n) : SndN w (ddN n) := fun e l k g hk => by
  unfold ddN at g
  split at g
  · rename_i x hx
    obtain rfl := Option.some.inj g
    exact h e x k hx fun r hr => hk r (dd_mem (fun a b => sameR_eq) hr)
  · cases g
/-! ### the pieces -/
def nB2 {α β γ : Type} (g : α → β → Option γ) (wa : Nd α) (wb : Nd β) : Nd γ := Nd.bd wa fun x => Nd.bd wb fun y => Nd.gt fun _ => g x y
def nB1 {α γ : Type} (g : α → Option γ) (wa : Nd α) : Nd γ := Nd.bd wa fun x => Nd.gt fun _ => g x
def nVal (w : Nd Bool) : Nd D := Nd.bd w fun c => Nd.ret (.bool c)
def nB2Q {β : Type} (g : D → Bool × List D → Option β) (wa : Nd D) (wb : Nd QV) : Nd β := Nd.bd wa fun x => Nd.bd wb fun q => Nd.gt fun e => (seqOf e q).bind (g x)
def nNot (w : Nd Bool) : Nd Bool := Nd.bd w fun c => Nd.ret (!c)
def nAnd (w u : Nd Bool) : Nd Bool := Nd.bd w fun c => if c = true then u else Nd.ret false
def nOr (w u : Nd Bool) : Nd Bool := Nd.bd w fun c => if c = true then Nd.ret true else u
def nAndV (w u : Nd D) : Nd D := Nd.bd w fun x => Nd.bd (Nd.gt fun _ => tru x) fun c => if c = true then u else Nd.ret (.bool false)
def nOrV (w u : Nd D) : Nd D := Nd.bd w fun x => Nd.bd (Nd.gt fun _ => tru x) fun c => if c = true then Nd.ret (.bool true) else u
def nNotV (w : Nd D) : Nd D := Nd.bd w fun x => Nd.bd (Nd.gt fun _ => tru x) fun c => Nd.ret (.bool (!c))
def nIf {α : Type} (c : Nd Bool) (w u : Nd α) : Nd α := Nd.bd c fun c => if c = true then w else u
def nCh (g h : D → D → Option Bool) (wa wb wc : Nd D) : Nd Bool := Nd.bd wa fun x => Nd.bd wb fun y => Nd.bd (Nd.gt fun _ => g x y) fun k => if k = true then Nd.bd wc fun z => Nd.gt fun _ => h y z else Nd.ret false
def nCons (w : Nd D) (u : Nd (List D)) : Nd (List D) := Nd.bd w fun x => Nd.bd u fun xs => Nd.ret (x :: xs)
def nQ (w : Nd D) : Nd QV := Nd.bd w fun d => Nd.ret (.inr d)
def nQ1 {α : Type} (g : Bool × List D → Option α) (wq : Nd QV) : Nd α := Nd.bd wq fun q => Nd.gt fun e => (seqOf e q).bind g
def nIx (wq : Nd QV) (wb : Nd D) : Nd D := Nd.bd wq fun q => Nd.bd wb fun j => Nd.gt fun e => (seqOf e q).bind fun s => ixD s j
def nSl (o : Bool) (wq : Nd QV) (wl wh : Nd (Option Int)) : Nd D := Nd.bd wq fun q => Nd.bd wl fun l => Nd.bd wh fun h => Nd.gt fun e => (seqOf e q).bind (slQ o l h)
def nSt (o : Bool) (wq : Nd QV) (wl wh ws : Nd (Option Int)) : Nd D := Nd.bd wq fun q => Nd.bd wl fun l => Nd.bd wh fun h => Nd.bd ws fun s => Nd.gt fun e => (seqOf e q).bind (stQ o l h s)
def nCatL (w u : Nd QV) : Nd D := Nd.bd w fun q => Nd.bd u fun r => Nd.gt fun e => (seqOf e q).bind fun s => (seqOf e r).bind (catQ s)
def nRep (wq : Nd QV) (wb : Nd D) : Nd D := Nd.bd wq fun q => Nd.bd wb fun j => Nd.gt fun e => (seqOf e q).bind fun s => repD s j
def nMut (i : Nat) (g : List D → List D → Option (D × List D)) (ws : Nd (List D)) : Nd D := Nd.bd (Nd.gt fun e => getO e i) fun _ => Nd.bd ws fun ds => liftN (chgO i fun cur => g cur ds)
def nExt (i : Nat) (wq : Nd QV) : Nd D := Nd.bd (Nd.gt fun e => getO e i) fun _ => Nd.bd wq fun q => liftN (chgQ i extG q)
def nIdx (k : Bool) (wq : Nd QV) (wb : Nd D) : Nd D := Nd.bd wq fun q => Nd.bd (Nd.gt (kindQ k q)) fun _ => Nd.bd wb fun d => Nd.gt fun e => (seqOf e q).bind fun s => if s.1 = k then indexF s d else none
def nSeq (w u : Nd Fl) : Nd Fl := Nd.bd (ddN w) fun f => match f with
  | .nx => u
  | f => Nd.ret f
def nSet (i : Nat) (o : Bool) (w : Nd D) : Nd Fl := Nd.bd w fun d => Nd.md fun e => if i < e.length then some (e.set i (slotOf o d)) else none
def nRet (w : Nd D) : Nd Fl := Nd.bd w fun d => Nd.ret (.rt d)
def nDo (w : Nd D) : Nd Fl := Nd.bd w fun _ => Nd.ret .nx
def nNo {α : Type} : Nd α := fun _ => none
def nAsg (γ : D → Sto → Option Sto) (w : Nd D) : Nd Fl := Nd.bd w fun d => Nd.md fun e => γ d e
def nPar (js : List Nat) (os : List Bool) (ws : Nd (List D)) : Nd Fl := Nd.bd ws fun ds => Nd.md fun e => if (∀ j ∈ js, j < e.length) then some (setsE js os ds e) else none
section
variable {α β γ : Type} {wa wb wc : Wp D} {na nb nc : Nd D} {wq wq2 : Wp QV} {nq nq2 : Nd QV} {wt wu : Wp Bool} {nt nu : Nd Bool} {w u : Wp Fl} {n m : Nd Fl} {wl wh ws : Wp (Option Int)} {nl nh ns : Nd (Option Int)} {wx : Wp (List D)} {nx : Nd (List D)}
theorem sn_ite {w u : Wp α} {n m : Nd α} (c : Bool) (h1 : SndN w n) (h2 : SndN u m) : SndN (if c = true then w else u) (if c = true then n else m) := by cases c <;> assumption
theorem sn_B2 {w : Wp α} {n : Nd α} {u : Wp β} {m : Nd β} (g : α → β → Option γ) (h1 : SndN w n) (h2 : SndN u m) : SndN (wB2 g w u) (nB2 g n m) := sn_bd h1 fun _ => sn_bd h2 fun _ => sn_gt _
theorem sn_B1 {w : Wp α} {n : Nd α} (g : α → Option γ) (h1 : SndN w n) : SndN (wB1 g w) (nB1 g n) := sn_bd h1 fun _ => sn_gt _
theorem sn_Val (h : SndN wt nt) : SndN (wVal wt) (nVal nt) := sn_bd h fun _ => sn_ret _
theorem sn_B2Q (g : D → Bool × List D → Option β) (h1 : SndN wa na) (h2 : SndN wq nq) : SndN (wB2Q g wa wq) (nB2Q g na nq) := sn_bd h1 fun _ => sn_bd h2 fun _ => sn_gt _
theorem sn_Not (h : SndN wt nt) : SndN (Vl.wNot wt) (nNot nt) := sn_bd h fun _ => sn_ret _
theorem sn_And (h : SndN wt nt) (g : SndN wu nu) : SndN (Vl.wAnd wt wu) (nAnd nt nu) := sn_bd h fun c => sn_ite c g (sn_ret _)
theorem sn_Or (h : SndN wt nt) (g : SndN wu nu) : SndN (Vl.wOr wt wu) (nOr nt nu) := sn_bd h fun c => sn_ite c (sn_ret _) g
theorem sn_AndV (h : SndN wa na) (g : SndN wb nb) : SndN (wAndV wa wb) (nAndV na nb) := sn_bd h fun _ => sn_bd (sn_gt _) fun c => sn_ite c g (sn_ret _)
theorem sn_OrV (h : SndN wa na) (g : SndN wb nb) : SndN (wOrV wa wb) (nOrV na nb) := sn_bd h fun _ => sn_bd (sn_gt _) fun c => sn_ite c (sn_ret _) g
theorem sn_NotV (h : SndN wa na) : SndN (wNotV wa) (nNotV na) := sn_bd h fun _ => sn_bd (sn_gt _) fun c => sn_ret _
theorem sn_If {w u : Wp α} {n m : Nd α} (h : SndN wt nt) (h1 : SndN w n) (h2 : SndN u m) : SndN (wIf wt w u) (nIf nt n m) := sn_bd h fun c => sn_ite c h1 h2
theorem sn_Ch (g g2 : D → D → Option Bool) (h1 : SndN wa na) (h2 : SndN wb nb) (h3 : SndN wc nc) : SndN (wCh g g2 wa wb wc) (nCh g g2 na nb nc) := sn_bd h1 fun _ => sn_bd h2 fun _ => sn_bd (sn_gt _) fun k => sn_ite k (sn_bd h3 fun _ => sn_gt _) (sn_ret _)
theorem sn_Cons (h1 : SndN wa na) (h2 : SndN wx nx) : SndN (wCons wa wx) (nCons na nx) := sn_bd h1 fun _ => sn_bd h2 fun _ => sn_ret _
theorem sn_Q (h : SndN wa na) : SndN (wQ wa) (nQ na) := sn_bd h fun _ => sn_ret _
theorem sn_Q1 (g : Bool × List D → Option α) (h : SndN wq nq) : SndN (wQ1 g wq) (nQ1 g nq) := sn_bd h fun _ => sn_gt _
theorem sn_Ix (h1 : SndN wq nq) (h2 : SndN wb nb) : SndN (wIx wq wb) (nIx nq nb) := sn_bd h1 fun _ => sn_bd h2 fun _ => sn_gt _
theorem sn_Sl (o : Bool) (h1 : SndN wq nq) (h2 : SndN wl nl) (h3 : SndN wh nh) : SndN (wSl o wq wl wh) (nSl o nq nl nh) := sn_bd h1 fun _ => sn_bd h2 fun _ => sn_bd h3 fun _ => sn_gt _
theorem sn_St (o : Bool) (h1 : SndN wq nq) (h2 : SndN wl nl) (h3 : SndN wh nh) (h4 : SndN ws ns) : SndN (wSt o wq wl wh ws) (nSt o nq nl nh ns) := sn_bd h1 fun _ => sn_bd h2 fun _ => sn_bd h3 fun _ => sn_bd h4 fun _ => sn_gt _
theorem sn_CatL (h1 : SndN wq nq) (h2 : SndN wq2 nq2) : SndN (wCatL wq wq2) (nCatL nq nq2) := sn_bd h1 fun _ => sn_bd h2 fun _ => sn_gt _
theorem sn_Rep (h1 : SndN wq nq) (h2 : SndN wb nb) : SndN (wRep wq wb) (nRep nq nb) := sn_bd h1 fun _ => sn_bd h2 fun _ => sn_gt _
theorem sn_Mut (i : Nat) (g : List D → List D → Option (D × List D)) (h : SndN wx nx) : SndN (wMut i g wx) (nMut i g nx) := sn_bd (sn_gt _) fun _ => sn_bd h fun _ => sn_lift _
theorem sn_Ext (i : Nat) (h : SndN wq nq) : SndN (wExt i wq) (nExt i nq) := sn_bd (sn_gt _) fun _ => sn_bd h fun _ => sn_lift _
theorem sn_Idx (k : Bool) (h1 : SndN wq nq) (h2 : SndN wb nb) : SndN (wIdx k wq wb) (nIdx k nq nb) := sn_bd h1 fun _ => sn_bd (sn_gt _) fun _ => sn_bd h2 fun _ => sn_gt _
theorem sn_Seq (h1 : SndN w n) (h2 : SndN u m) : SndN (wSeq w u) (nSeq n m) := sn_bd (sn_dd h1) fun f => by
  cases f with
  | nx => exact h2
  | _ => exact sn_ret _
theorem sn_Set (i : Nat) (o : Bool) (h : SndN wa na) : SndN (wSet i o wa) (nSet i o na) := sn_bd h fun _ => sn_md _
theorem sn_Ret (h : SndN wa na) : SndN (wRet wa) (nRet na) := sn_bd h fun _ => sn_ret _
theorem sn_Do (h : SndN wa na) : SndN (wDo wa) (nDo na) := sn_bd h fun _ => sn_ret _
theorem sn_No : SndN (wNo : Wp α) nNo := fun _ _ _ h _ => nomatch h
theorem sn_Asg (γ : D → Sto → Option Sto) (h : SndN wa na) : SndN (wAsg γ wa) (nAsg γ na) := sn_bd h fun _ => sn_md _
theorem sn_Par (js : List Nat) (os : List Bool) (h : SndN wx nx) : SndN (wPar js os wx) (nPar js os nx) := sn_bd h fun _ => sn_md _
/-! ### loops -/
def nFor (γ : D → Sto → Option Sto) (n : Nd Fl) : List D → Nd Fl
  | [] => Nd.ret .nx
  | x :: xs => fun e => match γ x e with
    | none => none
    | some e1 => match ddN n e1 with
      | none => none
      | some l => bindAll (fun r => match r.1 with
        | .nx => nFor γ n xs r.2
        | .ct => nFor γ n xs r.2
        | .bk => some [(.nx, r.2)]
        | .rt d => some [(.rt d, r.2)]) l
theorem sn_For (γ : D → Sto → Option Sto) (h : SndN w n) : ∀ xs, SndN (wFor γ w xs) (nFor γ n xs)
  | [] => sn_ret _
  | x :: xs => fun e l k g hk => by
    have ih := sn_For γ h xs
    unfold nFor at g
    split at g
    · cases g
    · rename_i e1 h1
      split at g
      · cases g
      · rename_i y hy
        refine ⟨e1, h1, sn_dd h e1 y _ hy fun r hr => ?_⟩
        obtain ⟨z, hz, hm⟩ := bindAll_mem g r hr
        obtain ⟨f, e2⟩ := r
        cases f with
        | nx => exact ih e2 z k hz fun q hq => hk q (hm q hq)
        | ct => exact ih e2 z k hz fun q hq => hk q (hm q hq)
        | bk =>
          obtain rfl := Option.some.inj (show some [(Fl.nx, e2)] = some z from hz)
          exact hk (.nx, e2) (hm _ (by simp))
        | rt d =>
          obtain rfl := Option.some.inj (show some [(Fl.rt d, e2)] = some z from hz)
          exact hk (.rt d, e2) (hm _ (by simp))
def nForS (γ : D → Sto → Option Sto) (ws : Nd (List D)) (w : Nd Fl) : Nd Fl := Nd.bd ws fun xs => nFor γ w xs
theorem sn_ForS (γ : D → Sto → Option Sto) (h1 : SndN wx nx) (h : SndN w n) : SndN (wForS γ wx w) (nForS γ nx n) := sn_bd h1 fun xs => sn_For γ h xs
def nWhile (c : Nd Bool) (w : Nd Fl) : Nat → Nd Fl
  | 0 => fun _ => none
  | j + 1 => fun e => match c e with
    | none => none
    | some l => bindAll (fun b => if b.1 = true then (match ddN w b.2 with
      | none => none
      | some l2 => bindAll (fun r => match r.1 with
        | .nx => nWhile c w j r.2
        | .ct => nWhile c w j r.2
        | .bk => some [(.nx, r.2)]
        | .rt d => some [(.rt d, r.2)]) l2) else some [(.nx, b.2)]) l
theorem sn_While (h1 : SndN wt nt) (h : SndN w n) : ∀ j, SndN (wWhile wt w j) (nWhile nt n j)
  | 0 => fun _ _ _ g _ => nomatch g
  | j + 1 => fun e l k g hk => by
    have ih := sn_While h1 h j
    unfold nWhile at g
    split at g
    · cases g
    · rename_i l1 hl1
      refine h1 e l1 _ hl1 fun b hb => ?_
      obtain ⟨z, hz, hm⟩ := bindAll_mem g b hb
      by_cases hc : b.1 = true
      · rw [if_pos hc] at hz
        rw [if_pos hc]
        split at hz
        · cases hz
        · rename_i y hy
          refine sn_dd h b.2 y _ hy fun r hr => ?_
          obtain ⟨z2, hz2, hm2⟩ := bindAll_mem hz r hr
          obtain ⟨f, e2⟩ := r
          cases f with
          | nx => exact ih e2 z2 k hz2 fun q hq => hk q (hm q (hm2 q hq))
          | ct => exact ih e2 z2 k hz2 fun q hq => hk q (hm q (hm2 q hq))
          | bk =>
            obtain rfl := Option.some.inj (show some [(Fl.nx, e2)] = some z2 from hz2)
            exact hk (.nx, e2) (hm _ (hm2 _ (by simp)))
          | rt d =>
            obtain rfl := Option.some.inj (show some [(Fl.rt d, e2)] = some z2 from hz2)
            exact hk (.rt d, e2) (hm _ (hm2 _ (by simp)))
      · rw [if_neg hc] at hz
        rw [if_neg hc]
        obtain rfl := Option.some.inj hz
        exact hk (.nx, b.2) (hm _ (by simp))
def nWh (c : Nd Bool) (w : Nd Fl) : Nd Fl := nWhile c w 1000
theorem sn_Wh (h1 : SndN wt nt) (h : SndN w n) : SndN (wWh wt w) (nWh nt n) := fun e l k g hk => ⟨1000, sn_While h1 h 1000 e l k g hk⟩
/-! ### comprehensions -/
def SndRn (f : D → (Option D → Prop) → Prop) (g : D → Option (List (Option D))) : Prop := ∀ x l k, g x = some l → (∀ r ∈ l, k r) → f x k
def addO (r : Option D) (ds : List D) : List D := match r with
  | none => ds
  | some d => d :: ds
def nRun (g : D → Option (List (Option D))) : List D → Option (List (List D))
  | [] => some [[]]
  | x :: xs => match g x with
    | none => none
    | some os => match nRun g xs with
      | none => none
      | some ls => some (os.flatMap fun r => ls.map fun ds => addO r ds)
theorem sn_run {f : D → (Option D → Prop) → Prop} {g : D → Option (List (Option D))} (h : SndRn f g) : ∀ (xs : List D) (l : List (List D)) (k : List D → Prop), nRun g xs = some l → (∀ r ∈ l, k r) → wRun f xs k
  | [], l, k, hl, hk => by
    obtain rfl := Option.some.inj hl
    exact hk [] (by simp)
  | x :: xs, l, k, hl, hk => by
    unfold nRun at hl
    split at hl
    · cases hl
    · rename_i os hos
      split at hl
      · cases hl
      · rename_i ls hls
        obtain rfl := Option.some.inj hl
        refine h x os _ hos fun r hr => ?_
        have mem : ∀ ds ∈ ls, addO r ds ∈ os.flatMap fun r => ls.map fun ds => addO r ds := fun ds hds => List.mem_flatMap.mpr ⟨r, hr, List.mem_map.mpr ⟨ds, hds, rfl⟩⟩
        cases r with
        | none => exact sn_run h xs ls k hls fun ds hds => hk _ (mem ds hds)
        | some d => exact sn_run h xs ls _ hls fun ds hds => hk _ (mem ds hds)
def sameO : Option D → Option D → Bool
  | none, none => true
  | some a, some b => sameX a b
  | _, _ => false
theorem sameO_eq : ∀ (a b : Option D), sameO a b = true → a = b
  | none, none, _ => rfl
  | some a, some b, h => by rw [sameX_eq (show sameX a b = true from h)]
  | none, some _, h => nomatch h
  | some _, none, h => nomatch h
def nEl (γ : D → Sto → Option Sto) (nt : Nd Bool) (ne : Nd D) (e : Sto) : D → Option (List (Option D)) := fun x => match γ x e with
  | none => none
  | some e1 => match nt e1 with
    | none => none
    | some l => match bindAll (fun b => if b.1 = true then (match ne b.2 with
        | none => none
        | some l2 => some (l2.map fun r => some r.1)) else some [none]) l with
      | none => none
      | some os => some (dd sameO os)
theorem sn_El (γ : D → Sto → Option Sto) (h1 : SndN wt nt) (h2 : SndN wa na) (e : Sto) : SndRn (wEl γ wt wa e) (nEl γ nt na e) := fun x l k g hk => by
  unfold nEl at g
  split at g
  · cases g
  · rename_i e1 he1
    split at g
    · cases g
    · rename_i l1 hl1
      split at g
      · cases g
      · rename_i os hos
        obtain rfl := Option.some.inj g
        refine ⟨e1, he1, h1 e1 l1 _ hl1 fun b hb => ?_⟩
        obtain ⟨z, hz, hm⟩ := bindAll_mem hos b hb
        by_cases hc : b.1 = true
        · rw [if_pos hc] at hz
          rw [if_pos hc]
          split at hz
          · cases hz
          · rename_i l2 hl2
            obtain rfl := Option.some.inj hz
            exact h2 b.2 l2 _ hl2 fun r hr => hk _ (dd_mem sameO_eq (hm _ (List.mem_map.mpr ⟨r, hr, rfl⟩)))
        · rw [if_neg hc] at hz
          rw [if_neg hc]
          obtain rfl := Option.some.inj hz
          exact hk _ (dd_mem sameO_eq (hm _ (by simp)))
def nLc (vs : List Nat) (ws : Nd (List D)) (γ : D → Sto → Option Sto) (nt : Nd Bool) (ne : Nd D) : Nd D := Nd.bd ws fun xs e => if (∀ i ∈ vs, (Vl.getO e i).isNone = true) ∧ xs.length ≤ lim then (match nRun (nEl γ nt ne (wipeE e vs)) xs with
  | none => none
  | some ls => some (ls.map fun ds => (.list ds, e))) else none
theorem sn_Lc (vs : List Nat) (γ : D → Sto → Option Sto) (h : SndN wx nx) (h1 : SndN wt nt) (h2 : SndN wa na) : SndN (wLc vs wx γ wt wa) (nLc vs nx γ nt na) := sn_bd h fun xs e l k g hk => by
  by_cases hc : (∀ i ∈ vs, (Vl.getO e i).isNone = true) ∧ xs.length ≤ lim
  · rw [if_pos hc] at g
    split at g
    · cases g
    · rename_i ls hls
      obtain rfl := Option.some.inj g
      refine ⟨⟨fun i hi => by simpa using hc.1 i hi, hc.2⟩, sn_run (sn_El γ h1 h2 _) xs ls _ hls fun ds hds => hk (.list ds, e) (List.mem_map.mpr ⟨ds, hds, rfl⟩)⟩
  · rw [if_neg hc] at g; cases g
/-! ### defs -/
abbrev Nf := List D → Option (List D)
def SndF (fw : Fw) (g : Nf) : Prop := ∀ ds l k, g ds = some l → (∀ d ∈ l, k d) → fw ds k
def nDraw : Nf
  | [.dict [(.list [], .none)], .int m] => if 0 < m ∧ m ≤ 1000 then some ((rg m.toNat).map .int) else none
  | _ => none
theorem sn_draw : SndF fwDraw nDraw := fun ds l k h hk => by
  unfold nDraw at h
  split at h
  · rename_i m
    by_cases hm : 0 < m ∧ m ≤ 1000
    · rw [if_pos hm] at h
      obtain rfl := Option.some.inj h
      refine drawG_ok m k ⟨hm.1, by omega⟩ fun d h0 h1 => hk _ (List.mem_map.mpr ⟨d, rg_mem.mpr (by omega), rfl⟩)
    · rw [if_neg hm] at h; cases h
  · cases h
def nCall (g : Nf) (n l : Nat) (pm : List Nat) (dis : List Int) (w wk : Nd (List D)) : Nd D := Nd.bd w fun ds => Nd.bd wk fun zs e => if ds.length = n ∧ zs.length = l then (match g (pick pm (ds ++ zs ++ dis.map .int)) with
  | none => none
  | some rs => some (rs.map fun d => (d, e))) else none
theorem sn_Call {fw : Fw} {g : Nf} {w wk : Wp (List D)} {n' nk : Nd (List D)} (hf : SndF fw g) (n l : Nat) (pm : List Nat) (dis : List Int) (h1 : SndN w n') (h2 : SndN wk nk) : SndN (wCall fw n l pm dis w wk) (nCall g n l pm dis n' nk) := fun e0 l0 k0 g0 hk0 => by
  have := sn_bd h1 (f := fun ds => Wp.bd wk fun zs => fun e2 k => (ds.length = n ∧ zs.length = l) ∧ fw (pick pm (ds ++ zs ++ dis.map .int)) fun d => k d e2) (fun ds => sn_bd h2 fun zs e lx k gx hk => by
    by_cases hc : ds.length = n ∧ zs.length = l
    · rw [if_pos hc] at gx
      split at gx
      · cases gx
      · rename_i rs hrs
        obtain rfl := Option.some.inj gx
        exact ⟨hc, hf _ rs _ hrs fun d hd => hk (d, e) (List.mem_map.mpr ⟨d, hd, rfl⟩)⟩
    · rw [if_neg hc] at gx; cases gx) e0 l0 k0 g0 hk0
  exact this
def flD (o : Bool) : Fl → Option D
  | .nx => if o = true then none else some .none
  | .rt d => some d
  | _ => none
/-- all a def gives -/
def runN (N : List Str) (o : Bool) (n : Nd Fl) : Nf := fun ds => match n (ini N ds) with
  | none => none
  | some l => match bindAll (fun r => match flD o r.1 with
      | none => none
      | some d => some [d]) l with
    | none => none
    | some rs => some (dd sameX rs)
theorem sn_fn {N : List Str} {o : Bool} (h : SndN w n) : SndF (fun ds k => w (ini N ds) (endK o k)) (runN N o n) := fun ds l k g hk => by
  unfold runN at g
  split at g
  · cases g
  · rename_i y hy
    split at g
    · cases g
    · rename_i rs hrs
      obtain rfl := Option.some.inj g
      refine h _ y _ hy fun r hr => ?_
      obtain ⟨z, hz, hm⟩ := bindAll_mem hrs r hr
      split at hz
      · cases hz
      · rename_i d hd
        obtain rfl := Option.some.inj hz
        have kd : k d := hk d (dd_mem (fun a b => sameX_eq) (hm d (by simp)))
        obtain ⟨f, e2⟩ := r
        cases f with
        | nx =>
          cases o with
          | true => cases hd
          | false =>
            obtain rfl := Option.some.inj (show some PyData.none = some d from hd)
            exact ⟨rfl, kd⟩
        | rt x =>
          obtain rfl := Option.some.inj (show some x = some d from hd)
          exact kd
        | bk => cases hd
        | ct => cases hd
def pureN (g : List D → Option D) : Nf := fun ds => match g ds with
  | some d => some [d]
  | none => none
theorem sn_pure (g : List D → Option D) : SndF (liftF g) (pureN g) := fun ds l k h hk => by
  unfold pureN at h
  split at h
  · rename_i d hd
    obtain rfl := Option.some.inj h
    exact ⟨d, hd, hk d (by simp)⟩
  · cases h
/-- True alone -/
def isTrueD : D → Bool
  | .bool true => true
  | _ => false
theorem isTrueD_eq {d : D} (h : isTrueD d = true) : d = .bool true := by
  unfold isTrueD at h
  split at h
  · rfl
  · cases h
def okN (r : Option (List D)) : Bool := match r with
  | some l => l.all isTrueD
  | none => false
theorem okN_ok {fw : Fw} {g : Nf} (hs : SndF fw g) {ds : List D} (h : okN (g ds) = true) {k : D → Prop} (hk : k (.bool true)) : fw ds k := by
  unfold okN at h
  split at h
  · rename_i l hl
    refine hs ds l k hl fun d hd => ?_
    rw [isTrueD_eq (List.all_eq_true.mp h d hd)]
    exact hk
  · cases h
end
end Vl
namespace Wk
open PySem PySem.Spec PyProof.Rows L2 Vl
def topS (i : Nat) : Stmt := PySem.Challenge.pw_cardpacks_k37_whole_shuffles_done_back_a.main.body.getD i (.Pass ⟨0, 0, 0, 0⟩)
section
variable {P : Program} {w : World} {K : PySem.W.Frag} {mg : Str → Option Value} {base : Heap} {f : Addr} {fd : FuncData}

/-! ### _law_draw -/
abbrev st__law_draw : Stmt := topS 68
abbrev FD__law_draw (K : PySem.W.Frag) (f : Addr) (fd : FuncData) : Prop := FunD K "_law_draw" "_law_draw" (defArgs st__law_draw) (defBody st__law_draw) (defScope st__law_draw) [] [] f fd
theorem sc__law_draw : FnScope ["pot", "many", "digit"] ["pot", "many"] (defScope st__law_draw) := ⟨rfl, rfl, rfl, by decide +kernel, rfl, by decide +kernel, by decide +kernel⟩
theorem kb__law_draw_0 {f : Addr} {fd : FuncData} (F : FD__law_draw K f fd) : KB K fd ["pot", "many"] 2 [] (([] : List Int).map V.int) [0, 1] := kb0 F 2 [] [0, 1] fun _ _ _ _ _ _ us ws hu hw => match us, hu, ws, hw with | [_, _], _, [], _ => rfl
abbrev fw__law_draw : Fw := fwDraw
theorem ok__law_draw (F : FD__law_draw K f fd) (g_self : mg "_law_draw" = some (.ref f)) (m_divmod : mg "divmod" = none) (m_int : mg "int" = none) : Bd P w K mg base 1 "_law_draw" (FD__law_draw K) ["pot", "many"] false fwDraw := by
  refine ⟨f, fd, F, g_self, drawG (k := 0) (A := 39373) (B := 3391) (M := 2147483587) (N2 := 2147483563) (Fv := 19) F sc__law_draw fun cdv Ar outer s H hg hr => ?_⟩
  exact pss_cons (ps_if (pt_cmpR op_gt (pe_ix ix_list (pv 0) pe_int (fun _ _ => rfl)) pe_int (nomark _))
      (pss_cons (ps_asg (pe_callB call_divmodW rfl m_divmod (by decide +kernel) (pa_cons (pe_ix ix_list (pv 0) pe_int (fun _ _ => rfl)) (pa_cons (pv 1) pa_nil)) (by decide) (by decide)) (pg_tup rfl (pgs_cons (pg_sub (pv 0) pe_int set_list) (pgs_cons (pg_name (i := 2) sc__law_draw.nd rfl (.inl rfl)) pgs_nil)))) (pss_one (ps_ret (pv 2)))) pss_nil)
    (pss_cons (ps_asg (pe_op op_mod (pe_callTy call_int1 rfl m_int (by decide +kernel) (pa_cons (pe_op op_add (pe_op op_mulW (pe_ix ix_list (pv 0) pe_int (fun _ _ => rfl)) pe_int) pe_int) pa_nil) (by decide) (by decide)) pe_int) (pg_sub (pv 0) pe_int set_list))
    (pss_one (ps_ret (pe_op op_mod (pe_callTy call_int1 rfl m_int (by decide +kernel) (pa_cons (pe_op op_fdivW (pe_op op_mod (pe_callTy call_int1 rfl m_int (by decide +kernel) (pa_cons (pe_op op_mulW (pe_ix ix_list (pv 0) pe_int (fun _ _ => rfl)) (pe_ix ix_list (pv 0) pe_int (fun _ _ => rfl))) pa_nil) (by decide) (by decide)) pe_int) pe_int) pa_nil) (by decide) (by decide)) (pv 1)))))
/-! ### is_integer -/
abbrev st_is_integer : Stmt := topS 1
abbrev FD_is_integer (K : PySem.W.Frag) (f : Addr) (fd : FuncData) : Prop := FunD K "is_integer" "is_integer" (defArgs st_is_integer) (defBody st_is_integer) (defScope st_is_integer) [] [] f fd
theorem sc_is_integer : FnScope ["value"] ["value"] (defScope st_is_integer) := ⟨rfl, rfl, rfl, by decide +kernel, rfl, by decide +kernel, by decide +kernel⟩
def OG_is_integer : Op Fl := (oRet  (oAndV  (oVal (oB1 (isiD ["int"]) (oVar 0))) (oNotV  (oVal (oB1 (isiD ["bool"]) (oVar 0))))))
def O_is_integer : Op Fl := OG_is_integer 
def R_is_integer : List D → Option D := runF ["value"] false O_is_integer
theorem kb_is_integer_0 {f : Addr} {fd : FuncData} (F : FD_is_integer K f fd) : KB K fd ["value"] 1 [] (([] : List Int).map V.int) [0] := kb0 F 1 [] [0] fun _ _ _ _ _ _ us ws hu hw => match us, hu, ws, hw with | [_], _, [], _ => rfl
theorem ok_is_integer (F : FD_is_integer K f fd) (g_self : mg "is_integer" = some (.ref f)) (m_bool : mg "bool" = none) (m_int : mg "int" = none) (m_isinstance : mg "isinstance" = none) : Bd P w K mg base 1 "is_integer" (FD_is_integer K) ["value"] false (liftF (R_is_integer)) := by
  refine ⟨f, fd, F, g_self, ?_⟩
  exact FnG.mono (j := 1) (fnF F sc_is_integer fun cdv A outer s H hg hr => ⟨_, (Vl.ss_one (Vl.ds_ret  (Vl.d_and  (Vl.d_isi  (Vl.b_of (Vl.d_var 0)) rfl m_isinstance rfl m_int (by decide +kernel)) (Vl.e_one (Vl.d_not  (Vl.d_isi  (Vl.b_of (Vl.d_var 0)) rfl m_isinstance rfl m_bool (by decide +kernel)) )) ) ))⟩) (by decide)
/-! ### is_within -/
abbrev st_is_within : Stmt := topS 2
abbrev FD_is_within (K : PySem.W.Frag) (f : Addr) (fd : FuncData) : Prop := FunD K "is_within" "is_within" (defArgs st_is_within) (defBody st_is_within) (defScope st_is_within) [] [] f fd
theorem sc_is_within : FnScope ["value", "least", "most"] ["value", "least", "most"] (defScope st_is_within) := ⟨rfl, rfl, rfl, by decide +kernel, rfl, by decide +kernel, by decide +kernel⟩
def OG_is_within (g_R_is_integer : List D → Option D) : Op Fl := (oRet  (oAndV  (oCall (g_R_is_integer) 1 0 [0] [] (oCons  (oVar 0) (Op.ret [])) (Op.ret [])) (oVal (oCh leI leI (oVar 1) (oVar 0) (oVar 2)))))
def O_is_within : Op Fl := OG_is_within R_is_integer
def R_is_within : List D → Option D := runF ["value", "least", "most"] false O_is_within
theorem kb_is_within_0 {f : Addr} {fd : FuncData} (F : FD_is_within K f fd) : KB K fd ["value", "least", "most"] 3 [] (([] : List Int).map V.int) [0, 1, 2] := kb0 F 3 [] [0, 1, 2] fun _ _ _ _ _ _ us ws hu hw => match us, hu, ws, hw with | [_, _, _], _, [], _ => rfl
theorem ok_is_within (F : FD_is_within K f fd) (g_self : mg "is_within" = some (.ref f)) (B_is_integer : Bd P w K mg base 1 "is_integer" (FD_is_integer K) ["value"] false (liftF (R_is_integer))) : Bd P w K mg base 2 "is_within" (FD_is_within K) ["value", "least", "most"] false (liftF (R_is_within)) := by
  obtain ⟨f_is_integer, fd_is_integer, F_is_integer, g_is_integer, G_is_integer⟩ := B_is_integer
  refine ⟨f, fd, F, g_self, ?_⟩
  exact FnG.mono (j := 2) (fnF F sc_is_within fun cdv A outer s H hg hr => ⟨_, (Vl.ss_one (Vl.ds_ret  (Vl.d_and  (Vl.d_call (dis := []) (G_is_integer.mono (by decide)) hg hr rfl g_is_integer F_is_integer.kp (kb_is_integer_0 F_is_integer) (Vl.ds_cons  (Vl.d_var 0) Vl.ds_nil )) (Vl.e_one (Vl.d_ch op_le op_le leS leS (Vl.d_var 1) (Vl.d_var 0) (Vl.d_var 2) )) ) ))⟩) (by decide)
/-! ### is_pack_value -/
abbrev st_is_pack_value : Stmt := topS 23
abbrev FD_is_pack_value (K : PySem.W.Frag) (f : Addr) (fd : FuncData) : Prop := FunD K "is_pack_value" "is_pack_value" (defArgs st_is_pack_value) (defBody st_is_pack_value) (defScope st_is_pack_value) [] [] f fd
theorem sc_is_pack_value : FnScope ["value", "one"] ["value"] (defScope st_is_pack_value) := ⟨rfl, rfl, rfl, by decide +kernel, rfl, by decide +kernel, by decide +kernel⟩
def OG_is_pack_value (g_R_is_within : List D → Option D) : Op Fl := (oSeq  (oIf  (oOr  (oNot  (oB1 tru (oVal (oB1 (isiD ["tuple"]) (oVar 0))))) (oNot  (oCh leI leI (Op.ret (.int 1)) (oQ1 lenQ (oQ (oVar 0))) (Op.ret (.int 52))))) (oRet  (Op.ret (.bool false))) (Op.ret .nx)) (oRet  (oAndV  (oQ1 allQ (oQ (oLc [1] (oB1 itQ (oVar 0)) (gmName 1) (Op.ret true) (oCall (g_R_is_within) 3 0 [0, 1, 2] [] (oCons  (oVar 1) (oCons  (Op.ret (.int 0)) (oCons  (oB2 subD (oQ1 lenQ (oQ (oVar 0))) (Op.ret (.int 1))) (Op.ret [])))) (Op.ret []))))) (oVal (oB2 eqD (oB1 lenSetA (oVar 0)) (oQ1 lenQ (oQ (oVar 0))))))))
def O_is_pack_value : Op Fl := OG_is_pack_value R_is_within
def R_is_pack_value : List D → Option D := runF ["value", "one"] false O_is_pack_value
theorem kb_is_pack_value_0 {f : Addr} {fd : FuncData} (F : FD_is_pack_value K f fd) : KB K fd ["value"] 1 [] (([] : List Int).map V.int) [0] := kb0 F 1 [] [0] fun _ _ _ _ _ _ us ws hu hw => match us, hu, ws, hw with | [_], _, [], _ => rfl
theorem ok_is_pack_value (F : FD_is_pack_value K f fd) (g_self : mg "is_pack_value" = some (.ref f)) (B_is_within : Bd P w K mg base 2 "is_within" (FD_is_within K) ["value", "least", "most"] false (liftF (R_is_within))) (C_MOST_CARDS : ∃ u, mg "MOST_CARDS" = some u ∧ RelV (.int 52) u) (m_all : mg "all" = none) (m_isinstance : mg "isinstance" = none) (m_len : mg "len" = none) (m_set : mg "set" = none) (m_tuple : mg "tuple" = none) : Bd P w K mg base 3 "is_pack_value" (FD_is_pack_value K) ["value"] false (liftF (R_is_pack_value)) := by
  obtain ⟨f_is_within, fd_is_within, F_is_within, g_is_within, G_is_within⟩ := B_is_within
  obtain ⟨u_MOST_CARDS, c_MOST_CARDS⟩ := C_MOST_CARDS
  refine ⟨f, fd, F, g_self, ?_⟩
  exact FnG.mono (j := 3) (fnF F sc_is_pack_value fun cdv A outer s H hg hr => ⟨_, (Vl.dss_cons  (Vl.ds_if  (Vl.t_w (Vl.dtw_or  (Vl.dt_not  (Vl.dt_val  (Vl.d_isi  (Vl.b_of (Vl.d_var 0)) rfl m_isinstance rfl m_tuple (by decide +kernel)) ) ) (Vl.tw_or1 (Vl.dt_not  (Vl.dt_ch op_le op_le leS leS Vl.d_int (Vl.d_len rfl m_len (Vl.dq_of (Vl.d_var 0)) ) (Vl.d_gint rfl c_MOST_CARDS.1 c_MOST_CARDS.2) ) )) )) (Vl.ss_one (Vl.ds_ret  Vl.d_bl )) Vl.dss_nil ) (Vl.ss_one (Vl.ds_ret  (Vl.d_and  (Vl.d_all rfl rfl m_all (Vl.dq_of (Vl.e_frz (Vl.d_lc (own := [("one", 1)]) rfl sc_is_pack_value.nd (Vl.di_val  (Vl.d_var 0) ) (blkOk_by (N := ["value", "one"]) (sc := defScope st_is_pack_value) (by decide +kernel)) (fun _ _ _ _ _ => by exact (Vl.c_name (i := 1) sc_is_pack_value.nd)) (fun _ _ _ _ _ => by exact Vl.dtm_nil) (fun _ _ _ _ _ => by exact (Vl.d_call (dis := []) (G_is_within.mono (by decide)) hg hr rfl g_is_within F_is_within.kp (kb_is_within_0 F_is_within) (Vl.ds_cons  (Vl.d_var 1) (Vl.ds_cons  Vl.d_int (Vl.ds_cons  (Vl.d_sub  (Vl.d_len rfl m_len (Vl.dq_of (Vl.d_var 0)) ) Vl.d_int ) Vl.ds_nil ) ) )))))) ) (Vl.e_one (Vl.d_eq hr (Vl.b_of (Vl.d_lenSetA rfl m_len rfl m_set (Vl.d_var 0) rfl)) (Vl.b_of (Vl.d_len rfl m_len (Vl.dq_of (Vl.d_var 0)) )) )) ) )) )⟩) (by decide)
/-! ### want_pack -/
abbrev st_want_pack : Stmt := topS 24
abbrev FD_want_pack (K : PySem.W.Frag) (f : Addr) (fd : FuncData) : Prop := FunD K "want_pack" "want_pack" (defArgs st_want_pack) (defBody st_want_pack) (defScope st_want_pack) [] [] f fd
theorem sc_want_pack : FnScope ["pack"] ["pack"] (defScope st_want_pack) := ⟨rfl, rfl, rfl, by decide +kernel, rfl, by decide +kernel, by decide +kernel⟩
def OG_want_pack (g_R_is_pack_value : List D → Option D) : Op Fl := (oIf  (oNot  (oB1 tru (oCall (g_R_is_pack_value) 1 0 [0] [] (oCons  (oVar 0) (Op.ret [])) (Op.ret [])))) oNo (Op.ret .nx))
def O_want_pack : Op Fl := OG_want_pack R_is_pack_value
def R_want_pack : List D → Option D := runF ["pack"] false O_want_pack
theorem kb_want_pack_0 {f : Addr} {fd : FuncData} (F : FD_want_pack K f fd) : KB K fd ["pack"] 1 [] (([] : List Int).map V.int) [0] := kb0 F 1 [] [0] fun _ _ _ _ _ _ us ws hu hw => match us, hu, ws, hw with | [_], _, [], _ => rfl
theorem ok_want_pack (F : FD_want_pack K f fd) (g_self : mg "want_pack" = some (.ref f)) (B_is_pack_value : Bd P w K mg base 3 "is_pack_value" (FD_is_pack_value K) ["value"] false (liftF (R_is_pack_value))) : Bd P w K mg base 4 "want_pack" (FD_want_pack K) ["pack"] false (liftF (R_want_pack)) := by
  obtain ⟨f_is_pack_value, fd_is_pack_value, F_is_pack_value, g_is_pack_value, G_is_pack_value⟩ := B_is_pack_value
  refine ⟨f, fd, F, g_self, ?_⟩
  exact FnG.mono (j := 4) (fnF F sc_want_pack fun cdv A outer s H hg hr => ⟨_, (Vl.ss_one (Vl.ds_if  (Vl.dt_not  (Vl.dt_val  (Vl.d_call (dis := []) (G_is_pack_value.mono (by decide)) hg hr rfl g_is_pack_value F_is_pack_value.kp (kb_is_pack_value_0 F_is_pack_value) (Vl.ds_cons  (Vl.d_var 0) Vl.ds_nil )) ) ) Vl.dss_never Vl.dss_nil ))⟩) (by decide)
/-! ### moved_of -/
abbrev st_moved_of : Stmt := topS 31
abbrev FD_moved_of (K : PySem.W.Frag) (f : Addr) (fd : FuncData) : Prop := FunD K "moved_of" "moved_of" (defArgs st_moved_of) (defBody st_moved_of) (defScope st_moved_of) [] [] f fd
theorem sc_moved_of : FnScope ["pack", "move", "place"] ["pack", "move"] (defScope st_moved_of) := ⟨rfl, rfl, rfl, by decide +kernel, rfl, by decide +kernel, by decide +kernel⟩
def OG_moved_of : Op Fl := (oRet  (oQ1 tupQ (oQ (oLc [2] (oB1 itQ (oVar 1)) (gmName 2) (Op.ret true) (oIx  (oQ (oVar 0)) (oVar 2))))))
def O_moved_of : Op Fl := OG_moved_of 
def R_moved_of : List D → Option D := runF ["pack", "move", "place"] false O_moved_of
theorem kb_moved_of_0 {f : Addr} {fd : FuncData} (F : FD_moved_of K f fd) : KB K fd ["pack", "move"] 2 [] (([] : List Int).map V.int) [0, 1] := kb0 F 2 [] [0, 1] fun _ _ _ _ _ _ us ws hu hw => match us, hu, ws, hw with | [_, _], _, [], _ => rfl
theorem ok_moved_of (F : FD_moved_of K f fd) (g_self : mg "moved_of" = some (.ref f)) (m_tuple : mg "tuple" = none) : Bd P w K mg base 1 "moved_of" (FD_moved_of K) ["pack", "move"] false (liftF (R_moved_of)) := by
  refine ⟨f, fd, F, g_self, ?_⟩
  exact FnG.mono (j := 1) (fnF F sc_moved_of fun cdv A outer s H hg hr => ⟨_, (Vl.ss_one (Vl.ds_ret  (Vl.d_tuple rfl m_tuple (Vl.dq_of (Vl.e_frz (Vl.d_lc (own := [("place", 2)]) rfl sc_moved_of.nd (Vl.di_val  (Vl.d_var 1) ) (blkOk_by (N := ["pack", "move", "place"]) (sc := defScope st_moved_of) (by decide +kernel)) (fun _ _ _ _ _ => by exact (Vl.c_name (i := 2) sc_moved_of.nd)) (fun _ _ _ _ _ => by exact Vl.dtm_nil) (fun _ _ _ _ _ => by exact (Vl.d_ix  (Vl.dq_of (Vl.d_var 0)) (Vl.d_var 2) ))))) ) ))⟩) (by decide)
/-! ### back_of -/
abbrev st_back_of : Stmt := topS 32
abbrev FD_back_of (K : PySem.W.Frag) (f : Addr) (fd : FuncData) : Prop := FunD K "back_of" "back_of" (defArgs st_back_of) (defBody st_back_of) (defScope st_back_of) [] [] f fd
theorem sc_back_of : FnScope ["move", "found", "place", "one"] ["move"] (defScope st_back_of) := ⟨rfl, rfl, rfl, by decide +kernel, rfl, by decide +kernel, by decide +kernel⟩
def OG_back_of : Op Fl := (oSeq  (oSet 1 true (oRep  (oQ (oB1 mkL (oCons  (Op.ret (.int 0)) (Op.ret [])))) (oQ1 lenQ (oQ (oVar 0))))) (oSeq  (oForS (gmTup 2 (gmCons (gmName 2) (gmCons (gmName 3) gmNil))) (oB1 enumA (oVar 0)) (oAsg (gmSub 1 (oVar 3)) (oVar 2))) (oRet  (oQ1 tupQ (oOwn 1)))))
def O_back_of : Op Fl := OG_back_of 
def R_back_of : List D → Option D := runF ["move", "found", "place", "one"] false O_back_of
theorem kb_back_of_0 {f : Addr} {fd : FuncData} (F : FD_back_of K f fd) : KB K fd ["move"] 1 [] (([] : List Int).map V.int) [0] := kb0 F 1 [] [0] fun _ _ _ _ _ _ us ws hu hw => match us, hu, ws, hw with | [_], _, [], _ => rfl
theorem ok_back_of (F : FD_back_of K f fd) (g_self : mg "back_of" = some (.ref f)) (m_enumerate : mg "enumerate" = none) (m_len : mg "len" = none) (m_tuple : mg "tuple" = none) : Bd P w K mg base 1 "back_of" (FD_back_of K) ["move"] false (liftF (R_back_of)) := by
  refine ⟨f, fd, F, g_self, ?_⟩
  exact FnG.mono (j := 1) (fnF F sc_back_of fun cdv A outer s H hg hr => ⟨_, (Vl.dss_cons  (Vl.ds_set (i := 1) sc_back_of.nd (Vl.d_rep  (Vl.dq_of (Vl.e_frz (Vl.d_lst  (Vl.ds_cons  Vl.d_int Vl.ds_nil ) ))) (Vl.d_len rfl m_len (Vl.dq_of (Vl.d_var 0)) ) ) ) (Vl.dss_cons  (Vl.ds_for (m := true) PassesOwn.never rfl (Vl.di_enumA rfl m_enumerate (Vl.d_var 0) ) (Vl.tg_tup rfl (Vl.tgs_cons (Vl.tg_name (i := 2) sc_back_of.nd) (Vl.tgs_cons (Vl.tg_name (i := 3) sc_back_of.nd) Vl.tgs_nil))) (Vl.ss_one (Vl.ds_asg (Vl.d_var 2) (Vl.tg_sub (i := 1) (Vl.d_var 3))))) (Vl.ss_one (Vl.ds_ret  (Vl.d_tuple rfl m_tuple (Vl.dq_own 1) ) )) ) )⟩) (by decide)
/-! ### laid -/
abbrev st_laid : Stmt := topS 44
abbrev FD_laid (K : PySem.W.Frag) (f : Addr) (fd : FuncData) : Prop := FunD K "laid" "laid" (defArgs st_laid) (defBody st_laid) (defScope st_laid) [] [] f fd
theorem sc_laid : FnScope ["upper", "lower", "found", "place"] ["upper", "lower"] (defScope st_laid) := ⟨rfl, rfl, rfl, by decide +kernel, rfl, by decide +kernel, by decide +kernel⟩
def OG_laid : Op Fl := (oSeq  (oSet 2 true (oB1 mkL (Op.ret []))) (oSeq  (oForS (gmName 3) (oB1 rng1 (oCons  (oQ1 lenQ (oQ (oVar 0))) (Op.ret []))) (oDo  (oExt 2 (oQ (oCatL  (oQ (oSl true (oQ (oVar 0)) (oB1 intO (oVar 3)) (oB1 intO (oB2 addD (oVar 3) (Op.ret (.int 1)))))) (oQ (oSl true (oQ (oVar 1)) (oB1 intO (oVar 3)) (oB1 intO (oB2 addD (oVar 3) (Op.ret (.int 1))))))))))) (oRet  (oQ1 tupQ (oOwn 2)))))
def O_laid : Op Fl := OG_laid 
def R_laid : List D → Option D := runF ["upper", "lower", "found", "place"] false O_laid
theorem kb_laid_0 {f : Addr} {fd : FuncData} (F : FD_laid K f fd) : KB K fd ["upper", "lower"] 2 [] (([] : List Int).map V.int) [0, 1] := kb0 F 2 [] [0, 1] fun _ _ _ _ _ _ us ws hu hw => match us, hu, ws, hw with | [_, _], _, [], _ => rfl
theorem ok_laid (F : FD_laid K f fd) (g_self : mg "laid" = some (.ref f)) (m_len : mg "len" = none) (m_range : mg "range" = none) (m_tuple : mg "tuple" = none) : Bd P w K mg base 1 "laid" (FD_laid K) ["upper", "lower"] false (liftF (R_laid)) := by
  refine ⟨f, fd, F, g_self, ?_⟩
  exact FnG.mono (j := 1) (fnF F sc_laid fun cdv A outer s H hg hr => ⟨_, (Vl.dss_cons  (Vl.ds_set (i := 2) sc_laid.nd (Vl.d_lst  Vl.ds_nil ) ) (Vl.dss_cons  (Vl.ds_for (m := true) PassesOwn.never rfl (Vl.di_rng1 rfl m_range (Vl.ds_cons  (Vl.d_len rfl m_len (Vl.dq_of (Vl.d_var 0)) ) Vl.ds_nil ) ) (Vl.tg_name (i := 3) sc_laid.nd) (Vl.ss_one (Vl.ds_expr  (Vl.d_ext (i := 2) (Vl.dq_of (Vl.e_frz (Vl.d_catL  (Vl.dq_of (Vl.e_frz (Vl.d_sl true (Vl.dq_of (Vl.d_var 0)) (Vl.dp_some  (Vl.d_var 3) ) (Vl.dp_some  (Vl.d_add  (Vl.d_var 3) Vl.d_int ) ) ))) (Vl.dq_of (Vl.e_frz (Vl.d_sl true (Vl.dq_of (Vl.d_var 1)) (Vl.dp_some  (Vl.d_var 3) ) (Vl.dp_some  (Vl.d_add  (Vl.d_var 3) Vl.d_int ) ) ))) ))) ) ))) (Vl.ss_one (Vl.ds_ret  (Vl.d_tuple rfl m_tuple (Vl.dq_own 2) ) )) ) )⟩) (by decide)
/-! ### out_of -/
abbrev st_out_of : Stmt := topS 45
abbrev FD_out_of (K : PySem.W.Frag) (f : Addr) (fd : FuncData) : Prop := FunD K "out_of" "out_of" (defArgs st_out_of) (defBody st_out_of) (defScope st_out_of) [] [] f fd
theorem sc_out_of : FnScope ["cards", "half"] ["cards"] (defScope st_out_of) := ⟨rfl, rfl, rfl, by decide +kernel, rfl, by decide +kernel, by decide +kernel⟩
def OG_out_of (g_R_laid : List D → Option D) : Op Fl := (oSeq  (oSet 1 false (oB2 fdivD (oB2 addD (oVar 0) (Op.ret (.int 1))) (Op.ret (.int 2)))) (oRet  (oCall (g_R_laid) 2 0 [0, 1] [] (oCons  (oB1 lstRg (oB1 int1 (oVar 1))) (oCons  (oB1 lstRg (oB2 int2 (oVar 1) (oVar 0))) (Op.ret []))) (Op.ret []))))
def O_out_of : Op Fl := OG_out_of R_laid
def R_out_of : List D → Option D := runF ["cards", "half"] false O_out_of
theorem kb_out_of_0 {f : Addr} {fd : FuncData} (F : FD_out_of K f fd) : KB K fd ["cards"] 1 [] (([] : List Int).map V.int) [0] := kb0 F 1 [] [0] fun _ _ _ _ _ _ us ws hu hw => match us, hu, ws, hw with | [_], _, [], _ => rfl
theorem ok_out_of (F : FD_out_of K f fd) (g_self : mg "out_of" = some (.ref f)) (B_laid : Bd P w K mg base 1 "laid" (FD_laid K) ["upper", "lower"] false (liftF (R_laid))) (m_list : mg "list" = none) (m_range : mg "range" = none) : Bd P w K mg base 2 "out_of" (FD_out_of K) ["cards"] false (liftF (R_out_of)) := by
  obtain ⟨f_laid, fd_laid, F_laid, g_laid, G_laid⟩ := B_laid
  refine ⟨f, fd, F, g_self, ?_⟩
  exact FnG.mono (j := 2) (fnF F sc_out_of fun cdv A outer s H hg hr => ⟨_, (Vl.dss_cons  (Vl.ds_set (i := 1) sc_out_of.nd (Vl.d_fdiv  (Vl.d_add  (Vl.d_var 0) Vl.d_int ) Vl.d_int ) ) (Vl.ss_one (Vl.ds_ret  (Vl.d_call (dis := []) (G_laid.mono (by decide)) hg hr rfl g_laid F_laid.kp (kb_laid_0 F_laid) (Vl.ds_cons  (Vl.e_frz (Vl.d_lstRg rfl rfl m_list (Vl.dr_1 rfl m_range (Vl.d_var 1) ) )) (Vl.ds_cons  (Vl.e_frz (Vl.d_lstRg rfl rfl m_list (Vl.dr_2 rfl m_range (Vl.d_var 1) (Vl.d_var 0) ) )) Vl.ds_nil ) )) )) )⟩) (by decide)
/-! ### out_undone -/
abbrev st_out_undone : Stmt := topS 51
abbrev FD_out_undone (K : PySem.W.Frag) (f : Addr) (fd : FuncData) : Prop := FunD K "out_undone" "out_undone" (defArgs st_out_undone) (defBody st_out_undone) (defScope st_out_undone) [] [] f fd
theorem sc_out_undone : FnScope ["pack"] ["pack"] (defScope st_out_undone) := ⟨rfl, rfl, rfl, by decide +kernel, rfl, by decide +kernel, by decide +kernel⟩
def OG_out_undone (g_R_want_pack : List D → Option D) (g_R_moved_of : List D → Option D) (g_R_back_of : List D → Option D) (g_R_out_of : List D → Option D) : Op Fl := (oSeq  (oDo  (oCall (g_R_want_pack) 1 0 [0] [] (oCons  (oVar 0) (Op.ret [])) (Op.ret []))) (oRet  (oCall (g_R_moved_of) 2 0 [0, 1] [] (oCons  (oVar 0) (oCons  (oCall (g_R_back_of) 1 0 [0] [] (oCons  (oCall (g_R_out_of) 1 0 [0] [] (oCons  (oQ1 lenQ (oQ (oVar 0))) (Op.ret [])) (Op.ret [])) (Op.ret [])) (Op.ret [])) (Op.ret []))) (Op.ret []))))
def O_out_undone : Op Fl := OG_out_undone R_want_pack R_moved_of R_back_of R_out_of
def R_out_undone : List D → Option D := runF ["pack"] false O_out_undone
theorem kb_out_undone_0 {f : Addr} {fd : FuncData} (F : FD_out_undone K f fd) : KB K fd ["pack"] 1 [] (([] : List Int).map V.int) [0] := kb0 F 1 [] [0] fun _ _ _ _ _ _ us ws hu hw => match us, hu, ws, hw with | [_], _, [], _ => rfl
theorem kb_out_undone_1 {f : Addr} {fd : FuncData} (F : FD_out_undone K f fd) : KB K fd ["pack"] 0 ["pack"] (([] : List Int).map V.int) [0] := kb0 F 0 ["pack"] [0] fun _ _ _ _ _ _ us ws hu hw => match us, hu, ws, hw with | [], _, [_], _ => rfl
theorem ok_out_undone (F : FD_out_undone K f fd) (g_self : mg "out_undone" = some (.ref f)) (B_want_pack : Bd P w K mg base 4 "want_pack" (FD_want_pack K) ["pack"] false (liftF (R_want_pack))) (B_moved_of : Bd P w K mg base 1 "moved_of" (FD_moved_of K) ["pack", "move"] false (liftF (R_moved_of))) (B_back_of : Bd P w K mg base 1 "back_of" (FD_back_of K) ["move"] false (liftF (R_back_of))) (B_out_of : Bd P w K mg base 2 "out_of" (FD_out_of K) ["cards"] false (liftF (R_out_of))) (m_len : mg "len" = none) : Bd P w K mg base 5 "out_undone" (FD_out_undone K) ["pack"] false (liftF (R_out_undone)) := by
  obtain ⟨f_want_pack, fd_want_pack, F_want_pack, g_want_pack, G_want_pack⟩ := B_want_pack
  obtain ⟨f_moved_of, fd_moved_of, F_moved_of, g_moved_of, G_moved_of⟩ := B_moved_of
  obtain ⟨f_back_of, fd_back_of, F_back_of, g_back_of, G_back_of⟩ := B_back_of
  obtain ⟨f_out_of, fd_out_of, F_out_of, g_out_of, G_out_of⟩ := B_out_of
  refine ⟨f, fd, F, g_self, ?_⟩
  exact FnG.mono (j := 5) (fnF F sc_out_undone fun cdv A outer s H hg hr => ⟨_, (Vl.dss_cons  (Vl.ds_expr  (Vl.d_call (dis := []) (G_want_pack.mono (by decide)) hg hr rfl g_want_pack F_want_pack.kp (kb_want_pack_0 F_want_pack) (Vl.ds_cons  (Vl.d_var 0) Vl.ds_nil )) ) (Vl.ss_one (Vl.ds_ret  (Vl.d_call (dis := []) (G_moved_of.mono (by decide)) hg hr rfl g_moved_of F_moved_of.kp (kb_moved_of_0 F_moved_of) (Vl.ds_cons  (Vl.d_var 0) (Vl.ds_cons  (Vl.d_call (dis := []) (G_back_of.mono (by decide)) hg hr rfl g_back_of F_back_of.kp (kb_back_of_0 F_back_of) (Vl.ds_cons  (Vl.d_call (dis := []) (G_out_of.mono (by decide)) hg hr rfl g_out_of F_out_of.kp (kb_out_of_0 F_out_of) (Vl.ds_cons  (Vl.d_len rfl m_len (Vl.dq_of (Vl.d_var 0)) ) Vl.ds_nil )) Vl.ds_nil )) Vl.ds_nil ) )) )) )⟩) (by decide)
/-! ### in_of -/
abbrev st_in_of : Stmt := topS 46
abbrev FD_in_of (K : PySem.W.Frag) (f : Addr) (fd : FuncData) : Prop := FunD K "in_of" "in_of" (defArgs st_in_of) (defBody st_in_of) (defScope st_in_of) [] [] f fd
theorem sc_in_of : FnScope ["cards", "half"] ["cards"] (defScope st_in_of) := ⟨rfl, rfl, rfl, by decide +kernel, rfl, by decide +kernel, by decide +kernel⟩
def OG_in_of (g_R_laid : List D → Option D) : Op Fl := (oSeq  (oSet 1 false (oB2 fdivD (oVar 0) (Op.ret (.int 2)))) (oRet  (oCall (g_R_laid) 2 0 [0, 1] [] (oCons  (oB1 lstRg (oB2 int2 (oVar 1) (oVar 0))) (oCons  (oB1 lstRg (oB1 int1 (oVar 1))) (Op.ret []))) (Op.ret []))))
def O_in_of : Op Fl := OG_in_of R_laid
def R_in_of : List D → Option D := runF ["cards", "half"] false O_in_of
theorem kb_in_of_0 {f : Addr} {fd : FuncData} (F : FD_in_of K f fd) : KB K fd ["cards"] 1 [] (([] : List Int).map V.int) [0] := kb0 F 1 [] [0] fun _ _ _ _ _ _ us ws hu hw => match us, hu, ws, hw with | [_], _, [], _ => rfl
theorem ok_in_of (F : FD_in_of K f fd) (g_self : mg "in_of" = some (.ref f)) (B_laid : Bd P w K mg base 1 "laid" (FD_laid K) ["upper", "lower"] false (liftF (R_laid))) (m_list : mg "list" = none) (m_range : mg "range" = none) : Bd P w K mg base 2 "in_of" (FD_in_of K) ["cards"] false (liftF (R_in_of)) := by
  obtain ⟨f_laid, fd_laid, F_laid, g_laid, G_laid⟩ := B_laid
  refine ⟨f, fd, F, g_self, ?_⟩
  exact FnG.mono (j := 2) (fnF F sc_in_of fun cdv A outer s H hg hr => ⟨_, (Vl.dss_cons  (Vl.ds_set (i := 1) sc_in_of.nd (Vl.d_fdiv  (Vl.d_var 0) Vl.d_int ) ) (Vl.ss_one (Vl.ds_ret  (Vl.d_call (dis := []) (G_laid.mono (by decide)) hg hr rfl g_laid F_laid.kp (kb_laid_0 F_laid) (Vl.ds_cons  (Vl.e_frz (Vl.d_lstRg rfl rfl m_list (Vl.dr_2 rfl m_range (Vl.d_var 1) (Vl.d_var 0) ) )) (Vl.ds_cons  (Vl.e_frz (Vl.d_lstRg rfl rfl m_list (Vl.dr_1 rfl m_range (Vl.d_var 1) ) )) Vl.ds_nil ) )) )) )⟩) (by decide)
/-! ### in_undone -/
abbrev st_in_undone : Stmt := topS 52
abbrev FD_in_undone (K : PySem.W.Frag) (f : Addr) (fd : FuncData) : Prop := FunD K "in_undone" "in_undone" (defArgs st_in_undone) (defBody st_in_undone) (defScope st_in_undone) [] [] f fd
theorem sc_in_undone : FnScope ["pack"] ["pack"] (defScope st_in_undone) := ⟨rfl, rfl, rfl, by decide +kernel, rfl, by decide +kernel, by decide +kernel⟩
def OG_in_undone (g_R_want_pack : List D → Option D) (g_R_moved_of : List D → Option D) (g_R_back_of : List D → Option D) (g_R_in_of : List D → Option D) : Op Fl := (oSeq  (oDo  (oCall (g_R_want_pack) 1 0 [0] [] (oCons  (oVar 0) (Op.ret [])) (Op.ret []))) (oRet  (oCall (g_R_moved_of) 2 0 [0, 1] [] (oCons  (oVar 0) (oCons  (oCall (g_R_back_of) 1 0 [0] [] (oCons  (oCall (g_R_in_of) 1 0 [0] [] (oCons  (oQ1 lenQ (oQ (oVar 0))) (Op.ret [])) (Op.ret [])) (Op.ret [])) (Op.ret [])) (Op.ret []))) (Op.ret []))))
def O_in_undone : Op Fl := OG_in_undone R_want_pack R_moved_of R_back_of R_in_of
def R_in_undone : List D → Option D := runF ["pack"] false O_in_undone
theorem kb_in_undone_0 {f : Addr} {fd : FuncData} (F : FD_in_undone K f fd) : KB K fd ["pack"] 1 [] (([] : List Int).map V.int) [0] := kb0 F 1 [] [0] fun _ _ _ _ _ _ us ws hu hw => match us, hu, ws, hw with | [_], _, [], _ => rfl
theorem kb_in_undone_1 {f : Addr} {fd : FuncData} (F : FD_in_undone K f fd) : KB K fd ["pack"] 0 ["pack"] (([] : List Int).map V.int) [0] := kb0 F 0 ["pack"] [0] fun _ _ _ _ _ _ us ws hu hw => match us, hu, ws, hw with | [], _, [_], _ => rfl
theorem ok_in_undone (F : FD_in_undone K f fd) (g_self : mg "in_undone" = some (.ref f)) (B_want_pack : Bd P w K mg base 4 "want_pack" (FD_want_pack K) ["pack"] false (liftF (R_want_pack))) (B_moved_of : Bd P w K mg base 1 "moved_of" (FD_moved_of K) ["pack", "move"] false (liftF (R_moved_of))) (B_back_of : Bd P w K mg base 1 "back_of" (FD_back_of K) ["move"] false (liftF (R_back_of))) (B_in_of : Bd P w K mg base 2 "in_of" (FD_in_of K) ["cards"] false (liftF (R_in_of))) (m_len : mg "len" = none) : Bd P w K mg base 5 "in_undone" (FD_in_undone K) ["pack"] false (liftF (R_in_undone)) := by
  obtain ⟨f_want_pack, fd_want_pack, F_want_pack, g_want_pack, G_want_pack⟩ := B_want_pack
  obtain ⟨f_moved_of, fd_moved_of, F_moved_of, g_moved_of, G_moved_of⟩ := B_moved_of
  obtain ⟨f_back_of, fd_back_of, F_back_of, g_back_of, G_back_of⟩ := B_back_of
  obtain ⟨f_in_of, fd_in_of, F_in_of, g_in_of, G_in_of⟩ := B_in_of
  refine ⟨f, fd, F, g_self, ?_⟩
  exact FnG.mono (j := 5) (fnF F sc_in_undone fun cdv A outer s H hg hr => ⟨_, (Vl.dss_cons  (Vl.ds_expr  (Vl.d_call (dis := []) (G_want_pack.mono (by decide)) hg hr rfl g_want_pack F_want_pack.kp (kb_want_pack_0 F_want_pack) (Vl.ds_cons  (Vl.d_var 0) Vl.ds_nil )) ) (Vl.ss_one (Vl.ds_ret  (Vl.d_call (dis := []) (G_moved_of.mono (by decide)) hg hr rfl g_moved_of F_moved_of.kp (kb_moved_of_0 F_moved_of) (Vl.ds_cons  (Vl.d_var 0) (Vl.ds_cons  (Vl.d_call (dis := []) (G_back_of.mono (by decide)) hg hr rfl g_back_of F_back_of.kp (kb_back_of_0 F_back_of) (Vl.ds_cons  (Vl.d_call (dis := []) (G_in_of.mono (by decide)) hg hr rfl g_in_of F_in_of.kp (kb_in_of_0 F_in_of) (Vl.ds_cons  (Vl.d_len rfl m_len (Vl.dq_of (Vl.d_var 0)) ) Vl.ds_nil )) Vl.ds_nil )) Vl.ds_nil ) )) )) )⟩) (by decide)
/-! ### out_shuffled -/
abbrev st_out_shuffled : Stmt := topS 49
abbrev FD_out_shuffled (K : PySem.W.Frag) (f : Addr) (fd : FuncData) : Prop := FunD K "out_shuffled" "out_shuffled" (defArgs st_out_shuffled) (defBody st_out_shuffled) (defScope st_out_shuffled) [] [] f fd
theorem sc_out_shuffled : FnScope ["pack"] ["pack"] (defScope st_out_shuffled) := ⟨rfl, rfl, rfl, by decide +kernel, rfl, by decide +kernel, by decide +kernel⟩
def OG_out_shuffled (g_R_want_pack : List D → Option D) (g_R_moved_of : List D → Option D) (g_R_out_of : List D → Option D) : Op Fl := (oSeq  (oDo  (oCall (g_R_want_pack) 1 0 [0] [] (oCons  (oVar 0) (Op.ret [])) (Op.ret []))) (oRet  (oCall (g_R_moved_of) 2 0 [0, 1] [] (oCons  (oVar 0) (oCons  (oCall (g_R_out_of) 1 0 [0] [] (oCons  (oQ1 lenQ (oQ (oVar 0))) (Op.ret [])) (Op.ret [])) (Op.ret []))) (Op.ret []))))
def O_out_shuffled : Op Fl := OG_out_shuffled R_want_pack R_moved_of R_out_of
def R_out_shuffled : List D → Option D := runF ["pack"] false O_out_shuffled
theorem kb_out_shuffled_0 {f : Addr} {fd : FuncData} (F : FD_out_shuffled K f fd) : KB K fd ["pack"] 1 [] (([] : List Int).map V.int) [0] := kb0 F 1 [] [0] fun _ _ _ _ _ _ us ws hu hw => match us, hu, ws, hw with | [_], _, [], _ => rfl
theorem ok_out_shuffled (F : FD_out_shuffled K f fd) (g_self : mg "out_shuffled" = some (.ref f)) (B_want_pack : Bd P w K mg base 4 "want_pack" (FD_want_pack K) ["pack"] false (liftF (R_want_pack))) (B_moved_of : Bd P w K mg base 1 "moved_of" (FD_moved_of K) ["pack", "move"] false (liftF (R_moved_of))) (B_out_of : Bd P w K mg base 2 "out_of" (FD_out_of K) ["cards"] false (liftF (R_out_of))) (m_len : mg "len" = none) : Bd P w K mg base 5 "out_shuffled" (FD_out_shuffled K) ["pack"] false (liftF (R_out_shuffled)) := by
  obtain ⟨f_want_pack, fd_want_pack, F_want_pack, g_want_pack, G_want_pack⟩ := B_want_pack
  obtain ⟨f_moved_of, fd_moved_of, F_moved_of, g_moved_of, G_moved_of⟩ := B_moved_of
  obtain ⟨f_out_of, fd_out_of, F_out_of, g_out_of, G_out_of⟩ := B_out_of
  refine ⟨f, fd, F, g_self, ?_⟩
  exact FnG.mono (j := 5) (fnF F sc_out_shuffled fun cdv A outer s H hg hr => ⟨_, (Vl.dss_cons  (Vl.ds_expr  (Vl.d_call (dis := []) (G_want_pack.mono (by decide)) hg hr rfl g_want_pack F_want_pack.kp (kb_want_pack_0 F_want_pack) (Vl.ds_cons  (Vl.d_var 0) Vl.ds_nil )) ) (Vl.ss_one (Vl.ds_ret  (Vl.d_call (dis := []) (G_moved_of.mono (by decide)) hg hr rfl g_moved_of F_moved_of.kp (kb_moved_of_0 F_moved_of) (Vl.ds_cons  (Vl.d_var 0) (Vl.ds_cons  (Vl.d_call (dis := []) (G_out_of.mono (by decide)) hg hr rfl g_out_of F_out_of.kp (kb_out_of_0 F_out_of) (Vl.ds_cons  (Vl.d_len rfl m_len (Vl.dq_of (Vl.d_var 0)) ) Vl.ds_nil )) Vl.ds_nil ) )) )) )⟩) (by decide)
/-! ### in_shuffled -/
abbrev st_in_shuffled : Stmt := topS 50
abbrev FD_in_shuffled (K : PySem.W.Frag) (f : Addr) (fd : FuncData) : Prop := FunD K "in_shuffled" "in_shuffled" (defArgs st_in_shuffled) (defBody st_in_shuffled) (defScope st_in_shuffled) [] [] f fd
theorem sc_in_shuffled : FnScope ["pack"] ["pack"] (defScope st_in_shuffled) := ⟨rfl, rfl, rfl, by decide +kernel, rfl, by decide +kernel, by decide +kernel⟩
def OG_in_shuffled (g_R_want_pack : List D → Option D) (g_R_moved_of : List D → Option D) (g_R_in_of : List D → Option D) : Op Fl := (oSeq  (oDo  (oCall (g_R_want_pack) 1 0 [0] [] (oCons  (oVar 0) (Op.ret [])) (Op.ret []))) (oRet  (oCall (g_R_moved_of) 2 0 [0, 1] [] (oCons  (oVar 0) (oCons  (oCall (g_R_in_of) 1 0 [0] [] (oCons  (oQ1 lenQ (oQ (oVar 0))) (Op.ret [])) (Op.ret [])) (Op.ret []))) (Op.ret []))))
def O_in_shuffled : Op Fl := OG_in_shuffled R_want_pack R_moved_of R_in_of
def R_in_shuffled : List D → Option D := runF ["pack"] false O_in_shuffled
theorem kb_in_shuffled_0 {f : Addr} {fd : FuncData} (F : FD_in_shuffled K f fd) : KB K fd ["pack"] 0 ["pack"] (([] : List Int).map V.int) [0] := kb0 F 0 ["pack"] [0] fun _ _ _ _ _ _ us ws hu hw => match us, hu, ws, hw with | [], _, [_], _ => rfl
theorem kb_in_shuffled_1 {f : Addr} {fd : FuncData} (F : FD_in_shuffled K f fd) : KB K fd ["pack"] 1 [] (([] : List Int).map V.int) [0] := kb0 F 1 [] [0] fun _ _ _ _ _ _ us ws hu hw => match us, hu, ws, hw with | [_], _, [], _ => rfl
theorem ok_in_shuffled (F : FD_in_shuffled K f fd) (g_self : mg "in_shuffled" = some (.ref f)) (B_want_pack : Bd P w K mg base 4 "want_pack" (FD_want_pack K) ["pack"] false (liftF (R_want_pack))) (B_moved_of : Bd P w K mg base 1 "moved_of" (FD_moved_of K) ["pack", "move"] false (liftF (R_moved_of))) (B_in_of : Bd P w K mg base 2 "in_of" (FD_in_of K) ["cards"] false (liftF (R_in_of))) (m_len : mg "len" = none) : Bd P w K mg base 5 "in_shuffled" (FD_in_shuffled K) ["pack"] false (liftF (R_in_shuffled)) := by
  obtain ⟨f_want_pack, fd_want_pack, F_want_pack, g_want_pack, G_want_pack⟩ := B_want_pack
  obtain ⟨f_moved_of, fd_moved_of, F_moved_of, g_moved_of, G_moved_of⟩ := B_moved_of
  obtain ⟨f_in_of, fd_in_of, F_in_of, g_in_of, G_in_of⟩ := B_in_of
  refine ⟨f, fd, F, g_self, ?_⟩
  exact FnG.mono (j := 5) (fnF F sc_in_shuffled fun cdv A outer s H hg hr => ⟨_, (Vl.dss_cons  (Vl.ds_expr  (Vl.d_call (dis := []) (G_want_pack.mono (by decide)) hg hr rfl g_want_pack F_want_pack.kp (kb_want_pack_0 F_want_pack) (Vl.ds_cons  (Vl.d_var 0) Vl.ds_nil )) ) (Vl.ss_one (Vl.ds_ret  (Vl.d_call (dis := []) (G_moved_of.mono (by decide)) hg hr rfl g_moved_of F_moved_of.kp (kb_moved_of_0 F_moved_of) (Vl.ds_cons  (Vl.d_var 0) (Vl.ds_cons  (Vl.d_call (dis := []) (G_in_of.mono (by decide)) hg hr rfl g_in_of F_in_of.kp (kb_in_of_0 F_in_of) (Vl.ds_cons  (Vl.d_len rfl m_len (Vl.dq_of (Vl.d_var 0)) ) Vl.ds_nil )) Vl.ds_nil ) )) )) )⟩) (by decide)
/-! ### want_heaps -/
abbrev st_want_heaps : Stmt := topS 58
abbrev FD_want_heaps (K : PySem.W.Frag) (f : Addr) (fd : FuncData) : Prop := FunD K "want_heaps" "want_heaps" (defArgs st_want_heaps) (defBody st_want_heaps) (defScope st_want_heaps) [] [] f fd
theorem sc_want_heaps : FnScope ["many"] ["many"] (defScope st_want_heaps) := ⟨rfl, rfl, rfl, by decide +kernel, rfl, by decide +kernel, by decide +kernel⟩
def OG_want_heaps (g_R_is_within : List D → Option D) : Op Fl := (oIf  (oNot  (oB1 tru (oCall (g_R_is_within) 3 0 [0, 1, 2] [] (oCons  (oVar 0) (oCons  (Op.ret (.int 1)) (oCons  (Op.ret (.int 52)) (Op.ret [])))) (Op.ret [])))) oNo (Op.ret .nx))
def O_want_heaps : Op Fl := OG_want_heaps R_is_within
def R_want_heaps : List D → Option D := runF ["many"] false O_want_heaps
theorem kb_want_heaps_0 {f : Addr} {fd : FuncData} (F : FD_want_heaps K f fd) : KB K fd ["many"] 1 [] (([] : List Int).map V.int) [0] := kb0 F 1 [] [0] fun _ _ _ _ _ _ us ws hu hw => match us, hu, ws, hw with | [_], _, [], _ => rfl
theorem ok_want_heaps (F : FD_want_heaps K f fd) (g_self : mg "want_heaps" = some (.ref f)) (B_is_within : Bd P w K mg base 2 "is_within" (FD_is_within K) ["value", "least", "most"] false (liftF (R_is_within))) (C_MOST_CARDS : ∃ u, mg "MOST_CARDS" = some u ∧ RelV (.int 52) u) : Bd P w K mg base 3 "want_heaps" (FD_want_heaps K) ["many"] false (liftF (R_want_heaps)) := by
  obtain ⟨f_is_within, fd_is_within, F_is_within, g_is_within, G_is_within⟩ := B_is_within
  obtain ⟨u_MOST_CARDS, c_MOST_CARDS⟩ := C_MOST_CARDS
  refine ⟨f, fd, F, g_self, ?_⟩
  exact FnG.mono (j := 3) (fnF F sc_want_heaps fun cdv A outer s H hg hr => ⟨_, (Vl.ss_one (Vl.ds_if  (Vl.dt_not  (Vl.dt_val  (Vl.d_call (dis := []) (G_is_within.mono (by decide)) hg hr rfl g_is_within F_is_within.kp (kb_is_within_0 F_is_within) (Vl.ds_cons  (Vl.d_var 0) (Vl.ds_cons  Vl.d_int (Vl.ds_cons  (Vl.d_gint rfl c_MOST_CARDS.1 c_MOST_CARDS.2) Vl.ds_nil ) ) )) ) ) Vl.dss_never Vl.dss_nil ))⟩) (by decide)
/-! ### dealt_of -/
abbrev st_dealt_of : Stmt := topS 60
abbrev FD_dealt_of (K : PySem.W.Frag) (f : Addr) (fd : FuncData) : Prop := FunD K "dealt_of" "dealt_of" (defArgs st_dealt_of) (defBody st_dealt_of) (defScope st_dealt_of) [] [] f fd
theorem sc_dealt_of : FnScope ["pack", "many", "at"] ["pack", "many"] (defScope st_dealt_of) := ⟨rfl, rfl, rfl, by decide +kernel, rfl, by decide +kernel, by decide +kernel⟩
def OG_dealt_of : Op Fl := (oRet  (oLc [2] (oB1 rng1 (oCons  (oVar 1) (Op.ret []))) (gmName 2) (Op.ret true) (oSt false (oQ (oSt false (oQ (oVar 0)) (oB1 intO (oVar 2)) (Op.ret none) (oB1 intO (oVar 1)))) (Op.ret none) (Op.ret none) (oB1 intO (oB1 negD (Op.ret (.int 1)))))))
def O_dealt_of : Op Fl := OG_dealt_of 
def R_dealt_of : List D → Option D := runF ["pack", "many", "at"] false O_dealt_of
theorem kb_dealt_of_0 {f : Addr} {fd : FuncData} (F : FD_dealt_of K f fd) : KB K fd ["pack", "many"] 2 [] (([] : List Int).map V.int) [0, 1] := kb0 F 2 [] [0, 1] fun _ _ _ _ _ _ us ws hu hw => match us, hu, ws, hw with | [_, _], _, [], _ => rfl
theorem ok_dealt_of (F : FD_dealt_of K f fd) (g_self : mg "dealt_of" = some (.ref f)) (m_range : mg "range" = none) : Bd P w K mg base 1 "dealt_of" (FD_dealt_of K) ["pack", "many"] false (liftF (R_dealt_of)) := by
  refine ⟨f, fd, F, g_self, ?_⟩
  exact FnG.mono (j := 1) (fnF F sc_dealt_of fun cdv A outer s H hg hr => ⟨_, (Vl.ss_one (Vl.ds_ret  (Vl.e_frz (Vl.d_lc (own := [("at", 2)]) rfl sc_dealt_of.nd (Vl.di_rng1 rfl m_range (Vl.ds_cons  (Vl.d_var 1) Vl.ds_nil ) ) (blkOk_by (N := ["pack", "many", "at"]) (sc := defScope st_dealt_of) (by decide +kernel)) (fun _ _ _ _ _ => by exact (Vl.c_name (i := 2) sc_dealt_of.nd)) (fun _ _ _ _ _ => by exact Vl.dtm_nil) (fun _ _ _ _ _ => by exact (Vl.d_stT  (Vl.dq_of (Vl.d_stT  (Vl.dq_of (Vl.d_var 0)) (Vl.dp_some  (Vl.d_var 2) ) Vl.dp_none (Vl.dp_some  (Vl.d_var 1) ) )) Vl.dp_none Vl.dp_none (Vl.dp_some  (Vl.d_neg  Vl.d_int ) ) )))) ))⟩) (by decide)
/-! ### dealt -/
abbrev st_dealt : Stmt := topS 62
abbrev FD_dealt (K : PySem.W.Frag) (f : Addr) (fd : FuncData) : Prop := FunD K "dealt" "dealt" (defArgs st_dealt) (defBody st_dealt) (defScope st_dealt) [] [] f fd
theorem sc_dealt : FnScope ["pack", "many"] ["pack", "many"] (defScope st_dealt) := ⟨rfl, rfl, rfl, by decide +kernel, rfl, by decide +kernel, by decide +kernel⟩
def OG_dealt (g_R_want_pack : List D → Option D) (g_R_want_heaps : List D → Option D) (g_R_dealt_of : List D → Option D) : Op Fl := (oSeq  (oDo  (oCall (g_R_want_pack) 1 0 [0] [] (oCons  (oVar 0) (Op.ret [])) (Op.ret []))) (oSeq  (oDo  (oCall (g_R_want_heaps) 1 0 [0] [] (oCons  (oVar 1) (Op.ret [])) (Op.ret []))) (oRet  (oCall (g_R_dealt_of) 2 0 [0, 1] [] (oCons  (oVar 0) (oCons  (oVar 1) (Op.ret []))) (Op.ret [])))))
def O_dealt : Op Fl := OG_dealt R_want_pack R_want_heaps R_dealt_of
def R_dealt : List D → Option D := runF ["pack", "many"] false O_dealt
theorem kb_dealt_0 {f : Addr} {fd : FuncData} (F : FD_dealt K f fd) : KB K fd ["pack", "many"] 2 [] (([] : List Int).map V.int) [0, 1] := kb0 F 2 [] [0, 1] fun _ _ _ _ _ _ us ws hu hw => match us, hu, ws, hw with | [_, _], _, [], _ => rfl
theorem ok_dealt (F : FD_dealt K f fd) (g_self : mg "dealt" = some (.ref f)) (B_want_pack : Bd P w K mg base 4 "want_pack" (FD_want_pack K) ["pack"] false (liftF (R_want_pack))) (B_want_heaps : Bd P w K mg base 3 "want_heaps" (FD_want_heaps K) ["many"] false (liftF (R_want_heaps))) (B_dealt_of : Bd P w K mg base 1 "dealt_of" (FD_dealt_of K) ["pack", "many"] false (liftF (R_dealt_of))) : Bd P w K mg base 5 "dealt" (FD_dealt K) ["pack", "many"] false (liftF (R_dealt)) := by
  obtain ⟨f_want_pack, fd_want_pack, F_want_pack, g_want_pack, G_want_pack⟩ := B_want_pack
  obtain ⟨f_want_heaps, fd_want_heaps, F_want_heaps, g_want_heaps, G_want_heaps⟩ := B_want_heaps
  obtain ⟨f_dealt_of, fd_dealt_of, F_dealt_of, g_dealt_of, G_dealt_of⟩ := B_dealt_of
  refine ⟨f, fd, F, g_self, ?_⟩
  exact FnG.mono (j := 5) (fnF F sc_dealt fun cdv A outer s H hg hr => ⟨_, (Vl.dss_cons  (Vl.ds_expr  (Vl.d_call (dis := []) (G_want_pack.mono (by decide)) hg hr rfl g_want_pack F_want_pack.kp (kb_want_pack_0 F_want_pack) (Vl.ds_cons  (Vl.d_var 0) Vl.ds_nil )) ) (Vl.dss_cons  (Vl.ds_expr  (Vl.d_call (dis := []) (G_want_heaps.mono (by decide)) hg hr rfl g_want_heaps F_want_heaps.kp (kb_want_heaps_0 F_want_heaps) (Vl.ds_cons  (Vl.d_var 1) Vl.ds_nil )) ) (Vl.ss_one (Vl.ds_ret  (Vl.d_call (dis := []) (G_dealt_of.mono (by decide)) hg hr rfl g_dealt_of F_dealt_of.kp (kb_dealt_of_0 F_dealt_of) (Vl.ds_cons  (Vl.d_var 0) (Vl.ds_cons  (Vl.d_var 1) Vl.ds_nil ) )) )) ) )⟩) (by decide)
/-! ### turned -/
abbrev st_turned : Stmt := topS 42
abbrev FD_turned (K : PySem.W.Frag) (f : Addr) (fd : FuncData) : Prop := FunD K "turned" "turned" (defArgs st_turned) (defBody st_turned) (defScope st_turned) [] [] f fd
theorem sc_turned : FnScope ["pack"] ["pack"] (defScope st_turned) := ⟨rfl, rfl, rfl, by decide +kernel, rfl, by decide +kernel, by decide +kernel⟩
def OG_turned (g_R_want_pack : List D → Option D) : Op Fl := (oSeq  (oDo  (oCall (g_R_want_pack) 1 0 [0] [] (oCons  (oVar 0) (Op.ret [])) (Op.ret []))) (oRet  (oSt false (oQ (oVar 0)) (Op.ret none) (Op.ret none) (oB1 intO (oB1 negD (Op.ret (.int 1)))))))
def O_turned : Op Fl := OG_turned R_want_pack
def R_turned : List D → Option D := runF ["pack"] false O_turned
theorem kb_turned_0 {f : Addr} {fd : FuncData} (F : FD_turned K f fd) : KB K fd ["pack"] 1 [] (([] : List Int).map V.int) [0] := kb0 F 1 [] [0] fun _ _ _ _ _ _ us ws hu hw => match us, hu, ws, hw with | [_], _, [], _ => rfl
theorem ok_turned (F : FD_turned K f fd) (g_self : mg "turned" = some (.ref f)) (B_want_pack : Bd P w K mg base 4 "want_pack" (FD_want_pack K) ["pack"] false (liftF (R_want_pack))) : Bd P w K mg base 5 "turned" (FD_turned K) ["pack"] false (liftF (R_turned)) := by
  obtain ⟨f_want_pack, fd_want_pack, F_want_pack, g_want_pack, G_want_pack⟩ := B_want_pack
  refine ⟨f, fd, F, g_self, ?_⟩
  exact FnG.mono (j := 5) (fnF F sc_turned fun cdv A outer s H hg hr => ⟨_, (Vl.dss_cons  (Vl.ds_expr  (Vl.d_call (dis := []) (G_want_pack.mono (by decide)) hg hr rfl g_want_pack F_want_pack.kp (kb_want_pack_0 F_want_pack) (Vl.ds_cons  (Vl.d_var 0) Vl.ds_nil )) ) (Vl.ss_one (Vl.ds_ret  (Vl.d_stT  (Vl.dq_of (Vl.d_var 0)) Vl.dp_none Vl.dp_none (Vl.dp_some  (Vl.d_neg  Vl.d_int ) ) ) )) )⟩) (by decide)
/-! ### is_list -/
abbrev st_is_list : Stmt := topS 4
abbrev FD_is_list (K : PySem.W.Frag) (f : Addr) (fd : FuncData) : Prop := FunD K "is_list" "is_list" (defArgs st_is_list) (defBody st_is_list) (defScope st_is_list) [] [] f fd
theorem sc_is_list : FnScope ["value"] ["value"] (defScope st_is_list) := ⟨rfl, rfl, rfl, by decide +kernel, rfl, by decide +kernel, by decide +kernel⟩
def OG_is_list : Op Fl := (oRet  (oVal (oB1 (isiD ["list", "tuple"]) (oVar 0))))
def O_is_list : Op Fl := OG_is_list 
def R_is_list : List D → Option D := runF ["value"] false O_is_list
theorem kb_is_list_0 {f : Addr} {fd : FuncData} (F : FD_is_list K f fd) : KB K fd ["value"] 1 [] (([] : List Int).map V.int) [0] := kb0 F 1 [] [0] fun _ _ _ _ _ _ us ws hu hw => match us, hu, ws, hw with | [_], _, [], _ => rfl
theorem ok_is_list (F : FD_is_list K f fd) (g_self : mg "is_list" = some (.ref f)) (m_isinstance : mg "isinstance" = none) (m_list : mg "list" = none) (m_tuple : mg "tuple" = none) : Bd P w K mg base 1 "is_list" (FD_is_list K) ["value"] false (liftF (R_is_list)) := by
  refine ⟨f, fd, F, g_self, ?_⟩
  exact FnG.mono (j := 1) (fnF F sc_is_list fun cdv A outer s H hg hr => ⟨_, (Vl.ss_one (Vl.ds_ret  (Vl.d_isi2  (Vl.b_of (Vl.d_var 0)) rfl m_isinstance rfl m_list (by decide +kernel) rfl m_tuple (by decide +kernel)) ))⟩) (by decide)
/-! ### are_piles_value -/
abbrev st_are_piles_value : Stmt := topS 56
abbrev FD_are_piles_value (K : PySem.W.Frag) (f : Addr) (fd : FuncData) : Prop := FunD K "are_piles_value" "are_piles_value" (defArgs st_are_piles_value) (defBody st_are_piles_value) (defScope st_are_piles_value) [] [] f fd
theorem sc_are_piles_value : FnScope ["value", "every", "one"] ["value"] (defScope st_are_piles_value) := ⟨rfl, rfl, rfl, by decide +kernel, rfl, by decide +kernel, by decide +kernel⟩
def OG_are_piles_value (g_R_is_list : List D → Option D) (g_R_is_pack_value : List D → Option D) : Op Fl := (oSeq  (oIf  (oOr  (oNot  (oB1 tru (oCall (g_R_is_list) 1 0 [0] [] (oCons  (oVar 0) (Op.ret [])) (Op.ret [])))) (oOr  (oNot  (oCh leI leI (Op.ret (.int 1)) (oQ1 lenQ (oQ (oVar 0))) (Op.ret (.int 52)))) (oNot  (oB1 tru (oQ1 allQ (oQ (oLc [2] (oB1 itQ (oVar 0)) (gmName 2) (Op.ret true) (oVal (oB1 (isiD ["tuple"]) (oVar 2)))))))))) (oRet  (Op.ret (.bool false))) (Op.ret .nx)) (oSeq  (oSet 1 true (oB1 mkL (Op.ret []))) (oSeq  (oForS (gmName 2) (oB1 itQ (oVar 0)) (oDo  (oExt 1 (oQ (oQ1 listQ (oQ (oVar 2))))))) (oRet  (oCall (g_R_is_pack_value) 1 0 [0] [] (oCons  (oQ1 tupQ (oOwn 1)) (Op.ret [])) (Op.ret []))))))
def O_are_piles_value : Op Fl := OG_are_piles_value R_is_list R_is_pack_value
def R_are_piles_value : List D → Option D := runF ["value", "every", "one"] false O_are_piles_value
theorem kb_are_piles_value_0 {f : Addr} {fd : FuncData} (F : FD_are_piles_value K f fd) : KB K fd ["value"] 1 [] (([] : List Int).map V.int) [0] := kb0 F 1 [] [0] fun _ _ _ _ _ _ us ws hu hw => match us, hu, ws, hw with | [_], _, [], _ => rfl
theorem ok_are_piles_value (F : FD_are_piles_value K f fd) (g_self : mg "are_piles_value" = some (.ref f)) (B_is_list : Bd P w K mg base 1 "is_list" (FD_is_list K) ["value"] false (liftF (R_is_list))) (B_is_pack_value : Bd P w K mg base 3 "is_pack_value" (FD_is_pack_value K) ["value"] false (liftF (R_is_pack_value))) (C_MOST_CARDS : ∃ u, mg "MOST_CARDS" = some u ∧ RelV (.int 52) u) (m_all : mg "all" = none) (m_isinstance : mg "isinstance" = none) (m_len : mg "len" = none) (m_list : mg "list" = none) (m_tuple : mg "tuple" = none) : Bd P w K mg base 4 "are_piles_value" (FD_are_piles_value K) ["value"] false (liftF (R_are_piles_value)) := by
  obtain ⟨f_is_list, fd_is_list, F_is_list, g_is_list, G_is_list⟩ := B_is_list
  obtain ⟨f_is_pack_value, fd_is_pack_value, F_is_pack_value, g_is_pack_value, G_is_pack_value⟩ := B_is_pack_value
  obtain ⟨u_MOST_CARDS, c_MOST_CARDS⟩ := C_MOST_CARDS
  refine ⟨f, fd, F, g_self, ?_⟩
  exact FnG.mono (j := 4) (fnF F sc_are_piles_value fun cdv A outer s H hg hr => ⟨_, (Vl.dss_cons  (Vl.ds_if  (Vl.t_w (Vl.dtw_or  (Vl.dt_not  (Vl.dt_val  (Vl.d_call (dis := []) (G_is_list.mono (by decide)) hg hr rfl g_is_list F_is_list.kp (kb_is_list_0 F_is_list) (Vl.ds_cons  (Vl.d_var 0) Vl.ds_nil )) ) ) (Vl.dtw_or  (Vl.dt_not  (Vl.dt_ch op_le op_le leS leS Vl.d_int (Vl.d_len rfl m_len (Vl.dq_of (Vl.d_var 0)) ) (Vl.d_gint rfl c_MOST_CARDS.1 c_MOST_CARDS.2) ) ) (Vl.tw_or1 (Vl.dt_not  (Vl.dt_val  (Vl.d_all rfl rfl m_all (Vl.dq_of (Vl.e_frz (Vl.d_lc (own := [("one", 2)]) rfl sc_are_piles_value.nd (Vl.di_val  (Vl.d_var 0) ) (blkOk_by (N := ["value", "every", "one"]) (sc := defScope st_are_piles_value) (by decide +kernel)) (fun _ _ _ _ _ => by exact (Vl.c_name (i := 2) sc_are_piles_value.nd)) (fun _ _ _ _ _ => by exact Vl.dtm_nil) (fun _ _ _ _ _ => by exact (Vl.d_isi  (Vl.b_of (Vl.d_var 2)) rfl m_isinstance rfl m_tuple (by decide +kernel)))))) ) ) )) ) )) (Vl.ss_one (Vl.ds_ret  Vl.d_bl )) Vl.dss_nil ) (Vl.dss_cons  (Vl.ds_set (i := 1) sc_are_piles_value.nd (Vl.d_lst  Vl.ds_nil ) ) (Vl.dss_cons  (Vl.ds_for (m := true) PassesOwn.never rfl (Vl.di_val  (Vl.d_var 0) ) (Vl.tg_name (i := 2) sc_are_piles_value.nd) (Vl.ss_one (Vl.ds_expr  (Vl.d_ext (i := 1) (Vl.dq_of (Vl.e_frz (Vl.d_list rfl m_list (Vl.dq_of (Vl.d_var 2)) ))) ) ))) (Vl.ss_one (Vl.ds_ret  (Vl.d_call (dis := []) (G_is_pack_value.mono (by decide)) hg hr rfl g_is_pack_value F_is_pack_value.kp (kb_is_pack_value_0 F_is_pack_value) (Vl.ds_cons  (Vl.d_tuple rfl m_tuple (Vl.dq_own 1) ) Vl.ds_nil )) )) ) ) )⟩) (by decide)
/-! ### want_piles -/
abbrev st_want_piles : Stmt := topS 57
abbrev FD_want_piles (K : PySem.W.Frag) (f : Addr) (fd : FuncData) : Prop := FunD K "want_piles" "want_piles" (defArgs st_want_piles) (defBody st_want_piles) (defScope st_want_piles) [] [] f fd
theorem sc_want_piles : FnScope ["piles"] ["piles"] (defScope st_want_piles) := ⟨rfl, rfl, rfl, by decide +kernel, rfl, by decide +kernel, by decide +kernel⟩
def OG_want_piles (g_R_are_piles_value : List D → Option D) : Op Fl := (oIf  (oNot  (oB1 tru (oCall (g_R_are_piles_value) 1 0 [0] [] (oCons  (oVar 0) (Op.ret [])) (Op.ret [])))) oNo (Op.ret .nx))
def O_want_piles : Op Fl := OG_want_piles R_are_piles_value
def R_want_piles : List D → Option D := runF ["piles"] false O_want_piles
theorem kb_want_piles_0 {f : Addr} {fd : FuncData} (F : FD_want_piles K f fd) : KB K fd ["piles"] 1 [] (([] : List Int).map V.int) [0] := kb0 F 1 [] [0] fun _ _ _ _ _ _ us ws hu hw => match us, hu, ws, hw with | [_], _, [], _ => rfl
theorem ok_want_piles (F : FD_want_piles K f fd) (g_self : mg "want_piles" = some (.ref f)) (B_are_piles_value : Bd P w K mg base 4 "are_piles_value" (FD_are_piles_value K) ["value"] false (liftF (R_are_piles_value))) : Bd P w K mg base 5 "want_piles" (FD_want_piles K) ["piles"] false (liftF (R_want_piles)) := by
  obtain ⟨f_are_piles_value, fd_are_piles_value, F_are_piles_value, g_are_piles_value, G_are_piles_value⟩ := B_are_piles_value
  refine ⟨f, fd, F, g_self, ?_⟩
  exact FnG.mono (j := 5) (fnF F sc_want_piles fun cdv A outer s H hg hr => ⟨_, (Vl.ss_one (Vl.ds_if  (Vl.dt_not  (Vl.dt_val  (Vl.d_call (dis := []) (G_are_piles_value.mono (by decide)) hg hr rfl g_are_piles_value F_are_piles_value.kp (kb_are_piles_value_0 F_are_piles_value) (Vl.ds_cons  (Vl.d_var 0) Vl.ds_nil )) ) ) Vl.dss_never Vl.dss_nil ))⟩) (by decide)
/-! ### want_sequence -/
abbrev st_want_sequence : Stmt := topS 59
abbrev FD_want_sequence (K : PySem.W.Frag) (f : Addr) (fd : FuncData) : Prop := FunD K "want_sequence" "want_sequence" (defArgs st_want_sequence) (defBody st_want_sequence) (defScope st_want_sequence) [] [] f fd
theorem sc_want_sequence : FnScope ["many", "sequence", "one"] ["many", "sequence"] (defScope st_want_sequence) := ⟨rfl, rfl, rfl, by decide +kernel, rfl, by decide +kernel, by decide +kernel⟩
def OG_want_sequence (g_R_is_list : List D → Option D) (g_R_is_within : List D → Option D) : Op Fl := (oSeq  (oIf  (oOr  (oNot  (oB1 tru (oCall (g_R_is_list) 1 0 [0] [] (oCons  (oVar 1) (Op.ret [])) (Op.ret [])))) (oOr  (oB2 neD (oQ1 lenQ (oQ (oVar 1))) (oVar 0)) (oNot  (oB1 tru (oQ1 allQ (oQ (oLc [2] (oB1 itQ (oVar 1)) (gmName 2) (Op.ret true) (oCall (g_R_is_within) 3 0 [0, 1, 2] [] (oCons  (oVar 2) (oCons  (Op.ret (.int 0)) (oCons  (oB2 subD (oVar 0) (Op.ret (.int 1))) (Op.ret [])))) (Op.ret []))))))))) oNo (Op.ret .nx)) (oIf  (oB2 neD (oB1 lenSetA (oQ1 listQ (oQ (oVar 1)))) (oVar 0)) oNo (Op.ret .nx)))
def O_want_sequence : Op Fl := OG_want_sequence R_is_list R_is_within
def R_want_sequence : List D → Option D := runF ["many", "sequence", "one"] false O_want_sequence
theorem kb_want_sequence_0 {f : Addr} {fd : FuncData} (F : FD_want_sequence K f fd) : KB K fd ["many", "sequence"] 2 [] (([] : List Int).map V.int) [0, 1] := kb0 F 2 [] [0, 1] fun _ _ _ _ _ _ us ws hu hw => match us, hu, ws, hw with | [_, _], _, [], _ => rfl
theorem ok_want_sequence (F : FD_want_sequence K f fd) (g_self : mg "want_sequence" = some (.ref f)) (B_is_list : Bd P w K mg base 1 "is_list" (FD_is_list K) ["value"] false (liftF (R_is_list))) (B_is_within : Bd P w K mg base 2 "is_within" (FD_is_within K) ["value", "least", "most"] false (liftF (R_is_within))) (m_all : mg "all" = none) (m_len : mg "len" = none) (m_list : mg "list" = none) (m_set : mg "set" = none) : Bd P w K mg base 3 "want_sequence" (FD_want_sequence K) ["many", "sequence"] false (liftF (R_want_sequence)) := by
  obtain ⟨f_is_list, fd_is_list, F_is_list, g_is_list, G_is_list⟩ := B_is_list
  obtain ⟨f_is_within, fd_is_within, F_is_within, g_is_within, G_is_within⟩ := B_is_within
  refine ⟨f, fd, F, g_self, ?_⟩
  exact FnG.mono (j := 3) (fnF F sc_want_sequence fun cdv A outer s H hg hr => ⟨_, (Vl.dss_cons  (Vl.ds_if  (Vl.t_w (Vl.dtw_or  (Vl.dt_not  (Vl.dt_val  (Vl.d_call (dis := []) (G_is_list.mono (by decide)) hg hr rfl g_is_list F_is_list.kp (kb_is_list_0 F_is_list) (Vl.ds_cons  (Vl.d_var 1) Vl.ds_nil )) ) ) (Vl.dtw_or  (Vl.dt_ne hr (Vl.b_of (Vl.d_len rfl m_len (Vl.dq_of (Vl.d_var 1)) )) (Vl.b_of (Vl.d_var 0)) ) (Vl.tw_or1 (Vl.dt_not  (Vl.dt_val  (Vl.d_all rfl rfl m_all (Vl.dq_of (Vl.e_frz (Vl.d_lc (own := [("one", 2)]) rfl sc_want_sequence.nd (Vl.di_val  (Vl.d_var 1) ) (blkOk_by (N := ["many", "sequence", "one"]) (sc := defScope st_want_sequence) (by decide +kernel)) (fun _ _ _ _ _ => by exact (Vl.c_name (i := 2) sc_want_sequence.nd)) (fun _ _ _ _ _ => by exact Vl.dtm_nil) (fun _ _ _ _ _ => by exact (Vl.d_call (dis := []) (G_is_within.mono (by decide)) hg hr rfl g_is_within F_is_within.kp (kb_is_within_0 F_is_within) (Vl.ds_cons  (Vl.d_var 2) (Vl.ds_cons  Vl.d_int (Vl.ds_cons  (Vl.d_sub  (Vl.d_var 0) Vl.d_int ) Vl.ds_nil ) ) )))))) ) ) )) ) )) Vl.dss_never Vl.dss_nil ) (Vl.ss_one (Vl.ds_if  (Vl.dt_ne hr (Vl.b_of (Vl.d_lenSetA rfl m_len rfl m_set (Vl.e_frz (Vl.d_list rfl m_list (Vl.dq_of (Vl.d_var 1)) )) rfl)) (Vl.b_of (Vl.d_var 0)) ) Vl.dss_never Vl.dss_nil )) )⟩) (by decide)
/-! ### gathered_of -/
abbrev st_gathered_of : Stmt := topS 61
abbrev FD_gathered_of (K : PySem.W.Frag) (f : Addr) (fd : FuncData) : Prop := FunD K "gathered_of" "gathered_of" (defArgs st_gathered_of) (defBody st_gathered_of) (defScope st_gathered_of) [] [] f fd
theorem sc_gathered_of : FnScope ["piles", "sequence", "found", "one"] ["piles", "sequence"] (defScope st_gathered_of) := ⟨rfl, rfl, rfl, by decide +kernel, rfl, by decide +kernel, by decide +kernel⟩
def OG_gathered_of : Op Fl := (oSeq  (oSet 2 false (oB1 mkT (Op.ret []))) (oSeq  (oForS (gmName 3) (oB1 itQ (oVar 1)) (oSet 2 false (oB2 addD (oVar 2) (oIx  (oQ (oVar 0)) (oVar 3))))) (oRet  (oVar 2))))
def O_gathered_of : Op Fl := OG_gathered_of 
def R_gathered_of : List D → Option D := runF ["piles", "sequence", "found", "one"] false O_gathered_of
theorem kb_gathered_of_0 {f : Addr} {fd : FuncData} (F : FD_gathered_of K f fd) : KB K fd ["piles", "sequence"] 2 [] (([] : List Int).map V.int) [0, 1] := kb0 F 2 [] [0, 1] fun _ _ _ _ _ _ us ws hu hw => match us, hu, ws, hw with | [_, _], _, [], _ => rfl
theorem ok_gathered_of (F : FD_gathered_of K f fd) (g_self : mg "gathered_of" = some (.ref f)) : Bd P w K mg base 1 "gathered_of" (FD_gathered_of K) ["piles", "sequence"] false (liftF (R_gathered_of)) := by
  refine ⟨f, fd, F, g_self, ?_⟩
  exact FnG.mono (j := 1) (fnF F sc_gathered_of fun cdv A outer s H hg hr => ⟨_, (Vl.dss_cons  (Vl.ds_set (i := 2) sc_gathered_of.nd (Vl.d_tup  Vl.ds_nil ) ) (Vl.dss_cons  (Vl.ds_for (m := true) PassesOwn.never rfl (Vl.di_val  (Vl.d_var 1) ) (Vl.tg_name (i := 3) sc_gathered_of.nd) (Vl.ss_one (Vl.ds_set (i := 2) sc_gathered_of.nd (Vl.d_add  (Vl.d_var 2) (Vl.d_ix  (Vl.dq_of (Vl.d_var 0)) (Vl.d_var 3) ) ) ))) (Vl.ss_one (Vl.ds_ret  (Vl.d_var 2) )) ) )⟩) (by decide)
/-! ### gathered -/
abbrev st_gathered : Stmt := topS 63
abbrev FD_gathered (K : PySem.W.Frag) (f : Addr) (fd : FuncData) : Prop := FunD K "gathered" "gathered" (defArgs st_gathered) (defBody st_gathered) (defScope st_gathered) [] [] f fd
theorem sc_gathered : FnScope ["piles", "sequence"] ["piles", "sequence"] (defScope st_gathered) := ⟨rfl, rfl, rfl, by decide +kernel, rfl, by decide +kernel, by decide +kernel⟩
def OG_gathered (g_R_want_piles : List D → Option D) (g_R_want_sequence : List D → Option D) (g_R_gathered_of : List D → Option D) : Op Fl := (oSeq  (oDo  (oCall (g_R_want_piles) 1 0 [0] [] (oCons  (oVar 0) (Op.ret [])) (Op.ret []))) (oSeq  (oDo  (oCall (g_R_want_sequence) 2 0 [0, 1] [] (oCons  (oQ1 lenQ (oQ (oVar 0))) (oCons  (oVar 1) (Op.ret []))) (Op.ret []))) (oRet  (oCall (g_R_gathered_of) 2 0 [0, 1] [] (oCons  (oQ1 listQ (oQ (oVar 0))) (oCons  (oVar 1) (Op.ret []))) (Op.ret [])))))
def O_gathered : Op Fl := OG_gathered R_want_piles R_want_sequence R_gathered_of
def R_gathered : List D → Option D := runF ["piles", "sequence"] false O_gathered
theorem kb_gathered_0 {f : Addr} {fd : FuncData} (F : FD_gathered K f fd) : KB K fd ["piles", "sequence"] 2 [] (([] : List Int).map V.int) [0, 1] := kb0 F 2 [] [0, 1] fun _ _ _ _ _ _ us ws hu hw => match us, hu, ws, hw with | [_, _], _, [], _ => rfl
theorem ok_gathered (F : FD_gathered K f fd) (g_self : mg "gathered" = some (.ref f)) (B_want_piles : Bd P w K mg base 5 "want_piles" (FD_want_piles K) ["piles"] false (liftF (R_want_piles))) (B_want_sequence : Bd P w K mg base 3 "want_sequence" (FD_want_sequence K) ["many", "sequence"] false (liftF (R_want_sequence))) (B_gathered_of : Bd P w K mg base 1 "gathered_of" (FD_gathered_of K) ["piles", "sequence"] false (liftF (R_gathered_of))) (m_len : mg "len" = none) (m_list : mg "list" = none) : Bd P w K mg base 6 "gathered" (FD_gathered K) ["piles", "sequence"] false (liftF (R_gathered)) := by
  obtain ⟨f_want_piles, fd_want_piles, F_want_piles, g_want_piles, G_want_piles⟩ := B_want_piles
  obtain ⟨f_want_sequence, fd_want_sequence, F_want_sequence, g_want_sequence, G_want_sequence⟩ := B_want_sequence
  obtain ⟨f_gathered_of, fd_gathered_of, F_gathered_of, g_gathered_of, G_gathered_of⟩ := B_gathered_of
  refine ⟨f, fd, F, g_self, ?_⟩
  exact FnG.mono (j := 6) (fnF F sc_gathered fun cdv A outer s H hg hr => ⟨_, (Vl.dss_cons  (Vl.ds_expr  (Vl.d_call (dis := []) (G_want_piles.mono (by decide)) hg hr rfl g_want_piles F_want_piles.kp (kb_want_piles_0 F_want_piles) (Vl.ds_cons  (Vl.d_var 0) Vl.ds_nil )) ) (Vl.dss_cons  (Vl.ds_expr  (Vl.d_call (dis := []) (G_want_sequence.mono (by decide)) hg hr rfl g_want_sequence F_want_sequence.kp (kb_want_sequence_0 F_want_sequence) (Vl.ds_cons  (Vl.d_len rfl m_len (Vl.dq_of (Vl.d_var 0)) ) (Vl.ds_cons  (Vl.d_var 1) Vl.ds_nil ) )) ) (Vl.ss_one (Vl.ds_ret  (Vl.d_call (dis := []) (G_gathered_of.mono (by decide)) hg hr rfl g_gathered_of F_gathered_of.kp (kb_gathered_of_0 F_gathered_of) (Vl.ds_cons  (Vl.e_frz (Vl.d_list rfl m_list (Vl.dq_of (Vl.d_var 0)) )) (Vl.ds_cons  (Vl.d_var 1) Vl.ds_nil ) )) )) ) )⟩) (by decide)
/-! ### want_many -/
abbrev st_want_many : Stmt := topS 29
abbrev FD_want_many (K : PySem.W.Frag) (f : Addr) (fd : FuncData) : Prop := FunD K "want_many" "want_many" (defArgs st_want_many) (defBody st_want_many) (defScope st_want_many) [] [] f fd
theorem sc_want_many : FnScope ["many"] ["many"] (defScope st_want_many) := ⟨rfl, rfl, rfl, by decide +kernel, rfl, by decide +kernel, by decide +kernel⟩
def OG_want_many (g_R_is_within : List D → Option D) : Op Fl := (oIf  (oNot  (oB1 tru (oCall (g_R_is_within) 3 0 [0, 1, 2] [] (oCons  (oVar 0) (oCons  (Op.ret (.int 0)) (oCons  (Op.ret (.int 52)) (Op.ret [])))) (Op.ret [])))) oNo (Op.ret .nx))
def O_want_many : Op Fl := OG_want_many R_is_within
def R_want_many : List D → Option D := runF ["many"] false O_want_many
theorem kb_want_many_0 {f : Addr} {fd : FuncData} (F : FD_want_many K f fd) : KB K fd ["many"] 1 [] (([] : List Int).map V.int) [0] := kb0 F 1 [] [0] fun _ _ _ _ _ _ us ws hu hw => match us, hu, ws, hw with | [_], _, [], _ => rfl
theorem ok_want_many (F : FD_want_many K f fd) (g_self : mg "want_many" = some (.ref f)) (B_is_within : Bd P w K mg base 2 "is_within" (FD_is_within K) ["value", "least", "most"] false (liftF (R_is_within))) (C_MOST_CARDS : ∃ u, mg "MOST_CARDS" = some u ∧ RelV (.int 52) u) : Bd P w K mg base 3 "want_many" (FD_want_many K) ["many"] false (liftF (R_want_many)) := by
  obtain ⟨f_is_within, fd_is_within, F_is_within, g_is_within, G_is_within⟩ := B_is_within
  obtain ⟨u_MOST_CARDS, c_MOST_CARDS⟩ := C_MOST_CARDS
  refine ⟨f, fd, F, g_self, ?_⟩
  exact FnG.mono (j := 3) (fnF F sc_want_many fun cdv A outer s H hg hr => ⟨_, (Vl.ss_one (Vl.ds_if  (Vl.dt_not  (Vl.dt_val  (Vl.d_call (dis := []) (G_is_within.mono (by decide)) hg hr rfl g_is_within F_is_within.kp (kb_is_within_0 F_is_within) (Vl.ds_cons  (Vl.d_var 0) (Vl.ds_cons  Vl.d_int (Vl.ds_cons  (Vl.d_gint rfl c_MOST_CARDS.1 c_MOST_CARDS.2) Vl.ds_nil ) ) )) ) ) Vl.dss_never Vl.dss_nil ))⟩) (by decide)
/-! ### cut -/
abbrev st_cut : Stmt := topS 41
abbrev FD_cut (K : PySem.W.Frag) (f : Addr) (fd : FuncData) : Prop := FunD K "cut" "cut" (defArgs st_cut) (defBody st_cut) (defScope st_cut) [] [] f fd
theorem sc_cut : FnScope ["pack", "many"] ["pack", "many"] (defScope st_cut) := ⟨rfl, rfl, rfl, by decide +kernel, rfl, by decide +kernel, by decide +kernel⟩
def OG_cut (g_R_want_pack : List D → Option D) (g_R_want_many : List D → Option D) : Op Fl := (oSeq  (oDo  (oCall (g_R_want_pack) 1 0 [0] [] (oCons  (oVar 0) (Op.ret [])) (Op.ret []))) (oSeq  (oDo  (oCall (g_R_want_many) 1 0 [0] [] (oCons  (oVar 1) (Op.ret [])) (Op.ret []))) (oRet  (oB2 addD (oSl false (oQ (oVar 0)) (oB1 intO (oB2 modD (oVar 1) (oQ1 lenQ (oQ (oVar 0))))) (Op.ret none)) (oSl false (oQ (oVar 0)) (Op.ret none) (oB1 intO (oB2 modD (oVar 1) (oQ1 lenQ (oQ (oVar 0))))))))))
def O_cut : Op Fl := OG_cut R_want_pack R_want_many
def R_cut : List D → Option D := runF ["pack", "many"] false O_cut
theorem kb_cut_0 {f : Addr} {fd : FuncData} (F : FD_cut K f fd) : KB K fd ["pack", "many"] 2 [] (([] : List Int).map V.int) [0, 1] := kb0 F 2 [] [0, 1] fun _ _ _ _ _ _ us ws hu hw => match us, hu, ws, hw with | [_, _], _, [], _ => rfl
theorem ok_cut (F : FD_cut K f fd) (g_self : mg "cut" = some (.ref f)) (B_want_pack : Bd P w K mg base 4 "want_pack" (FD_want_pack K) ["pack"] false (liftF (R_want_pack))) (B_want_many : Bd P w K mg base 3 "want_many" (FD_want_many K) ["many"] false (liftF (R_want_many))) (m_len : mg "len" = none) : Bd P w K mg base 5 "cut" (FD_cut K) ["pack", "many"] false (liftF (R_cut)) := by
  obtain ⟨f_want_pack, fd_want_pack, F_want_pack, g_want_pack, G_want_pack⟩ := B_want_pack
  obtain ⟨f_want_many, fd_want_many, F_want_many, g_want_many, G_want_many⟩ := B_want_many
  refine ⟨f, fd, F, g_self, ?_⟩
  exact FnG.mono (j := 5) (fnF F sc_cut fun cdv A outer s H hg hr => ⟨_, (Vl.dss_cons  (Vl.ds_expr  (Vl.d_call (dis := []) (G_want_pack.mono (by decide)) hg hr rfl g_want_pack F_want_pack.kp (kb_want_pack_0 F_want_pack) (Vl.ds_cons  (Vl.d_var 0) Vl.ds_nil )) ) (Vl.dss_cons  (Vl.ds_expr  (Vl.d_call (dis := []) (G_want_many.mono (by decide)) hg hr rfl g_want_many F_want_many.kp (kb_want_many_0 F_want_many) (Vl.ds_cons  (Vl.d_var 1) Vl.ds_nil )) ) (Vl.ss_one (Vl.ds_ret  (Vl.d_add  (Vl.d_sl false (Vl.dq_of (Vl.d_var 0)) (Vl.dp_some  (Vl.d_mod  (Vl.d_var 1) (Vl.d_len rfl m_len (Vl.dq_of (Vl.d_var 0)) ) ) ) Vl.dp_none ) (Vl.d_sl false (Vl.dq_of (Vl.d_var 0)) Vl.dp_none (Vl.dp_some  (Vl.d_mod  (Vl.d_var 1) (Vl.d_len rfl m_len (Vl.dq_of (Vl.d_var 0)) ) ) ) ) ) )) ) )⟩) (by decide)
/-! ### _law_pack_right -/
abbrev st__law_pack_right : Stmt := topS 79
abbrev FD__law_pack_right (K : PySem.W.Frag) (f : Addr) (fd : FuncData) : Prop := FunD K "_law_pack_right" "_law_pack_right" (defArgs st__law_pack_right) (defBody st__law_pack_right) (defScope st__law_pack_right) [] [] f fd
theorem sc__law_pack_right : FnScope ["pack", "cards", "shown", "near", "far", "due", "piles", "half"] ["pack"] (defScope st__law_pack_right) := ⟨rfl, rfl, rfl, by decide +kernel, rfl, by decide +kernel, by decide +kernel⟩
def OG__law_pack_right (g_R_out_undone : List D → Option D) (g_R_in_undone : List D → Option D) (g_R_out_shuffled : List D → Option D) (g_R_in_shuffled : List D → Option D) (g_R_dealt : List D → Option D) (g_R_turned : List D → Option D) (g_R_gathered : List D → Option D) (g_R_cut : List D → Option D) : Op Fl := (oSeq  (oPar [1, 2] [false, false] (oCons  (oQ1 lenQ (oQ (oVar 0))) (oCons  (oB1 reprF (oVar 0)) (Op.ret [])))) (oSeq  (oPar [3, 4] [false, false] (oCons  (oCall (g_R_out_undone) 1 0 [0] [] (oCons  (oVar 0) (Op.ret [])) (Op.ret [])) (oCons  (oCall (g_R_in_undone) 1 0 [0] [] (oCons  (oVar 0) (Op.ret [])) (Op.ret [])) (Op.ret [])))) (oSeq  (oSet 5 false (oB1 mkL (oCons  (oB2 addD (oSt false (oQ (oVar 0)) (Op.ret none) (Op.ret none) (oB1 intO (Op.ret (.int 2)))) (oSt false (oQ (oVar 0)) (oB1 intO (Op.ret (.int 1))) (Op.ret none) (oB1 intO (Op.ret (.int 2))))) (oCons  (oB2 addD (oSt false (oQ (oVar 0)) (oB1 intO (Op.ret (.int 1))) (Op.ret none) (oB1 intO (Op.ret (.int 2)))) (oSt false (oQ (oVar 0)) (Op.ret none) (Op.ret none) (oB1 intO (Op.ret (.int 2))))) (Op.ret []))))) (oSeq  (oIf  (oOr  (oB2 neR (oB1 mkL (oCons  (oVar 3) (oCons  (oVar 4) (Op.ret [])))) (oVar 5)) (oB2 neR (oB1 mkL (oCons  (oCall (g_R_out_undone) 0 1 [0] [] (Op.ret []) (oCons  (oVar 0) (Op.ret []))) (oCons  (oCall (g_R_in_undone) 0 1 [0] [] (Op.ret []) (oCons  (oVar 0) (Op.ret []))) (Op.ret [])))) (oVar 5))) (oRet  (Op.ret (.bool false))) (Op.ret .nx)) (oSeq  (oIf  (oOr  (oB2 neD (oCall (g_R_out_shuffled) 1 0 [0] [] (oCons  (oVar 3) (Op.ret [])) (Op.ret [])) (oVar 0)) (oOr  (oB2 neD (oCall (g_R_in_shuffled) 1 0 [0] [] (oCons  (oVar 4) (Op.ret [])) (Op.ret [])) (oVar 0)) (oB2 neD (oCall (g_R_in_shuffled) 0 1 [0] [] (Op.ret []) (oCons  (oVar 4) (Op.ret []))) (oVar 0)))) (oRet  (Op.ret (.bool false))) (Op.ret .nx)) (oSeq  (oSet 6 false (oCall (g_R_dealt) 2 0 [0, 1] [] (oCons  (oVar 0) (oCons  (Op.ret (.int 2)) (Op.ret []))) (Op.ret []))) (oSeq  (oIf  (oOr  (oB2 neD (oCall (g_R_turned) 1 0 [0] [] (oCons  (oCall (g_R_gathered) 2 0 [0, 1] [] (oCons  (oVar 6) (oCons  (oB1 mkL (oCons  (Op.ret (.int 1)) (oCons  (Op.ret (.int 0)) (Op.ret [])))) (Op.ret []))) (Op.ret [])) (Op.ret [])) (Op.ret [])) (oVar 3)) (oB2 neD (oCall (g_R_turned) 1 0 [0] [] (oCons  (oCall (g_R_gathered) 2 0 [0, 1] [] (oCons  (oVar 6) (oCons  (oB1 mkL (oCons  (Op.ret (.int 0)) (oCons  (Op.ret (.int 1)) (Op.ret [])))) (Op.ret []))) (Op.ret [])) (Op.ret [])) (Op.ret [])) (oVar 4))) (oRet  (Op.ret (.bool false))) (Op.ret .nx)) (oSeq  (oSet 7 false (oB2 fdivD (oVar 1) (Op.ret (.int 2)))) (oSeq  (oIf  (oOr  (oB2 neD (oCall (g_R_in_shuffled) 1 0 [0] [] (oCons  (oVar 0) (Op.ret [])) (Op.ret [])) (oCall (g_R_out_shuffled) 1 0 [0] [] (oCons  (oCall (g_R_cut) 2 0 [0, 1] [] (oCons  (oVar 0) (oCons  (oVar 7) (Op.ret []))) (Op.ret [])) (Op.ret [])) (Op.ret []))) (oB2 neD (oCall (g_R_cut) 2 0 [0, 1] [] (oCons  (oVar 3) (oCons  (oB2 subD (oVar 1) (oVar 7)) (Op.ret []))) (Op.ret [])) (oVar 4))) (oRet  (Op.ret (.bool false))) (Op.ret .nx)) (oRet  (oVal (oB2 eqD (oB1 reprF (oVar 0)) (oVar 2)))))))))))))
def O__law_pack_right : Op Fl := OG__law_pack_right R_out_undone R_in_undone R_out_shuffled R_in_shuffled R_dealt R_turned R_gathered R_cut
def R__law_pack_right : List D → Option D := runF ["pack", "cards", "shown", "near", "far", "due", "piles", "half"] false O__law_pack_right
theorem kb__law_pack_right_0 {f : Addr} {fd : FuncData} (F : FD__law_pack_right K f fd) : KB K fd ["pack"] 1 [] (([] : List Int).map V.int) [0] := kb0 F 1 [] [0] fun _ _ _ _ _ _ us ws hu hw => match us, hu, ws, hw with | [_], _, [], _ => rfl
theorem ok__law_pack_right (F : FD__law_pack_right K f fd) (g_self : mg "_law_pack_right" = some (.ref f)) (B_out_undone : Bd P w K mg base 5 "out_undone" (FD_out_undone K) ["pack"] false (liftF (R_out_undone))) (B_in_undone : Bd P w K mg base 5 "in_undone" (FD_in_undone K) ["pack"] false (liftF (R_in_undone))) (B_out_shuffled : Bd P w K mg base 5 "out_shuffled" (FD_out_shuffled K) ["pack"] false (liftF (R_out_shuffled))) (B_in_shuffled : Bd P w K mg base 5 "in_shuffled" (FD_in_shuffled K) ["pack"] false (liftF (R_in_shuffled))) (B_dealt : Bd P w K mg base 5 "dealt" (FD_dealt K) ["pack", "many"] false (liftF (R_dealt))) (B_turned : Bd P w K mg base 5 "turned" (FD_turned K) ["pack"] false (liftF (R_turned))) (B_gathered : Bd P w K mg base 6 "gathered" (FD_gathered K) ["piles", "sequence"] false (liftF (R_gathered))) (B_cut : Bd P w K mg base 5 "cut" (FD_cut K) ["pack", "many"] false (liftF (R_cut))) (m_len : mg "len" = none) (m_repr : mg "repr" = none) : Bd P w K mg base 7 "_law_pack_right" (FD__law_pack_right K) ["pack"] false (liftF (R__law_pack_right)) := by
  obtain ⟨f_out_undone, fd_out_undone, F_out_undone, g_out_undone, G_out_undone⟩ := B_out_undone
  obtain ⟨f_in_undone, fd_in_undone, F_in_undone, g_in_undone, G_in_undone⟩ := B_in_undone
  obtain ⟨f_out_shuffled, fd_out_shuffled, F_out_shuffled, g_out_shuffled, G_out_shuffled⟩ := B_out_shuffled
  obtain ⟨f_in_shuffled, fd_in_shuffled, F_in_shuffled, g_in_shuffled, G_in_shuffled⟩ := B_in_shuffled
  obtain ⟨f_dealt, fd_dealt, F_dealt, g_dealt, G_dealt⟩ := B_dealt
  obtain ⟨f_turned, fd_turned, F_turned, g_turned, G_turned⟩ := B_turned
  obtain ⟨f_gathered, fd_gathered, F_gathered, g_gathered, G_gathered⟩ := B_gathered
  obtain ⟨f_cut, fd_cut, F_cut, g_cut, G_cut⟩ := B_cut
  refine ⟨f, fd, F, g_self, ?_⟩
  exact FnG.mono (j := 7) (fnF F sc__law_pack_right fun cdv A outer s H hg hr => ⟨_, (Vl.dss_cons  (by first | exact (Vl.ds_par2 (i := 1) (j := 2) rfl sc__law_pack_right.nd (Vl.dao_cons  (Vl.d_len rfl m_len (Vl.dq_of (Vl.d_var 0)) ) (Vl.dao_cons  (Vl.d_repr hg hr rfl m_repr (Vl.b_of (Vl.d_var 0)) ) Vl.dao_nil ) )) | exact (Vl.ds_parG (js := [1, 2]) rfl (Vl.dao_cons  (Vl.d_len rfl m_len (Vl.dq_of (Vl.d_var 0)) ) (Vl.dao_cons  (Vl.d_repr hg hr rfl m_repr (Vl.b_of (Vl.d_var 0)) ) Vl.dao_nil ) ) (Vl.nms_cons (i := 1) sc__law_pack_right.nd (Vl.nms_cons (i := 2) sc__law_pack_right.nd Vl.nms_nil)))) (Vl.dss_cons  (by first | exact (Vl.ds_par2 (i := 3) (j := 4) rfl sc__law_pack_right.nd (Vl.dao_cons  (Vl.d_call (dis := []) (G_out_undone.mono (by decide)) hg hr rfl g_out_undone F_out_undone.kp (kb_out_undone_0 F_out_undone) (Vl.ds_cons  (Vl.d_var 0) Vl.ds_nil )) (Vl.dao_cons  (Vl.d_call (dis := []) (G_in_undone.mono (by decide)) hg hr rfl g_in_undone F_in_undone.kp (kb_in_undone_0 F_in_undone) (Vl.ds_cons  (Vl.d_var 0) Vl.ds_nil )) Vl.dao_nil ) )) | exact (Vl.ds_parG (js := [3, 4]) rfl (Vl.dao_cons  (Vl.d_call (dis := []) (G_out_undone.mono (by decide)) hg hr rfl g_out_undone F_out_undone.kp (kb_out_undone_0 F_out_undone) (Vl.ds_cons  (Vl.d_var 0) Vl.ds_nil )) (Vl.dao_cons  (Vl.d_call (dis := []) (G_in_undone.mono (by decide)) hg hr rfl g_in_undone F_in_undone.kp (kb_in_undone_0 F_in_undone) (Vl.ds_cons  (Vl.d_var 0) Vl.ds_nil )) Vl.dao_nil ) ) (Vl.nms_cons (i := 3) sc__law_pack_right.nd (Vl.nms_cons (i := 4) sc__law_pack_right.nd Vl.nms_nil)))) (Vl.dss_cons  (Vl.ds_set (i := 5) sc__law_pack_right.nd (Vl.e_frz (Vl.d_lst  (Vl.ds_cons  (Vl.d_add  (Vl.d_stT  (Vl.dq_of (Vl.d_var 0)) Vl.dp_none Vl.dp_none (Vl.dp_some  Vl.d_int ) ) (Vl.d_stT  (Vl.dq_of (Vl.d_var 0)) (Vl.dp_some  Vl.d_int ) Vl.dp_none (Vl.dp_some  Vl.d_int ) ) ) (Vl.ds_cons  (Vl.d_add  (Vl.d_stT  (Vl.dq_of (Vl.d_var 0)) (Vl.dp_some  Vl.d_int ) Vl.dp_none (Vl.dp_some  Vl.d_int ) ) (Vl.d_stT  (Vl.dq_of (Vl.d_var 0)) Vl.dp_none Vl.dp_none (Vl.dp_some  Vl.d_int ) ) ) Vl.ds_nil ) ) )) ) (Vl.dss_cons  (Vl.ds_if  (Vl.t_w (Vl.dtw_or  (Vl.dt_neR hr (Vl.b_of (Vl.d_repr hg hr rfl m_repr (Vl.db_lst  (Vl.dab_cons  (Vl.b_of (Vl.d_var 3)) (Vl.dab_cons  (Vl.b_of (Vl.d_var 4)) Vl.dab_nil ) ) ) )) (Vl.b_of (Vl.d_repr hg hr rfl m_repr (Vl.b_of (Vl.d_var 5)) )) ) (Vl.tw_or1 (Vl.dt_neR hr (Vl.b_of (Vl.d_repr hg hr rfl m_repr (Vl.db_lst  (Vl.dab_cons  (Vl.b_of (Vl.d_callK (dis := []) (ks := ["pack"]) (G_out_undone.mono (by decide)) hg hr rfl g_out_undone F_out_undone.kp (kb_out_undone_1 F_out_undone) (Vl.dks_cons  (Vl.d_var 0) Vl.dks_nil ))) (Vl.dab_cons  (Vl.b_of (Vl.d_callK (dis := []) (ks := ["pack"]) (G_in_undone.mono (by decide)) hg hr rfl g_in_undone F_in_undone.kp (kb_in_undone_1 F_in_undone) (Vl.dks_cons  (Vl.d_var 0) Vl.dks_nil ))) Vl.dab_nil ) ) ) )) (Vl.b_of (Vl.d_repr hg hr rfl m_repr (Vl.b_of (Vl.d_var 5)) )) )) )) (Vl.ss_one (Vl.ds_ret  Vl.d_bl )) Vl.dss_nil ) (Vl.dss_cons  (Vl.ds_if  (Vl.t_w (Vl.dtw_or  (Vl.dt_ne hr (Vl.b_of (Vl.d_call (dis := []) (G_out_shuffled.mono (by decide)) hg hr rfl g_out_shuffled F_out_shuffled.kp (kb_out_shuffled_0 F_out_shuffled) (Vl.ds_cons  (Vl.d_var 3) Vl.ds_nil ))) (Vl.b_of (Vl.d_var 0)) ) (Vl.dtw_or  (Vl.dt_ne hr (Vl.b_of (Vl.d_call (dis := []) (G_in_shuffled.mono (by decide)) hg hr rfl g_in_shuffled F_in_shuffled.kp (kb_in_shuffled_1 F_in_shuffled) (Vl.ds_cons  (Vl.d_var 4) Vl.ds_nil ))) (Vl.b_of (Vl.d_var 0)) ) (Vl.tw_or1 (Vl.dt_ne hr (Vl.b_of (Vl.d_callK (dis := []) (ks := ["pack"]) (G_in_shuffled.mono (by decide)) hg hr rfl g_in_shuffled F_in_shuffled.kp (kb_in_shuffled_0 F_in_shuffled) (Vl.dks_cons  (Vl.d_var 4) Vl.dks_nil ))) (Vl.b_of (Vl.d_var 0)) )) ) )) (Vl.ss_one (Vl.ds_ret  Vl.d_bl )) Vl.dss_nil ) (Vl.dss_cons  (Vl.ds_set (i := 6) sc__law_pack_right.nd (Vl.d_call (dis := []) (G_dealt.mono (by decide)) hg hr rfl g_dealt F_dealt.kp (kb_dealt_0 F_dealt) (Vl.ds_cons  (Vl.d_var 0) (Vl.ds_cons  Vl.d_int Vl.ds_nil ) )) ) (Vl.dss_cons  (Vl.ds_if  (Vl.t_w (Vl.dtw_or  (Vl.dt_ne hr (Vl.b_of (Vl.d_call (dis := []) (G_turned.mono (by decide)) hg hr rfl g_turned F_turned.kp (kb_turned_0 F_turned) (Vl.ds_cons  (Vl.d_call (dis := []) (G_gathered.mono (by decide)) hg hr rfl g_gathered F_gathered.kp (kb_gathered_0 F_gathered) (Vl.ds_cons  (Vl.d_var 6) (Vl.ds_cons  (Vl.e_frz (Vl.d_lst  (Vl.ds_cons  Vl.d_int (Vl.ds_cons  Vl.d_int Vl.ds_nil ) ) )) Vl.ds_nil ) )) Vl.ds_nil ))) (Vl.b_of (Vl.d_var 3)) ) (Vl.tw_or1 (Vl.dt_ne hr (Vl.b_of (Vl.d_call (dis := []) (G_turned.mono (by decide)) hg hr rfl g_turned F_turned.kp (kb_turned_0 F_turned) (Vl.ds_cons  (Vl.d_call (dis := []) (G_gathered.mono (by decide)) hg hr rfl g_gathered F_gathered.kp (kb_gathered_0 F_gathered) (Vl.ds_cons  (Vl.d_var 6) (Vl.ds_cons  (Vl.e_frz (Vl.d_lst  (Vl.ds_cons  Vl.d_int (Vl.ds_cons  Vl.d_int Vl.ds_nil ) ) )) Vl.ds_nil ) )) Vl.ds_nil ))) (Vl.b_of (Vl.d_var 4)) )) )) (Vl.ss_one (Vl.ds_ret  Vl.d_bl )) Vl.dss_nil ) (Vl.dss_cons  (Vl.ds_set (i := 7) sc__law_pack_right.nd (Vl.d_fdiv  (Vl.d_var 1) Vl.d_int ) ) (Vl.dss_cons  (Vl.ds_if  (Vl.t_w (Vl.dtw_or  (Vl.dt_ne hr (Vl.b_of (Vl.d_call (dis := []) (G_in_shuffled.mono (by decide)) hg hr rfl g_in_shuffled F_in_shuffled.kp (kb_in_shuffled_1 F_in_shuffled) (Vl.ds_cons  (Vl.d_var 0) Vl.ds_nil ))) (Vl.b_of (Vl.d_call (dis := []) (G_out_shuffled.mono (by decide)) hg hr rfl g_out_shuffled F_out_shuffled.kp (kb_out_shuffled_0 F_out_shuffled) (Vl.ds_cons  (Vl.d_call (dis := []) (G_cut.mono (by decide)) hg hr rfl g_cut F_cut.kp (kb_cut_0 F_cut) (Vl.ds_cons  (Vl.d_var 0) (Vl.ds_cons  (Vl.d_var 7) Vl.ds_nil ) )) Vl.ds_nil ))) ) (Vl.tw_or1 (Vl.dt_ne hr (Vl.b_of (Vl.d_call (dis := []) (G_cut.mono (by decide)) hg hr rfl g_cut F_cut.kp (kb_cut_0 F_cut) (Vl.ds_cons  (Vl.d_var 3) (Vl.ds_cons  (Vl.d_sub  (Vl.d_var 1) (Vl.d_var 7) ) Vl.ds_nil ) ))) (Vl.b_of (Vl.d_var 4)) )) )) (Vl.ss_one (Vl.ds_ret  Vl.d_bl )) Vl.dss_nil ) (Vl.ss_one (Vl.ds_ret  (Vl.d_eq hr (Vl.b_of (Vl.d_repr hg hr rfl m_repr (Vl.b_of (Vl.d_var 0)) )) (Vl.b_of (Vl.d_var 2)) ) )) ) ) ) ) ) ) ) ) )⟩) (by decide)
/-! ### _law_mixed -/
abbrev st__law_mixed : Stmt := topS 70
abbrev FD__law_mixed (K : PySem.W.Frag) (f : Addr) (fd : FuncData) : Prop := FunD K "_law_mixed" "_law_mixed" (defArgs st__law_mixed) (defBody st__law_mixed) (defScope st__law_mixed) [] [] f fd
theorem sc__law_mixed : FnScope ["pot", "some", "left", "found"] ["pot", "some"] (defScope st__law_mixed) := ⟨rfl, rfl, rfl, by decide +kernel, rfl, by decide +kernel, by decide +kernel⟩
def WG__law_mixed (g_fw__law_draw : Fw) : Wp Fl := (wSeq  (lift (oPar [2, 3] [true, true] (oCons  (oQ1 listQ (oQ (oVar 1))) (oCons  (oB1 mkL (Op.ret [])) (Op.ret []))))) (wSeq  (wWh (lift (oB2 neD (oOwnL 2) (oB1 mkL (Op.ret [])))) (wDo  (wMut 3 appG (wCons  (wMut 2 popAtG (wCons  (wCall g_fw__law_draw 2 0 [0, 1] [] (lift (oCons  (oVar 0) (oCons  (oQ1 lenQ (oOwn 2)) (Op.ret [])))) (Wp.ret [])) (lift (Op.ret [])))) (lift (Op.ret [])))))) (lift (oSeq (Op.md (frzAt 3)) (oRet  (oVar 3))))))
def W__law_mixed : Wp Fl := WG__law_mixed fw__law_draw
def fw__law_mixed : Fw := fun ds k => W__law_mixed (ini ["pot", "some", "left", "found"] ds) (endK false k)
theorem kb__law_mixed_0 {f : Addr} {fd : FuncData} (F : FD__law_mixed K f fd) : KB K fd ["pot", "some"] 2 [] (([] : List Int).map V.int) [0, 1] := kb0 F 2 [] [0, 1] fun _ _ _ _ _ _ us ws hu hw => match us, hu, ws, hw with | [_, _], _, [], _ => rfl
theorem ok__law_mixed (F : FD__law_mixed K f fd) (g_self : mg "_law_mixed" = some (.ref f)) (B__law_draw : Bd P w K mg base 1 "_law_draw" (FD__law_draw K) ["pot", "many"] false fw__law_draw) (m_len : mg "len" = none) (m_list : mg "list" = none) : Bd P w K mg base 2 "_law_mixed" (FD__law_mixed K) ["pot", "some"] false fw__law_mixed := by
  obtain ⟨f__law_draw, fd__law_draw, F__law_draw, g__law_draw, G__law_draw⟩ := B__law_draw
  refine ⟨f, fd, F, g_self, ?_⟩
  exact FnG.mono (j := 2) (fnV F sc__law_mixed (fun cdv A outer s H hg hr => ⟨_, (Vl.ss_cons  (by first | exact (Vl.ds_par2 (i := 2) (j := 3) rfl sc__law_mixed.nd (Vl.dao_cons  (Vl.d_list rfl m_list (Vl.dq_of (Vl.d_var 1)) ) (Vl.dao_cons  (Vl.d_lst  Vl.ds_nil ) Vl.dao_nil ) )) | exact (Vl.ds_parG (js := [2, 3]) rfl (Vl.dao_cons  (Vl.d_list rfl m_list (Vl.dq_of (Vl.d_var 1)) ) (Vl.dao_cons  (Vl.d_lst  Vl.ds_nil ) Vl.dao_nil ) ) (Vl.nms_cons (i := 2) sc__law_mixed.nd (Vl.nms_cons (i := 3) sc__law_mixed.nd Vl.nms_nil)))) (Vl.ss_cons  (Vl.s_while PassesOwn.never (Vl.dt_ne hr (Vl.b_own 2) (Vl.db_lst  Vl.dab_nil ) ) (Vl.ss_one (Vl.s_expr  (Vl.e_app (i := 3) (Vl.as_cons  (Vl.e_popAt (i := 2) (Vl.as_cons  (Vl.e_call (dis := []) (G__law_draw.mono (by decide)) hg hr rfl g__law_draw F__law_draw.kp (kb__law_draw_0 F__law_draw) (Vl.ds_cons  (Vl.d_var 0) (Vl.ds_cons  (Vl.d_len rfl m_len (Vl.dq_own 2) ) Vl.ds_nil ) )) Vl.ds_nil ) ) Vl.ds_nil ) ) ))) (Vl.ss_one (Vl.ds_frz 3 (Vl.ds_ret  (Vl.d_var 3) ))) ) )⟩) fun ds k _ h => h) (by decide)
/-! ### _law_pack -/
abbrev st__law_pack : Stmt := topS 75
abbrev FD__law_pack (K : PySem.W.Frag) (f : Addr) (fd : FuncData) : Prop := FunD K "_law_pack" "_law_pack" (defArgs st__law_pack) (defBody st__law_pack) (defScope st__law_pack) [] [] f fd
theorem sc__law_pack : FnScope ["pot", "cards"] ["pot", "cards"] (defScope st__law_pack) := ⟨rfl, rfl, rfl, by decide +kernel, rfl, by decide +kernel, by decide +kernel⟩
def WG__law_pack (g_fw__law_mixed : Fw) : Wp Fl := (wRet  (wQ1 tupQ (wQ (wCall g_fw__law_mixed 2 0 [0, 1] [] (lift (oCons  (oVar 0) (oCons  (oB1 lstRg (oB1 int1 (oVar 1))) (Op.ret [])))) (Wp.ret [])))))
def W__law_pack : Wp Fl := WG__law_pack fw__law_mixed
def fw__law_pack : Fw := fun ds k => W__law_pack (ini ["pot", "cards"] ds) (endK false k)
theorem kb__law_pack_0 {f : Addr} {fd : FuncData} (F : FD__law_pack K f fd) : KB K fd ["pot", "cards"] 2 [] (([] : List Int).map V.int) [0, 1] := kb0 F 2 [] [0, 1] fun _ _ _ _ _ _ us ws hu hw => match us, hu, ws, hw with | [_, _], _, [], _ => rfl
theorem ok__law_pack (F : FD__law_pack K f fd) (g_self : mg "_law_pack" = some (.ref f)) (B__law_mixed : Bd P w K mg base 2 "_law_mixed" (FD__law_mixed K) ["pot", "some"] false fw__law_mixed) (m_list : mg "list" = none) (m_range : mg "range" = none) (m_tuple : mg "tuple" = none) : Bd P w K mg base 3 "_law_pack" (FD__law_pack K) ["pot", "cards"] false fw__law_pack := by
  obtain ⟨f__law_mixed, fd__law_mixed, F__law_mixed, g__law_mixed, G__law_mixed⟩ := B__law_mixed
  refine ⟨f, fd, F, g_self, ?_⟩
  exact FnG.mono (j := 3) (fnV F sc__law_pack (fun cdv A outer s H hg hr => ⟨_, (Vl.ss_one (Vl.s_ret  (Vl.e_tuple rfl m_tuple (Vl.q_of (Vl.e_call (dis := []) (G__law_mixed.mono (by decide)) hg hr rfl g__law_mixed F__law_mixed.kp (kb__law_mixed_0 F__law_mixed) (Vl.ds_cons  (Vl.d_var 0) (Vl.ds_cons  (Vl.e_frz (Vl.d_lstRg rfl rfl m_list (Vl.dr_1 rfl m_range (Vl.d_var 1) ) )) Vl.ds_nil ) ))) ) ))⟩) fun ds k _ h => h) (by decide)
/-! ### want_cards -/
abbrev st_want_cards : Stmt := topS 27
abbrev FD_want_cards (K : PySem.W.Frag) (f : Addr) (fd : FuncData) : Prop := FunD K "want_cards" "want_cards" (defArgs st_want_cards) (defBody st_want_cards) (defScope st_want_cards) [] [] f fd
theorem sc_want_cards : FnScope ["cards"] ["cards"] (defScope st_want_cards) := ⟨rfl, rfl, rfl, by decide +kernel, rfl, by decide +kernel, by decide +kernel⟩
def OG_want_cards (g_R_is_within : List D → Option D) : Op Fl := (oIf  (oNot  (oB1 tru (oCall (g_R_is_within) 3 0 [0, 1, 2] [] (oCons  (oVar 0) (oCons  (Op.ret (.int 1)) (oCons  (Op.ret (.int 52)) (Op.ret [])))) (Op.ret [])))) oNo (Op.ret .nx))
def O_want_cards : Op Fl := OG_want_cards R_is_within
def R_want_cards : List D → Option D := runF ["cards"] false O_want_cards
theorem kb_want_cards_0 {f : Addr} {fd : FuncData} (F : FD_want_cards K f fd) : KB K fd ["cards"] 1 [] (([] : List Int).map V.int) [0] := kb0 F 1 [] [0] fun _ _ _ _ _ _ us ws hu hw => match us, hu, ws, hw with | [_], _, [], _ => rfl
theorem ok_want_cards (F : FD_want_cards K f fd) (g_self : mg "want_cards" = some (.ref f)) (B_is_within : Bd P w K mg base 2 "is_within" (FD_is_within K) ["value", "least", "most"] false (liftF (R_is_within))) (C_MOST_CARDS : ∃ u, mg "MOST_CARDS" = some u ∧ RelV (.int 52) u) : Bd P w K mg base 3 "want_cards" (FD_want_cards K) ["cards"] false (liftF (R_want_cards)) := by
  obtain ⟨f_is_within, fd_is_within, F_is_within, g_is_within, G_is_within⟩ := B_is_within
  obtain ⟨u_MOST_CARDS, c_MOST_CARDS⟩ := C_MOST_CARDS
  refine ⟨f, fd, F, g_self, ?_⟩
  exact FnG.mono (j := 3) (fnF F sc_want_cards fun cdv A outer s H hg hr => ⟨_, (Vl.ss_one (Vl.ds_if  (Vl.dt_not  (Vl.dt_val  (Vl.d_call (dis := []) (G_is_within.mono (by decide)) hg hr rfl g_is_within F_is_within.kp (kb_is_within_0 F_is_within) (Vl.ds_cons  (Vl.d_var 0) (Vl.ds_cons  Vl.d_int (Vl.ds_cons  (Vl.d_gint rfl c_MOST_CARDS.1 c_MOST_CARDS.2) Vl.ds_nil ) ) )) ) ) Vl.dss_never Vl.dss_nil ))⟩) (by decide)
/-! ### in_move -/
abbrev st_in_move : Stmt := topS 48
abbrev FD_in_move (K : PySem.W.Frag) (f : Addr) (fd : FuncData) : Prop := FunD K "in_move" "in_move" (defArgs st_in_move) (defBody st_in_move) (defScope st_in_move) [] [] f fd
theorem sc_in_move : FnScope ["cards"] ["cards"] (defScope st_in_move) := ⟨rfl, rfl, rfl, by decide +kernel, rfl, by decide +kernel, by decide +kernel⟩
def OG_in_move (g_R_want_cards : List D → Option D) (g_R_in_of : List D → Option D) : Op Fl := (oSeq  (oDo  (oCall (g_R_want_cards) 1 0 [0] [] (oCons  (oVar 0) (Op.ret [])) (Op.ret []))) (oRet  (oCall (g_R_in_of) 1 0 [0] [] (oCons  (oVar 0) (Op.ret [])) (Op.ret []))))
def O_in_move : Op Fl := OG_in_move R_want_cards R_in_of
def R_in_move : List D → Option D := runF ["cards"] false O_in_move
theorem kb_in_move_0 {f : Addr} {fd : FuncData} (F : FD_in_move K f fd) : KB K fd ["cards"] 1 [] (([] : List Int).map V.int) [0] := kb0 F 1 [] [0] fun _ _ _ _ _ _ us ws hu hw => match us, hu, ws, hw with | [_], _, [], _ => rfl
theorem ok_in_move (F : FD_in_move K f fd) (g_self : mg "in_move" = some (.ref f)) (B_want_cards : Bd P w K mg base 3 "want_cards" (FD_want_cards K) ["cards"] false (liftF (R_want_cards))) (B_in_of : Bd P w K mg base 2 "in_of" (FD_in_of K) ["cards"] false (liftF (R_in_of))) : Bd P w K mg base 4 "in_move" (FD_in_move K) ["cards"] false (liftF (R_in_move)) := by
  obtain ⟨f_want_cards, fd_want_cards, F_want_cards, g_want_cards, G_want_cards⟩ := B_want_cards
  obtain ⟨f_in_of, fd_in_of, F_in_of, g_in_of, G_in_of⟩ := B_in_of
  refine ⟨f, fd, F, g_self, ?_⟩
  exact FnG.mono (j := 4) (fnF F sc_in_move fun cdv A outer s H hg hr => ⟨_, (Vl.dss_cons  (Vl.ds_expr  (Vl.d_call (dis := []) (G_want_cards.mono (by decide)) hg hr rfl g_want_cards F_want_cards.kp (kb_want_cards_0 F_want_cards) (Vl.ds_cons  (Vl.d_var 0) Vl.ds_nil )) ) (Vl.ss_one (Vl.ds_ret  (Vl.d_call (dis := []) (G_in_of.mono (by decide)) hg hr rfl g_in_of F_in_of.kp (kb_in_of_0 F_in_of) (Vl.ds_cons  (Vl.d_var 0) Vl.ds_nil )) )) )⟩) (by decide)
/-! ### out_move -/
abbrev st_out_move : Stmt := topS 47
abbrev FD_out_move (K : PySem.W.Frag) (f : Addr) (fd : FuncData) : Prop := FunD K "out_move" "out_move" (defArgs st_out_move) (defBody st_out_move) (defScope st_out_move) [] [] f fd
theorem sc_out_move : FnScope ["cards"] ["cards"] (defScope st_out_move) := ⟨rfl, rfl, rfl, by decide +kernel, rfl, by decide +kernel, by decide +kernel⟩
def OG_out_move (g_R_want_cards : List D → Option D) (g_R_out_of : List D → Option D) : Op Fl := (oSeq  (oDo  (oCall (g_R_want_cards) 1 0 [0] [] (oCons  (oVar 0) (Op.ret [])) (Op.ret []))) (oRet  (oCall (g_R_out_of) 1 0 [0] [] (oCons  (oVar 0) (Op.ret [])) (Op.ret []))))
def O_out_move : Op Fl := OG_out_move R_want_cards R_out_of
def R_out_move : List D → Option D := runF ["cards"] false O_out_move
theorem kb_out_move_0 {f : Addr} {fd : FuncData} (F : FD_out_move K f fd) : KB K fd ["cards"] 1 [] (([] : List Int).map V.int) [0] := kb0 F 1 [] [0] fun _ _ _ _ _ _ us ws hu hw => match us, hu, ws, hw with | [_], _, [], _ => rfl
theorem ok_out_move (F : FD_out_move K f fd) (g_self : mg "out_move" = some (.ref f)) (B_want_cards : Bd P w K mg base 3 "want_cards" (FD_want_cards K) ["cards"] false (liftF (R_want_cards))) (B_out_of : Bd P w K mg base 2 "out_of" (FD_out_of K) ["cards"] false (liftF (R_out_of))) : Bd P w K mg base 4 "out_move" (FD_out_move K) ["cards"] false (liftF (R_out_move)) := by
  obtain ⟨f_want_cards, fd_want_cards, F_want_cards, g_want_cards, G_want_cards⟩ := B_want_cards
  obtain ⟨f_out_of, fd_out_of, F_out_of, g_out_of, G_out_of⟩ := B_out_of
  refine ⟨f, fd, F, g_self, ?_⟩
  exact FnG.mono (j := 4) (fnF F sc_out_move fun cdv A outer s H hg hr => ⟨_, (Vl.dss_cons  (Vl.ds_expr  (Vl.d_call (dis := []) (G_want_cards.mono (by decide)) hg hr rfl g_want_cards F_want_cards.kp (kb_want_cards_0 F_want_cards) (Vl.ds_cons  (Vl.d_var 0) Vl.ds_nil )) ) (Vl.ss_one (Vl.ds_ret  (Vl.d_call (dis := []) (G_out_of.mono (by decide)) hg hr rfl g_out_of F_out_of.kp (kb_out_of_0 F_out_of) (Vl.ds_cons  (Vl.d_var 0) Vl.ds_nil )) )) )⟩) (by decide)
/-! ### rounds_of -/
abbrev st_rounds_of : Stmt := topS 34
abbrev FD_rounds_of (K : PySem.W.Frag) (f : Addr) (fd : FuncData) : Prop := FunD K "rounds_of" "rounds_of" (defArgs st_rounds_of) (defBody st_rounds_of) (defScope st_rounds_of) [] [] f fd
theorem sc_rounds_of : FnScope ["move", "found", "seen", "begin", "row", "here"] ["move"] (defScope st_rounds_of) := ⟨rfl, rfl, rfl, by decide +kernel, rfl, by decide +kernel, by decide +kernel⟩
def OG_rounds_of : Op Fl := (oSeq  (oPar [1, 2] [true, true] (oCons  (oB1 mkL (Op.ret [])) (oCons  (oRep  (oQ (oB1 mkL (oCons  (Op.ret (.bool false)) (Op.ret [])))) (oQ1 lenQ (oQ (oVar 0)))) (Op.ret [])))) (oSeq  (oForS (gmName 3) (oB1 rng1 (oCons  (oQ1 lenQ (oQ (oVar 0))) (Op.ret []))) (oIf  (oNot  (oB1 tru (oIx  (oOwn 2) (oVar 3)))) (oSeq  (oPar [4, 5] [true, false] (oCons  (oB1 mkL (Op.ret [])) (oCons  (oVar 3) (Op.ret [])))) (oSeq  (oWhile (oNot  (oB1 tru (oIx  (oOwn 2) (oVar 5)))) (oSeq  (oAsg (gmSub 2 (oVar 5)) (Op.ret (.bool true))) (oSeq  (oDo  (oMut 4 appG (oCons  (oVar 5) (Op.ret [])))) (oSet 5 false (oIx  (oQ (oVar 0)) (oVar 5))))) 1000) (oDo  (oMut 1 appG (oCons  (oQ1 tupQ (oOwn 4)) (Op.ret [])))))) (Op.ret .nx))) (oSeq (Op.md (frzAt 1)) (oRet  (oVar 1)))))
def O_rounds_of : Op Fl := OG_rounds_of 
def R_rounds_of : List D → Option D := runF ["move", "found", "seen", "begin", "row", "here"] false O_rounds_of
theorem kb_rounds_of_0 {f : Addr} {fd : FuncData} (F : FD_rounds_of K f fd) : KB K fd ["move"] 1 [] (([] : List Int).map V.int) [0] := kb0 F 1 [] [0] fun _ _ _ _ _ _ us ws hu hw => match us, hu, ws, hw with | [_], _, [], _ => rfl
theorem ok_rounds_of (F : FD_rounds_of K f fd) (g_self : mg "rounds_of" = some (.ref f)) (m_len : mg "len" = none) (m_range : mg "range" = none) (m_tuple : mg "tuple" = none) : Bd P w K mg base 1 "rounds_of" (FD_rounds_of K) ["move"] false (liftF (R_rounds_of)) := by
  refine ⟨f, fd, F, g_self, ?_⟩
  exact FnG.mono (j := 1) (fnF F sc_rounds_of fun cdv A outer s H hg hr => ⟨_, (Vl.dss_cons  (by first | exact (Vl.ds_par2 (i := 1) (j := 2) rfl sc_rounds_of.nd (Vl.dao_cons  (Vl.d_lst  Vl.ds_nil ) (Vl.dao_cons  (Vl.d_rep  (Vl.dq_of (Vl.e_frz (Vl.d_lst  (Vl.ds_cons  Vl.d_bl Vl.ds_nil ) ))) (Vl.d_len rfl m_len (Vl.dq_of (Vl.d_var 0)) ) ) Vl.dao_nil ) )) | exact (Vl.ds_parG (js := [1, 2]) rfl (Vl.dao_cons  (Vl.d_lst  Vl.ds_nil ) (Vl.dao_cons  (Vl.d_rep  (Vl.dq_of (Vl.e_frz (Vl.d_lst  (Vl.ds_cons  Vl.d_bl Vl.ds_nil ) ))) (Vl.d_len rfl m_len (Vl.dq_of (Vl.d_var 0)) ) ) Vl.dao_nil ) ) (Vl.nms_cons (i := 1) sc_rounds_of.nd (Vl.nms_cons (i := 2) sc_rounds_of.nd Vl.nms_nil)))) (Vl.dss_cons  (Vl.ds_for (m := true) PassesOwn.never rfl (Vl.di_rng1 rfl m_range (Vl.ds_cons  (Vl.d_len rfl m_len (Vl.dq_of (Vl.d_var 0)) ) Vl.ds_nil ) ) (Vl.tg_name (i := 3) sc_rounds_of.nd) (Vl.ss_one (Vl.ds_if  (Vl.dt_not  (Vl.dt_val  (Vl.d_ix  (Vl.dq_own 2) (Vl.d_var 3) ) ) ) (Vl.dss_cons  (by first | exact (Vl.ds_par2 (i := 4) (j := 5) rfl sc_rounds_of.nd (Vl.dao_cons  (Vl.d_lst  Vl.ds_nil ) (Vl.dao_cons  (Vl.d_var 3) Vl.dao_nil ) )) | exact (Vl.ds_parG (js := [4, 5]) rfl (Vl.dao_cons  (Vl.d_lst  Vl.ds_nil ) (Vl.dao_cons  (Vl.d_var 3) Vl.dao_nil ) ) (Vl.nms_cons (i := 4) sc_rounds_of.nd (Vl.nms_cons (i := 5) sc_rounds_of.nd Vl.nms_nil)))) (Vl.dss_cons  (Vl.ds_while 1000 PassesOwn.never (Vl.dt_not  (Vl.dt_val  (Vl.d_ix  (Vl.dq_own 2) (Vl.d_var 5) ) ) ) (Vl.dss_cons  (Vl.ds_asg Vl.d_bl (Vl.tg_sub (i := 2) (Vl.d_var 5))) (Vl.dss_cons  (Vl.ds_expr  (Vl.d_app (i := 4) (Vl.ds_cons  (Vl.d_var 5) Vl.ds_nil ) ) ) (Vl.ss_one (Vl.ds_set (i := 5) sc_rounds_of.nd (Vl.d_ix  (Vl.dq_of (Vl.d_var 0)) (Vl.d_var 5) ) )) ) )) (Vl.ss_one (Vl.ds_expr  (Vl.d_app (i := 1) (Vl.ds_cons  (Vl.d_tuple rfl m_tuple (Vl.dq_own 4) ) Vl.ds_nil ) ) )) ) ) Vl.dss_nil ))) (Vl.ss_one (Vl.ds_frz 1 (Vl.ds_ret  (Vl.d_var 1) ))) ) )⟩) (by decide)
/-! ### common_of -/
abbrev st_common_of : Stmt := topS 35
abbrev FD_common_of (K : PySem.W.Frag) (f : Addr) (fd : FuncData) : Prop := FunD K "common_of" "common_of" (defArgs st_common_of) (defBody st_common_of) (defScope st_common_of) [] [] f fd
theorem sc_common_of : FnScope ["one", "other"] ["one", "other"] (defScope st_common_of) := ⟨rfl, rfl, rfl, by decide +kernel, rfl, by decide +kernel, by decide +kernel⟩
def OG_common_of : Op Fl := (oSeq  (oWhile (oB2 gtI (oVar 1) (Op.ret (.int 0))) (oPar [0, 1] [false, false] (oCons  (oVar 1) (oCons  (oB2 modD (oVar 0) (oVar 1)) (Op.ret [])))) 1000) (oRet  (oVar 0)))
def O_common_of : Op Fl := OG_common_of 
def R_common_of : List D → Option D := runF ["one", "other"] false O_common_of
theorem kb_common_of_0 {f : Addr} {fd : FuncData} (F : FD_common_of K f fd) : KB K fd ["one", "other"] 2 [] (([] : List Int).map V.int) [0, 1] := kb0 F 2 [] [0, 1] fun _ _ _ _ _ _ us ws hu hw => match us, hu, ws, hw with | [_, _], _, [], _ => rfl
theorem ok_common_of (F : FD_common_of K f fd) (g_self : mg "common_of" = some (.ref f)) : Bd P w K mg base 1 "common_of" (FD_common_of K) ["one", "other"] false (liftF (R_common_of)) := by
  refine ⟨f, fd, F, g_self, ?_⟩
  exact FnG.mono (j := 1) (fnF F sc_common_of fun cdv A outer s H hg hr => ⟨_, (Vl.dss_cons  (Vl.ds_while 1000 PassesOwn.never (Vl.dt_cmp op_gt gtS (Vl.d_var 1) Vl.d_int (nomark _)) (Vl.ss_one (by first | exact (Vl.ds_par2 (i := 0) (j := 1) rfl sc_common_of.nd (Vl.dao_cons  (Vl.d_var 1) (Vl.dao_cons  (Vl.d_mod  (Vl.d_var 0) (Vl.d_var 1) ) Vl.dao_nil ) )) | exact (Vl.ds_parG (js := [0, 1]) rfl (Vl.dao_cons  (Vl.d_var 1) (Vl.dao_cons  (Vl.d_mod  (Vl.d_var 0) (Vl.d_var 1) ) Vl.dao_nil ) ) (Vl.nms_cons (i := 0) sc_common_of.nd (Vl.nms_cons (i := 1) sc_common_of.nd Vl.nms_nil)))))) (Vl.ss_one (Vl.ds_ret  (Vl.d_var 0) )) )⟩) (by decide)
/-! ### order_of -/
abbrev st_order_of : Stmt := topS 36
abbrev FD_order_of (K : PySem.W.Frag) (f : Addr) (fd : FuncData) : Prop := FunD K "order_of" "order_of" (defArgs st_order_of) (defBody st_order_of) (defScope st_order_of) [] [] f fd
theorem sc_order_of : FnScope ["move", "found", "row"] ["move"] (defScope st_order_of) := ⟨rfl, rfl, rfl, by decide +kernel, rfl, by decide +kernel, by decide +kernel⟩
def OG_order_of (g_R_rounds_of : List D → Option D) (g_R_common_of : List D → Option D) : Op Fl := (oSeq  (oSet 1 false (Op.ret (.int 1))) (oSeq  (oForS (gmName 2) (oB1 itQ (oCall (g_R_rounds_of) 1 0 [0] [] (oCons  (oVar 0) (Op.ret [])) (Op.ret []))) (oSet 1 false (oB2 mulD (oB2 fdivD (oVar 1) (oCall (g_R_common_of) 2 0 [0, 1] [] (oCons  (oVar 1) (oCons  (oQ1 lenQ (oQ (oVar 2))) (Op.ret []))) (Op.ret []))) (oQ1 lenQ (oQ (oVar 2)))))) (oRet  (oVar 1))))
def O_order_of : Op Fl := OG_order_of R_rounds_of R_common_of
def R_order_of : List D → Option D := runF ["move", "found", "row"] false O_order_of
theorem kb_order_of_0 {f : Addr} {fd : FuncData} (F : FD_order_of K f fd) : KB K fd ["move"] 1 [] (([] : List Int).map V.int) [0] := kb0 F 1 [] [0] fun _ _ _ _ _ _ us ws hu hw => match us, hu, ws, hw with | [_], _, [], _ => rfl
theorem ok_order_of (F : FD_order_of K f fd) (g_self : mg "order_of" = some (.ref f)) (B_rounds_of : Bd P w K mg base 1 "rounds_of" (FD_rounds_of K) ["move"] false (liftF (R_rounds_of))) (B_common_of : Bd P w K mg base 1 "common_of" (FD_common_of K) ["one", "other"] false (liftF (R_common_of))) (m_len : mg "len" = none) : Bd P w K mg base 2 "order_of" (FD_order_of K) ["move"] false (liftF (R_order_of)) := by
  obtain ⟨f_rounds_of, fd_rounds_of, F_rounds_of, g_rounds_of, G_rounds_of⟩ := B_rounds_of
  obtain ⟨f_common_of, fd_common_of, F_common_of, g_common_of, G_common_of⟩ := B_common_of
  refine ⟨f, fd, F, g_self, ?_⟩
  exact FnG.mono (j := 2) (fnF F sc_order_of fun cdv A outer s H hg hr => ⟨_, (Vl.dss_cons  (Vl.ds_set (i := 1) sc_order_of.nd Vl.d_int ) (Vl.dss_cons  (Vl.ds_for (m := true) PassesOwn.never rfl (Vl.di_val  (Vl.d_call (dis := []) (G_rounds_of.mono (by decide)) hg hr rfl g_rounds_of F_rounds_of.kp (kb_rounds_of_0 F_rounds_of) (Vl.ds_cons  (Vl.d_var 0) Vl.ds_nil )) ) (Vl.tg_name (i := 2) sc_order_of.nd) (Vl.ss_one (Vl.ds_set (i := 1) sc_order_of.nd (Vl.d_mul  (Vl.d_fdiv  (Vl.d_var 1) (Vl.d_call (dis := []) (G_common_of.mono (by decide)) hg hr rfl g_common_of F_common_of.kp (kb_common_of_0 F_common_of) (Vl.ds_cons  (Vl.d_var 1) (Vl.ds_cons  (Vl.d_len rfl m_len (Vl.dq_of (Vl.d_var 2)) ) Vl.ds_nil ) )) ) (Vl.d_len rfl m_len (Vl.dq_of (Vl.d_var 2)) ) ) ))) (Vl.ss_one (Vl.ds_ret  (Vl.d_var 1) )) ) )⟩) (by decide)
/-! ### times_out -/
abbrev st_times_out : Stmt := topS 53
abbrev FD_times_out (K : PySem.W.Frag) (f : Addr) (fd : FuncData) : Prop := FunD K "times_out" "times_out" (defArgs st_times_out) (defBody st_times_out) (defScope st_times_out) [] [] f fd
theorem sc_times_out : FnScope ["cards"] ["cards"] (defScope st_times_out) := ⟨rfl, rfl, rfl, by decide +kernel, rfl, by decide +kernel, by decide +kernel⟩
def OG_times_out (g_R_want_cards : List D → Option D) (g_R_order_of : List D → Option D) (g_R_out_of : List D → Option D) : Op Fl := (oSeq  (oDo  (oCall (g_R_want_cards) 1 0 [0] [] (oCons  (oVar 0) (Op.ret [])) (Op.ret []))) (oRet  (oCall (g_R_order_of) 1 0 [0] [] (oCons  (oCall (g_R_out_of) 1 0 [0] [] (oCons  (oVar 0) (Op.ret [])) (Op.ret [])) (Op.ret [])) (Op.ret []))))
def O_times_out : Op Fl := OG_times_out R_want_cards R_order_of R_out_of
def R_times_out : List D → Option D := runF ["cards"] false O_times_out
theorem kb_times_out_0 {f : Addr} {fd : FuncData} (F : FD_times_out K f fd) : KB K fd ["cards"] 1 [] (([] : List Int).map V.int) [0] := kb0 F 1 [] [0] fun _ _ _ _ _ _ us ws hu hw => match us, hu, ws, hw with | [_], _, [], _ => rfl
theorem ok_times_out (F : FD_times_out K f fd) (g_self : mg "times_out" = some (.ref f)) (B_want_cards : Bd P w K mg base 3 "want_cards" (FD_want_cards K) ["cards"] false (liftF (R_want_cards))) (B_order_of : Bd P w K mg base 2 "order_of" (FD_order_of K) ["move"] false (liftF (R_order_of))) (B_out_of : Bd P w K mg base 2 "out_of" (FD_out_of K) ["cards"] false (liftF (R_out_of))) : Bd P w K mg base 4 "times_out" (FD_times_out K) ["cards"] false (liftF (R_times_out)) := by
  obtain ⟨f_want_cards, fd_want_cards, F_want_cards, g_want_cards, G_want_cards⟩ := B_want_cards
  obtain ⟨f_order_of, fd_order_of, F_order_of, g_order_of, G_order_of⟩ := B_order_of
  obtain ⟨f_out_of, fd_out_of, F_out_of, g_out_of, G_out_of⟩ := B_out_of
  refine ⟨f, fd, F, g_self, ?_⟩
  exact FnG.mono (j := 4) (fnF F sc_times_out fun cdv A outer s H hg hr => ⟨_, (Vl.dss_cons  (Vl.ds_expr  (Vl.d_call (dis := []) (G_want_cards.mono (by decide)) hg hr rfl g_want_cards F_want_cards.kp (kb_want_cards_0 F_want_cards) (Vl.ds_cons  (Vl.d_var 0) Vl.ds_nil )) ) (Vl.ss_one (Vl.ds_ret  (Vl.d_call (dis := []) (G_order_of.mono (by decide)) hg hr rfl g_order_of F_order_of.kp (kb_order_of_0 F_order_of) (Vl.ds_cons  (Vl.d_call (dis := []) (G_out_of.mono (by decide)) hg hr rfl g_out_of F_out_of.kp (kb_out_of_0 F_out_of) (Vl.ds_cons  (Vl.d_var 0) Vl.ds_nil )) Vl.ds_nil )) )) )⟩) (by decide)
/-! ### times_in -/
abbrev st_times_in : Stmt := topS 54
abbrev FD_times_in (K : PySem.W.Frag) (f : Addr) (fd : FuncData) : Prop := FunD K "times_in" "times_in" (defArgs st_times_in) (defBody st_times_in) (defScope st_times_in) [] [] f fd
theorem sc_times_in : FnScope ["cards"] ["cards"] (defScope st_times_in) := ⟨rfl, rfl, rfl, by decide +kernel, rfl, by decide +kernel, by decide +kernel⟩
def OG_times_in (g_R_want_cards : List D → Option D) (g_R_order_of : List D → Option D) (g_R_in_of : List D → Option D) : Op Fl := (oSeq  (oDo  (oCall (g_R_want_cards) 1 0 [0] [] (oCons  (oVar 0) (Op.ret [])) (Op.ret []))) (oRet  (oCall (g_R_order_of) 1 0 [0] [] (oCons  (oCall (g_R_in_of) 1 0 [0] [] (oCons  (oVar 0) (Op.ret [])) (Op.ret [])) (Op.ret [])) (Op.ret []))))
def O_times_in : Op Fl := OG_times_in R_want_cards R_order_of R_in_of
def R_times_in : List D → Option D := runF ["cards"] false O_times_in
theorem kb_times_in_0 {f : Addr} {fd : FuncData} (F : FD_times_in K f fd) : KB K fd ["cards"] 1 [] (([] : List Int).map V.int) [0] := kb0 F 1 [] [0] fun _ _ _ _ _ _ us ws hu hw => match us, hu, ws, hw with | [_], _, [], _ => rfl
theorem ok_times_in (F : FD_times_in K f fd) (g_self : mg "times_in" = some (.ref f)) (B_want_cards : Bd P w K mg base 3 "want_cards" (FD_want_cards K) ["cards"] false (liftF (R_want_cards))) (B_order_of : Bd P w K mg base 2 "order_of" (FD_order_of K) ["move"] false (liftF (R_order_of))) (B_in_of : Bd P w K mg base 2 "in_of" (FD_in_of K) ["cards"] false (liftF (R_in_of))) : Bd P w K mg base 4 "times_in" (FD_times_in K) ["cards"] false (liftF (R_times_in)) := by
  obtain ⟨f_want_cards, fd_want_cards, F_want_cards, g_want_cards, G_want_cards⟩ := B_want_cards
  obtain ⟨f_order_of, fd_order_of, F_order_of, g_order_of, G_order_of⟩ := B_order_of
  obtain ⟨f_in_of, fd_in_of, F_in_of, g_in_of, G_in_of⟩ := B_in_of
  refine ⟨f, fd, F, g_self, ?_⟩
  exact FnG.mono (j := 4) (fnF F sc_times_in fun cdv A outer s H hg hr => ⟨_, (Vl.dss_cons  (Vl.ds_expr  (Vl.d_call (dis := []) (G_want_cards.mono (by decide)) hg hr rfl g_want_cards F_want_cards.kp (kb_want_cards_0 F_want_cards) (Vl.ds_cons  (Vl.d_var 0) Vl.ds_nil )) ) (Vl.ss_one (Vl.ds_ret  (Vl.d_call (dis := []) (G_order_of.mono (by decide)) hg hr rfl g_order_of F_order_of.kp (kb_order_of_0 F_order_of) (Vl.ds_cons  (Vl.d_call (dis := []) (G_in_of.mono (by decide)) hg hr rfl g_in_of F_in_of.kp (kb_in_of_0 F_in_of) (Vl.ds_cons  (Vl.d_var 0) Vl.ds_nil )) Vl.ds_nil )) )) )⟩) (by decide)
/-! ### are_rising -/
abbrev st_are_rising : Stmt := topS 5
abbrev FD_are_rising (K : PySem.W.Frag) (f : Addr) (fd : FuncData) : Prop := FunD K "are_rising" "are_rising" (defArgs st_are_rising) (defBody st_are_rising) (defScope st_are_rising) [] [] f fd
theorem sc_are_rising : FnScope ["values", "near", "far"] ["values"] (defScope st_are_rising) := ⟨rfl, rfl, rfl, by decide +kernel, rfl, by decide +kernel, by decide +kernel⟩
def OG_are_rising : Op Fl := (oRet  (oQ1 allQ (oQ (oLc [1, 2] (oB2 zipF (oVar 0) (oSl false (oQ (oVar 0)) (oB1 intO (Op.ret (.int 1))) (Op.ret none))) (gmTup 2 (gmCons (gmName 1) (gmCons (gmName 2) gmNil))) (Op.ret true) (oVal (oB2 ltI (oVar 1) (oVar 2)))))))
def O_are_rising : Op Fl := OG_are_rising 
def R_are_rising : List D → Option D := runF ["values", "near", "far"] false O_are_rising
theorem kb_are_rising_0 {f : Addr} {fd : FuncData} (F : FD_are_rising K f fd) : KB K fd ["values"] 1 [] (([] : List Int).map V.int) [0] := kb0 F 1 [] [0] fun _ _ _ _ _ _ us ws hu hw => match us, hu, ws, hw with | [_], _, [], _ => rfl
theorem ok_are_rising (F : FD_are_rising K f fd) (g_self : mg "are_rising" = some (.ref f)) (m_all : mg "all" = none) (m_zip : mg "zip" = none) : Bd P w K mg base 1 "are_rising" (FD_are_rising K) ["values"] false (liftF (R_are_rising)) := by
  refine ⟨f, fd, F, g_self, ?_⟩
  exact FnG.mono (j := 1) (fnF F sc_are_rising fun cdv A outer s H hg hr => ⟨_, (Vl.ss_one (Vl.ds_ret  (Vl.d_all rfl rfl m_all (Vl.dq_of (Vl.e_frz (Vl.d_lc (own := [("near", 1), ("far", 2)]) rfl sc_are_rising.nd (Vl.di_zip rfl m_zip (Vl.d_var 0) (Vl.d_sl false (Vl.dq_of (Vl.d_var 0)) (Vl.dp_some  Vl.d_int ) Vl.dp_none ) ) (blkOk_by (N := ["values", "near", "far"]) (sc := defScope st_are_rising) (by decide +kernel)) (fun _ _ _ _ _ => by exact (Vl.c_tup rfl (Vl.cs_cons (Vl.c_name (i := 1) sc_are_rising.nd) (Vl.cs_cons (Vl.c_name (i := 2) sc_are_rising.nd) Vl.cs_nil)))) (fun _ _ _ _ _ => by exact Vl.dtm_nil) (fun _ _ _ _ _ => by exact (Vl.d_cmp op_lt ltS (Vl.d_var 1) (Vl.d_var 2) (nomark _)))))) ) ))⟩) (by decide)
/-! ### is_lot_of -/
abbrev st_is_lot_of : Stmt := topS 6
abbrev FD_is_lot_of (K : PySem.W.Frag) (f : Addr) (fd : FuncData) : Prop := FunD K "is_lot_of" "is_lot_of" (defArgs st_is_lot_of) (defBody st_is_lot_of) (defScope st_is_lot_of) [] [] f fd
theorem sc_is_lot_of : FnScope ["value", "many", "one"] ["value", "many"] (defScope st_is_lot_of) := ⟨rfl, rfl, rfl, by decide +kernel, rfl, by decide +kernel, by decide +kernel⟩
def OG_is_lot_of (g_R_is_within : List D → Option D) (g_R_are_rising : List D → Option D) : Op Fl := (oRet  (oAndV  (oVal (oB1 (isiD ["tuple"]) (oVar 0))) (oAndV  (oQ1 allQ (oQ (oLc [2] (oB1 itQ (oVar 0)) (gmName 2) (Op.ret true) (oCall (g_R_is_within) 3 0 [0, 1, 2] [] (oCons  (oVar 2) (oCons  (Op.ret (.int 0)) (oCons  (oB2 subD (oVar 1) (Op.ret (.int 1))) (Op.ret [])))) (Op.ret []))))) (oCall (g_R_are_rising) 1 0 [0] [] (oCons  (oVar 0) (Op.ret [])) (Op.ret [])))))
def O_is_lot_of : Op Fl := OG_is_lot_of R_is_within R_are_rising
def R_is_lot_of : List D → Option D := runF ["value", "many", "one"] false O_is_lot_of
theorem kb_is_lot_of_0 {f : Addr} {fd : FuncData} (F : FD_is_lot_of K f fd) : KB K fd ["value", "many"] 2 [] (([] : List Int).map V.int) [0, 1] := kb0 F 2 [] [0, 1] fun _ _ _ _ _ _ us ws hu hw => match us, hu, ws, hw with | [_, _], _, [], _ => rfl
theorem ok_is_lot_of (F : FD_is_lot_of K f fd) (g_self : mg "is_lot_of" = some (.ref f)) (B_is_within : Bd P w K mg base 2 "is_within" (FD_is_within K) ["value", "least", "most"] false (liftF (R_is_within))) (B_are_rising : Bd P w K mg base 1 "are_rising" (FD_are_rising K) ["values"] false (liftF (R_are_rising))) (m_all : mg "all" = none) (m_isinstance : mg "isinstance" = none) (m_tuple : mg "tuple" = none) : Bd P w K mg base 3 "is_lot_of" (FD_is_lot_of K) ["value", "many"] false (liftF (R_is_lot_of)) := by
  obtain ⟨f_is_within, fd_is_within, F_is_within, g_is_within, G_is_within⟩ := B_is_within
  obtain ⟨f_are_rising, fd_are_rising, F_are_rising, g_are_rising, G_are_rising⟩ := B_are_rising
  refine ⟨f, fd, F, g_self, ?_⟩
  exact FnG.mono (j := 3) (fnF F sc_is_lot_of fun cdv A outer s H hg hr => ⟨_, (Vl.ss_one (Vl.ds_ret  (Vl.d_and  (Vl.d_isi  (Vl.b_of (Vl.d_var 0)) rfl m_isinstance rfl m_tuple (by decide +kernel)) (Vl.d_and  (Vl.d_all rfl rfl m_all (Vl.dq_of (Vl.e_frz (Vl.d_lc (own := [("one", 2)]) rfl sc_is_lot_of.nd (Vl.di_val  (Vl.d_var 0) ) (blkOk_by (N := ["value", "many", "one"]) (sc := defScope st_is_lot_of) (by decide +kernel)) (fun _ _ _ _ _ => by exact (Vl.c_name (i := 2) sc_is_lot_of.nd)) (fun _ _ _ _ _ => by exact Vl.dtm_nil) (fun _ _ _ _ _ => by exact (Vl.d_call (dis := []) (G_is_within.mono (by decide)) hg hr rfl g_is_within F_is_within.kp (kb_is_within_0 F_is_within) (Vl.ds_cons  (Vl.d_var 2) (Vl.ds_cons  Vl.d_int (Vl.ds_cons  (Vl.d_sub  (Vl.d_var 1) Vl.d_int ) Vl.ds_nil ) ) )))))) ) (Vl.e_one (Vl.d_call (dis := []) (G_are_rising.mono (by decide)) hg hr rfl g_are_rising F_are_rising.kp (kb_are_rising_0 F_are_rising) (Vl.ds_cons  (Vl.d_var 0) Vl.ds_nil ))) ) ) ))⟩) (by decide)
/-! ### only -/
abbrev st_only : Stmt := topS 65
abbrev FD_only (K : PySem.W.Frag) (f : Addr) (fd : FuncData) : Prop := FunD K "only" "only" (defArgs st_only) (defBody st_only) (defScope st_only) [] [] f fd
theorem sc_only : FnScope ["pack", "lot", "one"] ["pack", "lot"] (defScope st_only) := ⟨rfl, rfl, rfl, by decide +kernel, rfl, by decide +kernel, by decide +kernel⟩
def OG_only (g_R_want_pack : List D → Option D) (g_R_is_lot_of : List D → Option D) : Op Fl := (oSeq  (oDo  (oCall (g_R_want_pack) 1 0 [0] [] (oCons  (oVar 0) (Op.ret [])) (Op.ret []))) (oSeq  (oIf  (oOr  (oNot  (oB1 tru (oCall (g_R_is_lot_of) 2 0 [0, 1] [] (oCons  (oVar 1) (oCons  (oQ1 lenQ (oQ (oVar 0))) (Op.ret []))) (Op.ret [])))) (oB2 eqD (oVar 1) (oB1 mkT (Op.ret [])))) oNo (Op.ret .nx)) (oRet  (oQ1 tupQ (oQ (oLc [2] (oB1 itQ (oVar 0)) (gmName 2) (oB2Q inD (oVar 2) (oQ (oVar 1))) (oIdx false (oQ (oVar 1)) (oVar 2))))))))
def O_only : Op Fl := OG_only R_want_pack R_is_lot_of
def R_only : List D → Option D := runF ["pack", "lot", "one"] false O_only
theorem kb_only_0 {f : Addr} {fd : FuncData} (F : FD_only K f fd) : KB K fd ["pack", "lot"] 2 [] (([] : List Int).map V.int) [0, 1] := kb0 F 2 [] [0, 1] fun _ _ _ _ _ _ us ws hu hw => match us, hu, ws, hw with | [_, _], _, [], _ => rfl
theorem ok_only (F : FD_only K f fd) (g_self : mg "only" = some (.ref f)) (B_want_pack : Bd P w K mg base 4 "want_pack" (FD_want_pack K) ["pack"] false (liftF (R_want_pack))) (B_is_lot_of : Bd P w K mg base 3 "is_lot_of" (FD_is_lot_of K) ["value", "many"] false (liftF (R_is_lot_of))) (m_len : mg "len" = none) (m_tuple : mg "tuple" = none) : Bd P w K mg base 5 "only" (FD_only K) ["pack", "lot"] false (liftF (R_only)) := by
  obtain ⟨f_want_pack, fd_want_pack, F_want_pack, g_want_pack, G_want_pack⟩ := B_want_pack
  obtain ⟨f_is_lot_of, fd_is_lot_of, F_is_lot_of, g_is_lot_of, G_is_lot_of⟩ := B_is_lot_of
  refine ⟨f, fd, F, g_self, ?_⟩
  exact FnG.mono (j := 5) (fnF F sc_only fun cdv A outer s H hg hr => ⟨_, (Vl.dss_cons  (Vl.ds_expr  (Vl.d_call (dis := []) (G_want_pack.mono (by decide)) hg hr rfl g_want_pack F_want_pack.kp (kb_want_pack_0 F_want_pack) (Vl.ds_cons  (Vl.d_var 0) Vl.ds_nil )) ) (Vl.dss_cons  (Vl.ds_if  (Vl.t_w (Vl.dtw_or  (Vl.dt_not  (Vl.dt_val  (Vl.d_call (dis := []) (G_is_lot_of.mono (by decide)) hg hr rfl g_is_lot_of F_is_lot_of.kp (kb_is_lot_of_0 F_is_lot_of) (Vl.ds_cons  (Vl.d_var 1) (Vl.ds_cons  (Vl.d_len rfl m_len (Vl.dq_of (Vl.d_var 0)) ) Vl.ds_nil ) )) ) ) (Vl.tw_or1 (Vl.dt_eq hr (Vl.b_of (Vl.d_var 1)) (Vl.db_tup  Vl.dab_nil ) )) )) Vl.dss_never Vl.dss_nil ) (Vl.ss_one (Vl.ds_ret  (Vl.d_tuple rfl m_tuple (Vl.dq_of (Vl.e_frz (Vl.d_lc (own := [("one", 2)]) rfl sc_only.nd (Vl.di_val  (Vl.d_var 0) ) (blkOk_by (N := ["pack", "lot", "one"]) (sc := defScope st_only) (by decide +kernel)) (fun _ _ _ _ _ => by exact (Vl.c_name (i := 2) sc_only.nd)) (fun _ _ _ _ _ => by exact (Vl.tm_one (Vl.dt_in hr (Vl.b_of (Vl.d_var 2)) (Vl.dq_of (Vl.d_var 1)) ))) (fun _ _ _ _ _ => by exact (Vl.d_idxT hr (Vl.dq_of (Vl.d_var 1)) (Vl.d_var 2) ))))) ) )) ) )⟩) (by decide)
/-! ### laid_on -/
abbrev st_laid_on : Stmt := topS 64
abbrev FD_laid_on (K : PySem.W.Frag) (f : Addr) (fd : FuncData) : Prop := FunD K "laid_on" "laid_on" (defArgs st_laid_on) (defBody st_laid_on) (defScope st_laid_on) [] [] f fd
theorem sc_laid_on : FnScope ["pack", "late", "one"] ["pack", "late"] (defScope st_laid_on) := ⟨rfl, rfl, rfl, by decide +kernel, rfl, by decide +kernel, by decide +kernel⟩
def OG_laid_on (g_R_want_pack : List D → Option D) : Op Fl := (oSeq  (oDo  (oCall (g_R_want_pack) 1 0 [0] [] (oCons  (oVar 0) (Op.ret [])) (Op.ret []))) (oSeq  (oDo  (oCall (g_R_want_pack) 1 0 [0] [] (oCons  (oVar 1) (Op.ret [])) (Op.ret []))) (oSeq  (oIf  (oB2 gtI (oB2 addD (oQ1 lenQ (oQ (oVar 0))) (oQ1 lenQ (oQ (oVar 1)))) (Op.ret (.int 52))) oNo (Op.ret .nx)) (oRet  (oB2 addD (oVar 0) (oQ1 tupQ (oQ (oLc [2] (oB1 itQ (oVar 1)) (gmName 2) (Op.ret true) (oB2 addD (oVar 2) (oQ1 lenQ (oQ (oVar 0))))))))))))
def O_laid_on : Op Fl := OG_laid_on R_want_pack
def R_laid_on : List D → Option D := runF ["pack", "late", "one"] false O_laid_on
theorem kb_laid_on_0 {f : Addr} {fd : FuncData} (F : FD_laid_on K f fd) : KB K fd ["pack", "late"] 2 [] (([] : List Int).map V.int) [0, 1] := kb0 F 2 [] [0, 1] fun _ _ _ _ _ _ us ws hu hw => match us, hu, ws, hw with | [_, _], _, [], _ => rfl
theorem ok_laid_on (F : FD_laid_on K f fd) (g_self : mg "laid_on" = some (.ref f)) (B_want_pack : Bd P w K mg base 4 "want_pack" (FD_want_pack K) ["pack"] false (liftF (R_want_pack))) (C_MOST_CARDS : ∃ u, mg "MOST_CARDS" = some u ∧ RelV (.int 52) u) (m_len : mg "len" = none) (m_tuple : mg "tuple" = none) : Bd P w K mg base 5 "laid_on" (FD_laid_on K) ["pack", "late"] false (liftF (R_laid_on)) := by
  obtain ⟨f_want_pack, fd_want_pack, F_want_pack, g_want_pack, G_want_pack⟩ := B_want_pack
  obtain ⟨u_MOST_CARDS, c_MOST_CARDS⟩ := C_MOST_CARDS
  refine ⟨f, fd, F, g_self, ?_⟩
  exact FnG.mono (j := 5) (fnF F sc_laid_on fun cdv A outer s H hg hr => ⟨_, (Vl.dss_cons  (Vl.ds_expr  (Vl.d_call (dis := []) (G_want_pack.mono (by decide)) hg hr rfl g_want_pack F_want_pack.kp (kb_want_pack_0 F_want_pack) (Vl.ds_cons  (Vl.d_var 0) Vl.ds_nil )) ) (Vl.dss_cons  (Vl.ds_expr  (Vl.d_call (dis := []) (G_want_pack.mono (by decide)) hg hr rfl g_want_pack F_want_pack.kp (kb_want_pack_0 F_want_pack) (Vl.ds_cons  (Vl.d_var 1) Vl.ds_nil )) ) (Vl.dss_cons  (Vl.ds_if  (Vl.dt_cmp op_gt gtS (Vl.d_add  (Vl.d_len rfl m_len (Vl.dq_of (Vl.d_var 0)) ) (Vl.d_len rfl m_len (Vl.dq_of (Vl.d_var 1)) ) ) (Vl.d_gint rfl c_MOST_CARDS.1 c_MOST_CARDS.2) (nomark _)) Vl.dss_never Vl.dss_nil ) (Vl.ss_one (Vl.ds_ret  (Vl.d_add  (Vl.d_var 0) (Vl.d_tuple rfl m_tuple (Vl.dq_of (Vl.e_frz (Vl.d_lc (own := [("one", 2)]) rfl sc_laid_on.nd (Vl.di_val  (Vl.d_var 1) ) (blkOk_by (N := ["pack", "late", "one"]) (sc := defScope st_laid_on) (by decide +kernel)) (fun _ _ _ _ _ => by exact (Vl.c_name (i := 2) sc_laid_on.nd)) (fun _ _ _ _ _ => by exact Vl.dtm_nil) (fun _ _ _ _ _ => by exact (Vl.d_add  (Vl.d_var 2) (Vl.d_len rfl m_len (Vl.dq_of (Vl.d_var 0)) ) ))))) ) ) )) ) ) )⟩) (by decide)
/-! ### _law_ends_right -/
abbrev st__law_ends_right : Stmt := topS 80
abbrev FD__law_ends_right (K : PySem.W.Frag) (f : Addr) (fd : FuncData) : Prop := FunD K "_law_ends_right" "_law_ends_right" (defArgs st__law_ends_right) (defBody st__law_ends_right) (defScope st__law_ends_right) [] [] f fd
theorem sc__law_ends_right : FnScope ["pot", "cards", "pack", "inner", "wide", "wider", "one"] ["pot", "cards"] (defScope st__law_ends_right) := ⟨rfl, rfl, rfl, by decide +kernel, rfl, by decide +kernel, by decide +kernel⟩
def WG__law_ends_right (g_fw__law_pack : Fw) (g_R_in_move : List D → Option D) (g_R_out_move : List D → Option D) (g_R_times_out : List D → Option D) (g_R_times_in : List D → Option D) (g_R_out_shuffled : List D → Option D) (g_R_only : List D → Option D) (g_R_in_shuffled : List D → Option D) (g_R_laid_on : List D → Option D) : Wp Fl := (wSeq  (wSet 2 false (wCall g_fw__law_pack 2 0 [0, 1] [] (lift (oCons  (oVar 0) (oCons  (oVar 1) (Op.ret [])))) (Wp.ret []))) (lift (oSeq  (oSet 3 false (oCall (g_R_in_move) 1 0 [0] [] (oCons  (oVar 1) (Op.ret [])) (Op.ret []))) (oSeq  (oIf  (oOr  (oB2 eqD (oB2 modD (oB1 intF (oCons  (oVar 1) (Op.ret []))) (Op.ret (.int 2))) (Op.ret (.int 1))) (oB2 gtI (oVar 1) (Op.ret (.int 50)))) (oRet  (Op.ret (.bool true))) (Op.ret .nx)) (oSeq  (oSet 4 false (oB2 addD (oB2 addD (oB1 mkT (oCons  (Op.ret (.int 0)) (Op.ret []))) (oQ1 tupQ (oQ (oLc [6] (oB1 itQ (oVar 3)) (gmName 6) (Op.ret true) (oB2 addD (oVar 6) (Op.ret (.int 1))))))) (oB1 mkT (oCons  (oB2 addD (oVar 1) (Op.ret (.int 1))) (Op.ret []))))) (oSeq  (oIf  (oOr  (oB2 neD (oCall (g_R_out_move) 1 0 [0] [] (oCons  (oB2 addD (oVar 1) (Op.ret (.int 2))) (Op.ret [])) (Op.ret [])) (oVar 4)) (oB2 neD (oCall (g_R_times_out) 1 0 [0] [] (oCons  (oB2 addD (oVar 1) (Op.ret (.int 2))) (Op.ret [])) (Op.ret [])) (oCall (g_R_times_in) 1 0 [0] [] (oCons  (oVar 1) (Op.ret [])) (Op.ret [])))) (oRet  (Op.ret (.bool false))) (Op.ret .nx)) (oSeq  (oSet 5 false (oCall (g_R_out_shuffled) 1 0 [0] [] (oCons  (oB2 addD (oB2 addD (oB1 mkT (oCons  (Op.ret (.int 0)) (Op.ret []))) (oQ1 tupQ (oQ (oLc [6] (oB1 itQ (oVar 2)) (gmName 6) (Op.ret true) (oB2 addD (oVar 6) (Op.ret (.int 1))))))) (oB1 mkT (oCons  (oB2 addD (oVar 1) (Op.ret (.int 1))) (Op.ret [])))) (Op.ret [])) (Op.ret []))) (oRet  (oAndV  (oVal (oB2 eqD (oCall (g_R_only) 2 0 [0, 1] [] (oCons  (oVar 5) (oCons  (oB1 tupRg (oB2 int2 (Op.ret (.int 1)) (oB2 addD (oVar 1) (Op.ret (.int 1))))) (Op.ret []))) (Op.ret [])) (oCall (g_R_in_shuffled) 1 0 [0] [] (oCons  (oVar 2) (Op.ret [])) (Op.ret [])))) (oVal (oB2 eqD (oCall (g_R_laid_on) 2 0 [0, 1] [] (oCons  (oB1 mkT (oCons  (Op.ret (.int 0)) (Op.ret []))) (oCons  (oVar 2) (Op.ret []))) (Op.ret [])) (oB2 addD (oB1 mkT (oCons  (Op.ret (.int 0)) (Op.ret []))) (oQ1 tupQ (oQ (oLc [6] (oB1 itQ (oVar 2)) (gmName 6) (Op.ret true) (oB2 addD (oVar 6) (Op.ret (.int 1))))))))))))))))))
def W__law_ends_right : Wp Fl := WG__law_ends_right fw__law_pack R_in_move R_out_move R_times_out R_times_in R_out_shuffled R_only R_in_shuffled R_laid_on
def fw__law_ends_right : Fw := fun ds k => W__law_ends_right (ini ["pot", "cards", "pack", "inner", "wide", "wider", "one"] ds) (endK false k)
theorem kb__law_ends_right_0 {f : Addr} {fd : FuncData} (F : FD__law_ends_right K f fd) : KB K fd ["pot", "cards"] 2 [] (([] : List Int).map V.int) [0, 1] := kb0 F 2 [] [0, 1] fun _ _ _ _ _ _ us ws hu hw => match us, hu, ws, hw with | [_, _], _, [], _ => rfl
theorem ok__law_ends_right (F : FD__law_ends_right K f fd) (g_self : mg "_law_ends_right" = some (.ref f)) (B__law_pack : Bd P w K mg base 3 "_law_pack" (FD__law_pack K) ["pot", "cards"] false fw__law_pack) (B_in_move : Bd P w K mg base 4 "in_move" (FD_in_move K) ["cards"] false (liftF (R_in_move))) (B_out_move : Bd P w K mg base 4 "out_move" (FD_out_move K) ["cards"] false (liftF (R_out_move))) (B_times_out : Bd P w K mg base 4 "times_out" (FD_times_out K) ["cards"] false (liftF (R_times_out))) (B_times_in : Bd P w K mg base 4 "times_in" (FD_times_in K) ["cards"] false (liftF (R_times_in))) (B_out_shuffled : Bd P w K mg base 5 "out_shuffled" (FD_out_shuffled K) ["pack"] false (liftF (R_out_shuffled))) (B_only : Bd P w K mg base 5 "only" (FD_only K) ["pack", "lot"] false (liftF (R_only))) (B_in_shuffled : Bd P w K mg base 5 "in_shuffled" (FD_in_shuffled K) ["pack"] false (liftF (R_in_shuffled))) (B_laid_on : Bd P w K mg base 5 "laid_on" (FD_laid_on K) ["pack", "late"] false (liftF (R_laid_on))) (m_int : mg "int" = none) (m_range : mg "range" = none) (m_tuple : mg "tuple" = none) : Bd P w K mg base 6 "_law_ends_right" (FD__law_ends_right K) ["pot", "cards"] false fw__law_ends_right := by
  obtain ⟨f__law_pack, fd__law_pack, F__law_pack, g__law_pack, G__law_pack⟩ := B__law_pack
  obtain ⟨f_in_move, fd_in_move, F_in_move, g_in_move, G_in_move⟩ := B_in_move
  obtain ⟨f_out_move, fd_out_move, F_out_move, g_out_move, G_out_move⟩ := B_out_move
  obtain ⟨f_times_out, fd_times_out, F_times_out, g_times_out, G_times_out⟩ := B_times_out
  obtain ⟨f_times_in, fd_times_in, F_times_in, g_times_in, G_times_in⟩ := B_times_in
  obtain ⟨f_out_shuffled, fd_out_shuffled, F_out_shuffled, g_out_shuffled, G_out_shuffled⟩ := B_out_shuffled
  obtain ⟨f_only, fd_only, F_only, g_only, G_only⟩ := B_only
  obtain ⟨f_in_shuffled, fd_in_shuffled, F_in_shuffled, g_in_shuffled, G_in_shuffled⟩ := B_in_shuffled
  obtain ⟨f_laid_on, fd_laid_on, F_laid_on, g_laid_on, G_laid_on⟩ := B_laid_on
  refine ⟨f, fd, F, g_self, ?_⟩
  exact FnG.mono (j := 6) (fnV F sc__law_ends_right (fun cdv A outer s H hg hr => ⟨_, (Vl.ss_cons  (Vl.s_set (i := 2) sc__law_ends_right.nd (Vl.e_call (dis := []) (G__law_pack.mono (by decide)) hg hr rfl g__law_pack F__law_pack.kp (kb__law_pack_0 F__law_pack) (Vl.ds_cons  (Vl.d_var 0) (Vl.ds_cons  (Vl.d_var 1) Vl.ds_nil ) )) ) (Vl.dss_cons  (Vl.ds_set (i := 3) sc__law_ends_right.nd (Vl.d_call (dis := []) (G_in_move.mono (by decide)) hg hr rfl g_in_move F_in_move.kp (kb_in_move_0 F_in_move) (Vl.ds_cons  (Vl.d_var 1) Vl.ds_nil )) ) (Vl.dss_cons  (Vl.ds_if  (Vl.t_w (Vl.dtw_or  (Vl.dt_eq hr (Vl.b_of (Vl.d_mod  (Vl.d_int1 rfl m_int (Vl.ds_cons  (Vl.d_var 1) Vl.ds_nil ) ) Vl.d_int )) (Vl.b_of Vl.d_int) ) (Vl.tw_or1 (Vl.dt_cmp op_gt gtS (Vl.d_var 1) Vl.d_int (nomark _))) )) (Vl.ss_one (Vl.ds_ret  Vl.d_bl )) Vl.dss_nil ) (Vl.dss_cons  (Vl.ds_set (i := 4) sc__law_ends_right.nd (Vl.d_add  (Vl.d_add  (Vl.d_tup  (Vl.ds_cons  Vl.d_int Vl.ds_nil ) ) (Vl.d_tuple rfl m_tuple (Vl.dq_of (Vl.e_frz (Vl.d_lc (own := [("one", 6)]) rfl sc__law_ends_right.nd (Vl.di_val  (Vl.d_var 3) ) (blkOk_by (N := ["pot", "cards", "pack", "inner", "wide", "wider", "one"]) (sc := defScope st__law_ends_right) (by decide +kernel)) (fun _ _ _ _ _ => by exact (Vl.c_name (i := 6) sc__law_ends_right.nd)) (fun _ _ _ _ _ => by exact Vl.dtm_nil) (fun _ _ _ _ _ => by exact (Vl.d_add  (Vl.d_var 6) Vl.d_int ))))) ) ) (Vl.d_tup  (Vl.ds_cons  (Vl.d_add  (Vl.d_var 1) Vl.d_int ) Vl.ds_nil ) ) ) ) (Vl.dss_cons  (Vl.ds_if  (Vl.t_w (Vl.dtw_or  (Vl.dt_ne hr (Vl.b_of (Vl.d_call (dis := []) (G_out_move.mono (by decide)) hg hr rfl g_out_move F_out_move.kp (kb_out_move_0 F_out_move) (Vl.ds_cons  (Vl.d_add  (Vl.d_var 1) Vl.d_int ) Vl.ds_nil ))) (Vl.b_of (Vl.d_var 4)) ) (Vl.tw_or1 (Vl.dt_ne hr (Vl.b_of (Vl.d_call (dis := []) (G_times_out.mono (by decide)) hg hr rfl g_times_out F_times_out.kp (kb_times_out_0 F_times_out) (Vl.ds_cons  (Vl.d_add  (Vl.d_var 1) Vl.d_int ) Vl.ds_nil ))) (Vl.b_of (Vl.d_call (dis := []) (G_times_in.mono (by decide)) hg hr rfl g_times_in F_times_in.kp (kb_times_in_0 F_times_in) (Vl.ds_cons  (Vl.d_var 1) Vl.ds_nil ))) )) )) (Vl.ss_one (Vl.ds_ret  Vl.d_bl )) Vl.dss_nil ) (Vl.dss_cons  (Vl.ds_set (i := 5) sc__law_ends_right.nd (Vl.d_call (dis := []) (G_out_shuffled.mono (by decide)) hg hr rfl g_out_shuffled F_out_shuffled.kp (kb_out_shuffled_0 F_out_shuffled) (Vl.ds_cons  (Vl.d_add  (Vl.d_add  (Vl.d_tup  (Vl.ds_cons  Vl.d_int Vl.ds_nil ) ) (Vl.d_tuple rfl m_tuple (Vl.dq_of (Vl.e_frz (Vl.d_lc (own := [("one", 6)]) rfl sc__law_ends_right.nd (Vl.di_val  (Vl.d_var 2) ) (blkOk_by (N := ["pot", "cards", "pack", "inner", "wide", "wider", "one"]) (sc := defScope st__law_ends_right) (by decide +kernel)) (fun _ _ _ _ _ => by exact (Vl.c_name (i := 6) sc__law_ends_right.nd)) (fun _ _ _ _ _ => by exact Vl.dtm_nil) (fun _ _ _ _ _ => by exact (Vl.d_add  (Vl.d_var 6) Vl.d_int ))))) ) ) (Vl.d_tup  (Vl.ds_cons  (Vl.d_add  (Vl.d_var 1) Vl.d_int ) Vl.ds_nil ) ) ) Vl.ds_nil )) ) (Vl.ss_one (Vl.ds_ret  (Vl.d_and  (Vl.d_eq hr (Vl.b_of (Vl.d_call (dis := []) (G_only.mono (by decide)) hg hr rfl g_only F_only.kp (kb_only_0 F_only) (Vl.ds_cons  (Vl.d_var 5) (Vl.ds_cons  (Vl.d_tupRg rfl rfl m_tuple (Vl.dr_2 rfl m_range Vl.d_int (Vl.d_add  (Vl.d_var 1) Vl.d_int ) ) ) Vl.ds_nil ) ))) (Vl.b_of (Vl.d_call (dis := []) (G_in_shuffled.mono (by decide)) hg hr rfl g_in_shuffled F_in_shuffled.kp (kb_in_shuffled_1 F_in_shuffled) (Vl.ds_cons  (Vl.d_var 2) Vl.ds_nil ))) ) (Vl.e_one (Vl.d_eq hr (Vl.b_of (Vl.d_call (dis := []) (G_laid_on.mono (by decide)) hg hr rfl g_laid_on F_laid_on.kp (kb_laid_on_0 F_laid_on) (Vl.ds_cons  (Vl.d_tup  (Vl.ds_cons  Vl.d_int Vl.ds_nil ) ) (Vl.ds_cons  (Vl.d_var 2) Vl.ds_nil ) ))) (Vl.b_of (Vl.d_add  (Vl.d_tup  (Vl.ds_cons  Vl.d_int Vl.ds_nil ) ) (Vl.d_tuple rfl m_tuple (Vl.dq_of (Vl.e_frz (Vl.d_lc (own := [("one", 6)]) rfl sc__law_ends_right.nd (Vl.di_val  (Vl.d_var 2) ) (blkOk_by (N := ["pot", "cards", "pack", "inner", "wide", "wider", "one"]) (sc := defScope st__law_ends_right) (by decide +kernel)) (fun _ _ _ _ _ => by exact (Vl.c_name (i := 6) sc__law_ends_right.nd)) (fun _ _ _ _ _ => by exact Vl.dtm_nil) (fun _ _ _ _ _ => by exact (Vl.d_add  (Vl.d_var 6) Vl.d_int ))))) ) )) )) ) )) ) ) ) ) ) )⟩) fun ds k _ h => h) (by decide)
/-! ### want_move -/
abbrev st_want_move : Stmt := topS 25
abbrev FD_want_move (K : PySem.W.Frag) (f : Addr) (fd : FuncData) : Prop := FunD K "want_move" "want_move" (defArgs st_want_move) (defBody st_want_move) (defScope st_want_move) [] [] f fd
theorem sc_want_move : FnScope ["move"] ["move"] (defScope st_want_move) := ⟨rfl, rfl, rfl, by decide +kernel, rfl, by decide +kernel, by decide +kernel⟩
def OG_want_move (g_R_is_pack_value : List D → Option D) : Op Fl := (oIf  (oNot  (oB1 tru (oCall (g_R_is_pack_value) 1 0 [0] [] (oCons  (oVar 0) (Op.ret [])) (Op.ret [])))) oNo (Op.ret .nx))
def O_want_move : Op Fl := OG_want_move R_is_pack_value
def R_want_move : List D → Option D := runF ["move"] false O_want_move
theorem kb_want_move_0 {f : Addr} {fd : FuncData} (F : FD_want_move K f fd) : KB K fd ["move"] 1 [] (([] : List Int).map V.int) [0] := kb0 F 1 [] [0] fun _ _ _ _ _ _ us ws hu hw => match us, hu, ws, hw with | [_], _, [], _ => rfl
theorem ok_want_move (F : FD_want_move K f fd) (g_self : mg "want_move" = some (.ref f)) (B_is_pack_value : Bd P w K mg base 3 "is_pack_value" (FD_is_pack_value K) ["value"] false (liftF (R_is_pack_value))) : Bd P w K mg base 4 "want_move" (FD_want_move K) ["move"] false (liftF (R_want_move)) := by
  obtain ⟨f_is_pack_value, fd_is_pack_value, F_is_pack_value, g_is_pack_value, G_is_pack_value⟩ := B_is_pack_value
  refine ⟨f, fd, F, g_self, ?_⟩
  exact FnG.mono (j := 4) (fnF F sc_want_move fun cdv A outer s H hg hr => ⟨_, (Vl.ss_one (Vl.ds_if  (Vl.dt_not  (Vl.dt_val  (Vl.d_call (dis := []) (G_is_pack_value.mono (by decide)) hg hr rfl g_is_pack_value F_is_pack_value.kp (kb_is_pack_value_0 F_is_pack_value) (Vl.ds_cons  (Vl.d_var 0) Vl.ds_nil )) ) ) Vl.dss_never Vl.dss_nil ))⟩) (by decide)
/-! ### back -/
abbrev st_back : Stmt := topS 39
abbrev FD_back (K : PySem.W.Frag) (f : Addr) (fd : FuncData) : Prop := FunD K "back" "back" (defArgs st_back) (defBody st_back) (defScope st_back) [] [] f fd
theorem sc_back : FnScope ["move"] ["move"] (defScope st_back) := ⟨rfl, rfl, rfl, by decide +kernel, rfl, by decide +kernel, by decide +kernel⟩
def OG_back (g_R_want_move : List D → Option D) (g_R_back_of : List D → Option D) : Op Fl := (oSeq  (oDo  (oCall (g_R_want_move) 1 0 [0] [] (oCons  (oVar 0) (Op.ret [])) (Op.ret []))) (oRet  (oCall (g_R_back_of) 1 0 [0] [] (oCons  (oVar 0) (Op.ret [])) (Op.ret []))))
def O_back : Op Fl := OG_back R_want_move R_back_of
def R_back : List D → Option D := runF ["move"] false O_back
theorem kb_back_0 {f : Addr} {fd : FuncData} (F : FD_back K f fd) : KB K fd ["move"] 1 [] (([] : List Int).map V.int) [0] := kb0 F 1 [] [0] fun _ _ _ _ _ _ us ws hu hw => match us, hu, ws, hw with | [_], _, [], _ => rfl
theorem ok_back (F : FD_back K f fd) (g_self : mg "back" = some (.ref f)) (B_want_move : Bd P w K mg base 4 "want_move" (FD_want_move K) ["move"] false (liftF (R_want_move))) (B_back_of : Bd P w K mg base 1 "back_of" (FD_back_of K) ["move"] false (liftF (R_back_of))) : Bd P w K mg base 5 "back" (FD_back K) ["move"] false (liftF (R_back)) := by
  obtain ⟨f_want_move, fd_want_move, F_want_move, g_want_move, G_want_move⟩ := B_want_move
  obtain ⟨f_back_of, fd_back_of, F_back_of, g_back_of, G_back_of⟩ := B_back_of
  refine ⟨f, fd, F, g_self, ?_⟩
  exact FnG.mono (j := 5) (fnF F sc_back fun cdv A outer s H hg hr => ⟨_, (Vl.dss_cons  (Vl.ds_expr  (Vl.d_call (dis := []) (G_want_move.mono (by decide)) hg hr rfl g_want_move F_want_move.kp (kb_want_move_0 F_want_move) (Vl.ds_cons  (Vl.d_var 0) Vl.ds_nil )) ) (Vl.ss_one (Vl.ds_ret  (Vl.d_call (dis := []) (G_back_of.mono (by decide)) hg hr rfl g_back_of F_back_of.kp (kb_back_of_0 F_back_of) (Vl.ds_cons  (Vl.d_var 0) Vl.ds_nil )) )) )⟩) (by decide)
/-! ### is_count -/
abbrev st_is_count : Stmt := topS 3
abbrev FD_is_count (K : PySem.W.Frag) (f : Addr) (fd : FuncData) : Prop := FunD K "is_count" "is_count" (defArgs st_is_count) (defBody st_is_count) (defScope st_is_count) [] [] f fd
theorem sc_is_count : FnScope ["value"] ["value"] (defScope st_is_count) := ⟨rfl, rfl, rfl, by decide +kernel, rfl, by decide +kernel, by decide +kernel⟩
def OG_is_count (g_R_is_integer : List D → Option D) : Op Fl := (oRet  (oAndV  (oCall (g_R_is_integer) 1 0 [0] [] (oCons  (oVar 0) (Op.ret [])) (Op.ret [])) (oVal (oB2 geI (oVar 0) (Op.ret (.int 0))))))
def O_is_count : Op Fl := OG_is_count R_is_integer
def R_is_count : List D → Option D := runF ["value"] false O_is_count
theorem kb_is_count_0 {f : Addr} {fd : FuncData} (F : FD_is_count K f fd) : KB K fd ["value"] 1 [] (([] : List Int).map V.int) [0] := kb0 F 1 [] [0] fun _ _ _ _ _ _ us ws hu hw => match us, hu, ws, hw with | [_], _, [], _ => rfl
theorem ok_is_count (F : FD_is_count K f fd) (g_self : mg "is_count" = some (.ref f)) (B_is_integer : Bd P w K mg base 1 "is_integer" (FD_is_integer K) ["value"] false (liftF (R_is_integer))) : Bd P w K mg base 2 "is_count" (FD_is_count K) ["value"] false (liftF (R_is_count)) := by
  obtain ⟨f_is_integer, fd_is_integer, F_is_integer, g_is_integer, G_is_integer⟩ := B_is_integer
  refine ⟨f, fd, F, g_self, ?_⟩
  exact FnG.mono (j := 2) (fnF F sc_is_count fun cdv A outer s H hg hr => ⟨_, (Vl.ss_one (Vl.ds_ret  (Vl.d_and  (Vl.d_call (dis := []) (G_is_integer.mono (by decide)) hg hr rfl g_is_integer F_is_integer.kp (kb_is_integer_0 F_is_integer) (Vl.ds_cons  (Vl.d_var 0) Vl.ds_nil )) (Vl.e_one (Vl.d_cmp op_ge geS (Vl.d_var 0) Vl.d_int (nomark _))) ) ))⟩) (by decide)
/-! ### want_times -/
abbrev st_want_times : Stmt := topS 28
abbrev FD_want_times (K : PySem.W.Frag) (f : Addr) (fd : FuncData) : Prop := FunD K "want_times" "want_times" (defArgs st_want_times) (defBody st_want_times) (defScope st_want_times) [] [] f fd
theorem sc_want_times : FnScope ["times"] ["times"] (defScope st_want_times) := ⟨rfl, rfl, rfl, by decide +kernel, rfl, by decide +kernel, by decide +kernel⟩
def OG_want_times (g_R_is_count : List D → Option D) : Op Fl := (oIf  (oNot  (oB1 tru (oCall (g_R_is_count) 1 0 [0] [] (oCons  (oVar 0) (Op.ret [])) (Op.ret [])))) oNo (Op.ret .nx))
def O_want_times : Op Fl := OG_want_times R_is_count
def R_want_times : List D → Option D := runF ["times"] false O_want_times
theorem kb_want_times_0 {f : Addr} {fd : FuncData} (F : FD_want_times K f fd) : KB K fd ["times"] 1 [] (([] : List Int).map V.int) [0] := kb0 F 1 [] [0] fun _ _ _ _ _ _ us ws hu hw => match us, hu, ws, hw with | [_], _, [], _ => rfl
theorem ok_want_times (F : FD_want_times K f fd) (g_self : mg "want_times" = some (.ref f)) (B_is_count : Bd P w K mg base 2 "is_count" (FD_is_count K) ["value"] false (liftF (R_is_count))) : Bd P w K mg base 3 "want_times" (FD_want_times K) ["times"] false (liftF (R_want_times)) := by
  obtain ⟨f_is_count, fd_is_count, F_is_count, g_is_count, G_is_count⟩ := B_is_count
  refine ⟨f, fd, F, g_self, ?_⟩
  exact FnG.mono (j := 3) (fnF F sc_want_times fun cdv A outer s H hg hr => ⟨_, (Vl.ss_one (Vl.ds_if  (Vl.dt_not  (Vl.dt_val  (Vl.d_call (dis := []) (G_is_count.mono (by decide)) hg hr rfl g_is_count F_is_count.kp (kb_is_count_0 F_is_count) (Vl.ds_cons  (Vl.d_var 0) Vl.ds_nil )) ) ) Vl.dss_never Vl.dss_nil ))⟩) (by decide)
/-! ### still_of -/
abbrev st_still_of : Stmt := topS 30
abbrev FD_still_of (K : PySem.W.Frag) (f : Addr) (fd : FuncData) : Prop := FunD K "still_of" "still_of" (defArgs st_still_of) (defBody st_still_of) (defScope st_still_of) [] [] f fd
theorem sc_still_of : FnScope ["cards"] ["cards"] (defScope st_still_of) := ⟨rfl, rfl, rfl, by decide +kernel, rfl, by decide +kernel, by decide +kernel⟩
def OG_still_of : Op Fl := (oRet  (oB1 tupRg (oB1 int1 (oVar 0))))
def O_still_of : Op Fl := OG_still_of 
def R_still_of : List D → Option D := runF ["cards"] false O_still_of
theorem kb_still_of_0 {f : Addr} {fd : FuncData} (F : FD_still_of K f fd) : KB K fd ["cards"] 1 [] (([] : List Int).map V.int) [0] := kb0 F 1 [] [0] fun _ _ _ _ _ _ us ws hu hw => match us, hu, ws, hw with | [_], _, [], _ => rfl
theorem ok_still_of (F : FD_still_of K f fd) (g_self : mg "still_of" = some (.ref f)) (m_range : mg "range" = none) (m_tuple : mg "tuple" = none) : Bd P w K mg base 1 "still_of" (FD_still_of K) ["cards"] false (liftF (R_still_of)) := by
  refine ⟨f, fd, F, g_self, ?_⟩
  exact FnG.mono (j := 1) (fnF F sc_still_of fun cdv A outer s H hg hr => ⟨_, (Vl.ss_one (Vl.ds_ret  (Vl.d_tupRg rfl rfl m_tuple (Vl.dr_1 rfl m_range (Vl.d_var 0) ) ) ))⟩) (by decide)
/-! ### power_of -/
abbrev st_power_of : Stmt := topS 33
abbrev FD_power_of (K : PySem.W.Frag) (f : Addr) (fd : FuncData) : Prop := FunD K "power_of" "power_of" (defArgs st_power_of) (defBody st_power_of) (defScope st_power_of) [] [] f fd
theorem sc_power_of : FnScope ["move", "times", "found", "here", "left"] ["move", "times"] (defScope st_power_of) := ⟨rfl, rfl, rfl, by decide +kernel, rfl, by decide +kernel, by decide +kernel⟩
def OG_power_of (g_R_still_of : List D → Option D) (g_R_moved_of : List D → Option D) : Op Fl := (oSeq  (oPar [2, 3, 4] [false, false, false] (oCons  (oCall (g_R_still_of) 1 0 [0] [] (oCons  (oQ1 lenQ (oQ (oVar 0))) (Op.ret [])) (Op.ret [])) (oCons  (oVar 0) (oCons  (oVar 1) (Op.ret []))))) (oSeq  (oWhile (oB2 gtI (oVar 4) (Op.ret (.int 0))) (oSeq  (oSet 2 false (oIf  (oB2 eqD (oB2 modD (oVar 4) (Op.ret (.int 2))) (Op.ret (.int 1))) (oCall (g_R_moved_of) 2 0 [0, 1] [] (oCons  (oVar 2) (oCons  (oVar 3) (Op.ret []))) (Op.ret [])) (oVar 2))) (oPar [3, 4] [false, false] (oCons  (oCall (g_R_moved_of) 2 0 [0, 1] [] (oCons  (oVar 3) (oCons  (oVar 3) (Op.ret []))) (Op.ret [])) (oCons  (oB2 fdivD (oVar 4) (Op.ret (.int 2))) (Op.ret []))))) 1000) (oRet  (oVar 2))))
def O_power_of : Op Fl := OG_power_of R_still_of R_moved_of
def R_power_of : List D → Option D := runF ["move", "times", "found", "here", "left"] false O_power_of
theorem kb_power_of_0 {f : Addr} {fd : FuncData} (F : FD_power_of K f fd) : KB K fd ["move", "times"] 2 [] (([] : List Int).map V.int) [0, 1] := kb0 F 2 [] [0, 1] fun _ _ _ _ _ _ us ws hu hw => match us, hu, ws, hw with | [_, _], _, [], _ => rfl
theorem ok_power_of (F : FD_power_of K f fd) (g_self : mg "power_of" = some (.ref f)) (B_still_of : Bd P w K mg base 1 "still_of" (FD_still_of K) ["cards"] false (liftF (R_still_of))) (B_moved_of : Bd P w K mg base 1 "moved_of" (FD_moved_of K) ["pack", "move"] false (liftF (R_moved_of))) (m_len : mg "len" = none) : Bd P w K mg base 2 "power_of" (FD_power_of K) ["move", "times"] false (liftF (R_power_of)) := by
  obtain ⟨f_still_of, fd_still_of, F_still_of, g_still_of, G_still_of⟩ := B_still_of
  obtain ⟨f_moved_of, fd_moved_of, F_moved_of, g_moved_of, G_moved_of⟩ := B_moved_of
  refine ⟨f, fd, F, g_self, ?_⟩
  exact FnG.mono (j := 2) (fnF F sc_power_of fun cdv A outer s H hg hr => ⟨_, (Vl.dss_cons  (by first | exact (Vl.ds_par3 (i := 2) (j := 3) (l := 4) rfl sc_power_of.nd (Vl.dao_cons  (Vl.d_call (dis := []) (G_still_of.mono (by decide)) hg hr rfl g_still_of F_still_of.kp (kb_still_of_0 F_still_of) (Vl.ds_cons  (Vl.d_len rfl m_len (Vl.dq_of (Vl.d_var 0)) ) Vl.ds_nil )) (Vl.dao_cons  (Vl.d_var 0) (Vl.dao_cons  (Vl.d_var 1) Vl.dao_nil ) ) )) | exact (Vl.ds_parG (js := [2, 3, 4]) rfl (Vl.dao_cons  (Vl.d_call (dis := []) (G_still_of.mono (by decide)) hg hr rfl g_still_of F_still_of.kp (kb_still_of_0 F_still_of) (Vl.ds_cons  (Vl.d_len rfl m_len (Vl.dq_of (Vl.d_var 0)) ) Vl.ds_nil )) (Vl.dao_cons  (Vl.d_var 0) (Vl.dao_cons  (Vl.d_var 1) Vl.dao_nil ) ) ) (Vl.nms_cons (i := 2) sc_power_of.nd (Vl.nms_cons (i := 3) sc_power_of.nd (Vl.nms_cons (i := 4) sc_power_of.nd Vl.nms_nil))))) (Vl.dss_cons  (Vl.ds_while 1000 PassesOwn.never (Vl.dt_cmp op_gt gtS (Vl.d_var 4) Vl.d_int (nomark _)) (Vl.dss_cons  (Vl.ds_set (i := 2) sc_power_of.nd (Vl.d_if  (Vl.dt_eq hr (Vl.b_of (Vl.d_mod  (Vl.d_var 4) Vl.d_int )) (Vl.b_of Vl.d_int) ) (Vl.d_call (dis := []) (G_moved_of.mono (by decide)) hg hr rfl g_moved_of F_moved_of.kp (kb_moved_of_0 F_moved_of) (Vl.ds_cons  (Vl.d_var 2) (Vl.ds_cons  (Vl.d_var 3) Vl.ds_nil ) )) (Vl.d_var 2) ) ) (Vl.ss_one (by first | exact (Vl.ds_par2 (i := 3) (j := 4) rfl sc_power_of.nd (Vl.dao_cons  (Vl.d_call (dis := []) (G_moved_of.mono (by decide)) hg hr rfl g_moved_of F_moved_of.kp (kb_moved_of_0 F_moved_of) (Vl.ds_cons  (Vl.d_var 3) (Vl.ds_cons  (Vl.d_var 3) Vl.ds_nil ) )) (Vl.dao_cons  (Vl.d_fdiv  (Vl.d_var 4) Vl.d_int ) Vl.dao_nil ) )) | exact (Vl.ds_parG (js := [3, 4]) rfl (Vl.dao_cons  (Vl.d_call (dis := []) (G_moved_of.mono (by decide)) hg hr rfl g_moved_of F_moved_of.kp (kb_moved_of_0 F_moved_of) (Vl.ds_cons  (Vl.d_var 3) (Vl.ds_cons  (Vl.d_var 3) Vl.ds_nil ) )) (Vl.dao_cons  (Vl.d_fdiv  (Vl.d_var 4) Vl.d_int ) Vl.dao_nil ) ) (Vl.nms_cons (i := 3) sc_power_of.nd (Vl.nms_cons (i := 4) sc_power_of.nd Vl.nms_nil))))) )) (Vl.ss_one (Vl.ds_ret  (Vl.d_var 2) )) ) )⟩) (by decide)
/-! ### done -/
abbrev st_done : Stmt := topS 40
abbrev FD_done (K : PySem.W.Frag) (f : Addr) (fd : FuncData) : Prop := FunD K "done" "done" (defArgs st_done) (defBody st_done) (defScope st_done) [] [] f fd
theorem sc_done : FnScope ["move", "times"] ["move", "times"] (defScope st_done) := ⟨rfl, rfl, rfl, by decide +kernel, rfl, by decide +kernel, by decide +kernel⟩
def OG_done (g_R_want_move : List D → Option D) (g_R_want_times : List D → Option D) (g_R_power_of : List D → Option D) : Op Fl := (oSeq  (oDo  (oCall (g_R_want_move) 1 0 [0] [] (oCons  (oVar 0) (Op.ret [])) (Op.ret []))) (oSeq  (oDo  (oCall (g_R_want_times) 1 0 [0] [] (oCons  (oVar 1) (Op.ret [])) (Op.ret []))) (oRet  (oCall (g_R_power_of) 2 0 [0, 1] [] (oCons  (oVar 0) (oCons  (oVar 1) (Op.ret []))) (Op.ret [])))))
def O_done : Op Fl := OG_done R_want_move R_want_times R_power_of
def R_done : List D → Option D := runF ["move", "times"] false O_done
theorem kb_done_0 {f : Addr} {fd : FuncData} (F : FD_done K f fd) : KB K fd ["move", "times"] 2 [] (([] : List Int).map V.int) [0, 1] := kb0 F 2 [] [0, 1] fun _ _ _ _ _ _ us ws hu hw => match us, hu, ws, hw with | [_, _], _, [], _ => rfl
theorem ok_done (F : FD_done K f fd) (g_self : mg "done" = some (.ref f)) (B_want_move : Bd P w K mg base 4 "want_move" (FD_want_move K) ["move"] false (liftF (R_want_move))) (B_want_times : Bd P w K mg base 3 "want_times" (FD_want_times K) ["times"] false (liftF (R_want_times))) (B_power_of : Bd P w K mg base 2 "power_of" (FD_power_of K) ["move", "times"] false (liftF (R_power_of))) : Bd P w K mg base 5 "done" (FD_done K) ["move", "times"] false (liftF (R_done)) := by
  obtain ⟨f_want_move, fd_want_move, F_want_move, g_want_move, G_want_move⟩ := B_want_move
  obtain ⟨f_want_times, fd_want_times, F_want_times, g_want_times, G_want_times⟩ := B_want_times
  obtain ⟨f_power_of, fd_power_of, F_power_of, g_power_of, G_power_of⟩ := B_power_of
  refine ⟨f, fd, F, g_self, ?_⟩
  exact FnG.mono (j := 5) (fnF F sc_done fun cdv A outer s H hg hr => ⟨_, (Vl.dss_cons  (Vl.ds_expr  (Vl.d_call (dis := []) (G_want_move.mono (by decide)) hg hr rfl g_want_move F_want_move.kp (kb_want_move_0 F_want_move) (Vl.ds_cons  (Vl.d_var 0) Vl.ds_nil )) ) (Vl.dss_cons  (Vl.ds_expr  (Vl.d_call (dis := []) (G_want_times.mono (by decide)) hg hr rfl g_want_times F_want_times.kp (kb_want_times_0 F_want_times) (Vl.ds_cons  (Vl.d_var 1) Vl.ds_nil )) ) (Vl.ss_one (Vl.ds_ret  (Vl.d_call (dis := []) (G_power_of.mono (by decide)) hg hr rfl g_power_of F_power_of.kp (kb_power_of_0 F_power_of) (Vl.ds_cons  (Vl.d_var 0) (Vl.ds_cons  (Vl.d_var 1) Vl.ds_nil ) )) )) ) )⟩) (by decide)
/-! ### want_as_many -/
abbrev st_want_as_many : Stmt := topS 26
abbrev FD_want_as_many (K : PySem.W.Frag) (f : Addr) (fd : FuncData) : Prop := FunD K "want_as_many" "want_as_many" (defArgs st_want_as_many) (defBody st_want_as_many) (defScope st_want_as_many) [] [] f fd
theorem sc_want_as_many : FnScope ["pack", "move"] ["pack", "move"] (defScope st_want_as_many) := ⟨rfl, rfl, rfl, by decide +kernel, rfl, by decide +kernel, by decide +kernel⟩
def OG_want_as_many : Op Fl := (oIf  (oB2 neD (oQ1 lenQ (oQ (oVar 0))) (oQ1 lenQ (oQ (oVar 1)))) oNo (Op.ret .nx))
def O_want_as_many : Op Fl := OG_want_as_many 
def R_want_as_many : List D → Option D := runF ["pack", "move"] false O_want_as_many
theorem kb_want_as_many_0 {f : Addr} {fd : FuncData} (F : FD_want_as_many K f fd) : KB K fd ["pack", "move"] 2 [] (([] : List Int).map V.int) [0, 1] := kb0 F 2 [] [0, 1] fun _ _ _ _ _ _ us ws hu hw => match us, hu, ws, hw with | [_, _], _, [], _ => rfl
theorem ok_want_as_many (F : FD_want_as_many K f fd) (g_self : mg "want_as_many" = some (.ref f)) (m_len : mg "len" = none) : Bd P w K mg base 1 "want_as_many" (FD_want_as_many K) ["pack", "move"] false (liftF (R_want_as_many)) := by
  refine ⟨f, fd, F, g_self, ?_⟩
  exact FnG.mono (j := 1) (fnF F sc_want_as_many fun cdv A outer s H hg hr => ⟨_, (Vl.ss_one (Vl.ds_if  (Vl.dt_ne hr (Vl.b_of (Vl.d_len rfl m_len (Vl.dq_of (Vl.d_var 0)) )) (Vl.b_of (Vl.d_len rfl m_len (Vl.dq_of (Vl.d_var 1)) )) ) Vl.dss_never Vl.dss_nil ))⟩) (by decide)
/-! ### moved -/
abbrev st_moved : Stmt := topS 38
abbrev FD_moved (K : PySem.W.Frag) (f : Addr) (fd : FuncData) : Prop := FunD K "moved" "moved" (defArgs st_moved) (defBody st_moved) (defScope st_moved) [] [] f fd
theorem sc_moved : FnScope ["pack", "move"] ["pack", "move"] (defScope st_moved) := ⟨rfl, rfl, rfl, by decide +kernel, rfl, by decide +kernel, by decide +kernel⟩
def OG_moved (g_R_want_pack : List D → Option D) (g_R_want_move : List D → Option D) (g_R_want_as_many : List D → Option D) (g_R_moved_of : List D → Option D) : Op Fl := (oSeq  (oDo  (oCall (g_R_want_pack) 1 0 [0] [] (oCons  (oVar 0) (Op.ret [])) (Op.ret []))) (oSeq  (oDo  (oCall (g_R_want_move) 1 0 [0] [] (oCons  (oVar 1) (Op.ret [])) (Op.ret []))) (oSeq  (oDo  (oCall (g_R_want_as_many) 2 0 [0, 1] [] (oCons  (oVar 0) (oCons  (oVar 1) (Op.ret []))) (Op.ret []))) (oRet  (oCall (g_R_moved_of) 2 0 [0, 1] [] (oCons  (oVar 0) (oCons  (oVar 1) (Op.ret []))) (Op.ret []))))))
def O_moved : Op Fl := OG_moved R_want_pack R_want_move R_want_as_many R_moved_of
def R_moved : List D → Option D := runF ["pack", "move"] false O_moved
theorem kb_moved_0 {f : Addr} {fd : FuncData} (F : FD_moved K f fd) : KB K fd ["pack", "move"] 2 [] (([] : List Int).map V.int) [0, 1] := kb0 F 2 [] [0, 1] fun _ _ _ _ _ _ us ws hu hw => match us, hu, ws, hw with | [_, _], _, [], _ => rfl
theorem ok_moved (F : FD_moved K f fd) (g_self : mg "moved" = some (.ref f)) (B_want_pack : Bd P w K mg base 4 "want_pack" (FD_want_pack K) ["pack"] false (liftF (R_want_pack))) (B_want_move : Bd P w K mg base 4 "want_move" (FD_want_move K) ["move"] false (liftF (R_want_move))) (B_want_as_many : Bd P w K mg base 1 "want_as_many" (FD_want_as_many K) ["pack", "move"] false (liftF (R_want_as_many))) (B_moved_of : Bd P w K mg base 1 "moved_of" (FD_moved_of K) ["pack", "move"] false (liftF (R_moved_of))) : Bd P w K mg base 5 "moved" (FD_moved K) ["pack", "move"] false (liftF (R_moved)) := by
  obtain ⟨f_want_pack, fd_want_pack, F_want_pack, g_want_pack, G_want_pack⟩ := B_want_pack
  obtain ⟨f_want_move, fd_want_move, F_want_move, g_want_move, G_want_move⟩ := B_want_move
  obtain ⟨f_want_as_many, fd_want_as_many, F_want_as_many, g_want_as_many, G_want_as_many⟩ := B_want_as_many
  obtain ⟨f_moved_of, fd_moved_of, F_moved_of, g_moved_of, G_moved_of⟩ := B_moved_of
  refine ⟨f, fd, F, g_self, ?_⟩
  exact FnG.mono (j := 5) (fnF F sc_moved fun cdv A outer s H hg hr => ⟨_, (Vl.dss_cons  (Vl.ds_expr  (Vl.d_call (dis := []) (G_want_pack.mono (by decide)) hg hr rfl g_want_pack F_want_pack.kp (kb_want_pack_0 F_want_pack) (Vl.ds_cons  (Vl.d_var 0) Vl.ds_nil )) ) (Vl.dss_cons  (Vl.ds_expr  (Vl.d_call (dis := []) (G_want_move.mono (by decide)) hg hr rfl g_want_move F_want_move.kp (kb_want_move_0 F_want_move) (Vl.ds_cons  (Vl.d_var 1) Vl.ds_nil )) ) (Vl.dss_cons  (Vl.ds_expr  (Vl.d_call (dis := []) (G_want_as_many.mono (by decide)) hg hr rfl g_want_as_many F_want_as_many.kp (kb_want_as_many_0 F_want_as_many) (Vl.ds_cons  (Vl.d_var 0) (Vl.ds_cons  (Vl.d_var 1) Vl.ds_nil ) )) ) (Vl.ss_one (Vl.ds_ret  (Vl.d_call (dis := []) (G_moved_of.mono (by decide)) hg hr rfl g_moved_of F_moved_of.kp (kb_moved_of_0 F_moved_of) (Vl.ds_cons  (Vl.d_var 0) (Vl.ds_cons  (Vl.d_var 1) Vl.ds_nil ) )) )) ) ) )⟩) (by decide)
/-! ### plain -/
abbrev st_plain : Stmt := topS 37
abbrev FD_plain (K : PySem.W.Frag) (f : Addr) (fd : FuncData) : Prop := FunD K "plain" "plain" (defArgs st_plain) (defBody st_plain) (defScope st_plain) [] [] f fd
theorem sc_plain : FnScope ["cards"] ["cards"] (defScope st_plain) := ⟨rfl, rfl, rfl, by decide +kernel, rfl, by decide +kernel, by decide +kernel⟩
def OG_plain (g_R_want_cards : List D → Option D) (g_R_still_of : List D → Option D) : Op Fl := (oSeq  (oDo  (oCall (g_R_want_cards) 1 0 [0] [] (oCons  (oVar 0) (Op.ret [])) (Op.ret []))) (oRet  (oCall (g_R_still_of) 1 0 [0] [] (oCons  (oVar 0) (Op.ret [])) (Op.ret []))))
def O_plain : Op Fl := OG_plain R_want_cards R_still_of
def R_plain : List D → Option D := runF ["cards"] false O_plain
theorem kb_plain_0 {f : Addr} {fd : FuncData} (F : FD_plain K f fd) : KB K fd ["cards"] 1 [] (([] : List Int).map V.int) [0] := kb0 F 1 [] [0] fun _ _ _ _ _ _ us ws hu hw => match us, hu, ws, hw with | [_], _, [], _ => rfl
theorem ok_plain (F : FD_plain K f fd) (g_self : mg "plain" = some (.ref f)) (B_want_cards : Bd P w K mg base 3 "want_cards" (FD_want_cards K) ["cards"] false (liftF (R_want_cards))) (B_still_of : Bd P w K mg base 1 "still_of" (FD_still_of K) ["cards"] false (liftF (R_still_of))) : Bd P w K mg base 4 "plain" (FD_plain K) ["cards"] false (liftF (R_plain)) := by
  obtain ⟨f_want_cards, fd_want_cards, F_want_cards, g_want_cards, G_want_cards⟩ := B_want_cards
  obtain ⟨f_still_of, fd_still_of, F_still_of, g_still_of, G_still_of⟩ := B_still_of
  refine ⟨f, fd, F, g_self, ?_⟩
  exact FnG.mono (j := 4) (fnF F sc_plain fun cdv A outer s H hg hr => ⟨_, (Vl.dss_cons  (Vl.ds_expr  (Vl.d_call (dis := []) (G_want_cards.mono (by decide)) hg hr rfl g_want_cards F_want_cards.kp (kb_want_cards_0 F_want_cards) (Vl.ds_cons  (Vl.d_var 0) Vl.ds_nil )) ) (Vl.ss_one (Vl.ds_ret  (Vl.d_call (dis := []) (G_still_of.mono (by decide)) hg hr rfl g_still_of F_still_of.kp (kb_still_of_0 F_still_of) (Vl.ds_cons  (Vl.d_var 0) Vl.ds_nil )) )) )⟩) (by decide)
/-! ### _law_right -/
abbrev st__law_right : Stmt := topS 81
abbrev FD__law_right (K : PySem.W.Frag) (f : Addr) (fd : FuncData) : Prop := FunD K "_law_right" "_law_right" (defArgs st__law_right) (defBody st__law_right) (defScope st__law_right) [] [] f fd
theorem sc__law_right : FnScope ["pot", "cards", "near", "far"] ["pot"] (defScope st__law_right) := ⟨rfl, rfl, rfl, by decide +kernel, rfl, by decide +kernel, by decide +kernel⟩
def WG__law_right (g_fw__law_draw : Fw) (g_R__law_pack_right : List D → Option D) (g_fw__law_pack : Fw) (g_fw__law_ends_right : Fw) (g_R_out_move : List D → Option D) (g_R_in_move : List D → Option D) (g_R_back : List D → Option D) (g_R_done : List D → Option D) (g_R_times_out : List D → Option D) (g_R_times_in : List D → Option D) (g_R_moved : List D → Option D) (g_R_plain : List D → Option D) : Wp Fl := (wSeq  (wForS (gmName 1) (wB1 itQ (wB1 mkL (wCons  (wB2 addD (lift (Op.ret (.int 1))) (wCall g_fw__law_draw 2 0 [0, 1] [] (lift (oCons  (oVar 0) (oCons  (Op.ret (.int 52)) (Op.ret [])))) (Wp.ret []))) (wCons  (wB2 addD (lift (Op.ret (.int 1))) (wCall g_fw__law_draw 2 0 [0, 1] [] (lift (oCons  (oVar 0) (oCons  (Op.ret (.int 9)) (Op.ret [])))) (Wp.ret []))) (lift (Op.ret [])))))) (wSeq  (wIf  (wOr  (wNot  (wB1 tru (wCall (liftF (g_R__law_pack_right)) 1 0 [0] [] (wCons  (wCall g_fw__law_pack 2 0 [0, 1] [] (lift (oCons  (oVar 0) (oCons  (oVar 1) (Op.ret [])))) (Wp.ret [])) (lift (Op.ret []))) (Wp.ret [])))) (wNot  (wB1 tru (wCall g_fw__law_ends_right 2 0 [0, 1] [] (lift (oCons  (oVar 0) (oCons  (oVar 1) (Op.ret [])))) (Wp.ret []))))) (lift (oRet  (Op.ret (.bool false)))) (lift (Op.ret .nx))) (lift (oSeq  (oPar [2, 3] [false, false] (oCons  (oCall (g_R_out_move) 1 0 [0] [] (oCons  (oVar 1) (Op.ret [])) (Op.ret [])) (oCons  (oCall (g_R_in_move) 1 0 [0] [] (oCons  (oVar 1) (Op.ret [])) (Op.ret [])) (Op.ret [])))) (oIf  (oOr  (oB2 neD (oCall (g_R_back) 1 0 [0] [] (oCons  (oVar 2) (Op.ret [])) (Op.ret [])) (oCall (g_R_done) 2 0 [0, 1] [] (oCons  (oVar 2) (oCons  (oB2 subD (oCall (g_R_times_out) 1 0 [0] [] (oCons  (oVar 1) (Op.ret [])) (Op.ret [])) (Op.ret (.int 1))) (Op.ret []))) (Op.ret []))) (oOr  (oB2 neD (oCall (g_R_back) 1 0 [0] [] (oCons  (oVar 3) (Op.ret [])) (Op.ret [])) (oCall (g_R_done) 2 0 [0, 1] [] (oCons  (oVar 3) (oCons  (oB2 subD (oCall (g_R_times_in) 1 0 [0] [] (oCons  (oVar 1) (Op.ret [])) (Op.ret [])) (Op.ret (.int 1))) (Op.ret []))) (Op.ret []))) (oB2 neD (oCall (g_R_moved) 2 0 [0, 1] [] (oCons  (oVar 2) (oCons  (oCall (g_R_back) 1 0 [0] [] (oCons  (oVar 2) (Op.ret [])) (Op.ret [])) (Op.ret []))) (Op.ret [])) (oCall (g_R_plain) 1 0 [0] [] (oCons  (oVar 1) (Op.ret [])) (Op.ret []))))) (oRet  (Op.ret (.bool false))) (Op.ret .nx)))))) (lift (oRet  (Op.ret (.bool true)))))
def W__law_right : Wp Fl := WG__law_right fw__law_draw R__law_pack_right fw__law_pack fw__law_ends_right R_out_move R_in_move R_back R_done R_times_out R_times_in R_moved R_plain
def fw__law_right : Fw := fun ds k => W__law_right (ini ["pot", "cards", "near", "far"] ds) (endK false k)
theorem kb__law_right_0 {f : Addr} {fd : FuncData} (F : FD__law_right K f fd) : KB K fd ["pot"] 1 [] (([] : List Int).map V.int) [0] := kb0 F 1 [] [0] fun _ _ _ _ _ _ us ws hu hw => match us, hu, ws, hw with | [_], _, [], _ => rfl
theorem ok__law_right (F : FD__law_right K f fd) (g_self : mg "_law_right" = some (.ref f)) (B__law_draw : Bd P w K mg base 1 "_law_draw" (FD__law_draw K) ["pot", "many"] false fw__law_draw) (B__law_pack_right : Bd P w K mg base 7 "_law_pack_right" (FD__law_pack_right K) ["pack"] false (liftF (R__law_pack_right))) (B__law_pack : Bd P w K mg base 3 "_law_pack" (FD__law_pack K) ["pot", "cards"] false fw__law_pack) (B__law_ends_right : Bd P w K mg base 6 "_law_ends_right" (FD__law_ends_right K) ["pot", "cards"] false fw__law_ends_right) (B_out_move : Bd P w K mg base 4 "out_move" (FD_out_move K) ["cards"] false (liftF (R_out_move))) (B_in_move : Bd P w K mg base 4 "in_move" (FD_in_move K) ["cards"] false (liftF (R_in_move))) (B_back : Bd P w K mg base 5 "back" (FD_back K) ["move"] false (liftF (R_back))) (B_done : Bd P w K mg base 5 "done" (FD_done K) ["move", "times"] false (liftF (R_done))) (B_times_out : Bd P w K mg base 4 "times_out" (FD_times_out K) ["cards"] false (liftF (R_times_out))) (B_times_in : Bd P w K mg base 4 "times_in" (FD_times_in K) ["cards"] false (liftF (R_times_in))) (B_moved : Bd P w K mg base 5 "moved" (FD_moved K) ["pack", "move"] false (liftF (R_moved))) (B_plain : Bd P w K mg base 4 "plain" (FD_plain K) ["cards"] false (liftF (R_plain))) : Bd P w K mg base 8 "_law_right" (FD__law_right K) ["pot"] false fw__law_right := by
  obtain ⟨f__law_draw, fd__law_draw, F__law_draw, g__law_draw, G__law_draw⟩ := B__law_draw
  obtain ⟨f__law_pack_right, fd__law_pack_right, F__law_pack_right, g__law_pack_right, G__law_pack_right⟩ := B__law_pack_right
  obtain ⟨f__law_pack, fd__law_pack, F__law_pack, g__law_pack, G__law_pack⟩ := B__law_pack
  obtain ⟨f__law_ends_right, fd__law_ends_right, F__law_ends_right, g__law_ends_right, G__law_ends_right⟩ := B__law_ends_right
  obtain ⟨f_out_move, fd_out_move, F_out_move, g_out_move, G_out_move⟩ := B_out_move
  obtain ⟨f_in_move, fd_in_move, F_in_move, g_in_move, G_in_move⟩ := B_in_move
  obtain ⟨f_back, fd_back, F_back, g_back, G_back⟩ := B_back
  obtain ⟨f_done, fd_done, F_done, g_done, G_done⟩ := B_done
  obtain ⟨f_times_out, fd_times_out, F_times_out, g_times_out, G_times_out⟩ := B_times_out
  obtain ⟨f_times_in, fd_times_in, F_times_in, g_times_in, G_times_in⟩ := B_times_in
  obtain ⟨f_moved, fd_moved, F_moved, g_moved, G_moved⟩ := B_moved
  obtain ⟨f_plain, fd_plain, F_plain, g_plain, G_plain⟩ := B_plain
  refine ⟨f, fd, F, g_self, ?_⟩
  exact FnG.mono (j := 8) (fnV F sc__law_right (fun cdv A outer s H hg hr => ⟨_, (Vl.ss_cons  (Vl.s_for (m := true) PassesOwn.never rfl (Vl.i_val  (Vl.e_frz (Vl.e_lst  (Vl.as_cons  (Vl.e_add  Vl.d_int (Vl.e_call (dis := []) (G__law_draw.mono (by decide)) hg hr rfl g__law_draw F__law_draw.kp (kb__law_draw_0 F__law_draw) (Vl.ds_cons  (Vl.d_var 0) (Vl.ds_cons  Vl.d_int Vl.ds_nil ) )) ) (Vl.as_cons  (Vl.e_add  Vl.d_int (Vl.e_call (dis := []) (G__law_draw.mono (by decide)) hg hr rfl g__law_draw F__law_draw.kp (kb__law_draw_0 F__law_draw) (Vl.ds_cons  (Vl.d_var 0) (Vl.ds_cons  Vl.d_int Vl.ds_nil ) )) ) Vl.ds_nil ) ) )) ) (Vl.tg_name (i := 1) sc__law_right.nd) (Vl.ss_cons  (Vl.s_if  (Vl.t_w (Vl.tw_or  (Vl.t_not  (Vl.t_val  (Vl.e_call (dis := []) (G__law_pack_right.mono (by decide)) hg hr rfl g__law_pack_right F__law_pack_right.kp (kb__law_pack_right_0 F__law_pack_right) (Vl.as_cons  (Vl.e_call (dis := []) (G__law_pack.mono (by decide)) hg hr rfl g__law_pack F__law_pack.kp (kb__law_pack_0 F__law_pack) (Vl.ds_cons  (Vl.d_var 0) (Vl.ds_cons  (Vl.d_var 1) Vl.ds_nil ) )) Vl.ds_nil )) ) ) (Vl.tw_or1 (Vl.t_not  (Vl.t_val  (Vl.e_call (dis := []) (G__law_ends_right.mono (by decide)) hg hr rfl g__law_ends_right F__law_ends_right.kp (kb__law_ends_right_0 F__law_ends_right) (Vl.ds_cons  (Vl.d_var 0) (Vl.ds_cons  (Vl.d_var 1) Vl.ds_nil ) )) ) )) )) (Vl.ss_one (Vl.ds_ret  Vl.d_bl )) Vl.dss_nil ) (Vl.dss_cons  (by first | exact (Vl.ds_par2 (i := 2) (j := 3) rfl sc__law_right.nd (Vl.dao_cons  (Vl.d_call (dis := []) (G_out_move.mono (by decide)) hg hr rfl g_out_move F_out_move.kp (kb_out_move_0 F_out_move) (Vl.ds_cons  (Vl.d_var 1) Vl.ds_nil )) (Vl.dao_cons  (Vl.d_call (dis := []) (G_in_move.mono (by decide)) hg hr rfl g_in_move F_in_move.kp (kb_in_move_0 F_in_move) (Vl.ds_cons  (Vl.d_var 1) Vl.ds_nil )) Vl.dao_nil ) )) | exact (Vl.ds_parG (js := [2, 3]) rfl (Vl.dao_cons  (Vl.d_call (dis := []) (G_out_move.mono (by decide)) hg hr rfl g_out_move F_out_move.kp (kb_out_move_0 F_out_move) (Vl.ds_cons  (Vl.d_var 1) Vl.ds_nil )) (Vl.dao_cons  (Vl.d_call (dis := []) (G_in_move.mono (by decide)) hg hr rfl g_in_move F_in_move.kp (kb_in_move_0 F_in_move) (Vl.ds_cons  (Vl.d_var 1) Vl.ds_nil )) Vl.dao_nil ) ) (Vl.nms_cons (i := 2) sc__law_right.nd (Vl.nms_cons (i := 3) sc__law_right.nd Vl.nms_nil)))) (Vl.ss_one (Vl.ds_if  (Vl.t_w (Vl.dtw_or  (Vl.dt_ne hr (Vl.b_of (Vl.d_call (dis := []) (G_back.mono (by decide)) hg hr rfl g_back F_back.kp (kb_back_0 F_back) (Vl.ds_cons  (Vl.d_var 2) Vl.ds_nil ))) (Vl.b_of (Vl.d_call (dis := []) (G_done.mono (by decide)) hg hr rfl g_done F_done.kp (kb_done_0 F_done) (Vl.ds_cons  (Vl.d_var 2) (Vl.ds_cons  (Vl.d_sub  (Vl.d_call (dis := []) (G_times_out.mono (by decide)) hg hr rfl g_times_out F_times_out.kp (kb_times_out_0 F_times_out) (Vl.ds_cons  (Vl.d_var 1) Vl.ds_nil )) Vl.d_int ) Vl.ds_nil ) ))) ) (Vl.dtw_or  (Vl.dt_ne hr (Vl.b_of (Vl.d_call (dis := []) (G_back.mono (by decide)) hg hr rfl g_back F_back.kp (kb_back_0 F_back) (Vl.ds_cons  (Vl.d_var 3) Vl.ds_nil ))) (Vl.b_of (Vl.d_call (dis := []) (G_done.mono (by decide)) hg hr rfl g_done F_done.kp (kb_done_0 F_done) (Vl.ds_cons  (Vl.d_var 3) (Vl.ds_cons  (Vl.d_sub  (Vl.d_call (dis := []) (G_times_in.mono (by decide)) hg hr rfl g_times_in F_times_in.kp (kb_times_in_0 F_times_in) (Vl.ds_cons  (Vl.d_var 1) Vl.ds_nil )) Vl.d_int ) Vl.ds_nil ) ))) ) (Vl.tw_or1 (Vl.dt_ne hr (Vl.b_of (Vl.d_call (dis := []) (G_moved.mono (by decide)) hg hr rfl g_moved F_moved.kp (kb_moved_0 F_moved) (Vl.ds_cons  (Vl.d_var 2) (Vl.ds_cons  (Vl.d_call (dis := []) (G_back.mono (by decide)) hg hr rfl g_back F_back.kp (kb_back_0 F_back) (Vl.ds_cons  (Vl.d_var 2) Vl.ds_nil )) Vl.ds_nil ) ))) (Vl.b_of (Vl.d_call (dis := []) (G_plain.mono (by decide)) hg hr rfl g_plain F_plain.kp (kb_plain_0 F_plain) (Vl.ds_cons  (Vl.d_var 1) Vl.ds_nil ))) )) ) )) (Vl.ss_one (Vl.ds_ret  Vl.d_bl )) Vl.dss_nil )) ) )) (Vl.ss_one (Vl.ds_ret  Vl.d_bl )) )⟩) fun ds k _ h => h) (by decide)
/-! ### _law_pot -/
abbrev st__law_pot : Stmt := topS 67
abbrev FD__law_pot (K : PySem.W.Frag) (f : Addr) (fd : FuncData) : Prop := FunD K "_law_pot" "_law_pot" (defArgs st__law_pot) (defBody st__law_pot) (defScope st__law_pot) [] [] f fd
theorem sc__law_pot : FnScope ["script", "k", "cell"] ["script", "k"] (defScope st__law_pot) := ⟨rfl, rfl, rfl, by decide +kernel, rfl, by decide +kernel, by decide +kernel⟩
def OG__law_pot : Op Fl := (oSeq  (oSet 2 false (oB2 addD (oB2 mulD (Op.ret (.int 3389)) (oVar 1)) (Op.ret (.int 12161)))) (oSeq  (oIf  (oB2 ltI (oVar 1) (oB1 scrLen (oVar 0))) (oSet 2 false (oB1 absF (oCons  (oB2 scrIx (oVar 0) (oVar 1)) (Op.ret [])))) (Op.ret .nx)) (oRet  (oB1 potF (oCons  (oB1 maxF (oCons  (Op.ret (.int 0)) (oCons  (oB2 subD (oVar 2) (oB2 powD (Op.ret (.int 10)) (Op.ret (.int 18)))) (Op.ret [])))) (oCons  (oB2 addD (oB2 modD (oB1 intF (oCons  (oB2 addD (oB2 addD (oB2 mulD (oB2 modD (oB1 intF (oCons  (oVar 2) (Op.ret []))) (Op.ret (.int 2147483549))) (Op.ret (.int 40014))) (oB2 mulD (Op.ret (.int 12161)) (oVar 1))) (Op.ret (.int 61))) (Op.ret []))) (Op.ret (.int 2147483563))) (Op.ret (.int 1))) (Op.ret [])))))))
def O__law_pot : Op Fl := OG__law_pot 
def R__law_pot : List D → Option D := runF ["script", "k", "cell"] false O__law_pot
theorem kb__law_pot_0 {f : Addr} {fd : FuncData} (F : FD__law_pot K f fd) : KB K fd ["script", "k"] 2 [] (([] : List Int).map V.int) [0, 1] := kb0 F 2 [] [0, 1] fun _ _ _ _ _ _ us ws hu hw => match us, hu, ws, hw with | [_, _], _, [], _ => rfl
theorem ok__law_pot (F : FD__law_pot K f fd) (g_self : mg "_law_pot" = some (.ref f)) (m_abs : mg "abs" = none) (m_int : mg "int" = none) (m_len : mg "len" = none) (m_max : mg "max" = none) : Bd P w K mg base 1 "_law_pot" (FD__law_pot K) ["script", "k"] false (liftF (R__law_pot)) := by
  refine ⟨f, fd, F, g_self, ?_⟩
  exact FnG.mono (j := 1) (fnF F sc__law_pot fun cdv A outer s H hg hr => ⟨_, (Vl.dss_cons  (Vl.ds_set (i := 2) sc__law_pot.nd (Vl.d_add  (Vl.d_mul  Vl.d_int (Vl.d_var 1) ) Vl.d_int ) ) (Vl.dss_cons  (Vl.ds_if  (Vl.dt_cmp op_lt ltS (Vl.d_var 1) (Vl.d_slen rfl m_len (Vl.d_var 0)) (nomark _)) (Vl.ss_one (Vl.ds_set (i := 2) sc__law_pot.nd (Vl.d_abs rfl m_abs (Vl.ds_cons  (Vl.d_six (Vl.d_var 0) (Vl.d_var 1)) Vl.ds_nil ) ) )) Vl.dss_nil ) (Vl.ss_one (Vl.ds_ret  (Vl.d_pot (Vl.ds_cons  (Vl.d_max2 rfl rfl m_max (Vl.ds_cons  Vl.d_int (Vl.ds_cons  (Vl.d_sub  (Vl.d_var 2) (Vl.d_pow  Vl.d_int Vl.d_int ) ) Vl.ds_nil ) ) ) (Vl.ds_cons  (Vl.d_add  (Vl.d_mod  (Vl.d_int1 rfl m_int (Vl.ds_cons  (Vl.d_add  (Vl.d_add  (Vl.d_mul  (Vl.d_mod  (Vl.d_int1 rfl m_int (Vl.ds_cons  (Vl.d_var 2) Vl.ds_nil ) ) Vl.d_int ) Vl.d_int ) (Vl.d_mul  Vl.d_int (Vl.d_var 1) ) ) Vl.d_int ) Vl.ds_nil ) ) Vl.d_int ) Vl.d_int ) Vl.ds_nil ) )) )) ) )⟩) (by decide)
/-! ### law -/
abbrev st_law : Stmt := topS 82
abbrev FD_law (K : PySem.W.Frag) (f : Addr) (fd : FuncData) : Prop := FunD K "law" "law" (defArgs st_law) (defBody st_law) (defScope st_law) [] [] f fd
theorem sc_law : FnScope ["script", "k"] ["script"] (defScope st_law) := ⟨rfl, rfl, rfl, by decide +kernel, rfl, by decide +kernel, by decide +kernel⟩
def WG_law (g_fw__law_right : Fw) (g_R__law_pot : List D → Option D) : Wp Fl := (wRet  (wQ1 allQ (wQ (wLc [1] (lift (oB1 rng1 (oCons  (oB1 maxF (oCons  (Op.ret (.int 1)) (oCons  (oB1 minF (oCons  (Op.ret (.int 3)) (oCons  (oB1 scrLen (oVar 0)) (Op.ret [])))) (Op.ret [])))) (Op.ret [])))) (gmName 1) (lift (Op.ret true)) (wCall g_fw__law_right 1 0 [0] [] (lift (oCons  (oCall (g_R__law_pot) 2 0 [0, 1] [] (oCons  (oVar 0) (oCons  (oVar 1) (Op.ret []))) (Op.ret [])) (Op.ret []))) (Wp.ret []))))))
def W_law : Wp Fl := WG_law fw__law_right R__law_pot
def fw_law : Fw := fun ds k => W_law (ini ["script", "k"] ds) (endK false k)
theorem ok_law (F : FD_law K f fd) (g_self : mg "law" = some (.ref f)) (B__law_right : Bd P w K mg base 8 "_law_right" (FD__law_right K) ["pot"] false fw__law_right) (B__law_pot : Bd P w K mg base 1 "_law_pot" (FD__law_pot K) ["script", "k"] false (liftF (R__law_pot))) (m_all : mg "all" = none) (m_len : mg "len" = none) (m_max : mg "max" = none) (m_min : mg "min" = none) (m_range : mg "range" = none) : Bd P w K mg base 9 "law" (FD_law K) ["script"] false fw_law := by
  obtain ⟨f__law_right, fd__law_right, F__law_right, g__law_right, G__law_right⟩ := B__law_right
  obtain ⟨f__law_pot, fd__law_pot, F__law_pot, g__law_pot, G__law_pot⟩ := B__law_pot
  refine ⟨f, fd, F, g_self, ?_⟩
  exact FnG.mono (j := 9) (fnV F sc_law (fun cdv A outer s H hg hr => ⟨_, (Vl.ss_one (Vl.s_ret  (Vl.e_all rfl rfl m_all (Vl.q_of (Vl.e_frz (Vl.e_lc (own := [("k", 1)]) rfl sc_law.nd (Vl.di_rng1 rfl m_range (Vl.ds_cons  (Vl.d_max2 rfl rfl m_max (Vl.ds_cons  Vl.d_int (Vl.ds_cons  (Vl.d_min2 rfl rfl m_min (Vl.ds_cons  Vl.d_int (Vl.ds_cons  (Vl.d_slen rfl m_len (Vl.d_var 0)) Vl.ds_nil ) ) ) Vl.ds_nil ) ) ) Vl.ds_nil ) ) (blkOk_by (N := ["script", "k"]) (sc := defScope st_law) (by decide +kernel)) (fun _ _ _ _ _ => by exact (Vl.c_name (i := 1) sc_law.nd)) (fun _ _ _ _ _ => by exact Vl.dtm_nil) (fun _ _ _ _ _ => by exact (Vl.e_call (dis := []) (G__law_right.mono (by decide)) hg hr rfl g__law_right F__law_right.kp (kb__law_right_0 F__law_right) (Vl.ds_cons  (Vl.d_call (dis := []) (G__law_pot.mono (by decide)) hg hr rfl g__law_pot F__law_pot.kp (kb__law_pot_0 F__law_pot) (Vl.ds_cons  (Vl.d_var 0) (Vl.ds_cons  (Vl.d_var 1) Vl.ds_nil ) )) Vl.ds_nil )))))) ) ))⟩) fun ds k _ h => h) (by decide)
end
end Wk
namespace Wk
open PySem PySem.Spec PyProof.Rows L2 Vl
/-! ## tables, by evaluation -/
def intsOf : Option D → List Int
  | some (.tuple ds) => ds.filterMap fun d => match d with | .int i => some i | _ => none
  | _ => []
def isTp (o : Option D) (p : List Int) : Bool := match o with
  | some (.tuple ds) => match intA ds with
    | some ns => decide (ns = p)
    | none => false
  | _ => false
theorem isTp_eq {o : Option D} {p : List Int} (h : isTp o p = true) : o = some (tp p) := by
  unfold isTp at h
  split at h
  · split at h
    · rename_i ns hn
      have e := intA_map hn
      rw [e, of_decide_eq_true h]
    · cases h
  · cases h
def outT (c : Int) : List Int := intsOf (R_out_of [.int c])
def inT (c : Int) : List Int := intsOf (R_in_of [.int c])
def boT (c : Int) : List Int := intsOf (R_back_of [tp (outT c)])
def biT (c : Int) : List Int := intsOf (R_back_of [tp (inT c)])
def cmp (T S : List Int) : List Int := T.map (at0 S)
def okTab (c : Int) (T : List Int) : Bool := decide (T.length = c.toNat) && T.all (fun i => decide (0 ≤ i ∧ i < c)) && decide T.Nodup
def chk1 (c : Int) : Bool := isTp (R_out_of [.int c]) (outT c) && isTp (R_in_of [.int c]) (inT c) && okTab c (outT c) && okTab c (inT c)
def chk2 (c : Int) : Bool := isTp (R_back_of [tp (outT c)]) (boT c) && isTp (R_back_of [tp (inT c)]) (biT c) && okTab c (boT c) && okTab c (biT c)
def evT (n : Nat) : List Int := pkT (rg n) none none 2
def odT (n : Nat) : List Int := pkT (rg n) (some 1) none 2
def layN {α : Type} : Nat → Bool → List α → List α → List α
  | n + 1, true, x :: xs, ys => x :: layN n false xs ys
  | n + 1, false, xs, y :: ys => y :: layN n true xs ys
  | _, _, _, _ => []
def rvT (n : Nat) : List Int := pkT (rg n) none none (-1)
/-- what the tables say of each other -/
def chk3 (c : Int) : Bool :=
  decide (layN c.toNat true ((rg c.toNat).take (c.toNat - c.toNat / 2)) ((rg c.toNat).drop (c.toNat - c.toNat / 2)) = outT c) &&
  decide (layN c.toNat true ((rg c.toNat).drop (c.toNat / 2)) ((rg c.toNat).take (c.toNat / 2)) = inT c) &&
  decide (boT c = evT c.toNat ++ odT c.toNat) && decide (biT c = odT c.toNat ++ evT c.toNat) &&
  decide (cmp (boT c) (outT c) = rg c.toNat) && decide (cmp (biT c) (inT c) = rg c.toNat)
/-- the piles: at 0, 1, each turned -/
def plT (n : Nat) (a : Int) : List Int := pkT (pkT (rg n) (some a) none 2) none none (-1)
def ctT (n : Nat) (m : Nat) : List Int := (rg n).drop (m % n) ++ (rg n).take (m % n)
def chk4 (c : Int) : Bool := okTab c (rvT c.toNat) && okTab c (plT c.toNat 0 ++ plT c.toNat 1) && okTab c (plT c.toNat 1 ++ plT c.toNat 0) && decide (cmp (rvT c.toNat) (plT c.toNat 1 ++ plT c.toNat 0) = boT c) && decide (cmp (rvT c.toNat) (plT c.toNat 0 ++ plT c.toNat 1) = biT c)
def chk5 (c : Int) : Bool := decide (cmp (outT c) (boT c) = rg c.toNat) && decide (cmp (inT c) (biT c) = rg c.toNat) && decide (cmp (outT c) (ctT c.toNat (c.toNat / 2)) = inT c) && decide (cmp (ctT c.toNat (c.toNat - c.toNat / 2)) (boT c) = biT c)
def chk6 (c : Int) : Bool := decide ((pkT (rg c.toNat) (some 0) none 2).length ≤ 52) && decide ((pkT (rg c.toNat) (some 1) none 2).length ≤ 52) && decide ((plT c.toNat 0).length ≤ 52) && decide ((plT c.toNat 1).length ≤ 52) && decide ((evT c.toNat).length ≤ 52) && decide ((odT c.toNat).length ≤ 52)
def isI (o : Option D) (i : Int) : Bool := match o with
  | some (.int j) => decide (j = i)
  | _ => false
theorem isI_eq {o : Option D} {i : Int} (h : isI o i = true) : o = some (.int i) := by
  unfold isI at h
  split at h
  · rw [of_decide_eq_true h]
  · cases h
def intOf (o : Option D) : Int := match o with
  | some (.int j) => j
  | _ => 0
def toT (c : Int) : Int := intOf (R_times_out [.int c])
def tiT (c : Int) : Int := intOf (R_times_in [.int c])
def isB (o : Option D) (b : Bool) : Bool := match o with
  | some (.bool x) => x == b
  | _ => false
theorem isB_eq {o : Option D} {b : Bool} (h : isB o b = true) : o = some (.bool b) := by
  unfold isB at h
  split at h
  · rw [eq_of_beq h]
  · cases h
def chk7 (c : Int) : Bool := isI (R_times_out [.int c]) (toT c) && isTp (R_done [tp (outT c), .int (toT c - 1)]) (boT c)
def chk8 (c : Int) : Bool := isI (R_times_in [.int c]) (tiT c) && isTp (R_done [tp (inT c), .int (tiT c - 1)]) (biT c)
def lotT (c : Int) : List Int := (rg c.toNat).map (· + 1)
def chk9 (c : Int) : Bool := decide (c % 2 = 1) || decide (50 < c) || (decide (outT (c + 2) = 0 :: ((inT c).map (· + 1) ++ [c + 1])) && isI (R_times_out [.int (c + 2)]) (tiT c) && isB (R_is_lot_of [tp (lotT c), .int (c + 2)]) true)
def sg (a : Int) (n : Nat) : List Int := (List.range n).map fun (i : Nat) => a + (i : Int)
theorem sg_eq : (rg 53).drop 1 = sg 1 22 ++ (sg 23 12 ++ (sg 35 9 ++ (sg 44 5 ++ sg 49 4))) := by decide +kernel
theorem sg_all {P : Int → Bool} (h1 : (sg 1 22).all P = true) (h2 : (sg 23 12).all P = true) (h3 : (sg 35 9).all P = true) (h4 : (sg 44 5).all P = true) (h5 : (sg 49 4).all P = true) : ((rg 53).drop 1).all P = true := by
  rw [sg_eq]
  simp only [List.all_append, h1, h2, h3, h4, h5, Bool.and_self]
theorem chk1_ok0 : (sg 1 22).all chk1 = true := by decide +kernel
theorem chk1_ok1 : (sg 23 12).all chk1 = true := by decide +kernel
theorem chk1_ok2 : (sg 35 9).all chk1 = true := by decide +kernel
theorem chk1_ok3 : (sg 44 5).all chk1 = true := by decide +kernel
theorem chk1_ok4 : (sg 49 4).all chk1 = true := by decide +kernel
theorem chk1_ok : ((rg 53).drop 1).all chk1 = true := sg_all chk1_ok0 chk1_ok1 chk1_ok2 chk1_ok3 chk1_ok4
theorem chk2_ok0 : (sg 1 22).all chk2 = true := by decide +kernel
theorem chk2_ok1 : (sg 23 12).all chk2 = true := by decide +kernel
theorem chk2_ok2 : (sg 35 9).all chk2 = true := by decide +kernel
theorem chk2_ok3 : (sg 44 5).all chk2 = true := by decide +kernel
theorem chk2_ok4 : (sg 49 4).all chk2 = true := by decide +kernel
theorem chk2_ok : ((rg 53).drop 1).all chk2 = true := sg_all chk2_ok0 chk2_ok1 chk2_ok2 chk2_ok3 chk2_ok4
theorem chk3_ok0 : (sg 1 22).all chk3 = true := by decide +kernel
theorem chk3_ok1 : (sg 23 12).all chk3 = true := by decide +kernel
theorem chk3_ok2 : (sg 35 9).all chk3 = true := by decide +kernel
theorem chk3_ok3 : (sg 44 5).all chk3 = true := by decide +kernel
theorem chk3_ok4 : (sg 49 4).all chk3 = true := by decide +kernel
theorem chk3_ok : ((rg 53).drop 1).all chk3 = true := sg_all chk3_ok0 chk3_ok1 chk3_ok2 chk3_ok3 chk3_ok4
theorem chk4_ok0 : (sg 1 22).all chk4 = true := by decide +kernel
theorem chk4_ok1 : (sg 23 12).all chk4 = true := by decide +kernel
theorem chk4_ok2 : (sg 35 9).all chk4 = true := by decide +kernel
theorem chk4_ok3 : (sg 44 5).all chk4 = true := by decide +kernel
theorem chk4_ok4 : (sg 49 4).all chk4 = true := by decide +kernel
theorem chk4_ok : ((rg 53).drop 1).all chk4 = true := sg_all chk4_ok0 chk4_ok1 chk4_ok2 chk4_ok3 chk4_ok4
theorem chk5_ok0 : (sg 1 22).all chk5 = true := by decide +kernel
theorem chk5_ok1 : (sg 23 12).all chk5 = true := by decide +kernel
theorem chk5_ok2 : (sg 35 9).all chk5 = true := by decide +kernel
theorem chk5_ok3 : (sg 44 5).all chk5 = true := by decide +kernel
theorem chk5_ok4 : (sg 49 4).all chk5 = true := by decide +kernel
theorem chk5_ok : ((rg 53).drop 1).all chk5 = true := sg_all chk5_ok0 chk5_ok1 chk5_ok2 chk5_ok3 chk5_ok4
theorem chk6_ok0 : (sg 1 22).all chk6 = true := by decide +kernel
theorem chk6_ok1 : (sg 23 12).all chk6 = true := by decide +kernel
theorem chk6_ok2 : (sg 35 9).all chk6 = true := by decide +kernel
theorem chk6_ok3 : (sg 44 5).all chk6 = true := by decide +kernel
theorem chk6_ok4 : (sg 49 4).all chk6 = true := by decide +kernel
theorem chk6_ok : ((rg 53).drop 1).all chk6 = true := sg_all chk6_ok0 chk6_ok1 chk6_ok2 chk6_ok3 chk6_ok4
theorem chk7_ok0 : (sg 1 22).all chk7 = true := by decide +kernel
theorem chk7_ok1 : (sg 23 12).all chk7 = true := by decide +kernel
theorem chk7_ok2 : (sg 35 9).all chk7 = true := by decide +kernel
theorem chk7_ok3 : (sg 44 5).all chk7 = true := by decide +kernel
theorem chk7_ok4 : (sg 49 4).all chk7 = true := by decide +kernel
theorem chk7_ok : ((rg 53).drop 1).all chk7 = true := sg_all chk7_ok0 chk7_ok1 chk7_ok2 chk7_ok3 chk7_ok4
theorem chk8_ok0 : (sg 1 22).all chk8 = true := by decide +kernel
theorem chk8_ok1 : (sg 23 12).all chk8 = true := by decide +kernel
theorem chk8_ok2 : (sg 35 9).all chk8 = true := by decide +kernel
theorem chk8_ok3 : (sg 44 5).all chk8 = true := by decide +kernel
theorem chk8_ok4 : (sg 49 4).all chk8 = true := by decide +kernel
theorem chk8_ok : ((rg 53).drop 1).all chk8 = true := sg_all chk8_ok0 chk8_ok1 chk8_ok2 chk8_ok3 chk8_ok4
theorem chk9_ok0 : (sg 1 22).all chk9 = true := by decide +kernel
theorem chk9_ok1 : (sg 23 12).all chk9 = true := by decide +kernel
theorem chk9_ok2 : (sg 35 9).all chk9 = true := by decide +kernel
theorem chk9_ok3 : (sg 44 5).all chk9 = true := by decide +kernel
theorem chk9_ok4 : (sg 49 4).all chk9 = true := by decide +kernel
theorem chk9_ok : ((rg 53).drop 1).all chk9 = true := sg_all chk9_ok0 chk9_ok1 chk9_ok2 chk9_ok3 chk9_ok4
end Wk
namespace Wk
open PySem PySem.Spec PyProof.Rows L2 Vl
/-! ## packs -/
structure Pk (c : Nat) (p : List Int) : Prop where
  len : p.length = c
  nd : p.Nodup
  bd : ∀ i ∈ p, 0 ≤ i ∧ i < c
theorem pk_of {c : Nat} {T : List Int} (h : okTab c T = true) : Pk c T := by
  simp only [okTab, Bool.and_eq_true, decide_eq_true_eq, List.all_eq_true] at h
  exact ⟨by rw [h.1.1]; omega, h.2, h.1.2⟩
theorem pk_perm {c : Nat} {p : List Int} (hp : p.Perm (rg c)) : Pk c p := by
  obtain ⟨h1, h2, h3⟩ := pack_facts hp
  exact ⟨h1, h2, fun i hi => h1 ▸ h3 i hi⟩
theorem cmp_len (T S : List Int) : (cmp T S).length = T.length := List.length_map ..
theorem Pk.comp {c : Nat} {T q : List Int} (hT : Pk c T) (hq : Pk c q) : Pk c (cmp T q) := by
  refine ⟨by rw [cmp_len, hT.len], ?_, fun i hi => ?_⟩
  · rw [List.Nodup, Wk.cmp, List.pairwise_map]
    refine List.Pairwise.imp_of_mem (fun {a b} ha hb hne => ?_) hT.nd
    intro e
    have h1 := hT.bd a ha
    have h2 := hT.bd b hb
    rw [← hq.len] at h1 h2
    exact hne (at0_inj hq.nd h1 h2 e)
  · obtain ⟨k, hk, rfl⟩ := List.mem_map.mp hi
    exact hq.bd _ (at0_mem (by rw [hq.len]; exact hT.bd k hk))
theorem cmp_cmp {c : Nat} {T S q : List Int} (h : ∀ i ∈ T, 0 ≤ i ∧ i < S.length) : cmp T (cmp S q) = cmp (cmp T S) q := by
  unfold cmp
  rw [List.map_map]
  exact List.map_congr_left fun i hi => at0_map (h i hi)
theorem Pk.cc {c : Nat} {T S q : List Int} (hT : Pk c T) (hS : Pk c S) : cmp T (cmp S q) = cmp (cmp T S) q := cmp_cmp (c := c) fun i hi => by rw [hS.len]; exact hT.bd i hi
theorem Pk.idl {c : Nat} {q : List Int} (hq : Pk c q) : cmp (rg c) q = q := by
  have := map_at0 q
  rw [hq.len] at this
  exact this
/-! ## what the defs compute -/
theorem is_integer_int (a : Int) : R_is_integer [.int a] = some (.bool true) := by
  simp [getF, Vl.getO, ini, pick, runF, Vl.endK, tru, isiD, tyD, subT, leI, ltI, gtI, geI, cmpD, frzAt, slotOf, seqOf, lenQ, addD, subD, modD, mulD, ixD, setsE, mkL, mkT, lstRg, int1, rng1, slQ, intO, catQ, appG, popAtG, listQ, tupQ, allQ, itQ, gmName, wipeE, R_is_integer, O_is_integer, OG_is_integer]
theorem is_within_int (a b c : Int) : R_is_within [.int a, .int b, .int c] = some (.bool (decide (b ≤ a ∧ a ≤ c))) := by
  simp [getF, Vl.getO, ini, pick, runF, Vl.endK, tru, isiD, tyD, subT, leI, ltI, gtI, geI, cmpD, frzAt, slotOf, seqOf, lenQ, addD, subD, modD, mulD, ixD, setsE, mkL, mkT, lstRg, int1, rng1, slQ, intO, catQ, appG, popAtG, listQ, tupQ, allQ, itQ, gmName, wipeE, R_is_within, O_is_within, OG_is_within, is_integer_int]
  by_cases h : b ≤ a <;> simp [getF, Vl.getO, ini, pick, runF, Vl.endK, tru, isiD, tyD, subT, leI, ltI, gtI, geI, cmpD, frzAt, slotOf, seqOf, lenQ, addD, subD, modD, mulD, ixD, setsE, mkL, mkT, lstRg, int1, rng1, slQ, intO, catQ, appG, popAtG, listQ, tupQ, allQ, itQ, gmName, wipeE, h]
theorem want_cards_ok {c : Int} (h : 1 ≤ c ∧ c ≤ 52) : R_want_cards [.int c] = some .none := by
  simp [getF, Vl.getO, ini, pick, runF, Vl.endK, tru, isiD, tyD, subT, leI, ltI, gtI, geI, cmpD, frzAt, slotOf, seqOf, lenQ, addD, subD, modD, mulD, ixD, setsE, mkL, mkT, lstRg, int1, rng1, slQ, intO, catQ, appG, popAtG, listQ, tupQ, allQ, itQ, gmName, wipeE, R_want_cards, O_want_cards, OG_want_cards, is_within_int, h]
theorem is_pack_ok {p : List Int} (hl : 1 ≤ p.length ∧ p.length ≤ 52) (hn : p.Nodup) (hb : ∀ i ∈ p, 0 ≤ i ∧ i < p.length) : R_is_pack_value [tp p] = some (.bool true) := by
  have h1 : (1 : Int) ≤ (p.length : Int) := by omega
  have h2 : (p.length : Int) ≤ 52 := by omega
  have run : oRun (oEl (gmName 1) (Op.ret true) (oCall R_is_within 3 0 [0, 1, 2] [] (oCons (oVar 1) (oCons (Op.ret (.int 0)) (oCons (oB2 subD (oQ1 lenQ (oQ (oVar 0))) (Op.ret (.int 1))) (Op.ret [])))) (Op.ret []))
      [.fz (tp p), .un]) (p.map .int) = some (p.map fun _ => .bool true) := by
    refine oRun_ints fun n hn => ?_
    have := hb n hn
    have h3 : n ≤ (p.length : Int) - 1 := by omega
    simp [getF, Vl.getO, ini, pick, runF, Vl.endK, tru, isiD, tyD, subT, leI, ltI, gtI, geI, cmpD, frzAt, slotOf, seqOf, lenQ, addD, subD, modD, mulD, ixD, setsE, mkL, mkT, lstRg, int1, rng1, slQ, intO, catQ, appG, popAtG, listQ, tupQ, allQ, itQ, gmName, wipeE, oEl, gmName, wipeE, is_within_int, this.1, h3]
  have tru' : truA (p.map fun _ => PyData.bool true) = some (p.map fun _ => true) := by
    rw [← truA_of, List.map_map]; rfl
  simp [getF, Vl.getO, ini, pick, runF, Vl.endK, tru, isiD, tyD, subT, leI, ltI, gtI, geI, cmpD, frzAt, slotOf, seqOf, lenQ, addD, subD, modD, mulD, ixD, setsE, mkL, mkT, lstRg, int1, rng1, slQ, intO, catQ, appG, popAtG, listQ, tupQ, allQ, itQ, gmName, wipeE, R_is_pack_value, O_is_pack_value, OG_is_pack_value, h1, h2, oLc, itQ, run, tru', lim, lenSetA, intA_of, distinct_nodup hn, eqD_int, show p.length ≤ 10000000 by omega, show p.length ≤ 4000 by omega]
section
variable {c : Nat} {p q : List Int}
theorem Pk.isp (hc : 1 ≤ c ∧ c ≤ 52) (h : Pk c p) : R_is_pack_value [tp p] = some (.bool true) := is_pack_ok (by rw [h.len]; exact hc) h.nd (by rw [h.len]; exact h.bd)
theorem want_pack_ok (hc : 1 ≤ c ∧ c ≤ 52) (h : Pk c p) : R_want_pack [tp p] = some .none := by
  simp [getF, Vl.getO, ini, pick, runF, Vl.endK, tru, isiD, tyD, subT, leI, ltI, gtI, geI, cmpD, frzAt, slotOf, seqOf, lenQ, addD, subD, modD, mulD, ixD, setsE, mkL, mkT, lstRg, int1, rng1, slQ, intO, catQ, appG, popAtG, listQ, tupQ, allQ, itQ, gmName, wipeE, R_want_pack, O_want_pack, OG_want_pack, h.isp hc]
theorem want_move_ok (hc : 1 ≤ c ∧ c ≤ 52) (h : Pk c p) : R_want_move [tp p] = some .none := by
  simp [getF, Vl.getO, ini, pick, runF, Vl.endK, tru, isiD, tyD, subT, leI, ltI, gtI, geI, cmpD, frzAt, slotOf, seqOf, lenQ, addD, subD, modD, mulD, ixD, setsE, mkL, mkT, lstRg, int1, rng1, slQ, intO, catQ, appG, popAtG, listQ, tupQ, allQ, itQ, gmName, wipeE, R_want_move, O_want_move, OG_want_move, h.isp hc]
theorem moved_of_ok (hc : 1 ≤ c ∧ c ≤ 52) (h : Pk c p) (hq : Pk c q) : R_moved_of [tp p, tp q] = some (tp (cmp q p)) := by
  have run : oRun (oEl (gmName 2) (Op.ret true) (oIx (oQ (oVar 0)) (oVar 2)) [.fz (tp p), .fz (tp q), .un]) (q.map .int) = some (q.map fun i => .int (at0 p i)) := by
    refine oRun_ints fun n hn => ?_
    have := hq.bd n hn
    rw [← h.len] at this
    simp [getF, Vl.getO, ini, pick, runF, Vl.endK, tru, isiD, tyD, subT, leI, ltI, gtI, geI, cmpD, frzAt, slotOf, seqOf, lenQ, addD, subD, modD, mulD, ixD, setsE, mkL, mkT, lstRg, int1, rng1, slQ, intO, catQ, appG, popAtG, listQ, tupQ, allQ, itQ, gmName, wipeE, atI_ints this]
  have := hq.len
  simp [getF, Vl.getO, ini, pick, runF, Vl.endK, tru, isiD, tyD, subT, leI, ltI, gtI, geI, cmpD, frzAt, slotOf, seqOf, lenQ, addD, subD, modD, mulD, ixD, setsE, mkL, mkT, lstRg, int1, rng1, slQ, intO, catQ, appG, popAtG, listQ, tupQ, allQ, itQ, gmName, wipeE, R_moved_of, O_moved_of, OG_moved_of, run, lim, cmp, show q.length ≤ 10000000 by omega]
theorem moved_ok (hc : 1 ≤ c ∧ c ≤ 52) (h : Pk c p) (hq : Pk c q) : R_moved [tp p, tp q] = some (tp (cmp q p)) := by
  have e1 := h.len
  have e2 := hq.len
  simp [getF, Vl.getO, ini, pick, runF, Vl.endK, tru, isiD, tyD, subT, leI, ltI, gtI, geI, cmpD, frzAt, slotOf, seqOf, lenQ, addD, subD, modD, mulD, ixD, setsE, mkL, mkT, lstRg, int1, rng1, slQ, intO, catQ, appG, popAtG, listQ, tupQ, allQ, itQ, gmName, wipeE, R_moved, O_moved, OG_moved, R_want_as_many, O_want_as_many, OG_want_as_many, want_pack_ok hc h, want_move_ok hc hq, moved_of_ok hc h hq, neD_int, e1, e2]
end
/-! tables -/
theorem all52 {P : Int → Bool} (h : ((rg 53).drop 1).all P = true) {c : Nat} (hc : 1 ≤ c ∧ c ≤ 52) : P c = true := all_from1 (n := 52) h (by omega)
section
variable {c : Nat} (hc : 1 ≤ c ∧ c ≤ 52)
include hc
theorem t1 : (R_out_of [.int c] = some (tp (outT c)) ∧ R_in_of [.int c] = some (tp (inT c))) ∧ Pk c (outT c) ∧ Pk c (inT c) := by
  have h := all52 chk1_ok hc
  simp only [chk1, Bool.and_eq_true] at h
  exact ⟨⟨isTp_eq h.1.1.1, isTp_eq h.1.1.2⟩, pk_of h.1.2, pk_of h.2⟩
theorem t2 : (R_back_of [tp (outT c)] = some (tp (boT c)) ∧ R_back_of [tp (inT c)] = some (tp (biT c))) ∧ Pk c (boT c) ∧ Pk c (biT c) := by
  have h := all52 chk2_ok hc
  simp only [chk2, Bool.and_eq_true] at h
  exact ⟨⟨isTp_eq h.1.1.1, isTp_eq h.1.1.2⟩, pk_of h.1.2, pk_of h.2⟩
theorem t3 : boT c = evT c ++ odT c ∧ biT c = odT c ++ evT c ∧ cmp (boT c) (outT c) = rg c ∧ cmp (biT c) (inT c) = rg c := by
  have h := all52 chk3_ok hc
  simp only [chk3, Bool.and_eq_true, decide_eq_true_eq, Int.toNat_natCast] at h
  exact ⟨h.1.1.1.2, h.1.1.2, h.1.2, h.2⟩
theorem t4 : Pk c (rvT c) ∧ Pk c (plT c 0 ++ plT c 1) ∧ Pk c (plT c 1 ++ plT c 0) ∧ cmp (rvT c) (plT c 1 ++ plT c 0) = boT c ∧ cmp (rvT c) (plT c 0 ++ plT c 1) = biT c := by
  have h := all52 chk4_ok hc
  simp only [chk4, Bool.and_eq_true, decide_eq_true_eq, Int.toNat_natCast] at h
  exact ⟨pk_of h.1.1.1.1, pk_of h.1.1.1.2, pk_of h.1.1.2, h.1.2, h.2⟩
theorem t5 : cmp (outT c) (boT c) = rg c ∧ cmp (inT c) (biT c) = rg c ∧ cmp (outT c) (ctT c (c / 2)) = inT c ∧ cmp (ctT c (c - c / 2)) (boT c) = biT c := by
  have h := all52 chk5_ok hc
  simp only [chk5, Bool.and_eq_true, decide_eq_true_eq, Int.toNat_natCast] at h
  exact ⟨h.1.1.1, h.1.1.2, h.1.2, h.2⟩
theorem t6 : ((pkT (rg c) (some 0) none 2).length ≤ 52 ∧ (pkT (rg c) (some 1) none 2).length ≤ 52) ∧ ((plT c 0).length ≤ 52 ∧ (plT c 1).length ≤ 52) ∧ (evT c).length ≤ 52 ∧ (odT c).length ≤ 52 := by
  have h := all52 chk6_ok hc
  simp only [chk6, Bool.and_eq_true, decide_eq_true_eq, Int.toNat_natCast] at h
  exact ⟨⟨h.1.1.1.1.1, h.1.1.1.1.2⟩, ⟨h.1.1.1.2, h.1.1.2⟩, h.1.2, h.2⟩
theorem out_move_ok : R_out_move [.int c] = some (tp (outT c)) := by
  simp [getF, Vl.getO, ini, pick, runF, Vl.endK, tru, isiD, tyD, subT, leI, ltI, gtI, geI, cmpD, frzAt, slotOf, seqOf, lenQ, addD, subD, modD, mulD, ixD, setsE, mkL, mkT, lstRg, int1, rng1, slQ, intO, catQ, appG, popAtG, listQ, tupQ, allQ, itQ, gmName, wipeE, R_out_move, O_out_move, OG_out_move, want_cards_ok (c := c) (by omega), (t1 hc).1.1]
theorem in_move_ok : R_in_move [.int c] = some (tp (inT c)) := by
  simp [getF, Vl.getO, ini, pick, runF, Vl.endK, tru, isiD, tyD, subT, leI, ltI, gtI, geI, cmpD, frzAt, slotOf, seqOf, lenQ, addD, subD, modD, mulD, ixD, setsE, mkL, mkT, lstRg, int1, rng1, slQ, intO, catQ, appG, popAtG, listQ, tupQ, allQ, itQ, gmName, wipeE, R_in_move, O_in_move, OG_in_move, want_cards_ok (c := c) (by omega), (t1 hc).1.2]
omit hc in
theorem back_gen {gW gB : List D → Option D} {T B : List Int} (w : gW [tp T] = some .none) (b : gB [tp T] = some (tp B)) : runF ["move"] false (OG_back gW gB) [tp T] = some (tp B) := by
  simp [getF, Vl.getO, ini, pick, runF, Vl.endK, tru, isiD, tyD, subT, leI, ltI, gtI, geI, cmpD, frzAt, slotOf, seqOf, lenQ, addD, subD, modD, mulD, ixD, setsE, mkL, mkT, lstRg, int1, rng1, slQ, intO, catQ, appG, popAtG, listQ, tupQ, allQ, itQ, gmName, wipeE, OG_back, w, b]
theorem back_in_ok : R_back [tp (inT c)] = some (tp (biT c)) := back_gen (want_move_ok hc (t1 hc).2.2) (t2 hc).1.2
variable {q : List Int} (hq : Pk c q)
include hq
theorem out_shuffled_ok : R_out_shuffled [tp q] = some (tp (cmp (outT c) q)) := by
  simp [getF, Vl.getO, ini, pick, runF, Vl.endK, tru, isiD, tyD, subT, leI, ltI, gtI, geI, cmpD, frzAt, slotOf, seqOf, lenQ, addD, subD, modD, mulD, ixD, setsE, mkL, mkT, lstRg, int1, rng1, slQ, intO, catQ, appG, popAtG, listQ, tupQ, allQ, itQ, gmName, wipeE, R_out_shuffled, O_out_shuffled, OG_out_shuffled, want_pack_ok hc hq, hq.len, (t1 hc).1.1, moved_of_ok hc hq (t1 hc).2.1]
theorem in_shuffled_ok : R_in_shuffled [tp q] = some (tp (cmp (inT c) q)) := by
  simp [getF, Vl.getO, ini, pick, runF, Vl.endK, tru, isiD, tyD, subT, leI, ltI, gtI, geI, cmpD, frzAt, slotOf, seqOf, lenQ, addD, subD, modD, mulD, ixD, setsE, mkL, mkT, lstRg, int1, rng1, slQ, intO, catQ, appG, popAtG, listQ, tupQ, allQ, itQ, gmName, wipeE, R_in_shuffled, O_in_shuffled, OG_in_shuffled, want_pack_ok hc hq, hq.len, (t1 hc).1.2, moved_of_ok hc hq (t1 hc).2.2]
omit hc hq in
theorem undone_gen {gW gM gB gO : List D → Option D} {q T B : List Int} (w : gW [tp q] = some .none) (l : q.length = c) (o : gO [.int c] = some (tp T)) (b : gB [tp T] = some (tp B)) (m : gM [tp q, tp B] = some (tp (cmp B q))) : runF ["pack"] false (OG_out_undone gW gM gB gO) [tp q] = some (tp (cmp B q)) := by
  simp [getF, Vl.getO, ini, pick, runF, Vl.endK, tru, isiD, tyD, subT, leI, ltI, gtI, geI, cmpD, frzAt, slotOf, seqOf, lenQ, addD, subD, modD, mulD, ixD, setsE, mkL, mkT, lstRg, int1, rng1, slQ, intO, catQ, appG, popAtG, listQ, tupQ, allQ, itQ, gmName, wipeE, OG_out_undone, w, l, o, b, m]
omit hc hq in
theorem undone_gen2 {gW gM gB gO : List D → Option D} {q T B : List Int} (w : gW [tp q] = some .none) (l : q.length = c) (o : gO [.int c] = some (tp T)) (b : gB [tp T] = some (tp B)) (m : gM [tp q, tp B] = some (tp (cmp B q))) : runF ["pack"] false (OG_in_undone gW gM gB gO) [tp q] = some (tp (cmp B q)) := by
  simp [getF, Vl.getO, ini, pick, runF, Vl.endK, tru, isiD, tyD, subT, leI, ltI, gtI, geI, cmpD, frzAt, slotOf, seqOf, lenQ, addD, subD, modD, mulD, ixD, setsE, mkL, mkT, lstRg, int1, rng1, slQ, intO, catQ, appG, popAtG, listQ, tupQ, allQ, itQ, gmName, wipeE, OG_in_undone, w, l, o, b, m]
theorem out_undone_ok : R_out_undone [tp q] = some (tp (cmp (boT c) q)) := undone_gen (want_pack_ok hc hq) hq.len (t1 hc).1.1 (t2 hc).1.1 (moved_of_ok hc hq (t2 hc).2.1)
theorem in_undone_ok : R_in_undone [tp q] = some (tp (cmp (biT c) q)) := undone_gen2 (want_pack_ok hc hq) hq.len (t1 hc).1.2 (t2 hc).1.2 (moved_of_ok hc hq (t2 hc).2.2)
omit hc hq
/-! ### slices with steps -/
theorem pkAt_map {α β : Type} (f : α → β) (xs : List α) (is : List Nat) : pkAt (xs.map f) is = (pkAt xs is).map f := by
  unfold pkAt
  rw [List.map_filterMap]
  congr 1
  funext i
  rw [List.getElem?_map]
theorem pkT_map {α β : Type} (f : α → β) (xs : List α) (lo hi : Option Int) (st : Int) : pkT (xs.map f) lo hi st = (pkT xs lo hi st).map f := by
  unfold pkT
  rw [List.length_map, pkAt_map]
theorem Pk.slT {q : List Int} (hq : Pk c q) (lo hi : Option Int) (st : Int) : Vl.pkT q lo hi st = cmp (Vl.pkT (Vl.rg c) lo hi st) q := by
  conv => lhs; rw [← hq.idl]
  unfold cmp
  rw [pkT_map]
theorem pkT_D (q : List Int) (lo hi : Option Int) (st : Int) : pkT (q.map PyData.int) lo hi st = (pkT q lo hi st).map .int := pkT_map _ _ _ _ _
include hc hq
theorem turned_ok : R_turned [tp q] = some (tp (cmp (rvT c) q)) := by
  have l : (rvT c).length ≤ 10000000 := by have := (t4 hc).1.len; omega
  have l' : (pkT (rg c) none none (-1)).length ≤ 10000000 := l
  simp [getF, Vl.getO, ini, pick, runF, Vl.endK, tru, isiD, tyD, subT, leI, ltI, gtI, geI, cmpD, frzAt, slotOf, seqOf, lenQ, addD, subD, modD, mulD, ixD, setsE, mkL, mkT, lstRg, int1, rng1, slQ, intO, catQ, appG, popAtG, listQ, tupQ, allQ, itQ, gmName, wipeE, R_turned, O_turned, OG_turned, want_pack_ok hc hq, negD, stQ, pkT_D, hq.slT, cmp, rvT, lim, l']
end
end Wk
namespace Wk
open PySem PySem.Spec PyProof.Rows L2 Vl
def isNo (o : Option D) : Bool := match o with
  | some .none => true
  | _ => false
theorem isNo_eq {o : Option D} (h : isNo o = true) : o = some .none := by
  unfold isNo at h
  split at h
  · rfl
  · cases h
def seqA : D := .list [.int 1, .int 0]
def seqB : D := .list [.int 0, .int 1]
theorem seq_ok : isNo (R_want_sequence [.int 2, seqA]) = true ∧ isNo (R_want_sequence [.int 2, seqB]) = true ∧ isNo (R_want_heaps [.int 2]) = true := by decide +kernel
section
variable {c : Nat} (hc : 1 ≤ c ∧ c ≤ 52) {q : List Int} (hq : Pk c q)
include hc
include hq
theorem dealt_of_ok : R_dealt_of [tp q, .int 2] = some (.list [tp (cmp (plT c 0) q), tp (cmp (plT c 1) q)]) := by
  have t := t6 hc
  have s : ∀ a : Int, (pkT (rg c) (some a) none 2).length ≤ 52 → (plT c a).length ≤ 52 → oEl (gmName 2) (Op.ret true) (oSt false (oQ (oSt false (oQ (oVar 0)) (oB1 intO (oVar 2)) (Op.ret none) (oB1 intO (oVar 1)))) (Op.ret none) (Op.ret none) (oB1 intO (oB1 negD (Op.ret (.int 1))))) [.fz (tp q), .fz (.int 2), .un] (.int a) = some (some (tp (cmp (plT c a) q))) := fun a h1 h2 => by
    have e : pkT (pkT q (some a) none 2) none none (-1) = (plT c a).map (at0 q) := by
      rw [hq.slT, cmp, pkT_map]; rfl
    have e1 : (pkT q (some a) none 2).length ≤ 52 := by rw [hq.slT, cmp_len]; exact h1
    simp [getF, Vl.getO, ini, pick, runF, Vl.endK, tru, isiD, tyD, subT, leI, ltI, gtI, geI, cmpD, frzAt, slotOf, seqOf, lenQ, addD, subD, modD, mulD, ixD, setsE, mkL, mkT, lstRg, int1, rng1, slQ, intO, catQ, appG, popAtG, listQ, tupQ, allQ, itQ, gmName, wipeE, negD, stQ, pkT_D, lim, e, cmp, show (pkT q (some a) none 2).length ≤ 10000000 by omega, show (plT c a).length ≤ 10000000 by omega]
  have s0 := s 0 t.1.1 t.2.1.1
  have s1 := s 1 t.1.2 t.2.1.2
  have run : oRun (oEl (gmName 2) (Op.ret true) (oSt false (oQ (oSt false (oQ (oVar 0)) (oB1 intO (oVar 2)) (Op.ret none) (oB1 intO (oVar 1)))) (Op.ret none) (Op.ret none) (oB1 intO (oB1 negD (Op.ret (.int 1))))) [.fz (tp q), .fz (.int 2), .un]) (rngL 0 2) = some [tp (cmp (plT c 0) q), tp (cmp (plT c 1) q)] := by
    have e : rngL 0 2 = [.int 0, .int 1] := rfl
    rw [e]
    show (oEl _ _ _ _ _).bind _ = _
    rw [s0]
    show ((oEl _ _ _ _ _).bind _).map _ = _
    rw [s1]
    rfl
  generalize hB : oEl (gmName 2) (Op.ret true) (oSt false (oQ (oSt false (oQ (oVar 0)) (oB1 intO (oVar 2)) (Op.ret none) (oB1 intO (oVar 1)))) (Op.ret none) (Op.ret none) (oB1 intO (oB1 negD (Op.ret (.int 1))))) [.fz (tp q), .fz (.int 2), .un] = B at run
  simp [getF, Vl.getO, ini, pick, runF, Vl.endK, tru, isiD, tyD, subT, leI, ltI, gtI, geI, cmpD, frzAt, slotOf, seqOf, lenQ, addD, subD, modD, mulD, ixD, setsE, mkL, mkT, lstRg, int1, rng1, slQ, intO, catQ, appG, popAtG, listQ, tupQ, allQ, itQ, gmName, wipeE, R_dealt_of, O_dealt_of, OG_dealt_of, hB, run, lim, show (rngL 0 2).length = 2 from rfl]
omit hc hq in
theorem gathered_ok (a b : List Int) (h : a.length + b.length ≤ 1000) : R_gathered_of [.list [tp a, tp b], seqA] = some (tp (b ++ a)) ∧ R_gathered_of [.list [tp a, tp b], seqB] = some (tp (a ++ b)) := by
  constructor
  · simp [getF, Vl.getO, ini, pick, runF, Vl.endK, tru, isiD, tyD, subT, leI, ltI, gtI, geI, cmpD, frzAt, slotOf, seqOf, lenQ, addD, subD, modD, mulD, ixD, setsE, mkL, mkT, lstRg, int1, rng1, slQ, intO, catQ, appG, popAtG, listQ, tupQ, allQ, itQ, gmName, wipeE, R_gathered_of, O_gathered_of, OG_gathered_of, seqA, for_cons, atI, ixN, lim, show b.length ≤ 10000000 by omega, show b.length + a.length ≤ 10000000 by omega]
  · simp [getF, Vl.getO, ini, pick, runF, Vl.endK, tru, isiD, tyD, subT, leI, ltI, gtI, geI, cmpD, frzAt, slotOf, seqOf, lenQ, addD, subD, modD, mulD, ixD, setsE, mkL, mkT, lstRg, int1, rng1, slQ, intO, catQ, appG, popAtG, listQ, tupQ, allQ, itQ, gmName, wipeE, R_gathered_of, O_gathered_of, OG_gathered_of, seqB, for_cons, atI, ixN, lim, show a.length ≤ 10000000 by omega, show a.length + b.length ≤ 10000000 by omega]
omit hq in
theorem piles_gen {gL gP : List D → Option D} {a b : List Int} (la : a.length ≤ 52) (lb : b.length ≤ 52) (l : gL [.list [tp a, tp b]] = some (.bool true)) (p : gP [tp (a ++ b)] = some (.bool true)) : runF ["value", "every", "one"] false (OG_are_piles_value gL gP) [.list [tp a, tp b]] = some (.bool true) := by
  simp only [tp, List.map_append] at p
  simp [getF, Vl.getO, ini, pick, runF, Vl.endK, tru, isiD, tyD, subT, leI, ltI, gtI, geI, cmpD, frzAt, slotOf, seqOf, lenQ, addD, subD, modD, mulD, ixD, setsE, mkL, mkT, lstRg, int1, rng1, slQ, intO, catQ, appG, popAtG, listQ, tupQ, allQ, itQ, gmName, wipeE, OG_are_piles_value, l, p, for_cons, oLc, oRun, oEl, truA, extG, lim, show a.length ≤ 10000000 by omega, show a.length + b.length ≤ 10000000 by omega, show b.length ≤ 10000000 by omega]
theorem dealt_gen {gW gH gD : List D → Option D} {ps : List D} (w : gW [tp q] = some .none) (h : gH [.int 2] = some .none) (d : gD [tp q, .int 2] = some (.list ps)) : runF ["pack", "many"] false (OG_dealt gW gH gD) [tp q, .int 2] = some (.list ps) := by
  simp [getF, Vl.getO, ini, pick, runF, Vl.endK, tru, isiD, tyD, subT, leI, ltI, gtI, geI, cmpD, frzAt, slotOf, seqOf, lenQ, addD, subD, modD, mulD, ixD, setsE, mkL, mkT, lstRg, int1, rng1, slQ, intO, catQ, appG, popAtG, listQ, tupQ, allQ, itQ, gmName, wipeE, OG_dealt, w, h, d]
theorem dealt_ok : R_dealt [tp q, .int 2] = some (.list [tp (cmp (plT c 0) q), tp (cmp (plT c 1) q)]) := dealt_gen hc hq (want_pack_ok hc hq) (isNo_eq seq_ok.2.2) (dealt_of_ok hc hq)
omit hc hq in
theorem gath_gen {gP gS gG : List D → Option D} {s r : D} {a b : List Int} (w : gP [.list [tp a, tp b]] = some .none) (hs : gS [.int 2, s] = some .none) (g : gG [.list [tp a, tp b], s] = some r) : runF ["piles", "sequence"] false (OG_gathered gP gS gG) [.list [tp a, tp b], s] = some r := by
  simp [getF, Vl.getO, ini, pick, runF, Vl.endK, tru, isiD, tyD, subT, leI, ltI, gtI, geI, cmpD, frzAt, slotOf, seqOf, lenQ, addD, subD, modD, mulD, ixD, setsE, mkL, mkT, lstRg, int1, rng1, slQ, intO, catQ, appG, popAtG, listQ, tupQ, allQ, itQ, gmName, wipeE, OG_gathered, w, hs, g, lim]
omit hc hq in
theorem wp_gen {gA : List D → Option D} {d : D} (a : gA [d] = some (.bool true)) : runF ["piles"] false (OG_want_piles gA) [d] = some .none := by
  simp [getF, Vl.getO, ini, pick, runF, Vl.endK, tru, isiD, tyD, subT, leI, ltI, gtI, geI, cmpD, frzAt, slotOf, seqOf, lenQ, addD, subD, modD, mulD, ixD, setsE, mkL, mkT, lstRg, int1, rng1, slQ, intO, catQ, appG, popAtG, listQ, tupQ, allQ, itQ, gmName, wipeE, OG_want_piles, a]
theorem want_piles_ok : R_want_piles [.list [tp (cmp (plT c 0) q), tp (cmp (plT c 1) q)]] = some .none := by
  have t := t6 hc
  have p := ((t4 hc).2.1.comp hq).isp hc
  rw [show cmp (plT c 0 ++ plT c 1) q = cmp (plT c 0) q ++ cmp (plT c 1) q from List.map_append] at p
  exact wp_gen (piles_gen hc (by rw [cmp_len]; omega) (by rw [cmp_len]; omega) (by simp [getF, Vl.getO, ini, pick, runF, Vl.endK, tru, isiD, tyD, subT, leI, ltI, gtI, geI, cmpD, frzAt, slotOf, seqOf, lenQ, addD, subD, modD, mulD, ixD, setsE, mkL, mkT, lstRg, int1, rng1, slQ, intO, catQ, appG, popAtG, listQ, tupQ, allQ, itQ, gmName, wipeE, R_is_list, O_is_list, OG_is_list]) p)
theorem gathA_ok : R_gathered [.list [tp (cmp (plT c 0) q), tp (cmp (plT c 1) q)], seqA] = some (tp (cmp (plT c 1 ++ plT c 0) q)) := by
  have t := t6 hc
  rw [show cmp (plT c 1 ++ plT c 0) q = cmp (plT c 1) q ++ cmp (plT c 0) q from List.map_append]
  exact gath_gen (want_piles_ok hc hq) (isNo_eq seq_ok.1) (gathered_ok _ _ (by rw [cmp_len, cmp_len]; omega)).1
theorem gathB_ok : R_gathered [.list [tp (cmp (plT c 0) q), tp (cmp (plT c 1) q)], seqB] = some (tp (cmp (plT c 0 ++ plT c 1) q)) := by
  have t := t6 hc
  rw [show cmp (plT c 0 ++ plT c 1) q = cmp (plT c 0) q ++ cmp (plT c 1) q from List.map_append]
  exact gath_gen (want_piles_ok hc hq) (isNo_eq seq_ok.2.1) (gathered_ok _ _ (by rw [cmp_len, cmp_len]; omega)).2
theorem cut_ok {m : Nat} (hm : m ≤ 52) : R_cut [tp q, .int m] = some (tp (cmp (ctT c m) q)) := by
  have e1 := hq.len
  have c0 : 0 < (c : Int) := by omega
  have hlt := Nat.mod_lt m (show 0 < c by omega)
  have c1 : Vl.cut (q.map PyData.int) (some ((m : Int) % (c : Int))) none = (q.drop (m % c)).map .int := by
    rw [← cut_map, cut_from (by omega)]
    congr 2
  have c2 : Vl.cut (q.map PyData.int) none (some ((m : Int) % (c : Int))) = (q.take (m % c)).map .int := by
    rw [← cut_map, cut_to (by omega)]
    congr 2
  have w : R_want_many [.int m] = some .none := by
    simp [getF, Vl.getO, ini, pick, runF, Vl.endK, tru, isiD, tyD, subT, leI, ltI, gtI, geI, cmpD, frzAt, slotOf, seqOf, lenQ, addD, subD, modD, mulD, ixD, setsE, mkL, mkT, lstRg, int1, rng1, slQ, intO, catQ, appG, popAtG, listQ, tupQ, allQ, itQ, gmName, wipeE, R_want_many, O_want_many, OG_want_many, is_within_int, show (m : Int) ≤ 52 by omega]
  have e : cmp (ctT c m) q = q.drop (m % c) ++ q.take (m % c) := by
    have i := hq.idl
    unfold cmp at i ⊢
    rw [ctT, List.map_append, List.map_drop, List.map_take, i]
  rw [e]
  simp [getF, Vl.getO, ini, pick, runF, Vl.endK, tru, isiD, tyD, subT, leI, ltI, gtI, geI, cmpD, frzAt, slotOf, seqOf, lenQ, addD, subD, modD, mulD, ixD, setsE, mkL, mkT, lstRg, int1, rng1, slQ, intO, catQ, appG, popAtG, listQ, tupQ, allQ, itQ, gmName, wipeE, -List.map_append, ← List.map_append, -List.map_take, -List.map_drop, R_cut, O_cut, OG_cut, want_pack_ok hc hq, w, e1, c0, show 0 < c by omega, c1, c2, lim, show c - m % c ≤ 10000000 by omega, show min (m % c) c ≤ 10000000 by omega, show c - m % c + min (m % c) c ≤ 10000000 by omega]
end
/-! ### texts of lists of packs -/
theorem log_small {i : Int} (h : 0 ≤ i ∧ i < 64) : i.natAbs.log2 < 1920 := by
  by_cases h0 : i.natAbs = 0
  · rw [h0]; decide
  · refine (Nat.log2_lt h0).mpr (Nat.lt_of_lt_of_le (m := 2 ^ 6) (by omega) (Nat.pow_le_pow_right (by decide) (by decide)))
theorem rokA_ints {p : List Int} (h : ∀ i ∈ p, 0 ≤ i ∧ i < 64) : rokA (p.map .int) = true := by
  induction p with
  | nil => rfl
  | cons a p ih =>
    rw [List.map_cons, rokA, Bool.and_eq_true]
    exact ⟨decide_eq_true (log_small (h a List.mem_cons_self)), ih fun i hi => h i (List.mem_cons_of_mem _ hi)⟩
theorem rwtA_ints (p : List Int) : rwtA (p.map .int) = 1923 * p.length := by
  induction p with
  | nil => rfl
  | cons a p ih =>
    show rwt (.int a) + 2 + rwtA (p.map .int) = _
    rw [ih, List.length_cons]
    show 1921 + 2 + _ = _
    omega
theorem rsh2 {c : Nat} (hc : c ≤ 52) {a b : List Int} (ha : Pk c a) (hb : Pk c b) : rsh (.list [tp a, tp b]) = true := by
  have r : ∀ {p}, Pk c p → rokA (p.map .int) = true := fun h => rokA_ints fun i hi => by have := h.bd i hi; omega
  have l1 := ha.len; have l2 := hb.len
  have d1 := depth_ints a; have d2 := depth_ints b
  simp [getF, Vl.getO, ini, pick, runF, Vl.endK, tru, isiD, tyD, subT, leI, ltI, gtI, geI, cmpD, frzAt, slotOf, seqOf, lenQ, addD, subD, modD, mulD, ixD, setsE, mkL, mkT, lstRg, int1, rng1, slQ, intO, catQ, appG, popAtG, listQ, tupQ, allQ, itQ, gmName, wipeE, rsh, isSq, rok, rokA, r ha, r hb, rwt, rwtA, rwtA_ints, lim, PyData.depth, PyData.depthAll]
  omega
theorem rsh1 {c : Nat} (hc : c ≤ 52) {p : List Int} (h : Pk c p) : rsh (tp p) = true := by
  have r : rokA (p.map .int) = true := rokA_ints fun i hi => by have := h.bd i hi; omega
  have l1 := h.len
  have d1 := depth_ints p
  simp [getF, Vl.getO, ini, pick, runF, Vl.endK, tru, isiD, tyD, subT, leI, ltI, gtI, geI, cmpD, frzAt, slotOf, seqOf, lenQ, addD, subD, modD, mulD, ixD, setsE, mkL, mkT, lstRg, int1, rng1, slQ, intO, catQ, appG, popAtG, listQ, tupQ, allQ, itQ, gmName, wipeE, rsh, isSq, rok, r, rwt, rwtA_ints, lim, PyData.depth]
  omega
end Wk
namespace Wk
open PySem PySem.Spec PyProof.Rows L2 Vl
theorem pack_right_gen {gOU gIU gOS gIS gDl gTu gGa gCu : List D → Option D} {c : Nat} (hc : 1 ≤ c ∧ c ≤ 52) {p A B G1 G2 F Hh E O : List Int} (hp : p.length = c)
    (ou : gOU [tp p] = some (tp (E ++ O))) (iu : gIU [tp p] = some (tp (O ++ E))) (osN : gOS [tp (E ++ O)] = some (tp p)) (isF : gIS [tp (O ++ E)] = some (tp p))
    (dl : gDl [tp p, .int 2] = some (.list [tp A, tp B])) (ga : gGa [.list [tp A, tp B], seqA] = some (tp G1)) (gb : gGa [.list [tp A, tp B], seqB] = some (tp G2)) (tu1 : gTu [tp G1] = some (tp (E ++ O))) (tu2 : gTu [tp G2] = some (tp (O ++ E)))
    (is : gIS [tp p] = some (tp F)) (cu1 : gCu [tp p, .int ((c / 2 : Nat) : Int)] = some (tp Hh)) (os2 : gOS [tp Hh] = some (tp F)) (cu2 : gCu [tp (E ++ O), .int ((c - c / 2 : Nat) : Int)] = some (tp (O ++ E)))
    (ev : pkT p none none 2 = E) (od : pkT p (some 1) none 2 = O) (lE : E.length ≤ 100) (lO : O.length ≤ 100)
    (r2 : rsh (.list [tp (E ++ O), tp (O ++ E)]) = true) (r3 : rsh (tp p) = true) :
    runF ["pack", "cards", "shown", "near", "far", "due", "piles", "half"] false (OG__law_pack_right gOU gIU gOS gIS gDl gTu gGa gCu) [tp p] = some (.bool true) := by
  obtain ⟨s1, s2⟩ := repr_ok r3
  have q2 := neR_same r2
  have e1 : pkT (p.map PyData.int) none none 2 = E.map .int := by rw [pkT_D, ev]
  have e2 : pkT (p.map PyData.int) (some 1) none 2 = O.map .int := by rw [pkT_D, od]
  have lim1 : E.length ≤ 10000000 := by omega
  have lim2 : O.length ≤ 10000000 := by omega
  have lim3 : E.length + O.length ≤ 10000000 := by omega
  have lim4 : O.length + E.length ≤ 10000000 := by omega
  have l3 : (2 : Nat).log2 < 9000 := by decide
  have h1 : (c : Int) / 2 = ((c / 2 : Nat) : Int) := by omega
  have h2 : (c : Int) - ((c / 2 : Nat) : Int) = ((c - c / 2 : Nat) : Int) := by omega
  simp only [seqA, seqB] at ga gb
  simp only [runF, OG__law_pack_right]
  rw [oSeq_nx (e1 := [.fz (tp p), .fz (.int c), .fz (.str (tp p).shown), .un, .un, .un, .un, .un]) (by simp [getF, Vl.getO, ini, pick, runF, Vl.endK, tru, isiD, tyD, subT, leI, ltI, gtI, geI, cmpD, frzAt, slotOf, seqOf, lenQ, addD, subD, modD, mulD, ixD, setsE, mkL, mkT, lstRg, int1, rng1, slQ, intO, catQ, appG, popAtG, listQ, tupQ, allQ, itQ, gmName, wipeE, s1, hp])]
  rw [oSeq_nx (e1 := [.fz (tp p), .fz (.int c), .fz (.str (tp p).shown), .fz (tp (E ++ O)), .fz (tp (O ++ E)), .un, .un, .un]) (by simp [getF, Vl.getO, ini, pick, runF, Vl.endK, tru, isiD, tyD, subT, leI, ltI, gtI, geI, cmpD, frzAt, slotOf, seqOf, lenQ, addD, subD, modD, mulD, ixD, setsE, mkL, mkT, lstRg, int1, rng1, slQ, intO, catQ, appG, popAtG, listQ, tupQ, allQ, itQ, gmName, wipeE, -List.map_append, ou, iu])]
  rw [oSeq_nx (e1 := [.fz (tp p), .fz (.int c), .fz (.str (tp p).shown), .fz (tp (E ++ O)), .fz (tp (O ++ E)), .fz (.list [tp (E ++ O), tp (O ++ E)]), .un, .un]) (by simp [getF, Vl.getO, ini, pick, runF, Vl.endK, tru, isiD, tyD, subT, leI, ltI, gtI, geI, cmpD, frzAt, slotOf, seqOf, lenQ, addD, subD, modD, mulD, ixD, setsE, mkL, mkT, lstRg, int1, rng1, slQ, intO, catQ, appG, popAtG, listQ, tupQ, allQ, itQ, gmName, wipeE, -List.map_append, ← List.map_append, stQ, e1, e2, lim, lim1, lim2, lim3, lim4])]
  rw [oSeq_nx (e1 := [.fz (tp p), .fz (.int c), .fz (.str (tp p).shown), .fz (tp (E ++ O)), .fz (tp (O ++ E)), .fz (.list [tp (E ++ O), tp (O ++ E)]), .un, .un]) (by simp [getF, Vl.getO, ini, pick, runF, Vl.endK, tru, isiD, tyD, subT, leI, ltI, gtI, geI, cmpD, frzAt, slotOf, seqOf, lenQ, addD, subD, modD, mulD, ixD, setsE, mkL, mkT, lstRg, int1, rng1, slQ, intO, catQ, appG, popAtG, listQ, tupQ, allQ, itQ, gmName, wipeE, -List.map_append, ou, iu, q2, lim])]
  rw [oSeq_nx (e1 := [.fz (tp p), .fz (.int c), .fz (.str (tp p).shown), .fz (tp (E ++ O)), .fz (tp (O ++ E)), .fz (.list [tp (E ++ O), tp (O ++ E)]), .un, .un]) (by simp [getF, Vl.getO, ini, pick, runF, Vl.endK, tru, isiD, tyD, subT, leI, ltI, gtI, geI, cmpD, frzAt, slotOf, seqOf, lenQ, addD, subD, modD, mulD, ixD, setsE, mkL, mkT, lstRg, int1, rng1, slQ, intO, catQ, appG, popAtG, listQ, tupQ, allQ, itQ, gmName, wipeE, -List.map_append, osN, isF, neD_tp])]
  rw [oSeq_nx (e1 := [.fz (tp p), .fz (.int c), .fz (.str (tp p).shown), .fz (tp (E ++ O)), .fz (tp (O ++ E)), .fz (.list [tp (E ++ O), tp (O ++ E)]), .fz (.list [tp A, tp B]), .un]) (by simp [getF, Vl.getO, ini, pick, runF, Vl.endK, tru, isiD, tyD, subT, leI, ltI, gtI, geI, cmpD, frzAt, slotOf, seqOf, lenQ, addD, subD, modD, mulD, ixD, setsE, mkL, mkT, lstRg, int1, rng1, slQ, intO, catQ, appG, popAtG, listQ, tupQ, allQ, itQ, gmName, wipeE, -List.map_append, dl])]
  rw [oSeq_nx (e1 := [.fz (tp p), .fz (.int c), .fz (.str (tp p).shown), .fz (tp (E ++ O)), .fz (tp (O ++ E)), .fz (.list [tp (E ++ O), tp (O ++ E)]), .fz (.list [tp A, tp B]), .un]) (by simp [getF, Vl.getO, ini, pick, runF, Vl.endK, tru, isiD, tyD, subT, leI, ltI, gtI, geI, cmpD, frzAt, slotOf, seqOf, lenQ, addD, subD, modD, mulD, ixD, setsE, mkL, mkT, lstRg, int1, rng1, slQ, intO, catQ, appG, popAtG, listQ, tupQ, allQ, itQ, gmName, wipeE, -List.map_append, ga, gb, tu1, tu2, neD_tp, lim])]
  rw [oSeq_nx (e1 := [.fz (tp p), .fz (.int c), .fz (.str (tp p).shown), .fz (tp (E ++ O)), .fz (tp (O ++ E)), .fz (.list [tp (E ++ O), tp (O ++ E)]), .fz (.list [tp A, tp B]), .fz (.int ((c / 2 : Nat) : Int))]) (by simp [getF, Vl.getO, ini, pick, runF, Vl.endK, tru, isiD, tyD, subT, leI, ltI, gtI, geI, cmpD, frzAt, slotOf, seqOf, lenQ, addD, subD, modD, mulD, ixD, setsE, mkL, mkT, lstRg, int1, rng1, slQ, intO, catQ, appG, popAtG, listQ, tupQ, allQ, itQ, gmName, wipeE, -List.map_append, fdivD, l3])]
  rw [oSeq_nx (e1 := [.fz (tp p), .fz (.int c), .fz (.str (tp p).shown), .fz (tp (E ++ O)), .fz (tp (O ++ E)), .fz (.list [tp (E ++ O), tp (O ++ E)]), .fz (.list [tp A, tp B]), .fz (.int ((c / 2 : Nat) : Int))]) (by
    simp only [← h2] at cu2
    simp [getF, Vl.getO, ini, pick, runF, Vl.endK, tru, isiD, tyD, subT, leI, ltI, gtI, geI, cmpD, frzAt, slotOf, seqOf, lenQ, addD, subD, modD, mulD, ixD, setsE, mkL, mkT, lstRg, int1, rng1, slQ, intO, catQ, appG, popAtG, listQ, tupQ, allQ, itQ, gmName, wipeE, -List.map_append, -Int.natCast_ediv, is, cu1, os2, cu2, neD_tp])]
  simp [getF, Vl.getO, ini, pick, runF, Vl.endK, tru, isiD, tyD, subT, leI, ltI, gtI, geI, cmpD, frzAt, slotOf, seqOf, lenQ, addD, subD, modD, mulD, ixD, setsE, mkL, mkT, lstRg, int1, rng1, slQ, intO, catQ, appG, popAtG, listQ, tupQ, allQ, itQ, gmName, wipeE, s1, eqD_str s2]
theorem pack_right_ok {c : Nat} (hc : 1 ≤ c ∧ c ≤ 52) {p : List Int} (hp : Pk c p) : R__law_pack_right [tp p] = some (.bool true) := by
  have a1 := t1 hc
  have a2 := t2 hc
  have a3 := t3 hc
  have a4 := t4 hc
  have a5 := t5 hc
  have a6 := t6 hc
  have pE := a2.2.1
  have pO := a2.2.2
  rw [a3.1] at pE
  rw [a3.2.1] at pO
  have hB := pE.comp hp
  have hC := pO.comp hp
  have eB : cmp (evT c ++ odT c) p = cmp (evT c) p ++ cmp (odT c) p := List.map_append
  have eC : cmp (odT c ++ evT c) p = cmp (odT c) p ++ cmp (evT c) p := List.map_append
  have bB : cmp (boT c) p = cmp (evT c) p ++ cmp (odT c) p := by rw [a3.1, eB]
  have bC : cmp (biT c) p = cmp (odT c) p ++ cmp (evT c) p := by rw [a3.2.1, eC]
  have ou := out_undone_ok hc hp
  have iu := in_undone_ok hc hp
  have osN := out_shuffled_ok hc (a2.2.1.comp hp)
  have isF := in_shuffled_ok hc (a2.2.2.comp hp)
  rw [a1.2.1.cc a2.2.1, a5.1, hp.idl] at osN
  rw [a1.2.2.cc a2.2.2, a5.2.1, hp.idl] at isF
  have tu1 := turned_ok hc (a4.2.2.1.comp hp)
  have tu2 := turned_ok hc (a4.2.1.comp hp)
  rw [a4.1.cc a4.2.2.1, a4.2.2.2.1, bB] at tu1
  rw [a4.1.cc a4.2.1, a4.2.2.2.2, bC] at tu2
  have pc : ∀ m, Pk c (ctT c m) := fun m => by
    have e : (ctT c m).Perm (rg c) := by
      unfold ctT
      exact (List.perm_append_comm).trans (by rw [List.take_append_drop])
    exact pk_perm e
  have os2 := out_shuffled_ok hc ((pc (c / 2)).comp hp)
  rw [a1.2.1.cc (pc _), a5.2.2.1] at os2
  have cu2 := cut_ok hc (a2.2.1.comp hp) (m := c - c / 2) (by omega)
  rw [(pc _).cc a2.2.1, a5.2.2.2] at cu2
  rw [bB] at ou osN cu2
  rw [bC] at iu isF cu2
  rw [eB] at hB
  rw [eC] at hC
  exact pack_right_gen hc (E := cmp (evT c) p) (O := cmp (odT c) p) hp.len ou iu osN isF (dealt_ok hc hp) (gathA_ok hc hp) (gathB_ok hc hp) tu1 tu2 (in_shuffled_ok hc hp) (cut_ok hc hp (by omega)) os2 cu2 (hp.slT none none 2) (hp.slT (some 1) none 2) (by rw [cmp_len]; omega) (by rw [cmp_len]; omega) (rsh2 hc.2 hB hC) (rsh1 hc.2 hp)
end Wk
namespace Wk
open PySem PySem.Spec PyProof.Rows L2 Vl
/-! ## a wider pack -/
def upL (p : List Int) : List Int := p.map (· + 1)
def wid (c : Nat) (p : List Int) : List Int := 0 :: (upL p ++ [(c : Int) + 1])
theorem upL_len (p : List Int) : (upL p).length = p.length := List.length_map ..
theorem wid_pk {c : Nat} {p : List Int} (hp : Pk c p) : Pk (c + 2) (wid c p) := by
  have hm : ∀ i ∈ upL p, 1 ≤ i ∧ i ≤ c := fun i hi => by
    obtain ⟨k, hk, rfl⟩ := List.mem_map.mp hi
    have := hp.bd k hk
    omega
  refine ⟨by simp [getF, Vl.getO, ini, pick, runF, Vl.endK, tru, isiD, tyD, subT, leI, ltI, gtI, geI, cmpD, frzAt, slotOf, seqOf, lenQ, addD, subD, modD, mulD, ixD, setsE, mkL, mkT, lstRg, int1, rng1, slQ, intO, catQ, appG, popAtG, listQ, tupQ, allQ, itQ, gmName, wipeE, wid, upL_len, hp.len], ?_, fun i hi => ?_⟩
  · unfold wid
    rw [List.nodup_cons, List.nodup_append]
    refine ⟨fun h => ?_, ?_, List.nodup_cons.mpr ⟨by simp [getF, Vl.getO, ini, pick, runF, Vl.endK, tru, isiD, tyD, subT, leI, ltI, gtI, geI, cmpD, frzAt, slotOf, seqOf, lenQ, addD, subD, modD, mulD, ixD, setsE, mkL, mkT, lstRg, int1, rng1, slQ, intO, catQ, appG, popAtG, listQ, tupQ, allQ, itQ, gmName, wipeE], List.nodup_nil⟩, fun a ha b hb e => ?_⟩
    · rcases List.mem_append.mp h with h | h
      · have := hm 0 h; omega
      · have := List.mem_singleton.mp h; omega
    · exact List.Pairwise.map _ (fun a b h => by omega) hp.nd
    · have := hm a ha
      have := List.mem_singleton.mp hb
      omega
  · unfold wid at hi
    rcases List.mem_cons.mp hi with h | h
    · omega
    · rcases List.mem_append.mp h with h | h
      · have := hm i h; omega
      · have := List.mem_singleton.mp h; omega
theorem at0_wid0 {c : Nat} {p : List Int} : at0 (wid c p) 0 = 0 := rfl
theorem at0_widC {c : Nat} {p : List Int} (hp : Pk c p) : at0 (wid c p) ((c : Int) + 1) = (c : Int) + 1 := by
  have e : ((c : Int) + 1).toNat = c + 1 := by omega
  simp [getF, Vl.getO, ini, pick, runF, Vl.endK, tru, isiD, tyD, subT, leI, ltI, gtI, geI, cmpD, frzAt, slotOf, seqOf, lenQ, addD, subD, modD, mulD, ixD, setsE, mkL, mkT, lstRg, int1, rng1, slQ, intO, catQ, appG, popAtG, listQ, tupQ, allQ, itQ, gmName, wipeE, at0, wid, e, upL, hp.len]
theorem at0_widI {c : Nat} {p : List Int} (hp : Pk c p) {i : Int} (hi : 0 ≤ i ∧ i < c) : at0 (wid c p) (i + 1) = at0 p i + 1 := by
  have e : (i + 1).toNat = i.toNat + 1 := by omega
  have l := hp.len
  have h : i.toNat < p.length := by omega
  have h2 : i.toNat < (p.map fun x => x + 1).length := by rw [List.length_map]; exact h
  simp only [at0, wid, e, upL, List.getD_cons_succ, List.getD_eq_getElem?_getD]
  rw [List.getElem?_cons_succ, List.getElem?_append_left h2]
  simp [getF, Vl.getO, ini, pick, runF, Vl.endK, tru, isiD, tyD, subT, leI, ltI, gtI, geI, cmpD, frzAt, slotOf, seqOf, lenQ, addD, subD, modD, mulD, ixD, setsE, mkL, mkT, lstRg, int1, rng1, slQ, intO, catQ, appG, popAtG, listQ, tupQ, allQ, itQ, gmName, wipeE, h]
theorem cmp_wid {c : Nat} {T p : List Int} (hT : Pk c T) (hp : Pk c p) : cmp (wid c T) (wid c p) = wid c (cmp T p) := by
  unfold cmp
  show (0 :: (upL T ++ [(c : Int) + 1])).map (at0 (wid c p)) = 0 :: (upL (T.map (at0 p)) ++ [(c : Int) + 1])
  rw [List.map_cons, List.map_append, List.map_cons, List.map_nil, at0_wid0, at0_widC hp, upL, upL, List.map_map, List.map_map]
  congr 2
  exact List.map_congr_left fun i hi => at0_widI hp (hT.bd i hi)
/-! ### only -/
theorem oRun_filter {f : D → Option (Option D)} {c : Int → Bool} {g : Int → D} {ns : List Int} (h : ∀ n ∈ ns, f (.int n) = some (if c n = true then some (g n) else none)) : oRun f (ns.map .int) = some ((ns.filter c).map g) := by
  induction ns with
  | nil => rfl
  | cons n ns ih =>
    rw [List.map_cons]
    show (f (.int n)).bind _ = _
    rw [h n List.mem_cons_self]
    have ih := ih fun m hm => h m (List.mem_cons_of_mem _ hm)
    by_cases hc : c n = true
    · rw [if_pos hc, List.filter_cons_of_pos hc]
      show (oRun f (ns.map .int)).map _ = _
      rw [ih]
      rfl
    · rw [if_neg hc, List.filter_cons_of_neg hc]
      exact ih
theorem shaped_lsD (p : List Int) : SeqAt.shaped (.list (p.map .int)) = true := shaped_ls p
theorem inD_ints (x : Int) (l : List Int) (b : Bool) : inD (.int x) (b, l.map .int) = some (decide (x ∈ l)) := by
  unfold inD
  rw [if_pos ⟨shaped_int x, shaped_ls l⟩]
  congr 1
  rw [Bool.eq_iff_iff, List.any_eq_true, decide_eq_true_eq]
  constructor
  · rintro ⟨z, hz, h⟩
    obtain ⟨k, hk, rfl⟩ := List.mem_map.mp hz
    have : k = x := eq_of_beq (show (k == x) = true from h)
    exact this ▸ hk
  · intro h
    exact ⟨.int x, List.mem_map_of_mem h, show (x == x) = true by simp [getF, Vl.getO, ini, pick, runF, Vl.endK, tru, isiD, tyD, subT, leI, ltI, gtI, geI, cmpD, frzAt, slotOf, seqOf, lenQ, addD, subD, modD, mulD, ixD, setsE, mkL, mkT, lstRg, int1, rng1, slQ, intO, catQ, appG, popAtG, listQ, tupQ, allQ, itQ, gmName, wipeE]⟩
theorem lotT_mem {c : Nat} {x : Int} : x ∈ lotT c ↔ 1 ≤ x ∧ x ≤ c := by
  unfold lotT
  rw [List.mem_map]
  constructor
  · rintro ⟨k, hk, rfl⟩
    have := rg_mem.mp hk
    omega
  · intro h
    exact ⟨x - 1, rg_mem.mpr (by omega), by omega⟩
theorem index_lot {c : Nat} {x : Int} (h : 1 ≤ x ∧ x ≤ c) (b : Bool) : indexF (b, (lotT c).map .int) (.int x) = some (.int (x - 1)) := by
  have nd : (lotT c).Nodup := List.Pairwise.map _ (fun a b h => by omega) (rg_nodup _)
  have ll : (lotT c).length = c := by simp [getF, Vl.getO, ini, pick, runF, Vl.endK, tru, isiD, tyD, subT, leI, ltI, gtI, geI, cmpD, frzAt, slotOf, seqOf, lenQ, addD, subD, modD, mulD, ixD, setsE, mkL, mkT, lstRg, int1, rng1, slQ, intO, catQ, appG, popAtG, listQ, tupQ, allQ, itQ, gmName, wipeE, lotT, rg_len]
  have hj : (x - 1).toNat < (lotT c).length := by omega
  have e : (lotT c)[(x - 1).toNat] = x := by
    simp [getF, Vl.getO, ini, pick, runF, Vl.endK, tru, isiD, tyD, subT, leI, ltI, gtI, geI, cmpD, frzAt, slotOf, seqOf, lenQ, addD, subD, modD, mulD, ixD, setsE, mkL, mkT, lstRg, int1, rng1, slQ, intO, catQ, appG, popAtG, listQ, tupQ, allQ, itQ, gmName, wipeE, lotT, rg]
    omega
  have f := firstAt_ints nd hj
  rw [e] at f
  unfold indexF
  rw [if_pos ⟨shaped_ls (lotT c), shaped_int x⟩]
  simp only
  rw [f]
  simp [getF, Vl.getO, ini, pick, runF, Vl.endK, tru, isiD, tyD, subT, leI, ltI, gtI, geI, cmpD, frzAt, slotOf, seqOf, lenQ, addD, subD, modD, mulD, ixD, setsE, mkL, mkT, lstRg, int1, rng1, slQ, intO, catQ, appG, popAtG, listQ, tupQ, allQ, itQ, gmName, wipeE]
  omega
theorem only_gen {gW gL : List D → Option D} {c : Nat} (hc : 1 ≤ c ∧ c ≤ 52) {w : List Int} (hw : w.length ≤ 100) (w1 : gW [tp w] = some .none) (l : gL [tp (lotT c), .int w.length] = some (.bool true)) :
    runF ["pack", "lot", "one"] false (OG_only gW gL) [tp w, tp (lotT c)] = some (tp ((w.filter fun (x : Int) => decide (1 ≤ x ∧ x ≤ (c : Int))).map (· - 1))) := by
  have run : oRun (oEl (gmName 2) (oB2Q inD (oVar 2) (oQ (oVar 1))) (oIdx false (oQ (oVar 1)) (oVar 2)) [.fz (tp w), .fz (tp (lotT c)), .un]) (w.map .int) = some ((w.filter fun (x : Int) => decide (1 ≤ x ∧ x ≤ (c : Int))).map fun x => PyData.int (x - 1)) := by
    refine oRun_filter fun n hn => ?_
    by_cases h : 1 ≤ n ∧ n ≤ (c : Int)
    · have h2 := lotT_mem.mpr h
      simp [getF, Vl.getO, ini, pick, runF, Vl.endK, tru, isiD, tyD, subT, leI, ltI, gtI, geI, cmpD, frzAt, slotOf, seqOf, lenQ, addD, subD, modD, mulD, ixD, setsE, mkL, mkT, lstRg, int1, rng1, slQ, intO, catQ, appG, popAtG, listQ, tupQ, allQ, itQ, gmName, wipeE, inD_ints, h2, h, kindQ, index_lot h]
    · have h2 : ¬ n ∈ lotT c := fun z => h (lotT_mem.mp z)
      simp [getF, Vl.getO, ini, pick, runF, Vl.endK, tru, isiD, tyD, subT, leI, ltI, gtI, geI, cmpD, frzAt, slotOf, seqOf, lenQ, addD, subD, modD, mulD, ixD, setsE, mkL, mkT, lstRg, int1, rng1, slQ, intO, catQ, appG, popAtG, listQ, tupQ, allQ, itQ, gmName, wipeE, inD_ints, h2, h]
  have e0 : eqD (tp (lotT c)) (.tuple []) = some false := by
    have := eqD_tp (lotT c) []
    have ne : ¬ lotT c = [] := fun z => by
      have h1 : (1 : Int) ∈ lotT c := lotT_mem.mpr (by omega)
      rw [z] at h1; cases h1
    rw [decide_eq_false ne] at this
    exact this
  have fl : (w.filter fun (x : Int) => decide (1 ≤ x ∧ x ≤ (c : Int))).length ≤ 10000000 := Nat.le_trans (List.length_filter_le ..) (by omega)
  have e1 : (w.filter fun (x : Int) => decide (1 ≤ x ∧ x ≤ (c : Int))).map (fun x => PyData.int (x - 1)) = ((w.filter fun (x : Int) => decide (1 ≤ x ∧ x ≤ (c : Int))).map (· - 1)).map .int := by rw [List.map_map]; rfl
  rw [e1] at run
  generalize hF : (w.filter fun (x : Int) => decide (1 ≤ x ∧ x ≤ (c : Int))) = F at run fl ⊢
  simp only [tp] at w1 l e0
  simp [getF, Vl.getO, ini, pick, runF, Vl.endK, tru, isiD, tyD, subT, leI, ltI, gtI, geI, cmpD, frzAt, slotOf, seqOf, lenQ, addD, subD, modD, mulD, ixD, setsE, mkL, mkT, lstRg, int1, rng1, slQ, intO, catQ, appG, popAtG, listQ, tupQ, allQ, itQ, gmName, wipeE, OG_only, w1, l, e0, lim]
  simp [getF, Vl.getO, ini, pick, runF, Vl.endK, tru, isiD, tyD, subT, leI, ltI, gtI, geI, cmpD, frzAt, slotOf, seqOf, lenQ, addD, subD, modD, mulD, ixD, setsE, mkL, mkT, lstRg, int1, rng1, slQ, intO, catQ, appG, popAtG, listQ, tupQ, allQ, itQ, gmName, wipeE, run, lim, fl, show w.length ≤ 10000000 by omega]
theorem only_wid {c : Nat} {q : List Int} (hq : Pk c q) : ((wid c q).filter fun (x : Int) => decide (1 ≤ x ∧ x ≤ (c : Int))).map (· - 1) = q := by
  unfold wid
  rw [List.filter_cons_of_neg (by simp [getF, Vl.getO, ini, pick, runF, Vl.endK, tru, isiD, tyD, subT, leI, ltI, gtI, geI, cmpD, frzAt, slotOf, seqOf, lenQ, addD, subD, modD, mulD, ixD, setsE, mkL, mkT, lstRg, int1, rng1, slQ, intO, catQ, appG, popAtG, listQ, tupQ, allQ, itQ, gmName, wipeE]), List.filter_append, List.filter_eq_self.mpr (fun i hi => ?_)]
  · have : ([(c : Int) + 1].filter fun x => decide (1 ≤ x ∧ x ≤ (c : Int))) = [] := by
      rw [List.filter_cons_of_neg (by simp [getF, Vl.getO, ini, pick, runF, Vl.endK, tru, isiD, tyD, subT, leI, ltI, gtI, geI, cmpD, frzAt, slotOf, seqOf, lenQ, addD, subD, modD, mulD, ixD, setsE, mkL, mkT, lstRg, int1, rng1, slQ, intO, catQ, appG, popAtG, listQ, tupQ, allQ, itQ, gmName, wipeE]; omega)]; rfl
    rw [this, List.append_nil, upL, List.map_map]
    conv => rhs; rw [← List.map_id q]
    exact List.map_congr_left fun i _ => by show i + 1 - 1 = i; omega
  · obtain ⟨k, hk, rfl⟩ := List.mem_map.mp hi
    have := hq.bd k hk
    exact decide_eq_true (by omega)
/-! ### laid on -/
theorem up_run {j : Nat} {e : Sto} (hj : j < e.length) (q : List Int) : oRun (oEl (gmName j) (Op.ret true) (oB2 addD (oVar j) (Op.ret (.int 1))) e) (q.map .int) = some ((upL q).map .int) := by
  have : oRun (oEl (gmName j) (Op.ret true) (oB2 addD (oVar j) (Op.ret (.int 1))) e) (q.map .int) = some (q.map fun i => .int (i + 1)) := by
    refine oRun_ints fun n hn => ?_
    simp [getF, Vl.getO, ini, pick, runF, Vl.endK, tru, isiD, tyD, subT, leI, ltI, gtI, geI, cmpD, frzAt, slotOf, seqOf, lenQ, addD, subD, modD, mulD, ixD, setsE, mkL, mkT, lstRg, int1, rng1, slQ, intO, catQ, appG, popAtG, listQ, tupQ, allQ, itQ, gmName, wipeE, hj]
  rw [this, upL, List.map_map]
  rfl
theorem laid_gen {gW : List D → Option D} {c : Nat} (hc : c ≤ 51) {p : List Int} (hp : p.length = c) (w0 : gW [tp [0]] = some .none) (w1 : gW [tp p] = some .none) : runF ["pack", "late", "one"] false (OG_laid_on gW) [tp [0], tp p] = some (tp (0 :: upL p)) := by
  have run : oRun (oEl (gmName 2) (Op.ret true) (oB2 addD (oVar 2) (oQ1 lenQ (oQ (oVar 0)))) [.fz (tp [0]), .fz (tp p), .un]) (p.map .int) = some ((upL p).map .int) := by
    have : oRun (oEl (gmName 2) (Op.ret true) (oB2 addD (oVar 2) (oQ1 lenQ (oQ (oVar 0)))) [.fz (tp [0]), .fz (tp p), .un]) (p.map .int) = some (p.map fun i => .int (i + 1)) := by
      refine oRun_ints fun n hn => ?_
      simp [getF, Vl.getO, ini, pick, runF, Vl.endK, tru, isiD, tyD, subT, leI, ltI, gtI, geI, cmpD, frzAt, slotOf, seqOf, lenQ, addD, subD, modD, mulD, ixD, setsE, mkL, mkT, lstRg, int1, rng1, slQ, intO, catQ, appG, popAtG, listQ, tupQ, allQ, itQ, gmName, wipeE]
    rw [this, upL, List.map_map]; rfl
  have l := upL_len p
  simp [getF, Vl.getO, ini, pick, runF, Vl.endK, tru, isiD, tyD, subT, leI, ltI, gtI, geI, cmpD, frzAt, slotOf, seqOf, lenQ, addD, subD, modD, mulD, ixD, setsE, mkL, mkT, lstRg, int1, rng1, slQ, intO, catQ, appG, popAtG, listQ, tupQ, allQ, itQ, gmName, wipeE, OG_laid_on, w0, w1, hp, lim, show ¬ (52 : Int) < 1 + (c : Int) by omega]
  simp [getF, Vl.getO, ini, pick, runF, Vl.endK, tru, isiD, tyD, subT, leI, ltI, gtI, geI, cmpD, frzAt, slotOf, seqOf, lenQ, addD, subD, modD, mulD, ixD, setsE, mkL, mkT, lstRg, int1, rng1, slQ, intO, catQ, appG, popAtG, listQ, tupQ, allQ, itQ, gmName, wipeE, run, lim, l, hp, show c ≤ 10000000 by omega, show 1 + c ≤ 10000000 by omega, show c ≤ 9999999 by omega]
end Wk
namespace Wk
open PySem PySem.Spec PyProof.Rows L2 Vl
theorem mixed37 {ds : List Int} {kk : D → Prop} (hp : ds.length ≤ 1000) (hk : ∀ q : List Int, q.Perm ds → kk (ls q)) : fw__law_mixed [potD, ls ds] kk := mixedL drawG_ok hp hk
theorem pack_gen {fM : Fw} (hM : ∀ (ds : List Int) (kk : D → Prop), ds.length ≤ 1000 → (∀ q : List Int, q.Perm ds → kk (ls q)) → fM [potD, ls ds] kk) {c : Nat} (hc : c ≤ 1000) {kk : D → Prop} (hk : ∀ q : List Int, q.Perm (rg c) → kk (tp q)) : WG__law_pack fM (ini ["pot", "cards"] [potD, .int c]) (endK false kk) := by
  have o1 : rgOk (0, (c : Int)) := ⟨by omega, by omega, by omega, by show ((c : Int) - 0).toNat ≤ 10000000; omega⟩
  unfold WG__law_pack
  simp only [wRet, wQ1, wQ, wCall, wp_bd, wp_ret, lift_ap, gt_ap]
  simp [getF, Vl.getO, ini, pick, runF, Vl.endK, tru, isiD, tyD, subT, leI, ltI, gtI, geI, cmpD, frzAt, slotOf, seqOf, lenQ, addD, subD, modD, mulD, ixD, setsE, mkL, mkT, lstRg, int1, rng1, slQ, intO, catQ, appG, popAtG, listQ, tupQ, allQ, itQ, gmName, wipeE, o1, rngL_rg]
  refine hM (rg c) _ (by rw [rg_len]; exact hc) fun q hq => ?_
  have l : q.length = c := by rw [hq.length_eq, rg_len]
  simp [getF, Vl.getO, ini, pick, runF, Vl.endK, tru, isiD, tyD, subT, leI, ltI, gtI, geI, cmpD, frzAt, slotOf, seqOf, lenQ, addD, subD, modD, mulD, ixD, setsE, mkL, mkT, lstRg, int1, rng1, slQ, intO, catQ, appG, popAtG, listQ, tupQ, allQ, itQ, gmName, wipeE, lim, l, show c ≤ 10000000 by omega]
  exact hk q hq
theorem pack37 {c : Nat} (hc : c ≤ 1000) {kk : D → Prop} (hk : ∀ q : List Int, q.Perm (rg c) → kk (tp q)) : fw__law_pack [potD, .int c] kk := pack_gen (fM := fw__law_mixed) (fun ds kk h1 h2 => mixed37 h1 h2) hc hk
theorem pot37 {ns : List Int} {k : Nat} (hk : k ≤ 100) : R__law_pot [scrD ns, .int k] = some potD := potB hk
/-! ### out within both ends -/
theorem st_callP {fP : Fw} {i : Nat} {e : Sto} {U : Wp Fl} {k : Fl → Sto → Prop} {x : D} (h0 : e[0]? = some (.fz potD)) (h1 : e[1]? = some (.fz x)) (hi : i < e.length) (h : fP [potD, x] fun d => U (e.set i (.fz d)) k) :
    wSeq (wSet i false (wCall fP 2 0 [0, 1] [] (lift (oCons  (oVar 0) (oCons  (oVar 1) (Op.ret [])))) (Wp.ret []))) U e k := by
  simp only [wSeq, wSet, wCall, wp_bd, wp_ret, lift_ap, Wp.md]
  simp [getF, Vl.getO, ini, pick, runF, Vl.endK, tru, isiD, tyD, subT, leI, ltI, gtI, geI, cmpD, frzAt, slotOf, seqOf, lenQ, addD, subD, modD, mulD, ixD, setsE, mkL, mkT, lstRg, int1, rng1, slQ, intO, catQ, appG, popAtG, listQ, tupQ, allQ, itQ, gmName, wipeE, h0, h1]
  simpa [getF, Vl.getO, ini, pick, runF, Vl.endK, tru, isiD, tyD, subT, leI, ltI, gtI, geI, cmpD, frzAt, slotOf, seqOf, lenQ, addD, subD, modD, mulD, ixD, setsE, mkL, mkT, lstRg, int1, rng1, slQ, intO, catQ, appG, popAtG, listQ, tupQ, allQ, itQ, gmName, wipeE, hi] using h
theorem ru {e : Sto} (p : List Int) (he : e.length = 7) : oRun (oEl (gmName 6) (Op.ret true) (oB2 addD (oVar 6) (Op.ret (.int 1))) e) (p.map .int) = some ((upL p).map .int) := up_run (by omega) p
theorem up_ok {c : Nat} (hc : c ≤ 52) {p : List Int} (lp : p.length = c) {j : Nat} {x0 x1 x2 x3 x4 x5 : Slot} (hj : ([x0, x1, x2, x3, x4, x5, .un] : Sto)[j]? = some (.fz (tp p))) :
    oQ1 tupQ (oQ (oLc [6] (oB1 itQ (oVar j)) (gmName 6) (Op.ret true) (oB2 addD (oVar 6) (Op.ret (.int 1))))) [x0, x1, x2, x3, x4, x5, .un] = some (tp (upL p), [x0, x1, x2, x3, x4, x5, .un]) := by
  have r := ru p (e := [x0, x1, x2, x3, x4, x5, .un]) rfl
  simp [getF, Vl.getO, ini, pick, runF, Vl.endK, tru, isiD, tyD, subT, leI, ltI, gtI, geI, cmpD, frzAt, slotOf, seqOf, lenQ, addD, subD, modD, mulD, ixD, setsE, mkL, mkT, lstRg, int1, rng1, slQ, intO, catQ, appG, popAtG, listQ, tupQ, allQ, itQ, gmName, wipeE, hj, r, lim, upL_len, lp, show c ≤ 10000000 by omega]
theorem wide_ok {c : Nat} (hc : c ≤ 52) {p : List Int} (lp : p.length = c) {j : Nat} {x0 x2 x3 x4 x5 : Slot} (hj : ([x0, .fz (.int c), x2, x3, x4, x5, .un] : Sto)[j]? = some (.fz (tp p))) :
    oB2 addD (oB2 addD (oB1 mkT (oCons  (Op.ret (.int 0)) (Op.ret []))) (oQ1 tupQ (oQ (oLc [6] (oB1 itQ (oVar j)) (gmName 6) (Op.ret true) (oB2 addD (oVar 6) (Op.ret (.int 1))))))) (oB1 mkT (oCons  (oB2 addD (oVar 1) (Op.ret (.int 1))) (Op.ret []))) [x0, .fz (.int c), x2, x3, x4, x5, .un] = some (tp (wid c p), [x0, .fz (.int c), x2, x3, x4, x5, .un]) := by
  have u := up_ok hc lp hj
  generalize (oQ1 tupQ (oQ (oLc [6] (oB1 itQ (oVar j)) (gmName 6) (Op.ret true) (oB2 addD (oVar 6) (Op.ret (.int 1)))))) = U at u ⊢
  have l := upL_len p
  rw [lp] at l
  simp [getF, Vl.getO, ini, pick, runF, Vl.endK, tru, isiD, tyD, subT, leI, ltI, gtI, geI, cmpD, frzAt, slotOf, seqOf, lenQ, addD, subD, modD, mulD, ixD, setsE, mkL, mkT, lstRg, int1, rng1, slQ, intO, catQ, appG, popAtG, listQ, tupQ, allQ, itQ, gmName, wipeE, u, lim, l, wid, show 1 + c ≤ 10000000 by omega, show 1 + c + 1 ≤ 10000000 by omega, show c + 1 ≤ 10000000 by omega, show c + 1 + 1 ≤ 10000000 by omega, show c + 1 ≤ 9999999 by omega, show c ≤ 9999999 by omega, show c ≤ 9999998 by omega]
theorem plus_ok {c : Nat} (hc : c ≤ 52) {p : List Int} (lp : p.length = c) {j : Nat} {x0 x1 x2 x3 x4 x5 : Slot} (hj : ([x0, x1, x2, x3, x4, x5, .un] : Sto)[j]? = some (.fz (tp p))) :
    oB2 addD (oB1 mkT (oCons  (Op.ret (.int 0)) (Op.ret []))) (oQ1 tupQ (oQ (oLc [6] (oB1 itQ (oVar j)) (gmName 6) (Op.ret true) (oB2 addD (oVar 6) (Op.ret (.int 1)))))) [x0, x1, x2, x3, x4, x5, .un] = some (tp (0 :: upL p), [x0, x1, x2, x3, x4, x5, .un]) := by
  have u := up_ok hc lp hj
  generalize (oQ1 tupQ (oQ (oLc [6] (oB1 itQ (oVar j)) (gmName 6) (Op.ret true) (oB2 addD (oVar 6) (Op.ret (.int 1)))))) = U at u ⊢
  have l := upL_len p
  rw [lp] at l
  simp [getF, Vl.getO, ini, pick, runF, Vl.endK, tru, isiD, tyD, subT, leI, ltI, gtI, geI, cmpD, frzAt, slotOf, seqOf, lenQ, addD, subD, modD, mulD, ixD, setsE, mkL, mkT, lstRg, int1, rng1, slQ, intO, catQ, appG, popAtG, listQ, tupQ, allQ, itQ, gmName, wipeE, u, lim, l, show 1 + c ≤ 10000000 by omega, show c + 1 ≤ 10000000 by omega, show c ≤ 9999999 by omega]
theorem lot_ok {c : Nat} (hc : c ≤ 52) : tupRg (1, (c : Int) + 1) = some (tp (lotT c)) := by
  have o1 : rgOk (1, (c : Int) + 1) := ⟨by omega, by omega, by omega, by show ((c : Int) + 1 - 1).toNat ≤ 10000000; omega⟩
  have lo : rngL 1 c = (lotT c).map .int := by
    rw [rngL_ints]
    congr 1
    unfold lotT rg
    rw [List.map_map]
    refine List.map_congr_left fun a _ => by simp [getF, Vl.getO, ini, pick, runF, Vl.endK, tru, isiD, tyD, subT, leI, ltI, gtI, geI, cmpD, frzAt, slotOf, seqOf, lenQ, addD, subD, modD, mulD, ixD, setsE, mkL, mkT, lstRg, int1, rng1, slQ, intO, catQ, appG, popAtG, listQ, tupQ, allQ, itQ, gmName, wipeE]; omega
  show (if rgOk (1, (c : Int) + 1) then some (PyData.tuple (rngL 1 ((c : Int) + 1 - 1).toNat)) else none) = _
  rw [if_pos o1, show ((c : Int) + 1 - 1).toNat = c by omega, lo]
theorem oB1_ok {α β : Type} {g : α → Option β} {w : Op α} {e e1 : Sto} {x : α} {y : β} (h1 : w e = some (x, e1)) (h2 : g x = some y) : oB1 g w e = some (y, e1) := by
  simp [getF, Vl.getO, ini, pick, runF, Vl.endK, tru, isiD, tyD, subT, leI, ltI, gtI, geI, cmpD, frzAt, slotOf, seqOf, lenQ, addD, subD, modD, mulD, ixD, setsE, mkL, mkT, lstRg, int1, rng1, slQ, intO, catQ, appG, popAtG, listQ, tupQ, allQ, itQ, gmName, wipeE, h1, h2]
theorem lotE {c : Nat} (hc : c ≤ 52) {x0 x2 x3 x4 x5 x6 : Slot} : oB1 tupRg (oB2 int2 (Op.ret (.int 1)) (oB2 addD (oVar 1) (Op.ret (.int 1)))) [x0, .fz (.int c), x2, x3, x4, x5, x6] = some (tp (lotT c), [x0, .fz (.int c), x2, x3, x4, x5, x6]) := oB1_ok (x := (1, (c : Int) + 1)) rfl (lot_ok hc)
theorem fin_ok {gOn gIS gLa : List D → Option D} {L P : Op D} {q Wd F lo : List Int} {X : D} {e : Sto} (h2 : e[2]? = some (.fz (tp q))) (h5 : e[5]? = some (.fz (tp Wd))) (hL : L e = some (tp lo, e)) (hP : P e = some (X, e)) (on : gOn [tp Wd, tp lo] = some (tp F)) (is : gIS [tp q] = some (tp F)) (la : gLa [.tuple [.int 0], tp q] = some X) (ex : eqD X X = some true) :
    okTr ((oRet  (oAndV  (oVal (oB2 eqD (oCall (gOn) 2 0 [0, 1] [] (oCons  (oVar 5) (oCons L (Op.ret []))) (Op.ret [])) (oCall (gIS) 1 0 [0] [] (oCons  (oVar 2) (Op.ret [])) (Op.ret [])))) (oVal (oB2 eqD (oCall (gLa) 2 0 [0, 1] [] (oCons  (oB1 mkT (oCons  (Op.ret (.int 0)) (Op.ret []))) (oCons  (oVar 2) (Op.ret []))) (Op.ret [])) P)))) e) = true := by
  have e6 := eqD_tp F F
  simp [getF, Vl.getO, ini, pick, runF, Vl.endK, tru, isiD, tyD, subT, leI, ltI, gtI, geI, cmpD, frzAt, slotOf, seqOf, lenQ, addD, subD, modD, mulD, ixD, setsE, mkL, mkT, lstRg, int1, rng1, slQ, intO, catQ, appG, popAtG, listQ, tupQ, allQ, itQ, gmName, wipeE, h2, h5, hL, hP, on, is, la, ex, e6, lim, okTr]
theorem ends_gen {fP : Fw} {gIM gOM gTO gTI gOS gOn gIS gLa : List D → Option D} {c : Nat} (hc : 1 ≤ c ∧ c ≤ 52) {TI lot : List Int} {t : Int} {kk : D → Prop}
    (fp : ∀ kk : D → Prop, (∀ q : List Int, q.Perm (rg c) → kk (tp q)) → fP [potD, .int c] kk) (im : gIM [.int c] = some (tp TI)) (lT : TI.length = c)
    (ev : c % 2 = 0 → c ≤ 50 → gOM [.int ((c : Int) + 2)] = some (tp (wid c TI)) ∧ gTO [.int ((c : Int) + 2)] = some (.int t) ∧ gTI [.int c] = some (.int t) ∧
      ∀ q : List Int, q.Perm (rg c) → ∃ Wd F : List Int, gOS [tp (wid c q)] = some (tp Wd) ∧ gOn [tp Wd, tp (lotT c)] = some (tp F) ∧ gIS [tp q] = some (tp F) ∧ gLa [tp [0], tp q] = some (tp (0 :: upL q)))
    (hk : kk (.bool true)) : WG__law_ends_right fP gIM gOM gTO gTI gOS gOn gIS gLa (ini ["pot", "cards", "pack", "inner", "wide", "wider", "one"] [potD, .int c]) (endK false kk) := by
  unfold WG__law_ends_right
  refine st_callP (x := .int c) rfl rfl (by show 2 < 7; decide) (fp _ fun q hq => ?_)
  have lq : q.length = c := by rw [hq.length_eq, rg_len]
  refine okTr_ok ?_ hk
  rw [oSeq_nx (e1 := [.fz potD, .fz (.int c), .fz (tp q), .fz (tp TI), .un, .un, .un]) (by simp [getF, Vl.getO, ini, pick, runF, Vl.endK, tru, isiD, tyD, subT, leI, ltI, gtI, geI, cmpD, frzAt, slotOf, seqOf, lenQ, addD, subD, modD, mulD, ixD, setsE, mkL, mkT, lstRg, int1, rng1, slQ, intO, catQ, appG, popAtG, listQ, tupQ, allQ, itQ, gmName, wipeE, im])]
  by_cases h1 : (c : Int) % 2 = 1
  · simp [getF, Vl.getO, ini, pick, runF, Vl.endK, tru, isiD, tyD, subT, leI, ltI, gtI, geI, cmpD, frzAt, slotOf, seqOf, lenQ, addD, subD, modD, mulD, ixD, setsE, mkL, mkT, lstRg, int1, rng1, slQ, intO, catQ, appG, popAtG, listQ, tupQ, allQ, itQ, gmName, wipeE, intF, h1, eqD_int, okTr]
  · have h0 : (c : Int) % 2 = 0 := by omega
    by_cases h2 : 50 < (c : Int)
    · have h2' : 50 < c := by omega
      simp [getF, Vl.getO, ini, pick, runF, Vl.endK, tru, isiD, tyD, subT, leI, ltI, gtI, geI, cmpD, frzAt, slotOf, seqOf, lenQ, addD, subD, modD, mulD, ixD, setsE, mkL, mkT, lstRg, int1, rng1, slQ, intO, catQ, appG, popAtG, listQ, tupQ, allQ, itQ, gmName, wipeE, intF, h0, eqD_int, okTr, h2, h2']
    · have h2' : ¬ 50 < c := by omega
      obtain ⟨om, to, ti, ev⟩ := ev (by omega) (by omega)
      obtain ⟨Wd, F, os, on, is, la⟩ := ev q hq
      have lo := lot_ok (c := c) (by omega)
      rw [oSeq_nx (e1 := [.fz potD, .fz (.int c), .fz (tp q), .fz (tp TI), .un, .un, .un]) (by simp [getF, Vl.getO, ini, pick, runF, Vl.endK, tru, isiD, tyD, subT, leI, ltI, gtI, geI, cmpD, frzAt, slotOf, seqOf, lenQ, addD, subD, modD, mulD, ixD, setsE, mkL, mkT, lstRg, int1, rng1, slQ, intO, catQ, appG, popAtG, listQ, tupQ, allQ, itQ, gmName, wipeE, intF, h0, eqD_int, h2, h2'])]
      have w1 := wide_ok (c := c) (by omega) lT (x0 := .fz potD) (x2 := .fz (tp q)) (x3 := .fz (tp TI)) (x4 := .un) (x5 := .un) (j := 3) rfl
      have w2 := wide_ok (c := c) (by omega) lq (x0 := .fz potD) (x2 := .fz (tp q)) (x3 := .fz (tp TI)) (x4 := .fz (tp (wid c TI))) (x5 := .un) (j := 2) rfl
      have w3 := plus_ok (c := c) (by omega) lq (x0 := .fz potD) (x1 := .fz (.int c)) (x2 := .fz (tp q)) (x3 := .fz (tp TI)) (x4 := .fz (tp (wid c TI))) (x5 := .fz (tp Wd)) (j := 2) rfl
      generalize (oB2 addD (oB2 addD (oB1 mkT (oCons  (Op.ret (.int 0)) (Op.ret []))) (oQ1 tupQ (oQ (oLc [6] (oB1 itQ (oVar 3)) (gmName 6) (Op.ret true) (oB2 addD (oVar 6) (Op.ret (.int 1))))))) (oB1 mkT (oCons  (oB2 addD (oVar 1) (Op.ret (.int 1))) (Op.ret [])))) = U1 at w1 ⊢
      generalize (oB2 addD (oB2 addD (oB1 mkT (oCons  (Op.ret (.int 0)) (Op.ret []))) (oQ1 tupQ (oQ (oLc [6] (oB1 itQ (oVar 2)) (gmName 6) (Op.ret true) (oB2 addD (oVar 6) (Op.ret (.int 1))))))) (oB1 mkT (oCons  (oB2 addD (oVar 1) (Op.ret (.int 1))) (Op.ret [])))) = U2 at w2 ⊢
      generalize (oB2 addD (oB1 mkT (oCons  (Op.ret (.int 0)) (Op.ret []))) (oQ1 tupQ (oQ (oLc [6] (oB1 itQ (oVar 2)) (gmName 6) (Op.ret true) (oB2 addD (oVar 6) (Op.ret (.int 1))))))) = U3 at w3 ⊢
      rw [oSeq_nx (e1 := [.fz potD, .fz (.int c), .fz (tp q), .fz (tp TI), .fz (tp (wid c TI)), .un, .un]) (by simp [getF, Vl.getO, ini, pick, runF, Vl.endK, tru, isiD, tyD, subT, leI, ltI, gtI, geI, cmpD, frzAt, slotOf, seqOf, lenQ, addD, subD, modD, mulD, ixD, setsE, mkL, mkT, lstRg, int1, rng1, slQ, intO, catQ, appG, popAtG, listQ, tupQ, allQ, itQ, gmName, wipeE, w1])]
      rw [oSeq_nx (e1 := [.fz potD, .fz (.int c), .fz (tp q), .fz (tp TI), .fz (tp (wid c TI)), .un, .un]) (by simp [getF, Vl.getO, ini, pick, runF, Vl.endK, tru, isiD, tyD, subT, leI, ltI, gtI, geI, cmpD, frzAt, slotOf, seqOf, lenQ, addD, subD, modD, mulD, ixD, setsE, mkL, mkT, lstRg, int1, rng1, slQ, intO, catQ, appG, popAtG, listQ, tupQ, allQ, itQ, gmName, wipeE, om, to, ti, neD_tp, neD_int])]
      rw [oSeq_nx (e1 := [.fz potD, .fz (.int c), .fz (tp q), .fz (tp TI), .fz (tp (wid c TI)), .fz (tp Wd), .un]) (by simp [getF, Vl.getO, ini, pick, runF, Vl.endK, tru, isiD, tyD, subT, leI, ltI, gtI, geI, cmpD, frzAt, slotOf, seqOf, lenQ, addD, subD, modD, mulD, ixD, setsE, mkL, mkT, lstRg, int1, rng1, slQ, intO, catQ, appG, popAtG, listQ, tupQ, allQ, itQ, gmName, wipeE, w2, os])]
      have oE : gLa [.tuple [.int 0], tp q] = some (tp (0 :: upL q)) := la
      have e5 := eqD_tp (0 :: upL q) (0 :: upL q)
      exact fin_ok rfl rfl (lotE (by omega)) w3 on is oE (by rw [e5]; simp [getF, Vl.getO, ini, pick, runF, Vl.endK, tru, isiD, tyD, subT, leI, ltI, gtI, geI, cmpD, frzAt, slotOf, seqOf, lenQ, addD, subD, modD, mulD, ixD, setsE, mkL, mkT, lstRg, int1, rng1, slQ, intO, catQ, appG, popAtG, listQ, tupQ, allQ, itQ, gmName, wipeE])
/-! ### one pot -/
def inB (gPk gOM gIM gBk gDn gTO gTI gMv gPl : List D → Option D) (fP fE : Fw) : Wp Fl := (wSeq  (wIf  (wOr  (wNot  (wB1 tru (wCall (liftF (gPk)) 1 0 [0] [] (wCons  (wCall fP 2 0 [0, 1] [] (lift (oCons  (oVar 0) (oCons  (oVar 1) (Op.ret [])))) (Wp.ret [])) (lift (Op.ret []))) (Wp.ret [])))) (wNot  (wB1 tru (wCall fE 2 0 [0, 1] [] (lift (oCons  (oVar 0) (oCons  (oVar 1) (Op.ret [])))) (Wp.ret []))))) (lift (oRet  (Op.ret (.bool false)))) (lift (Op.ret .nx))) (lift (oSeq  (oPar [2, 3] [false, false] (oCons  (oCall (gOM) 1 0 [0] [] (oCons  (oVar 1) (Op.ret [])) (Op.ret [])) (oCons  (oCall (gIM) 1 0 [0] [] (oCons  (oVar 1) (Op.ret [])) (Op.ret [])) (Op.ret [])))) (oIf  (oOr  (oB2 neD (oCall (gBk) 1 0 [0] [] (oCons  (oVar 2) (Op.ret [])) (Op.ret [])) (oCall (gDn) 2 0 [0, 1] [] (oCons  (oVar 2) (oCons  (oB2 subD (oCall (gTO) 1 0 [0] [] (oCons  (oVar 1) (Op.ret [])) (Op.ret [])) (Op.ret (.int 1))) (Op.ret []))) (Op.ret []))) (oOr  (oB2 neD (oCall (gBk) 1 0 [0] [] (oCons  (oVar 3) (Op.ret [])) (Op.ret [])) (oCall (gDn) 2 0 [0, 1] [] (oCons  (oVar 3) (oCons  (oB2 subD (oCall (gTI) 1 0 [0] [] (oCons  (oVar 1) (Op.ret [])) (Op.ret [])) (Op.ret (.int 1))) (Op.ret []))) (Op.ret []))) (oB2 neD (oCall (gMv) 2 0 [0, 1] [] (oCons  (oVar 2) (oCons  (oCall (gBk) 1 0 [0] [] (oCons  (oVar 2) (Op.ret [])) (Op.ret [])) (Op.ret []))) (Op.ret [])) (oCall (gPl) 1 0 [0] [] (oCons  (oVar 1) (Op.ret [])) (Op.ret []))))) (oRet  (Op.ret (.bool false))) (Op.ret .nx)))))
theorem in_ok {gPk gOM gIM gBk gDn gTO gTI gMv gPl : List D → Option D} {fP fE : Fw} {c : Nat} {x2 x3 : Slot} {K : Fl → Sto → Prop} {TO TI B C R : List Int} {a b : Int}
    (pk : ∀ q : List Int, q.Perm (rg c) → gPk [tp q] = some (.bool true)) (fp : ∀ kk : D → Prop, (∀ q : List Int, q.Perm (rg c) → kk (tp q)) → fP [potD, .int c] kk) (fe : ∀ kk : D → Prop, kk (.bool true) → fE [potD, .int c] kk)
    (om : gOM [.int c] = some (tp TO)) (im : gIM [.int c] = some (tp TI)) (b1 : gBk [tp TO] = some (tp B)) (b2 : gBk [tp TI] = some (tp C)) (to : gTO [.int c] = some (.int a)) (ti : gTI [.int c] = some (.int b))
    (d1 : gDn [tp TO, .int (a - 1)] = some (tp B)) (d2 : gDn [tp TI, .int (b - 1)] = some (tp C)) (mv : gMv [tp TO, tp B] = some (tp R)) (pl : gPl [.int c] = some (tp R))
    (hk : ∀ y2 y3 : Slot, K .nx [.fz potD, .fz (.int c), y2, y3]) : inB gPk gOM gIM gBk gDn gTO gTI gMv gPl fP fE [.fz potD, .fz (.int c), x2, x3] K := by
  unfold inB
  simp only [wSeq, wIf, wOr, Vl.wNot, wB1, wCons, wCall, wp_bd, wp_ret, lift_ap, gt_ap]
  simp [getF, Vl.getO, ini, pick, runF, Vl.endK, tru, isiD, tyD, subT, leI, ltI, gtI, geI, cmpD, frzAt, slotOf, seqOf, lenQ, addD, subD, modD, mulD, ixD, setsE, mkL, mkT, lstRg, int1, rng1, slQ, intO, catQ, appG, popAtG, listQ, tupQ, allQ, itQ, gmName, wipeE]
  refine fp _ fun q hq => ?_
  simp only [liftF, lift_ap, wp_bd, wp_ret]
  refine ⟨_, pk q hq, ?_⟩
  try simp only [wSeq, wIf, wOr, Vl.wNot, wB1, wCons, wCall, wp_bd, wp_ret, lift_ap, gt_ap]
  try simp [getF, Vl.getO, ini, pick, runF, Vl.endK, tru, isiD, tyD, subT, leI, ltI, gtI, geI, cmpD, frzAt, slotOf, seqOf, lenQ, addD, subD, modD, mulD, ixD, setsE, mkL, mkT, lstRg, int1, rng1, slQ, intO, catQ, appG, popAtG, listQ, tupQ, allQ, itQ, gmName, wipeE]
  try simp only [wSeq, wIf, wOr, Vl.wNot, wB1, wCons, wCall, wp_bd, wp_ret, lift_ap, gt_ap]
  try simp [getF, Vl.getO, ini, pick, runF, Vl.endK, tru, isiD, tyD, subT, leI, ltI, gtI, geI, cmpD, frzAt, slotOf, seqOf, lenQ, addD, subD, modD, mulD, ixD, setsE, mkL, mkT, lstRg, int1, rng1, slQ, intO, catQ, appG, popAtG, listQ, tupQ, allQ, itQ, gmName, wipeE]
  refine fe _ ?_
  try simp only [wSeq, wIf, wOr, Vl.wNot, wB1, wCons, wCall, wp_bd, wp_ret, lift_ap, gt_ap]
  try simp [getF, Vl.getO, ini, pick, runF, Vl.endK, tru, isiD, tyD, subT, leI, ltI, gtI, geI, cmpD, frzAt, slotOf, seqOf, lenQ, addD, subD, modD, mulD, ixD, setsE, mkL, mkT, lstRg, int1, rng1, slQ, intO, catQ, appG, popAtG, listQ, tupQ, allQ, itQ, gmName, wipeE]
  try simp only [lift_ap]
  try simp [getF, Vl.getO, ini, pick, runF, Vl.endK, tru, isiD, tyD, subT, leI, ltI, gtI, geI, cmpD, frzAt, slotOf, seqOf, lenQ, addD, subD, modD, mulD, ixD, setsE, mkL, mkT, lstRg, int1, rng1, slQ, intO, catQ, appG, popAtG, listQ, tupQ, allQ, itQ, gmName, wipeE]
  try simp only [lift_ap]
  simp [getF, Vl.getO, ini, pick, runF, Vl.endK, tru, isiD, tyD, subT, leI, ltI, gtI, geI, cmpD, frzAt, slotOf, seqOf, lenQ, addD, subD, modD, mulD, ixD, setsE, mkL, mkT, lstRg, int1, rng1, slQ, intO, catQ, appG, popAtG, listQ, tupQ, allQ, itQ, gmName, wipeE, om, im, b1, b2, to, ti, d1, d2, mv, pl, neD_tp]
  exact hk _ _
theorem right_gen {gPk gOM gIM gBk gDn gTO gTI gMv gPl : List D → Option D} {fD fP fE : Fw} (hD : DrawG fD) {kk : D → Prop}
    (body : ∀ (c : Nat) (x2 x3 : Slot) (K' : Fl → Sto → Prop), 1 ≤ c ∧ c ≤ 52 → (∀ y2 y3 : Slot, K' .nx [.fz potD, .fz (.int c), y2, y3]) → inB gPk gOM gIM gBk gDn gTO gTI gMv gPl fP fE [.fz potD, .fz (.int c), x2, x3] K')
    (hk : kk (.bool true)) : WG__law_right fD gPk fP fE gOM gIM gBk gDn gTO gTI gMv gPl (ini ["pot", "cards", "near", "far"] [potD]) (endK false kk) := by
  unfold WG__law_right
  simp only [wSeq, wForS, wB1, wB2, wCons, wCall, wp_bd, wp_ret, lift_ap, gt_ap]
  simp [getF, Vl.getO, ini, pick, runF, Vl.endK, tru, isiD, tyD, subT, leI, ltI, gtI, geI, cmpD, frzAt, slotOf, seqOf, lenQ, addD, subD, modD, mulD, ixD, setsE, mkL, mkT, lstRg, int1, rng1, slQ, intO, catQ, appG, popAtG, listQ, tupQ, allQ, itQ, gmName, wipeE]
  refine hD _ _ (by omega) fun d1 h1 h2 => ?_
  try simp only [wForS, wB1, wB2, wCons, wCall, wp_bd, wp_ret, lift_ap, gt_ap]
  try simp [getF, Vl.getO, ini, pick, runF, Vl.endK, tru, isiD, tyD, subT, leI, ltI, gtI, geI, cmpD, frzAt, slotOf, seqOf, lenQ, addD, subD, modD, mulD, ixD, setsE, mkL, mkT, lstRg, int1, rng1, slQ, intO, catQ, appG, popAtG, listQ, tupQ, allQ, itQ, gmName, wipeE]
  try simp only [wForS, wB1, wB2, wCons, wCall, wp_bd, wp_ret, lift_ap, gt_ap]
  try simp [getF, Vl.getO, ini, pick, runF, Vl.endK, tru, isiD, tyD, subT, leI, ltI, gtI, geI, cmpD, frzAt, slotOf, seqOf, lenQ, addD, subD, modD, mulD, ixD, setsE, mkL, mkT, lstRg, int1, rng1, slQ, intO, catQ, appG, popAtG, listQ, tupQ, allQ, itQ, gmName, wipeE]
  refine hD _ _ (by omega) fun d2 h3 h4 => ?_
  try simp only [wForS, wB1, wB2, wCons, wCall, wp_bd, wp_ret, lift_ap, gt_ap]
  try simp [getF, Vl.getO, ini, pick, runF, Vl.endK, tru, isiD, tyD, subT, leI, ltI, gtI, geI, cmpD, frzAt, slotOf, seqOf, lenQ, addD, subD, modD, mulD, ixD, setsE, mkL, mkT, lstRg, int1, rng1, slQ, intO, catQ, appG, popAtG, listQ, tupQ, allQ, itQ, gmName, wipeE, lim]
  have e1 : (1 : Int) + d1 = ((1 + d1.toNat : Nat) : Int) := by omega
  have e2 : (1 : Int) + d2 = ((1 + d2.toNat : Nat) : Int) := by omega
  rw [e1, e2]
  refine ⟨_, rfl, ?_⟩
  refine body _ _ _ _ (by omega) fun y2 y3 => ?_
  refine ⟨_, rfl, ?_⟩
  refine body _ _ _ _ (by omega) fun y2 y3 => ?_
  exact ⟨_, rfl, hk⟩
end Wk
namespace Wk
open PySem PySem.Spec PyProof.Rows L2 Vl
section
variable {c : Nat} (hc : 1 ≤ c ∧ c ≤ 52)
include hc
theorem t7 : R_times_out [.int c] = some (.int (toT c)) ∧ R_done [tp (outT c), .int (toT c - 1)] = some (tp (boT c)) := by
  have h := all52 chk7_ok hc
  simp only [chk7, Bool.and_eq_true] at h
  exact ⟨isI_eq h.1, isTp_eq h.2⟩
theorem t8 : R_times_in [.int c] = some (.int (tiT c)) ∧ R_done [tp (inT c), .int (tiT c - 1)] = some (tp (biT c)) := by
  have h := all52 chk8_ok hc
  simp only [chk8, Bool.and_eq_true] at h
  exact ⟨isI_eq h.1, isTp_eq h.2⟩
theorem t9 (h0 : c % 2 = 0) (h5 : c ≤ 50) : outT ((c : Int) + 2) = wid c (inT c) ∧ R_times_out [.int ((c : Int) + 2)] = some (.int (tiT c)) ∧ R_is_lot_of [tp (lotT c), .int ((c : Int) + 2)] = some (.bool true) := by
  have h := all52 chk9_ok hc
  simp only [chk9, Bool.and_eq_true, Bool.or_eq_true, decide_eq_true_eq] at h
  rcases h with (h | h) | h
  · omega
  · omega
  · exact ⟨h.1.1, isI_eq h.1.2, isB_eq h.2⟩
theorem plain_ok : R_plain [.int c] = some (tp (rg c)) := by
  have o1 : rgOk (0, (c : Int)) := ⟨by omega, by omega, by omega, by show ((c : Int) - 0).toNat ≤ 10000000; omega⟩
  simp [getF, Vl.getO, ini, pick, runF, Vl.endK, tru, isiD, tyD, subT, leI, ltI, gtI, geI, cmpD, frzAt, slotOf, seqOf, lenQ, addD, subD, modD, ixD, setsE, mkL, mkT, lstRg, int1, rng1, slQ, intO, catQ, appG, listQ, tupQ, allQ, itQ, gmName, wipeE, R_plain, O_plain, OG_plain, want_cards_ok (c := c) (by omega), R_still_of, O_still_of, OG_still_of, tupRg, o1, rngL_rg]
theorem only_ok (h5 : c ≤ 50) (h0 : c % 2 = 0) {q : List Int} (hq : Pk c q) : R_only [tp (wid c q), tp (lotT c)] = some (tp q) := by
  have w := wid_pk hq
  have g := only_gen (gW := R_want_pack) (gL := R_is_lot_of) (c := c) (by omega) (w := wid c q) (by rw [w.len]; omega) (want_pack_ok (c := c + 2) (by omega) w) (by
    rw [w.len, show ((c + 2 : Nat) : Int) = (c : Int) + 2 by omega]
    exact (t9 hc h0 h5).2.2)
  rw [only_wid hq] at g
  exact g
theorem one_pk : Pk 1 [0] := ⟨rfl, by simp [getF, Vl.getO, ini, pick, runF, Vl.endK, tru, isiD, tyD, subT, leI, ltI, gtI, geI, cmpD, frzAt, slotOf, seqOf, lenQ, addD, subD, modD, ixD, setsE, mkL, mkT, lstRg, int1, rng1, slQ, intO, catQ, appG, listQ, tupQ, allQ, itQ, gmName, wipeE], fun i hi => by have := List.mem_singleton.mp hi; omega⟩
theorem laid_ok (h5 : c ≤ 50) {q : List Int} (hq : Pk c q) : R_laid_on [tp [0], tp q] = some (tp (0 :: upL q)) :=
  laid_gen (gW := R_want_pack) (c := c) (by omega) hq.len (want_pack_ok (c := 1) (by omega) (one_pk hc)) (want_pack_ok hc hq)
theorem ends_ok {kk : D → Prop} (hk : kk (.bool true)) : fw__law_ends_right [potD, .int c] kk := by
  refine ends_gen (fP := fw__law_pack) (gIM := R_in_move) (gOM := R_out_move) (gTO := R_times_out) (gTI := R_times_in) (gOS := R_out_shuffled) (gOn := R_only) (gIS := R_in_shuffled) (gLa := R_laid_on) hc (TI := inT c) (lot := []) (t := tiT c) (fun kk h => pack37 (by omega) h) (in_move_ok hc) (t1 hc).2.2.len (fun h0 h5 => ⟨?_, (t9 hc h0 h5).2.1, (t8 hc).1, fun q hq => ⟨wid c (cmp (inT c) q), cmp (inT c) q, ?_, only_ok hc h5 h0 ((t1 hc).2.2.comp (pk_perm hq)), in_shuffled_ok hc (pk_perm hq), laid_ok hc h5 (pk_perm hq)⟩⟩) hk
  · have h := out_move_ok (c := c + 2) (by omega)
    rw [show ((c + 2 : Nat) : Int) = (c : Int) + 2 by omega, (t9 hc h0 h5).1] at h
    exact h
  · have h := out_shuffled_ok (c := c + 2) (by omega) (wid_pk (pk_perm hq))
    rw [show ((c + 2 : Nat) : Int) = (c : Int) + 2 by omega, (t9 hc h0 h5).1, cmp_wid (t1 hc).2.2 (pk_perm hq)] at h
    exact h
omit hc in
theorem bk_gen {gW gB : List D → Option D} {T B : List Int} (w : gW [tp T] = some .none) (b : gB [tp T] = some (tp B)) : runF ["move"] false (OG_back gW gB) [tp T] = some (tp B) := by
  simp [getF, Vl.getO, ini, pick, runF, Vl.endK, tru, isiD, tyD, subT, leI, ltI, gtI, geI, cmpD, frzAt, slotOf, seqOf, lenQ, addD, subD, modD, ixD, setsE, mkL, mkT, lstRg, int1, rng1, slQ, intO, catQ, appG, listQ, tupQ, allQ, itQ, gmName, wipeE, OG_back, w, b]
theorem back_out_ok : R_back [tp (outT c)] = some (tp (boT c)) := bk_gen (want_move_ok hc (t1 hc).2.1) (t2 hc).1.1
theorem mv_ok : R_moved [tp (outT c), tp (boT c)] = some (tp (rg c)) := by
  rw [moved_ok hc (t1 hc).2.1 (t2 hc).2.1, (t3 hc).2.2.1]
end
theorem right_ok {kk : D → Prop} (hk : kk (.bool true)) : fw__law_right [potD] kk := by
  refine right_gen (gPk := R__law_pack_right) (gOM := R_out_move) (gIM := R_in_move) (gBk := R_back) (gDn := R_done) (gTO := R_times_out) (gTI := R_times_in) (gMv := R_moved) (gPl := R_plain) (fD := fw__law_draw) (fP := fw__law_pack) (fE := fw__law_ends_right) drawG_ok (fun c x2 x3 K' hc h => ?_) hk
  exact in_ok (fun q hq => pack_right_ok hc (pk_perm hq)) (fun kk h => pack37 (by omega) h) (fun kk h => ends_ok hc h) (out_move_ok hc) (in_move_ok hc) (back_out_ok hc) (back_in_ok hc) (t7 hc).1 (t8 hc).1 (t7 hc).2 (t8 hc).2 (mv_ok hc) (plain_ok hc) h
theorem law_gen {gPot : List D → Option D} {fR : Fw} {ns : List Int} {kk : D → Prop} (pot : ∀ k : Nat, k ≤ 100 → gPot [scrD ns, .int k] = some potD) (hR : ∀ k : D → Prop, k (.bool true) → fR [potD] k) (hk : kk (.bool true)) :
    WG_law fR gPot (ini ["script", "k"] [scrD ns]) (endK false kk) := by
  unfold WG_law
  have run : ∀ (xs : List D) (K : List D → Prop), (∀ x ∈ xs, ∃ j : Nat, j ≤ 100 ∧ x = .int j) → (∀ bs : List Bool, (∀ b ∈ bs, b = true) → K (bs.map .bool)) → wRun (wEl (gmName 1) (lift (Op.ret true)) (wCall fR 1 0 [0] [] (lift (oCons  (oCall (gPot) 2 0 [0, 1] [] (oCons  (oVar 0) (oCons  (oVar 1) (Op.ret []))) (Op.ret [])) (Op.ret []))) (Wp.ret [])) [.fz (scrD ns), .un]) xs K := by
    intro xs
    induction xs with
    | nil => intro K _ h; exact h [] (by simp [getF, Vl.getO, ini, pick, runF, Vl.endK, tru, isiD, tyD, subT, leI, ltI, gtI, geI, cmpD, frzAt, slotOf, seqOf, lenQ, addD, subD, modD, ixD, setsE, mkL, mkT, lstRg, int1, rng1, slQ, intO, catQ, appG, listQ, tupQ, allQ, itQ, gmName, wipeE])
    | cons x xs ih =>
      intro K hx h
      obtain ⟨j, hj, rfl⟩ := hx x List.mem_cons_self
      rw [wRun]
      refine ⟨_, rfl, ?_⟩
      have p := pot j hj
      simp only [wCall, lift_ap, wp_ret, wp_bd]
      simp [getF, Vl.getO, ini, pick, runF, Vl.endK, tru, isiD, tyD, subT, leI, ltI, gtI, geI, cmpD, frzAt, slotOf, seqOf, lenQ, addD, subD, modD, ixD, setsE, mkL, mkT, lstRg, int1, rng1, slQ, intO, catQ, appG, listQ, tupQ, allQ, itQ, gmName, wipeE, p]
      refine hR _ (ih _ (fun y hy => hx y (List.mem_cons_of_mem _ hy)) fun bs hb => ?_)
      have := h (true :: bs) (fun b hb' => (List.mem_cons.mp hb').elim _root_.id (hb b))
      simpa [getF, Vl.getO, ini, pick, runF, Vl.endK, tru, isiD, tyD, subT, leI, ltI, gtI, geI, cmpD, frzAt, slotOf, seqOf, lenQ, addD, subD, modD, ixD, setsE, mkL, mkT, lstRg, int1, rng1, slQ, intO, catQ, appG, listQ, tupQ, allQ, itQ, gmName, wipeE] using this
  have o1 : (if (if (ns.length : Int) < 3 then (ns.length : Int) else 3) > 1 then (if (ns.length : Int) < 3 then (ns.length : Int) else 3) else 1) ≤ 10000000 ∧ -10000000 ≤ (if (if (ns.length : Int) < 3 then (ns.length : Int) else 3) > 1 then (if (ns.length : Int) < 3 then (ns.length : Int) else 3) else 1) := by
    split <;> split <;> omega
  simp only [wRet, wQ1, wQ, wLc, wp_bd, wp_ret, lift_ap, gt_ap]
  simp [getF, Vl.getO, ini, pick, runF, Vl.endK, tru, isiD, tyD, subT, leI, ltI, gtI, geI, cmpD, frzAt, slotOf, seqOf, lenQ, addD, subD, modD, ixD, setsE, mkL, mkT, lstRg, int1, rng1, slQ, intO, catQ, appG, listQ, tupQ, allQ, itQ, gmName, wipeE, maxF, minF, scrLen, scrI_D] at o1 ⊢
  have o2 : (if 1 < if (ns.length : Int) < 3 then (ns.length : Int) else 3 then if (ns.length : Int) < 3 then (ns.length : Int) else 3 else 1).toNat ≤ 3 := by
    split <;> split <;> omega
  generalize (if 1 < if (ns.length : Int) < 3 then (ns.length : Int) else 3 then if (ns.length : Int) < 3 then (ns.length : Int) else 3 else 1) = N at o1 o2 ⊢
  simp [getF, Vl.getO, ini, pick, runF, Vl.endK, tru, isiD, tyD, subT, leI, ltI, gtI, geI, cmpD, frzAt, slotOf, seqOf, lenQ, addD, subD, modD, ixD, setsE, mkL, mkT, lstRg, int1, rng1, slQ, intO, catQ, appG, listQ, tupQ, allQ, itQ, gmName, wipeE, o1]
  refine ⟨?_, run _ _ (fun x hx => ?_) fun bs hb => ?_⟩
  · simp [getF, Vl.getO, ini, pick, runF, Vl.endK, tru, isiD, tyD, subT, leI, ltI, gtI, geI, cmpD, frzAt, slotOf, seqOf, lenQ, addD, subD, modD, ixD, setsE, mkL, mkT, lstRg, int1, rng1, slQ, intO, catQ, appG, listQ, tupQ, allQ, itQ, gmName, wipeE, rngL_rg, rg_len, lim]; omega
  · rw [rngL_rg] at hx
    obtain ⟨j, hj, rfl⟩ := List.mem_map.mp hx
    have := rg_mem.mp hj
    exact ⟨j.toNat, by omega, by rw [Int.toNat_of_nonneg (by omega)]⟩
  · rw [truA_of]
    have e : bs.all _root_.id = true := by simpa [getF, Vl.getO, ini, pick, runF, Vl.endK, tru, isiD, tyD, subT, leI, ltI, gtI, geI, cmpD, frzAt, slotOf, seqOf, lenQ, addD, subD, modD, ixD, setsE, mkL, mkT, lstRg, int1, rng1, slQ, intO, catQ, appG, listQ, tupQ, allQ, itQ, gmName, wipeE] using hb
    simp [getF, Vl.getO, ini, pick, runF, Vl.endK, tru, isiD, tyD, subT, leI, ltI, gtI, geI, cmpD, frzAt, slotOf, seqOf, lenQ, addD, subD, modD, ixD, setsE, mkL, mkT, lstRg, int1, rng1, slQ, intO, catQ, appG, listQ, tupQ, allQ, itQ, gmName, wipeE, e]
    exact hk
theorem plain (ns : List Int) (hl : ns.length ≤ 63) : fw_law [scrD ns] fun d => d = .bool true :=
  law_gen (gPot := R__law_pot) (fR := fw__law_right) (fun k hk => pot37 hk) (fun k h => right_ok h) rfl
end Wk
namespace Wk
open PySem PySem.Spec PyProof.Rows L2 Vl
/-! ### the head -/
def dd__law_draw : He.DefD := ⟨("_law_draw", none), "_law_draw", "_law_draw", defArgs st__law_draw, defBody st__law_draw, defScope st__law_draw, [], []⟩
def dd_is_integer : He.DefD := ⟨("is_integer", none), "is_integer", "is_integer", defArgs st_is_integer, defBody st_is_integer, defScope st_is_integer, [], []⟩
def dd_is_within : He.DefD := ⟨("is_within", none), "is_within", "is_within", defArgs st_is_within, defBody st_is_within, defScope st_is_within, [], []⟩
def dd_is_pack_value : He.DefD := ⟨("is_pack_value", none), "is_pack_value", "is_pack_value", defArgs st_is_pack_value, defBody st_is_pack_value, defScope st_is_pack_value, [], []⟩
def dd_want_pack : He.DefD := ⟨("want_pack", none), "want_pack", "want_pack", defArgs st_want_pack, defBody st_want_pack, defScope st_want_pack, [], []⟩
def dd_moved_of : He.DefD := ⟨("moved_of", none), "moved_of", "moved_of", defArgs st_moved_of, defBody st_moved_of, defScope st_moved_of, [], []⟩
def dd_back_of : He.DefD := ⟨("back_of", none), "back_of", "back_of", defArgs st_back_of, defBody st_back_of, defScope st_back_of, [], []⟩
def dd_laid : He.DefD := ⟨("laid", none), "laid", "laid", defArgs st_laid, defBody st_laid, defScope st_laid, [], []⟩
def dd_out_of : He.DefD := ⟨("out_of", none), "out_of", "out_of", defArgs st_out_of, defBody st_out_of, defScope st_out_of, [], []⟩
def dd_out_undone : He.DefD := ⟨("out_undone", none), "out_undone", "out_undone", defArgs st_out_undone, defBody st_out_undone, defScope st_out_undone, [], []⟩
def dd_in_of : He.DefD := ⟨("in_of", none), "in_of", "in_of", defArgs st_in_of, defBody st_in_of, defScope st_in_of, [], []⟩
def dd_in_undone : He.DefD := ⟨("in_undone", none), "in_undone", "in_undone", defArgs st_in_undone, defBody st_in_undone, defScope st_in_undone, [], []⟩
def dd_out_shuffled : He.DefD := ⟨("out_shuffled", none), "out_shuffled", "out_shuffled", defArgs st_out_shuffled, defBody st_out_shuffled, defScope st_out_shuffled, [], []⟩
def dd_in_shuffled : He.DefD := ⟨("in_shuffled", none), "in_shuffled", "in_shuffled", defArgs st_in_shuffled, defBody st_in_shuffled, defScope st_in_shuffled, [], []⟩
def dd_want_heaps : He.DefD := ⟨("want_heaps", none), "want_heaps", "want_heaps", defArgs st_want_heaps, defBody st_want_heaps, defScope st_want_heaps, [], []⟩
def dd_dealt_of : He.DefD := ⟨("dealt_of", none), "dealt_of", "dealt_of", defArgs st_dealt_of, defBody st_dealt_of, defScope st_dealt_of, [], []⟩
def dd_dealt : He.DefD := ⟨("dealt", none), "dealt", "dealt", defArgs st_dealt, defBody st_dealt, defScope st_dealt, [], []⟩
def dd_turned : He.DefD := ⟨("turned", none), "turned", "turned", defArgs st_turned, defBody st_turned, defScope st_turned, [], []⟩
def dd_is_list : He.DefD := ⟨("is_list", none), "is_list", "is_list", defArgs st_is_list, defBody st_is_list, defScope st_is_list, [], []⟩
def dd_are_piles_value : He.DefD := ⟨("are_piles_value", none), "are_piles_value", "are_piles_value", defArgs st_are_piles_value, defBody st_are_piles_value, defScope st_are_piles_value, [], []⟩
def dd_want_piles : He.DefD := ⟨("want_piles", none), "want_piles", "want_piles", defArgs st_want_piles, defBody st_want_piles, defScope st_want_piles, [], []⟩
def dd_want_sequence : He.DefD := ⟨("want_sequence", none), "want_sequence", "want_sequence", defArgs st_want_sequence, defBody st_want_sequence, defScope st_want_sequence, [], []⟩
def dd_gathered_of : He.DefD := ⟨("gathered_of", none), "gathered_of", "gathered_of", defArgs st_gathered_of, defBody st_gathered_of, defScope st_gathered_of, [], []⟩
def dd_gathered : He.DefD := ⟨("gathered", none), "gathered", "gathered", defArgs st_gathered, defBody st_gathered, defScope st_gathered, [], []⟩
def dd_want_many : He.DefD := ⟨("want_many", none), "want_many", "want_many", defArgs st_want_many, defBody st_want_many, defScope st_want_many, [], []⟩
def dd_cut : He.DefD := ⟨("cut", none), "cut", "cut", defArgs st_cut, defBody st_cut, defScope st_cut, [], []⟩
def dd__law_pack_right : He.DefD := ⟨("_law_pack_right", none), "_law_pack_right", "_law_pack_right", defArgs st__law_pack_right, defBody st__law_pack_right, defScope st__law_pack_right, [], []⟩
def dd__law_mixed : He.DefD := ⟨("_law_mixed", none), "_law_mixed", "_law_mixed", defArgs st__law_mixed, defBody st__law_mixed, defScope st__law_mixed, [], []⟩
def dd__law_pack : He.DefD := ⟨("_law_pack", none), "_law_pack", "_law_pack", defArgs st__law_pack, defBody st__law_pack, defScope st__law_pack, [], []⟩
def dd_want_cards : He.DefD := ⟨("want_cards", none), "want_cards", "want_cards", defArgs st_want_cards, defBody st_want_cards, defScope st_want_cards, [], []⟩
def dd_in_move : He.DefD := ⟨("in_move", none), "in_move", "in_move", defArgs st_in_move, defBody st_in_move, defScope st_in_move, [], []⟩
def dd_out_move : He.DefD := ⟨("out_move", none), "out_move", "out_move", defArgs st_out_move, defBody st_out_move, defScope st_out_move, [], []⟩
def dd_rounds_of : He.DefD := ⟨("rounds_of", none), "rounds_of", "rounds_of", defArgs st_rounds_of, defBody st_rounds_of, defScope st_rounds_of, [], []⟩
def dd_common_of : He.DefD := ⟨("common_of", none), "common_of", "common_of", defArgs st_common_of, defBody st_common_of, defScope st_common_of, [], []⟩
def dd_order_of : He.DefD := ⟨("order_of", none), "order_of", "order_of", defArgs st_order_of, defBody st_order_of, defScope st_order_of, [], []⟩
def dd_times_out : He.DefD := ⟨("times_out", none), "times_out", "times_out", defArgs st_times_out, defBody st_times_out, defScope st_times_out, [], []⟩
def dd_times_in : He.DefD := ⟨("times_in", none), "times_in", "times_in", defArgs st_times_in, defBody st_times_in, defScope st_times_in, [], []⟩
def dd_are_rising : He.DefD := ⟨("are_rising", none), "are_rising", "are_rising", defArgs st_are_rising, defBody st_are_rising, defScope st_are_rising, [], []⟩
def dd_is_lot_of : He.DefD := ⟨("is_lot_of", none), "is_lot_of", "is_lot_of", defArgs st_is_lot_of, defBody st_is_lot_of, defScope st_is_lot_of, [], []⟩
def dd_only : He.DefD := ⟨("only", none), "only", "only", defArgs st_only, defBody st_only, defScope st_only, [], []⟩
def dd_laid_on : He.DefD := ⟨("laid_on", none), "laid_on", "laid_on", defArgs st_laid_on, defBody st_laid_on, defScope st_laid_on, [], []⟩
def dd__law_ends_right : He.DefD := ⟨("_law_ends_right", none), "_law_ends_right", "_law_ends_right", defArgs st__law_ends_right, defBody st__law_ends_right, defScope st__law_ends_right, [], []⟩
def dd_want_move : He.DefD := ⟨("want_move", none), "want_move", "want_move", defArgs st_want_move, defBody st_want_move, defScope st_want_move, [], []⟩
def dd_back : He.DefD := ⟨("back", none), "back", "back", defArgs st_back, defBody st_back, defScope st_back, [], []⟩
def dd_is_count : He.DefD := ⟨("is_count", none), "is_count", "is_count", defArgs st_is_count, defBody st_is_count, defScope st_is_count, [], []⟩
def dd_want_times : He.DefD := ⟨("want_times", none), "want_times", "want_times", defArgs st_want_times, defBody st_want_times, defScope st_want_times, [], []⟩
def dd_still_of : He.DefD := ⟨("still_of", none), "still_of", "still_of", defArgs st_still_of, defBody st_still_of, defScope st_still_of, [], []⟩
def dd_power_of : He.DefD := ⟨("power_of", none), "power_of", "power_of", defArgs st_power_of, defBody st_power_of, defScope st_power_of, [], []⟩
def dd_done : He.DefD := ⟨("done", none), "done", "done", defArgs st_done, defBody st_done, defScope st_done, [], []⟩
def dd_want_as_many : He.DefD := ⟨("want_as_many", none), "want_as_many", "want_as_many", defArgs st_want_as_many, defBody st_want_as_many, defScope st_want_as_many, [], []⟩
def dd_moved : He.DefD := ⟨("moved", none), "moved", "moved", defArgs st_moved, defBody st_moved, defScope st_moved, [], []⟩
def dd_plain : He.DefD := ⟨("plain", none), "plain", "plain", defArgs st_plain, defBody st_plain, defScope st_plain, [], []⟩
def dd__law_right : He.DefD := ⟨("_law_right", none), "_law_right", "_law_right", defArgs st__law_right, defBody st__law_right, defScope st__law_right, [], []⟩
def dd__law_pot : He.DefD := ⟨("_law_pot", none), "_law_pot", "_law_pot", defArgs st__law_pot, defBody st__law_pot, defScope st__law_pot, [], []⟩
def dd_law : He.DefD := ⟨("law", none), "law", "law", defArgs st_law, defBody st_law, defScope st_law, [], []⟩
def fnL : List He.DefD := [dd__law_draw, dd_is_integer, dd_is_within, dd_is_pack_value, dd_want_pack, dd_moved_of, dd_back_of, dd_laid, dd_out_of, dd_out_undone, dd_in_of, dd_in_undone, dd_out_shuffled, dd_in_shuffled, dd_want_heaps, dd_dealt_of, dd_dealt, dd_turned, dd_is_list, dd_are_piles_value, dd_want_piles, dd_want_sequence, dd_gathered_of, dd_gathered, dd_want_many, dd_cut, dd__law_pack_right, dd__law_mixed, dd__law_pack, dd_want_cards, dd_in_move, dd_out_move, dd_rounds_of, dd_common_of, dd_order_of, dd_times_out, dd_times_in, dd_are_rising, dd_is_lot_of, dd_only, dd_laid_on, dd__law_ends_right, dd_want_move, dd_back, dd_is_count, dd_want_times, dd_still_of, dd_power_of, dd_done, dd_want_as_many, dd_moved, dd_plain, dd__law_right, dd__law_pot, dd_law]
def faL : List He.Fa := [.glo "_law_draw", .glo "is_integer", .glo "is_within", .glo "is_pack_value", .glo "want_pack", .glo "moved_of", .glo "back_of", .glo "laid", .glo "out_of", .glo "out_undone", .glo "in_of", .glo "in_undone", .glo "out_shuffled", .glo "in_shuffled", .glo "want_heaps", .glo "dealt_of", .glo "dealt", .glo "turned", .glo "is_list", .glo "are_piles_value", .glo "want_piles", .glo "want_sequence", .glo "gathered_of", .glo "gathered", .glo "want_many", .glo "cut", .glo "_law_pack_right", .glo "_law_mixed", .glo "_law_pack", .glo "want_cards", .glo "in_move", .glo "out_move", .glo "rounds_of", .glo "common_of", .glo "order_of", .glo "times_out", .glo "times_in", .glo "are_rising", .glo "is_lot_of", .glo "only", .glo "laid_on", .glo "_law_ends_right", .glo "want_move", .glo "back", .glo "is_count", .glo "want_times", .glo "still_of", .glo "power_of", .glo "done", .glo "want_as_many", .glo "moved", .glo "plain", .glo "_law_right", .glo "_law_pot", .glo "law", .free "abs", .free "all", .free "bool", .free "divmod", .free "enumerate", .free "int", .free "isinstance", .free "len", .free "list", .free "max", .free "min", .free "range", .free "repr", .free "set", .free "tuple", .free "zip", .int "MOST_CARDS" 52]
abbrev R : PySem.W.OpenRow := PySem.W.OpenLaw.row PySem.Challenge.rw_cardpacks_k37_whole_shuffles_done_back_a
abbrev hk : PySem.W.Hook := He.hookD 4 faL fnL
def ob (s : PySem.W.SharedT) : He.AlD := He.obsDG 4 faL fnL (HandSHeadRun.getT s)
theorem ob_eq (s : PySem.W.SharedT) : ob s = hk.obs s.abs := He.obsDG_eq (HandSHeadRun.getT_eq s)
def loose : List Str := (["is_integer", "is_within", "is_count", "is_list", "are_rising", "is_lot_of", "PackError", "StateError", "LimitError", "InvalidPack", "InvalidMove", "InvalidCards", "InvalidTimes", "InvalidMany", "InvalidLot", "InvalidPiles", "InvalidSequence", "UnlikeCards", "TooMany", "MOST_CARDS", "is_pack_value", "want_pack", "want_move", "want_as_many", "want_cards", "want_times", "want_many", "still_of", "moved_of", "back_of"] : List Str) ++ (["power_of", "rounds_of", "common_of", "order_of", "plain", "moved", "back", "done", "cut", "turned", "laid", "out_of", "in_of", "out_move", "in_move", "out_shuffled", "in_shuffled", "out_undone", "in_undone", "times_out", "times_in", "are_piles_value", "want_piles", "want_heaps", "want_sequence", "dealt_of", "gathered_of", "dealt", "gathered", "laid_on"] : List Str) ++ (["only", "_law_pot", "_law_draw", "_law_pick", "_law_mixed", "_law_laid", "_law_out", "_law_in", "_law_done", "_law_pack", "_law_order", "_law_is_int", "_law_is_row", "_law_pack_right", "_law_ends_right", "_law_right"] : List Str)
theorem run (w : World) : HandSHeadRun.RunEq R (PySem.W.view R.prog [82]) hk ob 40000 loose w := by
  intro os
  kernel_rfl
theorem facts {P : Program} {w : World} {K : PySem.W.Frag} {h : Heap} {mg : Str → Option Value} {f : Addr} (X : K.In h) (G : h.Ns mainGlobals mg) (hfa : mg ("law" : Str) = some (.ref f)) (c : He.SaysD faL fnL K) :
    ∃ fd : FuncData, (∀ (s : Shared) (v : Value), BindsTo s fd ⟨[v], []⟩ [("script", v)]) ∧ ∀ base : Heap, K.In base → base.Ns mainGlobals mg → FnG P w K mg base 9 f fd ["script"] (spV K false 1 fw_law) := by
  obtain ⟨fd__law_draw, F__law_draw⟩ := c.def_ 0 (d := dd__law_draw) rfl
  have F__law_draw : FD__law_draw K (He.ga K "_law_draw") fd__law_draw := F__law_draw
  have g__law_draw : mg "_law_draw" = some (.ref (He.ga K "_law_draw")) := He.glo_ok X G (c.fact 0 (f := .glo "_law_draw") rfl)
  obtain ⟨fd_is_integer, F_is_integer⟩ := c.def_ 1 (d := dd_is_integer) rfl
  have F_is_integer : FD_is_integer K (He.ga K "is_integer") fd_is_integer := F_is_integer
  have g_is_integer : mg "is_integer" = some (.ref (He.ga K "is_integer")) := He.glo_ok X G (c.fact 1 (f := .glo "is_integer") rfl)
  obtain ⟨fd_is_within, F_is_within⟩ := c.def_ 2 (d := dd_is_within) rfl
  have F_is_within : FD_is_within K (He.ga K "is_within") fd_is_within := F_is_within
  have g_is_within : mg "is_within" = some (.ref (He.ga K "is_within")) := He.glo_ok X G (c.fact 2 (f := .glo "is_within") rfl)
  obtain ⟨fd_is_pack_value, F_is_pack_value⟩ := c.def_ 3 (d := dd_is_pack_value) rfl
  have F_is_pack_value : FD_is_pack_value K (He.ga K "is_pack_value") fd_is_pack_value := F_is_pack_value
  have g_is_pack_value : mg "is_pack_value" = some (.ref (He.ga K "is_pack_value")) := He.glo_ok X G (c.fact 3 (f := .glo "is_pack_value") rfl)
  obtain ⟨fd_want_pack, F_want_pack⟩ := c.def_ 4 (d := dd_want_pack) rfl
  have F_want_pack : FD_want_pack K (He.ga K "want_pack") fd_want_pack := F_want_pack
  have g_want_pack : mg "want_pack" = some (.ref (He.ga K "want_pack")) := He.glo_ok X G (c.fact 4 (f := .glo "want_pack") rfl)
  obtain ⟨fd_moved_of, F_moved_of⟩ := c.def_ 5 (d := dd_moved_of) rfl
  have F_moved_of : FD_moved_of K (He.ga K "moved_of") fd_moved_of := F_moved_of
  have g_moved_of : mg "moved_of" = some (.ref (He.ga K "moved_of")) := He.glo_ok X G (c.fact 5 (f := .glo "moved_of") rfl)
  obtain ⟨fd_back_of, F_back_of⟩ := c.def_ 6 (d := dd_back_of) rfl
  have F_back_of : FD_back_of K (He.ga K "back_of") fd_back_of := F_back_of
  have g_back_of : mg "back_of" = some (.ref (He.ga K "back_of")) := He.glo_ok X G (c.fact 6 (f := .glo "back_of") rfl)
  obtain ⟨fd_laid, F_laid⟩ := c.def_ 7 (d := dd_laid) rfl
  have F_laid : FD_laid K (He.ga K "laid") fd_laid := F_laid
  have g_laid : mg "laid" = some (.ref (He.ga K "laid")) := He.glo_ok X G (c.fact 7 (f := .glo "laid") rfl)
  obtain ⟨fd_out_of, F_out_of⟩ := c.def_ 8 (d := dd_out_of) rfl
  have F_out_of : FD_out_of K (He.ga K "out_of") fd_out_of := F_out_of
  have g_out_of : mg "out_of" = some (.ref (He.ga K "out_of")) := He.glo_ok X G (c.fact 8 (f := .glo "out_of") rfl)
  obtain ⟨fd_out_undone, F_out_undone⟩ := c.def_ 9 (d := dd_out_undone) rfl
  have F_out_undone : FD_out_undone K (He.ga K "out_undone") fd_out_undone := F_out_undone
  have g_out_undone : mg "out_undone" = some (.ref (He.ga K "out_undone")) := He.glo_ok X G (c.fact 9 (f := .glo "out_undone") rfl)
  obtain ⟨fd_in_of, F_in_of⟩ := c.def_ 10 (d := dd_in_of) rfl
  have F_in_of : FD_in_of K (He.ga K "in_of") fd_in_of := F_in_of
  have g_in_of : mg "in_of" = some (.ref (He.ga K "in_of")) := He.glo_ok X G (c.fact 10 (f := .glo "in_of") rfl)
  obtain ⟨fd_in_undone, F_in_undone⟩ := c.def_ 11 (d := dd_in_undone) rfl
  have F_in_undone : FD_in_undone K (He.ga K "in_undone") fd_in_undone := F_in_undone
  have g_in_undone : mg "in_undone" = some (.ref (He.ga K "in_undone")) := He.glo_ok X G (c.fact 11 (f := .glo "in_undone") rfl)
  obtain ⟨fd_out_shuffled, F_out_shuffled⟩ := c.def_ 12 (d := dd_out_shuffled) rfl
  have F_out_shuffled : FD_out_shuffled K (He.ga K "out_shuffled") fd_out_shuffled := F_out_shuffled
  have g_out_shuffled : mg "out_shuffled" = some (.ref (He.ga K "out_shuffled")) := He.glo_ok X G (c.fact 12 (f := .glo "out_shuffled") rfl)
  obtain ⟨fd_in_shuffled, F_in_shuffled⟩ := c.def_ 13 (d := dd_in_shuffled) rfl
  have F_in_shuffled : FD_in_shuffled K (He.ga K "in_shuffled") fd_in_shuffled := F_in_shuffled
  have g_in_shuffled : mg "in_shuffled" = some (.ref (He.ga K "in_shuffled")) := He.glo_ok X G (c.fact 13 (f := .glo "in_shuffled") rfl)
  obtain ⟨fd_want_heaps, F_want_heaps⟩ := c.def_ 14 (d := dd_want_heaps) rfl
  have F_want_heaps : FD_want_heaps K (He.ga K "want_heaps") fd_want_heaps := F_want_heaps
  have g_want_heaps : mg "want_heaps" = some (.ref (He.ga K "want_heaps")) := He.glo_ok X G (c.fact 14 (f := .glo "want_heaps") rfl)
  obtain ⟨fd_dealt_of, F_dealt_of⟩ := c.def_ 15 (d := dd_dealt_of) rfl
  have F_dealt_of : FD_dealt_of K (He.ga K "dealt_of") fd_dealt_of := F_dealt_of
  have g_dealt_of : mg "dealt_of" = some (.ref (He.ga K "dealt_of")) := He.glo_ok X G (c.fact 15 (f := .glo "dealt_of") rfl)
  obtain ⟨fd_dealt, F_dealt⟩ := c.def_ 16 (d := dd_dealt) rfl
  have F_dealt : FD_dealt K (He.ga K "dealt") fd_dealt := F_dealt
  have g_dealt : mg "dealt" = some (.ref (He.ga K "dealt")) := He.glo_ok X G (c.fact 16 (f := .glo "dealt") rfl)
  obtain ⟨fd_turned, F_turned⟩ := c.def_ 17 (d := dd_turned) rfl
  have F_turned : FD_turned K (He.ga K "turned") fd_turned := F_turned
  have g_turned : mg "turned" = some (.ref (He.ga K "turned")) := He.glo_ok X G (c.fact 17 (f := .glo "turned") rfl)
  obtain ⟨fd_is_list, F_is_list⟩ := c.def_ 18 (d := dd_is_list) rfl
  have F_is_list : FD_is_list K (He.ga K "is_list") fd_is_list := F_is_list
  have g_is_list : mg "is_list" = some (.ref (He.ga K "is_list")) := He.glo_ok X G (c.fact 18 (f := .glo "is_list") rfl)
  obtain ⟨fd_are_piles_value, F_are_piles_value⟩ := c.def_ 19 (d := dd_are_piles_value) rfl
  have F_are_piles_value : FD_are_piles_value K (He.ga K "are_piles_value") fd_are_piles_value := F_are_piles_value
  have g_are_piles_value : mg "are_piles_value" = some (.ref (He.ga K "are_piles_value")) := He.glo_ok X G (c.fact 19 (f := .glo "are_piles_value") rfl)
  obtain ⟨fd_want_piles, F_want_piles⟩ := c.def_ 20 (d := dd_want_piles) rfl
  have F_want_piles : FD_want_piles K (He.ga K "want_piles") fd_want_piles := F_want_piles
  have g_want_piles : mg "want_piles" = some (.ref (He.ga K "want_piles")) := He.glo_ok X G (c.fact 20 (f := .glo "want_piles") rfl)
  obtain ⟨fd_want_sequence, F_want_sequence⟩ := c.def_ 21 (d := dd_want_sequence) rfl
  have F_want_sequence : FD_want_sequence K (He.ga K "want_sequence") fd_want_sequence := F_want_sequence
  have g_want_sequence : mg "want_sequence" = some (.ref (He.ga K "want_sequence")) := He.glo_ok X G (c.fact 21 (f := .glo "want_sequence") rfl)
  obtain ⟨fd_gathered_of, F_gathered_of⟩ := c.def_ 22 (d := dd_gathered_of) rfl
  have F_gathered_of : FD_gathered_of K (He.ga K "gathered_of") fd_gathered_of := F_gathered_of
  have g_gathered_of : mg "gathered_of" = some (.ref (He.ga K "gathered_of")) := He.glo_ok X G (c.fact 22 (f := .glo "gathered_of") rfl)
  obtain ⟨fd_gathered, F_gathered⟩ := c.def_ 23 (d := dd_gathered) rfl
  have F_gathered : FD_gathered K (He.ga K "gathered") fd_gathered := F_gathered
  have g_gathered : mg "gathered" = some (.ref (He.ga K "gathered")) := He.glo_ok X G (c.fact 23 (f := .glo "gathered") rfl)
  obtain ⟨fd_want_many, F_want_many⟩ := c.def_ 24 (d := dd_want_many) rfl
  have F_want_many : FD_want_many K (He.ga K "want_many") fd_want_many := F_want_many
  have g_want_many : mg "want_many" = some (.ref (He.ga K "want_many")) := He.glo_ok X G (c.fact 24 (f := .glo "want_many") rfl)
  obtain ⟨fd_cut, F_cut⟩ := c.def_ 25 (d := dd_cut) rfl
  have F_cut : FD_cut K (He.ga K "cut") fd_cut := F_cut
  have g_cut : mg "cut" = some (.ref (He.ga K "cut")) := He.glo_ok X G (c.fact 25 (f := .glo "cut") rfl)
  obtain ⟨fd__law_pack_right, F__law_pack_right⟩ := c.def_ 26 (d := dd__law_pack_right) rfl
  have F__law_pack_right : FD__law_pack_right K (He.ga K "_law_pack_right") fd__law_pack_right := F__law_pack_right
  have g__law_pack_right : mg "_law_pack_right" = some (.ref (He.ga K "_law_pack_right")) := He.glo_ok X G (c.fact 26 (f := .glo "_law_pack_right") rfl)
  obtain ⟨fd__law_mixed, F__law_mixed⟩ := c.def_ 27 (d := dd__law_mixed) rfl
  have F__law_mixed : FD__law_mixed K (He.ga K "_law_mixed") fd__law_mixed := F__law_mixed
  have g__law_mixed : mg "_law_mixed" = some (.ref (He.ga K "_law_mixed")) := He.glo_ok X G (c.fact 27 (f := .glo "_law_mixed") rfl)
  obtain ⟨fd__law_pack, F__law_pack⟩ := c.def_ 28 (d := dd__law_pack) rfl
  have F__law_pack : FD__law_pack K (He.ga K "_law_pack") fd__law_pack := F__law_pack
  have g__law_pack : mg "_law_pack" = some (.ref (He.ga K "_law_pack")) := He.glo_ok X G (c.fact 28 (f := .glo "_law_pack") rfl)
  obtain ⟨fd_want_cards, F_want_cards⟩ := c.def_ 29 (d := dd_want_cards) rfl
  have F_want_cards : FD_want_cards K (He.ga K "want_cards") fd_want_cards := F_want_cards
  have g_want_cards : mg "want_cards" = some (.ref (He.ga K "want_cards")) := He.glo_ok X G (c.fact 29 (f := .glo "want_cards") rfl)
  obtain ⟨fd_in_move, F_in_move⟩ := c.def_ 30 (d := dd_in_move) rfl
  have F_in_move : FD_in_move K (He.ga K "in_move") fd_in_move := F_in_move
  have g_in_move : mg "in_move" = some (.ref (He.ga K "in_move")) := He.glo_ok X G (c.fact 30 (f := .glo "in_move") rfl)
  obtain ⟨fd_out_move, F_out_move⟩ := c.def_ 31 (d := dd_out_move) rfl
  have F_out_move : FD_out_move K (He.ga K "out_move") fd_out_move := F_out_move
  have g_out_move : mg "out_move" = some (.ref (He.ga K "out_move")) := He.glo_ok X G (c.fact 31 (f := .glo "out_move") rfl)
  obtain ⟨fd_rounds_of, F_rounds_of⟩ := c.def_ 32 (d := dd_rounds_of) rfl
  have F_rounds_of : FD_rounds_of K (He.ga K "rounds_of") fd_rounds_of := F_rounds_of
  have g_rounds_of : mg "rounds_of" = some (.ref (He.ga K "rounds_of")) := He.glo_ok X G (c.fact 32 (f := .glo "rounds_of") rfl)
  obtain ⟨fd_common_of, F_common_of⟩ := c.def_ 33 (d := dd_common_of) rfl
  have F_common_of : FD_common_of K (He.ga K "common_of") fd_common_of := F_common_of
  have g_common_of : mg "common_of" = some (.ref (He.ga K "common_of")) := He.glo_ok X G (c.fact 33 (f := .glo "common_of") rfl)
  obtain ⟨fd_order_of, F_order_of⟩ := c.def_ 34 (d := dd_order_of) rfl
  have F_order_of : FD_order_of K (He.ga K "order_of") fd_order_of := F_order_of
  have g_order_of : mg "order_of" = some (.ref (He.ga K "order_of")) := He.glo_ok X G (c.fact 34 (f := .glo "order_of") rfl)
  obtain ⟨fd_times_out, F_times_out⟩ := c.def_ 35 (d := dd_times_out) rfl
  have F_times_out : FD_times_out K (He.ga K "times_out") fd_times_out := F_times_out
  have g_times_out : mg "times_out" = some (.ref (He.ga K "times_out")) := He.glo_ok X G (c.fact 35 (f := .glo "times_out") rfl)
  obtain ⟨fd_times_in, F_times_in⟩ := c.def_ 36 (d := dd_times_in) rfl
  have F_times_in : FD_times_in K (He.ga K "times_in") fd_times_in := F_times_in
  have g_times_in : mg "times_in" = some (.ref (He.ga K "times_in")) := He.glo_ok X G (c.fact 36 (f := .glo "times_in") rfl)
  obtain ⟨fd_are_rising, F_are_rising⟩ := c.def_ 37 (d := dd_are_rising) rfl
  have F_are_rising : FD_are_rising K (He.ga K "are_rising") fd_are_rising := F_are_rising
  have g_are_rising : mg "are_rising" = some (.ref (He.ga K "are_rising")) := He.glo_ok X G (c.fact 37 (f := .glo "are_rising") rfl)
  obtain ⟨fd_is_lot_of, F_is_lot_of⟩ := c.def_ 38 (d := dd_is_lot_of) rfl
  have F_is_lot_of : FD_is_lot_of K (He.ga K "is_lot_of") fd_is_lot_of := F_is_lot_of
  have g_is_lot_of : mg "is_lot_of" = some (.ref (He.ga K "is_lot_of")) := He.glo_ok X G (c.fact 38 (f := .glo "is_lot_of") rfl)
  obtain ⟨fd_only, F_only⟩ := c.def_ 39 (d := dd_only) rfl
  have F_only : FD_only K (He.ga K "only") fd_only := F_only
  have g_only : mg "only" = some (.ref (He.ga K "only")) := He.glo_ok X G (c.fact 39 (f := .glo "only") rfl)
  obtain ⟨fd_laid_on, F_laid_on⟩ := c.def_ 40 (d := dd_laid_on) rfl
  have F_laid_on : FD_laid_on K (He.ga K "laid_on") fd_laid_on := F_laid_on
  have g_laid_on : mg "laid_on" = some (.ref (He.ga K "laid_on")) := He.glo_ok X G (c.fact 40 (f := .glo "laid_on") rfl)
  obtain ⟨fd__law_ends_right, F__law_ends_right⟩ := c.def_ 41 (d := dd__law_ends_right) rfl
  have F__law_ends_right : FD__law_ends_right K (He.ga K "_law_ends_right") fd__law_ends_right := F__law_ends_right
  have g__law_ends_right : mg "_law_ends_right" = some (.ref (He.ga K "_law_ends_right")) := He.glo_ok X G (c.fact 41 (f := .glo "_law_ends_right") rfl)
  obtain ⟨fd_want_move, F_want_move⟩ := c.def_ 42 (d := dd_want_move) rfl
  have F_want_move : FD_want_move K (He.ga K "want_move") fd_want_move := F_want_move
  have g_want_move : mg "want_move" = some (.ref (He.ga K "want_move")) := He.glo_ok X G (c.fact 42 (f := .glo "want_move") rfl)
  obtain ⟨fd_back, F_back⟩ := c.def_ 43 (d := dd_back) rfl
  have F_back : FD_back K (He.ga K "back") fd_back := F_back
  have g_back : mg "back" = some (.ref (He.ga K "back")) := He.glo_ok X G (c.fact 43 (f := .glo "back") rfl)
  obtain ⟨fd_is_count, F_is_count⟩ := c.def_ 44 (d := dd_is_count) rfl
  have F_is_count : FD_is_count K (He.ga K "is_count") fd_is_count := F_is_count
  have g_is_count : mg "is_count" = some (.ref (He.ga K "is_count")) := He.glo_ok X G (c.fact 44 (f := .glo "is_count") rfl)
  obtain ⟨fd_want_times, F_want_times⟩ := c.def_ 45 (d := dd_want_times) rfl
  have F_want_times : FD_want_times K (He.ga K "want_times") fd_want_times := F_want_times
  have g_want_times : mg "want_times" = some (.ref (He.ga K "want_times")) := He.glo_ok X G (c.fact 45 (f := .glo "want_times") rfl)
  obtain ⟨fd_still_of, F_still_of⟩ := c.def_ 46 (d := dd_still_of) rfl
  have F_still_of : FD_still_of K (He.ga K "still_of") fd_still_of := F_still_of
  have g_still_of : mg "still_of" = some (.ref (He.ga K "still_of")) := He.glo_ok X G (c.fact 46 (f := .glo "still_of") rfl)
  obtain ⟨fd_power_of, F_power_of⟩ := c.def_ 47 (d := dd_power_of) rfl
  have F_power_of : FD_power_of K (He.ga K "power_of") fd_power_of := F_power_of
  have g_power_of : mg "power_of" = some (.ref (He.ga K "power_of")) := He.glo_ok X G (c.fact 47 (f := .glo "power_of") rfl)
  obtain ⟨fd_done, F_done⟩ := c.def_ 48 (d := dd_done) rfl
  have F_done : FD_done K (He.ga K "done") fd_done := F_done
  have g_done : mg "done" = some (.ref (He.ga K "done")) := He.glo_ok X G (c.fact 48 (f := .glo "done") rfl)
  obtain ⟨fd_want_as_many, F_want_as_many⟩ := c.def_ 49 (d := dd_want_as_many) rfl
  have F_want_as_many : FD_want_as_many K (He.ga K "want_as_many") fd_want_as_many := F_want_as_many
  have g_want_as_many : mg "want_as_many" = some (.ref (He.ga K "want_as_many")) := He.glo_ok X G (c.fact 49 (f := .glo "want_as_many") rfl)
  obtain ⟨fd_moved, F_moved⟩ := c.def_ 50 (d := dd_moved) rfl
  have F_moved : FD_moved K (He.ga K "moved") fd_moved := F_moved
  have g_moved : mg "moved" = some (.ref (He.ga K "moved")) := He.glo_ok X G (c.fact 50 (f := .glo "moved") rfl)
  obtain ⟨fd_plain, F_plain⟩ := c.def_ 51 (d := dd_plain) rfl
  have F_plain : FD_plain K (He.ga K "plain") fd_plain := F_plain
  have g_plain : mg "plain" = some (.ref (He.ga K "plain")) := He.glo_ok X G (c.fact 51 (f := .glo "plain") rfl)
  obtain ⟨fd__law_right, F__law_right⟩ := c.def_ 52 (d := dd__law_right) rfl
  have F__law_right : FD__law_right K (He.ga K "_law_right") fd__law_right := F__law_right
  have g__law_right : mg "_law_right" = some (.ref (He.ga K "_law_right")) := He.glo_ok X G (c.fact 52 (f := .glo "_law_right") rfl)
  obtain ⟨fd__law_pot, F__law_pot⟩ := c.def_ 53 (d := dd__law_pot) rfl
  have F__law_pot : FD__law_pot K (He.ga K "_law_pot") fd__law_pot := F__law_pot
  have g__law_pot : mg "_law_pot" = some (.ref (He.ga K "_law_pot")) := He.glo_ok X G (c.fact 53 (f := .glo "_law_pot") rfl)
  obtain ⟨fd_law, F_law⟩ := c.def_ 54 (d := dd_law) rfl
  have F_law : FD_law K (He.ga K "law") fd_law := F_law
  have g_law : mg "law" = some (.ref (He.ga K "law")) := He.glo_ok X G (c.fact 54 (f := .glo "law") rfl)
  have m_abs : mg "abs" = none := He.free_ok X G (c.fact 55 (f := .free "abs") rfl)
  have m_all : mg "all" = none := He.free_ok X G (c.fact 56 (f := .free "all") rfl)
  have m_bool : mg "bool" = none := He.free_ok X G (c.fact 57 (f := .free "bool") rfl)
  have m_divmod : mg "divmod" = none := He.free_ok X G (c.fact 58 (f := .free "divmod") rfl)
  have m_enumerate : mg "enumerate" = none := He.free_ok X G (c.fact 59 (f := .free "enumerate") rfl)
  have m_int : mg "int" = none := He.free_ok X G (c.fact 60 (f := .free "int") rfl)
  have m_isinstance : mg "isinstance" = none := He.free_ok X G (c.fact 61 (f := .free "isinstance") rfl)
  have m_len : mg "len" = none := He.free_ok X G (c.fact 62 (f := .free "len") rfl)
  have m_list : mg "list" = none := He.free_ok X G (c.fact 63 (f := .free "list") rfl)
  have m_max : mg "max" = none := He.free_ok X G (c.fact 64 (f := .free "max") rfl)
  have m_min : mg "min" = none := He.free_ok X G (c.fact 65 (f := .free "min") rfl)
  have m_range : mg "range" = none := He.free_ok X G (c.fact 66 (f := .free "range") rfl)
  have m_repr : mg "repr" = none := He.free_ok X G (c.fact 67 (f := .free "repr") rfl)
  have m_set : mg "set" = none := He.free_ok X G (c.fact 68 (f := .free "set") rfl)
  have m_tuple : mg "tuple" = none := He.free_ok X G (c.fact 69 (f := .free "tuple") rfl)
  have m_zip : mg "zip" = none := He.free_ok X G (c.fact 70 (f := .free "zip") rfl)
  have C_MOST_CARDS : ∃ u, mg "MOST_CARDS" = some u ∧ RelV (.int 52) u := by
    obtain ⟨t, ht⟩ := He.int_ok X G (c.fact 71 (f := .int "MOST_CARDS" 52) rfl)
    exact ⟨_, ht, t, rfl⟩
  have e := hfa.symm.trans g_law
  cases e
  have b := FunD.bindsA (ps := ["script"]) F_law fun _ _ _ _ _ _ us hl => match us, hl with | [_], _ => rfl
  refine ⟨fd_law, fun s v => b s [v] rfl, fun base _ _ => ?_⟩
  have B__law_draw := ok__law_draw (P := P) (w := w) (base := base) F__law_draw g__law_draw m_divmod m_int
  have B_is_integer := ok_is_integer (P := P) (w := w) (base := base) F_is_integer g_is_integer m_bool m_int m_isinstance
  have B_is_within := ok_is_within (P := P) (w := w) (base := base) F_is_within g_is_within B_is_integer
  have B_is_pack_value := ok_is_pack_value (P := P) (w := w) (base := base) F_is_pack_value g_is_pack_value B_is_within C_MOST_CARDS m_all m_isinstance m_len m_set m_tuple
  have B_want_pack := ok_want_pack (P := P) (w := w) (base := base) F_want_pack g_want_pack B_is_pack_value
  have B_moved_of := ok_moved_of (P := P) (w := w) (base := base) F_moved_of g_moved_of m_tuple
  have B_back_of := ok_back_of (P := P) (w := w) (base := base) F_back_of g_back_of m_enumerate m_len m_tuple
  have B_laid := ok_laid (P := P) (w := w) (base := base) F_laid g_laid m_len m_range m_tuple
  have B_out_of := ok_out_of (P := P) (w := w) (base := base) F_out_of g_out_of B_laid m_list m_range
  have B_out_undone := ok_out_undone (P := P) (w := w) (base := base) F_out_undone g_out_undone B_want_pack B_moved_of B_back_of B_out_of m_len
  have B_in_of := ok_in_of (P := P) (w := w) (base := base) F_in_of g_in_of B_laid m_list m_range
  have B_in_undone := ok_in_undone (P := P) (w := w) (base := base) F_in_undone g_in_undone B_want_pack B_moved_of B_back_of B_in_of m_len
  have B_out_shuffled := ok_out_shuffled (P := P) (w := w) (base := base) F_out_shuffled g_out_shuffled B_want_pack B_moved_of B_out_of m_len
  have B_in_shuffled := ok_in_shuffled (P := P) (w := w) (base := base) F_in_shuffled g_in_shuffled B_want_pack B_moved_of B_in_of m_len
  have B_want_heaps := ok_want_heaps (P := P) (w := w) (base := base) F_want_heaps g_want_heaps B_is_within C_MOST_CARDS
  have B_dealt_of := ok_dealt_of (P := P) (w := w) (base := base) F_dealt_of g_dealt_of m_range
  have B_dealt := ok_dealt (P := P) (w := w) (base := base) F_dealt g_dealt B_want_pack B_want_heaps B_dealt_of
  have B_turned := ok_turned (P := P) (w := w) (base := base) F_turned g_turned B_want_pack
  have B_is_list := ok_is_list (P := P) (w := w) (base := base) F_is_list g_is_list m_isinstance m_list m_tuple
  have B_are_piles_value := ok_are_piles_value (P := P) (w := w) (base := base) F_are_piles_value g_are_piles_value B_is_list B_is_pack_value C_MOST_CARDS m_all m_isinstance m_len m_list m_tuple
  have B_want_piles := ok_want_piles (P := P) (w := w) (base := base) F_want_piles g_want_piles B_are_piles_value
  have B_want_sequence := ok_want_sequence (P := P) (w := w) (base := base) F_want_sequence g_want_sequence B_is_list B_is_within m_all m_len m_list m_set
  have B_gathered_of := ok_gathered_of (P := P) (w := w) (base := base) F_gathered_of g_gathered_of
  have B_gathered := ok_gathered (P := P) (w := w) (base := base) F_gathered g_gathered B_want_piles B_want_sequence B_gathered_of m_len m_list
  have B_want_many := ok_want_many (P := P) (w := w) (base := base) F_want_many g_want_many B_is_within C_MOST_CARDS
  have B_cut := ok_cut (P := P) (w := w) (base := base) F_cut g_cut B_want_pack B_want_many m_len
  have B__law_pack_right := ok__law_pack_right (P := P) (w := w) (base := base) F__law_pack_right g__law_pack_right B_out_undone B_in_undone B_out_shuffled B_in_shuffled B_dealt B_turned B_gathered B_cut m_len m_repr
  have B__law_mixed := ok__law_mixed (P := P) (w := w) (base := base) F__law_mixed g__law_mixed B__law_draw m_len m_list
  have B__law_pack := ok__law_pack (P := P) (w := w) (base := base) F__law_pack g__law_pack B__law_mixed m_list m_range m_tuple
  have B_want_cards := ok_want_cards (P := P) (w := w) (base := base) F_want_cards g_want_cards B_is_within C_MOST_CARDS
  have B_in_move := ok_in_move (P := P) (w := w) (base := base) F_in_move g_in_move B_want_cards B_in_of
  have B_out_move := ok_out_move (P := P) (w := w) (base := base) F_out_move g_out_move B_want_cards B_out_of
  have B_rounds_of := ok_rounds_of (P := P) (w := w) (base := base) F_rounds_of g_rounds_of m_len m_range m_tuple
  have B_common_of := ok_common_of (P := P) (w := w) (base := base) F_common_of g_common_of
  have B_order_of := ok_order_of (P := P) (w := w) (base := base) F_order_of g_order_of B_rounds_of B_common_of m_len
  have B_times_out := ok_times_out (P := P) (w := w) (base := base) F_times_out g_times_out B_want_cards B_order_of B_out_of
  have B_times_in := ok_times_in (P := P) (w := w) (base := base) F_times_in g_times_in B_want_cards B_order_of B_in_of
  have B_are_rising := ok_are_rising (P := P) (w := w) (base := base) F_are_rising g_are_rising m_all m_zip
  have B_is_lot_of := ok_is_lot_of (P := P) (w := w) (base := base) F_is_lot_of g_is_lot_of B_is_within B_are_rising m_all m_isinstance m_tuple
  have B_only := ok_only (P := P) (w := w) (base := base) F_only g_only B_want_pack B_is_lot_of m_len m_tuple
  have B_laid_on := ok_laid_on (P := P) (w := w) (base := base) F_laid_on g_laid_on B_want_pack C_MOST_CARDS m_len m_tuple
  have B__law_ends_right := ok__law_ends_right (P := P) (w := w) (base := base) F__law_ends_right g__law_ends_right B__law_pack B_in_move B_out_move B_times_out B_times_in B_out_shuffled B_only B_in_shuffled B_laid_on m_int m_range m_tuple
  have B_want_move := ok_want_move (P := P) (w := w) (base := base) F_want_move g_want_move B_is_pack_value
  have B_back := ok_back (P := P) (w := w) (base := base) F_back g_back B_want_move B_back_of
  have B_is_count := ok_is_count (P := P) (w := w) (base := base) F_is_count g_is_count B_is_integer
  have B_want_times := ok_want_times (P := P) (w := w) (base := base) F_want_times g_want_times B_is_count
  have B_still_of := ok_still_of (P := P) (w := w) (base := base) F_still_of g_still_of m_range m_tuple
  have B_power_of := ok_power_of (P := P) (w := w) (base := base) F_power_of g_power_of B_still_of B_moved_of m_len
  have B_done := ok_done (P := P) (w := w) (base := base) F_done g_done B_want_move B_want_times B_power_of
  have B_want_as_many := ok_want_as_many (P := P) (w := w) (base := base) F_want_as_many g_want_as_many m_len
  have B_moved := ok_moved (P := P) (w := w) (base := base) F_moved g_moved B_want_pack B_want_move B_want_as_many B_moved_of
  have B_plain := ok_plain (P := P) (w := w) (base := base) F_plain g_plain B_want_cards B_still_of
  have B__law_right := ok__law_right (P := P) (w := w) (base := base) F__law_right g__law_right B__law_draw B__law_pack_right B__law_pack B__law_ends_right B_out_move B_in_move B_back B_done B_times_out B_times_in B_moved B_plain
  have B__law_pot := ok__law_pot (P := P) (w := w) (base := base) F__law_pot g__law_pot m_abs m_int m_len m_max
  have B_law := ok_law (P := P) (w := w) (base := base) F_law g_law B__law_right B__law_pot m_all m_len m_max m_min m_range
  obtain ⟨f2, fd2, F2, g2, G2⟩ := B_law
  have e := g2.symm.trans g_law
  cases e
  have e2 : fd2 = fd_law := by
    obtain ⟨_, _, _, _, _, _, _, _, _, _, _, l1, _⟩ := F2.ex
    obtain ⟨_, _, _, _, _, _, _, _, _, _, _, l2, _⟩ := F_law.ex
    rw [l1] at l2
    cases l2; rfl
  exact e2 ▸ G2
end Wk
open PySem PySem.W PySem.Calls PyProof.Rows
theorem PySem.Challenge.cw_cardpacks_k37_whole_shuffles_done_back_a_holds : PySem.Challenge.rw_cardpacks_k37_whole_shuffles_done_back_a.Holds := by
  w_on; o_law
  refine HandSHeadRun.head_any (r := OpenLaw.row PySem.Challenge.rw_cardpacks_k37_whole_shuffles_done_back_a) (q := view (OpenLaw.row PySem.Challenge.rw_cardpacks_k37_whole_shuffles_done_back_a).prog [82]) (H := Wk.hk) (ob := Wk.ob) (M := 40000) (loose := Wk.loose) (d := HandSHeadRun.topDef (OpenLaw.row PySem.Challenge.rw_cardpacks_k37_whole_shuffles_done_back_a).prog 82) (kwd := []) Wk.ob_eq
    (by kernel_rfl) (fun s => by kernel_rfl) Wk.run (by kernel_rfl) (by kernel_rfl) (by kernel_rfl) (by rfl) (by first | assumption | decide +kernel) (by decide +kernel) ⟨rfl, rfl, rfl, rfl, rfl, by decide +kernel⟩ ?hw ?hc
  case hw => w_witness2
  case hc =>
    refine Vl.lawV (l := PySem.Challenge.rw_cardpacks_k37_whole_shuffles_done_back_a) (n := 63) (k := 9) (x := "script") (fw := Wk.fw_law) rfl (by decide) (by kernel_rfl) ⟨rfl, by decide, by decide⟩ (fun ns hl => Wk.plain ns hl) ?F
    intro w mg fa h Y G hmg0
    obtain ⟨K, KX, c⟩ := Y
    have hmg : mg ("law" : PySem.Str) = some (.ref fa) := by
      have e : (HandSHeadRun.topDef (OpenLaw.row PySem.Challenge.rw_cardpacks_k37_whole_shuffles_done_back_a).prog 82).name = ("law" : PySem.Str) := by kernel_rfl
      rw [← e]
      exact hmg0
    obtain ⟨fd, hb, hF⟩ := Wk.facts (P := (PySem.Challenge.rw_cardpacks_k37_whole_shuffles_done_back_a).prog) (w := w) KX G hmg c
    exact ⟨K, fd, KX, hb, hF⟩
