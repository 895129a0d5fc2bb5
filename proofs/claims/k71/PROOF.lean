import PyProof.Rows.All
import Wide.All
import OpenK.AllK
import Wide.FinOn
import PySem.Challenge.RW_steprounds_k71_whole_changing_lines
import HandS.ForMost
import HandS.ForExc
import HandS.IsInst
import HandS.Lambda
import HandS.ExcIs
import HandS.Small
import HandS.Wide
import HandS.TupMul
import HandS.TupAny
import HandS.EndTab
import HandS.Flow
import HandS.Style
import HandS.HeadEnd
import HandS.SortInts
import KE.DataEq
import KE.KTupSum
import HandS.Zip
import HandS.RaiseFrom
import HandS.Conv
import HandS.Sort
import PyProof.ReprRoads
import HandS.ExcValue
import HandS.HeadWalk
import HandS.HeadHook4
import HandS.Head0
import HandS.Head1
import HandS.Head2
set_option Elab.async false
set_option linter.all false
set_option maxRecDepth 100000
set_option maxHeartbeats 4000000
/-! FX: a functional layer over HandS: data without addresses, a state of slots, judgements «this syntax computes this function». -/
namespace FX
open PySem PySem.Spec PyProof.Rows L2 LamX

/-- an exception: its class, the fields of its own (ints), if it has a dict -/
structure Xc where
  cls : Addr
  fs : Option (List (Str × Int))
def XcR (e : Xc) (d : Option Addr) (H : Hp) : Prop := match e.fs with
  | none => d = none
  | some fs => ∃ dd, d = some dd ∧ H dd = some (.xd (fs.map fun p => (p.1, V.int p.2)))
theorem XcR.mono {e : Xc} {d : Option Addr} {F G : Hp} (l : ∀ a o, F a = some o → G a = some o) (h : XcR e d F) : XcR e d G := by
  unfold XcR at h ⊢
  split at h
  · exact h
  · obtain ⟨dd, e1, e2⟩ := h
    exact ⟨dd, e1, l _ _ e2⟩
/-- data, without addresses -/
inductive D where
  | non | bl (b : Bool) | int (i : Int) | str (s : Str) | tup (ds : List D) | lst (ds : List D) | dic (kvs : List (Key × D))
  | rng (lo hi : Int) | adr (a : Addr) | ty (n : String) | exc (e : Xc) | scr (ds : List D)

mutual
/-- v is d in the frozen heap F -/
inductive Rp (K : PySem.W.Frag) (F : Hp) : V → D → Prop
  | non : Rp K F .non .non
  | bl (b : Bool) : Rp K F (.bl b) (.bl b)
  | int (i : Int) : Rp K F (.int i) (.int i)
  | str (x : Str) : Rp K F (.str x) (.str x)
  | tup {a : Addr} {xs : List V} {ds : List D} : SqT K F a xs → Rps K F xs ds → Rp K F (.ref a) (.tup ds)
  | lst {a : Addr} {xs : List V} {ds : List D} : F a = some (.lst xs) → Rps K F xs ds → Rp K F (.ref a) (.lst ds)
  | scr {a : Addr} {xs : List V} {ds : List D} : SqL K F a xs → Rps K F xs ds → Rp K F (.ref a) (.scr ds)
  | dic {a : Addr} {kvs : List (Key × V)} {ds : List (Key × D)} : F a = some (.dK kvs) → Rpk K F kvs ds → Rp K F (.ref a) (.dic ds)
  | rng {a : Addr} {lo hi : Int} : F a = some (.rng lo hi) → Rp K F (.ref a) (.rng lo hi)
  | adr (a : Addr) : Rp K F (.ref a) (.adr a)
  | ty (n : String) : Rp K F (.ty n) (.ty n)
  | exc {a : Addr} {e : Xc} {d : Option Addr} {φ : Heap → Prop} : F a = some (.ext φ) → (∀ h, φ h → ∃ oe vs, h.get? a = some oe ∧ Zc (.ref e.cls) d oe ∧ oe.data = .fields vs) → XcR e d F → Rp K F (.ref a) (.exc e)
inductive Rps (K : PySem.W.Frag) (F : Hp) : List V → List D → Prop
  | nil : Rps K F [] []
  | cons {v : V} {vs : List V} {d : D} {ds : List D} : Rp K F v d → Rps K F vs ds → Rps K F (v :: vs) (d :: ds)
inductive Rpk (K : PySem.W.Frag) (F : Hp) : List (Key × V) → List (Key × D) → Prop
  | nil : Rpk K F [] []
  | cons {k : Key} {v : V} {vs : List (Key × V)} {d : D} {ds : List (Key × D)} : Rp K F v d → Rpk K F vs ds → Rpk K F ((k, v) :: vs) ((k, d) :: ds)
end

abbrev Le (F H : Hp) : Prop := ∀ a o, F a = some o → H a = some o
theorem Le.refl (F : Hp) : Le F F := fun _ _ h => h
theorem Le.trans {F G H : Hp} (a : Le F G) (b : Le G H) : Le F H := fun x o h => b x o (a x o h)
theorem Le.rd {F H : Hp} {a : Addr} {u : HO} (e : Le F H) (h : Rd F a u) : Rd H a u := by
  rcases h with h | ⟨o, h⟩
  · exact Or.inl (e a _ h)
  · exact Or.inr ⟨o, e a _ h⟩
theorem Le.sl {K : PySem.W.Frag} {F H : Hp} {a : Addr} {xs : List V} (e : Le F H) (h : SqL K F a xs) : SqL K H a xs := by
  rcases h with h | h
  · exact Or.inl (e.rd h)
  · exact Or.inr h
theorem Le.st {K : PySem.W.Frag} {F H : Hp} {a : Addr} {xs : List V} (e : Le F H) (h : SqT K F a xs) : SqT K H a xs := by
  rcases h with h | h
  · exact Or.inl (e.rd h)
  · exact Or.inr h
mutual
theorem Rp.mono {K : PySem.W.Frag} {F G : Hp} (e : Le F G) : ∀ {v : V} {d : D}, Rp K F v d → Rp K G v d
  | _, _, .non => .non
  | _, _, .bl b => .bl b
  | _, _, .int i => .int i
  | _, _, .str x => .str x
  | _, _, .tup h r => .tup (e.st h) (Rps.mono e r)
  | _, _, .lst h r => .lst (e _ _ h) (Rps.mono e r)
  | _, _, .scr h r => .scr (e.sl h) (Rps.mono e r)
  | _, _, .dic h r => .dic (e _ _ h) (Rpk.mono e r)
  | _, _, .rng h => .rng (e _ _ h)
  | _, _, .adr a => .adr a
  | _, _, .ty n => .ty n
  | _, _, .exc h r q => .exc (e _ _ h) r (q.mono e)
theorem Rps.mono {K : PySem.W.Frag} {F G : Hp} (e : Le F G) : ∀ {v : List V} {d : List D}, Rps K F v d → Rps K G v d
  | _, _, .nil => .nil
  | _, _, .cons h r => .cons (Rp.mono e h) (Rps.mono e r)
theorem Rpk.mono {K : PySem.W.Frag} {F G : Hp} (e : Le F G) : ∀ {v : List (Key × V)} {d : List (Key × D)}, Rpk K F v d → Rpk K G v d
  | _, _, .nil => .nil
  | _, _, .cons h r => .cons (Rp.mono e h) (Rpk.mono e r)
end
theorem Rps.length {K : PySem.W.Frag} {F : Hp} : ∀ {v : List V} {d : List D}, Rps K F v d → v.length = d.length
  | _, _, .nil => rfl
  | _, _, .cons _ r => by rw [List.length_cons, List.length_cons, Rps.length r]
theorem Rps.append {K : PySem.W.Frag} {F : Hp} : ∀ {v w : List V} {d e : List D}, Rps K F v d → Rps K F w e → Rps K F (v ++ w) (d ++ e)
  | _, _, _, _, .nil, s => s
  | _, _, _, _, .cons h r, s => .cons h (Rps.append r s)
theorem Rps.one {K : PySem.W.Frag} {F : Hp} {v : V} {d : D} (h : Rp K F v d) : Rps K F [v] [d] := .cons h .nil
theorem Rps.get {K : PySem.W.Frag} {F : Hp} : ∀ {v : List V} {d : List D} {i : Nat} {x : D}, Rps K F v d → d[i]? = some x → ∃ u, v[i]? = some u ∧ Rp K F u x
  | _, _, _, _, .nil, e => by simp at e
  | _, _, 0, _, .cons h _, e => by simp at e; subst e; exact ⟨_, rfl, h⟩
  | _, _, i + 1, x, .cons _ r, e => by
    obtain ⟨u, h1, h2⟩ := Rps.get (i := i) (x := x) r (by simpa using e)
    exact ⟨u, by simpa using h1, h2⟩
theorem Rps.take {K : PySem.W.Frag} {F : Hp} : ∀ {v : List V} {d : List D} (n : Nat), Rps K F v d → Rps K F (v.take n) (d.take n)
  | _, _, 0, _ => .nil
  | _, _, _ + 1, .nil => .nil
  | _, _, n + 1, .cons h r => .cons h (Rps.take n r)
theorem Rps.drop {K : PySem.W.Frag} {F : Hp} : ∀ {v : List V} {d : List D} (n : Nat), Rps K F v d → Rps K F (v.drop n) (d.drop n)
  | _, _, 0, r => r
  | _, _, _ + 1, .nil => .nil
  | _, _, n + 1, .cons _ r => Rps.drop n r
theorem Rps.reverse {K : PySem.W.Frag} {F : Hp} : ∀ {v : List V} {d : List D}, Rps K F v d → Rps K F v.reverse d.reverse
  | _, _, .nil => .nil
  | _, _, .cons h r => by
    rw [List.reverse_cons, List.reverse_cons]
    exact (Rps.reverse r).append (.one h)
theorem Rps.set {K : PySem.W.Frag} {F : Hp} {x : V} {e : D} (q : Rp K F x e) : ∀ {v : List V} {d : List D} (i : Nat), Rps K F v d → Rps K F (v.set i x) (d.set i e)
  | _, _, _, .nil => .nil
  | _, _, 0, .cons _ r => .cons q r
  | _, _, i + 1, .cons h r => .cons h (Rps.set q i r)

/-! ### the state -/
/-- a slot (clo: a function of this very frame, the values that it holds, the hand if it holds that): nothing is known; frozen data; a list of one's own (its items frozen); the hand (a list that is lent along) -/
inductive Sl where
  | un | val (d : D) | own (ds : List D) | hnd
  | clo (f : Addr) (vs : List V) (ds : List D) (hp : Option Addr)
structure Sto where
  sl : List Sl
  hc : List D
inductive Out (α : Type) where
  | ok (a : α) (S : Sto) | exc (e : Xc) (S : Sto) | stuck
abbrev M (α : Type) := Sto → Out α
def SlR (K : PySem.W.Frag) (H0 : Hp) (hd : Option Addr) (F H : Hp) (o : Option V) : Sl → Prop
  | .un => True
  | .val d => ∃ v, o = some v ∧ Rp K F v d
  | .own ds => ∃ p vs, o = some (.ref p) ∧ H p = some (.lst vs) ∧ F p = none ∧ H0 p = none ∧ hd ≠ some p ∧ Rps K F vs ds
  | .hnd => ∃ p, o = some (.ref p) ∧ hd = some p
  | .clo f vs ds hp => o = some (.ref f) ∧ Rps K F vs ds ∧ (hp.isSome = true → hd = hp)
def Sl.isOwn : Sl → Bool
  | .own _ => true
  | _ => false

/-- the tables of code objects in H; F has none of them -/
def TabF (T : List (Addr × Str)) (F H : Hp) : Prop := Tabs T H ∧ ∀ a ps, F a ≠ some (.tbl ps)
theorem TabF.ext {T : List (Addr × Str)} {F H H' : Hp} (t : TabF T F H) (l : ∀ b o, H b = some o → H' b = some o) : TabF T F H' := ⟨t.1.ext l, t.2⟩
theorem TabF.put {T : List (Addr × Str)} {F H : Hp} {p : Addr} {o : HO} (t : TabF T F H) (n : ∀ ps, o ≠ .tbl ps) : TabF T (upd F p o) H := ⟨t.1, fun a ps e => by
  by_cases h : a = p
  · subst h; rw [upd_same] at e; exact n ps (Option.some.inj e)
  · rw [upd_ne h] at e; exact t.2 a ps e⟩
/-- the world: F the frozen part of H; the slots σ are S; F0, H0: the entry -/
structure Wld (K : PySem.W.Frag) (T : List (Addr × Str)) (F0 H0 : Hp) (hd : Option Addr) (F : Hp) (σ : L2.St) (H : Hp) (S : Sto) : Prop where
  le : Le F H
  r0 : Le F0 F
  r1 : ∀ a o, F a = some o → F0 a = some o ∨ H0 a = none
  dom : ∀ a o, H0 a = some o → ∃ u, H a = some u
  keep : ∀ a o, H0 a = some o → (∀ ps, o ≠ .tbl ps) → hd ≠ some a → H a = some o
  tabs : TabF T F H
  len : σ.length = S.sl.length
  slo : ∀ i, SlR K H0 hd F H (σ.getD i none) (S.sl.getD i .un)
  sep : ∀ i j p, i ≠ j → (S.sl.getD i .un).isOwn = true → (S.sl.getD j .un).isOwn = true → σ.getD i none = some (.ref p) → σ.getD j none ≠ some (.ref p)
  hnd : ∀ p, hd = some p → F p = none ∧ ∃ vs, H p = some (.lst vs) ∧ Rps K F vs S.hc

/-- how a world may go on while an expression is evaluated -/
structure Up (hd : Option Addr) (F H F' H' : Hp) : Prop where
  fF : Le F F'
  dom : ∀ a o, H a = some o → ∃ u, H' a = some u
  keep : ∀ a o, H a = some o → (∀ ps, o ≠ .tbl ps) → hd ≠ some a → H' a = some o
theorem Up.refl {hd : Option Addr} {F H : Hp} : Up hd F H F H := ⟨Le.refl _, fun _ o h => ⟨o, h⟩, fun _ _ h _ _ => h⟩
theorem Up.trans {hd : Option Addr} {F H F1 H1 F2 H2 : Hp} (a : Up hd F H F1 H1) (b : Up hd F1 H1 F2 H2) : Up hd F H F2 H2 :=
  ⟨a.fF.trans b.fF, fun x o h => by obtain ⟨u, e⟩ := a.dom x o h; exact b.dom x u e, fun x o h n m => b.keep x o (a.keep x o h n m) n m⟩
theorem Up.lst {hd : Option Addr} {F H F' H' : Hp} (u : Up hd F H F' H') {p : Addr} {vs : List V} (h : H p = some (.lst vs)) (n : hd ≠ some p) : H' p = some (.lst vs) := u.keep p _ h (fun _ z => by cases z) n
theorem Up.fresh {hd : Option Addr} {F H F' H' : Hp} (u : Up hd F H F' H') {p : Addr} (h : H' p = none) : H p = none := by
  cases q : H p with
  | none => rfl
  | some o => obtain ⟨v, e⟩ := u.dom p o q; rw [h] at e; cases e
/-- a borrowed thing: frozen, or a list that stands in H -/
def RB (K : PySem.W.Frag) (hd : Option Addr) (F H : Hp) (v : V) (d : D) : Prop :=
  Rp K F v d ∨ ∃ p vs ds, v = .ref p ∧ d = .lst ds ∧ hd ≠ some p ∧ H p = some (.lst vs) ∧ Rps K F vs ds
theorem RB.up {K : PySem.W.Frag} {hd : Option Addr} {F H F' H' : Hp} {v : V} {d : D} (u : Up hd F H F' H') (r : RB K hd F H v d) : RB K hd F' H' v d := by
  rcases r with r | ⟨p, vs, ds, e1, e2, n, h, r⟩
  · exact .inl (r.mono u.fF)
  · exact .inr ⟨p, vs, ds, e1, e2, n, u.lst h n, r.mono u.fF⟩
theorem RB.list {K : PySem.W.Frag} {hd : Option Addr} {F H : Hp} {v : V} {ds : List D} (le : Le F H) (r : RB K hd F H v (.lst ds)) : ∃ p vs, v = .ref p ∧ H p = some (.lst vs) ∧ Rps K F vs ds := by
  rcases r with r | ⟨p, vs, ds', e1, e2, n, h, r⟩
  · cases r with
    | lst h r => exact ⟨_, _, rfl, le _ _ h, r⟩
  · cases e2
    exact ⟨p, vs, e1, h, r⟩
theorem RB.scr {K : PySem.W.Frag} {hd : Option Addr} {F H : Hp} {v : V} {ds : List D} (le : Le F H) (r : RB K hd F H v (.scr ds)) : ∃ p vs, v = .ref p ∧ SqL K H p vs ∧ Rps K F vs ds := by
  rcases r with r | ⟨p, vs, ds', e1, e2, n, h, r⟩
  · cases r with
    | scr h r => exact ⟨_, _, rfl, le.sl h, r⟩
  · cases e2
theorem RB.tup {K : PySem.W.Frag} {hd : Option Addr} {F H : Hp} {v : V} {ds : List D} (le : Le F H) (r : RB K hd F H v (.tup ds)) : ∃ p vs, v = .ref p ∧ SqT K F p vs ∧ SqT K H p vs ∧ Rps K F vs ds := by
  rcases r with r | ⟨p, vs, ds', e1, e2, n, h, r⟩
  · cases r with
    | tup h r => exact ⟨_, _, rfl, h, le.st h, r⟩
  · cases e2
theorem RB.int {K : PySem.W.Frag} {hd : Option Addr} {F H : Hp} {v : V} {i : Int} (r : RB K hd F H v (.int i)) : v = .int i := by
  rcases r with r | ⟨p, vs, ds', e1, e2, n, h, r⟩
  · cases r; rfl
  · cases e2
theorem RB.bl {K : PySem.W.Frag} {hd : Option Addr} {F H : Hp} {v : V} {i : Bool} (r : RB K hd F H v (.bl i)) : v = .bl i := by
  rcases r with r | ⟨p, vs, ds', e1, e2, n, h, r⟩
  · cases r; rfl
  · cases e2
theorem RB.str {K : PySem.W.Frag} {hd : Option Addr} {F H : Hp} {v : V} {i : Str} (r : RB K hd F H v (.str i)) : v = .str i := by
  rcases r with r | ⟨p, vs, ds', e1, e2, n, h, r⟩
  · cases r; rfl
  · cases e2
theorem RB.non {K : PySem.W.Frag} {hd : Option Addr} {F H : Hp} {v : V} (r : RB K hd F H v .non) : v = .non := by
  rcases r with r | ⟨p, vs, ds', e1, e2, n, h, r⟩
  · cases r; rfl
  · cases e2

/-! ### worlds that grow -/
section
variable {K : PySem.W.Frag} {T : List (Addr × Str)} {F0 H0 F H : Hp} {hd : Option Addr} {σ : L2.St} {S : Sto}
theorem Wld.entryFree (w : Wld K T F0 H0 hd F σ H S) {p : Addr} (h : H p = none) : H0 p = none := by
  cases q : H0 p with
  | none => rfl
  | some o => obtain ⟨u, e⟩ := w.dom p o q; rw [h] at e; cases e
theorem Wld.freeF (w : Wld K T F0 H0 hd F σ H S) {p : Addr} (h : H p = none) : F p = none := by
  cases q : F p with
  | none => rfl
  | some o => rw [w.le p o q] at h; cases h
theorem upd_le {F : Hp} {p : Addr} {o : HO} (h : F p = none) : Le F (upd F p o) := fun a u e => by
  rw [upd_ne (ne_of_none e h)]; exact e
/-- a new object, frozen -/
theorem Wld.newF (w : Wld K T F0 H0 hd F σ H S) {p : Addr} (o : HO) (h : H p = none) (nt : ∀ ps, o ≠ .tbl ps) : Wld K T F0 H0 hd (upd F p o) σ (upd H p o) S ∧ Up hd F H (upd F p o) (upd H p o) := by
  have hF := w.freeF h
  have lF : Le F (upd F p o) := upd_le hF
  have lH : Le H (upd H p o) := upd_le h
  refine ⟨⟨fun a u e => ?_, w.r0.trans lF, fun a u e => ?_, fun a u e => ?_, fun a u e n m => lH _ _ (w.keep a u e n m), (w.tabs.ext lH).put nt, w.len, fun i => ?_, w.sep, fun q e => ?_⟩, ⟨lF, fun a u e => ⟨u, lH a u e⟩, fun a u e _ _ => lH a u e⟩⟩
  · by_cases hb : a = p
    · subst hb; rw [upd_same] at e ⊢; exact e
    · rw [upd_ne hb] at e ⊢; exact w.le a u e
  · by_cases hb : a = p
    · subst hb; exact .inr (w.entryFree h)
    · rw [upd_ne hb] at e; exact w.r1 a u e
  · obtain ⟨v, q⟩ := w.dom a u e
    exact ⟨v, lH a v q⟩
  · have z := w.slo i
    generalize S.sl.getD i .un = sl at z ⊢
    cases sl with
    | un => trivial
    | val d => obtain ⟨v, e, r⟩ := z; exact ⟨v, e, r.mono lF⟩
    | clo _ _ _ _ => exact ⟨z.1, z.2.1.mono lF, z.2.2⟩
    | own ds =>
      obtain ⟨q, vs, e1, e2, e3, e4, e5, r⟩ := z
      refine ⟨q, vs, e1, lH _ _ e2, ?_, e4, e5, r.mono lF⟩
      rw [upd_ne (ne_of_none e2 h)]; exact e3
    | hnd => exact z
  · obtain ⟨f, vs, e1, r⟩ := w.hnd q e
    refine ⟨?_, vs, lH _ _ e1, r.mono lF⟩
    rw [upd_ne (ne_of_none e1 h)]; exact f
/-- a new object, one's own -/
theorem Wld.newO (w : Wld K T F0 H0 hd F σ H S) {p : Addr} (o : HO) (h : H p = none) : Wld K T F0 H0 hd F σ (upd H p o) S ∧ Up hd F H F (upd H p o) := by
  have lH : Le H (upd H p o) := upd_le h
  refine ⟨⟨w.le.trans lH, w.r0, w.r1, fun a u e => ?_, fun a u e n m => lH _ _ (w.keep a u e n m), w.tabs.ext lH, w.len, fun i => ?_, w.sep, fun q e => ?_⟩, ⟨Le.refl _, fun a u e => ⟨u, lH a u e⟩, fun a u e _ _ => lH a u e⟩⟩
  · obtain ⟨v, q⟩ := w.dom a u e
    exact ⟨v, lH a v q⟩
  · have z := w.slo i
    generalize S.sl.getD i .un = sl at z ⊢
    cases sl with
    | un => trivial
    | val d => exact z
    | clo _ _ _ _ => exact z
    | own ds =>
      obtain ⟨q, vs, e1, e2, e3, e4, e5, r⟩ := z
      exact ⟨q, vs, e1, lH _ _ e2, e3, e4, e5, r⟩
    | hnd => exact z
  · obtain ⟨f, vs, e1, r⟩ := w.hnd q e
    exact ⟨f, vs, lH _ _ e1, r⟩
end
end FX

set_option Elab.async false
set_option linter.all false
set_option maxRecDepth 100000
set_option maxHeartbeats 4000000
namespace FX
open PySem PySem.Spec PyProof.Rows L2 LamX

/-! ### judgements -/
abbrev RelT (β α : Type) := Hp → Option Addr → Hp → L2.St → Hp → Sto → β → α → Prop
def Po (K : PySem.W.Frag) (T : List (Addr × Str)) (W : WX) (F0 H0 : Hp) (hd : Option Addr) (σ : L2.St) {β α : Type} (rel : RelT β α) (Q : β → Hp → Prop) (F H : Hp) : Out α → Prop
  | .ok a S' => ∀ F' H' b, Up hd F H F' H' → Wld K T F0 H0 hd F' σ H' S' → rel H0 hd F' σ H' S' b a → Q b H'
  | .exc e S' => ∀ F' H' dx, Up hd F H F' H' → Wld K T F0 H0 hd F' σ H' S' → XcR e dx F' → W (.ref e.cls) dx σ H'
  | .stuck => False
def tG (K : PySem.W.Frag) (T : List (Addr × Str)) (W : WX) {β α : Type} (rel : RelT β α) (f : M α) : L2.St → Hp → (β → Hp → Prop) → Prop := fun σ H Q =>
  ∃ F0 H0 hd F S, Wld K T F0 H0 hd F σ H S ∧ Po K T W F0 H0 hd σ rel Q F H (f S)
abbrev rV (K : PySem.W.Frag) : RelT V D := fun _ _ F _ _ _ v d => Rp K F v d
abbrev rB (K : PySem.W.Frag) : RelT V D := fun _ hd F _ H _ v d => RB K hd F H v d
abbrev rT : RelT Bool Bool := fun _ _ _ _ _ _ b a => b = a
abbrev rA (K : PySem.W.Frag) : RelT (List V) (List D) := fun _ _ F _ _ _ vs ds => Rps K F vs ds
/-- a list that is nobody's yet -/
abbrev rL (K : PySem.W.Frag) : RelT V (List D) := fun H0 hd F σ H S v ds =>
  ∃ p vs, v = .ref p ∧ H p = some (.lst vs) ∧ F p = none ∧ H0 p = none ∧ hd ≠ some p ∧ Rps K F vs ds ∧ ∀ i, (S.sl.getD i .un).isOwn = true → σ.getD i none ≠ some (.ref p)
abbrev JV (X : Cx) (T : List (Addr × Str)) (W : WX) (e : Expr) (f : M D) : Prop := PE X e (tG X.K T W (rV X.K) f)
abbrev JB (X : Cx) (T : List (Addr × Str)) (W : WX) (e : Expr) (f : M D) : Prop := PE X e (tG X.K T W (rB X.K) f)
abbrev JL (X : Cx) (T : List (Addr × Str)) (W : WX) (e : Expr) (f : M (List D)) : Prop := PE X e (tG X.K T W (rL X.K) f)
abbrev JT (X : Cx) (T : List (Addr × Str)) (W : WX) (e : Expr) (f : M Bool) : Prop := PT X e (tG X.K T W rT f)
abbrev JW (X : Cx) (T : List (Addr × Str)) (W : WX) (e : Expr) (f : M Bool) : Prop := PW X e (tG X.K T W rT f)
abbrev JA (X : Cx) (T : List (Addr × Str)) (W : WX) (es : List Expr) (f : M (List D)) : Prop := PA X es (tG X.K T W (rA X.K) f)

def ret {α : Type} (a : α) : M α := fun S => .ok a S
def bnd {α γ : Type} (f : M α) (g : α → M γ) : M γ := fun S => match f S with
  | .ok a S' => g a S'
  | .exc e S' => .exc e S'
  | .stuck => .stuck
def lf {α : Type} (o : Option α) : M α := fun S => match o with
  | some a => .ok a S
  | none => .stuck

theorem _root_.L2.PE.imp {X : Cx} {e : Expr} {t u : TE} (h : PE X e t) (i : ∀ σ H Q, u σ H Q → t σ H Q) : PE X e u := ⟨fun pins s σ H Q I hw => h.run pins s σ H Q I (i σ H Q hw)⟩
theorem _root_.L2.PT.imp {X : Cx} {e : Expr} {t u : TT} (h : PT X e t) (i : ∀ σ H Q, u σ H Q → t σ H Q) : PT X e u := ⟨fun pins s σ H Q I hw => h.run pins s σ H Q I (i σ H Q hw)⟩
theorem _root_.L2.PW.imp {X : Cx} {e : Expr} {t u : TT} (h : PW X e t) (i : ∀ σ H Q, u σ H Q → t σ H Q) : PW X e u := ⟨fun wh pins s σ H Q I hw => h.run wh pins s σ H Q I (i σ H Q hw)⟩
theorem _root_.L2.PA.imp {X : Cx} {e : List Expr} {t u : TA} (h : PA X e t) (i : ∀ σ H Q, u σ H Q → t σ H Q) : PA X e u := ⟨fun pos pins s σ H Q I hw => h.run pos pins s σ H Q I (i σ H Q hw)⟩
theorem _root_.L2.PS.imp {X : Cx} {e : Stmt} {t u : TS} (h : PS X e t) (i : ∀ D σ H, u D σ H → t D σ H) : PS X e u := ⟨fun pins s σ H D I hw => h.run pins s σ H D I (i D σ H hw)⟩
theorem _root_.L2.PSs.imp {X : Cx} {e : List Stmt} {t u : TS} (h : PSs X e t) (i : ∀ D σ H, u D σ H → t D σ H) : PSs X e u := ⟨fun pins s σ H D I hw => h.run pins s σ H D I (i D σ H hw)⟩

section
variable {K : PySem.W.Frag} {T : List (Addr × Str)} {W : WX} {F0 H0 F H F1 H1 : Hp} {hd : Option Addr} {σ : L2.St} {S : Sto} {α β γ δ : Type} {rel : RelT β α} {rel' : RelT δ γ}
theorem Po.up {Q : β → Hp → Prop} {o : Out α} (u : Up hd F H F1 H1) (po : Po K T W F0 H0 hd σ rel Q F H o) : Po K T W F0 H0 hd σ rel Q F1 H1 o := by
  cases o with
  | ok a S' => exact fun F' H' b v w r => po F' H' b (u.trans v) w r
  | exc e S' => exact fun F' H' b v w r => po F' H' b (u.trans v) w r
  | stuck => exact po
theorem Po.mono {Q Q' : β → Hp → Prop} {o : Out α} (po : Po K T W F0 H0 hd σ rel Q F H o) (i : ∀ b H, Q b H → Q' b H) : Po K T W F0 H0 hd σ rel Q' F H o := by
  cases o with
  | ok a S' => exact fun F' H' b v w r => i _ _ (po F' H' b v w r)
  | exc e S' => exact po
  | stuck => exact po
theorem po_bind {f : M α} {g : α → M γ} {Q : δ → Hp → Prop} {Q1 : β → Hp → Prop} (po : Po K T W F0 H0 hd σ rel' Q F H (bnd f g S))
    (k : ∀ F1 H1 b a S1, f S = .ok a S1 → Up hd F H F1 H1 → Wld K T F0 H0 hd F1 σ H1 S1 → rel H0 hd F1 σ H1 S1 b a → Po K T W F0 H0 hd σ rel' Q F1 H1 (g a S1) → Q1 b H1) : Po K T W F0 H0 hd σ rel Q1 F H (f S) := by
  unfold bnd at po
  cases q : f S with
  | ok a S1 =>
    rw [q] at po
    exact fun F1 H1 b u w r => k F1 H1 b a S1 q u w r (Po.up u po)
  | exc e S1 => rw [q] at po; exact po
  | stuck => rw [q] at po; exact po
theorem po_ok {Q : β → Hp → Prop} {a : α} {b : β} (po : Po K T W F0 H0 hd σ rel Q F H (.ok a S)) (w : Wld K T F0 H0 hd F σ H S) (r : rel H0 hd F σ H S b a) : Q b H := po F H b Up.refl w r
theorem po_lf {Q : β → Hp → Prop} {o : Option α} (po : Po K T W F0 H0 hd σ rel Q F H (lf o S)) : ∃ a, o = some a ∧ Po K T W F0 H0 hd σ rel Q F H (.ok a S) := by
  cases o with
  | some a => exact ⟨a, rfl, po⟩
  | none => exact False.elim po
/-- what an operation on values may give: a thing that is there, or one new object -/
def Ans (K : PySem.W.Frag) (F H : Hp) (d : D) (Q : VK) : Prop := (∀ v, Rp K F v d → Q v H) ∧ ∀ p o, H p = none → Rp K (upd F p o) (.ref p) d → (nt : ∀ ps, o ≠ HO.tbl ps := by intro ps z; cases z) → Q (.ref p) (upd H p o)
theorem ans_of {Q : VK} {d : D} (po : Po K T W F0 H0 hd σ (rV K) Q F H (.ok d S)) (w : Wld K T F0 H0 hd F σ H S) : Ans K F H d Q :=
  ⟨fun v r => po F H v Up.refl w r, fun p o h r nt => by
    obtain ⟨w1, u1⟩ := w.newF o h nt
    exact po _ _ _ u1 w1 r⟩
/-- a new list -/
def AnsL (K : PySem.W.Frag) (F H : Hp) (ds : List D) (Q : VK) : Prop := ∀ p vs, H p = none → Rps K F vs ds → Q (.ref p) (upd H p (.lst vs))
theorem Wld.notIn (w : Wld K T F0 H0 hd F σ H S) {p : Addr} (h : H p = none) : (hd ≠ some p) ∧ ∀ i, (S.sl.getD i .un).isOwn = true → σ.getD i none ≠ some (.ref p) := by
  refine ⟨fun e => ?_, fun i hi e => ?_⟩
  · obtain ⟨_, vs, z, _⟩ := w.hnd p e
    rw [h] at z; cases z
  · have z := w.slo i
    generalize S.sl.getD i .un = sl at z hi
    cases sl with
    | un => cases hi
    | val d => cases hi
    | clo _ _ _ _ => cases hi
    | hnd => cases hi
    | own ds =>
      obtain ⟨q, vs, e1, e2, _⟩ := z
      rw [e] at e1
      cases e1
      rw [h] at e2; cases e2
theorem ansL_of {Q : VK} {ds : List D} (po : Po K T W F0 H0 hd σ (rL K) Q F H (.ok ds S)) (w : Wld K T F0 H0 hd F σ H S) : AnsL K F H ds Q := fun p vs h r => by
  obtain ⟨w1, u1⟩ := w.newO (.lst vs) h
  obtain ⟨n1, n2⟩ := w.notIn h
  exact po _ _ _ u1 w1 ⟨p, vs, rfl, upd_same, w.freeF h, w.entryFree h, n1, r, n2⟩
theorem getD_set {α : Type} (d x : α) : ∀ (l : List α) (i j : Nat), (l.set i x).getD j d = if i = j ∧ i < l.length then x else l.getD j d
  | [], i, j => by simp
  | a :: l, 0, 0 => by simp
  | a :: l, 0, j + 1 => by simp
  | a :: l, i + 1, 0 => by simp
  | a :: l, i + 1, j + 1 => by
    have ih := getD_set d x l i j
    simp only [List.set_cons_succ, List.getD_cons_succ, ih, List.length_cons]
    by_cases h : i = j ∧ i < l.length
    · rw [if_pos h, if_pos ⟨by omega, by omega⟩]
    · rw [if_neg h, if_neg (by omega)]
/-- a list of one's own is frozen -/
theorem Wld.freeze (w : Wld K T F0 H0 hd F σ H S) {p : Addr} {vs : List V} (h : H p = some (.lst vs)) (f : F p = none) (e : H0 p = none) (n : hd ≠ some p) (m : ∀ i, (S.sl.getD i .un).isOwn = true → σ.getD i none ≠ some (.ref p)) :
    Wld K T F0 H0 hd (upd F p (.lst vs)) σ H S ∧ Up hd F H (upd F p (.lst vs)) H := by
  have lF : Le F (upd F p (.lst vs)) := upd_le f
  refine ⟨⟨fun a u z => ?_, w.r0.trans lF, fun a u z => ?_, w.dom, w.keep, w.tabs.put (fun ps z => by cases z), w.len, fun i => ?_, w.sep, fun q z => ?_⟩, ⟨lF, fun a u z => ⟨u, z⟩, fun _ _ z _ _ => z⟩⟩
  · by_cases hb : a = p
    · subst hb; rw [upd_same] at z; cases z; exact h
    · rw [upd_ne hb] at z; exact w.le a u z
  · by_cases hb : a = p
    · subst hb; exact .inr e
    · rw [upd_ne hb] at z; exact w.r1 a u z
  · have z := w.slo i
    have mi := m i
    generalize S.sl.getD i .un = sl at z mi ⊢
    cases sl with
    | un => trivial
    | val d => obtain ⟨v, e, r⟩ := z; exact ⟨v, e, r.mono lF⟩
    | clo _ _ _ _ => exact ⟨z.1, z.2.1.mono lF, z.2.2⟩
    | own ds =>
      obtain ⟨q, vs, e1, e2, e3, e4, e5, r⟩ := z
      refine ⟨q, vs, e1, e2, ?_, e4, e5, r.mono lF⟩
      rw [upd_ne (fun y => mi rfl (by rw [e1, y]))]; exact e3
    | hnd => exact z
  · obtain ⟨f', vs', e1, r⟩ := w.hnd q z
    refine ⟨?_, vs', e1, r.mono lF⟩
    rw [upd_ne (fun y => n (by rw [z, y]))]; exact f'
/-- a slot is forgotten, or told otherwise -/
theorem Wld.slot (w : Wld K T F0 H0 hd F σ H S) {i : Nat} {x : Option V} {s : Sl} (z : SlR K H0 hd F H x s) (m : s.isOwn = true → ∀ j p, j ≠ i → (S.sl.getD j .un).isOwn = true → x = some (.ref p) → σ.getD j none ≠ some (.ref p)) :
    Wld K T F0 H0 hd F (σ.set i x) H { S with sl := S.sl.set i s } := by
  refine ⟨w.le, w.r0, w.r1, w.dom, w.keep, w.tabs, by simp [w.len], fun j => ?_, fun j k p hjk h1 h2 h3 h4 => ?_, w.hnd⟩
  · show SlR K H0 hd F H ((σ.set i x).getD j none) ((S.sl.set i s).getD j .un)
    rw [getD_set, getD_set, w.len]
    by_cases h : i = j ∧ i < S.sl.length
    · rw [if_pos h, if_pos h]; exact z
    · rw [if_neg h, if_neg h]; exact w.slo j
  · have h1 : ((S.sl.set i s).getD j .un).isOwn = true := h1
    have h2 : ((S.sl.set i s).getD k .un).isOwn = true := h2
    rw [getD_set] at h1 h2 h3 h4
    rw [w.len] at h3 h4
    by_cases hj : i = j ∧ i < S.sl.length
    · rw [if_pos hj] at h1 h3
      have hk : ¬ (i = k ∧ i < S.sl.length) := fun y => hjk (hj.1.symm.trans y.1)
      rw [if_neg hk] at h2 h4
      exact m h1 k p (fun y => hjk (hj.1.symm.trans y.symm)) h2 h3 h4
    · rw [if_neg hj] at h1 h3
      by_cases hk : i = k ∧ i < S.sl.length
      · rw [if_pos hk] at h2 h4
        exact m h2 j p (fun y => hjk (y.trans hk.1)) h1 h4 h3
      · rw [if_neg hk] at h2 h4
        exact w.sep j k p hjk h1 h2 h3 h4
theorem getD_out {α : Type} (d : α) : ∀ (l : List α) (i : Nat), l.length ≤ i → l.getD i d = d
  | [], _, _ => by simp
  | a :: l, 0, h => by simp at h
  | a :: l, i + 1, h => by
    rw [List.getD_cons_succ]
    exact getD_out d l i (by simpa using h)
theorem set_getD_self {α : Type} (d : α) : ∀ (l : List α) (i : Nat) (x : α), l.getD i d = x → x ≠ d → l.set i x = l
  | [], _, _, h, n => absurd (by simpa using h.symm) n
  | a :: l, 0, x, h, n => by simp at h; simp [h]
  | a :: l, i + 1, x, h, n => by
    simp only [List.getD_cons_succ] at h
    rw [List.set_cons_succ, set_getD_self d l i x h n]
/-- the slot's own list is frozen where it stands -/
theorem Wld.freezeAt (w : Wld K T F0 H0 hd F σ H S) {i : Nat} {ds : List D} (e : S.sl.getD i .un = .own ds) :
    ∃ p vs, σ.getD i none = some (.ref p) ∧ Wld K T F0 H0 hd (upd F p (.lst vs)) σ H { S with sl := S.sl.set i (.val (.lst ds)) } ∧ Up hd F H (upd F p (.lst vs)) H ∧ Rp K (upd F p (.lst vs)) (.ref p) (.lst ds) := by
  have z := w.slo i
  rw [e] at z
  obtain ⟨p, vs, e1, e2, e3, e4, e5, r⟩ := z
  have w1 : Wld K T F0 H0 hd F (σ.set i (some (.ref p))) H { S with sl := S.sl.set i .un } := w.slot (x := some (.ref p)) (s := .un) trivial (fun z => by cases z)
  have es : σ.set i (some (.ref p)) = σ := set_getD_self none σ i _ e1 (by simp)
  rw [es] at w1
  have m : ∀ j, ((S.sl.set i .un).getD j .un).isOwn = true → σ.getD j none ≠ some (.ref p) := fun j hj y => by
    rw [getD_set] at hj
    by_cases h : i = j ∧ i < S.sl.length
    · rw [if_pos h] at hj; cases hj
    · rw [if_neg h] at hj
      by_cases hij : i = j
      · subst hij
        have hl : ¬ i < S.sl.length := fun q => h ⟨rfl, q⟩
        rw [getD_out _ _ _ (by omega)] at hj; cases hj
      · exact w.sep i j p hij (by rw [e]; rfl) hj e1 y
  obtain ⟨w2, u2⟩ := w1.freeze e2 e3 e4 e5 m
  have r2 : Rp K (upd F p (.lst vs)) (.ref p) (.lst ds) := .lst upd_same (r.mono u2.fF)
  have w3 := w2.slot (i := i) (x := some (.ref p)) (s := .val (.lst ds)) ⟨_, rfl, r2⟩ (fun z => by cases z)
  rw [es] at w3
  have el : (S.sl.set i .un).set i (.val (.lst ds)) = S.sl.set i (.val (.lst ds)) := List.set_set _
  refine ⟨p, vs, e1, ?_, u2, r2⟩
  have w3 : Wld K T F0 H0 hd (upd F p (.lst vs)) σ H ⟨(S.sl.set i .un).set i (.val (.lst ds)), S.hc⟩ := w3
  rw [el] at w3
  exact w3
end

/-! ### names, constants -/
section
variable {X : Cx} {T : List (Addr × Str)} {W : WX} {e : Expr}
theorem getD_some {σ : L2.St} {i : Nat} {v : V} (h : σ.getD i none = some v) : σ[i]? = some (some v) := by
  rw [List.getD_eq_getElem?_getD] at h
  cases q : σ[i]? with
  | none => rw [q] at h; cases h
  | some o => rw [q] at h; exact congrArg some h
/-- the slot's data; a list of one's own is frozen -/
def vV (i : Nat) : M D := fun S => match S.sl.getD i .un with
  | .val d => .ok d S
  | .own ds => .ok (.lst ds) { S with sl := S.sl.set i (.val (.lst ds)) }
  | _ => .stuck
/-- .. read where it stands -/
def vB (i : Nat) : M D := fun S => match S.sl.getD i .un with
  | .val d => .ok d S
  | .own ds => .ok (.lst ds) S
  | _ => .stuck
/-- the list is handed on -/
def vL (i : Nat) : M (List D) := fun S => match S.sl.getD i .un with
  | .own ds => .ok ds { S with sl := S.sl.set i .un }
  | _ => .stuck
theorem jv_var {i : Nat} (h : PE X e (tVar i)) : JV X T W e (vV i) := h.imp fun σ H Q ⟨F0, H0, hd, F, S, w, po⟩ => by
  unfold vV at po
  have z := w.slo i
  cases q : S.sl.getD i .un with
  | val d =>
    rw [q] at po z
    obtain ⟨v, e1, r⟩ := z
    exact ⟨v, getD_some e1, po_ok po w r⟩
  | own ds =>
    rw [q] at po
    obtain ⟨p, vs, e1, w1, u1, r1⟩ := w.freezeAt q
    exact ⟨.ref p, getD_some e1, po _ _ _ u1 w1 r1⟩
  | un => rw [q] at po; exact False.elim po
  | clo _ _ _ _ => rw [q] at po; exact False.elim po
  | hnd => rw [q] at po; exact False.elim po
theorem jb_var {i : Nat} (h : PE X e (tVar i)) : JB X T W e (vB i) := h.imp fun σ H Q ⟨F0, H0, hd, F, S, w, po⟩ => by
  unfold vB at po
  have z := w.slo i
  cases q : S.sl.getD i .un with
  | val d =>
    rw [q] at po z
    obtain ⟨v, e1, r⟩ := z
    exact ⟨v, getD_some e1, po_ok po w (.inl r)⟩
  | own ds =>
    rw [q] at po z
    obtain ⟨p, vs, e1, e2, e3, e4, e5, r⟩ := z
    exact ⟨.ref p, getD_some e1, po_ok po w (.inr ⟨p, vs, ds, rfl, rfl, e5, e2, r⟩)⟩
  | un => rw [q] at po; exact False.elim po
  | clo _ _ _ _ => rw [q] at po; exact False.elim po
  | hnd => rw [q] at po; exact False.elim po
theorem jl_var {i : Nat} (h : PE X e (tVar i)) : JL X T W e (vL i) := h.imp fun σ H Q ⟨F0, H0, hd, F, S, w, po⟩ => by
  unfold vL at po
  have z := w.slo i
  cases q : S.sl.getD i .un with
  | own ds =>
    rw [q] at po z
    obtain ⟨p, vs, e1, e2, e3, e4, e5, r⟩ := z
    have w1 : Wld X.K T F0 H0 hd F (σ.set i (some (.ref p))) H { S with sl := S.sl.set i .un } := w.slot (x := some (.ref p)) (s := .un) trivial (fun z => by cases z)
    rw [set_getD_self none σ i _ e1 (by simp)] at w1
    refine ⟨.ref p, getD_some e1, po_ok po w1 ⟨p, vs, rfl, e2, e3, e4, e5, r, fun j hj y => ?_⟩⟩
    have hj : ((S.sl.set i .un).getD j .un).isOwn = true := hj
    rw [getD_set] at hj
    by_cases h : i = j ∧ i < S.sl.length
    · rw [if_pos h] at hj; cases hj
    · rw [if_neg h] at hj
      by_cases hij : i = j
      · subst hij
        have hl : ¬ i < S.sl.length := fun q => h ⟨rfl, q⟩
        rw [getD_out _ _ _ (by omega)] at hj; cases hj
      · exact w.sep i j p hij (by rw [q]; rfl) hj e1 y
  | val d => rw [q] at po; exact False.elim po
  | un => rw [q] at po; exact False.elim po
  | clo _ _ _ _ => rw [q] at po; exact False.elim po
  | hnd => rw [q] at po; exact False.elim po
theorem jv_c {v : V} {d : D} (h : PE X e (tC v)) (r : ∀ F, Rp X.K F v d) : JV X T W e (ret d) := h.imp fun σ H Q ⟨F0, H0, hd, F, S, w, po⟩ => po_ok po w (r F)
theorem jv_int {i : Int} {j pos} : JV X T W (.Constant (.int i) j pos) (ret (.int i)) := jv_c pe_int fun _ => .int i
theorem jv_bl {b : Bool} {j pos} : JV X T W (.Constant (.bool b) j pos) (ret (.bl b)) := jv_c pe_bl fun _ => .bl b
theorem jv_non {j pos} : JV X T W (.Constant .none j pos) (ret .non) := jv_c pe_non fun _ => .non
theorem jv_str {x : Str} {j pos} : JV X T W (.Constant (.str x) j pos) (ret (.str x)) := jv_c pe_str fun _ => .str x
theorem jb_of {f : M D} (h : JV X T W e f) : JB X T W e f := h.imp fun σ H Q ⟨F0, H0, hd, F, S, w, po⟩ => ⟨F0, H0, hd, F, S, w, by
  cases q : f S with
  | ok a S' => rw [q] at po; exact fun F' H' b u w r => po F' H' b u w (.inl r)
  | exc e S' => rw [q] at po; exact po
  | stuck => rw [q] at po; exact po⟩
/-- a new list, frozen at once -/
def frz (f : M (List D)) : M D := bnd f fun ds => ret (.lst ds)
theorem jv_ofL {f : M (List D)} (h : JL X T W e f) : JV X T W e (frz f) := h.imp fun σ H Q ⟨F0, H0, hd, F, S, w, po⟩ => ⟨F0, H0, hd, F, S, w, by
  refine po_bind po fun F1 H1 b a S1 _ u w1 r po1 => ?_
  obtain ⟨p, vs, rfl, e1, e2, e3, e4, r, n⟩ := r
  obtain ⟨w2, u2⟩ := w1.freeze e1 e2 e3 e4 n
  exact po1 _ _ _ u2 w2 (.lst upd_same (r.mono u2.fF))⟩
theorem jb_ofL {f : M (List D)} (h : JL X T W e f) : JB X T W e (frz f) := h.imp fun σ H Q ⟨F0, H0, hd, F, S, w, po⟩ => ⟨F0, H0, hd, F, S, w, by
  refine po_bind po fun F1 H1 b a S1 _ u w1 r po1 => ?_
  obtain ⟨p, vs, rfl, e1, e2, e3, e4, r, n⟩ := r
  exact po1 _ _ _ Up.refl w1 (.inr ⟨p, vs, a, rfl, rfl, e4, e1, r⟩)⟩
end

/-! ### two operands -/
def b2 {α : Type} (fa fb : M D) (op : D → D → Option α) : M α := bnd fa fun x => bnd fb fun y => lf (op x y)
/-- a rule by values, against an operation on data -/
def Op2 (K : PySem.W.Frag) (r : R2) (op : D → D → Option D) : Prop := ∀ (hd : Option Addr) (F H : Hp) (x y : V) (d1 d2 d : D) (Q : VK), Le F H → RB K hd F H x d1 → RB K hd F H y d2 → op d1 d2 = some d → Ans K F H d Q → r x y H Q
def Op2L (K : PySem.W.Frag) (r : R2) (op : D → D → Option (List D)) : Prop := ∀ (hd : Option Addr) (F H : Hp) (x y : V) (d1 d2 : D) (d : List D) (Q : VK), Le F H → RB K hd F H x d1 → RB K hd F H y d2 → op d1 d2 = some d → AnsL K F H d Q → r x y H Q
section
variable {X : Cx} {T : List (Addr × Str)} {W : WX} {a b e : Expr} {fa fb : M D} {r : R2}
theorem t_op {op : D → D → Option D} (hs : Op2 X.K r op) : ∀ σ H Q, tG X.K T W (rV X.K) (b2 fa fb op) σ H Q → tOp r (tG X.K T W (rB X.K) fa) (tG X.K T W (rB X.K) fb) σ H Q := fun σ H Q ⟨F0, H0, hd, F, S, w, po⟩ =>
  ⟨F0, H0, hd, F, S, w, po_bind po fun F1 H1 x d1 S1 _ u1 w1 r1 po1 => ⟨F0, H0, hd, F1, S1, w1, po_bind po1 fun F2 H2 y d2 S2 _ u2 w2 r2 po2 => by
    obtain ⟨d, e, po3⟩ := po_lf po2
    exact hs hd F2 H2 x y d1 d2 d Q w2.le (RB.up u2 r1) r2 e (ans_of po3 w2)⟩⟩
theorem t_opL {op : D → D → Option (List D)} (hs : Op2L X.K r op) : ∀ σ H Q, tG X.K T W (rL X.K) (b2 fa fb op) σ H Q → tOp r (tG X.K T W (rB X.K) fa) (tG X.K T W (rB X.K) fb) σ H Q := fun σ H Q ⟨F0, H0, hd, F, S, w, po⟩ =>
  ⟨F0, H0, hd, F, S, w, po_bind po fun F1 H1 x d1 S1 _ u1 w1 r1 po1 => ⟨F0, H0, hd, F1, S1, w1, po_bind po1 fun F2 H2 y d2 S2 _ u2 w2 r2 po2 => by
    obtain ⟨d, e, po3⟩ := po_lf po2
    exact hs hd F2 H2 x y d1 d2 d Q w2.le (RB.up u2 r1) r2 e (ansL_of po3 w2)⟩⟩
theorem jv_op {op : Operator} {o : D → D → Option D} {pos : Pos} (ho : OpR X (binaryOp op) r) (hs : Op2 X.K r o) (ha : JB X T W a fa) (hb : JB X T W b fb) : JV X T W (.BinOp a op b pos) (b2 fa fb o) := (pe_op ho ha hb).imp (t_op hs)
theorem jl_op {op : Operator} {o : D → D → Option (List D)} {pos : Pos} (ho : OpR X (binaryOp op) r) (hs : Op2L X.K r o) (ha : JB X T W a fa) (hb : JB X T W b fb) : JL X T W (.BinOp a op b pos) (b2 fa fb o) := (pe_op ho ha hb).imp (t_opL hs)
/-- a comparison as a value -/
def opB (o : D → D → Option Bool) : D → D → Option D := fun x y => (o x y).map .bl
theorem jv_cmp {op : CmpOp} {o : D → D → Option Bool} {pos : Pos} (ho : OpR X (compareOp op) r) (hs : Op2 X.K r (opB o)) (ha : JB X T W a fa) (hb : JB X T W b fb) (hm : behindInMarks op b = false) : JV X T W (.Compare a [op] [b] pos) (b2 fa fb (opB o)) :=
  (pe_cmpR ho ha hb hm).imp (t_op hs)
theorem t_cmp {o : D → D → Option Bool} (hs : Op2 X.K r (opB o)) : ∀ σ H Q, tG X.K T W rT (b2 fa fb o) σ H Q → tTest (tOp r (tG X.K T W (rB X.K) fa) (tG X.K T W (rB X.K) fb)) σ H Q := fun σ H Q ⟨F0, H0, hd, F, S, w, po⟩ =>
  ⟨F0, H0, hd, F, S, w, po_bind po fun F1 H1 x d1 S1 _ u1 w1 r1 po1 => ⟨F0, H0, hd, F1, S1, w1, po_bind po1 fun F2 H2 y d2 S2 _ u2 w2 r2 po2 => by
    obtain ⟨d, e, po3⟩ := po_lf po2
    refine hs hd F2 H2 x y d1 d2 (.bl d) _ w2.le (RB.up u2 r1) r2 (by unfold opB; rw [e]; rfl) ⟨fun v q => ?_, fun p o h q => by cases q⟩
    cases q
    exact ⟨d, rfl, po_ok po3 w2 rfl⟩⟩⟩
theorem jt_cmp {op : CmpOp} {o : D → D → Option Bool} {pos : Pos} (ho : OpR X (compareOp op) r) (hs : Op2 X.K r (opB o)) (ha : JB X T W a fa) (hb : JB X T W b fb) (hm : behindInMarks op b = false) : JT X T W (.Compare a [op] [b] pos) (b2 fa fb o) :=
  (pt_cmpR ho ha hb hm).imp (t_cmp hs)
end
theorem OpR.add2 {X : Cx} {f : Value → Value → Sem Value} {r r' : R2} (h : OpR X f r) (h' : OpR X f r') : OpR X f (fun x y H Q => r x y H Q ∨ r' x y H Q) := OpR.or h h'
end FX

set_option Elab.async false
set_option linter.all false
set_option maxRecDepth 100000
set_option maxHeartbeats 4000000
namespace FX
open PySem PySem.Spec PyProof.Rows L2 LamX

theorem Rps.ints {K : PySem.W.Frag} {F : Hp} : ∀ {vs : List V} {ns : List Int}, Rps K F vs (ns.map D.int) → vs = ns.map V.int
  | [], [], _ => rfl
  | _, _ :: ns, h => by
    rw [List.map_cons] at h
    cases h with
    | cons r t => cases r; rw [Rps.ints t]; rfl
theorem Rps.bls {K : PySem.W.Frag} {F : Hp} : ∀ {vs : List V} {ns : List Bool}, Rps K F vs (ns.map D.bl) → vs = ns.map V.bl
  | [], [], _ => rfl
  | _, _ :: ns, h => by
    rw [List.map_cons] at h
    cases h with
    | cons r t => cases r; rw [Rps.bls t]; rfl
theorem rps_ints {K : PySem.W.Frag} {F : Hp} : ∀ ns : List Int, Rps K F (ns.map V.int) (ns.map D.int)
  | [] => .nil
  | n :: ns => .cons (.int n) (rps_ints ns)
def allI : List D → Option (List Int)
  | [] => some []
  | .int i :: r => (allI r).map (i :: ·)
  | _ => none
def allB : List D → Option (List Bool)
  | [] => some []
  | .bl i :: r => (allB r).map (i :: ·)
  | _ => none
theorem allI_some : ∀ {ds : List D} {ns : List Int}, allI ds = some ns → ds = ns.map D.int
  | [], ns, h => by cases h; rfl
  | .int i :: r, ns, h => by
    simp only [allI, Option.map_eq_some_iff] at h
    obtain ⟨m, h1, rfl⟩ := h
    rw [allI_some h1]; rfl
  | .non :: _, _, h => by cases h
  | .bl _ :: _, _, h => by cases h
  | .str _ :: _, _, h => by cases h
  | .tup _ :: _, _, h => by cases h
  | .lst _ :: _, _, h => by cases h
  | .dic _ :: _, _, h => by cases h
  | .rng _ _ :: _, _, h => by cases h
  | .adr _ :: _, _, h => by cases h
  | .ty _ :: _, _, h => by cases h
  | .exc _ :: _, _, h => by cases h
  | .scr _ :: _, _, h => by cases h
theorem allB_some : ∀ {ds : List D} {ns : List Bool}, allB ds = some ns → ds = ns.map D.bl
  | [], ns, h => by cases h; rfl
  | .bl i :: r, ns, h => by
    simp only [allB, Option.map_eq_some_iff] at h
    obtain ⟨m, h1, rfl⟩ := h
    rw [allB_some h1]; rfl
  | .non :: _, _, h => by cases h
  | .int _ :: _, _, h => by cases h
  | .str _ :: _, _, h => by cases h
  | .tup _ :: _, _, h => by cases h
  | .lst _ :: _, _, h => by cases h
  | .dic _ :: _, _, h => by cases h
  | .rng _ _ :: _, _, h => by cases h
  | .adr _ :: _, _, h => by cases h
  | .ty _ :: _, _, h => by cases h
  | .exc _ :: _, _, h => by cases h
  | .scr _ :: _, _, h => by cases h
theorem allI_map : ∀ ns : List Int, allI (ns.map D.int) = some ns
  | [] => rfl
  | n :: ns => by rw [List.map_cons, allI, allI_map ns]; rfl
theorem allB_map : ∀ ns : List Bool, allB (ns.map D.bl) = some ns
  | [] => rfl
  | n :: ns => by rw [List.map_cons, allB, allB_map ns]; rfl

/-! ### ints, texts, sequences -/
theorem ans_val {K : PySem.W.Frag} {F H : Hp} {d : D} {Q : VK} {v : V} (a : Ans K F H d Q) (r : Rp K F v d) : Q v H := a.1 v r
theorem ans_lst {K : PySem.W.Frag} {F H : Hp} {ds : List D} {vs : List V} {Q : VK} (le : Le F H) (a : Ans K F H (.lst ds) Q) (r : Rps K F vs ds) : ∀ p, H p = none → Q (.ref p) (upd H p (.lst vs)) := fun p h => by
  have hF : F p = none := by
    cases q : F p with
    | none => rfl
    | some o => rw [le p o q] at h; cases h
  exact a.2 p _ h (.lst upd_same (r.mono (upd_le hF)))
theorem ans_tup {K : PySem.W.Frag} {F H : Hp} {ds : List D} {vs : List V} {Q : VK} (le : Le F H) (a : Ans K F H (.tup ds) Q) (r : Rps K F vs ds) : ∀ p, H p = none → Q (.ref p) (upd H p (.tup vs)) := fun p h => by
  have hF : F p = none := by
    cases q : F p with
    | none => rfl
    | some o => rw [le p o q] at h; cases h
  exact a.2 p _ h (.tup (SqT.of upd_same) (r.mono (upd_le hF)))
/-- is a product within what the model takes -/
def mulOk (i j : Int) : Bool := (decide (-(2 ^ 64) < i) && decide (i < 2 ^ 64)) || ((decide (-(2 ^ 64) < j) && decide (j < 2 ^ 64)) || decide (i.natAbs.log2 + j.natAbs.log2 < 1000000))
def addD : D → D → Option D
  | .int i, .int j => some (.int (i + j))
  | .str a, .str b => if a.length + b.length ≤ sizeLine then some (.str (a ++ b)) else none
  | .tup a, .tup b => if a.length + b.length ≤ sizeLine then some (.tup (a ++ b)) else none
  | .lst a, .lst b => if a.length + b.length ≤ sizeLine then some (.lst (a ++ b)) else none
  | _, _ => none
def subD : D → D → Option D
  | .int i, .int j => some (.int (i - j))
  | _, _ => none
def mulD : D → D → Option D
  | .int i, .int j => if mulOk i j = true then some (.int (i * j)) else none
  | .lst a, .int k => if -(2 ^ 63) ≤ k ∧ k < 2 ^ 63 ∧ a.length * k.toNat ≤ sizeLine then some (.lst (List.replicate k.toNat a).flatten) else none
  | .tup a, .int k => if a ≠ [] ∧ 2 ≤ k ∧ k ≤ 1000 ∧ a.length ≤ 1000 then some (.tup (List.replicate k.toNat a).flatten) else none
  | _, _ => none
def divD : D → D → Option D
  | .int i, .int j => if 0 < j ∧ j.natAbs.log2 < 9000 then some (.int (i / j)) else none
  | _, _ => none
def modD : D → D → Option D
  | .int i, .int j => if 0 < j then some (.int (i % j)) else none
  | _, _ => none
def powD : D → D → Option D
  | .int i, .int j => if 0 ≤ j ∧ j ≤ 1000000 ∧ i.natAbs < 2 ^ 64 then some (.int (i ^ j.toNat)) else none
  | _, _ => none
section
variable {X : Cx}
abbrev rOr (r r' : R2) : R2 := fun x y H Q => r x y H Q ∨ r' x y H Q
abbrev rAddA (K : PySem.W.Frag) : R2 := rOr (rI0 fun i j => .int (i + j)) (rOr (fun x y H Q => ∃ i j, x = .str i ∧ y = .str j ∧ i.length + j.length ≤ sizeLine ∧ Q (.str (i ++ j)) H) (rOr (rCatA K) rCat))
theorem o_add : OpR X (binaryOp .Add) (rAddA X.K) := op_add.or (op_add_str.or (op_catA.or op_cat))
theorem s_add {K : PySem.W.Frag} : Op2 K (rAddA K) addD := by
  intro hd F H x y d1 d2 d Q le rx ry e a
  unfold addD at e
  split at e
  · cases e
    exact .inl ⟨_, _, rx.int, ry.int, a.1 _ (.int _)⟩
  · split at e
    · cases e; rename_i h
      exact .inr (.inl ⟨_, _, rx.str, ry.str, h, a.1 _ (.str _)⟩)
    · cases e
  · split at e
    · cases e; rename_i h
      obtain ⟨p, vs, rfl, f1, h1, r1⟩ := rx.tup le
      obtain ⟨q, ws, rfl, f2, h2, r2⟩ := ry.tup le
      refine .inr (.inr (.inl ⟨p, q, vs, ws, rfl, rfl, h1, h2, by rw [r1.length, r2.length]; exact h, fun z => ?_, fun _ z => ?_, fun _ _ => ans_tup le a (r1.append r2)⟩))
      · subst z; cases r1; exact a.1 _ (.tup f2 r2)
      · subst z; cases r2; rw [List.append_nil] at a; exact a.1 _ (.tup f1 r1)
    · cases e
  · split at e
    · cases e; rename_i h
      obtain ⟨p, vs, rfl, h1, r1⟩ := rx.list le
      obtain ⟨q, ws, rfl, h2, r2⟩ := ry.list le
      exact .inr (.inr (.inr ⟨p, q, vs, ws, rfl, rfl, h1, h2, by rw [r1.length, r2.length]; exact h, ans_lst le a (r1.append r2)⟩))
    · cases e
  · cases e
/-- list + list, to be one's own -/
def catL : D → D → Option (List D)
  | .lst a, .lst b => if a.length + b.length ≤ sizeLine then some (a ++ b) else none
  | _, _ => none
theorem s_catL {K : PySem.W.Frag} : Op2L K (rAddA K) catL := by
  intro hd F H x y d1 d2 d Q le rx ry e a
  unfold catL at e
  split at e
  · split at e
    · cases e; rename_i h
      obtain ⟨p, vs, rfl, h1, r1⟩ := rx.list le
      obtain ⟨q, ws, rfl, h2, r2⟩ := ry.list le
      exact .inr (.inr (.inr ⟨p, q, vs, ws, rfl, rfl, h1, h2, by rw [r1.length, r2.length]; exact h, fun l hl => a l _ hl (r1.append r2)⟩))
    · cases e
  · cases e
theorem s_sub {K : PySem.W.Frag} : Op2 K (rI0 fun i j => .int (i - j)) subD := by
  intro hd F H x y d1 d2 d Q le rx ry e a
  unfold subD at e
  split at e
  · cases e
    exact ⟨_, _, rx.int, ry.int, a.1 _ (.int _)⟩
  · cases e
abbrev rMulA (K : PySem.W.Frag) : R2 := rOr (rI CMul fun i j => .int (i * j)) (rOr (rI CMulW fun i j => .int (i * j)) (rOr rRep (rRepT K)))
theorem o_mul : OpR X (binaryOp .Mult) (rMulA X.K) := op_mul.or (op_mulW.or (op_rep.or op_repT))
theorem Rps.rep {K : PySem.W.Frag} {F : Hp} {vs : List V} {ds : List D} (r : Rps K F vs ds) : ∀ k : Nat, Rps K F (List.replicate k vs).flatten (List.replicate k ds).flatten
  | 0 => .nil
  | k + 1 => by
    rw [List.replicate_succ, List.replicate_succ, List.flatten_cons, List.flatten_cons]
    exact r.append (Rps.rep r k)
theorem s_mul {K : PySem.W.Frag} : Op2 K (rMulA K) mulD := by
  intro hd F H x y d1 d2 d Q le rx ry e a
  unfold mulD at e
  split at e
  · split at e
    · cases e; rename_i i j h
      unfold mulOk at h
      simp only [Bool.or_eq_true, Bool.and_eq_true, decide_eq_true_eq] at h
      rcases h with h | h | h
      · exact .inl ⟨_, _, rx.int, ry.int, .inl h, a.1 _ (.int _)⟩
      · exact .inl ⟨_, _, rx.int, ry.int, .inr h, a.1 _ (.int _)⟩
      · exact .inr (.inl ⟨_, _, rx.int, ry.int, h, a.1 _ (.int _)⟩)
    · cases e
  · split at e
    · cases e; rename_i h
      obtain ⟨p, vs, rfl, h1, r1⟩ := rx.list le
      obtain ⟨z1, z2, z3⟩ := h
      exact .inr (.inr (.inl ⟨p, _, vs, rfl, ry.int, h1, z1, z2, by rw [r1.length]; exact z3, ans_lst le a (r1.rep _)⟩))
    · cases e
  · split at e
    · cases e; rename_i h
      obtain ⟨p, vs, rfl, f1, h1, r1⟩ := rx.tup le
      obtain ⟨z1, z2, z3, z4⟩ := h
      refine .inr (.inr (.inr ⟨p, _, vs, rfl, ry.int, h1, fun z => z1 (by subst z; cases r1; rfl), z2, z3, by rw [r1.length]; exact z4, ans_tup le a (r1.rep _)⟩))
    · cases e
  · cases e
theorem s_div {K : PySem.W.Frag} : Op2 K (rI CDivW fun i j => .int (i / j)) divD := by
  intro hd F H x y d1 d2 d Q le rx ry e a
  unfold divD at e
  split at e
  · split at e
    · cases e; rename_i h
      exact ⟨_, _, rx.int, ry.int, h, a.1 _ (.int _)⟩
    · cases e
  · cases e
theorem s_mod {K : PySem.W.Frag} : Op2 K (rI (fun _ j => 0 < j) fun i j => .int (i % j)) modD := by
  intro hd F H x y d1 d2 d Q le rx ry e a
  unfold modD at e
  split at e
  · split at e
    · cases e; rename_i h
      exact ⟨_, _, rx.int, ry.int, h, a.1 _ (.int _)⟩
    · cases e
  · cases e
theorem s_pow {K : PySem.W.Frag} : Op2 K (rI CPow fun i j => .int (i ^ j.toNat)) powD := by
  intro hd F H x y d1 d2 d Q le rx ry e a
  unfold powD at e
  split at e
  · split at e
    · cases e; rename_i h
      exact ⟨_, _, rx.int, ry.int, h, a.1 _ (.int _)⟩
    · cases e
  · cases e
/-! ### comparisons -/
def ltB : D → D → Option Bool
  | .int i, .int j => some (decide (i < j))
  | _, _ => none
def leB : D → D → Option Bool
  | .int i, .int j => some (decide (i ≤ j))
  | _, _ => none
def gtB : D → D → Option Bool
  | .int i, .int j => some (decide (j < i))
  | _, _ => none
def geB : D → D → Option Bool
  | .int i, .int j => some (decide (j ≤ i))
  | _, _ => none
theorem s_cI {K : PySem.W.Frag} {p : Int → Int → Bool} {o : D → D → Option Bool} (h : ∀ d1 d2 b, o d1 d2 = some b → ∃ i j, d1 = .int i ∧ d2 = .int j ∧ b = p i j) : Op2 K (rI0 fun i j => .bl (p i j)) (opB o) := by
  intro hd F H x y d1 d2 d Q le rx ry e a
  unfold opB at e
  rw [Option.map_eq_some_iff] at e
  obtain ⟨b, e1, rfl⟩ := e
  obtain ⟨i, j, rfl, rfl, rfl⟩ := h _ _ _ e1
  exact ⟨_, _, rx.int, ry.int, a.1 _ (.bl _)⟩
theorem s_lt {K : PySem.W.Frag} : Op2 K (rI0 fun i j => .bl (decide (i < j))) (opB ltB) := s_cI fun d1 d2 b h => by
  unfold ltB at h
  split at h
  · cases h; exact ⟨_, _, rfl, rfl, rfl⟩
  · cases h
theorem s_le {K : PySem.W.Frag} : Op2 K (rI0 fun i j => .bl (decide (i ≤ j))) (opB leB) := s_cI fun d1 d2 b h => by
  unfold leB at h
  split at h
  · cases h; exact ⟨_, _, rfl, rfl, rfl⟩
  · cases h
theorem s_gt {K : PySem.W.Frag} : Op2 K (rI0 fun i j => .bl (decide (j < i))) (opB gtB) := s_cI fun d1 d2 b h => by
  unfold gtB at h
  split at h
  · cases h; exact ⟨_, _, rfl, rfl, rfl⟩
  · cases h
theorem s_ge {K : PySem.W.Frag} : Op2 K (rI0 fun i j => .bl (decide (j ≤ i))) (opB geB) := s_cI fun d1 d2 b h => by
  unfold geB at h
  split at h
  · cases h; exact ⟨_, _, rfl, rfl, rfl⟩
  · cases h
/-! ### ==, at any depth -/
mutual
def toP : D → Option PyData
  | .non => some .none
  | .bl b => some (.bool b)
  | .int i => some (.int i)
  | .str x => some (.str x)
  | .tup ds => (toPs ds).map .tuple
  | .lst ds => (toPs ds).map .list
  | _ => none
def toPs : List D → Option (List PyData)
  | [] => some []
  | d :: ds => match toP d, toPs ds with
    | some p, some ps => some (p :: ps)
    | _, _ => none
end
mutual
theorem Rp.dp {K : PySem.W.Frag} {F : Hp} : ∀ {v : V} {d : D} {p : PyData}, Rp K F v d → toP d = some p → Dp K F v p
  | _, _, _, .non, e => by cases e; exact .non
  | _, _, _, .bl b, e => by cases e; exact .bl b
  | _, _, _, .int b, e => by cases e; exact .int b
  | _, _, _, .str b, e => by cases e; exact .str b
  | _, _, _, .tup h r, e => by
    simp only [toP, Option.map_eq_some_iff] at e
    obtain ⟨ps, e1, rfl⟩ := e
    exact .tup h (Rps.dp r e1)
  | _, _, _, .lst h r, e => by
    simp only [toP, Option.map_eq_some_iff] at e
    obtain ⟨ps, e1, rfl⟩ := e
    exact .lst (SqL.of h) (Rps.dp r e1)
  | _, _, _, .scr h r, e => by cases e
  | _, _, _, .dic h r, e => by cases e
  | _, _, _, .rng h, e => by cases e
  | _, _, _, .adr a, e => by cases e
  | _, _, _, .ty n, e => by cases e
  | _, _, _, .exc h r _, e => by cases e
theorem Rps.dp {K : PySem.W.Frag} {F : Hp} : ∀ {v : List V} {d : List D} {p : List PyData}, Rps K F v d → toPs d = some p → DpAll K F v p
  | _, _, _, .nil, e => by cases e; exact .nil
  | _, _, _, .cons h r, e => by
    unfold toPs at e
    split at e
    · rename_i q qs e1 e2
      cases e
      exact .cons (Rp.dp h e1) (Rps.dp r e2)
    · cases e
end
mutual
theorem Dp.mono {K : PySem.W.Frag} {F G : Hp} (e : Le F G) : ∀ {v : V} {d : PyData}, Dp K F v d → Dp K G v d
  | _, _, .non => .non
  | _, _, .bl b => .bl b
  | _, _, .int i => .int i
  | _, _, .str x => .str x
  | _, _, .tup h r => .tup (e.st h) (DpAll.mono e r)
  | _, _, .lst h r => .lst (e.sl h) (DpAll.mono e r)
theorem DpAll.mono {K : PySem.W.Frag} {F G : Hp} (e : Le F G) : ∀ {v : List V} {d : List PyData}, DpAll K F v d → DpAll K G v d
  | _, _, .nil => .nil
  | _, _, .cons h r => .cons (Dp.mono e h) (DpAll.mono e r)
end
theorem RB.dp {K : PySem.W.Frag} {hd : Option Addr} {F H : Hp} {v : V} {d : D} {p : PyData} (le : Le F H) (r : RB K hd F H v d) (e : toP d = some p) : Dp K H v p := by
  rcases r with r | ⟨a, vs, ds, e1, e2, n, h, r⟩
  · exact Dp.mono le (r.dp e)
  · subst e1 e2
    simp only [toP, Option.map_eq_some_iff] at e
    obtain ⟨ps, e1, rfl⟩ := e
    exact .lst (SqL.of h) (DpAll.mono le (r.dp e1))
mutual
/-- no deeper than n, no code point too great -/
def shp : Nat → D → Bool
  | _, .non => true
  | _, .bl _ => true
  | _, .int _ => true
  | _, .str x => (PyData.str x).canLay0
  | 0, .tup _ => false
  | 0, .lst _ => false
  | n + 1, .tup ds => shps n ds
  | n + 1, .lst ds => shps n ds
  | _, _ => false
def shps : Nat → List D → Bool
  | _, [] => true
  | n, d :: ds => shp n d && shps n ds
end
mutual
/-- equal as Python has it -/
def eqd : D → D → Bool
  | .non, .non => true
  | .bl a, .bl b => a == b
  | .bl a, .int b => (if a then 1 else 0) == b
  | .int a, .bl b => a == (if b then 1 else 0)
  | .int a, .int b => a == b
  | .str a, .str b => a == b
  | .tup a, .tup b => eqds a b
  | .lst a, .lst b => eqds a b
  | _, _ => false
def eqds : List D → List D → Bool
  | [], [] => true
  | a :: as, b :: bs => eqd a b && eqds as bs
  | _, _ => false
end
end
end FX

set_option Elab.async false
set_option linter.all false
set_option maxRecDepth 100000
set_option maxHeartbeats 4000000
namespace FX
open PySem PySem.Spec PyProof.Rows L2 LamX

/-! ### == at any depth -/
def rEqP (K : PySem.W.Frag) (neg : Bool) : R2 := fun x y H Q => ∃ d e, Dp K H x d ∧ Dp K H y e ∧ d.plain = true ∧ e.plain = true ∧ d.depth ≤ 60 ∧ Q (.bl (if neg then !PyData.eqv d e else PyData.eqv d e)) H
section
variable {X : Cx}
theorem o_eq (hu : X.A.units + 64 < cLine) : OpR X (compareOp .Eq) (rEqP X.K false) := by
  intro pins s σ H x y v u Q I rx ry h
  obtain ⟨d, e, hd, he, pd, pe, dd, q⟩ := h
  obtain ⟨as, q1⟩ := Dp.reads I d x v hd rx
  obtain ⟨bs, q2⟩ := Dp.reads I e y u he ry
  exact PySem.SeqAt.eq_plain q1 q2 pd pe (by have := Nat.min_le_left d.depth e.depth; omega) ⟨.bl _, H, I, rfl, q⟩
theorem o_ne (hu : X.A.units + 64 < cLine) : OpR X (compareOp .NotEq) (rEqP X.K true) := by
  intro pins s σ H x y v u Q I rx ry h
  obtain ⟨d, e, hd, he, pd, pe, dd, q⟩ := h
  obtain ⟨as, q1⟩ := Dp.reads I d x v hd rx
  obtain ⟨bs, q2⟩ := Dp.reads I e y u he ry
  exact PySem.SeqAt.ne_plain q1 q2 pd pe (by have := Nat.min_le_left d.depth e.depth; omega) ⟨.bl _, H, I, rfl, q⟩
end
mutual
/-- plain data, no deeper than n -/
def pln : Nat → D → Bool
  | _, .non => true
  | _, .bl _ => true
  | _, .int _ => true
  | _, .str _ => true
  | n + 1, .tup ds => plns n ds
  | n + 1, .lst ds => plns n ds
  | _, _ => false
def plns : Nat → List D → Bool
  | _, [] => true
  | n, d :: ds => pln n d && plns n ds
end
mutual
theorem pln_toP : ∀ {n : Nat} {d : D}, pln n d = true → ∃ p, toP d = some p ∧ p.plain = true ∧ p.depth ≤ n
  | _, .non, _ => ⟨_, rfl, rfl, Nat.zero_le _⟩
  | _, .bl b, _ => ⟨_, rfl, rfl, Nat.zero_le _⟩
  | _, .int b, _ => ⟨_, rfl, rfl, Nat.zero_le _⟩
  | _, .str b, _ => ⟨_, rfl, rfl, Nat.zero_le _⟩
  | n + 1, .tup ds, h => by
    have h' : plns n ds = true := by simpa only [pln] using h
    obtain ⟨ps, e1, e2, e3⟩ := plns_toP h'
    exact ⟨.tuple ps, by simp only [toP, e1, Option.map_some], by simpa only [PyData.plain] using e2, by simp only [PyData.depth]; omega⟩
  | n + 1, .lst ds, h => by
    have h' : plns n ds = true := by simpa only [pln] using h
    obtain ⟨ps, e1, e2, e3⟩ := plns_toP h'
    exact ⟨.list ps, by simp only [toP, e1, Option.map_some], by simpa only [PyData.plain] using e2, by simp only [PyData.depth]; omega⟩
  | 0, .tup ds, h => by simp [pln] at h
  | 0, .lst ds, h => by simp [pln] at h
  | 0, .dic _, h => by simp [pln] at h
  | 0, .rng _ _, h => by simp [pln] at h
  | 0, .adr _, h => by simp [pln] at h
  | 0, .ty _, h => by simp [pln] at h
  | 0, .exc _, h => by simp [pln] at h
  | 0, .scr _, h => by simp [pln] at h
  | _ + 1, .dic _, h => by simp [pln] at h
  | _ + 1, .rng _ _, h => by simp [pln] at h
  | _ + 1, .adr _, h => by simp [pln] at h
  | _ + 1, .ty _, h => by simp [pln] at h
  | _ + 1, .exc _, h => by simp [pln] at h
  | _ + 1, .scr _, h => by simp [pln] at h
theorem plns_toP : ∀ {n : Nat} {ds : List D}, plns n ds = true → ∃ ps, toPs ds = some ps ∧ PyData.plainAll ps = true ∧ PyData.depthAll ps ≤ n
  | n, [], _ => ⟨[], by simp only [toPs], by simp only [PyData.plainAll], by simp only [PyData.depthAll]; omega⟩
  | n, d :: ds, h => by
    have h' : pln n d = true ∧ plns n ds = true := by simpa only [plns, Bool.and_eq_true] using h
    obtain ⟨p, e1, e2, e3⟩ := pln_toP h'.1
    obtain ⟨ps, f1, f2, f3⟩ := plns_toP h'.2
    exact ⟨p :: ps, by simp only [toPs, e1, f1], by simp only [PyData.plainAll, e2, f2, Bool.and_self], by simp only [PyData.depthAll]; omega⟩
end
mutual
theorem eqd_eqv : ∀ {d e : D} {p q : PyData}, toP d = some p → toP e = some q → eqd d e = PyData.eqv p q
  | d, e, p, q, h1, h2 => by
    cases d with
    | non => cases h1; cases e <;> simp only [toP, Option.map_eq_some_iff, Option.some.injEq, reduceCtorEq] at h2 <;> first | (subst h2; simp only [eqd, PyData.eqv]) | (obtain ⟨_, _, rfl⟩ := h2; simp only [eqd, PyData.eqv])
    | bl b => cases h1; cases e <;> simp only [toP, Option.map_eq_some_iff, Option.some.injEq, reduceCtorEq] at h2 <;> first | (subst h2; simp only [eqd, PyData.eqv]) | (obtain ⟨_, _, rfl⟩ := h2; simp only [eqd, PyData.eqv])
    | int b => cases h1; cases e <;> simp only [toP, Option.map_eq_some_iff, Option.some.injEq, reduceCtorEq] at h2 <;> first | (subst h2; simp only [eqd, PyData.eqv]) | (obtain ⟨_, _, rfl⟩ := h2; simp only [eqd, PyData.eqv])
    | str b => cases h1; cases e <;> simp only [toP, Option.map_eq_some_iff, Option.some.injEq, reduceCtorEq] at h2 <;> first | (subst h2; simp only [eqd, PyData.eqv]) | (obtain ⟨_, _, rfl⟩ := h2; simp only [eqd, PyData.eqv])
    | tup ds =>
      simp only [toP, Option.map_eq_some_iff] at h1
      obtain ⟨ps, a1, rfl⟩ := h1
      cases e <;> simp only [toP, Option.map_eq_some_iff, Option.some.injEq, reduceCtorEq] at h2
      case tup es => obtain ⟨qs, b1, rfl⟩ := h2; simp only [eqd, PyData.eqv]; exact eqds_eqv a1 b1
      case lst es => obtain ⟨qs, b1, rfl⟩ := h2; simp only [eqd, PyData.eqv]
      all_goals (subst h2; simp only [eqd, PyData.eqv])
    | lst ds =>
      simp only [toP, Option.map_eq_some_iff] at h1
      obtain ⟨ps, a1, rfl⟩ := h1
      cases e <;> simp only [toP, Option.map_eq_some_iff, Option.some.injEq, reduceCtorEq] at h2
      case lst es => obtain ⟨qs, b1, rfl⟩ := h2; simp only [eqd, PyData.eqv]; exact eqds_eqv a1 b1
      case tup es => obtain ⟨qs, b1, rfl⟩ := h2; simp only [eqd, PyData.eqv]
      all_goals (subst h2; simp only [eqd, PyData.eqv])
    | dic _ => cases h1
    | rng _ _ => cases h1
    | adr _ => cases h1
    | ty _ => cases h1
    | exc _ => cases h1
    | scr _ => cases h1
theorem eqds_eqv : ∀ {d e : List D} {p q : List PyData}, toPs d = some p → toPs e = some q → eqds d e = PyData.eqvAll p q
  | [], [], _, _, h1, h2 => by cases h1; cases h2; simp only [eqds, PyData.eqvAll]
  | [], e :: es, _, _, h1, h2 => by
    cases h1
    unfold toPs at h2
    split at h2
    · cases h2; simp only [eqds, PyData.eqvAll]
    · cases h2
  | d :: ds, [], _, _, h1, h2 => by
    cases h2
    unfold toPs at h1
    split at h1
    · cases h1; simp only [eqds, PyData.eqvAll]
    · cases h1
  | d :: ds, e :: es, _, _, h1, h2 => by
    unfold toPs at h1 h2
    split at h1
    · rename_i p ps a1 a2
      cases h1
      split at h2
      · rename_i q qs b1 b2
        cases h2
        simp only [eqds, PyData.eqvAll]
        rw [eqd_eqv a1 b1, eqds_eqv a2 b2]
      · cases h2
    · cases h1
end
def eqB (d e : D) : Option Bool := if pln 12 d = true ∧ pln 12 e = true then some (eqd d e) else none
def neB (d e : D) : Option Bool := if pln 12 d = true ∧ pln 12 e = true then some (!eqd d e) else none
theorem s_eq {K : PySem.W.Frag} : Op2 K (rEqP K false) (opB eqB) := by
  intro hd F H x y d1 d2 d Q le rx ry e a
  unfold opB eqB at e
  split at e
  · rename_i h
    cases e
    obtain ⟨p, e1, e2, e3⟩ := pln_toP h.1
    obtain ⟨q, f1, f2, f3⟩ := pln_toP h.2
    refine ⟨p, q, rx.dp le e1, ry.dp le f1, e2, f2, by omega, ?_⟩
    rw [← eqd_eqv e1 f1]
    exact a.1 _ (.bl _)
  · cases e
theorem s_ne {K : PySem.W.Frag} : Op2 K (rEqP K true) (opB neB) := by
  intro hd F H x y d1 d2 d Q le rx ry e a
  unfold opB neB at e
  split at e
  · rename_i h
    cases e
    obtain ⟨p, e1, e2, e3⟩ := pln_toP h.1
    obtain ⟨q, f1, f2, f3⟩ := pln_toP h.2
    refine ⟨p, q, rx.dp le e1, ry.dp le f1, e2, f2, by omega, ?_⟩
    rw [← eqd_eqv e1 f1]
    exact a.1 _ (.bl _)
  · cases e
/-! ### in, not in a list or tuple of plain data -/
def rInP (K : PySem.W.Frag) (neg : Bool) : R2 := fun x y H Q => ∃ d es, Dp K H x d ∧ (Dp K H y (.list es) ∨ Dp K H y (.tuple es)) ∧ d.plain = true ∧ PyData.plainAll es = true ∧ d.depth ≤ 60 ∧
  Q (.bl (if neg then !(es.any fun z => PyData.eqv z d) else es.any fun z => PyData.eqv z d)) H
section
variable {X : Cx}
theorem o_in (hu : X.A.units + 64 < cLine) : OpR X (compareOp .In) (rInP X.K false) := by
  intro pins s σ H x y v u Q I rx ry h
  obtain ⟨d, es, hd, he, pd, pe, dd, q⟩ := h
  obtain ⟨as, q1⟩ := Dp.reads I d x v hd rx
  have hm : X.A.units + 1 + min (PyData.depthAll es) d.depth < cLine := by have := Nat.min_le_right (PyData.depthAll es) d.depth; omega
  rcases he with he | he
  · obtain ⟨bs, q2⟩ := Dp.reads I _ y u he ry
    exact PySem.SeqAt.in_list_data q2 q1 pe pd hm ⟨.bl _, H, I, rfl, q⟩
  · obtain ⟨bs, q2⟩ := Dp.reads I _ y u he ry
    exact PySem.SeqAt.in_tuple_data q2 q1 pe pd hm ⟨.bl _, H, I, rfl, q⟩
theorem o_notIn (hu : X.A.units + 64 < cLine) : OpR X (compareOp .NotIn) (rInP X.K true) := by
  intro pins s σ H x y v u Q I rx ry h
  obtain ⟨d, es, hd, he, pd, pe, dd, q⟩ := h
  obtain ⟨as, q1⟩ := Dp.reads I d x v hd rx
  have hm : X.A.units + 1 + min (PyData.depthAll es) d.depth < cLine := by have := Nat.min_le_right (PyData.depthAll es) d.depth; omega
  rcases he with he | he
  · obtain ⟨bs, q2⟩ := Dp.reads I _ y u he ry
    exact PySem.SeqAt.notIn_list_data q2 q1 pe pd hm ⟨.bl _, H, I, rfl, q⟩
  · obtain ⟨bs, q2⟩ := Dp.reads I _ y u he ry
    exact PySem.SeqAt.notIn_tuple_data q2 q1 pe pd hm ⟨.bl _, H, I, rfl, q⟩
end
theorem any_eqd {d : D} {p : PyData} (hd : toP d = some p) : ∀ {es : List D} {qs : List PyData}, toPs es = some qs → (es.any fun z => eqd z d) = qs.any fun z => PyData.eqv z p
  | [], _, h => by cases h; rfl
  | e :: es, _, h => by
    unfold toPs at h
    split at h
    · rename_i q qs a1 a2
      cases h
      rw [List.any_cons, List.any_cons, eqd_eqv a1 hd, any_eqd hd a2]
    · cases h
def inB (neg : Bool) (x : D) : D → Option Bool
  | .lst es => if pln 12 x = true ∧ plns 12 es = true then some (if neg then !(es.any fun z => eqd z x) else es.any fun z => eqd z x) else none
  | .tup es => if pln 12 x = true ∧ plns 12 es = true then some (if neg then !(es.any fun z => eqd z x) else es.any fun z => eqd z x) else none
  | _ => none
theorem s_in {K : PySem.W.Frag} {neg : Bool} : Op2 K (rInP K neg) (opB (inB neg)) := by
  intro hd F H x y d1 d2 d Q le rx ry e a
  unfold opB inB at e
  split at e
  · split at e
    · rename_i es h
      cases e
      obtain ⟨p, e1, e2, e3⟩ := pln_toP h.1
      obtain ⟨q, f1, f2, f3⟩ := plns_toP h.2
      refine ⟨p, q, rx.dp le e1, .inl (ry.dp le (by simp only [toP, f1, Option.map_some])), e2, f2, by omega, ?_⟩
      rw [← any_eqd e1 f1]
      exact a.1 _ (.bl _)
    · cases e
  · split at e
    · rename_i es h
      cases e
      obtain ⟨p, e1, e2, e3⟩ := pln_toP h.1
      obtain ⟨q, f1, f2, f3⟩ := plns_toP h.2
      refine ⟨p, q, rx.dp le e1, .inr (ry.dp le (by simp only [toP, f1, Option.map_some])), e2, f2, by omega, ?_⟩
      rw [← any_eqd e1 f1]
      exact a.1 _ (.bl _)
    · cases e
  · cases e
/-! ### is -/
def isNon : D → Bool
  | .non => true
  | _ => false
theorem rb_non {K : PySem.W.Frag} {hd : Option Addr} {F H : Hp} {v : V} {d : D} (r : RB K hd F H v d) : decide (v = .non) = isNon d := by
  rcases r with r | ⟨p, vs, ds, e1, e2, n, h, r⟩
  · cases r <;> rfl
  · subst e1 e2; rfl
def isB : D → D → Option Bool
  | d, .non => some (isNon d)
  | .bl a, .bl b => some (decide (a = b))
  | _, _ => none
def isNotB : D → D → Option Bool
  | d, .non => some (!isNon d)
  | .bl a, .bl b => some (!decide (a = b))
  | _, _ => none
abbrev rIsA : R2 := rOr (fun x y H Q => y = .non ∧ Q (.bl (decide (x = .non))) H) (fun x y H Q => ∃ a b, x = .bl a ∧ y = .bl b ∧ Q (.bl (decide (a = b))) H)
abbrev rNotA : R2 := rOr (fun x y H Q => y = .non ∧ Q (.bl (!decide (x = .non))) H) (fun x y H Q => ∃ a b, x = .bl a ∧ y = .bl b ∧ Q (.bl (!decide (a = b))) H)
theorem o_is {X : Cx} : OpR X (compareOp .Is) rIsA := op_isN.or op_isBl
theorem o_isNot {X : Cx} : OpR X (compareOp .IsNot) rNotA := op_notN.or op_notBl
theorem s_is {K : PySem.W.Frag} : Op2 K rIsA (opB isB) := by
  intro hd F H x y d1 d2 d Q le rx ry e a
  unfold opB isB at e
  split at e
  · cases e
    exact .inl ⟨ry.non, by rw [rb_non rx]; exact a.1 _ (.bl _)⟩
  · cases e
    exact .inr ⟨_, _, rx.bl, ry.bl, a.1 _ (.bl _)⟩
  · cases e
theorem s_isNot {K : PySem.W.Frag} : Op2 K rNotA (opB isNotB) := by
  intro hd F H x y d1 d2 d Q le rx ry e a
  unfold opB isNotB at e
  split at e
  · cases e
    exact .inl ⟨ry.non, by rw [rb_non rx]; exact a.1 _ (.bl _)⟩
  · cases e
    exact .inr ⟨_, _, rx.bl, ry.bl, a.1 _ (.bl _)⟩
  · cases e

/-! ### tests, and, or, not, a if t else b -/
section
variable {X : Cx} {T : List (Addr × Str)} {W : WX} {a b e c : Expr} {rest : List Expr} {pos : Pos}
def asB : D → M Bool
  | .bl b => ret b
  | _ => fun _ => .stuck
theorem po_asB {K : PySem.W.Frag} {T : List (Addr × Str)} {W : WX} {F0 H0 F H : Hp} {hd : Option Addr} {σ : L2.St} {S : Sto} {β γ : Type} {rel : RelT β γ} {g : Bool → M γ} {Q : β → Hp → Prop} {d : D} (po : Po K T W F0 H0 hd σ rel Q F H (bnd (asB d) g S)) :
    ∃ k, d = .bl k ∧ Po K T W F0 H0 hd σ rel Q F H (g k S) := by
  cases d with
  | bl k => exact ⟨k, rfl, po⟩
  | _ => exact False.elim po
theorem jt_of {f : M D} (h : JV X T W e f) (he : ∀ whole, isTrue e X.env whole = (do let v ← whole; standAt e.pos; holding [v] (truthy v)) := by intro _; rfl) : JT X T W e (bnd f asB) :=
  (pt_val h he).imp fun σ H Q ⟨F0, H0, hd, F, S, w, po⟩ => ⟨F0, H0, hd, F, S, w, po_bind po fun F1 H1 x d S1 _ u1 w1 r1 po1 => by
    cases d with
    | bl k => cases r1; exact ⟨k, rfl, po_ok po1 w1 rfl⟩
    | _ => exact False.elim po1⟩
def notM (f : M Bool) : M Bool := bnd f fun b => ret (!b)
def andM (f g : M Bool) : M Bool := bnd f fun b => if b = true then g else ret false
def orM (f g : M Bool) : M Bool := bnd f fun b => if b = true then ret true else g
def ifM {α : Type} (c : M Bool) (f g : M α) : M α := bnd c fun b => if b = true then f else g
theorem jt_not {f : M Bool} (h : JT X T W a f) : JT X T W (.UnaryOp .Not a pos) (notM f) := (pt_not h).imp fun σ H Q ⟨F0, H0, hd, F, S, w, po⟩ =>
  ⟨F0, H0, hd, F, S, w, po_bind po fun F1 H1 x d S1 _ u1 w1 r1 po1 => by cases r1; exact po_ok po1 w1 rfl⟩
theorem jw_and1 {f : M Bool} (h : JT X T W a f) : JW X T W (.BoolOp .And [a] pos) f := pw_and1 h
theorem jw_or1 {f : M Bool} (h : JT X T W a f) : JW X T W (.BoolOp .Or [a] pos) f := pw_or1 h
theorem jw_and {f g : M Bool} (h : JT X T W a f) (k : JW X T W (.BoolOp .And (b :: rest) pos) g) : JW X T W (.BoolOp .And (a :: b :: rest) pos) (andM f g) := (pw_and h k).imp fun σ H Q ⟨F0, H0, hd, F, S, w, po⟩ =>
  ⟨F0, H0, hd, F, S, w, po_bind po fun F1 H1 x d S1 _ u1 w1 r1 po1 => by
    cases r1
    cases x with
    | true => exact ⟨F0, H0, hd, F1, S1, w1, po1⟩
    | false => exact po_ok po1 w1 rfl⟩
theorem jw_or {f g : M Bool} (h : JT X T W a f) (k : JW X T W (.BoolOp .Or (b :: rest) pos) g) : JW X T W (.BoolOp .Or (a :: b :: rest) pos) (orM f g) := (pw_or h k).imp fun σ H Q ⟨F0, H0, hd, F, S, w, po⟩ =>
  ⟨F0, H0, hd, F, S, w, po_bind po fun F1 H1 x d S1 _ u1 w1 r1 po1 => by
    cases r1
    cases x with
    | true => exact po_ok po1 w1 rfl
    | false => exact ⟨F0, H0, hd, F1, S1, w1, po1⟩⟩
theorem jt_w {f : M Bool} (h : JW X T W e f) : JT X T W e f := h.pt
/-- .. as values -/
def notV (f : M D) : M D := bnd f fun d => bnd (asB d) fun b => ret (.bl (!b))
def andV (f g : M D) : M D := bnd f fun d => bnd (asB d) fun b => if b = true then g else ret (.bl false)
def orV (f g : M D) : M D := bnd f fun d => bnd (asB d) fun b => if b = true then ret (.bl true) else g
theorem jv_not {f : M D} (h : JV X T W a f) : JV X T W (.UnaryOp .Not a pos) (notV f) := (pe_not h).imp fun σ H Q ⟨F0, H0, hd, F, S, w, po⟩ =>
  ⟨F0, H0, hd, F, S, w, po_bind po fun F1 H1 x d S1 _ u1 w1 r1 po1 => by
    obtain ⟨k, rfl, po2⟩ := po_asB po1
    cases r1
    exact ⟨k, rfl, po_ok po2 w1 (.bl _)⟩⟩
theorem jv_one {op : BoolOp} {f : M D} (h : JV X T W a f) : JV X T W (.BoolOp op [a] pos) f := pe_one h
theorem jv_and {f g : M D} (h : JV X T W a f) (k : JV X T W (.BoolOp .And (b :: rest) pos) g) : JV X T W (.BoolOp .And (a :: b :: rest) pos) (andV f g) := (pe_and h k).imp fun σ H Q ⟨F0, H0, hd, F, S, w, po⟩ =>
  ⟨F0, H0, hd, F, S, w, po_bind po fun F1 H1 x d S1 _ u1 w1 r1 po1 => by
    obtain ⟨k, rfl, po2⟩ := po_asB po1
    cases r1
    refine ⟨k, rfl, ?_⟩
    cases k with
    | true => exact ⟨F0, H0, hd, F1, S1, w1, po2⟩
    | false => exact po_ok po2 w1 (.bl _)⟩
theorem jv_or {f g : M D} (h : JV X T W a f) (k : JV X T W (.BoolOp .Or (b :: rest) pos) g) : JV X T W (.BoolOp .Or (a :: b :: rest) pos) (orV f g) := (pe_or h k).imp fun σ H Q ⟨F0, H0, hd, F, S, w, po⟩ =>
  ⟨F0, H0, hd, F, S, w, po_bind po fun F1 H1 x d S1 _ u1 w1 r1 po1 => by
    obtain ⟨k, rfl, po2⟩ := po_asB po1
    cases r1
    refine ⟨k, rfl, ?_⟩
    cases k with
    | true => exact po_ok po2 w1 (.bl _)
    | false => exact ⟨F0, H0, hd, F1, S1, w1, po2⟩⟩
theorem jv_if {t : M Bool} {f g : M D} (h : JT X T W c t) (h1 : JV X T W a f) (h2 : JV X T W b g) : JV X T W (.IfExp c a b pos) (ifM t f g) := (pe_ifExp h h1 h2).imp fun σ H Q ⟨F0, H0, hd, F, S, w, po⟩ =>
  ⟨F0, H0, hd, F, S, w, po_bind po fun F1 H1 x d S1 _ u1 w1 r1 po1 => by
    cases r1
    cases x with
    | true => exact ⟨F0, H0, hd, F1, S1, w1, po1⟩
    | false => exact ⟨F0, H0, hd, F1, S1, w1, po1⟩⟩
theorem jl_if {t : M Bool} {f g : M (List D)} (h : JT X T W c t) (h1 : JL X T W a f) (h2 : JL X T W b g) : JL X T W (.IfExp c a b pos) (ifM t f g) := (pe_ifExp h h1 h2).imp fun σ H Q ⟨F0, H0, hd, F, S, w, po⟩ =>
  ⟨F0, H0, hd, F, S, w, po_bind po fun F1 H1 x d S1 _ u1 w1 r1 po1 => by
    cases r1
    cases x with
    | true => exact ⟨F0, H0, hd, F1, S1, w1, po1⟩
    | false => exact ⟨F0, H0, hd, F1, S1, w1, po1⟩⟩
/-- a < b < c -/
def chM (fa fb fc : M D) (o o' : D → D → Option Bool) : M Bool := bnd fa fun x => bnd fb fun y => bnd (lf (o x y)) fun k => if k = true then bnd fc fun z => lf (o' y z) else ret false
theorem t_chain {r r' : R2} {fa fb fc : M D} {o o' : D → D → Option Bool} (hs : Op2 X.K r (opB o)) (hs' : Op2 X.K r' (opB o')) : ∀ σ H Q, tG X.K T W (rV X.K) (bnd (chM fa fb fc o o') fun k => ret (.bl k)) σ H Q → tChain r r' (tG X.K T W (rB X.K) fa) (tG X.K T W (rB X.K) fb) (tG X.K T W (rB X.K) fc) σ H Q := by
  rintro σ H Q ⟨F0, H0, hd, F, S, w, po⟩
  have e1 : ∀ {α β γ : Type} (f : M α) (g : α → M β) (h : β → M γ), bnd (bnd f g) h = bnd f fun x => bnd (g x) h := by
    intro α β γ f g h; funext S; unfold bnd; cases f S <;> rfl
  unfold chM at po
  rw [e1] at po
  refine ⟨F0, H0, hd, F, S, w, po_bind po fun F1 H1 x d1 S1 _ u1 w1 r1 po1 => ?_⟩
  rw [e1] at po1
  refine ⟨F0, H0, hd, F1, S1, w1, po_bind po1 fun F2 H2 y d2 S2 _ u2 w2 r2 po2 => ?_⟩
  rw [e1] at po2
  cases q : o d1 d2 with
  | none => rw [q] at po2; exact False.elim po2
  | some k =>
    rw [q] at po2
    have po3 : Po X.K T W F0 H0 hd σ (rV X.K) Q F2 H2 (bnd (if k = true then bnd fc fun z => lf (o' d2 z) else ret false) (fun k => ret (.bl k)) S2) := po2
    refine hs hd F2 H2 x y d1 d2 (.bl k) _ w2.le (RB.up u2 r1) r2 (by unfold opB; rw [q]; rfl) ⟨fun v qv => ?_, fun p o h q => by cases q⟩
    cases qv
    refine ⟨k, rfl, ?_⟩
    cases k with
    | false => exact po_ok po3 w2 (.bl _)
    | true =>
      rw [if_pos rfl] at po3 ⊢
      rw [e1] at po3
      refine ⟨F0, H0, hd, F2, S2, w2, po_bind po3 fun F3 H3 z d3 S3 _ u3 w3 r3 po4 => ?_⟩
      cases q' : o' d2 d3 with
      | none => rw [q'] at po4; exact False.elim po4
      | some k' =>
        rw [q'] at po4
        exact hs' hd F3 H3 y z d2 d3 (.bl k') _ w3.le (RB.up u3 r2) r3 (by unfold opB; rw [q']; rfl) (ans_of po4 w3)
end
end FX

set_option Elab.async false
set_option linter.all false
set_option maxRecDepth 100000
set_option maxHeartbeats 4000000
namespace FX
open PySem PySem.Spec PyProof.Rows L2 LamX
section
variable {prog : Program} {w : World} {A : Around} {E : Value → Shared → Prop} {s : Shared} {l : Addr} {xs : Array (Int × Tok)}
theorem it_tup {its : Array Value} {Q : Value → Shared → Prop} (hl : s.heap.IsTuple l its)
    (h : ∀ s₂ : Shared, s₂ = { s with heap := s.heap.push { cls := .type "tuple_iterator", data := .fields #[.ref l, .int 0 0] } } →
      (s₂.heap.IsTupleIter s.heap.objs.size l 0 ∧ s₂.heap.IsTuple l its) → (∀ b ∈ [s.heap.objs.size, l], b < s₂.heap.objs.size) → l ≠ s.heap.objs.size → (∀ h' : Heap, (∀ b o, b ∉ [s.heap.objs.size] → s₂.heap.get? b = some o → h'.get? b = some o) → ∀ b o, s.heap.get? b = some o → h'.get? b = some o) → Q (.ref s.heap.objs.size) s₂) :
    wpAny (model prog w) A (pyIter (.ref l)) Q E s := by
  have hlt : l < s.heap.objs.size := by obtain ⟨_, e, _⟩ := hl; exact Heap.lt_size e
  refine wpAny_pyIter_tuple hl (h _ rfl ⟨⟨_, Heap.get?_push_size _ rfl, rfl, rfl⟩, hl.push _⟩ (fun b hb => ?_) (Nat.ne_of_lt hlt) fun h' hk b o e => ?_)
  · show b < (s.heap.push _).objs.size
    rw [Heap.size_push]
    rcases List.mem_cons.mp hb with rfl | hb
    · exact Nat.lt_succ_self _
    · rw [List.mem_singleton.mp hb]; exact Nat.lt_succ_of_lt hlt
  · refine hk b o (fun hm => ?_) (Heap.get?_push_of_some _ e)
    exact absurd (List.mem_singleton.mp hm ▸ Heap.lt_size e) (Nat.lt_irrefl _)
theorem max_tup {its : Array Value} {ns : List Int} {Q : Value → Shared → Prop} (hh : A.handled = none) (hl : s.heap.IsTuple l its) (hi : IntsAre its.toList ns) (hne : 0 < ns.length)
    (h : ∀ h' tk M t', (∀ b o, s.heap.get? b = some o → h'.get? b = some o) → M ∈ ns → (∀ a, a ∈ ns → a ≤ M) → Q (.int M t') { s with heap := h', toks := tk }) : wpAny (model prog w) A (call (.builtin "max") [.ref l]) Q E s := by
  obtain ⟨xs, e⟩ := hi.allInts.items
  have hn : numsOf (intItems xs).toList = ns := by
    have : its.toList.toArray = its := by simp
    rw [← e, this]; exact hi.numsOf
  rw [nums_intItems] at hn
  subst hn
  rw [show its = intItems xs by rw [← e]] at hl
  have hsz : 0 < xs.size := by simpa using hne
  refine call_max_walk (it_tup hl fun s₂ e st hfp hlI kp => ?_)
  subst e
  refine ⟨_, _, _, _, _, _, _, rfl, Walks.tuple (A := A.in1) hh _ l hlI (intItems xs), st, hfp, by simpa [intItems] using hsz, CmpOf.ints_gt (numAt xs) (fun _ _ => intItems_at), fun v h' tk hv hk => ?_⟩
  rw [show (intItems xs).size = xs.size by simp [intItems]] at hv
  obtain ⟨t, rfl⟩ := intItems_at hv
  obtain ⟨h1, h2⟩ := argBest_gt (numAt xs) (xs.size - 1)
  refine h h' tk _ t (kp h' hk) ?_ fun a ha => ?_
  · rw [numAt_eq]; exact PySem.getD_mem (by rw [List.length_map, Array.length_toList]; omega)
  · obtain ⟨j, hj, rfl⟩ := mem_getD ha
    rw [List.length_map, Array.length_toList] at hj
    rw [← numAt_eq]; exact h2 j (by omega)
theorem min_tup {its : Array Value} {ns : List Int} {Q : Value → Shared → Prop} (hh : A.handled = none) (hl : s.heap.IsTuple l its) (hi : IntsAre its.toList ns) (hne : 0 < ns.length)
    (h : ∀ h' tk M t', (∀ b o, s.heap.get? b = some o → h'.get? b = some o) → M ∈ ns → (∀ a, a ∈ ns → M ≤ a) → Q (.int M t') { s with heap := h', toks := tk }) : wpAny (model prog w) A (call (.builtin "min") [.ref l]) Q E s := by
  obtain ⟨xs, e⟩ := hi.allInts.items
  have hn : numsOf (intItems xs).toList = ns := by
    have : its.toList.toArray = its := by simp
    rw [← e, this]; exact hi.numsOf
  rw [nums_intItems] at hn
  subst hn
  rw [show its = intItems xs by rw [← e]] at hl
  have hsz : 0 < xs.size := by simpa using hne
  refine call_min_walk (it_tup hl fun s₂ e st hfp hlI kp => ?_)
  subst e
  refine ⟨_, _, _, _, _, _, _, rfl, Walks.tuple (A := A.in1) hh _ l hlI (intItems xs), st, hfp, by simpa [intItems] using hsz, CmpOf.ints_lt (numAt xs) (fun _ _ => intItems_at), fun v h' tk hv hk => ?_⟩
  rw [show (intItems xs).size = xs.size by simp [intItems]] at hv
  obtain ⟨t, rfl⟩ := intItems_at hv
  obtain ⟨h1, h2⟩ := argBest_lt (numAt xs) (xs.size - 1)
  refine h h' tk _ t (kp h' hk) ?_ fun a ha => ?_
  · rw [numAt_eq]; exact PySem.getD_mem (by rw [List.length_map, Array.length_toList]; omega)
  · obtain ⟨j, hj, rfl⟩ := mem_getD ha
    rw [List.length_map, Array.length_toList] at hj
    rw [← numAt_eq]; exact h2 j (by omega)
theorem sum_tup {its : Array Value} {ns : List Int} {Q : Value → Shared → Prop} (hh : A.handled = none) (hl : s.heap.IsTuple l its) (hi : IntsAre its.toList ns)
    (h : ∀ h' tk t', (∀ b o, s.heap.get? b = some o → h'.get? b = some o) → Q (.int ns.sum t') { s with heap := h', toks := tk }) : wpAny (model prog w) A (call (.builtin "sum") [.ref l]) Q E s := by
  obtain ⟨xs, e⟩ := hi.allInts.items
  have hn : numsOf (intItems xs).toList = ns := by
    have : its.toList.toArray = its := by simp
    rw [← e, this]; exact hi.numsOf
  rw [nums_intItems] at hn
  rw [show its = intItems xs by rw [← e]] at hl
  refine PySem.W.ktm_sumG hh hl fun h' tk t' hk => ?_
  have := h h' tk t' hk
  rw [preSum_eq, List.take_of_length_le (by simp), hn]; exact this
end
section
variable {X : Cx}
def rSumA (K : PySem.W.Frag) : List V → Hp → VK → Prop := fun vs H Q => ∃ (a : Addr) (ns : List Int), vs = [V.ref a] ∧ (SqL K H a (ns.map V.int) ∨ SqT K H a (ns.map V.int)) ∧ Q (.int ns.sum) H
def rMaxA (K : PySem.W.Frag) : List V → Hp → VK → Prop := fun vs H Q => ∃ (a : Addr) (ns : List Int), vs = [V.ref a] ∧ (SqL K H a (ns.map V.int) ∨ SqT K H a (ns.map V.int)) ∧ 0 < ns.length ∧ ∀ m, m ∈ ns → (∀ y, y ∈ ns → y ≤ m) → Q (.int m) H
def rMinA (K : PySem.W.Frag) : List V → Hp → VK → Prop := fun vs H Q => ∃ (a : Addr) (ns : List Int), vs = [V.ref a] ∧ (SqL K H a (ns.map V.int) ∨ SqT K H a (ns.map V.int)) ∧ 0 < ns.length ∧ ∀ m, m ∈ ns → (∀ y, y ∈ ns → m ≤ y) → Q (.int m) H
theorem cr_sumA (hc : X.calm = true) : CallR X (.builtin "sum") (rSumA X.K) := by
  intro pins s σ H vs us Q I r h
  obtain ⟨a, ns, rfl, hs | hs, q⟩ := h
  · exact cr_sum hc _ _ _ _ _ _ _ I r ⟨a, ns, rfl, hs, q⟩
  · obtain ⟨its, rv, hl, _⟩ := I.tuple hs
    rw [Vals.ref1 r]
    exact sum_tup (I.ok.hd hc) hl rv.ints fun h' tk t' hk => ⟨.int _, H, I.kept hk, ⟨_, rfl⟩, q⟩
theorem cr_maxA (hc : X.calm = true) : CallR X (.builtin "max") (rMaxA X.K) := by
  intro pins s σ H vs us Q I r h
  obtain ⟨a, ns, rfl, hs | hs, hne, q⟩ := h
  · exact cr_max hc _ _ _ _ _ _ _ I r ⟨a, ns, rfl, hs, hne, q⟩
  · obtain ⟨its, rv, hl, _⟩ := I.tuple hs
    rw [Vals.ref1 r]
    exact max_tup (I.ok.hd hc) hl rv.ints hne fun h' tk m t' hk h1 h2 => ⟨.int _, H, I.kept hk, ⟨_, rfl⟩, q m h1 h2⟩
theorem cr_minA (hc : X.calm = true) : CallR X (.builtin "min") (rMinA X.K) := by
  intro pins s σ H vs us Q I r h
  obtain ⟨a, ns, rfl, hs | hs, hne, q⟩ := h
  · exact cr_min hc _ _ _ _ _ _ _ I r ⟨a, ns, rfl, hs, hne, q⟩
  · obtain ⟨its, rv, hl, _⟩ := I.tuple hs
    rw [Vals.ref1 r]
    exact min_tup (I.ok.hd hc) hl rv.ints hne fun h' tk m t' hk h1 h2 => ⟨.int _, H, I.kept hk, ⟨_, rfl⟩, q m h1 h2⟩
end
theorem bnd_okE {α γ : Type} {f : M α} {g : α → M γ} {S S' : Sto} {c : γ} (h : bnd f g S = .ok c S') : ∃ a S1, f S = .ok a S1 ∧ g a S1 = .ok c S' := by
  unfold bnd at h
  cases q : f S with
  | ok a S1 => rw [q] at h; exact ⟨a, S1, rfl, h⟩
  | exc e S1 => rw [q] at h; cases h
  | stuck => rw [q] at h; cases h
theorem bnd_ok {α γ : Type} {f : M α} {g : α → M γ} {S S' : Sto} {a : α} (h : f S = .ok a S') : bnd f g S = g a S' := by unfold bnd; rw [h]
theorem bnd_exc {α γ : Type} {f : M α} {g : α → M γ} {S S' : Sto} {e : Xc} (h : f S = .exc e S') : bnd f g S = .exc e S' := by unfold bnd; rw [h]
theorem bnd_stuck {α γ : Type} {f : M α} {g : α → M γ} {S : Sto} (h : f S = .stuck) : bnd f g S = .stuck := by unfold bnd; rw [h]
theorem bnd_assoc {α β γ : Type} (f : M α) (g : α → M β) (h : β → M γ) : bnd (bnd f g) h = bnd f fun x => bnd (g x) h := by
  funext S
  cases q : f S with
  | ok a S1 => rw [bnd_ok q, bnd, bnd_ok q]; rfl
  | exc e S1 => rw [bnd_exc q, bnd_exc (bnd_exc q)]
  | stuck => rw [bnd_stuck q, bnd_stuck (bnd_stuck q)]
theorem bnd_ret {α γ : Type} (a : α) (g : α → M γ) : bnd (ret a) g = g a := rfl
section
variable {X : Cx} {T : List (Addr × Str)} {W : WX} {a b e c : Expr} {es : List Expr} {pos : Pos}
theorem t_ofT {f : M Bool} {σ : L2.St} {H : Hp} {Q : Bool → Hp → Prop} : tG X.K T W rT f σ H Q → tG X.K T W (rV X.K) (bnd f fun k => ret (.bl k)) σ H (fun x H' => ∃ k, x = .bl k ∧ Q k H') := fun ⟨F0, H0, hd, F, S, w, po⟩ => by
  refine ⟨F0, H0, hd, F, S, w, ?_⟩
  unfold bnd ret
  cases q : f S with
  | ok k S' => rw [q] at po; exact fun F' H' v u w r => by cases r; exact ⟨k, rfl, po F' H' k u w rfl⟩
  | exc e S' => rw [q] at po; exact po
  | stuck => rw [q] at po; exact po
/-- a < b < c as a value, as a test -/
theorem jv_chain {op op' : CmpOp} {r r' : R2} {fa fb fc : M D} {o o' : D → D → Option Bool} (ho : OpR X (compareOp op) r) (hs : Op2 X.K r (opB o)) (ho' : OpR X (compareOp op') r') (hs' : Op2 X.K r' (opB o')) (ha : JB X T W a fa) (hb : JB X T W b fb) (hc : JB X T W c fc)
    (hm : lastMarks [op, op'] [b, c] = false := by with_unfolding_all rfl) : JV X T W (.Compare a [op, op'] [b, c] pos) (bnd (chM fa fb fc o o') fun k => ret (.bl k)) := (pe_chain ho ho' ha hb hc hm).imp (t_chain hs hs')
theorem jt_chain {op op' : CmpOp} {r r' : R2} {fa fb fc : M D} {o o' : D → D → Option Bool} (ho : OpR X (compareOp op) r) (hs : Op2 X.K r (opB o)) (ho' : OpR X (compareOp op') r') (hs' : Op2 X.K r' (opB o')) (ha : JB X T W a fa) (hb : JB X T W b fb) (hc : JB X T W c fc)
    (hm : lastMarks [op, op'] [b, c] = false := by with_unfolding_all rfl) : JT X T W (.Compare a [op, op'] [b, c] pos) (chM fa fb fc o o') := (pt_chain ho ho' ha hb hc hm).imp fun σ H Q h => t_chain hs hs' σ H _ (t_ofT h)

/-! ### lists of expressions, displays -/
def sqM : List (M D) → M (List D)
  | [] => ret []
  | f :: fs => bnd f fun d => bnd (sqM fs) fun ds => ret (d :: ds)
theorem sqM_len : ∀ {fs : List (M D)} {S S' : Sto} {ds : List D}, sqM fs S = .ok ds S' → ds.length = fs.length
  | [], S, S', ds, h => by cases h; rfl
  | f :: fs, S, S', ds, h => by
    obtain ⟨d, S1, _, h2⟩ := bnd_okE h
    obtain ⟨r, S2, h3, h4⟩ := bnd_okE h2
    cases h4
    rw [List.length_cons, List.length_cons, sqM_len h3]
theorem ja_nil : JA X T W [] (sqM []) := pa_nil.imp fun σ H Q ⟨F0, H0, hd, F, S, w, po⟩ => po_ok po w .nil
theorem ja_cons {f : M D} {fs : List (M D)} (h : JV X T W e f) (k : JA X T W es (sqM fs)) (hs : starEach (e :: es) X.env = (false, eval e X.env) :: starEach es X.env := by rfl) : JA X T W (e :: es) (sqM (f :: fs)) :=
  (pa_cons h k hs).imp fun σ H Q ⟨F0, H0, hd, F, S, w, po⟩ => ⟨F0, H0, hd, F, S, w, po_bind po fun F1 H1 x d S1 _ u1 w1 r1 po1 => ⟨F0, H0, hd, F1, S1, w1, po_bind po1 fun F2 H2 xs ds S2 _ u2 w2 r2 po2 => po_ok po2 w2 (.cons (r1.mono u2.fF) r2)⟩⟩
/-- one borrowed argument -/
abbrev rA1 (K : PySem.W.Frag) : RelT (List V) D := fun _ hd F _ H _ vs d => ∃ v, vs = [v] ∧ RB K hd F H v d
abbrev JA1 (X : Cx) (T : List (Addr × Str)) (W : WX) (es : List Expr) (f : M D) : Prop := PA X es (tG X.K T W (rA1 X.K) f)
theorem ja1 {f : M D} (h : JB X T W e f) (hs : starEach [e] X.env = (false, eval e X.env) :: starEach [] X.env := by rfl) : JA1 X T W [e] f :=
  (pa_cons h pa_nil hs).imp fun σ H Q ⟨F0, H0, hd, F, S, w, po⟩ => ⟨F0, H0, hd, F, S, w, by
    cases q : f S with
    | ok a S' => rw [q] at po; exact fun F' H' v u w r => po F' H' [v] u w ⟨v, rfl, r⟩
    | exc e S' => rw [q] at po; exact po
    | stuck => rw [q] at po; exact po⟩
abbrev rA2 (K : PySem.W.Frag) : RelT (List V) (D × D) := fun _ hd F _ H _ vs d => ∃ v u, vs = [v, u] ∧ RB K hd F H v d.1 ∧ RB K hd F H u d.2
abbrev JA2 (X : Cx) (T : List (Addr × Str)) (W : WX) (es : List Expr) (f : M (D × D)) : Prop := PA X es (tG X.K T W (rA2 X.K) f)
def prM (f g : M D) : M (D × D) := bnd f fun x => bnd g fun y => ret (x, y)
theorem ja2 {f g : M D} (h : JB X T W a f) (k : JB X T W b g) (hs : starEach [a, b] X.env = (false, eval a X.env) :: starEach [b] X.env := by rfl) (hs1 : starEach [b] X.env = (false, eval b X.env) :: starEach [] X.env := by rfl) : JA2 X T W [a, b] (prM f g) :=
  (pa_cons h (pa_cons k pa_nil hs1) hs).imp fun σ H Q ⟨F0, H0, hd, F, S, w, po⟩ => ⟨F0, H0, hd, F, S, w, po_bind po fun F1 H1 x d S1 _ u1 w1 r1 po1 => ⟨F0, H0, hd, F1, S1, w1, po_bind po1 fun F2 H2 y d2 S2 _ u2 w2 r2 po2 => po_ok po2 w2 ⟨x, y, rfl, RB.up u2 r1, r2⟩⟩⟩
def tupM (fs : List (M D)) : M D := bnd (sqM fs) fun ds => ret (.tup ds)
theorem small_line {n : Nat} (h : n ≤ 1000) : n ≤ sizeLine := Nat.le_trans h (by decide)
theorem jv_tup {fs : List (M D)} {x1} (h : JA X T W es (sqM fs)) (hl : fs.length ≤ 1000 := by decide) : JV X T W (.Tuple es x1 pos) (tupM fs) := (pe_tup h).imp fun σ H Q ⟨F0, H0, hd, F, S, w, po⟩ =>
  ⟨F0, H0, hd, F, S, w, po_bind po fun F1 H1 xs ds S1 q u1 w1 r1 po1 => ⟨by rw [r1.length, sqM_len q]; exact small_line hl, ans_tup w1.le (ans_of po1 w1) r1⟩⟩
theorem jl_lst {fs : List (M D)} (h : JA X T W es (sqM fs)) (hl : fs.length ≤ 1000 := by decide) : JL X T W (.List es pos) (sqM fs) := (pe_lst h).imp fun σ H Q ⟨F0, H0, hd, F, S, w, po⟩ =>
  ⟨F0, H0, hd, F, S, w, by
    cases q : sqM fs S with
    | ok ds S' =>
      rw [q] at po
      exact fun F1 H1 xs u1 w1 r1 => ⟨by rw [r1.length, sqM_len q]; exact small_line hl, fun p hp => ansL_of (Po.up u1 (show Po _ T W F0 H0 hd σ (rL X.K) Q F H (.ok ds S') from po)) w1 p xs hp r1⟩
    | exc e S' => rw [q] at po; exact po
    | stuck => rw [q] at po; exact po⟩
/-- {} -/
theorem jv_d0 {kpos : Pos} (h : PE X (.Dict [] [] kpos) (fun σ H Q => ∀ d, H d = none → Q (.ref d) (upd H d (.dK [])))) : JV X T W (.Dict [] [] kpos) (ret (.dic [])) := h.imp fun σ H Q ⟨F0, H0, hd, F, S, w, po⟩ => fun p hp =>
  (ans_of po w).2 p _ hp (.dic upd_same .nil)

/-! ### items and slices -/
def ixD : D → D → Option D
  | .lst ds, .int i => atI ds i
  | .tup ds, .int i => atI ds i
  | .scr ds, .int i => atI ds i
  | .str z, .int i => if z.length ≤ sizeLine then (atI z.cps.toList i).map fun c => .str ⟨#[c]⟩ else none
  | _, _ => none
theorem Rps.at {K : PySem.W.Frag} {F : Hp} {vs : List V} {ds : List D} {i : Int} {d : D} (r : Rps K F vs ds) (h : atI ds i = some d) : ∃ v, atI vs i = some v ∧ Rp K F v d := by
  unfold atI at h ⊢
  rw [r.length]
  cases q : ixN ds.length i with
  | none => rw [q] at h; cases h
  | some j =>
    rw [q] at h
    exact r.get h
theorem s_ix {K : PySem.W.Frag} : Op2 K (rOr (rIxL K) (rOr (rIxT K) rIxS)) ixD := by
  intro hd F H x y d1 d2 d Q le rx ry e a
  unfold ixD at e
  split at e
  · obtain ⟨p, vs, rfl, h1, r1⟩ := rx.list le
    obtain ⟨v, h2, r2⟩ := r1.at e
    exact .inl ⟨p, vs, _, v, rfl, ry.int, SqL.of h1, h2, a.1 _ r2⟩
  · obtain ⟨p, vs, rfl, f1, h1, r1⟩ := rx.tup le
    obtain ⟨v, h2, r2⟩ := r1.at e
    exact .inr (.inl ⟨p, vs, _, v, rfl, ry.int, h1, h2, a.1 _ r2⟩)
  · obtain ⟨p, vs, rfl, h1, r1⟩ := rx.scr le
    obtain ⟨v, h2, r2⟩ := r1.at e
    exact .inl ⟨p, vs, _, v, rfl, ry.int, h1, h2, a.1 _ r2⟩
  · split at e
    · rename_i h
      rw [Option.map_eq_some_iff] at e
      obtain ⟨c, e1, rfl⟩ := e
      exact .inr (.inr ⟨_, _, c, rx.str, ry.int, h, e1, a.1 _ (.str _)⟩)
    · cases e
  · cases e
theorem jv_ix {fa fb : M D} (ha : JB X T W a fa) (hb : JB X T W b fb) (hs : PlainIx b) : JV X T W (.Subscript a b pos) (b2 fa fb ixD) := (pe_ix (ix_list.or (ix_tup.or ix_str)) ha hb hs).imp (t_op s_ix)
def cutD (ds : List D) (lo hi : Option Int) : List D := (ds.drop (HT.sIx ds.length 0 lo)).take (HT.sIx ds.length ds.length hi - HT.sIx ds.length 0 lo)
theorem Rps.cut {K : PySem.W.Frag} {F : Hp} {vs : List V} {ds : List D} (r : Rps K F vs ds) (lo hi : Option Int) : Rps K F (cutV vs lo hi) (cutD ds lo hi) := by
  unfold cutV cutD
  rw [r.length]
  exact (r.drop _).take _
def slD (d : D) (lo hi : Option Int) : Option D := match d with
  | .tup ds => some (.tup (cutD ds lo hi))
  | .lst ds => some (.lst (cutD ds lo hi))
  | .scr ds => some (.lst (cutD ds lo hi))
  | _ => none
def slL (d : D) (lo hi : Option Int) : Option (List D) := match d with
  | .lst ds => some (cutD ds lo hi)
  | .scr ds => some (cutD ds lo hi)
  | _ => none
/-- an optional bound -/
abbrev rO : RelT (Option Int) (Option Int) := fun _ _ _ _ _ _ b a => b = a
abbrev JO (X : Cx) (T : List (Addr × Str)) (W : WX) (o : Option Expr) (f : M (Option Int)) : Prop := PO X o (tG X.K T W rO f)
theorem PO.imp' {o : Option Expr} {t u : TO} (h : PO X o t) (i : ∀ σ H Q, u σ H Q → t σ H Q) : PO X o u := ⟨fun pins s σ H Q I hw => h.run pins s σ H Q I (i σ H Q hw)⟩
theorem jo_none : JO X T W none (ret none) := PO.imp' po_none fun σ H Q ⟨F0, H0, hd, F, S, w, po⟩ => po_ok po w rfl
def asI : D → M Int
  | .int i => ret i
  | _ => fun _ => .stuck
theorem po_asI {K : PySem.W.Frag} {T : List (Addr × Str)} {W : WX} {F0 H0 F H : Hp} {hd : Option Addr} {σ : L2.St} {S : Sto} {β γ : Type} {rel : RelT β γ} {g : Int → M γ} {Q : β → Hp → Prop} {d : D} (po : Po K T W F0 H0 hd σ rel Q F H (bnd (asI d) g S)) :
    ∃ k, d = .int k ∧ Po K T W F0 H0 hd σ rel Q F H (g k S) := by
  cases d with
  | int k => exact ⟨k, rfl, po⟩
  | _ => exact False.elim po
def someM (f : M D) : M (Option Int) := bnd f fun d => bnd (asI d) fun i => ret (some i)
theorem jo_some {f : M D} (h : JV X T W e f) : JO X T W (some e) (someM f) := PO.imp' (po_some h) fun σ H Q ⟨F0, H0, hd, F, S, w, po⟩ => ⟨F0, H0, hd, F, S, w, po_bind po fun F1 H1 x d S1 _ u1 w1 r1 po1 => by
  obtain ⟨k, rfl, po2⟩ := po_asI po1
  cases r1
  exact ⟨k, rfl, po_ok po2 w1 rfl⟩⟩
def sl3 {α : Type} (fa : M D) (fl fh : M (Option Int)) (o : D → Option Int → Option Int → Option α) : M α := bnd fa fun x => bnd fl fun l => bnd fh fun h => lf (o x l h)
abbrev rSlB (K : PySem.W.Frag) : V → Option Int → Option Int → Hp → VK → Prop := fun x lo hi H Q => rSlA K x lo hi H Q ∨ rSlL K x lo hi H Q
theorem cutV_whole {xs : List V} {lo hi : Option Int} (h : HT.sIx xs.length 0 lo = 0 ∧ HT.sIx xs.length xs.length hi = xs.length) : cutV xs lo hi = xs := by
  unfold cutV
  rw [h.1, h.2, List.drop_zero, Nat.sub_zero, List.take_length]
theorem jv_slice {fa : M D} {fl fh : M (Option Int)} {lo hi : Option Expr} {p2 : Pos} (ha : JB X T W a fa) (hl : JO X T W lo fl) (hh : JO X T W hi fh) : JV X T W (.Subscript a (.Slice lo hi none p2) pos) (sl3 fa fl fh slD) :=
  (pe_slice (r := rSlB X.K) (sl_tupA.or sl_list) ha hl hh).imp fun σ H Q ⟨F0, H0, hd, F, S, w, po⟩ => ⟨F0, H0, hd, F, S, w, po_bind po fun F1 H1 x d S1 _ u1 w1 r1 po1 => ⟨F0, H0, hd, F1, S1, w1, po_bind po1 fun F2 H2 l l' S2 _ u2 w2 r2 po2 =>
    ⟨F0, H0, hd, F2, S2, w2, po_bind po2 fun F3 H3 h h' S3 _ u3 w3 r3 po3 => by
      cases r2; cases r3
      have r1' : RB X.K hd F3 H3 x d := RB.up u3 (RB.up u2 r1)
      obtain ⟨z, e, po4⟩ := po_lf po3
      have an := ans_of po4 w3
      unfold slD at e
      split at e
      · cases e
        obtain ⟨p, vs, rfl, f1, h1, r⟩ := r1'.tup w3.le
        refine .inl ⟨p, vs, rfl, h1, fun q => ?_, fun q => ans_tup w3.le an (r.cut _ _)⟩
        refine an.1 _ (.tup f1 ?_)
        have := r.cut l h
        rw [cutV_whole q] at this
        exact this
      · cases e
        obtain ⟨p, vs, rfl, h1, r⟩ := r1'.list w3.le
        exact .inr ⟨p, vs, rfl, SqL.of h1, ans_lst w3.le an (r.cut _ _)⟩
      · cases e
        obtain ⟨p, vs, rfl, h1, r⟩ := r1'.scr w3.le
        exact .inr ⟨p, vs, rfl, h1, ans_lst w3.le an (r.cut _ _)⟩
      · cases e⟩⟩⟩
theorem jl_slice {fa : M D} {fl fh : M (Option Int)} {lo hi : Option Expr} {p2 : Pos} (ha : JB X T W a fa) (hl : JO X T W lo fl) (hh : JO X T W hi fh) : JL X T W (.Subscript a (.Slice lo hi none p2) pos) (sl3 fa fl fh slL) :=
  (pe_slice (r := rSlB X.K) (sl_tupA.or sl_list) ha hl hh).imp fun σ H Q ⟨F0, H0, hd, F, S, w, po⟩ => ⟨F0, H0, hd, F, S, w, po_bind po fun F1 H1 x d S1 _ u1 w1 r1 po1 => ⟨F0, H0, hd, F1, S1, w1, po_bind po1 fun F2 H2 l l' S2 _ u2 w2 r2 po2 =>
    ⟨F0, H0, hd, F2, S2, w2, po_bind po2 fun F3 H3 h h' S3 _ u3 w3 r3 po3 => by
      cases r2; cases r3
      have r1' : RB X.K hd F3 H3 x d := RB.up u3 (RB.up u2 r1)
      obtain ⟨z, e, po4⟩ := po_lf po3
      have an := ansL_of po4 w3
      unfold slL at e
      split at e
      · cases e
        obtain ⟨p, vs, rfl, h1, r⟩ := r1'.list w3.le
        exact .inr ⟨p, vs, rfl, SqL.of h1, fun q hq => an q _ hq (r.cut _ _)⟩
      · cases e
        obtain ⟨p, vs, rfl, h1, r⟩ := r1'.scr w3.le
        exact .inr ⟨p, vs, rfl, h1, fun q hq => an q _ hq (r.cut _ _)⟩
      · cases e⟩⟩⟩
/-- -a -/
def negD : D → Option D
  | .int i => some (.int (-i))
  | _ => none
def b1 {α : Type} (fa : M D) (o : D → Option α) : M α := bnd fa fun x => lf (o x)
theorem jv_neg {fa : M D} (ha : JV X T W a fa) : JV X T W (.UnaryOp .USub a pos) (b1 fa negD) := (pe_un un_neg ha).imp fun σ H Q ⟨F0, H0, hd, F, S, w, po⟩ => ⟨F0, H0, hd, F, S, w, po_bind po fun F1 H1 x d S1 _ u1 w1 r1 po1 => by
  obtain ⟨z, e, po4⟩ := po_lf po1
  unfold negD at e
  split at e
  · cases e; cases r1; exact ⟨_, rfl, po_ok po4 w1 (.int _)⟩
  · cases e⟩

/-! ### calls of built-ins by one borrowed argument -/
/-- what a built-in gives for one argument -/
def Bi1 (K : PySem.W.Frag) (r : List V → Hp → VK → Prop) (o : D → Option D) : Prop := ∀ (hd : Option Addr) (F H : Hp) (x : V) (d1 d : D) (Q : VK), Le F H → RB K hd F H x d1 → o d1 = some d → Ans K F H d Q → r [x] H Q
def Bi1L (K : PySem.W.Frag) (r : List V → Hp → VK → Prop) (o : D → Option (List D)) : Prop := ∀ (hd : Option Addr) (F H : Hp) (x : V) (d1 : D) (d : List D) (Q : VK), Le F H → RB K hd F H x d1 → o d1 = some d → AnsL K F H d Q → r [x] H Q
def Bi2 (K : PySem.W.Frag) (r : List V → Hp → VK → Prop) (o : D → D → Option D) : Prop := ∀ (hd : Option Addr) (F H : Hp) (x y : V) (d1 d2 d : D) (Q : VK), Le F H → RB K hd F H x d1 → RB K hd F H y d2 → o d1 d2 = some d → Ans K F H d Q → r [x, y] H Q
variable {x : Str} {p : Pos} {id Ty : String} {r : List V → Hp → VK → Prop} {f : M D} {o : D → Option D}
theorem t_b1 (hs : Bi1 X.K r o) : ∀ σ H Q, tG X.K T W (rV X.K) (b1 f o) σ H Q → tCB r (tG X.K T W (rA1 X.K) f) σ H Q := fun σ H Q ⟨F0, H0, hd, F, S, w, po⟩ =>
  ⟨F0, H0, hd, F, S, w, po_bind po fun F1 H1 xs d S1 _ u1 w1 r1 po1 => by
    obtain ⟨v, rfl, r2⟩ := r1
    obtain ⟨z, e, po2⟩ := po_lf po1
    exact hs hd F1 H1 v d z Q w1.le r2 e (ans_of po2 w1)⟩
theorem t_b1L {o : D → Option (List D)} (hs : Bi1L X.K r o) : ∀ σ H Q, tG X.K T W (rL X.K) (b1 f o) σ H Q → tCB r (tG X.K T W (rA1 X.K) f) σ H Q := fun σ H Q ⟨F0, H0, hd, F, S, w, po⟩ =>
  ⟨F0, H0, hd, F, S, w, po_bind po fun F1 H1 xs d S1 _ u1 w1 r1 po1 => by
    obtain ⟨v, rfl, r2⟩ := r1
    obtain ⟨z, e, po2⟩ := po_lf po1
    exact hs hd F1 H1 v d z Q w1.le r2 e (ansL_of po2 w1)⟩
theorem t_b2 {g : M D} {o : D → D → Option D} (hs : Bi2 X.K r o) : ∀ σ H Q, tG X.K T W (rV X.K) (b2 f g o) σ H Q → tCB r (tG X.K T W (rA2 X.K) (prM f g)) σ H Q := fun σ H Q ⟨F0, H0, hd, F, S, w, po⟩ => by
  have e1 : b2 f g o = bnd (prM f g) fun p => lf (o p.1 p.2) := by
    unfold b2 prM
    rw [bnd_assoc]
    congr 1
    funext x
    rw [bnd_assoc]
    rfl
  rw [e1] at po
  refine ⟨F0, H0, hd, F, S, w, po_bind po fun F1 H1 xs d S1 _ u1 w1 r1 po1 => ?_⟩
  obtain ⟨v, u, rfl, r2, r3⟩ := r1
  obtain ⟨z, e, po2⟩ := po_lf po1
  exact hs hd F1 H1 v u d.1 d.2 z Q w1.le r2 r3 e (ans_of po2 w1)
theorem jv_b1 (hc : CallR X (.builtin id) r) (hs : Bi1 X.K r o) (hg : Gl X x) (hm : X.mg x = none) (hv : bootBuiltins x = some (.builtin id)) (ha : JB X T W e f) (hn : x ≠ "__name__" := by decide) (hdb : (x == ("__debug__" : Str)) = false := by decide)
    (he : starEach [e] X.env = (false, eval e X.env) :: starEach [] X.env := by rfl) (hpl : (backTo pos (starEach [] X.env)).any (·.1) = false := by rfl) : JV X T W (.Call (.Name x p) [e] [] pos) (b1 f o) :=
  (pe_callB hc hg hm hv (ja1 ha he) hn hdb he hpl).imp (t_b1 hs)
theorem jl_b1 {o : D → Option (List D)} (hc : CallR X (.builtin id) r) (hs : Bi1L X.K r o) (hg : Gl X x) (hm : X.mg x = none) (hv : bootBuiltins x = some (.builtin id)) (ha : JB X T W e f) (hn : x ≠ "__name__" := by decide) (hdb : (x == ("__debug__" : Str)) = false := by decide)
    (he : starEach [e] X.env = (false, eval e X.env) :: starEach [] X.env := by rfl) (hpl : (backTo pos (starEach [] X.env)).any (·.1) = false := by rfl) : JL X T W (.Call (.Name x p) [e] [] pos) (b1 f o) :=
  (pe_callB hc hg hm hv (ja1 ha he) hn hdb he hpl).imp (t_b1L hs)
theorem jv_t1 (hc : CallR X (.type Ty) r) (hs : Bi1 X.K r o) (hg : Gl X x) (hm : X.mg x = none) (hv : bootBuiltins x = some (.type Ty)) (ha : JB X T W e f) (hn : x ≠ "__name__" := by decide) (hdb : (x == ("__debug__" : Str)) = false := by decide)
    (he : starEach [e] X.env = (false, eval e X.env) :: starEach [] X.env := by rfl) (hpl : (backTo pos (starEach [] X.env)).any (·.1) = false := by rfl) : JV X T W (.Call (.Name x p) [e] [] pos) (b1 f o) :=
  (pe_callTy hc hg hm hv (ja1 ha he) hn hdb he hpl).imp (t_b1 hs)
theorem jl_t1 {o : D → Option (List D)} (hc : CallR X (.type Ty) r) (hs : Bi1L X.K r o) (hg : Gl X x) (hm : X.mg x = none) (hv : bootBuiltins x = some (.type Ty)) (ha : JB X T W e f) (hn : x ≠ "__name__" := by decide) (hdb : (x == ("__debug__" : Str)) = false := by decide)
    (he : starEach [e] X.env = (false, eval e X.env) :: starEach [] X.env := by rfl) (hpl : (backTo pos (starEach [] X.env)).any (·.1) = false := by rfl) : JL X T W (.Call (.Name x p) [e] [] pos) (b1 f o) :=
  (pe_callTy hc hg hm hv (ja1 ha he) hn hdb he hpl).imp (t_b1L hs)
theorem jv_b2 {g : M D} {o : D → D → Option D} (hc : CallR X (.builtin id) r) (hs : Bi2 X.K r o) (hg : Gl X x) (hm : X.mg x = none) (hv : bootBuiltins x = some (.builtin id)) (ha : JB X T W a f) (hb : JB X T W b g) (hn : x ≠ "__name__" := by decide) (hdb : (x == ("__debug__" : Str)) = false := by decide)
    (he : starEach [a, b] X.env = (false, eval a X.env) :: starEach [b] X.env := by rfl) (he1 : starEach [b] X.env = (false, eval b X.env) :: starEach [] X.env := by rfl) (hpl : (backTo pos (starEach [b] X.env)).any (·.1) = false := by rfl) : JV X T W (.Call (.Name x p) [a, b] [] pos) (b2 f g o) :=
  (pe_callB hc hg hm hv (ja2 ha hb he he1) hn hdb he hpl).imp (t_b2 hs)

/-! ### the built-ins themselves -/
def lenD : D → Option D
  | .lst ds => some (.int ds.length)
  | .tup ds => some (.int ds.length)
  | .scr ds => some (.int ds.length)
  | .str z => if z.length ≤ sizeLine then some (.int z.length) else none
  | _ => none
abbrev cOr (r r' : List V → Hp → VK → Prop) : List V → Hp → VK → Prop := fun xs H Q => r xs H Q ∨ r' xs H Q
abbrev rLenA (K : PySem.W.Frag) : List V → Hp → VK → Prop := cOr (fun xs H Q => ∃ p ys, xs = [.ref p] ∧ (SqL K H p ys ∨ SqT K H p ys) ∧ Q (.int ys.length) H) (fun xs H Q => ∃ z, xs = [.str z] ∧ z.length ≤ sizeLine ∧ Q (.int z.length) H)
theorem c_len : CallR X (.builtin "len") (rLenA X.K) := call_len_seq.or call_len_str
theorem s_len {K : PySem.W.Frag} : Bi1 K (rLenA K) lenD := by
  intro hd F H x d1 d Q le rx e a
  unfold lenD at e
  split at e
  · cases e
    obtain ⟨p, vs, rfl, h1, r⟩ := rx.list le
    exact .inl ⟨p, vs, rfl, .inl (SqL.of h1), by rw [r.length]; exact a.1 _ (.int _)⟩
  · cases e
    obtain ⟨p, vs, rfl, f1, h1, r⟩ := rx.tup le
    exact .inl ⟨p, vs, rfl, .inr h1, by rw [r.length]; exact a.1 _ (.int _)⟩
  · cases e
    obtain ⟨p, vs, rfl, h1, r⟩ := rx.scr le
    exact .inl ⟨p, vs, rfl, .inl h1, by rw [r.length]; exact a.1 _ (.int _)⟩
  · split at e
    · rename_i h
      cases e
      exact .inr ⟨_, by rw [rx.str], h, a.1 _ (.int _)⟩
    · cases e
  · cases e
def sumD : D → Option D
  | .lst ds => (allI ds).map fun ns => .int ns.sum
  | .tup ds => (allI ds).map fun ns => .int ns.sum
  | _ => none
theorem s_sum {K : PySem.W.Frag} : Bi1 K (rSumA K) sumD := by
  intro hd F H x d1 d Q le rx e a
  unfold sumD at e
  split at e
  · rw [Option.map_eq_some_iff] at e
    obtain ⟨ns, e1, rfl⟩ := e
    obtain ⟨p, vs, rfl, h1, r⟩ := rx.list le
    have := allI_some e1
    subst this
    exact ⟨p, ns, rfl, by rw [← r.ints]; exact .inl (SqL.of h1), a.1 _ (.int _)⟩
  · rw [Option.map_eq_some_iff] at e
    obtain ⟨ns, e1, rfl⟩ := e
    obtain ⟨p, vs, rfl, f1, h1, r⟩ := rx.tup le
    have := allI_some e1
    subst this
    exact ⟨p, ns, rfl, by rw [← r.ints]; exact .inr h1, a.1 _ (.int _)⟩
  · cases e
def minI : List Int → Option Int
  | [] => none
  | n :: ns => some (ns.foldl min n)
def maxI : List Int → Option Int
  | [] => none
  | n :: ns => some (ns.foldl max n)
theorem foldl_min_le (ns : List Int) : ∀ n, ns.foldl min n ≤ n ∧ (∀ y ∈ ns, ns.foldl min n ≤ y) ∧ (ns.foldl min n = n ∨ ns.foldl min n ∈ ns) := by
  induction ns with
  | nil => intro n; exact ⟨Int.le_refl _, fun y h => (by cases h), .inl rfl⟩
  | cons m ns ih =>
    intro n
    obtain ⟨h1, h2, h3⟩ := ih (min n m)
    refine ⟨by rw [List.foldl_cons]; omega, fun y hy => ?_, ?_⟩
    · rw [List.foldl_cons]
      rcases List.mem_cons.mp hy with rfl | hy
      · omega
      · exact h2 y hy
    · rw [List.foldl_cons]
      rcases h3 with h3 | h3
      · rw [h3]
        by_cases q : n ≤ m
        · left; omega
        · right; rw [show min n m = m by omega]; exact List.mem_cons_self
      · right; exact List.mem_cons_of_mem _ h3
theorem foldl_max_ge (ns : List Int) : ∀ n, n ≤ ns.foldl max n ∧ (∀ y ∈ ns, y ≤ ns.foldl max n) ∧ (ns.foldl max n = n ∨ ns.foldl max n ∈ ns) := by
  induction ns with
  | nil => intro n; exact ⟨Int.le_refl _, fun y h => (by cases h), .inl rfl⟩
  | cons m ns ih =>
    intro n
    obtain ⟨h1, h2, h3⟩ := ih (max n m)
    refine ⟨by rw [List.foldl_cons]; omega, fun y hy => ?_, ?_⟩
    · rw [List.foldl_cons]
      rcases List.mem_cons.mp hy with rfl | hy
      · omega
      · exact h2 y hy
    · rw [List.foldl_cons]
      rcases h3 with h3 | h3
      · rw [h3]
        by_cases q : m ≤ n
        · left; omega
        · right; rw [show max n m = m by omega]; exact List.mem_cons_self
      · right; exact List.mem_cons_of_mem _ h3
theorem minI_of {ns : List Int} {m : Int} (h1 : m ∈ ns) (h2 : ∀ y ∈ ns, m ≤ y) : minI ns = some m := by
  cases ns with
  | nil => cases h1
  | cons n ns =>
    obtain ⟨a, b, c⟩ := foldl_min_le ns n
    have e : ns.foldl min n = m := by
      have l1 : ns.foldl min n ≤ m := by
        rcases List.mem_cons.mp h1 with rfl | h
        · exact a
        · exact b m h
      have l2 : m ≤ ns.foldl min n := by
        rcases c with c | c
        · rw [c]; exact h2 n List.mem_cons_self
        · exact h2 _ (List.mem_cons_of_mem _ c)
      omega
    show some (ns.foldl min n) = some m
    rw [e]
theorem maxI_of {ns : List Int} {m : Int} (h1 : m ∈ ns) (h2 : ∀ y ∈ ns, y ≤ m) : maxI ns = some m := by
  cases ns with
  | nil => cases h1
  | cons n ns =>
    obtain ⟨a, b, c⟩ := foldl_max_ge ns n
    have e : ns.foldl max n = m := by
      have l1 : m ≤ ns.foldl max n := by
        rcases List.mem_cons.mp h1 with rfl | h
        · exact a
        · exact b m h
      have l2 : ns.foldl max n ≤ m := by
        rcases c with c | c
        · rw [c]; exact h2 n List.mem_cons_self
        · exact h2 _ (List.mem_cons_of_mem _ c)
      omega
    show some (ns.foldl max n) = some m
    rw [e]
def minD1 : D → Option D
  | .lst ds => ((allI ds).bind minI).map .int
  | .tup ds => ((allI ds).bind minI).map .int
  | _ => none
def maxD1 : D → Option D
  | .lst ds => ((allI ds).bind maxI).map .int
  | .tup ds => ((allI ds).bind maxI).map .int
  | _ => none
theorem s_min {K : PySem.W.Frag} : Bi1 K (rMinA K) minD1 := by
  intro hd F H x d1 d Q le rx e a
  unfold minD1 at e
  split at e
  · rw [Option.map_eq_some_iff] at e
    obtain ⟨m, e1, rfl⟩ := e
    rw [Option.bind_eq_some_iff] at e1
    obtain ⟨ns, e2, e3⟩ := e1
    obtain ⟨p, vs, rfl, h1, r⟩ := rx.list le
    have := allI_some e2
    subst this
    refine ⟨p, ns, rfl, by rw [← r.ints]; exact .inl (SqL.of h1), ?_, fun k h2 h3 => ?_⟩
    · cases ns with
      | nil => cases e3
      | cons _ _ => simp
    · have := minI_of h2 h3
      rw [e3] at this
      cases this
      exact a.1 _ (.int _)
  · rw [Option.map_eq_some_iff] at e
    obtain ⟨m, e1, rfl⟩ := e
    rw [Option.bind_eq_some_iff] at e1
    obtain ⟨ns, e2, e3⟩ := e1
    obtain ⟨p, vs, rfl, f1, h1, r⟩ := rx.tup le
    have := allI_some e2
    subst this
    refine ⟨p, ns, rfl, by rw [← r.ints]; exact .inr h1, ?_, fun k h2 h3 => ?_⟩
    · cases ns with
      | nil => cases e3
      | cons _ _ => simp
    · have := minI_of h2 h3
      rw [e3] at this
      cases this
      exact a.1 _ (.int _)
  · cases e
theorem s_max {K : PySem.W.Frag} : Bi1 K (rMaxA K) maxD1 := by
  intro hd F H x d1 d Q le rx e a
  unfold maxD1 at e
  split at e
  · rw [Option.map_eq_some_iff] at e
    obtain ⟨m, e1, rfl⟩ := e
    rw [Option.bind_eq_some_iff] at e1
    obtain ⟨ns, e2, e3⟩ := e1
    obtain ⟨p, vs, rfl, h1, r⟩ := rx.list le
    have := allI_some e2
    subst this
    refine ⟨p, ns, rfl, by rw [← r.ints]; exact .inl (SqL.of h1), ?_, fun k h2 h3 => ?_⟩
    · cases ns with
      | nil => cases e3
      | cons _ _ => simp
    · have := maxI_of h2 h3
      rw [e3] at this
      cases this
      exact a.1 _ (.int _)
  · rw [Option.map_eq_some_iff] at e
    obtain ⟨m, e1, rfl⟩ := e
    rw [Option.bind_eq_some_iff] at e1
    obtain ⟨ns, e2, e3⟩ := e1
    obtain ⟨p, vs, rfl, f1, h1, r⟩ := rx.tup le
    have := allI_some e2
    subst this
    refine ⟨p, ns, rfl, by rw [← r.ints]; exact .inr h1, ?_, fun k h2 h3 => ?_⟩
    · cases ns with
      | nil => cases e3
      | cons _ _ => simp
    · have := maxI_of h2 h3
      rw [e3] at this
      cases this
      exact a.1 _ (.int _)
  · cases e
def allD : D → Option D
  | .lst ds => (allB ds).map fun bs => .bl (bs.all (fun b => b))
  | _ => none
def anyD : D → Option D
  | .lst ds => (allB ds).map fun bs => .bl (bs.any (fun b => b))
  | _ => none
theorem s_all {K : PySem.W.Frag} : Bi1 K (rAll K) allD := by
  intro hd F H x d1 d Q le rx e a
  unfold allD at e
  split at e
  · rw [Option.map_eq_some_iff] at e
    obtain ⟨ns, e1, rfl⟩ := e
    obtain ⟨p, vs, rfl, h1, r⟩ := rx.list le
    have := allB_some e1
    subst this
    exact ⟨p, ns, rfl, by rw [← r.bls]; exact SqL.of h1, a.1 _ (.bl _)⟩
  · cases e
theorem s_any {K : PySem.W.Frag} : Bi1 K (rAny K) anyD := by
  intro hd F H x d1 d Q le rx e a
  unfold anyD at e
  split at e
  · rw [Option.map_eq_some_iff] at e
    obtain ⟨ns, e1, rfl⟩ := e
    obtain ⟨p, vs, rfl, h1, r⟩ := rx.list le
    have := allB_some e1
    subst this
    exact ⟨p, ns, rfl, by rw [← r.bls]; exact SqL.of h1, a.1 _ (.bl _)⟩
  · cases e
def absD : D → Option D
  | .int i => some (.int (if i < 0 then -i else i))
  | _ => none
theorem s_abs {K : PySem.W.Frag} : Bi1 K (fun xs H Q => ∃ i, xs = [.int i] ∧ Q (.int (if i < 0 then -i else i)) H) absD := by
  intro hd F H x d1 d Q le rx e a
  unfold absD at e
  split at e
  · cases e; exact ⟨_, by rw [rx.int], a.1 _ (.int _)⟩
  · cases e
def intD : D → Option D
  | .int i => some (.int i)
  | .bl b => some (.int (if b then 1 else 0))
  | _ => none
theorem s_int {K : PySem.W.Frag} : Bi1 K (fun xs H Q => (∃ i, xs = [.int i] ∧ Q (.int i) H) ∨ ∃ k, xs = [.bl k] ∧ Q (.int (if k then 1 else 0)) H) intD := by
  intro hd F H x d1 d Q le rx e a
  unfold intD at e
  split at e
  · cases e; exact .inl ⟨_, by rw [rx.int], a.1 _ (.int _)⟩
  · cases e; exact .inr ⟨_, by rw [rx.bl], a.1 _ (.int _)⟩
  · cases e
def tupD : D → Option D
  | .lst ds => some (.tup ds)
  | .tup ds => some (.tup ds)
  | _ => none
theorem s_tuple {K : PySem.W.Frag} : Bi1 K (fun xs H Q => ∃ p ys, xs = [.ref p] ∧ ((SqL K H p ys ∧ ∀ l, H l = none → Q (.ref l) (upd H l (.tup ys))) ∨ (SqT K H p ys ∧ Q (.ref p) H))) tupD := by
  intro hd F H x d1 d Q le rx e a
  unfold tupD at e
  split at e
  · cases e
    obtain ⟨p, vs, rfl, h1, r⟩ := rx.list le
    exact ⟨p, vs, rfl, .inl ⟨SqL.of h1, ans_tup le a r⟩⟩
  · cases e
    obtain ⟨p, vs, rfl, f1, h1, r⟩ := rx.tup le
    exact ⟨p, vs, rfl, .inr ⟨h1, a.1 _ (.tup f1 r)⟩⟩
  · cases e
def lstL : D → Option (List D)
  | .lst ds => some ds
  | .tup ds => some ds
  | .scr ds => some ds
  | _ => none
abbrev rLstA (K : PySem.W.Frag) : List V → Hp → VK → Prop := fun xs H Q => ∃ p ys, xs = [.ref p] ∧ (SqL K H p ys ∨ SqT K H p ys) ∧ ∀ l, H l = none → Q (.ref l) (upd H l (.lst ys))
theorem s_list {K : PySem.W.Frag} : Bi1L K (rLstA K) lstL := by
  intro hd F H x d1 d Q le rx e a
  unfold lstL at e
  split at e
  · cases e
    obtain ⟨p, vs, rfl, h1, r⟩ := rx.list le
    exact ⟨p, vs, rfl, .inl (SqL.of h1), fun l hl => a l _ hl r⟩
  · cases e
    obtain ⟨p, vs, rfl, f1, h1, r⟩ := rx.tup le
    exact ⟨p, vs, rfl, .inr h1, fun l hl => a l _ hl r⟩
  · cases e
    obtain ⟨p, vs, rfl, h1, r⟩ := rx.scr le
    exact ⟨p, vs, rfl, .inl h1, fun l hl => a l _ hl r⟩
  · cases e
end
/-- the ascending list -/
def ins (x : Int) : List Int → List Int
  | [] => [x]
  | y :: r => if x ≤ y then x :: y :: r else y :: ins x r
def isort : List Int → List Int
  | [] => []
  | x :: r => ins x (isort r)
theorem ins_perm (x : Int) : ∀ l, (ins x l).Perm (x :: l)
  | [] => .refl _
  | y :: r => by
    unfold ins
    split
    · exact .refl _
    · exact ((ins_perm x r).cons y).trans (List.Perm.swap x y r)
theorem isort_perm : ∀ l : List Int, (isort l).Perm l
  | [] => .refl _
  | x :: r => (ins_perm x _).trans ((isort_perm r).cons x)
theorem ins_sorted (x : Int) : ∀ l : List Int, l.Pairwise (· ≤ ·) → (ins x l).Pairwise (· ≤ ·)
  | [], _ => by simp [ins]
  | y :: r, h => by
    unfold ins
    rw [List.pairwise_cons] at h
    split
    · rename_i q
      refine List.pairwise_cons.mpr ⟨fun z hz => ?_, List.pairwise_cons.mpr h⟩
      rcases List.mem_cons.mp hz with rfl | hz
      · exact q
      · exact Int.le_trans q (h.1 z hz)
    · rename_i q
      refine List.pairwise_cons.mpr ⟨fun z hz => ?_, ins_sorted x r h.2⟩
      rcases List.mem_cons.mp ((ins_perm x r).mem_iff.mp hz) with rfl | hz
      · omega
      · exact h.1 z hz
theorem isort_sorted : ∀ l : List Int, (isort l).Pairwise (· ≤ ·)
  | [] => .nil
  | x :: r => ins_sorted x _ (isort_sorted r)
theorem sorted_unique : ∀ {l m : List Int}, l.Perm m → l.Pairwise (· ≤ ·) → m.Pairwise (· ≤ ·) → l = m
  | [], m, h, _, _ => (List.nil_perm.mp h).symm
  | x :: l, [], h, _, _ => by have := h.length_eq; simp at this
  | x :: l, y :: m, h, h1, h2 => by
    rw [List.pairwise_cons] at h1 h2
    have e : x = y := by
      have a : x ∈ y :: m := h.mem_iff.mp List.mem_cons_self
      have b : y ∈ x :: l := h.mem_iff.mpr List.mem_cons_self
      have l1 : y ≤ x := by
        rcases List.mem_cons.mp a with rfl | a
        · exact Int.le_refl _
        · exact h2.1 x a
      have l2 : x ≤ y := by
        rcases List.mem_cons.mp b with rfl | b
        · exact Int.le_refl _
        · exact h1.1 y b
      omega
    subst e
    rw [sorted_unique (List.Perm.cons_inv h) h1.2 h2.2]
theorem isort_of {l m : List Int} (h : m.Perm l) (s : m.Pairwise (· ≤ ·)) : m = isort l := sorted_unique (h.trans (isort_perm l).symm) s (isort_sorted l)
def srtI : D → Option (List D)
  | .lst ds => (allI ds).map fun ns => (isort ns).map .int
  | _ => none
theorem s_sortI {K : PySem.W.Frag} : Bi1L K (rSortedI K) srtI := by
  intro hd F H x d1 d Q le rx e a
  unfold srtI at e
  split at e
  · rw [Option.map_eq_some_iff] at e
    obtain ⟨ns, e1, rfl⟩ := e
    obtain ⟨p, vs, rfl, h1, r⟩ := rx.list le
    have := allI_some e1
    subst this
    refine ⟨p, ns, rfl, by rw [← r.ints]; exact SqL.of h1, fun ns' q h2 h3 h4 => ?_⟩
    rw [isort_of h2 h3]
    exact a q _ h4 (rps_ints _)
  · cases e
end FX

set_option Elab.async false
set_option linter.all false
set_option maxRecDepth 100000
set_option maxHeartbeats 4000000
namespace FX
open PySem PySem.Spec PyProof.Rows L2 LamX

/-! ### defs that compute -/
structure Fit (k : Nat) (A : Around) : Prop where
  rm : Room k A
  gd : A.guards = some []
theorem Fit.mono {j k : Nat} {A : Around} (f : Fit k A) (h : j ≤ k) : Fit j A := ⟨f.rm.mono h, f.gd⟩
theorem Fit.deeper {k : Nat} {A : Around} (f : Fit (k + 1) A) (env : Env) : Fit k (A.deeper env) := ⟨f.rm.deeper env, f.gd⟩
theorem Fit.u {k : Nat} {A : Around} (f : Fit k A) : A.units + 64 < cLine := f.rm.units
structure FnG (P : Program) (w : World) (K : PySem.W.Frag) (mg : Str → Option Value) (base : Heap) (k : Nat) (f : Addr) (fd : FuncData) (ps : List Str) (sp : Sp) : Prop where
  len : ∀ vs H Q E, sp vs H Q E → vs.length = ps.length
  run : ∀ (A : Around) (outer : List Env) (s : Shared) (H : Hp) (args : Args) (us : List Value) (vs : List V) (Q : VK) (E : XK), Fit k A → Env0 P w K mg base A outer s H → BindsTo s fd args (ps.zip us) → Vals vs us → sp vs H Q E →
    codeAny (model P w) A (.call (.ref f) args) (CR (L2.CX P w) outer P w H s Q E) s
inductive Rv where
  | v (d : D) | l (ds : List D)
/-- what a def comes to: its answer, or an exception; and the hand behind it -/
inductive Fo where
  | ret (r : Rv) (hc : List D) | exc (e : Xc) (hc : List D) | stuck
/-- the heaps behind a def -/
structure Aft (T : List (Addr × Str)) (hd : Option Addr) (F H F' H' : Hp) : Prop where
  le : Le F' H'
  up : Up hd F H F' H'
  nw : ∀ a o, F' a = some o → F a = some o ∨ H a = none
  tabs : TabF T F' H'
def spP (K : PySem.W.Frag) (T : List (Addr × Str)) (n : Nat) (g : List D → Fo) : Sp := fun vs H Q E => ∃ F ds, vs.length = n ∧ Le F H ∧ TabF T F H ∧ Rps K F vs ds ∧ match g ds with
  | .ret (.v d) _ => ∀ F' H' u, Aft T none F H F' H' → Rp K F' u d → Q u H'
  | .ret (.l rs) _ => ∀ F' H' p us, Aft T none F H F' H' → H p = none → F' p = none → H' p = some (.lst us) → Rps K F' us rs → Q (.ref p) H'
  | .exc e _ => ∀ F' H' dx, Aft T none F H F' H' → XcR e dx F' → E (.ref e.cls) dx H'
  | .stuck => False
/-- .. whose first argument is the hand -/
def spH (K : PySem.W.Frag) (T : List (Addr × Str)) (n : Nat) (g : List D → List D → Fo) : Sp := fun vs H Q E => ∃ F hp us hv hc ds, vs = .ref hp :: us ∧ us.length = n ∧ Le F H ∧ TabF T F H ∧ H hp = some (.lst hv) ∧ F hp = none ∧ Rps K F hv hc ∧ Rps K F us ds ∧ match g hc ds with
  | .ret (.v d) hc' => ∀ F' H' u hv', Aft T (some hp) F H F' H' → H' hp = some (.lst hv') → F' hp = none → Rps K F' hv' hc' → Rp K F' u d → Q u H'
  | .ret (.l rs) hc' => ∀ F' H' p zs hv', Aft T (some hp) F H F' H' → H' hp = some (.lst hv') → F' hp = none → Rps K F' hv' hc' → H p = none → p ≠ hp → F' p = none → H' p = some (.lst zs) → Rps K F' zs rs → Q (.ref p) H'
  | .exc e hc' => ∀ F' H' dx hv', Aft T (some hp) F H F' H' → H' hp = some (.lst hv') → F' hp = none → Rps K F' hv' hc' → XcR e dx F' → E (.ref e.cls) dx H'
  | .stuck => False
section
variable {K : PySem.W.Frag} {T : List (Addr × Str)} {F0 H0 F H F' H' : Hp} {hd : Option Addr} {σ : L2.St} {S : Sto}
theorem Aft.upAny (a : Aft T none F H F' H') : Up hd F H F' H' := ⟨a.up.fF, a.up.dom, fun x o e n _ => a.up.keep x o e n (by intro z; cases z)⟩
theorem Aft.nF {hd : Option Addr} (a : Aft T hd F H F' H') {p : Addr} {o : HO} (f : F p = none) (h : H p = some o) : F' p = none := by
  cases q : F' p with
  | none => rfl
  | some u =>
    rcases a.nw p u q with z | z
    · rw [f] at z; cases z
    · rw [h] at z; cases z
theorem Wld.aft {hc' : List D} {hx : Option Addr} (w : Wld K T F0 H0 hd F σ H S) (a : Aft T hx F H F' H') (hu : Up hd F H F' H') (hh : ∀ p, hd = some p → ∃ vs, H' p = some (.lst vs) ∧ Rps K F' vs hc') : Wld K T F0 H0 hd F' σ H' { S with hc := hc' } := by
  refine ⟨a.le, w.r0.trans hu.fF, fun x o e => ?_, fun x o e => ?_, fun x o e n m => hu.keep _ _ (w.keep x o e n m) n m, a.tabs, w.len, fun i => ?_, w.sep, fun p e => ?_⟩
  · rcases a.nw x o e with z | z
    · exact w.r1 x o z
    · exact .inr (w.entryFree z)
  · obtain ⟨u, z⟩ := w.dom x o e
    exact hu.dom x u z
  · have z := w.slo i
    show SlR K H0 hd F' H' _ (S.sl.getD i .un)
    generalize S.sl.getD i .un = sl at z ⊢
    cases sl with
    | un => trivial
    | val d => obtain ⟨v, e, r⟩ := z; exact ⟨v, e, r.mono hu.fF⟩
    | clo _ _ _ _ => exact ⟨z.1, z.2.1.mono hu.fF, z.2.2⟩
    | own ds =>
      obtain ⟨q, vs, e1, e2, e3, e4, e5, r⟩ := z
      exact ⟨q, vs, e1, hu.lst e2 e5, a.nF e3 e2, e4, e5, r.mono hu.fF⟩
    | hnd => exact z
  · obtain ⟨f, vs, e1, r⟩ := w.hnd p e
    exact ⟨a.nF f e1, hh p e⟩
theorem Wld.aft0 (w : Wld K T F0 H0 hd F σ H S) (a : Aft T none F H F' H') : Wld K T F0 H0 hd F' σ H' S := w.aft a a.upAny fun p e => by
  obtain ⟨f, vs, e1, r⟩ := w.hnd p e
  exact ⟨vs, a.up.lst e1 (by intro z; cases z), r.mono a.up.fF⟩
end

/-! ### calls -/
section
variable {X : Cx} {T : List (Addr × Str)} {W : WX} {k n : Nat} {f : Addr} {fd : FuncData} {ps : List Str} {sp : Sp} {x : Str} {p pos : Pos} {e : Expr} {es : List Expr}
theorem run_G {pins : List (Addr × Obj)} {σ : L2.St} {H : Hp} {s : Shared} {Q : VK} {us : List Value} {vs : List V} (F : FnG X.prog X.w X.K X.mg X.base k f fd ps sp) (hf : Fit k X.A) (hb : Binds X.K fd ps []) (tk : Takes X W) (I : Inv X pins σ H s) (r : Vals vs us)
    (h : sp vs H Q fun c d H' => W c d σ H') : wpAny (model X.prog X.w) X.A (call (.ref f) us) (EP X pins σ Q) X.xe s := by
  have b := hb s us I.kIn (by rw [List.append_nil, ← r.length]; exact F.len _ _ _ _ h)
  rw [List.append_nil] at b
  refine wpAny_call (codeAny_mono (F.run X.A X.stack s H ⟨us, []⟩ us vs Q _ hf I.env0 b r h) fun o s' z => ?_)
  match o, z with
  | .error err, z => exact tk err s' (XE.of_call I (fun _ _ _ q => q) z)
  | .ok (.ret u), z => exact I.after z
/-- a call of a def by its name -/
def tCallG (sp : Sp) (W : WX) (t : TA) : TE := fun σ H Q => t σ H fun vs H1 => sp vs H1 Q fun c d H' => W c d σ H'
theorem pe_callG {t : TA} (F : FnG X.prog X.w X.K X.mg X.base k f fd ps sp) (hf : Fit k X.A) (hg : Gl X x) (hm : X.mg x = some (.ref f)) (hk : PySem.W.keepIn X.K (.ref f) = true) (hb : Binds X.K fd ps []) (tk : Takes X W) (ha : PA X (e :: es) t)
    (hdb : (x == ("__debug__" : Str)) = false := by decide) (he : starEach (e :: es) X.env = (false, eval e X.env) :: starEach es X.env := by rfl) (hpl : (backTo pos (starEach es X.env)).any (·.1) = false := by rfl) : PE X (.Call (.Name x p) (e :: es) [] pos) (tCallG sp W t) :=
  ⟨fun pins s σ H Q I h => wpAny_Call_Name_kw (ld_glob I hg hm (PySem.W.callWith_K (h₀ := X.base) I.ok.mod.kin hk (thn (ha.run pos pins s σ H _ I h) fun us s1 z => by
    obtain ⟨vs, H1, I1, r, q⟩ := z
    exact ⟨I1.kIn, run_G F hf hb tk I1 r q⟩) he hpl) hdb)⟩
theorem pe_callG0 (F : FnG X.prog X.w X.K X.mg X.base k f fd ps sp) (hf : Fit k X.A) (hg : Gl X x) (hm : X.mg x = some (.ref f)) (hk : PySem.W.keepIn X.K (.ref f) = true) (hb : Binds X.K fd ps []) (tk : Takes X W) (hdb : (x == ("__debug__" : Str)) = false := by decide) :
    PE X (.Call (.Name x p) [] [] pos) (tCallG sp W tNil) :=
  ⟨fun pins s σ H Q I h => wpAny_Call_Name_kw (ld_glob I hg hm (PySem.W.callWith_K0 I.kIn hk (run_G (us := []) F hf hb tk I .nil h)) hdb)⟩
/-- the def's answer as a value, as a list of one's own -/
def clV (g : List D → Fo) (fs : List (M D)) : M D := bnd (sqM fs) fun ds S => match g ds with
  | .ret (.v d) _ => .ok d S
  | .ret (.l rs) _ => .ok (.lst rs) S
  | .exc e _ => .exc e S
  | .stuck => .stuck
def clL (g : List D → Fo) (fs : List (M D)) : M (List D) := bnd (sqM fs) fun ds S => match g ds with
  | .ret (.l rs) _ => .ok rs S
  | .exc e _ => .exc e S
  | _ => .stuck
variable {g : List D → Fo} {fs : List (M D)}
theorem t_clV (hn : fs.length = n) : ∀ σ H Q, tG X.K T W (rV X.K) (clV g fs) σ H Q → tCallG (spP X.K T n g) W (tG X.K T W (rA X.K) (sqM fs)) σ H Q := fun σ H Q ⟨F0, H0, hd, F, S, w, po⟩ =>
  ⟨F0, H0, hd, F, S, w, po_bind po fun F1 H1 vs ds S1 q u1 w1 r1 po1 => ⟨F1, ds, by rw [r1.length, sqM_len q, hn], w1.le, w1.tabs, r1, by
    cases z : g ds with
    | ret r hc =>
      cases r with
      | v d => simp only [z] at po1; exact fun F' H' u a r => po1 F' H' u a.upAny (w1.aft0 a) r
      | l rs =>
        simp only [z] at po1
        intro F' H' p us a h1 h2 h3 r
        obtain ⟨n1, n2⟩ := w1.notIn h1
        obtain ⟨w2, u2⟩ := (w1.aft0 a).freeze h3 h2 (w1.entryFree h1) n1 n2
        exact po1 _ _ _ (a.upAny.trans u2) w2 (.lst upd_same (r.mono u2.fF))
    | exc e hc => simp only [z] at po1; exact fun F' H' dx a r => po1 F' H' dx a.upAny (w1.aft0 a) r
    | stuck => simp only [z] at po1; exact po1⟩⟩
theorem t_clL (hn : fs.length = n) : ∀ σ H Q, tG X.K T W (rL X.K) (clL g fs) σ H Q → tCallG (spP X.K T n g) W (tG X.K T W (rA X.K) (sqM fs)) σ H Q := fun σ H Q ⟨F0, H0, hd, F, S, w, po⟩ =>
  ⟨F0, H0, hd, F, S, w, po_bind po fun F1 H1 vs ds S1 q u1 w1 r1 po1 => ⟨F1, ds, by rw [r1.length, sqM_len q, hn], w1.le, w1.tabs, r1, by
    cases z : g ds with
    | ret r hc =>
      cases r with
      | v d => simp only [z] at po1; exact False.elim po1
      | l rs =>
        simp only [z] at po1
        intro F' H' p us a h1 h2 h3 r
        obtain ⟨n1, n2⟩ := w1.notIn h1
        exact po1 _ _ _ a.upAny (w1.aft0 a) ⟨p, us, rfl, h3, h2, w1.entryFree h1, n1, r, n2⟩
    | exc e hc => simp only [z] at po1; exact fun F' H' dx a r => po1 F' H' dx a.upAny (w1.aft0 a) r
    | stuck => simp only [z] at po1; exact po1⟩⟩
theorem jv_call (F : FnG X.prog X.w X.K X.mg X.base k f fd ps (spP X.K T n g)) (hf : Fit k X.A) (hg : Gl X x) (hm : X.mg x = some (.ref f)) (hk : PySem.W.keepIn X.K (.ref f) = true) (hb : Binds X.K fd ps []) (tk : Takes X W) (ha : JA X T W (e :: es) (sqM fs)) (hn : fs.length = n := by rfl)
    (hdb : (x == ("__debug__" : Str)) = false := by decide) (he : starEach (e :: es) X.env = (false, eval e X.env) :: starEach es X.env := by rfl) (hpl : (backTo pos (starEach es X.env)).any (·.1) = false := by rfl) : JV X T W (.Call (.Name x p) (e :: es) [] pos) (clV g fs) :=
  (pe_callG F hf hg hm hk hb tk ha hdb he hpl).imp (t_clV hn)
theorem jl_call (F : FnG X.prog X.w X.K X.mg X.base k f fd ps (spP X.K T n g)) (hf : Fit k X.A) (hg : Gl X x) (hm : X.mg x = some (.ref f)) (hk : PySem.W.keepIn X.K (.ref f) = true) (hb : Binds X.K fd ps []) (tk : Takes X W) (ha : JA X T W (e :: es) (sqM fs)) (hn : fs.length = n := by rfl)
    (hdb : (x == ("__debug__" : Str)) = false := by decide) (he : starEach (e :: es) X.env = (false, eval e X.env) :: starEach es X.env := by rfl) (hpl : (backTo pos (starEach es X.env)).any (·.1) = false := by rfl) : JL X T W (.Call (.Name x p) (e :: es) [] pos) (clL g fs) :=
  (pe_callG F hf hg hm hk hb tk ha hdb he hpl).imp (t_clL hn)
/-! ### .. with the hand -/
/-- the hand's slot, the other arguments -/
abbrev rAH (K : PySem.W.Frag) : RelT (List V) (List D) := fun _ hd F _ _ _ vs ds => ∃ p us, hd = some p ∧ vs = .ref p :: us ∧ Rps K F us ds
def hdM (i : Nat) (fs : List (M D)) : M (List D) := fun S => match S.sl.getD i .un with
  | .hnd => sqM fs S
  | _ => .stuck
theorem jah {i : Nat} (h : PE X e (tVar i)) (ha : JA X T W es (sqM fs)) (hs : starEach (e :: es) X.env = (false, eval e X.env) :: starEach es X.env := by rfl) : PA X (e :: es) (tG X.K T W (rAH X.K) (hdM i fs)) :=
  (pa_cons h ha hs).imp fun σ H Q ⟨F0, H0, hd, F, S, w, po⟩ => by
    unfold hdM at po
    have z := w.slo i
    cases q : S.sl.getD i .un with
    | hnd =>
      rw [q] at po z
      obtain ⟨p, e1, e2⟩ := z
      refine ⟨.ref p, getD_some e1, F0, H0, hd, F, S, w, ?_⟩
      have po : Po X.K T W F0 H0 hd σ (rAH X.K) Q F H (sqM fs S) := po
      cases q2 : sqM fs S with
      | ok ds S' => rw [q2] at po; exact fun F' H' us u w' r => po F' H' _ u w' ⟨p, us, e2, rfl, r⟩
      | exc e S' => rw [q2] at po; exact po
      | stuck => rw [q2] at po; exact po
    | val d => rw [q] at po; exact False.elim po
    | own d => rw [q] at po; exact False.elim po
    | un => rw [q] at po; exact False.elim po
    | clo _ _ _ _ => rw [q] at po; exact False.elim po
theorem hdM_len {i : Nat} {S S' : Sto} {ds : List D} (h : hdM i fs S = .ok ds S') : ds.length = fs.length := by
  unfold hdM at h
  split at h
  · exact sqM_len h
  · cases h
variable {gh : List D → List D → Fo}
def chV (g : List D → List D → Fo) (i : Nat) (fs : List (M D)) : M D := bnd (hdM i fs) fun ds S => match g S.hc ds with
  | .ret (.v d) hc => .ok d { S with hc := hc }
  | .ret (.l rs) hc => .ok (.lst rs) { S with hc := hc }
  | .exc e hc => .exc e { S with hc := hc }
  | .stuck => .stuck
def chL (g : List D → List D → Fo) (i : Nat) (fs : List (M D)) : M (List D) := bnd (hdM i fs) fun ds S => match g S.hc ds with
  | .ret (.l rs) hc => .ok rs { S with hc := hc }
  | .exc e hc => .exc e { S with hc := hc }
  | _ => .stuck
theorem t_chV {i : Nat} (hn : fs.length = n) : ∀ σ H Q, tG X.K T W (rV X.K) (chV gh i fs) σ H Q → tCallG (spH X.K T n gh) W (tG X.K T W (rAH X.K) (hdM i fs)) σ H Q := fun σ H Q ⟨F0, H0, hd, F, S, w, po⟩ =>
  ⟨F0, H0, hd, F, S, w, po_bind po fun F1 H1 vs ds S1 q u1 w1 r1 po1 => by
    obtain ⟨p, us, rfl, rfl, r⟩ := r1
    obtain ⟨f1, hv, h1, rh⟩ := w1.hnd p rfl
    have W2 : ∀ {F' H' : Hp} {hv' : List V} {hc' : List D}, Aft T (some p) F1 H1 F' H' → H' p = some (.lst hv') → Rps X.K F' hv' hc' → Wld X.K T F0 H0 (some p) F' σ H' { S1 with hc := hc' } := fun a e r => w1.aft a a.up fun q z => by cases z; exact ⟨_, e, r⟩
    refine ⟨F1, p, us, hv, S1.hc, ds, rfl, by rw [r.length, hdM_len q, hn], w1.le, w1.tabs, h1, f1, rh, r, ?_⟩
    cases z : gh S1.hc ds with
    | ret r hc =>
      cases r with
      | v d => simp only [z] at po1; exact fun F' H' u hv' a e1 e2 r1 r => po1 F' H' u a.up (W2 a e1 r1) r
      | l rs =>
        simp only [z] at po1
        intro F' H' q zs hv' a e1 e2 r1 n1 n2 n3 e3 r
        obtain ⟨m1, m2⟩ := w1.notIn n1
        obtain ⟨w2, u2⟩ := (W2 a e1 r1).freeze e3 n3 (w1.entryFree n1) m1 m2
        exact po1 _ _ _ (a.up.trans u2) w2 (.lst upd_same (r.mono u2.fF))
    | exc e hc => simp only [z] at po1; exact fun F' H' dx hv' a e1 e2 r1 r => po1 F' H' dx a.up (W2 a e1 r1) r
    | stuck => simp only [z] at po1; exact po1⟩
theorem t_chL {i : Nat} (hn : fs.length = n) : ∀ σ H Q, tG X.K T W (rL X.K) (chL gh i fs) σ H Q → tCallG (spH X.K T n gh) W (tG X.K T W (rAH X.K) (hdM i fs)) σ H Q := fun σ H Q ⟨F0, H0, hd, F, S, w, po⟩ =>
  ⟨F0, H0, hd, F, S, w, po_bind po fun F1 H1 vs ds S1 q u1 w1 r1 po1 => by
    obtain ⟨p, us, rfl, rfl, r⟩ := r1
    obtain ⟨f1, hv, h1, rh⟩ := w1.hnd p rfl
    have W2 : ∀ {F' H' : Hp} {hv' : List V} {hc' : List D}, Aft T (some p) F1 H1 F' H' → H' p = some (.lst hv') → Rps X.K F' hv' hc' → Wld X.K T F0 H0 (some p) F' σ H' { S1 with hc := hc' } := fun a e r => w1.aft a a.up fun q z => by cases z; exact ⟨_, e, r⟩
    refine ⟨F1, p, us, hv, S1.hc, ds, rfl, by rw [r.length, hdM_len q, hn], w1.le, w1.tabs, h1, f1, rh, r, ?_⟩
    cases z : gh S1.hc ds with
    | ret r hc =>
      cases r with
      | v d => simp only [z] at po1; exact False.elim po1
      | l rs =>
        simp only [z] at po1
        intro F' H' q zs hv' a e1 e2 r1 n1 n2 n3 e3 r
        obtain ⟨m1, m2⟩ := w1.notIn n1
        exact po1 _ _ _ a.up (W2 a e1 r1) ⟨q, zs, rfl, e3, n3, w1.entryFree n1, m1, r, m2⟩
    | exc e hc => simp only [z] at po1; exact fun F' H' dx hv' a e1 e2 r1 r => po1 F' H' dx a.up (W2 a e1 r1) r
    | stuck => simp only [z] at po1; exact po1⟩
theorem jv_callH {i : Nat} (F : FnG X.prog X.w X.K X.mg X.base k f fd ps (spH X.K T n gh)) (hf : Fit k X.A) (hg : Gl X x) (hm : X.mg x = some (.ref f)) (hk : PySem.W.keepIn X.K (.ref f) = true) (hb : Binds X.K fd ps []) (tk : Takes X W) (hv : PE X e (tVar i)) (ha : JA X T W es (sqM fs)) (hn : fs.length = n := by rfl)
    (hdb : (x == ("__debug__" : Str)) = false := by decide) (he : starEach (e :: es) X.env = (false, eval e X.env) :: starEach es X.env := by rfl) (hpl : (backTo pos (starEach es X.env)).any (·.1) = false := by rfl) : JV X T W (.Call (.Name x p) (e :: es) [] pos) (chV gh i fs) :=
  (pe_callG F hf hg hm hk hb tk (jah hv ha he) hdb he hpl).imp (t_chV hn)
theorem jl_callH {i : Nat} (F : FnG X.prog X.w X.K X.mg X.base k f fd ps (spH X.K T n gh)) (hf : Fit k X.A) (hg : Gl X x) (hm : X.mg x = some (.ref f)) (hk : PySem.W.keepIn X.K (.ref f) = true) (hb : Binds X.K fd ps []) (tk : Takes X W) (hv : PE X e (tVar i)) (ha : JA X T W es (sqM fs)) (hn : fs.length = n := by rfl)
    (hdb : (x == ("__debug__" : Str)) = false := by decide) (he : starEach (e :: es) X.env = (false, eval e X.env) :: starEach es X.env := by rfl) (hpl : (backTo pos (starEach es X.env)).any (·.1) = false := by rfl) : JL X T W (.Call (.Name x p) (e :: es) [] pos) (chL gh i fs) :=
  (pe_callG F hf hg hm hk hb tk (jah hv ha he) hdb he hpl).imp (t_chL hn)
/-- an item of the hand -/
def hix (i j : Nat) : M D := fun S => match S.sl.getD i .un, S.hc[j]? with
  | .hnd, some d => .ok d S
  | _, _ => .stuck
theorem jv_hix {i j q : Nat} {ip : Pos} (h : PE X e (tVar i)) : JV X T W (.Subscript e (.Constant (.int (j : Int)) q ip) pos) (hix i j) :=
  (pe_ix (ix_list.or (ix_tup.or ix_str)) h pe_int (fun _ _ => rfl)).imp fun σ H Q ⟨F0, H0, hd, F, S, w, po⟩ => by
    unfold hix at po
    have z := w.slo i
    cases q : S.sl.getD i .un with
    | hnd =>
      cases q2 : S.hc[j]? with
      | none => rw [q, q2] at po; exact False.elim po
      | some d =>
        rw [q, q2] at po
        rw [q] at z
        obtain ⟨p, e1, e2⟩ := z
        obtain ⟨f1, hv, h1, rh⟩ := w.hnd p e2
        obtain ⟨v, h2, r⟩ := rh.get q2
        exact ⟨.ref p, getD_some e1, .inl ⟨p, hv, j, v, rfl, rfl, SqL.of h1, atI_nat h2, po_ok po w r⟩⟩
    | val d => rw [q] at po; exact False.elim po
    | own d => rw [q] at po; exact False.elim po
    | un => rw [q] at po; exact False.elim po
    | clo _ _ _ _ => rw [q] at po; exact False.elim po
/-! ### isinstance -/
def tyN : D → Option String
  | .non => some "NoneType" | .bl _ => some "bool" | .int _ => some "int" | .str _ => some "str" | .tup _ => some "tuple" | .lst _ => some "list" | .dic _ => some "dict"
  | _ => none
/-- is a thing of the type a one of the type b -/
def subN (a b : String) : Bool := a == b || (a == "bool" && b == "int")
def isiD (b : String) (d : D) : Option D := (tyN d).map fun a => .bl (subN a b)
theorem tyN_X {K : PySem.W.Frag} {hd : Option Addr} {F H : Hp} {v : V} {d : D} {t : String} (le : Le F H) (r : RB K hd F H v d) (e : tyN d = some t) : TyX K H v (.type t) := by
  rcases r with r | ⟨p, vs, ds, e1, e2, n, h, r⟩
  · cases r with
    | non => cases e; exact .base .non
    | bl b => cases e; exact .base (.bl b)
    | int b => cases e; exact .base (.int b)
    | str b => cases e; exact .base (.str b)
    | tup h r =>
      cases e
      rcases le.st h with (h | ⟨o, h⟩) | ⟨o, its, n, h, c, _⟩
      · exact .base (.tup h)
      · exact .fTuple h
      · exact .kTuple h c
    | lst h r => cases e; exact .base (.lst (le _ _ h))
    | dic h r => cases e; exact .base (.dK (le _ _ h))
    | _ => cases e
  · subst e1 e2; cases e; exact .base (.lst h)
theorem kit_sub {a b : String} (ha : a ∈ ["NoneType", "bool", "int", "str", "tuple", "list", "dict"]) (hb : b ∈ ["bool", "int", "str", "tuple", "list", "dict"]) : kitB a b = some (subN a b) := by
  have z : ∀ a ∈ ["NoneType", "bool", "int", "str", "tuple", "list", "dict"], ∀ b ∈ ["bool", "int", "str", "tuple", "list", "dict"], kitB a b = some (subN a b) := by decide +kernel
  exact z a ha b hb
def isiM (f : M D) (t : String) : M D := b1 f (isiD t)
theorem jv_isi {a c : Expr} {fa : M D} {t : String} (hg : Gl X "isinstance") (hm : X.mg "isinstance" = none) (ha : JB X T W a fa) (hc : PE X c (tC (.ty t))) (ht : t ∈ ["bool", "int", "str", "tuple", "list", "dict"] := by decide)
    (he : starEach [a, c] X.env = (false, eval a X.env) :: starEach [c] X.env := by rfl) (he1 : starEach [c] X.env = (false, eval c X.env) :: starEach [] X.env := by rfl) (hpl : (backTo pos (starEach [c] X.env)).any (·.1) = false := by rfl) : JV X T W (.Call (.Name "isinstance" p) [a, c] [] pos) (isiM fa t) :=
  (pe_callB call_isi hg hm (by decide +kernel) (pa_cons ha (pa_cons hc pa_nil he1) he) (by decide) (by decide) he hpl).imp fun σ H Q ⟨F0, H0, hd, F, S, w, po⟩ =>
    ⟨F0, H0, hd, F, S, w, po_bind po fun F1 H1 v d S1 _ u1 w1 r1 po1 => by
      obtain ⟨z, e, po2⟩ := po_lf po1
      unfold isiD at e
      rw [Option.map_eq_some_iff] at e
      obtain ⟨tn, e1, rfl⟩ := e
      refine ⟨v, .ty t, .type tn, .type t, subN tn t, rfl, .ty t, tyN_X w1.le r1 e1, kit_ty (kit_sub ?_ ht), po_ok po2 w1 (.bl _)⟩
      cases d <;> cases e1 <;> decide⟩
end
end FX

set_option Elab.async false
set_option linter.all false
set_option maxRecDepth 100000
set_option maxHeartbeats 4000000
namespace FX
open PySem PySem.Spec PyProof.Rows L2 LamX

/-! ### statements -/
inductive Ctl where
  | nx | bk | ct | rt (r : Rv)
def PoS (K : PySem.W.Frag) (T : List (Addr × Str)) (W : WX) (F0 H0 : Hp) (hk : Option Addr → Prop) (E : Ends) (F : Hp) : Out Ctl → Prop
  | .ok .nx S' => ∀ F' σ' H' hd', hk hd' → Le F F' → Wld K T F0 H0 hd' F' σ' H' S' → E.nx σ' H'
  | .ok .bk S' => ∀ F' σ' H' hd', hk hd' → Le F F' → Wld K T F0 H0 hd' F' σ' H' S' → E.bk σ' H'
  | .ok .ct S' => ∀ F' σ' H' hd', hk hd' → Le F F' → Wld K T F0 H0 hd' F' σ' H' S' → E.ct σ' H'
  | .ok (.rt (.v d)) S' => ∀ F' σ' H' hd' v, hk hd' → Le F F' → Wld K T F0 H0 hd' F' σ' H' S' → Rp K F' v d → E.rt v H'
  | .ok (.rt (.l ds)) S' => ∀ F' σ' H' hd' v, hk hd' → Le F F' → Wld K T F0 H0 hd' F' σ' H' S' → rL K H0 hd' F' σ' H' S' v ds → E.rt v H'
  | .exc e S' => ∀ F' σ' H' hd' dx, hk hd' → Le F F' → Wld K T F0 H0 hd' F' σ' H' S' → XcR e dx F' → W (.ref e.cls) dx σ' H'
  | .stuck => False
def tS (K : PySem.W.Frag) (T : List (Addr × Str)) (W : WX) (f : M Ctl) : TS := fun E σ H => ∃ F0 H0 hk hd F S, hk hd ∧ Wld K T F0 H0 hd F σ H S ∧ PoS K T W F0 H0 hk E F (f S)
abbrev JS (X : Cx) (T : List (Addr × Str)) (W : WX) (s : Stmt) (f : M Ctl) : Prop := PS X s (tS X.K T W f)
abbrev JSs (X : Cx) (T : List (Addr × Str)) (W : WX) (s : List Stmt) (f : M Ctl) : Prop := PSs X s (tS X.K T W f)
section
variable {K : PySem.W.Frag} {T : List (Addr × Str)} {W : WX} {F0 H0 F H F1 H1 : Hp} {hd : Option Addr} {hk : Option Addr → Prop} {σ : L2.St} {S : Sto} {α β : Type} {rel : RelT β α} {E E' : Ends}
theorem PoS.le {o : Out Ctl} (l : Le F F1) (po : PoS K T W F0 H0 hk E F o) : PoS K T W F0 H0 hk E F1 o := by
  cases o with
  | ok a S' =>
    cases a with
    | nx => exact fun F' σ' H' hd' h m w => po F' σ' H' hd' h (l.trans m) w
    | bk => exact fun F' σ' H' hd' h m w => po F' σ' H' hd' h (l.trans m) w
    | ct => exact fun F' σ' H' hd' h m w => po F' σ' H' hd' h (l.trans m) w
    | rt r =>
      cases r with
      | v d => exact fun F' σ' H' hd' v h m w => po F' σ' H' hd' v h (l.trans m) w
      | l d => exact fun F' σ' H' hd' v h m w => po F' σ' H' hd' v h (l.trans m) w
  | exc e S' => exact fun F' σ' H' hd' dx h m w => po F' σ' H' hd' dx h (l.trans m) w
  | stuck => exact po
/-- an expression ahead of what follows -/
theorem poS_bind {f : M α} {g : α → M Ctl} {Q1 : β → Hp → Prop} (hh : hk hd) (po : PoS K T W F0 H0 hk E F (bnd f g S))
    (k : ∀ F1 H1 b a S1, f S = .ok a S1 → Up hd F H F1 H1 → Wld K T F0 H0 hd F1 σ H1 S1 → rel H0 hd F1 σ H1 S1 b a → PoS K T W F0 H0 hk E F1 (g a S1) → Q1 b H1) : Po K T W F0 H0 hd σ rel Q1 F H (f S) := by
  cases q : f S with
  | ok a S1 => rw [bnd_ok q] at po; exact fun F1 H1 b u w r => k F1 H1 b a S1 q u w r (po.le u.fF)
  | exc e S1 => rw [bnd_exc q] at po; exact fun F1 H1 dx u w r => po F1 σ H1 hd dx hh u.fF w r
  | stuck => rw [bnd_stuck q] at po; exact po
theorem Wld.setV (w : Wld K T F0 H0 hd F σ H S) {i : Nat} {v : V} {d : D} (r : Rp K F v d) : Wld K T F0 H0 hd F (σ.set i (some v)) H { S with sl := S.sl.set i (.val d) } := w.slot (x := some v) (s := .val d) ⟨v, rfl, r⟩ (fun z => by cases z)
theorem poS_nx {S1 : Sto} (hh : hk hd) (po : PoS K T W F0 H0 hk E F (.ok .nx S1)) (w : Wld K T F0 H0 hd F σ H S1) : E.nx σ H := po F σ H hd hh (Le.refl F) w
end
section
variable {X : Cx} {T : List (Addr × Str)} {W : WX} {e c : Expr} {st : Stmt} {rest a b : List Stmt} {pos : Pos} {f g : M Ctl}
/-- one behind the other -/
def sqS (f g : M Ctl) : M Ctl := bnd f fun c => match c with
  | .nx => g
  | c => ret c
theorem t_seq : ∀ E σ H, tS X.K T W (sqS f g) E σ H → tSeq (tS X.K T W f) (tS X.K T W g) E σ H := fun E σ H ⟨F0, H0, hk, hd, F, S, hh, w, po⟩ => by
  refine ⟨F0, H0, hk, hd, F, S, hh, w, ?_⟩
  unfold sqS at po
  cases q : f S with
  | ok a S1 =>
    rw [bnd_ok q] at po
    cases a with
    | nx => exact fun F' σ' H' hd' h m w => ⟨F0, H0, hk, hd', F', S1, h, w, po.le m⟩
    | bk => exact po
    | ct => exact po
    | rt r => cases r <;> exact po
  | exc e S1 => rw [bnd_exc q] at po; exact po
  | stuck => rw [bnd_stuck q] at po; exact po
theorem js_cons (h : JS X T W st f) (k : JSs X T W rest g) : JSs X T W (st :: rest) (sqS f g) := (pss_cons h k).imp t_seq
theorem js_one (h : JS X T W st f) : JSs X T W [st] f := pss_one h
theorem js_nil : JSs X T W [] (ret .nx) := pss_nil.imp fun E σ H ⟨F0, H0, hk, hd, F, S, hh, w, po⟩ => poS_nx hh po w
theorem js_pass : JS X T W (.Pass pos) (ret .nx) := ps_pass.imp fun E σ H ⟨F0, H0, hk, hd, F, S, hh, w, po⟩ => poS_nx hh po w
theorem js_break : JS X T W (.Break pos) (ret .bk) := ps_break.imp fun E σ H ⟨F0, H0, hk, hd, F, S, hh, w, po⟩ => po F σ H hd hh (Le.refl F) w
theorem js_cont : JS X T W (.Continue pos) (ret .ct) := ps_continue.imp fun E σ H ⟨F0, H0, hk, hd, F, S, hh, w, po⟩ => po F σ H hd hh (Le.refl F) w
theorem js_ret {m : M D} (h : JV X T W e m) : JS X T W (.Return (some e) pos) (bnd m fun d => ret (.rt (.v d))) := (ps_ret h).imp fun E σ H ⟨F0, H0, hk, hd, F, S, hh, w, po⟩ =>
  ⟨F0, H0, hd, F, S, w, poS_bind hh po fun F1 H1 v d S1 _ u1 w1 r1 po1 => po1 F1 σ H1 hd v hh (Le.refl _) w1 r1⟩
theorem js_retL {m : M (List D)} (h : JL X T W e m) : JS X T W (.Return (some e) pos) (bnd m fun d => ret (.rt (.l d))) := (ps_ret h).imp fun E σ H ⟨F0, H0, hk, hd, F, S, hh, w, po⟩ =>
  ⟨F0, H0, hd, F, S, w, poS_bind hh po fun F1 H1 v d S1 _ u1 w1 r1 po1 => po1 F1 σ H1 hd v hh (Le.refl _) w1 r1⟩
theorem js_retN : JS X T W (.Return none pos) (ret (.rt (.v .non))) := ps_retN.imp fun E σ H ⟨F0, H0, hk, hd, F, S, hh, w, po⟩ => po F σ H hd .non hh (Le.refl F) w .non
theorem js_drop {m : M D} (h : JV X T W e m) (hs : swapsWith e none pos.line X.env = pure false := by rfl) : JS X T W (.Expr e pos) (bnd m fun _ => ret .nx) := (ps_expr h hs).imp fun E σ H ⟨F0, H0, hk, hd, F, S, hh, w, po⟩ =>
  ⟨F0, H0, hd, F, S, w, poS_bind hh po fun F1 H1 v d S1 _ u1 w1 r1 po1 => poS_nx hh po1 w1⟩
theorem js_if {t : M Bool} (h : JT X T W c t) (h1 : JSs X T W a f) (h2 : JSs X T W b g) : JS X T W (.If c a b pos) (ifM t f g) := (ps_if h h1 h2).imp fun E σ H ⟨F0, H0, hk, hd, F, S, hh, w, po⟩ =>
  ⟨F0, H0, hd, F, S, w, poS_bind hh po fun F1 H1 v d S1 _ u1 w1 r1 po1 => by
    cases r1
    cases v with
    | true => exact ⟨F0, H0, hk, hd, F1, S1, hh, w1, po1⟩
    | false => exact ⟨F0, H0, hk, hd, F1, S1, hh, w1, po1⟩⟩
/-! ### targets -/
abbrev TgF := D → Sto → Option Sto
def stV (i : Nat) : TgF := fun d S => some { S with sl := S.sl.set i (.val d) }
def tT (K : PySem.W.Frag) (T : List (Addr × Str)) (g : TgF) : TG := fun v σ H Q => ∃ F0 H0 hd F S S' d, Wld K T F0 H0 hd F σ H S ∧ Rp K F v d ∧ g d S = some S' ∧ ∀ F' σ' H', Up hd F H F' H' → Wld K T F0 H0 hd F' σ' H' S' → Q σ' H'
abbrev JG (X : Cx) (T : List (Addr × Str)) (tg : Expr) (g : TgF) : Prop := PG X tg (tT X.K T g)
theorem _root_.L2.PG.imp {X : Cx} {tg : Expr} {t u : TG} (h : PG X tg t) (i : ∀ v σ H Q, u v σ H Q → t v σ H Q) : PG X tg u := ⟨fun pins s σ H v w Q I r hw => h.run pins s σ H v w Q I r (i _ _ _ _ hw)⟩
theorem _root_.L2.PGs.imp {X : Cx} {tg : List Expr} {t u : TGs} (h : PGs X tg t) (i : ∀ v σ H Q, u v σ H Q → t v σ H Q) : PGs X tg u := ⟨fun pins s σ H v w Q I r hw => h.run pins s σ H v w Q I r (i _ _ _ _ hw)⟩
theorem jg_name {i : Nat} {tg : Expr} (h : PG X tg (gName i)) : JG X T tg (stV i) := h.imp fun v σ H Q ⟨F0, H0, hd, F, S, S', d, w, r, e, q⟩ => by
  cases e
  exact q F _ H Up.refl (w.setV r)
def stVs : List TgF → List D → Sto → Option Sto
  | [], [], S => some S
  | g :: gs, d :: ds, S => (g d S).bind fun S1 => stVs gs ds S1
  | _, _, _ => none
def tTs (K : PySem.W.Frag) (T : List (Addr × Str)) (gs : List TgF) : TGs := fun vs σ H Q => ∃ F0 H0 hd F S S' ds, Wld K T F0 H0 hd F σ H S ∧ Rps K F vs ds ∧ stVs gs ds S = some S' ∧ ∀ F' σ' H', Up hd F H F' H' → Wld K T F0 H0 hd F' σ' H' S' → Q σ' H'
abbrev JGs (X : Cx) (T : List (Addr × Str)) (tg : List Expr) (gs : List TgF) : Prop := PGs X tg (tTs X.K T gs)
theorem jgs_nil : JGs X T [] [] := pgs_nil.imp fun vs σ H Q ⟨F0, H0, hd, F, S, S', ds, w, r, e, q⟩ => by
  cases r with
  | nil => cases e; exact ⟨rfl, q F σ H Up.refl w⟩
  | cons _ _ => cases e
theorem jgs_cons {tg : Expr} {tgs : List Expr} {g : TgF} {gs : List TgF} (h : JG X T tg g) (k : JGs X T tgs gs) (hs : (assignEach (tg :: tgs) X.env).map (·.2) = assign tg X.env :: (assignEach tgs X.env).map (·.2) := by rfl) : JGs X T (tg :: tgs) (g :: gs) :=
  (pgs_cons h k hs).imp fun vs σ H Q ⟨F0, H0, hd, F, S, S', ds, w, r, e, q⟩ => by
    cases r with
    | nil => cases e
    | @cons v vs d ds r1 r2 =>
      simp only [stVs, Option.bind_eq_some_iff] at e
      obtain ⟨S1, e1, e2⟩ := e
      exact ⟨v, vs, rfl, F0, H0, hd, F, S, S1, d, w, r1, e1, fun F1 σ1 H1 u1 w1 => ⟨F0, H0, hd, F1, S1, S', ds, w1, r2.mono u1.fF, e2, fun F' σ' H' u2 w2 => q F' σ' H' (u1.trans u2) w2⟩⟩
def stT (gs : List TgF) : TgF
  | .tup ds, S => stVs gs ds S
  | _, _ => none
theorem stVs_len : ∀ {gs : List TgF} {ds : List D} {S S' : Sto}, stVs gs ds S = some S' → ds.length = gs.length
  | [], [], _, _, _ => rfl
  | g :: gs, d :: ds, S, S', h => by
    simp only [stVs, Option.bind_eq_some_iff] at h
    obtain ⟨S1, _, h2⟩ := h
    rw [List.length_cons, List.length_cons, stVs_len h2]
  | [], _ :: _, _, _, h => by cases h
  | _ :: _, [], _, _, h => by cases h
theorem jg_tup {tgs : List Expr} {k n : Nat} {gs : List TgF} (hc : X.calm = true) (h : JGs X T tgs gs) (hn : (assignEach tgs X.env).length = n := by rfl) (hl : gs.length = n := by rfl) (hst : (assignEach tgs X.env).findIdx? (·.1) = none := by rfl) : JG X T (.Tuple tgs k pos) (stT gs) :=
  (pg_tup hc h hn hst).imp fun v σ H Q ⟨F0, H0, hd, F, S, S', d, w, r, e, q⟩ => by
    cases r with
    | @tup a xs ds h1 h2 => exact ⟨a, xs, rfl, w.le.st h1, by rw [h2.length, stVs_len e, hl], F0, H0, hd, F, S, S', ds, w, h2, e, q⟩
    | _ => cases e
/-- target = value -/
def asM (m : M D) (g : TgF) : M Ctl := bnd m fun d S => match g d S with
  | some S' => .ok .nx S'
  | none => .stuck
theorem t_asg {m : M D} {g : TgF} {E : Ends} {σ : L2.St} {H : Hp} : tS X.K T W (asM m g) E σ H → tAsg (tG X.K T W (rV X.K) m) (tT X.K T g) E σ H := fun ⟨F0, H0, hk, hd, F, S, hh, w, po⟩ =>
  ⟨F0, H0, hd, F, S, w, poS_bind hh po fun F1 H1 v d S1 _ u1 w1 r1 po1 => by
    cases z : g d S1 with
    | none => simp only [z] at po1; exact False.elim po1
    | some S2 =>
      simp only [z] at po1
      exact ⟨F0, H0, hd, F1, S1, S2, d, w1, r1, z, fun F' σ' H' u2 w2 => poS_nx hh (po1.le u2.fF) w2⟩⟩
theorem js_asg {tg : Expr} {m : M D} {g : TgF} (he : JV X T W e m) (hg : JG X T tg g) (hs : swapsWithSole [tg] e pos.line X.env = pure false := by rfl) (hw : swappedStores [tg] e X.env = pure none := by rfl) (h1 : (assignEach [tg] X.env).map (·.2) = [assign tg X.env] := by rfl) :
    JS X T W (.Assign [tg] e pos) (asM m g) := (ps_asg he hg hs hw h1).imp fun E σ H => t_asg
/-- name = value -/
def seV (i : Nat) (m : M D) : M Ctl := bnd m fun d S => .ok .nx { S with sl := S.sl.set i (.val d) }
def seL (i : Nat) (m : M (List D)) : M Ctl := bnd m fun d S => .ok .nx { S with sl := S.sl.set i (.own d) }
theorem t_seV {i : Nat} {m : M D} {E : Ends} {σ : L2.St} {H : Hp} : tS X.K T W (seV i m) E σ H → tAsg (tG X.K T W (rV X.K) m) (gName i) E σ H := fun ⟨F0, H0, hk, hd, F, S, hh, w, po⟩ =>
  ⟨F0, H0, hd, F, S, w, poS_bind hh po fun F1 H1 v d S1 _ u1 w1 r1 po1 => poS_nx hh po1 (w1.setV r1)⟩
theorem t_seL {i : Nat} {m : M (List D)} {E : Ends} {σ : L2.St} {H : Hp} : tS X.K T W (seL i m) E σ H → tAsg (tG X.K T W (rL X.K) m) (gName i) E σ H := fun ⟨F0, H0, hk, hd, F, S, hh, w, po⟩ =>
  ⟨F0, H0, hd, F, S, w, poS_bind hh po fun F1 H1 v d S1 _ u1 w1 r1 po1 => by
    obtain ⟨p, vs, rfl, e1, e2, e3, e4, r, n⟩ := r1
    exact poS_nx hh po1 (w1.slot ⟨p, vs, rfl, e1, e2, e3, e4, r⟩ fun _ j q hj hq e5 => by cases e5; exact n j hq)⟩
variable {i : Nat} {x : Str} {pos' : Pos}
theorem js_set {m : M D} (hN : X.N.Nodup) (hi : X.N[i]? = some x) (hx : Loc X.env.scope x) (he : JV X T W e m) (hs : swapsWith e (some (.Name x pos')) pos.line X.env = pure false := by rfl) (hf : X.fn x = true ∨ X.env.scope.names.lookup x = some .local := by first | exact .inl rfl | exact .inr rfl | assumption) :
    JS X T W (.Assign [.Name x pos'] e pos) (seV i m) := (ps_set hN hi hx he hs hf).imp fun E σ H => t_seV
theorem js_setL {m : M (List D)} (hN : X.N.Nodup) (hi : X.N[i]? = some x) (hx : Loc X.env.scope x) (he : JL X T W e m) (hs : swapsWith e (some (.Name x pos')) pos.line X.env = pure false := by rfl) (hf : X.fn x = true ∨ X.env.scope.names.lookup x = some .local := by first | exact .inl rfl | exact .inr rfl | assumption) :
    JS X T W (.Assign [.Name x pos'] e pos) (seL i m) := (ps_set hN hi hx he hs hf).imp fun E σ H => t_seL
/-- a, b = x, y of plain local names -/
def paM (i j : Nat) (fs : List (M D)) : M Ctl := bnd (sqM fs) fun ds S => match ds with
  | [d, e] => .ok .nx { S with sl := (S.sl.set i (.val d)).set j (.val e) }
  | _ => .stuck
def paM3 (i j k : Nat) (fs : List (M D)) : M Ctl := bnd (sqM fs) fun ds S => match ds with
  | [d, e, f] => .ok .nx { S with sl := ((S.sl.set i (.val d)).set j (.val e)).set k (.val f) }
  | _ => .stuck
theorem js_par {j : Nat} {x y : Str} {a b : Expr} {px py pt : Pos} {kt k2 pt2} {fs : List (M D)} (hc : X.calm = true) (hN : X.N.Nodup) (hi : X.N[i]? = some x) (hj : X.N[j]? = some y) (hij : i ≠ j) (hx : X.env.scope.names.lookup x = some .local) (hy : X.env.scope.names.lookup y = some .local) (ha : JA X T W [a, b] (sqM fs))
    (hw : swappedStores [.Tuple [.Name x px, .Name y py] kt pt] (.Tuple [a, b] k2 pt2) X.env = pure (some [x, y])) (hs : swapsWithSole [.Tuple [.Name x px, .Name y py] kt pt] (.Tuple [a, b] k2 pt2) pos.line X.env = pure false := by rfl) :
    JS X T W (.Assign [.Tuple [.Name x px, .Name y py] kt pt] (.Tuple [a, b] k2 pt2) pos) (paM i j fs) := (ps_par hc hN hi hj hij hx hy ha hw hs).imp fun E σ H ⟨F0, H0, hk, hd, F, S, hh, w, po⟩ =>
  ⟨F0, H0, hd, F, S, w, poS_bind hh po fun F1 H1 vs ds S1 _ u1 w1 r1 po1 => by
    match ds, r1, po1 with
    | [d, e], .cons r2 (.cons r3 .nil), po1 => exact ⟨_, _, rfl, poS_nx hh po1 ((w1.setV r2).setV r3)⟩⟩
theorem js_par3 {j l : Nat} {x y z : Str} {a b c : Expr} {px py pz pt : Pos} {kt k2 pt2} {fs : List (M D)} (hc : X.calm = true) (hN : X.N.Nodup) (hi : X.N[i]? = some x) (hj : X.N[j]? = some y) (hl : X.N[l]? = some z) (hij : i ≠ j) (hil : i ≠ l) (hjl : j ≠ l) (hx : X.env.scope.names.lookup x = some .local) (hy : X.env.scope.names.lookup y = some .local) (hz : X.env.scope.names.lookup z = some .local) (ha : JA X T W [a, b, c] (sqM fs))
    (hw : swappedStores [.Tuple [.Name x px, .Name y py, .Name z pz] kt pt] (.Tuple [a, b, c] k2 pt2) X.env = pure (some [x, y, z])) (hs : swapsWithSole [.Tuple [.Name x px, .Name y py, .Name z pz] kt pt] (.Tuple [a, b, c] k2 pt2) pos.line X.env = pure false := by rfl) :
    JS X T W (.Assign [.Tuple [.Name x px, .Name y py, .Name z pz] kt pt] (.Tuple [a, b, c] k2 pt2) pos) (paM3 i j l fs) := (ps_par3 hc hN hi hj hl hij hil hjl hx hy hz ha hw hs).imp fun E σ H ⟨F0, H0, hk, hd, F, S, hh, w, po⟩ =>
  ⟨F0, H0, hd, F, S, w, poS_bind hh po fun F1 H1 vs ds S1 _ u1 w1 r1 po1 => by
    match ds, r1, po1 with
    | [d, e, f], .cons r2 (.cons r3 (.cons r4 .nil)), po1 => exact ⟨_, _, _, rfl, poS_nx hh po1 (((w1.setV r2).setV r3).setV r4)⟩⟩
/-- name op= value -/
def agM (i : Nat) (m : M D) (o : D → D → Option D) : M Ctl := fun S => match S.sl.getD i .un with
  | .val d => bnd m (fun e S => match o d e with
    | some r => .ok .nx { S with sl := S.sl.set i (.val r) }
    | none => .stuck) S
  | _ => .stuck
theorem js_aug {op : Operator} {m : M D} {o : D → D → Option D} {ti : TIp} (hN : X.N.Nodup) (hi : X.N[i]? = some x) (hx : Loc X.env.scope x) (he : JV X T W e m) (ho : PIp X op ti) (hs : ∀ (F H : Hp) (v1 v2 : V) (d1 d2 d : D) (Q : VK), Rp X.K F v1 d1 → Rp X.K F v2 d2 → o d1 d2 = some d → Ans X.K F H d Q → ti v1 v2 H Q)
    (hf : X.fn x = true ∨ X.env.scope.names.lookup x = some .local := by first | exact .inl rfl | exact .inr rfl | assumption) : JS X T W (.AugAssign (.Name x pos') op e pos) (agM i m o) := (ps_aug hN hi hx he ho hf).imp fun E σ H ⟨F0, H0, hk, hd, F, S, hh, w, po⟩ => by
  unfold agM at po
  have z := w.slo i
  cases q : S.sl.getD i .un with
  | val d =>
    simp only [q] at po z
    obtain ⟨v, e1, r⟩ := z
    refine ⟨v, getD_some e1, F0, H0, hd, F, S, w, poS_bind hh po fun F1 H1 u d2 S1 _ u1 w1 r1 po1 => ?_⟩
    cases q2 : o d d2 with
    | none => simp only [q2] at po1; exact False.elim po1
    | some r2 =>
      simp only [q2] at po1
      refine hs F1 H1 v u d d2 r2 _ (r.mono u1.fF) r1 q2 ⟨fun z rz => poS_nx hh po1 (w1.setV rz), fun p ob hp rz nt => ?_⟩
      obtain ⟨w2, u2⟩ := w1.newF ob hp nt
      exact poS_nx hh (po1.le u2.fF) (w2.setV rz)
  | own d => simp only [q] at po; exact False.elim po
  | un => simp only [q] at po; exact False.elim po
  | clo _ _ _ _ => simp only [q] at po; exact False.elim po
  | hnd => simp only [q] at po; exact False.elim po
theorem js_iadd {m : M D} (hN : X.N.Nodup) (hi : X.N[i]? = some x) (hx : Loc X.env.scope x) (he : JV X T W e m) (hf : X.fn x = true ∨ X.env.scope.names.lookup x = some .local := by first | exact .inl rfl | exact .inr rfl | assumption) : JS X T W (.AugAssign (.Name x pos') .Add e pos) (agM i m fun a b => match a, b with
    | .int i, .int j => some (.int (i + j))
    | _, _ => none) := js_aug hN hi hx he ip_add (fun F H v1 v2 d1 d2 d Q r1 r2 e a => by
  split at e
  · cases e; cases r1; cases r2; exact ⟨_, _, rfl, rfl, a.1 _ (.int _)⟩
  · cases e) hf
theorem js_isub {m : M D} (hN : X.N.Nodup) (hi : X.N[i]? = some x) (hx : Loc X.env.scope x) (he : JV X T W e m) (hf : X.fn x = true ∨ X.env.scope.names.lookup x = some .local := by first | exact .inl rfl | exact .inr rfl | assumption) : JS X T W (.AugAssign (.Name x pos') .Sub e pos) (agM i m fun a b => match a, b with
    | .int i, .int j => some (.int (i - j))
    | _, _ => none) := js_aug hN hi hx he ip_sub (fun F H v1 v2 d1 d2 d Q r1 r2 e a => by
  split at e
  · cases e; cases r1; cases r2; exact ⟨_, _, rfl, rfl, a.1 _ (.int _)⟩
  · cases e) hf
end
/-! ### lists of one's own, changed -/
section
variable {K : PySem.W.Frag} {T : List (Addr × Str)} {F0 H0 F H : Hp} {hd : Option Addr} {σ : L2.St} {S : Sto}
/-- the own list at slot i becomes another -/
theorem Wld.chg (w : Wld K T F0 H0 hd F σ H S) {i : Nat} {p : Addr} {vs us : List V} {ds es : List D} (q : S.sl.getD i .un = .own ds) (e1 : σ.getD i none = some (.ref p)) (e2 : H p = some (.lst vs)) (r : Rps K F us es) :
    Wld K T F0 H0 hd F σ (upd H p (.lst us)) { S with sl := S.sl.set i (.own es) } := by
  have z := w.slo i
  rw [q] at z
  obtain ⟨p', vs', f1, f2, f3, f4, f5, _⟩ := z
  rw [e1] at f1; cases f1
  rw [e2] at f2; cases f2
  have at_ : ∀ a, a ≠ p → upd H p (.lst us) a = H a := fun a h => upd_ne h
  have w1 : Wld K T F0 H0 hd F (σ.set i (some (.ref p))) H { S with sl := S.sl.set i .un } := w.slot (x := some (.ref p)) (s := .un) trivial (fun z => by cases z)
  rw [set_getD_self none σ i _ e1 (by simp)] at w1
  have notP : ∀ j, j ≠ i → (S.sl.getD j .un).isOwn = true → σ.getD j none ≠ some (.ref p) := fun j hj h => w.sep i j p (Ne.symm hj) (by rw [q]; rfl) h e1
  have w2 : Wld K T F0 H0 hd F σ (upd H p (.lst us)) { S with sl := S.sl.set i .un } := by
    refine ⟨fun a o e => ?_, w1.r0, w1.r1, fun a o e => ?_, fun a o e n m => ?_, ⟨fun t ht => ?_, w.tabs.2⟩, w1.len, fun j => ?_, w1.sep, fun a e => ?_⟩
    · rw [at_ a (fun z => by rw [z, f3] at e; cases e)]; exact w.le a o e
    · by_cases h : a = p
      · exact ⟨_, by rw [h]; exact upd_same⟩
      · rw [at_ a h]; exact w.dom a o e
    · rw [at_ a (fun z => by rw [z, f4] at e; cases e)]; exact w.keep a o e n m
    · obtain ⟨ps, t1, t2, t3⟩ := w.tabs.1 t ht
      refine ⟨ps, by rw [at_ _ (ne_of t1 e2 (by intro z; cases z))]; exact t1, t2, fun pos cv hc => ?_⟩
      obtain ⟨c, c1, c2⟩ := t3 pos cv hc
      exact ⟨c, c1, by rw [at_ _ (ne_of c2 e2 (by unfold CodeO; intro z; cases z))]; exact c2⟩
    · have z := w1.slo j
      show SlR K H0 hd F _ (σ.getD j none) ((S.sl.set i .un).getD j .un)
      have z : SlR K H0 hd F H (σ.getD j none) ((S.sl.set i .un).getD j .un) := z
      rw [getD_set] at z ⊢
      by_cases h : i = j ∧ i < S.sl.length
      · rw [if_pos h]; trivial
      · rw [if_neg h] at z ⊢
        have nj : (S.sl.getD j .un).isOwn = true → σ.getD j none ≠ some (.ref p) := fun ho => by
          by_cases hij : i = j
          · subst hij
            rw [getD_out _ _ _ (by omega)] at ho; cases ho
          · exact notP j (Ne.symm hij) ho
        generalize S.sl.getD j .un = sl at z nj ⊢
        cases sl with
        | own ds' =>
          obtain ⟨p', vs', g1, g2, g3, g4, g5, g6⟩ := z
          exact ⟨p', vs', g1, by rw [at_ _ (fun y => nj rfl (by rw [g1, y]))]; exact g2, g3, g4, g5, g6⟩
        | un => trivial
        | val d => exact z
        | clo _ _ _ _ => exact z
        | hnd => exact z
    · obtain ⟨g1, vs', g2, g3⟩ := w.hnd a e
      exact ⟨g1, vs', by rw [at_ a (fun y => f5 (by rw [e, y]))]; exact g2, g3⟩
  have w3 := w2.slot (i := i) (x := some (.ref p)) (s := .own es) ⟨p, us, rfl, upd_same, f3, f4, f5, r⟩ (fun _ j a hj ho e => by
    cases e
    have ho : ((S.sl.set i .un).getD j .un).isOwn = true := ho
    rw [getD_set] at ho
    by_cases h : i = j ∧ i < S.sl.length
    · rw [if_pos h] at ho; cases ho
    · rw [if_neg h] at ho
      exact notP j hj ho)
  rw [set_getD_self none σ i _ e1 (by simp)] at w3
  have el : (S.sl.set i .un).set i (.own es) = S.sl.set i (.own es) := List.set_set _
  have w3 : Wld K T F0 H0 hd F σ (upd H p (.lst us)) ⟨(S.sl.set i .un).set i (.own es), S.hc⟩ := w3
  rw [el] at w3
  exact w3
end
section
variable {X : Cx} {T : List (Addr × Str)} {W : WX} {e o ix : Expr} {pos pos' apos : Pos} {i : Nat}
/-- x.append(e) -/
def apM (i : Nat) (m : M D) : M Ctl := fun S => match S.sl.getD i .un with
  | .own _ => bnd m (fun d S => match S.sl.getD i .un with
    | .own ds => if ds.length < sizeLine then .ok .nx { S with sl := S.sl.set i (.own (ds ++ [d])) } else .stuck
    | _ => .stuck) S
  | _ => .stuck
theorem own_in {K : PySem.W.Frag} {T : List (Addr × Str)} {F0 H0 F H : Hp} {hd : Option Addr} {σ : L2.St} {S : Sto} (w : Wld K T F0 H0 hd F σ H S) {i : Nat} {ds : List D} (q : S.sl.getD i .un = .own ds) : ∃ p vs, σ.getD i none = some (.ref p) ∧ H p = some (.lst vs) ∧ Rps K F vs ds ∧ hd ≠ some p := by
  have z := w.slo i
  rw [q] at z
  obtain ⟨p, vs, f1, f2, f3, f4, f5, f6⟩ := z
  exact ⟨p, vs, f1, f2, f6, f5⟩
/-- the argument freezes or leaves slots, none becomes one's own -/
theorem js_append {m : M D} (ho : PE X o (tVar i)) (he : JV X T W e m) (hbase : attributeBase o "append" X.env (eval o X.env) = eval o X.env := by rfl)
    (hfew : ((backTo pos (starEach [e] X.env)).all (fun x => !x.1) && (backToKw pos (keywordEach [] X.env)).all (fun x => x.1.isSome) && decide ([e].length + ([] : List Keyword).length + (if ([] : List Keyword).isEmpty then 0 else 1) < 30)) = true := by rfl)
    (hline : (apos.endLine == pos.line) = true := by rfl) (hs : starEach [e] X.env = (false, eval e X.env) :: starEach [] X.env := by rfl) (hplain : (backTo pos (starEach [] X.env)).any (·.1) = false := by rfl)
    (hw : swapsWith (.Call (.Attribute o "append" apos) [e] [] pos) none pos'.line X.env = pure false := by rfl) : JS X T W (.Expr (.Call (.Attribute o "append" apos) [e] [] pos) pos') (apM i m) :=
  (ps_expr (pe_bm PySem.F.plainAttrs_list PySem.F.slot_list_append PySem.F.type_list_append mt_append ho (pa_cons he pa_nil hs) hbase hfew hline hs hplain) hw).imp fun E σ H ⟨F0, H0, hk, hd, F, S, hh, w, po⟩ => by
    unfold apM at po
    cases q0 : S.sl.getD i .un with
    | own ds0 =>
      rw [q0] at po
      obtain ⟨p, vs, e1, e2, r, n⟩ := own_in w q0
      refine ⟨.ref p, getD_some e1, .inl ⟨rfl, vs, SqL.of e2⟩, F0, H0, hd, F, S, w, poS_bind hh po fun F1 H1 v d S1 _ u1 w1 r1 po1 => ?_⟩
      cases q : S1.sl.getD i .un with
      | own ds =>
        simp only [q] at po1
        obtain ⟨p', vs', f1, f2, f3, f4⟩ := own_in w1 q
        rw [e1] at f1; cases f1
        split at po1
        · rename_i hl
          refine ⟨p, vs', v, rfl, rfl, f2, by rw [f3.length]; exact hl, poS_nx hh po1 (w1.chg q e1 f2 (f3.append (.one r1)))⟩
        · exact False.elim po1
      | un => simp only [q] at po1; exact False.elim po1
      | clo _ _ _ _ => simp only [q] at po1; exact False.elim po1
      | val _ => simp only [q] at po1; exact False.elim po1
      | hnd => simp only [q] at po1; exact False.elim po1
    | un => rw [q0] at po; exact False.elim po
    | clo _ _ _ _ => rw [q0] at po; exact False.elim po
    | val _ => rw [q0] at po; exact False.elim po
    | hnd => rw [q0] at po; exact False.elim po
/-- x.extend(list) -/
def exM (i : Nat) (m : M D) : M Ctl := fun S => match S.sl.getD i .un with
  | .own _ => bnd m (fun d S => match S.sl.getD i .un, d with
    | .own ds, .lst es => if ds.length + es.length ≤ sizeLine then .ok .nx { S with sl := S.sl.set i (.own (ds ++ es)) } else .stuck
    | _, _ => .stuck) S
  | _ => .stuck
theorem js_extend {m : M D} (ho : PE X o (tVar i)) (he : JB X T W e m) (hbase : attributeBase o "extend" X.env (eval o X.env) = eval o X.env := by rfl)
    (hfew : ((backTo pos (starEach [e] X.env)).all (fun x => !x.1) && (backToKw pos (keywordEach [] X.env)).all (fun x => x.1.isSome) && decide ([e].length + ([] : List Keyword).length + (if ([] : List Keyword).isEmpty then 0 else 1) < 30)) = true := by rfl)
    (hline : (apos.endLine == pos.line) = true := by rfl) (hs : starEach [e] X.env = (false, eval e X.env) :: starEach [] X.env := by rfl) (hplain : (backTo pos (starEach [] X.env)).any (·.1) = false := by rfl)
    (hw : swapsWith (.Call (.Attribute o "extend" apos) [e] [] pos) none pos'.line X.env = pure false := by rfl) : JS X T W (.Expr (.Call (.Attribute o "extend" apos) [e] [] pos) pos') (exM i m) :=
  (ps_expr (pe_bm PySem.F.plainAttrs_list PySem.F.slot_list_extend PySem.F.type_list_extend mt_extend ho (ja1 he hs) hbase hfew hline hs hplain) hw).imp fun E σ H ⟨F0, H0, hk, hd, F, S, hh, w, po⟩ => by
    unfold exM at po
    cases q0 : S.sl.getD i .un with
    | own ds0 =>
      rw [q0] at po
      obtain ⟨p, vs, e1, e2, r, n⟩ := own_in w q0
      refine ⟨.ref p, getD_some e1, .inl ⟨rfl, vs, SqL.of e2⟩, F0, H0, hd, F, S, w, poS_bind hh po fun F1 H1 v d S1 _ u1 w1 r1 po1 => ?_⟩
      obtain ⟨u, rfl, r2⟩ := r1
      cases q : S1.sl.getD i .un with
      | own ds =>
        cases d with
        | lst es =>
          simp only [q] at po1
          obtain ⟨p', vs', f1, f2, f3, f4⟩ := own_in w1 q
          rw [e1] at f1; cases f1
          obtain ⟨b, zs, rfl, h2, r3⟩ := r2.list w1.le
          split at po1
          · rename_i hl
            exact ⟨p, b, vs', zs, rfl, rfl, f2, h2, by rw [f3.length, r3.length]; exact hl, poS_nx hh po1 (w1.chg q e1 f2 (f3.append r3))⟩
          · exact False.elim po1
        | _ => simp only [q] at po1; exact False.elim po1
      | un => simp only [q] at po1; exact False.elim po1
      | clo _ _ _ _ => simp only [q] at po1; exact False.elim po1
      | val _ => simp only [q] at po1; exact False.elim po1
      | hnd => simp only [q] at po1; exact False.elim po1
    | un => rw [q0] at po; exact False.elim po
    | clo _ _ _ _ => rw [q0] at po; exact False.elim po
    | val _ => rw [q0] at po; exact False.elim po
    | hnd => rw [q0] at po; exact False.elim po
end
end FX

set_option Elab.async false
set_option linter.all false
set_option maxRecDepth 100000
set_option maxHeartbeats 4000000
namespace FX
open PySem PySem.Spec PyProof.Rows L2 LamX

/-! ### what is walked -/
def SrcOk (K : PySem.W.Frag) (F : Hp) (J : It) (ds : List D) : Prop :=
  (∀ F1 H1, Le F F1 → Le F1 H1 → J.stop ds.length H1) ∧
  ∀ i d F1 H1, ds[i]? = some d → Le F F1 → Le F1 H1 → J.go i H1 ∧ ∀ x H2, J.yld i H1 x H2 → (H2 = H1 ∧ Rp K F1 x d) ∨ ∃ p o, H1 p = none ∧ H2 = upd H1 p o ∧ x = .ref p ∧ (∀ ps, o ≠ .tbl ps) ∧ Rp K (upd F1 p o) x d
abbrev rI (K : PySem.W.Frag) : RelT It (List D) := fun _ _ F _ _ _ J ds => SrcOk K F J ds
abbrev JI (X : Cx) (T : List (Addr × Str)) (W : WX) (tg it : Expr) (f : M (List D)) : Prop := PI X tg it (tG X.K T W (rI X.K) f)
theorem _root_.L2.PI.imp {X : Cx} {tg it : Expr} {t u : TI} (h : PI X tg it t) (i : ∀ σ H Q, u σ H Q → t σ H Q) : PI X tg it u := ⟨fun pins s σ H R I hw => h.run pins s σ H R I (i _ _ _ hw)⟩
theorem src_list {K : PySem.W.Frag} {F : Hp} {a : Addr} {xs : List V} {ds : List D} (h : SqL K F a xs) (r : Rps K F xs ds) : SrcOk K F (Itl K a) ds :=
  ⟨fun F1 H1 l1 l2 => ⟨xs, l2.sl (l1.sl h), by rw [r.length]; exact Nat.le_refl _⟩, fun i d F1 H1 e l1 l2 => by
    obtain ⟨x, e1, r1⟩ := r.get e
    refine ⟨⟨xs, x, l2.sl (l1.sl h), e1⟩, fun y H2 ⟨e2, e3⟩ => .inl ⟨e2, ?_⟩⟩
    have e4 := e3 xs (l2.sl (l1.sl h))
    rw [e1] at e4
    cases e4
    exact r1.mono l1⟩
theorem src_tup {K : PySem.W.Frag} {F : Hp} {a : Addr} {xs : List V} {ds : List D} (h : SqT K F a xs) (r : Rps K F xs ds) : SrcOk K F (Itt K a) ds :=
  ⟨fun F1 H1 l1 l2 => ⟨xs, l2.st (l1.st h), by rw [r.length]; exact Nat.le_refl _⟩, fun i d F1 H1 e l1 l2 => by
    obtain ⟨x, e1, r1⟩ := r.get e
    refine ⟨⟨xs, x, l2.st (l1.st h), e1⟩, fun y H2 ⟨e2, e3⟩ => .inl ⟨e2, ?_⟩⟩
    have e4 := e3 xs (l2.st (l1.st h))
    rw [e1] at e4
    cases e4
    exact r1.mono l1⟩
def rngD (lo : Int) (n : Nat) : List D := (List.range n).map fun (i : Nat) => D.int (lo + (i : Int))
theorem rngD_len (lo : Int) (n : Nat) : (rngD lo n).length = n := by unfold rngD; rw [List.length_map, List.length_range]
theorem src_rng {K : PySem.W.Frag} {F : Hp} {lo : Int} {n : Nat} : SrcOk K F (Itr lo n) (rngD lo n) :=
  ⟨fun _ _ _ _ => by rw [rngD_len]; exact Nat.le_refl n, fun i d F1 H1 e _ _ => by
    have hi : i < n := by
      have := (List.getElem?_eq_some_iff.mp e).1
      rwa [rngD_len] at this
    unfold rngD at e
    rw [List.getElem?_map, List.getElem?_range hi] at e
    cases e
    exact ⟨hi, fun x H2 ⟨e2, e3⟩ => .inl ⟨e2, by rw [e3]; exact .int _⟩⟩⟩
theorem le_upd {F H : Hp} {p : Addr} {o : HO} (l : Le F H) (h : H p = none) : F p = none := by
  cases q : F p with
  | none => rfl
  | some u => rw [l p u q] at h; cases h
theorem src_enum {K : PySem.W.Frag} {F : Hp} {a : Addr} {xs : List V} {ds : List D} (h : SqL K F a xs) (r : Rps K F xs ds) : SrcOk K F (Ite K a) (ds.mapIdx fun i d => .tup [.int i, d]) :=
  ⟨fun F1 H1 l1 l2 => ⟨xs, l2.sl (l1.sl h), by rw [r.length, List.length_mapIdx]; exact Nat.le_refl _⟩, fun i d F1 H1 e l1 l2 => by
    rw [List.getElem?_mapIdx, Option.map_eq_some_iff] at e
    obtain ⟨d', e0, rfl⟩ := e
    obtain ⟨x, e1, r1⟩ := r.get e0
    refine ⟨⟨xs, x, l2.sl (l1.sl h), e1⟩, fun v H2 ⟨T, y, ev, n, eH, e3⟩ => .inr ⟨T, _, n, eH, ev, (fun ps z => by cases z), ?_⟩⟩
    have e4 := e3 xs (l2.sl (l1.sl h))
    rw [e1] at e4
    cases e4
    subst ev
    exact .tup (SqT.of upd_same) (.cons (.int _) (.one ((r1.mono l1).mono (upd_le (le_upd (o := .tup []) l2 n)))))⟩
theorem src_zipL {K : PySem.W.Frag} {F : Hp} {a b : Addr} {xs ys : List V} {ds es : List D} (h : SqL K F a xs) (h' : SqL K F b ys) (r : Rps K F xs ds) (r' : Rps K F ys es) : SrcOk K F (Itz K a b) (List.zipWith (fun d e => .tup [d, e]) ds es) :=
  ⟨fun F1 H1 l1 l2 => ⟨xs, ys, l2.sl (l1.sl h), l2.sl (l1.sl h'), by rw [r.length, r'.length, List.length_zipWith]; omega⟩, fun i d F1 H1 e l1 l2 => by
    rw [List.getElem?_zipWith] at e
    cases q1 : ds[i]? with
    | none => rw [q1] at e; cases e
    | some d1 =>
      cases q2 : es[i]? with
      | none => rw [q1, q2] at e; cases e
      | some d2 =>
        rw [q1, q2] at e
        cases e
        obtain ⟨x, e1, r1⟩ := r.get q1
        obtain ⟨y, e2, r2⟩ := r'.get q2
        refine ⟨⟨xs, ys, x, y, l2.sl (l1.sl h), l2.sl (l1.sl h'), e1, e2⟩, fun v H2 ⟨T, x', y', ev, n, eH, e3, e4⟩ => .inr ⟨T, _, n, eH, ev, (fun ps z => by cases z), ?_⟩⟩
        have e5 := e3 xs (l2.sl (l1.sl h))
        have e6 := e4 ys (l2.sl (l1.sl h'))
        rw [e1] at e5; rw [e2] at e6
        cases e5; cases e6
        subst ev
        have lu := upd_le (o := .tup [x, y]) (le_upd (o := .tup []) l2 n)
        exact .tup (SqT.of upd_same) (.cons ((r1.mono l1).mono lu) (.one ((r2.mono l1).mono lu)))⟩
theorem src_zipT {K : PySem.W.Frag} {F : Hp} {a b : Addr} {xs ys : List V} {ds es : List D} (h : SqT K F a xs) (h' : SqT K F b ys) (r : Rps K F xs ds) (r' : Rps K F ys es) : SrcOk K F (RZ.ItzT K a b) (List.zipWith (fun d e => .tup [d, e]) ds es) :=
  ⟨fun F1 H1 l1 l2 => ⟨xs, ys, l2.st (l1.st h), l2.st (l1.st h'), by rw [r.length, r'.length, List.length_zipWith]; omega⟩, fun i d F1 H1 e l1 l2 => by
    rw [List.getElem?_zipWith] at e
    cases q1 : ds[i]? with
    | none => rw [q1] at e; cases e
    | some d1 =>
      cases q2 : es[i]? with
      | none => rw [q1, q2] at e; cases e
      | some d2 =>
        rw [q1, q2] at e
        cases e
        obtain ⟨x, e1, r1⟩ := r.get q1
        obtain ⟨y, e2, r2⟩ := r'.get q2
        refine ⟨⟨xs, ys, x, y, l2.st (l1.st h), l2.st (l1.st h'), e1, e2⟩, fun v H2 ⟨T, x', y', ev, n, eH, e3, e4⟩ => .inr ⟨T, _, n, eH, ev, (fun ps z => by cases z), ?_⟩⟩
        have e5 := e3 xs (l2.st (l1.st h))
        have e6 := e4 ys (l2.st (l1.st h'))
        rw [e1] at e5; rw [e2] at e6
        cases e5; cases e6
        subst ev
        have lu := upd_le (o := .tup [x, y]) (le_upd (o := .tup []) l2 n)
        exact .tup (SqT.of upd_same) (.cons ((r1.mono l1).mono lu) (.one ((r2.mono l1).mono lu)))⟩
section
variable {X : Cx} {T : List (Addr × Str)} {W : WX} {tg e e1 e2 : Expr} {p pos tpos : Pos}
/-- the items of a list or tuple -/
def itM (f : M D) : M (List D) := bnd f fun d => match d with
  | .lst ds => ret ds
  | .tup ds => ret ds
  | .scr ds => ret ds
  | _ => fun _ => .stuck
theorem pi_or {t u : TI} (h : PI X tg e t) (k : PI X tg e u) : PI X tg e fun σ H R => t σ H R ∨ u σ H R := ⟨fun pins s σ H R I z => z.elim (h.run pins s σ H R I) (k.run pins s σ H R I)⟩
theorem ji_seq {f : M D} (h : JV X T W e f) : JI X T W tg e (itM f) := (pi_or (pi_list h) (pi_tup h)).imp fun σ H Q ⟨F0, H0, hd, F, S, w, po⟩ => by
  have goL : (∀ d S1, f S = .ok d S1 → ∀ ds, d ≠ .tup ds) → iList X.K (tG X.K T W (rV X.K) f) σ H Q := fun hn => ⟨F0, H0, hd, F, S, w, po_bind po fun F1 H1 x d S1 q u1 w1 r1 po1 => by
    have nt := hn d S1 q
    cases r1 with
    | @lst a xs ds h r => exact ⟨a, rfl, ⟨xs, SqL.of (w1.le _ _ h)⟩, po_ok po1 w1 (src_list (SqL.of h) r)⟩
    | @scr a xs ds h r => exact ⟨a, rfl, ⟨xs, w1.le.sl h⟩, po_ok po1 w1 (src_list h r)⟩
    | tup h r => exact absurd rfl (nt _)
    | _ => exact False.elim po1⟩
  cases q : f S with
  | ok d S1 =>
    cases d with
    | tup ds =>
      refine .inr ⟨F0, H0, hd, F, S, w, po_bind po fun F1 H1 x d S1' q' u1 w1 r1 po1 => ?_⟩
      rw [q] at q'
      cases q'
      cases r1 with
      | tup h r => exact ⟨_, rfl, ⟨_, w1.le.st h⟩, po_ok po1 w1 (src_tup h r)⟩
    | _ => exact .inl (goL fun d' S' e ds z => by rw [q] at e; cases e; cases z)
  | exc _ _ => exact .inl (goL fun d' S' e ds z => by rw [q] at e; cases e)
  | stuck => exact .inl (goL fun d' S' e ds z => by rw [q] at e; cases e)
def rg1M (f : M D) : M (List D) := bnd f fun d => bnd (asI d) fun n => if -(2 ^ 62) ≤ n ∧ n < 2 ^ 62 then ret (rngD 0 n.toNat) else fun _ => .stuck
def rg2M (f g : M D) : M (List D) := bnd f fun d => bnd (asI d) fun i => bnd g fun d => bnd (asI d) fun j => if (-(2 ^ 62) ≤ i ∧ i < 2 ^ 62) ∧ (-(2 ^ 62) ≤ j ∧ j < 2 ^ 62) then ret (rngD i (j - i).toNat) else fun _ => .stuck
theorem ji_rg1 {f : M D} (hg : Gl X "range") (hm : X.mg "range" = none) (h : JV X T W e f) (hs : starEach [e] X.env = [(false, eval e X.env)] := by rfl) (hs' : starEach [e] X.env = (false, eval e X.env) :: starEach [] X.env := by rfl) : JI X T W tg (.Call (.Name "range" p) [e] [] pos) (rg1M f) :=
  (pi_range1 hg hm (pa_cons h pa_nil hs') hs).imp fun σ H Q ⟨F0, H0, hd, F, S, w, po⟩ => ⟨F0, H0, hd, F, S, w, po_bind po fun F1 H1 x d S1 q u1 w1 r1 po1 => by
    obtain ⟨n, rfl, po2⟩ := po_asI po1
    cases r1
    split at po2
    · rename_i hn
      exact ⟨n, rfl, hn.1, hn.2, po_ok po2 w1 src_rng⟩
    · exact False.elim po2⟩
theorem ji_rg2 {f g : M D} (hg : Gl X "range") (hm : X.mg "range" = none) (h : JV X T W e1 f) (k : JV X T W e2 g) (hs : starEach [e1, e2] X.env = [(false, eval e1 X.env), (false, eval e2 X.env)] := by rfl) (hs1 : starEach [e1, e2] X.env = (false, eval e1 X.env) :: starEach [e2] X.env := by rfl) (hs2 : starEach [e2] X.env = [(false, eval e2 X.env)] := by rfl) (hs3 : starEach [e2] X.env = (false, eval e2 X.env) :: starEach [] X.env := by rfl) : JI X T W tg (.Call (.Name "range" p) [e1, e2] [] pos) (rg2M f g) :=
  (pi_range2 hg hm (pa_cons h (pa_cons k pa_nil hs3) hs1) hs hs2).imp fun σ H Q ⟨F0, H0, hd, F, S, w, po⟩ => ⟨F0, H0, hd, F, S, w, po_bind po fun F1 H1 x d S1 q u1 w1 r1 po1 => by
    obtain ⟨i, rfl, po2⟩ := po_asI po1
    cases r1
    refine ⟨F0, H0, hd, F1, S1, w1, po_bind po2 fun F2 H2 y d2 S2 q2 u2 w2 r2 po3 => ?_⟩
    obtain ⟨j, rfl, po4⟩ := po_asI po3
    cases r2
    split at po4
    · rename_i hn
      exact ⟨i, j, rfl, ⟨hn.1.1, hn.1.2, hn.2.1, hn.2.2⟩, po_ok po4 w2 src_rng⟩
    · exact False.elim po4⟩
/-- enumerate(list) -/
def enM (f : M D) : M (List D) := bnd f fun d => match d with
  | .lst ds => ret (ds.mapIdx fun i d => .tup [.int i, d])
  | _ => fun _ => .stuck
theorem ji_enum {elts : List Expr} {kk : Nat} {f : M D} (hg : Gl X "enumerate") (hm : X.mg "enumerate" = none) (h : JV X T W e f) (hs : starEach [e] X.env = [(false, eval e X.env)] := by rfl) (hs' : starEach [e] X.env = (false, eval e X.env) :: starEach [] X.env := by rfl) : JI X T W (.Tuple elts kk tpos) (.Call (.Name "enumerate" p) [e] [] pos) (enM f) :=
  (pi_enum hg hm (pa_cons h pa_nil hs') hs).imp fun σ H Q ⟨F0, H0, hd, F, S, w, po⟩ => ⟨F0, H0, hd, F, S, w, po_bind po fun F1 H1 x d S1 q u1 w1 r1 po1 => by
    cases r1 with
    | lst h r => exact ⟨_, _, rfl, SqL.of (w1.le _ _ h), po_ok po1 w1 (src_enum (SqL.of h) r)⟩
    | _ => exact False.elim po1⟩
/-- zip of two lists, of two tuples -/
def zpM (f g : M D) : M (List D) := bnd f fun d => bnd g fun e => match d, e with
  | .lst ds, .lst es => ret (List.zipWith (fun d e => .tup [d, e]) ds es)
  | .tup ds, .tup es => ret (List.zipWith (fun d e => .tup [d, e]) ds es)
  | _, _ => fun _ => .stuck
theorem ji_zip {elts : List Expr} {kk : Nat} {f g : M D} (hg : Gl X "zip") (hm : X.mg "zip" = none) (h : JV X T W e1 f) (k : JV X T W e2 g) (hs : starEach [e1, e2] X.env = (false, eval e1 X.env) :: starEach [e2] X.env := by rfl) (hs2 : starEach [e2] X.env = (false, eval e2 X.env) :: starEach [] X.env := by rfl) (hpl : (backTo pos (starEach [e2] X.env)).any (·.1) = false := by rfl) : JI X T W (.Tuple elts kk tpos) (.Call (.Name "zip" p) [e1, e2] [] pos) (zpM f g) :=
  (RZ.pi_zipA hg hm (pa_cons h (pa_cons k pa_nil hs2) hs) hs hpl).imp fun σ H Q ⟨F0, H0, hd, F, S, w, po⟩ => ⟨F0, H0, hd, F, S, w, po_bind po fun F1 H1 x d S1 q u1 w1 r1 po1 =>
    ⟨F0, H0, hd, F1, S1, w1, po_bind po1 fun F2 H2 y d2 S2 q2 u2 w2 r2 po3 => by
      have r1' := r1.mono u2.fF
      cases r1' with
      | lst h r =>
        cases r2 with
        | lst h' r' => exact ⟨_, _, _, _, rfl, .inl ⟨SqL.of (w2.le _ _ h), SqL.of (w2.le _ _ h'), po_ok po3 w2 (src_zipL (SqL.of h) (SqL.of h') r r')⟩⟩
        | _ => exact False.elim po3
      | tup h r =>
        cases r2 with
        | tup h' r' => exact ⟨_, _, _, _, rfl, .inr ⟨w2.le.st h, w2.le.st h', po_ok po3 w2 (src_zipT h h' r r')⟩⟩
        | _ => exact False.elim po3
      | _ => exact False.elim po3⟩⟩

/-! ### for -/
def frL (g : TgF) (b : M Ctl) : List D → M Ctl
  | [] => ret .nx
  | d :: ds => fun S => match g d S with
    | none => .stuck
    | some S1 => bnd b (fun c => match c with
      | .nx => frL g b ds
      | .ct => frL g b ds
      | .bk => ret .nx
      | .rt r => ret (.rt r)) S1
def frM (src : M (List D)) (g : TgF) (b : M Ctl) : M Ctl := bnd src fun ds => frL g b ds
theorem js_for {it : Expr} {body : List Stmt} {src : M (List D)} {g : TgF} {b : M Ctl} (hp : PassesOwn (model X.prog X.w) X.A X.env X.xe) (hc : X.calm = true) (hi : JI X T W tg it src) (hg : JG X T tg g) (hb : JSs X T W body b)
    (hs : ∀ x, foldedSetIterable it X.env x = pure x := by intro _; rfl) : JS X T W (.For tg it body [] pos) (frM src g b) := (ps_for hp hc hi hg hb hs).imp fun E σ H ⟨F0, H0, hk, hd, F, S, hh, w, po⟩ =>
  ⟨F0, H0, hd, F, S, w, poS_bind hh po fun F1 H1 J ds S1 _ u1 w1 so po1 => by
    refine ⟨fun i m σ H => ∃ F2 S2 hd2, hk hd2 ∧ m = ds.length - i ∧ i ≤ ds.length ∧ Le F1 F2 ∧ Wld X.K T F0 H0 hd2 F2 σ H S2 ∧ PoS X.K T W F0 H0 hk E F2 (frL g b (ds.drop i) S2), ⟨ds.length, F1, S1, hd, hh, by omega, by omega, Le.refl _, w1, by rw [List.drop_zero]; exact po1⟩, ?_⟩
    rintro i m σ H ⟨F2, S2, hd2, hh2, rfl, hi, l2, w2, po2⟩
    by_cases h : i < ds.length
    · have e1 : ds.drop i = ds[i] :: ds.drop (i + 1) := List.drop_eq_getElem_cons h
      rw [e1] at po2
      have e2 : ds[i]? = some ds[i] := List.getElem?_eq_getElem h
      obtain ⟨g1, g2⟩ := so.2 i _ F2 H e2 l2 w2.le
      refine .inr ⟨g1, fun σ' H' => ∃ m', m' < ds.length - i ∧ ∃ F2 S2 hd2, hk hd2 ∧ m' = ds.length - (i + 1) ∧ i + 1 ≤ ds.length ∧ Le F1 F2 ∧ Wld X.K T F0 H0 hd2 F2 σ' H' S2 ∧ PoS X.K T W F0 H0 hk E F2 (frL g b (ds.drop (i + 1)) S2), fun σ' H' z => z, fun x H' y => ?_⟩
      unfold frL at po2
      cases q : g ds[i] S2 with
      | none => simp only [q] at po2; exact False.elim po2
      | some S3 =>
        simp only [q] at po2
        have step : ∀ F3, Le F2 F3 → Wld X.K T F0 H0 hd2 F3 σ H' S2 → Rp X.K F3 x ds[i] → tT X.K T g x σ H' fun σ2 H2 => tS X.K T W b { E with
            nx := fun σ' H' => ∃ m', m' < ds.length - i ∧ ∃ F2 S2 hd2, hk hd2 ∧ m' = ds.length - (i + 1) ∧ i + 1 ≤ ds.length ∧ Le F1 F2 ∧ Wld X.K T F0 H0 hd2 F2 σ' H' S2 ∧ PoS X.K T W F0 H0 hk E F2 (frL g b (ds.drop (i + 1)) S2),
            ct := fun σ' H' => ∃ m', m' < ds.length - i ∧ ∃ F2 S2 hd2, hk hd2 ∧ m' = ds.length - (i + 1) ∧ i + 1 ≤ ds.length ∧ Le F1 F2 ∧ Wld X.K T F0 H0 hd2 F2 σ' H' S2 ∧ PoS X.K T W F0 H0 hk E F2 (frL g b (ds.drop (i + 1)) S2), bk := E.nx } σ2 H2 := fun F3 l3 w3 r3 =>
          ⟨F0, H0, hd2, F3, S2, S3, _, w3, r3, q, fun F4 σ4 H4 u4 w4 => ⟨F0, H0, hk, hd2, F4, S3, hh2, w4, by
            have po4 := po2.le (l3.trans u4.fF)
            cases q4 : b S3 with
            | ok c S5 =>
              rw [bnd_ok q4] at po4
              cases c with
              | nx => exact fun F' σ' H' hd' h1 m w => ⟨_, by omega, F', S5, hd', h1, rfl, h, (l2.trans (l3.trans u4.fF)).trans m, w, po4.le m⟩
              | ct => exact fun F' σ' H' hd' h1 m w => ⟨_, by omega, F', S5, hd', h1, rfl, h, (l2.trans (l3.trans u4.fF)).trans m, w, po4.le m⟩
              | bk => exact po4
              | rt r => cases r <;> exact po4
            | exc e S5 => rw [bnd_exc q4] at po4; exact po4
            | stuck => rw [bnd_stuck q4] at po4; exact po4⟩⟩
        rcases g2 x H' y with ⟨rfl, r⟩ | ⟨p, o, hp, rfl, rfl, nt, r⟩
        · exact step F2 (Le.refl _) w2 r
        · obtain ⟨w3, u3⟩ := w2.newF o hp nt
          exact step _ u3.fF w3 r
    · have e : i = ds.length := by omega
      subst e
      rw [List.drop_length] at po2
      exact .inl ⟨so.1 F2 H l2 w2.le, po2 F2 σ H hd2 hh2 (Le.refl _) w2⟩⟩
/-! ### while -/
def whL (c : M Bool) (b : M Ctl) : Nat → M Ctl
  | 0 => fun _ => .stuck
  | n + 1 => bnd c fun k => if k = true then bnd b fun r => match r with
      | .nx => whL c b n
      | .ct => whL c b n
      | .bk => ret .nx
      | .rt r => ret (.rt r)
    else ret .nx
def fuel : Nat := 2 ^ 100
def whM (c : M Bool) (b : M Ctl) : M Ctl := whL c b fuel
theorem js_while {c : Expr} {body : List Stmt} {t : M Bool} {b : M Ctl} (hp : PassesOwn (model X.prog X.w) X.A X.env X.xe) (hc : JT X T W c t) (hb : JSs X T W body b) : JS X T W (.While c body [] pos) (whM t b) := (ps_while hp hc hb).imp fun E σ H ⟨F0, H0, hk, hd, F, S, hh, w, po⟩ => by
  refine ⟨fun m σ H => ∃ F2 S2 hd2, hk hd2 ∧ Wld X.K T F0 H0 hd2 F2 σ H S2 ∧ PoS X.K T W F0 H0 hk E F2 (whL t b m S2), ⟨fuel, F, S, hd, hh, w, po⟩, ?_⟩
  rintro m σ H ⟨F2, S2, hd2, hh2, w2, po2⟩
  cases m with
  | zero => exact False.elim po2
  | succ m =>
    refine ⟨F0, H0, hd2, F2, S2, w2, poS_bind hh2 po2 fun F3 H3 k k' S3 _ u3 w3 r3 po3 => ?_⟩
    cases r3
    cases k with
    | false => exact poS_nx hh2 po3 w3
    | true =>
      rw [if_pos rfl] at po3 ⊢
      refine ⟨fun σ' H' => ∃ m', m' < m + 1 ∧ ∃ F2 S2 hd2, hk hd2 ∧ Wld X.K T F0 H0 hd2 F2 σ' H' S2 ∧ PoS X.K T W F0 H0 hk E F2 (whL t b m' S2), fun σ' H' z => z, F0, H0, hk, hd2, F3, S3, hh2, w3, ?_⟩
      cases q4 : b S3 with
      | ok c S5 =>
        rw [bnd_ok q4] at po3
        cases c with
        | nx => exact fun F' σ' H' hd' h1 l w => ⟨m, by omega, F', S5, hd', h1, w, po3.le l⟩
        | ct => exact fun F' σ' H' hd' h1 l w => ⟨m, by omega, F', S5, hd', h1, w, po3.le l⟩
        | bk => exact po3
        | rt r => cases r <;> exact po3
      | exc e S5 => rw [bnd_exc q4] at po3; exact po3
      | stuck => rw [bnd_stuck q4] at po3; exact po3
end
end FX

set_option Elab.async false
set_option linter.all false
set_option maxRecDepth 100000
set_option maxHeartbeats 4000000
namespace FX
open PySem PySem.Spec PyProof.Rows L2 LamX

/-! ### comprehensions -/
theorem wipe_get (σ : L2.St) (i : Nat) : ∀ vs : List Nat, (wipe σ vs)[i]? = if i ∈ vs then (σ[i]?).map (fun _ => none) else σ[i]?
  | [] => by simp [wipe]
  | v :: vs => by
    unfold wipe
    rw [List.getElem?_set, wipe_get σ i vs, wipe_length]
    by_cases h : v = i
    · subst h
      rw [if_pos rfl, if_pos List.mem_cons_self]
      by_cases hl : v < σ.length
      · rw [if_pos hl, List.getElem?_eq_getElem hl]; rfl
      · rw [if_neg hl, List.getElem?_eq_none (by omega)]; rfl
    · rw [if_neg h]
      by_cases h2 : i ∈ vs
      · rw [if_pos h2, if_pos (List.mem_cons_of_mem _ h2)]
      · rw [if_neg h2, if_neg (fun z => (List.mem_cons.mp z).elim (fun q => h q.symm) h2)]
theorem wipe_set {σ : L2.St} {vs : List Nat} {j : Nat} {x : Option V} (h : j ∈ vs) : wipe (σ.set j x) vs = wipe σ vs := by
  apply List.ext_getElem?
  intro i
  rw [wipe_get, wipe_get]
  by_cases hi : i ∈ vs
  · rw [if_pos hi, if_pos hi, List.getElem?_set]
    by_cases e : j = i
    · subst e
      rw [if_pos rfl]
      by_cases hl : j < σ.length
      · rw [if_pos hl, List.getElem?_eq_getElem hl]; rfl
      · rw [if_neg hl, List.getElem?_eq_none (by omega)]
    · rw [if_neg e]
  · rw [if_neg hi, if_neg hi, List.getElem?_set_ne (fun z => hi (by rw [← z]; exact h))]
theorem wipe_wipe (σ : L2.St) (vs : List Nat) : wipe (wipe σ vs) vs = wipe σ vs := by
  apply List.ext_getElem?
  intro i
  rw [wipe_get, wipe_get]
  by_cases hi : i ∈ vs
  · rw [if_pos hi, if_pos hi, Option.map_map]; rfl
  · rw [if_neg hi, if_neg hi]
def wipS (S : Sto) : List Nat → Sto
  | [] => S
  | v :: vs => { wipS S vs with sl := (wipS S vs).sl.set v .un }
def keepV : Sl → Sl
  | .val d => .val d
  | _ => .un
/-- the block's own slots as they were -/
def bacS (S0 S1 : Sto) : List Nat → Sto
  | [] => S1
  | v :: vs => { bacS S0 S1 vs with sl := (bacS S0 S1 vs).sl.set v (keepV (S0.sl.getD v .un)) }
def bacσ (σ τ : L2.St) : List Nat → L2.St
  | [] => τ
  | v :: vs => (bacσ σ τ vs).set v (σ.getD v none)
section
variable {K : PySem.W.Frag} {T : List (Addr × Str)} {F0 H0 F H F1 H1 : Hp} {hd : Option Addr} {σ τ : L2.St} {S S1 : Sto}
theorem Wld.wip (w : Wld K T F0 H0 hd F σ H S) : ∀ vs : List Nat, Wld K T F0 H0 hd F (wipe σ vs) H (wipS S vs)
  | [] => w
  | v :: vs => (Wld.wip w vs).slot (x := none) (s := .un) trivial (fun z => by cases z)
theorem Wld.bac (w : Wld K T F0 H0 hd F σ H S) (u : Le F F1) (w1 : Wld K T F0 H0 hd F1 τ H1 S1) : ∀ vs : List Nat, Wld K T F0 H0 hd F1 (bacσ σ τ vs) H1 (bacS S S1 vs)
  | [] => w1
  | v :: vs => by
    refine (Wld.bac w u w1 vs).slot (i := v) (x := σ.getD v none) (s := keepV (S.sl.getD v .un)) ?_ (fun z => ?_)
    · have z := w.slo v
      generalize S.sl.getD v .un = sl at z ⊢
      cases sl with
      | val d => obtain ⟨x, e, r⟩ := z; exact ⟨x, e, r.mono u⟩
      | _ => trivial
    · generalize S.sl.getD v .un = sl at z
      cases sl <;> cases z
theorem bacσ_wipe (σ : L2.St) (vs : List Nat) : bacσ σ (wipe σ vs) vs = σ := by
  have key : ∀ (us : List Nat) (i : Nat), (bacσ σ (wipe σ vs) us)[i]? = if i ∈ us then σ[i]? else (wipe σ vs)[i]? := by
    intro us
    induction us with
    | nil => intro i; simp [bacσ]
    | cons v us ih =>
      intro i
      have hl : (bacσ σ (wipe σ vs) us).length = σ.length := by
        have : ∀ us, (bacσ σ (wipe σ vs) us).length = σ.length := by
          intro us
          induction us with
          | nil => exact wipe_length σ vs
          | cons a us ih => unfold bacσ; rw [List.length_set, ih]
        exact this us
      unfold bacσ
      rw [List.getElem?_set, ih i, hl]
      by_cases h : v = i
      · subst h
        rw [if_pos rfl, if_pos List.mem_cons_self]
        by_cases hl : v < σ.length
        · rw [if_pos hl, List.getElem?_eq_getElem hl, List.getD_eq_getElem?_getD, List.getElem?_eq_getElem hl]; rfl
        · rw [if_neg hl, List.getElem?_eq_none (by omega)]
      · rw [if_neg h]
        by_cases h2 : i ∈ us
        · rw [if_pos h2, if_pos (List.mem_cons_of_mem _ h2)]
        · rw [if_neg h2, if_neg (fun z => (List.mem_cons.mp z).elim (fun q => h q.symm) h2)]
  apply List.ext_getElem?
  intro i
  rw [key vs i]
  by_cases h : i ∈ vs
  · rw [if_pos h]
  · rw [if_neg h, wipe_get, if_neg h]
end
/-- no list becomes one's own -/
def NNew (σ : L2.St) (S : Sto) (σ' : L2.St) (S' : Sto) : Prop := ∀ j, (S'.sl.getD j .un).isOwn = true → (S.sl.getD j .un).isOwn = true ∧ σ'.getD j none = σ.getD j none
theorem NNew.refl {σ : L2.St} {S : Sto} : NNew σ S σ S := fun _ h => ⟨h, rfl⟩
theorem NNew.trans {σ σ1 σ2 : L2.St} {S S1 S2 : Sto} (a : NNew σ S σ1 S1) (b : NNew σ1 S1 σ2 S2) : NNew σ S σ2 S2 := fun j h => ⟨(a j (b j h).1).1, (b j h).2.trans (a j (b j h).1).2⟩
/-- a target that stores at the block's own slots alone -/
def CTg (K : PySem.W.Frag) (g : TG) (vs : List Nat) (st : TgF) : Prop := ∀ (T : List (Addr × Str)) (F0 H0 : Hp) (hd : Option Addr) (F : Hp) (σ : L2.St) (H : Hp) (S S' : Sto) (v : V) (d : D) (Q : L2.St → Hp → Prop), Wld K T F0 H0 hd F σ H S → Rp K F v d → st d S = some S' →
  (∀ σ', wipe σ' vs = wipe σ vs → NNew σ S σ' S' → Wld K T F0 H0 hd F σ' H S' → Q σ' H) → g v σ H Q
theorem ctg_name {K : PySem.W.Frag} {j : Nat} {vs : List Nat} (h : j ∈ vs) : CTg K (gName j) vs (stV j) := fun T F0 H0 hd F σ H S S' v d Q w r e q => by
  cases e
  exact q _ (wipe_set h) (fun i hi => by
    have hi : ((S.sl.set j (.val d)).getD i .un).isOwn = true := hi
    rw [getD_set] at hi
    rw [getD_set]
    by_cases z : j = i ∧ j < S.sl.length
    · rw [if_pos z] at hi; cases hi
    · rw [if_neg z] at hi
      rw [if_neg (by rw [w.len]; exact z)]
      exact ⟨hi, rfl⟩) (w.setV r)
def CTgs (K : PySem.W.Frag) (g : TGs) (vs : List Nat) (sts : List TgF) : Prop := ∀ (T : List (Addr × Str)) (F0 H0 : Hp) (hd : Option Addr) (F : Hp) (σ : L2.St) (H : Hp) (S S' : Sto) (us : List V) (ds : List D) (Q : L2.St → Hp → Prop), Wld K T F0 H0 hd F σ H S → Rps K F us ds → stVs sts ds S = some S' →
  (∀ σ', wipe σ' vs = wipe σ vs → NNew σ S σ' S' → Wld K T F0 H0 hd F σ' H S' → Q σ' H) → g us σ H Q
theorem ctgs_nil {K : PySem.W.Frag} {vs : List Nat} : CTgs K gNil vs [] := fun T F0 H0 hd F σ H S S' us ds Q w r e q => by
  cases r with
  | nil => cases e; exact ⟨rfl, q σ rfl NNew.refl w⟩
  | cons _ _ => cases e
theorem ctgs_cons {K : PySem.W.Frag} {vs : List Nat} {g : TG} {gs : TGs} {st : TgF} {sts : List TgF} (h : CTg K g vs st) (k : CTgs K gs vs sts) : CTgs K (gCons g gs) vs (st :: sts) := fun T F0 H0 hd F σ H S S' us ds Q w r e q => by
  cases r with
  | nil => cases e
  | @cons v us d ds r1 r2 =>
    simp only [stVs, Option.bind_eq_some_iff] at e
    obtain ⟨S1, e1, e2⟩ := e
    exact ⟨v, us, rfl, h T F0 H0 hd F σ H S S1 v d _ w r1 e1 fun σ1 z1 n1 w1 => k T F0 H0 hd F σ1 H S1 S' us ds _ w1 r2 e2 fun σ2 z2 n2 w2 => q σ2 (z2.trans z1) (n1.trans n2) w2⟩
theorem ctg_tup {K : PySem.W.Frag} {vs : List Nat} {gs : TGs} {sts : List TgF} {n : Nat} (h : CTgs K gs vs sts) (hn : sts.length = n) : CTg K (gTup K n gs) vs (stT sts) := fun T F0 H0 hd F σ H S S' v d Q w r e q => by
  cases r with
  | @tup a xs ds h1 h2 => exact ⟨a, xs, rfl, w.le.st h1, by rw [h2.length, stVs_len e, hn], h T F0 H0 hd F σ H S S' xs ds Q w h2 e q⟩
  | _ => cases e
/-! ### another entry -/
open Classical in
/-- the heap without the lists of one's own -/
noncomputable def refH (H : Hp) (σ : L2.St) (S : Sto) : Hp := fun a => if ∃ i, (S.sl.getD i .un).isOwn = true ∧ σ.getD i none = some (.ref a) then none else H a
section
variable {K : PySem.W.Frag} {T : List (Addr × Str)} {F0 H0 F H F' H' : Hp} {hd : Option Addr} {σ σ' : L2.St} {S S' : Sto}
theorem refH_some {a : Addr} {o : HO} (h : refH H σ S a = some o) : H a = some o := by
  unfold refH at h
  split at h
  · cases h
  · exact h
theorem Wld.refer (w : Wld K T F0 H0 hd F σ H S) : Wld K T F (refH H σ S) hd F σ H S :=
  ⟨w.le, Le.refl _, fun a o e => .inl e, fun a o e => ⟨o, refH_some e⟩, fun a o e _ _ => refH_some e, w.tabs, w.len, fun i => by
    have z := w.slo i
    have own : (S.sl.getD i .un).isOwn = true → ∀ p, σ.getD i none = some (.ref p) → refH H σ S p = none := fun h p e => by unfold refH; rw [if_pos ⟨i, h, e⟩]
    generalize S.sl.getD i .un = sl at z own ⊢
    cases sl with
    | own ds => obtain ⟨p, vs, e1, e2, e3, e4, e5, e6⟩ := z; exact ⟨p, vs, e1, e2, e3, own rfl p e1, e5, e6⟩
    | _ => exact z, w.sep, w.hnd⟩
theorem Wld.unrefer (w : Wld K T F0 H0 hd F σ H S) (u : Up hd F H F' H') (w' : Wld K T F (refH H σ S) hd F' σ H' S') : Wld K T F0 H0 hd F' σ H' S' := by
  have e0 : ∀ a, refH H σ S a = none → H0 a = none := fun a e => by
    unfold refH at e
    split at e
    · rename_i h
      obtain ⟨i, h1, h2⟩ := h
      have z := w.slo i
      generalize S.sl.getD i .un = sl at z h1
      cases sl with
      | own ds => obtain ⟨p, vs, e1, e2, e3, e4, e5, e6⟩ := z; rw [h2] at e1; cases e1; exact e4
      | _ => cases h1
    · exact w.entryFree e
  refine ⟨w'.le, w.r0.trans u.fF, fun a o e => ?_, fun a o e => ?_, fun a o e n m => u.keep a o (w.keep a o e n m) n m, w'.tabs, w'.len, fun i => ?_, w'.sep, w'.hnd⟩
  · rcases w'.r1 a o e with z | z
    · exact w.r1 a o z
    · exact .inr (e0 a z)
  · obtain ⟨v, z⟩ := w.dom a o e
    exact u.dom a v z
  · have z := w'.slo i
    generalize S'.sl.getD i .un = sl at z ⊢
    cases sl with
    | own ds => obtain ⟨p, vs, e1, e2, e3, e4, e5, e6⟩ := z; exact ⟨p, vs, e1, e2, e3, e0 p e4, e5, e6⟩
    | _ => exact z
theorem Wld.refF {H2 : Hp} {D : Addr} {o : HO} (w : Wld K T F H2 hd F' σ H' S') (f : F D = none) (h : H2 D = some o) : F' D = none := by
  cases q : F' D with
  | none => rfl
  | some u =>
    rcases w.r1 D u q with z | z
    · rw [f] at z; cases z
    · rw [h] at z; cases z
theorem Wld.refOwn {H2 : Hp} {D : Addr} {o : HO} (w : Wld K T F H2 hd F' σ H' S') (h : H2 D = some o) : ∀ j, (S'.sl.getD j .un).isOwn = true → σ.getD j none ≠ some (.ref D) := fun j hj e => by
  have z := w.slo j
  generalize S'.sl.getD j .un = sl at z hj
  cases sl with
  | own ds => obtain ⟨p, vs, e1, e2, e3, e4, e5, e6⟩ := z; rw [e] at e1; cases e1; rw [h] at e4; cases e4
  | _ => cases hj
theorem wip_own {D : Addr} (h : ∀ j, (S.sl.getD j .un).isOwn = true → σ.getD j none ≠ some (.ref D)) : ∀ (vs : List Nat) (j : Nat), ((wipS S vs).sl.getD j .un).isOwn = true → (wipe σ vs).getD j none ≠ some (.ref D)
  | [], j, hj => h j hj
  | v :: vs, j, hj => by
    have hj : (((wipS S vs).sl.set v .un).getD j .un).isOwn = true := hj
    rw [getD_set] at hj
    by_cases e : v = j ∧ v < (wipS S vs).sl.length
    · rw [if_pos e] at hj; cases hj
    · rw [if_neg e] at hj
      unfold wipe
      rw [getD_set]
      by_cases e2 : v = j ∧ v < (wipe σ vs).length
      · rw [if_pos e2]; intro z; cases z
      · rw [if_neg e2]; exact wip_own h vs j hj
/-- an own list that no slot holds changes -/
theorem Wld.chgO (w : Wld K T F0 H0 hd F σ H S) {p : Addr} {vs us : List V} (h : H p = some (.lst vs)) (f : F p = none) (e : H0 p = none) (n : hd ≠ some p) (m : ∀ i, (S.sl.getD i .un).isOwn = true → σ.getD i none ≠ some (.ref p)) : Wld K T F0 H0 hd F σ (upd H p (.lst us)) S := by
  have at_ : ∀ a, a ≠ p → upd H p (.lst us) a = H a := fun a h => upd_ne h
  refine ⟨fun a o z => ?_, w.r0, w.r1, fun a o z => ?_, fun a o z n' m' => ?_, ⟨fun t ht => ?_, w.tabs.2⟩, w.len, fun i => ?_, w.sep, fun q z => ?_⟩
  · rw [at_ a (fun y => by rw [y, f] at z; cases z)]; exact w.le a o z
  · by_cases ha : a = p
    · exact ⟨_, by rw [ha]; exact upd_same⟩
    · rw [at_ a ha]; exact w.dom a o z
  · rw [at_ a (fun y => by rw [y, e] at z; cases z)]; exact w.keep a o z n' m'
  · obtain ⟨ps, t1, t2, t3⟩ := w.tabs.1 t ht
    refine ⟨ps, by rw [at_ _ (ne_of t1 h (by intro z; cases z))]; exact t1, t2, fun pos cv hc => ?_⟩
    obtain ⟨c, c1, c2⟩ := t3 pos cv hc
    exact ⟨c, c1, by rw [at_ _ (ne_of c2 h (by unfold CodeO; intro z; cases z))]; exact c2⟩
  · have z := w.slo i
    have mi := m i
    generalize S.sl.getD i .un = sl at z mi ⊢
    cases sl with
    | own ds =>
      obtain ⟨q, ws, g1, g2, g3, g4, g5, g6⟩ := z
      exact ⟨q, ws, g1, by rw [at_ _ (fun y => mi rfl (by rw [g1, y]))]; exact g2, g3, g4, g5, g6⟩
    | un => trivial
    | val d => exact z
    | clo _ _ _ _ => exact z
    | hnd => exact z
  · obtain ⟨g1, ws, g2, g3⟩ := w.hnd q z
    exact ⟨g1, ws, by rw [at_ q (fun y => n (by rw [z, y]))]; exact g2, g3⟩
theorem Wld.entry0 {σ1 : L2.St} {S1 : Sto} {F1 H1 : Hp} (_ : Wld K T F0 H0 hd F σ H S) (w1 : Wld K T F0 H0 hd F1 σ1 H1 S1) {D : Addr} (h : H1 D = none) : H0 D = none := w1.entryFree h
theorem bacS_own {S1 : Sto} : ∀ (us : List Nat) (j : Nat), ((bacS S1 S' us).sl.getD j .un).isOwn = true → j ∉ us ∧ (S'.sl.getD j .un).isOwn = true
  | [], j, h => ⟨by simp, h⟩
  | v :: us, j, h0 => by
    have h3 : (((bacS S1 S' us).sl.set v (keepV (S1.sl.getD v .un))).getD j .un).isOwn = true := h0
    rw [getD_set] at h3
    by_cases z : v = j ∧ v < (bacS S1 S' us).sl.length
    · rw [if_pos z] at h3
      generalize S1.sl.getD v .un = sl at h3
      cases sl <;> cases h3
    · rw [if_neg z] at h3
      obtain ⟨h1, h2⟩ := bacS_own us j h3
      refine ⟨fun q => ?_, h2⟩
      rcases List.mem_cons.mp q with q | q
      · have hl : ¬ j < (bacS S1 S' us).sl.length := fun y => z ⟨q.symm, by rw [← q]; exact y⟩
        rw [getD_out Sl.un (bacS S1 S' us).sl j (Nat.le_of_not_lt hl)] at h3
        cases h3
      · exact h1 q
theorem bac_own {S1 : Sto} {D : Addr} {vs : List Nat} (own : ∀ j, (S'.sl.getD j .un).isOwn = true → (wipe σ vs).getD j none ≠ some (.ref D)) (j : Nat) (h : ((bacS S1 S' vs).sl.getD j .un).isOwn = true) : σ.getD j none ≠ some (.ref D) := fun e => by
  obtain ⟨h1, h2⟩ := bacS_own vs j h
  refine own j h2 ?_
  rw [List.getD_eq_getElem?_getD, wipe_get, if_neg h1, ← List.getD_eq_getElem?_getD]
  exact e
end
/-- what holds between the turns: D is the new list -/
def LcI (K : PySem.W.Frag) (T : List (Addr × Str)) (F0 H0 : Hp) (hd : Option Addr) (F1 H1 : Hp) (τ : L2.St) (L : Addr) (P : List D → Sto → Prop) (H : Hp) : Prop :=
  ∃ F2 S3 us acc, Wld K T F0 H0 hd F2 τ H S3 ∧ Up hd F1 H1 F2 H ∧ H L = some (.lst us) ∧ F2 L = none ∧ Rps K F2 us acc ∧ P acc S3 ∧ ∀ j, (S3.sl.getD j .un).isOwn = true → τ.getD j none ≠ some (.ref L)
abbrev W0 : WX := fun _ _ _ _ => False
/-- the turns -/
def cpL (st : TgF) (c : M Bool) (f : M D) (vs : List Nat) : List D → List D → M (List D)
  | [], acc => ret acc
  | d :: ds, acc => fun S => match st d S with
    | none => .stuck
    | some S1 => bnd c (fun b => if b = true then bnd f fun y S => cpL st c f vs ds (acc ++ [y]) (wipS S vs) else fun S => cpL st c f vs ds acc (wipS S vs)) S1
def lcM (src : M (List D)) (st : TgF) (c : M Bool) (f : M D) (vs : List Nat) : M (List D) := bnd src fun ds S => if ds.length ≤ sizeLine then match cpL st c f vs ds [] (wipS S vs) with
    | .ok r S1 => .ok r (bacS S S1 vs)
    | _ => .stuck
  else .stuck
section
variable {X : Cx} {T : List (Addr × Str)} {W : WX} {tg it elt : Expr} {pos : Pos} {vs : List Nat} {src : M (List D)} {st : TgF} {c : M Bool} {f : M D} {g : TG}
theorem bnd_okE' {α γ : Type} {f : M α} {g : α → M γ} {S S' : Sto} {c : γ} (h : bnd f g S = .ok c S') : ∃ a S1, f S = .ok a S1 ∧ g a S1 = .ok c S' := bnd_okE h
theorem t_lc (hg : CTg X.K g vs st) : ∀ σ H Q, tG X.K T W (rL X.K) (lcM src st c f vs) σ H Q → tLc (tG X.K T W (rI X.K) src) g (tG X.K T W0 rT c) (tG X.K T W0 (rV X.K) f) vs σ H Q := fun σ H Q ⟨F0, H0, hd, F, S, w, po⟩ =>
  ⟨F0, H0, hd, F, S, w, po_bind po fun F1 H1 J ds S1 _ u1 w1 so po1 => by
    split at po1
    · rename_i hlen
      cases q : cpL st c f vs ds [] (wipS S1 vs) with
      | exc e S2 => simp only [q] at po1; exact False.elim po1
      | stuck => simp only [q] at po1; exact False.elim po1
      | ok rs S2 =>
        simp only [q] at po1
        intro D hD
        obtain ⟨w1', u1'⟩ := w1.newO (.lst []) hD
        obtain ⟨nh, nown⟩ := w1.notIn hD
        refine ⟨fun i m H => m = ds.length - i ∧ i ≤ ds.length ∧ LcI X.K T F0 H0 hd F1 H1 (wipe σ vs) D (fun acc S3 => acc.length ≤ i ∧ cpL st c f vs (ds.drop i) acc S3 = .ok rs S2) H,
          ⟨ds.length, by omega, by omega, F1, wipS S1 vs, [], [], w1'.wip vs, u1', upd_same, w1.freeF hD, .nil, ⟨Nat.le_refl _, by rw [List.drop_zero]; exact q⟩, fun j hj => ((w1.wip vs).notIn hD).2 j hj⟩, ?_⟩
        rintro i m H2 ⟨rfl, hi, F2, S3, us, acc, w2, u2, hD2, fD2, racc, ⟨hacc, run⟩, own⟩
        by_cases h : i < ds.length
        · have e1 : ds.drop i = ds[i] :: ds.drop (i + 1) := List.drop_eq_getElem_cons h
          rw [e1] at run
          have e2 : ds[i]? = some ds[i] := List.getElem?_eq_getElem h
          obtain ⟨g1, g2⟩ := so.2 i _ F2 H2 e2 u2.fF w2.le
          refine .inr ⟨g1, LcI X.K T F0 H0 hd F1 H1 (wipe σ vs) D (fun acc S3 => acc.length ≤ i + 1 ∧ cpL st c f vs (ds.drop (i + 1)) acc S3 = .ok rs S2), fun H' z => ⟨ds.length - (i + 1), by omega, rfl, h, z⟩, fun x H3 y => ?_⟩
          unfold cpL at run
          cases q1 : st ds[i] S3 with
          | none => simp only [q1] at run; cases run
          | some S4 =>
            simp only [q1] at run
            obtain ⟨b, S5, q2, run2⟩ := bnd_okE run
            have step : ∀ F3, Up hd F2 H2 F3 H3 → Wld X.K T F0 H0 hd F3 (wipe σ vs) H3 S3 → Rp X.K F3 x ds[i] → F3 D = none → g x (wipe σ vs) H3 fun σ2 H2 => wipe σ2 vs = wipe σ vs ∧ tG X.K T W0 rT c σ2 H2 fun b H3 =>
                if b = true then tG X.K T W0 (rV X.K) f σ2 H3 fun y H4 => ∃ acc, H4 D = some (.lst acc) ∧ acc.length < sizeLine ∧ (LcI X.K T F0 H0 hd F1 H1 (wipe σ vs) D (fun acc S3 => acc.length ≤ i + 1 ∧ cpL st c f vs (ds.drop (i + 1)) acc S3 = .ok rs S2)) (upd H4 D (.lst (acc ++ [y])))
                else (LcI X.K T F0 H0 hd F1 H1 (wipe σ vs) D (fun acc S3 => acc.length ≤ i + 1 ∧ cpL st c f vs (ds.drop (i + 1)) acc S3 = .ok rs S2)) H3 := by
              intro F3 u3 w3 r3 fD3
              have hD3 := u3.lst hD2 nh
              refine hg T F0 H0 hd F3 (wipe σ vs) H3 S3 S4 x _ _ w3 r3 q1 fun σ2 z2 nn w4 => ⟨by rw [z2, wipe_wipe], ?_⟩
              have z2' : wipe σ2 vs = wipe σ vs := by rw [z2, wipe_wipe]
              have ho : ¬ ∃ j, (S4.sl.getD j .un).isOwn = true ∧ σ2.getD j none = some (.ref D) := fun ⟨j, a, b⟩ => own j (nn j a).1 ((nn j a).2.symm.trans b)
              have hD4 : refH H3 σ2 S4 D = some (.lst us) := by unfold refH; rw [if_neg ho]; exact hD3
              refine ⟨F3, refH H3 σ2 S4, hd, F3, S4, w4.refer, ?_⟩
              rw [q2]
              intro F5 H5 b' u5 w5 eb
              cases eb
              have w5o := w4.unrefer u5 w5
              have fD5 : F5 D = none := w5.refF fD3 hD4
              have hD5 := u5.lst hD3 nh
              have no5 : ∀ j, (S5.sl.getD j .un).isOwn = true → σ2.getD j none ≠ some (.ref D) := w5.refOwn hD4
              have u25 := (u2.trans u3).trans u5
              cases b with
              | false =>
                rw [if_neg Bool.false_ne_true] at run2
                rw [if_neg Bool.false_ne_true]
                have w6 := w5o.wip vs
                rw [z2'] at w6
                refine ⟨F5, wipS S5 vs, us, acc, w6, u25, hD5, fD5, racc.mono (u3.trans u5).fF, ⟨by omega, run2⟩, fun j hj e => ?_⟩
                rw [← z2'] at e
                exact wip_own no5 vs j hj e
              | true =>
                rw [if_pos rfl] at run2
                rw [if_pos rfl]
                obtain ⟨yd, S6, q3, run3⟩ := bnd_okE run2
                have ho5 : ¬ ∃ j, (S5.sl.getD j .un).isOwn = true ∧ σ2.getD j none = some (.ref D) := fun ⟨j, a, b⟩ => no5 j a b
                have hD6 : refH H5 σ2 S5 D = some (.lst us) := by unfold refH; rw [if_neg ho5]; exact hD5
                refine ⟨F5, refH H5 σ2 S5, hd, F5, S5, w5o.refer, ?_⟩
                rw [q3]
                intro F7 H7 yv u7 w7 ry
                have w7o := w5o.unrefer u7 w7
                have fD7 : F7 D = none := w7.refF fD5 hD6
                have hD7 := u7.lst hD5 nh
                have no7 : ∀ j, (S6.sl.getD j .un).isOwn = true → σ2.getD j none ≠ some (.ref D) := w7.refOwn hD6
                have rac7 : Rps X.K F7 us acc := racc.mono ((u3.trans u5).trans u7).fF
                have w8 := (w7o.wip vs).chgO (p := D) (us := us ++ [yv]) hD7 fD7 (w7o.entry0 w1 hD) nh (wip_own no7 vs)
                rw [z2'] at w8
                refine ⟨us, hD7, by rw [rac7.length]; omega, F7, wipS S6 vs, us ++ [yv], acc ++ [yd], w8, ?_, upd_same, fD7, rac7.append (.one ry), ⟨by rw [List.length_append, List.length_singleton]; omega, run3⟩, fun j hj e => ?_⟩
                · have u27 := u25.trans u7
                  exact ⟨u27.fF, fun a o e => by
                    by_cases ha : a = D
                    · exact ⟨_, by rw [ha]; exact upd_same⟩
                    · rw [upd_ne ha]; exact u27.dom a o e, fun a o e n m => by
                    rw [upd_ne (ne_of_none e hD)]; exact u27.keep a o e n m⟩
                · rw [← z2'] at e
                  exact wip_own no7 vs j hj e
            rcases g2 x H3 y with ⟨rfl, r⟩ | ⟨p, o, hp, rfl, rfl, nt, r⟩
            · exact step F2 Up.refl w2 r fD2
            · obtain ⟨w3, u3⟩ := w2.newF o hp nt
              exact step _ u3 w3 r (by rw [upd_ne (ne_of_none hD2 hp)]; exact fD2)
        · have e : i = ds.length := by omega
          subst e
          rw [List.drop_length] at run
          cases run
          refine .inl ⟨so.1 F2 H2 u2.fF w2.le, ?_⟩
          have wb := w1.bac u2.fF w2 vs
          rw [bacσ_wipe] at wb
          exact po1 F2 H2 _ u2 wb ⟨D, us, rfl, hD2, fD2, w1.entryFree hD, nh, racc, fun j hj => bac_own own j hj⟩
    · exact False.elim po1⟩

theorem jt_yes : PTs X [] (tG X.K T W rT (ret true)) := ⟨fun pins s σ H Q I h => pts_nil.run pins s σ H Q I (by obtain ⟨F0, H0, hd, F, S, w, po⟩ := h; exact po_ok po w rfl)⟩
theorem jt_one {e : Expr} {m : M Bool} (h : JT X T W e m) : PTs X [e] (tG X.K T W rT m) := pts_one h
theorem jl_lc {scope : Scope} {own : List (Str × Nat)} {ifs : List Expr} (hc : X.calm = true) (hN : X.N.Nodup) (hi : JI X T W tg it src) (ok : BlkOk X.N X.env.scope scope own) (hct : CTg X.K g (own.map (·.2)) st)
    (hg : ∀ (s : Shared) (H : Hp) (C : Addr) (cl : List (Str × Addr)) (fp : List Addr), PG (X.blk s H scope (compEnvC scope cl C X.env) fp) tg g)
    (ht : ∀ (s : Shared) (H : Hp) (C : Addr) (cl : List (Str × Addr)) (fp : List Addr), PTs (X.blk s H scope (compEnvC scope cl C X.env) fp) ifs (tG X.K T W0 rT c))
    (he : ∀ (s : Shared) (H : Hp) (C : Addr) (cl : List (Str × Addr)) (fp : List Addr), JV (X.blk s H scope (compEnvC scope cl C X.env) fp) T W0 elt f)
    (hs : ∀ x, foldedSetIterable it X.env x = pure x := by intro _; rfl) : JL X T W (.ListComp elt [⟨tg, it, ifs, 0⟩] scope pos) (lcM src st c f (own.map (·.2))) := (pe_lc hc hN hi ok hg ht he hs).imp (t_lc hct)
/-- name = [..] -/
theorem js_setLc {scope : Scope} {own : List (Str × Nat)} {ifs : List Expr} {i : Nat} {y : Str} {py spos : Pos} (hc : X.calm = true) (hN : X.N.Nodup) (hy : X.N[i]? = some y) (hyl : X.env.scope.names.lookup y = some .local)
    (hsw : swapsWith (.ListComp elt [⟨tg, it, ifs, 0⟩] scope pos) (some (.Name y py)) spos.line X.env = pure true) (hi : JI X T W tg it src) (ok : BlkOk X.N X.env.scope scope own) (hct : CTg X.K g (own.map (·.2)) st)
    (hg : ∀ (s : Shared) (H : Hp) (C : Addr) (cl : List (Str × Addr)) (fp : List Addr), PG (X.blk s H scope (compEnvC scope cl C X.env) fp) tg g)
    (ht : ∀ (s : Shared) (H : Hp) (C : Addr) (cl : List (Str × Addr)) (fp : List Addr), PTs (X.blk s H scope (compEnvC scope cl C X.env) fp) ifs (tG X.K T W0 rT c))
    (he : ∀ (s : Shared) (H : Hp) (C : Addr) (cl : List (Str × Addr)) (fp : List Addr), JV (X.blk s H scope (compEnvC scope cl C X.env) fp) T W0 elt f)
    (hs : ∀ x, foldedSetIterable it X.env x = pure x := by intro _; rfl) : JS X T W (.Assign [.Name y py] (.ListComp elt [⟨tg, it, ifs, 0⟩] scope pos) spos) (seL i (lcM src st c f (own.map (·.2)))) :=
  (ps_setLc hc hN hy hyl hsw hi ok hg ht he hs).imp fun E σ H h => by
    obtain ⟨F0, H0, hd, F, S, w, po⟩ := t_seL h
    exact t_lc hct σ H _ ⟨F0, H0, hd, F, S, w, po⟩
/-- .. frozen at once -/
theorem js_setLcV {scope : Scope} {own : List (Str × Nat)} {ifs : List Expr} {i : Nat} {y : Str} {py spos : Pos} (hc : X.calm = true) (hN : X.N.Nodup) (hy : X.N[i]? = some y) (hyl : X.env.scope.names.lookup y = some .local)
    (hsw : swapsWith (.ListComp elt [⟨tg, it, ifs, 0⟩] scope pos) (some (.Name y py)) spos.line X.env = pure true) (hi : JI X T W tg it src) (ok : BlkOk X.N X.env.scope scope own) (hct : CTg X.K g (own.map (·.2)) st)
    (hg : ∀ (s : Shared) (H : Hp) (C : Addr) (cl : List (Str × Addr)) (fp : List Addr), PG (X.blk s H scope (compEnvC scope cl C X.env) fp) tg g)
    (ht : ∀ (s : Shared) (H : Hp) (C : Addr) (cl : List (Str × Addr)) (fp : List Addr), PTs (X.blk s H scope (compEnvC scope cl C X.env) fp) ifs (tG X.K T W0 rT c))
    (he : ∀ (s : Shared) (H : Hp) (C : Addr) (cl : List (Str × Addr)) (fp : List Addr), JV (X.blk s H scope (compEnvC scope cl C X.env) fp) T W0 elt f)
    (hs : ∀ x, foldedSetIterable it X.env x = pure x := by intro _; rfl) : JS X T W (.Assign [.Name y py] (.ListComp elt [⟨tg, it, ifs, 0⟩] scope pos) spos) (seV i (frz (lcM src st c f (own.map (·.2))))) :=
  (ps_setLc hc hN hy hyl hsw hi ok hg ht he hs).imp fun E σ H h => by
    obtain ⟨F0, H0, hd, F, S, w, po⟩ := t_seV h
    refine t_lc (T := T) (W := W) (src := src) (c := c) (f := f) (st := st) hct σ H _ (show tG X.K T W (rL X.K) (lcM src st c f (own.map (·.2))) σ H _ from ⟨F0, H0, hd, F, S, w, ?_⟩)
    refine po_bind po fun F1 H1 b a S1 _ u w1 r po1 => ?_
    obtain ⟨p, vs, rfl, e1, e2, e3, e4, r, n⟩ := r
    obtain ⟨w2, u2⟩ := w1.freeze e1 e2 e3 e4 n
    exact po1 _ _ _ u2 w2 (.lst upd_same (r.mono u2.fF))

/-! ### x[i] = e, of a list of one's own; the hand's items -/
def siM (i : Nat) (m ix : M D) : M Ctl := fun S => match S.sl.getD i .un with
  | .own _ => bnd m (fun d => bnd ix fun k => bnd (asI k) fun k S => match S.sl.getD i .un with
    | .own ds => match ixN ds.length k with
      | some j => .ok .nx { S with sl := S.sl.set i (.own (ds.set j d)) }
      | none => .stuck
    | _ => .stuck) S
  | _ => .stuck
variable {e o ix : Expr} {i : Nat} {tpos : Pos}
theorem js_item {m mx : M D} (he : JV X T W e m) (ho : PE X o (tVar i)) (hx : JV X T W ix mx) (hs : swapsWithSole [.Subscript o ix tpos] e pos.line X.env = pure false := by rfl) (hw : swappedStores [.Subscript o ix tpos] e X.env = pure none := by rfl)
    (h1 : (assignEach [.Subscript o ix tpos] X.env).map (·.2) = [assign (.Subscript o ix tpos) X.env] := by rfl)
    (ha : ∀ v, assign (.Subscript o ix tpos) X.env v = (do
      let ov ← holding [v] (eval o X.env)
      let iv ← holding [v, ov] (eval ix X.env)
      standAt tpos
      holding [v, ov, iv] (setItem ov iv v)
      release [v, ov, iv] []) := by intro _; rfl) : JS X T W (.Assign [.Subscript o ix tpos] e pos) (siM i m mx) :=
  (ps_asg he (pg_sub ho hx set_list ha) hs hw h1).imp fun E σ H ⟨F0, H0, hk, hd, F, S, hh, w, po⟩ => by
    unfold siM at po
    cases q0 : S.sl.getD i .un with
    | own ds0 =>
      rw [q0] at po
      obtain ⟨p, vs, e1, e2, r, n⟩ := own_in w q0
      refine ⟨F0, H0, hd, F, S, w, poS_bind hh po fun F1 H1 v d S1 _ u1 w1 r1 po1 => ?_⟩
      refine ⟨.ref p, getD_some e1, F0, H0, hd, F1, S1, w1, poS_bind hh po1 fun F2 H2 x k S2 _ u2 w2 r2 po2 => ?_⟩
      cases k with
      | int k =>
        have po2 : PoS X.K T W F0 H0 hk E F2 (match S2.sl.getD i .un with
          | .own ds => match ixN ds.length k with
            | some j => .ok .nx { S2 with sl := S2.sl.set i (.own (ds.set j d)) }
            | none => .stuck
          | _ => .stuck) := po2
        cases q : S2.sl.getD i .un with
        | own ds =>
          simp only [q] at po2
          obtain ⟨p', vs', f1, f2, f3, f4⟩ := own_in w2 q
          rw [e1] at f1; cases f1
          cases q2 : ixN ds.length k with
          | none => simp only [q2] at po2; exact False.elim po2
          | some j =>
            simp only [q2] at po2
            cases r2
            exact ⟨p, vs', k, j, rfl, rfl, f2, by rw [f3.length]; exact q2, poS_nx hh po2 (w2.chg q e1 f2 (Rps.set (r1.mono u2.fF) j f3))⟩
        | un => simp only [q] at po2; exact False.elim po2
        | clo _ _ _ _ => simp only [q] at po2; exact False.elim po2
        | val _ => simp only [q] at po2; exact False.elim po2
        | hnd => simp only [q] at po2; exact False.elim po2
      | _ => exact False.elim po2
    | un => rw [q0] at po; exact False.elim po
    | clo _ _ _ _ => rw [q0] at po; exact False.elim po
    | val _ => rw [q0] at po; exact False.elim po
    | hnd => rw [q0] at po; exact False.elim po
/-- hand[j] = e -/
def shM (i j : Nat) (m : M D) : M Ctl := bnd m fun d S => match S.sl.getD i .un with
  | .hnd => if j < S.hc.length then .ok .nx { S with hc := S.hc.set j d } else .stuck
  | _ => .stuck
theorem Wld.hset {K : PySem.W.Frag} {F0 H0 F H : Hp} {σ : L2.St} {S : Sto} {p : Addr} (w : Wld K T F0 H0 (some p) F σ H S) {us : List V} {ds : List D} (r : Rps K F us ds) : Wld K T F0 H0 (some p) F σ (upd H p (.lst us)) { S with hc := ds } := by
  obtain ⟨f, vs, h, _⟩ := w.hnd p rfl
  have at_ : ∀ a, a ≠ p → upd H p (.lst us) a = H a := fun a h => upd_ne h
  refine ⟨fun a o z => ?_, w.r0, w.r1, fun a o z => ?_, fun a o z n' m' => ?_, ⟨fun t ht => ?_, w.tabs.2⟩, w.len, fun i => ?_, w.sep, fun q z => ?_⟩
  · rw [at_ a (fun y => by rw [y, f] at z; cases z)]; exact w.le a o z
  · by_cases ha : a = p
    · exact ⟨_, by rw [ha]; exact upd_same⟩
    · rw [at_ a ha]; exact w.dom a o z
  · rw [at_ a (fun y => m' (by rw [y]))]; exact w.keep a o z n' m'
  · obtain ⟨ps, t1, t2, t3⟩ := w.tabs.1 t ht
    refine ⟨ps, by rw [at_ _ (ne_of t1 h (by intro z; cases z))]; exact t1, t2, fun pos cv hc => ?_⟩
    obtain ⟨c, c1, c2⟩ := t3 pos cv hc
    exact ⟨c, c1, by rw [at_ _ (ne_of c2 h (by unfold CodeO; intro z; cases z))]; exact c2⟩
  · have z := w.slo i
    show SlR K H0 (some p) F _ _ (S.sl.getD i .un)
    generalize S.sl.getD i .un = sl at z ⊢
    cases sl with
    | own ds =>
      obtain ⟨q, ws, g1, g2, g3, g4, g5, g6⟩ := z
      exact ⟨q, ws, g1, by rw [at_ _ (fun y => g5 (by rw [y]))]; exact g2, g3, g4, g5, g6⟩
    | un => trivial
    | val d => exact z
    | clo _ _ _ _ => exact z
    | hnd => exact z
  · cases z
    exact ⟨f, us, upd_same, r⟩
theorem js_hset {j q : Nat} {ip : Pos} {m : M D} (he : JV X T W e m) (ho : PE X o (tVar i)) (hs : swapsWithSole [.Subscript o (.Constant (.int (j : Int)) q ip) tpos] e pos.line X.env = pure false := by rfl) (hw : swappedStores [.Subscript o (.Constant (.int (j : Int)) q ip) tpos] e X.env = pure none := by rfl)
    (h1 : (assignEach [.Subscript o (.Constant (.int (j : Int)) q ip) tpos] X.env).map (·.2) = [assign (.Subscript o (.Constant (.int (j : Int)) q ip) tpos) X.env] := by rfl)
    (ha : ∀ v, assign (.Subscript o (.Constant (.int (j : Int)) q ip) tpos) X.env v = (do
      let ov ← holding [v] (eval o X.env)
      let iv ← holding [v, ov] (eval (.Constant (.int (j : Int)) q ip) X.env)
      standAt tpos
      holding [v, ov, iv] (setItem ov iv v)
      release [v, ov, iv] []) := by intro _; rfl) : JS X T W (.Assign [.Subscript o (.Constant (.int (j : Int)) q ip) tpos] e pos) (shM i j m) :=
  (ps_asg he (pg_sub ho pe_int set_list ha) hs hw h1).imp fun E σ H ⟨F0, H0, hk, hd, F, S, hh, w, po⟩ => ⟨F0, H0, hd, F, S, w, poS_bind hh po fun F1 H1 v d S1 _ u1 w1 r1 po1 => by
    have z := w1.slo i
    cases q : S1.sl.getD i .un with
    | hnd =>
      simp only [q] at po1
      rw [q] at z
      obtain ⟨p, e1, rfl⟩ := z
      obtain ⟨f, vs, h, rh⟩ := w1.hnd p rfl
      split at po1
      · rename_i hj
        refine ⟨.ref p, getD_some e1, p, vs, j, j, rfl, rfl, h, ?_, poS_nx hh po1 (w1.hset (Rps.set r1 j rh))⟩
        unfold ixN
        rw [rh.length, if_pos (by omega), if_pos (by omega)]
        simp
      · exact False.elim po1
    | own _ => simp only [q] at po1; exact False.elim po1
    | un => simp only [q] at po1; exact False.elim po1
    | clo _ _ _ _ => simp only [q] at po1; exact False.elim po1
    | val _ => simp only [q] at po1; exact False.elim po1⟩
end
end FX

set_option Elab.async false
set_option linter.all false
set_option maxRecDepth 100000
set_option maxHeartbeats 4000000
namespace FX
open PySem PySem.Spec PyProof.Rows L2 LamX

/-! ### a def computes its function -/
section
variable {P : Program} {w : World} {K : PySem.W.Frag} {mg : Str → Option Value} {base : Heap}
theorem fnG_raw {x qual : Str} {st : Stmt} {f : Addr} {fd : FuncData} {N ps : List Str} {k : Nat} {sp : Sp} (F : Fun K x qual st f fd) (S : FnScope N ps (defScope st)) (len : ∀ vs H Q E, sp vs H Q E → vs.length = ps.length)
    (hbody : ∀ (cdv : Value) (A : Around) (outer : List Env) (s : Shared) (H : Hp) (vs : List V) (Q : VK) (E : XK), fd.code = cdv → Fit k (A.deeper (envOfC qual (defScope st) s.heap.objs.size f cdv)) → sp vs H Q E →
      ∃ t, PSs (cxOf (L2.CX P w) P w K mg base N qual (defScope st) f cdv A outer s H E) (defBody st) t ∧ t { nx := fun _ H' => Q .non H', rt := Q } (L2.start N vs) H) : FnG P w K mg base (k + 1) f fd ps sp := by
  obtain ⟨oc, od, kV, doc, pm, an, cdv, ct, osl, rfl, lk, hcd⟩ := F.ex
  refine ⟨len, fun A outer s H args us vs Q E hf e0 hb r hsp => ?_⟩
  have hl := len _ _ _ _ hsp
  have KX : K.In s.heap := e0.mod.kin.keeps fun b o e => (e0.bs b o e).1
  refine codeAny_call_function hf.rm.depth (KX _ _ lk) rfl S.co S.gen rfl (PySem.W.codeRec_of KX hcd) (hb _ _ _ _ (wpAny_newFunctionEnv_cells S.kind (fun y hy => ?_) fun env he s1 z => ?_))
  · rcases S.par y.1 (List.of_mem_zip hy).1 with q | q
    · exact .inl q
    · exact .inr ⟨q, PySem.W.cellsFrom_some _ _ _ (.inl q)⟩
  · subst he
    refine ⟨(e0.mod.nolimit.keeps fun b o e => (e0.bs b o e).1).keeps z.toInCall.keep, codeAny_func ?_⟩
    obtain ⟨t, ht, hq⟩ := hbody cdv A outer s H vs Q E rfl (hf.deeper _) hsp
    refine wpAny_mono (ht.run [] s1 (L2.start N vs) H _ (inv_start S hf.rm.hd e0 hl r z) hq) (fun fl s' hs => ?_) fun _ _ hs => hs
    match fl, hs with
    | .ret u, ⟨v, _, H', J, rv, q⟩ => exact ⟨v, H', J.os, J.bare, J.base, J.hok, rv, q⟩
    | .next, ⟨_, H', J, q⟩ => exact ⟨.non, H', J.os, J.bare, J.base, J.hok, rfl, q⟩
    | .brk, ⟨_, _, _, q⟩ => exact q.elim
    | .cont, ⟨_, _, _, q⟩ => exact q.elim
def endF : Out Ctl → Fo
  | .ok .nx S => .ret (.v .non) S.hc
  | .ok (.rt r) S => .ret r S.hc
  | .ok _ _ => .stuck
  | .exc e S => .exc e S.hc
  | .stuck => .stuck
/-- a body run on data -/
def runP (n : Nat) (m : M Ctl) (ds : List D) : Fo := endF (m ⟨ds.map .val ++ List.replicate (n - ds.length) .un, []⟩)
/-- .. with the hand first -/
def runH (n : Nat) (m : M Ctl) (hc ds : List D) : Fo := endF (m ⟨.hnd :: (ds.map .val ++ List.replicate (n - (ds.length + 1)) .un), hc⟩)
theorem start_get (N : List Str) (vs : List V) (i : Nat) : (L2.start N vs).getD i none = (vs[i]?) := by
  unfold L2.start
  rw [List.getD_eq_getElem?_getD]
  by_cases h : i < vs.length
  · rw [List.getElem?_append_left (by simpa using h), List.getElem?_map, List.getElem?_eq_getElem h]; rfl
  · rw [List.getElem?_append_right (by simpa using h), List.getElem?_replicate, List.getElem?_eq_none (by omega)]
    split <;> rfl
theorem vals_get (ds : List D) (n i : Nat) : (ds.map Sl.val ++ List.replicate n Sl.un).getD i .un = match ds[i]? with
    | some d => .val d
    | none => .un := by
  rw [List.getD_eq_getElem?_getD]
  by_cases h : i < ds.length
  · rw [List.getElem?_append_left (by simpa using h), List.getElem?_map, List.getElem?_eq_getElem h]; rfl
  · rw [List.getElem?_append_right (by simpa using h), List.getElem?_replicate, List.getElem?_eq_none (by omega)]
    split <;> rfl
theorem wld_start {T : List (Addr × Str)} {F H : Hp} {N : List Str} {vs : List V} {ds : List D} (le : Le F H) (t : TabF T F H) (r : Rps K F vs ds) (hl : vs.length ≤ N.length) : Wld K T F H none F (L2.start N vs) H ⟨ds.map .val ++ List.replicate (N.length - ds.length) .un, []⟩ := by
  have hn : ∀ i, ((ds.map Sl.val ++ List.replicate (N.length - ds.length) Sl.un).getD i .un).isOwn = false := fun i => by
    rw [vals_get]
    cases ds[i]? <;> rfl
  refine ⟨le, Le.refl _, fun a o e => .inl e, fun a o e => ⟨o, e⟩, fun a o e _ _ => e, t, ?_, fun i => ?_, fun i j p _ h => ?_, fun p e => by cases e⟩
  · have := r.length
    unfold L2.start
    simp only [List.length_append, List.length_map, List.length_replicate]
    omega
  · rw [start_get, vals_get]
    cases q : ds[i]? with
    | none => trivial
    | some d =>
      obtain ⟨v, e, rv⟩ := r.get q
      exact ⟨v, e, rv⟩
  · rw [hn] at h; cases h
theorem wld_startH {T : List (Addr × Str)} {F H : Hp} {N : List Str} {vs hv : List V} {ds hc : List D} {p : Addr} (le : Le F H) (t : TabF T F H) (r : Rps K F vs ds) (hl : vs.length + 1 ≤ N.length) (hp : H p = some (.lst hv)) (hf : F p = none) (rh : Rps K F hv hc) :
    Wld K T F H (some p) F (L2.start N (.ref p :: vs)) H ⟨.hnd :: (ds.map .val ++ List.replicate (N.length - (ds.length + 1)) .un), hc⟩ := by
  have hn : ∀ i, ((Sl.hnd :: (ds.map Sl.val ++ List.replicate (N.length - (ds.length + 1)) Sl.un)).getD i .un).isOwn = false := fun i => by
    cases i with
    | zero => rfl
    | succ i =>
      rw [List.getD_cons_succ, vals_get]
      cases ds[i]? <;> rfl
  refine ⟨le, Le.refl _, fun a o e => .inl e, fun a o e => ⟨o, e⟩, fun a o e _ _ => e, t, ?_, fun i => ?_, fun i j p _ h => ?_, fun q e => by cases e; exact ⟨hf, hv, hp, rh⟩⟩
  · have := r.length
    unfold L2.start
    simp only [List.length_append, List.length_map, List.length_replicate, List.length_cons]
    omega
  · rw [start_get]
    cases i with
    | zero => exact ⟨p, rfl, rfl⟩
    | succ i =>
      show SlR K H (some p) F H (vs[i]?) ((ds.map Sl.val ++ List.replicate (N.length - (ds.length + 1)) Sl.un).getD i .un)
      rw [vals_get]
      cases q : ds[i]? with
      | none => trivial
      | some d =>
        obtain ⟨v, e, rv⟩ := r.get q
        exact ⟨v, e, rv⟩
  · rw [hn] at h; cases h
theorem Wld.toAft {T : List (Addr × Str)} {F H F' H' : Hp} {hd : Option Addr} {σ : L2.St} {S : Sto} (l : Le F F') (w : Wld K T F H hd F' σ H' S) : Aft T hd F H F' H' := ⟨w.le, ⟨l, w.dom, w.keep⟩, w.r1, w.tabs⟩
/-- THE RULE for a def -/
theorem fnP {x qual : Str} {st : Stmt} {f : Addr} {fd : FuncData} {N ps : List Str} {k : Nat} {T : List (Addr × Str)} {m : M Ctl} (F : Fun K x qual st f fd) (S : FnScope N ps (defScope st))
    (hbody : ∀ (cdv : Value) (A : Around) (outer : List Env) (s : Shared) (H : Hp) (E : XK), fd.code = cdv → Fit k (A.deeper (envOfC qual (defScope st) s.heap.objs.size f cdv)) →
      JSs (cxOf (L2.CX P w) P w K mg base N qual (defScope st) f cdv A outer s H E) T (fun c d _ H' => E c d H') (defBody st) m) : FnG P w K mg base (k + 1) f fd ps (spP K T ps.length (runP N.length m)) := by
  have hpl : ps.length ≤ N.length := by have := congrArg List.length S.pre; rw [List.length_take] at this; omega
  refine fnG_raw F S (fun vs H Q E h => by obtain ⟨_, _, h, _⟩ := h; exact h) (fun cdv A outer s H vs Q E hcd hf h => ⟨_, hbody cdv A outer s H E hcd hf, ?_⟩)
  obtain ⟨G, ds, hl, le, t, r, po⟩ := h
  refine ⟨G, H, fun hd => hd = none, none, G, _, rfl, wld_start (N := N) le t r (by omega), ?_⟩
  unfold runP at po
  cases q : m ⟨ds.map .val ++ List.replicate (N.length - ds.length) .un, []⟩ with
  | ok c S' =>
    rw [q] at po
    cases c with
    | nx => exact fun F' σ' H' hd' e l w => by subst e; exact po F' H' .non (w.toAft l) .non
    | bk => exact False.elim po
    | ct => exact False.elim po
    | rt rr =>
      cases rr with
      | v d => exact fun F' σ' H' hd' v e l w r => by subst e; exact po F' H' v (w.toAft l) r
      | l d =>
        intro F' σ' H' hd' v e l w r
        subst e
        obtain ⟨p, us, rfl, e1, e2, e3, e4, r, n⟩ := r
        exact po F' H' p us (w.toAft l) e3 e2 e1 r
  | exc e S' => rw [q] at po; exact fun F' σ' H' hd' dx e l w r => by subst e; exact po F' H' dx (w.toAft l) r
  | stuck => rw [q] at po; exact po
/-- .. for one that gets the hand -/
theorem fnH {x qual : Str} {st : Stmt} {f : Addr} {fd : FuncData} {N ps : List Str} {k n : Nat} {T : List (Addr × Str)} {m : M Ctl} (F : Fun K x qual st f fd) (S : FnScope N ps (defScope st)) (hn : ps.length = n + 1)
    (hbody : ∀ (cdv : Value) (A : Around) (outer : List Env) (s : Shared) (H : Hp) (E : XK), fd.code = cdv → Fit k (A.deeper (envOfC qual (defScope st) s.heap.objs.size f cdv)) →
      JSs (cxOf (L2.CX P w) P w K mg base N qual (defScope st) f cdv A outer s H E) T (fun c d _ H' => E c d H') (defBody st) m) : FnG P w K mg base (k + 1) f fd ps (spH K T n (runH N.length m)) := by
  have hpl : ps.length ≤ N.length := by have := congrArg List.length S.pre; rw [List.length_take] at this; omega
  refine fnG_raw F S (fun vs H Q E h => by obtain ⟨_, _, us, _, _, _, rfl, h, _⟩ := h; rw [List.length_cons, h, hn]) (fun cdv A outer s H vs Q E hcd hf h => ⟨_, hbody cdv A outer s H E hcd hf, ?_⟩)
  obtain ⟨G, hp, us, hv, hc, ds, rfl, hl, le, t, h1, h2, rh, r, po⟩ := h
  refine ⟨G, H, fun hd => hd = some hp, some hp, G, _, rfl, wld_startH (N := N) le t r (by omega) h1 h2 rh, ?_⟩
  unfold runH at po
  cases q : m ⟨.hnd :: (ds.map .val ++ List.replicate (N.length - (ds.length + 1)) .un), hc⟩ with
  | ok c S' =>
    rw [q] at po
    cases c with
    | nx => exact fun F' σ' H' hd' e l w => by subst e; obtain ⟨g, hv', g1, g2⟩ := w.hnd hp rfl; exact po F' H' .non hv' (w.toAft l) g1 g g2 .non
    | bk => exact False.elim po
    | ct => exact False.elim po
    | rt rr =>
      cases rr with
      | v d => exact fun F' σ' H' hd' v e l w r => by subst e; obtain ⟨g, hv', g1, g2⟩ := w.hnd hp rfl; exact po F' H' v hv' (w.toAft l) g1 g g2 r
      | l d =>
        intro F' σ' H' hd' v e l w r
        subst e
        obtain ⟨p, us, rfl, e1, e2, e3, e4, r, n⟩ := r
        obtain ⟨g, hv', g1, g2⟩ := w.hnd hp rfl
        exact po F' H' p us hv' (w.toAft l) g1 g g2 e3 (fun z => e4 (by rw [z])) e2 e1 r
  | exc e S' => rw [q] at po; exact fun F' σ' H' hd' dx e l w r => by subst e; obtain ⟨g, hv', g1, g2⟩ := w.hnd hp rfl; exact po F' H' dx hv' (w.toAft l) g1 g g2 r
  | stuck => rw [q] at po; exact po
end

/-! ### raise X() -/
section
variable {X : Cx} {T : List (Addr × Str)} {W : WX} {pos p pos' : Pos}
/-- X(), an own exception class without own __init__ -/
theorem pmk_own0 {C : Addr} {bmB : List Value} {B newId initId : String} {x : Str} (F : ExcBaseFacts B newId initId bmB) (q : PySem.W.excIn X.K C bmB newId = true) (gC : X.mg x = some (.ref C)) (kC : PySem.W.keepIn X.K (.ref C) = true) (r : Raises X (.ref C)) (hg : Gl X x) (hdb : (x == ("__debug__" : Str)) = false := by decide) :
    PMk X (.Call (.Name x p) [] [] pos) (fun _ H Q => Q (.ref C) none H) := fun pins s σ H Q I h => by
  obtain ⟨bm, N, nm, qn, bs, hdct, sn, sub, ab, col, dd, k0, k1, k2, k3, k5, mN, hC, hN, hni, Tl⟩ := exc_obj I.kIn q
  exact wpAny_Call_Name_kw (ld_glob I hg gC (PySem.W.callWith_K0 I.kIn kC (wpAny_call_exc_subT F Tl hC hN hni (fun h' e hm => mk_of (us := []) I hm r h (I.hok.gone hm.new)) (Nat.zero_le _))) hdb)
/-- an exception class of the text that has no __init__ of its own -/
structure ExCls (K : PySem.W.Frag) (mg : Str → Option Value) (x : Str) (C : Addr) : Prop where
  g : mg x = some (.ref C)
  ex : PySem.W.excIn K C [.type "ValueError", .type "Exception", .type "BaseException", .type "object"] "ValueError.__new__" = true
  kp : PySem.W.keepIn K (.ref C) = true
  sb : PySem.W.subIn K (.ref C) (.type "BaseException") = some true
  ty : PySem.W.typeIn K (.ref C) = some (.type "type")
def raM (C : Addr) : M Ctl := fun S => .exc ⟨C, none⟩ S
theorem js_raise0 {x : Str} {C : Addr} (hc : X.calm = true) (tk : Takes X W) (c : ExCls X.K X.mg x C) (hg : Gl X x) (hdb : (x == ("__debug__" : Str)) = false := by decide) : JS X T W (.Raise (some (.Call (.Name x p) [] [] pos)) none pos') (raM C) :=
  (ps_raise hc tk (pmk_own0 PySem.F.excBase_ValueError c.ex c.g c.kp (raises_own c.sb c.ty) hg hdb)).imp fun E σ H ⟨F0, H0, hk, hd, F, S, hh, w, po⟩ => po F σ H hd none hh (Le.refl _) w rfl
end
end FX

set_option Elab.async false
set_option linter.all false
set_option maxRecDepth 100000
set_option maxHeartbeats 4000000
namespace FX
open PySem PySem.Spec PyProof.Rows L2 LamX

/-! ### what the printed texts lean on -/
theorem fb_len : bootBuiltins "len" = some (.builtin "len") := by decide +kernel
theorem fb_sum : bootBuiltins "sum" = some (.builtin "sum") := by decide +kernel
theorem fb_min : bootBuiltins "min" = some (.builtin "min") := by decide +kernel
theorem fb_max : bootBuiltins "max" = some (.builtin "max") := by decide +kernel
theorem fb_all : bootBuiltins "all" = some (.builtin "all") := by decide +kernel
theorem fb_any : bootBuiltins "any" = some (.builtin "any") := by decide +kernel
theorem fb_abs : bootBuiltins "abs" = some (.builtin "abs") := by decide +kernel
theorem fb_sorted : bootBuiltins "sorted" = some (.builtin "sorted") := by decide +kernel
theorem fb_repr : bootBuiltins "repr" = some (.builtin "repr") := by decide +kernel
theorem fb_int : bootBuiltins "int" = some (.type "int") := by decide +kernel
theorem fb_bool : bootBuiltins "bool" = some (.type "bool") := by decide +kernel
theorem fb_str : bootBuiltins "str" = some (.type "str") := by decide +kernel
theorem fb_tuple : bootBuiltins "tuple" = some (.type "tuple") := by decide +kernel
theorem fb_list : bootBuiltins "list" = some (.type "list") := by decide +kernel
theorem fb_dict : bootBuiltins "dict" = some (.type "dict") := by decide +kernel
theorem fb_ValueError : bootBuiltins "ValueError" = some (.type "ValueError") := by decide +kernel
section
variable {P : Program} {w : World} {K : PySem.W.Frag} {mg : Str → Option Value} {base : Heap} {N : List Str} {qual : Str} {scope : Scope} {f : Addr} {cdv : Value} {A : Around} {outer : List Env} {s : Shared} {H : Hp} {E : XK}
theorem takes_cx : Takes (cxOf (L2.CX P w) P w K mg base N qual scope f cdv A outer s H E) (fun c d _ H' => E c d H') := takes_of rfl rfl rfl rfl
theorem pass_cx : PassesOwn (model (cxOf (L2.CX P w) P w K mg base N qual scope f cdv A outer s H E).prog (cxOf (L2.CX P w) P w K mg base N qual scope f cdv A outer s H E).w) (cxOf (L2.CX P w) P w K mg base N qual scope f cdv A outer s H E).A (cxOf (L2.CX P w) P w K mg base N qual scope f cdv A outer s H E).env (cxOf (L2.CX P w) P w K mg base N qual scope f cdv A outer s H E).xe := passes_of (X := cxOf (L2.CX P w) P w K mg base N qual scope f cdv A outer s H E) rfl
end
section
variable {X : Cx} {T : List (Addr × Str)} {W : WX} {x : Str} {pos : Pos}
theorem jv_glob {i : Int} (hg : Gl X x) (hm : ∃ t, X.mg x = some (.int i t)) (hd : (x == ("__debug__" : Str)) = false := by decide) : JV X T W (.Name x pos) (ret (.int i)) := by
  obtain ⟨t, e⟩ := hm
  exact jv_c (pe_glob hg e (v := .int i) ⟨t, rfl⟩ hd) fun _ => .int i
theorem jv_globS {z : Str} (hg : Gl X x) (hm : ∃ t, X.mg x = some (.str z t)) (hd : (x == ("__debug__" : Str)) = false := by decide) : JV X T W (.Name x pos) (ret (.str z)) := by
  obtain ⟨t, e⟩ := hm
  exact jv_c (pe_glob hg e (v := .str z) ⟨t, rfl⟩ hd) fun _ => .str z
theorem jv_fun {a : Addr} (hg : Gl X x) (hm : X.mg x = some (.ref a)) (hd : (x == ("__debug__" : Str)) = false := by decide) : JV X T W (.Name x pos) (ret (.adr a)) :=
  jv_c (pe_glob hg hm (v := .ref a) rfl hd) fun _ => .adr a
theorem jv_dnew : JV X T W (.Dict [] [] pos) (ret (.dic [])) := jv_d0 pe_dnewK
end
def iadM (i : Nat) (m : M D) : M Ctl := agM i m fun a b => match a, b with
    | .int i, .int j => some (.int (i + j))
    | _, _ => none
def isuM (i : Nat) (m : M D) : M Ctl := agM i m fun a b => match a, b with
    | .int i, .int j => some (.int (i - j))
    | _, _ => none
end FX

set_option Elab.async false
set_option linter.all false
set_option maxRecDepth 100000
set_option maxHeartbeats 4000000
namespace FX
open PySem PySem.Spec PyProof.Rows L2 LamX

/-! ### several things at once, some of them lists of one's own -/
section
variable {K : PySem.W.Frag} {T : List (Addr × Str)} {F0 H0 F H : Hp} {hd : Option Addr} {σ : L2.St} {S : Sto}
/-- a list of one's own taken into the entry: it stays as it is -/
theorem Wld.lay (w : Wld K T F0 H0 hd F σ H S) {p : Addr} {us : List V} (e0 : H0 p = none) (e1 : H p = some (.lst us)) (e2 : F p = none) (no : ∀ i, (S.sl.getD i .un).isOwn = true → σ.getD i none ≠ some (.ref p)) : Wld K T F0 (upd H0 p (.lst us)) hd F σ H S := by
  refine ⟨w.le, w.r0, fun a o e => ?_, fun a o e => ?_, fun a o e n m => ?_, w.tabs, w.len, fun i => ?_, w.sep, w.hnd⟩
  · by_cases hb : a = p
    · subst hb; rw [e2] at e; cases e
    · rw [upd_ne hb]; exact w.r1 a o e
  · by_cases hb : a = p
    · subst hb; exact ⟨_, e1⟩
    · rw [upd_ne hb] at e; exact w.dom a o e
  · by_cases hb : a = p
    · subst hb; rw [upd_same] at e; cases e; exact e1
    · rw [upd_ne hb] at e; exact w.keep a o e n m
  · have z := w.slo i
    have q := no i
    generalize S.sl.getD i .un = sl at z q ⊢
    cases sl with
    | un => trivial
    | val d => exact z
    | clo _ _ _ _ => exact z
    | hnd => exact z
    | own ds =>
      obtain ⟨r, vs, g1, g2, g3, g4, g5, g6⟩ := z
      refine ⟨r, vs, g1, g2, g3, ?_, g5, g6⟩
      rw [upd_ne (fun h => q rfl (by rw [g1, h]))]
      exact g4
theorem Wld.unlay {p : Addr} {us : List V} (w : Wld K T F0 (upd H0 p (.lst us)) hd F σ H S) (e0 : H0 p = none) (f0 : F0 p = none) (n : hd ≠ some p) : Wld K T F0 H0 hd F σ H S ∧ H p = some (.lst us) ∧ F p = none ∧ ∀ i, (S.sl.getD i .un).isOwn = true → σ.getD i none ≠ some (.ref p) := by
  have hk := w.keep p _ upd_same (fun _ z => by cases z) n
  have fp : F p = none := by
    cases q : F p with
    | none => rfl
    | some o =>
      rcases w.r1 p o q with z | z
      · rw [f0] at z; cases z
      · rw [upd_same] at z; cases z
  have ne : ∀ a o, H0 a = some o → a ≠ p := fun a o e h => by rw [h, e0] at e; cases e
  refine ⟨⟨w.le, w.r0, fun a o e => ?_, fun a o e => ?_, fun a o e n m => ?_, w.tabs, w.len, fun i => ?_, w.sep, w.hnd⟩, hk, fp, fun i hi e => ?_⟩
  · rcases w.r1 a o e with z | z
    · exact .inl z
    · by_cases hb : a = p
      · subst hb; exact .inr e0
      · rw [upd_ne hb] at z; exact .inr z
  · exact w.dom a o (by rw [upd_ne (ne a o e)]; exact e)
  · exact w.keep a o (by rw [upd_ne (ne a o e)]; exact e) n m
  · have z := w.slo i
    generalize S.sl.getD i .un = sl at z ⊢
    cases sl with
    | un => trivial
    | val d => exact z
    | clo _ _ _ _ => exact z
    | hnd => exact z
    | own ds =>
      obtain ⟨r, vs, g1, g2, g3, g4, g5, g6⟩ := z
      refine ⟨r, vs, g1, g2, g3, ?_, g5, g6⟩
      by_cases hb : r = p
      · subst hb; exact e0
      · rw [upd_ne hb] at g4; exact g4
  · have z := w.slo i
    generalize S.sl.getD i .un = sl at z hi
    cases sl with
    | un => cases hi
    | val d => cases hi
    | clo _ _ _ _ => cases hi
    | hnd => cases hi
    | own ds =>
      obtain ⟨r, vs, g1, g2, g3, g4, g5, g6⟩ := z
      rw [e] at g1
      cases g1
      rw [upd_same] at g4; cases g4
end
def Rv.isL : Rv → Bool
  | .l _ => true
  | .v _ => false
def RvR (K : PySem.W.Frag) (H0 : Hp) (hd : Option Addr) (F : Hp) (σ : L2.St) (H : Hp) (S : Sto) (v : V) : Rv → Prop
  | .v d => Rp K F v d
  | .l ds => rL K H0 hd F σ H S v ds
def RvsR (K : PySem.W.Frag) (H0 : Hp) (hd : Option Addr) (F : Hp) (σ : L2.St) (H : Hp) (S : Sto) : List V → List Rv → Prop
  | [], [] => True
  | v :: vs, r :: rs => RvR K H0 hd F σ H S v r ∧ RvsR K H0 hd F σ H S vs rs ∧ (r.isL = true → ∀ i, (rs.getD i (.v .non)).isL = true → vs.getD i .non ≠ v)
  | _, _ => False
abbrev rR (K : PySem.W.Frag) : RelT (List V) (List Rv) := fun H0 hd F σ H S vs rs => RvsR K H0 hd F σ H S vs rs
abbrev JR (X : Cx) (T : List (Addr × Str)) (W : WX) (es : List Expr) (f : M (List Rv)) : Prop := PA X es (tG X.K T W (rR X.K) f)
def sqR : List (M Rv) → M (List Rv)
  | [] => ret []
  | m :: ms => bnd m fun r => bnd (sqR ms) fun rs => ret (r :: rs)
def rvM (m : M D) : M Rv := bnd m fun d => ret (.v d)
def rlM (m : M (List D)) : M Rv := bnd m fun d => ret (.l d)
section
variable {X : Cx} {T : List (Addr × Str)} {W : WX} {e : Expr} {es : List Expr} {ms : List (M Rv)}
theorem jr_nil : JR X T W [] (sqR []) := pa_nil.imp fun σ H Q ⟨F0, H0, hd, F, S, w, po⟩ => po_ok po w trivial
theorem jr_v {m : M D} (h : JV X T W e m) (k : JR X T W es (sqR ms)) (hs : starEach (e :: es) X.env = (false, eval e X.env) :: starEach es X.env := by rfl) : JR X T W (e :: es) (sqR (rvM m :: ms)) :=
  (pa_cons h k hs).imp fun σ H Q ⟨F0, H0, hd, F, S, w, po⟩ => by
    unfold sqR rvM at po
    rw [bnd_assoc] at po
    refine ⟨F0, H0, hd, F, S, w, po_bind po fun F1 H1 v d S1 _ u1 w1 r1 po1 => ⟨F0, H0, hd, F1, S1, w1, ?_⟩⟩
    have po1 : Po X.K T W F0 H0 hd σ (rR X.K) Q F1 H1 (bnd (sqR ms) (fun rs => ret (Rv.v d :: rs)) S1) := po1
    exact po_bind po1 fun F2 H2 vs rs S2 _ u2 w2 r2 po2 => po_ok po2 w2 ⟨r1.mono u2.fF, r2, fun z => by cases z⟩
theorem rvs_unlay {K : PySem.W.Frag} {H0 : Hp} {hd : Option Addr} {F : Hp} {σ : L2.St} {H : Hp} {S : Sto} {p : Addr} {us : List V} (e0 : H0 p = none) : ∀ {vs : List V} {rs : List Rv}, RvsR K (upd H0 p (.lst us)) hd F σ H S vs rs → RvsR K H0 hd F σ H S vs rs ∧ ∀ i, (rs.getD i (.v .non)).isL = true → vs.getD i .non ≠ .ref p
  | [], [], _ => ⟨trivial, fun i h => by cases i <;> cases h⟩
  | v :: vs, r :: rs, ⟨h1, h2, h3⟩ => by
    obtain ⟨k1, k2⟩ := rvs_unlay e0 h2
    have hv : RvR K H0 hd F σ H S v r ∧ (r.isL = true → v ≠ .ref p) := by
      cases r with
      | v d => exact ⟨h1, fun z => by cases z⟩
      | l ds =>
        obtain ⟨q, ws, rfl, g1, g2, g3, g4, g5, g6⟩ := h1
        have hq : q ≠ p := fun z => by subst z; rw [upd_same] at g3; cases g3
        rw [upd_ne hq] at g3
        exact ⟨⟨q, ws, rfl, g1, g2, g3, g4, g5, g6⟩, fun _ z => hq (by cases z; rfl)⟩
    refine ⟨⟨hv.1, k1, h3⟩, fun i hi => ?_⟩
    cases i with
    | zero => exact hv.2 hi
    | succ i => exact k2 i hi
theorem jr_l {m : M (List D)} (h : JL X T W e m) (k : JR X T W es (sqR ms)) (hs : starEach (e :: es) X.env = (false, eval e X.env) :: starEach es X.env := by rfl) : JR X T W (e :: es) (sqR (rlM m :: ms)) :=
  (pa_cons h k hs).imp fun σ H Q ⟨F0, H0, hd, F, S, w, po⟩ => by
    unfold sqR rlM at po
    rw [bnd_assoc] at po
    refine ⟨F0, H0, hd, F, S, w, po_bind po fun F1 H1 v ds S1 _ u1 w1 r1 po1 => ?_⟩
    have po1 : Po X.K T W F0 H0 hd σ (rR X.K) Q F1 H1 (bnd (sqR ms) (fun rs => ret (Rv.l ds :: rs)) S1) := po1
    obtain ⟨p, us, rfl, g1, g2, g3, g4, g5, g6⟩ := r1
    have f0 : F0 p = none := by
      cases q : F0 p with
      | none => rfl
      | some o => rw [w1.r0 p o q] at g2; cases g2
    refine ⟨F0, upd H0 p (.lst us), hd, F1, S1, w1.lay g3 g1 g2 g6, ?_⟩
    unfold bnd at po1
    cases q : sqR ms S1 with
    | ok rs S2 =>
      rw [q] at po1
      intro F2 H2 vs u2 w2 r2
      obtain ⟨w3, a1, a2, a3⟩ := w2.unlay g3 f0 g4
      obtain ⟨b1, b2⟩ := rvs_unlay g3 r2
      exact po1 F2 H2 (.ref p :: vs) u2 w3 ⟨⟨p, us, rfl, a1, a2, g3, g4, g5.mono u2.fF, a3⟩, b1, fun _ => b2⟩
    | exc e S2 => rw [q] at po1; exact fun F2 H2 dx u2 w2 r2 => po1 F2 H2 dx u2 (w2.unlay g3 f0 g4).1 r2
    | stuck => rw [q] at po1; exact po1
def Rv.sl : Rv → Sl
  | .v d => .val d
  | .l ds => .own ds
theorem Wld.setR {K : PySem.W.Frag} {F0 H0 F H : Hp} {hd : Option Addr} {σ : L2.St} {S S0 : Sto} {v : V} {r : Rv} (w : Wld K T F0 H0 hd F σ H S) {i : Nat} (z : RvR K H0 hd F σ H S v r) : Wld K T F0 H0 hd F (σ.set i (some v)) H { S with sl := S.sl.set i r.sl } := by
  cases r with
  | v d => exact w.setV z
  | l ds =>
    obtain ⟨p, us, rfl, g1, g2, g3, g4, g5, g6⟩ := z
    exact w.slot (x := some (.ref p)) (s := .own ds) ⟨p, us, rfl, g1, g2, g3, g4, g5⟩ fun _ j q _ hj e => by cases e; exact g6 j hj
theorem RvR.set {K : PySem.W.Frag} {H0 F H : Hp} {hd : Option Addr} {σ : L2.St} {S : Sto} {v u : V} {r t : Rv} {i : Nat} (z : RvR K H0 hd F σ H S v r) (hn : r.isL = true → t.isL = true → u ≠ v) : RvR K H0 hd F (σ.set i (some u)) H { S with sl := S.sl.set i t.sl } v r := by
  cases r with
  | v d => exact z
  | l ds =>
    obtain ⟨p, us, rfl, g1, g2, g3, g4, g5, g6⟩ := z
    refine ⟨p, us, rfl, g1, g2, g3, g4, g5, fun j hj e => ?_⟩
    have hj : ((S.sl.set i t.sl).getD j .un).isOwn = true := hj
    rw [getD_set] at hj e
    by_cases q : i = j ∧ i < S.sl.length
    · rw [if_pos q] at hj
      have ht : t.isL = true := by cases t <;> first | rfl | cases hj
      by_cases q2 : i = j ∧ i < σ.length
      · rw [if_pos q2] at e
        cases e
        exact hn rfl ht rfl
      · rw [if_neg q2, ← q.1, getD_out _ _ _ (by omega)] at e
        cases e
    · rw [if_neg q] at hj
      by_cases q2 : i = j ∧ i < σ.length
      · have : ¬ i < S.sl.length := fun z => q ⟨q2.1, z⟩
        rw [← q2.1, getD_out _ _ _ (by omega)] at hj
        cases hj
      · rw [if_neg q2] at e
        exact g6 j hj e
theorem rvs1 {K : PySem.W.Frag} {H0 F H : Hp} {hd : Option Addr} {σ : L2.St} {S : Sto} {vs : List V} {r : Rv} {rs : List Rv} (h : RvsR K H0 hd F σ H S vs (r :: rs)) : ∃ v us, vs = v :: us ∧ RvR K H0 hd F σ H S v r ∧ RvsR K H0 hd F σ H S us rs ∧ (r.isL = true → ∀ i, (rs.getD i (.v .non)).isL = true → us.getD i .non ≠ v) := by
  cases vs with
  | nil => exact False.elim h
  | cons v us => exact ⟨v, us, rfl, h.1, h.2.1, h.2.2⟩
theorem rvs2 {K : PySem.W.Frag} {H0 F H : Hp} {hd : Option Addr} {σ : L2.St} {S : Sto} {vs : List V} {d e : Rv} (h : RvsR K H0 hd F σ H S vs [d, e]) : ∃ v u, vs = [v, u] ∧ RvR K H0 hd F σ H S v d ∧ RvR K H0 hd F σ H S u e ∧ (d.isL = true → e.isL = true → u ≠ v) := by
  obtain ⟨v, us, rfl, z1, r, z2⟩ := rvs1 h
  obtain ⟨u, ws, rfl, z3, r2, _⟩ := rvs1 r
  cases ws with
  | nil => exact ⟨v, u, rfl, z1, z3, fun a b => z2 a 0 b⟩
  | cons _ _ => exact False.elim r2
def paR2 (i j : Nat) (fs : List (M Rv)) : M Ctl := bnd (sqR fs) fun ds S => match ds with
  | [d, e] => .ok .nx { S with sl := (S.sl.set i d.sl).set j e.sl }
  | _ => .stuck
def paR3 (i j k : Nat) (fs : List (M Rv)) : M Ctl := bnd (sqR fs) fun ds S => match ds with
  | [d, e, f] => .ok .nx { S with sl := ((S.sl.set i d.sl).set j e.sl).set k f.sl }
  | _ => .stuck
theorem js_parR2 {i j : Nat} {x y : Str} {a b : Expr} {px py pt pos : Pos} {kt k2 pt2} {fs : List (M Rv)} (hc : X.calm = true) (hN : X.N.Nodup) (hi : X.N[i]? = some x) (hj : X.N[j]? = some y) (hij : i ≠ j) (hx : X.env.scope.names.lookup x = some .local) (hy : X.env.scope.names.lookup y = some .local) (ha : JR X T W [a, b] (sqR fs))
    (hw : swappedStores [.Tuple [.Name x px, .Name y py] kt pt] (.Tuple [a, b] k2 pt2) X.env = pure (some [x, y])) (hs : swapsWithSole [.Tuple [.Name x px, .Name y py] kt pt] (.Tuple [a, b] k2 pt2) pos.line X.env = pure false := by rfl) :
    JS X T W (.Assign [.Tuple [.Name x px, .Name y py] kt pt] (.Tuple [a, b] k2 pt2) pos) (paR2 i j fs) := (ps_par hc hN hi hj hij hx hy ha hw hs).imp fun E σ H ⟨F0, H0, hk, hd, F, S, hh, w, po⟩ =>
  ⟨F0, H0, hd, F, S, w, poS_bind hh po fun F1 H1 vs ds S1 _ u1 w1 r1 po1 => by
    match ds, r1, po1 with
    | [], _, po1 => exact False.elim po1
    | [_], _, po1 => exact False.elim po1
    | _ :: _ :: _ :: _, _, po1 => exact False.elim po1
    | [d, e], r1, po1 =>
      obtain ⟨v, u, rfl, z1, z2, z4⟩ := rvs2 r1
      exact ⟨_, _, rfl, poS_nx hh po1 (Wld.setR (S0 := S1) (Wld.setR (S0 := S1) w1 z1) (RvR.set z2 fun h1 h2 e => z4 h2 h1 e.symm))⟩⟩
theorem js_parR3 {i j l : Nat} {x y z : Str} {a b c : Expr} {px py pz pt pos : Pos} {kt k2 pt2} {fs : List (M Rv)} (hc : X.calm = true) (hN : X.N.Nodup) (hi : X.N[i]? = some x) (hj : X.N[j]? = some y) (hl : X.N[l]? = some z) (hij : i ≠ j) (hil : i ≠ l) (hjl : j ≠ l) (hx : X.env.scope.names.lookup x = some .local) (hy : X.env.scope.names.lookup y = some .local) (hz : X.env.scope.names.lookup z = some .local) (ha : JR X T W [a, b, c] (sqR fs))
    (hw : swappedStores [.Tuple [.Name x px, .Name y py, .Name z pz] kt pt] (.Tuple [a, b, c] k2 pt2) X.env = pure (some [x, y, z])) (hs : swapsWithSole [.Tuple [.Name x px, .Name y py, .Name z pz] kt pt] (.Tuple [a, b, c] k2 pt2) pos.line X.env = pure false := by rfl) :
    JS X T W (.Assign [.Tuple [.Name x px, .Name y py, .Name z pz] kt pt] (.Tuple [a, b, c] k2 pt2) pos) (paR3 i j l fs) := (ps_par3 hc hN hi hj hl hij hil hjl hx hy hz ha hw hs).imp fun E σ H ⟨F0, H0, hk, hd, F, S, hh, w, po⟩ =>
  ⟨F0, H0, hd, F, S, w, poS_bind hh po fun F1 H1 vs ds S1 _ u1 w1 r1 po1 => by
    match ds, r1, po1 with
    | [], _, po1 => exact False.elim po1
    | [_], _, po1 => exact False.elim po1
    | [_, _], _, po1 => exact False.elim po1
    | _ :: _ :: _ :: _ :: _, _, po1 => exact False.elim po1
    | [d, e, f], r1, po1 =>
      obtain ⟨v, vs', rfl, z1, r2, z4⟩ := rvs1 r1
      obtain ⟨u, t, rfl, z2, z3, z5⟩ := rvs2 r2
      exact ⟨_, _, _, rfl, poS_nx hh po1 (Wld.setR (S0 := S1) (Wld.setR (S0 := S1) (Wld.setR (S0 := S1) w1 z1) (RvR.set z2 fun h1 h2 e => z4 h2 0 h1 e.symm)) (RvR.set (RvR.set z3 fun h1 h2 e => z4 h2 1 h1 e.symm) fun h1 h2 e => z5 h2 h1 e.symm))⟩⟩
end

/-! ### ranges as values -/
section
variable {X : Cx} {T : List (Addr × Str)} {W : WX} {tg e e1 e2 : Expr} {p pos : Pos}
theorem fb_range : bootBuiltins "range" = some (.type "range") := by decide +kernel
theorem cr_range1 : CallR X (.type "range") (fun vs H Q => ∃ j, vs = [V.int j] ∧ ∀ p, H p = none → Q (.ref p) (upd H p (.rng 0 j))) := by
  intro pins s σ H vs us Q I r h
  obtain ⟨j, rfl, q⟩ := h
  obtain ⟨u, rfl, t, rfl⟩ := vals1 r
  exact call_range_1 ⟨.ref s.heap.objs.size, upd H s.heap.objs.size (.rng 0 j), I.laid (t' := s.toks + 1 + 1) (fun b o e => Heap.get?_push_of_some _ e) (Nat.le_refl _) ⟨_, _, _, Heap.get?_push_size _ rfl⟩, rfl, q _ (I.hok.fresh (Nat.le_refl _))⟩
def rng1D : D → Option D
  | .int j => some (.rng 0 j)
  | _ => none
theorem s_rng1 {K : PySem.W.Frag} : Bi1 K (fun vs H Q => ∃ j, vs = [V.int j] ∧ ∀ p, H p = none → Q (.ref p) (upd H p (.rng 0 j))) rng1D := by
  intro hd F H x d1 d Q le rx e a
  unfold rng1D at e
  split at e
  · cases e
    exact ⟨_, by rw [rx.int], fun p hp => a.2 p _ hp (.rng upd_same)⟩
  · cases e
/-- range(e) as a value -/
theorem jv_rng1 {f : M D} (hg : Gl X "range") (hm : X.mg "range" = none) (ha : JB X T W e f) (he : starEach [e] X.env = (false, eval e X.env) :: starEach [] X.env := by rfl) (hpl : (backTo pos (starEach [] X.env)).any (·.1) = false := by rfl) : JV X T W (.Call (.Name "range" p) [e] [] pos) (b1 f rng1D) :=
  jv_t1 cr_range1 s_rng1 hg hm fb_range ha (by decide) (by decide) he hpl
def iRngV (te : TE) : TI := fun σ H R => te σ H fun x H1 => ∃ a lo hi, x = .ref a ∧ H1 a = some (.rng lo hi) ∧ (-(2 ^ 62) ≤ lo ∧ lo < 2 ^ 62 ∧ -(2 ^ 62) ≤ hi ∧ hi < 2 ^ 62) ∧ R (Itr lo (hi - lo).toNat) H1
theorem pi_rngV {te : TE} (he : PE X e te) : PI X tg e (iRngV te) := ⟨fun pins s σ H R I h => thn (he.run pins s σ H _ I h) fun u s1 ⟨v, H1, I1, r1, a, lo, hi, ev, ha, ⟨h1, h2, h3, h4⟩, q⟩ => by
  subst ev
  obtain rfl : u = Value.ref a := r1
  obtain ⟨t1, t2, t3, ho⟩ := I1.hok a _ ha
  refine wpAny_pyIter_range (a := lo) (b := hi) (c := 1) ho (small_one h1 h2 h3 h4) ?_
  refine ⟨s1.heap.objs.size, [s1.heap.objs.size], _, _, H1, rfl, I1.kept (t' := s1.toks) fun b o e => Heap.get?_push_of_some _ e, turn_range _ lo (hi - lo).toNat, ?_, fun b hb => ?_, q⟩
  · have z2 : (((hi - lo).toNat : Nat) : Int) - ((0 : Nat) : Int) = Builtin.Range.rangeSize lo hi 1 := by rw [rangeSize_one]; split <;> omega
    show IsRangeIter _ _ (lo + ((0 : Nat) : Int) * 1) _ 1
    rw [z2, show lo + ((0 : Nat) : Int) * 1 = lo by simp]
    exact Heap.get?_push_size _ rfl
  · rw [List.mem_singleton.mp hb]
    exact I1.fpOk (Nat.le_refl _) (I1.hok.fresh (Nat.le_refl _))⟩
/-- the items of a list, tuple, range -/
def itA (f : M D) : M (List D) := bnd f fun d => match d with
  | .lst ds => ret ds
  | .tup ds => ret ds
  | .scr ds => ret ds
  | .rng lo hi => if -(2 ^ 62) ≤ lo ∧ lo < 2 ^ 62 ∧ -(2 ^ 62) ≤ hi ∧ hi < 2 ^ 62 then ret (rngD lo (hi - lo).toNat) else fun _ => .stuck
  | _ => fun _ => .stuck
theorem ji_rngV {f : M D} (h : JV X T W e f) : JI X T W tg e (itA f) := by
  refine (pi_or (ji_seq (tg := tg) h) (pi_rngV (tg := tg) h)).imp fun σ H Q ⟨F0, H0, hd, F, S, w, po⟩ => ?_
  by_cases hq : ∃ lo hi S1, f S = .ok (.rng lo hi) S1
  · obtain ⟨lo, hi, S1, q⟩ := hq
    refine .inr ⟨F0, H0, hd, F, S, w, po_bind po fun F1 H1 x d S1' q' u1 w1 r1 po1 => ?_⟩
    rw [q] at q'
    cases q'
    cases r1 with
    | rng h =>
      by_cases hb : -(2 ^ 62) ≤ lo ∧ lo < 2 ^ 62 ∧ -(2 ^ 62) ≤ hi ∧ hi < 2 ^ 62
      · have po2 : Po X.K T W F0 H0 hd σ (rI X.K) Q F1 H1 ((if -(2 ^ 62) ≤ lo ∧ lo < 2 ^ 62 ∧ -(2 ^ 62) ≤ hi ∧ hi < 2 ^ 62 then ret (rngD lo (hi - lo).toNat) else fun _ => .stuck) S1) := po1
        rw [if_pos hb] at po2
        exact ⟨_, lo, hi, rfl, w1.le _ _ h, hb, po_ok po2 w1 src_rng⟩
      · have po2 : Po X.K T W F0 H0 hd σ (rI X.K) Q F1 H1 ((if -(2 ^ 62) ≤ lo ∧ lo < 2 ^ 62 ∧ -(2 ^ 62) ≤ hi ∧ hi < 2 ^ 62 then ret (rngD lo (hi - lo).toNat) else fun _ => .stuck) S1) := po1
        rw [if_neg hb] at po2
        exact False.elim po2
  · refine .inl ⟨F0, H0, hd, F, S, w, ?_⟩
    have e1 : itM f S = itA f S := by
      unfold itM itA bnd
      cases q : f S with
      | ok d S1 =>
        cases d with
        | rng lo hi => exact absurd ⟨lo, hi, S1, q⟩ hq
        | _ => rfl
      | exc _ _ => rfl
      | stuck => rfl
    rw [e1]
    exact po
end

/-! ### repr -/
section
variable {X : Cx}
theorem toP_noDict : (∀ d : D, ∀ p, toP d = some p → p.hasDict = false) := by
  intro d
  refine D.rec (motive_1 := fun d => ∀ p, toP d = some p → p.hasDict = false) (motive_2 := fun ds => ∀ ps, toPs ds = some ps → PyData.hasDictAll ps = false) (motive_3 := fun _ => True) (motive_4 := fun _ => True) ?_ ?_ ?_ ?_ ?_ ?_ ?_ ?_ ?_ ?_ ?_ ?_ ?_ ?_ ?_ ?_ ?_ d
  · intro p h; cases h; rfl
  · intro b p h; cases h; rfl
  · intro b p h; cases h; rfl
  · intro b p h; cases h; rfl
  · intro ds ih p h
    simp only [toP, Option.map_eq_some_iff] at h
    obtain ⟨ps, h1, rfl⟩ := h
    exact ih ps h1
  · intro ds ih p h
    simp only [toP, Option.map_eq_some_iff] at h
    obtain ⟨ps, h1, rfl⟩ := h
    exact ih ps h1
  · intro _ _ p h; cases h
  · intro _ _ p h; cases h
  · intro _ p h; cases h
  · intro _ p h; cases h
  · intro _ p h; cases h
  · intro _ _ p h; cases h
  · intro ps h; cases h; rfl
  · intro d ds h1 h2 ps h
    unfold toPs at h
    split at h
    · rename_i q qs a1 a2
      cases h
      simp only [PyData.hasDictAll, h1 _ a1, h2 _ a2, Bool.or_self]
    · cases h
  · trivial
  · intro _ _ _ _; trivial
  · intro _ _ _; trivial
abbrev rRepr (K : PySem.W.Frag) : List V → Hp → VK → Prop := fun xs H Q => ∃ v p, xs = [v] ∧ Dp K H v p ∧ p.showable = true ∧ p.hasDict = false ∧ p.depth ≤ 60 ∧ p.shown.length ≤ sizeLine ∧ Q (.str p.shown) H
theorem c_repr (hg : X.A.guards = some []) (hu : X.A.units + 64 < cLine) : CallR X (.builtin "repr") (rRepr X.K) := by
  intro pins s σ H xs us Q I r h
  obtain ⟨v, p, rfl, hd, hs, hn, hdp, hz, q⟩ := h
  obtain ⟨u, rfl, rv⟩ := vals1 r
  obtain ⟨as, rd⟩ := Dp.reads I p v u hd rv
  cases rd with
  | none => exact PySem.P.repr_of_none ⟨.str _, H, I.tok _, ⟨_, rfl⟩, q⟩
  | bool b => exact PySem.P.repr_of_bool ⟨.str _, H, I.tok _, ⟨_, rfl⟩, q⟩
  | int i t => exact PySem.P.repr_of_int (of_decide_eq_true hs) ⟨.str _, H, I.tok _, ⟨_, rfl⟩, q⟩
  | str x t => exact PySem.P.repr_of_str ⟨.str _, H, I.tok _, ⟨_, rfl⟩, q⟩ hz
  | list h1 h2 h3 h4 =>
    refine repr_of_reads' (Reads.list h1 h2 h3 h4) hs (PyData.noDict_hsm hn) hg (by omega) (fun _ _ e => e) (fun h' u tk hk => ⟨.str _, H, I.kept hk, ⟨_, rfl⟩, q⟩) hz
  | tuple h1 h2 h3 h4 =>
    refine repr_of_reads' (Reads.tuple h1 h2 h3 h4) hs (PyData.noDict_hsm hn) hg (by omega) (fun _ _ e => e) (fun h' u tk hk => ⟨.str _, H, I.kept hk, ⟨_, rfl⟩, q⟩) hz
  | dict h1 h2 h3 h4 h5 => cases hn
def reprD (d : D) : Option D := match toP d with
  | some p => if p.showable = true ∧ p.depth ≤ 60 ∧ p.shown.length ≤ sizeLine then some (.str p.shown) else none
  | none => none
theorem s_repr {K : PySem.W.Frag} : Bi1 K (rRepr K) reprD := by
  intro hd F H x d1 d Q le rx e a
  unfold reprD at e
  split at e
  · rename_i p hp
    split at e
    · rename_i h
      cases e
      exact ⟨x, p, rfl, rx.dp le hp, h.1, toP_noDict _ _ hp, h.2.1, h.2.2, a.1 _ (.str _)⟩
    · cases e
  · cases e
end
end FX

set_option Elab.async false
set_option linter.all false
set_option maxRecDepth 100000
set_option maxHeartbeats 4000000
namespace FX
open PySem PySem.Spec PyProof.Rows L2 LamX

/-! ### an exception caught is a thing like others -/
/-- an exception object of the class C at a -/
def xO (C a : Addr) (d : Option Addr) : HO := .ext fun h => ∃ oe vs, h.get? a = some oe ∧ Zc (.ref C) d oe ∧ oe.data = .fields vs
section
variable {X : Cx} {pins : List (Addr × Obj)} {σ : L2.St} {H : Hp} {s : Shared} {a C : Addr} {oe : Obj} {vs : Array Value}
theorem inv_track (I : Inv X pins σ H s) (ha : s.heap.get? a = some oe) {d : Option Addr} (hz : Zc (.ref C) d oe) (hd : oe.data = .fields vs) (na : H a = none) (n0 : X.s_0.heap.get? a = none) (nL : a ≠ X.env.locals) (np : ∀ p ∈ X.pn ++ pins, p.1 ≠ a) : Inv X pins σ (upd H a (xO C a d)) s := by
  have up : ∀ {b : Addr} {o : HO}, H b = some o → upd H a (xO C a d) b = some o := fun {b o} e => by rw [upd_ne (ne_of_none e na)]; exact e
  have fr : ∀ {b : Addr}, b ≠ a → H b = none → upd H a (xO C a d) b = none := fun {b} n e => by rw [upd_ne n]; exact e
  refine { I with base := ?_, free := fr (Ne.symm nL) I.free, freeC := fun x c e => fr (fun z => ?_) (I.freeC x c e), pin := fun p hp => ?_, hok := ?_ }
  · refine { I.base with free := fun b u e n x => fr (fun z => ?_) (I.base.free b u e n x), tups := fun b xs e => up (I.base.tups b xs e), frzs := fun b o u e => up (I.base.frzs b o u e), tbls := fun b ps e => ?_ }
    · subst z; rw [n0] at e; cases e
    · obtain ⟨m, q⟩ := I.base.tbls b ps e
      exact ⟨m, up q⟩
  · subst z
    obtain ⟨v, o, ho, hv⟩ := I.cell x c e
    rw [ha] at ho
    cases ho
    rw [hd] at hv; cases hv
  · obtain ⟨q1, q2, q3, q4, q5⟩ := I.pin p hp
    exact ⟨q1, fr (np p hp) q2, q3, q4, q5⟩
  · exact L2.HOk.laidN I.hok (fun _ _ q => q) na ⟨⟨oe, vs, ha, hz, hd⟩, ⟨oe, ha⟩, fun _ _ ⟨o, v, q, r⟩ k => ⟨o, v, k o q, r⟩⟩
theorem inv_in (I : Inv X pins σ H s) (a : Addr) : Inv (X.suite a (X.pn ++ pins)) [] σ H s :=
  ⟨I.ok.suite _ _, I.os, I.bare, I.base, I.loc, I.cell, I.free, I.freeC, fun p hp => I.pin p (by rw [List.append_nil] at hp; exact hp), I.hok, I.len⟩
theorem inv_out {pn' : List (Addr × Obj)} (I : Inv (X.suite a (X.pn ++ pins)) pn' σ H s) (ok : X.Ok) : Inv X pins σ H s :=
  ⟨ok, I.os, I.bare, I.base, I.loc, I.cell, I.free, I.freeC, fun p hp => I.pin p (List.mem_append_left _ hp), I.hok, I.len⟩
end
/-- what the clause makes of an exception of the body -/
def wTr (K : PySem.W.Frag) (c : Value) (i : Nat) (ts : TS) (Wout : WX) (E : Ends) : WX := fun cls d σ H => ∃ b, PySem.W.exmOne K cls c = some b ∧
  (b = true → ∃ C, cls = .ref C ∧ ∀ a, H a = none → ts { nx := fun σ' H' => E.nx (σ'.set i none) H', rt := E.rt, bk := fun σ' H' => E.bk (σ'.set i none) H', ct := fun σ' H' => E.ct (σ'.set i none) H' } (σ.set i (some (.ref a))) (upd H a (xO C a d))) ∧
  (b = false → Wout cls d σ H)
section
variable {X : Cx} {x n : Str} {c : Value} {i : Nat} {body suite : List Stmt} {b0 : Stmt} {np pos pos' : Pos} {tb : WX → TS} {ts : TS} {Wout : WX}
theorem ps_try_tr (hs : X.stack = X.env :: X.outer) (hf : X.env.frame = some X.env.locals) (hex : X.ex = []) (hN : X.N.Nodup) (hi : X.N[i]? = some n) (hln : X.env.kindOf n = some .local) (hc : L2.Names X x c) (tk : Takes X Wout)
    (hb : ∀ (W : WX) (pn : List (Addr × Obj)) (xe : Value → Shared → Prop), Takes (X.tr pn xe) W → PassesOwn (model X.prog X.w) X.A X.env xe → PSs (X.tr pn xe) body (tb W))
    (hsu : ∀ (a : Addr) (pn : List (Addr × Obj)), PSs (X.suite a pn) (b0 :: suite) ts) :
    PS X (.Try body [.ExceptHandler (some (.Name x np)) (some n) (b0 :: suite) pos'] [] [] pos) (fun E σ H => tb (wTr X.K c i ts Wout E) E σ H) := by
  constructor
  intro pins s σ H E I h
  have ok := I.ok
  have hfr : X.A.frames = some (X.env :: X.outer) := by rw [ok.frames, hs]
  apply wpAny_Try_except
  have run := (hb (wTr X.K c i ts Wout E) (X.pn ++ pins) (fun e s1 => wpAny (model X.prog X.w) X.A (noteFrame e X.env) (fun _ s2 => wpAny (model X.prog X.w) X.A (setFlight e none) (fun _ s3 =>
    wpAny (model X.prog X.w) X.A (handleBy e X.env [.ExceptHandler (some (.Name x np)) (some n) (b0 :: suite) pos']) (SP X pins E) X.xe s3) X.xe s2) X.xe s1) ?takes PassesOwn.looking).run [] s σ H E (I.toTry _) h
  case takes =>
    rintro u s' ⟨a, B, sI, pins', τ, G, cls, d, rfl, J', nb, rise, sky, na, eos, bare, b, ex, yes, no⟩
    have J : Inv X pins τ G sI := J'.ofTry ok
    show wpAny (model X.prog X.w) X.A (noteFrame (.ref a) X.env) _ _ _
    refine Sky.land Zc.steady hfr hf (by rw [← hs]; exact sky) fun g fl rise2 => ?_
    have Jg : Inv X pins τ G { s' with heap := g } := J.landed nb fl.1 (rise.trans rise2) eos bare
    obtain ⟨o3, v3, at3, z3, d3⟩ := fl.there
    -- a stands nowhere else
    have aFr : a ∉ frs (X.env :: X.outer) := fun hm => by
      obtain ⟨_, o', e', hnf⟩ := fl.2.2.1.mem hm
      rw [at3] at e'; cases e'
      exact hnf _ d3
    have aL : a ≠ X.env.locals := fun z => aFr (List.mem_filterMap.mpr ⟨X.env, List.mem_cons_self, by rw [hf, z]⟩)
    have aF : a ∉ X.fs := fun hm => by
      obtain ⟨e, he, q⟩ := List.mem_filterMap.mp hm
      exact aFr (List.mem_filterMap.mpr ⟨e, List.mem_cons_of_mem _ he, q⟩)
    have aB : ∀ o, sI.heap.get? a ≠ some o := fun o e => by
      have := nb a o e (by rw [hs]; exact aFr)
      rw [fl.2.1] at this; cases this
    have a0 : X.s_0.heap.get? a = none := by
      cases q : X.s_0.heap.get? a with
      | none => rfl
      | some o =>
        obtain ⟨o', e⟩ := J.base.there a o q (by rw [hex]; exact fun z => nomatch z)
        exact absurd e (aB o')
    have aP : ∀ p ∈ X.pn ++ pins, p.1 ≠ a := fun p hp z => aB p.2 (by rw [← z]; exact (J.pin p hp).1)
    have S3 := Jg.suite at3 d3 na aL aF
    refine wpAny_handleBy_cons (codeAny_handlers_test ?_) (by intro q; cases q)
    have LT : PySem.W.Looks (model X.prog X.w) g (typeOf (.ref a)) cls := fun A Q E s k q => wpAny_typeOf_ref (k _ _ at3) (by rw [z3.1]; exact q)
    have LM := PySem.W.exm_one (M := model X.prog X.w) Jg.kIn LT ex
    have test : ∀ {Q E : Value → Shared → Prop}, Q c { s' with heap := g } → wpAny (model X.prog X.w) (X.A.mark (some (.ref a))) (eval (.Name x np) X.env) Q E { s' with heap := g } := fun {Q E} q => by
      rcases hc with ⟨hg, hdbg, hm | ⟨hm, hv, hnn⟩⟩
      · exact ld_glob (X := X.suite a ((a, o3) :: (X.pn ++ pins))) S3 hg hm q hdbg
      · exact ld_blt (X := X.suite a ((a, o3) :: (X.pn ++ pins))) S3 hg hm hv q hnn hdbg
    refine test (LM.here ?_)
    by_cases hbt : b = true
    · subst hbt
      obtain ⟨C, rfl, go⟩ := yes rfl
      refine codeAny_handlers_suite_as (HandSPX.lands_againZ fl fun g4 fl4 rise4 => ?_)
      have J4 : Inv X pins τ G { s' with heap := g4 } := J.landed nb fl4.1 ((rise.trans rise2).trans rise4) eos bare
      obtain ⟨o4, v4, at4, z4, d4⟩ := fl4.there
      refine store_ok (X := X.suite a (X.pn ++ pins)) (v := .ref a) (inv_in (inv_track J4 at4 z4 d4 na a0 aL aP) a) hN hi (.inl hln) rfl (fun s5 S5 => ?_) (.inr hln)
      have fin : ∀ {τ6 : L2.St} {G6 : Hp} {s6 : Shared} {Q : Shared → Prop}, Inv (X.suite a (X.pn ++ pins)) [] τ6 G6 s6 → (∀ s7, Inv X pins (τ6.set i none) G6 s7 → Q s7) →
          wpAny (model X.prog X.w) X.A (do bindName X.env n .none; unbindBehindTheSuite X.env n pos') (fun _ s7 => Q s7) X.xe s6 := fun S6 hq => gone_ok (inv_out S6 ok) hN hi hln hq
      refine wpAny_mono ((hsu a (X.pn ++ pins)).run [] s5 _ _ _ S5 (go a na)) (fun f s6 q => ?_) fun _ _ z => False.elim z
      match f, q with
      | .next, ⟨_, _, S6, q⟩ => exact fin S6 fun _ J7 => ⟨_, _, J7, q⟩
      | .brk, ⟨_, _, S6, q⟩ => exact fin S6 fun _ J7 => ⟨_, _, J7, q⟩
      | .cont, ⟨_, _, S6, q⟩ => exact fin S6 fun _ J7 => ⟨_, _, J7, q⟩
      | .ret _, ⟨_, _, _, S6, r, q⟩ => exact fin S6 fun _ J7 => ⟨_, _, _, J7, r, q⟩
    · have hbf : b = false := by cases b <;> first | rfl | exact absurd rfl hbt
      subst hbf
      show wpAny _ X.A (handleBy (.ref a) X.env []) _ _ _
      apply wpAny_handleBy_nil
      obtain ⟨_, _, _, oo, oos, _, _, _, e1, _, e3, e4, _⟩ := id fl
      unfold PySem.passOn
      refine wpAny_bind (wpAny_field e1 e3 e4 ?_)
      rw [if_neg (by simp)]
      have fly : wpAny (model X.prog X.w) X.A (setFlight (.ref a) X.env.frame) (fun _ s4 => wpAny (model X.prog X.w) X.A (throw (.ref a) : Sem Flow) (SP X pins E) X.xe s4) X.xe { s' with heap := g } := by
        rw [hf]
        exact HandSPX.setFlight_upZ fl fun g4 hh rise4 => wpAny_throw (tk _ _ ⟨a, B, sI, pins, τ, G, cls, d, rfl, J, nb, (rise.trans rise2).trans rise4, .inr (.inr (by rw [hs]; exact hh)), na, eos, bare, no rfl⟩)
      first
        | exact wpAny_bind (wpAny_pure (wpAny_bind fly))
        | exact wpAny_bind fly
  refine wpAny_mono run (fun f s1 q => ?_) fun _ _ z => z
  match f, q with
  | .next, ⟨_, _, J, q⟩ => exact wpAny_execs_nil ⟨_, _, J.ofTry ok, q⟩
  | .brk, ⟨_, _, J, q⟩ => exact ⟨_, _, J.ofTry ok, q⟩
  | .cont, ⟨_, _, J, q⟩ => exact ⟨_, _, J.ofTry ok, q⟩
  | .ret _, ⟨_, _, _, J, r, q⟩ => exact ⟨_, _, _, J.ofTry ok, r, q⟩
end

/-! ### .. as data -/
/-- try: mb / except (sub) as slot i: ms -/
def tryM (sub : Addr → Option Bool) (i : Nat) (mb ms : M Ctl) : M Ctl := fun S => match mb S with
  | .exc e S1 => (match sub e.cls with
    | some true => (match ms { S1 with sl := S1.sl.set i (.val (.exc e)) } with
      | .ok c S2 => .ok c { S2 with sl := S2.sl.set i .un }
      | _ => .stuck)
    | some false => .exc e S1
    | none => .stuck)
  | r => r
def exOf (K : PySem.W.Frag) (C a : Addr) : Option Bool := PySem.W.exmOne K (.ref a) (.ref C)
section
variable {X : Cx} {T : List (Addr × Str)} {W : WX} {x n : Str} {C : Addr} {i : Nat} {body suite : List Stmt} {b0 : Stmt} {np pos pos' : Pos} {mb ms : M Ctl}
theorem js_try (hs : X.stack = X.env :: X.outer) (hf : X.env.frame = some X.env.locals) (hex : X.ex = []) (hN : X.N.Nodup) (hi : X.N[i]? = some n) (hln : X.env.kindOf n = some .local) (hc : L2.Names X x (.ref C)) (tk : Takes X W)
    (hb : ∀ (W' : WX) (pn : List (Addr × Obj)) (xe : Value → Shared → Prop), Takes (X.tr pn xe) W' → PassesOwn (model X.prog X.w) X.A X.env xe → JSs (X.tr pn xe) T W' body mb)
    (hsu : ∀ (a : Addr) (pn : List (Addr × Obj)), JSs (X.suite a pn) T (fun _ _ _ _ => False) (b0 :: suite) ms) :
    JS X T W (.Try body [.ExceptHandler (some (.Name x np)) (some n) (b0 :: suite) pos'] [] [] pos) (tryM (exOf X.K C) i mb ms) :=
  (ps_try_tr (tb := fun W' => tS X.K T W' mb) (ts := tS X.K T (fun _ _ _ _ => False) ms) hs hf hex hN hi hln hc tk hb hsu).imp fun E σ H ⟨F0, H0, hk, hd, F, S, hh, w, po⟩ => by
    refine ⟨F0, H0, hk, hd, F, S, hh, w, ?_⟩
    unfold tryM at po
    cases q : mb S with
    | ok c S1 =>
      rw [q] at po
      cases c with
      | rt r => cases r <;> exact po
      | _ => exact po
    | stuck => rw [q] at po; exact po
    | exc e S1 =>
      rw [q] at po
      intro F1 σ1 H1 hd1 dx hh1 l1 w1 r1
      cases q2 : exOf X.K C e.cls with
      | none => simp only [q2] at po; exact False.elim po
      | some b =>
        refine ⟨b, q2, fun hb => ?_, fun hb => ?_⟩
        · subst hb
          simp only [q2] at po
          refine ⟨e.cls, rfl, fun a ha => ?_⟩
          obtain ⟨w2, u2⟩ := w1.newF (xO e.cls a dx) ha (fun ps z => by unfold xO at z; cases z)
          have w3 := w2.setV (i := i) (v := .ref a) (d := .exc e) (.exc upd_same (fun _ z => z) (r1.mono u2.fF))
          refine ⟨F0, H0, hk, hd1, _, _, hh1, w3, ?_⟩
          cases q3 : ms { S1 with sl := S1.sl.set i (.val (.exc e)) } with
          | ok c S2 =>
            rw [q3] at po
            cases c with
            | nx => exact fun F3 σ3 H3 hd3 hh3 l3 w4 => po F3 _ H3 hd3 hh3 (l1.trans (u2.fF.trans l3)) (w4.slot (x := none) (s := .un) trivial fun z => by cases z)
            | bk => exact fun F3 σ3 H3 hd3 hh3 l3 w4 => po F3 _ H3 hd3 hh3 (l1.trans (u2.fF.trans l3)) (w4.slot (x := none) (s := .un) trivial fun z => by cases z)
            | ct => exact fun F3 σ3 H3 hd3 hh3 l3 w4 => po F3 _ H3 hd3 hh3 (l1.trans (u2.fF.trans l3)) (w4.slot (x := none) (s := .un) trivial fun z => by cases z)
            | rt r =>
              cases r with
              | v d => exact fun F3 σ3 H3 hd3 v hh3 l3 w4 r4 => po F3 _ H3 hd3 v hh3 (l1.trans (u2.fF.trans l3)) (w4.slot (i := i) (x := none) (s := .un) trivial fun z => by cases z) r4
              | l ds =>
                intro F3 σ3 H3 hd3 v hh3 l3 w4 r4
                obtain ⟨p, us, rfl, g1, g2, g3, g4, g5, g6⟩ := r4
                refine po F3 (σ3.set i none) H3 hd3 _ hh3 (l1.trans (u2.fF.trans l3)) (w4.slot (x := none) (s := .un) trivial fun z => by cases z) ⟨p, us, rfl, g1, g2, g3, g4, g5, fun j hj z => ?_⟩
                have hj : ((S2.sl.set i .un).getD j .un).isOwn = true := hj
                rw [getD_set] at hj z
                by_cases y : i = j ∧ i < S2.sl.length
                · rw [if_pos y] at hj; cases hj
                · rw [if_neg y] at hj
                  by_cases y2 : i = j ∧ i < σ3.length
                  · rw [if_pos y2] at z; cases z
                  · rw [if_neg y2] at z; exact g6 j hj z
          | exc _ _ => rw [q3] at po; exact False.elim po
          | stuck => rw [q3] at po; exact False.elim po
        · subst hb
          simp only [q2] at po
          exact po F1 σ1 H1 hd1 dx hh1 l1 w1 r1
end

/-! ### isinstance of an exception -/
def excCB (K : PySem.W.Frag) (D : Addr) : Bool := decide (PySem.W.findIn K (.ref D) "__getattribute__" = some (some (.builtin "BaseException.__getattribute__"))) && (decide (PySem.W.findIn K (.ref D) "__getattr__" = some none) && (decide (PySem.W.subIn K (.ref D) (.type "BaseException") = some true) && (PySem.W.hasDictIn K D && (decide (PySem.W.findIn K (.ref D) "__class__" = some (some (.builtin "object.__class__"))) &&
  (decide (PySem.W.specialIn K (.builtin "object.__class__") "__get__" = some (some (.builtin "getset_descriptor.__get__"))) && (decide (PySem.W.takesIn K (.builtin "object.__class__") = some true) && decide (PySem.W.mroIn K D (.type "object") = some true)))))))
theorem excCB_ok {K : PySem.W.Frag} {D : Addr} (h : excCB K D = true) : L2.ExcC K D := by
  unfold excCB at h
  simp only [Bool.and_eq_true, decide_eq_true_eq] at h
  obtain ⟨h1, h2, h3, h4, h5, h6, h7, h8⟩ := h
  exact ⟨h1, h2, h3, h4, h5, h6, h7, h8⟩
abbrev rIsX (K : PySem.W.Frag) (cv : Value) : List V → Hp → VK → Prop := fun xs H Q => ∃ (a C : Addr) (φ : Heap → Prop) (c : V) (b : Bool), xs = [.ref a, c] ∧ H a = some (.ext φ) ∧ (∀ h, φ h → ∃ oe vs, h.get? a = some oe ∧ Zc (.ref C) none oe ∧ oe.data = .fields vs) ∧ L2.ExcC K C ∧
  (∀ u, RelV c u → u = cv) ∧ PySem.W.kitOne K (.ref C) cv = some b ∧ Q (.bl b) H
theorem call_isX {X : Cx} {cv : Value} : CallR X (.builtin "isinstance") (rIsX X.K cv) := by
  intro pins s σ H xs us Q I r h
  obtain ⟨a, C, φ, c, b, rfl, ha, hφ, hC, hcv, e, q⟩ := h
  obtain ⟨u, w, rfl, r1, r2⟩ := vals2 r
  obtain rfl : u = Value.ref a := r1
  obtain rfl : w = cv := hcv _ r2
  obtain ⟨hq, _, _⟩ := I.hok a _ ha
  obtain ⟨oe, vs, hget, hz, hv⟩ := hφ _ hq
  have J : PySem.W.InstAt s.heap a oe C none := by
    obtain ⟨oc, od, oda, osl⟩ := oe
    obtain ⟨h1, h2⟩ := hz
    dsimp only at h1 h2 hv
    subst h1 h2 hv
    exact ⟨hget, rfl, rfl, trivial⟩
  exact PySem.W.kia_one (PySem.W.handS_kitx_exc hC.hg hC.hk hC.hs hC.hd hC.ha hC.hn hC.ht hC.hm) I.kIn J e (fun z => nomatch z) fun tk => ⟨.bl b, H, I.kept (t' := tk) fun _ _ z => z, rfl, q⟩
def isxD (K : PySem.W.Frag) (cv : Value) : D → Option D
  | .exc e => if e.fs.isNone = true ∧ excCB K e.cls = true then (PySem.W.kitOne K (.ref e.cls) cv).map .bl else none
  | _ => none
section
variable {X : Cx} {T : List (Addr × Str)} {W : WX} {p pos : Pos}
theorem jv_isx {a c : Expr} {fa : M D} {cV : V} {cv : Value} (hg : Gl X "isinstance") (hm : X.mg "isinstance" = none) (ha : JV X T W a fa) (hc : PE X c (tC cV)) (hcv : ∀ u, RelV cV u → u = cv)
    (he : starEach [a, c] X.env = (false, eval a X.env) :: starEach [c] X.env := by rfl) (he1 : starEach [c] X.env = (false, eval c X.env) :: starEach [] X.env := by rfl) (hpl : (backTo pos (starEach [c] X.env)).any (·.1) = false := by rfl) : JV X T W (.Call (.Name "isinstance" p) [a, c] [] pos) (b1 fa (isxD X.K cv)) :=
  (pe_callB (call_isX (cv := cv)) hg hm (by decide +kernel) (pa_cons ha (pa_cons hc pa_nil he1) he) (by decide) (by decide) he hpl).imp fun σ H Q ⟨F0, H0, hd, F, S, w, po⟩ =>
    ⟨F0, H0, hd, F, S, w, po_bind po fun F1 H1 v d S1 _ u1 w1 r1 po1 => by
      obtain ⟨z, e, po2⟩ := po_lf po1
      cases d with
      | exc ex =>
        have e : (if ex.fs.isNone = true ∧ excCB X.K ex.cls = true then (PySem.W.kitOne X.K (.ref ex.cls) cv).map D.bl else none) = some z := e
        by_cases h : ex.fs.isNone = true ∧ excCB X.K ex.cls = true
        · rw [if_pos h, Option.map_eq_some_iff] at e
          obtain ⟨b, e1, rfl⟩ := e
          cases r1 with
          | exc h1 h2 h3 =>
            have hfs : ex.fs = none := by
              cases q : ex.fs with
              | none => rfl
              | some _ => rw [q] at h; cases h.1
            unfold XcR at h3
            rw [hfs] at h3
            have h3 : _ = none := h3
            subst h3
            exact ⟨_, ex.cls, _, cV, b, rfl, w1.le _ _ h1, h2, excCB_ok h.2, hcv, e1, po_ok po2 w1 (.bl _)⟩
        · rw [if_neg h] at e; cases e
      | _ => cases e⟩
theorem rel_ref {a : Addr} : ∀ u, RelV (V.ref a) u → u = Value.ref a := fun _ h => h
theorem rel_ty {n : String} : ∀ u, RelV (V.ty n) u → u = Value.type n := fun _ h => h
theorem pe_cls {x : Str} {C : Addr} (hg : Gl X x) (hm : X.mg x = some (.ref C)) (hd : (x == ("__debug__" : Str)) = false := by decide) : PE X (.Name x p) (tC (.ref C)) := pe_glob hg hm rfl hd
end
end FX

set_option Elab.async false
set_option linter.all false
set_option maxRecDepth 100000
set_option maxHeartbeats 4000000
namespace FX
open PySem PySem.Spec PyProof.Rows L2 LamX

/-! ### tables of code objects that grow -/
theorem among_more {pos : Pos} {cv : Value} (l m : List Value) (ht : TriplesOk l) (h : codeAmong pos l = some cv) : codeAmong pos (l ++ m) = some cv := by
  fun_induction TriplesOk l with
  | case1 => simp [codeAmong] at h
  | case2 a t b u x rest ih =>
    simp only [List.cons_append, codeAmong] at h ⊢
    split at h
    · rename_i q; rw [if_pos q]; exact h
    · rename_i q; rw [if_neg q]; exact ih ht h
  | case3 l h1 h2 => exact ht.elim
theorem among_new {pos : Pos} {c : Value} (l : List Value) (ht : TriplesOk l) (h : codeAmong pos l = none) : codeAmong pos (l ++ [rawInt pos.line, rawInt pos.col, c]) = some c := by
  fun_induction TriplesOk l with
  | case1 => simp [codeAmong, rawInt]
  | case2 a t b u x rest ih =>
    simp only [List.cons_append, codeAmong] at h ⊢
    split at h
    · cases h
    · rename_i q; rw [if_neg q]; exact ih ht h
  | case3 l h1 h2 => exact ht.elim
/-- a heap that grows, its tables too -/
structure Grow (H H' : Hp) : Prop where
  keep : ExtN H H'
  dom : ∀ a o, H a = some o → ∃ u, H' a = some u
theorem Grow.refl {H : Hp} : Grow H H := ⟨ExtN.refl H, fun _ o h => ⟨o, h⟩⟩
theorem Wld.grow {K : PySem.W.Frag} {T : List (Addr × Str)} {F0 H0 F H H' : Hp} {hd : Option Addr} {σ : L2.St} {S : Sto} (w : Wld K T F0 H0 hd F σ H S) (g : Grow H H') (t : Tabs T H') : Wld K T F0 H0 hd F σ H' S ∧ Up hd F H F H' := by
  have keep : ∀ a o, H a = some o → (∀ ps, o ≠ .tbl ps) → H' a = some o := g.keep
  refine ⟨⟨fun a o e => keep a o (w.le a o e) fun ps z => w.tabs.2 a ps (by rw [e, z]), w.r0, w.r1, fun a o e => ?_, fun a o e n m => keep a o (w.keep a o e n m) n, ⟨t, w.tabs.2⟩, w.len, fun i => ?_, w.sep, fun p e => ?_⟩, ⟨Le.refl _, g.dom, fun a o e n _ => keep a o e n⟩⟩
  · obtain ⟨u, q⟩ := w.dom a o e
    exact g.dom a u q
  · have z := w.slo i
    generalize S.sl.getD i .un = sl at z ⊢
    cases sl with
    | un => trivial
    | val d => exact z
    | clo _ _ _ _ => exact z
    | hnd => exact z
    | own ds =>
      obtain ⟨q, vs, e1, e2, e3, e4, e5, r⟩ := z
      exact ⟨q, vs, e1, keep _ _ e2 (fun ps z => by cases z), e3, e4, e5, r⟩
  · obtain ⟨f, vs, e1, r⟩ := w.hnd p e
    exact ⟨f, vs, keep _ _ e1 (fun ps z => by cases z), r⟩

/-! ### a lambda is made -/
section
variable {X : Cx} {pins : List (Addr × Obj)} {σ : L2.St} {H : Hp} {s : Shared}
theorem lam_mk {T : List (Addr × Str)} {c P : Addr} {params : Arguments} {body : Expr} {scope : Scope} {pos : Pos} {E : Value → Shared → Prop} {Q : Value → Shared → Prop} (I : Inv X pins σ H s) (TB : TabB X.base X.mg c P) (hcode : X.env.code = .ref c)
    (hm : (P, X.env.qual ++ "<lambda>") ∈ T) (hu : ∀ p ∈ T, p.1 = P → p.2 = X.env.qual ++ "<lambda>") (hT : Tabs T H) (hdef : defaultsOf params X.env = ([], [])) (hfree : ∀ y ∈ scope.names, y.2 = .free → ∃ c, X.env.cells.lookup y.1 = some c)
    (h : ∀ (f c' : Addr) (pm ctv : Value) (H1 : Hp) (s' : Shared) (ps1 : Array Value), Inv X pins σ H1 s' → Grow H H1 → Tabs T H1 →
      s'.heap.get? f = some (PySem.W.kla_obj "<lambda>" (X.env.qual ++ "<lambda>") params body scope (cloFrom X.env.cells scope.names []) pm c' ctv) → H1 f = none → f ∉ frs X.stack → H1 P = some (.tbl ps1) → TriplesOk ps1.toList → codeAmong pos ps1.toList = some (.ref c') → Q (.ref f) s') :
    wpAny (model X.prog X.w) X.A (eval (.Lambda params body scope pos) X.env) Q E s := by
  obtain ⟨ps, hP, ht, ha⟩ := hT _ hm
  refine PySem.W.kla_eval hdef ?_
  have bP : s.heap.BuiltinsAt X.mg P := TB.bm.keeps I.bk
  have oP : s.heap.get? P = some { cls := .none, data := .fields ps } := I.hok P _ hP
  have late : ∀ f, s.heap.objs.size ≤ f → f ∉ frs X.stack := fun f hf z => by
    rcases List.mem_cons.mp (I.stkSub _ z) with e | e
    · have := I.lt
      rw [← e] at this
      exact Nat.lt_irrefl _ (Nat.lt_of_lt_of_le this hf)
    · exact I.nofs hf e
  cases hc : codeAmong pos ps.toList with
  | some cv =>
    obtain ⟨c', rfl, hco⟩ := ha pos cv hc
    refine PySem.W.kla_makeFunctionHit (mg := X.mg) (c := c) (P := P) (ps := ps) (closure_ok hfree) I.ok.glob (I.mod.glob.keeps I.bk) hcode (TB.code.keeps I.bk) oP ht hc bP fun ctv h' tk hx hsz => ?_
    exact h h'.objs.size c' _ ctv H _ ps (I.kept (t' := tk) fun b o e => Heap.get?_push_of_some _ (hx b o e)) Grow.refl hT (Heap.get?_push_size _ rfl) (I.hok.fresh hsz) (late _ hsz) hP ht hc
  | none =>
    refine PySem.W.kla_makeFunction (mg := X.mg) (c := c) (P := P) (ps := ps) (closure_ok hfree) I.ok.glob (I.mod.glob.keeps I.bk) hcode (TB.code.keeps I.bk) oP ht hc TB.gP bP fun c' ctv h' tk hx hge hlt hrec htb => ?_
    obtain ⟨_, oc, vs, t, e, hoc, hd, hv⟩ := hrec
    cases e
    have hsz : s.heap.objs.size ≤ h'.objs.size := Nat.le_trans hge (Nat.le_of_lt hlt)
    have nC : H c' = none := I.hok.fresh hge
    have nCP : P ≠ c' := ne_of_none hP nC
    have J := inv_table (t' := tk) (more := #[rawInt pos.line, rawInt pos.col, .ref c']) (h' := h'.push (PySem.W.kla_obj "<lambda>" (X.env.qual ++ "<lambda>") params body scope (cloFrom X.env.cells scope.names []) ((X.mg "__name__").getD .none) c' ctv)) (q := X.env.qual ++ "<lambda>") I hP
      (fun b o hb e => Heap.get?_push_of_some _ (hx b o hb e)) (Heap.get?_push_of_some _ htb) hge ⟨oc, vs, t, Heap.get?_push_of_some _ hoc, hd, hv⟩
    have ext : ExtN H (upd (upd H P (.tbl (ps ++ #[rawInt pos.line, rawInt pos.col, .ref c']))) c' (CodeO c' (X.env.qual ++ "<lambda>"))) := fun b o e n => by
      rw [upd_ne (ne_of_none e nC), upd_ne (fun z => n ps (Option.some.inj (e.symm.trans (by rw [z]; exact hP))))]
      exact e
    have atP : (upd (upd H P (.tbl (ps ++ #[rawInt pos.line, rawInt pos.col, .ref c']))) c' (CodeO c' (X.env.qual ++ "<lambda>"))) P = some (.tbl (ps ++ #[rawInt pos.line, rawInt pos.col, .ref c'])) := by rw [upd_ne nCP, upd_same]
    have eL : (ps ++ #[rawInt pos.line, rawInt pos.col, .ref c']).toList = ps.toList ++ [rawInt pos.line, rawInt pos.col, .ref c'] := by simp
    have ht2 : TriplesOk (ps ++ #[rawInt pos.line, rawInt pos.col, .ref c']).toList := by rw [eL]; exact PySem.TriplesOk_snoc _ _ _ _ ht
    have gr : Grow H (upd (upd H P (.tbl (ps ++ #[rawInt pos.line, rawInt pos.col, .ref c']))) c' (CodeO c' (X.env.qual ++ "<lambda>"))) := ⟨ext, fun a o e => by
      by_cases hb : a = P
      · subst hb; exact ⟨_, atP⟩
      · exact ⟨o, by rw [upd_ne (ne_of_none e nC), upd_ne hb]; exact e⟩⟩
    refine h h'.objs.size c' _ ctv _ _ _ J gr (fun p hp => ?_) (Heap.get?_push_size _ rfl) ?_ (late _ hsz) atP ht2 (by rw [eL]; exact among_new _ ht hc)
    · by_cases hb : p.1 = P
      · rw [hu p hp hb, hb]
        refine ⟨_, atP, ht2, fun p' cv hcv => ?_⟩
        rw [eL] at hcv
        rcases among_app _ ht hcv with z | z
        · obtain ⟨c0, e1, e2⟩ := ha p' cv z
          exact ⟨c0, e1, ext _ _ e2 codeO_ne⟩
        · exact ⟨c', z, upd_same⟩
      · obtain ⟨ps', a1, a2, a3⟩ := hT p hp
        refine ⟨ps', by rw [upd_ne (ne_of_none a1 nC), upd_ne hb]; exact a1, a2, fun p' cv hcv => ?_⟩
        obtain ⟨c0, e1, e2⟩ := a3 p' cv hcv
        exact ⟨c0, e1, ext _ _ e2 codeO_ne⟩
    · rw [upd_ne (Nat.ne_of_gt hlt), upd_ne (Nat.ne_of_gt (Nat.lt_of_lt_of_le (Heap.lt_size oP) hsz))]
      exact I.hok.fresh hsz
end

/-! ### a lambda is called, in the def that got it -/
/-- what the lambda's body sees: the maker's slots, its lists of its own hidden -/
def lamS (S : Sto) : List Sl := S.sl.map fun z => match z with
  | .val d => .val d
  | .hnd => .hnd
  | _ => .un
/-- the values that a function holds -/
def Lnk (σ : L2.St) (sl : List Sl) (vs : List V) (ds : List D) (hp : Option Addr) : Prop := σ.length = sl.length ∧ ∀ i, match sl.getD i .un with
  | .val d => ∃ v, σ.getD i none = some v ∧ vs[i]? = some v ∧ ds[i]? = some d
  | .hnd => ∃ p, σ.getD i none = some (.ref p) ∧ hp = some p
  | .un => True
  | _ => False
theorem lnk_wld {K : PySem.W.Frag} {T : List (Addr × Str)} {F0 H0 F H : Hp} {hd hp : Option Addr} {σ τ : L2.St} {S : Sto} {sl : List Sl} {vs : List V} {ds : List D} (w : Wld K T F0 H0 hd F τ H S) (l : Lnk σ sl vs ds hp) (r : Rps K F vs ds) (h : hp.isSome = true → hd = hp) : Wld K T F0 H0 hd F σ H ⟨sl, S.hc⟩ := by
  have no : ∀ i, (sl.getD i .un).isOwn = false := fun i => by
    have z := l.2 i
    generalize sl.getD i .un = q at z
    cases q with
    | own _ => exact False.elim z
    | _ => rfl
  refine ⟨w.le, w.r0, w.r1, w.dom, w.keep, w.tabs, l.1, fun i => ?_, fun i j p _ hi => ?_, w.hnd⟩
  · have z := l.2 i
    show SlR K H0 hd F H (σ.getD i none) (sl.getD i .un)
    generalize sl.getD i .un = q at z ⊢
    cases q with
    | un => trivial
    | val d =>
      obtain ⟨v, e1, e2, e3⟩ := z
      obtain ⟨v', e4, rr⟩ := r.get e3
      rw [e2] at e4; cases e4
      exact ⟨v, e1, rr⟩
    | hnd =>
      obtain ⟨p, e1, e2⟩ := z
      exact ⟨p, e1, by rw [h (by rw [e2]; rfl), e2]⟩
    | own _ => exact False.elim z
    | clo _ _ _ _ => exact False.elim z
  · have hi : (sl.getD i .un).isOwn = true := hi
    rw [no i] at hi; cases hi
/-- what a function of this frame gives, called -/
noncomputable def cloM (i : Nat) (f : Addr) (vs : List V) (ds : List D) (hp : Option Addr) (sl : List Sl) (mb : M D) : M D := fun S => by
  classical
  exact if S.sl.getD i .un = .clo f vs ds hp ∧ (S.sl.all fun z => !z.isOwn) = true then (match mb ⟨sl, S.hc⟩ with
    | .ok d S' => .ok d { S with hc := S'.hc }
    | .exc e S' => .exc e { S with hc := S'.hc }
    | .stuck => .stuck) else .stuck
theorem Wld.back {K : PySem.W.Frag} {T : List (Addr × Str)} {F0 H0 F H F' H' : Hp} {hd : Option Addr} {σ τ : L2.St} {S : Sto} {sl' : List Sl} {hc' : List D} (w : Wld K T F0 H0 hd F τ H S) (no : ∀ i, (S.sl.getD i .un).isOwn = false) (u : Up hd F H F' H') (w' : Wld K T F0 H0 hd F' σ H' ⟨sl', hc'⟩) : Wld K T F0 H0 hd F' τ H' { S with hc := hc' } := by
  refine ⟨w'.le, w'.r0, w'.r1, w'.dom, w'.keep, w'.tabs, w.len, fun i => ?_, fun i j p _ hi => ?_, w'.hnd⟩
  · have z := w.slo i
    have n := no i
    show SlR K H0 hd F' H' (τ.getD i none) (S.sl.getD i .un)
    generalize S.sl.getD i .un = q at z n ⊢
    cases q with
    | un => trivial
    | val d => obtain ⟨v, e, r⟩ := z; exact ⟨v, e, r.mono u.fF⟩
    | clo _ _ _ _ => exact ⟨z.1, z.2.1.mono u.fF, z.2.2⟩
    | hnd => exact z
    | own _ => cases n
  · have hi : (S.sl.getD i .un).isOwn = true := hi
    rw [no i] at hi; cases hi
theorem all_no {l : List Sl} (h : (l.all fun z => !z.isOwn) = true) (i : Nat) : (l.getD i .un).isOwn = false := by
  rw [List.getD_eq_getElem?_getD]
  cases q : l[i]? with
  | none => rfl
  | some z =>
    have := List.all_eq_true.mp h z (List.mem_of_getElem? q)
    simpa using this
section
variable {X : Cx} {pins : List (Addr × Obj)} {σ : L2.St} {H : Hp} {s : Shared}
/-- the lambda's own run: at any world that has its values -/
theorem jv_clo {T : List (Addr × Str)} {CXg : CXT} {Eg : XK} {Ng : List Str} {qg : Str} {sg : Scope} {g f c' P : Addr} {cdg pm ctv : Value} {params : Arguments} {body : Expr} {scope : Scope} {k i : Nat} {a : Str} {mb : M D} {lpos : Pos} {ps1 : Array Value} {vs : List V} {ds : List D} {hp : Option Addr} {sl : List Sl}
    (I : Inv X pins σ H s) (L : LamS X.env.scope scope) (hf : s.heap.get? f = some (PySem.W.kla_obj "<lambda>" (X.env.qual ++ "<lambda>") params body scope (cloFrom X.env.cells scope.names []) pm c' ctv)) (hfn : H f = none) (hfr : f ∉ frs X.stack)
    (hP : H P = some (.tbl ps1)) (ht : TriplesOk ps1.toList) (hc : codeAmong lpos ps1.toList = some (.ref c')) (hm : (P, X.env.qual ++ "<lambda>") ∈ T) (lk : Lnk σ sl vs ds hp)
    (hbind : bindArgs (PySem.W.kla_fn "<lambda>" (X.env.qual ++ "<lambda>") params body scope (cloFrom X.env.cells scope.names []) pm (.ref c') ctv) ⟨[], []⟩ = pure [])
    (hr : Fit (k + 1) (X.A.deeper (envOfC qg sg s.heap.objs.size g cdg)))
    (hbody : ∀ (A : Around) (outer : List Env) (s : Shared) (H : Hp) (E : XK), Fit k (A.deeper (lamEnv X scope s.heap.objs.size f c')) → JV (lamCx X A outer s H E scope f c') T (fun c d _ H' => E c d H') body mb)
    (hN : Ng[i]? = some a) (hv : Vis sg a) (hd : (a == ("__debug__" : Str)) = false) (hcd : (a == ("__classdict__" : Str)) = false)
    {W : WX} {pn : List (Addr × Obj)} {xe : Value → Shared → Prop} {p1 p2 : Pos} (tk : Takes ((cxOf CXg X.prog X.w X.K X.mg X.base Ng qg sg g cdg X.A X.stack s H Eg).tr pn xe) W) :
    JV ((cxOf CXg X.prog X.w X.K X.mg X.base Ng qg sg g cdg X.A X.stack s H Eg).tr pn xe) T W (.Call (.Name a p1) [] [] p2) (cloM i f vs ds hp sl mb) := by
  refine ⟨fun pinsZ sZ σZ HZ Q IZ ⟨F0, H0, hdZ, F, SZ, w, po⟩ => ?_⟩
  classical
  unfold cloM at po
  split at po
  case isFalse => exact False.elim po
  rename_i hS
  obtain ⟨hS, hno⟩ := hS
  have zi := w.slo i
  rw [hS] at zi
  obtain ⟨e1, rv, hhp⟩ := zi
  have wl := lnk_wld w lk rv hhp
  refine wpAny_Call_Name_kw (thn ((pe_var (pos := p1) (i := i) hN hv hd hcd).run pinsZ sZ σZ HZ (fun v H1 => v = .ref f ∧ H1 = HZ) IZ ⟨.ref f, getD_some e1, rfl, rfl⟩) fun u s1 ⟨v, H1, I1, r1, q1⟩ => ?_)
  obtain ⟨ev, eH⟩ := q1
  subst ev
  subst eH
  obtain rfl : u = Value.ref f := r1
  have of1 : s1.heap.get? f = some (PySem.W.kla_obj "<lambda>" (X.env.qual ++ "<lambda>") params body scope (cloFrom X.env.cells scope.names []) pm c' ctv) := I1.base.keep f _ hf hfn hfr (fun z => nomatch (show f ∈ ([] : List Addr) from z))
  refine PySem.W.callWith_F0 ⟨_, _, _, _, of1⟩ ?_
  have un : Un (frs X.stack) [] H H1 s.heap s1.heap := I1.base
  -- the code object
  obtain ⟨more, hP1⟩ := un.tbls P ps1 hP
  obtain ⟨ps2, g1, g2, g3⟩ := w.tabs.1 _ hm
  have hP1 : H1 P = some (.tbl (ps1 ++ more)) := hP1
  have e2 : ps2 = ps1 ++ more := by
    have e3 : H1 P = some (.tbl ps2) := g1
    rw [hP1] at e3
    cases e3
    rfl
  subst e2
  obtain ⟨c2, e4, hco⟩ := g3 lpos (.ref c') (by rw [Array.toList_append]; exact among_more _ _ ht hc)
  cases e4
  obtain ⟨⟨oc, cvs, t, hoc, hdc, hvc⟩, _, _⟩ := I1.hok c' _ hco
  have rc : codeAny (model X.prog X.w) (X.A.deeper (envOfC qg sg s.heap.objs.size g cdg)) (.call (.ref f) ⟨[], []⟩) (CR (L2.CX X.prog X.w) (envOfC qg sg s.heap.objs.size g cdg :: X.stack) X.prog X.w H1 s1 Q (fun c d H' => W c d σZ H')) s1 := by
    refine PySem.W.kla_callFunE hr.rm.depth of1 rfl L.co L.gen rfl ⟨c', oc, cvs, t, rfl, hoc, hdc, hvc⟩ ?_
    rw [hbind]
    refine wpAny_pure (wpAny_newFunctionEnv (fun y hy => (L.own y hy).2) (fun y hy => absurd hy (by simp)) (fun h₁ hns hsb => ⟨I1.nolimit.fresh _ hsb, ?_⟩) L.kind)
    show codeAny _ _ (.expr body (lamEnv X scope s1.heap.objs.size f c')) _ _
    have kp : ∀ b o, s1.heap.get? b = some o → h₁.get? b = some o := fun b o e => hsb.extBut b o (Nat.ne_of_lt (Heap.lt_size e)) (Heap.get?_push_of_some _ e)
    have J := lam_start2 (c' := c') (f := f) (E := fun c d H' => W c d σZ H') (tk := s1.toks + ([] : List (Str × Value)).length) I L I1.env0 hr.rm.hd un hns kp
    refine PySem.W.kla_codeExpr (wpAny_mono ((hbody _ _ s1 H1 (fun c d H' => W c d σZ H') (hr.deeper _)).run [] _ _ H1 Q J ⟨F0, H0, hdZ, F, _, wl, ?_⟩) (fun v s' ⟨w', H', J', rr, q⟩ => ⟨w', H', J'.os, J'.bare, J'.base, J'.hok, rr, q⟩) fun e s' hq => hq)
    cases q : mb ⟨sl, SZ.hc⟩ with
    | ok d S' =>
      simp only [q] at po
      exact fun F' H' b u w' r => po F' H' b u (Wld.back w (all_no hno) u w') r
    | exc e S' =>
      simp only [q] at po
      exact fun F' H' dx u w' r => po F' H' dx u (Wld.back w (all_no hno) u w') r
    | stuck => simp only [q] at po; exact False.elim po
  refine wpAny_call (codeAny_mono rc fun r s' hq => ?_)
  match r, hq with
  | .error e, hq => exact tk e s' (XE.of_call I1 (fun _ _ _ h => h) hq)
  | .ok (.ret u), hq => exact I1.after hq
end

/-! ### f(lambda: ..) -/
noncomputable def lamRun (n : Nat) (mw : M D → M Ctl) (mb : M D) (S : Sto) (f : Addr) (vs : List V) (ds : List D) (hp : Option Addr) : Fo :=
  endF (mw (cloM 0 f vs ds hp (lamS S) mb) ⟨.clo f vs ds hp :: List.replicate (n - 1) .un, S.hc⟩)
/-- what the def gives, whatever stands for the lambda -/
noncomputable def lamV (n : Nat) (mw : M D → M Ctl) (mb : M D) : M D := fun S => by
  classical
  exact if h : ∃ r : D × List D, ∀ f vs ds hp, lamRun n mw mb S f vs ds hp = .ret (.v r.1) r.2 then .ok h.choose.1 { S with hc := h.choose.2 } else .stuck
theorem lamV_eq {n : Nat} {mw : M D → M Ctl} {mb : M D} {S : Sto} {d : D} {hc : List D} (h : ∀ f vs ds hp, lamRun n mw mb S f vs ds hp = .ret (.v d) hc) : lamV n mw mb S = .ok d { S with hc := hc } := by
  classical
  have e : ∃ r : D × List D, ∀ f vs ds hp, lamRun n mw mb S f vs ds hp = .ret (.v r.1) r.2 := ⟨(d, hc), h⟩
  unfold lamV
  rw [dif_pos e]
  have z := e.choose_spec 0 [] [] none
  rw [h 0 [] [] none] at z
  injection z with z1 z2
  injection z1 with z1
  rw [← z1, ← z2]
theorem cloM_at {i : Nat} {f : Addr} {vs : List V} {ds : List D} {hp : Option Addr} {sl : List Sl} {mb : M D} {S : Sto} (h : S.sl.getD i .un = .clo f vs ds hp) (n : (S.sl.all fun z => !z.isOwn) = true) : cloM i f vs ds hp sl mb S = match mb ⟨sl, S.hc⟩ with
    | .ok d S' => .ok d { S with hc := S'.hc }
    | .exc e S' => .exc e { S with hc := S'.hc }
    | .stuck => .stuck := by
  classical
  unfold cloM
  exact if_pos ⟨h, n⟩
def capV (σ : L2.St) (S : Sto) : List V := (List.range σ.length).map fun i => match S.sl.getD i .un with
  | .val _ => (σ.getD i none).getD .non
  | _ => .non
def capD (σ : L2.St) (S : Sto) : List D := (List.range σ.length).map fun i => match S.sl.getD i .un with
  | .val d => d
  | _ => .non
theorem rps_map {K : PySem.W.Frag} {F : Hp} {g : Nat → V} {h : Nat → D} : ∀ l : List Nat, (∀ i, Rp K F (g i) (h i)) → Rps K F (l.map g) (l.map h)
  | [], _ => .nil
  | i :: l, k => .cons (k i) (rps_map l k)
theorem lamS_get (S : Sto) (i : Nat) : (lamS S).getD i .un = match S.sl.getD i .un with
    | .val d => .val d
    | .hnd => .hnd
    | _ => .un := by
  unfold lamS
  rw [List.getD_eq_getElem?_getD, List.getD_eq_getElem?_getD, List.getElem?_map]
  cases S.sl[i]? with
  | none => rfl
  | some z => cases z <;> rfl
theorem cap_ok {K : PySem.W.Frag} {T : List (Addr × Str)} {F0 H0 F H : Hp} {hd : Option Addr} {σ : L2.St} {S : Sto} (w : Wld K T F0 H0 hd F σ H S) : Rps K F (capV σ S) (capD σ S) ∧ Lnk σ (lamS S) (capV σ S) (capD σ S) hd := by
  refine ⟨rps_map _ fun i => ?_, by unfold lamS; rw [List.length_map]; exact w.len, fun i => ?_⟩
  · have z := w.slo i
    generalize S.sl.getD i .un = q at z
    cases q with
    | val d =>
      obtain ⟨v, e, r⟩ := z
      show Rp K F ((σ.getD i none).getD .non) d
      rw [e]; exact r
    | _ => exact .non
  · have z := w.slo i
    rw [lamS_get]
    cases q : S.sl.getD i .un with
    | val d =>
      rw [q] at z
      obtain ⟨v, e, r⟩ := z
      have hi : i < σ.length := by
        by_cases h : i < σ.length
        · exact h
        · rw [getD_out _ _ _ (by omega)] at e; cases e
      refine ⟨v, e, ?_, ?_⟩
      · unfold capV
        rw [List.getElem?_map, List.getElem?_range hi]
        simp only [q, e, Option.map_some, Option.getD_some]
      · unfold capD
        rw [List.getElem?_map, List.getElem?_range hi]
        simp only [q, Option.map_some]
    | hnd => rw [q] at z; obtain ⟨p, e1, e2⟩ := z; exact ⟨p, e1, e2⟩
    | un => trivial
    | own _ => trivial
    | clo _ _ _ _ => trivial
theorem wld_startC {K : PySem.W.Frag} {T : List (Addr × Str)} {F0 H0 F H : Hp} {hd : Option Addr} {σ : L2.St} {S : Sto} {N : List Str} {f : Addr} {vs : List V} {ds : List D} (w : Wld K T F0 H0 hd F σ H S) (r : Rps K F vs ds) (hl : 1 ≤ N.length) :
    Wld K T F H hd F (L2.start N [.ref f]) H ⟨.clo f vs ds hd :: List.replicate (N.length - 1) .un, S.hc⟩ := by
  have get : ∀ i, ((Sl.clo f vs ds hd :: List.replicate (N.length - 1) Sl.un).getD i .un) = if i = 0 then .clo f vs ds hd else .un := fun i => by
    cases i with
    | zero => rfl
    | succ i =>
      rw [List.getD_cons_succ, if_neg (by omega), List.getD_eq_getElem?_getD, List.getElem?_replicate]
      split <;> rfl
  refine ⟨w.le, Le.refl _, fun a o e => .inl e, fun a o e => ⟨o, e⟩, fun a o e _ _ => e, w.tabs, ?_, fun i => ?_, fun i j p _ h => ?_, w.hnd⟩
  · unfold L2.start
    simp only [List.length_append, List.length_map, List.length_replicate, List.length_cons, List.length_nil]
    omega
  · show SlR K H hd F H _ ((Sl.clo f vs ds hd :: List.replicate (N.length - 1) Sl.un).getD i .un)
    rw [get, start_get]
    split
    · rename_i h; subst h; exact ⟨rfl, r, fun _ => rfl⟩
    · trivial
  · have h : ((Sl.clo f vs ds hd :: List.replicate (N.length - 1) Sl.un).getD i .un).isOwn = true := h
    rw [get] at h
    split at h <;> cases h
section
variable {X : Cx} {T : List (Addr × Str)} {W : WX}
theorem jv_lam {x a : Str} {st : Stmt} {g c P : Addr} {fd : FuncData} {Ng : List Str} {k : Nat} {mw : M D → M Ctl} {mb : M D} {params : Arguments} {body : Expr} {scope : Scope} {p lpos pos : Pos} (F : Fun X.K x x st g fd) (hb : Binds X.K fd [a] []) (Sg : FnScope Ng [a] (defScope st)) (hg : Gl X x) (hm : X.mg x = some (.ref g))
    (hW : ∀ (cdv : Value) (s : Shared) (H : Hp) (cl : M D), Fit (k + 1) (X.A.deeper (envOfC x (defScope st) s.heap.objs.size g cdv)) →
      (∀ (W' : WX) (pn : List (Addr × Obj)) (xe : Value → Shared → Prop) (p1 p2 : Pos), Takes ((cxOf (L2.CX X.prog X.w) X.prog X.w X.K X.mg X.base Ng x (defScope st) g cdv X.A X.stack s H C8.E0).tr pn xe) W' → JV ((cxOf (L2.CX X.prog X.w) X.prog X.w X.K X.mg X.base Ng x (defScope st) g cdv X.A X.stack s H C8.E0).tr pn xe) T W' (.Call (.Name a p1) [] [] p2) cl) →
      JSs (cxOf (L2.CX X.prog X.w) X.prog X.w X.K X.mg X.base Ng x (defScope st) g cdv X.A X.stack s H C8.E0) T (fun _ _ _ _ => False) (defBody st) (mw cl))
    (TB : TabB X.base X.mg c P) (hcode : X.env.code = .ref c) (hmT : (P, X.env.qual ++ "<lambda>") ∈ T) (hu : ∀ p ∈ T, p.1 = P → p.2 = X.env.qual ++ "<lambda>") (hf : Fit (k + 2) X.A) (L : LamS X.env.scope scope)
    (hbody : ∀ (A : Around) (outer : List Env) (s : Shared) (H : Hp) (E : XK) (f c' : Addr), Fit k (A.deeper (lamEnv X scope s.heap.objs.size f c')) → JV (lamCx X A outer s H E scope f c') T (fun c d _ H' => E c d H') body mb)
    (hdef : defaultsOf params X.env = ([], []) := by rfl) (hbind : ∀ (q : Str) (cl : List (Str × Addr)) (pm cv ctv : Value), bindArgs (PySem.W.kla_fn "<lambda>" q params body scope cl pm cv ctv) ⟨[], []⟩ = pure [] := by intro _ _ _ _ _; rfl)
    (hdb : (x == ("__debug__" : Str)) = false := by decide) (hd : (a == ("__debug__" : Str)) = false := by decide) (hcd : (a == ("__classdict__" : Str)) = false := by decide) :
    JV X T W (.Call (.Name x p) [.Lambda params body scope lpos] [] pos) (lamV Ng.length mw mb) := by
  refine ⟨fun pins s σ H Q I ⟨F0, H0, hd0, F1, S, w, po⟩ => ?_⟩
  have hNl : 1 ≤ Ng.length := by have := congrArg List.length Sg.pre; rw [List.length_take, List.length_cons, List.length_nil] at this; omega
  have hNg : Ng[0]? = some a := by
    have := Sg.pre
    cases Ng with
    | nil => cases hNl
    | cons y ys => rw [List.length_cons, List.length_nil, List.take_succ_cons, List.take_zero] at this; rw [List.getElem?_cons_zero]; exact congrArg some (List.cons.inj this).1
  have hva : Vis (defScope st) a := by
    rcases Sg.par a (by simp) with z | z
    · exact .inl z
    · exact .inr (.inl z)
  have po2 : ∃ d hc, (∀ f vs ds hp, lamRun Ng.length mw mb S f vs ds hp = .ret (.v d) hc) ∧ Po X.K T W F0 H0 hd0 σ (rV X.K) Q F1 H (.ok d { S with hc := hc }) := by
    classical
    unfold lamV at po
    split at po
    · rename_i h; exact ⟨_, _, h.choose_spec, po⟩
    · exact False.elim po
  obtain ⟨d, hc, hrun, po⟩ := po2
  refine wpAny_Call_Name_kw (ld_glob I hg hm ?_ hdb)
  refine PySem.W.callWith_K (h₀ := X.base) I.ok.mod.kin F.kp ?_ (by rfl) (by rfl)
  show wpAny _ _ (spliced ((false, eval (.Lambda params body scope lpos) X.env) :: backTo pos (starEach [] X.env))) _ _ s
  refine Calls.spliced_cons (lam_mk I TB hcode hmT hu w.tabs.1 hdef (L.has I.ok) fun f c' pm' ctv H1 s' ps1 I1 gr T1 hfo hfn hfr hP1 hT1 hc1 => ?_)
  refine Calls.spliced_nil ⟨I1.kIn, ?_⟩
  obtain ⟨w1, u1⟩ := w.grow gr T1
  obtain ⟨rc, lk⟩ := cap_ok w1
  have run : codeAny (model X.prog X.w) X.A (.call (.ref g) ⟨[.ref f], []⟩) (CR (L2.CX X.prog X.w) X.stack X.prog X.w H1 s' Q C8.E0) s' := by
    obtain ⟨oc, od, kV, doc, pmg, an, cdv, ct, osl, rfl, lkg, hcd2⟩ := F.ex
    refine codeAny_call_function hf.rm.depth (I1.kIn _ _ lkg) rfl Sg.co Sg.gen rfl (PySem.W.codeRec_of I1.kIn hcd2) (hb s' [.ref f] I1.kIn rfl _ _ _ _ (wpAny_newFunctionEnv_cells Sg.kind (fun y hy => ?_) fun env he s1 z => ?_))
    · rcases Sg.par y.1 (List.of_mem_zip hy).1 with q | q
      · exact .inl q
      · exact .inr ⟨q, PySem.W.cellsFrom_some _ _ _ (.inl q)⟩
    · subst he
      refine ⟨I1.nolimit.keeps z.toInCall.keep, codeAny_func ?_⟩
      have hfd := hf.deeper (envOfC x (defScope st) s'.heap.objs.size g cdv)
      have ht := hW cdv s' H1 (cloM 0 f (capV σ S) (capD σ S) hd0 (lamS S) mb) hfd
        (fun W' pn xe p1 p2 tk => jv_clo I1 L hfo hfn hfr hP1 hT1 hc1 hmT lk (hbind _ _ _ _ _) hfd (fun A outer s H E ff => hbody A outer s H E f c' ff) hNg hva hd hcd tk)
      have hE : tS X.K T (fun _ _ _ _ => False) (mw (cloM 0 f (capV σ S) (capD σ S) hd0 (lamS S) mb)) { nx := fun _ H' => Q .non H', rt := Q } (L2.start Ng [.ref f]) H1 := by
        refine ⟨F1, H1, fun h => h = hd0, hd0, F1, _, rfl, wld_startC (N := Ng) w1 rc hNl, ?_⟩
        have hr := hrun f (capV σ S) (capD σ S) hd0
        unfold lamRun at hr
        cases q : mw (cloM 0 f (capV σ S) (capD σ S) hd0 (lamS S) mb) ⟨.clo f (capV σ S) (capD σ S) hd0 :: List.replicate (Ng.length - 1) .un, S.hc⟩ with
        | stuck => rw [q] at hr; cases hr
        | exc e S' => rw [q] at hr; cases hr
        | ok cc S' =>
          rw [q] at hr
          have fin : ∀ {F' : Hp} {σ' : L2.St} {H' : Hp} {v : V}, Le F1 F' → Wld X.K T F1 H1 hd0 F' σ' H' S' → S'.hc = hc → Rp X.K F' v d → Q v H' := fun {F' σ' H' v} l w' eh rv => by
            have a := w'.toAft l
            refine po F' H' v (u1.trans a.up) (w1.aft (hc' := hc) a a.up fun p e => ?_) rv
            obtain ⟨_, vs', e1, e2⟩ := w'.hnd p e
            exact ⟨vs', e1, by rw [← eh]; exact e2⟩
          cases cc with
          | nx =>
            injection hr with h1 h2
            injection h1 with h1
            exact fun F' σ' H' hd' e l w' => by subst e; exact fin l w' h2 (by rw [← h1]; exact .non)
          | bk => cases hr
          | ct => cases hr
          | rt r =>
            injection hr with h1 h2
            subst h1
            exact fun F' σ' H' hd' v e l w' rv => by subst e; exact fin l w' h2 rv
      refine wpAny_mono (ht.run [] s1 (L2.start Ng [.ref f]) H1 _ (inv_start (vs := [.ref f]) (us := [.ref f]) Sg hf.rm.hd I1.env0 rfl (.cons rfl .nil) z) hE) (fun fl s2 hs => ?_) fun _ _ hs => hs
      match fl, hs with
      | .ret u, ⟨v, _, H', J, rv, q⟩ => exact ⟨v, H', J.os, J.bare, J.base, J.hok, rv, q⟩
      | .next, ⟨_, H', J, q⟩ => exact ⟨.non, H', J.os, J.bare, J.base, J.hok, rfl, q⟩
      | .brk, ⟨_, _, _, q⟩ => exact q.elim
      | .cont, ⟨_, _, _, q⟩ => exact q.elim
  refine wpAny_call (codeAny_mono run fun r s2 hq => ?_)
  match r, hq with
  | .error e, ⟨_, _, _, _, _, _, _, _, _, _, _, _, z⟩ => exact False.elim z
  | .ok (.ret u), hq => exact I1.after hq
end
end FX

set_option Elab.async false
set_option linter.all false
set_option maxRecDepth 100000
set_option maxHeartbeats 4000000
namespace FX
open PySem PySem.Spec PyProof.Rows L2 LamX

/-! ### the law's def -/
/-- a list of one's own becomes the hand -/
theorem Wld.take {K : PySem.W.Frag} {T : List (Addr × Str)} {F0 H0 F H : Hp} {σ : L2.St} {S : Sto} {v : V} {ds : List D} (w : Wld K T F0 H0 none F σ H S) (r : rL K H0 none F σ H S v ds) {i : Nat} : ∃ p, Wld K T F0 H0 (some p) F (σ.set i (some v)) H ⟨S.sl.set i .hnd, ds⟩ := by
  obtain ⟨p, us, rfl, e1, e2, e3, e4, e5, e6⟩ := r
  refine ⟨p, ⟨w.le, w.r0, w.r1, w.dom, fun a o e n _ => w.keep a o e n (by intro z; cases z), w.tabs, by simp [w.len], fun j => ?_, fun j k q hjk h1 h2 h3 h4 => ?_, fun q z => ?_⟩⟩
  · show SlR K H0 (some p) F H ((σ.set i (some (.ref p))).getD j none) ((S.sl.set i .hnd).getD j .un)
    rw [getD_set, getD_set, w.len]
    by_cases h : i = j ∧ i < S.sl.length
    · rw [if_pos h, if_pos h]; exact ⟨p, rfl, rfl⟩
    · rw [if_neg h, if_neg h]
      have z := w.slo j
      have no := e6 j
      generalize S.sl.getD j .un = sl at z no ⊢
      cases sl with
      | un => trivial
      | val d => exact z
      | hnd => obtain ⟨q, _, z⟩ := z; cases z
      | clo f vs ds hp =>
        refine ⟨z.1, z.2.1, fun h => ?_⟩
        rw [← z.2.2 h] at h; cases h
      | own es =>
        obtain ⟨q, ws, g1, g2, g3, g4, g5, g6⟩ := z
        refine ⟨q, ws, g1, g2, g3, g4, fun y => no rfl (by rw [g1]; cases y; rfl), g6⟩
  · have key : ∀ j, ((S.sl.set i Sl.hnd).getD j .un).isOwn = true → (S.sl.getD j .un).isOwn = true ∧ (σ.set i (some (.ref p))).getD j none = σ.getD j none := fun j h => by
      rw [getD_set] at h
      by_cases y : i = j ∧ i < S.sl.length
      · rw [if_pos y] at h; cases h
      · rw [if_neg y] at h
        refine ⟨h, ?_⟩
        rw [getD_set, w.len, if_neg y]
    obtain ⟨a1, a2⟩ := key j h1
    obtain ⟨b1, b2⟩ := key k h2
    rw [a2] at h3
    rw [b2] at h4
    exact w.sep j k q hjk a1 b1 h3 h4
  · cases z
    exact ⟨e2, us, e1, e5⟩
def lawO (i : Nat) (m : M (List D)) (f : M Ctl) : M Ctl := fun S => match m S with
  | .ok ds S1 => f ⟨S1.sl.set i .hnd, ds⟩
  | .exc e S1 => .exc e S1
  | .stuck => .stuck
def tL (K : PySem.W.Frag) (T : List (Addr × Str)) (W : WX) (f : M Ctl) : TS := fun E σ H => ∃ F0 H0 F S, Wld K T F0 H0 none F σ H S ∧ PoS K T W F0 H0 (fun _ => True) E F (f S)
section
variable {X : Cx} {T : List (Addr × Str)} {W : WX} {e : Expr} {rest : List Stmt} {x : Str} {i : Nat} {pos pos' : Pos}
theorem jl_first {m : M (List D)} {f : M Ctl} (hN : X.N.Nodup) (hi : X.N[i]? = some x) (hx : Loc X.env.scope x) (he : JL X T W e m) (k : JSs X T W rest f) (hs : swapsWith e (some (.Name x pos')) pos.line X.env = pure false := by rfl) (hf : X.fn x = true ∨ X.env.scope.names.lookup x = some .local := by first | exact .inl rfl | exact .inr rfl | assumption) :
    PSs X (.Assign [.Name x pos'] e pos :: rest) (tL X.K T W (lawO i m f)) := (pss_cons (ps_set hN hi hx he hs hf) k).imp fun E σ H ⟨F0, H0, F, S, w, po⟩ => by
  refine ⟨F0, H0, none, F, S, w, ?_⟩
  unfold lawO at po
  cases q : m S with
  | ok ds S1 =>
    rw [q] at po
    intro F' H' v u w1 r1
    obtain ⟨p, w2⟩ := w1.take r1 (i := i)
    exact ⟨F0, H0, fun _ => True, some p, F', _, trivial, w2, po.le u.fF⟩
  | exc e S1 => rw [q] at po; exact fun F' H' dx u w1 r1 => po F' σ H' none dx trivial u.fF w1 r1
  | stuck => rw [q] at po; exact po
end
section
variable {P : Program} {w : World} {K : PySem.W.Frag} {mg : Str → Option Value} {base : Heap}
/-- what a law is given: a list of whole numbers -/
def spLaw (K : PySem.W.Frag) (T : List (Addr × Str)) (good : List Int → Prop) : Sp := fun vs H Q _ => ∃ (a : Addr) (ns : List Int), vs = [.ref a] ∧ SqL K H a (ns.map V.int) ∧ Tabs T H ∧ good ns ∧ ∀ H', Q (.bl true) H'
theorem law_one {H : Hp} {a : Addr} {o : HO} (h : H a = some o) (n : ∀ ps, o ≠ .tbl ps) : Le (upd (fun _ => none) a o) H ∧ ∀ b ps, upd (fun _ => none) a o b ≠ some (.tbl ps) := by
  refine ⟨fun b u e => ?_, fun b ps e => ?_⟩
  · by_cases hb : b = a
    · subst hb; rw [upd_same] at e; cases e; exact h
    · rw [upd_ne hb] at e; cases e
  · by_cases hb : b = a
    · subst hb; rw [upd_same] at e; exact n ps (Option.some.inj e)
    · rw [upd_ne hb] at e; cases e
theorem law_world {H : Hp} {a : Addr} {ns : List Int} (h : SqL K H a (ns.map V.int)) : ∃ F : Hp, Le F H ∧ (∀ b ps, F b ≠ some (.tbl ps)) ∧ SqL K F a (ns.map V.int) := by
  rcases h with (h | ⟨o, h⟩) | h
  · obtain ⟨h1, h2⟩ := law_one h (fun ps z => by cases z)
    exact ⟨_, h1, h2, .inl (.inl upd_same)⟩
  · obtain ⟨h1, h2⟩ := law_one h (fun ps z => by cases z)
    exact ⟨_, h1, h2, .inl (.inr ⟨o, upd_same⟩)⟩
  · exact ⟨fun _ => none, (fun b o e => by cases e), (fun b ps e => by cases e), .inr h⟩
/-- the mirror at the law's start -/
def lawS (n : Nat) (ns : List Int) : Sto := ⟨.val (.scr (ns.map .int)) :: List.replicate (n - 1) .un, []⟩
theorem fnLaw {x qual p : Str} {st : Stmt} {f : Addr} {fd : FuncData} {N : List Str} {k : Nat} {T : List (Addr × Str)} {m : M Ctl} {good : List Int → Prop} (F : Fun K x qual st f fd) (S : FnScope N [p] (defScope st))
    (hbody : ∀ (cdv : Value) (A : Around) (outer : List Env) (s : Shared) (H : Hp) (E : XK), fd.code = cdv → Fit k (A.deeper (envOfC qual (defScope st) s.heap.objs.size f cdv)) →
      PSs (cxOf (L2.CX P w) P w K mg base N qual (defScope st) f cdv A outer s H E) (defBody st) (tL K T (fun c d _ H' => E c d H') m))
    (hm : ∀ ns, good ns → ∃ S', m (lawS N.length ns) = .ok (.rt (.v (.bl true))) S') : FnG P w K mg base (k + 1) f fd [p] (spLaw K T good) := by
  have hpl : 1 ≤ N.length := by have := congrArg List.length S.pre; rw [List.length_take, List.length_cons, List.length_nil] at this; omega
  refine fnG_raw F S (fun vs H Q E h => by obtain ⟨_, _, rfl, _⟩ := h; rfl) (fun cdv A outer s H vs Q E hcd hf h => ⟨_, hbody cdv A outer s H E hcd hf, ?_⟩)
  obtain ⟨a, ns, rfl, hS, t, hg, hQ⟩ := h
  obtain ⟨G, le, nt, hG⟩ := law_world hS
  have w0 := wld_start (N := N) (vs := [.ref a]) (ds := [.scr (ns.map .int)]) le ⟨t, nt⟩ (.one (.scr hG (rps_ints ns))) hpl
  obtain ⟨S', e⟩ := hm ns hg
  refine ⟨G, H, G, lawS N.length ns, w0, ?_⟩
  rw [e]
  exact fun F' σ' H' hd' v _ _ _ r => by cases r; exact hQ H'
end
end FX

set_option Elab.async false
set_option linter.all false
set_option maxRecDepth 100000
set_option maxHeartbeats 4000000
namespace FX
open PySem PySem.Spec PyProof.Rows L2 LamX

/-! ### the law called -/
/-- what is tracked at the law's call: the script, if it is no part of K, the tables -/
structure LawH (P : Program) (w : World) (K : PySem.W.Frag) (a : Addr) (ns : List Int) (tb : List Addr) (h : Heap) (H : Hp) : Prop where
  tbl : ∀ p ∈ tb, H p = some (.tbl #[])
  scr : SqL K H a (ns.map V.int)
  ok : HOk P w H h
  only : ∀ b u, H b = some u → (b = a ∧ K.lookup a = none ∧ ∃ o xs, u = .frz o (.lst xs)) ∨ b ∈ tb
theorem lawH_is {P : Program} {w : World} {K : PySem.W.Frag} {a : Addr} {ns : List Int} {vs : List Value} {tb : List Addr} {h : Heap} (X : K.In h) (ha : h.get? a = some { cls := .type "list", data := .seq vs.toArray }) (hi : IntsAre vs ns) (hl : ns.length ≤ sizeLine)
    (ht : ∀ p ∈ tb, h.get? p = some { cls := .none, data := .fields #[] }) : ∃ H, LawH P w K a ns tb h H := by
  have na : a ∉ tb := fun z => by
    have q := ht a z
    rw [ha] at q
    have q2 : Data.seq vs.toArray _ = Data.fields #[] := congrArg Obj.data (Option.some.inj q)
    cases q2
  cases hk : K.lookup a with
  | some o =>
    have e := X a o hk
    rw [ha] at e
    cases e
    refine ⟨fun b => if b ∈ tb then some (.tbl #[]) else none, fun p hp => if_pos hp, .inr ⟨_, vs.toArray, _, hk, rfl, rfl, rfl, by rw [List.size_toArray, hi.length]; exact hl, by simpa using vals_ints hi⟩, fun b u e => ?_, fun b u e => ?_⟩
    · have e : (if b ∈ tb then some (HO.tbl #[]) else none) = some u := e
      by_cases hb : b ∈ tb
      · rw [if_pos hb] at e; cases e; exact ht b hb
      · rw [if_neg hb] at e; cases e
    · have e : (if b ∈ tb then some (HO.tbl #[]) else none) = some u := e
      by_cases hb : b ∈ tb
      · exact .inr hb
      · rw [if_neg hb] at e; cases e
  | none =>
    have key : ∀ b u, (if b = a then some (HO.frz { cls := .type "list", data := .seq vs.toArray } (.lst (ns.map V.int))) else if b ∈ tb then some (.tbl #[]) else none) = some u → (b = a ∧ u = .frz { cls := .type "list", data := .seq vs.toArray } (.lst (ns.map V.int))) ∨ (b ∈ tb ∧ u = .tbl #[]) := fun b u e => by
      by_cases hb : b = a
      · rw [if_pos hb] at e; cases e; exact .inl ⟨hb, rfl⟩
      · rw [if_neg hb] at e
        by_cases hb2 : b ∈ tb
        · rw [if_pos hb2] at e; cases e; exact .inr ⟨hb2, rfl⟩
        · rw [if_neg hb2] at e; cases e
    refine ⟨fun b => if b = a then some (.frz { cls := .type "list", data := .seq vs.toArray } (.lst (ns.map V.int))) else if b ∈ tb then some (.tbl #[]) else none, fun p hp => ?_, .inl (.inr ⟨_, if_pos rfl⟩), fun b u e => ?_, fun b u e => ?_⟩
    · show (if p = a then _ else _) = _
      rw [if_neg (fun z => na (by rw [← z]; exact hp)), if_pos hp]
    · rcases key b u e with ⟨rfl, rfl⟩ | ⟨hb, rfl⟩
      · exact ⟨ha, by rw [List.length_map]; exact hl, vs, _, vals_ints hi, ha⟩
      · exact ht b hb
    · rcases key b u e with ⟨rfl, rfl⟩ | ⟨hb, rfl⟩
      · exact .inl ⟨rfl, hk, _, _, rfl⟩
      · exact .inr hb
theorem law_callG {P : Program} {w : World} {K : PySem.W.Frag} {mg mb : Str → Option Value} {k : Nat} {fa a : Addr} {cs : List (Addr × Addr)} {fd : FuncData} {x : Str} {sp : Sp} {s1 : Shared} {vs : List Value} {ns : List Int}
    (X : K.In s1.heap) (hns : s1.heap.Ns mainGlobals mg) (hb : s1.heap.Ns builtinsNs mb) (hbb : ∀ x : Str, x ≠ "__name__" → mb x = bootBuiltins x) (hlim : s1.heap.NoLimit) (hg : s1.gens = #[])
    (hT : ∀ p ∈ cs, s1.heap.get? p.2 = some { cls := .none, data := .fields #[] }) (nT : ∀ p ∈ cs, K.lookup p.2 = none) (hC : ∀ p ∈ cs, PySem.W.codeHdIn K p.1 p.2 = true)
    (hbm : ∃ (bm : Addr) (ob : Obj), mg "__builtins__" = some (.ref bm) ∧ bm ≠ builtinsNs ∧ s1.heap.get? bm = some ob ∧ ob.cls = .type "module" ∧ ob.dict = some builtinsNs ∧ ob.data = .plain)
    (ha : s1.heap.get? a = some { cls := .type "list", data := .seq vs.toArray }) (hi : IntsAre vs ns) (hl : ns.length ≤ sizeLine) (hr : Room k callerA)
    (F : ∀ base : Heap, K.In base → base.Ns mainGlobals mg → (∀ p ∈ cs, TabB base mg p.1 p.2) → FnG P w K mg base k fa fd [x] sp) (hbind : ∀ (s : Shared) (u : Value), BindsTo s fd ⟨[u], []⟩ [(x, u)])
    (hsp : ∀ H : Hp, (∀ p ∈ cs, H p.2 = some (.tbl #[])) → SqL K H a (ns.map V.int) → sp [.ref a] H (fun v _ => v = .bl true) fun _ _ _ => False) :
    codeAny (model P w) callerA (.call (.ref fa) ⟨[.ref a], []⟩) (fun r s' => r = .ok (.ret (.bool true)) ∧ OldK s1.heap s'.heap ∧ s'.os = s1.os ∧ AllBare s'.gens) s1 := by
  have tabAt : ∀ b ∈ cs.map (·.2), s1.heap.get? b = some { cls := .none, data := .fields #[] } := fun b hb => by
    obtain ⟨p, hp, rfl⟩ := List.mem_map.mp hb
    exact hT p hp
  obtain ⟨H, L⟩ := lawH_is (P := P) (w := w) (tb := cs.map (·.2)) X ha hi hl tabAt
  -- what isn't tracked stands in the ground
  have free : ∀ {b : Addr} {o : Obj}, s1.heap.get? b = some o → (∀ vs n, o.data ≠ .seq vs n) → o.data ≠ .fields #[] → H b = none := fun {b o} e h1 h2 => by
    cases q : H b with
    | none => rfl
    | some u =>
      rcases L.only b u q with ⟨rfl, _⟩ | hb
      · rw [ha] at e; cases e; exact absurd rfl (h1 _ _)
      · rw [tabAt b hb] at e; cases e; exact absurd rfl h2
  have gd : ∀ {b : Addr} {o : Obj}, s1.heap.get? b = some o → H b = none → (hidT s1.heap H).get? b = some o := fun e n => hidT_get e n
  have nsG : ∀ {b : Addr} {m : Str → Option Value}, s1.heap.Ns b m → (hidT s1.heap H).Ns b m := fun ⟨o, es, ep, e, d, r⟩ => ⟨o, es, ep, gd e (free e (fun vs n z => by rw [d] at z; cases z) fun z => by rw [d] at z; cases z), d, r⟩
  have KG : K.In (hidT s1.heap H) := fun b o e => gd (X b o e) (by
    cases q : H b with
    | none => rfl
    | some u =>
      rcases L.only b u q with ⟨rfl, z, _⟩ | hb
      · rw [z] at e; cases e
      · obtain ⟨p, hp, rfl⟩ := List.mem_map.mp hb
        rw [nT p hp] at e; cases e)
  have M : L2.Mod K mg (hidT s1.heap H) := ⟨KG, nsG hns, ⟨mb, nsG hb, hbb⟩, by obtain ⟨mc, h1, h2⟩ := hlim; exact ⟨mc, nsG h1, h2⟩⟩
  have gl : ∀ {b : Addr} {o : Obj}, s1.heap.get? b = some o → (∀ es ep, o.data ≠ .dict es ep) → mainGlobals ≠ b := fun {b o} e h z => by
    obtain ⟨o', es, ep, e', d, _⟩ := hns
    rw [z, e] at e'
    cases e'
    exact h _ _ d
  have TB : ∀ p ∈ cs, TabB (hidT s1.heap H) mg p.1 p.2 := fun p hp => by
    refine ⟨PySem.W.codeHd_of_K KG (hC p hp), ?_, gl (hT p hp) fun es ep z => by cases z⟩
    obtain ⟨bm, ob, b1, b2, b3, b4, b5, b6⟩ := hbm
    refine ⟨bm, ob, b1, b2, Ne.symm (gl b3 fun es ep z => by rw [b6] at z; cases z), fun q => ?_, gd b3 (free b3 (fun vs n z => by rw [b6] at z; cases z) fun z => by rw [b6] at z; cases z), b4, b5, b6⟩
    rw [q, hT p hp] at b3
    cases b3
    cases b6
  have e0 : Env0 P w K mg (hidT s1.heap H) callerA [] s1 H := ⟨rfl, M, fun b o e => of_hidT e, Nat.le_of_eq (hidT_size _ _), trivial, (fun b z => by cases z), L.ok, .of_eq hg⟩
  refine codeAny_mono ((F _ KG (nsG hns) TB).run callerA [] s1 H ⟨[.ref a], []⟩ [.ref a] [.ref a] _ _ ⟨hr, rfl⟩ e0 (hbind s1 (.ref a)) (.cons rfl .nil) (hsp H (fun p hp => L.tbl _ (List.mem_map_of_mem hp)) L.scr)) fun r s' q => ?_
  match r, q with
  | .error e, ⟨_, _, _, _, _, _, _, _, _, _, _, _, z⟩ => exact False.elim z
  | .ok (.ret u), ⟨v, H', os, bare, un, ok', rv, hv⟩ =>
    have hv : v = .bl true := hv
    subst hv
    obtain rfl : u = Value.bool true := rv
    have stay : ∀ b o, b ∉ cs.map (·.2) → s1.heap.get? b = some o → s'.heap.get? b = some o := fun b o nb e => by
      cases q : H b with
      | none => exact un.keep b o e q (fun z => by cases z) (fun z => by cases z)
      | some u =>
        rcases L.only b u q with ⟨_, _, ob, xs, rfl⟩ | hb
        · obtain ⟨e1, _⟩ := L.ok b _ q
          obtain ⟨e2, _⟩ := ok' b _ (un.frzs b ob _ q)
          rw [e] at e1; cases e1
          exact e2
        · exact absurd hb nb
    have grown : ∀ p ∈ cs, ∃ more : Array Value, s'.heap.get? p.2 = some { cls := .none, data := .fields more } := fun p hp => by
      obtain ⟨more, z⟩ := un.tbls p.2 #[] (L.tbl _ (List.mem_map_of_mem hp))
      exact ⟨_, ok' p.2 _ z⟩
    refine ⟨rfl, ⟨fun b o e => ?_, fun b o e => ?_⟩, os, bare⟩
    · by_cases hb : b ∈ cs.map (·.2)
      · obtain ⟨p, hp, rfl⟩ := List.mem_map.mp hb
        obtain ⟨more, hm⟩ := grown p hp
        rw [hT p hp] at e
        cases e
        exact .inr (.inl ⟨((PySem.W.codeHd_of_K X (hC p hp)).tab (hT p hp)).isCodeTable, rfl, #[], more, rfl, by rw [Array.empty_append]; exact hm⟩)
      · exact .inl (stay b o hb e)
    · by_cases hb : b ∈ cs.map (·.2)
      · obtain ⟨p, hp, rfl⟩ := List.mem_map.mp hb
        obtain ⟨more, hm⟩ := grown p hp
        exact ⟨_, hm⟩
      · exact ⟨o, stay b o hb e⟩
/-- the walk of a law by such a promise -/
theorem walk_G {l : PySem.W.OpenLaw} {n k : Nat} {q : Program} {loose : List Str} {XP : (Str → Option Value) → Heap → Prop} {YP : World → Heap → Prop} {d : DefRec} {x : Str}
    (hn : l.most = some n) (hn2 : n ≤ sizeLine) (hdf : d.params.defaults = []) (hr : Room k callerA)
    (F : ∀ (w : World) (mg : Str → Option Value) (fa : Addr) (h : Heap), YP w h → h.Ns mainGlobals mg → mg d.name = some (.ref fa) →
      ∃ (K : PySem.W.Frag) (fd : FuncData) (cs : List (Addr × Addr)) (T : List (Addr × Str)), K.In h ∧ (∀ p ∈ cs, h.get? p.2 = some { cls := .none, data := .fields #[] }) ∧ (∀ p ∈ cs, K.lookup p.2 = none) ∧ (∀ p ∈ cs, PySem.W.codeHdIn K p.1 p.2 = true) ∧
        (∀ p ∈ T, ∃ c, (c, p.1) ∈ cs) ∧ (∀ (s : Shared) (u : Value), BindsTo s fd ⟨[u], []⟩ [(x, u)]) ∧
        ∀ base : Heap, (∀ p ∈ cs, TabB base mg p.1 p.2) → FnG l.prog w K mg base k fa fd [x] (spLaw K T fun ns => ns.length ≤ n ∧ ∀ z ∈ ns, Builtin.Int.intBits z ≤ 1048576)) :
    PySem.W.WalkO q loose XP YP l.row.toRowW d [] (fun f vs => PySem.call f vs) := by
  refine Att.attach_callB hn hdf fun w s₀ s₁ mg mb fa o pm cd doc a vs ns G Y ho hd hcd hmg hobj hints hlen hbits hg => ?_
  obtain ⟨K, fd, cs, T, KX, hT, nT, hC, hTc, hb, hF⟩ := F w mg fa _ Y G.T.g hmg
  refine law_callG KX G.T.g G.T.b G.T.builtins G.T.nolimit hg hT nT hC G.T.bmain hobj hints (Nat.le_trans hlen hn2) hr (fun base _ _ TB => hF base TB) hb fun H hH hS => ⟨a, ns, rfl, hS, fun p hp => ?_, ⟨hlen, hbits⟩, fun _ => rfl⟩
  obtain ⟨c, hc⟩ := hTc p hp
  exact TabS.nil (hH _ hc)
end FX

set_option Elab.async false
set_option linter.all false
set_option maxRecDepth 100000
set_option maxHeartbeats 4000000
namespace FX
open PySem PySem.Spec PyProof.Rows L2 LamX

/-! ### facts off the head -/
theorem fun_of {K : PySem.W.Frag} {x : Str} {st : Stmt} {f : Addr} {fd : FuncData} (F : FunD K x x (defArgs st) (defBody st) (defScope st) [] [] f fd) : Fun K x x st f fd := by
  obtain ⟨oc, od, dV, kV, doc, pm, an, cdv, ct, osl, rfl, lk, hc, hd, hk⟩ := F.ex
  rcases hd with ⟨_, rfl⟩ | ⟨e, _⟩
  · exact ⟨⟨oc, od, kV, doc, pm, an, cdv, ct, osl, rfl, lk, hc⟩, F.kp⟩
  · exact absurd rfl e
theorem code_of {K : PySem.W.Frag} {x qual : Str} {pa : Arguments} {bd : List Stmt} {sc : Scope} {dvs : List V} {kws : List (Str × V)} {p : Str × Option Str} {fd : FuncData} (F : FunD K x qual pa bd sc dvs kws (He.fAd K p) fd) : fd.code = .ref (He.codeOf K p) := by
  obtain ⟨oc, od, dV, kV, doc, pm, an, cdv, ct, osl, rfl, lk, hc, hd, hk⟩ := F.ex
  obtain ⟨c, rfl⟩ := He.codeIn_ref hc
  rw [He.codeOf_eq (c := c) lk rfl]
theorem all_at {K : PySem.W.Frag} {l : List (PySem.W.Frag → Bool)} (h : (l.all fun f => f K) = true) (i : Nat) {f : PySem.W.Frag → Bool} (e : l[i]? = some f := by rfl) : f K = true := List.all_eq_true.mp h f (List.mem_of_getElem? e)
theorem exc_of {K : PySem.W.Frag} {h : Heap} {mg : Str → Option Value} {x : Str} (X : K.In h) (G : h.Ns mainGlobals mg) (c1 : (He.Fa.glo x).ok K = true) (c2 : (He.Fa.exc x).ok K = true) : ExCls K mg x (He.ga K x) :=
  have e := He.exc_ok c2
  ⟨He.glo_ok X G c1, e.1, e.2.1, e.2.2.1, e.2.2.2⟩
/-- facts as Bools: an exception's class, what isinstance and a clause say of it -/
def fI (x : Str) : PySem.W.Frag → Bool := fun K => excCB K (He.ga K x)
def fK (x y : Str) (b : Bool) : PySem.W.Frag → Bool := fun K => decide (PySem.W.kitOne K (.ref (He.ga K x)) (.ref (He.ga K y)) = some b)
def fV (x : Str) (n : String) (b : Bool) : PySem.W.Frag → Bool := fun K => decide (PySem.W.kitOne K (.ref (He.ga K x)) (.type n) = some b)
def fE (x y : Str) (b : Bool) : PySem.W.Frag → Bool := fun K => decide (PySem.W.exmOne K (.ref (He.ga K x)) (.ref (He.ga K y)) = some b)
def fN (p q : He.Defn) : PySem.W.Frag → Bool := fun K => decide ((He.cT K p).2 ≠ (He.cT K q).2)
end FX

set_option Elab.async false
set_option linter.all false
set_option maxRecDepth 100000
set_option maxHeartbeats 4000000
namespace FX
open PySem PySem.Spec PyProof.Rows L2 LamX

/-! ### mirrors run: what holds behind -/
/-- a waiting rest is marked, so that simp holds it as it is -/
structure Tg {α : Sort u} (a : α) : Type where
  mk ::
def Out.post {α : Type} (o : Out α) (Q : α → Sto → Prop) : Prop := match o with
  | .ok a S' => Q a S'
  | .exc _ _ => False
  | .stuck => False
def Wp {α : Type} (m : M α) (S : Sto) (Q : α → Sto → Prop) (_t : Tg Q := .mk) : Prop := (m S).post Q
def opP {α : Type} (o : Option α) (Q : α → Prop) (_t : Tg Q := .mk) : Prop := match o with
  | some a => Q a
  | none => False
theorem opP_some {α : Type} {a : α} {Q : α → Prop} : opP (some a) Q = Q a := rfl
theorem opP_none {α : Type} {Q : α → Prop} : opP none Q = False := rfl
theorem opP_of {α : Type} {o : Option α} {a : α} {Q : α → Prop} (h : o = some a) : opP o Q = Q a := by subst h; rfl
theorem opP_imp {α : Type} {o : Option α} {Q Q' : α → Prop} (h : opP o Q) (i : ∀ a, Q a → Q' a) : opP o Q' := by
  cases o with
  | some a => exact i a h
  | none => exact h
def foP (o : Fo) (Q : Rv → List D → Prop) (_t : Tg Q := .mk) : Prop := match o with
  | .ret r hc => Q r hc
  | .exc _ _ => False
  | .stuck => False
theorem foP_ret {r : Rv} {hc : List D} {Q : Rv → List D → Prop} : foP (.ret r hc) Q = Q r hc := rfl
theorem foP_of {o : Fo} {r : Rv} {hc : List D} {Q : Rv → List D → Prop} (h : o = .ret r hc) : foP o Q = Q r hc := by subst h; rfl
theorem foP.imp {o : Fo} {Q Q' : Rv → List D → Prop} (h : foP o Q) (i : ∀ r hc, Q r hc → Q' r hc) : foP o Q' := by
  cases o with
  | ret r hc => exact i r hc h
  | exc _ _ => exact h
  | stuck => exact h
theorem foP.ex {o : Fo} {Q : Rv → List D → Prop} (h : foP o Q) : ∃ r hc, o = .ret r hc ∧ Q r hc := by
  cases o with
  | ret r hc => exact ⟨r, hc, rfl, h⟩
  | exc _ _ => exact False.elim h
  | stuck => exact False.elim h
/-- an answer as data -/
def Rv.d : Rv → D
  | .v d => d
  | .l ds => .lst ds
def rdP (r : Rv) (Q : D → Prop) : Prop := Q r.d
theorem rdP_v {d : D} {Q : D → Prop} : rdP (.v d) Q = Q d := rfl
theorem rdP_l {d : List D} {Q : D → Prop} : rdP (.l d) Q = Q (.lst d) := rfl
def lsP (r : Rv) (Q : List D → Prop) (_t : Tg Q := .mk) : Prop := match r with
  | .l ds => Q ds
  | .v _ => False
theorem lsP_l {ds : List D} {Q : List D → Prop} : lsP (.l ds) Q = Q ds := rfl
def blP (d : D) (Q : Bool → Prop) (_t : Tg Q := .mk) : Prop := match d with
  | .bl b => Q b
  | _ => False
theorem blP_bl {b : Bool} {Q : Bool → Prop} : blP (.bl b) Q = Q b := rfl
def inP (d : D) (Q : Int → Prop) (_t : Tg Q := .mk) : Prop := match d with
  | .int b => Q b
  | _ => False
theorem inP_int {b : Int} {Q : Int → Prop} : inP (.int b) Q = Q b := rfl
/-- a slot's content -/
def vlP (z : Sl) (Q : D → Prop) (Q2 : List D → Prop) (_t : Tg (Q, Q2) := .mk) : Prop := match z with
  | .val d => Q d
  | .own ds => Q2 ds
  | _ => False
theorem vlP_val {d : D} {Q : D → Prop} {Q2 : List D → Prop} : vlP (.val d) Q Q2 = Q d := rfl
theorem vlP_own {d : List D} {Q : D → Prop} {Q2 : List D → Prop} : vlP (.own d) Q Q2 = Q2 d := rfl
def hdP (z : Sl) (Q : Prop) : Prop := match z with
  | .hnd => Q
  | _ => False
theorem hdP_hnd {Q : Prop} : hdP .hnd Q = Q := rfl
def sqP (d : D) (Q : List D → Prop) (_t : Tg Q := .mk) : Prop := match d with
  | .lst ds => Q ds
  | .tup ds => Q ds
  | .scr ds => Q ds
  | _ => False
theorem sqP_lst {ds : List D} {Q : List D → Prop} : sqP (.lst ds) Q = Q ds := rfl
theorem sqP_tup {ds : List D} {Q : List D → Prop} : sqP (.tup ds) Q = Q ds := rfl
theorem sqP_scr {ds : List D} {Q : List D → Prop} : sqP (.scr ds) Q = Q ds := rfl
def saP (d : D) (Q : List D → Prop) (_t : Tg Q := .mk) : Prop := match d with
  | .lst ds => Q ds
  | .tup ds => Q ds
  | .scr ds => Q ds
  | .rng lo hi => (-(2 ^ 62) ≤ lo ∧ lo < 2 ^ 62 ∧ -(2 ^ 62) ≤ hi ∧ hi < 2 ^ 62) ∧ Q (rngD lo (hi - lo).toNat)
  | _ => False
theorem saP_lst {ds : List D} {Q : List D → Prop} : saP (.lst ds) Q = Q ds := rfl
theorem saP_tup {ds : List D} {Q : List D → Prop} : saP (.tup ds) Q = Q ds := rfl
theorem saP_rng {lo hi : Int} {Q : List D → Prop} (h1 : -(2 ^ 62) ≤ lo) (h2 : lo < 2 ^ 62) (h3 : -(2 ^ 62) ≤ hi) (h4 : hi < 2 ^ 62) : saP (.rng lo hi) Q = Q (rngD lo (hi - lo).toNat) := propext ⟨fun q => q.2, fun q => ⟨⟨h1, h2, h3, h4⟩, q⟩⟩
def ctP (c : Ctl) (Q : Prop) (Q2 : Ctl → Prop) : Prop := match c with
  | .nx => Q
  | .bk => Q2 .bk
  | .ct => Q2 .ct
  | .rt r => Q2 (.rt r)
theorem ctP_nx {Q : Prop} {Q2 : Ctl → Prop} : ctP .nx Q Q2 = Q := rfl
theorem ctP_rt {r : Rv} {Q : Prop} {Q2 : Ctl → Prop} : ctP (.rt r) Q Q2 = Q2 (.rt r) := rfl
theorem ctP_bk {Q : Prop} {Q2 : Ctl → Prop} : ctP .bk Q Q2 = Q2 .bk := rfl
theorem ctP_ct {Q : Prop} {Q2 : Ctl → Prop} : ctP .ct Q Q2 = Q2 .ct := rfl
/-- one way or the other -/
def iteP (b : Bool) (p q : Prop) : Prop := if b = true then p else q
theorem iteP_true {p q : Prop} : iteP true p q = p := rfl
theorem iteP_false {p q : Prop} : iteP false p q = q := rfl
theorem iteP_t {c p q : Prop} [Decidable c] (h : c) : iteP (decide c) p q = p := by rw [decide_eq_true h]; rfl
theorem iteP_f {c p q : Prop} [Decidable c] (h : ¬ c) : iteP (decide c) p q = q := by rw [decide_eq_false h]; rfl
theorem iteP_nt {c p q : Prop} [Decidable c] (h : c) : iteP (!decide c) p q = q := by rw [decide_eq_true h]; rfl
theorem iteP_nf {c p q : Prop} [Decidable c] (h : ¬ c) : iteP (!decide c) p q = p := by rw [decide_eq_false h]; rfl
theorem iteP_of {b : Bool} {p q : Prop} (h1 : b = true → p) (h2 : b = false → q) : iteP b p q := by
  cases b with
  | true => exact h1 rfl
  | false => exact h2 rfl
theorem iteP_dec {c p q : Prop} [Decidable c] (h1 : c → p) (h2 : ¬ c → q) : iteP (decide c) p q := iteP_of (fun h => h1 (of_decide_eq_true h)) fun h => h2 (of_decide_eq_false h)
theorem iteP_not {b : Bool} {p q : Prop} : iteP (!b) p q = iteP b q p := by cases b <;> rfl
/-- a slot read, a slot written; the hand's items -/
def getP (S : Sto) (i : Nat) (k : Sl → Prop) (_t : Tg k := .mk) : Prop := k (S.sl.getD i .un)
def setP (S : Sto) (i : Nat) (z : Sl) (k : Sto → Prop) : Prop := k ⟨S.sl.set i z, S.hc⟩
def hcP (S : Sto) (j : Nat) (k : D → Prop) : Prop := opP S.hc[j]? k
def hsP (S : Sto) (j : Nat) (d : D) (k : Sto → Prop) : Prop := j < S.hc.length ∧ k ⟨S.sl, S.hc.set j d⟩
def hhP (S : Sto) (k : List D → (List D → Sto) → Prop) : Prop := k S.hc fun hc => ⟨S.sl, hc⟩
theorem hhP_eq {sl : List Sl} {hc : List D} {k : List D → (List D → Sto) → Prop} : hhP ⟨sl, hc⟩ k = k hc fun hc => ⟨sl, hc⟩ := rfl
section
variable {z x : Sl} {l : List Sl} {hc : List D} {k : Sl → Prop} {k2 : Sto → Prop}
theorem gp0 {a0 : Sl} : getP ⟨a0 :: l, hc⟩ 0 k = k a0 := rfl
theorem sp0 {a0 : Sl} : setP ⟨a0 :: l, hc⟩ 0 z k2 = k2 ⟨z :: l, hc⟩ := rfl
theorem gp1 {a0 a1 : Sl} : getP ⟨a0 :: a1 :: l, hc⟩ 1 k = k a1 := rfl
theorem sp1 {a0 a1 : Sl} : setP ⟨a0 :: a1 :: l, hc⟩ 1 z k2 = k2 ⟨a0 :: z :: l, hc⟩ := rfl
theorem gp2 {a0 a1 a2 : Sl} : getP ⟨a0 :: a1 :: a2 :: l, hc⟩ 2 k = k a2 := rfl
theorem sp2 {a0 a1 a2 : Sl} : setP ⟨a0 :: a1 :: a2 :: l, hc⟩ 2 z k2 = k2 ⟨a0 :: a1 :: z :: l, hc⟩ := rfl
theorem gp3 {a0 a1 a2 a3 : Sl} : getP ⟨a0 :: a1 :: a2 :: a3 :: l, hc⟩ 3 k = k a3 := rfl
theorem sp3 {a0 a1 a2 a3 : Sl} : setP ⟨a0 :: a1 :: a2 :: a3 :: l, hc⟩ 3 z k2 = k2 ⟨a0 :: a1 :: a2 :: z :: l, hc⟩ := rfl
theorem gp4 {a0 a1 a2 a3 a4 : Sl} : getP ⟨a0 :: a1 :: a2 :: a3 :: a4 :: l, hc⟩ 4 k = k a4 := rfl
theorem sp4 {a0 a1 a2 a3 a4 : Sl} : setP ⟨a0 :: a1 :: a2 :: a3 :: a4 :: l, hc⟩ 4 z k2 = k2 ⟨a0 :: a1 :: a2 :: a3 :: z :: l, hc⟩ := rfl
theorem gp5 {a0 a1 a2 a3 a4 a5 : Sl} : getP ⟨a0 :: a1 :: a2 :: a3 :: a4 :: a5 :: l, hc⟩ 5 k = k a5 := rfl
theorem sp5 {a0 a1 a2 a3 a4 a5 : Sl} : setP ⟨a0 :: a1 :: a2 :: a3 :: a4 :: a5 :: l, hc⟩ 5 z k2 = k2 ⟨a0 :: a1 :: a2 :: a3 :: a4 :: z :: l, hc⟩ := rfl
theorem gp6 {a0 a1 a2 a3 a4 a5 a6 : Sl} : getP ⟨a0 :: a1 :: a2 :: a3 :: a4 :: a5 :: a6 :: l, hc⟩ 6 k = k a6 := rfl
theorem sp6 {a0 a1 a2 a3 a4 a5 a6 : Sl} : setP ⟨a0 :: a1 :: a2 :: a3 :: a4 :: a5 :: a6 :: l, hc⟩ 6 z k2 = k2 ⟨a0 :: a1 :: a2 :: a3 :: a4 :: a5 :: z :: l, hc⟩ := rfl
theorem gp7 {a0 a1 a2 a3 a4 a5 a6 a7 : Sl} : getP ⟨a0 :: a1 :: a2 :: a3 :: a4 :: a5 :: a6 :: a7 :: l, hc⟩ 7 k = k a7 := rfl
theorem sp7 {a0 a1 a2 a3 a4 a5 a6 a7 : Sl} : setP ⟨a0 :: a1 :: a2 :: a3 :: a4 :: a5 :: a6 :: a7 :: l, hc⟩ 7 z k2 = k2 ⟨a0 :: a1 :: a2 :: a3 :: a4 :: a5 :: a6 :: z :: l, hc⟩ := rfl
theorem gp8 {a0 a1 a2 a3 a4 a5 a6 a7 a8 : Sl} : getP ⟨a0 :: a1 :: a2 :: a3 :: a4 :: a5 :: a6 :: a7 :: a8 :: l, hc⟩ 8 k = k a8 := rfl
theorem sp8 {a0 a1 a2 a3 a4 a5 a6 a7 a8 : Sl} : setP ⟨a0 :: a1 :: a2 :: a3 :: a4 :: a5 :: a6 :: a7 :: a8 :: l, hc⟩ 8 z k2 = k2 ⟨a0 :: a1 :: a2 :: a3 :: a4 :: a5 :: a6 :: a7 :: z :: l, hc⟩ := rfl
theorem gp9 {a0 a1 a2 a3 a4 a5 a6 a7 a8 a9 : Sl} : getP ⟨a0 :: a1 :: a2 :: a3 :: a4 :: a5 :: a6 :: a7 :: a8 :: a9 :: l, hc⟩ 9 k = k a9 := rfl
theorem sp9 {a0 a1 a2 a3 a4 a5 a6 a7 a8 a9 : Sl} : setP ⟨a0 :: a1 :: a2 :: a3 :: a4 :: a5 :: a6 :: a7 :: a8 :: a9 :: l, hc⟩ 9 z k2 = k2 ⟨a0 :: a1 :: a2 :: a3 :: a4 :: a5 :: a6 :: a7 :: a8 :: z :: l, hc⟩ := rfl
theorem gp10 {a0 a1 a2 a3 a4 a5 a6 a7 a8 a9 a10 : Sl} : getP ⟨a0 :: a1 :: a2 :: a3 :: a4 :: a5 :: a6 :: a7 :: a8 :: a9 :: a10 :: l, hc⟩ 10 k = k a10 := rfl
theorem sp10 {a0 a1 a2 a3 a4 a5 a6 a7 a8 a9 a10 : Sl} : setP ⟨a0 :: a1 :: a2 :: a3 :: a4 :: a5 :: a6 :: a7 :: a8 :: a9 :: a10 :: l, hc⟩ 10 z k2 = k2 ⟨a0 :: a1 :: a2 :: a3 :: a4 :: a5 :: a6 :: a7 :: a8 :: a9 :: z :: l, hc⟩ := rfl
theorem gp11 {a0 a1 a2 a3 a4 a5 a6 a7 a8 a9 a10 a11 : Sl} : getP ⟨a0 :: a1 :: a2 :: a3 :: a4 :: a5 :: a6 :: a7 :: a8 :: a9 :: a10 :: a11 :: l, hc⟩ 11 k = k a11 := rfl
theorem sp11 {a0 a1 a2 a3 a4 a5 a6 a7 a8 a9 a10 a11 : Sl} : setP ⟨a0 :: a1 :: a2 :: a3 :: a4 :: a5 :: a6 :: a7 :: a8 :: a9 :: a10 :: a11 :: l, hc⟩ 11 z k2 = k2 ⟨a0 :: a1 :: a2 :: a3 :: a4 :: a5 :: a6 :: a7 :: a8 :: a9 :: a10 :: z :: l, hc⟩ := rfl
theorem gp12 {a0 a1 a2 a3 a4 a5 a6 a7 a8 a9 a10 a11 a12 : Sl} : getP ⟨a0 :: a1 :: a2 :: a3 :: a4 :: a5 :: a6 :: a7 :: a8 :: a9 :: a10 :: a11 :: a12 :: l, hc⟩ 12 k = k a12 := rfl
theorem sp12 {a0 a1 a2 a3 a4 a5 a6 a7 a8 a9 a10 a11 a12 : Sl} : setP ⟨a0 :: a1 :: a2 :: a3 :: a4 :: a5 :: a6 :: a7 :: a8 :: a9 :: a10 :: a11 :: a12 :: l, hc⟩ 12 z k2 = k2 ⟨a0 :: a1 :: a2 :: a3 :: a4 :: a5 :: a6 :: a7 :: a8 :: a9 :: a10 :: a11 :: z :: l, hc⟩ := rfl
theorem gp13 {a0 a1 a2 a3 a4 a5 a6 a7 a8 a9 a10 a11 a12 a13 : Sl} : getP ⟨a0 :: a1 :: a2 :: a3 :: a4 :: a5 :: a6 :: a7 :: a8 :: a9 :: a10 :: a11 :: a12 :: a13 :: l, hc⟩ 13 k = k a13 := rfl
theorem sp13 {a0 a1 a2 a3 a4 a5 a6 a7 a8 a9 a10 a11 a12 a13 : Sl} : setP ⟨a0 :: a1 :: a2 :: a3 :: a4 :: a5 :: a6 :: a7 :: a8 :: a9 :: a10 :: a11 :: a12 :: a13 :: l, hc⟩ 13 z k2 = k2 ⟨a0 :: a1 :: a2 :: a3 :: a4 :: a5 :: a6 :: a7 :: a8 :: a9 :: a10 :: a11 :: a12 :: z :: l, hc⟩ := rfl
theorem gp14 {a0 a1 a2 a3 a4 a5 a6 a7 a8 a9 a10 a11 a12 a13 a14 : Sl} : getP ⟨a0 :: a1 :: a2 :: a3 :: a4 :: a5 :: a6 :: a7 :: a8 :: a9 :: a10 :: a11 :: a12 :: a13 :: a14 :: l, hc⟩ 14 k = k a14 := rfl
theorem sp14 {a0 a1 a2 a3 a4 a5 a6 a7 a8 a9 a10 a11 a12 a13 a14 : Sl} : setP ⟨a0 :: a1 :: a2 :: a3 :: a4 :: a5 :: a6 :: a7 :: a8 :: a9 :: a10 :: a11 :: a12 :: a13 :: a14 :: l, hc⟩ 14 z k2 = k2 ⟨a0 :: a1 :: a2 :: a3 :: a4 :: a5 :: a6 :: a7 :: a8 :: a9 :: a10 :: a11 :: a12 :: a13 :: z :: l, hc⟩ := rfl
theorem gp15 {a0 a1 a2 a3 a4 a5 a6 a7 a8 a9 a10 a11 a12 a13 a14 a15 : Sl} : getP ⟨a0 :: a1 :: a2 :: a3 :: a4 :: a5 :: a6 :: a7 :: a8 :: a9 :: a10 :: a11 :: a12 :: a13 :: a14 :: a15 :: l, hc⟩ 15 k = k a15 := rfl
theorem sp15 {a0 a1 a2 a3 a4 a5 a6 a7 a8 a9 a10 a11 a12 a13 a14 a15 : Sl} : setP ⟨a0 :: a1 :: a2 :: a3 :: a4 :: a5 :: a6 :: a7 :: a8 :: a9 :: a10 :: a11 :: a12 :: a13 :: a14 :: a15 :: l, hc⟩ 15 z k2 = k2 ⟨a0 :: a1 :: a2 :: a3 :: a4 :: a5 :: a6 :: a7 :: a8 :: a9 :: a10 :: a11 :: a12 :: a13 :: a14 :: z :: l, hc⟩ := rfl
theorem gp16 {a0 a1 a2 a3 a4 a5 a6 a7 a8 a9 a10 a11 a12 a13 a14 a15 a16 : Sl} : getP ⟨a0 :: a1 :: a2 :: a3 :: a4 :: a5 :: a6 :: a7 :: a8 :: a9 :: a10 :: a11 :: a12 :: a13 :: a14 :: a15 :: a16 :: l, hc⟩ 16 k = k a16 := rfl
theorem sp16 {a0 a1 a2 a3 a4 a5 a6 a7 a8 a9 a10 a11 a12 a13 a14 a15 a16 : Sl} : setP ⟨a0 :: a1 :: a2 :: a3 :: a4 :: a5 :: a6 :: a7 :: a8 :: a9 :: a10 :: a11 :: a12 :: a13 :: a14 :: a15 :: a16 :: l, hc⟩ 16 z k2 = k2 ⟨a0 :: a1 :: a2 :: a3 :: a4 :: a5 :: a6 :: a7 :: a8 :: a9 :: a10 :: a11 :: a12 :: a13 :: a14 :: a15 :: z :: l, hc⟩ := rfl
theorem gp17 {a0 a1 a2 a3 a4 a5 a6 a7 a8 a9 a10 a11 a12 a13 a14 a15 a16 a17 : Sl} : getP ⟨a0 :: a1 :: a2 :: a3 :: a4 :: a5 :: a6 :: a7 :: a8 :: a9 :: a10 :: a11 :: a12 :: a13 :: a14 :: a15 :: a16 :: a17 :: l, hc⟩ 17 k = k a17 := rfl
theorem sp17 {a0 a1 a2 a3 a4 a5 a6 a7 a8 a9 a10 a11 a12 a13 a14 a15 a16 a17 : Sl} : setP ⟨a0 :: a1 :: a2 :: a3 :: a4 :: a5 :: a6 :: a7 :: a8 :: a9 :: a10 :: a11 :: a12 :: a13 :: a14 :: a15 :: a16 :: a17 :: l, hc⟩ 17 z k2 = k2 ⟨a0 :: a1 :: a2 :: a3 :: a4 :: a5 :: a6 :: a7 :: a8 :: a9 :: a10 :: a11 :: a12 :: a13 :: a14 :: a15 :: a16 :: z :: l, hc⟩ := rfl
theorem gp18 {a0 a1 a2 a3 a4 a5 a6 a7 a8 a9 a10 a11 a12 a13 a14 a15 a16 a17 a18 : Sl} : getP ⟨a0 :: a1 :: a2 :: a3 :: a4 :: a5 :: a6 :: a7 :: a8 :: a9 :: a10 :: a11 :: a12 :: a13 :: a14 :: a15 :: a16 :: a17 :: a18 :: l, hc⟩ 18 k = k a18 := rfl
theorem sp18 {a0 a1 a2 a3 a4 a5 a6 a7 a8 a9 a10 a11 a12 a13 a14 a15 a16 a17 a18 : Sl} : setP ⟨a0 :: a1 :: a2 :: a3 :: a4 :: a5 :: a6 :: a7 :: a8 :: a9 :: a10 :: a11 :: a12 :: a13 :: a14 :: a15 :: a16 :: a17 :: a18 :: l, hc⟩ 18 z k2 = k2 ⟨a0 :: a1 :: a2 :: a3 :: a4 :: a5 :: a6 :: a7 :: a8 :: a9 :: a10 :: a11 :: a12 :: a13 :: a14 :: a15 :: a16 :: a17 :: z :: l, hc⟩ := rfl
theorem gp19 {a0 a1 a2 a3 a4 a5 a6 a7 a8 a9 a10 a11 a12 a13 a14 a15 a16 a17 a18 a19 : Sl} : getP ⟨a0 :: a1 :: a2 :: a3 :: a4 :: a5 :: a6 :: a7 :: a8 :: a9 :: a10 :: a11 :: a12 :: a13 :: a14 :: a15 :: a16 :: a17 :: a18 :: a19 :: l, hc⟩ 19 k = k a19 := rfl
theorem sp19 {a0 a1 a2 a3 a4 a5 a6 a7 a8 a9 a10 a11 a12 a13 a14 a15 a16 a17 a18 a19 : Sl} : setP ⟨a0 :: a1 :: a2 :: a3 :: a4 :: a5 :: a6 :: a7 :: a8 :: a9 :: a10 :: a11 :: a12 :: a13 :: a14 :: a15 :: a16 :: a17 :: a18 :: a19 :: l, hc⟩ 19 z k2 = k2 ⟨a0 :: a1 :: a2 :: a3 :: a4 :: a5 :: a6 :: a7 :: a8 :: a9 :: a10 :: a11 :: a12 :: a13 :: a14 :: a15 :: a16 :: a17 :: a18 :: z :: l, hc⟩ := rfl
theorem gp20 {a0 a1 a2 a3 a4 a5 a6 a7 a8 a9 a10 a11 a12 a13 a14 a15 a16 a17 a18 a19 a20 : Sl} : getP ⟨a0 :: a1 :: a2 :: a3 :: a4 :: a5 :: a6 :: a7 :: a8 :: a9 :: a10 :: a11 :: a12 :: a13 :: a14 :: a15 :: a16 :: a17 :: a18 :: a19 :: a20 :: l, hc⟩ 20 k = k a20 := rfl
theorem sp20 {a0 a1 a2 a3 a4 a5 a6 a7 a8 a9 a10 a11 a12 a13 a14 a15 a16 a17 a18 a19 a20 : Sl} : setP ⟨a0 :: a1 :: a2 :: a3 :: a4 :: a5 :: a6 :: a7 :: a8 :: a9 :: a10 :: a11 :: a12 :: a13 :: a14 :: a15 :: a16 :: a17 :: a18 :: a19 :: a20 :: l, hc⟩ 20 z k2 = k2 ⟨a0 :: a1 :: a2 :: a3 :: a4 :: a5 :: a6 :: a7 :: a8 :: a9 :: a10 :: a11 :: a12 :: a13 :: a14 :: a15 :: a16 :: a17 :: a18 :: a19 :: z :: l, hc⟩ := rfl
theorem gp21 {a0 a1 a2 a3 a4 a5 a6 a7 a8 a9 a10 a11 a12 a13 a14 a15 a16 a17 a18 a19 a20 a21 : Sl} : getP ⟨a0 :: a1 :: a2 :: a3 :: a4 :: a5 :: a6 :: a7 :: a8 :: a9 :: a10 :: a11 :: a12 :: a13 :: a14 :: a15 :: a16 :: a17 :: a18 :: a19 :: a20 :: a21 :: l, hc⟩ 21 k = k a21 := rfl
theorem sp21 {a0 a1 a2 a3 a4 a5 a6 a7 a8 a9 a10 a11 a12 a13 a14 a15 a16 a17 a18 a19 a20 a21 : Sl} : setP ⟨a0 :: a1 :: a2 :: a3 :: a4 :: a5 :: a6 :: a7 :: a8 :: a9 :: a10 :: a11 :: a12 :: a13 :: a14 :: a15 :: a16 :: a17 :: a18 :: a19 :: a20 :: a21 :: l, hc⟩ 21 z k2 = k2 ⟨a0 :: a1 :: a2 :: a3 :: a4 :: a5 :: a6 :: a7 :: a8 :: a9 :: a10 :: a11 :: a12 :: a13 :: a14 :: a15 :: a16 :: a17 :: a18 :: a19 :: a20 :: z :: l, hc⟩ := rfl
theorem gp22 {a0 a1 a2 a3 a4 a5 a6 a7 a8 a9 a10 a11 a12 a13 a14 a15 a16 a17 a18 a19 a20 a21 a22 : Sl} : getP ⟨a0 :: a1 :: a2 :: a3 :: a4 :: a5 :: a6 :: a7 :: a8 :: a9 :: a10 :: a11 :: a12 :: a13 :: a14 :: a15 :: a16 :: a17 :: a18 :: a19 :: a20 :: a21 :: a22 :: l, hc⟩ 22 k = k a22 := rfl
theorem sp22 {a0 a1 a2 a3 a4 a5 a6 a7 a8 a9 a10 a11 a12 a13 a14 a15 a16 a17 a18 a19 a20 a21 a22 : Sl} : setP ⟨a0 :: a1 :: a2 :: a3 :: a4 :: a5 :: a6 :: a7 :: a8 :: a9 :: a10 :: a11 :: a12 :: a13 :: a14 :: a15 :: a16 :: a17 :: a18 :: a19 :: a20 :: a21 :: a22 :: l, hc⟩ 22 z k2 = k2 ⟨a0 :: a1 :: a2 :: a3 :: a4 :: a5 :: a6 :: a7 :: a8 :: a9 :: a10 :: a11 :: a12 :: a13 :: a14 :: a15 :: a16 :: a17 :: a18 :: a19 :: a20 :: a21 :: z :: l, hc⟩ := rfl
theorem gp23 {a0 a1 a2 a3 a4 a5 a6 a7 a8 a9 a10 a11 a12 a13 a14 a15 a16 a17 a18 a19 a20 a21 a22 a23 : Sl} : getP ⟨a0 :: a1 :: a2 :: a3 :: a4 :: a5 :: a6 :: a7 :: a8 :: a9 :: a10 :: a11 :: a12 :: a13 :: a14 :: a15 :: a16 :: a17 :: a18 :: a19 :: a20 :: a21 :: a22 :: a23 :: l, hc⟩ 23 k = k a23 := rfl
theorem sp23 {a0 a1 a2 a3 a4 a5 a6 a7 a8 a9 a10 a11 a12 a13 a14 a15 a16 a17 a18 a19 a20 a21 a22 a23 : Sl} : setP ⟨a0 :: a1 :: a2 :: a3 :: a4 :: a5 :: a6 :: a7 :: a8 :: a9 :: a10 :: a11 :: a12 :: a13 :: a14 :: a15 :: a16 :: a17 :: a18 :: a19 :: a20 :: a21 :: a22 :: a23 :: l, hc⟩ 23 z k2 = k2 ⟨a0 :: a1 :: a2 :: a3 :: a4 :: a5 :: a6 :: a7 :: a8 :: a9 :: a10 :: a11 :: a12 :: a13 :: a14 :: a15 :: a16 :: a17 :: a18 :: a19 :: a20 :: a21 :: a22 :: z :: l, hc⟩ := rfl
theorem gp24 {a0 a1 a2 a3 a4 a5 a6 a7 a8 a9 a10 a11 a12 a13 a14 a15 a16 a17 a18 a19 a20 a21 a22 a23 a24 : Sl} : getP ⟨a0 :: a1 :: a2 :: a3 :: a4 :: a5 :: a6 :: a7 :: a8 :: a9 :: a10 :: a11 :: a12 :: a13 :: a14 :: a15 :: a16 :: a17 :: a18 :: a19 :: a20 :: a21 :: a22 :: a23 :: a24 :: l, hc⟩ 24 k = k a24 := rfl
theorem sp24 {a0 a1 a2 a3 a4 a5 a6 a7 a8 a9 a10 a11 a12 a13 a14 a15 a16 a17 a18 a19 a20 a21 a22 a23 a24 : Sl} : setP ⟨a0 :: a1 :: a2 :: a3 :: a4 :: a5 :: a6 :: a7 :: a8 :: a9 :: a10 :: a11 :: a12 :: a13 :: a14 :: a15 :: a16 :: a17 :: a18 :: a19 :: a20 :: a21 :: a22 :: a23 :: a24 :: l, hc⟩ 24 z k2 = k2 ⟨a0 :: a1 :: a2 :: a3 :: a4 :: a5 :: a6 :: a7 :: a8 :: a9 :: a10 :: a11 :: a12 :: a13 :: a14 :: a15 :: a16 :: a17 :: a18 :: a19 :: a20 :: a21 :: a22 :: a23 :: z :: l, hc⟩ := rfl
theorem gp25 {a0 a1 a2 a3 a4 a5 a6 a7 a8 a9 a10 a11 a12 a13 a14 a15 a16 a17 a18 a19 a20 a21 a22 a23 a24 a25 : Sl} : getP ⟨a0 :: a1 :: a2 :: a3 :: a4 :: a5 :: a6 :: a7 :: a8 :: a9 :: a10 :: a11 :: a12 :: a13 :: a14 :: a15 :: a16 :: a17 :: a18 :: a19 :: a20 :: a21 :: a22 :: a23 :: a24 :: a25 :: l, hc⟩ 25 k = k a25 := rfl
theorem sp25 {a0 a1 a2 a3 a4 a5 a6 a7 a8 a9 a10 a11 a12 a13 a14 a15 a16 a17 a18 a19 a20 a21 a22 a23 a24 a25 : Sl} : setP ⟨a0 :: a1 :: a2 :: a3 :: a4 :: a5 :: a6 :: a7 :: a8 :: a9 :: a10 :: a11 :: a12 :: a13 :: a14 :: a15 :: a16 :: a17 :: a18 :: a19 :: a20 :: a21 :: a22 :: a23 :: a24 :: a25 :: l, hc⟩ 25 z k2 = k2 ⟨a0 :: a1 :: a2 :: a3 :: a4 :: a5 :: a6 :: a7 :: a8 :: a9 :: a10 :: a11 :: a12 :: a13 :: a14 :: a15 :: a16 :: a17 :: a18 :: a19 :: a20 :: a21 :: a22 :: a23 :: a24 :: z :: l, hc⟩ := rfl
theorem gp26 {a0 a1 a2 a3 a4 a5 a6 a7 a8 a9 a10 a11 a12 a13 a14 a15 a16 a17 a18 a19 a20 a21 a22 a23 a24 a25 a26 : Sl} : getP ⟨a0 :: a1 :: a2 :: a3 :: a4 :: a5 :: a6 :: a7 :: a8 :: a9 :: a10 :: a11 :: a12 :: a13 :: a14 :: a15 :: a16 :: a17 :: a18 :: a19 :: a20 :: a21 :: a22 :: a23 :: a24 :: a25 :: a26 :: l, hc⟩ 26 k = k a26 := rfl
theorem sp26 {a0 a1 a2 a3 a4 a5 a6 a7 a8 a9 a10 a11 a12 a13 a14 a15 a16 a17 a18 a19 a20 a21 a22 a23 a24 a25 a26 : Sl} : setP ⟨a0 :: a1 :: a2 :: a3 :: a4 :: a5 :: a6 :: a7 :: a8 :: a9 :: a10 :: a11 :: a12 :: a13 :: a14 :: a15 :: a16 :: a17 :: a18 :: a19 :: a20 :: a21 :: a22 :: a23 :: a24 :: a25 :: a26 :: l, hc⟩ 26 z k2 = k2 ⟨a0 :: a1 :: a2 :: a3 :: a4 :: a5 :: a6 :: a7 :: a8 :: a9 :: a10 :: a11 :: a12 :: a13 :: a14 :: a15 :: a16 :: a17 :: a18 :: a19 :: a20 :: a21 :: a22 :: a23 :: a24 :: a25 :: z :: l, hc⟩ := rfl
theorem gp27 {a0 a1 a2 a3 a4 a5 a6 a7 a8 a9 a10 a11 a12 a13 a14 a15 a16 a17 a18 a19 a20 a21 a22 a23 a24 a25 a26 a27 : Sl} : getP ⟨a0 :: a1 :: a2 :: a3 :: a4 :: a5 :: a6 :: a7 :: a8 :: a9 :: a10 :: a11 :: a12 :: a13 :: a14 :: a15 :: a16 :: a17 :: a18 :: a19 :: a20 :: a21 :: a22 :: a23 :: a24 :: a25 :: a26 :: a27 :: l, hc⟩ 27 k = k a27 := rfl
theorem sp27 {a0 a1 a2 a3 a4 a5 a6 a7 a8 a9 a10 a11 a12 a13 a14 a15 a16 a17 a18 a19 a20 a21 a22 a23 a24 a25 a26 a27 : Sl} : setP ⟨a0 :: a1 :: a2 :: a3 :: a4 :: a5 :: a6 :: a7 :: a8 :: a9 :: a10 :: a11 :: a12 :: a13 :: a14 :: a15 :: a16 :: a17 :: a18 :: a19 :: a20 :: a21 :: a22 :: a23 :: a24 :: a25 :: a26 :: a27 :: l, hc⟩ 27 z k2 = k2 ⟨a0 :: a1 :: a2 :: a3 :: a4 :: a5 :: a6 :: a7 :: a8 :: a9 :: a10 :: a11 :: a12 :: a13 :: a14 :: a15 :: a16 :: a17 :: a18 :: a19 :: a20 :: a21 :: a22 :: a23 :: a24 :: a25 :: a26 :: z :: l, hc⟩ := rfl
theorem gp28 {a0 a1 a2 a3 a4 a5 a6 a7 a8 a9 a10 a11 a12 a13 a14 a15 a16 a17 a18 a19 a20 a21 a22 a23 a24 a25 a26 a27 a28 : Sl} : getP ⟨a0 :: a1 :: a2 :: a3 :: a4 :: a5 :: a6 :: a7 :: a8 :: a9 :: a10 :: a11 :: a12 :: a13 :: a14 :: a15 :: a16 :: a17 :: a18 :: a19 :: a20 :: a21 :: a22 :: a23 :: a24 :: a25 :: a26 :: a27 :: a28 :: l, hc⟩ 28 k = k a28 := rfl
theorem sp28 {a0 a1 a2 a3 a4 a5 a6 a7 a8 a9 a10 a11 a12 a13 a14 a15 a16 a17 a18 a19 a20 a21 a22 a23 a24 a25 a26 a27 a28 : Sl} : setP ⟨a0 :: a1 :: a2 :: a3 :: a4 :: a5 :: a6 :: a7 :: a8 :: a9 :: a10 :: a11 :: a12 :: a13 :: a14 :: a15 :: a16 :: a17 :: a18 :: a19 :: a20 :: a21 :: a22 :: a23 :: a24 :: a25 :: a26 :: a27 :: a28 :: l, hc⟩ 28 z k2 = k2 ⟨a0 :: a1 :: a2 :: a3 :: a4 :: a5 :: a6 :: a7 :: a8 :: a9 :: a10 :: a11 :: a12 :: a13 :: a14 :: a15 :: a16 :: a17 :: a18 :: a19 :: a20 :: a21 :: a22 :: a23 :: a24 :: a25 :: a26 :: a27 :: z :: l, hc⟩ := rfl
theorem gp29 {a0 a1 a2 a3 a4 a5 a6 a7 a8 a9 a10 a11 a12 a13 a14 a15 a16 a17 a18 a19 a20 a21 a22 a23 a24 a25 a26 a27 a28 a29 : Sl} : getP ⟨a0 :: a1 :: a2 :: a3 :: a4 :: a5 :: a6 :: a7 :: a8 :: a9 :: a10 :: a11 :: a12 :: a13 :: a14 :: a15 :: a16 :: a17 :: a18 :: a19 :: a20 :: a21 :: a22 :: a23 :: a24 :: a25 :: a26 :: a27 :: a28 :: a29 :: l, hc⟩ 29 k = k a29 := rfl
theorem sp29 {a0 a1 a2 a3 a4 a5 a6 a7 a8 a9 a10 a11 a12 a13 a14 a15 a16 a17 a18 a19 a20 a21 a22 a23 a24 a25 a26 a27 a28 a29 : Sl} : setP ⟨a0 :: a1 :: a2 :: a3 :: a4 :: a5 :: a6 :: a7 :: a8 :: a9 :: a10 :: a11 :: a12 :: a13 :: a14 :: a15 :: a16 :: a17 :: a18 :: a19 :: a20 :: a21 :: a22 :: a23 :: a24 :: a25 :: a26 :: a27 :: a28 :: a29 :: l, hc⟩ 29 z k2 = k2 ⟨a0 :: a1 :: a2 :: a3 :: a4 :: a5 :: a6 :: a7 :: a8 :: a9 :: a10 :: a11 :: a12 :: a13 :: a14 :: a15 :: a16 :: a17 :: a18 :: a19 :: a20 :: a21 :: a22 :: a23 :: a24 :: a25 :: a26 :: a27 :: a28 :: z :: l, hc⟩ := rfl
theorem gp30 {a0 a1 a2 a3 a4 a5 a6 a7 a8 a9 a10 a11 a12 a13 a14 a15 a16 a17 a18 a19 a20 a21 a22 a23 a24 a25 a26 a27 a28 a29 a30 : Sl} : getP ⟨a0 :: a1 :: a2 :: a3 :: a4 :: a5 :: a6 :: a7 :: a8 :: a9 :: a10 :: a11 :: a12 :: a13 :: a14 :: a15 :: a16 :: a17 :: a18 :: a19 :: a20 :: a21 :: a22 :: a23 :: a24 :: a25 :: a26 :: a27 :: a28 :: a29 :: a30 :: l, hc⟩ 30 k = k a30 := rfl
theorem sp30 {a0 a1 a2 a3 a4 a5 a6 a7 a8 a9 a10 a11 a12 a13 a14 a15 a16 a17 a18 a19 a20 a21 a22 a23 a24 a25 a26 a27 a28 a29 a30 : Sl} : setP ⟨a0 :: a1 :: a2 :: a3 :: a4 :: a5 :: a6 :: a7 :: a8 :: a9 :: a10 :: a11 :: a12 :: a13 :: a14 :: a15 :: a16 :: a17 :: a18 :: a19 :: a20 :: a21 :: a22 :: a23 :: a24 :: a25 :: a26 :: a27 :: a28 :: a29 :: a30 :: l, hc⟩ 30 z k2 = k2 ⟨a0 :: a1 :: a2 :: a3 :: a4 :: a5 :: a6 :: a7 :: a8 :: a9 :: a10 :: a11 :: a12 :: a13 :: a14 :: a15 :: a16 :: a17 :: a18 :: a19 :: a20 :: a21 :: a22 :: a23 :: a24 :: a25 :: a26 :: a27 :: a28 :: a29 :: z :: l, hc⟩ := rfl
theorem gp31 {a0 a1 a2 a3 a4 a5 a6 a7 a8 a9 a10 a11 a12 a13 a14 a15 a16 a17 a18 a19 a20 a21 a22 a23 a24 a25 a26 a27 a28 a29 a30 a31 : Sl} : getP ⟨a0 :: a1 :: a2 :: a3 :: a4 :: a5 :: a6 :: a7 :: a8 :: a9 :: a10 :: a11 :: a12 :: a13 :: a14 :: a15 :: a16 :: a17 :: a18 :: a19 :: a20 :: a21 :: a22 :: a23 :: a24 :: a25 :: a26 :: a27 :: a28 :: a29 :: a30 :: a31 :: l, hc⟩ 31 k = k a31 := rfl
theorem sp31 {a0 a1 a2 a3 a4 a5 a6 a7 a8 a9 a10 a11 a12 a13 a14 a15 a16 a17 a18 a19 a20 a21 a22 a23 a24 a25 a26 a27 a28 a29 a30 a31 : Sl} : setP ⟨a0 :: a1 :: a2 :: a3 :: a4 :: a5 :: a6 :: a7 :: a8 :: a9 :: a10 :: a11 :: a12 :: a13 :: a14 :: a15 :: a16 :: a17 :: a18 :: a19 :: a20 :: a21 :: a22 :: a23 :: a24 :: a25 :: a26 :: a27 :: a28 :: a29 :: a30 :: a31 :: l, hc⟩ 31 z k2 = k2 ⟨a0 :: a1 :: a2 :: a3 :: a4 :: a5 :: a6 :: a7 :: a8 :: a9 :: a10 :: a11 :: a12 :: a13 :: a14 :: a15 :: a16 :: a17 :: a18 :: a19 :: a20 :: a21 :: a22 :: a23 :: a24 :: a25 :: a26 :: a27 :: a28 :: a29 :: a30 :: z :: l, hc⟩ := rfl
theorem gp32 {a0 a1 a2 a3 a4 a5 a6 a7 a8 a9 a10 a11 a12 a13 a14 a15 a16 a17 a18 a19 a20 a21 a22 a23 a24 a25 a26 a27 a28 a29 a30 a31 a32 : Sl} : getP ⟨a0 :: a1 :: a2 :: a3 :: a4 :: a5 :: a6 :: a7 :: a8 :: a9 :: a10 :: a11 :: a12 :: a13 :: a14 :: a15 :: a16 :: a17 :: a18 :: a19 :: a20 :: a21 :: a22 :: a23 :: a24 :: a25 :: a26 :: a27 :: a28 :: a29 :: a30 :: a31 :: a32 :: l, hc⟩ 32 k = k a32 := rfl
theorem sp32 {a0 a1 a2 a3 a4 a5 a6 a7 a8 a9 a10 a11 a12 a13 a14 a15 a16 a17 a18 a19 a20 a21 a22 a23 a24 a25 a26 a27 a28 a29 a30 a31 a32 : Sl} : setP ⟨a0 :: a1 :: a2 :: a3 :: a4 :: a5 :: a6 :: a7 :: a8 :: a9 :: a10 :: a11 :: a12 :: a13 :: a14 :: a15 :: a16 :: a17 :: a18 :: a19 :: a20 :: a21 :: a22 :: a23 :: a24 :: a25 :: a26 :: a27 :: a28 :: a29 :: a30 :: a31 :: a32 :: l, hc⟩ 32 z k2 = k2 ⟨a0 :: a1 :: a2 :: a3 :: a4 :: a5 :: a6 :: a7 :: a8 :: a9 :: a10 :: a11 :: a12 :: a13 :: a14 :: a15 :: a16 :: a17 :: a18 :: a19 :: a20 :: a21 :: a22 :: a23 :: a24 :: a25 :: a26 :: a27 :: a28 :: a29 :: a30 :: a31 :: z :: l, hc⟩ := rfl
theorem gp33 {a0 a1 a2 a3 a4 a5 a6 a7 a8 a9 a10 a11 a12 a13 a14 a15 a16 a17 a18 a19 a20 a21 a22 a23 a24 a25 a26 a27 a28 a29 a30 a31 a32 a33 : Sl} : getP ⟨a0 :: a1 :: a2 :: a3 :: a4 :: a5 :: a6 :: a7 :: a8 :: a9 :: a10 :: a11 :: a12 :: a13 :: a14 :: a15 :: a16 :: a17 :: a18 :: a19 :: a20 :: a21 :: a22 :: a23 :: a24 :: a25 :: a26 :: a27 :: a28 :: a29 :: a30 :: a31 :: a32 :: a33 :: l, hc⟩ 33 k = k a33 := rfl
theorem sp33 {a0 a1 a2 a3 a4 a5 a6 a7 a8 a9 a10 a11 a12 a13 a14 a15 a16 a17 a18 a19 a20 a21 a22 a23 a24 a25 a26 a27 a28 a29 a30 a31 a32 a33 : Sl} : setP ⟨a0 :: a1 :: a2 :: a3 :: a4 :: a5 :: a6 :: a7 :: a8 :: a9 :: a10 :: a11 :: a12 :: a13 :: a14 :: a15 :: a16 :: a17 :: a18 :: a19 :: a20 :: a21 :: a22 :: a23 :: a24 :: a25 :: a26 :: a27 :: a28 :: a29 :: a30 :: a31 :: a32 :: a33 :: l, hc⟩ 33 z k2 = k2 ⟨a0 :: a1 :: a2 :: a3 :: a4 :: a5 :: a6 :: a7 :: a8 :: a9 :: a10 :: a11 :: a12 :: a13 :: a14 :: a15 :: a16 :: a17 :: a18 :: a19 :: a20 :: a21 :: a22 :: a23 :: a24 :: a25 :: a26 :: a27 :: a28 :: a29 :: a30 :: a31 :: a32 :: z :: l, hc⟩ := rfl
end
section
variable {sl : List Sl} {d : D} {l : List D} {k : D → Prop} {k2 : Sto → Prop}
theorem hp0 {a0 : D} : hcP ⟨sl, a0 :: l⟩ 0 k = k a0 := rfl
theorem wp0 {a0 : D} : hsP ⟨sl, a0 :: l⟩ 0 d k2 = k2 ⟨sl, d :: l⟩ := propext ⟨fun q => q.2, fun q => ⟨by simp only [List.length_cons]; omega, q⟩⟩
theorem hp1 {a0 a1 : D} : hcP ⟨sl, a0 :: a1 :: l⟩ 1 k = k a1 := rfl
theorem wp1 {a0 a1 : D} : hsP ⟨sl, a0 :: a1 :: l⟩ 1 d k2 = k2 ⟨sl, a0 :: d :: l⟩ := propext ⟨fun q => q.2, fun q => ⟨by simp only [List.length_cons]; omega, q⟩⟩
theorem hp2 {a0 a1 a2 : D} : hcP ⟨sl, a0 :: a1 :: a2 :: l⟩ 2 k = k a2 := rfl
theorem wp2 {a0 a1 a2 : D} : hsP ⟨sl, a0 :: a1 :: a2 :: l⟩ 2 d k2 = k2 ⟨sl, a0 :: a1 :: d :: l⟩ := propext ⟨fun q => q.2, fun q => ⟨by simp only [List.length_cons]; omega, q⟩⟩
theorem hp3 {a0 a1 a2 a3 : D} : hcP ⟨sl, a0 :: a1 :: a2 :: a3 :: l⟩ 3 k = k a3 := rfl
theorem wp3 {a0 a1 a2 a3 : D} : hsP ⟨sl, a0 :: a1 :: a2 :: a3 :: l⟩ 3 d k2 = k2 ⟨sl, a0 :: a1 :: a2 :: d :: l⟩ := propext ⟨fun q => q.2, fun q => ⟨by simp only [List.length_cons]; omega, q⟩⟩
theorem hp4 {a0 a1 a2 a3 a4 : D} : hcP ⟨sl, a0 :: a1 :: a2 :: a3 :: a4 :: l⟩ 4 k = k a4 := rfl
theorem wp4 {a0 a1 a2 a3 a4 : D} : hsP ⟨sl, a0 :: a1 :: a2 :: a3 :: a4 :: l⟩ 4 d k2 = k2 ⟨sl, a0 :: a1 :: a2 :: a3 :: d :: l⟩ := propext ⟨fun q => q.2, fun q => ⟨by simp only [List.length_cons]; omega, q⟩⟩
theorem hp5 {a0 a1 a2 a3 a4 a5 : D} : hcP ⟨sl, a0 :: a1 :: a2 :: a3 :: a4 :: a5 :: l⟩ 5 k = k a5 := rfl
theorem wp5 {a0 a1 a2 a3 a4 a5 : D} : hsP ⟨sl, a0 :: a1 :: a2 :: a3 :: a4 :: a5 :: l⟩ 5 d k2 = k2 ⟨sl, a0 :: a1 :: a2 :: a3 :: a4 :: d :: l⟩ := propext ⟨fun q => q.2, fun q => ⟨by simp only [List.length_cons]; omega, q⟩⟩
end
section
variable {α : Type} {m : M α} {S : Sto} {Q Q' : α → Sto → Prop} {o : Option α} {P P' : α → Prop} {f : Fo} {A A' : Rv → List D → Prop} {r : Rv} {B B' : List D → Prop} {d : D} {C C' : Bool → Prop} {E E' : Int → Prop} {z : Sl} {G G' : D → Prop} {k k' : Sl → Prop} {i : Nat}
theorem tgW (h : Q = Q') : Wp m S Q = Wp m S Q' := by subst h; rfl
theorem tgOp (h : P = P') : opP o P = opP o P' := by subst h; rfl
theorem tgFo (h : A = A') : foP f A = foP f A' := by subst h; rfl
theorem tgLs (h : B = B') : lsP r B = lsP r B' := by subst h; rfl
theorem tgBl (h : C = C') : blP d C = blP d C' := by subst h; rfl
theorem tgIn (h : E = E') : inP d E = inP d E' := by subst h; rfl
theorem tgSq (h : B = B') : sqP d B = sqP d B' := by subst h; rfl
theorem tgSa (h : B = B') : saP d B = saP d B' := by subst h; rfl
end
section
variable {α β : Type} {S : Sto} {Q : α → Sto → Prop}
theorem wp_ok {m : M α} {a : α} {S' : Sto} (h : m S = .ok a S') : Wp m S Q = Q a S' := by unfold Wp; rw [h]; rfl
theorem wp_of {m : M α} {a : α} {S' : Sto} (h : m S = .ok a S') (q : Q a S') : Wp m S Q := by rw [wp_ok h]; exact q
theorem of_wp {m : M α} (h : Wp m S Q) : ∃ a S', m S = .ok a S' ∧ Q a S' := by
  unfold Wp at h
  cases q : m S with
  | ok a S' => rw [q] at h; exact ⟨a, S', rfl, h⟩
  | exc _ _ => rw [q] at h; exact False.elim h
  | stuck => rw [q] at h; exact False.elim h
theorem Wp.imp {m : M α} {Q' : α → Sto → Prop} (h : Wp m S Q) (i : ∀ a S', Q a S' → Q' a S') : Wp m S Q' := by
  obtain ⟨a, S', e, q⟩ := of_wp h
  exact wp_of e (i _ _ q)
theorem wp_bnd {f : M β} {g : β → M α} : Wp (bnd f g) S Q = Wp f S fun b S' => Wp (g b) S' Q := by
  unfold Wp bnd
  cases f S <;> rfl
theorem wp_ret {a : α} : Wp (ret a) S Q = Q a S := rfl
theorem wp_lf {o : Option α} : Wp (lf o) S Q = opP o fun a => Q a S := by cases o <;> rfl
end
section
variable {S : Sto}
theorem wp_vV {i : Nat} {Q : D → Sto → Prop} : Wp (vV i) S Q = getP S i fun z => vlP z (fun d => Q d S) fun ds => setP S i (.val (.lst ds)) fun S' => Q (.lst ds) S' := by unfold Wp vV getP setP; dsimp only; generalize S.sl.getD i .un = z; cases z <;> rfl
theorem wp_vB {i : Nat} {Q : D → Sto → Prop} : Wp (vB i) S Q = getP S i fun z => vlP z (fun d => Q d S) fun ds => Q (.lst ds) S := by unfold Wp vB getP; generalize S.sl.getD i .un = z; cases z <;> rfl
theorem wp_vL {i : Nat} {Q : List D → Sto → Prop} : Wp (vL i) S Q = getP S i fun z => vlP z (fun _ => False) fun ds => setP S i .un fun S' => Q ds S' := by unfold Wp vL getP setP; dsimp only; generalize S.sl.getD i .un = z; cases z <;> rfl
theorem wp_hix {i j : Nat} {Q : D → Sto → Prop} : Wp (hix i j) S Q = getP S i fun z => hdP z (hcP S j fun d => Q d S) := by unfold Wp hix getP hcP; generalize S.sl.getD i .un = z; generalize S.hc[j]? = y; cases z <;> cases y <;> rfl
variable {α : Type}
theorem wp_b1 {f : M D} {o : D → Option α} {Q : α → Sto → Prop} : Wp (b1 f o) S Q = Wp f S fun d S' => opP (o d) fun a => Q a S' := by
  unfold b1; rw [wp_bnd]; (first | refine tgW ?_ | refine tgOp ?_ | refine tgFo ?_ | refine tgLs ?_ | refine tgBl ?_ | refine tgIn ?_ | refine tgSq ?_ | refine tgSa ?_ | congr 1); funext d S'; rw [wp_lf]
theorem wp_b2 {f g : M D} {o : D → D → Option α} {Q : α → Sto → Prop} : Wp (b2 f g o) S Q = Wp f S fun d S1 => Wp g S1 fun e S2 => opP (o d e) fun a => Q a S2 := by
  unfold b2; rw [wp_bnd]; (first | refine tgW ?_ | refine tgOp ?_ | refine tgFo ?_ | refine tgLs ?_ | refine tgBl ?_ | refine tgIn ?_ | refine tgSq ?_ | refine tgSa ?_ | congr 1); funext d S'; rw [wp_bnd]; (first | refine tgW ?_ | refine tgOp ?_ | refine tgFo ?_ | refine tgLs ?_ | refine tgBl ?_ | refine tgIn ?_ | refine tgSq ?_ | refine tgSa ?_ | congr 1); funext e S2; rw [wp_lf]
theorem wp_ifM {c : M Bool} {f g : M α} {Q : α → Sto → Prop} : Wp (ifM c f g) S Q = Wp c S fun b S' => iteP b (Wp f S' Q) (Wp g S' Q) := by
  unfold ifM; rw [wp_bnd]; (first | refine tgW ?_ | refine tgOp ?_ | refine tgFo ?_ | refine tgLs ?_ | refine tgBl ?_ | refine tgIn ?_ | refine tgSq ?_ | refine tgSa ?_ | congr 1); funext b S'; cases b <;> rfl
theorem wp_notM {f : M Bool} {Q : Bool → Sto → Prop} : Wp (notM f) S Q = Wp f S fun b S' => Q (!b) S' := by unfold notM; rw [wp_bnd]; rfl
theorem wp_andM {f g : M Bool} {Q : Bool → Sto → Prop} : Wp (andM f g) S Q = Wp f S fun b S' => iteP b (Wp g S' Q) (Q false S') := by
  unfold andM; rw [wp_bnd]; (first | refine tgW ?_ | refine tgOp ?_ | refine tgFo ?_ | refine tgLs ?_ | refine tgBl ?_ | refine tgIn ?_ | refine tgSq ?_ | refine tgSa ?_ | congr 1); funext b S'; cases b <;> rfl
theorem wp_orM {f g : M Bool} {Q : Bool → Sto → Prop} : Wp (orM f g) S Q = Wp f S fun b S' => iteP b (Q true S') (Wp g S' Q) := by
  unfold orM; rw [wp_bnd]; (first | refine tgW ?_ | refine tgOp ?_ | refine tgFo ?_ | refine tgLs ?_ | refine tgBl ?_ | refine tgIn ?_ | refine tgSq ?_ | refine tgSa ?_ | congr 1); funext b S'; cases b <;> rfl
theorem wp_asB {d : D} {Q : Bool → Sto → Prop} : Wp (asB d) S Q = blP d fun b => Q b S := by cases d <;> rfl
theorem wp_asI {d : D} {Q : Int → Sto → Prop} : Wp (asI d) S Q = inP d fun b => Q b S := by cases d <;> rfl
theorem wp_notV {f : M D} {Q : D → Sto → Prop} : Wp (notV f) S Q = Wp f S fun d S' => blP d fun b => Q (.bl (!b)) S' := by
  unfold notV; rw [wp_bnd]; (first | refine tgW ?_ | refine tgOp ?_ | refine tgFo ?_ | refine tgLs ?_ | refine tgBl ?_ | refine tgIn ?_ | refine tgSq ?_ | refine tgSa ?_ | congr 1); funext d S'; rw [wp_bnd, wp_asB]; cases d <;> rfl
theorem wp_andV {f g : M D} {Q : D → Sto → Prop} : Wp (andV f g) S Q = Wp f S fun d S' => blP d fun b => iteP b (Wp g S' Q) (Q (.bl false) S') := by
  unfold andV; rw [wp_bnd]; (first | refine tgW ?_ | refine tgOp ?_ | refine tgFo ?_ | refine tgLs ?_ | refine tgBl ?_ | refine tgIn ?_ | refine tgSq ?_ | refine tgSa ?_ | congr 1); funext d S'; rw [wp_bnd, wp_asB]; cases d with
  | bl b => cases b <;> rfl
  | _ => rfl
theorem wp_orV {f g : M D} {Q : D → Sto → Prop} : Wp (orV f g) S Q = Wp f S fun d S' => blP d fun b => iteP b (Q (.bl true) S') (Wp g S' Q) := by
  unfold orV; rw [wp_bnd]; (first | refine tgW ?_ | refine tgOp ?_ | refine tgFo ?_ | refine tgLs ?_ | refine tgBl ?_ | refine tgIn ?_ | refine tgSq ?_ | refine tgSa ?_ | congr 1); funext d S'; rw [wp_bnd, wp_asB]; cases d with
  | bl b => cases b <;> rfl
  | _ => rfl
theorem wp_sq0 {Q : List D → Sto → Prop} : Wp (sqM []) S Q = Q [] S := rfl
theorem wp_sq {m : M D} {ms : List (M D)} {Q : List D → Sto → Prop} : Wp (sqM (m :: ms)) S Q = Wp m S fun d S1 => Wp (sqM ms) S1 fun ds S2 => Q (d :: ds) S2 := by
  show Wp (bnd m fun d => bnd (sqM ms) fun ds => ret (d :: ds)) S Q = _
  rw [wp_bnd]; (first | refine tgW ?_ | refine tgOp ?_ | refine tgFo ?_ | refine tgLs ?_ | refine tgBl ?_ | refine tgIn ?_ | refine tgSq ?_ | refine tgSa ?_ | congr 1); funext d S1; rw [wp_bnd]; rfl
theorem wp_tupM {fs : List (M D)} {Q : D → Sto → Prop} : Wp (tupM fs) S Q = Wp (sqM fs) S fun ds S' => Q (.tup ds) S' := by unfold tupM; rw [wp_bnd]; rfl
theorem wp_frz {f : M (List D)} {Q : D → Sto → Prop} : Wp (frz f) S Q = Wp f S fun ds S' => Q (.lst ds) S' := by unfold frz; rw [wp_bnd]; rfl
theorem wp_chM {fa fb fc : M D} {o o' : D → D → Option Bool} {Q : Bool → Sto → Prop} : Wp (chM fa fb fc o o') S Q = Wp fa S fun a S1 => Wp fb S1 fun b S2 => opP (o a b) fun k => iteP k (Wp fc S2 fun c S3 => opP (o' b c) fun k => Q k S3) (Q false S2) := by
  unfold chM; rw [wp_bnd]; (first | refine tgW ?_ | refine tgOp ?_ | refine tgFo ?_ | refine tgLs ?_ | refine tgBl ?_ | refine tgIn ?_ | refine tgSq ?_ | refine tgSa ?_ | congr 1); funext a S1; rw [wp_bnd]; (first | refine tgW ?_ | refine tgOp ?_ | refine tgFo ?_ | refine tgLs ?_ | refine tgBl ?_ | refine tgIn ?_ | refine tgSq ?_ | refine tgSa ?_ | congr 1); funext b S2; rw [wp_bnd, wp_lf]; (first | refine tgW ?_ | refine tgOp ?_ | refine tgFo ?_ | refine tgLs ?_ | refine tgBl ?_ | refine tgIn ?_ | refine tgSq ?_ | refine tgSa ?_ | congr 1); funext k
  cases k with
  | false => rfl
  | true =>
    show Wp (bnd fc fun c => lf (o' b c)) S2 Q = _
    rw [wp_bnd, iteP_true]; (first | refine tgW ?_ | refine tgOp ?_ | refine tgFo ?_ | refine tgLs ?_ | refine tgBl ?_ | refine tgIn ?_ | refine tgSq ?_ | refine tgSa ?_ | congr 1); funext c S3; rw [wp_lf]
theorem wp_sqS {f g : M Ctl} {Q : Ctl → Sto → Prop} : Wp (sqS f g) S Q = Wp f S fun c S' => ctP c (Wp g S' Q) fun c => Q c S' := by
  unfold sqS; rw [wp_bnd]; (first | refine tgW ?_ | refine tgOp ?_ | refine tgFo ?_ | refine tgLs ?_ | refine tgBl ?_ | refine tgIn ?_ | refine tgSq ?_ | refine tgSa ?_ | congr 1); funext c S'; cases c <;> rfl
theorem wp_seV {i : Nat} {m : M D} {Q : Ctl → Sto → Prop} : Wp (seV i m) S Q = Wp m S fun d S' => setP S' i (.val d) fun S'' => Q .nx S'' := by unfold seV; rw [wp_bnd]; rfl
theorem wp_seL {i : Nat} {m : M (List D)} {Q : Ctl → Sto → Prop} : Wp (seL i m) S Q = Wp m S fun d S' => setP S' i (.own d) fun S'' => Q .nx S'' := by unfold seL; rw [wp_bnd]; rfl
/-- targets -/
def tgP (g : TgF) (d : D) (S : Sto) (k : Sto → Prop) (_t : Tg k := .mk) : Prop := opP (g d S) k
theorem tgP_V {i : Nat} {d : D} {k : Sto → Prop} : tgP (stV i) d S k = setP S i (.val d) k := rfl
def tgsP (gs : List TgF) (ds : List D) (S : Sto) (k : Sto → Prop) : Prop := opP (stVs gs ds S) k
theorem tgP_T {gs : List TgF} {ds : List D} {k : Sto → Prop} : tgP (stT gs) (.tup ds) S k = tgsP gs ds S k := rfl
theorem tgsP_nil {k : Sto → Prop} : tgsP [] [] S k = k S := rfl
theorem tgsP_cons {g : TgF} {gs : List TgF} {d : D} {ds : List D} {k : Sto → Prop} : tgsP (g :: gs) (d :: ds) S k = tgP g d S fun S1 => tgsP gs ds S1 k := by
  show opP ((g d S).bind fun S1 => stVs gs ds S1) k = opP (g d S) fun S1 => opP (stVs gs ds S1) k
  cases g d S <;> rfl
theorem wp_asM {m : M D} {g : TgF} {Q : Ctl → Sto → Prop} : Wp (asM m g) S Q = Wp m S fun d S' => tgP g d S' fun S'' => Q .nx S'' := by
  unfold asM; rw [wp_bnd]; (first | refine tgW ?_ | refine tgOp ?_ | refine tgFo ?_ | refine tgLs ?_ | refine tgBl ?_ | refine tgIn ?_ | refine tgSq ?_ | refine tgSa ?_ | congr 1); funext d S'; unfold Wp tgP; dsimp only; generalize g d S' = z; cases z <;> rfl
theorem wp_paM {i j : Nat} {f g : M D} {Q : Ctl → Sto → Prop} : Wp (paM i j [f, g]) S Q = Wp f S fun d S1 => Wp g S1 fun e S2 => setP S2 i (.val d) fun S3 => setP S3 j (.val e) fun S4 => Q .nx S4 := by
  unfold paM; rw [wp_bnd, wp_sq]; (first | refine tgW ?_ | refine tgOp ?_ | refine tgFo ?_ | refine tgLs ?_ | refine tgBl ?_ | refine tgIn ?_ | refine tgSq ?_ | refine tgSa ?_ | congr 1); funext d S1; rw [wp_sq]; rfl
theorem wp_paM3 {i j l : Nat} {f g h : M D} {Q : Ctl → Sto → Prop} : Wp (paM3 i j l [f, g, h]) S Q = Wp f S fun d S1 => Wp g S1 fun e S2 => Wp h S2 fun t S3 => setP S3 i (.val d) fun S4 => setP S4 j (.val e) fun S5 => setP S5 l (.val t) fun S6 => Q .nx S6 := by
  unfold paM3; rw [wp_bnd, wp_sq]; (first | refine tgW ?_ | refine tgOp ?_ | refine tgFo ?_ | refine tgLs ?_ | refine tgBl ?_ | refine tgIn ?_ | refine tgSq ?_ | refine tgSa ?_ | congr 1); funext d S1; rw [wp_sq]; (first | refine tgW ?_ | refine tgOp ?_ | refine tgFo ?_ | refine tgLs ?_ | refine tgBl ?_ | refine tgIn ?_ | refine tgSq ?_ | refine tgSa ?_ | congr 1); funext e S2; rw [wp_sq]; rfl
theorem wp_rvM {m : M D} {Q : Rv → Sto → Prop} : Wp (rvM m) S Q = Wp m S fun d S' => Q (.v d) S' := by unfold rvM; exact wp_bnd
theorem wp_rlM {m : M (List D)} {Q : Rv → Sto → Prop} : Wp (rlM m) S Q = Wp m S fun d S' => Q (.l d) S' := by unfold rlM; exact wp_bnd
theorem wp_paR2 {i j : Nat} {f g : M Rv} {Q : Ctl → Sto → Prop} : Wp (paR2 i j [f, g]) S Q = Wp f S fun d S1 => Wp g S1 fun e S2 => setP S2 i d.sl fun S3 => setP S3 j e.sl fun S4 => Q .nx S4 := by
  unfold paR2; rw [wp_bnd]
  show Wp (bnd f fun r => bnd (bnd g fun r => bnd (ret []) fun rs => ret (r :: rs)) fun rs => ret (r :: rs)) S _ = _
  rw [wp_bnd]; refine tgW ?_; funext d S1
  rw [wp_bnd, wp_bnd]; refine tgW ?_; funext e S2; rfl
theorem wp_paR3 {i j l : Nat} {f g h : M Rv} {Q : Ctl → Sto → Prop} : Wp (paR3 i j l [f, g, h]) S Q = Wp f S fun d S1 => Wp g S1 fun e S2 => Wp h S2 fun t S3 => setP S3 i d.sl fun S4 => setP S4 j e.sl fun S5 => setP S5 l t.sl fun S6 => Q .nx S6 := by
  unfold paR3; rw [wp_bnd]
  show Wp (bnd f fun r => bnd (bnd g fun r => bnd (bnd h fun r => bnd (ret []) fun rs => ret (r :: rs)) fun rs => ret (r :: rs)) fun rs => ret (r :: rs)) S _ = _
  rw [wp_bnd]; refine tgW ?_; funext d S1
  rw [wp_bnd, wp_bnd]; refine tgW ?_; funext e S2
  rw [wp_bnd, wp_bnd]; refine tgW ?_; funext t S3; rfl
theorem rv_v {d : D} : (Rv.v d).sl = .val d := rfl
theorem rv_l {d : List D} : (Rv.l d).sl = .own d := rfl
theorem wp_shM {i j : Nat} {m : M D} {Q : Ctl → Sto → Prop} : Wp (shM i j m) S Q = Wp m S fun d S' => getP S' i fun z => hdP z (hsP S' j d fun S'' => Q .nx S'') := by
  unfold shM; rw [wp_bnd]; (first | refine tgW ?_ | refine tgOp ?_ | refine tgFo ?_ | refine tgLs ?_ | refine tgBl ?_ | refine tgIn ?_ | refine tgSq ?_ | refine tgSa ?_ | congr 1); funext d S'
  unfold Wp getP hsP; dsimp only
  generalize S'.sl.getD i .un = z
  cases z with
  | hnd =>
    dsimp only
    by_cases h : j < S'.hc.length
    · rw [if_pos h]; exact propext ⟨fun q => ⟨h, q⟩, fun q => q.2⟩
    · rw [if_neg h]; exact propext ⟨fun q => False.elim q, fun q => absurd q.1 h⟩
  | _ => rfl
theorem wp_apM {i : Nat} {m : M D} {Q : Ctl → Sto → Prop} : Wp (apM i m) S Q = getP S i fun z => vlP z (fun _ => False) fun _ => Wp m S fun d S' => getP S' i fun z => vlP z (fun _ => False) fun ds => ds.length < sizeLine ∧ setP S' i (.own (ds ++ [d])) fun S'' => Q .nx S'' := by
  unfold apM Wp getP setP; dsimp only
  generalize S.sl.getD i .un = z
  cases z with
  | own _ =>
    dsimp only
    unfold bnd
    show _ = (m S).post _
    cases m S with
    | ok d S' =>
      show Out.post _ _ = vlP (S'.sl.getD i .un) _ _
      dsimp only
      generalize S'.sl.getD i .un = z
      cases z with
      | own es =>
        dsimp only
        by_cases h : es.length < sizeLine
        · rw [if_pos h]; exact propext ⟨fun q => ⟨h, q⟩, fun q => q.2⟩
        · rw [if_neg h]; exact propext ⟨fun q => False.elim q, fun q => absurd q.1 h⟩
      | _ => rfl
    | exc _ _ => rfl
    | stuck => rfl
  | _ => rfl
def exP (d : D) (ds : List D) (k : List D → Prop) : Prop := match d with
  | .lst es => ds.length + es.length ≤ sizeLine ∧ k (ds ++ es)
  | _ => False
theorem exP_lst {es ds : List D} {k : List D → Prop} : exP (.lst es) ds k = (ds.length + es.length ≤ sizeLine ∧ k (ds ++ es)) := rfl
theorem wp_exM {i : Nat} {m : M D} {Q : Ctl → Sto → Prop} : Wp (exM i m) S Q = getP S i fun z => vlP z (fun _ => False) fun _ => Wp m S fun d S' => getP S' i fun z => vlP z (fun _ => False) fun ds => exP d ds fun es => setP S' i (.own es) fun S'' => Q .nx S'' := by
  unfold exM Wp getP setP; dsimp only
  generalize S.sl.getD i .un = z
  cases z with
  | own _ =>
    dsimp only
    unfold bnd
    show _ = (m S).post _
    cases m S with
    | ok d S' =>
      show Out.post _ _ = vlP (S'.sl.getD i .un) _ _
      dsimp only
      generalize S'.sl.getD i .un = z
      cases z with
      | own es =>
        cases d with
        | lst fs =>
          dsimp only
          by_cases h : es.length + fs.length ≤ sizeLine
          · rw [if_pos h]; exact propext ⟨fun q => ⟨h, q⟩, fun q => q.2⟩
          · rw [if_neg h]; exact propext ⟨fun q => False.elim q, fun q => absurd q.1 h⟩
        | _ => rfl
      | _ => cases d <;> rfl
    | exc _ _ => rfl
    | stuck => rfl
  | _ => rfl
theorem wp_siM {i : Nat} {m ix : M D} {Q : Ctl → Sto → Prop} : Wp (siM i m ix) S Q = getP S i fun z => vlP z (fun _ => False) fun _ => Wp m S fun d S1 => Wp ix S1 fun k S2 => inP k fun k => getP S2 i fun z => vlP z (fun _ => False) fun ds => opP (ixN ds.length k) fun j => setP S2 i (.own (ds.set j d)) fun S' => Q .nx S' := by
  unfold siM Wp getP setP; dsimp only
  generalize S.sl.getD i .un = z
  cases z with
  | own _ =>
    show Wp (bnd m _) S Q = Wp m S _
    rw [wp_bnd]; (first | refine tgW ?_ | refine tgOp ?_ | refine tgFo ?_ | refine tgLs ?_ | refine tgBl ?_ | refine tgIn ?_ | refine tgSq ?_ | refine tgSa ?_ | congr 1); funext d S1
    rw [wp_bnd]; (first | refine tgW ?_ | refine tgOp ?_ | refine tgFo ?_ | refine tgLs ?_ | refine tgBl ?_ | refine tgIn ?_ | refine tgSq ?_ | refine tgSa ?_ | congr 1); funext k S2
    rw [wp_bnd, wp_asI]; (first | refine tgW ?_ | refine tgOp ?_ | refine tgFo ?_ | refine tgLs ?_ | refine tgBl ?_ | refine tgIn ?_ | refine tgSq ?_ | refine tgSa ?_ | congr 1); funext k
    unfold Wp; dsimp only
    generalize S2.sl.getD i .un = z
    cases z with
    | own ds =>
      show Out.post (match ixN ds.length k with
        | some j => Out.ok Ctl.nx { sl := S2.sl.set i (Sl.own (ds.set j d)), hc := S2.hc }
        | none => Out.stuck) Q = opP (ixN ds.length k) _
      generalize ixN ds.length k = y
      cases y <;> rfl
    | _ => rfl
  | _ => rfl
theorem wp_clV {g : List D → Fo} {fs : List (M D)} {Q : D → Sto → Prop} : Wp (clV g fs) S Q = Wp (sqM fs) S fun ds S' => foP (g ds) fun r _ => rdP r fun d => Q d S' := by
  unfold clV; rw [wp_bnd]; (first | refine tgW ?_ | refine tgOp ?_ | refine tgFo ?_ | refine tgLs ?_ | refine tgBl ?_ | refine tgIn ?_ | refine tgSq ?_ | refine tgSa ?_ | congr 1); funext ds S'
  unfold Wp; dsimp only
  generalize g ds = z
  cases z with
  | ret r _ => cases r <;> rfl
  | exc _ _ => rfl
  | stuck => rfl
theorem wp_clL {g : List D → Fo} {fs : List (M D)} {Q : List D → Sto → Prop} : Wp (clL g fs) S Q = Wp (sqM fs) S fun ds S' => foP (g ds) fun r _ => lsP r fun rs => Q rs S' := by
  unfold clL; rw [wp_bnd]; (first | refine tgW ?_ | refine tgOp ?_ | refine tgFo ?_ | refine tgLs ?_ | refine tgBl ?_ | refine tgIn ?_ | refine tgSq ?_ | refine tgSa ?_ | congr 1); funext ds S'
  unfold Wp; dsimp only
  generalize g ds = z
  cases z with
  | ret r _ => cases r <;> rfl
  | exc _ _ => rfl
  | stuck => rfl
theorem wp_hdM {i : Nat} {fs : List (M D)} {Q : List D → Sto → Prop} : Wp (hdM i fs) S Q = getP S i fun z => hdP z (Wp (sqM fs) S Q) := by
  unfold Wp hdM getP; generalize S.sl.getD i .un = z; cases z <;> rfl
theorem wp_chV {g : List D → List D → Fo} {i : Nat} {fs : List (M D)} {Q : D → Sto → Prop} : Wp (chV g i fs) S Q = getP S i fun z => hdP z (Wp (sqM fs) S fun ds S' => hhP S' fun hc k => foP (g hc ds) fun r hc => rdP r fun d => Q d (k hc)) := by
  unfold chV; rw [wp_bnd, wp_hdM]; unfold getP; dsimp only; refine congrArg (hdP _) (tgW ?_); funext ds S'
  unfold Wp hhP; dsimp only
  generalize g S'.hc ds = z
  cases z with
  | ret r _ => cases r <;> rfl
  | exc _ _ => rfl
  | stuck => rfl
theorem wp_chL {g : List D → List D → Fo} {i : Nat} {fs : List (M D)} {Q : List D → Sto → Prop} : Wp (chL g i fs) S Q = getP S i fun z => hdP z (Wp (sqM fs) S fun ds S' => hhP S' fun hc k => foP (g hc ds) fun r hc => lsP r fun rs => Q rs (k hc)) := by
  unfold chL; rw [wp_bnd, wp_hdM]; unfold getP; dsimp only; refine congrArg (hdP _) (tgW ?_); funext ds S'
  unfold Wp hhP; dsimp only
  generalize g S'.hc ds = z
  cases z with
  | ret r _ => cases r <;> rfl
  | exc _ _ => rfl
  | stuck => rfl
theorem wp_itM {f : M D} {Q : List D → Sto → Prop} : Wp (itM f) S Q = Wp f S fun d S' => sqP d fun ds => Q ds S' := by
  unfold itM; rw [wp_bnd]; (first | refine tgW ?_ | refine tgOp ?_ | refine tgFo ?_ | refine tgLs ?_ | refine tgBl ?_ | refine tgIn ?_ | refine tgSq ?_ | refine tgSa ?_ | congr 1); funext d S'; cases d <;> rfl
theorem wp_if {c : Prop} [Decidable c] {f : M α} {Q : α → Sto → Prop} : Wp (if c then f else fun _ => .stuck) S Q = (c ∧ Wp f S Q) := by
  by_cases h : c
  · rw [if_pos h]; exact propext ⟨fun q => ⟨h, q⟩, fun q => q.2⟩
  · rw [if_neg h]; exact propext ⟨fun q => False.elim q, fun q => absurd q.1 h⟩
def rgP (n : Int) (k : Prop) : Prop := (-(2 ^ 62) ≤ n ∧ n < 2 ^ 62) ∧ k
theorem rgP_ok {n : Int} {k : Prop} (h1 : -(2 ^ 62) ≤ n) (h2 : n < 2 ^ 62) : rgP n k = k := propext ⟨fun q => q.2, fun q => ⟨⟨h1, h2⟩, q⟩⟩
theorem wp_rg1M {f : M D} {Q : List D → Sto → Prop} : Wp (rg1M f) S Q = Wp f S fun d S' => inP d fun n => rgP n (Q (rngD 0 n.toNat) S') := by
  unfold rg1M; rw [wp_bnd]; (first | refine tgW ?_ | refine tgOp ?_ | refine tgFo ?_ | refine tgLs ?_ | refine tgBl ?_ | refine tgIn ?_ | refine tgSq ?_ | refine tgSa ?_ | congr 1); funext d S'; rw [wp_bnd, wp_asI]; (first | refine tgW ?_ | refine tgOp ?_ | refine tgFo ?_ | refine tgLs ?_ | refine tgBl ?_ | refine tgIn ?_ | refine tgSq ?_ | refine tgSa ?_ | congr 1); funext n; rw [wp_if]; rfl
theorem wp_rg2M {f g : M D} {Q : List D → Sto → Prop} : Wp (rg2M f g) S Q = Wp f S fun d S1 => inP d fun i => Wp g S1 fun e S2 => inP e fun j => rgP i (rgP j (Q (rngD i (j - i).toNat) S2)) := by
  unfold rg2M; rw [wp_bnd]; (first | refine tgW ?_ | refine tgOp ?_ | refine tgFo ?_ | refine tgLs ?_ | refine tgBl ?_ | refine tgIn ?_ | refine tgSq ?_ | refine tgSa ?_ | congr 1); funext d S'; rw [wp_bnd, wp_asI]; (first | refine tgW ?_ | refine tgOp ?_ | refine tgFo ?_ | refine tgLs ?_ | refine tgBl ?_ | refine tgIn ?_ | refine tgSq ?_ | refine tgSa ?_ | congr 1); funext i; rw [wp_bnd]; (first | refine tgW ?_ | refine tgOp ?_ | refine tgFo ?_ | refine tgLs ?_ | refine tgBl ?_ | refine tgIn ?_ | refine tgSq ?_ | refine tgSa ?_ | congr 1); funext e S2; rw [wp_bnd, wp_asI]; (first | refine tgW ?_ | refine tgOp ?_ | refine tgFo ?_ | refine tgLs ?_ | refine tgBl ?_ | refine tgIn ?_ | refine tgSq ?_ | refine tgSa ?_ | congr 1); funext j; rw [wp_if]; unfold rgP; exact propext ⟨fun ⟨⟨a, b⟩, c⟩ => ⟨a, b, c⟩, fun ⟨a, b, c⟩ => ⟨⟨a, b⟩, c⟩⟩
theorem wp_itA {f : M D} {Q : List D → Sto → Prop} : Wp (itA f) S Q = Wp f S fun d S' => saP d fun ds => Q ds S' := by
  unfold itA; rw [wp_bnd]; (first | refine tgW ?_ | refine tgOp ?_ | refine tgFo ?_ | refine tgLs ?_ | refine tgBl ?_ | refine tgIn ?_ | refine tgSq ?_ | refine tgSa ?_ | congr 1); funext d S'; cases d <;> first | rfl | exact wp_if
/-- pairs of two lists -/
def zpP (d e : D) (Q : List D → List D → Prop) : Prop := match d, e with
  | .lst ds, .lst es => Q ds es
  | .tup ds, .tup es => Q ds es
  | _, _ => False
theorem zpP_lst {d e : List D} {Q : List D → List D → Prop} : zpP (.lst d) (.lst e) Q = Q d e := rfl
theorem zpP_tup {d e : List D} {Q : List D → List D → Prop} : zpP (.tup d) (.tup e) Q = Q d e := rfl
theorem wp_zpM {f g : M D} {Q : List D → Sto → Prop} : Wp (zpM f g) S Q = Wp f S fun d S1 => Wp g S1 fun e S2 => zpP d e fun ds es => Q (List.zipWith (fun d e => .tup [d, e]) ds es) S2 := by
  unfold zpM; rw [wp_bnd]; (first | refine tgW ?_ | refine tgOp ?_ | refine tgFo ?_ | refine tgLs ?_ | refine tgBl ?_ | refine tgIn ?_ | refine tgSq ?_ | refine tgSa ?_ | congr 1); funext d S1; rw [wp_bnd]; (first | refine tgW ?_ | refine tgOp ?_ | refine tgFo ?_ | refine tgLs ?_ | refine tgBl ?_ | refine tgIn ?_ | refine tgSq ?_ | refine tgSa ?_ | congr 1); funext e S2; cases d <;> cases e <;> rfl
def enP (d : D) (Q : List D → Prop) : Prop := match d with
  | .lst ds => Q (ds.mapIdx fun i d => .tup [.int i, d])
  | _ => False
theorem enP_lst {d : List D} {Q : List D → Prop} : enP (.lst d) Q = Q (d.mapIdx fun i d => .tup [.int i, d]) := rfl
theorem wp_enM {f : M D} {Q : List D → Sto → Prop} : Wp (enM f) S Q = Wp f S fun d S' => enP d fun ds => Q ds S' := by
  unfold enM; rw [wp_bnd]; (first | refine tgW ?_ | refine tgOp ?_ | refine tgFo ?_ | refine tgLs ?_ | refine tgBl ?_ | refine tgIn ?_ | refine tgSq ?_ | refine tgSa ?_ | congr 1); funext d S'; cases d <;> rfl
theorem wp_isiM {f : M D} {t : String} {Q : D → Sto → Prop} : Wp (isiM f t) S Q = Wp f S fun d S' => opP (isiD t d) fun a => Q a S' := wp_b1
theorem wp_someM {f : M D} {Q : Option Int → Sto → Prop} : Wp (someM f) S Q = Wp f S fun d S' => inP d fun i => Q (some i) S' := by
  unfold someM; rw [wp_bnd]; (first | refine tgW ?_ | refine tgOp ?_ | refine tgFo ?_ | refine tgLs ?_ | refine tgBl ?_ | refine tgIn ?_ | refine tgSq ?_ | refine tgSa ?_ | congr 1); funext d S'; rw [wp_bnd, wp_asI]; rfl
theorem wp_sl3 {fa : M D} {fl fh : M (Option Int)} {o : D → Option Int → Option Int → Option α} {Q : α → Sto → Prop} : Wp (sl3 fa fl fh o) S Q = Wp fa S fun d S1 => Wp fl S1 fun lo S2 => Wp fh S2 fun hi S3 => opP (o d lo hi) fun a => Q a S3 := by
  unfold sl3; rw [wp_bnd]; (first | refine tgW ?_ | refine tgOp ?_ | refine tgFo ?_ | refine tgLs ?_ | refine tgBl ?_ | refine tgIn ?_ | refine tgSq ?_ | refine tgSa ?_ | congr 1); funext d S1; rw [wp_bnd]; (first | refine tgW ?_ | refine tgOp ?_ | refine tgFo ?_ | refine tgLs ?_ | refine tgBl ?_ | refine tgIn ?_ | refine tgSq ?_ | refine tgSa ?_ | congr 1); funext lo S2; rw [wp_bnd]; (first | refine tgW ?_ | refine tgOp ?_ | refine tgFo ?_ | refine tgLs ?_ | refine tgBl ?_ | refine tgIn ?_ | refine tgSq ?_ | refine tgSa ?_ | congr 1); funext hi S3; rw [wp_lf]
theorem wp_agM {i : Nat} {m : M D} {o : D → D → Option D} {Q : Ctl → Sto → Prop} : Wp (agM i m o) S Q = getP S i fun z => vlP z (fun d => Wp m S fun e S1 => opP (o d e) fun r => setP S1 i (.val r) fun S' => Q .nx S') fun _ => False := by
  unfold agM Wp getP; dsimp only
  generalize S.sl.getD i .un = z
  cases z with
  | val d =>
    show Wp (bnd m _) S Q = Wp m S _
    rw [wp_bnd]; (first | refine tgW ?_ | refine tgOp ?_ | refine tgFo ?_ | refine tgLs ?_ | refine tgBl ?_ | refine tgIn ?_ | refine tgSq ?_ | refine tgSa ?_ | congr 1); funext e S1
    unfold Wp setP; dsimp only
    generalize o d e = y
    cases y <;> rfl
  | _ => rfl
/-- a turn's end -/
def lpP (c : Ctl) (next brk : Prop) (rt : Rv → Prop) : Prop := match c with
  | .nx => next
  | .ct => next
  | .bk => brk
  | .rt r => rt r
theorem lpP_nx {p q : Prop} {r : Rv → Prop} : lpP .nx p q r = p := rfl
theorem lpP_ct {p q : Prop} {r : Rv → Prop} : lpP .ct p q r = p := rfl
theorem lpP_bk {p q : Prop} {r : Rv → Prop} : lpP .bk p q r = q := rfl
theorem lpP_rt {p q : Prop} {r : Rv → Prop} {v : Rv} : lpP (.rt v) p q r = r v := rfl
theorem wp_frM {src : M (List D)} {g : TgF} {b : M Ctl} {Q : Ctl → Sto → Prop} : Wp (frM src g b) S Q = Wp src S fun ds S' => Wp (frL g b ds) S' Q := wp_bnd
end
end FX

set_option Elab.async false
set_option linter.all false
set_option maxRecDepth 100000
set_option maxHeartbeats 4000000
namespace FX
open PySem PySem.Spec PyProof.Rows L2 LamX


/-! ### isinstance -/
section
variable {b : Bool} {i : Int} {s : Str} {ds : List D} {kv : List (Key × D)}
theorem isi_int_non {Q : D → Prop} : opP (isiD "int" .non) Q = Q (.bl false) := rfl
theorem isi_int_bl {Q : D → Prop} : opP (isiD "int" (.bl b)) Q = Q (.bl true) := rfl
theorem isi_int_int {Q : D → Prop} : opP (isiD "int" (.int i)) Q = Q (.bl true) := rfl
theorem isi_int_str {Q : D → Prop} : opP (isiD "int" (.str s)) Q = Q (.bl false) := rfl
theorem isi_int_tup {Q : D → Prop} : opP (isiD "int" (.tup ds)) Q = Q (.bl false) := rfl
theorem isi_int_lst {Q : D → Prop} : opP (isiD "int" (.lst ds)) Q = Q (.bl false) := rfl
theorem isi_int_dic {Q : D → Prop} : opP (isiD "int" (.dic kv)) Q = Q (.bl false) := rfl
theorem isi_bool_non {Q : D → Prop} : opP (isiD "bool" .non) Q = Q (.bl false) := rfl
theorem isi_bool_bl {Q : D → Prop} : opP (isiD "bool" (.bl b)) Q = Q (.bl true) := rfl
theorem isi_bool_int {Q : D → Prop} : opP (isiD "bool" (.int i)) Q = Q (.bl false) := rfl
theorem isi_bool_str {Q : D → Prop} : opP (isiD "bool" (.str s)) Q = Q (.bl false) := rfl
theorem isi_bool_tup {Q : D → Prop} : opP (isiD "bool" (.tup ds)) Q = Q (.bl false) := rfl
theorem isi_bool_lst {Q : D → Prop} : opP (isiD "bool" (.lst ds)) Q = Q (.bl false) := rfl
theorem isi_bool_dic {Q : D → Prop} : opP (isiD "bool" (.dic kv)) Q = Q (.bl false) := rfl
theorem isi_str_non {Q : D → Prop} : opP (isiD "str" .non) Q = Q (.bl false) := rfl
theorem isi_str_bl {Q : D → Prop} : opP (isiD "str" (.bl b)) Q = Q (.bl false) := rfl
theorem isi_str_int {Q : D → Prop} : opP (isiD "str" (.int i)) Q = Q (.bl false) := rfl
theorem isi_str_str {Q : D → Prop} : opP (isiD "str" (.str s)) Q = Q (.bl true) := rfl
theorem isi_str_tup {Q : D → Prop} : opP (isiD "str" (.tup ds)) Q = Q (.bl false) := rfl
theorem isi_str_lst {Q : D → Prop} : opP (isiD "str" (.lst ds)) Q = Q (.bl false) := rfl
theorem isi_str_dic {Q : D → Prop} : opP (isiD "str" (.dic kv)) Q = Q (.bl false) := rfl
theorem isi_tuple_non {Q : D → Prop} : opP (isiD "tuple" .non) Q = Q (.bl false) := rfl
theorem isi_tuple_bl {Q : D → Prop} : opP (isiD "tuple" (.bl b)) Q = Q (.bl false) := rfl
theorem isi_tuple_int {Q : D → Prop} : opP (isiD "tuple" (.int i)) Q = Q (.bl false) := rfl
theorem isi_tuple_str {Q : D → Prop} : opP (isiD "tuple" (.str s)) Q = Q (.bl false) := rfl
theorem isi_tuple_tup {Q : D → Prop} : opP (isiD "tuple" (.tup ds)) Q = Q (.bl true) := rfl
theorem isi_tuple_lst {Q : D → Prop} : opP (isiD "tuple" (.lst ds)) Q = Q (.bl false) := rfl
theorem isi_tuple_dic {Q : D → Prop} : opP (isiD "tuple" (.dic kv)) Q = Q (.bl false) := rfl
theorem isi_list_non {Q : D → Prop} : opP (isiD "list" .non) Q = Q (.bl false) := rfl
theorem isi_list_bl {Q : D → Prop} : opP (isiD "list" (.bl b)) Q = Q (.bl false) := rfl
theorem isi_list_int {Q : D → Prop} : opP (isiD "list" (.int i)) Q = Q (.bl false) := rfl
theorem isi_list_str {Q : D → Prop} : opP (isiD "list" (.str s)) Q = Q (.bl false) := rfl
theorem isi_list_tup {Q : D → Prop} : opP (isiD "list" (.tup ds)) Q = Q (.bl false) := rfl
theorem isi_list_lst {Q : D → Prop} : opP (isiD "list" (.lst ds)) Q = Q (.bl true) := rfl
theorem isi_list_dic {Q : D → Prop} : opP (isiD "list" (.dic kv)) Q = Q (.bl false) := rfl
theorem isi_dict_non {Q : D → Prop} : opP (isiD "dict" .non) Q = Q (.bl false) := rfl
theorem isi_dict_bl {Q : D → Prop} : opP (isiD "dict" (.bl b)) Q = Q (.bl false) := rfl
theorem isi_dict_int {Q : D → Prop} : opP (isiD "dict" (.int i)) Q = Q (.bl false) := rfl
theorem isi_dict_str {Q : D → Prop} : opP (isiD "dict" (.str s)) Q = Q (.bl false) := rfl
theorem isi_dict_tup {Q : D → Prop} : opP (isiD "dict" (.tup ds)) Q = Q (.bl false) := rfl
theorem isi_dict_lst {Q : D → Prop} : opP (isiD "dict" (.lst ds)) Q = Q (.bl false) := rfl
theorem isi_dict_dic {Q : D → Prop} : opP (isiD "dict" (.dic kv)) Q = Q (.bl true) := rfl
end
/-! ### operations -/
section
variable {i j : Int} {a b : List D} {d e : D}
theorem addD_int : addD (.int i) (.int j) = some (.int (i + j)) := rfl
theorem addD_tup (h : a.length + b.length ≤ sizeLine) : addD (.tup a) (.tup b) = some (.tup (a ++ b)) := if_pos h
theorem addD_lst (h : a.length + b.length ≤ sizeLine) : addD (.lst a) (.lst b) = some (.lst (a ++ b)) := if_pos h
theorem catL_lst (h : a.length + b.length ≤ sizeLine) : catL (.lst a) (.lst b) = some (a ++ b) := if_pos h
theorem subD_int : subD (.int i) (.int j) = some (.int (i - j)) := rfl
theorem negD_int : negD (.int i) = some (.int (-i)) := rfl
theorem mulD_r (h1 : -(2 ^ 64) < j) (h2 : j < 2 ^ 64) : mulD (.int i) (.int j) = some (.int (i * j)) := if_pos (by unfold mulOk; rw [decide_eq_true h1, decide_eq_true h2]; simp)
theorem mulD_l (h1 : -(2 ^ 64) < i) (h2 : i < 2 ^ 64) : mulD (.int i) (.int j) = some (.int (i * j)) := if_pos (by unfold mulOk; rw [decide_eq_true h1, decide_eq_true h2]; simp)
theorem modD_int (h : 0 < j) : modD (.int i) (.int j) = some (.int (i % j)) := if_pos h
theorem divD_int (h : 0 < j) (h2 : j < 2 ^ 64) : divD (.int i) (.int j) = some (.int (i / j)) := if_pos ⟨h, by
  have h3 : j.natAbs < 2 ^ 64 := by omega
  by_cases h0 : j.natAbs = 0
  · rw [h0]; decide
  · exact Nat.lt_trans ((Nat.log2_lt h0).mpr h3) (by decide)⟩
theorem powD_int (h : 0 ≤ j ∧ j ≤ 1000000 ∧ i.natAbs < 2 ^ 64) : powD (.int i) (.int j) = some (.int (i ^ j.toNat)) := if_pos h
theorem ltB_int : ltB (.int i) (.int j) = some (decide (i < j)) := rfl
theorem leB_int : leB (.int i) (.int j) = some (decide (i ≤ j)) := rfl
theorem gtB_int : gtB (.int i) (.int j) = some (decide (j < i)) := rfl
theorem geB_int : geB (.int i) (.int j) = some (decide (j ≤ i)) := rfl
theorem opB_eq {o : D → D → Option Bool} : opB o d e = (o d e).map .bl := rfl
theorem eqB_int : eqB (.int i) (.int j) = some (decide (i = j)) := by
  have e1 : eqB (.int i) (.int j) = some (eqd (.int i) (.int j)) := if_pos ⟨rfl, rfl⟩
  have e2 : eqd (.int i) (.int j) = (i == j) := rfl
  rw [e1, e2]
  by_cases h : i = j
  · subst h; simp
  · simp [h]
theorem neB_int : neB (.int i) (.int j) = some (!decide (i = j)) := by
  have e1 : neB (.int i) (.int j) = some (!eqd (.int i) (.int j)) := if_pos ⟨rfl, rfl⟩
  have e2 : eqd (.int i) (.int j) = (i == j) := rfl
  rw [e1, e2]
  by_cases h : i = j
  · subst h; simp
  · simp [h]
theorem isB_non : isB .non .non = some true := rfl
theorem isB_int : isB (.int i) .non = some false := rfl
theorem isB_tup : isB (.tup a) .non = some false := rfl
theorem isB_lst : isB (.lst a) .non = some false := rfl
theorem isB_bl {x y : Bool} : isB (.bl x) (.bl y) = some (decide (x = y)) := rfl
theorem isN_non : isNotB .non .non = some false := rfl
theorem isN_int : isNotB (.int i) .non = some true := rfl
theorem isN_tup : isNotB (.tup a) .non = some true := rfl
theorem isN_lst : isNotB (.lst a) .non = some true := rfl
theorem isN_bl {x y : Bool} : isNotB (.bl x) (.bl y) = some (!decide (x = y)) := rfl
theorem lenD_lst : lenD (.lst a) = some (.int a.length) := rfl
theorem lenD_tup : lenD (.tup a) = some (.int a.length) := rfl
theorem lenD_scr : lenD (.scr a) = some (.int a.length) := rfl
theorem intD_int : intD (.int i) = some (.int i) := rfl
theorem absD_int : absD (.int i) = some (.int (if i < 0 then -i else i)) := rfl
theorem tupD_lst : tupD (.lst a) = some (.tup a) := rfl
theorem tupD_tup : tupD (.tup a) = some (.tup a) := rfl
theorem lstL_lst : lstL (.lst a) = some a := rfl
theorem lstL_tup : lstL (.tup a) = some a := rfl
theorem lstL_scr : lstL (.scr a) = some a := rfl
theorem rng1D_int : rng1D (.int i) = some (.rng 0 i) := rfl
theorem allI_ints : ∀ ns : List Int, allI (ns.map D.int) = some ns
  | [] => rfl
  | n :: ns => by show (allI (ns.map D.int)).map _ = _; rw [allI_ints ns]; rfl
theorem allB_bls : ∀ ns : List Bool, allB (ns.map D.bl) = some ns
  | [] => rfl
  | n :: ns => by show (allB (ns.map D.bl)).map _ = _; rw [allB_bls ns]; rfl
theorem sumD_ints (ns : List Int) : sumD (.lst (ns.map D.int)) = some (.int ns.sum) := by unfold sumD; dsimp only; rw [allI_ints]; rfl
theorem minD_ints (ns : List Int) : minD1 (.lst (ns.map D.int)) = (minI ns).map .int := by unfold minD1; dsimp only; rw [allI_ints]; rfl
theorem maxD_ints (ns : List Int) : maxD1 (.lst (ns.map D.int)) = (maxI ns).map .int := by unfold maxD1; dsimp only; rw [allI_ints]; rfl
theorem srtI_ints (ns : List Int) : srtI (.lst (ns.map D.int)) = some ((isort ns).map D.int) := by unfold srtI; dsimp only; rw [allI_ints]; rfl
theorem allD_bls (ns : List Bool) : allD (.lst (ns.map D.bl)) = some (.bl (ns.all fun b => b)) := by unfold allD; dsimp only; rw [allB_bls]; rfl
theorem anyD_bls (ns : List Bool) : anyD (.lst (ns.map D.bl)) = some (.bl (ns.any fun b => b)) := by unfold anyD; dsimp only; rw [allB_bls]; rfl
theorem allI_fn {X : Type} {f : X → Int} : ∀ xs : List X, allI (xs.map fun x => D.int (f x)) = some (xs.map f)
  | [] => rfl
  | x :: xs => by show (allI (xs.map fun x => D.int (f x))).map _ = _; rw [allI_fn xs]; rfl
theorem allB_fn {X : Type} {f : X → Bool} : ∀ xs : List X, allB (xs.map fun x => D.bl (f x)) = some (xs.map f)
  | [] => rfl
  | x :: xs => by show (allB (xs.map fun x => D.bl (f x))).map _ = _; rw [allB_fn xs]; rfl
theorem sumD_fn {X : Type} {f : X → Int} (xs : List X) : sumD (.lst (xs.map fun x => D.int (f x))) = some (.int (xs.map f).sum) := by unfold sumD; dsimp only; rw [allI_fn]; rfl
theorem minD_fn {X : Type} {f : X → Int} (xs : List X) : minD1 (.lst (xs.map fun x => D.int (f x))) = (minI (xs.map f)).map .int := by unfold minD1; dsimp only; rw [allI_fn]; rfl
theorem maxD_fn {X : Type} {f : X → Int} (xs : List X) : maxD1 (.lst (xs.map fun x => D.int (f x))) = (maxI (xs.map f)).map .int := by unfold maxD1; dsimp only; rw [allI_fn]; rfl
theorem srtI_fn {X : Type} {f : X → Int} (xs : List X) : srtI (.lst (xs.map fun x => D.int (f x))) = some ((isort (xs.map f)).map D.int) := by unfold srtI; dsimp only; rw [allI_fn]; rfl
theorem allD_fn {X : Type} {f : X → Bool} (xs : List X) : allD (.lst (xs.map fun x => D.bl (f x))) = some (.bl (xs.all f)) := by
  unfold allD; dsimp only; rw [allB_fn, Option.map_some, List.all_map]; rfl
theorem anyD_fn {X : Type} {f : X → Bool} (xs : List X) : anyD (.lst (xs.map fun x => D.bl (f x))) = some (.bl (xs.any f)) := by
  unfold anyD; dsimp only; rw [allB_fn, Option.map_some, List.any_map]; rfl
/-! items -/
theorem atI_of {α : Type} {xs : List α} {k : Nat} {x : α} (h : xs[k]? = some x) (hi : i = k) : atI xs i = some x := by
  subst hi; exact atI_nat h
theorem ix_lst {k : Nat} {x : D} (h : a[k]? = some x) (hi : i = k) : ixD (.lst a) (.int i) = some x := atI_of h hi
theorem ix_tup {k : Nat} {x : D} (h : a[k]? = some x) (hi : i = k) : ixD (.tup a) (.int i) = some x := atI_of h hi
theorem ix_scr {k : Nat} {x : D} (h : a[k]? = some x) (hi : i = k) : ixD (.scr a) (.int i) = some x := atI_of h hi


/-! slices -/
theorem cut_none : cutD a none none = a := by
  unfold cutD; rw [HT.sIx_none, HT.sIx_none]; simp
theorem cut_to {k : Nat} (h : i = k) : cutD a none (some i) = a.take k := by
  subst h; unfold cutD; rw [HT.sIx_none, HT.sIx_nat]
  simp only [List.drop_zero, Nat.sub_zero]
  by_cases h : k ≤ a.length
  · rw [Nat.min_eq_left h]
  · rw [Nat.min_eq_right (by omega), List.take_length, List.take_of_length_le (by omega)]
theorem cut_from {k : Nat} (h : i = k) : cutD a (some i) none = a.drop k := by
  subst h; unfold cutD; rw [HT.sIx_none, HT.sIx_nat]
  by_cases h : k ≤ a.length
  · rw [Nat.min_eq_left h, List.take_of_length_le (by rw [List.length_drop]; omega)]
  · rw [Nat.min_eq_right (by omega), List.drop_length, List.drop_of_length_le (by omega), List.take_nil]
theorem slD_tup {lo hi : Option Int} : slD (.tup a) lo hi = some (.tup (cutD a lo hi)) := rfl
theorem slD_lst {lo hi : Option Int} : slD (.lst a) lo hi = some (.lst (cutD a lo hi)) := rfl
theorem slD_scr {lo hi : Option Int} : slD (.scr a) lo hi = some (.lst (cutD a lo hi)) := rfl
/-! targets -/
variable {S : Sto}
theorem stV_eq {k : Nat} : stV k d S = some ⟨S.sl.set k (.val d), S.hc⟩ := rfl
theorem stT_tup {gs : List TgF} : stT gs (.tup a) S = stVs gs a S := rfl
theorem stVs_nil : stVs [] [] S = some S := rfl
theorem stVs_cons {g : TgF} {gs : List TgF} : stVs (g :: gs) (d :: a) S = (g d S).bind fun S1 => stVs gs a S1 := rfl
theorem opB_some {o : D → D → Option Bool} {k : Bool} (h : o d e = some k) : opB o d e = some (.bl k) := by unfold opB; rw [h]; rfl
end
/-! ### membership -/
theorem plns_ints : ∀ {n : Nat} (ns : List Int), plns n (ns.map D.int) = true
  | _, [] => by unfold plns; rfl
  | n, i :: ns => by show plns n (.int i :: ns.map D.int) = true; unfold plns; rw [plns_ints ns]; cases n <;> rfl
theorem any_ints (x : Int) : ∀ ns : List Int, ((ns.map D.int).any fun z => eqd z (.int x)) = decide (x ∈ ns)
  | [] => by simp
  | n :: ns => by
    rw [List.map_cons, List.any_cons, any_ints x ns]
    show ((n == x) || decide (x ∈ ns)) = _
    by_cases h : x = n
    · subst h; simp
    · simp [h, Ne.symm h]
theorem inB_lst {x : Int} {ns : List Int} {neg : Bool} : inB neg (.int x) (.lst (ns.map D.int)) = some (if neg then !decide (x ∈ ns) else decide (x ∈ ns)) := by
  unfold inB; dsimp only; rw [if_pos (⟨by rfl, plns_ints ns⟩ : pln 12 (D.int x) = true ∧ plns 12 (ns.map D.int) = true), any_ints]
theorem inB_tup {x : Int} {ns : List Int} {neg : Bool} : inB neg (.int x) (.tup (ns.map D.int)) = some (if neg then !decide (x ∈ ns) else decide (x ∈ ns)) := by
  unfold inB; dsimp only; rw [if_pos (⟨by rfl, plns_ints ns⟩ : pln 12 (D.int x) = true ∧ plns 12 (ns.map D.int) = true), any_ints]
/-! ### == is reflexive on plain data -/
mutual
theorem eqd_refl : ∀ {n : Nat} {d : D}, pln n d = true → eqd d d = true
  | _, .non, _ => rfl
  | _, .bl b, _ => by cases b <;> rfl
  | _, .int i, _ => by show (i == i) = true; exact beq_self_eq_true i
  | _, .str s, _ => by show (s == s) = true; exact beq_self_eq_true s
  | n + 1, .tup ds, h => by
    have h' : plns n ds = true := by simpa only [pln] using h
    show eqds ds ds = true
    exact eqds_refl h'
  | n + 1, .lst ds, h => by
    have h' : plns n ds = true := by simpa only [pln] using h
    show eqds ds ds = true
    exact eqds_refl h'
  | 0, .tup _, h => by simp [pln] at h
  | 0, .lst _, h => by simp [pln] at h
  | 0, .dic _, h => by simp [pln] at h
  | _ + 1, .dic _, h => by simp [pln] at h
  | 0, .rng _ _, h => by simp [pln] at h
  | _ + 1, .rng _ _, h => by simp [pln] at h
  | 0, .adr _, h => by simp [pln] at h
  | _ + 1, .adr _, h => by simp [pln] at h
  | 0, .ty _, h => by simp [pln] at h
  | _ + 1, .ty _, h => by simp [pln] at h
  | 0, .exc _, h => by simp [pln] at h
  | _ + 1, .exc _, h => by simp [pln] at h
  | 0, .scr _, h => by simp [pln] at h
  | _ + 1, .scr _, h => by simp [pln] at h
theorem eqds_refl : ∀ {n : Nat} {ds : List D}, plns n ds = true → eqds ds ds = true
  | _, [], _ => by unfold eqds; rfl
  | n, d :: ds, h => by
    have h : pln n d = true ∧ plns n ds = true := by
      unfold plns at h
      simpa only [Bool.and_eq_true] using h
    unfold eqds
    rw [eqd_refl h.1, eqds_refl h.2]; rfl
end
theorem eqB_refl {d : D} (h : pln 12 d = true) : eqB d d = some true := by
  unfold eqB; rw [if_pos ⟨h, h⟩, eqd_refl h]
theorem plns_map {X : Type} {f : X → D} {n : Nat} : ∀ {xs : List X}, (∀ x ∈ xs, pln n (f x) = true) → plns n (xs.map f) = true
  | [], _ => by unfold plns; rfl
  | x :: xs, h => by
    show plns n (f x :: xs.map f) = true
    unfold plns
    rw [h x List.mem_cons_self, plns_map fun y hy => h y (List.mem_cons_of_mem _ hy)]; rfl

/-! ### .. for continuations -/
section
variable {i j : Int} {a b : List D} {d e : D} {Q : D → Prop} {QB : Bool → Prop} {QL : List D → Prop}
theorem pAdd : opP (addD (.int i) (.int j)) Q = Q (.int (i + j)) := rfl
theorem pAddT (h : a.length + b.length ≤ sizeLine) : opP (addD (.tup a) (.tup b)) Q = Q (.tup (a ++ b)) := opP_of (addD_tup h)
theorem pAddL (h : a.length + b.length ≤ sizeLine) : opP (addD (.lst a) (.lst b)) Q = Q (.lst (a ++ b)) := opP_of (addD_lst h)
theorem pCat (h : a.length + b.length ≤ sizeLine) : opP (catL (.lst a) (.lst b)) QL = QL (a ++ b) := opP_of (catL_lst h)
theorem pSub : opP (subD (.int i) (.int j)) Q = Q (.int (i - j)) := rfl
theorem pNeg : opP (negD (.int i)) Q = Q (.int (-i)) := rfl
theorem pMulR (h1 : -(2 ^ 64) < j) (h2 : j < 2 ^ 64) : opP (mulD (.int i) (.int j)) Q = Q (.int (i * j)) := opP_of (mulD_r h1 h2)
theorem pMulL (h1 : -(2 ^ 64) < i) (h2 : i < 2 ^ 64) : opP (mulD (.int i) (.int j)) Q = Q (.int (i * j)) := opP_of (mulD_l h1 h2)
theorem pMod (h : 0 < j) : opP (modD (.int i) (.int j)) Q = Q (.int (i % j)) := opP_of (modD_int h)
theorem pDiv (h : 0 < j) (h2 : j < 2 ^ 64) : opP (divD (.int i) (.int j)) Q = Q (.int (i / j)) := opP_of (divD_int h h2)
theorem p1018 : opP (powD (.int 10) (.int 18)) Q = Q (.int 1000000000000000000) := opP_of (powD_int ⟨by decide, by decide, by decide⟩)
theorem pLt : opP (ltB (.int i) (.int j)) QB = QB (decide (i < j)) := rfl
theorem pLe : opP (leB (.int i) (.int j)) QB = QB (decide (i ≤ j)) := rfl
theorem pGt : opP (gtB (.int i) (.int j)) QB = QB (decide (j < i)) := rfl
theorem pGe : opP (geB (.int i) (.int j)) QB = QB (decide (j ≤ i)) := rfl
theorem pOpB {o : D → D → Option Bool} : opP (opB o d e) Q = opP (o d e) fun k => Q (.bl k) := by unfold opB; cases o d e <;> rfl
theorem pEq : opP (eqB (.int i) (.int j)) QB = QB (decide (i = j)) := opP_of eqB_int
theorem pNe : opP (neB (.int i) (.int j)) QB = QB (!decide (i = j)) := opP_of neB_int
theorem pEqR (h : pln 12 d = true) : opP (eqB d d) QB = QB true := opP_of (by unfold eqB; rw [if_pos ⟨h, h⟩, eqd_refl h])
theorem pIs0 : opP (isB .non .non) QB = QB true := rfl
theorem pIs1 : opP (isB (.int i) .non) QB = QB false := rfl
theorem pIs2 : opP (isB (.tup a) .non) QB = QB false := rfl
theorem pIs3 : opP (isB (.lst a) .non) QB = QB false := rfl
theorem pIs4 {x y : Bool} : opP (isB (.bl x) (.bl y)) QB = QB (decide (x = y)) := rfl
theorem pIn0 : opP (isNotB .non .non) QB = QB false := rfl
theorem pIn1 : opP (isNotB (.int i) .non) QB = QB true := rfl
theorem pIn2 : opP (isNotB (.tup a) .non) QB = QB true := rfl
theorem pIn3 : opP (isNotB (.lst a) .non) QB = QB true := rfl
theorem pIn4 {x y : Bool} : opP (isNotB (.bl x) (.bl y)) QB = QB (!decide (x = y)) := rfl
theorem pLen1 : opP (lenD (.lst a)) Q = Q (.int a.length) := rfl
theorem pLen2 : opP (lenD (.tup a)) Q = Q (.int a.length) := rfl
theorem pLen3 : opP (lenD (.scr a)) Q = Q (.int a.length) := rfl
theorem pInt : opP (intD (.int i)) Q = Q (.int i) := rfl
theorem pAbs : opP (absD (.int i)) Q = Q (.int (if i < 0 then -i else i)) := rfl
theorem pTup1 : opP (tupD (.lst a)) Q = Q (.tup a) := rfl
theorem pTup2 : opP (tupD (.tup a)) Q = Q (.tup a) := rfl
theorem pLst1 : opP (lstL (.lst a)) QL = QL a := rfl
theorem pLst2 : opP (lstL (.tup a)) QL = QL a := rfl
theorem pLst3 : opP (lstL (.scr a)) QL = QL a := rfl
theorem pRng : opP (rng1D (.int i)) Q = Q (.rng 0 i) := rfl
theorem pSl1 {lo hi : Option Int} : opP (slD (.tup a) lo hi) Q = Q (.tup (cutD a lo hi)) := rfl
theorem pSl2 {lo hi : Option Int} : opP (slD (.lst a) lo hi) Q = Q (.lst (cutD a lo hi)) := rfl
theorem pSl3 {lo hi : Option Int} : opP (slD (.scr a) lo hi) Q = Q (.lst (cutD a lo hi)) := rfl
theorem pSum {ns : List Int} : opP (sumD (.lst (ns.map D.int))) Q = Q (.int ns.sum) := opP_of (sumD_ints ns)
theorem pMin {ns : List Int} : opP (minD1 (.lst (ns.map D.int))) Q = opP (minI ns) fun m => Q (.int m) := by rw [minD_ints]; cases minI ns <;> rfl
theorem pMax {ns : List Int} : opP (maxD1 (.lst (ns.map D.int))) Q = opP (maxI ns) fun m => Q (.int m) := by rw [maxD_ints]; cases maxI ns <;> rfl
theorem pSort {ns : List Int} : opP (srtI (.lst (ns.map D.int))) QL = QL ((isort ns).map D.int) := opP_of (srtI_ints ns)
theorem pAll {bs : List Bool} : opP (allD (.lst (bs.map D.bl))) Q = Q (.bl (bs.all fun b => b)) := opP_of (allD_bls bs)
theorem pAny {bs : List Bool} : opP (anyD (.lst (bs.map D.bl))) Q = Q (.bl (bs.any fun b => b)) := opP_of (anyD_bls bs)
theorem pSumF {X : Type} {f : X → Int} {xs : List X} : opP (sumD (.lst (xs.map fun x => D.int (f x)))) Q = Q (.int (xs.map f).sum) := opP_of (sumD_fn xs)
theorem pMinF {X : Type} {f : X → Int} {xs : List X} : opP (minD1 (.lst (xs.map fun x => D.int (f x)))) Q = opP (minI (xs.map f)) fun m => Q (.int m) := by rw [minD_fn]; cases minI (xs.map f) <;> rfl
theorem pMaxF {X : Type} {f : X → Int} {xs : List X} : opP (maxD1 (.lst (xs.map fun x => D.int (f x)))) Q = opP (maxI (xs.map f)) fun m => Q (.int m) := by rw [maxD_fn]; cases maxI (xs.map f) <;> rfl
theorem pSortF {X : Type} {f : X → Int} {xs : List X} : opP (srtI (.lst (xs.map fun x => D.int (f x)))) QL = QL ((isort (xs.map f)).map D.int) := opP_of (srtI_fn xs)
theorem pAllF {X : Type} {f : X → Bool} {xs : List X} : opP (allD (.lst (xs.map fun x => D.bl (f x)))) Q = Q (.bl (xs.all f)) := opP_of (allD_fn xs)
theorem pAllT {X : Type} {xs : List X} : opP (allD (.lst (xs.map fun _ => D.bl true))) Q = Q (.bl true) := by rw [pAllF (f := fun _ => true), List.all_eq_true.mpr (fun _ _ => rfl)]
theorem pAnyF {X : Type} {f : X → Bool} {xs : List X} : opP (anyD (.lst (xs.map fun x => D.bl (f x)))) Q = Q (.bl (xs.any f)) := opP_of (anyD_fn xs)
theorem pHas1 {x : Int} {ns : List Int} : opP (inB false (.int x) (.lst (ns.map D.int))) QB = QB (decide (x ∈ ns)) := opP_of inB_lst
theorem pHas2 {x : Int} {ns : List Int} : opP (inB true (.int x) (.lst (ns.map D.int))) QB = QB (!decide (x ∈ ns)) := opP_of inB_lst
theorem pHas3 {x : Int} {ns : List Int} : opP (inB false (.int x) (.tup (ns.map D.int))) QB = QB (decide (x ∈ ns)) := opP_of inB_tup
theorem pHas4 {x : Int} {ns : List Int} : opP (inB true (.int x) (.tup (ns.map D.int))) QB = QB (!decide (x ∈ ns)) := opP_of inB_tup
theorem pIxL {k : Nat} {x : D} (h : a[k]? = some x) (hi : i = k) : opP (ixD (.lst a) (.int i)) Q = Q x := opP_of (ix_lst h hi)
theorem pIxT {k : Nat} {x : D} (h : a[k]? = some x) (hi : i = k) : opP (ixD (.tup a) (.int i)) Q = Q x := opP_of (ix_tup h hi)
theorem pIxS {k : Nat} {x : D} (h : a[k]? = some x) (hi : i = k) : opP (ixD (.scr a) (.int i)) Q = Q x := opP_of (ix_scr h hi)

theorem ixt0 {a0 : D} : opP (ixD (.tup (a0 :: a)) (.int 0)) Q = Q a0 := opP_of (ix_tup (k := 0) rfl rfl)
theorem ixl0 {a0 : D} : opP (ixD (.lst (a0 :: a)) (.int 0)) Q = Q a0 := opP_of (ix_lst (k := 0) rfl rfl)
theorem ixt1 {a0 a1 : D} : opP (ixD (.tup (a0 :: a1 :: a)) (.int 1)) Q = Q a1 := opP_of (ix_tup (k := 1) rfl rfl)
theorem ixl1 {a0 a1 : D} : opP (ixD (.lst (a0 :: a1 :: a)) (.int 1)) Q = Q a1 := opP_of (ix_lst (k := 1) rfl rfl)
theorem ixt2 {a0 a1 a2 : D} : opP (ixD (.tup (a0 :: a1 :: a2 :: a)) (.int 2)) Q = Q a2 := opP_of (ix_tup (k := 2) rfl rfl)
theorem ixl2 {a0 a1 a2 : D} : opP (ixD (.lst (a0 :: a1 :: a2 :: a)) (.int 2)) Q = Q a2 := opP_of (ix_lst (k := 2) rfl rfl)
theorem ixt3 {a0 a1 a2 a3 : D} : opP (ixD (.tup (a0 :: a1 :: a2 :: a3 :: a)) (.int 3)) Q = Q a3 := opP_of (ix_tup (k := 3) rfl rfl)
theorem ixl3 {a0 a1 a2 a3 : D} : opP (ixD (.lst (a0 :: a1 :: a2 :: a3 :: a)) (.int 3)) Q = Q a3 := opP_of (ix_lst (k := 3) rfl rfl)
theorem ixt4 {a0 a1 a2 a3 a4 : D} : opP (ixD (.tup (a0 :: a1 :: a2 :: a3 :: a4 :: a)) (.int 4)) Q = Q a4 := opP_of (ix_tup (k := 4) rfl rfl)
theorem ixl4 {a0 a1 a2 a3 a4 : D} : opP (ixD (.lst (a0 :: a1 :: a2 :: a3 :: a4 :: a)) (.int 4)) Q = Q a4 := opP_of (ix_lst (k := 4) rfl rfl)
theorem ixt5 {a0 a1 a2 a3 a4 a5 : D} : opP (ixD (.tup (a0 :: a1 :: a2 :: a3 :: a4 :: a5 :: a)) (.int 5)) Q = Q a5 := opP_of (ix_tup (k := 5) rfl rfl)
theorem ixl5 {a0 a1 a2 a3 a4 a5 : D} : opP (ixD (.lst (a0 :: a1 :: a2 :: a3 :: a4 :: a5 :: a)) (.int 5)) Q = Q a5 := opP_of (ix_lst (k := 5) rfl rfl)
theorem ixt6 {a0 a1 a2 a3 a4 a5 a6 : D} : opP (ixD (.tup (a0 :: a1 :: a2 :: a3 :: a4 :: a5 :: a6 :: a)) (.int 6)) Q = Q a6 := opP_of (ix_tup (k := 6) rfl rfl)
theorem ixl6 {a0 a1 a2 a3 a4 a5 a6 : D} : opP (ixD (.lst (a0 :: a1 :: a2 :: a3 :: a4 :: a5 :: a6 :: a)) (.int 6)) Q = Q a6 := opP_of (ix_lst (k := 6) rfl rfl)
theorem ixt7 {a0 a1 a2 a3 a4 a5 a6 a7 : D} : opP (ixD (.tup (a0 :: a1 :: a2 :: a3 :: a4 :: a5 :: a6 :: a7 :: a)) (.int 7)) Q = Q a7 := opP_of (ix_tup (k := 7) rfl rfl)
theorem ixl7 {a0 a1 a2 a3 a4 a5 a6 a7 : D} : opP (ixD (.lst (a0 :: a1 :: a2 :: a3 :: a4 :: a5 :: a6 :: a7 :: a)) (.int 7)) Q = Q a7 := opP_of (ix_lst (k := 7) rfl rfl)
theorem ixt8 {a0 a1 a2 a3 a4 a5 a6 a7 a8 : D} : opP (ixD (.tup (a0 :: a1 :: a2 :: a3 :: a4 :: a5 :: a6 :: a7 :: a8 :: a)) (.int 8)) Q = Q a8 := opP_of (ix_tup (k := 8) rfl rfl)
theorem ixl8 {a0 a1 a2 a3 a4 a5 a6 a7 a8 : D} : opP (ixD (.lst (a0 :: a1 :: a2 :: a3 :: a4 :: a5 :: a6 :: a7 :: a8 :: a)) (.int 8)) Q = Q a8 := opP_of (ix_lst (k := 8) rfl rfl)
end
/-! ### loops -/
section
variable {α : Type} {S : Sto}
theorem wp_frL_nil {g : TgF} {b : M Ctl} {Q : Ctl → Sto → Prop} : Wp (frL g b []) S Q = Q .nx S := rfl
theorem wp_frL_cons {g : TgF} {b : M Ctl} {d : D} {ds : List D} {Q : Ctl → Sto → Prop} : Wp (frL g b (d :: ds)) S Q = tgP g d S fun S1 => Wp b S1 fun c S2 => lpP c (Wp (frL g b ds) S2 Q) (Q .nx S2) fun r => Q (.rt r) S2 := by
  conv => lhs; unfold Wp frL
  unfold tgP
  cases g d S with
  | none => rfl
  | some S1 =>
    show Wp (bnd b _) S1 Q = Wp b S1 _
    rw [wp_bnd]; (first | refine tgW ?_ | refine tgOp ?_ | refine tgFo ?_ | refine tgLs ?_ | refine tgBl ?_ | refine tgIn ?_ | refine tgSq ?_ | refine tgSa ?_ | congr 1); funext c S2; cases c <;> rfl
/-- .. by an invariant -/
theorem wp_frL {g : TgF} {b : M Ctl} {Q : Ctl → Sto → Prop} (I : List D → Sto → Prop) (fin : ∀ S, I [] S → Q .nx S)
    (step : ∀ d ds S, I (d :: ds) S → tgP g d S fun S1 => Wp b S1 fun c S2 => lpP c (I ds S2) (Q .nx S2) fun r => Q (.rt r) S2) : ∀ {ds : List D} {S : Sto}, I ds S → Wp (frL g b ds) S Q
  | [], S, h => fin S h
  | d :: ds, S, h => by
    rw [wp_frL_cons]
    refine opP_imp (step d ds S h) fun S1 z => z.imp fun c S2 y => ?_
    cases c with
    | nx => exact wp_frL I fin step y
    | ct => exact wp_frL I fin step y
    | bk => exact y
    | rt r => exact y
/-- .. over typed items, their place known -/
theorem wp_frT {X : Type} {enc : X → D} {g : TgF} {b : M Ctl} {Q : Ctl → Sto → Prop} {xs : List X} (I : Nat → Sto → Prop) (h0 : I 0 S) (fin : ∀ S, I xs.length S → Q .nx S)
    (step : ∀ i x S, xs[i]? = some x → I i S → tgP g (enc x) S fun S1 => Wp b S1 fun c S2 => lpP c (I (i + 1) S2) (Q .nx S2) fun r => Q (.rt r) S2) : Wp (frL g b (xs.map enc)) S Q := by
  refine wp_frL (g := g) (b := b) (Q := Q) (fun ds S => ∃ i, ds = (xs.drop i).map enc ∧ i ≤ xs.length ∧ I i S) ?fin ?step ⟨0, by simp, Nat.zero_le _, h0⟩
  case fin =>
    rintro S ⟨i, e, hi, h⟩
    have hl : xs.length ≤ i := by
      have := congrArg List.length e
      simp at this
      omega
    have : i = xs.length := by omega
    subst this
    exact fin S h
  case step =>
    rintro d ds S ⟨i, e, hi, h⟩
    cases q : xs.drop i with
    | nil => rw [q] at e; cases e
    | cons x r =>
      rw [q, List.map_cons] at e
      injection e with e1 e2
      subst e1
      have hx : xs[i]? = some x := by
        have := congrArg (fun l => l[0]?) q
        simpa [List.getElem?_drop] using this
      have hr : r = xs.drop (i + 1) := by rw [← List.drop_drop, q]; rfl
      have hl : i < xs.length := (List.getElem?_eq_some_iff.mp hx).1
      refine opP_imp (step i x S hx h) fun S1 z => z.imp fun c S2 y => ?_
      cases c with
      | nx => exact ⟨i + 1, by rw [e2, hr], hl, y⟩
      | ct => exact ⟨i + 1, by rw [e2, hr], hl, y⟩
      | bk => exact y
      | rt r => exact y
/-! ### comprehensions -/
theorem wp_lcM {src : M (List D)} {st : TgF} {c : M Bool} {f : M D} {vs : List Nat} {Q : List D → Sto → Prop} : Wp (lcM src st c f vs) S Q = Wp src S fun ds S1 => ds.length ≤ sizeLine ∧ Wp (cpL st c f vs ds []) (wipS S1 vs) fun r S2 => Q r (bacS S1 S2 vs) := by
  unfold lcM; rw [wp_bnd]; (first | refine tgW ?_ | refine tgOp ?_ | refine tgFo ?_ | refine tgLs ?_ | refine tgBl ?_ | refine tgIn ?_ | refine tgSq ?_ | refine tgSa ?_ | congr 1); funext ds S1
  unfold Wp; dsimp only
  by_cases h : ds.length ≤ sizeLine
  · rw [if_pos h]
    refine propext ⟨fun q => ⟨h, ?_⟩, fun q => ?_⟩
    · cases q2 : cpL st c f vs ds [] (wipS S1 vs) with
      | ok r S2 => rw [q2] at q; exact q
      | exc _ _ => rw [q2] at q; exact q
      | stuck => rw [q2] at q; exact q
    · have q := q.2
      cases q2 : cpL st c f vs ds [] (wipS S1 vs) with
      | ok r S2 => rw [q2] at q; exact q
      | exc _ _ => rw [q2] at q; exact q
      | stuck => rw [q2] at q; exact q
  · rw [if_neg h]; exact propext ⟨fun q => False.elim q, fun q => absurd q.1 h⟩
def wipP (vs : List Nat) (S : Sto) (k : Sto → Prop) : Prop := k (wipS S vs)
theorem wipP1 {v : Nat} {k : Sto → Prop} : wipP [v] S k = setP S v .un k := rfl
theorem wipP2 {v u : Nat} {k : Sto → Prop} : wipP [v, u] S k = setP S u .un fun S => setP S v .un k := rfl
theorem wipP3 {v u t : Nat} {k : Sto → Prop} : wipP [v, u, t] S k = setP S t .un fun S => setP S u .un fun S => setP S v .un k := rfl
def bacP (vs : List Nat) (S0 S : Sto) (k : Sto → Prop) : Prop := k (bacS S0 S vs)
theorem bacP1 {v : Nat} {S0 : Sto} {k : Sto → Prop} : bacP [v] S0 S k = getP S0 v fun z => setP S v (keepV z) k := rfl
theorem bacP2 {v u : Nat} {S0 : Sto} {k : Sto → Prop} : bacP [v, u] S0 S k = getP S0 u fun z => setP S u (keepV z) fun S => getP S0 v fun z => setP S v (keepV z) k := rfl
theorem bacP3 {v u t : Nat} {S0 : Sto} {k : Sto → Prop} : bacP [v, u, t] S0 S k = getP S0 t fun z => setP S t (keepV z) fun S => getP S0 u fun z => setP S u (keepV z) fun S => getP S0 v fun z => setP S v (keepV z) k := rfl
theorem spK0 {i : Nat} {k : Sto → Prop} : setP S i (keepV .un) k = setP S i .un k := rfl
theorem spK1 {i : Nat} {d : D} {k : Sto → Prop} : setP S i (keepV (.val d)) k = setP S i (.val d) k := rfl
theorem spK2 {i : Nat} {d : List D} {k : Sto → Prop} : setP S i (keepV (.own d)) k = setP S i .un k := rfl
theorem wp_lc {src : M (List D)} {st : TgF} {c : M Bool} {f : M D} {vs : List Nat} {Q : List D → Sto → Prop} : Wp (lcM src st c f vs) S Q = Wp src S fun ds S1 => ds.length ≤ sizeLine ∧ wipP vs S1 fun S0 => Wp (cpL st c f vs ds []) S0 fun r S2 => bacP vs S1 S2 fun S3 => Q r S3 := wp_lcM
theorem wp_cpL_cons {st : TgF} {c : M Bool} {f : M D} {vs : List Nat} {d : D} {ds acc : List D} {Q : List D → Sto → Prop} : Wp (cpL st c f vs (d :: ds) acc) S Q = tgP st d S fun S1 => Wp c S1 fun b S2 => iteP b (Wp f S2 fun y S3 => wipP vs S3 fun S4 => Wp (cpL st c f vs ds (acc ++ [y])) S4 Q) (wipP vs S2 fun S4 => Wp (cpL st c f vs ds acc) S4 Q) := by
  conv => lhs; unfold Wp cpL
  unfold tgP
  cases st d S with
  | none => rfl
  | some S1 =>
    show Wp (bnd c _) S1 Q = Wp c S1 _
    rw [wp_bnd]; (first | refine tgW ?_ | refine tgOp ?_ | refine tgFo ?_ | refine tgLs ?_ | refine tgBl ?_ | refine tgIn ?_ | refine tgSq ?_ | refine tgSa ?_ | congr 1); funext b S2
    cases b with
    | true => rw [if_pos rfl, iteP_true, wp_bnd]; rfl
    | false => rfl
/-- by an invariant -/
theorem wp_cpL {st : TgF} {c : M Bool} {f : M D} {vs : List Nat} {Q : List D → Sto → Prop} (I : List D → List D → Sto → Prop) (fin : ∀ acc S, I [] acc S → Q acc S)
    (step : ∀ d ds acc S, I (d :: ds) acc S → tgP st d S fun S1 => Wp c S1 fun b S2 => iteP b (Wp f S2 fun y S3 => wipP vs S3 fun S4 => I ds (acc ++ [y]) S4) (wipP vs S2 fun S4 => I ds acc S4)) : ∀ {ds acc : List D} {S : Sto}, I ds acc S → Wp (cpL st c f vs ds acc) S Q
  | [], acc, S, h => fin acc S h
  | d :: ds, acc, S, h => by
    rw [wp_cpL_cons]
    have z := step d ds acc S h
    refine opP_imp z fun S1 z => z.imp fun b S2 y => ?_
    cases b with
    | true => exact (show Wp f S2 _ from y).imp fun y S3 w => wp_cpL I fin step w
    | false => exact wp_cpL I fin step y
/-- pure turns over typed items -/
theorem wp_lcT {X : Type} {enc : X → D} {p : X → Bool} {g : X → D} {st : TgF} {c : M Bool} {f : M D} {vs : List Nat} : ∀ {xs : List X} {acc : List D} {Q : List D → Sto → Prop},
    (∀ x ∈ xs, tgP st (enc x) S fun S1 => (wipP vs S1 fun S' => S' = S) ∧ Wp c S1 fun b S2 => S2 = S1 ∧ b = p x ∧ (p x = true → Wp f S1 fun y S3 => S3 = S1 ∧ y = g x)) → Q (acc ++ (xs.filter p).map g) S → Wp (cpL st c f vs (xs.map enc) acc) S Q
  | [], acc, Q, _, q => by
    show Q acc S
    simpa using q
  | x :: xs, acc, Q, h, q => by
    rw [List.map_cons, wp_cpL_cons]
    have ih := fun acc' => @wp_lcT X enc p g st c f vs xs acc' Q fun y hy => h y (List.mem_cons_of_mem _ hy)
    refine opP_imp (h x List.mem_cons_self) fun S1 ⟨w, z⟩ => z.imp fun b S2 ⟨e1, e2, e3⟩ => ?_
    subst e1
    subst e2
    have w : wipS S2 vs = S := w
    by_cases hp : p x = true
    · rw [hp, iteP_true]
      refine (e3 hp).imp fun y S3 ⟨e4, e5⟩ => ?_
      subst e4 e5
      show Wp _ (wipS S3 vs) _
      rw [w]
      refine ih _ ?_
      rw [List.filter_cons_of_pos hp] at q
      simpa using q
    · have hq : p x = false := by cases h : p x <;> first | rfl | exact absurd h hp
      rw [hq, iteP_false]
      show Wp _ (wipS S2 vs) _
      rw [w]
      refine ih _ ?_
      rw [List.filter_cons_of_neg hp] at q
      exact q
/-- .. all of them -/
theorem wp_lcA {X : Type} {enc : X → D} {g : X → D} {st : TgF} {f : M D} {vs : List Nat} {xs : List X} {acc : List D} {Q : List D → Sto → Prop}
    (h : ∀ x ∈ xs, tgP st (enc x) S fun S1 => (wipP vs S1 fun S' => S' = S) ∧ Wp f S1 fun y S3 => S3 = S1 ∧ y = g x) (q : Q (acc ++ xs.map g) S) : Wp (cpL st (ret true) f vs (xs.map enc) acc) S Q :=
  wp_lcT (p := fun _ => true) (g := g) (fun x hx => opP_imp (h x hx) fun S1 ⟨z1, z2⟩ => ⟨z1, rfl, rfl, fun _ => z2⟩) (by rw [List.filter_eq_self.mpr (fun _ _ => rfl)]; exact q)
theorem wip1 {v : Nat} : wipS S [v] = ⟨S.sl.set v .un, S.hc⟩ := rfl
theorem wip2 {v u : Nat} : wipS S [v, u] = ⟨(S.sl.set u .un).set v .un, S.hc⟩ := rfl
theorem wip3 {v u t : Nat} : wipS S [v, u, t] = ⟨((S.sl.set t .un).set u .un).set v .un, S.hc⟩ := rfl
theorem bac1 {S0 : Sto} {v : Nat} : bacS S0 S [v] = ⟨S.sl.set v (keepV (S0.sl.getD v .un)), S.hc⟩ := rfl
theorem bac2 {S0 : Sto} {v u : Nat} : bacS S0 S [v, u] = ⟨(S.sl.set u (keepV (S0.sl.getD u .un))).set v (keepV (S0.sl.getD v .un)), S.hc⟩ := rfl
theorem bac3 {S0 : Sto} {v u t : Nat} : bacS S0 S [v, u, t] = ⟨((S.sl.set t (keepV (S0.sl.getD t .un))).set u (keepV (S0.sl.getD u .un))).set v (keepV (S0.sl.getD v .un)), S.hc⟩ := rfl
theorem keepV_un : keepV .un = .un := rfl
theorem keepV_val {d : D} : keepV (.val d) = .val d := rfl
theorem keepV_own {d : List D} : keepV (.own d) = .un := rfl
end
/-! ### a def's answer -/
theorem runP_of {n : Nat} {m : M Ctl} {ds : List D} {r : Fo} (S0 : Sto) (e : (⟨ds.map .val ++ List.replicate (n - ds.length) .un, []⟩ : Sto) = S0) (h : Wp m S0 fun c S' => endF (.ok c S') = r) : runP n m ds = r := by
  unfold runP
  rw [e]
  obtain ⟨c, S', e1, e2⟩ := of_wp h
  rw [e1]
  exact e2
theorem runH_of {n : Nat} {m : M Ctl} {hc ds : List D} {Q : Rv → List D → Prop} (S0 : Sto) (e : (⟨.hnd :: (ds.map .val ++ List.replicate (n - (ds.length + 1)) .un), hc⟩ : Sto) = S0) (h : Wp m S0 fun c S' => foP (endF (.ok c S')) Q) : foP (runH n m hc ds) Q := by
  unfold runH
  rw [e]
  obtain ⟨c, S', e1, e2⟩ := of_wp h
  rw [e1]
  exact e2
theorem end_rt {r : Rv} {S : Sto} : endF (.ok (.rt r) S) = .ret r S.hc := rfl
theorem end_nx {S : Sto} : endF (.ok .nx S) = .ret (.v .non) S.hc := rfl
end FX

set_option Elab.async false
set_option linter.all false
set_option maxRecDepth 100000
set_option maxHeartbeats 4000000
namespace FX
open PySem PySem.Spec PyProof.Rows L2 LamX

/-! ### the length of a repr -/
mutual
def smd : D → Bool
  | .non => true
  | .bl _ => true
  | .int i => decide (i.natAbs < 2 ^ 64)
  | .str x => decide ((reprText x).length ≤ 64)
  | .tup ds => smds ds
  | .lst ds => smds ds
  | _ => false
def smds : List D → Bool
  | [] => true
  | d :: ds => smd d && smds ds
end
mutual
def nod : D → Nat
  | .tup ds => nods ds + 1
  | .lst ds => nods ds + 1
  | _ => 1
def nods : List D → Nat
  | [] => 0
  | d :: ds => nod d + nods ds
end
mutual
def dep : D → Nat
  | .tup ds => deps ds + 1
  | .lst ds => deps ds + 1
  | _ => 0
def deps : List D → Nat
  | [] => 0
  | d :: ds => max (dep d) (deps ds)
end
theorem text_le : ∀ (ts : List Str) (k : Nat) (acc : Str), (textFrom k acc ts).length ≤ acc.length + piled ts
  | [], k, acc => by show acc.length ≤ _; simp
  | t :: r, k, acc => by
    have ih := text_le r (k + 1) (acc ++ (if k > 0 then ", " else "" : String) ++ t)
    show (textFrom (k + 1) (acc ++ (if k > 0 then ", " else "" : String) ++ t) r).length ≤ _
    have e : (acc ++ (if k > 0 then ", " else "" : String) ++ t).length ≤ acc.length + 2 + t.length := by
      rw [strLen_append, strLen_append]
      split
      · show acc.length + 2 + t.length ≤ _; omega
      · show acc.length + 0 + t.length ≤ _; omega
    rw [piled_cons]
    omega
theorem listText_le (ts : List Str) : (listText ts).length ≤ piled ts + 2 := by
  unfold listText
  have := text_le ts 0 "["
  have e1 : (("[" : String) : Str).length = 1 := rfl
  have e2 : (("]" : String) : Str).length = 1 := rfl
  rw [strLen_append]
  omega
theorem tupleText_le (ts : List Str) : (tupleText ts).length ≤ piled ts + 3 := by
  unfold tupleText
  rw [strLen_append, strLen_append]
  have e1 : ((("(" : String) : Str)).length = 1 := rfl
  have e3 : (((if ts.length == 1 then ",)" else ")" : String) : Str)).length ≤ 2 := by split <;> decide
  by_cases h : ts = []
  · subst h
    have e2 : (Str.join ", " []).length = 0 := rfl
    omega
  · have := join_length_add ts h
    omega
theorem int_len {i : Int} (h : i.natAbs < 2 ^ 64) : i.natAbs.log2 < 64 := by
  by_cases h0 : i.natAbs = 0
  · rw [h0]; decide
  · exact (Nat.log2_lt h0).mpr h
mutual
theorem smd_ok : ∀ {d : D}, smd d = true → ∃ p, toP d = some p ∧ p.showable = true ∧ p.depth ≤ dep d ∧ p.shown.length + 2 ≤ 70 * nod d
  | .non, _ => ⟨_, rfl, rfl, Nat.le_refl _, by decide⟩
  | .bl b, _ => ⟨_, rfl, rfl, Nat.le_refl _, by cases b <;> decide⟩
  | .int i, h => by
    have h : i.natAbs < 2 ^ 64 := of_decide_eq_true (by simpa only [smd] using h)
    have h2 := int_len h
    refine ⟨_, rfl, decide_eq_true (Nat.lt_trans h2 (by decide)), Nat.le_refl _, ?_⟩
    show (Str.ofString (toString i)).length + 2 ≤ 70 * 1
    rw [PySem.ofString_length]
    have := int_text_length_le (k := 64) (by decide) h2
    omega
  | .str x, h => by
    have h : (reprText x).length ≤ 64 := of_decide_eq_true (by simpa only [smd] using h)
    exact ⟨_, rfl, rfl, Nat.le_refl _, by show (reprText x).length + 2 ≤ 70 * 1; omega⟩
  | .tup ds, h => by
    obtain ⟨ps, e1, e2, e3, e4⟩ := smds_ok (ds := ds) (by simpa only [smd] using h)
    refine ⟨.tuple ps, by simp only [toP, e1, Option.map_some], by simpa only [PyData.showable] using e2, by simp only [PyData.depth, dep]; omega, ?_⟩
    have := tupleText_le (PyData.shownAll ps)
    simp only [PyData.shown, nod]
    omega
  | .lst ds, h => by
    obtain ⟨ps, e1, e2, e3, e4⟩ := smds_ok (ds := ds) (by simpa only [smd] using h)
    refine ⟨.list ps, by simp only [toP, e1, Option.map_some], by simpa only [PyData.showable] using e2, by simp only [PyData.depth, dep]; omega, ?_⟩
    have := listText_le (PyData.shownAll ps)
    simp only [PyData.shown, nod]
    omega
  | .dic _, h => by simp [smd] at h
  | .rng _ _, h => by simp [smd] at h
  | .adr _, h => by simp [smd] at h
  | .ty _, h => by simp [smd] at h
  | .exc _, h => by simp [smd] at h
  | .scr _, h => by simp [smd] at h
theorem smds_ok : ∀ {ds : List D}, smds ds = true → ∃ ps, toPs ds = some ps ∧ PyData.showableAll ps = true ∧ PyData.depthAll ps ≤ deps ds ∧ piled (PyData.shownAll ps) ≤ 70 * nods ds
  | [], _ => ⟨[], rfl, rfl, Nat.le_refl _, Nat.le_refl _⟩
  | d :: ds, h => by
    have h : smd d = true ∧ smds ds = true := by simpa only [smds, Bool.and_eq_true] using h
    obtain ⟨p, a1, a2, a3, a4⟩ := smd_ok h.1
    obtain ⟨ps, b1, b2, b3, b4⟩ := smds_ok h.2
    refine ⟨p :: ps, by simp only [toPs, a1, b1], by simp only [PyData.showableAll, a2, b2, Bool.and_self], by simp only [PyData.depthAll, deps]; omega, ?_⟩
    simp only [PyData.shownAll, nods]
    rw [piled_cons]
    omega
end
theorem reprD_ok {d : D} (h : smd d = true) (h2 : dep d ≤ 60) (h3 : nod d ≤ 200000) : ∃ s, reprD d = some (.str s) := by
  obtain ⟨p, e1, e2, e3, e4⟩ := smd_ok h
  refine ⟨p.shown, ?_⟩
  unfold reprD
  rw [e1]
  exact if_pos ⟨e2, by omega, by rw [sizeLine_eq]; omega⟩
theorem eqB_str {s : Str} : eqB (.str s) (.str s) = some true := by
  have e1 : eqB (.str s) (.str s) = some (eqd (.str s) (.str s)) := if_pos ⟨rfl, rfl⟩
  have e2 : eqd (.str s) (.str s) = (s == s) := rfl
  rw [e1, e2, beq_self_eq_true]
theorem smds_map {X : Type} {f : X → D} : ∀ {xs : List X}, (∀ x ∈ xs, smd (f x) = true) → smds (xs.map f) = true
  | [], _ => rfl
  | x :: xs, h => by
    show smds (f x :: xs.map f) = true
    simp only [smds, h x List.mem_cons_self, smds_map fun y hy => h y (List.mem_cons_of_mem _ hy), Bool.and_self]
theorem nods_map {X : Type} {f : X → D} {k : Nat} : ∀ {xs : List X}, (∀ x ∈ xs, nod (f x) ≤ k) → nods (xs.map f) ≤ k * xs.length
  | [], _ => Nat.le_refl _
  | x :: xs, h => by
    show nods (f x :: xs.map f) ≤ _
    have h1 := h x List.mem_cons_self
    have h2 := nods_map (xs := xs) fun y hy => h y (List.mem_cons_of_mem _ hy)
    simp only [nods, List.length_cons, Nat.mul_add]
    omega
theorem deps_map {X : Type} {f : X → D} {k : Nat} : ∀ {xs : List X}, (∀ x ∈ xs, dep (f x) ≤ k) → deps (xs.map f) ≤ k
  | [], _ => Nat.zero_le _
  | x :: xs, h => by
    show deps (f x :: xs.map f) ≤ _
    have h1 := h x List.mem_cons_self
    have h2 := deps_map (xs := xs) fun y hy => h y (List.mem_cons_of_mem _ hy)
    simp only [deps]
    omega
theorem smd_int {i : Int} (h1 : -(2 ^ 63) ≤ i) (h2 : i < 2 ^ 63) : smd (.int i) = true := by
  simp only [smd, decide_eq_true_eq]; omega
/-! ### the hand -/
/-- a hand -/
def GoodH (hc : List D) : Prop := ∃ (cells : List Int) (p b s c : Int), hc = [.lst (cells.map D.int), .int p, .int b, .int s, .int c] ∧ (∀ z ∈ cells, 0 ≤ z) ∧ 0 ≤ p ∧ 0 ≤ b ∧ 0 ≤ s ∧ 0 ≤ c
end FX

set_option Elab.async false
set_option linter.all false
namespace FX
open PySem PySem.Spec PyProof.Rows L2 LamX
/-! ### a waiting rest is not looked into -/
def tgQ {α : Sort u} (a : α) : α := a
theorem tgQ_eq {α : Sort u} {a : α} : tgQ a = a := rfl
theorem pSumT {ns : List Int} {Q : D → Prop} : opP (sumD (.tup (ns.map D.int))) Q = Q (.int ns.sum) := opP_of (by unfold sumD; dsimp only; rw [allI_ints]; rfl)
theorem pMinT {ns : List Int} {Q : D → Prop} : opP (minD1 (.tup (ns.map D.int))) Q = opP (minI ns) fun m => Q (.int m) := by
  rw [show minD1 (.tup (ns.map D.int)) = (minI ns).map .int by unfold minD1; dsimp only; rw [allI_ints]; rfl]; cases minI ns <;> rfl
theorem pMaxT {ns : List Int} {Q : D → Prop} : opP (maxD1 (.tup (ns.map D.int))) Q = opP (maxI ns) fun m => Q (.int m) := by
  rw [show maxD1 (.tup (ns.map D.int)) = (maxI ns).map .int by unfold maxD1; dsimp only; rw [allI_ints]; rfl]; cases maxI ns <;> rfl
end FX

set_option Elab.async false
set_option linter.all false
set_option maxRecDepth 100000
set_option maxHeartbeats 4000000
namespace FX.K71
open PySem PySem.Spec PyProof.Rows L2 LamX FX
def topS (i : Nat) : Stmt := PySem.Challenge.pw_steprounds_k71_whole_changing_lines.main.body.getD i (.Pass ⟨0, 0, 0, 0⟩)

structure Df (K : PySem.W.Frag) (mg : Str → Option Value) (x : Str) (st : Stmt) (ps : List Str) where
  f : Addr
  fd : FuncData
  F : Fun K x x st f fd
  g : mg x = some (.ref f)
  b : Binds K fd ps []
structure Xf (K : PySem.W.Frag) (mg : Str → Option Value) (x : Str) where
  C : Addr
  c : ExCls K mg x C
  g : mg x = some (.ref C)
structure Lm (K : PySem.W.Frag) (fd : FuncData) where
  c : Addr
  P : Addr
  hc : fd.code = .ref c
structure Txt (K : PySem.W.Frag) (mg : Str → Option Value) where
  is_int : Df K mg "is_int" (topS 6) ["thing"]
  is_within : Df K mg "is_within" (topS 7) ["thing", "least", "greatest"]
  is_ints : Df K mg "is_ints" (topS 8) ["thing"]
  is_lot : Df K mg "is_lot" (topS 9) ["thing", "many"]
  check_within : Df K mg "check_within" (topS 10) ["thing", "least", "greatest"]
  check_from : Df K mg "check_from" (topS 11) ["thing", "least"]
  is_moments : Df K mg "is_moments" (topS 17) ["period", "thing"]
  is_hub : Df K mg "is_hub" (topS 18) ["thing"]
  check_hub : Df K mg "check_hub" (topS 19) ["hub", "change"]
  check_line : Df K mg "check_line" (topS 20) ["hub", "number"]
  waits_of : Df K mg "waits_of" (topS 21) ["hub", "change", "one", "other", "by"]
  change_waits : Df K mg "change_waits" (topS 22) ["hub", "change", "one", "other"]
  change_table : Df K mg "change_table" (topS 23) ["hub", "change"]
  unlike_pairs : Df K mg "unlike_pairs" (topS 24) ["hub"]
  worst_change : Df K mg "worst_change" (topS 25) ["hub", "change"]
  kept_changes : Df K mg "kept_changes" (topS 26) ["hub", "change", "most"]
  held_gain : Df K mg "held_gain" (topS 27) ["hub", "change", "one", "other", "by"]
  _law_hand : Df K mg "_law_hand" (topS 29) ["script"]
  _law_draw : Df K mg "_law_draw" (topS 30) ["hand", "many"]
  _law_some : Df K mg "_law_some" (topS 31) ["hand", "things"]
  _law_is : Df K mg "_law_is" (topS 32) ["mine", "yours"]
  _law_error : Df K mg "_law_error" (topS 33) ["call"]
  _law_lot : Df K mg "_law_lot" (topS 34) ["hand", "period"]
  _law_hub : Df K mg "_law_hub" (topS 35) ["hand"]
  _law_waits : Df K mg "_law_waits" (topS 36) ["hub", "change", "one", "other"]
  _law_later : Df K mg "_law_later" (topS 37) ["hub", "line", "by"]
  _law_right : Df K mg "_law_right" (topS 38) ["hand"]
  law : Df K mg "law" (topS 39) ["script"]
  b_abs : mg "abs" = none
  b_all : mg "all" = none
  b_bool : mg "bool" = none
  b_int : mg "int" = none
  b_isinstance : mg "isinstance" = none
  b_len : mg "len" = none
  b_max : mg "max" = none
  b_min : mg "min" = none
  b_range : mg "range" = none
  b_repr : mg "repr" = none
  b_sorted : mg "sorted" = none
  b_sum : mg "sum" = none
  b_tuple : mg "tuple" = none
  b_zip : mg "zip" = none
  c_LEAST_LINES : ∃ t, mg "LEAST_LINES" = some (.int 2 t)
  c_MOST_CHANGE : ∃ t, mg "MOST_CHANGE" = some (.int 100 t)
  c_MOST_LINES : ∃ t, mg "MOST_LINES" = some (.int 8 t)
  c_MOST_PERIOD : ∃ t, mg "MOST_PERIOD" = some (.int 200 t)
  x_BadHub : Xf K mg "BadHub"
  x_NoNumber : Xf K mg "NoNumber"
  x_NoPlace : Xf K mg "NoPlace"
  x_RoundError : Xf K mg "RoundError"
  l_law : Lm K law.fd
  i_BadHub : excCB K x_BadHub.C = true
  k_BadHub_BadHub : PySem.W.kitOne K (.ref x_BadHub.C) (.ref x_BadHub.C) = some true
  k_BadHub_NoNumber : PySem.W.kitOne K (.ref x_BadHub.C) (.ref x_NoNumber.C) = some false
  k_BadHub_NoPlace : PySem.W.kitOne K (.ref x_BadHub.C) (.ref x_NoPlace.C) = some false
  e_BadHub_RoundError : PySem.W.exmOne K (.ref x_BadHub.C) (.ref x_RoundError.C) = some true
  i_NoNumber : excCB K x_NoNumber.C = true
  k_NoNumber_BadHub : PySem.W.kitOne K (.ref x_NoNumber.C) (.ref x_BadHub.C) = some false
  k_NoNumber_NoNumber : PySem.W.kitOne K (.ref x_NoNumber.C) (.ref x_NoNumber.C) = some true
  k_NoNumber_NoPlace : PySem.W.kitOne K (.ref x_NoNumber.C) (.ref x_NoPlace.C) = some false
  e_NoNumber_RoundError : PySem.W.exmOne K (.ref x_NoNumber.C) (.ref x_RoundError.C) = some true
  i_NoPlace : excCB K x_NoPlace.C = true
  k_NoPlace_BadHub : PySem.W.kitOne K (.ref x_NoPlace.C) (.ref x_BadHub.C) = some false
  k_NoPlace_NoNumber : PySem.W.kitOne K (.ref x_NoPlace.C) (.ref x_NoNumber.C) = some false
  k_NoPlace_NoPlace : PySem.W.kitOne K (.ref x_NoPlace.C) (.ref x_NoPlace.C) = some true
  e_NoPlace_RoundError : PySem.W.exmOne K (.ref x_NoPlace.C) (.ref x_RoundError.C) = some true
def TT {K : PySem.W.Frag} {mg : Str → Option Value} (G : Txt K mg) : List (Addr × Str) := [(G.l_law.P, ("law" : Str) ++ ".<locals>." ++ "<lambda>")]
structure Tbs {K : PySem.W.Frag} {mg : Str → Option Value} (G : Txt K mg) (base : Heap) : Prop where
  law : TabB base mg G.l_law.c G.l_law.P
section
variable {K : PySem.W.Frag} {mg : Str → Option Value}
/-! is_int -/
theorem sc_is_int : FnScope ["thing"] ["thing"] (defScope (topS 6)) := ⟨rfl, rfl, rfl, by decide +kernel, rfl, by decide +kernel, by decide +kernel⟩
def m_is_int (G : Txt K mg) : M Ctl := (bnd (andV (isiM (vV 0) "int") (notV (isiM (vV 0) "bool"))) fun d => ret (.rt (.v d)))
def r_is_int (G : Txt K mg) (ds : List D) : Fo := runP 1 (m_is_int G) ds
theorem g_is_int {P : Program} {w : World} {base : Heap} (G : Txt K mg) (B : Tbs G base) : FnG P w K mg base 1 G.is_int.f G.is_int.fd ["thing"] (spP K (TT G) 1 (r_is_int G)) := by
  have sc := sc_is_int
  refine fnP G.is_int.F sc fun cdv A outer s H E hcd hf => ?_
  have tk := takes_cx (P := P) (w := w) (K := K) (mg := mg) (base := base) (N := ["thing"]) (qual := "is_int") (scope := defScope (topS 6)) (f := G.is_int.f) (cdv := cdv) (A := A) (outer := outer) (s := s) (H := H) (E := E)
  have hp := pass_cx (P := P) (w := w) (K := K) (mg := mg) (base := base) (N := ["thing"]) (qual := "is_int") (scope := defScope (topS 6)) (f := G.is_int.f) (cdv := cdv) (A := A) (outer := outer) (s := s) (H := H) (E := E)
  exact (js_one (js_ret (jv_and (jv_isi (by rfl) G.b_isinstance (jb_of (jv_var (pv 0))) (pe_bltn (by rfl) G.b_int fb_int rfl)) (jv_one (jv_not (jv_isi (by rfl) G.b_isinstance (jb_of (jv_var (pv 0))) (pe_bltn (by rfl) G.b_bool fb_bool rfl)))))))
/-! is_within -/
theorem sc_is_within : FnScope ["thing", "least", "greatest"] ["thing", "least", "greatest"] (defScope (topS 7)) := ⟨rfl, rfl, rfl, by decide +kernel, rfl, by decide +kernel, by decide +kernel⟩
def m_is_within (G : Txt K mg) : M Ctl := (bnd (andV (clV (r_is_int G) [(vV 0)]) (bnd (chM (vV 1) (vV 0) (vV 2) leB leB) fun k => ret (.bl k))) fun d => ret (.rt (.v d)))
def r_is_within (G : Txt K mg) (ds : List D) : Fo := runP 3 (m_is_within G) ds
theorem g_is_within {P : Program} {w : World} {base : Heap} (G : Txt K mg) (B : Tbs G base) : FnG P w K mg base 2 G.is_within.f G.is_within.fd ["thing", "least", "greatest"] (spP K (TT G) 3 (r_is_within G)) := by
  have sc := sc_is_within
  refine fnP G.is_within.F sc fun cdv A outer s H E hcd hf => ?_
  have tk := takes_cx (P := P) (w := w) (K := K) (mg := mg) (base := base) (N := ["thing", "least", "greatest"]) (qual := "is_within") (scope := defScope (topS 7)) (f := G.is_within.f) (cdv := cdv) (A := A) (outer := outer) (s := s) (H := H) (E := E)
  have hp := pass_cx (P := P) (w := w) (K := K) (mg := mg) (base := base) (N := ["thing", "least", "greatest"]) (qual := "is_within") (scope := defScope (topS 7)) (f := G.is_within.f) (cdv := cdv) (A := A) (outer := outer) (s := s) (H := H) (E := E)
  exact (js_one (js_ret (jv_and (jv_call (g_is_int G B) (hf.mono (by decide)) (by rfl) G.is_int.g G.is_int.F.kp G.is_int.b tk (ja_cons (jv_var (pv 0)) ja_nil)) (jv_one (jv_chain op_le s_le op_le s_le (jb_of (jv_var (pv 1))) (jb_of (jv_var (pv 0))) (jb_of (jv_var (pv 2))))))))
/-! is_ints -/
theorem sc_is_ints : FnScope ["thing", "part"] ["thing"] (defScope (topS 8)) := ⟨rfl, rfl, rfl, by decide +kernel, rfl, by decide +kernel, by decide +kernel⟩
def m_is_ints (G : Txt K mg) : M Ctl := (bnd (andV (isiM (vV 0) "tuple") (b1 (frz (lcM (itM (vV 0)) (stV 1) (ret true) (clV (r_is_int G) [(vV 1)]) [1])) allD)) fun d => ret (.rt (.v d)))
def r_is_ints (G : Txt K mg) (ds : List D) : Fo := runP 2 (m_is_ints G) ds
theorem g_is_ints {P : Program} {w : World} {base : Heap} (G : Txt K mg) (B : Tbs G base) : FnG P w K mg base 2 G.is_ints.f G.is_ints.fd ["thing"] (spP K (TT G) 1 (r_is_ints G)) := by
  have sc := sc_is_ints
  refine fnP G.is_ints.F sc fun cdv A outer s H E hcd hf => ?_
  have tk := takes_cx (P := P) (w := w) (K := K) (mg := mg) (base := base) (N := ["thing", "part"]) (qual := "is_ints") (scope := defScope (topS 8)) (f := G.is_ints.f) (cdv := cdv) (A := A) (outer := outer) (s := s) (H := H) (E := E)
  have hp := pass_cx (P := P) (w := w) (K := K) (mg := mg) (base := base) (N := ["thing", "part"]) (qual := "is_ints") (scope := defScope (topS 8)) (f := G.is_ints.f) (cdv := cdv) (A := A) (outer := outer) (s := s) (H := H) (E := E)
  exact (js_one (js_ret (jv_and (jv_isi (by rfl) G.b_isinstance (jb_of (jv_var (pv 0))) (pe_bltn (by rfl) G.b_tuple fb_tuple rfl)) (jv_one (jv_b1 (cr_all rfl) s_all (by rfl) G.b_all fb_all (jb_ofL (jl_lc (own := [("part", 1)]) rfl sc.nd (ji_seq (jv_var (pv 0))) (blkOk_by rfl) (ctg_name (by decide)) (fun _ _ _ _ _ => (pg_name (i := 1) sc.nd rfl (by first | exact .inl rfl | exact .inr rfl))) (fun _ _ _ _ _ => jt_yes) (fun _ _ _ _ _ => (jv_call (g_is_int G B) (hf.mono (by decide)) (by rfl) G.is_int.g G.is_int.F.kp G.is_int.b L2.takes0 (ja_cons (jv_var (pv 1)) ja_nil))))))))))
/-! is_lot -/
theorem sc_is_lot : FnScope ["thing", "many", "one", "other"] ["thing", "many"] (defScope (topS 9)) := ⟨rfl, rfl, rfl, by decide +kernel, rfl, by decide +kernel, by decide +kernel⟩
def m_is_lot (G : Txt K mg) : M Ctl := (sqS (ifM (orM (notM (bnd (clV (r_is_ints G) [(vV 0)]) asB)) (notM (bnd (b1 (frz (lcM (itM (vV 0)) (stV 2) (ret true) (bnd (chM (ret (.int 0)) (vV 2) (vV 1) leB ltB) fun k => ret (.bl k)) [2])) allD) asB))) (bnd (ret (.bl false)) fun d => ret (.rt (.v d))) (ret .nx))
  (bnd (b1 (frz (lcM (zpM (vV 0) (sl3 (vV 0) (someM (ret (.int 1))) (ret none) slD)) (stT [(stV 2), (stV 3)]) (ret true) (b2 (vV 2) (vV 3) (opB ltB)) [2, 3])) allD) fun d => ret (.rt (.v d))))
def r_is_lot (G : Txt K mg) (ds : List D) : Fo := runP 4 (m_is_lot G) ds
theorem g_is_lot {P : Program} {w : World} {base : Heap} (G : Txt K mg) (B : Tbs G base) : FnG P w K mg base 3 G.is_lot.f G.is_lot.fd ["thing", "many"] (spP K (TT G) 2 (r_is_lot G)) := by
  have sc := sc_is_lot
  refine fnP G.is_lot.F sc fun cdv A outer s H E hcd hf => ?_
  have tk := takes_cx (P := P) (w := w) (K := K) (mg := mg) (base := base) (N := ["thing", "many", "one", "other"]) (qual := "is_lot") (scope := defScope (topS 9)) (f := G.is_lot.f) (cdv := cdv) (A := A) (outer := outer) (s := s) (H := H) (E := E)
  have hp := pass_cx (P := P) (w := w) (K := K) (mg := mg) (base := base) (N := ["thing", "many", "one", "other"]) (qual := "is_lot") (scope := defScope (topS 9)) (f := G.is_lot.f) (cdv := cdv) (A := A) (outer := outer) (s := s) (H := H) (E := E)
  exact (js_cons (js_if (jt_w (jw_or (jt_not (jt_of (jv_call (g_is_ints G B) (hf.mono (by decide)) (by rfl) G.is_ints.g G.is_ints.F.kp G.is_ints.b tk (ja_cons (jv_var (pv 0)) ja_nil)))) (jw_or1 (jt_not (jt_of (jv_b1 (cr_all rfl) s_all (by rfl) G.b_all fb_all (jb_ofL (jl_lc (own := [("one", 2)]) rfl sc.nd (ji_seq (jv_var (pv 0))) (blkOk_by rfl) (ctg_name (by decide)) (fun _ _ _ _ _ => (pg_name (i := 2) sc.nd rfl (by first | exact .inl rfl | exact .inr rfl))) (fun _ _ _ _ _ => jt_yes) (fun _ _ _ _ _ => (jv_chain op_le s_le op_lt s_lt (jb_of jv_int) (jb_of (jv_var (pv 2))) (jb_of (jv_var (pv 1))))))))))))) (js_one (js_ret jv_bl)) js_nil)
  (js_one (js_ret (jv_b1 (cr_all rfl) s_all (by rfl) G.b_all fb_all (jb_ofL (jl_lc (own := [("one", 2), ("other", 3)]) rfl sc.nd (ji_zip (by rfl) G.b_zip (jv_var (pv 0)) (jv_slice (jb_of (jv_var (pv 0))) (jo_some jv_int) jo_none)) (blkOk_by rfl) (ctg_tup (ctgs_cons (ctg_name (by decide)) (ctgs_cons (ctg_name (by decide)) ctgs_nil)) rfl) (fun _ _ _ _ _ => (pg_tup rfl (pgs_cons (pg_name (i := 2) sc.nd rfl (by first | exact .inl rfl | exact .inr rfl)) (pgs_cons (pg_name (i := 3) sc.nd rfl (by first | exact .inl rfl | exact .inr rfl)) pgs_nil)))) (fun _ _ _ _ _ => jt_yes) (fun _ _ _ _ _ => (jv_cmp op_lt s_lt (jb_of (jv_var (pv 2))) (jb_of (jv_var (pv 3))) (nomark _)))))))))
/-! check_within -/
theorem sc_check_within : FnScope ["thing", "least", "greatest"] ["thing", "least", "greatest"] (defScope (topS 10)) := ⟨rfl, rfl, rfl, by decide +kernel, rfl, by decide +kernel, by decide +kernel⟩
def m_check_within (G : Txt K mg) : M Ctl := (ifM (notM (bnd (clV (r_is_within G) [(vV 0), (vV 1), (vV 2)]) asB)) (raM G.x_NoNumber.C) (ret .nx))
def r_check_within (G : Txt K mg) (ds : List D) : Fo := runP 3 (m_check_within G) ds
theorem g_check_within {P : Program} {w : World} {base : Heap} (G : Txt K mg) (B : Tbs G base) : FnG P w K mg base 3 G.check_within.f G.check_within.fd ["thing", "least", "greatest"] (spP K (TT G) 3 (r_check_within G)) := by
  have sc := sc_check_within
  refine fnP G.check_within.F sc fun cdv A outer s H E hcd hf => ?_
  have tk := takes_cx (P := P) (w := w) (K := K) (mg := mg) (base := base) (N := ["thing", "least", "greatest"]) (qual := "check_within") (scope := defScope (topS 10)) (f := G.check_within.f) (cdv := cdv) (A := A) (outer := outer) (s := s) (H := H) (E := E)
  have hp := pass_cx (P := P) (w := w) (K := K) (mg := mg) (base := base) (N := ["thing", "least", "greatest"]) (qual := "check_within") (scope := defScope (topS 10)) (f := G.check_within.f) (cdv := cdv) (A := A) (outer := outer) (s := s) (H := H) (E := E)
  exact (js_one (js_if (jt_not (jt_of (jv_call (g_is_within G B) (hf.mono (by decide)) (by rfl) G.is_within.g G.is_within.F.kp G.is_within.b tk (ja_cons (jv_var (pv 0)) (ja_cons (jv_var (pv 1)) (ja_cons (jv_var (pv 2)) ja_nil)))))) (js_one (js_raise0 rfl tk G.x_NoNumber.c (by rfl))) js_nil))
/-! check_from -/
theorem sc_check_from : FnScope ["thing", "least"] ["thing", "least"] (defScope (topS 11)) := ⟨rfl, rfl, rfl, by decide +kernel, rfl, by decide +kernel, by decide +kernel⟩
def m_check_from (G : Txt K mg) : M Ctl := (ifM (orM (notM (bnd (clV (r_is_int G) [(vV 0)]) asB)) (b2 (vV 0) (vV 1) ltB)) (raM G.x_NoNumber.C) (ret .nx))
def r_check_from (G : Txt K mg) (ds : List D) : Fo := runP 2 (m_check_from G) ds
theorem g_check_from {P : Program} {w : World} {base : Heap} (G : Txt K mg) (B : Tbs G base) : FnG P w K mg base 2 G.check_from.f G.check_from.fd ["thing", "least"] (spP K (TT G) 2 (r_check_from G)) := by
  have sc := sc_check_from
  refine fnP G.check_from.F sc fun cdv A outer s H E hcd hf => ?_
  have tk := takes_cx (P := P) (w := w) (K := K) (mg := mg) (base := base) (N := ["thing", "least"]) (qual := "check_from") (scope := defScope (topS 11)) (f := G.check_from.f) (cdv := cdv) (A := A) (outer := outer) (s := s) (H := H) (E := E)
  have hp := pass_cx (P := P) (w := w) (K := K) (mg := mg) (base := base) (N := ["thing", "least"]) (qual := "check_from") (scope := defScope (topS 11)) (f := G.check_from.f) (cdv := cdv) (A := A) (outer := outer) (s := s) (H := H) (E := E)
  exact (js_one (js_if (jt_w (jw_or (jt_not (jt_of (jv_call (g_is_int G B) (hf.mono (by decide)) (by rfl) G.is_int.g G.is_int.F.kp G.is_int.b tk (ja_cons (jv_var (pv 0)) ja_nil)))) (jw_or1 (jt_cmp op_lt s_lt (jb_of (jv_var (pv 0))) (jb_of (jv_var (pv 1))) (nomark _))))) (js_one (js_raise0 rfl tk G.x_NoNumber.c (by rfl))) js_nil))
/-! is_moments -/
theorem sc_is_moments : FnScope ["period", "thing"] ["period", "thing"] (defScope (topS 17)) := ⟨rfl, rfl, rfl, by decide +kernel, rfl, by decide +kernel, by decide +kernel⟩
def m_is_moments (G : Txt K mg) : M Ctl := (bnd (andV (clV (r_is_lot G) [(vV 1), (vV 0)]) (b2 (b1 (vV 1) lenD) (ret (.int 0)) (opB gtB))) fun d => ret (.rt (.v d)))
def r_is_moments (G : Txt K mg) (ds : List D) : Fo := runP 2 (m_is_moments G) ds
theorem g_is_moments {P : Program} {w : World} {base : Heap} (G : Txt K mg) (B : Tbs G base) : FnG P w K mg base 4 G.is_moments.f G.is_moments.fd ["period", "thing"] (spP K (TT G) 2 (r_is_moments G)) := by
  have sc := sc_is_moments
  refine fnP G.is_moments.F sc fun cdv A outer s H E hcd hf => ?_
  have tk := takes_cx (P := P) (w := w) (K := K) (mg := mg) (base := base) (N := ["period", "thing"]) (qual := "is_moments") (scope := defScope (topS 17)) (f := G.is_moments.f) (cdv := cdv) (A := A) (outer := outer) (s := s) (H := H) (E := E)
  have hp := pass_cx (P := P) (w := w) (K := K) (mg := mg) (base := base) (N := ["period", "thing"]) (qual := "is_moments") (scope := defScope (topS 17)) (f := G.is_moments.f) (cdv := cdv) (A := A) (outer := outer) (s := s) (H := H) (E := E)
  exact (js_one (js_ret (jv_and (jv_call (g_is_lot G B) (hf.mono (by decide)) (by rfl) G.is_lot.g G.is_lot.F.kp G.is_lot.b tk (ja_cons (jv_var (pv 1)) (ja_cons (jv_var (pv 0)) ja_nil))) (jv_one (jv_cmp op_gt s_gt (jb_of (jv_b1 c_len s_len (by rfl) G.b_len fb_len (jb_of (jv_var (pv 1))))) (jb_of jv_int) (nomark _))))))
/-! is_hub -/
theorem sc_is_hub : FnScope ["thing", "period", "lines", "one"] ["thing"] (defScope (topS 18)) := ⟨rfl, rfl, rfl, by decide +kernel, rfl, by decide +kernel, by decide +kernel⟩
def m_is_hub (G : Txt K mg) : M Ctl := (sqS (ifM (orM (notM (bnd (isiM (vV 0) "tuple") asB)) (orM (b2 (b1 (vV 0) lenD) (ret (.int 2)) neB) (notM (bnd (clV (r_is_within G) [(b2 (vV 0) (ret (.int 0)) ixD), (ret (.int 1)), (ret (.int 200))]) asB)))) (bnd (ret (.bl false)) fun d => ret (.rt (.v d))) (ret .nx))
  (sqS (asM (vV 0) (stT [(stV 1), (stV 2)]))
  (sqS (ifM (orM (notM (bnd (isiM (vV 2) "tuple") asB)) (notM (chM (ret (.int 2)) (b1 (vV 2) lenD) (ret (.int 8)) leB leB))) (bnd (ret (.bl false)) fun d => ret (.rt (.v d))) (ret .nx))
  (sqS (ifM (notM (bnd (b1 (frz (lcM (itM (vV 2)) (stV 3) (ret true) (andV (isiM (vV 3) "tuple") (b2 (b1 (vV 3) lenD) (ret (.int 2)) (opB eqB))) [3])) allD) asB)) (bnd (ret (.bl false)) fun d => ret (.rt (.v d))) (ret .nx))
  (bnd (b1 (frz (lcM (itM (vV 2)) (stV 3) (ret true) (andV (clV (r_is_moments G) [(vV 1), (b2 (vV 3) (ret (.int 0)) ixD)]) (clV (r_is_moments G) [(vV 1), (b2 (vV 3) (ret (.int 1)) ixD)])) [3])) allD) fun d => ret (.rt (.v d)))))))
def r_is_hub (G : Txt K mg) (ds : List D) : Fo := runP 4 (m_is_hub G) ds
theorem g_is_hub {P : Program} {w : World} {base : Heap} (G : Txt K mg) (B : Tbs G base) : FnG P w K mg base 5 G.is_hub.f G.is_hub.fd ["thing"] (spP K (TT G) 1 (r_is_hub G)) := by
  have sc := sc_is_hub
  refine fnP G.is_hub.F sc fun cdv A outer s H E hcd hf => ?_
  have tk := takes_cx (P := P) (w := w) (K := K) (mg := mg) (base := base) (N := ["thing", "period", "lines", "one"]) (qual := "is_hub") (scope := defScope (topS 18)) (f := G.is_hub.f) (cdv := cdv) (A := A) (outer := outer) (s := s) (H := H) (E := E)
  have hp := pass_cx (P := P) (w := w) (K := K) (mg := mg) (base := base) (N := ["thing", "period", "lines", "one"]) (qual := "is_hub") (scope := defScope (topS 18)) (f := G.is_hub.f) (cdv := cdv) (A := A) (outer := outer) (s := s) (H := H) (E := E)
  exact (js_cons (js_if (jt_w (jw_or (jt_not (jt_of (jv_isi (by rfl) G.b_isinstance (jb_of (jv_var (pv 0))) (pe_bltn (by rfl) G.b_tuple fb_tuple rfl)))) (jw_or (jt_cmp (o_ne hf.u) s_ne (jb_of (jv_b1 c_len s_len (by rfl) G.b_len fb_len (jb_of (jv_var (pv 0))))) (jb_of jv_int) (nomark _)) (jw_or1 (jt_not (jt_of (jv_call (g_is_within G B) (hf.mono (by decide)) (by rfl) G.is_within.g G.is_within.F.kp G.is_within.b tk (ja_cons (jv_ix (jb_of (jv_var (pv 0))) (jb_of jv_int) (fun _ _ => rfl)) (ja_cons jv_int (ja_cons (jv_glob (by rfl) G.c_MOST_PERIOD) ja_nil)))))))))) (js_one (js_ret jv_bl)) js_nil)
  (js_cons (js_asg (jv_var (pv 0)) (jg_tup rfl (jgs_cons (jg_name (pg_name (i := 1) sc.nd rfl (by first | exact .inl rfl | exact .inr rfl))) (jgs_cons (jg_name (pg_name (i := 2) sc.nd rfl (by first | exact .inl rfl | exact .inr rfl))) jgs_nil))))
  (js_cons (js_if (jt_w (jw_or (jt_not (jt_of (jv_isi (by rfl) G.b_isinstance (jb_of (jv_var (pv 2))) (pe_bltn (by rfl) G.b_tuple fb_tuple rfl)))) (jw_or1 (jt_not (jt_chain op_le s_le op_le s_le (jb_of (jv_glob (by rfl) G.c_LEAST_LINES)) (jb_of (jv_b1 c_len s_len (by rfl) G.b_len fb_len (jb_of (jv_var (pv 2))))) (jb_of (jv_glob (by rfl) G.c_MOST_LINES))))))) (js_one (js_ret jv_bl)) js_nil)
  (js_cons (js_if (jt_not (jt_of (jv_b1 (cr_all rfl) s_all (by rfl) G.b_all fb_all (jb_ofL (jl_lc (own := [("one", 3)]) rfl sc.nd (ji_seq (jv_var (pv 2))) (blkOk_by rfl) (ctg_name (by decide)) (fun _ _ _ _ _ => (pg_name (i := 3) sc.nd rfl (by first | exact .inl rfl | exact .inr rfl))) (fun _ _ _ _ _ => jt_yes) (fun _ _ _ _ _ => (jv_and (jv_isi (by rfl) G.b_isinstance (jb_of (jv_var (pv 3))) (pe_bltn (by rfl) G.b_tuple fb_tuple rfl)) (jv_one (jv_cmp (o_eq hf.u) s_eq (jb_of (jv_b1 c_len s_len (by rfl) G.b_len fb_len (jb_of (jv_var (pv 3))))) (jb_of jv_int) (nomark _)))))))))) (js_one (js_ret jv_bl)) js_nil)
  (js_one (js_ret (jv_b1 (cr_all rfl) s_all (by rfl) G.b_all fb_all (jb_ofL (jl_lc (own := [("one", 3)]) rfl sc.nd (ji_seq (jv_var (pv 2))) (blkOk_by rfl) (ctg_name (by decide)) (fun _ _ _ _ _ => (pg_name (i := 3) sc.nd rfl (by first | exact .inl rfl | exact .inr rfl))) (fun _ _ _ _ _ => jt_yes) (fun _ _ _ _ _ => (jv_and (jv_call (g_is_moments G B) (hf.mono (by decide)) (by rfl) G.is_moments.g G.is_moments.F.kp G.is_moments.b L2.takes0 (ja_cons (jv_var (pv 1)) (ja_cons (jv_ix (jb_of (jv_var (pv 3))) (jb_of jv_int) (fun _ _ => rfl)) ja_nil))) (jv_one (jv_call (g_is_moments G B) (hf.mono (by decide)) (by rfl) G.is_moments.g G.is_moments.F.kp G.is_moments.b L2.takes0 (ja_cons (jv_var (pv 1)) (ja_cons (jv_ix (jb_of (jv_var (pv 3))) (jb_of jv_int) (fun _ _ => rfl)) ja_nil)))))))))))))))
/-! check_hub -/
theorem sc_check_hub : FnScope ["hub", "change"] ["hub", "change"] (defScope (topS 19)) := ⟨rfl, rfl, rfl, by decide +kernel, rfl, by decide +kernel, by decide +kernel⟩
def m_check_hub (G : Txt K mg) : M Ctl := (sqS (ifM (notM (bnd (clV (r_is_hub G) [(vV 0)]) asB)) (raM G.x_BadHub.C) (ret .nx))
  (bnd (clV (r_check_within G) [(vV 1), (ret (.int 0)), (ret (.int 100))]) fun _ => ret .nx))
def r_check_hub (G : Txt K mg) (ds : List D) : Fo := runP 2 (m_check_hub G) ds
theorem g_check_hub {P : Program} {w : World} {base : Heap} (G : Txt K mg) (B : Tbs G base) : FnG P w K mg base 6 G.check_hub.f G.check_hub.fd ["hub", "change"] (spP K (TT G) 2 (r_check_hub G)) := by
  have sc := sc_check_hub
  refine fnP G.check_hub.F sc fun cdv A outer s H E hcd hf => ?_
  have tk := takes_cx (P := P) (w := w) (K := K) (mg := mg) (base := base) (N := ["hub", "change"]) (qual := "check_hub") (scope := defScope (topS 19)) (f := G.check_hub.f) (cdv := cdv) (A := A) (outer := outer) (s := s) (H := H) (E := E)
  have hp := pass_cx (P := P) (w := w) (K := K) (mg := mg) (base := base) (N := ["hub", "change"]) (qual := "check_hub") (scope := defScope (topS 19)) (f := G.check_hub.f) (cdv := cdv) (A := A) (outer := outer) (s := s) (H := H) (E := E)
  exact (js_cons (js_if (jt_not (jt_of (jv_call (g_is_hub G B) (hf.mono (by decide)) (by rfl) G.is_hub.g G.is_hub.F.kp G.is_hub.b tk (ja_cons (jv_var (pv 0)) ja_nil)))) (js_one (js_raise0 rfl tk G.x_BadHub.c (by rfl))) js_nil)
  (js_one (js_drop (jv_call (g_check_within G B) (hf.mono (by decide)) (by rfl) G.check_within.g G.check_within.F.kp G.check_within.b tk (ja_cons (jv_var (pv 1)) (ja_cons jv_int (ja_cons (jv_glob (by rfl) G.c_MOST_CHANGE) ja_nil)))))))
/-! check_line -/
theorem sc_check_line : FnScope ["hub", "number"] ["hub", "number"] (defScope (topS 20)) := ⟨rfl, rfl, rfl, by decide +kernel, rfl, by decide +kernel, by decide +kernel⟩
def m_check_line (G : Txt K mg) : M Ctl := (ifM (notM (bnd (clV (r_is_within G) [(vV 1), (ret (.int 0)), (b2 (b1 (b2 (vV 0) (ret (.int 1)) ixD) lenD) (ret (.int 1)) subD)]) asB)) (raM G.x_NoPlace.C) (ret .nx))
def r_check_line (G : Txt K mg) (ds : List D) : Fo := runP 2 (m_check_line G) ds
theorem g_check_line {P : Program} {w : World} {base : Heap} (G : Txt K mg) (B : Tbs G base) : FnG P w K mg base 3 G.check_line.f G.check_line.fd ["hub", "number"] (spP K (TT G) 2 (r_check_line G)) := by
  have sc := sc_check_line
  refine fnP G.check_line.F sc fun cdv A outer s H E hcd hf => ?_
  have tk := takes_cx (P := P) (w := w) (K := K) (mg := mg) (base := base) (N := ["hub", "number"]) (qual := "check_line") (scope := defScope (topS 20)) (f := G.check_line.f) (cdv := cdv) (A := A) (outer := outer) (s := s) (H := H) (E := E)
  have hp := pass_cx (P := P) (w := w) (K := K) (mg := mg) (base := base) (N := ["hub", "number"]) (qual := "check_line") (scope := defScope (topS 20)) (f := G.check_line.f) (cdv := cdv) (A := A) (outer := outer) (s := s) (H := H) (E := E)
  exact (js_one (js_if (jt_not (jt_of (jv_call (g_is_within G B) (hf.mono (by decide)) (by rfl) G.is_within.g G.is_within.F.kp G.is_within.b tk (ja_cons (jv_var (pv 1)) (ja_cons jv_int (ja_cons (jv_op op_sub s_sub (jb_of (jv_b1 c_len s_len (by rfl) G.b_len fb_len (jb_of (jv_ix (jb_of (jv_var (pv 0))) (jb_of jv_int) (fun _ _ => rfl))))) (jb_of jv_int)) ja_nil)))))) (js_one (js_raise0 rfl tk G.x_NoPlace.c (by rfl))) js_nil))
/-! waits_of -/
theorem sc_waits_of : FnScope ["hub", "change", "one", "other", "by", "period", "lines", "leaves", "moment", "come", "leave"] ["hub", "change", "one", "other", "by"] (defScope (topS 21)) := ⟨rfl, rfl, rfl, by decide +kernel, rfl, by decide +kernel, by decide +kernel⟩
def m_waits_of (G : Txt K mg) : M Ctl := (sqS (asM (vV 0) (stT [(stV 5), (stV 6)]))
  (sqS (seV 7 (frz (lcM (itM (b2 (b2 (vV 6) (vV 3) ixD) (ret (.int 1)) ixD)) (stV 8) (ret true) (b2 (vV 8) (vV 4) addD) [8])))
  (bnd (frz (lcM (itM (b2 (b2 (vV 6) (vV 2) ixD) (ret (.int 0)) ixD)) (stV 9) (ret true) (b1 (frz (lcM (itM (vV 7)) (stV 10) (ret true) (b2 (b2 (b2 (vV 10) (vV 9) subD) (vV 1) subD) (vV 5) modD) [10])) minD1) [9])) fun d => ret (.rt (.v d)))))
def r_waits_of (G : Txt K mg) (ds : List D) : Fo := runP 11 (m_waits_of G) ds
theorem g_waits_of {P : Program} {w : World} {base : Heap} (G : Txt K mg) (B : Tbs G base) : FnG P w K mg base 1 G.waits_of.f G.waits_of.fd ["hub", "change", "one", "other", "by"] (spP K (TT G) 5 (r_waits_of G)) := by
  have sc := sc_waits_of
  refine fnP G.waits_of.F sc fun cdv A outer s H E hcd hf => ?_
  have tk := takes_cx (P := P) (w := w) (K := K) (mg := mg) (base := base) (N := ["hub", "change", "one", "other", "by", "period", "lines", "leaves", "moment", "come", "leave"]) (qual := "waits_of") (scope := defScope (topS 21)) (f := G.waits_of.f) (cdv := cdv) (A := A) (outer := outer) (s := s) (H := H) (E := E)
  have hp := pass_cx (P := P) (w := w) (K := K) (mg := mg) (base := base) (N := ["hub", "change", "one", "other", "by", "period", "lines", "leaves", "moment", "come", "leave"]) (qual := "waits_of") (scope := defScope (topS 21)) (f := G.waits_of.f) (cdv := cdv) (A := A) (outer := outer) (s := s) (H := H) (E := E)
  exact (js_cons (js_asg (jv_var (pv 0)) (jg_tup rfl (jgs_cons (jg_name (pg_name (i := 5) sc.nd rfl (by first | exact .inl rfl | exact .inr rfl))) (jgs_cons (jg_name (pg_name (i := 6) sc.nd rfl (by first | exact .inl rfl | exact .inr rfl))) jgs_nil))))
  (js_cons (js_set (i := 7) sc.nd rfl (.inr rfl) (jv_ofL (jl_lc (own := [("moment", 8)]) rfl sc.nd (ji_seq (jv_ix (jb_of (jv_ix (jb_of (jv_var (pv 6))) (jb_of (jv_var (pv 3))) (fun _ _ => rfl))) (jb_of jv_int) (fun _ _ => rfl))) (blkOk_by rfl) (ctg_name (by decide)) (fun _ _ _ _ _ => (pg_name (i := 8) sc.nd rfl (by first | exact .inl rfl | exact .inr rfl))) (fun _ _ _ _ _ => jt_yes) (fun _ _ _ _ _ => (jv_op o_add s_add (jb_of (jv_var (pv 8))) (jb_of (jv_var (pv 4))))))))
  (js_one (js_ret (jv_ofL (jl_lc (own := [("come", 9)]) rfl sc.nd (ji_seq (jv_ix (jb_of (jv_ix (jb_of (jv_var (pv 6))) (jb_of (jv_var (pv 2))) (fun _ _ => rfl))) (jb_of jv_int) (fun _ _ => rfl))) (blkOk_by rfl) (ctg_name (by decide)) (fun _ _ _ _ _ => (pg_name (i := 9) sc.nd rfl (by first | exact .inl rfl | exact .inr rfl))) (fun _ _ _ _ _ => jt_yes) (fun _ _ _ _ _ => (jv_b1 (cr_minA rfl) s_min (by rfl) G.b_min fb_min (jb_ofL (jl_lc (own := [("leave", 10)]) rfl sc.nd (ji_seq (jv_var (pv 7))) (blkOk_by rfl) (ctg_name (by decide)) (fun _ _ _ _ _ => (pg_name (i := 10) sc.nd rfl (by first | exact .inl rfl | exact .inr rfl))) (fun _ _ _ _ _ => jt_yes) (fun _ _ _ _ _ => (jv_op op_mod s_mod (jb_of (jv_op op_sub s_sub (jb_of (jv_op op_sub s_sub (jb_of (jv_var (pv 10))) (jb_of (jv_var (pv 9))))) (jb_of (jv_var (pv 1))))) (jb_of (jv_var (pv 5)))))))))))))))
/-! change_waits -/
theorem sc_change_waits : FnScope ["hub", "change", "one", "other"] ["hub", "change", "one", "other"] (defScope (topS 22)) := ⟨rfl, rfl, rfl, by decide +kernel, rfl, by decide +kernel, by decide +kernel⟩
def m_change_waits (G : Txt K mg) : M Ctl := (sqS (bnd (clV (r_check_hub G) [(vV 0), (vV 1)]) fun _ => ret .nx)
  (sqS (bnd (clV (r_check_line G) [(vV 0), (vV 2)]) fun _ => ret .nx)
  (sqS (bnd (clV (r_check_line G) [(vV 0), (vV 3)]) fun _ => ret .nx)
  (bnd (b1 (clV (r_waits_of G) [(vV 0), (vV 1), (vV 2), (vV 3), (ret (.int 0))]) tupD) fun d => ret (.rt (.v d))))))
def r_change_waits (G : Txt K mg) (ds : List D) : Fo := runP 4 (m_change_waits G) ds
theorem g_change_waits {P : Program} {w : World} {base : Heap} (G : Txt K mg) (B : Tbs G base) : FnG P w K mg base 7 G.change_waits.f G.change_waits.fd ["hub", "change", "one", "other"] (spP K (TT G) 4 (r_change_waits G)) := by
  have sc := sc_change_waits
  refine fnP G.change_waits.F sc fun cdv A outer s H E hcd hf => ?_
  have tk := takes_cx (P := P) (w := w) (K := K) (mg := mg) (base := base) (N := ["hub", "change", "one", "other"]) (qual := "change_waits") (scope := defScope (topS 22)) (f := G.change_waits.f) (cdv := cdv) (A := A) (outer := outer) (s := s) (H := H) (E := E)
  have hp := pass_cx (P := P) (w := w) (K := K) (mg := mg) (base := base) (N := ["hub", "change", "one", "other"]) (qual := "change_waits") (scope := defScope (topS 22)) (f := G.change_waits.f) (cdv := cdv) (A := A) (outer := outer) (s := s) (H := H) (E := E)
  exact (js_cons (js_drop (jv_call (g_check_hub G B) (hf.mono (by decide)) (by rfl) G.check_hub.g G.check_hub.F.kp G.check_hub.b tk (ja_cons (jv_var (pv 0)) (ja_cons (jv_var (pv 1)) ja_nil))))
  (js_cons (js_drop (jv_call (g_check_line G B) (hf.mono (by decide)) (by rfl) G.check_line.g G.check_line.F.kp G.check_line.b tk (ja_cons (jv_var (pv 0)) (ja_cons (jv_var (pv 2)) ja_nil))))
  (js_cons (js_drop (jv_call (g_check_line G B) (hf.mono (by decide)) (by rfl) G.check_line.g G.check_line.F.kp G.check_line.b tk (ja_cons (jv_var (pv 0)) (ja_cons (jv_var (pv 3)) ja_nil))))
  (js_one (js_ret (jv_t1 call_tuple_of s_tuple (by rfl) G.b_tuple fb_tuple (jb_of (jv_call (g_waits_of G B) (hf.mono (by decide)) (by rfl) G.waits_of.g G.waits_of.F.kp G.waits_of.b tk (ja_cons (jv_var (pv 0)) (ja_cons (jv_var (pv 1)) (ja_cons (jv_var (pv 2)) (ja_cons (jv_var (pv 3)) (ja_cons jv_int ja_nil)))))))))))))
/-! change_table -/
theorem sc_change_table : FnScope ["hub", "change", "many", "rows", "one", "other"] ["hub", "change"] (defScope (topS 23)) := ⟨rfl, rfl, rfl, by decide +kernel, rfl, by decide +kernel, by decide +kernel⟩
def m_change_table (G : Txt K mg) : M Ctl := (sqS (bnd (clV (r_check_hub G) [(vV 0), (vV 1)]) fun _ => ret .nx)
  (sqS (seV 2 (b1 (b2 (vV 0) (ret (.int 1)) ixD) lenD))
  (sqS (seV 3 (frz (lcM (rg1M (vV 2)) (stV 4) (ret true) (b1 (frz (lcM (rg1M (vV 2)) (stV 5) (ret true) (b1 (clV (r_waits_of G) [(vV 0), (vV 1), (vV 4), (vV 5), (ret (.int 0))]) sumD) [5])) tupD) [4])))
  (bnd (b1 (vV 3) tupD) fun d => ret (.rt (.v d))))))
def r_change_table (G : Txt K mg) (ds : List D) : Fo := runP 6 (m_change_table G) ds
theorem g_change_table {P : Program} {w : World} {base : Heap} (G : Txt K mg) (B : Tbs G base) : FnG P w K mg base 7 G.change_table.f G.change_table.fd ["hub", "change"] (spP K (TT G) 2 (r_change_table G)) := by
  have sc := sc_change_table
  refine fnP G.change_table.F sc fun cdv A outer s H E hcd hf => ?_
  have tk := takes_cx (P := P) (w := w) (K := K) (mg := mg) (base := base) (N := ["hub", "change", "many", "rows", "one", "other"]) (qual := "change_table") (scope := defScope (topS 23)) (f := G.change_table.f) (cdv := cdv) (A := A) (outer := outer) (s := s) (H := H) (E := E)
  have hp := pass_cx (P := P) (w := w) (K := K) (mg := mg) (base := base) (N := ["hub", "change", "many", "rows", "one", "other"]) (qual := "change_table") (scope := defScope (topS 23)) (f := G.change_table.f) (cdv := cdv) (A := A) (outer := outer) (s := s) (H := H) (E := E)
  exact (js_cons (js_drop (jv_call (g_check_hub G B) (hf.mono (by decide)) (by rfl) G.check_hub.g G.check_hub.F.kp G.check_hub.b tk (ja_cons (jv_var (pv 0)) (ja_cons (jv_var (pv 1)) ja_nil))))
  (js_cons (js_set (i := 2) sc.nd rfl (.inr rfl) (jv_b1 c_len s_len (by rfl) G.b_len fb_len (jb_of (jv_ix (jb_of (jv_var (pv 0))) (jb_of jv_int) (fun _ _ => rfl)))))
  (js_cons (js_setLcV (own := [("one", 4)]) (i := 3) rfl sc.nd rfl rfl (by rfl) (ji_rg1 (by rfl) G.b_range (jv_var (pv 2))) (blkOk_by rfl) (ctg_name (by decide)) (fun _ _ _ _ _ => (pg_name (i := 4) sc.nd rfl (by first | exact .inl rfl | exact .inr rfl))) (fun _ _ _ _ _ => jt_yes) (fun _ _ _ _ _ => (jv_t1 call_tuple_of s_tuple (by rfl) G.b_tuple fb_tuple (jb_ofL (jl_lc (own := [("other", 5)]) rfl sc.nd (ji_rg1 (by rfl) G.b_range (jv_var (pv 2))) (blkOk_by rfl) (ctg_name (by decide)) (fun _ _ _ _ _ => (pg_name (i := 5) sc.nd rfl (by first | exact .inl rfl | exact .inr rfl))) (fun _ _ _ _ _ => jt_yes) (fun _ _ _ _ _ => (jv_b1 (cr_sumA rfl) s_sum (by rfl) G.b_sum fb_sum (jb_of (jv_call (g_waits_of G B) (hf.mono (by decide)) (by rfl) G.waits_of.g G.waits_of.F.kp G.waits_of.b L2.takes0 (ja_cons (jv_var (pv 0)) (ja_cons (jv_var (pv 1)) (ja_cons (jv_var (pv 4)) (ja_cons (jv_var (pv 5)) (ja_cons jv_int ja_nil))))))))))))))
  (js_one (js_ret (jv_t1 call_tuple_of s_tuple (by rfl) G.b_tuple fb_tuple (jb_of (jv_var (pv 3)))))))))
/-! unlike_pairs -/
theorem sc_unlike_pairs : FnScope ["hub", "many", "found", "one", "other"] ["hub"] (defScope (topS 24)) := ⟨rfl, rfl, rfl, by decide +kernel, rfl, by decide +kernel, by decide +kernel⟩
def m_unlike_pairs (G : Txt K mg) : M Ctl := (sqS (seV 1 (b1 (b1 (b2 (vV 0) (ret (.int 1)) ixD) lenD) rng1D))
  (sqS (seV 2 (frz (sqM [])))
  (sqS (frM (itA (vV 1)) (stV 3) (seV 2 (b2 (vV 2) (frz (lcM (itA (vV 1)) (stV 4) (b2 (vV 4) (vV 3) neB) (tupM [(vV 3), (vV 4)]) [4])) addD)))
  (bnd (vV 2) fun d => ret (.rt (.v d))))))
def r_unlike_pairs (G : Txt K mg) (ds : List D) : Fo := runP 5 (m_unlike_pairs G) ds
theorem g_unlike_pairs {P : Program} {w : World} {base : Heap} (G : Txt K mg) (B : Tbs G base) : FnG P w K mg base 1 G.unlike_pairs.f G.unlike_pairs.fd ["hub"] (spP K (TT G) 1 (r_unlike_pairs G)) := by
  have sc := sc_unlike_pairs
  refine fnP G.unlike_pairs.F sc fun cdv A outer s H E hcd hf => ?_
  have tk := takes_cx (P := P) (w := w) (K := K) (mg := mg) (base := base) (N := ["hub", "many", "found", "one", "other"]) (qual := "unlike_pairs") (scope := defScope (topS 24)) (f := G.unlike_pairs.f) (cdv := cdv) (A := A) (outer := outer) (s := s) (H := H) (E := E)
  have hp := pass_cx (P := P) (w := w) (K := K) (mg := mg) (base := base) (N := ["hub", "many", "found", "one", "other"]) (qual := "unlike_pairs") (scope := defScope (topS 24)) (f := G.unlike_pairs.f) (cdv := cdv) (A := A) (outer := outer) (s := s) (H := H) (E := E)
  exact (js_cons (js_set (i := 1) sc.nd rfl (.inl rfl) (jv_rng1 (by rfl) G.b_range (jb_of (jv_b1 c_len s_len (by rfl) G.b_len fb_len (jb_of (jv_ix (jb_of (jv_var (pv 0))) (jb_of jv_int) (fun _ _ => rfl)))))))
  (js_cons (js_set (i := 2) sc.nd rfl (.inl rfl) (jv_ofL (jl_lst ja_nil (Nat.le_of_ble_eq_true rfl))))
  (js_cons (js_for hp rfl (ji_rngV (jv_var (pv 1))) (jg_name (pg_name (i := 3) sc.nd rfl (by first | exact .inl rfl | exact .inr rfl))) (js_one (js_set (i := 2) sc.nd rfl (.inl rfl) (jv_op o_add s_add (jb_of (jv_var (pv 2))) (jb_ofL (jl_lc (own := [("other", 4)]) rfl sc.nd (ji_rngV (jv_var (pv 1))) (blkOk_by rfl) (ctg_name (by decide)) (fun _ _ _ _ _ => (pg_name (i := 4) sc.nd rfl (by first | exact .inl rfl | exact .inr rfl))) (fun _ _ _ _ _ => jt_one (jt_cmp (o_ne hf.u) s_ne (jb_of (jv_var (pv 4))) (jb_of (jv_var (pv 3))) (nomark _))) (fun _ _ _ _ _ => (jv_tup (ja_cons (jv_var (pv 3)) (ja_cons (jv_var (pv 4)) ja_nil)) (Nat.le_of_ble_eq_true rfl)))))))))
  (js_one (js_ret (jv_var (pv 2)))))))
/-! worst_change -/
theorem sc_worst_change : FnScope ["hub", "change", "best", "one", "other", "here"] ["hub", "change"] (defScope (topS 25)) := ⟨rfl, rfl, rfl, by decide +kernel, rfl, by decide +kernel, by decide +kernel⟩
def m_worst_change (G : Txt K mg) : M Ctl := (sqS (bnd (clV (r_check_hub G) [(vV 0), (vV 1)]) fun _ => ret .nx)
  (sqS (seV 2 (ret .non))
  (sqS (frM (itM (clV (r_unlike_pairs G) [(vV 0)])) (stT [(stV 3), (stV 4)]) (sqS (seV 5 (b1 (clV (r_waits_of G) [(vV 0), (vV 1), (vV 3), (vV 4), (ret (.int 0))]) maxD1))
  (ifM (orM (b2 (vV 2) (ret .non) isB) (b2 (vV 5) (b2 (vV 2) (ret (.int 0)) ixD) gtB)) (seV 2 (tupM [(vV 5), (vV 3), (vV 4)])) (ret .nx))))
  (bnd (vV 2) fun d => ret (.rt (.v d))))))
def r_worst_change (G : Txt K mg) (ds : List D) : Fo := runP 6 (m_worst_change G) ds
theorem g_worst_change {P : Program} {w : World} {base : Heap} (G : Txt K mg) (B : Tbs G base) : FnG P w K mg base 7 G.worst_change.f G.worst_change.fd ["hub", "change"] (spP K (TT G) 2 (r_worst_change G)) := by
  have sc := sc_worst_change
  refine fnP G.worst_change.F sc fun cdv A outer s H E hcd hf => ?_
  have tk := takes_cx (P := P) (w := w) (K := K) (mg := mg) (base := base) (N := ["hub", "change", "best", "one", "other", "here"]) (qual := "worst_change") (scope := defScope (topS 25)) (f := G.worst_change.f) (cdv := cdv) (A := A) (outer := outer) (s := s) (H := H) (E := E)
  have hp := pass_cx (P := P) (w := w) (K := K) (mg := mg) (base := base) (N := ["hub", "change", "best", "one", "other", "here"]) (qual := "worst_change") (scope := defScope (topS 25)) (f := G.worst_change.f) (cdv := cdv) (A := A) (outer := outer) (s := s) (H := H) (E := E)
  exact (js_cons (js_drop (jv_call (g_check_hub G B) (hf.mono (by decide)) (by rfl) G.check_hub.g G.check_hub.F.kp G.check_hub.b tk (ja_cons (jv_var (pv 0)) (ja_cons (jv_var (pv 1)) ja_nil))))
  (js_cons (js_set (i := 2) sc.nd rfl (.inl rfl) jv_non)
  (js_cons (js_for hp rfl (ji_seq (jv_call (g_unlike_pairs G B) (hf.mono (by decide)) (by rfl) G.unlike_pairs.g G.unlike_pairs.F.kp G.unlike_pairs.b tk (ja_cons (jv_var (pv 0)) ja_nil))) (jg_tup rfl (jgs_cons (jg_name (pg_name (i := 3) sc.nd rfl (by first | exact .inl rfl | exact .inr rfl))) (jgs_cons (jg_name (pg_name (i := 4) sc.nd rfl (by first | exact .inl rfl | exact .inr rfl))) jgs_nil))) (js_cons (js_set (i := 5) sc.nd rfl (.inl rfl) (jv_b1 (cr_maxA rfl) s_max (by rfl) G.b_max fb_max (jb_of (jv_call (g_waits_of G B) (hf.mono (by decide)) (by rfl) G.waits_of.g G.waits_of.F.kp G.waits_of.b tk (ja_cons (jv_var (pv 0)) (ja_cons (jv_var (pv 1)) (ja_cons (jv_var (pv 3)) (ja_cons (jv_var (pv 4)) (ja_cons jv_int ja_nil)))))))))
  (js_one (js_if (jt_w (jw_or (jt_cmp o_is s_is (jb_of (jv_var (pv 2))) (jb_of jv_non) (nomark _)) (jw_or1 (jt_cmp op_gt s_gt (jb_of (jv_var (pv 5))) (jb_of (jv_ix (jb_of (jv_var (pv 2))) (jb_of jv_int) (fun _ _ => rfl))) (nomark _))))) (js_one (js_set (i := 2) sc.nd rfl (.inl rfl) (jv_tup (ja_cons (jv_var (pv 5)) (ja_cons (jv_var (pv 3)) (ja_cons (jv_var (pv 4)) ja_nil))) (Nat.le_of_ble_eq_true rfl)))) js_nil))))
  (js_one (js_ret (jv_var (pv 2)))))))
/-! kept_changes -/
theorem sc_kept_changes : FnScope ["hub", "change", "most", "pair"] ["hub", "change", "most"] (defScope (topS 26)) := ⟨rfl, rfl, rfl, by decide +kernel, rfl, by decide +kernel, by decide +kernel⟩
def m_kept_changes (G : Txt K mg) : M Ctl := (sqS (bnd (clV (r_check_hub G) [(vV 0), (vV 1)]) fun _ => ret .nx)
  (sqS (bnd (clV (r_check_from G) [(vV 2), (ret (.int 0))]) fun _ => ret .nx)
  (bnd (frz (lcM (itM (clV (r_unlike_pairs G) [(vV 0)])) (stV 3) (b2 (b1 (clV (r_waits_of G) [(vV 0), (vV 1), (b2 (vV 3) (ret (.int 0)) ixD), (b2 (vV 3) (ret (.int 1)) ixD), (ret (.int 0))]) maxD1) (vV 2) leB) (vV 3) [3])) fun d => ret (.rt (.v d)))))
def r_kept_changes (G : Txt K mg) (ds : List D) : Fo := runP 4 (m_kept_changes G) ds
theorem g_kept_changes {P : Program} {w : World} {base : Heap} (G : Txt K mg) (B : Tbs G base) : FnG P w K mg base 7 G.kept_changes.f G.kept_changes.fd ["hub", "change", "most"] (spP K (TT G) 3 (r_kept_changes G)) := by
  have sc := sc_kept_changes
  refine fnP G.kept_changes.F sc fun cdv A outer s H E hcd hf => ?_
  have tk := takes_cx (P := P) (w := w) (K := K) (mg := mg) (base := base) (N := ["hub", "change", "most", "pair"]) (qual := "kept_changes") (scope := defScope (topS 26)) (f := G.kept_changes.f) (cdv := cdv) (A := A) (outer := outer) (s := s) (H := H) (E := E)
  have hp := pass_cx (P := P) (w := w) (K := K) (mg := mg) (base := base) (N := ["hub", "change", "most", "pair"]) (qual := "kept_changes") (scope := defScope (topS 26)) (f := G.kept_changes.f) (cdv := cdv) (A := A) (outer := outer) (s := s) (H := H) (E := E)
  exact (js_cons (js_drop (jv_call (g_check_hub G B) (hf.mono (by decide)) (by rfl) G.check_hub.g G.check_hub.F.kp G.check_hub.b tk (ja_cons (jv_var (pv 0)) (ja_cons (jv_var (pv 1)) ja_nil))))
  (js_cons (js_drop (jv_call (g_check_from G B) (hf.mono (by decide)) (by rfl) G.check_from.g G.check_from.F.kp G.check_from.b tk (ja_cons (jv_var (pv 2)) (ja_cons jv_int ja_nil))))
  (js_one (js_ret (jv_ofL (jl_lc (own := [("pair", 3)]) rfl sc.nd (ji_seq (jv_call (g_unlike_pairs G B) (hf.mono (by decide)) (by rfl) G.unlike_pairs.g G.unlike_pairs.F.kp G.unlike_pairs.b tk (ja_cons (jv_var (pv 0)) ja_nil))) (blkOk_by rfl) (ctg_name (by decide)) (fun _ _ _ _ _ => (pg_name (i := 3) sc.nd rfl (by first | exact .inl rfl | exact .inr rfl))) (fun _ _ _ _ _ => jt_one (jt_cmp op_le s_le (jb_of (jv_b1 (cr_maxA rfl) s_max (by rfl) G.b_max fb_max (jb_of (jv_call (g_waits_of G B) (hf.mono (by decide)) (by rfl) G.waits_of.g G.waits_of.F.kp G.waits_of.b L2.takes0 (ja_cons (jv_var (pv 0)) (ja_cons (jv_var (pv 1)) (ja_cons (jv_ix (jb_of (jv_var (pv 3))) (jb_of jv_int) (fun _ _ => rfl)) (ja_cons (jv_ix (jb_of (jv_var (pv 3))) (jb_of jv_int) (fun _ _ => rfl)) (ja_cons jv_int ja_nil))))))))) (jb_of (jv_var (pv 2))) (nomark _))) (fun _ _ _ _ _ => (jv_var (pv 3)))))))))
/-! held_gain -/
theorem sc_held_gain : FnScope ["hub", "change", "one", "other", "by"] ["hub", "change", "one", "other", "by"] (defScope (topS 27)) := ⟨rfl, rfl, rfl, by decide +kernel, rfl, by decide +kernel, by decide +kernel⟩
def m_held_gain (G : Txt K mg) : M Ctl := (sqS (bnd (clV (r_check_hub G) [(vV 0), (vV 1)]) fun _ => ret .nx)
  (sqS (bnd (clV (r_check_line G) [(vV 0), (vV 2)]) fun _ => ret .nx)
  (sqS (bnd (clV (r_check_line G) [(vV 0), (vV 3)]) fun _ => ret .nx)
  (sqS (bnd (clV (r_check_within G) [(vV 4), (ret (.int 0)), (b2 (vV 0) (ret (.int 0)) ixD)]) fun _ => ret .nx)
  (bnd (b2 (b1 (clV (r_waits_of G) [(vV 0), (vV 1), (vV 2), (vV 3), (ret (.int 0))]) sumD) (b1 (clV (r_waits_of G) [(vV 0), (vV 1), (vV 2), (vV 3), (vV 4)]) sumD) subD) fun d => ret (.rt (.v d)))))))
def r_held_gain (G : Txt K mg) (ds : List D) : Fo := runP 5 (m_held_gain G) ds
theorem g_held_gain {P : Program} {w : World} {base : Heap} (G : Txt K mg) (B : Tbs G base) : FnG P w K mg base 7 G.held_gain.f G.held_gain.fd ["hub", "change", "one", "other", "by"] (spP K (TT G) 5 (r_held_gain G)) := by
  have sc := sc_held_gain
  refine fnP G.held_gain.F sc fun cdv A outer s H E hcd hf => ?_
  have tk := takes_cx (P := P) (w := w) (K := K) (mg := mg) (base := base) (N := ["hub", "change", "one", "other", "by"]) (qual := "held_gain") (scope := defScope (topS 27)) (f := G.held_gain.f) (cdv := cdv) (A := A) (outer := outer) (s := s) (H := H) (E := E)
  have hp := pass_cx (P := P) (w := w) (K := K) (mg := mg) (base := base) (N := ["hub", "change", "one", "other", "by"]) (qual := "held_gain") (scope := defScope (topS 27)) (f := G.held_gain.f) (cdv := cdv) (A := A) (outer := outer) (s := s) (H := H) (E := E)
  exact (js_cons (js_drop (jv_call (g_check_hub G B) (hf.mono (by decide)) (by rfl) G.check_hub.g G.check_hub.F.kp G.check_hub.b tk (ja_cons (jv_var (pv 0)) (ja_cons (jv_var (pv 1)) ja_nil))))
  (js_cons (js_drop (jv_call (g_check_line G B) (hf.mono (by decide)) (by rfl) G.check_line.g G.check_line.F.kp G.check_line.b tk (ja_cons (jv_var (pv 0)) (ja_cons (jv_var (pv 2)) ja_nil))))
  (js_cons (js_drop (jv_call (g_check_line G B) (hf.mono (by decide)) (by rfl) G.check_line.g G.check_line.F.kp G.check_line.b tk (ja_cons (jv_var (pv 0)) (ja_cons (jv_var (pv 3)) ja_nil))))
  (js_cons (js_drop (jv_call (g_check_within G B) (hf.mono (by decide)) (by rfl) G.check_within.g G.check_within.F.kp G.check_within.b tk (ja_cons (jv_var (pv 4)) (ja_cons jv_int (ja_cons (jv_ix (jb_of (jv_var (pv 0))) (jb_of jv_int) (fun _ _ => rfl)) ja_nil)))))
  (js_one (js_ret (jv_op op_sub s_sub (jb_of (jv_b1 (cr_sumA rfl) s_sum (by rfl) G.b_sum fb_sum (jb_of (jv_call (g_waits_of G B) (hf.mono (by decide)) (by rfl) G.waits_of.g G.waits_of.F.kp G.waits_of.b tk (ja_cons (jv_var (pv 0)) (ja_cons (jv_var (pv 1)) (ja_cons (jv_var (pv 2)) (ja_cons (jv_var (pv 3)) (ja_cons jv_int ja_nil))))))))) (jb_of (jv_b1 (cr_sumA rfl) s_sum (by rfl) G.b_sum fb_sum (jb_of (jv_call (g_waits_of G B) (hf.mono (by decide)) (by rfl) G.waits_of.g G.waits_of.F.kp G.waits_of.b tk (ja_cons (jv_var (pv 0)) (ja_cons (jv_var (pv 1)) (ja_cons (jv_var (pv 2)) (ja_cons (jv_var (pv 3)) (ja_cons (jv_var (pv 4)) ja_nil))))))))))))))))
/-! _law_hand -/
theorem sc__law_hand : FnScope ["script", "cells", "cell"] ["script"] (defScope (topS 29)) := ⟨rfl, rfl, rfl, by decide +kernel, rfl, by decide +kernel, by decide +kernel⟩
def m__law_hand (G : Txt K mg) : M Ctl := (sqS (seV 1 (frz (lcM (itM (sl3 (vV 0) (ret none) (someM (ret (.int 63))) slD)) (stV 2) (ret true) (b1 (b1 (vV 2) intD) absD) [2])))
  (bnd (sqM [(vV 1), (ret (.int 0)), (ret (.int 0)), (b2 (ret (.int 323)) (b2 (ret (.int 109)) (b1 (vV 1) lenD) mulD) addD), (ret (.int 0))]) fun d => ret (.rt (.l d))))
def r__law_hand (G : Txt K mg) (ds : List D) : Fo := runP 3 (m__law_hand G) ds
theorem g__law_hand {P : Program} {w : World} {base : Heap} (G : Txt K mg) (B : Tbs G base) : FnG P w K mg base 1 G._law_hand.f G._law_hand.fd ["script"] (spP K (TT G) 1 (r__law_hand G)) := by
  have sc := sc__law_hand
  refine fnP G._law_hand.F sc fun cdv A outer s H E hcd hf => ?_
  have tk := takes_cx (P := P) (w := w) (K := K) (mg := mg) (base := base) (N := ["script", "cells", "cell"]) (qual := "_law_hand") (scope := defScope (topS 29)) (f := G._law_hand.f) (cdv := cdv) (A := A) (outer := outer) (s := s) (H := H) (E := E)
  have hp := pass_cx (P := P) (w := w) (K := K) (mg := mg) (base := base) (N := ["script", "cells", "cell"]) (qual := "_law_hand") (scope := defScope (topS 29)) (f := G._law_hand.f) (cdv := cdv) (A := A) (outer := outer) (s := s) (H := H) (E := E)
  exact (js_cons (js_setLcV (own := [("cell", 2)]) (i := 1) rfl sc.nd rfl rfl (by rfl) (ji_seq (jv_slice (jb_of (jv_var (pv 0))) jo_none (jo_some jv_int))) (blkOk_by rfl) (ctg_name (by decide)) (fun _ _ _ _ _ => (pg_name (i := 2) sc.nd rfl (by first | exact .inl rfl | exact .inr rfl))) (fun _ _ _ _ _ => jt_yes) (fun _ _ _ _ _ => (jv_b1 call_abs s_abs (by rfl) G.b_abs fb_abs (jb_of (jv_t1 call_int1 s_int (by rfl) G.b_int fb_int (jb_of (jv_var (pv 2))))))))
  (js_one (js_retL (jl_lst (ja_cons (jv_var (pv 1)) (ja_cons jv_int (ja_cons jv_int (ja_cons (jv_op o_add s_add (jb_of jv_int) (jb_of (jv_op o_mul s_mul (jb_of jv_int) (jb_of (jv_b1 c_len s_len (by rfl) G.b_len fb_len (jb_of (jv_var (pv 1)))))))) (ja_cons jv_int ja_nil))))) (Nat.le_of_ble_eq_true rfl)))))
/-! _law_draw -/
theorem sc__law_draw : FnScope ["hand", "many", "cell", "digit", "number"] ["hand", "many"] (defScope (topS 30)) := ⟨rfl, rfl, rfl, by decide +kernel, rfl, by decide +kernel, by decide +kernel⟩
def m__law_draw (G : Txt K mg) : M Ctl := (sqS (ifM (andM (b2 (hix 0 2) (ret (.int 0)) eqB) (b2 (hix 0 1) (b1 (hix 0 0) lenD) ltB)) (sqS (seV 2 (b2 (hix 0 0) (hix 0 1) ixD))
  (sqS (shM 0 1 (b2 (hix 0 1) (ret (.int 1)) addD))
  (sqS (shM 0 3 (b2 (b1 (b2 (b2 (b2 (hix 0 3) (ret (.int 69621)) mulD) (b2 (vV 2) (ret (.int 48271)) mulD) addD) (ret (.int 17)) addD) intD) (ret (.int 2147483629)) modD))
  (ifM (b2 (vV 2) (b2 (ret (.int 10)) (ret (.int 18)) powD) geB) (shM 0 2 (vV 2)) (ret .nx))))) (ret .nx))
  (sqS (ifM (b2 (hix 0 2) (ret (.int 0)) gtB) (sqS (seV 3 (b2 (b1 (hix 0 2) intD) (vV 1) modD))
  (sqS (shM 0 2 (b2 (hix 0 2) (vV 1) divD))
  (bnd (vV 3) fun d => ret (.rt (.v d))))) (ret .nx))
  (sqS (shM 0 4 (b2 (hix 0 4) (ret (.int 1)) addD))
  (sqS (seV 4 (b2 (b1 (b2 (b1 (b2 (hix 0 3) (b2 (ret (.int 7919)) (hix 0 4) mulD) addD) intD) (ret (.int 40692)) mulD) intD) (ret (.int 2147483647)) modD))
  (sqS (seV 4 (b2 (b1 (b2 (vV 4) (b2 (b2 (vV 4) (ret (.int 1009)) divD) (ret (.int 69621)) addD) mulD) intD) (ret (.int 2147483647)) modD))
  (sqS (seV 4 (b2 (b1 (b2 (vV 4) (b2 (b2 (vV 4) (ret (.int 2003)) divD) (ret (.int 40014)) addD) mulD) intD) (ret (.int 2147483563)) modD))
  (bnd (b2 (b1 (b2 (vV 4) (ret (.int 16)) divD) intD) (vV 1) modD) fun d => ret (.rt (.v d)))))))))
def r__law_draw (G : Txt K mg) (hc ds : List D) : Fo := runH 5 (m__law_draw G) hc ds
theorem g__law_draw {P : Program} {w : World} {base : Heap} (G : Txt K mg) (B : Tbs G base) : FnG P w K mg base 1 G._law_draw.f G._law_draw.fd ["hand", "many"] (spH K (TT G) 1 (r__law_draw G)) := by
  have sc := sc__law_draw
  refine fnH G._law_draw.F sc rfl fun cdv A outer s H E hcd hf => ?_
  have tk := takes_cx (P := P) (w := w) (K := K) (mg := mg) (base := base) (N := ["hand", "many", "cell", "digit", "number"]) (qual := "_law_draw") (scope := defScope (topS 30)) (f := G._law_draw.f) (cdv := cdv) (A := A) (outer := outer) (s := s) (H := H) (E := E)
  have hp := pass_cx (P := P) (w := w) (K := K) (mg := mg) (base := base) (N := ["hand", "many", "cell", "digit", "number"]) (qual := "_law_draw") (scope := defScope (topS 30)) (f := G._law_draw.f) (cdv := cdv) (A := A) (outer := outer) (s := s) (H := H) (E := E)
  exact (js_cons (js_if (jt_w (jw_and (jt_cmp (o_eq hf.u) s_eq (jb_of (jv_hix (pv 0))) (jb_of jv_int) (nomark _)) (jw_and1 (jt_cmp op_lt s_lt (jb_of (jv_hix (pv 0))) (jb_of (jv_b1 c_len s_len (by rfl) G.b_len fb_len (jb_of (jv_hix (pv 0))))) (nomark _))))) (js_cons (js_set (i := 2) sc.nd rfl (.inl rfl) (jv_ix (jb_of (jv_hix (pv 0))) (jb_of (jv_hix (pv 0))) (fun _ _ => rfl)))
  (js_cons (js_hset (jv_op o_add s_add (jb_of (jv_hix (pv 0))) (jb_of jv_int)) (pv 0))
  (js_cons (js_hset (jv_op op_mod s_mod (jb_of (jv_t1 call_int1 s_int (by rfl) G.b_int fb_int (jb_of (jv_op o_add s_add (jb_of (jv_op o_add s_add (jb_of (jv_op o_mul s_mul (jb_of (jv_hix (pv 0))) (jb_of jv_int))) (jb_of (jv_op o_mul s_mul (jb_of (jv_var (pv 2))) (jb_of jv_int))))) (jb_of jv_int))))) (jb_of jv_int)) (pv 0))
  (js_one (js_if (jt_cmp op_ge s_ge (jb_of (jv_var (pv 2))) (jb_of (jv_op op_pow s_pow (jb_of jv_int) (jb_of jv_int))) (nomark _)) (js_one (js_hset (jv_var (pv 2)) (pv 0))) js_nil))))) js_nil)
  (js_cons (js_if (jt_cmp op_gt s_gt (jb_of (jv_hix (pv 0))) (jb_of jv_int) (nomark _)) (js_cons (js_set (i := 3) sc.nd rfl (.inl rfl) (jv_op op_mod s_mod (jb_of (jv_t1 call_int1 s_int (by rfl) G.b_int fb_int (jb_of (jv_hix (pv 0))))) (jb_of (jv_var (pv 1)))))
  (js_cons (js_hset (jv_op op_fdivW s_div (jb_of (jv_hix (pv 0))) (jb_of (jv_var (pv 1)))) (pv 0))
  (js_one (js_ret (jv_var (pv 3)))))) js_nil)
  (js_cons (js_hset (jv_op o_add s_add (jb_of (jv_hix (pv 0))) (jb_of jv_int)) (pv 0))
  (js_cons (js_set (i := 4) sc.nd rfl (.inl rfl) (jv_op op_mod s_mod (jb_of (jv_t1 call_int1 s_int (by rfl) G.b_int fb_int (jb_of (jv_op o_mul s_mul (jb_of (jv_t1 call_int1 s_int (by rfl) G.b_int fb_int (jb_of (jv_op o_add s_add (jb_of (jv_hix (pv 0))) (jb_of (jv_op o_mul s_mul (jb_of jv_int) (jb_of (jv_hix (pv 0))))))))) (jb_of jv_int))))) (jb_of jv_int)))
  (js_cons (js_set (i := 4) sc.nd rfl (.inl rfl) (jv_op op_mod s_mod (jb_of (jv_t1 call_int1 s_int (by rfl) G.b_int fb_int (jb_of (jv_op o_mul s_mul (jb_of (jv_var (pv 4))) (jb_of (jv_op o_add s_add (jb_of (jv_op op_fdivW s_div (jb_of (jv_var (pv 4))) (jb_of jv_int))) (jb_of jv_int))))))) (jb_of jv_int)))
  (js_cons (js_set (i := 4) sc.nd rfl (.inl rfl) (jv_op op_mod s_mod (jb_of (jv_t1 call_int1 s_int (by rfl) G.b_int fb_int (jb_of (jv_op o_mul s_mul (jb_of (jv_var (pv 4))) (jb_of (jv_op o_add s_add (jb_of (jv_op op_fdivW s_div (jb_of (jv_var (pv 4))) (jb_of jv_int))) (jb_of jv_int))))))) (jb_of jv_int)))
  (js_one (js_ret (jv_op op_mod s_mod (jb_of (jv_t1 call_int1 s_int (by rfl) G.b_int fb_int (jb_of (jv_op op_fdivW s_div (jb_of (jv_var (pv 4))) (jb_of jv_int))))) (jb_of (jv_var (pv 1))))))))))))
/-! _law_some -/
theorem sc__law_some : FnScope ["hand", "things"] ["hand", "things"] (defScope (topS 31)) := ⟨rfl, rfl, rfl, by decide +kernel, rfl, by decide +kernel, by decide +kernel⟩
def m__law_some (G : Txt K mg) : M Ctl := (bnd (b2 (vV 1) (chV (r__law_draw G) 0 [(b1 (vV 1) lenD)]) ixD) fun d => ret (.rt (.v d)))
def r__law_some (G : Txt K mg) (hc ds : List D) : Fo := runH 2 (m__law_some G) hc ds
theorem g__law_some {P : Program} {w : World} {base : Heap} (G : Txt K mg) (B : Tbs G base) : FnG P w K mg base 2 G._law_some.f G._law_some.fd ["hand", "things"] (spH K (TT G) 1 (r__law_some G)) := by
  have sc := sc__law_some
  refine fnH G._law_some.F sc rfl fun cdv A outer s H E hcd hf => ?_
  have tk := takes_cx (P := P) (w := w) (K := K) (mg := mg) (base := base) (N := ["hand", "things"]) (qual := "_law_some") (scope := defScope (topS 31)) (f := G._law_some.f) (cdv := cdv) (A := A) (outer := outer) (s := s) (H := H) (E := E)
  have hp := pass_cx (P := P) (w := w) (K := K) (mg := mg) (base := base) (N := ["hand", "things"]) (qual := "_law_some") (scope := defScope (topS 31)) (f := G._law_some.f) (cdv := cdv) (A := A) (outer := outer) (s := s) (H := H) (E := E)
  exact (js_one (js_ret (jv_ix (jb_of (jv_var (pv 1))) (jb_of (jv_callH (g__law_draw G B) (hf.mono (by decide)) (by rfl) G._law_draw.g G._law_draw.F.kp G._law_draw.b tk (pv 0) (ja_cons (jv_b1 c_len s_len (by rfl) G.b_len fb_len (jb_of (jv_var (pv 1)))) ja_nil))) (fun _ _ => rfl))))
/-! _law_is -/
theorem sc__law_is : FnScope ["mine", "yours"] ["mine", "yours"] (defScope (topS 32)) := ⟨rfl, rfl, rfl, by decide +kernel, rfl, by decide +kernel, by decide +kernel⟩
def m__law_is (G : Txt K mg) : M Ctl := (bnd (b2 (b1 (vV 0) reprD) (b1 (vV 1) reprD) (opB eqB)) fun d => ret (.rt (.v d)))
def r__law_is (G : Txt K mg) (ds : List D) : Fo := runP 2 (m__law_is G) ds
theorem g__law_is {P : Program} {w : World} {base : Heap} (G : Txt K mg) (B : Tbs G base) : FnG P w K mg base 1 G._law_is.f G._law_is.fd ["mine", "yours"] (spP K (TT G) 2 (r__law_is G)) := by
  have sc := sc__law_is
  refine fnP G._law_is.F sc fun cdv A outer s H E hcd hf => ?_
  have tk := takes_cx (P := P) (w := w) (K := K) (mg := mg) (base := base) (N := ["mine", "yours"]) (qual := "_law_is") (scope := defScope (topS 32)) (f := G._law_is.f) (cdv := cdv) (A := A) (outer := outer) (s := s) (H := H) (E := E)
  have hp := pass_cx (P := P) (w := w) (K := K) (mg := mg) (base := base) (N := ["mine", "yours"]) (qual := "_law_is") (scope := defScope (topS 32)) (f := G._law_is.f) (cdv := cdv) (A := A) (outer := outer) (s := s) (H := H) (E := E)
  exact (js_one (js_ret (jv_cmp (o_eq hf.u) s_eq (jb_of (jv_b1 (c_repr hf.gd hf.u) s_repr (by rfl) G.b_repr fb_repr (jb_of (jv_var (pv 0))))) (jb_of (jv_b1 (c_repr hf.gd hf.u) s_repr (by rfl) G.b_repr fb_repr (jb_of (jv_var (pv 1))))) (nomark _))))
/-! _law_error -/
theorem sc__law_error : FnScope ["call", "error"] ["call"] (defScope (topS 33)) := ⟨rfl, rfl, rfl, by decide +kernel, rfl, by decide +kernel, by decide +kernel⟩
def mw__law_error (G : Txt K mg) (cl : M D) : M Ctl := (sqS (tryM (exOf K G.x_RoundError.C) 1 (bnd cl fun _ => ret .nx) (bnd (vV 1) fun d => ret (.rt (.v d))))
  (bnd (ret .non) fun d => ret (.rt (.v d))))
theorem w__law_error {P : Program} {w : World} {base : Heap} {T : List (Addr × Str)} {A : Around} {outer : List Env} {s : Shared} {H : Hp} {cdv : Value} {k : Nat} (G : Txt K mg) (cl : M D) (hf : Fit k (A.deeper (envOfC "_law_error" (defScope (topS 33)) s.heap.objs.size G._law_error.f cdv)))
    (hcl : ∀ (W' : WX) (pn : List (Addr × Obj)) (xe : Value → Shared → Prop) (p1 p2 : Pos), Takes ((cxOf (L2.CX P w) P w K mg base ["call", "error"] "_law_error" (defScope (topS 33)) G._law_error.f cdv A outer s H C8.E0).tr pn xe) W' → JV ((cxOf (L2.CX P w) P w K mg base ["call", "error"] "_law_error" (defScope (topS 33)) G._law_error.f cdv A outer s H C8.E0).tr pn xe) T W' (.Call (.Name "call" p1) [] [] p2) cl) :
    JSs (cxOf (L2.CX P w) P w K mg base ["call", "error"] "_law_error" (defScope (topS 33)) G._law_error.f cdv A outer s H C8.E0) T (fun _ _ _ _ => False) (defBody (topS 33)) (mw__law_error G cl) := by
  have sc := sc__law_error
  have tk : Takes (cxOf (L2.CX P w) P w K mg base ["call", "error"] "_law_error" (defScope (topS 33)) G._law_error.f cdv A outer s H C8.E0) (fun _ _ _ _ => False) := L2.takes0
  have hp := pass_cx (P := P) (w := w) (K := K) (mg := mg) (base := base) (N := ["call", "error"]) (qual := "_law_error") (scope := defScope (topS 33)) (f := G._law_error.f) (cdv := cdv) (A := A) (outer := outer) (s := s) (H := H) (E := C8.E0)
  exact (js_cons (js_try (i := 1) rfl rfl rfl sc.nd rfl rfl ⟨rfl, by decide, .inl G.x_RoundError.g⟩ tk (fun _ _ _ tk hp => (js_one (js_drop (hcl _ _ _ _ _ tk)))) (fun _ _ => (js_one (js_ret (jv_var (pv 1))))))
  (js_one (js_ret jv_non)))
/-! _law_lot -/
theorem sc__law_lot : FnScope ["hand", "period", "found", "turn", "moment"] ["hand", "period"] (defScope (topS 34)) := ⟨rfl, rfl, rfl, by decide +kernel, rfl, by decide +kernel, by decide +kernel⟩
def m__law_lot (G : Txt K mg) : M Ctl := (sqS (seL 2 (sqM [(chV (r__law_draw G) 0 [(vV 1)])]))
  (sqS (frM (rg1M (chV (r__law_draw G) 0 [(ret (.int 4))])) (stV 3) (sqS (seV 4 (chV (r__law_draw G) 0 [(vV 1)]))
  (ifM (b2 (vV 4) (vB 2) (inB true)) (apM 2 (vV 4)) (ret .nx))))
  (bnd (b1 (frz (b1 (vB 2) srtI)) tupD) fun d => ret (.rt (.v d)))))
def r__law_lot (G : Txt K mg) (hc ds : List D) : Fo := runH 5 (m__law_lot G) hc ds
theorem g__law_lot {P : Program} {w : World} {base : Heap} (G : Txt K mg) (B : Tbs G base) : FnG P w K mg base 2 G._law_lot.f G._law_lot.fd ["hand", "period"] (spH K (TT G) 1 (r__law_lot G)) := by
  have sc := sc__law_lot
  refine fnH G._law_lot.F sc rfl fun cdv A outer s H E hcd hf => ?_
  have tk := takes_cx (P := P) (w := w) (K := K) (mg := mg) (base := base) (N := ["hand", "period", "found", "turn", "moment"]) (qual := "_law_lot") (scope := defScope (topS 34)) (f := G._law_lot.f) (cdv := cdv) (A := A) (outer := outer) (s := s) (H := H) (E := E)
  have hp := pass_cx (P := P) (w := w) (K := K) (mg := mg) (base := base) (N := ["hand", "period", "found", "turn", "moment"]) (qual := "_law_lot") (scope := defScope (topS 34)) (f := G._law_lot.f) (cdv := cdv) (A := A) (outer := outer) (s := s) (H := H) (E := E)
  exact (js_cons (js_setL (i := 2) sc.nd rfl (.inl rfl) (jl_lst (ja_cons (jv_callH (g__law_draw G B) (hf.mono (by decide)) (by rfl) G._law_draw.g G._law_draw.F.kp G._law_draw.b tk (pv 0) (ja_cons (jv_var (pv 1)) ja_nil)) ja_nil) (Nat.le_of_ble_eq_true rfl)))
  (js_cons (js_for hp rfl (ji_rg1 (by rfl) G.b_range (jv_callH (g__law_draw G B) (hf.mono (by decide)) (by rfl) G._law_draw.g G._law_draw.F.kp G._law_draw.b tk (pv 0) (ja_cons jv_int ja_nil))) (jg_name (pg_name (i := 3) sc.nd rfl (by first | exact .inl rfl | exact .inr rfl))) (js_cons (js_set (i := 4) sc.nd rfl (.inl rfl) (jv_callH (g__law_draw G B) (hf.mono (by decide)) (by rfl) G._law_draw.g G._law_draw.F.kp G._law_draw.b tk (pv 0) (ja_cons (jv_var (pv 1)) ja_nil)))
  (js_one (js_if (jt_cmp (o_notIn hf.u) s_in (jb_of (jv_var (pv 4))) (jb_var (pv 2)) (by rfl)) (js_one (js_append (pv 2) (jv_var (pv 4)))) js_nil))))
  (js_one (js_ret (jv_t1 call_tuple_of s_tuple (by rfl) G.b_tuple fb_tuple (jb_ofL (jl_b1 cr_sortedI s_sortI (by rfl) G.b_sorted fb_sorted (jb_var (pv 2)))))))))
/-! _law_hub -/
theorem sc__law_hub : FnScope ["hand", "period", "lines", "turn"] ["hand"] (defScope (topS 35)) := ⟨rfl, rfl, rfl, by decide +kernel, rfl, by decide +kernel, by decide +kernel⟩
def m__law_hub (G : Txt K mg) : M Ctl := (sqS (seV 1 (b2 (ret (.int 1)) (chV (r__law_draw G) 0 [(chV (r__law_some G) 0 [(frz (sqM [(ret (.int 4)), (ret (.int 30))]))])]) addD))
  (sqS (seL 2 (sqM []))
  (sqS (frM (rg1M (b2 (ret (.int 2)) (chV (r__law_draw G) 0 [(ret (.int 4))]) addD)) (stV 3) (apM 2 (tupM [(chV (r__law_lot G) 0 [(vV 1)]), (chV (r__law_lot G) 0 [(vV 1)])])))
  (bnd (tupM [(vV 1), (b1 (vB 2) tupD)]) fun d => ret (.rt (.v d))))))
def r__law_hub (G : Txt K mg) (hc ds : List D) : Fo := runH 4 (m__law_hub G) hc ds
theorem g__law_hub {P : Program} {w : World} {base : Heap} (G : Txt K mg) (B : Tbs G base) : FnG P w K mg base 3 G._law_hub.f G._law_hub.fd ["hand"] (spH K (TT G) 0 (r__law_hub G)) := by
  have sc := sc__law_hub
  refine fnH G._law_hub.F sc rfl fun cdv A outer s H E hcd hf => ?_
  have tk := takes_cx (P := P) (w := w) (K := K) (mg := mg) (base := base) (N := ["hand", "period", "lines", "turn"]) (qual := "_law_hub") (scope := defScope (topS 35)) (f := G._law_hub.f) (cdv := cdv) (A := A) (outer := outer) (s := s) (H := H) (E := E)
  have hp := pass_cx (P := P) (w := w) (K := K) (mg := mg) (base := base) (N := ["hand", "period", "lines", "turn"]) (qual := "_law_hub") (scope := defScope (topS 35)) (f := G._law_hub.f) (cdv := cdv) (A := A) (outer := outer) (s := s) (H := H) (E := E)
  exact (js_cons (js_set (i := 1) sc.nd rfl (.inl rfl) (jv_op o_add s_add (jb_of jv_int) (jb_of (jv_callH (g__law_draw G B) (hf.mono (by decide)) (by rfl) G._law_draw.g G._law_draw.F.kp G._law_draw.b tk (pv 0) (ja_cons (jv_callH (g__law_some G B) (hf.mono (by decide)) (by rfl) G._law_some.g G._law_some.F.kp G._law_some.b tk (pv 0) (ja_cons (jv_ofL (jl_lst (ja_cons jv_int (ja_cons jv_int ja_nil)) (Nat.le_of_ble_eq_true rfl))) ja_nil)) ja_nil)))))
  (js_cons (js_setL (i := 2) sc.nd rfl (.inl rfl) (jl_lst ja_nil (Nat.le_of_ble_eq_true rfl)))
  (js_cons (js_for hp rfl (ji_rg1 (by rfl) G.b_range (jv_op o_add s_add (jb_of jv_int) (jb_of (jv_callH (g__law_draw G B) (hf.mono (by decide)) (by rfl) G._law_draw.g G._law_draw.F.kp G._law_draw.b tk (pv 0) (ja_cons jv_int ja_nil))))) (jg_name (pg_name (i := 3) sc.nd rfl (by first | exact .inl rfl | exact .inr rfl))) (js_one (js_append (pv 2) (jv_tup (ja_cons (jv_callH (g__law_lot G B) (hf.mono (by decide)) (by rfl) G._law_lot.g G._law_lot.F.kp G._law_lot.b tk (pv 0) (ja_cons (jv_var (pv 1)) ja_nil)) (ja_cons (jv_callH (g__law_lot G B) (hf.mono (by decide)) (by rfl) G._law_lot.g G._law_lot.F.kp G._law_lot.b tk (pv 0) (ja_cons (jv_var (pv 1)) ja_nil)) ja_nil)) (Nat.le_of_ble_eq_true rfl)))))
  (js_one (js_ret (jv_tup (ja_cons (jv_var (pv 1)) (ja_cons (jv_t1 call_tuple_of s_tuple (by rfl) G.b_tuple fb_tuple (jb_var (pv 2))) ja_nil)) (Nat.le_of_ble_eq_true rfl)))))))
/-! _law_waits -/
theorem sc__law_waits : FnScope ["hub", "change", "one", "other", "period", "lines", "found", "moment", "leave"] ["hub", "change", "one", "other"] (defScope (topS 36)) := ⟨rfl, rfl, rfl, by decide +kernel, rfl, by decide +kernel, by decide +kernel⟩
def m__law_waits (G : Txt K mg) : M Ctl := (sqS (asM (vV 0) (stT [(stV 4), (stV 5)]))
  (sqS (seL 6 (sqM []))
  (sqS (frM (itM (b2 (b2 (vV 5) (vV 2) ixD) (ret (.int 0)) ixD)) (stV 7) (apM 6 (b1 (frz (lcM (itM (b2 (b2 (vV 5) (vV 3) ixD) (ret (.int 1)) ixD)) (stV 8) (ret true) (b2 (b1 (b2 (b2 (vV 8) (vV 7) subD) (vV 1) subD) intD) (vV 4) modD) [8])) minD1)))
  (bnd (b1 (vB 6) tupD) fun d => ret (.rt (.v d))))))
def r__law_waits (G : Txt K mg) (ds : List D) : Fo := runP 9 (m__law_waits G) ds
theorem g__law_waits {P : Program} {w : World} {base : Heap} (G : Txt K mg) (B : Tbs G base) : FnG P w K mg base 1 G._law_waits.f G._law_waits.fd ["hub", "change", "one", "other"] (spP K (TT G) 4 (r__law_waits G)) := by
  have sc := sc__law_waits
  refine fnP G._law_waits.F sc fun cdv A outer s H E hcd hf => ?_
  have tk := takes_cx (P := P) (w := w) (K := K) (mg := mg) (base := base) (N := ["hub", "change", "one", "other", "period", "lines", "found", "moment", "leave"]) (qual := "_law_waits") (scope := defScope (topS 36)) (f := G._law_waits.f) (cdv := cdv) (A := A) (outer := outer) (s := s) (H := H) (E := E)
  have hp := pass_cx (P := P) (w := w) (K := K) (mg := mg) (base := base) (N := ["hub", "change", "one", "other", "period", "lines", "found", "moment", "leave"]) (qual := "_law_waits") (scope := defScope (topS 36)) (f := G._law_waits.f) (cdv := cdv) (A := A) (outer := outer) (s := s) (H := H) (E := E)
  exact (js_cons (js_asg (jv_var (pv 0)) (jg_tup rfl (jgs_cons (jg_name (pg_name (i := 4) sc.nd rfl (by first | exact .inl rfl | exact .inr rfl))) (jgs_cons (jg_name (pg_name (i := 5) sc.nd rfl (by first | exact .inl rfl | exact .inr rfl))) jgs_nil))))
  (js_cons (js_setL (i := 6) sc.nd rfl (.inl rfl) (jl_lst ja_nil (Nat.le_of_ble_eq_true rfl)))
  (js_cons (js_for hp rfl (ji_seq (jv_ix (jb_of (jv_ix (jb_of (jv_var (pv 5))) (jb_of (jv_var (pv 2))) (fun _ _ => rfl))) (jb_of jv_int) (fun _ _ => rfl))) (jg_name (pg_name (i := 7) sc.nd rfl (by first | exact .inl rfl | exact .inr rfl))) (js_one (js_append (pv 6) (jv_b1 (cr_minA rfl) s_min (by rfl) G.b_min fb_min (jb_ofL (jl_lc (own := [("leave", 8)]) rfl sc.nd (ji_seq (jv_ix (jb_of (jv_ix (jb_of (jv_var (pv 5))) (jb_of (jv_var (pv 3))) (fun _ _ => rfl))) (jb_of jv_int) (fun _ _ => rfl))) (blkOk_by rfl) (ctg_name (by decide)) (fun _ _ _ _ _ => (pg_name (i := 8) sc.nd rfl (by first | exact .inl rfl | exact .inr rfl))) (fun _ _ _ _ _ => jt_yes) (fun _ _ _ _ _ => (jv_op op_mod s_mod (jb_of (jv_t1 call_int1 s_int (by rfl) G.b_int fb_int (jb_of (jv_op op_sub s_sub (jb_of (jv_op op_sub s_sub (jb_of (jv_var (pv 8))) (jb_of (jv_var (pv 7))))) (jb_of (jv_var (pv 1))))))) (jb_of (jv_var (pv 4)))))))))))
  (js_one (js_ret (jv_t1 call_tuple_of s_tuple (by rfl) G.b_tuple fb_tuple (jb_var (pv 6))))))))
/-! _law_later -/
theorem sc__law_later : FnScope ["hub", "line", "by", "period", "lines", "new", "leave"] ["hub", "line", "by"] (defScope (topS 37)) := ⟨rfl, rfl, rfl, by decide +kernel, rfl, by decide +kernel, by decide +kernel⟩
def m__law_later (G : Txt K mg) : M Ctl := (sqS (asM (vV 0) (stT [(stV 3), (stV 4)]))
  (sqS (seV 5 (b1 (frz (b1 (frz (lcM (itM (b2 (b2 (vV 4) (vV 1) ixD) (ret (.int 1)) ixD)) (stV 6) (ret true) (b2 (b1 (b2 (vV 6) (vV 2) addD) intD) (vV 3) modD) [6])) srtI)) tupD))
  (bnd (tupM [(vV 3), (b2 (b2 (sl3 (vV 4) (ret none) (someM (vV 1)) slD) (tupM [(tupM [(b2 (b2 (vV 4) (vV 1) ixD) (ret (.int 0)) ixD), (vV 5)])]) addD) (sl3 (vV 4) (someM (b2 (vV 1) (ret (.int 1)) addD)) (ret none) slD) addD)]) fun d => ret (.rt (.v d)))))
def r__law_later (G : Txt K mg) (ds : List D) : Fo := runP 7 (m__law_later G) ds
theorem g__law_later {P : Program} {w : World} {base : Heap} (G : Txt K mg) (B : Tbs G base) : FnG P w K mg base 1 G._law_later.f G._law_later.fd ["hub", "line", "by"] (spP K (TT G) 3 (r__law_later G)) := by
  have sc := sc__law_later
  refine fnP G._law_later.F sc fun cdv A outer s H E hcd hf => ?_
  have tk := takes_cx (P := P) (w := w) (K := K) (mg := mg) (base := base) (N := ["hub", "line", "by", "period", "lines", "new", "leave"]) (qual := "_law_later") (scope := defScope (topS 37)) (f := G._law_later.f) (cdv := cdv) (A := A) (outer := outer) (s := s) (H := H) (E := E)
  have hp := pass_cx (P := P) (w := w) (K := K) (mg := mg) (base := base) (N := ["hub", "line", "by", "period", "lines", "new", "leave"]) (qual := "_law_later") (scope := defScope (topS 37)) (f := G._law_later.f) (cdv := cdv) (A := A) (outer := outer) (s := s) (H := H) (E := E)
  exact (js_cons (js_asg (jv_var (pv 0)) (jg_tup rfl (jgs_cons (jg_name (pg_name (i := 3) sc.nd rfl (by first | exact .inl rfl | exact .inr rfl))) (jgs_cons (jg_name (pg_name (i := 4) sc.nd rfl (by first | exact .inl rfl | exact .inr rfl))) jgs_nil))))
  (js_cons (js_set (i := 5) sc.nd rfl (.inl rfl) (jv_t1 call_tuple_of s_tuple (by rfl) G.b_tuple fb_tuple (jb_ofL (jl_b1 cr_sortedI s_sortI (by rfl) G.b_sorted fb_sorted (jb_ofL (jl_lc (own := [("leave", 6)]) rfl sc.nd (ji_seq (jv_ix (jb_of (jv_ix (jb_of (jv_var (pv 4))) (jb_of (jv_var (pv 1))) (fun _ _ => rfl))) (jb_of jv_int) (fun _ _ => rfl))) (blkOk_by rfl) (ctg_name (by decide)) (fun _ _ _ _ _ => (pg_name (i := 6) sc.nd rfl (by first | exact .inl rfl | exact .inr rfl))) (fun _ _ _ _ _ => jt_yes) (fun _ _ _ _ _ => (jv_op op_mod s_mod (jb_of (jv_t1 call_int1 s_int (by rfl) G.b_int fb_int (jb_of (jv_op o_add s_add (jb_of (jv_var (pv 6))) (jb_of (jv_var (pv 2))))))) (jb_of (jv_var (pv 3)))))))))))
  (js_one (js_ret (jv_tup (ja_cons (jv_var (pv 3)) (ja_cons (jv_op o_add s_add (jb_of (jv_op o_add s_add (jb_of (jv_slice (jb_of (jv_var (pv 4))) jo_none (jo_some (jv_var (pv 1))))) (jb_of (jv_tup (ja_cons (jv_tup (ja_cons (jv_ix (jb_of (jv_ix (jb_of (jv_var (pv 4))) (jb_of (jv_var (pv 1))) (fun _ _ => rfl))) (jb_of jv_int) (fun _ _ => rfl)) (ja_cons (jv_var (pv 5)) ja_nil)) (Nat.le_of_ble_eq_true rfl)) ja_nil) (Nat.le_of_ble_eq_true rfl))))) (jb_of (jv_slice (jb_of (jv_var (pv 4))) (jo_some (jv_op o_add s_add (jb_of (jv_var (pv 1))) (jb_of jv_int))) jo_none))) ja_nil)) (Nat.le_of_ble_eq_true rfl))))))
/-! _law_right -/
theorem sc__law_right : FnScope ["hand", "hub", "change", "many", "table", "pairs", "one", "rows", "worst", "first", "most", "good", "other", "by", "gain", "row", "pair", "wait"] ["hand"] (defScope (topS 38)) := ⟨rfl, rfl, rfl, by decide +kernel, rfl, by decide +kernel, by decide +kernel⟩
def m__law_right (G : Txt K mg) : M Ctl := (sqS (asM (tupM [(chV (r__law_hub G) 0 []), (chV (r__law_draw G) 0 [(chV (r__law_some G) 0 [(frz (sqM [(ret (.int 4)), (ret (.int 60))]))])])]) (stT [(stV 1), (stV 2)]))
  (sqS (seV 3 (b1 (b2 (vV 1) (ret (.int 1)) ixD) lenD))
  (sqS (paR2 4 5 [(rlM (sqM [])), (rlM (sqM []))])
  (sqS (frM (rg1M (vV 3)) (stV 6) (sqS (seV 7 (frz (lcM (rg1M (vV 3)) (stV 12) (ret true) (clV (r__law_waits G) [(vV 1), (vV 2), (vV 6), (vV 12)]) [12])))
  (sqS (ifM (notM (bnd (clV (r__law_is G) [(frz (lcM (rg1M (vV 3)) (stV 12) (ret true) (clV (r_change_waits G) [(vV 1), (vV 2), (vV 6), (vV 12)]) [12])), (vV 7)]) asB)) (bnd (ret (.bl false)) fun d => ret (.rt (.v d))) (ret .nx))
  (sqS (apM 4 (b1 (frz (lcM (itM (vV 7)) (stV 15) (ret true) (b1 (vV 15) sumD) [15])) tupD))
  (exM 5 (frz (lcM (rg1M (vV 3)) (stV 12) (b2 (vV 12) (vV 6) neB) (tupM [(b1 (b2 (vV 7) (vV 12) ixD) maxD1), (vV 6), (vV 12)]) [12])))))))
  (sqS (ifM (notM (bnd (clV (r__law_is G) [(clV (r_change_table G) [(vV 1), (vV 2)]), (b1 (vB 4) tupD)]) asB)) (bnd (ret (.bl false)) fun d => ret (.rt (.v d))) (ret .nx))
  (sqS (seV 8 (b1 (frz (lcM (itM (vV 5)) (stV 16) (ret true) (b2 (vV 16) (ret (.int 0)) ixD) [16])) maxD1))
  (sqS (seV 9 (b2 (frz (lcM (itM (vV 5)) (stV 16) (b2 (b2 (vV 16) (ret (.int 0)) ixD) (vV 8) eqB) (vV 16) [16])) (ret (.int 0)) ixD))
  (sqS (ifM (notM (bnd (clV (r__law_is G) [(clV (r_worst_change G) [(vV 1), (vV 2)]), (vV 9)]) asB)) (bnd (ret (.bl false)) fun d => ret (.rt (.v d))) (ret .nx))
  (sqS (seV 10 (chV (r__law_draw G) 0 [(b2 (vV 8) (ret (.int 2)) addD)]))
  (sqS (seV 11 (frz (lcM (itM (vV 5)) (stT [(stV 17), (stV 6), (stV 12)]) (b2 (vV 17) (vV 10) leB) (tupM [(vV 6), (vV 12)]) [17, 6, 12])))
  (sqS (ifM (orM (notM (bnd (clV (r__law_is G) [(clV (r_kept_changes G) [(vV 1), (vV 2), (vV 10)]), (vV 11)]) asB)) (b2 (b1 (clV (r_kept_changes G) [(vV 1), (vV 2), (vV 8)]) lenD) (b1 (vB 5) lenD) neB)) (bnd (ret (.bl false)) fun d => ret (.rt (.v d))) (ret .nx))
  (sqS (asM (tupM [(chV (r__law_draw G) 0 [(vV 3)]), (chV (r__law_draw G) 0 [(vV 3)]), (chV (r__law_draw G) 0 [(b2 (b2 (vV 1) (ret (.int 0)) ixD) (ret (.int 1)) addD)])]) (stT [(stV 6), (stV 12), (stV 13)]))
  (sqS (seV 14 (b2 (b1 (clV (r__law_waits G) [(vV 1), (vV 2), (vV 6), (vV 12)]) sumD) (b1 (clV (r__law_waits G) [(clV (r__law_later G) [(vV 1), (vV 12), (vV 13)]), (vV 2), (vV 6), (vV 12)]) sumD) subD))
  (sqS (ifM (notM (bnd (clV (r__law_is G) [(frz (sqM [(clV (r_held_gain G) [(vV 1), (vV 2), (vV 6), (vV 12), (vV 13)]), (clV (r_held_gain G) [(vV 1), (vV 2), (vV 6), (vV 12), (b2 (vV 1) (ret (.int 0)) ixD)])])), (frz (sqM [(vV 14), (ret (.int 0))]))]) asB)) (bnd (ret (.bl false)) fun d => ret (.rt (.v d))) (ret .nx))
  (bnd (orV (b2 (b2 (vV 2) (b2 (vV 1) (ret (.int 0)) ixD) addD) (ret (.int 100)) (opB gtB)) (b2 (clV (r_change_table G) [(vV 1), (b2 (vV 2) (b2 (vV 1) (ret (.int 0)) ixD) addD)]) (b1 (vB 4) tupD) (opB eqB))) fun d => ret (.rt (.v d)))))))))))))))))
def r__law_right (G : Txt K mg) (hc ds : List D) : Fo := runH 18 (m__law_right G) hc ds
theorem g__law_right {P : Program} {w : World} {base : Heap} (G : Txt K mg) (B : Tbs G base) : FnG P w K mg base 8 G._law_right.f G._law_right.fd ["hand"] (spH K (TT G) 0 (r__law_right G)) := by
  have sc := sc__law_right
  refine fnH G._law_right.F sc rfl fun cdv A outer s H E hcd hf => ?_
  have tk := takes_cx (P := P) (w := w) (K := K) (mg := mg) (base := base) (N := ["hand", "hub", "change", "many", "table", "pairs", "one", "rows", "worst", "first", "most", "good", "other", "by", "gain", "row", "pair", "wait"]) (qual := "_law_right") (scope := defScope (topS 38)) (f := G._law_right.f) (cdv := cdv) (A := A) (outer := outer) (s := s) (H := H) (E := E)
  have hp := pass_cx (P := P) (w := w) (K := K) (mg := mg) (base := base) (N := ["hand", "hub", "change", "many", "table", "pairs", "one", "rows", "worst", "first", "most", "good", "other", "by", "gain", "row", "pair", "wait"]) (qual := "_law_right") (scope := defScope (topS 38)) (f := G._law_right.f) (cdv := cdv) (A := A) (outer := outer) (s := s) (H := H) (E := E)
  exact (js_cons (js_asg (jv_tup (ja_cons (jv_callH (g__law_hub G B) (hf.mono (by decide)) (by rfl) G._law_hub.g G._law_hub.F.kp G._law_hub.b tk (pv 0) ja_nil) (ja_cons (jv_callH (g__law_draw G B) (hf.mono (by decide)) (by rfl) G._law_draw.g G._law_draw.F.kp G._law_draw.b tk (pv 0) (ja_cons (jv_callH (g__law_some G B) (hf.mono (by decide)) (by rfl) G._law_some.g G._law_some.F.kp G._law_some.b tk (pv 0) (ja_cons (jv_ofL (jl_lst (ja_cons jv_int (ja_cons jv_int ja_nil)) (Nat.le_of_ble_eq_true rfl))) ja_nil)) ja_nil)) ja_nil)) (Nat.le_of_ble_eq_true rfl)) (jg_tup rfl (jgs_cons (jg_name (pg_name (i := 1) sc.nd rfl (by first | exact .inl rfl | exact .inr rfl))) (jgs_cons (jg_name (pg_name (i := 2) sc.nd rfl (by first | exact .inl rfl | exact .inr rfl))) jgs_nil))))
  (js_cons (js_set (i := 3) sc.nd rfl (.inl rfl) (jv_b1 c_len s_len (by rfl) G.b_len fb_len (jb_of (jv_ix (jb_of (jv_var (pv 1))) (jb_of jv_int) (fun _ _ => rfl)))))
  (js_cons (js_parR2 (i := 4) (j := 5) rfl sc.nd rfl rfl (by decide) rfl rfl (jr_l (jl_lst ja_nil (Nat.le_of_ble_eq_true rfl)) (jr_l (jl_lst ja_nil (Nat.le_of_ble_eq_true rfl)) jr_nil)) (by rfl))
  (js_cons (js_for hp rfl (ji_rg1 (by rfl) G.b_range (jv_var (pv 3))) (jg_name (pg_name (i := 6) sc.nd rfl (by first | exact .inl rfl | exact .inr rfl))) (js_cons (js_set (i := 7) sc.nd rfl (.inr rfl) (jv_ofL (jl_lc (own := [("other", 12)]) rfl sc.nd (ji_rg1 (by rfl) G.b_range (jv_var (pv 3))) (blkOk_by rfl) (ctg_name (by decide)) (fun _ _ _ _ _ => (pg_name (i := 12) sc.nd rfl (by first | exact .inl rfl | exact .inr rfl))) (fun _ _ _ _ _ => jt_yes) (fun _ _ _ _ _ => (jv_call (g__law_waits G B) (hf.mono (by decide)) (by rfl) G._law_waits.g G._law_waits.F.kp G._law_waits.b L2.takes0 (ja_cons (jv_var (pv 1)) (ja_cons (jv_var (pv 2)) (ja_cons (jv_var (pv 6)) (ja_cons (jv_var (pv 12)) ja_nil)))))))))
  (js_cons (js_if (jt_not (jt_of (jv_call (g__law_is G B) (hf.mono (by decide)) (by rfl) G._law_is.g G._law_is.F.kp G._law_is.b tk (ja_cons (jv_ofL (jl_lc (own := [("other", 12)]) rfl sc.nd (ji_rg1 (by rfl) G.b_range (jv_var (pv 3))) (blkOk_by rfl) (ctg_name (by decide)) (fun _ _ _ _ _ => (pg_name (i := 12) sc.nd rfl (by first | exact .inl rfl | exact .inr rfl))) (fun _ _ _ _ _ => jt_yes) (fun _ _ _ _ _ => (jv_call (g_change_waits G B) (hf.mono (by decide)) (by rfl) G.change_waits.g G.change_waits.F.kp G.change_waits.b L2.takes0 (ja_cons (jv_var (pv 1)) (ja_cons (jv_var (pv 2)) (ja_cons (jv_var (pv 6)) (ja_cons (jv_var (pv 12)) ja_nil)))))))) (ja_cons (jv_var (pv 7)) ja_nil))))) (js_one (js_ret jv_bl)) js_nil)
  (js_cons (js_append (pv 4) (jv_t1 call_tuple_of s_tuple (by rfl) G.b_tuple fb_tuple (jb_ofL (jl_lc (own := [("row", 15)]) rfl sc.nd (ji_seq (jv_var (pv 7))) (blkOk_by rfl) (ctg_name (by decide)) (fun _ _ _ _ _ => (pg_name (i := 15) sc.nd rfl (by first | exact .inl rfl | exact .inr rfl))) (fun _ _ _ _ _ => jt_yes) (fun _ _ _ _ _ => (jv_b1 (cr_sumA rfl) s_sum (by rfl) G.b_sum fb_sum (jb_of (jv_var (pv 15)))))))))
  (js_one (js_extend (pv 5) (jb_ofL (jl_lc (own := [("other", 12)]) rfl sc.nd (ji_rg1 (by rfl) G.b_range (jv_var (pv 3))) (blkOk_by rfl) (ctg_name (by decide)) (fun _ _ _ _ _ => (pg_name (i := 12) sc.nd rfl (by first | exact .inl rfl | exact .inr rfl))) (fun _ _ _ _ _ => jt_one (jt_cmp (o_ne hf.u) s_ne (jb_of (jv_var (pv 12))) (jb_of (jv_var (pv 6))) (nomark _))) (fun _ _ _ _ _ => (jv_tup (ja_cons (jv_b1 (cr_maxA rfl) s_max (by rfl) G.b_max fb_max (jb_of (jv_ix (jb_of (jv_var (pv 7))) (jb_of (jv_var (pv 12))) (fun _ _ => rfl)))) (ja_cons (jv_var (pv 6)) (ja_cons (jv_var (pv 12)) ja_nil))) (Nat.le_of_ble_eq_true rfl)))))))))))
  (js_cons (js_if (jt_not (jt_of (jv_call (g__law_is G B) (hf.mono (by decide)) (by rfl) G._law_is.g G._law_is.F.kp G._law_is.b tk (ja_cons (jv_call (g_change_table G B) (hf.mono (by decide)) (by rfl) G.change_table.g G.change_table.F.kp G.change_table.b tk (ja_cons (jv_var (pv 1)) (ja_cons (jv_var (pv 2)) ja_nil))) (ja_cons (jv_t1 call_tuple_of s_tuple (by rfl) G.b_tuple fb_tuple (jb_var (pv 4))) ja_nil))))) (js_one (js_ret jv_bl)) js_nil)
  (js_cons (js_set (i := 8) sc.nd rfl (.inr rfl) (jv_b1 (cr_maxA rfl) s_max (by rfl) G.b_max fb_max (jb_ofL (jl_lc (own := [("pair", 16)]) rfl sc.nd (ji_seq (jv_var (pv 5))) (blkOk_by rfl) (ctg_name (by decide)) (fun _ _ _ _ _ => (pg_name (i := 16) sc.nd rfl (by first | exact .inl rfl | exact .inr rfl))) (fun _ _ _ _ _ => jt_yes) (fun _ _ _ _ _ => (jv_ix (jb_of (jv_var (pv 16))) (jb_of jv_int) (fun _ _ => rfl)))))))
  (js_cons (js_set (i := 9) sc.nd rfl (.inl rfl) (jv_ix (jb_ofL (jl_lc (own := [("pair", 16)]) rfl sc.nd (ji_seq (jv_var (pv 5))) (blkOk_by rfl) (ctg_name (by decide)) (fun _ _ _ _ _ => (pg_name (i := 16) sc.nd rfl (by first | exact .inl rfl | exact .inr rfl))) (fun _ _ _ _ _ => jt_one (jt_cmp (o_eq hf.u) s_eq (jb_of (jv_ix (jb_of (jv_var (pv 16))) (jb_of jv_int) (fun _ _ => rfl))) (jb_of (jv_var (pv 8))) (nomark _))) (fun _ _ _ _ _ => (jv_var (pv 16))))) (jb_of jv_int) (fun _ _ => rfl)))
  (js_cons (js_if (jt_not (jt_of (jv_call (g__law_is G B) (hf.mono (by decide)) (by rfl) G._law_is.g G._law_is.F.kp G._law_is.b tk (ja_cons (jv_call (g_worst_change G B) (hf.mono (by decide)) (by rfl) G.worst_change.g G.worst_change.F.kp G.worst_change.b tk (ja_cons (jv_var (pv 1)) (ja_cons (jv_var (pv 2)) ja_nil))) (ja_cons (jv_var (pv 9)) ja_nil))))) (js_one (js_ret jv_bl)) js_nil)
  (js_cons (js_set (i := 10) sc.nd rfl (.inr rfl) (jv_callH (g__law_draw G B) (hf.mono (by decide)) (by rfl) G._law_draw.g G._law_draw.F.kp G._law_draw.b tk (pv 0) (ja_cons (jv_op o_add s_add (jb_of (jv_var (pv 8))) (jb_of jv_int)) ja_nil)))
  (js_cons (js_setLcV (own := [("wait", 17), ("one", 6), ("other", 12)]) (i := 11) rfl sc.nd rfl rfl (by rfl) (ji_seq (jv_var (pv 5))) (blkOk_by rfl) (ctg_tup (ctgs_cons (ctg_name (by decide)) (ctgs_cons (ctg_name (by decide)) (ctgs_cons (ctg_name (by decide)) ctgs_nil))) rfl) (fun _ _ _ _ _ => (pg_tup rfl (pgs_cons (pg_name (i := 17) sc.nd rfl (by first | exact .inl rfl | exact .inr rfl)) (pgs_cons (pg_name (i := 6) sc.nd rfl (by first | exact .inl rfl | exact .inr rfl)) (pgs_cons (pg_name (i := 12) sc.nd rfl (by first | exact .inl rfl | exact .inr rfl)) pgs_nil))))) (fun _ _ _ _ _ => jt_one (jt_cmp op_le s_le (jb_of (jv_var (pv 17))) (jb_of (jv_var (pv 10))) (nomark _))) (fun _ _ _ _ _ => (jv_tup (ja_cons (jv_var (pv 6)) (ja_cons (jv_var (pv 12)) ja_nil)) (Nat.le_of_ble_eq_true rfl))))
  (js_cons (js_if (jt_w (jw_or (jt_not (jt_of (jv_call (g__law_is G B) (hf.mono (by decide)) (by rfl) G._law_is.g G._law_is.F.kp G._law_is.b tk (ja_cons (jv_call (g_kept_changes G B) (hf.mono (by decide)) (by rfl) G.kept_changes.g G.kept_changes.F.kp G.kept_changes.b tk (ja_cons (jv_var (pv 1)) (ja_cons (jv_var (pv 2)) (ja_cons (jv_var (pv 10)) ja_nil)))) (ja_cons (jv_var (pv 11)) ja_nil))))) (jw_or1 (jt_cmp (o_ne hf.u) s_ne (jb_of (jv_b1 c_len s_len (by rfl) G.b_len fb_len (jb_of (jv_call (g_kept_changes G B) (hf.mono (by decide)) (by rfl) G.kept_changes.g G.kept_changes.F.kp G.kept_changes.b tk (ja_cons (jv_var (pv 1)) (ja_cons (jv_var (pv 2)) (ja_cons (jv_var (pv 8)) ja_nil))))))) (jb_of (jv_b1 c_len s_len (by rfl) G.b_len fb_len (jb_var (pv 5)))) (nomark _))))) (js_one (js_ret jv_bl)) js_nil)
  (js_cons (js_asg (jv_tup (ja_cons (jv_callH (g__law_draw G B) (hf.mono (by decide)) (by rfl) G._law_draw.g G._law_draw.F.kp G._law_draw.b tk (pv 0) (ja_cons (jv_var (pv 3)) ja_nil)) (ja_cons (jv_callH (g__law_draw G B) (hf.mono (by decide)) (by rfl) G._law_draw.g G._law_draw.F.kp G._law_draw.b tk (pv 0) (ja_cons (jv_var (pv 3)) ja_nil)) (ja_cons (jv_callH (g__law_draw G B) (hf.mono (by decide)) (by rfl) G._law_draw.g G._law_draw.F.kp G._law_draw.b tk (pv 0) (ja_cons (jv_op o_add s_add (jb_of (jv_ix (jb_of (jv_var (pv 1))) (jb_of jv_int) (fun _ _ => rfl))) (jb_of jv_int)) ja_nil)) ja_nil))) (Nat.le_of_ble_eq_true rfl)) (jg_tup rfl (jgs_cons (jg_name (pg_name (i := 6) sc.nd rfl (by first | exact .inl rfl | exact .inr rfl))) (jgs_cons (jg_name (pg_name (i := 12) sc.nd rfl (by first | exact .inl rfl | exact .inr rfl))) (jgs_cons (jg_name (pg_name (i := 13) sc.nd rfl (by first | exact .inl rfl | exact .inr rfl))) jgs_nil)))))
  (js_cons (js_set (i := 14) sc.nd rfl (.inl rfl) (jv_op op_sub s_sub (jb_of (jv_b1 (cr_sumA rfl) s_sum (by rfl) G.b_sum fb_sum (jb_of (jv_call (g__law_waits G B) (hf.mono (by decide)) (by rfl) G._law_waits.g G._law_waits.F.kp G._law_waits.b tk (ja_cons (jv_var (pv 1)) (ja_cons (jv_var (pv 2)) (ja_cons (jv_var (pv 6)) (ja_cons (jv_var (pv 12)) ja_nil)))))))) (jb_of (jv_b1 (cr_sumA rfl) s_sum (by rfl) G.b_sum fb_sum (jb_of (jv_call (g__law_waits G B) (hf.mono (by decide)) (by rfl) G._law_waits.g G._law_waits.F.kp G._law_waits.b tk (ja_cons (jv_call (g__law_later G B) (hf.mono (by decide)) (by rfl) G._law_later.g G._law_later.F.kp G._law_later.b tk (ja_cons (jv_var (pv 1)) (ja_cons (jv_var (pv 12)) (ja_cons (jv_var (pv 13)) ja_nil)))) (ja_cons (jv_var (pv 2)) (ja_cons (jv_var (pv 6)) (ja_cons (jv_var (pv 12)) ja_nil))))))))))
  (js_cons (js_if (jt_not (jt_of (jv_call (g__law_is G B) (hf.mono (by decide)) (by rfl) G._law_is.g G._law_is.F.kp G._law_is.b tk (ja_cons (jv_ofL (jl_lst (ja_cons (jv_call (g_held_gain G B) (hf.mono (by decide)) (by rfl) G.held_gain.g G.held_gain.F.kp G.held_gain.b tk (ja_cons (jv_var (pv 1)) (ja_cons (jv_var (pv 2)) (ja_cons (jv_var (pv 6)) (ja_cons (jv_var (pv 12)) (ja_cons (jv_var (pv 13)) ja_nil)))))) (ja_cons (jv_call (g_held_gain G B) (hf.mono (by decide)) (by rfl) G.held_gain.g G.held_gain.F.kp G.held_gain.b tk (ja_cons (jv_var (pv 1)) (ja_cons (jv_var (pv 2)) (ja_cons (jv_var (pv 6)) (ja_cons (jv_var (pv 12)) (ja_cons (jv_ix (jb_of (jv_var (pv 1))) (jb_of jv_int) (fun _ _ => rfl)) ja_nil)))))) ja_nil)) (Nat.le_of_ble_eq_true rfl))) (ja_cons (jv_ofL (jl_lst (ja_cons (jv_var (pv 14)) (ja_cons jv_int ja_nil)) (Nat.le_of_ble_eq_true rfl))) ja_nil))))) (js_one (js_ret jv_bl)) js_nil)
  (js_one (js_ret (jv_or (jv_cmp op_gt s_gt (jb_of (jv_op o_add s_add (jb_of (jv_var (pv 2))) (jb_of (jv_ix (jb_of (jv_var (pv 1))) (jb_of jv_int) (fun _ _ => rfl))))) (jb_of jv_int) (nomark _)) (jv_one (jv_cmp (o_eq hf.u) s_eq (jb_of (jv_call (g_change_table G B) (hf.mono (by decide)) (by rfl) G.change_table.g G.change_table.F.kp G.change_table.b tk (ja_cons (jv_var (pv 1)) (ja_cons (jv_op o_add s_add (jb_of (jv_var (pv 2))) (jb_of (jv_ix (jb_of (jv_var (pv 1))) (jb_of jv_int) (fun _ _ => rfl)))) ja_nil)))) (jb_of (jv_t1 call_tuple_of s_tuple (by rfl) G.b_tuple fb_tuple (jb_var (pv 4)))) (nomark _))))))))))))))))))))
/-! law -/
theorem sc_law : FnScope ["script", "hand", "good", "some", "bad", "hub", "odd", "none", "far", "less", "two", "said", "turn"] ["script"] (defScope (topS 39)) := ⟨rfl, rfl, rfl, by decide +kernel, rfl, by decide +kernel, by decide +kernel⟩
noncomputable def m_law (G : Txt K mg) : M Ctl := (lawO 1 (clL (r__law_hand G) [(vV 0)]) (sqS (ifM (notM (bnd (b1 (frz (lcM (rg1M (ret (.int 4))) (stV 12) (ret true) (chV (r__law_right G) 1 []) [12])) allD) asB)) (bnd (ret (.bl false)) fun d => ret (.rt (.v d))) (ret .nx))
  (sqS (seV 2 (tupM [(tupM [(ret (.int 0))]), (tupM [(ret (.int 1))])]))
  (sqS (seV 3 (frz (sqM [(ret .non), (ret (.int 1)), (tupM [(ret (.int 5)), (tupM [(vV 2)])]), (tupM [(ret (.int 0)), (tupM [(vV 2), (vV 2)])]), (tupM [(ret (.int 201)), (tupM [(vV 2), (vV 2)])]), (frz (sqM [(ret (.int 5)), (tupM [(vV 2), (vV 2)])])), (tupM [(ret (.int 5)), (b2 (tupM [(vV 2)]) (ret (.int 9)) mulD)])])))
  (sqS (seV 3 (b2 (vV 3) (frz (sqM [(tupM [(ret (.int 5)), (tupM [(vV 2), (tupM [(tupM []), (tupM [(ret (.int 1))])])])]), (tupM [(ret (.int 5)), (tupM [(vV 2), (tupM [(tupM [(ret (.int 1)), (ret (.int 0))]), (tupM [(ret (.int 1))])])])]), (tupM [(ret (.int 5)), (tupM [(vV 2), (tupM [(tupM [(ret (.int 0))]), (tupM [(ret (.int 5))])])])]), (tupM [(ret (.int 1)), (tupM [(vV 2), (vV 2)])])])) addD))
  (sqS (seV 3 (b2 (vV 3) (frz (sqM [(tupM [(ret (.int 5)), (tupM [(vV 2), (tupM [(tupM [(ret (.bl true))]), (tupM [(ret (.int 1))])])])]), (tupM [(ret (.int 5)), (tupM [(vV 2), (tupM [(tupM [(ret (.int 0)), (ret (.int 0))]), (tupM [(ret (.int 1))])])])]), (tupM [(ret (.int 5)), (tupM [(vV 2), (tupM [(tupM [(ret (.int 0))])])])])])) addD))
  (sqS (seV 4 (chV (r__law_some G) 1 [(b2 (vV 3) (frz (sqM [(tupM [(ret (.int 5)), (frz (sqM [(vV 2), (vV 2)]))]), (ret (.dic [])), (ret (.str "hub"))])) addD)]))
  (sqS (asM (tupM [(tupM [(ret (.int 5)), (tupM [(vV 2), (vV 2)])]), (chV (r__law_some G) 1 [(frz (sqM [(ret .non), (b1 (ret (.int 1)) negD), (ret (.int 101)), (ret (.bl true)), (ret (.str "1")), (tupM [(ret (.int 1))])]))])]) (stT [(stV 5), (stV 6)]))
  (sqS (ifM (notM (bnd (b1 (lamV 2 (mw__law_error G) (clV (r_change_table G) [(vV 4), (vV 6)])) (isxD K (.ref G.x_BadHub.C))) asB)) (bnd (ret (.bl false)) fun d => ret (.rt (.v d))) (ret .nx))
  (sqS (ifM (notM (bnd (b1 (lamV 2 (mw__law_error G) (clV (r_change_waits G) [(vV 5), (vV 6), (ret (.int 0)), (ret (.int 0))])) (isxD K (.ref G.x_NoNumber.C))) asB)) (bnd (ret (.bl false)) fun d => ret (.rt (.v d))) (ret .nx))
  (sqS (seV 7 (chV (r__law_some G) 1 [(frz (sqM [(ret .non), (b1 (ret (.int 1)) negD), (ret (.int 2)), (ret (.bl true)), (ret (.str "1")), (tupM [(ret (.int 1))])]))]))
  (sqS (ifM (notM (bnd (b1 (lamV 2 (mw__law_error G) (clV (r_change_waits G) [(vV 5), (ret (.int 1)), (vV 7), (ret (.int 0))])) (isxD K (.ref G.x_NoPlace.C))) asB)) (bnd (ret (.bl false)) fun d => ret (.rt (.v d))) (ret .nx))
  (sqS (ifM (notM (bnd (b1 (lamV 2 (mw__law_error G) (clV (r_held_gain G) [(vV 5), (ret (.int 1)), (ret (.int 0)), (vV 7), (ret (.int 1))])) (isxD K (.ref G.x_NoPlace.C))) asB)) (bnd (ret (.bl false)) fun d => ret (.rt (.v d))) (ret .nx))
  (sqS (seV 8 (chV (r__law_some G) 1 [(frz (sqM [(ret .non), (b1 (ret (.int 1)) negD), (ret (.int 6)), (ret (.bl true)), (ret (.str "1")), (tupM [(ret (.int 1))])]))]))
  (sqS (ifM (notM (bnd (b1 (lamV 2 (mw__law_error G) (clV (r_held_gain G) [(vV 5), (ret (.int 1)), (ret (.int 0)), (ret (.int 1)), (vV 8)])) (isxD K (.ref G.x_NoNumber.C))) asB)) (bnd (ret (.bl false)) fun d => ret (.rt (.v d))) (ret .nx))
  (sqS (seV 9 (chV (r__law_some G) 1 [(frz (sqM [(ret .non), (b1 (ret (.int 1)) negD), (ret (.bl true)), (ret (.str "1")), (tupM [(ret (.int 1))])]))]))
  (sqS (ifM (notM (bnd (b1 (lamV 2 (mw__law_error G) (clV (r_kept_changes G) [(vV 5), (ret (.int 1)), (vV 9)])) (isxD K (.ref G.x_NoNumber.C))) asB)) (bnd (ret (.bl false)) fun d => ret (.rt (.v d))) (ret .nx))
  (sqS (seV 10 (tupM [(ret (.int 10)), (tupM [(tupM [(tupM [(ret (.int 0))]), (tupM [(ret (.int 3))])]), (tupM [(tupM [(ret (.int 5))]), (tupM [(ret (.int 1)), (ret (.int 6))])])])]))
  (sqS (seV 11 (frz (sqM [(clV (r_change_waits G) [(vV 10), (ret (.int 2)), (ret (.int 0)), (ret (.int 1))]), (clV (r_change_table G) [(vV 10), (ret (.int 2))]), (clV (r_worst_change G) [(vV 10), (ret (.int 2))]), (clV (r_held_gain G) [(vV 10), (ret (.int 2)), (ret (.int 0)), (ret (.int 1)), (ret (.int 1))])])))
  (bnd (clV (r__law_is G) [(vV 11), (frz (sqM [(tupM [(ret (.int 4))]), (tupM [(tupM [(ret (.int 1)), (ret (.int 4))]), (tupM [(ret (.int 6)), (ret (.int 4))])]), (tupM [(ret (.int 6)), (ret (.int 1)), (ret (.int 0))]), (ret (.int 4))]))]) fun d => ret (.rt (.v d))))))))))))))))))))))
theorem hm_law (G : Txt K mg) : (G.l_law.P, (("law" : Str) ++ ".<locals>." ++ "<lambda>")) ∈ TT G := .head _
theorem hu_law (G : Txt K mg) : ∀ p ∈ TT G, p.1 = G.l_law.P → p.2 = (("law" : Str) ++ ".<locals>." ++ "<lambda>") := by
  intro p hp h
  simp only [TT, List.mem_cons, List.not_mem_nil, or_false] at hp
  subst hp; rfl
theorem g_law {P : Program} {w : World} {base : Heap} (G : Txt K mg) (B : Tbs G base) (good : List Int → Prop) (hm : ∀ ns, good ns → ∃ S', m_law G (lawS 13 ns) = .ok (.rt (.v (.bl true))) S') : FnG P w K mg base 10 G.law.f G.law.fd ["script"] (spLaw K (TT G) good) := by
  have sc := sc_law
  refine fnLaw G.law.F sc (fun cdv A outer s H E hcd hf => ?_) hm
  have tk := takes_cx (P := P) (w := w) (K := K) (mg := mg) (base := base) (N := ["script", "hand", "good", "some", "bad", "hub", "odd", "none", "far", "less", "two", "said", "turn"]) (qual := "law") (scope := defScope (topS 39)) (f := G.law.f) (cdv := cdv) (A := A) (outer := outer) (s := s) (H := H) (E := E)
  have hp := pass_cx (P := P) (w := w) (K := K) (mg := mg) (base := base) (N := ["script", "hand", "good", "some", "bad", "hub", "odd", "none", "far", "less", "two", "said", "turn"]) (qual := "law") (scope := defScope (topS 39)) (f := G.law.f) (cdv := cdv) (A := A) (outer := outer) (s := s) (H := H) (E := E)
  have hcode : (envOfC "law" (defScope (topS 39)) s.heap.objs.size G.law.f cdv).code = Value.ref G.l_law.c := hcd.symm.trans G.l_law.hc
  exact (jl_first (i := 1) sc.nd rfl (.inr rfl) (jl_call (g__law_hand G B) (hf.mono (by decide)) (by rfl) G._law_hand.g G._law_hand.F.kp G._law_hand.b tk (ja_cons (jv_var (pv 0)) ja_nil)) (js_cons (js_if (jt_not (jt_of (jv_b1 (cr_all rfl) s_all (by rfl) G.b_all fb_all (jb_ofL (jl_lc (own := [("turn", 12)]) rfl sc.nd (ji_rg1 (by rfl) G.b_range jv_int) (blkOk_by rfl) (ctg_name (by decide)) (fun _ _ _ _ _ => (pg_name (i := 12) sc.nd rfl (by first | exact .inl rfl | exact .inr rfl))) (fun _ _ _ _ _ => jt_yes) (fun _ _ _ _ _ => (jv_callH (g__law_right G B) (hf.mono (by decide)) (by rfl) G._law_right.g G._law_right.F.kp G._law_right.b L2.takes0 (pv 1) ja_nil))))))) (js_one (js_ret jv_bl)) js_nil)
  (js_cons (js_set (i := 2) sc.nd rfl (.inl rfl) (jv_tup (ja_cons (jv_tup (ja_cons jv_int ja_nil) (Nat.le_of_ble_eq_true rfl)) (ja_cons (jv_tup (ja_cons jv_int ja_nil) (Nat.le_of_ble_eq_true rfl)) ja_nil)) (Nat.le_of_ble_eq_true rfl)))
  (js_cons (js_set (i := 3) sc.nd rfl (.inl rfl) (jv_ofL (jl_lst (ja_cons jv_non (ja_cons jv_int (ja_cons (jv_tup (ja_cons jv_int (ja_cons (jv_tup (ja_cons (jv_var (pv 2)) ja_nil) (Nat.le_of_ble_eq_true rfl)) ja_nil)) (Nat.le_of_ble_eq_true rfl)) (ja_cons (jv_tup (ja_cons jv_int (ja_cons (jv_tup (ja_cons (jv_var (pv 2)) (ja_cons (jv_var (pv 2)) ja_nil)) (Nat.le_of_ble_eq_true rfl)) ja_nil)) (Nat.le_of_ble_eq_true rfl)) (ja_cons (jv_tup (ja_cons jv_int (ja_cons (jv_tup (ja_cons (jv_var (pv 2)) (ja_cons (jv_var (pv 2)) ja_nil)) (Nat.le_of_ble_eq_true rfl)) ja_nil)) (Nat.le_of_ble_eq_true rfl)) (ja_cons (jv_ofL (jl_lst (ja_cons jv_int (ja_cons (jv_tup (ja_cons (jv_var (pv 2)) (ja_cons (jv_var (pv 2)) ja_nil)) (Nat.le_of_ble_eq_true rfl)) ja_nil)) (Nat.le_of_ble_eq_true rfl))) (ja_cons (jv_tup (ja_cons jv_int (ja_cons (jv_op o_mul s_mul (jb_of (jv_tup (ja_cons (jv_var (pv 2)) ja_nil) (Nat.le_of_ble_eq_true rfl))) (jb_of jv_int)) ja_nil)) (Nat.le_of_ble_eq_true rfl)) ja_nil))))))) (Nat.le_of_ble_eq_true rfl))))
  (js_cons (js_set (i := 3) sc.nd rfl (.inl rfl) (jv_op o_add s_add (jb_of (jv_var (pv 3))) (jb_ofL (jl_lst (ja_cons (jv_tup (ja_cons jv_int (ja_cons (jv_tup (ja_cons (jv_var (pv 2)) (ja_cons (jv_tup (ja_cons (jv_tup ja_nil (Nat.le_of_ble_eq_true rfl)) (ja_cons (jv_tup (ja_cons jv_int ja_nil) (Nat.le_of_ble_eq_true rfl)) ja_nil)) (Nat.le_of_ble_eq_true rfl)) ja_nil)) (Nat.le_of_ble_eq_true rfl)) ja_nil)) (Nat.le_of_ble_eq_true rfl)) (ja_cons (jv_tup (ja_cons jv_int (ja_cons (jv_tup (ja_cons (jv_var (pv 2)) (ja_cons (jv_tup (ja_cons (jv_tup (ja_cons jv_int (ja_cons jv_int ja_nil)) (Nat.le_of_ble_eq_true rfl)) (ja_cons (jv_tup (ja_cons jv_int ja_nil) (Nat.le_of_ble_eq_true rfl)) ja_nil)) (Nat.le_of_ble_eq_true rfl)) ja_nil)) (Nat.le_of_ble_eq_true rfl)) ja_nil)) (Nat.le_of_ble_eq_true rfl)) (ja_cons (jv_tup (ja_cons jv_int (ja_cons (jv_tup (ja_cons (jv_var (pv 2)) (ja_cons (jv_tup (ja_cons (jv_tup (ja_cons jv_int ja_nil) (Nat.le_of_ble_eq_true rfl)) (ja_cons (jv_tup (ja_cons jv_int ja_nil) (Nat.le_of_ble_eq_true rfl)) ja_nil)) (Nat.le_of_ble_eq_true rfl)) ja_nil)) (Nat.le_of_ble_eq_true rfl)) ja_nil)) (Nat.le_of_ble_eq_true rfl)) (ja_cons (jv_tup (ja_cons jv_int (ja_cons (jv_tup (ja_cons (jv_var (pv 2)) (ja_cons (jv_var (pv 2)) ja_nil)) (Nat.le_of_ble_eq_true rfl)) ja_nil)) (Nat.le_of_ble_eq_true rfl)) ja_nil)))) (Nat.le_of_ble_eq_true rfl)))))
  (js_cons (js_set (i := 3) sc.nd rfl (.inl rfl) (jv_op o_add s_add (jb_of (jv_var (pv 3))) (jb_ofL (jl_lst (ja_cons (jv_tup (ja_cons jv_int (ja_cons (jv_tup (ja_cons (jv_var (pv 2)) (ja_cons (jv_tup (ja_cons (jv_tup (ja_cons jv_bl ja_nil) (Nat.le_of_ble_eq_true rfl)) (ja_cons (jv_tup (ja_cons jv_int ja_nil) (Nat.le_of_ble_eq_true rfl)) ja_nil)) (Nat.le_of_ble_eq_true rfl)) ja_nil)) (Nat.le_of_ble_eq_true rfl)) ja_nil)) (Nat.le_of_ble_eq_true rfl)) (ja_cons (jv_tup (ja_cons jv_int (ja_cons (jv_tup (ja_cons (jv_var (pv 2)) (ja_cons (jv_tup (ja_cons (jv_tup (ja_cons jv_int (ja_cons jv_int ja_nil)) (Nat.le_of_ble_eq_true rfl)) (ja_cons (jv_tup (ja_cons jv_int ja_nil) (Nat.le_of_ble_eq_true rfl)) ja_nil)) (Nat.le_of_ble_eq_true rfl)) ja_nil)) (Nat.le_of_ble_eq_true rfl)) ja_nil)) (Nat.le_of_ble_eq_true rfl)) (ja_cons (jv_tup (ja_cons jv_int (ja_cons (jv_tup (ja_cons (jv_var (pv 2)) (ja_cons (jv_tup (ja_cons (jv_tup (ja_cons jv_int ja_nil) (Nat.le_of_ble_eq_true rfl)) ja_nil) (Nat.le_of_ble_eq_true rfl)) ja_nil)) (Nat.le_of_ble_eq_true rfl)) ja_nil)) (Nat.le_of_ble_eq_true rfl)) ja_nil))) (Nat.le_of_ble_eq_true rfl)))))
  (js_cons (js_set (i := 4) sc.nd rfl (.inr rfl) (jv_callH (g__law_some G B) (hf.mono (by decide)) (by rfl) G._law_some.g G._law_some.F.kp G._law_some.b tk (pv 1) (ja_cons (jv_op o_add s_add (jb_of (jv_var (pv 3))) (jb_ofL (jl_lst (ja_cons (jv_tup (ja_cons jv_int (ja_cons (jv_ofL (jl_lst (ja_cons (jv_var (pv 2)) (ja_cons (jv_var (pv 2)) ja_nil)) (Nat.le_of_ble_eq_true rfl))) ja_nil)) (Nat.le_of_ble_eq_true rfl)) (ja_cons jv_dnew (ja_cons jv_str ja_nil))) (Nat.le_of_ble_eq_true rfl)))) ja_nil)))
  (js_cons (js_asg (jv_tup (ja_cons (jv_tup (ja_cons jv_int (ja_cons (jv_tup (ja_cons (jv_var (pv 2)) (ja_cons (jv_var (pv 2)) ja_nil)) (Nat.le_of_ble_eq_true rfl)) ja_nil)) (Nat.le_of_ble_eq_true rfl)) (ja_cons (jv_callH (g__law_some G B) (hf.mono (by decide)) (by rfl) G._law_some.g G._law_some.F.kp G._law_some.b tk (pv 1) (ja_cons (jv_ofL (jl_lst (ja_cons jv_non (ja_cons (jv_neg jv_int) (ja_cons jv_int (ja_cons jv_bl (ja_cons jv_str (ja_cons (jv_tup (ja_cons jv_int ja_nil) (Nat.le_of_ble_eq_true rfl)) ja_nil)))))) (Nat.le_of_ble_eq_true rfl))) ja_nil)) ja_nil)) (Nat.le_of_ble_eq_true rfl)) (jg_tup rfl (jgs_cons (jg_name (pg_name (i := 5) sc.nd rfl (by first | exact .inl rfl | exact .inr rfl))) (jgs_cons (jg_name (pg_name (i := 6) sc.nd rfl (by first | exact .inl rfl | exact .inr rfl))) jgs_nil))))
  (js_cons (js_if (jt_not (jt_of (jv_isx (by rfl) G.b_isinstance (jv_lam (k := 7) G._law_error.F G._law_error.b sc__law_error (by rfl) G._law_error.g (fun cdv s H cl hf hcl => w__law_error G cl hf hcl) B.law hcode (hm_law G) (hu_law G) (hf.mono (by decide)) (lamS_by rfl)
  (fun A outer s H E f c' hf => (jv_call (g_change_table G B) (hf.mono (by decide)) (by rfl) G.change_table.g G.change_table.F.kp G.change_table.b (takes_of rfl rfl rfl rfl) (ja_cons (jv_var (pv 4)) (ja_cons (jv_var (pv 6)) ja_nil))))) (pe_cls (by rfl) G.x_BadHub.g) rel_ref))) (js_one (js_ret jv_bl)) js_nil)
  (js_cons (js_if (jt_not (jt_of (jv_isx (by rfl) G.b_isinstance (jv_lam (k := 7) G._law_error.F G._law_error.b sc__law_error (by rfl) G._law_error.g (fun cdv s H cl hf hcl => w__law_error G cl hf hcl) B.law hcode (hm_law G) (hu_law G) (hf.mono (by decide)) (lamS_by rfl)
  (fun A outer s H E f c' hf => (jv_call (g_change_waits G B) (hf.mono (by decide)) (by rfl) G.change_waits.g G.change_waits.F.kp G.change_waits.b (takes_of rfl rfl rfl rfl) (ja_cons (jv_var (pv 5)) (ja_cons (jv_var (pv 6)) (ja_cons jv_int (ja_cons jv_int ja_nil))))))) (pe_cls (by rfl) G.x_NoNumber.g) rel_ref))) (js_one (js_ret jv_bl)) js_nil)
  (js_cons (js_set (i := 7) sc.nd rfl (.inr rfl) (jv_callH (g__law_some G B) (hf.mono (by decide)) (by rfl) G._law_some.g G._law_some.F.kp G._law_some.b tk (pv 1) (ja_cons (jv_ofL (jl_lst (ja_cons jv_non (ja_cons (jv_neg jv_int) (ja_cons jv_int (ja_cons jv_bl (ja_cons jv_str (ja_cons (jv_tup (ja_cons jv_int ja_nil) (Nat.le_of_ble_eq_true rfl)) ja_nil)))))) (Nat.le_of_ble_eq_true rfl))) ja_nil)))
  (js_cons (js_if (jt_not (jt_of (jv_isx (by rfl) G.b_isinstance (jv_lam (k := 7) G._law_error.F G._law_error.b sc__law_error (by rfl) G._law_error.g (fun cdv s H cl hf hcl => w__law_error G cl hf hcl) B.law hcode (hm_law G) (hu_law G) (hf.mono (by decide)) (lamS_by rfl)
  (fun A outer s H E f c' hf => (jv_call (g_change_waits G B) (hf.mono (by decide)) (by rfl) G.change_waits.g G.change_waits.F.kp G.change_waits.b (takes_of rfl rfl rfl rfl) (ja_cons (jv_var (pv 5)) (ja_cons jv_int (ja_cons (jv_var (pv 7)) (ja_cons jv_int ja_nil))))))) (pe_cls (by rfl) G.x_NoPlace.g) rel_ref))) (js_one (js_ret jv_bl)) js_nil)
  (js_cons (js_if (jt_not (jt_of (jv_isx (by rfl) G.b_isinstance (jv_lam (k := 7) G._law_error.F G._law_error.b sc__law_error (by rfl) G._law_error.g (fun cdv s H cl hf hcl => w__law_error G cl hf hcl) B.law hcode (hm_law G) (hu_law G) (hf.mono (by decide)) (lamS_by rfl)
  (fun A outer s H E f c' hf => (jv_call (g_held_gain G B) (hf.mono (by decide)) (by rfl) G.held_gain.g G.held_gain.F.kp G.held_gain.b (takes_of rfl rfl rfl rfl) (ja_cons (jv_var (pv 5)) (ja_cons jv_int (ja_cons jv_int (ja_cons (jv_var (pv 7)) (ja_cons jv_int ja_nil)))))))) (pe_cls (by rfl) G.x_NoPlace.g) rel_ref))) (js_one (js_ret jv_bl)) js_nil)
  (js_cons (js_set (i := 8) sc.nd rfl (.inr rfl) (jv_callH (g__law_some G B) (hf.mono (by decide)) (by rfl) G._law_some.g G._law_some.F.kp G._law_some.b tk (pv 1) (ja_cons (jv_ofL (jl_lst (ja_cons jv_non (ja_cons (jv_neg jv_int) (ja_cons jv_int (ja_cons jv_bl (ja_cons jv_str (ja_cons (jv_tup (ja_cons jv_int ja_nil) (Nat.le_of_ble_eq_true rfl)) ja_nil)))))) (Nat.le_of_ble_eq_true rfl))) ja_nil)))
  (js_cons (js_if (jt_not (jt_of (jv_isx (by rfl) G.b_isinstance (jv_lam (k := 7) G._law_error.F G._law_error.b sc__law_error (by rfl) G._law_error.g (fun cdv s H cl hf hcl => w__law_error G cl hf hcl) B.law hcode (hm_law G) (hu_law G) (hf.mono (by decide)) (lamS_by rfl)
  (fun A outer s H E f c' hf => (jv_call (g_held_gain G B) (hf.mono (by decide)) (by rfl) G.held_gain.g G.held_gain.F.kp G.held_gain.b (takes_of rfl rfl rfl rfl) (ja_cons (jv_var (pv 5)) (ja_cons jv_int (ja_cons jv_int (ja_cons jv_int (ja_cons (jv_var (pv 8)) ja_nil)))))))) (pe_cls (by rfl) G.x_NoNumber.g) rel_ref))) (js_one (js_ret jv_bl)) js_nil)
  (js_cons (js_set (i := 9) sc.nd rfl (.inr rfl) (jv_callH (g__law_some G B) (hf.mono (by decide)) (by rfl) G._law_some.g G._law_some.F.kp G._law_some.b tk (pv 1) (ja_cons (jv_ofL (jl_lst (ja_cons jv_non (ja_cons (jv_neg jv_int) (ja_cons jv_bl (ja_cons jv_str (ja_cons (jv_tup (ja_cons jv_int ja_nil) (Nat.le_of_ble_eq_true rfl)) ja_nil))))) (Nat.le_of_ble_eq_true rfl))) ja_nil)))
  (js_cons (js_if (jt_not (jt_of (jv_isx (by rfl) G.b_isinstance (jv_lam (k := 7) G._law_error.F G._law_error.b sc__law_error (by rfl) G._law_error.g (fun cdv s H cl hf hcl => w__law_error G cl hf hcl) B.law hcode (hm_law G) (hu_law G) (hf.mono (by decide)) (lamS_by rfl)
  (fun A outer s H E f c' hf => (jv_call (g_kept_changes G B) (hf.mono (by decide)) (by rfl) G.kept_changes.g G.kept_changes.F.kp G.kept_changes.b (takes_of rfl rfl rfl rfl) (ja_cons (jv_var (pv 5)) (ja_cons jv_int (ja_cons (jv_var (pv 9)) ja_nil)))))) (pe_cls (by rfl) G.x_NoNumber.g) rel_ref))) (js_one (js_ret jv_bl)) js_nil)
  (js_cons (js_set (i := 10) sc.nd rfl (.inl rfl) (jv_tup (ja_cons jv_int (ja_cons (jv_tup (ja_cons (jv_tup (ja_cons (jv_tup (ja_cons jv_int ja_nil) (Nat.le_of_ble_eq_true rfl)) (ja_cons (jv_tup (ja_cons jv_int ja_nil) (Nat.le_of_ble_eq_true rfl)) ja_nil)) (Nat.le_of_ble_eq_true rfl)) (ja_cons (jv_tup (ja_cons (jv_tup (ja_cons jv_int ja_nil) (Nat.le_of_ble_eq_true rfl)) (ja_cons (jv_tup (ja_cons jv_int (ja_cons jv_int ja_nil)) (Nat.le_of_ble_eq_true rfl)) ja_nil)) (Nat.le_of_ble_eq_true rfl)) ja_nil)) (Nat.le_of_ble_eq_true rfl)) ja_nil)) (Nat.le_of_ble_eq_true rfl)))
  (js_cons (js_set (i := 11) sc.nd rfl (.inl rfl) (jv_ofL (jl_lst (ja_cons (jv_call (g_change_waits G B) (hf.mono (by decide)) (by rfl) G.change_waits.g G.change_waits.F.kp G.change_waits.b tk (ja_cons (jv_var (pv 10)) (ja_cons jv_int (ja_cons jv_int (ja_cons jv_int ja_nil))))) (ja_cons (jv_call (g_change_table G B) (hf.mono (by decide)) (by rfl) G.change_table.g G.change_table.F.kp G.change_table.b tk (ja_cons (jv_var (pv 10)) (ja_cons jv_int ja_nil))) (ja_cons (jv_call (g_worst_change G B) (hf.mono (by decide)) (by rfl) G.worst_change.g G.worst_change.F.kp G.worst_change.b tk (ja_cons (jv_var (pv 10)) (ja_cons jv_int ja_nil))) (ja_cons (jv_call (g_held_gain G B) (hf.mono (by decide)) (by rfl) G.held_gain.g G.held_gain.F.kp G.held_gain.b tk (ja_cons (jv_var (pv 10)) (ja_cons jv_int (ja_cons jv_int (ja_cons jv_int (ja_cons jv_int ja_nil)))))) ja_nil)))) (Nat.le_of_ble_eq_true rfl))))
  (js_one (js_ret (jv_call (g__law_is G B) (hf.mono (by decide)) (by rfl) G._law_is.g G._law_is.F.kp G._law_is.b tk (ja_cons (jv_var (pv 11)) (ja_cons (jv_ofL (jl_lst (ja_cons (jv_tup (ja_cons jv_int ja_nil) (Nat.le_of_ble_eq_true rfl)) (ja_cons (jv_tup (ja_cons (jv_tup (ja_cons jv_int (ja_cons jv_int ja_nil)) (Nat.le_of_ble_eq_true rfl)) (ja_cons (jv_tup (ja_cons jv_int (ja_cons jv_int ja_nil)) (Nat.le_of_ble_eq_true rfl)) ja_nil)) (Nat.le_of_ble_eq_true rfl)) (ja_cons (jv_tup (ja_cons jv_int (ja_cons jv_int (ja_cons jv_int ja_nil))) (Nat.le_of_ble_eq_true rfl)) (ja_cons jv_int ja_nil)))) (Nat.le_of_ble_eq_true rfl))) ja_nil))))))))))))))))))))))))
end
/-! the head -/
def d_is_int : He.DefD := ⟨("is_int", none), "is_int", "is_int", defArgs (topS 6), defBody (topS 6), defScope (topS 6), [], []⟩
def d_is_within : He.DefD := ⟨("is_within", none), "is_within", "is_within", defArgs (topS 7), defBody (topS 7), defScope (topS 7), [], []⟩
def d_is_ints : He.DefD := ⟨("is_ints", none), "is_ints", "is_ints", defArgs (topS 8), defBody (topS 8), defScope (topS 8), [], []⟩
def d_is_lot : He.DefD := ⟨("is_lot", none), "is_lot", "is_lot", defArgs (topS 9), defBody (topS 9), defScope (topS 9), [], []⟩
def d_check_within : He.DefD := ⟨("check_within", none), "check_within", "check_within", defArgs (topS 10), defBody (topS 10), defScope (topS 10), [], []⟩
def d_check_from : He.DefD := ⟨("check_from", none), "check_from", "check_from", defArgs (topS 11), defBody (topS 11), defScope (topS 11), [], []⟩
def d_is_moments : He.DefD := ⟨("is_moments", none), "is_moments", "is_moments", defArgs (topS 17), defBody (topS 17), defScope (topS 17), [], []⟩
def d_is_hub : He.DefD := ⟨("is_hub", none), "is_hub", "is_hub", defArgs (topS 18), defBody (topS 18), defScope (topS 18), [], []⟩
def d_check_hub : He.DefD := ⟨("check_hub", none), "check_hub", "check_hub", defArgs (topS 19), defBody (topS 19), defScope (topS 19), [], []⟩
def d_check_line : He.DefD := ⟨("check_line", none), "check_line", "check_line", defArgs (topS 20), defBody (topS 20), defScope (topS 20), [], []⟩
def d_waits_of : He.DefD := ⟨("waits_of", none), "waits_of", "waits_of", defArgs (topS 21), defBody (topS 21), defScope (topS 21), [], []⟩
def d_change_waits : He.DefD := ⟨("change_waits", none), "change_waits", "change_waits", defArgs (topS 22), defBody (topS 22), defScope (topS 22), [], []⟩
def d_change_table : He.DefD := ⟨("change_table", none), "change_table", "change_table", defArgs (topS 23), defBody (topS 23), defScope (topS 23), [], []⟩
def d_unlike_pairs : He.DefD := ⟨("unlike_pairs", none), "unlike_pairs", "unlike_pairs", defArgs (topS 24), defBody (topS 24), defScope (topS 24), [], []⟩
def d_worst_change : He.DefD := ⟨("worst_change", none), "worst_change", "worst_change", defArgs (topS 25), defBody (topS 25), defScope (topS 25), [], []⟩
def d_kept_changes : He.DefD := ⟨("kept_changes", none), "kept_changes", "kept_changes", defArgs (topS 26), defBody (topS 26), defScope (topS 26), [], []⟩
def d_held_gain : He.DefD := ⟨("held_gain", none), "held_gain", "held_gain", defArgs (topS 27), defBody (topS 27), defScope (topS 27), [], []⟩
def d__law_hand : He.DefD := ⟨("_law_hand", none), "_law_hand", "_law_hand", defArgs (topS 29), defBody (topS 29), defScope (topS 29), [], []⟩
def d__law_draw : He.DefD := ⟨("_law_draw", none), "_law_draw", "_law_draw", defArgs (topS 30), defBody (topS 30), defScope (topS 30), [], []⟩
def d__law_some : He.DefD := ⟨("_law_some", none), "_law_some", "_law_some", defArgs (topS 31), defBody (topS 31), defScope (topS 31), [], []⟩
def d__law_is : He.DefD := ⟨("_law_is", none), "_law_is", "_law_is", defArgs (topS 32), defBody (topS 32), defScope (topS 32), [], []⟩
def d__law_error : He.DefD := ⟨("_law_error", none), "_law_error", "_law_error", defArgs (topS 33), defBody (topS 33), defScope (topS 33), [], []⟩
def d__law_lot : He.DefD := ⟨("_law_lot", none), "_law_lot", "_law_lot", defArgs (topS 34), defBody (topS 34), defScope (topS 34), [], []⟩
def d__law_hub : He.DefD := ⟨("_law_hub", none), "_law_hub", "_law_hub", defArgs (topS 35), defBody (topS 35), defScope (topS 35), [], []⟩
def d__law_waits : He.DefD := ⟨("_law_waits", none), "_law_waits", "_law_waits", defArgs (topS 36), defBody (topS 36), defScope (topS 36), [], []⟩
def d__law_later : He.DefD := ⟨("_law_later", none), "_law_later", "_law_later", defArgs (topS 37), defBody (topS 37), defScope (topS 37), [], []⟩
def d__law_right : He.DefD := ⟨("_law_right", none), "_law_right", "_law_right", defArgs (topS 38), defBody (topS 38), defScope (topS 38), [], []⟩
def d_law : He.DefD := ⟨("law", none), "law", "law", defArgs (topS 39), defBody (topS 39), defScope (topS 39), [], []⟩
def fn : List He.DefD := [d_is_int, d_is_within, d_is_ints, d_is_lot, d_check_within, d_check_from, d_is_moments, d_is_hub, d_check_hub, d_check_line, d_waits_of, d_change_waits, d_change_table, d_unlike_pairs, d_worst_change, d_kept_changes, d_held_gain, d__law_hand, d__law_draw, d__law_some, d__law_is, d__law_error, d__law_lot, d__law_hub, d__law_waits, d__law_later, d__law_right, d_law]
def fa0 : List He.Fa := [.glo "is_int", .glo "is_within", .glo "is_ints", .glo "is_lot", .glo "check_within", .glo "check_from", .glo "is_moments", .glo "is_hub", .glo "check_hub", .glo "check_line", .glo "waits_of", .glo "change_waits", .glo "change_table", .glo "unlike_pairs", .glo "worst_change"]
def fa1 : List He.Fa := [.glo "kept_changes", .glo "held_gain", .glo "_law_hand", .glo "_law_draw", .glo "_law_some", .glo "_law_is", .glo "_law_error", .glo "_law_lot", .glo "_law_hub", .glo "_law_waits", .glo "_law_later", .glo "_law_right", .glo "law", .glo "BadHub", .glo "NoNumber"]
def fa2 : List He.Fa := [.glo "NoPlace", .glo "RoundError", .exc "BadHub", .exc "NoNumber", .exc "NoPlace", .exc "RoundError", .free "abs", .free "all", .free "bool", .free "int", .free "isinstance", .free "len", .free "max", .free "min", .free "range"]
def fa3 : List He.Fa := [.free "repr", .free "sorted", .free "sum", .free "tuple", .free "zip", .int "LEAST_LINES" 2, .int "MOST_CHANGE" 100, .int "MOST_LINES" 8, .int "MOST_PERIOD" 200]
def fa : List He.Fa := fa0 ++ fa1 ++ fa2 ++ fa3
def el0 : List (PySem.W.Frag → Bool) := [fI "BadHub", fK "BadHub" "BadHub" true, fK "BadHub" "NoNumber" false, fK "BadHub" "NoPlace" false, fE "BadHub" "RoundError" true, fI "NoNumber", fK "NoNumber" "BadHub" false, fK "NoNumber" "NoNumber" true, fK "NoNumber" "NoPlace" false, fE "NoNumber" "RoundError" true, fI "NoPlace", fK "NoPlace" "BadHub" false, fK "NoPlace" "NoNumber" false, fK "NoPlace" "NoPlace" true, fE "NoPlace" "RoundError" true]
def el : List (PySem.W.Frag → Bool) := el0
def ex : PySem.W.Frag → Bool := fun K => el.all fun f => f K
def tf : List He.Defn := [("law", none)]
abbrev R : PySem.W.OpenRow := PySem.W.OpenLaw.row PySem.Challenge.rw_steprounds_k71_whole_changing_lines
abbrev hk : PySem.W.Hook := He.hookX 4 fa fn [] tf ex
def ob (s : PySem.W.SharedT) : He.AlX := He.obsX 4 fa fn [] tf ex (HandSHeadRun.getT s)
theorem ob_eq (s : PySem.W.SharedT) : ob s = hk.obs s.abs := He.obsX_eq (HandSHeadRun.getT_eq s)
def names0 : List PySem.Str := ["RoundError", "NoNumber", "NoPlace", "BadHub", "is_int", "is_within", "is_ints", "is_lot", "check_within", "check_from", "MOST_PERIOD", "LEAST_LINES", "MOST_LINES", "MOST_CHANGE", "is_moments"]
def names1 : List PySem.Str := ["is_hub", "check_hub", "check_line", "waits_of", "change_waits", "change_table", "unlike_pairs", "worst_change", "kept_changes", "held_gain", "_law_hand", "_law_draw", "_law_some", "_law_is", "_law_error"]
def names2 : List PySem.Str := ["_law_lot", "_law_hub", "_law_waits", "_law_later", "_law_right"]
def names : List PySem.Str := names0 ++ names1 ++ names2
theorem run (w : World) : HandSHeadRun.RunEq R (PySem.W.view R.prog [39]) hk ob 4000 names w := by
  intro os
  kernel_rfl
theorem facts {w : World} {K : PySem.W.Frag} {h : Heap} {mg : Str → Option Value} (X : K.In h) (G : h.Ns mainGlobals mg) (c : He.SaysX fa fn [] tf ex w h K) :
    ∃ T : Txt K mg, T.law.f = He.ga K "law" ∧ (∀ (s : Shared) (u : Value), BindsTo s T.law.fd ⟨[u], []⟩ [("script", u)]) ∧ (T.l_law.c = (He.cT K ("law", none)).1 ∧ T.l_law.P = (He.cT K ("law", none)).2) := by
  obtain ⟨fd_is_int, F_is_int⟩ := c.t.d.def_ 0 (d := d_is_int) rfl
  obtain ⟨fd_is_within, F_is_within⟩ := c.t.d.def_ 1 (d := d_is_within) rfl
  obtain ⟨fd_is_ints, F_is_ints⟩ := c.t.d.def_ 2 (d := d_is_ints) rfl
  obtain ⟨fd_is_lot, F_is_lot⟩ := c.t.d.def_ 3 (d := d_is_lot) rfl
  obtain ⟨fd_check_within, F_check_within⟩ := c.t.d.def_ 4 (d := d_check_within) rfl
  obtain ⟨fd_check_from, F_check_from⟩ := c.t.d.def_ 5 (d := d_check_from) rfl
  obtain ⟨fd_is_moments, F_is_moments⟩ := c.t.d.def_ 6 (d := d_is_moments) rfl
  obtain ⟨fd_is_hub, F_is_hub⟩ := c.t.d.def_ 7 (d := d_is_hub) rfl
  obtain ⟨fd_check_hub, F_check_hub⟩ := c.t.d.def_ 8 (d := d_check_hub) rfl
  obtain ⟨fd_check_line, F_check_line⟩ := c.t.d.def_ 9 (d := d_check_line) rfl
  obtain ⟨fd_waits_of, F_waits_of⟩ := c.t.d.def_ 10 (d := d_waits_of) rfl
  obtain ⟨fd_change_waits, F_change_waits⟩ := c.t.d.def_ 11 (d := d_change_waits) rfl
  obtain ⟨fd_change_table, F_change_table⟩ := c.t.d.def_ 12 (d := d_change_table) rfl
  obtain ⟨fd_unlike_pairs, F_unlike_pairs⟩ := c.t.d.def_ 13 (d := d_unlike_pairs) rfl
  obtain ⟨fd_worst_change, F_worst_change⟩ := c.t.d.def_ 14 (d := d_worst_change) rfl
  obtain ⟨fd_kept_changes, F_kept_changes⟩ := c.t.d.def_ 15 (d := d_kept_changes) rfl
  obtain ⟨fd_held_gain, F_held_gain⟩ := c.t.d.def_ 16 (d := d_held_gain) rfl
  obtain ⟨fd__law_hand, F__law_hand⟩ := c.t.d.def_ 17 (d := d__law_hand) rfl
  obtain ⟨fd__law_draw, F__law_draw⟩ := c.t.d.def_ 18 (d := d__law_draw) rfl
  obtain ⟨fd__law_some, F__law_some⟩ := c.t.d.def_ 19 (d := d__law_some) rfl
  obtain ⟨fd__law_is, F__law_is⟩ := c.t.d.def_ 20 (d := d__law_is) rfl
  obtain ⟨fd__law_error, F__law_error⟩ := c.t.d.def_ 21 (d := d__law_error) rfl
  obtain ⟨fd__law_lot, F__law_lot⟩ := c.t.d.def_ 22 (d := d__law_lot) rfl
  obtain ⟨fd__law_hub, F__law_hub⟩ := c.t.d.def_ 23 (d := d__law_hub) rfl
  obtain ⟨fd__law_waits, F__law_waits⟩ := c.t.d.def_ 24 (d := d__law_waits) rfl
  obtain ⟨fd__law_later, F__law_later⟩ := c.t.d.def_ 25 (d := d__law_later) rfl
  obtain ⟨fd__law_right, F__law_right⟩ := c.t.d.def_ 26 (d := d__law_right) rfl
  obtain ⟨fd_law, F_law⟩ := c.t.d.def_ 27 (d := d_law) rfl
  exact ⟨{
    is_int := ⟨_, fd_is_int, fun_of F_is_int, He.glo_ok X G (x := "is_int") (c.t.d.fact 0), (fun_of (x := "is_int") (st := topS 6) F_is_int).binds (fun _ _ _ _ _ _ us hl => (match us, hl with | [_], _ => rfl))⟩,
    is_within := ⟨_, fd_is_within, fun_of F_is_within, He.glo_ok X G (x := "is_within") (c.t.d.fact 1), (fun_of (x := "is_within") (st := topS 7) F_is_within).binds (fun _ _ _ _ _ _ us hl => (match us, hl with | [_, _, _], _ => rfl))⟩,
    is_ints := ⟨_, fd_is_ints, fun_of F_is_ints, He.glo_ok X G (x := "is_ints") (c.t.d.fact 2), (fun_of (x := "is_ints") (st := topS 8) F_is_ints).binds (fun _ _ _ _ _ _ us hl => (match us, hl with | [_], _ => rfl))⟩,
    is_lot := ⟨_, fd_is_lot, fun_of F_is_lot, He.glo_ok X G (x := "is_lot") (c.t.d.fact 3), (fun_of (x := "is_lot") (st := topS 9) F_is_lot).binds (fun _ _ _ _ _ _ us hl => (match us, hl with | [_, _], _ => rfl))⟩,
    check_within := ⟨_, fd_check_within, fun_of F_check_within, He.glo_ok X G (x := "check_within") (c.t.d.fact 4), (fun_of (x := "check_within") (st := topS 10) F_check_within).binds (fun _ _ _ _ _ _ us hl => (match us, hl with | [_, _, _], _ => rfl))⟩,
    check_from := ⟨_, fd_check_from, fun_of F_check_from, He.glo_ok X G (x := "check_from") (c.t.d.fact 5), (fun_of (x := "check_from") (st := topS 11) F_check_from).binds (fun _ _ _ _ _ _ us hl => (match us, hl with | [_, _], _ => rfl))⟩,
    is_moments := ⟨_, fd_is_moments, fun_of F_is_moments, He.glo_ok X G (x := "is_moments") (c.t.d.fact 6), (fun_of (x := "is_moments") (st := topS 17) F_is_moments).binds (fun _ _ _ _ _ _ us hl => (match us, hl with | [_, _], _ => rfl))⟩,
    is_hub := ⟨_, fd_is_hub, fun_of F_is_hub, He.glo_ok X G (x := "is_hub") (c.t.d.fact 7), (fun_of (x := "is_hub") (st := topS 18) F_is_hub).binds (fun _ _ _ _ _ _ us hl => (match us, hl with | [_], _ => rfl))⟩,
    check_hub := ⟨_, fd_check_hub, fun_of F_check_hub, He.glo_ok X G (x := "check_hub") (c.t.d.fact 8), (fun_of (x := "check_hub") (st := topS 19) F_check_hub).binds (fun _ _ _ _ _ _ us hl => (match us, hl with | [_, _], _ => rfl))⟩,
    check_line := ⟨_, fd_check_line, fun_of F_check_line, He.glo_ok X G (x := "check_line") (c.t.d.fact 9), (fun_of (x := "check_line") (st := topS 20) F_check_line).binds (fun _ _ _ _ _ _ us hl => (match us, hl with | [_, _], _ => rfl))⟩,
    waits_of := ⟨_, fd_waits_of, fun_of F_waits_of, He.glo_ok X G (x := "waits_of") (c.t.d.fact 10), (fun_of (x := "waits_of") (st := topS 21) F_waits_of).binds (fun _ _ _ _ _ _ us hl => (match us, hl with | [_, _, _, _, _], _ => rfl))⟩,
    change_waits := ⟨_, fd_change_waits, fun_of F_change_waits, He.glo_ok X G (x := "change_waits") (c.t.d.fact 11), (fun_of (x := "change_waits") (st := topS 22) F_change_waits).binds (fun _ _ _ _ _ _ us hl => (match us, hl with | [_, _, _, _], _ => rfl))⟩,
    change_table := ⟨_, fd_change_table, fun_of F_change_table, He.glo_ok X G (x := "change_table") (c.t.d.fact 12), (fun_of (x := "change_table") (st := topS 23) F_change_table).binds (fun _ _ _ _ _ _ us hl => (match us, hl with | [_, _], _ => rfl))⟩,
    unlike_pairs := ⟨_, fd_unlike_pairs, fun_of F_unlike_pairs, He.glo_ok X G (x := "unlike_pairs") (c.t.d.fact 13), (fun_of (x := "unlike_pairs") (st := topS 24) F_unlike_pairs).binds (fun _ _ _ _ _ _ us hl => (match us, hl with | [_], _ => rfl))⟩,
    worst_change := ⟨_, fd_worst_change, fun_of F_worst_change, He.glo_ok X G (x := "worst_change") (c.t.d.fact 14), (fun_of (x := "worst_change") (st := topS 25) F_worst_change).binds (fun _ _ _ _ _ _ us hl => (match us, hl with | [_, _], _ => rfl))⟩,
    kept_changes := ⟨_, fd_kept_changes, fun_of F_kept_changes, He.glo_ok X G (x := "kept_changes") (c.t.d.fact 15), (fun_of (x := "kept_changes") (st := topS 26) F_kept_changes).binds (fun _ _ _ _ _ _ us hl => (match us, hl with | [_, _, _], _ => rfl))⟩,
    held_gain := ⟨_, fd_held_gain, fun_of F_held_gain, He.glo_ok X G (x := "held_gain") (c.t.d.fact 16), (fun_of (x := "held_gain") (st := topS 27) F_held_gain).binds (fun _ _ _ _ _ _ us hl => (match us, hl with | [_, _, _, _, _], _ => rfl))⟩,
    _law_hand := ⟨_, fd__law_hand, fun_of F__law_hand, He.glo_ok X G (x := "_law_hand") (c.t.d.fact 17), (fun_of (x := "_law_hand") (st := topS 29) F__law_hand).binds (fun _ _ _ _ _ _ us hl => (match us, hl with | [_], _ => rfl))⟩,
    _law_draw := ⟨_, fd__law_draw, fun_of F__law_draw, He.glo_ok X G (x := "_law_draw") (c.t.d.fact 18), (fun_of (x := "_law_draw") (st := topS 30) F__law_draw).binds (fun _ _ _ _ _ _ us hl => (match us, hl with | [_, _], _ => rfl))⟩,
    _law_some := ⟨_, fd__law_some, fun_of F__law_some, He.glo_ok X G (x := "_law_some") (c.t.d.fact 19), (fun_of (x := "_law_some") (st := topS 31) F__law_some).binds (fun _ _ _ _ _ _ us hl => (match us, hl with | [_, _], _ => rfl))⟩,
    _law_is := ⟨_, fd__law_is, fun_of F__law_is, He.glo_ok X G (x := "_law_is") (c.t.d.fact 20), (fun_of (x := "_law_is") (st := topS 32) F__law_is).binds (fun _ _ _ _ _ _ us hl => (match us, hl with | [_, _], _ => rfl))⟩,
    _law_error := ⟨_, fd__law_error, fun_of F__law_error, He.glo_ok X G (x := "_law_error") (c.t.d.fact 21), (fun_of (x := "_law_error") (st := topS 33) F__law_error).binds (fun _ _ _ _ _ _ us hl => (match us, hl with | [_], _ => rfl))⟩,
    _law_lot := ⟨_, fd__law_lot, fun_of F__law_lot, He.glo_ok X G (x := "_law_lot") (c.t.d.fact 22), (fun_of (x := "_law_lot") (st := topS 34) F__law_lot).binds (fun _ _ _ _ _ _ us hl => (match us, hl with | [_, _], _ => rfl))⟩,
    _law_hub := ⟨_, fd__law_hub, fun_of F__law_hub, He.glo_ok X G (x := "_law_hub") (c.t.d.fact 23), (fun_of (x := "_law_hub") (st := topS 35) F__law_hub).binds (fun _ _ _ _ _ _ us hl => (match us, hl with | [_], _ => rfl))⟩,
    _law_waits := ⟨_, fd__law_waits, fun_of F__law_waits, He.glo_ok X G (x := "_law_waits") (c.t.d.fact 24), (fun_of (x := "_law_waits") (st := topS 36) F__law_waits).binds (fun _ _ _ _ _ _ us hl => (match us, hl with | [_, _, _, _], _ => rfl))⟩,
    _law_later := ⟨_, fd__law_later, fun_of F__law_later, He.glo_ok X G (x := "_law_later") (c.t.d.fact 25), (fun_of (x := "_law_later") (st := topS 37) F__law_later).binds (fun _ _ _ _ _ _ us hl => (match us, hl with | [_, _, _], _ => rfl))⟩,
    _law_right := ⟨_, fd__law_right, fun_of F__law_right, He.glo_ok X G (x := "_law_right") (c.t.d.fact 26), (fun_of (x := "_law_right") (st := topS 38) F__law_right).binds (fun _ _ _ _ _ _ us hl => (match us, hl with | [_], _ => rfl))⟩,
    law := ⟨_, fd_law, fun_of F_law, He.glo_ok X G (x := "law") (c.t.d.fact 27), (fun_of (x := "law") (st := topS 39) F_law).binds (fun _ _ _ _ _ _ us hl => (match us, hl with | [_], _ => rfl))⟩,
    b_abs := He.free_ok X G (x := "abs") (c.t.d.fact 36),
    b_all := He.free_ok X G (x := "all") (c.t.d.fact 37),
    b_bool := He.free_ok X G (x := "bool") (c.t.d.fact 38),
    b_int := He.free_ok X G (x := "int") (c.t.d.fact 39),
    b_isinstance := He.free_ok X G (x := "isinstance") (c.t.d.fact 40),
    b_len := He.free_ok X G (x := "len") (c.t.d.fact 41),
    b_max := He.free_ok X G (x := "max") (c.t.d.fact 42),
    b_min := He.free_ok X G (x := "min") (c.t.d.fact 43),
    b_range := He.free_ok X G (x := "range") (c.t.d.fact 44),
    b_repr := He.free_ok X G (x := "repr") (c.t.d.fact 45),
    b_sorted := He.free_ok X G (x := "sorted") (c.t.d.fact 46),
    b_sum := He.free_ok X G (x := "sum") (c.t.d.fact 47),
    b_tuple := He.free_ok X G (x := "tuple") (c.t.d.fact 48),
    b_zip := He.free_ok X G (x := "zip") (c.t.d.fact 49),
    c_LEAST_LINES := He.int_ok X G (x := "LEAST_LINES") (c.t.d.fact 50),
    c_MOST_CHANGE := He.int_ok X G (x := "MOST_CHANGE") (c.t.d.fact 51),
    c_MOST_LINES := He.int_ok X G (x := "MOST_LINES") (c.t.d.fact 52),
    c_MOST_PERIOD := He.int_ok X G (x := "MOST_PERIOD") (c.t.d.fact 53),
    x_BadHub := ⟨He.ga K "BadHub", exc_of X G (x := "BadHub") (c.t.d.fact 28) (c.t.d.fact 32), He.glo_ok X G (x := "BadHub") (c.t.d.fact 28)⟩,
    x_NoNumber := ⟨He.ga K "NoNumber", exc_of X G (x := "NoNumber") (c.t.d.fact 29) (c.t.d.fact 33), He.glo_ok X G (x := "NoNumber") (c.t.d.fact 29)⟩,
    x_NoPlace := ⟨He.ga K "NoPlace", exc_of X G (x := "NoPlace") (c.t.d.fact 30) (c.t.d.fact 34), He.glo_ok X G (x := "NoPlace") (c.t.d.fact 30)⟩,
    x_RoundError := ⟨He.ga K "RoundError", exc_of X G (x := "RoundError") (c.t.d.fact 31) (c.t.d.fact 35), He.glo_ok X G (x := "RoundError") (c.t.d.fact 31)⟩,
    l_law := ⟨(He.cT K ("law", none)).1, (He.cT K ("law", none)).2, code_of F_law⟩,
    i_BadHub := all_at c.more 0 (f := fI "BadHub"),
    k_BadHub_BadHub := of_decide_eq_true (all_at c.more 1 (f := fK "BadHub" "BadHub" true)),
    k_BadHub_NoNumber := of_decide_eq_true (all_at c.more 2 (f := fK "BadHub" "NoNumber" false)),
    k_BadHub_NoPlace := of_decide_eq_true (all_at c.more 3 (f := fK "BadHub" "NoPlace" false)),
    e_BadHub_RoundError := of_decide_eq_true (all_at c.more 4 (f := fE "BadHub" "RoundError" true)),
    i_NoNumber := all_at c.more 5 (f := fI "NoNumber"),
    k_NoNumber_BadHub := of_decide_eq_true (all_at c.more 6 (f := fK "NoNumber" "BadHub" false)),
    k_NoNumber_NoNumber := of_decide_eq_true (all_at c.more 7 (f := fK "NoNumber" "NoNumber" true)),
    k_NoNumber_NoPlace := of_decide_eq_true (all_at c.more 8 (f := fK "NoNumber" "NoPlace" false)),
    e_NoNumber_RoundError := of_decide_eq_true (all_at c.more 9 (f := fE "NoNumber" "RoundError" true)),
    i_NoPlace := all_at c.more 10 (f := fI "NoPlace"),
    k_NoPlace_BadHub := of_decide_eq_true (all_at c.more 11 (f := fK "NoPlace" "BadHub" false)),
    k_NoPlace_NoNumber := of_decide_eq_true (all_at c.more 12 (f := fK "NoPlace" "NoNumber" false)),
    k_NoPlace_NoPlace := of_decide_eq_true (all_at c.more 13 (f := fK "NoPlace" "NoPlace" true)),
    e_NoPlace_RoundError := of_decide_eq_true (all_at c.more 14 (f := fE "NoPlace" "RoundError" true)) }, rfl, fun s v => FunD.bindsA (ps := ["script"]) F_law (fun _ _ _ _ _ _ us hl => (match us, hl with | [_], _ => rfl)) s [v] rfl, ⟨rfl, rfl⟩⟩
/-- what is left: the mirror's answer -/
theorem holds_of (hm : ∀ {K : PySem.W.Frag} {mg : Str → Option Value} (G : Txt K mg) (ns : List Int), (ns.length ≤ 63 ∧ ∀ z ∈ ns, Builtin.Int.intBits z ≤ 1048576) → ∃ S', m_law G (lawS 13 ns) = .ok (.rt (.v (.bl true))) S') : PySem.Challenge.rw_steprounds_k71_whole_changing_lines.Holds := by
  w_on; o_law
  refine HandSHeadRun.head_any (r := PySem.W.OpenLaw.row PySem.Challenge.rw_steprounds_k71_whole_changing_lines) (q := PySem.W.view (PySem.W.OpenLaw.row PySem.Challenge.rw_steprounds_k71_whole_changing_lines).prog [39]) (H := hk) (ob := ob) (M := 4000) (loose := names) (d := HandSHeadRun.topDef (PySem.W.OpenLaw.row PySem.Challenge.rw_steprounds_k71_whole_changing_lines).prog 39) (kwd := []) ob_eq
    (by kernel_rfl) (fun s => by kernel_rfl) run (by kernel_rfl) (by kernel_rfl) (by kernel_rfl) (by rfl) (by first | assumption | decide +kernel) (by decide +kernel) ⟨rfl, rfl, rfl, rfl, rfl, by decide +kernel⟩ ?hw ?hc
  case hw => w_witness2
  case hc =>
    refine walk_G (l := PySem.Challenge.rw_steprounds_k71_whole_changing_lines) (n := 63) (k := 10) (x := "script") rfl (by decide) (by kernel_rfl) ⟨rfl, by decide, by decide⟩ ?F
    intro w mg fa h Y G hmg0
    obtain ⟨K, KX, c⟩ := Y
    have hmg : mg ("law" : PySem.Str) = some (.ref fa) := by
      have e : (HandSHeadRun.topDef (PySem.W.OpenLaw.row PySem.Challenge.rw_steprounds_k71_whole_changing_lines).prog 39).name = ("law" : PySem.Str) := by kernel_rfl
      rw [← e]
      exact hmg0
    obtain ⟨T, hf, hb, ht_law⟩ := facts KX G c
    have e := hmg.symm.trans T.law.g
    injection e with e
    injection e with e
    subst e
    refine ⟨K, T.law.fd, tf.map (He.cT K), TT T, KX, fun p hp => ?_, fun p hp => ?_, fun p hp => ?_, fun p hp => ?_, hb, fun base TB => g_law T ?_ _ (hm T)⟩
    · obtain ⟨q, hq, rfl⟩ := List.mem_map.mp hp; exact c.empty q hq
    · obtain ⟨q, hq, rfl⟩ := List.mem_map.mp hp; exact c.out q hq
    · obtain ⟨q, hq, rfl⟩ := List.mem_map.mp hp; exact c.hd q hq
    · simp only [TT, List.mem_cons, List.not_mem_nil, or_false] at hp
      subst hp
      exact ⟨(He.cT K ("law", none)).1, by rw [ht_law.2]; exact List.mem_map_of_mem (f := He.cT K) (a := (("law", none) : He.Defn)) (.head _)⟩
    · exact ⟨by have z := TB (He.cT K ("law", none)) (List.mem_map_of_mem (f := He.cT K) (a := (("law", none) : He.Defn)) (.head _)); rw [← ht_law.1, ← ht_law.2] at z; exact z⟩
end FX.K71

set_option Elab.async false
set_option linter.all false
set_option maxRecDepth 100000
set_option maxHeartbeats 4000000
namespace FX.K71
open PySem PySem.Spec PyProof.Rows L2 LamX FX
section
variable {K : PySem.W.Frag} {mg : Str → Option Value}
/-! ### draws -/
theorem draw_ok (G : Txt K mg) {hc : List D} {n : Int} (h : GoodH hc) (h0 : 0 < n) (h1 : n < 2 ^ 62) : foP (r__law_draw G hc [.int n]) fun r hc' => ∃ k, r = .v (.int k) ∧ 0 ≤ k ∧ k < n ∧ GoodH hc' := by
  obtain ⟨cells, p, b, s, c, rfl, hz, hp, hb, hs, hcn⟩ := h
  refine runH_of ⟨[.hnd, .val (.int n), .un, .un, .un], _⟩ rfl ?_
  have fin : ∀ (m p b s c : Int), 0 ≤ p → 0 ≤ b → 0 ≤ s → 0 ≤ c → ∃ k, Rv.v (.int (m % n)) = Rv.v (.int k) ∧ 0 ≤ k ∧ k < n ∧ GoodH [.lst (cells.map .int), .int p, .int b, .int s, .int c] := fun m p b s c hp hb hs hc =>
    ⟨_, rfl, Int.emod_nonneg _ (by omega), Int.emod_lt_of_pos _ h0, cells, p, b, s, c, rfl, hz, hp, hb, hs, hc⟩
  have dv : ∀ {x : Int}, 0 ≤ x → 0 ≤ x / n := fun h => Int.ediv_nonneg h (by omega)
  unfold m__law_draw
  simp -implicitDefEqProofs (disch := omega) only [↓wp_bnd, ↓wp_ret, ↓wp_vV, ↓wp_vB, ↓wp_vL, ↓wp_hix, ↓wp_b1, ↓wp_b2, ↓wp_ifM, ↓wp_notM, ↓wp_andM, ↓wp_orM, ↓wp_asB, ↓wp_asI, ↓wp_notV, ↓wp_andV, ↓wp_orV, ↓wp_sq0, ↓wp_sq, ↓wp_tupM, ↓wp_frz, ↓wp_chM, ↓wp_sqS, ↓wp_seV, ↓wp_seL, ↓wp_asM, ↓wp_paM, ↓wp_paM3, ↓wp_paR2, ↓wp_paR3, ↓wp_rvM, ↓wp_rlM, ↓rv_v, ↓rv_l, ↓wp_shM, ↓wp_apM, ↓wp_exM, ↓wp_siM, ↓wp_clV, ↓wp_clL, ↓wp_hdM, ↓wp_chV, ↓wp_chL, ↓wp_itM, ↓wp_itA, ↓wp_rg1M, ↓wp_rg2M, ↓wp_zpM, ↓wp_enM, ↓wp_isiM, ↓wp_someM, ↓wp_sl3, ↓wp_frM, ↓wp_lc, ↓wp_agM, ↓wipP1, ↓wipP2, ↓wipP3, ↓bacP1, ↓bacP2, ↓bacP3, ↓spK0, ↓spK1, ↓spK2, ↓foP_ret, ↓rdP_v, ↓rdP_l, ↓lsP_l, ↓blP_bl, ↓inP_int, ↓vlP_val, ↓vlP_own, ↓hdP_hnd, ↓sqP_lst, ↓sqP_tup, ↓sqP_scr, ↓saP_lst, ↓saP_tup, ↓saP_rng, ↓ctP_nx, ↓ctP_rt, ↓ctP_bk, ↓ctP_ct, ↓lpP_nx, ↓lpP_ct, ↓lpP_bk, ↓lpP_rt, ↓zpP_lst, ↓zpP_tup, ↓enP_lst, ↓exP_lst, ↓tgP_V, ↓tgP_T, ↓tgsP_nil, ↓tgsP_cons, ↓rgP_ok, ↓iteP_true, ↓iteP_false, ↓iteP_t, ↓iteP_f, ↓iteP_nt, ↓iteP_nf, ↓hhP_eq, ↓opP_some, ↓pAdd, ↓pSub, ↓pNeg, ↓pMulR, ↓pMulL, ↓pMod, ↓pDiv, ↓p1018, ↓pLt, ↓pLe, ↓pGt, ↓pGe, ↓pOpB, ↓pEq, ↓pNe, ↓pIs0, ↓pIs1, ↓pIs2, ↓pIs3, ↓pIs4, ↓pIn0, ↓pIn1, ↓pIn2, ↓pIn3, ↓pIn4, ↓pLen1, ↓pLen2, ↓pLen3, ↓pInt, ↓pAbs, ↓pTup1, ↓pTup2, ↓pLst1, ↓pLst2, ↓pLst3, ↓pRng, ↓pSl1, ↓pSl2, ↓pSl3, ↓isi_int_non, ↓isi_int_bl, ↓isi_int_int, ↓isi_int_str, ↓isi_int_tup, ↓isi_int_lst, ↓isi_int_dic, ↓isi_bool_non, ↓isi_bool_bl, ↓isi_bool_int, ↓isi_bool_str, ↓isi_bool_tup, ↓isi_bool_lst, ↓isi_bool_dic, ↓isi_str_non, ↓isi_str_bl, ↓isi_str_int, ↓isi_str_str, ↓isi_str_tup, ↓isi_str_lst, ↓isi_str_dic, ↓isi_tuple_non, ↓isi_tuple_bl, ↓isi_tuple_int, ↓isi_tuple_str, ↓isi_tuple_tup, ↓isi_tuple_lst, ↓isi_tuple_dic, ↓isi_list_non, ↓isi_list_bl, ↓isi_list_int, ↓isi_list_str, ↓isi_list_tup, ↓isi_list_lst, ↓isi_list_dic, ↓isi_dict_non, ↓isi_dict_bl, ↓isi_dict_int, ↓isi_dict_str, ↓isi_dict_tup, ↓isi_dict_lst, ↓isi_dict_dic, ↓ixt0, ↓ixt1, ↓ixt2, ↓ixt3, ↓ixt4, ↓ixt5, ↓ixt6, ↓ixt7, ↓ixt8, ↓ixl0, ↓ixl1, ↓ixl2, ↓ixl3, ↓ixl4, ↓ixl5, ↓ixl6, ↓ixl7, ↓ixl8, ↓FX.gp0, ↓FX.gp1, ↓FX.gp2, ↓FX.gp3, ↓FX.gp4, ↓FX.gp5, ↓FX.gp6, ↓FX.gp7, ↓FX.gp8, ↓FX.gp9, ↓FX.gp10, ↓FX.gp11, ↓FX.gp12, ↓FX.gp13, ↓FX.gp14, ↓FX.gp15, ↓FX.gp16, ↓FX.gp17, ↓FX.gp18, ↓FX.gp19, ↓FX.gp20, ↓FX.gp21, ↓FX.gp22, ↓FX.gp23, ↓FX.gp24, ↓FX.gp25, ↓FX.gp26, ↓FX.gp27, ↓FX.gp28, ↓FX.gp29, ↓FX.gp30, ↓FX.gp31, ↓FX.gp32, ↓FX.gp33, ↓FX.sp0, ↓FX.sp1, ↓FX.sp2, ↓FX.sp3, ↓FX.sp4, ↓FX.sp5, ↓FX.sp6, ↓FX.sp7, ↓FX.sp8, ↓FX.sp9, ↓FX.sp10, ↓FX.sp11, ↓FX.sp12, ↓FX.sp13, ↓FX.sp14, ↓FX.sp15, ↓FX.sp16, ↓FX.sp17, ↓FX.sp18, ↓FX.sp19, ↓FX.sp20, ↓FX.sp21, ↓FX.sp22, ↓FX.sp23, ↓FX.sp24, ↓FX.sp25, ↓FX.sp26, ↓FX.sp27, ↓FX.sp28, ↓FX.sp29, ↓FX.sp30, ↓FX.sp31, ↓FX.sp32, ↓FX.sp33, ↓FX.hp0, ↓FX.hp1, ↓FX.hp2, ↓FX.hp3, ↓FX.hp4, ↓FX.wp0, ↓FX.wp1, ↓FX.wp2, ↓FX.wp3, ↓FX.wp4, end_rt, end_nx, ↓tgQ_eq, Bool.not_true, Bool.not_false, and_self, and_true, true_and, List.length_map]
  refine iteP_dec (fun e => ?_) fun e => ?_
  · refine iteP_dec (fun hl => ?_) fun hl => iteP_dec (fun _ => fin _ _ _ _ _ hp (dv hb) hs hcn) fun _ => fin _ _ _ _ _ hp hb hs (by omega)
    have hi : p.toNat < cells.length := by omega
    have hx : (cells.map D.int)[p.toNat]? = some (.int cells[p.toNat]) := by rw [List.getElem?_map, List.getElem?_eq_getElem hi]; rfl
    have hn := hz _ (List.getElem_mem hi)
    generalize cells[p.toNat] = x at hx hn
    rw [pIxL hx (by omega)]
    simp -implicitDefEqProofs (disch := omega) only [↓wp_bnd, ↓wp_ret, ↓wp_vV, ↓wp_vB, ↓wp_vL, ↓wp_hix, ↓wp_b1, ↓wp_b2, ↓wp_ifM, ↓wp_notM, ↓wp_andM, ↓wp_orM, ↓wp_asB, ↓wp_asI, ↓wp_notV, ↓wp_andV, ↓wp_orV, ↓wp_sq0, ↓wp_sq, ↓wp_tupM, ↓wp_frz, ↓wp_chM, ↓wp_sqS, ↓wp_seV, ↓wp_seL, ↓wp_asM, ↓wp_paM, ↓wp_paM3, ↓wp_paR2, ↓wp_paR3, ↓wp_rvM, ↓wp_rlM, ↓rv_v, ↓rv_l, ↓wp_shM, ↓wp_apM, ↓wp_exM, ↓wp_siM, ↓wp_clV, ↓wp_clL, ↓wp_hdM, ↓wp_chV, ↓wp_chL, ↓wp_itM, ↓wp_itA, ↓wp_rg1M, ↓wp_rg2M, ↓wp_zpM, ↓wp_enM, ↓wp_isiM, ↓wp_someM, ↓wp_sl3, ↓wp_frM, ↓wp_lc, ↓wp_agM, ↓wipP1, ↓wipP2, ↓wipP3, ↓bacP1, ↓bacP2, ↓bacP3, ↓spK0, ↓spK1, ↓spK2, ↓foP_ret, ↓rdP_v, ↓rdP_l, ↓lsP_l, ↓blP_bl, ↓inP_int, ↓vlP_val, ↓vlP_own, ↓hdP_hnd, ↓sqP_lst, ↓sqP_tup, ↓sqP_scr, ↓saP_lst, ↓saP_tup, ↓saP_rng, ↓ctP_nx, ↓ctP_rt, ↓ctP_bk, ↓ctP_ct, ↓lpP_nx, ↓lpP_ct, ↓lpP_bk, ↓lpP_rt, ↓zpP_lst, ↓zpP_tup, ↓enP_lst, ↓exP_lst, ↓tgP_V, ↓tgP_T, ↓tgsP_nil, ↓tgsP_cons, ↓rgP_ok, ↓iteP_true, ↓iteP_false, ↓iteP_t, ↓iteP_f, ↓iteP_nt, ↓iteP_nf, ↓hhP_eq, ↓opP_some, ↓pAdd, ↓pSub, ↓pNeg, ↓pMulR, ↓pMulL, ↓pMod, ↓pDiv, ↓p1018, ↓pLt, ↓pLe, ↓pGt, ↓pGe, ↓pOpB, ↓pEq, ↓pNe, ↓pIs0, ↓pIs1, ↓pIs2, ↓pIs3, ↓pIs4, ↓pIn0, ↓pIn1, ↓pIn2, ↓pIn3, ↓pIn4, ↓pLen1, ↓pLen2, ↓pLen3, ↓pInt, ↓pAbs, ↓pTup1, ↓pTup2, ↓pLst1, ↓pLst2, ↓pLst3, ↓pRng, ↓pSl1, ↓pSl2, ↓pSl3, ↓isi_int_non, ↓isi_int_bl, ↓isi_int_int, ↓isi_int_str, ↓isi_int_tup, ↓isi_int_lst, ↓isi_int_dic, ↓isi_bool_non, ↓isi_bool_bl, ↓isi_bool_int, ↓isi_bool_str, ↓isi_bool_tup, ↓isi_bool_lst, ↓isi_bool_dic, ↓isi_str_non, ↓isi_str_bl, ↓isi_str_int, ↓isi_str_str, ↓isi_str_tup, ↓isi_str_lst, ↓isi_str_dic, ↓isi_tuple_non, ↓isi_tuple_bl, ↓isi_tuple_int, ↓isi_tuple_str, ↓isi_tuple_tup, ↓isi_tuple_lst, ↓isi_tuple_dic, ↓isi_list_non, ↓isi_list_bl, ↓isi_list_int, ↓isi_list_str, ↓isi_list_tup, ↓isi_list_lst, ↓isi_list_dic, ↓isi_dict_non, ↓isi_dict_bl, ↓isi_dict_int, ↓isi_dict_str, ↓isi_dict_tup, ↓isi_dict_lst, ↓isi_dict_dic, ↓ixt0, ↓ixt1, ↓ixt2, ↓ixt3, ↓ixt4, ↓ixt5, ↓ixt6, ↓ixt7, ↓ixt8, ↓ixl0, ↓ixl1, ↓ixl2, ↓ixl3, ↓ixl4, ↓ixl5, ↓ixl6, ↓ixl7, ↓ixl8, ↓FX.gp0, ↓FX.gp1, ↓FX.gp2, ↓FX.gp3, ↓FX.gp4, ↓FX.gp5, ↓FX.gp6, ↓FX.gp7, ↓FX.gp8, ↓FX.gp9, ↓FX.gp10, ↓FX.gp11, ↓FX.gp12, ↓FX.gp13, ↓FX.gp14, ↓FX.gp15, ↓FX.gp16, ↓FX.gp17, ↓FX.gp18, ↓FX.gp19, ↓FX.gp20, ↓FX.gp21, ↓FX.gp22, ↓FX.gp23, ↓FX.gp24, ↓FX.gp25, ↓FX.gp26, ↓FX.gp27, ↓FX.gp28, ↓FX.gp29, ↓FX.gp30, ↓FX.gp31, ↓FX.gp32, ↓FX.gp33, ↓FX.sp0, ↓FX.sp1, ↓FX.sp2, ↓FX.sp3, ↓FX.sp4, ↓FX.sp5, ↓FX.sp6, ↓FX.sp7, ↓FX.sp8, ↓FX.sp9, ↓FX.sp10, ↓FX.sp11, ↓FX.sp12, ↓FX.sp13, ↓FX.sp14, ↓FX.sp15, ↓FX.sp16, ↓FX.sp17, ↓FX.sp18, ↓FX.sp19, ↓FX.sp20, ↓FX.sp21, ↓FX.sp22, ↓FX.sp23, ↓FX.sp24, ↓FX.sp25, ↓FX.sp26, ↓FX.sp27, ↓FX.sp28, ↓FX.sp29, ↓FX.sp30, ↓FX.sp31, ↓FX.sp32, ↓FX.sp33, ↓FX.hp0, ↓FX.hp1, ↓FX.hp2, ↓FX.hp3, ↓FX.hp4, ↓FX.wp0, ↓FX.wp1, ↓FX.wp2, ↓FX.wp3, ↓FX.wp4, end_rt, end_nx, ↓tgQ_eq, Bool.not_true, Bool.not_false, and_self, and_true, true_and]
    have h4 : 0 ≤ (s * 69621 + x * 48271 + 17) % 2147483629 := Int.emod_nonneg _ (by decide)
    refine iteP_dec (fun _ => ?_) fun _ => fin _ _ _ _ _ (by omega) hb h4 (by omega)
    simp -implicitDefEqProofs (disch := omega) only [↓wp_bnd, ↓wp_ret, ↓wp_vV, ↓wp_vB, ↓wp_vL, ↓wp_hix, ↓wp_b1, ↓wp_b2, ↓wp_ifM, ↓wp_notM, ↓wp_andM, ↓wp_orM, ↓wp_asB, ↓wp_asI, ↓wp_notV, ↓wp_andV, ↓wp_orV, ↓wp_sq0, ↓wp_sq, ↓wp_tupM, ↓wp_frz, ↓wp_chM, ↓wp_sqS, ↓wp_seV, ↓wp_seL, ↓wp_asM, ↓wp_paM, ↓wp_paM3, ↓wp_paR2, ↓wp_paR3, ↓wp_rvM, ↓wp_rlM, ↓rv_v, ↓rv_l, ↓wp_shM, ↓wp_apM, ↓wp_exM, ↓wp_siM, ↓wp_clV, ↓wp_clL, ↓wp_hdM, ↓wp_chV, ↓wp_chL, ↓wp_itM, ↓wp_itA, ↓wp_rg1M, ↓wp_rg2M, ↓wp_zpM, ↓wp_enM, ↓wp_isiM, ↓wp_someM, ↓wp_sl3, ↓wp_frM, ↓wp_lc, ↓wp_agM, ↓wipP1, ↓wipP2, ↓wipP3, ↓bacP1, ↓bacP2, ↓bacP3, ↓spK0, ↓spK1, ↓spK2, ↓foP_ret, ↓rdP_v, ↓rdP_l, ↓lsP_l, ↓blP_bl, ↓inP_int, ↓vlP_val, ↓vlP_own, ↓hdP_hnd, ↓sqP_lst, ↓sqP_tup, ↓sqP_scr, ↓saP_lst, ↓saP_tup, ↓saP_rng, ↓ctP_nx, ↓ctP_rt, ↓ctP_bk, ↓ctP_ct, ↓lpP_nx, ↓lpP_ct, ↓lpP_bk, ↓lpP_rt, ↓zpP_lst, ↓zpP_tup, ↓enP_lst, ↓exP_lst, ↓tgP_V, ↓tgP_T, ↓tgsP_nil, ↓tgsP_cons, ↓rgP_ok, ↓iteP_true, ↓iteP_false, ↓iteP_t, ↓iteP_f, ↓iteP_nt, ↓iteP_nf, ↓hhP_eq, ↓opP_some, ↓pAdd, ↓pSub, ↓pNeg, ↓pMulR, ↓pMulL, ↓pMod, ↓pDiv, ↓p1018, ↓pLt, ↓pLe, ↓pGt, ↓pGe, ↓pOpB, ↓pEq, ↓pNe, ↓pIs0, ↓pIs1, ↓pIs2, ↓pIs3, ↓pIs4, ↓pIn0, ↓pIn1, ↓pIn2, ↓pIn3, ↓pIn4, ↓pLen1, ↓pLen2, ↓pLen3, ↓pInt, ↓pAbs, ↓pTup1, ↓pTup2, ↓pLst1, ↓pLst2, ↓pLst3, ↓pRng, ↓pSl1, ↓pSl2, ↓pSl3, ↓isi_int_non, ↓isi_int_bl, ↓isi_int_int, ↓isi_int_str, ↓isi_int_tup, ↓isi_int_lst, ↓isi_int_dic, ↓isi_bool_non, ↓isi_bool_bl, ↓isi_bool_int, ↓isi_bool_str, ↓isi_bool_tup, ↓isi_bool_lst, ↓isi_bool_dic, ↓isi_str_non, ↓isi_str_bl, ↓isi_str_int, ↓isi_str_str, ↓isi_str_tup, ↓isi_str_lst, ↓isi_str_dic, ↓isi_tuple_non, ↓isi_tuple_bl, ↓isi_tuple_int, ↓isi_tuple_str, ↓isi_tuple_tup, ↓isi_tuple_lst, ↓isi_tuple_dic, ↓isi_list_non, ↓isi_list_bl, ↓isi_list_int, ↓isi_list_str, ↓isi_list_tup, ↓isi_list_lst, ↓isi_list_dic, ↓isi_dict_non, ↓isi_dict_bl, ↓isi_dict_int, ↓isi_dict_str, ↓isi_dict_tup, ↓isi_dict_lst, ↓isi_dict_dic, ↓ixt0, ↓ixt1, ↓ixt2, ↓ixt3, ↓ixt4, ↓ixt5, ↓ixt6, ↓ixt7, ↓ixt8, ↓ixl0, ↓ixl1, ↓ixl2, ↓ixl3, ↓ixl4, ↓ixl5, ↓ixl6, ↓ixl7, ↓ixl8, ↓FX.gp0, ↓FX.gp1, ↓FX.gp2, ↓FX.gp3, ↓FX.gp4, ↓FX.gp5, ↓FX.gp6, ↓FX.gp7, ↓FX.gp8, ↓FX.gp9, ↓FX.gp10, ↓FX.gp11, ↓FX.gp12, ↓FX.gp13, ↓FX.gp14, ↓FX.gp15, ↓FX.gp16, ↓FX.gp17, ↓FX.gp18, ↓FX.gp19, ↓FX.gp20, ↓FX.gp21, ↓FX.gp22, ↓FX.gp23, ↓FX.gp24, ↓FX.gp25, ↓FX.gp26, ↓FX.gp27, ↓FX.gp28, ↓FX.gp29, ↓FX.gp30, ↓FX.gp31, ↓FX.gp32, ↓FX.gp33, ↓FX.sp0, ↓FX.sp1, ↓FX.sp2, ↓FX.sp3, ↓FX.sp4, ↓FX.sp5, ↓FX.sp6, ↓FX.sp7, ↓FX.sp8, ↓FX.sp9, ↓FX.sp10, ↓FX.sp11, ↓FX.sp12, ↓FX.sp13, ↓FX.sp14, ↓FX.sp15, ↓FX.sp16, ↓FX.sp17, ↓FX.sp18, ↓FX.sp19, ↓FX.sp20, ↓FX.sp21, ↓FX.sp22, ↓FX.sp23, ↓FX.sp24, ↓FX.sp25, ↓FX.sp26, ↓FX.sp27, ↓FX.sp28, ↓FX.sp29, ↓FX.sp30, ↓FX.sp31, ↓FX.sp32, ↓FX.sp33, ↓FX.hp0, ↓FX.hp1, ↓FX.hp2, ↓FX.hp3, ↓FX.hp4, ↓FX.wp0, ↓FX.wp1, ↓FX.wp2, ↓FX.wp3, ↓FX.wp4, end_rt, end_nx, ↓tgQ_eq, Bool.not_true, Bool.not_false, and_self, and_true, true_and]
    exact fin _ _ _ _ _ (by omega) (dv hn) h4 hcn
  · exact iteP_dec (fun _ => fin _ _ _ _ _ hp (dv hb) hs hcn) fun _ => fin _ _ _ _ _ hp hb hs (by omega)

end
end FX.K71

set_option Elab.async false
set_option linter.all false
set_option maxRecDepth 100000
set_option maxHeartbeats 4000000
namespace FX.K71
open PySem PySem.Spec PyProof.Rows L2 LamX FX
section
variable {K : PySem.W.Frag} {mg : Str → Option Value}
/-! ### the program's functions -/
theorem is_int_ok (G : Txt K mg) (i : Int) : r_is_int G [.int i] = .ret (.v (.bl true)) [] := rfl
theorem is_within_ok (G : Txt K mg) {i a b : Int} (h1 : a ≤ i) (h2 : i ≤ b) : r_is_within G [.int i, .int a, .int b] = .ret (.v (.bl true)) [] := by
  refine runP_of ⟨[.val (.int i), .val (.int a), .val (.int b)], []⟩ rfl ?_
  unfold m_is_within
  simp -implicitDefEqProofs (disch := omega) only [↓wp_bnd, ↓wp_ret, ↓wp_vV, ↓wp_vB, ↓wp_vL, ↓wp_hix, ↓wp_b1, ↓wp_b2, ↓wp_ifM, ↓wp_notM, ↓wp_andM, ↓wp_orM, ↓wp_asB, ↓wp_asI, ↓wp_notV, ↓wp_andV, ↓wp_orV, ↓wp_sq0, ↓wp_sq, ↓wp_tupM, ↓wp_frz, ↓wp_chM, ↓wp_sqS, ↓wp_seV, ↓wp_seL, ↓wp_asM, ↓wp_paM, ↓wp_paM3, ↓wp_paR2, ↓wp_paR3, ↓wp_rvM, ↓wp_rlM, ↓rv_v, ↓rv_l, ↓wp_shM, ↓wp_apM, ↓wp_exM, ↓wp_siM, ↓wp_clV, ↓wp_clL, ↓wp_hdM, ↓wp_chV, ↓wp_chL, ↓wp_itM, ↓wp_itA, ↓wp_rg1M, ↓wp_rg2M, ↓wp_zpM, ↓wp_enM, ↓wp_isiM, ↓wp_someM, ↓wp_sl3, ↓wp_frM, ↓wp_lc, ↓wp_agM, ↓wipP1, ↓wipP2, ↓wipP3, ↓bacP1, ↓bacP2, ↓bacP3, ↓spK0, ↓spK1, ↓spK2, ↓foP_ret, ↓rdP_v, ↓rdP_l, ↓lsP_l, ↓blP_bl, ↓inP_int, ↓vlP_val, ↓vlP_own, ↓hdP_hnd, ↓sqP_lst, ↓sqP_tup, ↓sqP_scr, ↓saP_lst, ↓saP_tup, ↓saP_rng, ↓ctP_nx, ↓ctP_rt, ↓ctP_bk, ↓ctP_ct, ↓lpP_nx, ↓lpP_ct, ↓lpP_bk, ↓lpP_rt, ↓zpP_lst, ↓zpP_tup, ↓enP_lst, ↓exP_lst, ↓tgP_V, ↓tgP_T, ↓tgsP_nil, ↓tgsP_cons, ↓rgP_ok, ↓iteP_true, ↓iteP_false, ↓iteP_t, ↓iteP_f, ↓iteP_nt, ↓iteP_nf, ↓hhP_eq, ↓opP_some, ↓pAdd, ↓pSub, ↓pNeg, ↓pMulR, ↓pMulL, ↓pMod, ↓pDiv, ↓p1018, ↓pLt, ↓pLe, ↓pGt, ↓pGe, ↓pOpB, ↓pEq, ↓pNe, ↓pIs0, ↓pIs1, ↓pIs2, ↓pIs3, ↓pIs4, ↓pIn0, ↓pIn1, ↓pIn2, ↓pIn3, ↓pIn4, ↓pLen1, ↓pLen2, ↓pLen3, ↓pInt, ↓pAbs, ↓pTup1, ↓pTup2, ↓pLst1, ↓pLst2, ↓pLst3, ↓pRng, ↓pSl1, ↓pSl2, ↓pSl3, ↓isi_int_non, ↓isi_int_bl, ↓isi_int_int, ↓isi_int_str, ↓isi_int_tup, ↓isi_int_lst, ↓isi_int_dic, ↓isi_bool_non, ↓isi_bool_bl, ↓isi_bool_int, ↓isi_bool_str, ↓isi_bool_tup, ↓isi_bool_lst, ↓isi_bool_dic, ↓isi_str_non, ↓isi_str_bl, ↓isi_str_int, ↓isi_str_str, ↓isi_str_tup, ↓isi_str_lst, ↓isi_str_dic, ↓isi_tuple_non, ↓isi_tuple_bl, ↓isi_tuple_int, ↓isi_tuple_str, ↓isi_tuple_tup, ↓isi_tuple_lst, ↓isi_tuple_dic, ↓isi_list_non, ↓isi_list_bl, ↓isi_list_int, ↓isi_list_str, ↓isi_list_tup, ↓isi_list_lst, ↓isi_list_dic, ↓isi_dict_non, ↓isi_dict_bl, ↓isi_dict_int, ↓isi_dict_str, ↓isi_dict_tup, ↓isi_dict_lst, ↓isi_dict_dic, ↓ixt0, ↓ixt1, ↓ixt2, ↓ixt3, ↓ixt4, ↓ixt5, ↓ixt6, ↓ixt7, ↓ixt8, ↓ixl0, ↓ixl1, ↓ixl2, ↓ixl3, ↓ixl4, ↓ixl5, ↓ixl6, ↓ixl7, ↓ixl8, ↓FX.gp0, ↓FX.gp1, ↓FX.gp2, ↓FX.gp3, ↓FX.gp4, ↓FX.gp5, ↓FX.gp6, ↓FX.gp7, ↓FX.gp8, ↓FX.gp9, ↓FX.gp10, ↓FX.gp11, ↓FX.gp12, ↓FX.gp13, ↓FX.gp14, ↓FX.gp15, ↓FX.gp16, ↓FX.gp17, ↓FX.gp18, ↓FX.gp19, ↓FX.gp20, ↓FX.gp21, ↓FX.gp22, ↓FX.gp23, ↓FX.gp24, ↓FX.gp25, ↓FX.gp26, ↓FX.gp27, ↓FX.gp28, ↓FX.gp29, ↓FX.gp30, ↓FX.gp31, ↓FX.gp32, ↓FX.gp33, ↓FX.sp0, ↓FX.sp1, ↓FX.sp2, ↓FX.sp3, ↓FX.sp4, ↓FX.sp5, ↓FX.sp6, ↓FX.sp7, ↓FX.sp8, ↓FX.sp9, ↓FX.sp10, ↓FX.sp11, ↓FX.sp12, ↓FX.sp13, ↓FX.sp14, ↓FX.sp15, ↓FX.sp16, ↓FX.sp17, ↓FX.sp18, ↓FX.sp19, ↓FX.sp20, ↓FX.sp21, ↓FX.sp22, ↓FX.sp23, ↓FX.sp24, ↓FX.sp25, ↓FX.sp26, ↓FX.sp27, ↓FX.sp28, ↓FX.sp29, ↓FX.sp30, ↓FX.sp31, ↓FX.sp32, ↓FX.sp33, ↓FX.hp0, ↓FX.hp1, ↓FX.hp2, ↓FX.hp3, ↓FX.hp4, ↓FX.wp0, ↓FX.wp1, ↓FX.wp2, ↓FX.wp3, ↓FX.wp4, end_rt, end_nx, ↓tgQ_eq, Bool.not_true, Bool.not_false, and_self, and_true, true_and, ↓foP_of (is_int_ok G i), decide_eq_true h2]
theorem is_ints_ok (G : Txt K mg) {ns : List Int} (h : ns.length ≤ 1000) : r_is_ints G [.tup (ns.map .int)] = .ret (.v (.bl true)) [] := by
  refine runP_of ⟨[.val (.tup (ns.map .int)), .un], []⟩ rfl ?_
  unfold m_is_ints
  simp -implicitDefEqProofs (disch := omega) only [↓wp_bnd, ↓wp_ret, ↓wp_vV, ↓wp_vB, ↓wp_vL, ↓wp_hix, ↓wp_b1, ↓wp_b2, ↓wp_ifM, ↓wp_notM, ↓wp_andM, ↓wp_orM, ↓wp_asB, ↓wp_asI, ↓wp_notV, ↓wp_andV, ↓wp_orV, ↓wp_sq0, ↓wp_sq, ↓wp_tupM, ↓wp_frz, ↓wp_chM, ↓wp_sqS, ↓wp_seV, ↓wp_seL, ↓wp_asM, ↓wp_paM, ↓wp_paM3, ↓wp_paR2, ↓wp_paR3, ↓wp_rvM, ↓wp_rlM, ↓rv_v, ↓rv_l, ↓wp_shM, ↓wp_apM, ↓wp_exM, ↓wp_siM, ↓wp_clV, ↓wp_clL, ↓wp_hdM, ↓wp_chV, ↓wp_chL, ↓wp_itM, ↓wp_itA, ↓wp_rg1M, ↓wp_rg2M, ↓wp_zpM, ↓wp_enM, ↓wp_isiM, ↓wp_someM, ↓wp_sl3, ↓wp_frM, ↓wp_lc, ↓wp_agM, ↓wipP1, ↓wipP2, ↓wipP3, ↓bacP1, ↓bacP2, ↓bacP3, ↓spK0, ↓spK1, ↓spK2, ↓foP_ret, ↓rdP_v, ↓rdP_l, ↓lsP_l, ↓blP_bl, ↓inP_int, ↓vlP_val, ↓vlP_own, ↓hdP_hnd, ↓sqP_lst, ↓sqP_tup, ↓sqP_scr, ↓saP_lst, ↓saP_tup, ↓saP_rng, ↓ctP_nx, ↓ctP_rt, ↓ctP_bk, ↓ctP_ct, ↓lpP_nx, ↓lpP_ct, ↓lpP_bk, ↓lpP_rt, ↓zpP_lst, ↓zpP_tup, ↓enP_lst, ↓exP_lst, ↓tgP_V, ↓tgP_T, ↓tgsP_nil, ↓tgsP_cons, ↓rgP_ok, ↓iteP_true, ↓iteP_false, ↓iteP_t, ↓iteP_f, ↓iteP_nt, ↓iteP_nf, ↓hhP_eq, ↓opP_some, ↓pAdd, ↓pSub, ↓pNeg, ↓pMulR, ↓pMulL, ↓pMod, ↓pDiv, ↓p1018, ↓pLt, ↓pLe, ↓pGt, ↓pGe, ↓pOpB, ↓pEq, ↓pNe, ↓pIs0, ↓pIs1, ↓pIs2, ↓pIs3, ↓pIs4, ↓pIn0, ↓pIn1, ↓pIn2, ↓pIn3, ↓pIn4, ↓pLen1, ↓pLen2, ↓pLen3, ↓pInt, ↓pAbs, ↓pTup1, ↓pTup2, ↓pLst1, ↓pLst2, ↓pLst3, ↓pRng, ↓pSl1, ↓pSl2, ↓pSl3, ↓isi_int_non, ↓isi_int_bl, ↓isi_int_int, ↓isi_int_str, ↓isi_int_tup, ↓isi_int_lst, ↓isi_int_dic, ↓isi_bool_non, ↓isi_bool_bl, ↓isi_bool_int, ↓isi_bool_str, ↓isi_bool_tup, ↓isi_bool_lst, ↓isi_bool_dic, ↓isi_str_non, ↓isi_str_bl, ↓isi_str_int, ↓isi_str_str, ↓isi_str_tup, ↓isi_str_lst, ↓isi_str_dic, ↓isi_tuple_non, ↓isi_tuple_bl, ↓isi_tuple_int, ↓isi_tuple_str, ↓isi_tuple_tup, ↓isi_tuple_lst, ↓isi_tuple_dic, ↓isi_list_non, ↓isi_list_bl, ↓isi_list_int, ↓isi_list_str, ↓isi_list_tup, ↓isi_list_lst, ↓isi_list_dic, ↓isi_dict_non, ↓isi_dict_bl, ↓isi_dict_int, ↓isi_dict_str, ↓isi_dict_tup, ↓isi_dict_lst, ↓isi_dict_dic, ↓ixt0, ↓ixt1, ↓ixt2, ↓ixt3, ↓ixt4, ↓ixt5, ↓ixt6, ↓ixt7, ↓ixt8, ↓ixl0, ↓ixl1, ↓ixl2, ↓ixl3, ↓ixl4, ↓ixl5, ↓ixl6, ↓ixl7, ↓ixl8, ↓FX.gp0, ↓FX.gp1, ↓FX.gp2, ↓FX.gp3, ↓FX.gp4, ↓FX.gp5, ↓FX.gp6, ↓FX.gp7, ↓FX.gp8, ↓FX.gp9, ↓FX.gp10, ↓FX.gp11, ↓FX.gp12, ↓FX.gp13, ↓FX.gp14, ↓FX.gp15, ↓FX.gp16, ↓FX.gp17, ↓FX.gp18, ↓FX.gp19, ↓FX.gp20, ↓FX.gp21, ↓FX.gp22, ↓FX.gp23, ↓FX.gp24, ↓FX.gp25, ↓FX.gp26, ↓FX.gp27, ↓FX.gp28, ↓FX.gp29, ↓FX.gp30, ↓FX.gp31, ↓FX.gp32, ↓FX.gp33, ↓FX.sp0, ↓FX.sp1, ↓FX.sp2, ↓FX.sp3, ↓FX.sp4, ↓FX.sp5, ↓FX.sp6, ↓FX.sp7, ↓FX.sp8, ↓FX.sp9, ↓FX.sp10, ↓FX.sp11, ↓FX.sp12, ↓FX.sp13, ↓FX.sp14, ↓FX.sp15, ↓FX.sp16, ↓FX.sp17, ↓FX.sp18, ↓FX.sp19, ↓FX.sp20, ↓FX.sp21, ↓FX.sp22, ↓FX.sp23, ↓FX.sp24, ↓FX.sp25, ↓FX.sp26, ↓FX.sp27, ↓FX.sp28, ↓FX.sp29, ↓FX.sp30, ↓FX.sp31, ↓FX.sp32, ↓FX.sp33, ↓FX.hp0, ↓FX.hp1, ↓FX.hp2, ↓FX.hp3, ↓FX.hp4, ↓FX.wp0, ↓FX.wp1, ↓FX.wp2, ↓FX.wp3, ↓FX.wp4, end_rt, end_nx, ↓tgQ_eq, Bool.not_true, Bool.not_false, and_self, and_true, true_and]
  refine ⟨by rw [List.length_map, sizeLine_eq]; omega, wp_lcA (enc := D.int) (g := fun _ => .bl true) (fun x _ => ?_) ?_⟩
  · simp -implicitDefEqProofs (disch := omega) only [↓wp_bnd, ↓wp_ret, ↓wp_vV, ↓wp_vB, ↓wp_vL, ↓wp_hix, ↓wp_b1, ↓wp_b2, ↓wp_ifM, ↓wp_notM, ↓wp_andM, ↓wp_orM, ↓wp_asB, ↓wp_asI, ↓wp_notV, ↓wp_andV, ↓wp_orV, ↓wp_sq0, ↓wp_sq, ↓wp_tupM, ↓wp_frz, ↓wp_chM, ↓wp_sqS, ↓wp_seV, ↓wp_seL, ↓wp_asM, ↓wp_paM, ↓wp_paM3, ↓wp_paR2, ↓wp_paR3, ↓wp_rvM, ↓wp_rlM, ↓rv_v, ↓rv_l, ↓wp_shM, ↓wp_apM, ↓wp_exM, ↓wp_siM, ↓wp_clV, ↓wp_clL, ↓wp_hdM, ↓wp_chV, ↓wp_chL, ↓wp_itM, ↓wp_itA, ↓wp_rg1M, ↓wp_rg2M, ↓wp_zpM, ↓wp_enM, ↓wp_isiM, ↓wp_someM, ↓wp_sl3, ↓wp_frM, ↓wp_lc, ↓wp_agM, ↓wipP1, ↓wipP2, ↓wipP3, ↓bacP1, ↓bacP2, ↓bacP3, ↓spK0, ↓spK1, ↓spK2, ↓foP_ret, ↓rdP_v, ↓rdP_l, ↓lsP_l, ↓blP_bl, ↓inP_int, ↓vlP_val, ↓vlP_own, ↓hdP_hnd, ↓sqP_lst, ↓sqP_tup, ↓sqP_scr, ↓saP_lst, ↓saP_tup, ↓saP_rng, ↓ctP_nx, ↓ctP_rt, ↓ctP_bk, ↓ctP_ct, ↓lpP_nx, ↓lpP_ct, ↓lpP_bk, ↓lpP_rt, ↓zpP_lst, ↓zpP_tup, ↓enP_lst, ↓exP_lst, ↓tgP_V, ↓tgP_T, ↓tgsP_nil, ↓tgsP_cons, ↓rgP_ok, ↓iteP_true, ↓iteP_false, ↓iteP_t, ↓iteP_f, ↓iteP_nt, ↓iteP_nf, ↓hhP_eq, ↓opP_some, ↓pAdd, ↓pSub, ↓pNeg, ↓pMulR, ↓pMulL, ↓pMod, ↓pDiv, ↓p1018, ↓pLt, ↓pLe, ↓pGt, ↓pGe, ↓pOpB, ↓pEq, ↓pNe, ↓pIs0, ↓pIs1, ↓pIs2, ↓pIs3, ↓pIs4, ↓pIn0, ↓pIn1, ↓pIn2, ↓pIn3, ↓pIn4, ↓pLen1, ↓pLen2, ↓pLen3, ↓pInt, ↓pAbs, ↓pTup1, ↓pTup2, ↓pLst1, ↓pLst2, ↓pLst3, ↓pRng, ↓pSl1, ↓pSl2, ↓pSl3, ↓isi_int_non, ↓isi_int_bl, ↓isi_int_int, ↓isi_int_str, ↓isi_int_tup, ↓isi_int_lst, ↓isi_int_dic, ↓isi_bool_non, ↓isi_bool_bl, ↓isi_bool_int, ↓isi_bool_str, ↓isi_bool_tup, ↓isi_bool_lst, ↓isi_bool_dic, ↓isi_str_non, ↓isi_str_bl, ↓isi_str_int, ↓isi_str_str, ↓isi_str_tup, ↓isi_str_lst, ↓isi_str_dic, ↓isi_tuple_non, ↓isi_tuple_bl, ↓isi_tuple_int, ↓isi_tuple_str, ↓isi_tuple_tup, ↓isi_tuple_lst, ↓isi_tuple_dic, ↓isi_list_non, ↓isi_list_bl, ↓isi_list_int, ↓isi_list_str, ↓isi_list_tup, ↓isi_list_lst, ↓isi_list_dic, ↓isi_dict_non, ↓isi_dict_bl, ↓isi_dict_int, ↓isi_dict_str, ↓isi_dict_tup, ↓isi_dict_lst, ↓isi_dict_dic, ↓ixt0, ↓ixt1, ↓ixt2, ↓ixt3, ↓ixt4, ↓ixt5, ↓ixt6, ↓ixt7, ↓ixt8, ↓ixl0, ↓ixl1, ↓ixl2, ↓ixl3, ↓ixl4, ↓ixl5, ↓ixl6, ↓ixl7, ↓ixl8, ↓FX.gp0, ↓FX.gp1, ↓FX.gp2, ↓FX.gp3, ↓FX.gp4, ↓FX.gp5, ↓FX.gp6, ↓FX.gp7, ↓FX.gp8, ↓FX.gp9, ↓FX.gp10, ↓FX.gp11, ↓FX.gp12, ↓FX.gp13, ↓FX.gp14, ↓FX.gp15, ↓FX.gp16, ↓FX.gp17, ↓FX.gp18, ↓FX.gp19, ↓FX.gp20, ↓FX.gp21, ↓FX.gp22, ↓FX.gp23, ↓FX.gp24, ↓FX.gp25, ↓FX.gp26, ↓FX.gp27, ↓FX.gp28, ↓FX.gp29, ↓FX.gp30, ↓FX.gp31, ↓FX.gp32, ↓FX.gp33, ↓FX.sp0, ↓FX.sp1, ↓FX.sp2, ↓FX.sp3, ↓FX.sp4, ↓FX.sp5, ↓FX.sp6, ↓FX.sp7, ↓FX.sp8, ↓FX.sp9, ↓FX.sp10, ↓FX.sp11, ↓FX.sp12, ↓FX.sp13, ↓FX.sp14, ↓FX.sp15, ↓FX.sp16, ↓FX.sp17, ↓FX.sp18, ↓FX.sp19, ↓FX.sp20, ↓FX.sp21, ↓FX.sp22, ↓FX.sp23, ↓FX.sp24, ↓FX.sp25, ↓FX.sp26, ↓FX.sp27, ↓FX.sp28, ↓FX.sp29, ↓FX.sp30, ↓FX.sp31, ↓FX.sp32, ↓FX.sp33, ↓FX.hp0, ↓FX.hp1, ↓FX.hp2, ↓FX.hp3, ↓FX.hp4, ↓FX.wp0, ↓FX.wp1, ↓FX.wp2, ↓FX.wp3, ↓FX.wp4, end_rt, end_nx, ↓tgQ_eq, Bool.not_true, Bool.not_false, and_self, and_true, true_and, ↓foP_of (is_int_ok G x)]
  · simp -implicitDefEqProofs (disch := omega) only [↓wp_bnd, ↓wp_ret, ↓wp_vV, ↓wp_vB, ↓wp_vL, ↓wp_hix, ↓wp_b1, ↓wp_b2, ↓wp_ifM, ↓wp_notM, ↓wp_andM, ↓wp_orM, ↓wp_asB, ↓wp_asI, ↓wp_notV, ↓wp_andV, ↓wp_orV, ↓wp_sq0, ↓wp_sq, ↓wp_tupM, ↓wp_frz, ↓wp_chM, ↓wp_sqS, ↓wp_seV, ↓wp_seL, ↓wp_asM, ↓wp_paM, ↓wp_paM3, ↓wp_paR2, ↓wp_paR3, ↓wp_rvM, ↓wp_rlM, ↓rv_v, ↓rv_l, ↓wp_shM, ↓wp_apM, ↓wp_exM, ↓wp_siM, ↓wp_clV, ↓wp_clL, ↓wp_hdM, ↓wp_chV, ↓wp_chL, ↓wp_itM, ↓wp_itA, ↓wp_rg1M, ↓wp_rg2M, ↓wp_zpM, ↓wp_enM, ↓wp_isiM, ↓wp_someM, ↓wp_sl3, ↓wp_frM, ↓wp_lc, ↓wp_agM, ↓wipP1, ↓wipP2, ↓wipP3, ↓bacP1, ↓bacP2, ↓bacP3, ↓spK0, ↓spK1, ↓spK2, ↓foP_ret, ↓rdP_v, ↓rdP_l, ↓lsP_l, ↓blP_bl, ↓inP_int, ↓vlP_val, ↓vlP_own, ↓hdP_hnd, ↓sqP_lst, ↓sqP_tup, ↓sqP_scr, ↓saP_lst, ↓saP_tup, ↓saP_rng, ↓ctP_nx, ↓ctP_rt, ↓ctP_bk, ↓ctP_ct, ↓lpP_nx, ↓lpP_ct, ↓lpP_bk, ↓lpP_rt, ↓zpP_lst, ↓zpP_tup, ↓enP_lst, ↓exP_lst, ↓tgP_V, ↓tgP_T, ↓tgsP_nil, ↓tgsP_cons, ↓rgP_ok, ↓iteP_true, ↓iteP_false, ↓iteP_t, ↓iteP_f, ↓iteP_nt, ↓iteP_nf, ↓hhP_eq, ↓opP_some, ↓pAdd, ↓pSub, ↓pNeg, ↓pMulR, ↓pMulL, ↓pMod, ↓pDiv, ↓p1018, ↓pLt, ↓pLe, ↓pGt, ↓pGe, ↓pOpB, ↓pEq, ↓pNe, ↓pIs0, ↓pIs1, ↓pIs2, ↓pIs3, ↓pIs4, ↓pIn0, ↓pIn1, ↓pIn2, ↓pIn3, ↓pIn4, ↓pLen1, ↓pLen2, ↓pLen3, ↓pInt, ↓pAbs, ↓pTup1, ↓pTup2, ↓pLst1, ↓pLst2, ↓pLst3, ↓pRng, ↓pSl1, ↓pSl2, ↓pSl3, ↓isi_int_non, ↓isi_int_bl, ↓isi_int_int, ↓isi_int_str, ↓isi_int_tup, ↓isi_int_lst, ↓isi_int_dic, ↓isi_bool_non, ↓isi_bool_bl, ↓isi_bool_int, ↓isi_bool_str, ↓isi_bool_tup, ↓isi_bool_lst, ↓isi_bool_dic, ↓isi_str_non, ↓isi_str_bl, ↓isi_str_int, ↓isi_str_str, ↓isi_str_tup, ↓isi_str_lst, ↓isi_str_dic, ↓isi_tuple_non, ↓isi_tuple_bl, ↓isi_tuple_int, ↓isi_tuple_str, ↓isi_tuple_tup, ↓isi_tuple_lst, ↓isi_tuple_dic, ↓isi_list_non, ↓isi_list_bl, ↓isi_list_int, ↓isi_list_str, ↓isi_list_tup, ↓isi_list_lst, ↓isi_list_dic, ↓isi_dict_non, ↓isi_dict_bl, ↓isi_dict_int, ↓isi_dict_str, ↓isi_dict_tup, ↓isi_dict_lst, ↓isi_dict_dic, ↓ixt0, ↓ixt1, ↓ixt2, ↓ixt3, ↓ixt4, ↓ixt5, ↓ixt6, ↓ixt7, ↓ixt8, ↓ixl0, ↓ixl1, ↓ixl2, ↓ixl3, ↓ixl4, ↓ixl5, ↓ixl6, ↓ixl7, ↓ixl8, ↓FX.gp0, ↓FX.gp1, ↓FX.gp2, ↓FX.gp3, ↓FX.gp4, ↓FX.gp5, ↓FX.gp6, ↓FX.gp7, ↓FX.gp8, ↓FX.gp9, ↓FX.gp10, ↓FX.gp11, ↓FX.gp12, ↓FX.gp13, ↓FX.gp14, ↓FX.gp15, ↓FX.gp16, ↓FX.gp17, ↓FX.gp18, ↓FX.gp19, ↓FX.gp20, ↓FX.gp21, ↓FX.gp22, ↓FX.gp23, ↓FX.gp24, ↓FX.gp25, ↓FX.gp26, ↓FX.gp27, ↓FX.gp28, ↓FX.gp29, ↓FX.gp30, ↓FX.gp31, ↓FX.gp32, ↓FX.gp33, ↓FX.sp0, ↓FX.sp1, ↓FX.sp2, ↓FX.sp3, ↓FX.sp4, ↓FX.sp5, ↓FX.sp6, ↓FX.sp7, ↓FX.sp8, ↓FX.sp9, ↓FX.sp10, ↓FX.sp11, ↓FX.sp12, ↓FX.sp13, ↓FX.sp14, ↓FX.sp15, ↓FX.sp16, ↓FX.sp17, ↓FX.sp18, ↓FX.sp19, ↓FX.sp20, ↓FX.sp21, ↓FX.sp22, ↓FX.sp23, ↓FX.sp24, ↓FX.sp25, ↓FX.sp26, ↓FX.sp27, ↓FX.sp28, ↓FX.sp29, ↓FX.sp30, ↓FX.sp31, ↓FX.sp32, ↓FX.sp33, ↓FX.hp0, ↓FX.hp1, ↓FX.hp2, ↓FX.hp3, ↓FX.hp4, ↓FX.wp0, ↓FX.wp1, ↓FX.wp2, ↓FX.wp3, ↓FX.wp4, end_rt, end_nx, ↓tgQ_eq, Bool.not_true, Bool.not_false, and_self, and_true, true_and, List.nil_append]
    rw [pAllT]
/-- a lot: rising, below the period -/
structure Lot (p : Int) (xs : List Int) : Prop where
  ne : xs ≠ []
  lt : ∀ x ∈ xs, 0 ≤ x ∧ x < p
  up : xs.Pairwise (· < ·)
  few : xs.length ≤ 1000
theorem zip_up : ∀ {xs : List Int}, xs.Pairwise (· < ·) → ∀ q ∈ List.zip xs (xs.drop 1), q.1 < q.2
  | [], _, q, h => by cases h
  | [x], _, q, h => by cases h
  | x :: y :: r, h, q, hq => by
    have hq : q ∈ (x, y) :: List.zip (y :: r) r := hq
    rw [List.pairwise_cons] at h
    rcases List.mem_cons.mp hq with e | e
    · subst e; exact h.1 y List.mem_cons_self
    · exact zip_up h.2 q e
theorem zipD (xs ys : List Int) : List.zipWith (fun d e => D.tup [d, e]) (xs.map D.int) (ys.map D.int) = (List.zip xs ys).map fun q => .tup [.int q.1, .int q.2] := by
  rw [List.zipWith_map, List.zip, List.map_zipWith]
theorem is_lot_ok (G : Txt K mg) {p : Int} {xs : List Int} (h : Lot p xs) : r_is_lot G [.tup (xs.map .int), .int p] = .ret (.v (.bl true)) [] := by
  refine runP_of ⟨[.val (.tup (xs.map .int)), .val (.int p), .un, .un], []⟩ rfl ?_
  unfold m_is_lot
  simp -implicitDefEqProofs (disch := omega) only [↓wp_bnd, ↓wp_ret, ↓wp_vV, ↓wp_vB, ↓wp_vL, ↓wp_hix, ↓wp_b1, ↓wp_b2, ↓wp_ifM, ↓wp_notM, ↓wp_andM, ↓wp_orM, ↓wp_asB, ↓wp_asI, ↓wp_notV, ↓wp_andV, ↓wp_orV, ↓wp_sq0, ↓wp_sq, ↓wp_tupM, ↓wp_frz, ↓wp_chM, ↓wp_sqS, ↓wp_seV, ↓wp_seL, ↓wp_asM, ↓wp_paM, ↓wp_paM3, ↓wp_paR2, ↓wp_paR3, ↓wp_rvM, ↓wp_rlM, ↓rv_v, ↓rv_l, ↓wp_shM, ↓wp_apM, ↓wp_exM, ↓wp_siM, ↓wp_clV, ↓wp_clL, ↓wp_hdM, ↓wp_chV, ↓wp_chL, ↓wp_itM, ↓wp_itA, ↓wp_rg1M, ↓wp_rg2M, ↓wp_zpM, ↓wp_enM, ↓wp_isiM, ↓wp_someM, ↓wp_sl3, ↓wp_frM, ↓wp_lc, ↓wp_agM, ↓wipP1, ↓wipP2, ↓wipP3, ↓bacP1, ↓bacP2, ↓bacP3, ↓spK0, ↓spK1, ↓spK2, ↓foP_ret, ↓rdP_v, ↓rdP_l, ↓lsP_l, ↓blP_bl, ↓inP_int, ↓vlP_val, ↓vlP_own, ↓hdP_hnd, ↓sqP_lst, ↓sqP_tup, ↓sqP_scr, ↓saP_lst, ↓saP_tup, ↓saP_rng, ↓ctP_nx, ↓ctP_rt, ↓ctP_bk, ↓ctP_ct, ↓lpP_nx, ↓lpP_ct, ↓lpP_bk, ↓lpP_rt, ↓zpP_lst, ↓zpP_tup, ↓enP_lst, ↓exP_lst, ↓tgP_V, ↓tgP_T, ↓tgsP_nil, ↓tgsP_cons, ↓rgP_ok, ↓iteP_true, ↓iteP_false, ↓iteP_t, ↓iteP_f, ↓iteP_nt, ↓iteP_nf, ↓hhP_eq, ↓opP_some, ↓pAdd, ↓pSub, ↓pNeg, ↓pMulR, ↓pMulL, ↓pMod, ↓pDiv, ↓p1018, ↓pLt, ↓pLe, ↓pGt, ↓pGe, ↓pOpB, ↓pEq, ↓pNe, ↓pIs0, ↓pIs1, ↓pIs2, ↓pIs3, ↓pIs4, ↓pIn0, ↓pIn1, ↓pIn2, ↓pIn3, ↓pIn4, ↓pLen1, ↓pLen2, ↓pLen3, ↓pInt, ↓pAbs, ↓pTup1, ↓pTup2, ↓pLst1, ↓pLst2, ↓pLst3, ↓pRng, ↓pSl1, ↓pSl2, ↓pSl3, ↓isi_int_non, ↓isi_int_bl, ↓isi_int_int, ↓isi_int_str, ↓isi_int_tup, ↓isi_int_lst, ↓isi_int_dic, ↓isi_bool_non, ↓isi_bool_bl, ↓isi_bool_int, ↓isi_bool_str, ↓isi_bool_tup, ↓isi_bool_lst, ↓isi_bool_dic, ↓isi_str_non, ↓isi_str_bl, ↓isi_str_int, ↓isi_str_str, ↓isi_str_tup, ↓isi_str_lst, ↓isi_str_dic, ↓isi_tuple_non, ↓isi_tuple_bl, ↓isi_tuple_int, ↓isi_tuple_str, ↓isi_tuple_tup, ↓isi_tuple_lst, ↓isi_tuple_dic, ↓isi_list_non, ↓isi_list_bl, ↓isi_list_int, ↓isi_list_str, ↓isi_list_tup, ↓isi_list_lst, ↓isi_list_dic, ↓isi_dict_non, ↓isi_dict_bl, ↓isi_dict_int, ↓isi_dict_str, ↓isi_dict_tup, ↓isi_dict_lst, ↓isi_dict_dic, ↓ixt0, ↓ixt1, ↓ixt2, ↓ixt3, ↓ixt4, ↓ixt5, ↓ixt6, ↓ixt7, ↓ixt8, ↓ixl0, ↓ixl1, ↓ixl2, ↓ixl3, ↓ixl4, ↓ixl5, ↓ixl6, ↓ixl7, ↓ixl8, ↓FX.gp0, ↓FX.gp1, ↓FX.gp2, ↓FX.gp3, ↓FX.gp4, ↓FX.gp5, ↓FX.gp6, ↓FX.gp7, ↓FX.gp8, ↓FX.gp9, ↓FX.gp10, ↓FX.gp11, ↓FX.gp12, ↓FX.gp13, ↓FX.gp14, ↓FX.gp15, ↓FX.gp16, ↓FX.gp17, ↓FX.gp18, ↓FX.gp19, ↓FX.gp20, ↓FX.gp21, ↓FX.gp22, ↓FX.gp23, ↓FX.gp24, ↓FX.gp25, ↓FX.gp26, ↓FX.gp27, ↓FX.gp28, ↓FX.gp29, ↓FX.gp30, ↓FX.gp31, ↓FX.gp32, ↓FX.gp33, ↓FX.sp0, ↓FX.sp1, ↓FX.sp2, ↓FX.sp3, ↓FX.sp4, ↓FX.sp5, ↓FX.sp6, ↓FX.sp7, ↓FX.sp8, ↓FX.sp9, ↓FX.sp10, ↓FX.sp11, ↓FX.sp12, ↓FX.sp13, ↓FX.sp14, ↓FX.sp15, ↓FX.sp16, ↓FX.sp17, ↓FX.sp18, ↓FX.sp19, ↓FX.sp20, ↓FX.sp21, ↓FX.sp22, ↓FX.sp23, ↓FX.sp24, ↓FX.sp25, ↓FX.sp26, ↓FX.sp27, ↓FX.sp28, ↓FX.sp29, ↓FX.sp30, ↓FX.sp31, ↓FX.sp32, ↓FX.sp33, ↓FX.hp0, ↓FX.hp1, ↓FX.hp2, ↓FX.hp3, ↓FX.hp4, ↓FX.wp0, ↓FX.wp1, ↓FX.wp2, ↓FX.wp3, ↓FX.wp4, end_rt, end_nx, ↓tgQ_eq, Bool.not_true, Bool.not_false, and_self, and_true, true_and, ↓foP_of (is_ints_ok G h.few)]
  refine ⟨by rw [List.length_map, sizeLine_eq]; have := h.few; omega, wp_lcA (enc := D.int) (g := fun _ => .bl true) (fun x hx => ?_) ?_⟩
  · obtain ⟨h1, h2⟩ := h.lt x hx
    simp -implicitDefEqProofs (disch := omega) only [↓wp_bnd, ↓wp_ret, ↓wp_vV, ↓wp_vB, ↓wp_vL, ↓wp_hix, ↓wp_b1, ↓wp_b2, ↓wp_ifM, ↓wp_notM, ↓wp_andM, ↓wp_orM, ↓wp_asB, ↓wp_asI, ↓wp_notV, ↓wp_andV, ↓wp_orV, ↓wp_sq0, ↓wp_sq, ↓wp_tupM, ↓wp_frz, ↓wp_chM, ↓wp_sqS, ↓wp_seV, ↓wp_seL, ↓wp_asM, ↓wp_paM, ↓wp_paM3, ↓wp_paR2, ↓wp_paR3, ↓wp_rvM, ↓wp_rlM, ↓rv_v, ↓rv_l, ↓wp_shM, ↓wp_apM, ↓wp_exM, ↓wp_siM, ↓wp_clV, ↓wp_clL, ↓wp_hdM, ↓wp_chV, ↓wp_chL, ↓wp_itM, ↓wp_itA, ↓wp_rg1M, ↓wp_rg2M, ↓wp_zpM, ↓wp_enM, ↓wp_isiM, ↓wp_someM, ↓wp_sl3, ↓wp_frM, ↓wp_lc, ↓wp_agM, ↓wipP1, ↓wipP2, ↓wipP3, ↓bacP1, ↓bacP2, ↓bacP3, ↓spK0, ↓spK1, ↓spK2, ↓foP_ret, ↓rdP_v, ↓rdP_l, ↓lsP_l, ↓blP_bl, ↓inP_int, ↓vlP_val, ↓vlP_own, ↓hdP_hnd, ↓sqP_lst, ↓sqP_tup, ↓sqP_scr, ↓saP_lst, ↓saP_tup, ↓saP_rng, ↓ctP_nx, ↓ctP_rt, ↓ctP_bk, ↓ctP_ct, ↓lpP_nx, ↓lpP_ct, ↓lpP_bk, ↓lpP_rt, ↓zpP_lst, ↓zpP_tup, ↓enP_lst, ↓exP_lst, ↓tgP_V, ↓tgP_T, ↓tgsP_nil, ↓tgsP_cons, ↓rgP_ok, ↓iteP_true, ↓iteP_false, ↓iteP_t, ↓iteP_f, ↓iteP_nt, ↓iteP_nf, ↓hhP_eq, ↓opP_some, ↓pAdd, ↓pSub, ↓pNeg, ↓pMulR, ↓pMulL, ↓pMod, ↓pDiv, ↓p1018, ↓pLt, ↓pLe, ↓pGt, ↓pGe, ↓pOpB, ↓pEq, ↓pNe, ↓pIs0, ↓pIs1, ↓pIs2, ↓pIs3, ↓pIs4, ↓pIn0, ↓pIn1, ↓pIn2, ↓pIn3, ↓pIn4, ↓pLen1, ↓pLen2, ↓pLen3, ↓pInt, ↓pAbs, ↓pTup1, ↓pTup2, ↓pLst1, ↓pLst2, ↓pLst3, ↓pRng, ↓pSl1, ↓pSl2, ↓pSl3, ↓isi_int_non, ↓isi_int_bl, ↓isi_int_int, ↓isi_int_str, ↓isi_int_tup, ↓isi_int_lst, ↓isi_int_dic, ↓isi_bool_non, ↓isi_bool_bl, ↓isi_bool_int, ↓isi_bool_str, ↓isi_bool_tup, ↓isi_bool_lst, ↓isi_bool_dic, ↓isi_str_non, ↓isi_str_bl, ↓isi_str_int, ↓isi_str_str, ↓isi_str_tup, ↓isi_str_lst, ↓isi_str_dic, ↓isi_tuple_non, ↓isi_tuple_bl, ↓isi_tuple_int, ↓isi_tuple_str, ↓isi_tuple_tup, ↓isi_tuple_lst, ↓isi_tuple_dic, ↓isi_list_non, ↓isi_list_bl, ↓isi_list_int, ↓isi_list_str, ↓isi_list_tup, ↓isi_list_lst, ↓isi_list_dic, ↓isi_dict_non, ↓isi_dict_bl, ↓isi_dict_int, ↓isi_dict_str, ↓isi_dict_tup, ↓isi_dict_lst, ↓isi_dict_dic, ↓ixt0, ↓ixt1, ↓ixt2, ↓ixt3, ↓ixt4, ↓ixt5, ↓ixt6, ↓ixt7, ↓ixt8, ↓ixl0, ↓ixl1, ↓ixl2, ↓ixl3, ↓ixl4, ↓ixl5, ↓ixl6, ↓ixl7, ↓ixl8, ↓FX.gp0, ↓FX.gp1, ↓FX.gp2, ↓FX.gp3, ↓FX.gp4, ↓FX.gp5, ↓FX.gp6, ↓FX.gp7, ↓FX.gp8, ↓FX.gp9, ↓FX.gp10, ↓FX.gp11, ↓FX.gp12, ↓FX.gp13, ↓FX.gp14, ↓FX.gp15, ↓FX.gp16, ↓FX.gp17, ↓FX.gp18, ↓FX.gp19, ↓FX.gp20, ↓FX.gp21, ↓FX.gp22, ↓FX.gp23, ↓FX.gp24, ↓FX.gp25, ↓FX.gp26, ↓FX.gp27, ↓FX.gp28, ↓FX.gp29, ↓FX.gp30, ↓FX.gp31, ↓FX.gp32, ↓FX.gp33, ↓FX.sp0, ↓FX.sp1, ↓FX.sp2, ↓FX.sp3, ↓FX.sp4, ↓FX.sp5, ↓FX.sp6, ↓FX.sp7, ↓FX.sp8, ↓FX.sp9, ↓FX.sp10, ↓FX.sp11, ↓FX.sp12, ↓FX.sp13, ↓FX.sp14, ↓FX.sp15, ↓FX.sp16, ↓FX.sp17, ↓FX.sp18, ↓FX.sp19, ↓FX.sp20, ↓FX.sp21, ↓FX.sp22, ↓FX.sp23, ↓FX.sp24, ↓FX.sp25, ↓FX.sp26, ↓FX.sp27, ↓FX.sp28, ↓FX.sp29, ↓FX.sp30, ↓FX.sp31, ↓FX.sp32, ↓FX.sp33, ↓FX.hp0, ↓FX.hp1, ↓FX.hp2, ↓FX.hp3, ↓FX.hp4, ↓FX.wp0, ↓FX.wp1, ↓FX.wp2, ↓FX.wp3, ↓FX.wp4, end_rt, end_nx, ↓tgQ_eq, Bool.not_true, Bool.not_false, and_self, and_true, true_and, decide_eq_true h2]
  · simp -implicitDefEqProofs (disch := omega) only [↓wp_bnd, ↓wp_ret, ↓wp_vV, ↓wp_vB, ↓wp_vL, ↓wp_hix, ↓wp_b1, ↓wp_b2, ↓wp_ifM, ↓wp_notM, ↓wp_andM, ↓wp_orM, ↓wp_asB, ↓wp_asI, ↓wp_notV, ↓wp_andV, ↓wp_orV, ↓wp_sq0, ↓wp_sq, ↓wp_tupM, ↓wp_frz, ↓wp_chM, ↓wp_sqS, ↓wp_seV, ↓wp_seL, ↓wp_asM, ↓wp_paM, ↓wp_paM3, ↓wp_paR2, ↓wp_paR3, ↓wp_rvM, ↓wp_rlM, ↓rv_v, ↓rv_l, ↓wp_shM, ↓wp_apM, ↓wp_exM, ↓wp_siM, ↓wp_clV, ↓wp_clL, ↓wp_hdM, ↓wp_chV, ↓wp_chL, ↓wp_itM, ↓wp_itA, ↓wp_rg1M, ↓wp_rg2M, ↓wp_zpM, ↓wp_enM, ↓wp_isiM, ↓wp_someM, ↓wp_sl3, ↓wp_frM, ↓wp_lc, ↓wp_agM, ↓wipP1, ↓wipP2, ↓wipP3, ↓bacP1, ↓bacP2, ↓bacP3, ↓spK0, ↓spK1, ↓spK2, ↓foP_ret, ↓rdP_v, ↓rdP_l, ↓lsP_l, ↓blP_bl, ↓inP_int, ↓vlP_val, ↓vlP_own, ↓hdP_hnd, ↓sqP_lst, ↓sqP_tup, ↓sqP_scr, ↓saP_lst, ↓saP_tup, ↓saP_rng, ↓ctP_nx, ↓ctP_rt, ↓ctP_bk, ↓ctP_ct, ↓lpP_nx, ↓lpP_ct, ↓lpP_bk, ↓lpP_rt, ↓zpP_lst, ↓zpP_tup, ↓enP_lst, ↓exP_lst, ↓tgP_V, ↓tgP_T, ↓tgsP_nil, ↓tgsP_cons, ↓rgP_ok, ↓iteP_true, ↓iteP_false, ↓iteP_t, ↓iteP_f, ↓iteP_nt, ↓iteP_nf, ↓hhP_eq, ↓opP_some, ↓pAdd, ↓pSub, ↓pNeg, ↓pMulR, ↓pMulL, ↓pMod, ↓pDiv, ↓p1018, ↓pLt, ↓pLe, ↓pGt, ↓pGe, ↓pOpB, ↓pEq, ↓pNe, ↓pIs0, ↓pIs1, ↓pIs2, ↓pIs3, ↓pIs4, ↓pIn0, ↓pIn1, ↓pIn2, ↓pIn3, ↓pIn4, ↓pLen1, ↓pLen2, ↓pLen3, ↓pInt, ↓pAbs, ↓pTup1, ↓pTup2, ↓pLst1, ↓pLst2, ↓pLst3, ↓pRng, ↓pSl1, ↓pSl2, ↓pSl3, ↓isi_int_non, ↓isi_int_bl, ↓isi_int_int, ↓isi_int_str, ↓isi_int_tup, ↓isi_int_lst, ↓isi_int_dic, ↓isi_bool_non, ↓isi_bool_bl, ↓isi_bool_int, ↓isi_bool_str, ↓isi_bool_tup, ↓isi_bool_lst, ↓isi_bool_dic, ↓isi_str_non, ↓isi_str_bl, ↓isi_str_int, ↓isi_str_str, ↓isi_str_tup, ↓isi_str_lst, ↓isi_str_dic, ↓isi_tuple_non, ↓isi_tuple_bl, ↓isi_tuple_int, ↓isi_tuple_str, ↓isi_tuple_tup, ↓isi_tuple_lst, ↓isi_tuple_dic, ↓isi_list_non, ↓isi_list_bl, ↓isi_list_int, ↓isi_list_str, ↓isi_list_tup, ↓isi_list_lst, ↓isi_list_dic, ↓isi_dict_non, ↓isi_dict_bl, ↓isi_dict_int, ↓isi_dict_str, ↓isi_dict_tup, ↓isi_dict_lst, ↓isi_dict_dic, ↓ixt0, ↓ixt1, ↓ixt2, ↓ixt3, ↓ixt4, ↓ixt5, ↓ixt6, ↓ixt7, ↓ixt8, ↓ixl0, ↓ixl1, ↓ixl2, ↓ixl3, ↓ixl4, ↓ixl5, ↓ixl6, ↓ixl7, ↓ixl8, ↓FX.gp0, ↓FX.gp1, ↓FX.gp2, ↓FX.gp3, ↓FX.gp4, ↓FX.gp5, ↓FX.gp6, ↓FX.gp7, ↓FX.gp8, ↓FX.gp9, ↓FX.gp10, ↓FX.gp11, ↓FX.gp12, ↓FX.gp13, ↓FX.gp14, ↓FX.gp15, ↓FX.gp16, ↓FX.gp17, ↓FX.gp18, ↓FX.gp19, ↓FX.gp20, ↓FX.gp21, ↓FX.gp22, ↓FX.gp23, ↓FX.gp24, ↓FX.gp25, ↓FX.gp26, ↓FX.gp27, ↓FX.gp28, ↓FX.gp29, ↓FX.gp30, ↓FX.gp31, ↓FX.gp32, ↓FX.gp33, ↓FX.sp0, ↓FX.sp1, ↓FX.sp2, ↓FX.sp3, ↓FX.sp4, ↓FX.sp5, ↓FX.sp6, ↓FX.sp7, ↓FX.sp8, ↓FX.sp9, ↓FX.sp10, ↓FX.sp11, ↓FX.sp12, ↓FX.sp13, ↓FX.sp14, ↓FX.sp15, ↓FX.sp16, ↓FX.sp17, ↓FX.sp18, ↓FX.sp19, ↓FX.sp20, ↓FX.sp21, ↓FX.sp22, ↓FX.sp23, ↓FX.sp24, ↓FX.sp25, ↓FX.sp26, ↓FX.sp27, ↓FX.sp28, ↓FX.sp29, ↓FX.sp30, ↓FX.sp31, ↓FX.sp32, ↓FX.sp33, ↓FX.hp0, ↓FX.hp1, ↓FX.hp2, ↓FX.hp3, ↓FX.hp4, ↓FX.wp0, ↓FX.wp1, ↓FX.wp2, ↓FX.wp3, ↓FX.wp4, end_rt, end_nx, ↓tgQ_eq, Bool.not_true, Bool.not_false, and_self, and_true, true_and, List.nil_append]
    rw [pAllT]
    simp -implicitDefEqProofs (disch := omega) only [↓wp_bnd, ↓wp_ret, ↓wp_vV, ↓wp_vB, ↓wp_vL, ↓wp_hix, ↓wp_b1, ↓wp_b2, ↓wp_ifM, ↓wp_notM, ↓wp_andM, ↓wp_orM, ↓wp_asB, ↓wp_asI, ↓wp_notV, ↓wp_andV, ↓wp_orV, ↓wp_sq0, ↓wp_sq, ↓wp_tupM, ↓wp_frz, ↓wp_chM, ↓wp_sqS, ↓wp_seV, ↓wp_seL, ↓wp_asM, ↓wp_paM, ↓wp_paM3, ↓wp_paR2, ↓wp_paR3, ↓wp_rvM, ↓wp_rlM, ↓rv_v, ↓rv_l, ↓wp_shM, ↓wp_apM, ↓wp_exM, ↓wp_siM, ↓wp_clV, ↓wp_clL, ↓wp_hdM, ↓wp_chV, ↓wp_chL, ↓wp_itM, ↓wp_itA, ↓wp_rg1M, ↓wp_rg2M, ↓wp_zpM, ↓wp_enM, ↓wp_isiM, ↓wp_someM, ↓wp_sl3, ↓wp_frM, ↓wp_lc, ↓wp_agM, ↓wipP1, ↓wipP2, ↓wipP3, ↓bacP1, ↓bacP2, ↓bacP3, ↓spK0, ↓spK1, ↓spK2, ↓foP_ret, ↓rdP_v, ↓rdP_l, ↓lsP_l, ↓blP_bl, ↓inP_int, ↓vlP_val, ↓vlP_own, ↓hdP_hnd, ↓sqP_lst, ↓sqP_tup, ↓sqP_scr, ↓saP_lst, ↓saP_tup, ↓saP_rng, ↓ctP_nx, ↓ctP_rt, ↓ctP_bk, ↓ctP_ct, ↓lpP_nx, ↓lpP_ct, ↓lpP_bk, ↓lpP_rt, ↓zpP_lst, ↓zpP_tup, ↓enP_lst, ↓exP_lst, ↓tgP_V, ↓tgP_T, ↓tgsP_nil, ↓tgsP_cons, ↓rgP_ok, ↓iteP_true, ↓iteP_false, ↓iteP_t, ↓iteP_f, ↓iteP_nt, ↓iteP_nf, ↓hhP_eq, ↓opP_some, ↓pAdd, ↓pSub, ↓pNeg, ↓pMulR, ↓pMulL, ↓pMod, ↓pDiv, ↓p1018, ↓pLt, ↓pLe, ↓pGt, ↓pGe, ↓pOpB, ↓pEq, ↓pNe, ↓pIs0, ↓pIs1, ↓pIs2, ↓pIs3, ↓pIs4, ↓pIn0, ↓pIn1, ↓pIn2, ↓pIn3, ↓pIn4, ↓pLen1, ↓pLen2, ↓pLen3, ↓pInt, ↓pAbs, ↓pTup1, ↓pTup2, ↓pLst1, ↓pLst2, ↓pLst3, ↓pRng, ↓pSl1, ↓pSl2, ↓pSl3, ↓isi_int_non, ↓isi_int_bl, ↓isi_int_int, ↓isi_int_str, ↓isi_int_tup, ↓isi_int_lst, ↓isi_int_dic, ↓isi_bool_non, ↓isi_bool_bl, ↓isi_bool_int, ↓isi_bool_str, ↓isi_bool_tup, ↓isi_bool_lst, ↓isi_bool_dic, ↓isi_str_non, ↓isi_str_bl, ↓isi_str_int, ↓isi_str_str, ↓isi_str_tup, ↓isi_str_lst, ↓isi_str_dic, ↓isi_tuple_non, ↓isi_tuple_bl, ↓isi_tuple_int, ↓isi_tuple_str, ↓isi_tuple_tup, ↓isi_tuple_lst, ↓isi_tuple_dic, ↓isi_list_non, ↓isi_list_bl, ↓isi_list_int, ↓isi_list_str, ↓isi_list_tup, ↓isi_list_lst, ↓isi_list_dic, ↓isi_dict_non, ↓isi_dict_bl, ↓isi_dict_int, ↓isi_dict_str, ↓isi_dict_tup, ↓isi_dict_lst, ↓isi_dict_dic, ↓ixt0, ↓ixt1, ↓ixt2, ↓ixt3, ↓ixt4, ↓ixt5, ↓ixt6, ↓ixt7, ↓ixt8, ↓ixl0, ↓ixl1, ↓ixl2, ↓ixl3, ↓ixl4, ↓ixl5, ↓ixl6, ↓ixl7, ↓ixl8, ↓FX.gp0, ↓FX.gp1, ↓FX.gp2, ↓FX.gp3, ↓FX.gp4, ↓FX.gp5, ↓FX.gp6, ↓FX.gp7, ↓FX.gp8, ↓FX.gp9, ↓FX.gp10, ↓FX.gp11, ↓FX.gp12, ↓FX.gp13, ↓FX.gp14, ↓FX.gp15, ↓FX.gp16, ↓FX.gp17, ↓FX.gp18, ↓FX.gp19, ↓FX.gp20, ↓FX.gp21, ↓FX.gp22, ↓FX.gp23, ↓FX.gp24, ↓FX.gp25, ↓FX.gp26, ↓FX.gp27, ↓FX.gp28, ↓FX.gp29, ↓FX.gp30, ↓FX.gp31, ↓FX.gp32, ↓FX.gp33, ↓FX.sp0, ↓FX.sp1, ↓FX.sp2, ↓FX.sp3, ↓FX.sp4, ↓FX.sp5, ↓FX.sp6, ↓FX.sp7, ↓FX.sp8, ↓FX.sp9, ↓FX.sp10, ↓FX.sp11, ↓FX.sp12, ↓FX.sp13, ↓FX.sp14, ↓FX.sp15, ↓FX.sp16, ↓FX.sp17, ↓FX.sp18, ↓FX.sp19, ↓FX.sp20, ↓FX.sp21, ↓FX.sp22, ↓FX.sp23, ↓FX.sp24, ↓FX.sp25, ↓FX.sp26, ↓FX.sp27, ↓FX.sp28, ↓FX.sp29, ↓FX.sp30, ↓FX.sp31, ↓FX.sp32, ↓FX.sp33, ↓FX.hp0, ↓FX.hp1, ↓FX.hp2, ↓FX.hp3, ↓FX.hp4, ↓FX.wp0, ↓FX.wp1, ↓FX.wp2, ↓FX.wp3, ↓FX.wp4, end_rt, end_nx, ↓tgQ_eq, Bool.not_true, Bool.not_false, and_self, and_true, true_and]
    rw [cut_from (i := 1) (k := 1) rfl, ← List.map_drop, zipD]
    refine ⟨?_, wp_lcA (enc := fun q : Int × Int => D.tup [.int q.1, .int q.2]) (g := fun _ => .bl true) (fun q hq => ?_) ?_⟩
    · rw [List.length_map, List.length_zip, sizeLine_eq]; have := h.few; omega
    · have := zip_up h.up q hq
      simp -implicitDefEqProofs (disch := omega) only [↓wp_bnd, ↓wp_ret, ↓wp_vV, ↓wp_vB, ↓wp_vL, ↓wp_hix, ↓wp_b1, ↓wp_b2, ↓wp_ifM, ↓wp_notM, ↓wp_andM, ↓wp_orM, ↓wp_asB, ↓wp_asI, ↓wp_notV, ↓wp_andV, ↓wp_orV, ↓wp_sq0, ↓wp_sq, ↓wp_tupM, ↓wp_frz, ↓wp_chM, ↓wp_sqS, ↓wp_seV, ↓wp_seL, ↓wp_asM, ↓wp_paM, ↓wp_paM3, ↓wp_paR2, ↓wp_paR3, ↓wp_rvM, ↓wp_rlM, ↓rv_v, ↓rv_l, ↓wp_shM, ↓wp_apM, ↓wp_exM, ↓wp_siM, ↓wp_clV, ↓wp_clL, ↓wp_hdM, ↓wp_chV, ↓wp_chL, ↓wp_itM, ↓wp_itA, ↓wp_rg1M, ↓wp_rg2M, ↓wp_zpM, ↓wp_enM, ↓wp_isiM, ↓wp_someM, ↓wp_sl3, ↓wp_frM, ↓wp_lc, ↓wp_agM, ↓wipP1, ↓wipP2, ↓wipP3, ↓bacP1, ↓bacP2, ↓bacP3, ↓spK0, ↓spK1, ↓spK2, ↓foP_ret, ↓rdP_v, ↓rdP_l, ↓lsP_l, ↓blP_bl, ↓inP_int, ↓vlP_val, ↓vlP_own, ↓hdP_hnd, ↓sqP_lst, ↓sqP_tup, ↓sqP_scr, ↓saP_lst, ↓saP_tup, ↓saP_rng, ↓ctP_nx, ↓ctP_rt, ↓ctP_bk, ↓ctP_ct, ↓lpP_nx, ↓lpP_ct, ↓lpP_bk, ↓lpP_rt, ↓zpP_lst, ↓zpP_tup, ↓enP_lst, ↓exP_lst, ↓tgP_V, ↓tgP_T, ↓tgsP_nil, ↓tgsP_cons, ↓rgP_ok, ↓iteP_true, ↓iteP_false, ↓iteP_t, ↓iteP_f, ↓iteP_nt, ↓iteP_nf, ↓hhP_eq, ↓opP_some, ↓pAdd, ↓pSub, ↓pNeg, ↓pMulR, ↓pMulL, ↓pMod, ↓pDiv, ↓p1018, ↓pLt, ↓pLe, ↓pGt, ↓pGe, ↓pOpB, ↓pEq, ↓pNe, ↓pIs0, ↓pIs1, ↓pIs2, ↓pIs3, ↓pIs4, ↓pIn0, ↓pIn1, ↓pIn2, ↓pIn3, ↓pIn4, ↓pLen1, ↓pLen2, ↓pLen3, ↓pInt, ↓pAbs, ↓pTup1, ↓pTup2, ↓pLst1, ↓pLst2, ↓pLst3, ↓pRng, ↓pSl1, ↓pSl2, ↓pSl3, ↓isi_int_non, ↓isi_int_bl, ↓isi_int_int, ↓isi_int_str, ↓isi_int_tup, ↓isi_int_lst, ↓isi_int_dic, ↓isi_bool_non, ↓isi_bool_bl, ↓isi_bool_int, ↓isi_bool_str, ↓isi_bool_tup, ↓isi_bool_lst, ↓isi_bool_dic, ↓isi_str_non, ↓isi_str_bl, ↓isi_str_int, ↓isi_str_str, ↓isi_str_tup, ↓isi_str_lst, ↓isi_str_dic, ↓isi_tuple_non, ↓isi_tuple_bl, ↓isi_tuple_int, ↓isi_tuple_str, ↓isi_tuple_tup, ↓isi_tuple_lst, ↓isi_tuple_dic, ↓isi_list_non, ↓isi_list_bl, ↓isi_list_int, ↓isi_list_str, ↓isi_list_tup, ↓isi_list_lst, ↓isi_list_dic, ↓isi_dict_non, ↓isi_dict_bl, ↓isi_dict_int, ↓isi_dict_str, ↓isi_dict_tup, ↓isi_dict_lst, ↓isi_dict_dic, ↓ixt0, ↓ixt1, ↓ixt2, ↓ixt3, ↓ixt4, ↓ixt5, ↓ixt6, ↓ixt7, ↓ixt8, ↓ixl0, ↓ixl1, ↓ixl2, ↓ixl3, ↓ixl4, ↓ixl5, ↓ixl6, ↓ixl7, ↓ixl8, ↓FX.gp0, ↓FX.gp1, ↓FX.gp2, ↓FX.gp3, ↓FX.gp4, ↓FX.gp5, ↓FX.gp6, ↓FX.gp7, ↓FX.gp8, ↓FX.gp9, ↓FX.gp10, ↓FX.gp11, ↓FX.gp12, ↓FX.gp13, ↓FX.gp14, ↓FX.gp15, ↓FX.gp16, ↓FX.gp17, ↓FX.gp18, ↓FX.gp19, ↓FX.gp20, ↓FX.gp21, ↓FX.gp22, ↓FX.gp23, ↓FX.gp24, ↓FX.gp25, ↓FX.gp26, ↓FX.gp27, ↓FX.gp28, ↓FX.gp29, ↓FX.gp30, ↓FX.gp31, ↓FX.gp32, ↓FX.gp33, ↓FX.sp0, ↓FX.sp1, ↓FX.sp2, ↓FX.sp3, ↓FX.sp4, ↓FX.sp5, ↓FX.sp6, ↓FX.sp7, ↓FX.sp8, ↓FX.sp9, ↓FX.sp10, ↓FX.sp11, ↓FX.sp12, ↓FX.sp13, ↓FX.sp14, ↓FX.sp15, ↓FX.sp16, ↓FX.sp17, ↓FX.sp18, ↓FX.sp19, ↓FX.sp20, ↓FX.sp21, ↓FX.sp22, ↓FX.sp23, ↓FX.sp24, ↓FX.sp25, ↓FX.sp26, ↓FX.sp27, ↓FX.sp28, ↓FX.sp29, ↓FX.sp30, ↓FX.sp31, ↓FX.sp32, ↓FX.sp33, ↓FX.hp0, ↓FX.hp1, ↓FX.hp2, ↓FX.hp3, ↓FX.hp4, ↓FX.wp0, ↓FX.wp1, ↓FX.wp2, ↓FX.wp3, ↓FX.wp4, end_rt, end_nx, ↓tgQ_eq, Bool.not_true, Bool.not_false, and_self, and_true, true_and, decide_eq_true this]
    · simp -implicitDefEqProofs (disch := omega) only [↓wp_bnd, ↓wp_ret, ↓wp_vV, ↓wp_vB, ↓wp_vL, ↓wp_hix, ↓wp_b1, ↓wp_b2, ↓wp_ifM, ↓wp_notM, ↓wp_andM, ↓wp_orM, ↓wp_asB, ↓wp_asI, ↓wp_notV, ↓wp_andV, ↓wp_orV, ↓wp_sq0, ↓wp_sq, ↓wp_tupM, ↓wp_frz, ↓wp_chM, ↓wp_sqS, ↓wp_seV, ↓wp_seL, ↓wp_asM, ↓wp_paM, ↓wp_paM3, ↓wp_paR2, ↓wp_paR3, ↓wp_rvM, ↓wp_rlM, ↓rv_v, ↓rv_l, ↓wp_shM, ↓wp_apM, ↓wp_exM, ↓wp_siM, ↓wp_clV, ↓wp_clL, ↓wp_hdM, ↓wp_chV, ↓wp_chL, ↓wp_itM, ↓wp_itA, ↓wp_rg1M, ↓wp_rg2M, ↓wp_zpM, ↓wp_enM, ↓wp_isiM, ↓wp_someM, ↓wp_sl3, ↓wp_frM, ↓wp_lc, ↓wp_agM, ↓wipP1, ↓wipP2, ↓wipP3, ↓bacP1, ↓bacP2, ↓bacP3, ↓spK0, ↓spK1, ↓spK2, ↓foP_ret, ↓rdP_v, ↓rdP_l, ↓lsP_l, ↓blP_bl, ↓inP_int, ↓vlP_val, ↓vlP_own, ↓hdP_hnd, ↓sqP_lst, ↓sqP_tup, ↓sqP_scr, ↓saP_lst, ↓saP_tup, ↓saP_rng, ↓ctP_nx, ↓ctP_rt, ↓ctP_bk, ↓ctP_ct, ↓lpP_nx, ↓lpP_ct, ↓lpP_bk, ↓lpP_rt, ↓zpP_lst, ↓zpP_tup, ↓enP_lst, ↓exP_lst, ↓tgP_V, ↓tgP_T, ↓tgsP_nil, ↓tgsP_cons, ↓rgP_ok, ↓iteP_true, ↓iteP_false, ↓iteP_t, ↓iteP_f, ↓iteP_nt, ↓iteP_nf, ↓hhP_eq, ↓opP_some, ↓pAdd, ↓pSub, ↓pNeg, ↓pMulR, ↓pMulL, ↓pMod, ↓pDiv, ↓p1018, ↓pLt, ↓pLe, ↓pGt, ↓pGe, ↓pOpB, ↓pEq, ↓pNe, ↓pIs0, ↓pIs1, ↓pIs2, ↓pIs3, ↓pIs4, ↓pIn0, ↓pIn1, ↓pIn2, ↓pIn3, ↓pIn4, ↓pLen1, ↓pLen2, ↓pLen3, ↓pInt, ↓pAbs, ↓pTup1, ↓pTup2, ↓pLst1, ↓pLst2, ↓pLst3, ↓pRng, ↓pSl1, ↓pSl2, ↓pSl3, ↓isi_int_non, ↓isi_int_bl, ↓isi_int_int, ↓isi_int_str, ↓isi_int_tup, ↓isi_int_lst, ↓isi_int_dic, ↓isi_bool_non, ↓isi_bool_bl, ↓isi_bool_int, ↓isi_bool_str, ↓isi_bool_tup, ↓isi_bool_lst, ↓isi_bool_dic, ↓isi_str_non, ↓isi_str_bl, ↓isi_str_int, ↓isi_str_str, ↓isi_str_tup, ↓isi_str_lst, ↓isi_str_dic, ↓isi_tuple_non, ↓isi_tuple_bl, ↓isi_tuple_int, ↓isi_tuple_str, ↓isi_tuple_tup, ↓isi_tuple_lst, ↓isi_tuple_dic, ↓isi_list_non, ↓isi_list_bl, ↓isi_list_int, ↓isi_list_str, ↓isi_list_tup, ↓isi_list_lst, ↓isi_list_dic, ↓isi_dict_non, ↓isi_dict_bl, ↓isi_dict_int, ↓isi_dict_str, ↓isi_dict_tup, ↓isi_dict_lst, ↓isi_dict_dic, ↓ixt0, ↓ixt1, ↓ixt2, ↓ixt3, ↓ixt4, ↓ixt5, ↓ixt6, ↓ixt7, ↓ixt8, ↓ixl0, ↓ixl1, ↓ixl2, ↓ixl3, ↓ixl4, ↓ixl5, ↓ixl6, ↓ixl7, ↓ixl8, ↓FX.gp0, ↓FX.gp1, ↓FX.gp2, ↓FX.gp3, ↓FX.gp4, ↓FX.gp5, ↓FX.gp6, ↓FX.gp7, ↓FX.gp8, ↓FX.gp9, ↓FX.gp10, ↓FX.gp11, ↓FX.gp12, ↓FX.gp13, ↓FX.gp14, ↓FX.gp15, ↓FX.gp16, ↓FX.gp17, ↓FX.gp18, ↓FX.gp19, ↓FX.gp20, ↓FX.gp21, ↓FX.gp22, ↓FX.gp23, ↓FX.gp24, ↓FX.gp25, ↓FX.gp26, ↓FX.gp27, ↓FX.gp28, ↓FX.gp29, ↓FX.gp30, ↓FX.gp31, ↓FX.gp32, ↓FX.gp33, ↓FX.sp0, ↓FX.sp1, ↓FX.sp2, ↓FX.sp3, ↓FX.sp4, ↓FX.sp5, ↓FX.sp6, ↓FX.sp7, ↓FX.sp8, ↓FX.sp9, ↓FX.sp10, ↓FX.sp11, ↓FX.sp12, ↓FX.sp13, ↓FX.sp14, ↓FX.sp15, ↓FX.sp16, ↓FX.sp17, ↓FX.sp18, ↓FX.sp19, ↓FX.sp20, ↓FX.sp21, ↓FX.sp22, ↓FX.sp23, ↓FX.sp24, ↓FX.sp25, ↓FX.sp26, ↓FX.sp27, ↓FX.sp28, ↓FX.sp29, ↓FX.sp30, ↓FX.sp31, ↓FX.sp32, ↓FX.sp33, ↓FX.hp0, ↓FX.hp1, ↓FX.hp2, ↓FX.hp3, ↓FX.hp4, ↓FX.wp0, ↓FX.wp1, ↓FX.wp2, ↓FX.wp3, ↓FX.wp4, end_rt, end_nx, ↓tgQ_eq, Bool.not_true, Bool.not_false, and_self, and_true, true_and, List.nil_append]
      rw [pAllT]
theorem is_moments_ok (G : Txt K mg) {p : Int} {xs : List Int} (h : Lot p xs) : r_is_moments G [.int p, .tup (xs.map .int)] = .ret (.v (.bl true)) [] := by
  refine runP_of ⟨[.val (.int p), .val (.tup (xs.map .int))], []⟩ rfl ?_
  unfold m_is_moments
  have hl : 0 < xs.length := List.length_pos_iff.mpr h.ne
  have : (0 : Int) < (xs.map D.int).length := by rw [List.length_map]; omega
  simp -implicitDefEqProofs (disch := omega) only [↓wp_bnd, ↓wp_ret, ↓wp_vV, ↓wp_vB, ↓wp_vL, ↓wp_hix, ↓wp_b1, ↓wp_b2, ↓wp_ifM, ↓wp_notM, ↓wp_andM, ↓wp_orM, ↓wp_asB, ↓wp_asI, ↓wp_notV, ↓wp_andV, ↓wp_orV, ↓wp_sq0, ↓wp_sq, ↓wp_tupM, ↓wp_frz, ↓wp_chM, ↓wp_sqS, ↓wp_seV, ↓wp_seL, ↓wp_asM, ↓wp_paM, ↓wp_paM3, ↓wp_paR2, ↓wp_paR3, ↓wp_rvM, ↓wp_rlM, ↓rv_v, ↓rv_l, ↓wp_shM, ↓wp_apM, ↓wp_exM, ↓wp_siM, ↓wp_clV, ↓wp_clL, ↓wp_hdM, ↓wp_chV, ↓wp_chL, ↓wp_itM, ↓wp_itA, ↓wp_rg1M, ↓wp_rg2M, ↓wp_zpM, ↓wp_enM, ↓wp_isiM, ↓wp_someM, ↓wp_sl3, ↓wp_frM, ↓wp_lc, ↓wp_agM, ↓wipP1, ↓wipP2, ↓wipP3, ↓bacP1, ↓bacP2, ↓bacP3, ↓spK0, ↓spK1, ↓spK2, ↓foP_ret, ↓rdP_v, ↓rdP_l, ↓lsP_l, ↓blP_bl, ↓inP_int, ↓vlP_val, ↓vlP_own, ↓hdP_hnd, ↓sqP_lst, ↓sqP_tup, ↓sqP_scr, ↓saP_lst, ↓saP_tup, ↓saP_rng, ↓ctP_nx, ↓ctP_rt, ↓ctP_bk, ↓ctP_ct, ↓lpP_nx, ↓lpP_ct, ↓lpP_bk, ↓lpP_rt, ↓zpP_lst, ↓zpP_tup, ↓enP_lst, ↓exP_lst, ↓tgP_V, ↓tgP_T, ↓tgsP_nil, ↓tgsP_cons, ↓rgP_ok, ↓iteP_true, ↓iteP_false, ↓iteP_t, ↓iteP_f, ↓iteP_nt, ↓iteP_nf, ↓hhP_eq, ↓opP_some, ↓pAdd, ↓pSub, ↓pNeg, ↓pMulR, ↓pMulL, ↓pMod, ↓pDiv, ↓p1018, ↓pLt, ↓pLe, ↓pGt, ↓pGe, ↓pOpB, ↓pEq, ↓pNe, ↓pIs0, ↓pIs1, ↓pIs2, ↓pIs3, ↓pIs4, ↓pIn0, ↓pIn1, ↓pIn2, ↓pIn3, ↓pIn4, ↓pLen1, ↓pLen2, ↓pLen3, ↓pInt, ↓pAbs, ↓pTup1, ↓pTup2, ↓pLst1, ↓pLst2, ↓pLst3, ↓pRng, ↓pSl1, ↓pSl2, ↓pSl3, ↓isi_int_non, ↓isi_int_bl, ↓isi_int_int, ↓isi_int_str, ↓isi_int_tup, ↓isi_int_lst, ↓isi_int_dic, ↓isi_bool_non, ↓isi_bool_bl, ↓isi_bool_int, ↓isi_bool_str, ↓isi_bool_tup, ↓isi_bool_lst, ↓isi_bool_dic, ↓isi_str_non, ↓isi_str_bl, ↓isi_str_int, ↓isi_str_str, ↓isi_str_tup, ↓isi_str_lst, ↓isi_str_dic, ↓isi_tuple_non, ↓isi_tuple_bl, ↓isi_tuple_int, ↓isi_tuple_str, ↓isi_tuple_tup, ↓isi_tuple_lst, ↓isi_tuple_dic, ↓isi_list_non, ↓isi_list_bl, ↓isi_list_int, ↓isi_list_str, ↓isi_list_tup, ↓isi_list_lst, ↓isi_list_dic, ↓isi_dict_non, ↓isi_dict_bl, ↓isi_dict_int, ↓isi_dict_str, ↓isi_dict_tup, ↓isi_dict_lst, ↓isi_dict_dic, ↓ixt0, ↓ixt1, ↓ixt2, ↓ixt3, ↓ixt4, ↓ixt5, ↓ixt6, ↓ixt7, ↓ixt8, ↓ixl0, ↓ixl1, ↓ixl2, ↓ixl3, ↓ixl4, ↓ixl5, ↓ixl6, ↓ixl7, ↓ixl8, ↓FX.gp0, ↓FX.gp1, ↓FX.gp2, ↓FX.gp3, ↓FX.gp4, ↓FX.gp5, ↓FX.gp6, ↓FX.gp7, ↓FX.gp8, ↓FX.gp9, ↓FX.gp10, ↓FX.gp11, ↓FX.gp12, ↓FX.gp13, ↓FX.gp14, ↓FX.gp15, ↓FX.gp16, ↓FX.gp17, ↓FX.gp18, ↓FX.gp19, ↓FX.gp20, ↓FX.gp21, ↓FX.gp22, ↓FX.gp23, ↓FX.gp24, ↓FX.gp25, ↓FX.gp26, ↓FX.gp27, ↓FX.gp28, ↓FX.gp29, ↓FX.gp30, ↓FX.gp31, ↓FX.gp32, ↓FX.gp33, ↓FX.sp0, ↓FX.sp1, ↓FX.sp2, ↓FX.sp3, ↓FX.sp4, ↓FX.sp5, ↓FX.sp6, ↓FX.sp7, ↓FX.sp8, ↓FX.sp9, ↓FX.sp10, ↓FX.sp11, ↓FX.sp12, ↓FX.sp13, ↓FX.sp14, ↓FX.sp15, ↓FX.sp16, ↓FX.sp17, ↓FX.sp18, ↓FX.sp19, ↓FX.sp20, ↓FX.sp21, ↓FX.sp22, ↓FX.sp23, ↓FX.sp24, ↓FX.sp25, ↓FX.sp26, ↓FX.sp27, ↓FX.sp28, ↓FX.sp29, ↓FX.sp30, ↓FX.sp31, ↓FX.sp32, ↓FX.sp33, ↓FX.hp0, ↓FX.hp1, ↓FX.hp2, ↓FX.hp3, ↓FX.hp4, ↓FX.wp0, ↓FX.wp1, ↓FX.wp2, ↓FX.wp3, ↓FX.wp4, end_rt, end_nx, ↓tgQ_eq, Bool.not_true, Bool.not_false, and_self, and_true, true_and, ↓foP_of (is_lot_ok G h), decide_eq_true this]
abbrev Line := List Int × List Int
def lineD (l : Line) : D := .tup [.tup (l.1.map .int), .tup (l.2.map .int)]
def hubD (p : Int) (ls : List Line) : D := .tup [.int p, .tup (ls.map lineD)]
structure Hub (p : Int) (ls : List Line) : Prop where
  lo : 1 ≤ p
  hi : p ≤ 200
  two : 2 ≤ ls.length
  few : ls.length ≤ 8
  lots : ∀ l ∈ ls, Lot p l.1 ∧ Lot p l.2
theorem is_hub_ok (G : Txt K mg) {p : Int} {ls : List Line} (h : Hub p ls) : r_is_hub G [hubD p ls] = .ret (.v (.bl true)) [] := by
  refine runP_of ⟨[.val (hubD p ls), .un, .un, .un], []⟩ rfl ?_
  obtain ⟨h1, h2, h3, h4, h5⟩ := h
  unfold m_is_hub hubD
  have e1 : (2 : Int) ≤ (ls.map lineD).length := by rw [List.length_map]; omega
  have e2 : ((ls.map lineD).length : Int) ≤ 8 := by rw [List.length_map]; omega
  have e3 : (ls.map lineD).length ≤ sizeLine := by rw [List.length_map, sizeLine_eq]; omega
  simp -implicitDefEqProofs (disch := omega) only [↓wp_bnd, ↓wp_ret, ↓wp_vV, ↓wp_vB, ↓wp_vL, ↓wp_hix, ↓wp_b1, ↓wp_b2, ↓wp_ifM, ↓wp_notM, ↓wp_andM, ↓wp_orM, ↓wp_asB, ↓wp_asI, ↓wp_notV, ↓wp_andV, ↓wp_orV, ↓wp_sq0, ↓wp_sq, ↓wp_tupM, ↓wp_frz, ↓wp_chM, ↓wp_sqS, ↓wp_seV, ↓wp_seL, ↓wp_asM, ↓wp_paM, ↓wp_paM3, ↓wp_paR2, ↓wp_paR3, ↓wp_rvM, ↓wp_rlM, ↓rv_v, ↓rv_l, ↓wp_shM, ↓wp_apM, ↓wp_exM, ↓wp_siM, ↓wp_clV, ↓wp_clL, ↓wp_hdM, ↓wp_chV, ↓wp_chL, ↓wp_itM, ↓wp_itA, ↓wp_rg1M, ↓wp_rg2M, ↓wp_zpM, ↓wp_enM, ↓wp_isiM, ↓wp_someM, ↓wp_sl3, ↓wp_frM, ↓wp_lc, ↓wp_agM, ↓wipP1, ↓wipP2, ↓wipP3, ↓bacP1, ↓bacP2, ↓bacP3, ↓spK0, ↓spK1, ↓spK2, ↓foP_ret, ↓rdP_v, ↓rdP_l, ↓lsP_l, ↓blP_bl, ↓inP_int, ↓vlP_val, ↓vlP_own, ↓hdP_hnd, ↓sqP_lst, ↓sqP_tup, ↓sqP_scr, ↓saP_lst, ↓saP_tup, ↓saP_rng, ↓ctP_nx, ↓ctP_rt, ↓ctP_bk, ↓ctP_ct, ↓lpP_nx, ↓lpP_ct, ↓lpP_bk, ↓lpP_rt, ↓zpP_lst, ↓zpP_tup, ↓enP_lst, ↓exP_lst, ↓tgP_V, ↓tgP_T, ↓tgsP_nil, ↓tgsP_cons, ↓rgP_ok, ↓iteP_true, ↓iteP_false, ↓iteP_t, ↓iteP_f, ↓iteP_nt, ↓iteP_nf, ↓hhP_eq, ↓opP_some, ↓pAdd, ↓pSub, ↓pNeg, ↓pMulR, ↓pMulL, ↓pMod, ↓pDiv, ↓p1018, ↓pLt, ↓pLe, ↓pGt, ↓pGe, ↓pOpB, ↓pEq, ↓pNe, ↓pIs0, ↓pIs1, ↓pIs2, ↓pIs3, ↓pIs4, ↓pIn0, ↓pIn1, ↓pIn2, ↓pIn3, ↓pIn4, ↓pLen1, ↓pLen2, ↓pLen3, ↓pInt, ↓pAbs, ↓pTup1, ↓pTup2, ↓pLst1, ↓pLst2, ↓pLst3, ↓pRng, ↓pSl1, ↓pSl2, ↓pSl3, ↓isi_int_non, ↓isi_int_bl, ↓isi_int_int, ↓isi_int_str, ↓isi_int_tup, ↓isi_int_lst, ↓isi_int_dic, ↓isi_bool_non, ↓isi_bool_bl, ↓isi_bool_int, ↓isi_bool_str, ↓isi_bool_tup, ↓isi_bool_lst, ↓isi_bool_dic, ↓isi_str_non, ↓isi_str_bl, ↓isi_str_int, ↓isi_str_str, ↓isi_str_tup, ↓isi_str_lst, ↓isi_str_dic, ↓isi_tuple_non, ↓isi_tuple_bl, ↓isi_tuple_int, ↓isi_tuple_str, ↓isi_tuple_tup, ↓isi_tuple_lst, ↓isi_tuple_dic, ↓isi_list_non, ↓isi_list_bl, ↓isi_list_int, ↓isi_list_str, ↓isi_list_tup, ↓isi_list_lst, ↓isi_list_dic, ↓isi_dict_non, ↓isi_dict_bl, ↓isi_dict_int, ↓isi_dict_str, ↓isi_dict_tup, ↓isi_dict_lst, ↓isi_dict_dic, ↓ixt0, ↓ixt1, ↓ixt2, ↓ixt3, ↓ixt4, ↓ixt5, ↓ixt6, ↓ixt7, ↓ixt8, ↓ixl0, ↓ixl1, ↓ixl2, ↓ixl3, ↓ixl4, ↓ixl5, ↓ixl6, ↓ixl7, ↓ixl8, ↓FX.gp0, ↓FX.gp1, ↓FX.gp2, ↓FX.gp3, ↓FX.gp4, ↓FX.gp5, ↓FX.gp6, ↓FX.gp7, ↓FX.gp8, ↓FX.gp9, ↓FX.gp10, ↓FX.gp11, ↓FX.gp12, ↓FX.gp13, ↓FX.gp14, ↓FX.gp15, ↓FX.gp16, ↓FX.gp17, ↓FX.gp18, ↓FX.gp19, ↓FX.gp20, ↓FX.gp21, ↓FX.gp22, ↓FX.gp23, ↓FX.gp24, ↓FX.gp25, ↓FX.gp26, ↓FX.gp27, ↓FX.gp28, ↓FX.gp29, ↓FX.gp30, ↓FX.gp31, ↓FX.gp32, ↓FX.gp33, ↓FX.sp0, ↓FX.sp1, ↓FX.sp2, ↓FX.sp3, ↓FX.sp4, ↓FX.sp5, ↓FX.sp6, ↓FX.sp7, ↓FX.sp8, ↓FX.sp9, ↓FX.sp10, ↓FX.sp11, ↓FX.sp12, ↓FX.sp13, ↓FX.sp14, ↓FX.sp15, ↓FX.sp16, ↓FX.sp17, ↓FX.sp18, ↓FX.sp19, ↓FX.sp20, ↓FX.sp21, ↓FX.sp22, ↓FX.sp23, ↓FX.sp24, ↓FX.sp25, ↓FX.sp26, ↓FX.sp27, ↓FX.sp28, ↓FX.sp29, ↓FX.sp30, ↓FX.sp31, ↓FX.sp32, ↓FX.sp33, ↓FX.hp0, ↓FX.hp1, ↓FX.hp2, ↓FX.hp3, ↓FX.hp4, ↓FX.wp0, ↓FX.wp1, ↓FX.wp2, ↓FX.wp3, ↓FX.wp4, end_rt, end_nx, ↓tgQ_eq, Bool.not_true, Bool.not_false, and_self, and_true, true_and, ↓foP_of (is_within_ok G h1 h2), List.length_cons, List.length_nil]
  refine ⟨e3, wp_lcA (enc := lineD) (g := fun _ => .bl true) (fun x hx => ?_) ?_⟩
  · unfold lineD
    simp -implicitDefEqProofs (disch := omega) only [↓wp_bnd, ↓wp_ret, ↓wp_vV, ↓wp_vB, ↓wp_vL, ↓wp_hix, ↓wp_b1, ↓wp_b2, ↓wp_ifM, ↓wp_notM, ↓wp_andM, ↓wp_orM, ↓wp_asB, ↓wp_asI, ↓wp_notV, ↓wp_andV, ↓wp_orV, ↓wp_sq0, ↓wp_sq, ↓wp_tupM, ↓wp_frz, ↓wp_chM, ↓wp_sqS, ↓wp_seV, ↓wp_seL, ↓wp_asM, ↓wp_paM, ↓wp_paM3, ↓wp_paR2, ↓wp_paR3, ↓wp_rvM, ↓wp_rlM, ↓rv_v, ↓rv_l, ↓wp_shM, ↓wp_apM, ↓wp_exM, ↓wp_siM, ↓wp_clV, ↓wp_clL, ↓wp_hdM, ↓wp_chV, ↓wp_chL, ↓wp_itM, ↓wp_itA, ↓wp_rg1M, ↓wp_rg2M, ↓wp_zpM, ↓wp_enM, ↓wp_isiM, ↓wp_someM, ↓wp_sl3, ↓wp_frM, ↓wp_lc, ↓wp_agM, ↓wipP1, ↓wipP2, ↓wipP3, ↓bacP1, ↓bacP2, ↓bacP3, ↓spK0, ↓spK1, ↓spK2, ↓foP_ret, ↓rdP_v, ↓rdP_l, ↓lsP_l, ↓blP_bl, ↓inP_int, ↓vlP_val, ↓vlP_own, ↓hdP_hnd, ↓sqP_lst, ↓sqP_tup, ↓sqP_scr, ↓saP_lst, ↓saP_tup, ↓saP_rng, ↓ctP_nx, ↓ctP_rt, ↓ctP_bk, ↓ctP_ct, ↓lpP_nx, ↓lpP_ct, ↓lpP_bk, ↓lpP_rt, ↓zpP_lst, ↓zpP_tup, ↓enP_lst, ↓exP_lst, ↓tgP_V, ↓tgP_T, ↓tgsP_nil, ↓tgsP_cons, ↓rgP_ok, ↓iteP_true, ↓iteP_false, ↓iteP_t, ↓iteP_f, ↓iteP_nt, ↓iteP_nf, ↓hhP_eq, ↓opP_some, ↓pAdd, ↓pSub, ↓pNeg, ↓pMulR, ↓pMulL, ↓pMod, ↓pDiv, ↓p1018, ↓pLt, ↓pLe, ↓pGt, ↓pGe, ↓pOpB, ↓pEq, ↓pNe, ↓pIs0, ↓pIs1, ↓pIs2, ↓pIs3, ↓pIs4, ↓pIn0, ↓pIn1, ↓pIn2, ↓pIn3, ↓pIn4, ↓pLen1, ↓pLen2, ↓pLen3, ↓pInt, ↓pAbs, ↓pTup1, ↓pTup2, ↓pLst1, ↓pLst2, ↓pLst3, ↓pRng, ↓pSl1, ↓pSl2, ↓pSl3, ↓isi_int_non, ↓isi_int_bl, ↓isi_int_int, ↓isi_int_str, ↓isi_int_tup, ↓isi_int_lst, ↓isi_int_dic, ↓isi_bool_non, ↓isi_bool_bl, ↓isi_bool_int, ↓isi_bool_str, ↓isi_bool_tup, ↓isi_bool_lst, ↓isi_bool_dic, ↓isi_str_non, ↓isi_str_bl, ↓isi_str_int, ↓isi_str_str, ↓isi_str_tup, ↓isi_str_lst, ↓isi_str_dic, ↓isi_tuple_non, ↓isi_tuple_bl, ↓isi_tuple_int, ↓isi_tuple_str, ↓isi_tuple_tup, ↓isi_tuple_lst, ↓isi_tuple_dic, ↓isi_list_non, ↓isi_list_bl, ↓isi_list_int, ↓isi_list_str, ↓isi_list_tup, ↓isi_list_lst, ↓isi_list_dic, ↓isi_dict_non, ↓isi_dict_bl, ↓isi_dict_int, ↓isi_dict_str, ↓isi_dict_tup, ↓isi_dict_lst, ↓isi_dict_dic, ↓ixt0, ↓ixt1, ↓ixt2, ↓ixt3, ↓ixt4, ↓ixt5, ↓ixt6, ↓ixt7, ↓ixt8, ↓ixl0, ↓ixl1, ↓ixl2, ↓ixl3, ↓ixl4, ↓ixl5, ↓ixl6, ↓ixl7, ↓ixl8, ↓FX.gp0, ↓FX.gp1, ↓FX.gp2, ↓FX.gp3, ↓FX.gp4, ↓FX.gp5, ↓FX.gp6, ↓FX.gp7, ↓FX.gp8, ↓FX.gp9, ↓FX.gp10, ↓FX.gp11, ↓FX.gp12, ↓FX.gp13, ↓FX.gp14, ↓FX.gp15, ↓FX.gp16, ↓FX.gp17, ↓FX.gp18, ↓FX.gp19, ↓FX.gp20, ↓FX.gp21, ↓FX.gp22, ↓FX.gp23, ↓FX.gp24, ↓FX.gp25, ↓FX.gp26, ↓FX.gp27, ↓FX.gp28, ↓FX.gp29, ↓FX.gp30, ↓FX.gp31, ↓FX.gp32, ↓FX.gp33, ↓FX.sp0, ↓FX.sp1, ↓FX.sp2, ↓FX.sp3, ↓FX.sp4, ↓FX.sp5, ↓FX.sp6, ↓FX.sp7, ↓FX.sp8, ↓FX.sp9, ↓FX.sp10, ↓FX.sp11, ↓FX.sp12, ↓FX.sp13, ↓FX.sp14, ↓FX.sp15, ↓FX.sp16, ↓FX.sp17, ↓FX.sp18, ↓FX.sp19, ↓FX.sp20, ↓FX.sp21, ↓FX.sp22, ↓FX.sp23, ↓FX.sp24, ↓FX.sp25, ↓FX.sp26, ↓FX.sp27, ↓FX.sp28, ↓FX.sp29, ↓FX.sp30, ↓FX.sp31, ↓FX.sp32, ↓FX.sp33, ↓FX.hp0, ↓FX.hp1, ↓FX.hp2, ↓FX.hp3, ↓FX.hp4, ↓FX.wp0, ↓FX.wp1, ↓FX.wp2, ↓FX.wp3, ↓FX.wp4, end_rt, end_nx, ↓tgQ_eq, Bool.not_true, Bool.not_false, and_self, and_true, true_and, List.length_cons, List.length_nil]
    simp
  · simp -implicitDefEqProofs (disch := omega) only [↓wp_bnd, ↓wp_ret, ↓wp_vV, ↓wp_vB, ↓wp_vL, ↓wp_hix, ↓wp_b1, ↓wp_b2, ↓wp_ifM, ↓wp_notM, ↓wp_andM, ↓wp_orM, ↓wp_asB, ↓wp_asI, ↓wp_notV, ↓wp_andV, ↓wp_orV, ↓wp_sq0, ↓wp_sq, ↓wp_tupM, ↓wp_frz, ↓wp_chM, ↓wp_sqS, ↓wp_seV, ↓wp_seL, ↓wp_asM, ↓wp_paM, ↓wp_paM3, ↓wp_paR2, ↓wp_paR3, ↓wp_rvM, ↓wp_rlM, ↓rv_v, ↓rv_l, ↓wp_shM, ↓wp_apM, ↓wp_exM, ↓wp_siM, ↓wp_clV, ↓wp_clL, ↓wp_hdM, ↓wp_chV, ↓wp_chL, ↓wp_itM, ↓wp_itA, ↓wp_rg1M, ↓wp_rg2M, ↓wp_zpM, ↓wp_enM, ↓wp_isiM, ↓wp_someM, ↓wp_sl3, ↓wp_frM, ↓wp_lc, ↓wp_agM, ↓wipP1, ↓wipP2, ↓wipP3, ↓bacP1, ↓bacP2, ↓bacP3, ↓spK0, ↓spK1, ↓spK2, ↓foP_ret, ↓rdP_v, ↓rdP_l, ↓lsP_l, ↓blP_bl, ↓inP_int, ↓vlP_val, ↓vlP_own, ↓hdP_hnd, ↓sqP_lst, ↓sqP_tup, ↓sqP_scr, ↓saP_lst, ↓saP_tup, ↓saP_rng, ↓ctP_nx, ↓ctP_rt, ↓ctP_bk, ↓ctP_ct, ↓lpP_nx, ↓lpP_ct, ↓lpP_bk, ↓lpP_rt, ↓zpP_lst, ↓zpP_tup, ↓enP_lst, ↓exP_lst, ↓tgP_V, ↓tgP_T, ↓tgsP_nil, ↓tgsP_cons, ↓rgP_ok, ↓iteP_true, ↓iteP_false, ↓iteP_t, ↓iteP_f, ↓iteP_nt, ↓iteP_nf, ↓hhP_eq, ↓opP_some, ↓pAdd, ↓pSub, ↓pNeg, ↓pMulR, ↓pMulL, ↓pMod, ↓pDiv, ↓p1018, ↓pLt, ↓pLe, ↓pGt, ↓pGe, ↓pOpB, ↓pEq, ↓pNe, ↓pIs0, ↓pIs1, ↓pIs2, ↓pIs3, ↓pIs4, ↓pIn0, ↓pIn1, ↓pIn2, ↓pIn3, ↓pIn4, ↓pLen1, ↓pLen2, ↓pLen3, ↓pInt, ↓pAbs, ↓pTup1, ↓pTup2, ↓pLst1, ↓pLst2, ↓pLst3, ↓pRng, ↓pSl1, ↓pSl2, ↓pSl3, ↓isi_int_non, ↓isi_int_bl, ↓isi_int_int, ↓isi_int_str, ↓isi_int_tup, ↓isi_int_lst, ↓isi_int_dic, ↓isi_bool_non, ↓isi_bool_bl, ↓isi_bool_int, ↓isi_bool_str, ↓isi_bool_tup, ↓isi_bool_lst, ↓isi_bool_dic, ↓isi_str_non, ↓isi_str_bl, ↓isi_str_int, ↓isi_str_str, ↓isi_str_tup, ↓isi_str_lst, ↓isi_str_dic, ↓isi_tuple_non, ↓isi_tuple_bl, ↓isi_tuple_int, ↓isi_tuple_str, ↓isi_tuple_tup, ↓isi_tuple_lst, ↓isi_tuple_dic, ↓isi_list_non, ↓isi_list_bl, ↓isi_list_int, ↓isi_list_str, ↓isi_list_tup, ↓isi_list_lst, ↓isi_list_dic, ↓isi_dict_non, ↓isi_dict_bl, ↓isi_dict_int, ↓isi_dict_str, ↓isi_dict_tup, ↓isi_dict_lst, ↓isi_dict_dic, ↓ixt0, ↓ixt1, ↓ixt2, ↓ixt3, ↓ixt4, ↓ixt5, ↓ixt6, ↓ixt7, ↓ixt8, ↓ixl0, ↓ixl1, ↓ixl2, ↓ixl3, ↓ixl4, ↓ixl5, ↓ixl6, ↓ixl7, ↓ixl8, ↓FX.gp0, ↓FX.gp1, ↓FX.gp2, ↓FX.gp3, ↓FX.gp4, ↓FX.gp5, ↓FX.gp6, ↓FX.gp7, ↓FX.gp8, ↓FX.gp9, ↓FX.gp10, ↓FX.gp11, ↓FX.gp12, ↓FX.gp13, ↓FX.gp14, ↓FX.gp15, ↓FX.gp16, ↓FX.gp17, ↓FX.gp18, ↓FX.gp19, ↓FX.gp20, ↓FX.gp21, ↓FX.gp22, ↓FX.gp23, ↓FX.gp24, ↓FX.gp25, ↓FX.gp26, ↓FX.gp27, ↓FX.gp28, ↓FX.gp29, ↓FX.gp30, ↓FX.gp31, ↓FX.gp32, ↓FX.gp33, ↓FX.sp0, ↓FX.sp1, ↓FX.sp2, ↓FX.sp3, ↓FX.sp4, ↓FX.sp5, ↓FX.sp6, ↓FX.sp7, ↓FX.sp8, ↓FX.sp9, ↓FX.sp10, ↓FX.sp11, ↓FX.sp12, ↓FX.sp13, ↓FX.sp14, ↓FX.sp15, ↓FX.sp16, ↓FX.sp17, ↓FX.sp18, ↓FX.sp19, ↓FX.sp20, ↓FX.sp21, ↓FX.sp22, ↓FX.sp23, ↓FX.sp24, ↓FX.sp25, ↓FX.sp26, ↓FX.sp27, ↓FX.sp28, ↓FX.sp29, ↓FX.sp30, ↓FX.sp31, ↓FX.sp32, ↓FX.sp33, ↓FX.hp0, ↓FX.hp1, ↓FX.hp2, ↓FX.hp3, ↓FX.hp4, ↓FX.wp0, ↓FX.wp1, ↓FX.wp2, ↓FX.wp3, ↓FX.wp4, end_rt, end_nx, ↓tgQ_eq, Bool.not_true, Bool.not_false, and_self, and_true, true_and, List.nil_append]
    rw [pAllT]
    simp -implicitDefEqProofs (disch := omega) only [↓wp_bnd, ↓wp_ret, ↓wp_vV, ↓wp_vB, ↓wp_vL, ↓wp_hix, ↓wp_b1, ↓wp_b2, ↓wp_ifM, ↓wp_notM, ↓wp_andM, ↓wp_orM, ↓wp_asB, ↓wp_asI, ↓wp_notV, ↓wp_andV, ↓wp_orV, ↓wp_sq0, ↓wp_sq, ↓wp_tupM, ↓wp_frz, ↓wp_chM, ↓wp_sqS, ↓wp_seV, ↓wp_seL, ↓wp_asM, ↓wp_paM, ↓wp_paM3, ↓wp_paR2, ↓wp_paR3, ↓wp_rvM, ↓wp_rlM, ↓rv_v, ↓rv_l, ↓wp_shM, ↓wp_apM, ↓wp_exM, ↓wp_siM, ↓wp_clV, ↓wp_clL, ↓wp_hdM, ↓wp_chV, ↓wp_chL, ↓wp_itM, ↓wp_itA, ↓wp_rg1M, ↓wp_rg2M, ↓wp_zpM, ↓wp_enM, ↓wp_isiM, ↓wp_someM, ↓wp_sl3, ↓wp_frM, ↓wp_lc, ↓wp_agM, ↓wipP1, ↓wipP2, ↓wipP3, ↓bacP1, ↓bacP2, ↓bacP3, ↓spK0, ↓spK1, ↓spK2, ↓foP_ret, ↓rdP_v, ↓rdP_l, ↓lsP_l, ↓blP_bl, ↓inP_int, ↓vlP_val, ↓vlP_own, ↓hdP_hnd, ↓sqP_lst, ↓sqP_tup, ↓sqP_scr, ↓saP_lst, ↓saP_tup, ↓saP_rng, ↓ctP_nx, ↓ctP_rt, ↓ctP_bk, ↓ctP_ct, ↓lpP_nx, ↓lpP_ct, ↓lpP_bk, ↓lpP_rt, ↓zpP_lst, ↓zpP_tup, ↓enP_lst, ↓exP_lst, ↓tgP_V, ↓tgP_T, ↓tgsP_nil, ↓tgsP_cons, ↓rgP_ok, ↓iteP_true, ↓iteP_false, ↓iteP_t, ↓iteP_f, ↓iteP_nt, ↓iteP_nf, ↓hhP_eq, ↓opP_some, ↓pAdd, ↓pSub, ↓pNeg, ↓pMulR, ↓pMulL, ↓pMod, ↓pDiv, ↓p1018, ↓pLt, ↓pLe, ↓pGt, ↓pGe, ↓pOpB, ↓pEq, ↓pNe, ↓pIs0, ↓pIs1, ↓pIs2, ↓pIs3, ↓pIs4, ↓pIn0, ↓pIn1, ↓pIn2, ↓pIn3, ↓pIn4, ↓pLen1, ↓pLen2, ↓pLen3, ↓pInt, ↓pAbs, ↓pTup1, ↓pTup2, ↓pLst1, ↓pLst2, ↓pLst3, ↓pRng, ↓pSl1, ↓pSl2, ↓pSl3, ↓isi_int_non, ↓isi_int_bl, ↓isi_int_int, ↓isi_int_str, ↓isi_int_tup, ↓isi_int_lst, ↓isi_int_dic, ↓isi_bool_non, ↓isi_bool_bl, ↓isi_bool_int, ↓isi_bool_str, ↓isi_bool_tup, ↓isi_bool_lst, ↓isi_bool_dic, ↓isi_str_non, ↓isi_str_bl, ↓isi_str_int, ↓isi_str_str, ↓isi_str_tup, ↓isi_str_lst, ↓isi_str_dic, ↓isi_tuple_non, ↓isi_tuple_bl, ↓isi_tuple_int, ↓isi_tuple_str, ↓isi_tuple_tup, ↓isi_tuple_lst, ↓isi_tuple_dic, ↓isi_list_non, ↓isi_list_bl, ↓isi_list_int, ↓isi_list_str, ↓isi_list_tup, ↓isi_list_lst, ↓isi_list_dic, ↓isi_dict_non, ↓isi_dict_bl, ↓isi_dict_int, ↓isi_dict_str, ↓isi_dict_tup, ↓isi_dict_lst, ↓isi_dict_dic, ↓ixt0, ↓ixt1, ↓ixt2, ↓ixt3, ↓ixt4, ↓ixt5, ↓ixt6, ↓ixt7, ↓ixt8, ↓ixl0, ↓ixl1, ↓ixl2, ↓ixl3, ↓ixl4, ↓ixl5, ↓ixl6, ↓ixl7, ↓ixl8, ↓FX.gp0, ↓FX.gp1, ↓FX.gp2, ↓FX.gp3, ↓FX.gp4, ↓FX.gp5, ↓FX.gp6, ↓FX.gp7, ↓FX.gp8, ↓FX.gp9, ↓FX.gp10, ↓FX.gp11, ↓FX.gp12, ↓FX.gp13, ↓FX.gp14, ↓FX.gp15, ↓FX.gp16, ↓FX.gp17, ↓FX.gp18, ↓FX.gp19, ↓FX.gp20, ↓FX.gp21, ↓FX.gp22, ↓FX.gp23, ↓FX.gp24, ↓FX.gp25, ↓FX.gp26, ↓FX.gp27, ↓FX.gp28, ↓FX.gp29, ↓FX.gp30, ↓FX.gp31, ↓FX.gp32, ↓FX.gp33, ↓FX.sp0, ↓FX.sp1, ↓FX.sp2, ↓FX.sp3, ↓FX.sp4, ↓FX.sp5, ↓FX.sp6, ↓FX.sp7, ↓FX.sp8, ↓FX.sp9, ↓FX.sp10, ↓FX.sp11, ↓FX.sp12, ↓FX.sp13, ↓FX.sp14, ↓FX.sp15, ↓FX.sp16, ↓FX.sp17, ↓FX.sp18, ↓FX.sp19, ↓FX.sp20, ↓FX.sp21, ↓FX.sp22, ↓FX.sp23, ↓FX.sp24, ↓FX.sp25, ↓FX.sp26, ↓FX.sp27, ↓FX.sp28, ↓FX.sp29, ↓FX.sp30, ↓FX.sp31, ↓FX.sp32, ↓FX.sp33, ↓FX.hp0, ↓FX.hp1, ↓FX.hp2, ↓FX.hp3, ↓FX.hp4, ↓FX.wp0, ↓FX.wp1, ↓FX.wp2, ↓FX.wp3, ↓FX.wp4, end_rt, end_nx, ↓tgQ_eq, Bool.not_true, Bool.not_false, and_self, and_true, true_and]
    refine ⟨e3, wp_lcA (enc := lineD) (g := fun _ => .bl true) (fun x hx => ?_) ?_⟩
    · obtain ⟨q1, q2⟩ := h5 x hx
      unfold lineD
      simp -implicitDefEqProofs (disch := omega) only [↓wp_bnd, ↓wp_ret, ↓wp_vV, ↓wp_vB, ↓wp_vL, ↓wp_hix, ↓wp_b1, ↓wp_b2, ↓wp_ifM, ↓wp_notM, ↓wp_andM, ↓wp_orM, ↓wp_asB, ↓wp_asI, ↓wp_notV, ↓wp_andV, ↓wp_orV, ↓wp_sq0, ↓wp_sq, ↓wp_tupM, ↓wp_frz, ↓wp_chM, ↓wp_sqS, ↓wp_seV, ↓wp_seL, ↓wp_asM, ↓wp_paM, ↓wp_paM3, ↓wp_paR2, ↓wp_paR3, ↓wp_rvM, ↓wp_rlM, ↓rv_v, ↓rv_l, ↓wp_shM, ↓wp_apM, ↓wp_exM, ↓wp_siM, ↓wp_clV, ↓wp_clL, ↓wp_hdM, ↓wp_chV, ↓wp_chL, ↓wp_itM, ↓wp_itA, ↓wp_rg1M, ↓wp_rg2M, ↓wp_zpM, ↓wp_enM, ↓wp_isiM, ↓wp_someM, ↓wp_sl3, ↓wp_frM, ↓wp_lc, ↓wp_agM, ↓wipP1, ↓wipP2, ↓wipP3, ↓bacP1, ↓bacP2, ↓bacP3, ↓spK0, ↓spK1, ↓spK2, ↓foP_ret, ↓rdP_v, ↓rdP_l, ↓lsP_l, ↓blP_bl, ↓inP_int, ↓vlP_val, ↓vlP_own, ↓hdP_hnd, ↓sqP_lst, ↓sqP_tup, ↓sqP_scr, ↓saP_lst, ↓saP_tup, ↓saP_rng, ↓ctP_nx, ↓ctP_rt, ↓ctP_bk, ↓ctP_ct, ↓lpP_nx, ↓lpP_ct, ↓lpP_bk, ↓lpP_rt, ↓zpP_lst, ↓zpP_tup, ↓enP_lst, ↓exP_lst, ↓tgP_V, ↓tgP_T, ↓tgsP_nil, ↓tgsP_cons, ↓rgP_ok, ↓iteP_true, ↓iteP_false, ↓iteP_t, ↓iteP_f, ↓iteP_nt, ↓iteP_nf, ↓hhP_eq, ↓opP_some, ↓pAdd, ↓pSub, ↓pNeg, ↓pMulR, ↓pMulL, ↓pMod, ↓pDiv, ↓p1018, ↓pLt, ↓pLe, ↓pGt, ↓pGe, ↓pOpB, ↓pEq, ↓pNe, ↓pIs0, ↓pIs1, ↓pIs2, ↓pIs3, ↓pIs4, ↓pIn0, ↓pIn1, ↓pIn2, ↓pIn3, ↓pIn4, ↓pLen1, ↓pLen2, ↓pLen3, ↓pInt, ↓pAbs, ↓pTup1, ↓pTup2, ↓pLst1, ↓pLst2, ↓pLst3, ↓pRng, ↓pSl1, ↓pSl2, ↓pSl3, ↓isi_int_non, ↓isi_int_bl, ↓isi_int_int, ↓isi_int_str, ↓isi_int_tup, ↓isi_int_lst, ↓isi_int_dic, ↓isi_bool_non, ↓isi_bool_bl, ↓isi_bool_int, ↓isi_bool_str, ↓isi_bool_tup, ↓isi_bool_lst, ↓isi_bool_dic, ↓isi_str_non, ↓isi_str_bl, ↓isi_str_int, ↓isi_str_str, ↓isi_str_tup, ↓isi_str_lst, ↓isi_str_dic, ↓isi_tuple_non, ↓isi_tuple_bl, ↓isi_tuple_int, ↓isi_tuple_str, ↓isi_tuple_tup, ↓isi_tuple_lst, ↓isi_tuple_dic, ↓isi_list_non, ↓isi_list_bl, ↓isi_list_int, ↓isi_list_str, ↓isi_list_tup, ↓isi_list_lst, ↓isi_list_dic, ↓isi_dict_non, ↓isi_dict_bl, ↓isi_dict_int, ↓isi_dict_str, ↓isi_dict_tup, ↓isi_dict_lst, ↓isi_dict_dic, ↓ixt0, ↓ixt1, ↓ixt2, ↓ixt3, ↓ixt4, ↓ixt5, ↓ixt6, ↓ixt7, ↓ixt8, ↓ixl0, ↓ixl1, ↓ixl2, ↓ixl3, ↓ixl4, ↓ixl5, ↓ixl6, ↓ixl7, ↓ixl8, ↓FX.gp0, ↓FX.gp1, ↓FX.gp2, ↓FX.gp3, ↓FX.gp4, ↓FX.gp5, ↓FX.gp6, ↓FX.gp7, ↓FX.gp8, ↓FX.gp9, ↓FX.gp10, ↓FX.gp11, ↓FX.gp12, ↓FX.gp13, ↓FX.gp14, ↓FX.gp15, ↓FX.gp16, ↓FX.gp17, ↓FX.gp18, ↓FX.gp19, ↓FX.gp20, ↓FX.gp21, ↓FX.gp22, ↓FX.gp23, ↓FX.gp24, ↓FX.gp25, ↓FX.gp26, ↓FX.gp27, ↓FX.gp28, ↓FX.gp29, ↓FX.gp30, ↓FX.gp31, ↓FX.gp32, ↓FX.gp33, ↓FX.sp0, ↓FX.sp1, ↓FX.sp2, ↓FX.sp3, ↓FX.sp4, ↓FX.sp5, ↓FX.sp6, ↓FX.sp7, ↓FX.sp8, ↓FX.sp9, ↓FX.sp10, ↓FX.sp11, ↓FX.sp12, ↓FX.sp13, ↓FX.sp14, ↓FX.sp15, ↓FX.sp16, ↓FX.sp17, ↓FX.sp18, ↓FX.sp19, ↓FX.sp20, ↓FX.sp21, ↓FX.sp22, ↓FX.sp23, ↓FX.sp24, ↓FX.sp25, ↓FX.sp26, ↓FX.sp27, ↓FX.sp28, ↓FX.sp29, ↓FX.sp30, ↓FX.sp31, ↓FX.sp32, ↓FX.sp33, ↓FX.hp0, ↓FX.hp1, ↓FX.hp2, ↓FX.hp3, ↓FX.hp4, ↓FX.wp0, ↓FX.wp1, ↓FX.wp2, ↓FX.wp3, ↓FX.wp4, end_rt, end_nx, ↓tgQ_eq, Bool.not_true, Bool.not_false, and_self, and_true, true_and, ↓foP_of (is_moments_ok G q1), ↓foP_of (is_moments_ok G q2)]
    · simp -implicitDefEqProofs (disch := omega) only [↓wp_bnd, ↓wp_ret, ↓wp_vV, ↓wp_vB, ↓wp_vL, ↓wp_hix, ↓wp_b1, ↓wp_b2, ↓wp_ifM, ↓wp_notM, ↓wp_andM, ↓wp_orM, ↓wp_asB, ↓wp_asI, ↓wp_notV, ↓wp_andV, ↓wp_orV, ↓wp_sq0, ↓wp_sq, ↓wp_tupM, ↓wp_frz, ↓wp_chM, ↓wp_sqS, ↓wp_seV, ↓wp_seL, ↓wp_asM, ↓wp_paM, ↓wp_paM3, ↓wp_paR2, ↓wp_paR3, ↓wp_rvM, ↓wp_rlM, ↓rv_v, ↓rv_l, ↓wp_shM, ↓wp_apM, ↓wp_exM, ↓wp_siM, ↓wp_clV, ↓wp_clL, ↓wp_hdM, ↓wp_chV, ↓wp_chL, ↓wp_itM, ↓wp_itA, ↓wp_rg1M, ↓wp_rg2M, ↓wp_zpM, ↓wp_enM, ↓wp_isiM, ↓wp_someM, ↓wp_sl3, ↓wp_frM, ↓wp_lc, ↓wp_agM, ↓wipP1, ↓wipP2, ↓wipP3, ↓bacP1, ↓bacP2, ↓bacP3, ↓spK0, ↓spK1, ↓spK2, ↓foP_ret, ↓rdP_v, ↓rdP_l, ↓lsP_l, ↓blP_bl, ↓inP_int, ↓vlP_val, ↓vlP_own, ↓hdP_hnd, ↓sqP_lst, ↓sqP_tup, ↓sqP_scr, ↓saP_lst, ↓saP_tup, ↓saP_rng, ↓ctP_nx, ↓ctP_rt, ↓ctP_bk, ↓ctP_ct, ↓lpP_nx, ↓lpP_ct, ↓lpP_bk, ↓lpP_rt, ↓zpP_lst, ↓zpP_tup, ↓enP_lst, ↓exP_lst, ↓tgP_V, ↓tgP_T, ↓tgsP_nil, ↓tgsP_cons, ↓rgP_ok, ↓iteP_true, ↓iteP_false, ↓iteP_t, ↓iteP_f, ↓iteP_nt, ↓iteP_nf, ↓hhP_eq, ↓opP_some, ↓pAdd, ↓pSub, ↓pNeg, ↓pMulR, ↓pMulL, ↓pMod, ↓pDiv, ↓p1018, ↓pLt, ↓pLe, ↓pGt, ↓pGe, ↓pOpB, ↓pEq, ↓pNe, ↓pIs0, ↓pIs1, ↓pIs2, ↓pIs3, ↓pIs4, ↓pIn0, ↓pIn1, ↓pIn2, ↓pIn3, ↓pIn4, ↓pLen1, ↓pLen2, ↓pLen3, ↓pInt, ↓pAbs, ↓pTup1, ↓pTup2, ↓pLst1, ↓pLst2, ↓pLst3, ↓pRng, ↓pSl1, ↓pSl2, ↓pSl3, ↓isi_int_non, ↓isi_int_bl, ↓isi_int_int, ↓isi_int_str, ↓isi_int_tup, ↓isi_int_lst, ↓isi_int_dic, ↓isi_bool_non, ↓isi_bool_bl, ↓isi_bool_int, ↓isi_bool_str, ↓isi_bool_tup, ↓isi_bool_lst, ↓isi_bool_dic, ↓isi_str_non, ↓isi_str_bl, ↓isi_str_int, ↓isi_str_str, ↓isi_str_tup, ↓isi_str_lst, ↓isi_str_dic, ↓isi_tuple_non, ↓isi_tuple_bl, ↓isi_tuple_int, ↓isi_tuple_str, ↓isi_tuple_tup, ↓isi_tuple_lst, ↓isi_tuple_dic, ↓isi_list_non, ↓isi_list_bl, ↓isi_list_int, ↓isi_list_str, ↓isi_list_tup, ↓isi_list_lst, ↓isi_list_dic, ↓isi_dict_non, ↓isi_dict_bl, ↓isi_dict_int, ↓isi_dict_str, ↓isi_dict_tup, ↓isi_dict_lst, ↓isi_dict_dic, ↓ixt0, ↓ixt1, ↓ixt2, ↓ixt3, ↓ixt4, ↓ixt5, ↓ixt6, ↓ixt7, ↓ixt8, ↓ixl0, ↓ixl1, ↓ixl2, ↓ixl3, ↓ixl4, ↓ixl5, ↓ixl6, ↓ixl7, ↓ixl8, ↓FX.gp0, ↓FX.gp1, ↓FX.gp2, ↓FX.gp3, ↓FX.gp4, ↓FX.gp5, ↓FX.gp6, ↓FX.gp7, ↓FX.gp8, ↓FX.gp9, ↓FX.gp10, ↓FX.gp11, ↓FX.gp12, ↓FX.gp13, ↓FX.gp14, ↓FX.gp15, ↓FX.gp16, ↓FX.gp17, ↓FX.gp18, ↓FX.gp19, ↓FX.gp20, ↓FX.gp21, ↓FX.gp22, ↓FX.gp23, ↓FX.gp24, ↓FX.gp25, ↓FX.gp26, ↓FX.gp27, ↓FX.gp28, ↓FX.gp29, ↓FX.gp30, ↓FX.gp31, ↓FX.gp32, ↓FX.gp33, ↓FX.sp0, ↓FX.sp1, ↓FX.sp2, ↓FX.sp3, ↓FX.sp4, ↓FX.sp5, ↓FX.sp6, ↓FX.sp7, ↓FX.sp8, ↓FX.sp9, ↓FX.sp10, ↓FX.sp11, ↓FX.sp12, ↓FX.sp13, ↓FX.sp14, ↓FX.sp15, ↓FX.sp16, ↓FX.sp17, ↓FX.sp18, ↓FX.sp19, ↓FX.sp20, ↓FX.sp21, ↓FX.sp22, ↓FX.sp23, ↓FX.sp24, ↓FX.sp25, ↓FX.sp26, ↓FX.sp27, ↓FX.sp28, ↓FX.sp29, ↓FX.sp30, ↓FX.sp31, ↓FX.sp32, ↓FX.sp33, ↓FX.hp0, ↓FX.hp1, ↓FX.hp2, ↓FX.hp3, ↓FX.hp4, ↓FX.wp0, ↓FX.wp1, ↓FX.wp2, ↓FX.wp3, ↓FX.wp4, end_rt, end_nx, ↓tgQ_eq, Bool.not_true, Bool.not_false, and_self, and_true, true_and, List.nil_append]
      rw [pAllT]
theorem check_within_ok (G : Txt K mg) {i a b : Int} (h1 : a ≤ i) (h2 : i ≤ b) : r_check_within G [.int i, .int a, .int b] = .ret (.v .non) [] := by
  refine runP_of ⟨[.val (.int i), .val (.int a), .val (.int b)], []⟩ rfl ?_
  unfold m_check_within
  simp -implicitDefEqProofs (disch := omega) only [↓wp_bnd, ↓wp_ret, ↓wp_vV, ↓wp_vB, ↓wp_vL, ↓wp_hix, ↓wp_b1, ↓wp_b2, ↓wp_ifM, ↓wp_notM, ↓wp_andM, ↓wp_orM, ↓wp_asB, ↓wp_asI, ↓wp_notV, ↓wp_andV, ↓wp_orV, ↓wp_sq0, ↓wp_sq, ↓wp_tupM, ↓wp_frz, ↓wp_chM, ↓wp_sqS, ↓wp_seV, ↓wp_seL, ↓wp_asM, ↓wp_paM, ↓wp_paM3, ↓wp_paR2, ↓wp_paR3, ↓wp_rvM, ↓wp_rlM, ↓rv_v, ↓rv_l, ↓wp_shM, ↓wp_apM, ↓wp_exM, ↓wp_siM, ↓wp_clV, ↓wp_clL, ↓wp_hdM, ↓wp_chV, ↓wp_chL, ↓wp_itM, ↓wp_itA, ↓wp_rg1M, ↓wp_rg2M, ↓wp_zpM, ↓wp_enM, ↓wp_isiM, ↓wp_someM, ↓wp_sl3, ↓wp_frM, ↓wp_lc, ↓wp_agM, ↓wipP1, ↓wipP2, ↓wipP3, ↓bacP1, ↓bacP2, ↓bacP3, ↓spK0, ↓spK1, ↓spK2, ↓foP_ret, ↓rdP_v, ↓rdP_l, ↓lsP_l, ↓blP_bl, ↓inP_int, ↓vlP_val, ↓vlP_own, ↓hdP_hnd, ↓sqP_lst, ↓sqP_tup, ↓sqP_scr, ↓saP_lst, ↓saP_tup, ↓saP_rng, ↓ctP_nx, ↓ctP_rt, ↓ctP_bk, ↓ctP_ct, ↓lpP_nx, ↓lpP_ct, ↓lpP_bk, ↓lpP_rt, ↓zpP_lst, ↓zpP_tup, ↓enP_lst, ↓exP_lst, ↓tgP_V, ↓tgP_T, ↓tgsP_nil, ↓tgsP_cons, ↓rgP_ok, ↓iteP_true, ↓iteP_false, ↓iteP_t, ↓iteP_f, ↓iteP_nt, ↓iteP_nf, ↓hhP_eq, ↓opP_some, ↓pAdd, ↓pSub, ↓pNeg, ↓pMulR, ↓pMulL, ↓pMod, ↓pDiv, ↓p1018, ↓pLt, ↓pLe, ↓pGt, ↓pGe, ↓pOpB, ↓pEq, ↓pNe, ↓pIs0, ↓pIs1, ↓pIs2, ↓pIs3, ↓pIs4, ↓pIn0, ↓pIn1, ↓pIn2, ↓pIn3, ↓pIn4, ↓pLen1, ↓pLen2, ↓pLen3, ↓pInt, ↓pAbs, ↓pTup1, ↓pTup2, ↓pLst1, ↓pLst2, ↓pLst3, ↓pRng, ↓pSl1, ↓pSl2, ↓pSl3, ↓isi_int_non, ↓isi_int_bl, ↓isi_int_int, ↓isi_int_str, ↓isi_int_tup, ↓isi_int_lst, ↓isi_int_dic, ↓isi_bool_non, ↓isi_bool_bl, ↓isi_bool_int, ↓isi_bool_str, ↓isi_bool_tup, ↓isi_bool_lst, ↓isi_bool_dic, ↓isi_str_non, ↓isi_str_bl, ↓isi_str_int, ↓isi_str_str, ↓isi_str_tup, ↓isi_str_lst, ↓isi_str_dic, ↓isi_tuple_non, ↓isi_tuple_bl, ↓isi_tuple_int, ↓isi_tuple_str, ↓isi_tuple_tup, ↓isi_tuple_lst, ↓isi_tuple_dic, ↓isi_list_non, ↓isi_list_bl, ↓isi_list_int, ↓isi_list_str, ↓isi_list_tup, ↓isi_list_lst, ↓isi_list_dic, ↓isi_dict_non, ↓isi_dict_bl, ↓isi_dict_int, ↓isi_dict_str, ↓isi_dict_tup, ↓isi_dict_lst, ↓isi_dict_dic, ↓ixt0, ↓ixt1, ↓ixt2, ↓ixt3, ↓ixt4, ↓ixt5, ↓ixt6, ↓ixt7, ↓ixt8, ↓ixl0, ↓ixl1, ↓ixl2, ↓ixl3, ↓ixl4, ↓ixl5, ↓ixl6, ↓ixl7, ↓ixl8, ↓FX.gp0, ↓FX.gp1, ↓FX.gp2, ↓FX.gp3, ↓FX.gp4, ↓FX.gp5, ↓FX.gp6, ↓FX.gp7, ↓FX.gp8, ↓FX.gp9, ↓FX.gp10, ↓FX.gp11, ↓FX.gp12, ↓FX.gp13, ↓FX.gp14, ↓FX.gp15, ↓FX.gp16, ↓FX.gp17, ↓FX.gp18, ↓FX.gp19, ↓FX.gp20, ↓FX.gp21, ↓FX.gp22, ↓FX.gp23, ↓FX.gp24, ↓FX.gp25, ↓FX.gp26, ↓FX.gp27, ↓FX.gp28, ↓FX.gp29, ↓FX.gp30, ↓FX.gp31, ↓FX.gp32, ↓FX.gp33, ↓FX.sp0, ↓FX.sp1, ↓FX.sp2, ↓FX.sp3, ↓FX.sp4, ↓FX.sp5, ↓FX.sp6, ↓FX.sp7, ↓FX.sp8, ↓FX.sp9, ↓FX.sp10, ↓FX.sp11, ↓FX.sp12, ↓FX.sp13, ↓FX.sp14, ↓FX.sp15, ↓FX.sp16, ↓FX.sp17, ↓FX.sp18, ↓FX.sp19, ↓FX.sp20, ↓FX.sp21, ↓FX.sp22, ↓FX.sp23, ↓FX.sp24, ↓FX.sp25, ↓FX.sp26, ↓FX.sp27, ↓FX.sp28, ↓FX.sp29, ↓FX.sp30, ↓FX.sp31, ↓FX.sp32, ↓FX.sp33, ↓FX.hp0, ↓FX.hp1, ↓FX.hp2, ↓FX.hp3, ↓FX.hp4, ↓FX.wp0, ↓FX.wp1, ↓FX.wp2, ↓FX.wp3, ↓FX.wp4, end_rt, end_nx, ↓tgQ_eq, Bool.not_true, Bool.not_false, and_self, and_true, true_and, ↓foP_of (is_within_ok G h1 h2)]
theorem check_hub_ok (G : Txt K mg) {p c : Int} {ls : List Line} (h : Hub p ls) (h1 : 0 ≤ c) (h2 : c ≤ 100) : r_check_hub G [hubD p ls, .int c] = .ret (.v .non) [] := by
  refine runP_of ⟨[.val (hubD p ls), .val (.int c)], []⟩ rfl ?_
  unfold m_check_hub
  simp -implicitDefEqProofs (disch := omega) only [↓wp_bnd, ↓wp_ret, ↓wp_vV, ↓wp_vB, ↓wp_vL, ↓wp_hix, ↓wp_b1, ↓wp_b2, ↓wp_ifM, ↓wp_notM, ↓wp_andM, ↓wp_orM, ↓wp_asB, ↓wp_asI, ↓wp_notV, ↓wp_andV, ↓wp_orV, ↓wp_sq0, ↓wp_sq, ↓wp_tupM, ↓wp_frz, ↓wp_chM, ↓wp_sqS, ↓wp_seV, ↓wp_seL, ↓wp_asM, ↓wp_paM, ↓wp_paM3, ↓wp_paR2, ↓wp_paR3, ↓wp_rvM, ↓wp_rlM, ↓rv_v, ↓rv_l, ↓wp_shM, ↓wp_apM, ↓wp_exM, ↓wp_siM, ↓wp_clV, ↓wp_clL, ↓wp_hdM, ↓wp_chV, ↓wp_chL, ↓wp_itM, ↓wp_itA, ↓wp_rg1M, ↓wp_rg2M, ↓wp_zpM, ↓wp_enM, ↓wp_isiM, ↓wp_someM, ↓wp_sl3, ↓wp_frM, ↓wp_lc, ↓wp_agM, ↓wipP1, ↓wipP2, ↓wipP3, ↓bacP1, ↓bacP2, ↓bacP3, ↓spK0, ↓spK1, ↓spK2, ↓foP_ret, ↓rdP_v, ↓rdP_l, ↓lsP_l, ↓blP_bl, ↓inP_int, ↓vlP_val, ↓vlP_own, ↓hdP_hnd, ↓sqP_lst, ↓sqP_tup, ↓sqP_scr, ↓saP_lst, ↓saP_tup, ↓saP_rng, ↓ctP_nx, ↓ctP_rt, ↓ctP_bk, ↓ctP_ct, ↓lpP_nx, ↓lpP_ct, ↓lpP_bk, ↓lpP_rt, ↓zpP_lst, ↓zpP_tup, ↓enP_lst, ↓exP_lst, ↓tgP_V, ↓tgP_T, ↓tgsP_nil, ↓tgsP_cons, ↓rgP_ok, ↓iteP_true, ↓iteP_false, ↓iteP_t, ↓iteP_f, ↓iteP_nt, ↓iteP_nf, ↓hhP_eq, ↓opP_some, ↓pAdd, ↓pSub, ↓pNeg, ↓pMulR, ↓pMulL, ↓pMod, ↓pDiv, ↓p1018, ↓pLt, ↓pLe, ↓pGt, ↓pGe, ↓pOpB, ↓pEq, ↓pNe, ↓pIs0, ↓pIs1, ↓pIs2, ↓pIs3, ↓pIs4, ↓pIn0, ↓pIn1, ↓pIn2, ↓pIn3, ↓pIn4, ↓pLen1, ↓pLen2, ↓pLen3, ↓pInt, ↓pAbs, ↓pTup1, ↓pTup2, ↓pLst1, ↓pLst2, ↓pLst3, ↓pRng, ↓pSl1, ↓pSl2, ↓pSl3, ↓isi_int_non, ↓isi_int_bl, ↓isi_int_int, ↓isi_int_str, ↓isi_int_tup, ↓isi_int_lst, ↓isi_int_dic, ↓isi_bool_non, ↓isi_bool_bl, ↓isi_bool_int, ↓isi_bool_str, ↓isi_bool_tup, ↓isi_bool_lst, ↓isi_bool_dic, ↓isi_str_non, ↓isi_str_bl, ↓isi_str_int, ↓isi_str_str, ↓isi_str_tup, ↓isi_str_lst, ↓isi_str_dic, ↓isi_tuple_non, ↓isi_tuple_bl, ↓isi_tuple_int, ↓isi_tuple_str, ↓isi_tuple_tup, ↓isi_tuple_lst, ↓isi_tuple_dic, ↓isi_list_non, ↓isi_list_bl, ↓isi_list_int, ↓isi_list_str, ↓isi_list_tup, ↓isi_list_lst, ↓isi_list_dic, ↓isi_dict_non, ↓isi_dict_bl, ↓isi_dict_int, ↓isi_dict_str, ↓isi_dict_tup, ↓isi_dict_lst, ↓isi_dict_dic, ↓ixt0, ↓ixt1, ↓ixt2, ↓ixt3, ↓ixt4, ↓ixt5, ↓ixt6, ↓ixt7, ↓ixt8, ↓ixl0, ↓ixl1, ↓ixl2, ↓ixl3, ↓ixl4, ↓ixl5, ↓ixl6, ↓ixl7, ↓ixl8, ↓FX.gp0, ↓FX.gp1, ↓FX.gp2, ↓FX.gp3, ↓FX.gp4, ↓FX.gp5, ↓FX.gp6, ↓FX.gp7, ↓FX.gp8, ↓FX.gp9, ↓FX.gp10, ↓FX.gp11, ↓FX.gp12, ↓FX.gp13, ↓FX.gp14, ↓FX.gp15, ↓FX.gp16, ↓FX.gp17, ↓FX.gp18, ↓FX.gp19, ↓FX.gp20, ↓FX.gp21, ↓FX.gp22, ↓FX.gp23, ↓FX.gp24, ↓FX.gp25, ↓FX.gp26, ↓FX.gp27, ↓FX.gp28, ↓FX.gp29, ↓FX.gp30, ↓FX.gp31, ↓FX.gp32, ↓FX.gp33, ↓FX.sp0, ↓FX.sp1, ↓FX.sp2, ↓FX.sp3, ↓FX.sp4, ↓FX.sp5, ↓FX.sp6, ↓FX.sp7, ↓FX.sp8, ↓FX.sp9, ↓FX.sp10, ↓FX.sp11, ↓FX.sp12, ↓FX.sp13, ↓FX.sp14, ↓FX.sp15, ↓FX.sp16, ↓FX.sp17, ↓FX.sp18, ↓FX.sp19, ↓FX.sp20, ↓FX.sp21, ↓FX.sp22, ↓FX.sp23, ↓FX.sp24, ↓FX.sp25, ↓FX.sp26, ↓FX.sp27, ↓FX.sp28, ↓FX.sp29, ↓FX.sp30, ↓FX.sp31, ↓FX.sp32, ↓FX.sp33, ↓FX.hp0, ↓FX.hp1, ↓FX.hp2, ↓FX.hp3, ↓FX.hp4, ↓FX.wp0, ↓FX.wp1, ↓FX.wp2, ↓FX.wp3, ↓FX.wp4, end_rt, end_nx, ↓tgQ_eq, Bool.not_true, Bool.not_false, and_self, and_true, true_and, ↓foP_of (is_hub_ok G h), ↓foP_of (check_within_ok G h1 h2)]
theorem check_line_ok (G : Txt K mg) {p i : Int} {ls : List Line} (h1 : 0 ≤ i) (h2 : i < ls.length) : r_check_line G [hubD p ls, .int i] = .ret (.v .non) [] := by
  refine runP_of ⟨[.val (hubD p ls), .val (.int i)], []⟩ rfl ?_
  unfold m_check_line hubD
  have e : i ≤ ((ls.map lineD).length : Int) - 1 := by rw [List.length_map]; omega
  simp -implicitDefEqProofs (disch := omega) only [↓wp_bnd, ↓wp_ret, ↓wp_vV, ↓wp_vB, ↓wp_vL, ↓wp_hix, ↓wp_b1, ↓wp_b2, ↓wp_ifM, ↓wp_notM, ↓wp_andM, ↓wp_orM, ↓wp_asB, ↓wp_asI, ↓wp_notV, ↓wp_andV, ↓wp_orV, ↓wp_sq0, ↓wp_sq, ↓wp_tupM, ↓wp_frz, ↓wp_chM, ↓wp_sqS, ↓wp_seV, ↓wp_seL, ↓wp_asM, ↓wp_paM, ↓wp_paM3, ↓wp_paR2, ↓wp_paR3, ↓wp_rvM, ↓wp_rlM, ↓rv_v, ↓rv_l, ↓wp_shM, ↓wp_apM, ↓wp_exM, ↓wp_siM, ↓wp_clV, ↓wp_clL, ↓wp_hdM, ↓wp_chV, ↓wp_chL, ↓wp_itM, ↓wp_itA, ↓wp_rg1M, ↓wp_rg2M, ↓wp_zpM, ↓wp_enM, ↓wp_isiM, ↓wp_someM, ↓wp_sl3, ↓wp_frM, ↓wp_lc, ↓wp_agM, ↓wipP1, ↓wipP2, ↓wipP3, ↓bacP1, ↓bacP2, ↓bacP3, ↓spK0, ↓spK1, ↓spK2, ↓foP_ret, ↓rdP_v, ↓rdP_l, ↓lsP_l, ↓blP_bl, ↓inP_int, ↓vlP_val, ↓vlP_own, ↓hdP_hnd, ↓sqP_lst, ↓sqP_tup, ↓sqP_scr, ↓saP_lst, ↓saP_tup, ↓saP_rng, ↓ctP_nx, ↓ctP_rt, ↓ctP_bk, ↓ctP_ct, ↓lpP_nx, ↓lpP_ct, ↓lpP_bk, ↓lpP_rt, ↓zpP_lst, ↓zpP_tup, ↓enP_lst, ↓exP_lst, ↓tgP_V, ↓tgP_T, ↓tgsP_nil, ↓tgsP_cons, ↓rgP_ok, ↓iteP_true, ↓iteP_false, ↓iteP_t, ↓iteP_f, ↓iteP_nt, ↓iteP_nf, ↓hhP_eq, ↓opP_some, ↓pAdd, ↓pSub, ↓pNeg, ↓pMulR, ↓pMulL, ↓pMod, ↓pDiv, ↓p1018, ↓pLt, ↓pLe, ↓pGt, ↓pGe, ↓pOpB, ↓pEq, ↓pNe, ↓pIs0, ↓pIs1, ↓pIs2, ↓pIs3, ↓pIs4, ↓pIn0, ↓pIn1, ↓pIn2, ↓pIn3, ↓pIn4, ↓pLen1, ↓pLen2, ↓pLen3, ↓pInt, ↓pAbs, ↓pTup1, ↓pTup2, ↓pLst1, ↓pLst2, ↓pLst3, ↓pRng, ↓pSl1, ↓pSl2, ↓pSl3, ↓isi_int_non, ↓isi_int_bl, ↓isi_int_int, ↓isi_int_str, ↓isi_int_tup, ↓isi_int_lst, ↓isi_int_dic, ↓isi_bool_non, ↓isi_bool_bl, ↓isi_bool_int, ↓isi_bool_str, ↓isi_bool_tup, ↓isi_bool_lst, ↓isi_bool_dic, ↓isi_str_non, ↓isi_str_bl, ↓isi_str_int, ↓isi_str_str, ↓isi_str_tup, ↓isi_str_lst, ↓isi_str_dic, ↓isi_tuple_non, ↓isi_tuple_bl, ↓isi_tuple_int, ↓isi_tuple_str, ↓isi_tuple_tup, ↓isi_tuple_lst, ↓isi_tuple_dic, ↓isi_list_non, ↓isi_list_bl, ↓isi_list_int, ↓isi_list_str, ↓isi_list_tup, ↓isi_list_lst, ↓isi_list_dic, ↓isi_dict_non, ↓isi_dict_bl, ↓isi_dict_int, ↓isi_dict_str, ↓isi_dict_tup, ↓isi_dict_lst, ↓isi_dict_dic, ↓ixt0, ↓ixt1, ↓ixt2, ↓ixt3, ↓ixt4, ↓ixt5, ↓ixt6, ↓ixt7, ↓ixt8, ↓ixl0, ↓ixl1, ↓ixl2, ↓ixl3, ↓ixl4, ↓ixl5, ↓ixl6, ↓ixl7, ↓ixl8, ↓FX.gp0, ↓FX.gp1, ↓FX.gp2, ↓FX.gp3, ↓FX.gp4, ↓FX.gp5, ↓FX.gp6, ↓FX.gp7, ↓FX.gp8, ↓FX.gp9, ↓FX.gp10, ↓FX.gp11, ↓FX.gp12, ↓FX.gp13, ↓FX.gp14, ↓FX.gp15, ↓FX.gp16, ↓FX.gp17, ↓FX.gp18, ↓FX.gp19, ↓FX.gp20, ↓FX.gp21, ↓FX.gp22, ↓FX.gp23, ↓FX.gp24, ↓FX.gp25, ↓FX.gp26, ↓FX.gp27, ↓FX.gp28, ↓FX.gp29, ↓FX.gp30, ↓FX.gp31, ↓FX.gp32, ↓FX.gp33, ↓FX.sp0, ↓FX.sp1, ↓FX.sp2, ↓FX.sp3, ↓FX.sp4, ↓FX.sp5, ↓FX.sp6, ↓FX.sp7, ↓FX.sp8, ↓FX.sp9, ↓FX.sp10, ↓FX.sp11, ↓FX.sp12, ↓FX.sp13, ↓FX.sp14, ↓FX.sp15, ↓FX.sp16, ↓FX.sp17, ↓FX.sp18, ↓FX.sp19, ↓FX.sp20, ↓FX.sp21, ↓FX.sp22, ↓FX.sp23, ↓FX.sp24, ↓FX.sp25, ↓FX.sp26, ↓FX.sp27, ↓FX.sp28, ↓FX.sp29, ↓FX.sp30, ↓FX.sp31, ↓FX.sp32, ↓FX.sp33, ↓FX.hp0, ↓FX.hp1, ↓FX.hp2, ↓FX.hp3, ↓FX.hp4, ↓FX.wp0, ↓FX.wp1, ↓FX.wp2, ↓FX.wp3, ↓FX.wp4, end_rt, end_nx, ↓tgQ_eq, Bool.not_true, Bool.not_false, and_self, and_true, true_and, ↓foP_of (is_within_ok G h1 e)]

end
end FX.K71

set_option Elab.async false
set_option linter.all false
set_option maxRecDepth 100000
set_option maxHeartbeats 4000000
namespace FX.K71
open PySem PySem.Spec PyProof.Rows L2 LamX FX
section
variable {K : PySem.W.Frag} {mg : Str → Option Value}
/-! ### waits -/
def mn (xs : List Int) : Int := (minI xs).getD 0
def mx (xs : List Int) : Int := (maxI xs).getD 0
theorem minI_ne {xs : List Int} (h : xs ≠ []) : minI xs = some (mn xs) := by
  cases xs with
  | nil => exact absurd rfl h
  | cons x r => rfl
theorem maxI_ne {xs : List Int} (h : xs ≠ []) : maxI xs = some (mx xs) := by
  cases xs with
  | nil => exact absurd rfl h
  | cons x r => rfl
/-- the wait of one who comes at m for the lot b, held back by y -/
def wt (p c y : Int) (b : List Int) (m : Int) : Int := mn (b.map fun l => (l + y - m - c) % p)
def waitsI (p c y : Int) (a b : List Int) : List Int := a.map (wt p c y b)
theorem line_at {ls : List Line} {i : Nat} {l : Line} (h : ls[i]? = some l) : (ls.map lineD)[i]? = some (lineD l) := by rw [List.getElem?_map, h]; rfl
theorem lx0 {l : Line} {Q : D → Prop} : opP (ixD (lineD l) (.int 0)) Q = Q (.tup (l.1.map .int)) := rfl
theorem lx1 {l : Line} {Q : D → Prop} : opP (ixD (lineD l) (.int 1)) Q = Q (.tup (l.2.map .int)) := rfl
theorem waits_of_ok (G : Txt K mg) {p c y : Int} {ls : List Line} {i j : Nat} {l m : Line} (h : Hub p ls) (hi : ls[i]? = some l) (hj : ls[j]? = some m) :
    r_waits_of G [hubD p ls, .int c, .int i, .int j, .int y] = .ret (.v (.lst ((waitsI p c y l.1 m.2).map .int))) [] := by
  refine runP_of ⟨[.val (hubD p ls), .val (.int c), .val (.int i), .val (.int j), .val (.int y), .un, .un, .un, .un, .un, .un], []⟩ rfl ?_
  have hl := (h.lots l (List.mem_of_getElem? hi)).1
  have hm := (h.lots m (List.mem_of_getElem? hj)).2
  have hp := h.lo
  unfold m_waits_of hubD
  simp -implicitDefEqProofs (disch := omega) only [↓wp_bnd, ↓wp_ret, ↓wp_vV, ↓wp_vB, ↓wp_vL, ↓wp_hix, ↓wp_b1, ↓wp_b2, ↓wp_ifM, ↓wp_notM, ↓wp_andM, ↓wp_orM, ↓wp_asB, ↓wp_asI, ↓wp_notV, ↓wp_andV, ↓wp_orV, ↓wp_sq0, ↓wp_sq, ↓wp_tupM, ↓wp_frz, ↓wp_chM, ↓wp_sqS, ↓wp_seV, ↓wp_seL, ↓wp_asM, ↓wp_paM, ↓wp_paM3, ↓wp_paR2, ↓wp_paR3, ↓wp_rvM, ↓wp_rlM, ↓rv_v, ↓rv_l, ↓wp_shM, ↓wp_apM, ↓wp_exM, ↓wp_siM, ↓wp_clV, ↓wp_clL, ↓wp_hdM, ↓wp_chV, ↓wp_chL, ↓wp_itM, ↓wp_itA, ↓wp_rg1M, ↓wp_rg2M, ↓wp_zpM, ↓wp_enM, ↓wp_isiM, ↓wp_someM, ↓wp_sl3, ↓wp_frM, ↓wp_lc, ↓wp_agM, ↓wipP1, ↓wipP2, ↓wipP3, ↓bacP1, ↓bacP2, ↓bacP3, ↓spK0, ↓spK1, ↓spK2, ↓foP_ret, ↓rdP_v, ↓rdP_l, ↓lsP_l, ↓blP_bl, ↓inP_int, ↓vlP_val, ↓vlP_own, ↓hdP_hnd, ↓sqP_lst, ↓sqP_tup, ↓sqP_scr, ↓saP_lst, ↓saP_tup, ↓saP_rng, ↓ctP_nx, ↓ctP_rt, ↓ctP_bk, ↓ctP_ct, ↓lpP_nx, ↓lpP_ct, ↓lpP_bk, ↓lpP_rt, ↓zpP_lst, ↓zpP_tup, ↓enP_lst, ↓exP_lst, ↓tgP_V, ↓tgP_T, ↓tgsP_nil, ↓tgsP_cons, ↓rgP_ok, ↓iteP_true, ↓iteP_false, ↓iteP_t, ↓iteP_f, ↓iteP_nt, ↓iteP_nf, ↓hhP_eq, ↓opP_some, ↓pAdd, ↓pSub, ↓pNeg, ↓pMulR, ↓pMulL, ↓pMod, ↓pDiv, ↓p1018, ↓pLt, ↓pLe, ↓pGt, ↓pGe, ↓pOpB, ↓pEq, ↓pNe, ↓pIs0, ↓pIs1, ↓pIs2, ↓pIs3, ↓pIs4, ↓pIn0, ↓pIn1, ↓pIn2, ↓pIn3, ↓pIn4, ↓pLen1, ↓pLen2, ↓pLen3, ↓pInt, ↓pAbs, ↓pTup1, ↓pTup2, ↓pLst1, ↓pLst2, ↓pLst3, ↓pRng, ↓pSl1, ↓pSl2, ↓pSl3, ↓isi_int_non, ↓isi_int_bl, ↓isi_int_int, ↓isi_int_str, ↓isi_int_tup, ↓isi_int_lst, ↓isi_int_dic, ↓isi_bool_non, ↓isi_bool_bl, ↓isi_bool_int, ↓isi_bool_str, ↓isi_bool_tup, ↓isi_bool_lst, ↓isi_bool_dic, ↓isi_str_non, ↓isi_str_bl, ↓isi_str_int, ↓isi_str_str, ↓isi_str_tup, ↓isi_str_lst, ↓isi_str_dic, ↓isi_tuple_non, ↓isi_tuple_bl, ↓isi_tuple_int, ↓isi_tuple_str, ↓isi_tuple_tup, ↓isi_tuple_lst, ↓isi_tuple_dic, ↓isi_list_non, ↓isi_list_bl, ↓isi_list_int, ↓isi_list_str, ↓isi_list_tup, ↓isi_list_lst, ↓isi_list_dic, ↓isi_dict_non, ↓isi_dict_bl, ↓isi_dict_int, ↓isi_dict_str, ↓isi_dict_tup, ↓isi_dict_lst, ↓isi_dict_dic, ↓ixt0, ↓ixt1, ↓ixt2, ↓ixt3, ↓ixt4, ↓ixt5, ↓ixt6, ↓ixt7, ↓ixt8, ↓ixl0, ↓ixl1, ↓ixl2, ↓ixl3, ↓ixl4, ↓ixl5, ↓ixl6, ↓ixl7, ↓ixl8, ↓FX.gp0, ↓FX.gp1, ↓FX.gp2, ↓FX.gp3, ↓FX.gp4, ↓FX.gp5, ↓FX.gp6, ↓FX.gp7, ↓FX.gp8, ↓FX.gp9, ↓FX.gp10, ↓FX.gp11, ↓FX.gp12, ↓FX.gp13, ↓FX.gp14, ↓FX.gp15, ↓FX.gp16, ↓FX.gp17, ↓FX.gp18, ↓FX.gp19, ↓FX.gp20, ↓FX.gp21, ↓FX.gp22, ↓FX.gp23, ↓FX.gp24, ↓FX.gp25, ↓FX.gp26, ↓FX.gp27, ↓FX.gp28, ↓FX.gp29, ↓FX.gp30, ↓FX.gp31, ↓FX.gp32, ↓FX.gp33, ↓FX.sp0, ↓FX.sp1, ↓FX.sp2, ↓FX.sp3, ↓FX.sp4, ↓FX.sp5, ↓FX.sp6, ↓FX.sp7, ↓FX.sp8, ↓FX.sp9, ↓FX.sp10, ↓FX.sp11, ↓FX.sp12, ↓FX.sp13, ↓FX.sp14, ↓FX.sp15, ↓FX.sp16, ↓FX.sp17, ↓FX.sp18, ↓FX.sp19, ↓FX.sp20, ↓FX.sp21, ↓FX.sp22, ↓FX.sp23, ↓FX.sp24, ↓FX.sp25, ↓FX.sp26, ↓FX.sp27, ↓FX.sp28, ↓FX.sp29, ↓FX.sp30, ↓FX.sp31, ↓FX.sp32, ↓FX.sp33, ↓FX.hp0, ↓FX.hp1, ↓FX.hp2, ↓FX.hp3, ↓FX.hp4, ↓FX.wp0, ↓FX.wp1, ↓FX.wp2, ↓FX.wp3, ↓FX.wp4, end_rt, end_nx, ↓tgQ_eq, Bool.not_true, Bool.not_false, and_self, and_true, true_and, ↓pIxT (line_at hj) rfl, ↓lx1]
  refine ⟨by rw [List.length_map, sizeLine_eq]; have := hm.few; omega, wp_lcA (enc := D.int) (g := fun x => .int (x + y)) (fun x _ => by simp -implicitDefEqProofs (disch := omega) only [↓wp_bnd, ↓wp_ret, ↓wp_vV, ↓wp_vB, ↓wp_vL, ↓wp_hix, ↓wp_b1, ↓wp_b2, ↓wp_ifM, ↓wp_notM, ↓wp_andM, ↓wp_orM, ↓wp_asB, ↓wp_asI, ↓wp_notV, ↓wp_andV, ↓wp_orV, ↓wp_sq0, ↓wp_sq, ↓wp_tupM, ↓wp_frz, ↓wp_chM, ↓wp_sqS, ↓wp_seV, ↓wp_seL, ↓wp_asM, ↓wp_paM, ↓wp_paM3, ↓wp_paR2, ↓wp_paR3, ↓wp_rvM, ↓wp_rlM, ↓rv_v, ↓rv_l, ↓wp_shM, ↓wp_apM, ↓wp_exM, ↓wp_siM, ↓wp_clV, ↓wp_clL, ↓wp_hdM, ↓wp_chV, ↓wp_chL, ↓wp_itM, ↓wp_itA, ↓wp_rg1M, ↓wp_rg2M, ↓wp_zpM, ↓wp_enM, ↓wp_isiM, ↓wp_someM, ↓wp_sl3, ↓wp_frM, ↓wp_lc, ↓wp_agM, ↓wipP1, ↓wipP2, ↓wipP3, ↓bacP1, ↓bacP2, ↓bacP3, ↓spK0, ↓spK1, ↓spK2, ↓foP_ret, ↓rdP_v, ↓rdP_l, ↓lsP_l, ↓blP_bl, ↓inP_int, ↓vlP_val, ↓vlP_own, ↓hdP_hnd, ↓sqP_lst, ↓sqP_tup, ↓sqP_scr, ↓saP_lst, ↓saP_tup, ↓saP_rng, ↓ctP_nx, ↓ctP_rt, ↓ctP_bk, ↓ctP_ct, ↓lpP_nx, ↓lpP_ct, ↓lpP_bk, ↓lpP_rt, ↓zpP_lst, ↓zpP_tup, ↓enP_lst, ↓exP_lst, ↓tgP_V, ↓tgP_T, ↓tgsP_nil, ↓tgsP_cons, ↓rgP_ok, ↓iteP_true, ↓iteP_false, ↓iteP_t, ↓iteP_f, ↓iteP_nt, ↓iteP_nf, ↓hhP_eq, ↓opP_some, ↓pAdd, ↓pSub, ↓pNeg, ↓pMulR, ↓pMulL, ↓pMod, ↓pDiv, ↓p1018, ↓pLt, ↓pLe, ↓pGt, ↓pGe, ↓pOpB, ↓pEq, ↓pNe, ↓pIs0, ↓pIs1, ↓pIs2, ↓pIs3, ↓pIs4, ↓pIn0, ↓pIn1, ↓pIn2, ↓pIn3, ↓pIn4, ↓pLen1, ↓pLen2, ↓pLen3, ↓pInt, ↓pAbs, ↓pTup1, ↓pTup2, ↓pLst1, ↓pLst2, ↓pLst3, ↓pRng, ↓pSl1, ↓pSl2, ↓pSl3, ↓isi_int_non, ↓isi_int_bl, ↓isi_int_int, ↓isi_int_str, ↓isi_int_tup, ↓isi_int_lst, ↓isi_int_dic, ↓isi_bool_non, ↓isi_bool_bl, ↓isi_bool_int, ↓isi_bool_str, ↓isi_bool_tup, ↓isi_bool_lst, ↓isi_bool_dic, ↓isi_str_non, ↓isi_str_bl, ↓isi_str_int, ↓isi_str_str, ↓isi_str_tup, ↓isi_str_lst, ↓isi_str_dic, ↓isi_tuple_non, ↓isi_tuple_bl, ↓isi_tuple_int, ↓isi_tuple_str, ↓isi_tuple_tup, ↓isi_tuple_lst, ↓isi_tuple_dic, ↓isi_list_non, ↓isi_list_bl, ↓isi_list_int, ↓isi_list_str, ↓isi_list_tup, ↓isi_list_lst, ↓isi_list_dic, ↓isi_dict_non, ↓isi_dict_bl, ↓isi_dict_int, ↓isi_dict_str, ↓isi_dict_tup, ↓isi_dict_lst, ↓isi_dict_dic, ↓ixt0, ↓ixt1, ↓ixt2, ↓ixt3, ↓ixt4, ↓ixt5, ↓ixt6, ↓ixt7, ↓ixt8, ↓ixl0, ↓ixl1, ↓ixl2, ↓ixl3, ↓ixl4, ↓ixl5, ↓ixl6, ↓ixl7, ↓ixl8, ↓FX.gp0, ↓FX.gp1, ↓FX.gp2, ↓FX.gp3, ↓FX.gp4, ↓FX.gp5, ↓FX.gp6, ↓FX.gp7, ↓FX.gp8, ↓FX.gp9, ↓FX.gp10, ↓FX.gp11, ↓FX.gp12, ↓FX.gp13, ↓FX.gp14, ↓FX.gp15, ↓FX.gp16, ↓FX.gp17, ↓FX.gp18, ↓FX.gp19, ↓FX.gp20, ↓FX.gp21, ↓FX.gp22, ↓FX.gp23, ↓FX.gp24, ↓FX.gp25, ↓FX.gp26, ↓FX.gp27, ↓FX.gp28, ↓FX.gp29, ↓FX.gp30, ↓FX.gp31, ↓FX.gp32, ↓FX.gp33, ↓FX.sp0, ↓FX.sp1, ↓FX.sp2, ↓FX.sp3, ↓FX.sp4, ↓FX.sp5, ↓FX.sp6, ↓FX.sp7, ↓FX.sp8, ↓FX.sp9, ↓FX.sp10, ↓FX.sp11, ↓FX.sp12, ↓FX.sp13, ↓FX.sp14, ↓FX.sp15, ↓FX.sp16, ↓FX.sp17, ↓FX.sp18, ↓FX.sp19, ↓FX.sp20, ↓FX.sp21, ↓FX.sp22, ↓FX.sp23, ↓FX.sp24, ↓FX.sp25, ↓FX.sp26, ↓FX.sp27, ↓FX.sp28, ↓FX.sp29, ↓FX.sp30, ↓FX.sp31, ↓FX.sp32, ↓FX.sp33, ↓FX.hp0, ↓FX.hp1, ↓FX.hp2, ↓FX.hp3, ↓FX.hp4, ↓FX.wp0, ↓FX.wp1, ↓FX.wp2, ↓FX.wp3, ↓FX.wp4, end_rt, end_nx, ↓tgQ_eq, Bool.not_true, Bool.not_false, and_self, and_true, true_and]) ?_⟩
  simp -implicitDefEqProofs (disch := omega) only [↓wp_bnd, ↓wp_ret, ↓wp_vV, ↓wp_vB, ↓wp_vL, ↓wp_hix, ↓wp_b1, ↓wp_b2, ↓wp_ifM, ↓wp_notM, ↓wp_andM, ↓wp_orM, ↓wp_asB, ↓wp_asI, ↓wp_notV, ↓wp_andV, ↓wp_orV, ↓wp_sq0, ↓wp_sq, ↓wp_tupM, ↓wp_frz, ↓wp_chM, ↓wp_sqS, ↓wp_seV, ↓wp_seL, ↓wp_asM, ↓wp_paM, ↓wp_paM3, ↓wp_paR2, ↓wp_paR3, ↓wp_rvM, ↓wp_rlM, ↓rv_v, ↓rv_l, ↓wp_shM, ↓wp_apM, ↓wp_exM, ↓wp_siM, ↓wp_clV, ↓wp_clL, ↓wp_hdM, ↓wp_chV, ↓wp_chL, ↓wp_itM, ↓wp_itA, ↓wp_rg1M, ↓wp_rg2M, ↓wp_zpM, ↓wp_enM, ↓wp_isiM, ↓wp_someM, ↓wp_sl3, ↓wp_frM, ↓wp_lc, ↓wp_agM, ↓wipP1, ↓wipP2, ↓wipP3, ↓bacP1, ↓bacP2, ↓bacP3, ↓spK0, ↓spK1, ↓spK2, ↓foP_ret, ↓rdP_v, ↓rdP_l, ↓lsP_l, ↓blP_bl, ↓inP_int, ↓vlP_val, ↓vlP_own, ↓hdP_hnd, ↓sqP_lst, ↓sqP_tup, ↓sqP_scr, ↓saP_lst, ↓saP_tup, ↓saP_rng, ↓ctP_nx, ↓ctP_rt, ↓ctP_bk, ↓ctP_ct, ↓lpP_nx, ↓lpP_ct, ↓lpP_bk, ↓lpP_rt, ↓zpP_lst, ↓zpP_tup, ↓enP_lst, ↓exP_lst, ↓tgP_V, ↓tgP_T, ↓tgsP_nil, ↓tgsP_cons, ↓rgP_ok, ↓iteP_true, ↓iteP_false, ↓iteP_t, ↓iteP_f, ↓iteP_nt, ↓iteP_nf, ↓hhP_eq, ↓opP_some, ↓pAdd, ↓pSub, ↓pNeg, ↓pMulR, ↓pMulL, ↓pMod, ↓pDiv, ↓p1018, ↓pLt, ↓pLe, ↓pGt, ↓pGe, ↓pOpB, ↓pEq, ↓pNe, ↓pIs0, ↓pIs1, ↓pIs2, ↓pIs3, ↓pIs4, ↓pIn0, ↓pIn1, ↓pIn2, ↓pIn3, ↓pIn4, ↓pLen1, ↓pLen2, ↓pLen3, ↓pInt, ↓pAbs, ↓pTup1, ↓pTup2, ↓pLst1, ↓pLst2, ↓pLst3, ↓pRng, ↓pSl1, ↓pSl2, ↓pSl3, ↓isi_int_non, ↓isi_int_bl, ↓isi_int_int, ↓isi_int_str, ↓isi_int_tup, ↓isi_int_lst, ↓isi_int_dic, ↓isi_bool_non, ↓isi_bool_bl, ↓isi_bool_int, ↓isi_bool_str, ↓isi_bool_tup, ↓isi_bool_lst, ↓isi_bool_dic, ↓isi_str_non, ↓isi_str_bl, ↓isi_str_int, ↓isi_str_str, ↓isi_str_tup, ↓isi_str_lst, ↓isi_str_dic, ↓isi_tuple_non, ↓isi_tuple_bl, ↓isi_tuple_int, ↓isi_tuple_str, ↓isi_tuple_tup, ↓isi_tuple_lst, ↓isi_tuple_dic, ↓isi_list_non, ↓isi_list_bl, ↓isi_list_int, ↓isi_list_str, ↓isi_list_tup, ↓isi_list_lst, ↓isi_list_dic, ↓isi_dict_non, ↓isi_dict_bl, ↓isi_dict_int, ↓isi_dict_str, ↓isi_dict_tup, ↓isi_dict_lst, ↓isi_dict_dic, ↓ixt0, ↓ixt1, ↓ixt2, ↓ixt3, ↓ixt4, ↓ixt5, ↓ixt6, ↓ixt7, ↓ixt8, ↓ixl0, ↓ixl1, ↓ixl2, ↓ixl3, ↓ixl4, ↓ixl5, ↓ixl6, ↓ixl7, ↓ixl8, ↓FX.gp0, ↓FX.gp1, ↓FX.gp2, ↓FX.gp3, ↓FX.gp4, ↓FX.gp5, ↓FX.gp6, ↓FX.gp7, ↓FX.gp8, ↓FX.gp9, ↓FX.gp10, ↓FX.gp11, ↓FX.gp12, ↓FX.gp13, ↓FX.gp14, ↓FX.gp15, ↓FX.gp16, ↓FX.gp17, ↓FX.gp18, ↓FX.gp19, ↓FX.gp20, ↓FX.gp21, ↓FX.gp22, ↓FX.gp23, ↓FX.gp24, ↓FX.gp25, ↓FX.gp26, ↓FX.gp27, ↓FX.gp28, ↓FX.gp29, ↓FX.gp30, ↓FX.gp31, ↓FX.gp32, ↓FX.gp33, ↓FX.sp0, ↓FX.sp1, ↓FX.sp2, ↓FX.sp3, ↓FX.sp4, ↓FX.sp5, ↓FX.sp6, ↓FX.sp7, ↓FX.sp8, ↓FX.sp9, ↓FX.sp10, ↓FX.sp11, ↓FX.sp12, ↓FX.sp13, ↓FX.sp14, ↓FX.sp15, ↓FX.sp16, ↓FX.sp17, ↓FX.sp18, ↓FX.sp19, ↓FX.sp20, ↓FX.sp21, ↓FX.sp22, ↓FX.sp23, ↓FX.sp24, ↓FX.sp25, ↓FX.sp26, ↓FX.sp27, ↓FX.sp28, ↓FX.sp29, ↓FX.sp30, ↓FX.sp31, ↓FX.sp32, ↓FX.sp33, ↓FX.hp0, ↓FX.hp1, ↓FX.hp2, ↓FX.hp3, ↓FX.hp4, ↓FX.wp0, ↓FX.wp1, ↓FX.wp2, ↓FX.wp3, ↓FX.wp4, end_rt, end_nx, ↓tgQ_eq, Bool.not_true, Bool.not_false, and_self, and_true, true_and, List.nil_append, ↓pIxT (line_at hi) rfl, ↓lx0]
  refine ⟨by rw [List.length_map, sizeLine_eq]; have := hl.few; omega, wp_lcA (enc := D.int) (g := fun x => .int (wt p c y m.2 x)) (fun x _ => ?_) ?_⟩
  · simp -implicitDefEqProofs (disch := omega) only [↓wp_bnd, ↓wp_ret, ↓wp_vV, ↓wp_vB, ↓wp_vL, ↓wp_hix, ↓wp_b1, ↓wp_b2, ↓wp_ifM, ↓wp_notM, ↓wp_andM, ↓wp_orM, ↓wp_asB, ↓wp_asI, ↓wp_notV, ↓wp_andV, ↓wp_orV, ↓wp_sq0, ↓wp_sq, ↓wp_tupM, ↓wp_frz, ↓wp_chM, ↓wp_sqS, ↓wp_seV, ↓wp_seL, ↓wp_asM, ↓wp_paM, ↓wp_paM3, ↓wp_paR2, ↓wp_paR3, ↓wp_rvM, ↓wp_rlM, ↓rv_v, ↓rv_l, ↓wp_shM, ↓wp_apM, ↓wp_exM, ↓wp_siM, ↓wp_clV, ↓wp_clL, ↓wp_hdM, ↓wp_chV, ↓wp_chL, ↓wp_itM, ↓wp_itA, ↓wp_rg1M, ↓wp_rg2M, ↓wp_zpM, ↓wp_enM, ↓wp_isiM, ↓wp_someM, ↓wp_sl3, ↓wp_frM, ↓wp_lc, ↓wp_agM, ↓wipP1, ↓wipP2, ↓wipP3, ↓bacP1, ↓bacP2, ↓bacP3, ↓spK0, ↓spK1, ↓spK2, ↓foP_ret, ↓rdP_v, ↓rdP_l, ↓lsP_l, ↓blP_bl, ↓inP_int, ↓vlP_val, ↓vlP_own, ↓hdP_hnd, ↓sqP_lst, ↓sqP_tup, ↓sqP_scr, ↓saP_lst, ↓saP_tup, ↓saP_rng, ↓ctP_nx, ↓ctP_rt, ↓ctP_bk, ↓ctP_ct, ↓lpP_nx, ↓lpP_ct, ↓lpP_bk, ↓lpP_rt, ↓zpP_lst, ↓zpP_tup, ↓enP_lst, ↓exP_lst, ↓tgP_V, ↓tgP_T, ↓tgsP_nil, ↓tgsP_cons, ↓rgP_ok, ↓iteP_true, ↓iteP_false, ↓iteP_t, ↓iteP_f, ↓iteP_nt, ↓iteP_nf, ↓hhP_eq, ↓opP_some, ↓pAdd, ↓pSub, ↓pNeg, ↓pMulR, ↓pMulL, ↓pMod, ↓pDiv, ↓p1018, ↓pLt, ↓pLe, ↓pGt, ↓pGe, ↓pOpB, ↓pEq, ↓pNe, ↓pIs0, ↓pIs1, ↓pIs2, ↓pIs3, ↓pIs4, ↓pIn0, ↓pIn1, ↓pIn2, ↓pIn3, ↓pIn4, ↓pLen1, ↓pLen2, ↓pLen3, ↓pInt, ↓pAbs, ↓pTup1, ↓pTup2, ↓pLst1, ↓pLst2, ↓pLst3, ↓pRng, ↓pSl1, ↓pSl2, ↓pSl3, ↓isi_int_non, ↓isi_int_bl, ↓isi_int_int, ↓isi_int_str, ↓isi_int_tup, ↓isi_int_lst, ↓isi_int_dic, ↓isi_bool_non, ↓isi_bool_bl, ↓isi_bool_int, ↓isi_bool_str, ↓isi_bool_tup, ↓isi_bool_lst, ↓isi_bool_dic, ↓isi_str_non, ↓isi_str_bl, ↓isi_str_int, ↓isi_str_str, ↓isi_str_tup, ↓isi_str_lst, ↓isi_str_dic, ↓isi_tuple_non, ↓isi_tuple_bl, ↓isi_tuple_int, ↓isi_tuple_str, ↓isi_tuple_tup, ↓isi_tuple_lst, ↓isi_tuple_dic, ↓isi_list_non, ↓isi_list_bl, ↓isi_list_int, ↓isi_list_str, ↓isi_list_tup, ↓isi_list_lst, ↓isi_list_dic, ↓isi_dict_non, ↓isi_dict_bl, ↓isi_dict_int, ↓isi_dict_str, ↓isi_dict_tup, ↓isi_dict_lst, ↓isi_dict_dic, ↓ixt0, ↓ixt1, ↓ixt2, ↓ixt3, ↓ixt4, ↓ixt5, ↓ixt6, ↓ixt7, ↓ixt8, ↓ixl0, ↓ixl1, ↓ixl2, ↓ixl3, ↓ixl4, ↓ixl5, ↓ixl6, ↓ixl7, ↓ixl8, ↓FX.gp0, ↓FX.gp1, ↓FX.gp2, ↓FX.gp3, ↓FX.gp4, ↓FX.gp5, ↓FX.gp6, ↓FX.gp7, ↓FX.gp8, ↓FX.gp9, ↓FX.gp10, ↓FX.gp11, ↓FX.gp12, ↓FX.gp13, ↓FX.gp14, ↓FX.gp15, ↓FX.gp16, ↓FX.gp17, ↓FX.gp18, ↓FX.gp19, ↓FX.gp20, ↓FX.gp21, ↓FX.gp22, ↓FX.gp23, ↓FX.gp24, ↓FX.gp25, ↓FX.gp26, ↓FX.gp27, ↓FX.gp28, ↓FX.gp29, ↓FX.gp30, ↓FX.gp31, ↓FX.gp32, ↓FX.gp33, ↓FX.sp0, ↓FX.sp1, ↓FX.sp2, ↓FX.sp3, ↓FX.sp4, ↓FX.sp5, ↓FX.sp6, ↓FX.sp7, ↓FX.sp8, ↓FX.sp9, ↓FX.sp10, ↓FX.sp11, ↓FX.sp12, ↓FX.sp13, ↓FX.sp14, ↓FX.sp15, ↓FX.sp16, ↓FX.sp17, ↓FX.sp18, ↓FX.sp19, ↓FX.sp20, ↓FX.sp21, ↓FX.sp22, ↓FX.sp23, ↓FX.sp24, ↓FX.sp25, ↓FX.sp26, ↓FX.sp27, ↓FX.sp28, ↓FX.sp29, ↓FX.sp30, ↓FX.sp31, ↓FX.sp32, ↓FX.sp33, ↓FX.hp0, ↓FX.hp1, ↓FX.hp2, ↓FX.hp3, ↓FX.hp4, ↓FX.wp0, ↓FX.wp1, ↓FX.wp2, ↓FX.wp3, ↓FX.wp4, end_rt, end_nx, ↓tgQ_eq, Bool.not_true, Bool.not_false, and_self, and_true, true_and]
    refine ⟨by rw [List.length_map, sizeLine_eq]; have := hm.few; omega, ?_⟩
    refine wp_lcA (enc := fun z : Int => D.int (z + y)) (g := fun z => .int ((z + y - x - c) % p)) (fun z _ => by simp -implicitDefEqProofs (disch := omega) only [↓wp_bnd, ↓wp_ret, ↓wp_vV, ↓wp_vB, ↓wp_vL, ↓wp_hix, ↓wp_b1, ↓wp_b2, ↓wp_ifM, ↓wp_notM, ↓wp_andM, ↓wp_orM, ↓wp_asB, ↓wp_asI, ↓wp_notV, ↓wp_andV, ↓wp_orV, ↓wp_sq0, ↓wp_sq, ↓wp_tupM, ↓wp_frz, ↓wp_chM, ↓wp_sqS, ↓wp_seV, ↓wp_seL, ↓wp_asM, ↓wp_paM, ↓wp_paM3, ↓wp_paR2, ↓wp_paR3, ↓wp_rvM, ↓wp_rlM, ↓rv_v, ↓rv_l, ↓wp_shM, ↓wp_apM, ↓wp_exM, ↓wp_siM, ↓wp_clV, ↓wp_clL, ↓wp_hdM, ↓wp_chV, ↓wp_chL, ↓wp_itM, ↓wp_itA, ↓wp_rg1M, ↓wp_rg2M, ↓wp_zpM, ↓wp_enM, ↓wp_isiM, ↓wp_someM, ↓wp_sl3, ↓wp_frM, ↓wp_lc, ↓wp_agM, ↓wipP1, ↓wipP2, ↓wipP3, ↓bacP1, ↓bacP2, ↓bacP3, ↓spK0, ↓spK1, ↓spK2, ↓foP_ret, ↓rdP_v, ↓rdP_l, ↓lsP_l, ↓blP_bl, ↓inP_int, ↓vlP_val, ↓vlP_own, ↓hdP_hnd, ↓sqP_lst, ↓sqP_tup, ↓sqP_scr, ↓saP_lst, ↓saP_tup, ↓saP_rng, ↓ctP_nx, ↓ctP_rt, ↓ctP_bk, ↓ctP_ct, ↓lpP_nx, ↓lpP_ct, ↓lpP_bk, ↓lpP_rt, ↓zpP_lst, ↓zpP_tup, ↓enP_lst, ↓exP_lst, ↓tgP_V, ↓tgP_T, ↓tgsP_nil, ↓tgsP_cons, ↓rgP_ok, ↓iteP_true, ↓iteP_false, ↓iteP_t, ↓iteP_f, ↓iteP_nt, ↓iteP_nf, ↓hhP_eq, ↓opP_some, ↓pAdd, ↓pSub, ↓pNeg, ↓pMulR, ↓pMulL, ↓pMod, ↓pDiv, ↓p1018, ↓pLt, ↓pLe, ↓pGt, ↓pGe, ↓pOpB, ↓pEq, ↓pNe, ↓pIs0, ↓pIs1, ↓pIs2, ↓pIs3, ↓pIs4, ↓pIn0, ↓pIn1, ↓pIn2, ↓pIn3, ↓pIn4, ↓pLen1, ↓pLen2, ↓pLen3, ↓pInt, ↓pAbs, ↓pTup1, ↓pTup2, ↓pLst1, ↓pLst2, ↓pLst3, ↓pRng, ↓pSl1, ↓pSl2, ↓pSl3, ↓isi_int_non, ↓isi_int_bl, ↓isi_int_int, ↓isi_int_str, ↓isi_int_tup, ↓isi_int_lst, ↓isi_int_dic, ↓isi_bool_non, ↓isi_bool_bl, ↓isi_bool_int, ↓isi_bool_str, ↓isi_bool_tup, ↓isi_bool_lst, ↓isi_bool_dic, ↓isi_str_non, ↓isi_str_bl, ↓isi_str_int, ↓isi_str_str, ↓isi_str_tup, ↓isi_str_lst, ↓isi_str_dic, ↓isi_tuple_non, ↓isi_tuple_bl, ↓isi_tuple_int, ↓isi_tuple_str, ↓isi_tuple_tup, ↓isi_tuple_lst, ↓isi_tuple_dic, ↓isi_list_non, ↓isi_list_bl, ↓isi_list_int, ↓isi_list_str, ↓isi_list_tup, ↓isi_list_lst, ↓isi_list_dic, ↓isi_dict_non, ↓isi_dict_bl, ↓isi_dict_int, ↓isi_dict_str, ↓isi_dict_tup, ↓isi_dict_lst, ↓isi_dict_dic, ↓ixt0, ↓ixt1, ↓ixt2, ↓ixt3, ↓ixt4, ↓ixt5, ↓ixt6, ↓ixt7, ↓ixt8, ↓ixl0, ↓ixl1, ↓ixl2, ↓ixl3, ↓ixl4, ↓ixl5, ↓ixl6, ↓ixl7, ↓ixl8, ↓FX.gp0, ↓FX.gp1, ↓FX.gp2, ↓FX.gp3, ↓FX.gp4, ↓FX.gp5, ↓FX.gp6, ↓FX.gp7, ↓FX.gp8, ↓FX.gp9, ↓FX.gp10, ↓FX.gp11, ↓FX.gp12, ↓FX.gp13, ↓FX.gp14, ↓FX.gp15, ↓FX.gp16, ↓FX.gp17, ↓FX.gp18, ↓FX.gp19, ↓FX.gp20, ↓FX.gp21, ↓FX.gp22, ↓FX.gp23, ↓FX.gp24, ↓FX.gp25, ↓FX.gp26, ↓FX.gp27, ↓FX.gp28, ↓FX.gp29, ↓FX.gp30, ↓FX.gp31, ↓FX.gp32, ↓FX.gp33, ↓FX.sp0, ↓FX.sp1, ↓FX.sp2, ↓FX.sp3, ↓FX.sp4, ↓FX.sp5, ↓FX.sp6, ↓FX.sp7, ↓FX.sp8, ↓FX.sp9, ↓FX.sp10, ↓FX.sp11, ↓FX.sp12, ↓FX.sp13, ↓FX.sp14, ↓FX.sp15, ↓FX.sp16, ↓FX.sp17, ↓FX.sp18, ↓FX.sp19, ↓FX.sp20, ↓FX.sp21, ↓FX.sp22, ↓FX.sp23, ↓FX.sp24, ↓FX.sp25, ↓FX.sp26, ↓FX.sp27, ↓FX.sp28, ↓FX.sp29, ↓FX.sp30, ↓FX.sp31, ↓FX.sp32, ↓FX.sp33, ↓FX.hp0, ↓FX.hp1, ↓FX.hp2, ↓FX.hp3, ↓FX.hp4, ↓FX.wp0, ↓FX.wp1, ↓FX.wp2, ↓FX.wp3, ↓FX.wp4, end_rt, end_nx, ↓tgQ_eq, Bool.not_true, Bool.not_false, and_self, and_true, true_and]) ?_
    simp -implicitDefEqProofs (disch := omega) only [↓wp_bnd, ↓wp_ret, ↓wp_vV, ↓wp_vB, ↓wp_vL, ↓wp_hix, ↓wp_b1, ↓wp_b2, ↓wp_ifM, ↓wp_notM, ↓wp_andM, ↓wp_orM, ↓wp_asB, ↓wp_asI, ↓wp_notV, ↓wp_andV, ↓wp_orV, ↓wp_sq0, ↓wp_sq, ↓wp_tupM, ↓wp_frz, ↓wp_chM, ↓wp_sqS, ↓wp_seV, ↓wp_seL, ↓wp_asM, ↓wp_paM, ↓wp_paM3, ↓wp_paR2, ↓wp_paR3, ↓wp_rvM, ↓wp_rlM, ↓rv_v, ↓rv_l, ↓wp_shM, ↓wp_apM, ↓wp_exM, ↓wp_siM, ↓wp_clV, ↓wp_clL, ↓wp_hdM, ↓wp_chV, ↓wp_chL, ↓wp_itM, ↓wp_itA, ↓wp_rg1M, ↓wp_rg2M, ↓wp_zpM, ↓wp_enM, ↓wp_isiM, ↓wp_someM, ↓wp_sl3, ↓wp_frM, ↓wp_lc, ↓wp_agM, ↓wipP1, ↓wipP2, ↓wipP3, ↓bacP1, ↓bacP2, ↓bacP3, ↓spK0, ↓spK1, ↓spK2, ↓foP_ret, ↓rdP_v, ↓rdP_l, ↓lsP_l, ↓blP_bl, ↓inP_int, ↓vlP_val, ↓vlP_own, ↓hdP_hnd, ↓sqP_lst, ↓sqP_tup, ↓sqP_scr, ↓saP_lst, ↓saP_tup, ↓saP_rng, ↓ctP_nx, ↓ctP_rt, ↓ctP_bk, ↓ctP_ct, ↓lpP_nx, ↓lpP_ct, ↓lpP_bk, ↓lpP_rt, ↓zpP_lst, ↓zpP_tup, ↓enP_lst, ↓exP_lst, ↓tgP_V, ↓tgP_T, ↓tgsP_nil, ↓tgsP_cons, ↓rgP_ok, ↓iteP_true, ↓iteP_false, ↓iteP_t, ↓iteP_f, ↓iteP_nt, ↓iteP_nf, ↓hhP_eq, ↓opP_some, ↓pAdd, ↓pSub, ↓pNeg, ↓pMulR, ↓pMulL, ↓pMod, ↓pDiv, ↓p1018, ↓pLt, ↓pLe, ↓pGt, ↓pGe, ↓pOpB, ↓pEq, ↓pNe, ↓pIs0, ↓pIs1, ↓pIs2, ↓pIs3, ↓pIs4, ↓pIn0, ↓pIn1, ↓pIn2, ↓pIn3, ↓pIn4, ↓pLen1, ↓pLen2, ↓pLen3, ↓pInt, ↓pAbs, ↓pTup1, ↓pTup2, ↓pLst1, ↓pLst2, ↓pLst3, ↓pRng, ↓pSl1, ↓pSl2, ↓pSl3, ↓isi_int_non, ↓isi_int_bl, ↓isi_int_int, ↓isi_int_str, ↓isi_int_tup, ↓isi_int_lst, ↓isi_int_dic, ↓isi_bool_non, ↓isi_bool_bl, ↓isi_bool_int, ↓isi_bool_str, ↓isi_bool_tup, ↓isi_bool_lst, ↓isi_bool_dic, ↓isi_str_non, ↓isi_str_bl, ↓isi_str_int, ↓isi_str_str, ↓isi_str_tup, ↓isi_str_lst, ↓isi_str_dic, ↓isi_tuple_non, ↓isi_tuple_bl, ↓isi_tuple_int, ↓isi_tuple_str, ↓isi_tuple_tup, ↓isi_tuple_lst, ↓isi_tuple_dic, ↓isi_list_non, ↓isi_list_bl, ↓isi_list_int, ↓isi_list_str, ↓isi_list_tup, ↓isi_list_lst, ↓isi_list_dic, ↓isi_dict_non, ↓isi_dict_bl, ↓isi_dict_int, ↓isi_dict_str, ↓isi_dict_tup, ↓isi_dict_lst, ↓isi_dict_dic, ↓ixt0, ↓ixt1, ↓ixt2, ↓ixt3, ↓ixt4, ↓ixt5, ↓ixt6, ↓ixt7, ↓ixt8, ↓ixl0, ↓ixl1, ↓ixl2, ↓ixl3, ↓ixl4, ↓ixl5, ↓ixl6, ↓ixl7, ↓ixl8, ↓FX.gp0, ↓FX.gp1, ↓FX.gp2, ↓FX.gp3, ↓FX.gp4, ↓FX.gp5, ↓FX.gp6, ↓FX.gp7, ↓FX.gp8, ↓FX.gp9, ↓FX.gp10, ↓FX.gp11, ↓FX.gp12, ↓FX.gp13, ↓FX.gp14, ↓FX.gp15, ↓FX.gp16, ↓FX.gp17, ↓FX.gp18, ↓FX.gp19, ↓FX.gp20, ↓FX.gp21, ↓FX.gp22, ↓FX.gp23, ↓FX.gp24, ↓FX.gp25, ↓FX.gp26, ↓FX.gp27, ↓FX.gp28, ↓FX.gp29, ↓FX.gp30, ↓FX.gp31, ↓FX.gp32, ↓FX.gp33, ↓FX.sp0, ↓FX.sp1, ↓FX.sp2, ↓FX.sp3, ↓FX.sp4, ↓FX.sp5, ↓FX.sp6, ↓FX.sp7, ↓FX.sp8, ↓FX.sp9, ↓FX.sp10, ↓FX.sp11, ↓FX.sp12, ↓FX.sp13, ↓FX.sp14, ↓FX.sp15, ↓FX.sp16, ↓FX.sp17, ↓FX.sp18, ↓FX.sp19, ↓FX.sp20, ↓FX.sp21, ↓FX.sp22, ↓FX.sp23, ↓FX.sp24, ↓FX.sp25, ↓FX.sp26, ↓FX.sp27, ↓FX.sp28, ↓FX.sp29, ↓FX.sp30, ↓FX.sp31, ↓FX.sp32, ↓FX.sp33, ↓FX.hp0, ↓FX.hp1, ↓FX.hp2, ↓FX.hp3, ↓FX.hp4, ↓FX.wp0, ↓FX.wp1, ↓FX.wp2, ↓FX.wp3, ↓FX.wp4, end_rt, end_nx, ↓tgQ_eq, Bool.not_true, Bool.not_false, and_self, and_true, true_and, List.nil_append, ↓pMinF]
    rw [minI_ne (by simpa using hm.ne)]
    simp -implicitDefEqProofs (disch := omega) only [↓wp_bnd, ↓wp_ret, ↓wp_vV, ↓wp_vB, ↓wp_vL, ↓wp_hix, ↓wp_b1, ↓wp_b2, ↓wp_ifM, ↓wp_notM, ↓wp_andM, ↓wp_orM, ↓wp_asB, ↓wp_asI, ↓wp_notV, ↓wp_andV, ↓wp_orV, ↓wp_sq0, ↓wp_sq, ↓wp_tupM, ↓wp_frz, ↓wp_chM, ↓wp_sqS, ↓wp_seV, ↓wp_seL, ↓wp_asM, ↓wp_paM, ↓wp_paM3, ↓wp_paR2, ↓wp_paR3, ↓wp_rvM, ↓wp_rlM, ↓rv_v, ↓rv_l, ↓wp_shM, ↓wp_apM, ↓wp_exM, ↓wp_siM, ↓wp_clV, ↓wp_clL, ↓wp_hdM, ↓wp_chV, ↓wp_chL, ↓wp_itM, ↓wp_itA, ↓wp_rg1M, ↓wp_rg2M, ↓wp_zpM, ↓wp_enM, ↓wp_isiM, ↓wp_someM, ↓wp_sl3, ↓wp_frM, ↓wp_lc, ↓wp_agM, ↓wipP1, ↓wipP2, ↓wipP3, ↓bacP1, ↓bacP2, ↓bacP3, ↓spK0, ↓spK1, ↓spK2, ↓foP_ret, ↓rdP_v, ↓rdP_l, ↓lsP_l, ↓blP_bl, ↓inP_int, ↓vlP_val, ↓vlP_own, ↓hdP_hnd, ↓sqP_lst, ↓sqP_tup, ↓sqP_scr, ↓saP_lst, ↓saP_tup, ↓saP_rng, ↓ctP_nx, ↓ctP_rt, ↓ctP_bk, ↓ctP_ct, ↓lpP_nx, ↓lpP_ct, ↓lpP_bk, ↓lpP_rt, ↓zpP_lst, ↓zpP_tup, ↓enP_lst, ↓exP_lst, ↓tgP_V, ↓tgP_T, ↓tgsP_nil, ↓tgsP_cons, ↓rgP_ok, ↓iteP_true, ↓iteP_false, ↓iteP_t, ↓iteP_f, ↓iteP_nt, ↓iteP_nf, ↓hhP_eq, ↓opP_some, ↓pAdd, ↓pSub, ↓pNeg, ↓pMulR, ↓pMulL, ↓pMod, ↓pDiv, ↓p1018, ↓pLt, ↓pLe, ↓pGt, ↓pGe, ↓pOpB, ↓pEq, ↓pNe, ↓pIs0, ↓pIs1, ↓pIs2, ↓pIs3, ↓pIs4, ↓pIn0, ↓pIn1, ↓pIn2, ↓pIn3, ↓pIn4, ↓pLen1, ↓pLen2, ↓pLen3, ↓pInt, ↓pAbs, ↓pTup1, ↓pTup2, ↓pLst1, ↓pLst2, ↓pLst3, ↓pRng, ↓pSl1, ↓pSl2, ↓pSl3, ↓isi_int_non, ↓isi_int_bl, ↓isi_int_int, ↓isi_int_str, ↓isi_int_tup, ↓isi_int_lst, ↓isi_int_dic, ↓isi_bool_non, ↓isi_bool_bl, ↓isi_bool_int, ↓isi_bool_str, ↓isi_bool_tup, ↓isi_bool_lst, ↓isi_bool_dic, ↓isi_str_non, ↓isi_str_bl, ↓isi_str_int, ↓isi_str_str, ↓isi_str_tup, ↓isi_str_lst, ↓isi_str_dic, ↓isi_tuple_non, ↓isi_tuple_bl, ↓isi_tuple_int, ↓isi_tuple_str, ↓isi_tuple_tup, ↓isi_tuple_lst, ↓isi_tuple_dic, ↓isi_list_non, ↓isi_list_bl, ↓isi_list_int, ↓isi_list_str, ↓isi_list_tup, ↓isi_list_lst, ↓isi_list_dic, ↓isi_dict_non, ↓isi_dict_bl, ↓isi_dict_int, ↓isi_dict_str, ↓isi_dict_tup, ↓isi_dict_lst, ↓isi_dict_dic, ↓ixt0, ↓ixt1, ↓ixt2, ↓ixt3, ↓ixt4, ↓ixt5, ↓ixt6, ↓ixt7, ↓ixt8, ↓ixl0, ↓ixl1, ↓ixl2, ↓ixl3, ↓ixl4, ↓ixl5, ↓ixl6, ↓ixl7, ↓ixl8, ↓FX.gp0, ↓FX.gp1, ↓FX.gp2, ↓FX.gp3, ↓FX.gp4, ↓FX.gp5, ↓FX.gp6, ↓FX.gp7, ↓FX.gp8, ↓FX.gp9, ↓FX.gp10, ↓FX.gp11, ↓FX.gp12, ↓FX.gp13, ↓FX.gp14, ↓FX.gp15, ↓FX.gp16, ↓FX.gp17, ↓FX.gp18, ↓FX.gp19, ↓FX.gp20, ↓FX.gp21, ↓FX.gp22, ↓FX.gp23, ↓FX.gp24, ↓FX.gp25, ↓FX.gp26, ↓FX.gp27, ↓FX.gp28, ↓FX.gp29, ↓FX.gp30, ↓FX.gp31, ↓FX.gp32, ↓FX.gp33, ↓FX.sp0, ↓FX.sp1, ↓FX.sp2, ↓FX.sp3, ↓FX.sp4, ↓FX.sp5, ↓FX.sp6, ↓FX.sp7, ↓FX.sp8, ↓FX.sp9, ↓FX.sp10, ↓FX.sp11, ↓FX.sp12, ↓FX.sp13, ↓FX.sp14, ↓FX.sp15, ↓FX.sp16, ↓FX.sp17, ↓FX.sp18, ↓FX.sp19, ↓FX.sp20, ↓FX.sp21, ↓FX.sp22, ↓FX.sp23, ↓FX.sp24, ↓FX.sp25, ↓FX.sp26, ↓FX.sp27, ↓FX.sp28, ↓FX.sp29, ↓FX.sp30, ↓FX.sp31, ↓FX.sp32, ↓FX.sp33, ↓FX.hp0, ↓FX.hp1, ↓FX.hp2, ↓FX.hp3, ↓FX.hp4, ↓FX.wp0, ↓FX.wp1, ↓FX.wp2, ↓FX.wp3, ↓FX.wp4, end_rt, end_nx, ↓tgQ_eq, Bool.not_true, Bool.not_false, and_self, and_true, true_and]
    rfl
  · simp -implicitDefEqProofs (disch := omega) only [↓wp_bnd, ↓wp_ret, ↓wp_vV, ↓wp_vB, ↓wp_vL, ↓wp_hix, ↓wp_b1, ↓wp_b2, ↓wp_ifM, ↓wp_notM, ↓wp_andM, ↓wp_orM, ↓wp_asB, ↓wp_asI, ↓wp_notV, ↓wp_andV, ↓wp_orV, ↓wp_sq0, ↓wp_sq, ↓wp_tupM, ↓wp_frz, ↓wp_chM, ↓wp_sqS, ↓wp_seV, ↓wp_seL, ↓wp_asM, ↓wp_paM, ↓wp_paM3, ↓wp_paR2, ↓wp_paR3, ↓wp_rvM, ↓wp_rlM, ↓rv_v, ↓rv_l, ↓wp_shM, ↓wp_apM, ↓wp_exM, ↓wp_siM, ↓wp_clV, ↓wp_clL, ↓wp_hdM, ↓wp_chV, ↓wp_chL, ↓wp_itM, ↓wp_itA, ↓wp_rg1M, ↓wp_rg2M, ↓wp_zpM, ↓wp_enM, ↓wp_isiM, ↓wp_someM, ↓wp_sl3, ↓wp_frM, ↓wp_lc, ↓wp_agM, ↓wipP1, ↓wipP2, ↓wipP3, ↓bacP1, ↓bacP2, ↓bacP3, ↓spK0, ↓spK1, ↓spK2, ↓foP_ret, ↓rdP_v, ↓rdP_l, ↓lsP_l, ↓blP_bl, ↓inP_int, ↓vlP_val, ↓vlP_own, ↓hdP_hnd, ↓sqP_lst, ↓sqP_tup, ↓sqP_scr, ↓saP_lst, ↓saP_tup, ↓saP_rng, ↓ctP_nx, ↓ctP_rt, ↓ctP_bk, ↓ctP_ct, ↓lpP_nx, ↓lpP_ct, ↓lpP_bk, ↓lpP_rt, ↓zpP_lst, ↓zpP_tup, ↓enP_lst, ↓exP_lst, ↓tgP_V, ↓tgP_T, ↓tgsP_nil, ↓tgsP_cons, ↓rgP_ok, ↓iteP_true, ↓iteP_false, ↓iteP_t, ↓iteP_f, ↓iteP_nt, ↓iteP_nf, ↓hhP_eq, ↓opP_some, ↓pAdd, ↓pSub, ↓pNeg, ↓pMulR, ↓pMulL, ↓pMod, ↓pDiv, ↓p1018, ↓pLt, ↓pLe, ↓pGt, ↓pGe, ↓pOpB, ↓pEq, ↓pNe, ↓pIs0, ↓pIs1, ↓pIs2, ↓pIs3, ↓pIs4, ↓pIn0, ↓pIn1, ↓pIn2, ↓pIn3, ↓pIn4, ↓pLen1, ↓pLen2, ↓pLen3, ↓pInt, ↓pAbs, ↓pTup1, ↓pTup2, ↓pLst1, ↓pLst2, ↓pLst3, ↓pRng, ↓pSl1, ↓pSl2, ↓pSl3, ↓isi_int_non, ↓isi_int_bl, ↓isi_int_int, ↓isi_int_str, ↓isi_int_tup, ↓isi_int_lst, ↓isi_int_dic, ↓isi_bool_non, ↓isi_bool_bl, ↓isi_bool_int, ↓isi_bool_str, ↓isi_bool_tup, ↓isi_bool_lst, ↓isi_bool_dic, ↓isi_str_non, ↓isi_str_bl, ↓isi_str_int, ↓isi_str_str, ↓isi_str_tup, ↓isi_str_lst, ↓isi_str_dic, ↓isi_tuple_non, ↓isi_tuple_bl, ↓isi_tuple_int, ↓isi_tuple_str, ↓isi_tuple_tup, ↓isi_tuple_lst, ↓isi_tuple_dic, ↓isi_list_non, ↓isi_list_bl, ↓isi_list_int, ↓isi_list_str, ↓isi_list_tup, ↓isi_list_lst, ↓isi_list_dic, ↓isi_dict_non, ↓isi_dict_bl, ↓isi_dict_int, ↓isi_dict_str, ↓isi_dict_tup, ↓isi_dict_lst, ↓isi_dict_dic, ↓ixt0, ↓ixt1, ↓ixt2, ↓ixt3, ↓ixt4, ↓ixt5, ↓ixt6, ↓ixt7, ↓ixt8, ↓ixl0, ↓ixl1, ↓ixl2, ↓ixl3, ↓ixl4, ↓ixl5, ↓ixl6, ↓ixl7, ↓ixl8, ↓FX.gp0, ↓FX.gp1, ↓FX.gp2, ↓FX.gp3, ↓FX.gp4, ↓FX.gp5, ↓FX.gp6, ↓FX.gp7, ↓FX.gp8, ↓FX.gp9, ↓FX.gp10, ↓FX.gp11, ↓FX.gp12, ↓FX.gp13, ↓FX.gp14, ↓FX.gp15, ↓FX.gp16, ↓FX.gp17, ↓FX.gp18, ↓FX.gp19, ↓FX.gp20, ↓FX.gp21, ↓FX.gp22, ↓FX.gp23, ↓FX.gp24, ↓FX.gp25, ↓FX.gp26, ↓FX.gp27, ↓FX.gp28, ↓FX.gp29, ↓FX.gp30, ↓FX.gp31, ↓FX.gp32, ↓FX.gp33, ↓FX.sp0, ↓FX.sp1, ↓FX.sp2, ↓FX.sp3, ↓FX.sp4, ↓FX.sp5, ↓FX.sp6, ↓FX.sp7, ↓FX.sp8, ↓FX.sp9, ↓FX.sp10, ↓FX.sp11, ↓FX.sp12, ↓FX.sp13, ↓FX.sp14, ↓FX.sp15, ↓FX.sp16, ↓FX.sp17, ↓FX.sp18, ↓FX.sp19, ↓FX.sp20, ↓FX.sp21, ↓FX.sp22, ↓FX.sp23, ↓FX.sp24, ↓FX.sp25, ↓FX.sp26, ↓FX.sp27, ↓FX.sp28, ↓FX.sp29, ↓FX.sp30, ↓FX.sp31, ↓FX.sp32, ↓FX.sp33, ↓FX.hp0, ↓FX.hp1, ↓FX.hp2, ↓FX.hp3, ↓FX.hp4, ↓FX.wp0, ↓FX.wp1, ↓FX.wp2, ↓FX.wp3, ↓FX.wp4, end_rt, end_nx, ↓tgQ_eq, Bool.not_true, Bool.not_false, and_self, and_true, true_and, List.nil_append]
    unfold waitsI
    rw [List.map_map]
    rfl
theorem change_waits_ok (G : Txt K mg) {p c : Int} {ls : List Line} {i j : Nat} {l m : Line} (h : Hub p ls) (h1 : 0 ≤ c) (h2 : c ≤ 100) (hi : ls[i]? = some l) (hj : ls[j]? = some m) :
    r_change_waits G [hubD p ls, .int c, .int i, .int j] = .ret (.v (.tup ((waitsI p c 0 l.1 m.2).map .int))) [] := by
  refine runP_of ⟨[.val (hubD p ls), .val (.int c), .val (.int i), .val (.int j)], []⟩ rfl ?_
  have hi2 := (List.getElem?_eq_some_iff.mp hi).1
  have hj2 := (List.getElem?_eq_some_iff.mp hj).1
  unfold m_change_waits
  simp -implicitDefEqProofs (disch := omega) only [↓wp_bnd, ↓wp_ret, ↓wp_vV, ↓wp_vB, ↓wp_vL, ↓wp_hix, ↓wp_b1, ↓wp_b2, ↓wp_ifM, ↓wp_notM, ↓wp_andM, ↓wp_orM, ↓wp_asB, ↓wp_asI, ↓wp_notV, ↓wp_andV, ↓wp_orV, ↓wp_sq0, ↓wp_sq, ↓wp_tupM, ↓wp_frz, ↓wp_chM, ↓wp_sqS, ↓wp_seV, ↓wp_seL, ↓wp_asM, ↓wp_paM, ↓wp_paM3, ↓wp_paR2, ↓wp_paR3, ↓wp_rvM, ↓wp_rlM, ↓rv_v, ↓rv_l, ↓wp_shM, ↓wp_apM, ↓wp_exM, ↓wp_siM, ↓wp_clV, ↓wp_clL, ↓wp_hdM, ↓wp_chV, ↓wp_chL, ↓wp_itM, ↓wp_itA, ↓wp_rg1M, ↓wp_rg2M, ↓wp_zpM, ↓wp_enM, ↓wp_isiM, ↓wp_someM, ↓wp_sl3, ↓wp_frM, ↓wp_lc, ↓wp_agM, ↓wipP1, ↓wipP2, ↓wipP3, ↓bacP1, ↓bacP2, ↓bacP3, ↓spK0, ↓spK1, ↓spK2, ↓foP_ret, ↓rdP_v, ↓rdP_l, ↓lsP_l, ↓blP_bl, ↓inP_int, ↓vlP_val, ↓vlP_own, ↓hdP_hnd, ↓sqP_lst, ↓sqP_tup, ↓sqP_scr, ↓saP_lst, ↓saP_tup, ↓saP_rng, ↓ctP_nx, ↓ctP_rt, ↓ctP_bk, ↓ctP_ct, ↓lpP_nx, ↓lpP_ct, ↓lpP_bk, ↓lpP_rt, ↓zpP_lst, ↓zpP_tup, ↓enP_lst, ↓exP_lst, ↓tgP_V, ↓tgP_T, ↓tgsP_nil, ↓tgsP_cons, ↓rgP_ok, ↓iteP_true, ↓iteP_false, ↓iteP_t, ↓iteP_f, ↓iteP_nt, ↓iteP_nf, ↓hhP_eq, ↓opP_some, ↓pAdd, ↓pSub, ↓pNeg, ↓pMulR, ↓pMulL, ↓pMod, ↓pDiv, ↓p1018, ↓pLt, ↓pLe, ↓pGt, ↓pGe, ↓pOpB, ↓pEq, ↓pNe, ↓pIs0, ↓pIs1, ↓pIs2, ↓pIs3, ↓pIs4, ↓pIn0, ↓pIn1, ↓pIn2, ↓pIn3, ↓pIn4, ↓pLen1, ↓pLen2, ↓pLen3, ↓pInt, ↓pAbs, ↓pTup1, ↓pTup2, ↓pLst1, ↓pLst2, ↓pLst3, ↓pRng, ↓pSl1, ↓pSl2, ↓pSl3, ↓isi_int_non, ↓isi_int_bl, ↓isi_int_int, ↓isi_int_str, ↓isi_int_tup, ↓isi_int_lst, ↓isi_int_dic, ↓isi_bool_non, ↓isi_bool_bl, ↓isi_bool_int, ↓isi_bool_str, ↓isi_bool_tup, ↓isi_bool_lst, ↓isi_bool_dic, ↓isi_str_non, ↓isi_str_bl, ↓isi_str_int, ↓isi_str_str, ↓isi_str_tup, ↓isi_str_lst, ↓isi_str_dic, ↓isi_tuple_non, ↓isi_tuple_bl, ↓isi_tuple_int, ↓isi_tuple_str, ↓isi_tuple_tup, ↓isi_tuple_lst, ↓isi_tuple_dic, ↓isi_list_non, ↓isi_list_bl, ↓isi_list_int, ↓isi_list_str, ↓isi_list_tup, ↓isi_list_lst, ↓isi_list_dic, ↓isi_dict_non, ↓isi_dict_bl, ↓isi_dict_int, ↓isi_dict_str, ↓isi_dict_tup, ↓isi_dict_lst, ↓isi_dict_dic, ↓ixt0, ↓ixt1, ↓ixt2, ↓ixt3, ↓ixt4, ↓ixt5, ↓ixt6, ↓ixt7, ↓ixt8, ↓ixl0, ↓ixl1, ↓ixl2, ↓ixl3, ↓ixl4, ↓ixl5, ↓ixl6, ↓ixl7, ↓ixl8, ↓FX.gp0, ↓FX.gp1, ↓FX.gp2, ↓FX.gp3, ↓FX.gp4, ↓FX.gp5, ↓FX.gp6, ↓FX.gp7, ↓FX.gp8, ↓FX.gp9, ↓FX.gp10, ↓FX.gp11, ↓FX.gp12, ↓FX.gp13, ↓FX.gp14, ↓FX.gp15, ↓FX.gp16, ↓FX.gp17, ↓FX.gp18, ↓FX.gp19, ↓FX.gp20, ↓FX.gp21, ↓FX.gp22, ↓FX.gp23, ↓FX.gp24, ↓FX.gp25, ↓FX.gp26, ↓FX.gp27, ↓FX.gp28, ↓FX.gp29, ↓FX.gp30, ↓FX.gp31, ↓FX.gp32, ↓FX.gp33, ↓FX.sp0, ↓FX.sp1, ↓FX.sp2, ↓FX.sp3, ↓FX.sp4, ↓FX.sp5, ↓FX.sp6, ↓FX.sp7, ↓FX.sp8, ↓FX.sp9, ↓FX.sp10, ↓FX.sp11, ↓FX.sp12, ↓FX.sp13, ↓FX.sp14, ↓FX.sp15, ↓FX.sp16, ↓FX.sp17, ↓FX.sp18, ↓FX.sp19, ↓FX.sp20, ↓FX.sp21, ↓FX.sp22, ↓FX.sp23, ↓FX.sp24, ↓FX.sp25, ↓FX.sp26, ↓FX.sp27, ↓FX.sp28, ↓FX.sp29, ↓FX.sp30, ↓FX.sp31, ↓FX.sp32, ↓FX.sp33, ↓FX.hp0, ↓FX.hp1, ↓FX.hp2, ↓FX.hp3, ↓FX.hp4, ↓FX.wp0, ↓FX.wp1, ↓FX.wp2, ↓FX.wp3, ↓FX.wp4, end_rt, end_nx, ↓tgQ_eq, Bool.not_true, Bool.not_false, and_self, and_true, true_and, ↓foP_of (check_hub_ok G h h1 h2), ↓foP_of (check_line_ok G (p := p) (ls := ls) (i := i) (by omega) (by omega)), ↓foP_of (check_line_ok G (p := p) (ls := ls) (i := j) (by omega) (by omega)), ↓foP_of (waits_of_ok G (c := c) (y := 0) h hi hj)]

end
end FX.K71

set_option Elab.async false
set_option linter.all false
set_option maxRecDepth 100000
set_option maxHeartbeats 4000000
namespace FX.K71
open PySem PySem.Spec PyProof.Rows L2 LamX FX
section
variable {K : PySem.W.Frag} {mg : Str → Option Value}
/-! ### tables, pairs -/
def ln (ls : List Line) (i : Nat) : Line := ls.getD i ([], [])
theorem ln_at {ls : List Line} {i : Nat} (h : i < ls.length) : ls[i]? = some (ln ls i) := by
  unfold ln; rw [List.getD_eq_getElem?_getD, List.getElem?_eq_getElem h]; rfl
def WW (p c y : Int) (ls : List Line) (i j : Nat) : List Int := waitsI p c y (ln ls i).1 (ln ls j).2
theorem rngD0 (n : Nat) : rngD 0 n = (List.range n).map fun (i : Nat) => D.int (i : Int) := by
  unfold rngD; congr 1; funext i; rw [Int.zero_add]
theorem waits_at (G : Txt K mg) {p c : Int} (y : Int) {ls : List Line} {i j : Nat} (h : Hub p ls) (hi : i < ls.length) (hj : j < ls.length) :
    r_waits_of G [hubD p ls, .int c, .int i, .int j, .int y] = .ret (.v (.lst ((WW p c y ls i j).map .int))) [] := waits_of_ok G h (ln_at hi) (ln_at hj)
theorem hx0 {p : Int} {ls : List Line} {Q : D → Prop} : opP (ixD (hubD p ls) (.int 0)) Q = Q (.int p) := rfl
theorem hx1 {p : Int} {ls : List Line} {Q : D → Prop} : opP (ixD (hubD p ls) (.int 1)) Q = Q (.tup (ls.map lineD)) := rfl
def tableD (p c : Int) (ls : List Line) : D := .tup ((List.range ls.length).map fun i => .tup ((List.range ls.length).map fun j => .int (WW p c 0 ls i j).sum))
theorem change_table_ok (G : Txt K mg) {p c : Int} {ls : List Line} (h : Hub p ls) (h1 : 0 ≤ c) (h2 : c ≤ 100) : r_change_table G [hubD p ls, .int c] = .ret (.v (tableD p c ls)) [] := by
  refine runP_of ⟨[.val (hubD p ls), .val (.int c), .un, .un, .un, .un], []⟩ rfl ?_
  have hf := h.few
  have e3 : (ls.map lineD).length = ls.length := List.length_map _
  unfold m_change_table
  simp -implicitDefEqProofs (disch := omega) only [↓wp_bnd, ↓wp_ret, ↓wp_vV, ↓wp_vB, ↓wp_vL, ↓wp_hix, ↓wp_b1, ↓wp_b2, ↓wp_ifM, ↓wp_notM, ↓wp_andM, ↓wp_orM, ↓wp_asB, ↓wp_asI, ↓wp_notV, ↓wp_andV, ↓wp_orV, ↓wp_sq0, ↓wp_sq, ↓wp_tupM, ↓wp_frz, ↓wp_chM, ↓wp_sqS, ↓wp_seV, ↓wp_seL, ↓wp_asM, ↓wp_paM, ↓wp_paM3, ↓wp_paR2, ↓wp_paR3, ↓wp_rvM, ↓wp_rlM, ↓rv_v, ↓rv_l, ↓wp_shM, ↓wp_apM, ↓wp_exM, ↓wp_siM, ↓wp_clV, ↓wp_clL, ↓wp_hdM, ↓wp_chV, ↓wp_chL, ↓wp_itM, ↓wp_itA, ↓wp_rg1M, ↓wp_rg2M, ↓wp_zpM, ↓wp_enM, ↓wp_isiM, ↓wp_someM, ↓wp_sl3, ↓wp_frM, ↓wp_lc, ↓wp_agM, ↓wipP1, ↓wipP2, ↓wipP3, ↓bacP1, ↓bacP2, ↓bacP3, ↓spK0, ↓spK1, ↓spK2, ↓foP_ret, ↓rdP_v, ↓rdP_l, ↓lsP_l, ↓blP_bl, ↓inP_int, ↓vlP_val, ↓vlP_own, ↓hdP_hnd, ↓sqP_lst, ↓sqP_tup, ↓sqP_scr, ↓saP_lst, ↓saP_tup, ↓saP_rng, ↓ctP_nx, ↓ctP_rt, ↓ctP_bk, ↓ctP_ct, ↓lpP_nx, ↓lpP_ct, ↓lpP_bk, ↓lpP_rt, ↓zpP_lst, ↓zpP_tup, ↓enP_lst, ↓exP_lst, ↓tgP_V, ↓tgP_T, ↓tgsP_nil, ↓tgsP_cons, ↓rgP_ok, ↓iteP_true, ↓iteP_false, ↓iteP_t, ↓iteP_f, ↓iteP_nt, ↓iteP_nf, ↓hhP_eq, ↓opP_some, ↓pAdd, ↓pSub, ↓pNeg, ↓pMulR, ↓pMulL, ↓pMod, ↓pDiv, ↓p1018, ↓pLt, ↓pLe, ↓pGt, ↓pGe, ↓pOpB, ↓pEq, ↓pNe, ↓pIs0, ↓pIs1, ↓pIs2, ↓pIs3, ↓pIs4, ↓pIn0, ↓pIn1, ↓pIn2, ↓pIn3, ↓pIn4, ↓pLen1, ↓pLen2, ↓pLen3, ↓pInt, ↓pAbs, ↓pTup1, ↓pTup2, ↓pLst1, ↓pLst2, ↓pLst3, ↓pRng, ↓pSl1, ↓pSl2, ↓pSl3, ↓isi_int_non, ↓isi_int_bl, ↓isi_int_int, ↓isi_int_str, ↓isi_int_tup, ↓isi_int_lst, ↓isi_int_dic, ↓isi_bool_non, ↓isi_bool_bl, ↓isi_bool_int, ↓isi_bool_str, ↓isi_bool_tup, ↓isi_bool_lst, ↓isi_bool_dic, ↓isi_str_non, ↓isi_str_bl, ↓isi_str_int, ↓isi_str_str, ↓isi_str_tup, ↓isi_str_lst, ↓isi_str_dic, ↓isi_tuple_non, ↓isi_tuple_bl, ↓isi_tuple_int, ↓isi_tuple_str, ↓isi_tuple_tup, ↓isi_tuple_lst, ↓isi_tuple_dic, ↓isi_list_non, ↓isi_list_bl, ↓isi_list_int, ↓isi_list_str, ↓isi_list_tup, ↓isi_list_lst, ↓isi_list_dic, ↓isi_dict_non, ↓isi_dict_bl, ↓isi_dict_int, ↓isi_dict_str, ↓isi_dict_tup, ↓isi_dict_lst, ↓isi_dict_dic, ↓ixt0, ↓ixt1, ↓ixt2, ↓ixt3, ↓ixt4, ↓ixt5, ↓ixt6, ↓ixt7, ↓ixt8, ↓ixl0, ↓ixl1, ↓ixl2, ↓ixl3, ↓ixl4, ↓ixl5, ↓ixl6, ↓ixl7, ↓ixl8, ↓FX.gp0, ↓FX.gp1, ↓FX.gp2, ↓FX.gp3, ↓FX.gp4, ↓FX.gp5, ↓FX.gp6, ↓FX.gp7, ↓FX.gp8, ↓FX.gp9, ↓FX.gp10, ↓FX.gp11, ↓FX.gp12, ↓FX.gp13, ↓FX.gp14, ↓FX.gp15, ↓FX.gp16, ↓FX.gp17, ↓FX.gp18, ↓FX.gp19, ↓FX.gp20, ↓FX.gp21, ↓FX.gp22, ↓FX.gp23, ↓FX.gp24, ↓FX.gp25, ↓FX.gp26, ↓FX.gp27, ↓FX.gp28, ↓FX.gp29, ↓FX.gp30, ↓FX.gp31, ↓FX.gp32, ↓FX.gp33, ↓FX.sp0, ↓FX.sp1, ↓FX.sp2, ↓FX.sp3, ↓FX.sp4, ↓FX.sp5, ↓FX.sp6, ↓FX.sp7, ↓FX.sp8, ↓FX.sp9, ↓FX.sp10, ↓FX.sp11, ↓FX.sp12, ↓FX.sp13, ↓FX.sp14, ↓FX.sp15, ↓FX.sp16, ↓FX.sp17, ↓FX.sp18, ↓FX.sp19, ↓FX.sp20, ↓FX.sp21, ↓FX.sp22, ↓FX.sp23, ↓FX.sp24, ↓FX.sp25, ↓FX.sp26, ↓FX.sp27, ↓FX.sp28, ↓FX.sp29, ↓FX.sp30, ↓FX.sp31, ↓FX.sp32, ↓FX.sp33, ↓FX.hp0, ↓FX.hp1, ↓FX.hp2, ↓FX.hp3, ↓FX.hp4, ↓FX.wp0, ↓FX.wp1, ↓FX.wp2, ↓FX.wp3, ↓FX.wp4, end_rt, end_nx, ↓tgQ_eq, Bool.not_true, Bool.not_false, and_self, and_true, true_and, ↓foP_of (check_hub_ok G h h1 h2), ↓hx1, List.length_map, Int.toNat_natCast, rngD0]
  refine ⟨by rw [List.length_range, sizeLine_eq]; omega, ?_⟩
  refine wp_lcA (enc := fun i : Nat => D.int i) (g := fun i => .tup ((List.range ls.length).map fun j => .int (WW p c 0 ls i j).sum)) (fun i hi => ?_) ?_
  · have hi : i < ls.length := List.mem_range.mp hi
    simp -implicitDefEqProofs (disch := omega) only [↓wp_bnd, ↓wp_ret, ↓wp_vV, ↓wp_vB, ↓wp_vL, ↓wp_hix, ↓wp_b1, ↓wp_b2, ↓wp_ifM, ↓wp_notM, ↓wp_andM, ↓wp_orM, ↓wp_asB, ↓wp_asI, ↓wp_notV, ↓wp_andV, ↓wp_orV, ↓wp_sq0, ↓wp_sq, ↓wp_tupM, ↓wp_frz, ↓wp_chM, ↓wp_sqS, ↓wp_seV, ↓wp_seL, ↓wp_asM, ↓wp_paM, ↓wp_paM3, ↓wp_paR2, ↓wp_paR3, ↓wp_rvM, ↓wp_rlM, ↓rv_v, ↓rv_l, ↓wp_shM, ↓wp_apM, ↓wp_exM, ↓wp_siM, ↓wp_clV, ↓wp_clL, ↓wp_hdM, ↓wp_chV, ↓wp_chL, ↓wp_itM, ↓wp_itA, ↓wp_rg1M, ↓wp_rg2M, ↓wp_zpM, ↓wp_enM, ↓wp_isiM, ↓wp_someM, ↓wp_sl3, ↓wp_frM, ↓wp_lc, ↓wp_agM, ↓wipP1, ↓wipP2, ↓wipP3, ↓bacP1, ↓bacP2, ↓bacP3, ↓spK0, ↓spK1, ↓spK2, ↓foP_ret, ↓rdP_v, ↓rdP_l, ↓lsP_l, ↓blP_bl, ↓inP_int, ↓vlP_val, ↓vlP_own, ↓hdP_hnd, ↓sqP_lst, ↓sqP_tup, ↓sqP_scr, ↓saP_lst, ↓saP_tup, ↓saP_rng, ↓ctP_nx, ↓ctP_rt, ↓ctP_bk, ↓ctP_ct, ↓lpP_nx, ↓lpP_ct, ↓lpP_bk, ↓lpP_rt, ↓zpP_lst, ↓zpP_tup, ↓enP_lst, ↓exP_lst, ↓tgP_V, ↓tgP_T, ↓tgsP_nil, ↓tgsP_cons, ↓rgP_ok, ↓iteP_true, ↓iteP_false, ↓iteP_t, ↓iteP_f, ↓iteP_nt, ↓iteP_nf, ↓hhP_eq, ↓opP_some, ↓pAdd, ↓pSub, ↓pNeg, ↓pMulR, ↓pMulL, ↓pMod, ↓pDiv, ↓p1018, ↓pLt, ↓pLe, ↓pGt, ↓pGe, ↓pOpB, ↓pEq, ↓pNe, ↓pIs0, ↓pIs1, ↓pIs2, ↓pIs3, ↓pIs4, ↓pIn0, ↓pIn1, ↓pIn2, ↓pIn3, ↓pIn4, ↓pLen1, ↓pLen2, ↓pLen3, ↓pInt, ↓pAbs, ↓pTup1, ↓pTup2, ↓pLst1, ↓pLst2, ↓pLst3, ↓pRng, ↓pSl1, ↓pSl2, ↓pSl3, ↓isi_int_non, ↓isi_int_bl, ↓isi_int_int, ↓isi_int_str, ↓isi_int_tup, ↓isi_int_lst, ↓isi_int_dic, ↓isi_bool_non, ↓isi_bool_bl, ↓isi_bool_int, ↓isi_bool_str, ↓isi_bool_tup, ↓isi_bool_lst, ↓isi_bool_dic, ↓isi_str_non, ↓isi_str_bl, ↓isi_str_int, ↓isi_str_str, ↓isi_str_tup, ↓isi_str_lst, ↓isi_str_dic, ↓isi_tuple_non, ↓isi_tuple_bl, ↓isi_tuple_int, ↓isi_tuple_str, ↓isi_tuple_tup, ↓isi_tuple_lst, ↓isi_tuple_dic, ↓isi_list_non, ↓isi_list_bl, ↓isi_list_int, ↓isi_list_str, ↓isi_list_tup, ↓isi_list_lst, ↓isi_list_dic, ↓isi_dict_non, ↓isi_dict_bl, ↓isi_dict_int, ↓isi_dict_str, ↓isi_dict_tup, ↓isi_dict_lst, ↓isi_dict_dic, ↓ixt0, ↓ixt1, ↓ixt2, ↓ixt3, ↓ixt4, ↓ixt5, ↓ixt6, ↓ixt7, ↓ixt8, ↓ixl0, ↓ixl1, ↓ixl2, ↓ixl3, ↓ixl4, ↓ixl5, ↓ixl6, ↓ixl7, ↓ixl8, ↓FX.gp0, ↓FX.gp1, ↓FX.gp2, ↓FX.gp3, ↓FX.gp4, ↓FX.gp5, ↓FX.gp6, ↓FX.gp7, ↓FX.gp8, ↓FX.gp9, ↓FX.gp10, ↓FX.gp11, ↓FX.gp12, ↓FX.gp13, ↓FX.gp14, ↓FX.gp15, ↓FX.gp16, ↓FX.gp17, ↓FX.gp18, ↓FX.gp19, ↓FX.gp20, ↓FX.gp21, ↓FX.gp22, ↓FX.gp23, ↓FX.gp24, ↓FX.gp25, ↓FX.gp26, ↓FX.gp27, ↓FX.gp28, ↓FX.gp29, ↓FX.gp30, ↓FX.gp31, ↓FX.gp32, ↓FX.gp33, ↓FX.sp0, ↓FX.sp1, ↓FX.sp2, ↓FX.sp3, ↓FX.sp4, ↓FX.sp5, ↓FX.sp6, ↓FX.sp7, ↓FX.sp8, ↓FX.sp9, ↓FX.sp10, ↓FX.sp11, ↓FX.sp12, ↓FX.sp13, ↓FX.sp14, ↓FX.sp15, ↓FX.sp16, ↓FX.sp17, ↓FX.sp18, ↓FX.sp19, ↓FX.sp20, ↓FX.sp21, ↓FX.sp22, ↓FX.sp23, ↓FX.sp24, ↓FX.sp25, ↓FX.sp26, ↓FX.sp27, ↓FX.sp28, ↓FX.sp29, ↓FX.sp30, ↓FX.sp31, ↓FX.sp32, ↓FX.sp33, ↓FX.hp0, ↓FX.hp1, ↓FX.hp2, ↓FX.hp3, ↓FX.hp4, ↓FX.wp0, ↓FX.wp1, ↓FX.wp2, ↓FX.wp3, ↓FX.wp4, end_rt, end_nx, ↓tgQ_eq, Bool.not_true, Bool.not_false, and_self, and_true, true_and, Int.toNat_natCast, rngD0]
    refine ⟨by rw [List.length_map, List.length_range, sizeLine_eq]; omega, ?_⟩
    refine wp_lcA (enc := fun i : Nat => D.int i) (g := fun j => .int (WW p c 0 ls i j).sum) (fun j hj => ?_) ?_
    · have hj : j < ls.length := List.mem_range.mp hj
      simp -implicitDefEqProofs (disch := omega) only [↓wp_bnd, ↓wp_ret, ↓wp_vV, ↓wp_vB, ↓wp_vL, ↓wp_hix, ↓wp_b1, ↓wp_b2, ↓wp_ifM, ↓wp_notM, ↓wp_andM, ↓wp_orM, ↓wp_asB, ↓wp_asI, ↓wp_notV, ↓wp_andV, ↓wp_orV, ↓wp_sq0, ↓wp_sq, ↓wp_tupM, ↓wp_frz, ↓wp_chM, ↓wp_sqS, ↓wp_seV, ↓wp_seL, ↓wp_asM, ↓wp_paM, ↓wp_paM3, ↓wp_paR2, ↓wp_paR3, ↓wp_rvM, ↓wp_rlM, ↓rv_v, ↓rv_l, ↓wp_shM, ↓wp_apM, ↓wp_exM, ↓wp_siM, ↓wp_clV, ↓wp_clL, ↓wp_hdM, ↓wp_chV, ↓wp_chL, ↓wp_itM, ↓wp_itA, ↓wp_rg1M, ↓wp_rg2M, ↓wp_zpM, ↓wp_enM, ↓wp_isiM, ↓wp_someM, ↓wp_sl3, ↓wp_frM, ↓wp_lc, ↓wp_agM, ↓wipP1, ↓wipP2, ↓wipP3, ↓bacP1, ↓bacP2, ↓bacP3, ↓spK0, ↓spK1, ↓spK2, ↓foP_ret, ↓rdP_v, ↓rdP_l, ↓lsP_l, ↓blP_bl, ↓inP_int, ↓vlP_val, ↓vlP_own, ↓hdP_hnd, ↓sqP_lst, ↓sqP_tup, ↓sqP_scr, ↓saP_lst, ↓saP_tup, ↓saP_rng, ↓ctP_nx, ↓ctP_rt, ↓ctP_bk, ↓ctP_ct, ↓lpP_nx, ↓lpP_ct, ↓lpP_bk, ↓lpP_rt, ↓zpP_lst, ↓zpP_tup, ↓enP_lst, ↓exP_lst, ↓tgP_V, ↓tgP_T, ↓tgsP_nil, ↓tgsP_cons, ↓rgP_ok, ↓iteP_true, ↓iteP_false, ↓iteP_t, ↓iteP_f, ↓iteP_nt, ↓iteP_nf, ↓hhP_eq, ↓opP_some, ↓pAdd, ↓pSub, ↓pNeg, ↓pMulR, ↓pMulL, ↓pMod, ↓pDiv, ↓p1018, ↓pLt, ↓pLe, ↓pGt, ↓pGe, ↓pOpB, ↓pEq, ↓pNe, ↓pIs0, ↓pIs1, ↓pIs2, ↓pIs3, ↓pIs4, ↓pIn0, ↓pIn1, ↓pIn2, ↓pIn3, ↓pIn4, ↓pLen1, ↓pLen2, ↓pLen3, ↓pInt, ↓pAbs, ↓pTup1, ↓pTup2, ↓pLst1, ↓pLst2, ↓pLst3, ↓pRng, ↓pSl1, ↓pSl2, ↓pSl3, ↓isi_int_non, ↓isi_int_bl, ↓isi_int_int, ↓isi_int_str, ↓isi_int_tup, ↓isi_int_lst, ↓isi_int_dic, ↓isi_bool_non, ↓isi_bool_bl, ↓isi_bool_int, ↓isi_bool_str, ↓isi_bool_tup, ↓isi_bool_lst, ↓isi_bool_dic, ↓isi_str_non, ↓isi_str_bl, ↓isi_str_int, ↓isi_str_str, ↓isi_str_tup, ↓isi_str_lst, ↓isi_str_dic, ↓isi_tuple_non, ↓isi_tuple_bl, ↓isi_tuple_int, ↓isi_tuple_str, ↓isi_tuple_tup, ↓isi_tuple_lst, ↓isi_tuple_dic, ↓isi_list_non, ↓isi_list_bl, ↓isi_list_int, ↓isi_list_str, ↓isi_list_tup, ↓isi_list_lst, ↓isi_list_dic, ↓isi_dict_non, ↓isi_dict_bl, ↓isi_dict_int, ↓isi_dict_str, ↓isi_dict_tup, ↓isi_dict_lst, ↓isi_dict_dic, ↓ixt0, ↓ixt1, ↓ixt2, ↓ixt3, ↓ixt4, ↓ixt5, ↓ixt6, ↓ixt7, ↓ixt8, ↓ixl0, ↓ixl1, ↓ixl2, ↓ixl3, ↓ixl4, ↓ixl5, ↓ixl6, ↓ixl7, ↓ixl8, ↓FX.gp0, ↓FX.gp1, ↓FX.gp2, ↓FX.gp3, ↓FX.gp4, ↓FX.gp5, ↓FX.gp6, ↓FX.gp7, ↓FX.gp8, ↓FX.gp9, ↓FX.gp10, ↓FX.gp11, ↓FX.gp12, ↓FX.gp13, ↓FX.gp14, ↓FX.gp15, ↓FX.gp16, ↓FX.gp17, ↓FX.gp18, ↓FX.gp19, ↓FX.gp20, ↓FX.gp21, ↓FX.gp22, ↓FX.gp23, ↓FX.gp24, ↓FX.gp25, ↓FX.gp26, ↓FX.gp27, ↓FX.gp28, ↓FX.gp29, ↓FX.gp30, ↓FX.gp31, ↓FX.gp32, ↓FX.gp33, ↓FX.sp0, ↓FX.sp1, ↓FX.sp2, ↓FX.sp3, ↓FX.sp4, ↓FX.sp5, ↓FX.sp6, ↓FX.sp7, ↓FX.sp8, ↓FX.sp9, ↓FX.sp10, ↓FX.sp11, ↓FX.sp12, ↓FX.sp13, ↓FX.sp14, ↓FX.sp15, ↓FX.sp16, ↓FX.sp17, ↓FX.sp18, ↓FX.sp19, ↓FX.sp20, ↓FX.sp21, ↓FX.sp22, ↓FX.sp23, ↓FX.sp24, ↓FX.sp25, ↓FX.sp26, ↓FX.sp27, ↓FX.sp28, ↓FX.sp29, ↓FX.sp30, ↓FX.sp31, ↓FX.sp32, ↓FX.sp33, ↓FX.hp0, ↓FX.hp1, ↓FX.hp2, ↓FX.hp3, ↓FX.hp4, ↓FX.wp0, ↓FX.wp1, ↓FX.wp2, ↓FX.wp3, ↓FX.wp4, end_rt, end_nx, ↓tgQ_eq, Bool.not_true, Bool.not_false, and_self, and_true, true_and, ↓foP_of (waits_at G (c := c) 0 h hi hj), ↓pSum]
    · simp -implicitDefEqProofs (disch := omega) only [↓wp_bnd, ↓wp_ret, ↓wp_vV, ↓wp_vB, ↓wp_vL, ↓wp_hix, ↓wp_b1, ↓wp_b2, ↓wp_ifM, ↓wp_notM, ↓wp_andM, ↓wp_orM, ↓wp_asB, ↓wp_asI, ↓wp_notV, ↓wp_andV, ↓wp_orV, ↓wp_sq0, ↓wp_sq, ↓wp_tupM, ↓wp_frz, ↓wp_chM, ↓wp_sqS, ↓wp_seV, ↓wp_seL, ↓wp_asM, ↓wp_paM, ↓wp_paM3, ↓wp_paR2, ↓wp_paR3, ↓wp_rvM, ↓wp_rlM, ↓rv_v, ↓rv_l, ↓wp_shM, ↓wp_apM, ↓wp_exM, ↓wp_siM, ↓wp_clV, ↓wp_clL, ↓wp_hdM, ↓wp_chV, ↓wp_chL, ↓wp_itM, ↓wp_itA, ↓wp_rg1M, ↓wp_rg2M, ↓wp_zpM, ↓wp_enM, ↓wp_isiM, ↓wp_someM, ↓wp_sl3, ↓wp_frM, ↓wp_lc, ↓wp_agM, ↓wipP1, ↓wipP2, ↓wipP3, ↓bacP1, ↓bacP2, ↓bacP3, ↓spK0, ↓spK1, ↓spK2, ↓foP_ret, ↓rdP_v, ↓rdP_l, ↓lsP_l, ↓blP_bl, ↓inP_int, ↓vlP_val, ↓vlP_own, ↓hdP_hnd, ↓sqP_lst, ↓sqP_tup, ↓sqP_scr, ↓saP_lst, ↓saP_tup, ↓saP_rng, ↓ctP_nx, ↓ctP_rt, ↓ctP_bk, ↓ctP_ct, ↓lpP_nx, ↓lpP_ct, ↓lpP_bk, ↓lpP_rt, ↓zpP_lst, ↓zpP_tup, ↓enP_lst, ↓exP_lst, ↓tgP_V, ↓tgP_T, ↓tgsP_nil, ↓tgsP_cons, ↓rgP_ok, ↓iteP_true, ↓iteP_false, ↓iteP_t, ↓iteP_f, ↓iteP_nt, ↓iteP_nf, ↓hhP_eq, ↓opP_some, ↓pAdd, ↓pSub, ↓pNeg, ↓pMulR, ↓pMulL, ↓pMod, ↓pDiv, ↓p1018, ↓pLt, ↓pLe, ↓pGt, ↓pGe, ↓pOpB, ↓pEq, ↓pNe, ↓pIs0, ↓pIs1, ↓pIs2, ↓pIs3, ↓pIs4, ↓pIn0, ↓pIn1, ↓pIn2, ↓pIn3, ↓pIn4, ↓pLen1, ↓pLen2, ↓pLen3, ↓pInt, ↓pAbs, ↓pTup1, ↓pTup2, ↓pLst1, ↓pLst2, ↓pLst3, ↓pRng, ↓pSl1, ↓pSl2, ↓pSl3, ↓isi_int_non, ↓isi_int_bl, ↓isi_int_int, ↓isi_int_str, ↓isi_int_tup, ↓isi_int_lst, ↓isi_int_dic, ↓isi_bool_non, ↓isi_bool_bl, ↓isi_bool_int, ↓isi_bool_str, ↓isi_bool_tup, ↓isi_bool_lst, ↓isi_bool_dic, ↓isi_str_non, ↓isi_str_bl, ↓isi_str_int, ↓isi_str_str, ↓isi_str_tup, ↓isi_str_lst, ↓isi_str_dic, ↓isi_tuple_non, ↓isi_tuple_bl, ↓isi_tuple_int, ↓isi_tuple_str, ↓isi_tuple_tup, ↓isi_tuple_lst, ↓isi_tuple_dic, ↓isi_list_non, ↓isi_list_bl, ↓isi_list_int, ↓isi_list_str, ↓isi_list_tup, ↓isi_list_lst, ↓isi_list_dic, ↓isi_dict_non, ↓isi_dict_bl, ↓isi_dict_int, ↓isi_dict_str, ↓isi_dict_tup, ↓isi_dict_lst, ↓isi_dict_dic, ↓ixt0, ↓ixt1, ↓ixt2, ↓ixt3, ↓ixt4, ↓ixt5, ↓ixt6, ↓ixt7, ↓ixt8, ↓ixl0, ↓ixl1, ↓ixl2, ↓ixl3, ↓ixl4, ↓ixl5, ↓ixl6, ↓ixl7, ↓ixl8, ↓FX.gp0, ↓FX.gp1, ↓FX.gp2, ↓FX.gp3, ↓FX.gp4, ↓FX.gp5, ↓FX.gp6, ↓FX.gp7, ↓FX.gp8, ↓FX.gp9, ↓FX.gp10, ↓FX.gp11, ↓FX.gp12, ↓FX.gp13, ↓FX.gp14, ↓FX.gp15, ↓FX.gp16, ↓FX.gp17, ↓FX.gp18, ↓FX.gp19, ↓FX.gp20, ↓FX.gp21, ↓FX.gp22, ↓FX.gp23, ↓FX.gp24, ↓FX.gp25, ↓FX.gp26, ↓FX.gp27, ↓FX.gp28, ↓FX.gp29, ↓FX.gp30, ↓FX.gp31, ↓FX.gp32, ↓FX.gp33, ↓FX.sp0, ↓FX.sp1, ↓FX.sp2, ↓FX.sp3, ↓FX.sp4, ↓FX.sp5, ↓FX.sp6, ↓FX.sp7, ↓FX.sp8, ↓FX.sp9, ↓FX.sp10, ↓FX.sp11, ↓FX.sp12, ↓FX.sp13, ↓FX.sp14, ↓FX.sp15, ↓FX.sp16, ↓FX.sp17, ↓FX.sp18, ↓FX.sp19, ↓FX.sp20, ↓FX.sp21, ↓FX.sp22, ↓FX.sp23, ↓FX.sp24, ↓FX.sp25, ↓FX.sp26, ↓FX.sp27, ↓FX.sp28, ↓FX.sp29, ↓FX.sp30, ↓FX.sp31, ↓FX.sp32, ↓FX.sp33, ↓FX.hp0, ↓FX.hp1, ↓FX.hp2, ↓FX.hp3, ↓FX.hp4, ↓FX.wp0, ↓FX.wp1, ↓FX.wp2, ↓FX.wp3, ↓FX.wp4, end_rt, end_nx, ↓tgQ_eq, Bool.not_true, Bool.not_false, and_self, and_true, true_and, List.nil_append]
  · simp -implicitDefEqProofs (disch := omega) only [↓wp_bnd, ↓wp_ret, ↓wp_vV, ↓wp_vB, ↓wp_vL, ↓wp_hix, ↓wp_b1, ↓wp_b2, ↓wp_ifM, ↓wp_notM, ↓wp_andM, ↓wp_orM, ↓wp_asB, ↓wp_asI, ↓wp_notV, ↓wp_andV, ↓wp_orV, ↓wp_sq0, ↓wp_sq, ↓wp_tupM, ↓wp_frz, ↓wp_chM, ↓wp_sqS, ↓wp_seV, ↓wp_seL, ↓wp_asM, ↓wp_paM, ↓wp_paM3, ↓wp_paR2, ↓wp_paR3, ↓wp_rvM, ↓wp_rlM, ↓rv_v, ↓rv_l, ↓wp_shM, ↓wp_apM, ↓wp_exM, ↓wp_siM, ↓wp_clV, ↓wp_clL, ↓wp_hdM, ↓wp_chV, ↓wp_chL, ↓wp_itM, ↓wp_itA, ↓wp_rg1M, ↓wp_rg2M, ↓wp_zpM, ↓wp_enM, ↓wp_isiM, ↓wp_someM, ↓wp_sl3, ↓wp_frM, ↓wp_lc, ↓wp_agM, ↓wipP1, ↓wipP2, ↓wipP3, ↓bacP1, ↓bacP2, ↓bacP3, ↓spK0, ↓spK1, ↓spK2, ↓foP_ret, ↓rdP_v, ↓rdP_l, ↓lsP_l, ↓blP_bl, ↓inP_int, ↓vlP_val, ↓vlP_own, ↓hdP_hnd, ↓sqP_lst, ↓sqP_tup, ↓sqP_scr, ↓saP_lst, ↓saP_tup, ↓saP_rng, ↓ctP_nx, ↓ctP_rt, ↓ctP_bk, ↓ctP_ct, ↓lpP_nx, ↓lpP_ct, ↓lpP_bk, ↓lpP_rt, ↓zpP_lst, ↓zpP_tup, ↓enP_lst, ↓exP_lst, ↓tgP_V, ↓tgP_T, ↓tgsP_nil, ↓tgsP_cons, ↓rgP_ok, ↓iteP_true, ↓iteP_false, ↓iteP_t, ↓iteP_f, ↓iteP_nt, ↓iteP_nf, ↓hhP_eq, ↓opP_some, ↓pAdd, ↓pSub, ↓pNeg, ↓pMulR, ↓pMulL, ↓pMod, ↓pDiv, ↓p1018, ↓pLt, ↓pLe, ↓pGt, ↓pGe, ↓pOpB, ↓pEq, ↓pNe, ↓pIs0, ↓pIs1, ↓pIs2, ↓pIs3, ↓pIs4, ↓pIn0, ↓pIn1, ↓pIn2, ↓pIn3, ↓pIn4, ↓pLen1, ↓pLen2, ↓pLen3, ↓pInt, ↓pAbs, ↓pTup1, ↓pTup2, ↓pLst1, ↓pLst2, ↓pLst3, ↓pRng, ↓pSl1, ↓pSl2, ↓pSl3, ↓isi_int_non, ↓isi_int_bl, ↓isi_int_int, ↓isi_int_str, ↓isi_int_tup, ↓isi_int_lst, ↓isi_int_dic, ↓isi_bool_non, ↓isi_bool_bl, ↓isi_bool_int, ↓isi_bool_str, ↓isi_bool_tup, ↓isi_bool_lst, ↓isi_bool_dic, ↓isi_str_non, ↓isi_str_bl, ↓isi_str_int, ↓isi_str_str, ↓isi_str_tup, ↓isi_str_lst, ↓isi_str_dic, ↓isi_tuple_non, ↓isi_tuple_bl, ↓isi_tuple_int, ↓isi_tuple_str, ↓isi_tuple_tup, ↓isi_tuple_lst, ↓isi_tuple_dic, ↓isi_list_non, ↓isi_list_bl, ↓isi_list_int, ↓isi_list_str, ↓isi_list_tup, ↓isi_list_lst, ↓isi_list_dic, ↓isi_dict_non, ↓isi_dict_bl, ↓isi_dict_int, ↓isi_dict_str, ↓isi_dict_tup, ↓isi_dict_lst, ↓isi_dict_dic, ↓ixt0, ↓ixt1, ↓ixt2, ↓ixt3, ↓ixt4, ↓ixt5, ↓ixt6, ↓ixt7, ↓ixt8, ↓ixl0, ↓ixl1, ↓ixl2, ↓ixl3, ↓ixl4, ↓ixl5, ↓ixl6, ↓ixl7, ↓ixl8, ↓FX.gp0, ↓FX.gp1, ↓FX.gp2, ↓FX.gp3, ↓FX.gp4, ↓FX.gp5, ↓FX.gp6, ↓FX.gp7, ↓FX.gp8, ↓FX.gp9, ↓FX.gp10, ↓FX.gp11, ↓FX.gp12, ↓FX.gp13, ↓FX.gp14, ↓FX.gp15, ↓FX.gp16, ↓FX.gp17, ↓FX.gp18, ↓FX.gp19, ↓FX.gp20, ↓FX.gp21, ↓FX.gp22, ↓FX.gp23, ↓FX.gp24, ↓FX.gp25, ↓FX.gp26, ↓FX.gp27, ↓FX.gp28, ↓FX.gp29, ↓FX.gp30, ↓FX.gp31, ↓FX.gp32, ↓FX.gp33, ↓FX.sp0, ↓FX.sp1, ↓FX.sp2, ↓FX.sp3, ↓FX.sp4, ↓FX.sp5, ↓FX.sp6, ↓FX.sp7, ↓FX.sp8, ↓FX.sp9, ↓FX.sp10, ↓FX.sp11, ↓FX.sp12, ↓FX.sp13, ↓FX.sp14, ↓FX.sp15, ↓FX.sp16, ↓FX.sp17, ↓FX.sp18, ↓FX.sp19, ↓FX.sp20, ↓FX.sp21, ↓FX.sp22, ↓FX.sp23, ↓FX.sp24, ↓FX.sp25, ↓FX.sp26, ↓FX.sp27, ↓FX.sp28, ↓FX.sp29, ↓FX.sp30, ↓FX.sp31, ↓FX.sp32, ↓FX.sp33, ↓FX.hp0, ↓FX.hp1, ↓FX.hp2, ↓FX.hp3, ↓FX.hp4, ↓FX.wp0, ↓FX.wp1, ↓FX.wp2, ↓FX.wp3, ↓FX.wp4, end_rt, end_nx, ↓tgQ_eq, Bool.not_true, Bool.not_false, and_self, and_true, true_and, List.nil_append]
    unfold tableD
    rfl
def prs (n : Nat) : List (Nat × Nat) := (List.range n).flatMap fun i => ((List.range n).filter fun j => !decide (j = i)).map fun j => (i, j)
def pairD (q : Nat × Nat) : D := .tup [.int q.1, .int q.2]
theorem prs_len (n : Nat) : (prs n).length ≤ n * n := by
  unfold prs
  rw [List.length_flatMap]
  have : ∀ (l : List Nat), (l.map fun i => (((List.range n).filter fun j => !decide (j = i)).map fun j => (i, j)).length).sum ≤ l.length * n := by
    intro l
    induction l with
    | nil => exact Nat.zero_le _
    | cons a l ih =>
      rw [List.map_cons, List.sum_cons, List.length_cons, Nat.add_mul]
      have := List.length_filter_le (fun j => !decide (j = a)) (List.range n)
      rw [List.length_range] at this
      rw [List.length_map]
      omega
  have := this (List.range n)
  rwa [List.length_range] at this
theorem flatMap_len (n : Nat) (l : List Nat) : (l.flatMap fun i => ((List.range n).filter fun j => !decide (j = i)).map fun j => (i, j)).length ≤ l.length * n := by
  induction l with
  | nil => exact Nat.zero_le _
  | cons a l ih =>
    rw [List.flatMap_cons, List.length_append, List.length_cons, Nat.add_mul, List.length_map]
    have := List.length_filter_le (fun j => !decide (j = a)) (List.range n)
    rw [List.length_range] at this
    omega
theorem unlike_pairs_ok (G : Txt K mg) {p : Int} {ls : List Line} (h : ls.length ≤ 8) : r_unlike_pairs G [hubD p ls] = .ret (.v (.lst ((prs ls.length).map pairD))) [] := by
  refine runP_of ⟨[.val (hubD p ls), .un, .un, .un, .un], []⟩ rfl ?_
  have e3 : (ls.map lineD).length = ls.length := List.length_map _
  unfold m_unlike_pairs
  generalize hn : ls.length = n at *
  simp -implicitDefEqProofs (disch := omega) only [↓wp_bnd, ↓wp_ret, ↓wp_vV, ↓wp_vB, ↓wp_vL, ↓wp_hix, ↓wp_b1, ↓wp_b2, ↓wp_ifM, ↓wp_notM, ↓wp_andM, ↓wp_orM, ↓wp_asB, ↓wp_asI, ↓wp_notV, ↓wp_andV, ↓wp_orV, ↓wp_sq0, ↓wp_sq, ↓wp_tupM, ↓wp_frz, ↓wp_chM, ↓wp_sqS, ↓wp_seV, ↓wp_seL, ↓wp_asM, ↓wp_paM, ↓wp_paM3, ↓wp_paR2, ↓wp_paR3, ↓wp_rvM, ↓wp_rlM, ↓rv_v, ↓rv_l, ↓wp_shM, ↓wp_apM, ↓wp_exM, ↓wp_siM, ↓wp_clV, ↓wp_clL, ↓wp_hdM, ↓wp_chV, ↓wp_chL, ↓wp_itM, ↓wp_itA, ↓wp_rg1M, ↓wp_rg2M, ↓wp_zpM, ↓wp_enM, ↓wp_isiM, ↓wp_someM, ↓wp_sl3, ↓wp_frM, ↓wp_lc, ↓wp_agM, ↓wipP1, ↓wipP2, ↓wipP3, ↓bacP1, ↓bacP2, ↓bacP3, ↓spK0, ↓spK1, ↓spK2, ↓foP_ret, ↓rdP_v, ↓rdP_l, ↓lsP_l, ↓blP_bl, ↓inP_int, ↓vlP_val, ↓vlP_own, ↓hdP_hnd, ↓sqP_lst, ↓sqP_tup, ↓sqP_scr, ↓saP_lst, ↓saP_tup, ↓saP_rng, ↓ctP_nx, ↓ctP_rt, ↓ctP_bk, ↓ctP_ct, ↓lpP_nx, ↓lpP_ct, ↓lpP_bk, ↓lpP_rt, ↓zpP_lst, ↓zpP_tup, ↓enP_lst, ↓exP_lst, ↓tgP_V, ↓tgP_T, ↓tgsP_nil, ↓tgsP_cons, ↓rgP_ok, ↓iteP_true, ↓iteP_false, ↓iteP_t, ↓iteP_f, ↓iteP_nt, ↓iteP_nf, ↓hhP_eq, ↓opP_some, ↓pAdd, ↓pSub, ↓pNeg, ↓pMulR, ↓pMulL, ↓pMod, ↓pDiv, ↓p1018, ↓pLt, ↓pLe, ↓pGt, ↓pGe, ↓pOpB, ↓pEq, ↓pNe, ↓pIs0, ↓pIs1, ↓pIs2, ↓pIs3, ↓pIs4, ↓pIn0, ↓pIn1, ↓pIn2, ↓pIn3, ↓pIn4, ↓pLen1, ↓pLen2, ↓pLen3, ↓pInt, ↓pAbs, ↓pTup1, ↓pTup2, ↓pLst1, ↓pLst2, ↓pLst3, ↓pRng, ↓pSl1, ↓pSl2, ↓pSl3, ↓isi_int_non, ↓isi_int_bl, ↓isi_int_int, ↓isi_int_str, ↓isi_int_tup, ↓isi_int_lst, ↓isi_int_dic, ↓isi_bool_non, ↓isi_bool_bl, ↓isi_bool_int, ↓isi_bool_str, ↓isi_bool_tup, ↓isi_bool_lst, ↓isi_bool_dic, ↓isi_str_non, ↓isi_str_bl, ↓isi_str_int, ↓isi_str_str, ↓isi_str_tup, ↓isi_str_lst, ↓isi_str_dic, ↓isi_tuple_non, ↓isi_tuple_bl, ↓isi_tuple_int, ↓isi_tuple_str, ↓isi_tuple_tup, ↓isi_tuple_lst, ↓isi_tuple_dic, ↓isi_list_non, ↓isi_list_bl, ↓isi_list_int, ↓isi_list_str, ↓isi_list_tup, ↓isi_list_lst, ↓isi_list_dic, ↓isi_dict_non, ↓isi_dict_bl, ↓isi_dict_int, ↓isi_dict_str, ↓isi_dict_tup, ↓isi_dict_lst, ↓isi_dict_dic, ↓ixt0, ↓ixt1, ↓ixt2, ↓ixt3, ↓ixt4, ↓ixt5, ↓ixt6, ↓ixt7, ↓ixt8, ↓ixl0, ↓ixl1, ↓ixl2, ↓ixl3, ↓ixl4, ↓ixl5, ↓ixl6, ↓ixl7, ↓ixl8, ↓FX.gp0, ↓FX.gp1, ↓FX.gp2, ↓FX.gp3, ↓FX.gp4, ↓FX.gp5, ↓FX.gp6, ↓FX.gp7, ↓FX.gp8, ↓FX.gp9, ↓FX.gp10, ↓FX.gp11, ↓FX.gp12, ↓FX.gp13, ↓FX.gp14, ↓FX.gp15, ↓FX.gp16, ↓FX.gp17, ↓FX.gp18, ↓FX.gp19, ↓FX.gp20, ↓FX.gp21, ↓FX.gp22, ↓FX.gp23, ↓FX.gp24, ↓FX.gp25, ↓FX.gp26, ↓FX.gp27, ↓FX.gp28, ↓FX.gp29, ↓FX.gp30, ↓FX.gp31, ↓FX.gp32, ↓FX.gp33, ↓FX.sp0, ↓FX.sp1, ↓FX.sp2, ↓FX.sp3, ↓FX.sp4, ↓FX.sp5, ↓FX.sp6, ↓FX.sp7, ↓FX.sp8, ↓FX.sp9, ↓FX.sp10, ↓FX.sp11, ↓FX.sp12, ↓FX.sp13, ↓FX.sp14, ↓FX.sp15, ↓FX.sp16, ↓FX.sp17, ↓FX.sp18, ↓FX.sp19, ↓FX.sp20, ↓FX.sp21, ↓FX.sp22, ↓FX.sp23, ↓FX.sp24, ↓FX.sp25, ↓FX.sp26, ↓FX.sp27, ↓FX.sp28, ↓FX.sp29, ↓FX.sp30, ↓FX.sp31, ↓FX.sp32, ↓FX.sp33, ↓FX.hp0, ↓FX.hp1, ↓FX.hp2, ↓FX.hp3, ↓FX.hp4, ↓FX.wp0, ↓FX.wp1, ↓FX.wp2, ↓FX.wp3, ↓FX.wp4, end_rt, end_nx, ↓tgQ_eq, Bool.not_true, Bool.not_false, and_self, and_true, true_and, ↓hx1, e3, Int.sub_zero, Int.toNat_natCast, rngD0]
  refine wp_frT (enc := fun i : Nat => D.int i) (fun k S => ∃ z, S = ⟨[.val (hubD p ls), .val (.rng 0 n), .val (.lst ((((List.range n).take k).flatMap fun i => ((List.range n).filter fun j => !decide (j = i)).map fun j => (i, j)).map pairD)), z, .un], []⟩) ⟨.un, by simp⟩ ?_ ?_
  · rintro S ⟨z, rfl⟩
    simp -implicitDefEqProofs (disch := omega) only [↓wp_bnd, ↓wp_ret, ↓wp_vV, ↓wp_vB, ↓wp_vL, ↓wp_hix, ↓wp_b1, ↓wp_b2, ↓wp_ifM, ↓wp_notM, ↓wp_andM, ↓wp_orM, ↓wp_asB, ↓wp_asI, ↓wp_notV, ↓wp_andV, ↓wp_orV, ↓wp_sq0, ↓wp_sq, ↓wp_tupM, ↓wp_frz, ↓wp_chM, ↓wp_sqS, ↓wp_seV, ↓wp_seL, ↓wp_asM, ↓wp_paM, ↓wp_paM3, ↓wp_paR2, ↓wp_paR3, ↓wp_rvM, ↓wp_rlM, ↓rv_v, ↓rv_l, ↓wp_shM, ↓wp_apM, ↓wp_exM, ↓wp_siM, ↓wp_clV, ↓wp_clL, ↓wp_hdM, ↓wp_chV, ↓wp_chL, ↓wp_itM, ↓wp_itA, ↓wp_rg1M, ↓wp_rg2M, ↓wp_zpM, ↓wp_enM, ↓wp_isiM, ↓wp_someM, ↓wp_sl3, ↓wp_frM, ↓wp_lc, ↓wp_agM, ↓wipP1, ↓wipP2, ↓wipP3, ↓bacP1, ↓bacP2, ↓bacP3, ↓spK0, ↓spK1, ↓spK2, ↓foP_ret, ↓rdP_v, ↓rdP_l, ↓lsP_l, ↓blP_bl, ↓inP_int, ↓vlP_val, ↓vlP_own, ↓hdP_hnd, ↓sqP_lst, ↓sqP_tup, ↓sqP_scr, ↓saP_lst, ↓saP_tup, ↓saP_rng, ↓ctP_nx, ↓ctP_rt, ↓ctP_bk, ↓ctP_ct, ↓lpP_nx, ↓lpP_ct, ↓lpP_bk, ↓lpP_rt, ↓zpP_lst, ↓zpP_tup, ↓enP_lst, ↓exP_lst, ↓tgP_V, ↓tgP_T, ↓tgsP_nil, ↓tgsP_cons, ↓rgP_ok, ↓iteP_true, ↓iteP_false, ↓iteP_t, ↓iteP_f, ↓iteP_nt, ↓iteP_nf, ↓hhP_eq, ↓opP_some, ↓pAdd, ↓pSub, ↓pNeg, ↓pMulR, ↓pMulL, ↓pMod, ↓pDiv, ↓p1018, ↓pLt, ↓pLe, ↓pGt, ↓pGe, ↓pOpB, ↓pEq, ↓pNe, ↓pIs0, ↓pIs1, ↓pIs2, ↓pIs3, ↓pIs4, ↓pIn0, ↓pIn1, ↓pIn2, ↓pIn3, ↓pIn4, ↓pLen1, ↓pLen2, ↓pLen3, ↓pInt, ↓pAbs, ↓pTup1, ↓pTup2, ↓pLst1, ↓pLst2, ↓pLst3, ↓pRng, ↓pSl1, ↓pSl2, ↓pSl3, ↓isi_int_non, ↓isi_int_bl, ↓isi_int_int, ↓isi_int_str, ↓isi_int_tup, ↓isi_int_lst, ↓isi_int_dic, ↓isi_bool_non, ↓isi_bool_bl, ↓isi_bool_int, ↓isi_bool_str, ↓isi_bool_tup, ↓isi_bool_lst, ↓isi_bool_dic, ↓isi_str_non, ↓isi_str_bl, ↓isi_str_int, ↓isi_str_str, ↓isi_str_tup, ↓isi_str_lst, ↓isi_str_dic, ↓isi_tuple_non, ↓isi_tuple_bl, ↓isi_tuple_int, ↓isi_tuple_str, ↓isi_tuple_tup, ↓isi_tuple_lst, ↓isi_tuple_dic, ↓isi_list_non, ↓isi_list_bl, ↓isi_list_int, ↓isi_list_str, ↓isi_list_tup, ↓isi_list_lst, ↓isi_list_dic, ↓isi_dict_non, ↓isi_dict_bl, ↓isi_dict_int, ↓isi_dict_str, ↓isi_dict_tup, ↓isi_dict_lst, ↓isi_dict_dic, ↓ixt0, ↓ixt1, ↓ixt2, ↓ixt3, ↓ixt4, ↓ixt5, ↓ixt6, ↓ixt7, ↓ixt8, ↓ixl0, ↓ixl1, ↓ixl2, ↓ixl3, ↓ixl4, ↓ixl5, ↓ixl6, ↓ixl7, ↓ixl8, ↓FX.gp0, ↓FX.gp1, ↓FX.gp2, ↓FX.gp3, ↓FX.gp4, ↓FX.gp5, ↓FX.gp6, ↓FX.gp7, ↓FX.gp8, ↓FX.gp9, ↓FX.gp10, ↓FX.gp11, ↓FX.gp12, ↓FX.gp13, ↓FX.gp14, ↓FX.gp15, ↓FX.gp16, ↓FX.gp17, ↓FX.gp18, ↓FX.gp19, ↓FX.gp20, ↓FX.gp21, ↓FX.gp22, ↓FX.gp23, ↓FX.gp24, ↓FX.gp25, ↓FX.gp26, ↓FX.gp27, ↓FX.gp28, ↓FX.gp29, ↓FX.gp30, ↓FX.gp31, ↓FX.gp32, ↓FX.gp33, ↓FX.sp0, ↓FX.sp1, ↓FX.sp2, ↓FX.sp3, ↓FX.sp4, ↓FX.sp5, ↓FX.sp6, ↓FX.sp7, ↓FX.sp8, ↓FX.sp9, ↓FX.sp10, ↓FX.sp11, ↓FX.sp12, ↓FX.sp13, ↓FX.sp14, ↓FX.sp15, ↓FX.sp16, ↓FX.sp17, ↓FX.sp18, ↓FX.sp19, ↓FX.sp20, ↓FX.sp21, ↓FX.sp22, ↓FX.sp23, ↓FX.sp24, ↓FX.sp25, ↓FX.sp26, ↓FX.sp27, ↓FX.sp28, ↓FX.sp29, ↓FX.sp30, ↓FX.sp31, ↓FX.sp32, ↓FX.sp33, ↓FX.hp0, ↓FX.hp1, ↓FX.hp2, ↓FX.hp3, ↓FX.hp4, ↓FX.wp0, ↓FX.wp1, ↓FX.wp2, ↓FX.wp3, ↓FX.wp4, end_rt, end_nx, ↓tgQ_eq, Bool.not_true, Bool.not_false, and_self, and_true, true_and, List.take_length]
    rfl
  · rintro i x S hx ⟨z, rfl⟩
    have hi : i < n := by
      have := (List.getElem?_eq_some_iff.mp hx).1
      rwa [List.length_range] at this
    rw [List.getElem?_range hi] at hx
    cases hx
    simp -implicitDefEqProofs (disch := omega) only [↓wp_bnd, ↓wp_ret, ↓wp_vV, ↓wp_vB, ↓wp_vL, ↓wp_hix, ↓wp_b1, ↓wp_b2, ↓wp_ifM, ↓wp_notM, ↓wp_andM, ↓wp_orM, ↓wp_asB, ↓wp_asI, ↓wp_notV, ↓wp_andV, ↓wp_orV, ↓wp_sq0, ↓wp_sq, ↓wp_tupM, ↓wp_frz, ↓wp_chM, ↓wp_sqS, ↓wp_seV, ↓wp_seL, ↓wp_asM, ↓wp_paM, ↓wp_paM3, ↓wp_paR2, ↓wp_paR3, ↓wp_rvM, ↓wp_rlM, ↓rv_v, ↓rv_l, ↓wp_shM, ↓wp_apM, ↓wp_exM, ↓wp_siM, ↓wp_clV, ↓wp_clL, ↓wp_hdM, ↓wp_chV, ↓wp_chL, ↓wp_itM, ↓wp_itA, ↓wp_rg1M, ↓wp_rg2M, ↓wp_zpM, ↓wp_enM, ↓wp_isiM, ↓wp_someM, ↓wp_sl3, ↓wp_frM, ↓wp_lc, ↓wp_agM, ↓wipP1, ↓wipP2, ↓wipP3, ↓bacP1, ↓bacP2, ↓bacP3, ↓spK0, ↓spK1, ↓spK2, ↓foP_ret, ↓rdP_v, ↓rdP_l, ↓lsP_l, ↓blP_bl, ↓inP_int, ↓vlP_val, ↓vlP_own, ↓hdP_hnd, ↓sqP_lst, ↓sqP_tup, ↓sqP_scr, ↓saP_lst, ↓saP_tup, ↓saP_rng, ↓ctP_nx, ↓ctP_rt, ↓ctP_bk, ↓ctP_ct, ↓lpP_nx, ↓lpP_ct, ↓lpP_bk, ↓lpP_rt, ↓zpP_lst, ↓zpP_tup, ↓enP_lst, ↓exP_lst, ↓tgP_V, ↓tgP_T, ↓tgsP_nil, ↓tgsP_cons, ↓rgP_ok, ↓iteP_true, ↓iteP_false, ↓iteP_t, ↓iteP_f, ↓iteP_nt, ↓iteP_nf, ↓hhP_eq, ↓opP_some, ↓pAdd, ↓pSub, ↓pNeg, ↓pMulR, ↓pMulL, ↓pMod, ↓pDiv, ↓p1018, ↓pLt, ↓pLe, ↓pGt, ↓pGe, ↓pOpB, ↓pEq, ↓pNe, ↓pIs0, ↓pIs1, ↓pIs2, ↓pIs3, ↓pIs4, ↓pIn0, ↓pIn1, ↓pIn2, ↓pIn3, ↓pIn4, ↓pLen1, ↓pLen2, ↓pLen3, ↓pInt, ↓pAbs, ↓pTup1, ↓pTup2, ↓pLst1, ↓pLst2, ↓pLst3, ↓pRng, ↓pSl1, ↓pSl2, ↓pSl3, ↓isi_int_non, ↓isi_int_bl, ↓isi_int_int, ↓isi_int_str, ↓isi_int_tup, ↓isi_int_lst, ↓isi_int_dic, ↓isi_bool_non, ↓isi_bool_bl, ↓isi_bool_int, ↓isi_bool_str, ↓isi_bool_tup, ↓isi_bool_lst, ↓isi_bool_dic, ↓isi_str_non, ↓isi_str_bl, ↓isi_str_int, ↓isi_str_str, ↓isi_str_tup, ↓isi_str_lst, ↓isi_str_dic, ↓isi_tuple_non, ↓isi_tuple_bl, ↓isi_tuple_int, ↓isi_tuple_str, ↓isi_tuple_tup, ↓isi_tuple_lst, ↓isi_tuple_dic, ↓isi_list_non, ↓isi_list_bl, ↓isi_list_int, ↓isi_list_str, ↓isi_list_tup, ↓isi_list_lst, ↓isi_list_dic, ↓isi_dict_non, ↓isi_dict_bl, ↓isi_dict_int, ↓isi_dict_str, ↓isi_dict_tup, ↓isi_dict_lst, ↓isi_dict_dic, ↓ixt0, ↓ixt1, ↓ixt2, ↓ixt3, ↓ixt4, ↓ixt5, ↓ixt6, ↓ixt7, ↓ixt8, ↓ixl0, ↓ixl1, ↓ixl2, ↓ixl3, ↓ixl4, ↓ixl5, ↓ixl6, ↓ixl7, ↓ixl8, ↓FX.gp0, ↓FX.gp1, ↓FX.gp2, ↓FX.gp3, ↓FX.gp4, ↓FX.gp5, ↓FX.gp6, ↓FX.gp7, ↓FX.gp8, ↓FX.gp9, ↓FX.gp10, ↓FX.gp11, ↓FX.gp12, ↓FX.gp13, ↓FX.gp14, ↓FX.gp15, ↓FX.gp16, ↓FX.gp17, ↓FX.gp18, ↓FX.gp19, ↓FX.gp20, ↓FX.gp21, ↓FX.gp22, ↓FX.gp23, ↓FX.gp24, ↓FX.gp25, ↓FX.gp26, ↓FX.gp27, ↓FX.gp28, ↓FX.gp29, ↓FX.gp30, ↓FX.gp31, ↓FX.gp32, ↓FX.gp33, ↓FX.sp0, ↓FX.sp1, ↓FX.sp2, ↓FX.sp3, ↓FX.sp4, ↓FX.sp5, ↓FX.sp6, ↓FX.sp7, ↓FX.sp8, ↓FX.sp9, ↓FX.sp10, ↓FX.sp11, ↓FX.sp12, ↓FX.sp13, ↓FX.sp14, ↓FX.sp15, ↓FX.sp16, ↓FX.sp17, ↓FX.sp18, ↓FX.sp19, ↓FX.sp20, ↓FX.sp21, ↓FX.sp22, ↓FX.sp23, ↓FX.sp24, ↓FX.sp25, ↓FX.sp26, ↓FX.sp27, ↓FX.sp28, ↓FX.sp29, ↓FX.sp30, ↓FX.sp31, ↓FX.sp32, ↓FX.sp33, ↓FX.hp0, ↓FX.hp1, ↓FX.hp2, ↓FX.hp3, ↓FX.hp4, ↓FX.wp0, ↓FX.wp1, ↓FX.wp2, ↓FX.wp3, ↓FX.wp4, end_rt, end_nx, ↓tgQ_eq, Bool.not_true, Bool.not_false, and_self, and_true, true_and, Int.sub_zero, Int.toNat_natCast, rngD0]
    refine ⟨by rw [List.length_map, List.length_range, sizeLine_eq]; omega, ?_⟩
    refine wp_lcT (enc := fun i : Nat => D.int i) (p := fun j => !decide (j = i)) (g := fun j => pairD (i, j)) (fun j hj => ?_) ?_
    · simp -implicitDefEqProofs (disch := omega) only [↓wp_bnd, ↓wp_ret, ↓wp_vV, ↓wp_vB, ↓wp_vL, ↓wp_hix, ↓wp_b1, ↓wp_b2, ↓wp_ifM, ↓wp_notM, ↓wp_andM, ↓wp_orM, ↓wp_asB, ↓wp_asI, ↓wp_notV, ↓wp_andV, ↓wp_orV, ↓wp_sq0, ↓wp_sq, ↓wp_tupM, ↓wp_frz, ↓wp_chM, ↓wp_sqS, ↓wp_seV, ↓wp_seL, ↓wp_asM, ↓wp_paM, ↓wp_paM3, ↓wp_paR2, ↓wp_paR3, ↓wp_rvM, ↓wp_rlM, ↓rv_v, ↓rv_l, ↓wp_shM, ↓wp_apM, ↓wp_exM, ↓wp_siM, ↓wp_clV, ↓wp_clL, ↓wp_hdM, ↓wp_chV, ↓wp_chL, ↓wp_itM, ↓wp_itA, ↓wp_rg1M, ↓wp_rg2M, ↓wp_zpM, ↓wp_enM, ↓wp_isiM, ↓wp_someM, ↓wp_sl3, ↓wp_frM, ↓wp_lc, ↓wp_agM, ↓wipP1, ↓wipP2, ↓wipP3, ↓bacP1, ↓bacP2, ↓bacP3, ↓spK0, ↓spK1, ↓spK2, ↓foP_ret, ↓rdP_v, ↓rdP_l, ↓lsP_l, ↓blP_bl, ↓inP_int, ↓vlP_val, ↓vlP_own, ↓hdP_hnd, ↓sqP_lst, ↓sqP_tup, ↓sqP_scr, ↓saP_lst, ↓saP_tup, ↓saP_rng, ↓ctP_nx, ↓ctP_rt, ↓ctP_bk, ↓ctP_ct, ↓lpP_nx, ↓lpP_ct, ↓lpP_bk, ↓lpP_rt, ↓zpP_lst, ↓zpP_tup, ↓enP_lst, ↓exP_lst, ↓tgP_V, ↓tgP_T, ↓tgsP_nil, ↓tgsP_cons, ↓rgP_ok, ↓iteP_true, ↓iteP_false, ↓iteP_t, ↓iteP_f, ↓iteP_nt, ↓iteP_nf, ↓hhP_eq, ↓opP_some, ↓pAdd, ↓pSub, ↓pNeg, ↓pMulR, ↓pMulL, ↓pMod, ↓pDiv, ↓p1018, ↓pLt, ↓pLe, ↓pGt, ↓pGe, ↓pOpB, ↓pEq, ↓pNe, ↓pIs0, ↓pIs1, ↓pIs2, ↓pIs3, ↓pIs4, ↓pIn0, ↓pIn1, ↓pIn2, ↓pIn3, ↓pIn4, ↓pLen1, ↓pLen2, ↓pLen3, ↓pInt, ↓pAbs, ↓pTup1, ↓pTup2, ↓pLst1, ↓pLst2, ↓pLst3, ↓pRng, ↓pSl1, ↓pSl2, ↓pSl3, ↓isi_int_non, ↓isi_int_bl, ↓isi_int_int, ↓isi_int_str, ↓isi_int_tup, ↓isi_int_lst, ↓isi_int_dic, ↓isi_bool_non, ↓isi_bool_bl, ↓isi_bool_int, ↓isi_bool_str, ↓isi_bool_tup, ↓isi_bool_lst, ↓isi_bool_dic, ↓isi_str_non, ↓isi_str_bl, ↓isi_str_int, ↓isi_str_str, ↓isi_str_tup, ↓isi_str_lst, ↓isi_str_dic, ↓isi_tuple_non, ↓isi_tuple_bl, ↓isi_tuple_int, ↓isi_tuple_str, ↓isi_tuple_tup, ↓isi_tuple_lst, ↓isi_tuple_dic, ↓isi_list_non, ↓isi_list_bl, ↓isi_list_int, ↓isi_list_str, ↓isi_list_tup, ↓isi_list_lst, ↓isi_list_dic, ↓isi_dict_non, ↓isi_dict_bl, ↓isi_dict_int, ↓isi_dict_str, ↓isi_dict_tup, ↓isi_dict_lst, ↓isi_dict_dic, ↓ixt0, ↓ixt1, ↓ixt2, ↓ixt3, ↓ixt4, ↓ixt5, ↓ixt6, ↓ixt7, ↓ixt8, ↓ixl0, ↓ixl1, ↓ixl2, ↓ixl3, ↓ixl4, ↓ixl5, ↓ixl6, ↓ixl7, ↓ixl8, ↓FX.gp0, ↓FX.gp1, ↓FX.gp2, ↓FX.gp3, ↓FX.gp4, ↓FX.gp5, ↓FX.gp6, ↓FX.gp7, ↓FX.gp8, ↓FX.gp9, ↓FX.gp10, ↓FX.gp11, ↓FX.gp12, ↓FX.gp13, ↓FX.gp14, ↓FX.gp15, ↓FX.gp16, ↓FX.gp17, ↓FX.gp18, ↓FX.gp19, ↓FX.gp20, ↓FX.gp21, ↓FX.gp22, ↓FX.gp23, ↓FX.gp24, ↓FX.gp25, ↓FX.gp26, ↓FX.gp27, ↓FX.gp28, ↓FX.gp29, ↓FX.gp30, ↓FX.gp31, ↓FX.gp32, ↓FX.gp33, ↓FX.sp0, ↓FX.sp1, ↓FX.sp2, ↓FX.sp3, ↓FX.sp4, ↓FX.sp5, ↓FX.sp6, ↓FX.sp7, ↓FX.sp8, ↓FX.sp9, ↓FX.sp10, ↓FX.sp11, ↓FX.sp12, ↓FX.sp13, ↓FX.sp14, ↓FX.sp15, ↓FX.sp16, ↓FX.sp17, ↓FX.sp18, ↓FX.sp19, ↓FX.sp20, ↓FX.sp21, ↓FX.sp22, ↓FX.sp23, ↓FX.sp24, ↓FX.sp25, ↓FX.sp26, ↓FX.sp27, ↓FX.sp28, ↓FX.sp29, ↓FX.sp30, ↓FX.sp31, ↓FX.sp32, ↓FX.sp33, ↓FX.hp0, ↓FX.hp1, ↓FX.hp2, ↓FX.hp3, ↓FX.hp4, ↓FX.wp0, ↓FX.wp1, ↓FX.wp2, ↓FX.wp3, ↓FX.wp4, end_rt, end_nx, ↓tgQ_eq, Bool.not_true, Bool.not_false, and_self, and_true, true_and]
      refine ⟨?_, fun _ => rfl⟩
      congr 1
      exact decide_eq_decide.mpr (by omega)
    · simp -implicitDefEqProofs (disch := omega) only [↓wp_bnd, ↓wp_ret, ↓wp_vV, ↓wp_vB, ↓wp_vL, ↓wp_hix, ↓wp_b1, ↓wp_b2, ↓wp_ifM, ↓wp_notM, ↓wp_andM, ↓wp_orM, ↓wp_asB, ↓wp_asI, ↓wp_notV, ↓wp_andV, ↓wp_orV, ↓wp_sq0, ↓wp_sq, ↓wp_tupM, ↓wp_frz, ↓wp_chM, ↓wp_sqS, ↓wp_seV, ↓wp_seL, ↓wp_asM, ↓wp_paM, ↓wp_paM3, ↓wp_paR2, ↓wp_paR3, ↓wp_rvM, ↓wp_rlM, ↓rv_v, ↓rv_l, ↓wp_shM, ↓wp_apM, ↓wp_exM, ↓wp_siM, ↓wp_clV, ↓wp_clL, ↓wp_hdM, ↓wp_chV, ↓wp_chL, ↓wp_itM, ↓wp_itA, ↓wp_rg1M, ↓wp_rg2M, ↓wp_zpM, ↓wp_enM, ↓wp_isiM, ↓wp_someM, ↓wp_sl3, ↓wp_frM, ↓wp_lc, ↓wp_agM, ↓wipP1, ↓wipP2, ↓wipP3, ↓bacP1, ↓bacP2, ↓bacP3, ↓spK0, ↓spK1, ↓spK2, ↓foP_ret, ↓rdP_v, ↓rdP_l, ↓lsP_l, ↓blP_bl, ↓inP_int, ↓vlP_val, ↓vlP_own, ↓hdP_hnd, ↓sqP_lst, ↓sqP_tup, ↓sqP_scr, ↓saP_lst, ↓saP_tup, ↓saP_rng, ↓ctP_nx, ↓ctP_rt, ↓ctP_bk, ↓ctP_ct, ↓lpP_nx, ↓lpP_ct, ↓lpP_bk, ↓lpP_rt, ↓zpP_lst, ↓zpP_tup, ↓enP_lst, ↓exP_lst, ↓tgP_V, ↓tgP_T, ↓tgsP_nil, ↓tgsP_cons, ↓rgP_ok, ↓iteP_true, ↓iteP_false, ↓iteP_t, ↓iteP_f, ↓iteP_nt, ↓iteP_nf, ↓hhP_eq, ↓opP_some, ↓pAdd, ↓pSub, ↓pNeg, ↓pMulR, ↓pMulL, ↓pMod, ↓pDiv, ↓p1018, ↓pLt, ↓pLe, ↓pGt, ↓pGe, ↓pOpB, ↓pEq, ↓pNe, ↓pIs0, ↓pIs1, ↓pIs2, ↓pIs3, ↓pIs4, ↓pIn0, ↓pIn1, ↓pIn2, ↓pIn3, ↓pIn4, ↓pLen1, ↓pLen2, ↓pLen3, ↓pInt, ↓pAbs, ↓pTup1, ↓pTup2, ↓pLst1, ↓pLst2, ↓pLst3, ↓pRng, ↓pSl1, ↓pSl2, ↓pSl3, ↓isi_int_non, ↓isi_int_bl, ↓isi_int_int, ↓isi_int_str, ↓isi_int_tup, ↓isi_int_lst, ↓isi_int_dic, ↓isi_bool_non, ↓isi_bool_bl, ↓isi_bool_int, ↓isi_bool_str, ↓isi_bool_tup, ↓isi_bool_lst, ↓isi_bool_dic, ↓isi_str_non, ↓isi_str_bl, ↓isi_str_int, ↓isi_str_str, ↓isi_str_tup, ↓isi_str_lst, ↓isi_str_dic, ↓isi_tuple_non, ↓isi_tuple_bl, ↓isi_tuple_int, ↓isi_tuple_str, ↓isi_tuple_tup, ↓isi_tuple_lst, ↓isi_tuple_dic, ↓isi_list_non, ↓isi_list_bl, ↓isi_list_int, ↓isi_list_str, ↓isi_list_tup, ↓isi_list_lst, ↓isi_list_dic, ↓isi_dict_non, ↓isi_dict_bl, ↓isi_dict_int, ↓isi_dict_str, ↓isi_dict_tup, ↓isi_dict_lst, ↓isi_dict_dic, ↓ixt0, ↓ixt1, ↓ixt2, ↓ixt3, ↓ixt4, ↓ixt5, ↓ixt6, ↓ixt7, ↓ixt8, ↓ixl0, ↓ixl1, ↓ixl2, ↓ixl3, ↓ixl4, ↓ixl5, ↓ixl6, ↓ixl7, ↓ixl8, ↓FX.gp0, ↓FX.gp1, ↓FX.gp2, ↓FX.gp3, ↓FX.gp4, ↓FX.gp5, ↓FX.gp6, ↓FX.gp7, ↓FX.gp8, ↓FX.gp9, ↓FX.gp10, ↓FX.gp11, ↓FX.gp12, ↓FX.gp13, ↓FX.gp14, ↓FX.gp15, ↓FX.gp16, ↓FX.gp17, ↓FX.gp18, ↓FX.gp19, ↓FX.gp20, ↓FX.gp21, ↓FX.gp22, ↓FX.gp23, ↓FX.gp24, ↓FX.gp25, ↓FX.gp26, ↓FX.gp27, ↓FX.gp28, ↓FX.gp29, ↓FX.gp30, ↓FX.gp31, ↓FX.gp32, ↓FX.gp33, ↓FX.sp0, ↓FX.sp1, ↓FX.sp2, ↓FX.sp3, ↓FX.sp4, ↓FX.sp5, ↓FX.sp6, ↓FX.sp7, ↓FX.sp8, ↓FX.sp9, ↓FX.sp10, ↓FX.sp11, ↓FX.sp12, ↓FX.sp13, ↓FX.sp14, ↓FX.sp15, ↓FX.sp16, ↓FX.sp17, ↓FX.sp18, ↓FX.sp19, ↓FX.sp20, ↓FX.sp21, ↓FX.sp22, ↓FX.sp23, ↓FX.sp24, ↓FX.sp25, ↓FX.sp26, ↓FX.sp27, ↓FX.sp28, ↓FX.sp29, ↓FX.sp30, ↓FX.sp31, ↓FX.sp32, ↓FX.sp33, ↓FX.hp0, ↓FX.hp1, ↓FX.hp2, ↓FX.hp3, ↓FX.hp4, ↓FX.wp0, ↓FX.wp1, ↓FX.wp2, ↓FX.wp3, ↓FX.wp4, end_rt, end_nx, ↓tgQ_eq, Bool.not_true, Bool.not_false, and_self, and_true, true_and, List.nil_append]
      have l1 := flatMap_len n ((List.range n).take i)
      rw [List.length_take, List.length_range] at l1
      have l2 := List.length_filter_le (fun j => !decide (j = i)) (List.range n)
      rw [List.length_range] at l2
      have l3 : min i n * n ≤ 8 * 8 := Nat.mul_le_mul (by omega) (by omega)
      rw [pAddL (by rw [List.length_map, List.length_map, sizeLine_eq]; omega)]
      refine ⟨.val (.int i), ?_⟩
      rw [List.take_add_one, List.getElem?_range hi, List.flatMap_append, List.map_append]
      simp only [Option.toList_some, List.flatMap_cons, List.flatMap_nil, List.append_nil, List.map_map]
      rfl

end
end FX.K71

set_option Elab.async false
set_option linter.all false
set_option maxRecDepth 100000
set_option maxHeartbeats 4000000
namespace FX.K71
open PySem PySem.Spec PyProof.Rows L2 LamX FX
section
variable {K : PySem.W.Frag} {mg : Str → Option Value}
/-! ### the greatest, the first -/
theorem mx_spec {xs : List Int} (h : xs ≠ []) : mx xs ∈ xs ∧ ∀ y ∈ xs, y ≤ mx xs := by
  cases xs with
  | nil => exact absurd rfl h
  | cons x r =>
    obtain ⟨h1, h2, h3⟩ := foldl_max_ge r x
    have e : mx (x :: r) = r.foldl max x := rfl
    rw [e]
    refine ⟨?_, fun y hy => ?_⟩
    · rcases h3 with h3 | h3
      · rw [h3]; exact List.mem_cons_self
      · exact List.mem_cons_of_mem _ h3
    · rcases List.mem_cons.mp hy with e | e
      · subst e; exact h1
      · exact h2 y e
theorem mn_spec {xs : List Int} (h : xs ≠ []) : mn xs ∈ xs ∧ ∀ y ∈ xs, mn xs ≤ y := by
  cases xs with
  | nil => exact absurd rfl h
  | cons x r =>
    obtain ⟨h1, h2, h3⟩ := foldl_min_le r x
    have e : mn (x :: r) = r.foldl min x := rfl
    rw [e]
    refine ⟨?_, fun y hy => ?_⟩
    · rcases h3 with h3 | h3
      · rw [h3]; exact List.mem_cons_self
      · exact List.mem_cons_of_mem _ h3
    · rcases List.mem_cons.mp hy with e | e
      · subst e; exact h1
      · exact h2 y e
theorem mn_eq {xs ys : List Int} (h : xs ≠ []) (e : ∀ z, z ∈ xs ↔ z ∈ ys) : mn xs = mn ys := by
  have hy : ys ≠ [] := fun z => by
    subst z
    obtain ⟨a, _⟩ := mn_spec h
    have := (e _).mp a
    cases this
  obtain ⟨a1, a2⟩ := mn_spec h
  obtain ⟨b1, b2⟩ := mn_spec hy
  have := a2 _ ((e _).mpr b1)
  have := b2 _ ((e _).mp a1)
  omega
section
variable {X : Type} (f : X → Int)
def stp (b : Option X) (q : X) : Option X := match b with
  | none => some q
  | some r => if f r < f q then some q else some r
def bst (l : List X) : Option X := l.foldl (stp f) none
theorem bst_from : ∀ (l : List X) (r : X), ∃ q, l.foldl (stp f) (some r) = some q ∧ q ∈ r :: l ∧ (∀ y ∈ r :: l, f y ≤ f q) ∧ (r :: l).find? (fun y => decide (f y = f q)) = some q
  | [], r => ⟨r, rfl, List.mem_cons_self, fun y hy => by rw [List.mem_singleton.mp hy]; exact Int.le_refl _, by simp⟩
  | s :: l, r => by
    rw [List.foldl_cons]
    show ∃ q, l.foldl (stp f) (if f r < f s then some s else some r) = some q ∧ _
    by_cases h : f r < f s
    · rw [if_pos h]
      obtain ⟨q, e1, e2, e3, e4⟩ := bst_from l s
      have hs := e3 s List.mem_cons_self
      refine ⟨q, e1, List.mem_cons_of_mem _ e2, fun y hy => ?_, ?_⟩
      · rcases List.mem_cons.mp hy with e | e
        · subst e; omega
        · exact e3 y e
      · rw [List.find?_cons_of_neg (by simp; omega)]; exact e4
    · rw [if_neg h]
      obtain ⟨q, e1, e2, e3, e4⟩ := bst_from l r
      have hr := e3 r List.mem_cons_self
      refine ⟨q, e1, ?_, fun y hy => ?_, ?_⟩
      · rcases List.mem_cons.mp e2 with e | e
        · subst e; exact List.mem_cons_self
        · exact List.mem_cons_of_mem _ (List.mem_cons_of_mem _ e)
      · rcases List.mem_cons.mp hy with e | e
        · subst e; exact hr
        · rcases List.mem_cons.mp e with e | e
          · subst e; omega
          · exact e3 y (List.mem_cons_of_mem _ e)
      · by_cases hq : f r = f q
        · rw [List.find?_cons_of_pos (by simpa using hq)] at e4 ⊢
          exact e4
        · rw [List.find?_cons_of_neg (by simpa using hq)] at e4 ⊢
          rw [List.find?_cons_of_neg (by simp; omega)]
          exact e4
theorem bst_is {l : List X} (h : l ≠ []) : ∃ q, bst f l = some q ∧ q ∈ l ∧ f q = mx (l.map f) ∧ (l.filter fun y => decide (f y = mx (l.map f))).head? = some q := by
  cases l with
  | nil => exact absurd rfl h
  | cons r l =>
    obtain ⟨q, e1, e2, e3, e4⟩ := bst_from f l r
    obtain ⟨m1, m2⟩ := mx_spec (xs := (r :: l).map f) (by simp)
    have e : f q = mx ((r :: l).map f) := by
      have h1 := m2 (f q) (List.mem_map_of_mem e2)
      obtain ⟨y, hy, hy2⟩ := List.mem_map.mp m1
      have h2 := e3 y hy
      omega
    refine ⟨q, e1, e2, e, ?_⟩
    rw [List.head?_filter, ← e]
    exact e4
end
def tripD (f : Nat × Nat → Int) (q : Nat × Nat) : D := .tup [.int (f q), .int q.1, .int q.2]
def bestD (f : Nat × Nat → Int) : Option (Nat × Nat) → D
  | none => .non
  | some q => tripD f q
/-- the greatest wait of a pair -/
def gw (p c : Int) (ls : List Line) (q : Nat × Nat) : Int := mx (WW p c 0 ls q.1 q.2)
theorem prs_mem {n : Nat} {q : Nat × Nat} (h : q ∈ prs n) : q.1 < n ∧ q.2 < n ∧ q.2 ≠ q.1 := by
  unfold prs at h
  obtain ⟨i, hi, h⟩ := List.mem_flatMap.mp h
  obtain ⟨j, hj, rfl⟩ := List.mem_map.mp h
  obtain ⟨h1, h2⟩ := List.mem_filter.mp hj
  exact ⟨List.mem_range.mp hi, List.mem_range.mp h1, by simpa using h2⟩
theorem WW_ne {p c y : Int} {ls : List Line} {i j : Nat} (h : Hub p ls) (hi : i < ls.length) : WW p c y ls i j ≠ [] := by
  have := (h.lots _ (List.mem_of_getElem? (ln_at hi))).1.ne
  unfold WW waitsI
  simpa using this
theorem isb0 {f : Nat × Nat → Int} {Q : Bool → Prop} : opP (isB (bestD f none) .non) Q = Q true := rfl
theorem isb1 {f : Nat × Nat → Int} {r : Nat × Nat} {Q : Bool → Prop} : opP (isB (bestD f (some r)) .non) Q = Q false := rfl
theorem ixb0 {f : Nat × Nat → Int} {r : Nat × Nat} {Q : D → Prop} : opP (ixD (bestD f (some r)) (.int 0)) Q = Q (.int (f r)) := rfl
theorem worst_change_ok (G : Txt K mg) {p c : Int} {ls : List Line} (h : Hub p ls) (h1 : 0 ≤ c) (h2 : c ≤ 100) : r_worst_change G [hubD p ls, .int c] = .ret (.v (bestD (gw p c ls) (bst (gw p c ls) (prs ls.length)))) [] := by
  refine runP_of ⟨[.val (hubD p ls), .val (.int c), .un, .un, .un, .un], []⟩ rfl ?_
  unfold m_worst_change
  simp -implicitDefEqProofs (disch := omega) only [↓wp_bnd, ↓wp_ret, ↓wp_vV, ↓wp_vB, ↓wp_vL, ↓wp_hix, ↓wp_b1, ↓wp_b2, ↓wp_ifM, ↓wp_notM, ↓wp_andM, ↓wp_orM, ↓wp_asB, ↓wp_asI, ↓wp_notV, ↓wp_andV, ↓wp_orV, ↓wp_sq0, ↓wp_sq, ↓wp_tupM, ↓wp_frz, ↓wp_chM, ↓wp_sqS, ↓wp_seV, ↓wp_seL, ↓wp_asM, ↓wp_paM, ↓wp_paM3, ↓wp_paR2, ↓wp_paR3, ↓wp_rvM, ↓wp_rlM, ↓rv_v, ↓rv_l, ↓wp_shM, ↓wp_apM, ↓wp_exM, ↓wp_siM, ↓wp_clV, ↓wp_clL, ↓wp_hdM, ↓wp_chV, ↓wp_chL, ↓wp_itM, ↓wp_itA, ↓wp_rg1M, ↓wp_rg2M, ↓wp_zpM, ↓wp_enM, ↓wp_isiM, ↓wp_someM, ↓wp_sl3, ↓wp_frM, ↓wp_lc, ↓wp_agM, ↓wipP1, ↓wipP2, ↓wipP3, ↓bacP1, ↓bacP2, ↓bacP3, ↓spK0, ↓spK1, ↓spK2, ↓foP_ret, ↓rdP_v, ↓rdP_l, ↓lsP_l, ↓blP_bl, ↓inP_int, ↓vlP_val, ↓vlP_own, ↓hdP_hnd, ↓sqP_lst, ↓sqP_tup, ↓sqP_scr, ↓saP_lst, ↓saP_tup, ↓saP_rng, ↓ctP_nx, ↓ctP_rt, ↓ctP_bk, ↓ctP_ct, ↓lpP_nx, ↓lpP_ct, ↓lpP_bk, ↓lpP_rt, ↓zpP_lst, ↓zpP_tup, ↓enP_lst, ↓exP_lst, ↓tgP_V, ↓tgP_T, ↓tgsP_nil, ↓tgsP_cons, ↓rgP_ok, ↓iteP_true, ↓iteP_false, ↓iteP_t, ↓iteP_f, ↓iteP_nt, ↓iteP_nf, ↓hhP_eq, ↓opP_some, ↓pAdd, ↓pSub, ↓pNeg, ↓pMulR, ↓pMulL, ↓pMod, ↓pDiv, ↓p1018, ↓pLt, ↓pLe, ↓pGt, ↓pGe, ↓pOpB, ↓pEq, ↓pNe, ↓pIs0, ↓pIs1, ↓pIs2, ↓pIs3, ↓pIs4, ↓pIn0, ↓pIn1, ↓pIn2, ↓pIn3, ↓pIn4, ↓pLen1, ↓pLen2, ↓pLen3, ↓pInt, ↓pAbs, ↓pTup1, ↓pTup2, ↓pLst1, ↓pLst2, ↓pLst3, ↓pRng, ↓pSl1, ↓pSl2, ↓pSl3, ↓isi_int_non, ↓isi_int_bl, ↓isi_int_int, ↓isi_int_str, ↓isi_int_tup, ↓isi_int_lst, ↓isi_int_dic, ↓isi_bool_non, ↓isi_bool_bl, ↓isi_bool_int, ↓isi_bool_str, ↓isi_bool_tup, ↓isi_bool_lst, ↓isi_bool_dic, ↓isi_str_non, ↓isi_str_bl, ↓isi_str_int, ↓isi_str_str, ↓isi_str_tup, ↓isi_str_lst, ↓isi_str_dic, ↓isi_tuple_non, ↓isi_tuple_bl, ↓isi_tuple_int, ↓isi_tuple_str, ↓isi_tuple_tup, ↓isi_tuple_lst, ↓isi_tuple_dic, ↓isi_list_non, ↓isi_list_bl, ↓isi_list_int, ↓isi_list_str, ↓isi_list_tup, ↓isi_list_lst, ↓isi_list_dic, ↓isi_dict_non, ↓isi_dict_bl, ↓isi_dict_int, ↓isi_dict_str, ↓isi_dict_tup, ↓isi_dict_lst, ↓isi_dict_dic, ↓ixt0, ↓ixt1, ↓ixt2, ↓ixt3, ↓ixt4, ↓ixt5, ↓ixt6, ↓ixt7, ↓ixt8, ↓ixl0, ↓ixl1, ↓ixl2, ↓ixl3, ↓ixl4, ↓ixl5, ↓ixl6, ↓ixl7, ↓ixl8, ↓FX.gp0, ↓FX.gp1, ↓FX.gp2, ↓FX.gp3, ↓FX.gp4, ↓FX.gp5, ↓FX.gp6, ↓FX.gp7, ↓FX.gp8, ↓FX.gp9, ↓FX.gp10, ↓FX.gp11, ↓FX.gp12, ↓FX.gp13, ↓FX.gp14, ↓FX.gp15, ↓FX.gp16, ↓FX.gp17, ↓FX.gp18, ↓FX.gp19, ↓FX.gp20, ↓FX.gp21, ↓FX.gp22, ↓FX.gp23, ↓FX.gp24, ↓FX.gp25, ↓FX.gp26, ↓FX.gp27, ↓FX.gp28, ↓FX.gp29, ↓FX.gp30, ↓FX.gp31, ↓FX.gp32, ↓FX.gp33, ↓FX.sp0, ↓FX.sp1, ↓FX.sp2, ↓FX.sp3, ↓FX.sp4, ↓FX.sp5, ↓FX.sp6, ↓FX.sp7, ↓FX.sp8, ↓FX.sp9, ↓FX.sp10, ↓FX.sp11, ↓FX.sp12, ↓FX.sp13, ↓FX.sp14, ↓FX.sp15, ↓FX.sp16, ↓FX.sp17, ↓FX.sp18, ↓FX.sp19, ↓FX.sp20, ↓FX.sp21, ↓FX.sp22, ↓FX.sp23, ↓FX.sp24, ↓FX.sp25, ↓FX.sp26, ↓FX.sp27, ↓FX.sp28, ↓FX.sp29, ↓FX.sp30, ↓FX.sp31, ↓FX.sp32, ↓FX.sp33, ↓FX.hp0, ↓FX.hp1, ↓FX.hp2, ↓FX.hp3, ↓FX.hp4, ↓FX.wp0, ↓FX.wp1, ↓FX.wp2, ↓FX.wp3, ↓FX.wp4, end_rt, end_nx, ↓tgQ_eq, Bool.not_true, Bool.not_false, and_self, and_true, true_and, ↓foP_of (check_hub_ok G h h1 h2), ↓foP_of (unlike_pairs_ok G (p := p) h.few)]
  refine wp_frT (enc := pairD) (fun k S => ∃ x y z, S = ⟨[.val (hubD p ls), .val (.int c), .val (bestD (gw p c ls) (((prs ls.length).take k).foldl (stp (gw p c ls)) none)), x, y, z], []⟩) ⟨.un, .un, .un, rfl⟩ ?_ ?_
  · rintro S ⟨x, y, z, rfl⟩
    simp -implicitDefEqProofs (disch := omega) only [↓wp_bnd, ↓wp_ret, ↓wp_vV, ↓wp_vB, ↓wp_vL, ↓wp_hix, ↓wp_b1, ↓wp_b2, ↓wp_ifM, ↓wp_notM, ↓wp_andM, ↓wp_orM, ↓wp_asB, ↓wp_asI, ↓wp_notV, ↓wp_andV, ↓wp_orV, ↓wp_sq0, ↓wp_sq, ↓wp_tupM, ↓wp_frz, ↓wp_chM, ↓wp_sqS, ↓wp_seV, ↓wp_seL, ↓wp_asM, ↓wp_paM, ↓wp_paM3, ↓wp_paR2, ↓wp_paR3, ↓wp_rvM, ↓wp_rlM, ↓rv_v, ↓rv_l, ↓wp_shM, ↓wp_apM, ↓wp_exM, ↓wp_siM, ↓wp_clV, ↓wp_clL, ↓wp_hdM, ↓wp_chV, ↓wp_chL, ↓wp_itM, ↓wp_itA, ↓wp_rg1M, ↓wp_rg2M, ↓wp_zpM, ↓wp_enM, ↓wp_isiM, ↓wp_someM, ↓wp_sl3, ↓wp_frM, ↓wp_lc, ↓wp_agM, ↓wipP1, ↓wipP2, ↓wipP3, ↓bacP1, ↓bacP2, ↓bacP3, ↓spK0, ↓spK1, ↓spK2, ↓foP_ret, ↓rdP_v, ↓rdP_l, ↓lsP_l, ↓blP_bl, ↓inP_int, ↓vlP_val, ↓vlP_own, ↓hdP_hnd, ↓sqP_lst, ↓sqP_tup, ↓sqP_scr, ↓saP_lst, ↓saP_tup, ↓saP_rng, ↓ctP_nx, ↓ctP_rt, ↓ctP_bk, ↓ctP_ct, ↓lpP_nx, ↓lpP_ct, ↓lpP_bk, ↓lpP_rt, ↓zpP_lst, ↓zpP_tup, ↓enP_lst, ↓exP_lst, ↓tgP_V, ↓tgP_T, ↓tgsP_nil, ↓tgsP_cons, ↓rgP_ok, ↓iteP_true, ↓iteP_false, ↓iteP_t, ↓iteP_f, ↓iteP_nt, ↓iteP_nf, ↓hhP_eq, ↓opP_some, ↓pAdd, ↓pSub, ↓pNeg, ↓pMulR, ↓pMulL, ↓pMod, ↓pDiv, ↓p1018, ↓pLt, ↓pLe, ↓pGt, ↓pGe, ↓pOpB, ↓pEq, ↓pNe, ↓pIs0, ↓pIs1, ↓pIs2, ↓pIs3, ↓pIs4, ↓pIn0, ↓pIn1, ↓pIn2, ↓pIn3, ↓pIn4, ↓pLen1, ↓pLen2, ↓pLen3, ↓pInt, ↓pAbs, ↓pTup1, ↓pTup2, ↓pLst1, ↓pLst2, ↓pLst3, ↓pRng, ↓pSl1, ↓pSl2, ↓pSl3, ↓isi_int_non, ↓isi_int_bl, ↓isi_int_int, ↓isi_int_str, ↓isi_int_tup, ↓isi_int_lst, ↓isi_int_dic, ↓isi_bool_non, ↓isi_bool_bl, ↓isi_bool_int, ↓isi_bool_str, ↓isi_bool_tup, ↓isi_bool_lst, ↓isi_bool_dic, ↓isi_str_non, ↓isi_str_bl, ↓isi_str_int, ↓isi_str_str, ↓isi_str_tup, ↓isi_str_lst, ↓isi_str_dic, ↓isi_tuple_non, ↓isi_tuple_bl, ↓isi_tuple_int, ↓isi_tuple_str, ↓isi_tuple_tup, ↓isi_tuple_lst, ↓isi_tuple_dic, ↓isi_list_non, ↓isi_list_bl, ↓isi_list_int, ↓isi_list_str, ↓isi_list_tup, ↓isi_list_lst, ↓isi_list_dic, ↓isi_dict_non, ↓isi_dict_bl, ↓isi_dict_int, ↓isi_dict_str, ↓isi_dict_tup, ↓isi_dict_lst, ↓isi_dict_dic, ↓ixt0, ↓ixt1, ↓ixt2, ↓ixt3, ↓ixt4, ↓ixt5, ↓ixt6, ↓ixt7, ↓ixt8, ↓ixl0, ↓ixl1, ↓ixl2, ↓ixl3, ↓ixl4, ↓ixl5, ↓ixl6, ↓ixl7, ↓ixl8, ↓FX.gp0, ↓FX.gp1, ↓FX.gp2, ↓FX.gp3, ↓FX.gp4, ↓FX.gp5, ↓FX.gp6, ↓FX.gp7, ↓FX.gp8, ↓FX.gp9, ↓FX.gp10, ↓FX.gp11, ↓FX.gp12, ↓FX.gp13, ↓FX.gp14, ↓FX.gp15, ↓FX.gp16, ↓FX.gp17, ↓FX.gp18, ↓FX.gp19, ↓FX.gp20, ↓FX.gp21, ↓FX.gp22, ↓FX.gp23, ↓FX.gp24, ↓FX.gp25, ↓FX.gp26, ↓FX.gp27, ↓FX.gp28, ↓FX.gp29, ↓FX.gp30, ↓FX.gp31, ↓FX.gp32, ↓FX.gp33, ↓FX.sp0, ↓FX.sp1, ↓FX.sp2, ↓FX.sp3, ↓FX.sp4, ↓FX.sp5, ↓FX.sp6, ↓FX.sp7, ↓FX.sp8, ↓FX.sp9, ↓FX.sp10, ↓FX.sp11, ↓FX.sp12, ↓FX.sp13, ↓FX.sp14, ↓FX.sp15, ↓FX.sp16, ↓FX.sp17, ↓FX.sp18, ↓FX.sp19, ↓FX.sp20, ↓FX.sp21, ↓FX.sp22, ↓FX.sp23, ↓FX.sp24, ↓FX.sp25, ↓FX.sp26, ↓FX.sp27, ↓FX.sp28, ↓FX.sp29, ↓FX.sp30, ↓FX.sp31, ↓FX.sp32, ↓FX.sp33, ↓FX.hp0, ↓FX.hp1, ↓FX.hp2, ↓FX.hp3, ↓FX.hp4, ↓FX.wp0, ↓FX.wp1, ↓FX.wp2, ↓FX.wp3, ↓FX.wp4, end_rt, end_nx, ↓tgQ_eq, Bool.not_true, Bool.not_false, and_self, and_true, true_and, List.take_length]
    rfl
  · rintro k q S hq ⟨x, y, z, rfl⟩
    obtain ⟨q1, q2, _⟩ := prs_mem (List.mem_of_getElem? hq)
    have hk := (List.getElem?_eq_some_iff.mp hq).1
    have hne : maxI (WW p c 0 ls q.1 q.2) = some (gw p c ls q) := maxI_ne (WW_ne h q1)
    unfold pairD
    simp -implicitDefEqProofs (disch := omega) only [↓wp_bnd, ↓wp_ret, ↓wp_vV, ↓wp_vB, ↓wp_vL, ↓wp_hix, ↓wp_b1, ↓wp_b2, ↓wp_ifM, ↓wp_notM, ↓wp_andM, ↓wp_orM, ↓wp_asB, ↓wp_asI, ↓wp_notV, ↓wp_andV, ↓wp_orV, ↓wp_sq0, ↓wp_sq, ↓wp_tupM, ↓wp_frz, ↓wp_chM, ↓wp_sqS, ↓wp_seV, ↓wp_seL, ↓wp_asM, ↓wp_paM, ↓wp_paM3, ↓wp_paR2, ↓wp_paR3, ↓wp_rvM, ↓wp_rlM, ↓rv_v, ↓rv_l, ↓wp_shM, ↓wp_apM, ↓wp_exM, ↓wp_siM, ↓wp_clV, ↓wp_clL, ↓wp_hdM, ↓wp_chV, ↓wp_chL, ↓wp_itM, ↓wp_itA, ↓wp_rg1M, ↓wp_rg2M, ↓wp_zpM, ↓wp_enM, ↓wp_isiM, ↓wp_someM, ↓wp_sl3, ↓wp_frM, ↓wp_lc, ↓wp_agM, ↓wipP1, ↓wipP2, ↓wipP3, ↓bacP1, ↓bacP2, ↓bacP3, ↓spK0, ↓spK1, ↓spK2, ↓foP_ret, ↓rdP_v, ↓rdP_l, ↓lsP_l, ↓blP_bl, ↓inP_int, ↓vlP_val, ↓vlP_own, ↓hdP_hnd, ↓sqP_lst, ↓sqP_tup, ↓sqP_scr, ↓saP_lst, ↓saP_tup, ↓saP_rng, ↓ctP_nx, ↓ctP_rt, ↓ctP_bk, ↓ctP_ct, ↓lpP_nx, ↓lpP_ct, ↓lpP_bk, ↓lpP_rt, ↓zpP_lst, ↓zpP_tup, ↓enP_lst, ↓exP_lst, ↓tgP_V, ↓tgP_T, ↓tgsP_nil, ↓tgsP_cons, ↓rgP_ok, ↓iteP_true, ↓iteP_false, ↓iteP_t, ↓iteP_f, ↓iteP_nt, ↓iteP_nf, ↓hhP_eq, ↓opP_some, ↓pAdd, ↓pSub, ↓pNeg, ↓pMulR, ↓pMulL, ↓pMod, ↓pDiv, ↓p1018, ↓pLt, ↓pLe, ↓pGt, ↓pGe, ↓pOpB, ↓pEq, ↓pNe, ↓pIs0, ↓pIs1, ↓pIs2, ↓pIs3, ↓pIs4, ↓pIn0, ↓pIn1, ↓pIn2, ↓pIn3, ↓pIn4, ↓pLen1, ↓pLen2, ↓pLen3, ↓pInt, ↓pAbs, ↓pTup1, ↓pTup2, ↓pLst1, ↓pLst2, ↓pLst3, ↓pRng, ↓pSl1, ↓pSl2, ↓pSl3, ↓isi_int_non, ↓isi_int_bl, ↓isi_int_int, ↓isi_int_str, ↓isi_int_tup, ↓isi_int_lst, ↓isi_int_dic, ↓isi_bool_non, ↓isi_bool_bl, ↓isi_bool_int, ↓isi_bool_str, ↓isi_bool_tup, ↓isi_bool_lst, ↓isi_bool_dic, ↓isi_str_non, ↓isi_str_bl, ↓isi_str_int, ↓isi_str_str, ↓isi_str_tup, ↓isi_str_lst, ↓isi_str_dic, ↓isi_tuple_non, ↓isi_tuple_bl, ↓isi_tuple_int, ↓isi_tuple_str, ↓isi_tuple_tup, ↓isi_tuple_lst, ↓isi_tuple_dic, ↓isi_list_non, ↓isi_list_bl, ↓isi_list_int, ↓isi_list_str, ↓isi_list_tup, ↓isi_list_lst, ↓isi_list_dic, ↓isi_dict_non, ↓isi_dict_bl, ↓isi_dict_int, ↓isi_dict_str, ↓isi_dict_tup, ↓isi_dict_lst, ↓isi_dict_dic, ↓ixt0, ↓ixt1, ↓ixt2, ↓ixt3, ↓ixt4, ↓ixt5, ↓ixt6, ↓ixt7, ↓ixt8, ↓ixl0, ↓ixl1, ↓ixl2, ↓ixl3, ↓ixl4, ↓ixl5, ↓ixl6, ↓ixl7, ↓ixl8, ↓FX.gp0, ↓FX.gp1, ↓FX.gp2, ↓FX.gp3, ↓FX.gp4, ↓FX.gp5, ↓FX.gp6, ↓FX.gp7, ↓FX.gp8, ↓FX.gp9, ↓FX.gp10, ↓FX.gp11, ↓FX.gp12, ↓FX.gp13, ↓FX.gp14, ↓FX.gp15, ↓FX.gp16, ↓FX.gp17, ↓FX.gp18, ↓FX.gp19, ↓FX.gp20, ↓FX.gp21, ↓FX.gp22, ↓FX.gp23, ↓FX.gp24, ↓FX.gp25, ↓FX.gp26, ↓FX.gp27, ↓FX.gp28, ↓FX.gp29, ↓FX.gp30, ↓FX.gp31, ↓FX.gp32, ↓FX.gp33, ↓FX.sp0, ↓FX.sp1, ↓FX.sp2, ↓FX.sp3, ↓FX.sp4, ↓FX.sp5, ↓FX.sp6, ↓FX.sp7, ↓FX.sp8, ↓FX.sp9, ↓FX.sp10, ↓FX.sp11, ↓FX.sp12, ↓FX.sp13, ↓FX.sp14, ↓FX.sp15, ↓FX.sp16, ↓FX.sp17, ↓FX.sp18, ↓FX.sp19, ↓FX.sp20, ↓FX.sp21, ↓FX.sp22, ↓FX.sp23, ↓FX.sp24, ↓FX.sp25, ↓FX.sp26, ↓FX.sp27, ↓FX.sp28, ↓FX.sp29, ↓FX.sp30, ↓FX.sp31, ↓FX.sp32, ↓FX.sp33, ↓FX.hp0, ↓FX.hp1, ↓FX.hp2, ↓FX.hp3, ↓FX.hp4, ↓FX.wp0, ↓FX.wp1, ↓FX.wp2, ↓FX.wp3, ↓FX.wp4, end_rt, end_nx, ↓tgQ_eq, Bool.not_true, Bool.not_false, and_self, and_true, true_and, ↓foP_of (waits_at G (c := c) 0 h q1 q2), ↓pMax, hne]
    rw [List.take_add_one, hq, Option.toList_some, List.foldl_append]
    generalize ((prs ls.length).take k).foldl (stp (gw p c ls)) none = b
    cases b with
    | none =>
      simp -implicitDefEqProofs (disch := omega) only [↓wp_bnd, ↓wp_ret, ↓wp_vV, ↓wp_vB, ↓wp_vL, ↓wp_hix, ↓wp_b1, ↓wp_b2, ↓wp_ifM, ↓wp_notM, ↓wp_andM, ↓wp_orM, ↓wp_asB, ↓wp_asI, ↓wp_notV, ↓wp_andV, ↓wp_orV, ↓wp_sq0, ↓wp_sq, ↓wp_tupM, ↓wp_frz, ↓wp_chM, ↓wp_sqS, ↓wp_seV, ↓wp_seL, ↓wp_asM, ↓wp_paM, ↓wp_paM3, ↓wp_paR2, ↓wp_paR3, ↓wp_rvM, ↓wp_rlM, ↓rv_v, ↓rv_l, ↓wp_shM, ↓wp_apM, ↓wp_exM, ↓wp_siM, ↓wp_clV, ↓wp_clL, ↓wp_hdM, ↓wp_chV, ↓wp_chL, ↓wp_itM, ↓wp_itA, ↓wp_rg1M, ↓wp_rg2M, ↓wp_zpM, ↓wp_enM, ↓wp_isiM, ↓wp_someM, ↓wp_sl3, ↓wp_frM, ↓wp_lc, ↓wp_agM, ↓wipP1, ↓wipP2, ↓wipP3, ↓bacP1, ↓bacP2, ↓bacP3, ↓spK0, ↓spK1, ↓spK2, ↓foP_ret, ↓rdP_v, ↓rdP_l, ↓lsP_l, ↓blP_bl, ↓inP_int, ↓vlP_val, ↓vlP_own, ↓hdP_hnd, ↓sqP_lst, ↓sqP_tup, ↓sqP_scr, ↓saP_lst, ↓saP_tup, ↓saP_rng, ↓ctP_nx, ↓ctP_rt, ↓ctP_bk, ↓ctP_ct, ↓lpP_nx, ↓lpP_ct, ↓lpP_bk, ↓lpP_rt, ↓zpP_lst, ↓zpP_tup, ↓enP_lst, ↓exP_lst, ↓tgP_V, ↓tgP_T, ↓tgsP_nil, ↓tgsP_cons, ↓rgP_ok, ↓iteP_true, ↓iteP_false, ↓iteP_t, ↓iteP_f, ↓iteP_nt, ↓iteP_nf, ↓hhP_eq, ↓opP_some, ↓pAdd, ↓pSub, ↓pNeg, ↓pMulR, ↓pMulL, ↓pMod, ↓pDiv, ↓p1018, ↓pLt, ↓pLe, ↓pGt, ↓pGe, ↓pOpB, ↓pEq, ↓pNe, ↓pIs0, ↓pIs1, ↓pIs2, ↓pIs3, ↓pIs4, ↓pIn0, ↓pIn1, ↓pIn2, ↓pIn3, ↓pIn4, ↓pLen1, ↓pLen2, ↓pLen3, ↓pInt, ↓pAbs, ↓pTup1, ↓pTup2, ↓pLst1, ↓pLst2, ↓pLst3, ↓pRng, ↓pSl1, ↓pSl2, ↓pSl3, ↓isi_int_non, ↓isi_int_bl, ↓isi_int_int, ↓isi_int_str, ↓isi_int_tup, ↓isi_int_lst, ↓isi_int_dic, ↓isi_bool_non, ↓isi_bool_bl, ↓isi_bool_int, ↓isi_bool_str, ↓isi_bool_tup, ↓isi_bool_lst, ↓isi_bool_dic, ↓isi_str_non, ↓isi_str_bl, ↓isi_str_int, ↓isi_str_str, ↓isi_str_tup, ↓isi_str_lst, ↓isi_str_dic, ↓isi_tuple_non, ↓isi_tuple_bl, ↓isi_tuple_int, ↓isi_tuple_str, ↓isi_tuple_tup, ↓isi_tuple_lst, ↓isi_tuple_dic, ↓isi_list_non, ↓isi_list_bl, ↓isi_list_int, ↓isi_list_str, ↓isi_list_tup, ↓isi_list_lst, ↓isi_list_dic, ↓isi_dict_non, ↓isi_dict_bl, ↓isi_dict_int, ↓isi_dict_str, ↓isi_dict_tup, ↓isi_dict_lst, ↓isi_dict_dic, ↓ixt0, ↓ixt1, ↓ixt2, ↓ixt3, ↓ixt4, ↓ixt5, ↓ixt6, ↓ixt7, ↓ixt8, ↓ixl0, ↓ixl1, ↓ixl2, ↓ixl3, ↓ixl4, ↓ixl5, ↓ixl6, ↓ixl7, ↓ixl8, ↓FX.gp0, ↓FX.gp1, ↓FX.gp2, ↓FX.gp3, ↓FX.gp4, ↓FX.gp5, ↓FX.gp6, ↓FX.gp7, ↓FX.gp8, ↓FX.gp9, ↓FX.gp10, ↓FX.gp11, ↓FX.gp12, ↓FX.gp13, ↓FX.gp14, ↓FX.gp15, ↓FX.gp16, ↓FX.gp17, ↓FX.gp18, ↓FX.gp19, ↓FX.gp20, ↓FX.gp21, ↓FX.gp22, ↓FX.gp23, ↓FX.gp24, ↓FX.gp25, ↓FX.gp26, ↓FX.gp27, ↓FX.gp28, ↓FX.gp29, ↓FX.gp30, ↓FX.gp31, ↓FX.gp32, ↓FX.gp33, ↓FX.sp0, ↓FX.sp1, ↓FX.sp2, ↓FX.sp3, ↓FX.sp4, ↓FX.sp5, ↓FX.sp6, ↓FX.sp7, ↓FX.sp8, ↓FX.sp9, ↓FX.sp10, ↓FX.sp11, ↓FX.sp12, ↓FX.sp13, ↓FX.sp14, ↓FX.sp15, ↓FX.sp16, ↓FX.sp17, ↓FX.sp18, ↓FX.sp19, ↓FX.sp20, ↓FX.sp21, ↓FX.sp22, ↓FX.sp23, ↓FX.sp24, ↓FX.sp25, ↓FX.sp26, ↓FX.sp27, ↓FX.sp28, ↓FX.sp29, ↓FX.sp30, ↓FX.sp31, ↓FX.sp32, ↓FX.sp33, ↓FX.hp0, ↓FX.hp1, ↓FX.hp2, ↓FX.hp3, ↓FX.hp4, ↓FX.wp0, ↓FX.wp1, ↓FX.wp2, ↓FX.wp3, ↓FX.wp4, end_rt, end_nx, ↓tgQ_eq, Bool.not_true, Bool.not_false, and_self, and_true, true_and, ↓isb0]
      exact ⟨.val (.int q.1), .val (.int q.2), .val (.int (gw p c ls q)), rfl⟩
    | some r =>
      simp -implicitDefEqProofs (disch := omega) only [↓wp_bnd, ↓wp_ret, ↓wp_vV, ↓wp_vB, ↓wp_vL, ↓wp_hix, ↓wp_b1, ↓wp_b2, ↓wp_ifM, ↓wp_notM, ↓wp_andM, ↓wp_orM, ↓wp_asB, ↓wp_asI, ↓wp_notV, ↓wp_andV, ↓wp_orV, ↓wp_sq0, ↓wp_sq, ↓wp_tupM, ↓wp_frz, ↓wp_chM, ↓wp_sqS, ↓wp_seV, ↓wp_seL, ↓wp_asM, ↓wp_paM, ↓wp_paM3, ↓wp_paR2, ↓wp_paR3, ↓wp_rvM, ↓wp_rlM, ↓rv_v, ↓rv_l, ↓wp_shM, ↓wp_apM, ↓wp_exM, ↓wp_siM, ↓wp_clV, ↓wp_clL, ↓wp_hdM, ↓wp_chV, ↓wp_chL, ↓wp_itM, ↓wp_itA, ↓wp_rg1M, ↓wp_rg2M, ↓wp_zpM, ↓wp_enM, ↓wp_isiM, ↓wp_someM, ↓wp_sl3, ↓wp_frM, ↓wp_lc, ↓wp_agM, ↓wipP1, ↓wipP2, ↓wipP3, ↓bacP1, ↓bacP2, ↓bacP3, ↓spK0, ↓spK1, ↓spK2, ↓foP_ret, ↓rdP_v, ↓rdP_l, ↓lsP_l, ↓blP_bl, ↓inP_int, ↓vlP_val, ↓vlP_own, ↓hdP_hnd, ↓sqP_lst, ↓sqP_tup, ↓sqP_scr, ↓saP_lst, ↓saP_tup, ↓saP_rng, ↓ctP_nx, ↓ctP_rt, ↓ctP_bk, ↓ctP_ct, ↓lpP_nx, ↓lpP_ct, ↓lpP_bk, ↓lpP_rt, ↓zpP_lst, ↓zpP_tup, ↓enP_lst, ↓exP_lst, ↓tgP_V, ↓tgP_T, ↓tgsP_nil, ↓tgsP_cons, ↓rgP_ok, ↓iteP_true, ↓iteP_false, ↓iteP_t, ↓iteP_f, ↓iteP_nt, ↓iteP_nf, ↓hhP_eq, ↓opP_some, ↓pAdd, ↓pSub, ↓pNeg, ↓pMulR, ↓pMulL, ↓pMod, ↓pDiv, ↓p1018, ↓pLt, ↓pLe, ↓pGt, ↓pGe, ↓pOpB, ↓pEq, ↓pNe, ↓pIs0, ↓pIs1, ↓pIs2, ↓pIs3, ↓pIs4, ↓pIn0, ↓pIn1, ↓pIn2, ↓pIn3, ↓pIn4, ↓pLen1, ↓pLen2, ↓pLen3, ↓pInt, ↓pAbs, ↓pTup1, ↓pTup2, ↓pLst1, ↓pLst2, ↓pLst3, ↓pRng, ↓pSl1, ↓pSl2, ↓pSl3, ↓isi_int_non, ↓isi_int_bl, ↓isi_int_int, ↓isi_int_str, ↓isi_int_tup, ↓isi_int_lst, ↓isi_int_dic, ↓isi_bool_non, ↓isi_bool_bl, ↓isi_bool_int, ↓isi_bool_str, ↓isi_bool_tup, ↓isi_bool_lst, ↓isi_bool_dic, ↓isi_str_non, ↓isi_str_bl, ↓isi_str_int, ↓isi_str_str, ↓isi_str_tup, ↓isi_str_lst, ↓isi_str_dic, ↓isi_tuple_non, ↓isi_tuple_bl, ↓isi_tuple_int, ↓isi_tuple_str, ↓isi_tuple_tup, ↓isi_tuple_lst, ↓isi_tuple_dic, ↓isi_list_non, ↓isi_list_bl, ↓isi_list_int, ↓isi_list_str, ↓isi_list_tup, ↓isi_list_lst, ↓isi_list_dic, ↓isi_dict_non, ↓isi_dict_bl, ↓isi_dict_int, ↓isi_dict_str, ↓isi_dict_tup, ↓isi_dict_lst, ↓isi_dict_dic, ↓ixt0, ↓ixt1, ↓ixt2, ↓ixt3, ↓ixt4, ↓ixt5, ↓ixt6, ↓ixt7, ↓ixt8, ↓ixl0, ↓ixl1, ↓ixl2, ↓ixl3, ↓ixl4, ↓ixl5, ↓ixl6, ↓ixl7, ↓ixl8, ↓FX.gp0, ↓FX.gp1, ↓FX.gp2, ↓FX.gp3, ↓FX.gp4, ↓FX.gp5, ↓FX.gp6, ↓FX.gp7, ↓FX.gp8, ↓FX.gp9, ↓FX.gp10, ↓FX.gp11, ↓FX.gp12, ↓FX.gp13, ↓FX.gp14, ↓FX.gp15, ↓FX.gp16, ↓FX.gp17, ↓FX.gp18, ↓FX.gp19, ↓FX.gp20, ↓FX.gp21, ↓FX.gp22, ↓FX.gp23, ↓FX.gp24, ↓FX.gp25, ↓FX.gp26, ↓FX.gp27, ↓FX.gp28, ↓FX.gp29, ↓FX.gp30, ↓FX.gp31, ↓FX.gp32, ↓FX.gp33, ↓FX.sp0, ↓FX.sp1, ↓FX.sp2, ↓FX.sp3, ↓FX.sp4, ↓FX.sp5, ↓FX.sp6, ↓FX.sp7, ↓FX.sp8, ↓FX.sp9, ↓FX.sp10, ↓FX.sp11, ↓FX.sp12, ↓FX.sp13, ↓FX.sp14, ↓FX.sp15, ↓FX.sp16, ↓FX.sp17, ↓FX.sp18, ↓FX.sp19, ↓FX.sp20, ↓FX.sp21, ↓FX.sp22, ↓FX.sp23, ↓FX.sp24, ↓FX.sp25, ↓FX.sp26, ↓FX.sp27, ↓FX.sp28, ↓FX.sp29, ↓FX.sp30, ↓FX.sp31, ↓FX.sp32, ↓FX.sp33, ↓FX.hp0, ↓FX.hp1, ↓FX.hp2, ↓FX.hp3, ↓FX.hp4, ↓FX.wp0, ↓FX.wp1, ↓FX.wp2, ↓FX.wp3, ↓FX.wp4, end_rt, end_nx, ↓tgQ_eq, Bool.not_true, Bool.not_false, and_self, and_true, true_and, ↓isb1, ↓ixb0]
      have e : [q].foldl (stp (gw p c ls)) (some r) = if gw p c ls r < gw p c ls q then some q else some r := rfl
      rw [e]
      refine iteP_dec (fun hlt => ⟨.val (.int q.1), .val (.int q.2), .val (.int (gw p c ls q)), ?_⟩) fun hlt => ⟨.val (.int q.1), .val (.int q.2), .val (.int (gw p c ls q)), ?_⟩
      · rw [if_pos hlt]; rfl
      · rw [if_neg hlt]
theorem check_from_ok (G : Txt K mg) {i a : Int} (h : a ≤ i) : r_check_from G [.int i, .int a] = .ret (.v .non) [] := by
  refine runP_of ⟨[.val (.int i), .val (.int a)], []⟩ rfl ?_
  unfold m_check_from
  simp -implicitDefEqProofs (disch := omega) only [↓wp_bnd, ↓wp_ret, ↓wp_vV, ↓wp_vB, ↓wp_vL, ↓wp_hix, ↓wp_b1, ↓wp_b2, ↓wp_ifM, ↓wp_notM, ↓wp_andM, ↓wp_orM, ↓wp_asB, ↓wp_asI, ↓wp_notV, ↓wp_andV, ↓wp_orV, ↓wp_sq0, ↓wp_sq, ↓wp_tupM, ↓wp_frz, ↓wp_chM, ↓wp_sqS, ↓wp_seV, ↓wp_seL, ↓wp_asM, ↓wp_paM, ↓wp_paM3, ↓wp_paR2, ↓wp_paR3, ↓wp_rvM, ↓wp_rlM, ↓rv_v, ↓rv_l, ↓wp_shM, ↓wp_apM, ↓wp_exM, ↓wp_siM, ↓wp_clV, ↓wp_clL, ↓wp_hdM, ↓wp_chV, ↓wp_chL, ↓wp_itM, ↓wp_itA, ↓wp_rg1M, ↓wp_rg2M, ↓wp_zpM, ↓wp_enM, ↓wp_isiM, ↓wp_someM, ↓wp_sl3, ↓wp_frM, ↓wp_lc, ↓wp_agM, ↓wipP1, ↓wipP2, ↓wipP3, ↓bacP1, ↓bacP2, ↓bacP3, ↓spK0, ↓spK1, ↓spK2, ↓foP_ret, ↓rdP_v, ↓rdP_l, ↓lsP_l, ↓blP_bl, ↓inP_int, ↓vlP_val, ↓vlP_own, ↓hdP_hnd, ↓sqP_lst, ↓sqP_tup, ↓sqP_scr, ↓saP_lst, ↓saP_tup, ↓saP_rng, ↓ctP_nx, ↓ctP_rt, ↓ctP_bk, ↓ctP_ct, ↓lpP_nx, ↓lpP_ct, ↓lpP_bk, ↓lpP_rt, ↓zpP_lst, ↓zpP_tup, ↓enP_lst, ↓exP_lst, ↓tgP_V, ↓tgP_T, ↓tgsP_nil, ↓tgsP_cons, ↓rgP_ok, ↓iteP_true, ↓iteP_false, ↓iteP_t, ↓iteP_f, ↓iteP_nt, ↓iteP_nf, ↓hhP_eq, ↓opP_some, ↓pAdd, ↓pSub, ↓pNeg, ↓pMulR, ↓pMulL, ↓pMod, ↓pDiv, ↓p1018, ↓pLt, ↓pLe, ↓pGt, ↓pGe, ↓pOpB, ↓pEq, ↓pNe, ↓pIs0, ↓pIs1, ↓pIs2, ↓pIs3, ↓pIs4, ↓pIn0, ↓pIn1, ↓pIn2, ↓pIn3, ↓pIn4, ↓pLen1, ↓pLen2, ↓pLen3, ↓pInt, ↓pAbs, ↓pTup1, ↓pTup2, ↓pLst1, ↓pLst2, ↓pLst3, ↓pRng, ↓pSl1, ↓pSl2, ↓pSl3, ↓isi_int_non, ↓isi_int_bl, ↓isi_int_int, ↓isi_int_str, ↓isi_int_tup, ↓isi_int_lst, ↓isi_int_dic, ↓isi_bool_non, ↓isi_bool_bl, ↓isi_bool_int, ↓isi_bool_str, ↓isi_bool_tup, ↓isi_bool_lst, ↓isi_bool_dic, ↓isi_str_non, ↓isi_str_bl, ↓isi_str_int, ↓isi_str_str, ↓isi_str_tup, ↓isi_str_lst, ↓isi_str_dic, ↓isi_tuple_non, ↓isi_tuple_bl, ↓isi_tuple_int, ↓isi_tuple_str, ↓isi_tuple_tup, ↓isi_tuple_lst, ↓isi_tuple_dic, ↓isi_list_non, ↓isi_list_bl, ↓isi_list_int, ↓isi_list_str, ↓isi_list_tup, ↓isi_list_lst, ↓isi_list_dic, ↓isi_dict_non, ↓isi_dict_bl, ↓isi_dict_int, ↓isi_dict_str, ↓isi_dict_tup, ↓isi_dict_lst, ↓isi_dict_dic, ↓ixt0, ↓ixt1, ↓ixt2, ↓ixt3, ↓ixt4, ↓ixt5, ↓ixt6, ↓ixt7, ↓ixt8, ↓ixl0, ↓ixl1, ↓ixl2, ↓ixl3, ↓ixl4, ↓ixl5, ↓ixl6, ↓ixl7, ↓ixl8, ↓FX.gp0, ↓FX.gp1, ↓FX.gp2, ↓FX.gp3, ↓FX.gp4, ↓FX.gp5, ↓FX.gp6, ↓FX.gp7, ↓FX.gp8, ↓FX.gp9, ↓FX.gp10, ↓FX.gp11, ↓FX.gp12, ↓FX.gp13, ↓FX.gp14, ↓FX.gp15, ↓FX.gp16, ↓FX.gp17, ↓FX.gp18, ↓FX.gp19, ↓FX.gp20, ↓FX.gp21, ↓FX.gp22, ↓FX.gp23, ↓FX.gp24, ↓FX.gp25, ↓FX.gp26, ↓FX.gp27, ↓FX.gp28, ↓FX.gp29, ↓FX.gp30, ↓FX.gp31, ↓FX.gp32, ↓FX.gp33, ↓FX.sp0, ↓FX.sp1, ↓FX.sp2, ↓FX.sp3, ↓FX.sp4, ↓FX.sp5, ↓FX.sp6, ↓FX.sp7, ↓FX.sp8, ↓FX.sp9, ↓FX.sp10, ↓FX.sp11, ↓FX.sp12, ↓FX.sp13, ↓FX.sp14, ↓FX.sp15, ↓FX.sp16, ↓FX.sp17, ↓FX.sp18, ↓FX.sp19, ↓FX.sp20, ↓FX.sp21, ↓FX.sp22, ↓FX.sp23, ↓FX.sp24, ↓FX.sp25, ↓FX.sp26, ↓FX.sp27, ↓FX.sp28, ↓FX.sp29, ↓FX.sp30, ↓FX.sp31, ↓FX.sp32, ↓FX.sp33, ↓FX.hp0, ↓FX.hp1, ↓FX.hp2, ↓FX.hp3, ↓FX.hp4, ↓FX.wp0, ↓FX.wp1, ↓FX.wp2, ↓FX.wp3, ↓FX.wp4, end_rt, end_nx, ↓tgQ_eq, Bool.not_true, Bool.not_false, and_self, and_true, true_and, ↓foP_of (is_int_ok G i)]
theorem kept_changes_ok (G : Txt K mg) {p c t : Int} {ls : List Line} (h : Hub p ls) (h1 : 0 ≤ c) (h2 : c ≤ 100) (ht : 0 ≤ t) :
    r_kept_changes G [hubD p ls, .int c, .int t] = .ret (.v (.lst (((prs ls.length).filter fun q => decide (gw p c ls q ≤ t)).map pairD))) [] := by
  refine runP_of ⟨[.val (hubD p ls), .val (.int c), .val (.int t), .un], []⟩ rfl ?_
  unfold m_kept_changes
  have hf := h.few
  have hl := prs_len ls.length
  have l3 : ls.length * ls.length ≤ 8 * 8 := Nat.mul_le_mul (by omega) (by omega)
  simp -implicitDefEqProofs (disch := omega) only [↓wp_bnd, ↓wp_ret, ↓wp_vV, ↓wp_vB, ↓wp_vL, ↓wp_hix, ↓wp_b1, ↓wp_b2, ↓wp_ifM, ↓wp_notM, ↓wp_andM, ↓wp_orM, ↓wp_asB, ↓wp_asI, ↓wp_notV, ↓wp_andV, ↓wp_orV, ↓wp_sq0, ↓wp_sq, ↓wp_tupM, ↓wp_frz, ↓wp_chM, ↓wp_sqS, ↓wp_seV, ↓wp_seL, ↓wp_asM, ↓wp_paM, ↓wp_paM3, ↓wp_paR2, ↓wp_paR3, ↓wp_rvM, ↓wp_rlM, ↓rv_v, ↓rv_l, ↓wp_shM, ↓wp_apM, ↓wp_exM, ↓wp_siM, ↓wp_clV, ↓wp_clL, ↓wp_hdM, ↓wp_chV, ↓wp_chL, ↓wp_itM, ↓wp_itA, ↓wp_rg1M, ↓wp_rg2M, ↓wp_zpM, ↓wp_enM, ↓wp_isiM, ↓wp_someM, ↓wp_sl3, ↓wp_frM, ↓wp_lc, ↓wp_agM, ↓wipP1, ↓wipP2, ↓wipP3, ↓bacP1, ↓bacP2, ↓bacP3, ↓spK0, ↓spK1, ↓spK2, ↓foP_ret, ↓rdP_v, ↓rdP_l, ↓lsP_l, ↓blP_bl, ↓inP_int, ↓vlP_val, ↓vlP_own, ↓hdP_hnd, ↓sqP_lst, ↓sqP_tup, ↓sqP_scr, ↓saP_lst, ↓saP_tup, ↓saP_rng, ↓ctP_nx, ↓ctP_rt, ↓ctP_bk, ↓ctP_ct, ↓lpP_nx, ↓lpP_ct, ↓lpP_bk, ↓lpP_rt, ↓zpP_lst, ↓zpP_tup, ↓enP_lst, ↓exP_lst, ↓tgP_V, ↓tgP_T, ↓tgsP_nil, ↓tgsP_cons, ↓rgP_ok, ↓iteP_true, ↓iteP_false, ↓iteP_t, ↓iteP_f, ↓iteP_nt, ↓iteP_nf, ↓hhP_eq, ↓opP_some, ↓pAdd, ↓pSub, ↓pNeg, ↓pMulR, ↓pMulL, ↓pMod, ↓pDiv, ↓p1018, ↓pLt, ↓pLe, ↓pGt, ↓pGe, ↓pOpB, ↓pEq, ↓pNe, ↓pIs0, ↓pIs1, ↓pIs2, ↓pIs3, ↓pIs4, ↓pIn0, ↓pIn1, ↓pIn2, ↓pIn3, ↓pIn4, ↓pLen1, ↓pLen2, ↓pLen3, ↓pInt, ↓pAbs, ↓pTup1, ↓pTup2, ↓pLst1, ↓pLst2, ↓pLst3, ↓pRng, ↓pSl1, ↓pSl2, ↓pSl3, ↓isi_int_non, ↓isi_int_bl, ↓isi_int_int, ↓isi_int_str, ↓isi_int_tup, ↓isi_int_lst, ↓isi_int_dic, ↓isi_bool_non, ↓isi_bool_bl, ↓isi_bool_int, ↓isi_bool_str, ↓isi_bool_tup, ↓isi_bool_lst, ↓isi_bool_dic, ↓isi_str_non, ↓isi_str_bl, ↓isi_str_int, ↓isi_str_str, ↓isi_str_tup, ↓isi_str_lst, ↓isi_str_dic, ↓isi_tuple_non, ↓isi_tuple_bl, ↓isi_tuple_int, ↓isi_tuple_str, ↓isi_tuple_tup, ↓isi_tuple_lst, ↓isi_tuple_dic, ↓isi_list_non, ↓isi_list_bl, ↓isi_list_int, ↓isi_list_str, ↓isi_list_tup, ↓isi_list_lst, ↓isi_list_dic, ↓isi_dict_non, ↓isi_dict_bl, ↓isi_dict_int, ↓isi_dict_str, ↓isi_dict_tup, ↓isi_dict_lst, ↓isi_dict_dic, ↓ixt0, ↓ixt1, ↓ixt2, ↓ixt3, ↓ixt4, ↓ixt5, ↓ixt6, ↓ixt7, ↓ixt8, ↓ixl0, ↓ixl1, ↓ixl2, ↓ixl3, ↓ixl4, ↓ixl5, ↓ixl6, ↓ixl7, ↓ixl8, ↓FX.gp0, ↓FX.gp1, ↓FX.gp2, ↓FX.gp3, ↓FX.gp4, ↓FX.gp5, ↓FX.gp6, ↓FX.gp7, ↓FX.gp8, ↓FX.gp9, ↓FX.gp10, ↓FX.gp11, ↓FX.gp12, ↓FX.gp13, ↓FX.gp14, ↓FX.gp15, ↓FX.gp16, ↓FX.gp17, ↓FX.gp18, ↓FX.gp19, ↓FX.gp20, ↓FX.gp21, ↓FX.gp22, ↓FX.gp23, ↓FX.gp24, ↓FX.gp25, ↓FX.gp26, ↓FX.gp27, ↓FX.gp28, ↓FX.gp29, ↓FX.gp30, ↓FX.gp31, ↓FX.gp32, ↓FX.gp33, ↓FX.sp0, ↓FX.sp1, ↓FX.sp2, ↓FX.sp3, ↓FX.sp4, ↓FX.sp5, ↓FX.sp6, ↓FX.sp7, ↓FX.sp8, ↓FX.sp9, ↓FX.sp10, ↓FX.sp11, ↓FX.sp12, ↓FX.sp13, ↓FX.sp14, ↓FX.sp15, ↓FX.sp16, ↓FX.sp17, ↓FX.sp18, ↓FX.sp19, ↓FX.sp20, ↓FX.sp21, ↓FX.sp22, ↓FX.sp23, ↓FX.sp24, ↓FX.sp25, ↓FX.sp26, ↓FX.sp27, ↓FX.sp28, ↓FX.sp29, ↓FX.sp30, ↓FX.sp31, ↓FX.sp32, ↓FX.sp33, ↓FX.hp0, ↓FX.hp1, ↓FX.hp2, ↓FX.hp3, ↓FX.hp4, ↓FX.wp0, ↓FX.wp1, ↓FX.wp2, ↓FX.wp3, ↓FX.wp4, end_rt, end_nx, ↓tgQ_eq, Bool.not_true, Bool.not_false, and_self, and_true, true_and, ↓foP_of (check_hub_ok G h h1 h2), ↓foP_of (check_from_ok G ht), ↓foP_of (unlike_pairs_ok G (p := p) h.few)]
  refine ⟨by rw [List.length_map, sizeLine_eq]; omega, wp_lcT (enc := pairD) (p := fun q => decide (gw p c ls q ≤ t)) (g := pairD) (fun q hq => ?_) ?_⟩
  · obtain ⟨q1, q2, _⟩ := prs_mem hq
    have hne : maxI (WW p c 0 ls q.1 q.2) = some (gw p c ls q) := maxI_ne (WW_ne h q1)
    unfold pairD
    simp -implicitDefEqProofs (disch := omega) only [↓wp_bnd, ↓wp_ret, ↓wp_vV, ↓wp_vB, ↓wp_vL, ↓wp_hix, ↓wp_b1, ↓wp_b2, ↓wp_ifM, ↓wp_notM, ↓wp_andM, ↓wp_orM, ↓wp_asB, ↓wp_asI, ↓wp_notV, ↓wp_andV, ↓wp_orV, ↓wp_sq0, ↓wp_sq, ↓wp_tupM, ↓wp_frz, ↓wp_chM, ↓wp_sqS, ↓wp_seV, ↓wp_seL, ↓wp_asM, ↓wp_paM, ↓wp_paM3, ↓wp_paR2, ↓wp_paR3, ↓wp_rvM, ↓wp_rlM, ↓rv_v, ↓rv_l, ↓wp_shM, ↓wp_apM, ↓wp_exM, ↓wp_siM, ↓wp_clV, ↓wp_clL, ↓wp_hdM, ↓wp_chV, ↓wp_chL, ↓wp_itM, ↓wp_itA, ↓wp_rg1M, ↓wp_rg2M, ↓wp_zpM, ↓wp_enM, ↓wp_isiM, ↓wp_someM, ↓wp_sl3, ↓wp_frM, ↓wp_lc, ↓wp_agM, ↓wipP1, ↓wipP2, ↓wipP3, ↓bacP1, ↓bacP2, ↓bacP3, ↓spK0, ↓spK1, ↓spK2, ↓foP_ret, ↓rdP_v, ↓rdP_l, ↓lsP_l, ↓blP_bl, ↓inP_int, ↓vlP_val, ↓vlP_own, ↓hdP_hnd, ↓sqP_lst, ↓sqP_tup, ↓sqP_scr, ↓saP_lst, ↓saP_tup, ↓saP_rng, ↓ctP_nx, ↓ctP_rt, ↓ctP_bk, ↓ctP_ct, ↓lpP_nx, ↓lpP_ct, ↓lpP_bk, ↓lpP_rt, ↓zpP_lst, ↓zpP_tup, ↓enP_lst, ↓exP_lst, ↓tgP_V, ↓tgP_T, ↓tgsP_nil, ↓tgsP_cons, ↓rgP_ok, ↓iteP_true, ↓iteP_false, ↓iteP_t, ↓iteP_f, ↓iteP_nt, ↓iteP_nf, ↓hhP_eq, ↓opP_some, ↓pAdd, ↓pSub, ↓pNeg, ↓pMulR, ↓pMulL, ↓pMod, ↓pDiv, ↓p1018, ↓pLt, ↓pLe, ↓pGt, ↓pGe, ↓pOpB, ↓pEq, ↓pNe, ↓pIs0, ↓pIs1, ↓pIs2, ↓pIs3, ↓pIs4, ↓pIn0, ↓pIn1, ↓pIn2, ↓pIn3, ↓pIn4, ↓pLen1, ↓pLen2, ↓pLen3, ↓pInt, ↓pAbs, ↓pTup1, ↓pTup2, ↓pLst1, ↓pLst2, ↓pLst3, ↓pRng, ↓pSl1, ↓pSl2, ↓pSl3, ↓isi_int_non, ↓isi_int_bl, ↓isi_int_int, ↓isi_int_str, ↓isi_int_tup, ↓isi_int_lst, ↓isi_int_dic, ↓isi_bool_non, ↓isi_bool_bl, ↓isi_bool_int, ↓isi_bool_str, ↓isi_bool_tup, ↓isi_bool_lst, ↓isi_bool_dic, ↓isi_str_non, ↓isi_str_bl, ↓isi_str_int, ↓isi_str_str, ↓isi_str_tup, ↓isi_str_lst, ↓isi_str_dic, ↓isi_tuple_non, ↓isi_tuple_bl, ↓isi_tuple_int, ↓isi_tuple_str, ↓isi_tuple_tup, ↓isi_tuple_lst, ↓isi_tuple_dic, ↓isi_list_non, ↓isi_list_bl, ↓isi_list_int, ↓isi_list_str, ↓isi_list_tup, ↓isi_list_lst, ↓isi_list_dic, ↓isi_dict_non, ↓isi_dict_bl, ↓isi_dict_int, ↓isi_dict_str, ↓isi_dict_tup, ↓isi_dict_lst, ↓isi_dict_dic, ↓ixt0, ↓ixt1, ↓ixt2, ↓ixt3, ↓ixt4, ↓ixt5, ↓ixt6, ↓ixt7, ↓ixt8, ↓ixl0, ↓ixl1, ↓ixl2, ↓ixl3, ↓ixl4, ↓ixl5, ↓ixl6, ↓ixl7, ↓ixl8, ↓FX.gp0, ↓FX.gp1, ↓FX.gp2, ↓FX.gp3, ↓FX.gp4, ↓FX.gp5, ↓FX.gp6, ↓FX.gp7, ↓FX.gp8, ↓FX.gp9, ↓FX.gp10, ↓FX.gp11, ↓FX.gp12, ↓FX.gp13, ↓FX.gp14, ↓FX.gp15, ↓FX.gp16, ↓FX.gp17, ↓FX.gp18, ↓FX.gp19, ↓FX.gp20, ↓FX.gp21, ↓FX.gp22, ↓FX.gp23, ↓FX.gp24, ↓FX.gp25, ↓FX.gp26, ↓FX.gp27, ↓FX.gp28, ↓FX.gp29, ↓FX.gp30, ↓FX.gp31, ↓FX.gp32, ↓FX.gp33, ↓FX.sp0, ↓FX.sp1, ↓FX.sp2, ↓FX.sp3, ↓FX.sp4, ↓FX.sp5, ↓FX.sp6, ↓FX.sp7, ↓FX.sp8, ↓FX.sp9, ↓FX.sp10, ↓FX.sp11, ↓FX.sp12, ↓FX.sp13, ↓FX.sp14, ↓FX.sp15, ↓FX.sp16, ↓FX.sp17, ↓FX.sp18, ↓FX.sp19, ↓FX.sp20, ↓FX.sp21, ↓FX.sp22, ↓FX.sp23, ↓FX.sp24, ↓FX.sp25, ↓FX.sp26, ↓FX.sp27, ↓FX.sp28, ↓FX.sp29, ↓FX.sp30, ↓FX.sp31, ↓FX.sp32, ↓FX.sp33, ↓FX.hp0, ↓FX.hp1, ↓FX.hp2, ↓FX.hp3, ↓FX.hp4, ↓FX.wp0, ↓FX.wp1, ↓FX.wp2, ↓FX.wp3, ↓FX.wp4, end_rt, end_nx, ↓tgQ_eq, Bool.not_true, Bool.not_false, and_self, and_true, true_and, ↓foP_of (waits_at G (c := c) 0 h q1 q2), ↓pMax, hne]
    exact fun _ => trivial
  · simp -implicitDefEqProofs (disch := omega) only [↓wp_bnd, ↓wp_ret, ↓wp_vV, ↓wp_vB, ↓wp_vL, ↓wp_hix, ↓wp_b1, ↓wp_b2, ↓wp_ifM, ↓wp_notM, ↓wp_andM, ↓wp_orM, ↓wp_asB, ↓wp_asI, ↓wp_notV, ↓wp_andV, ↓wp_orV, ↓wp_sq0, ↓wp_sq, ↓wp_tupM, ↓wp_frz, ↓wp_chM, ↓wp_sqS, ↓wp_seV, ↓wp_seL, ↓wp_asM, ↓wp_paM, ↓wp_paM3, ↓wp_paR2, ↓wp_paR3, ↓wp_rvM, ↓wp_rlM, ↓rv_v, ↓rv_l, ↓wp_shM, ↓wp_apM, ↓wp_exM, ↓wp_siM, ↓wp_clV, ↓wp_clL, ↓wp_hdM, ↓wp_chV, ↓wp_chL, ↓wp_itM, ↓wp_itA, ↓wp_rg1M, ↓wp_rg2M, ↓wp_zpM, ↓wp_enM, ↓wp_isiM, ↓wp_someM, ↓wp_sl3, ↓wp_frM, ↓wp_lc, ↓wp_agM, ↓wipP1, ↓wipP2, ↓wipP3, ↓bacP1, ↓bacP2, ↓bacP3, ↓spK0, ↓spK1, ↓spK2, ↓foP_ret, ↓rdP_v, ↓rdP_l, ↓lsP_l, ↓blP_bl, ↓inP_int, ↓vlP_val, ↓vlP_own, ↓hdP_hnd, ↓sqP_lst, ↓sqP_tup, ↓sqP_scr, ↓saP_lst, ↓saP_tup, ↓saP_rng, ↓ctP_nx, ↓ctP_rt, ↓ctP_bk, ↓ctP_ct, ↓lpP_nx, ↓lpP_ct, ↓lpP_bk, ↓lpP_rt, ↓zpP_lst, ↓zpP_tup, ↓enP_lst, ↓exP_lst, ↓tgP_V, ↓tgP_T, ↓tgsP_nil, ↓tgsP_cons, ↓rgP_ok, ↓iteP_true, ↓iteP_false, ↓iteP_t, ↓iteP_f, ↓iteP_nt, ↓iteP_nf, ↓hhP_eq, ↓opP_some, ↓pAdd, ↓pSub, ↓pNeg, ↓pMulR, ↓pMulL, ↓pMod, ↓pDiv, ↓p1018, ↓pLt, ↓pLe, ↓pGt, ↓pGe, ↓pOpB, ↓pEq, ↓pNe, ↓pIs0, ↓pIs1, ↓pIs2, ↓pIs3, ↓pIs4, ↓pIn0, ↓pIn1, ↓pIn2, ↓pIn3, ↓pIn4, ↓pLen1, ↓pLen2, ↓pLen3, ↓pInt, ↓pAbs, ↓pTup1, ↓pTup2, ↓pLst1, ↓pLst2, ↓pLst3, ↓pRng, ↓pSl1, ↓pSl2, ↓pSl3, ↓isi_int_non, ↓isi_int_bl, ↓isi_int_int, ↓isi_int_str, ↓isi_int_tup, ↓isi_int_lst, ↓isi_int_dic, ↓isi_bool_non, ↓isi_bool_bl, ↓isi_bool_int, ↓isi_bool_str, ↓isi_bool_tup, ↓isi_bool_lst, ↓isi_bool_dic, ↓isi_str_non, ↓isi_str_bl, ↓isi_str_int, ↓isi_str_str, ↓isi_str_tup, ↓isi_str_lst, ↓isi_str_dic, ↓isi_tuple_non, ↓isi_tuple_bl, ↓isi_tuple_int, ↓isi_tuple_str, ↓isi_tuple_tup, ↓isi_tuple_lst, ↓isi_tuple_dic, ↓isi_list_non, ↓isi_list_bl, ↓isi_list_int, ↓isi_list_str, ↓isi_list_tup, ↓isi_list_lst, ↓isi_list_dic, ↓isi_dict_non, ↓isi_dict_bl, ↓isi_dict_int, ↓isi_dict_str, ↓isi_dict_tup, ↓isi_dict_lst, ↓isi_dict_dic, ↓ixt0, ↓ixt1, ↓ixt2, ↓ixt3, ↓ixt4, ↓ixt5, ↓ixt6, ↓ixt7, ↓ixt8, ↓ixl0, ↓ixl1, ↓ixl2, ↓ixl3, ↓ixl4, ↓ixl5, ↓ixl6, ↓ixl7, ↓ixl8, ↓FX.gp0, ↓FX.gp1, ↓FX.gp2, ↓FX.gp3, ↓FX.gp4, ↓FX.gp5, ↓FX.gp6, ↓FX.gp7, ↓FX.gp8, ↓FX.gp9, ↓FX.gp10, ↓FX.gp11, ↓FX.gp12, ↓FX.gp13, ↓FX.gp14, ↓FX.gp15, ↓FX.gp16, ↓FX.gp17, ↓FX.gp18, ↓FX.gp19, ↓FX.gp20, ↓FX.gp21, ↓FX.gp22, ↓FX.gp23, ↓FX.gp24, ↓FX.gp25, ↓FX.gp26, ↓FX.gp27, ↓FX.gp28, ↓FX.gp29, ↓FX.gp30, ↓FX.gp31, ↓FX.gp32, ↓FX.gp33, ↓FX.sp0, ↓FX.sp1, ↓FX.sp2, ↓FX.sp3, ↓FX.sp4, ↓FX.sp5, ↓FX.sp6, ↓FX.sp7, ↓FX.sp8, ↓FX.sp9, ↓FX.sp10, ↓FX.sp11, ↓FX.sp12, ↓FX.sp13, ↓FX.sp14, ↓FX.sp15, ↓FX.sp16, ↓FX.sp17, ↓FX.sp18, ↓FX.sp19, ↓FX.sp20, ↓FX.sp21, ↓FX.sp22, ↓FX.sp23, ↓FX.sp24, ↓FX.sp25, ↓FX.sp26, ↓FX.sp27, ↓FX.sp28, ↓FX.sp29, ↓FX.sp30, ↓FX.sp31, ↓FX.sp32, ↓FX.sp33, ↓FX.hp0, ↓FX.hp1, ↓FX.hp2, ↓FX.hp3, ↓FX.hp4, ↓FX.wp0, ↓FX.wp1, ↓FX.wp2, ↓FX.wp3, ↓FX.wp4, end_rt, end_nx, ↓tgQ_eq, Bool.not_true, Bool.not_false, and_self, and_true, true_and, List.nil_append]
theorem held_gain_ok (G : Txt K mg) {p c y : Int} {ls : List Line} {i j : Nat} (h : Hub p ls) (h1 : 0 ≤ c) (h2 : c ≤ 100) (hi : i < ls.length) (hj : j < ls.length) (y1 : 0 ≤ y) (y2 : y ≤ p) :
    r_held_gain G [hubD p ls, .int c, .int i, .int j, .int y] = .ret (.v (.int ((WW p c 0 ls i j).sum - (WW p c y ls i j).sum))) [] := by
  refine runP_of ⟨[.val (hubD p ls), .val (.int c), .val (.int i), .val (.int j), .val (.int y)], []⟩ rfl ?_
  unfold m_held_gain
  simp -implicitDefEqProofs (disch := omega) only [↓wp_bnd, ↓wp_ret, ↓wp_vV, ↓wp_vB, ↓wp_vL, ↓wp_hix, ↓wp_b1, ↓wp_b2, ↓wp_ifM, ↓wp_notM, ↓wp_andM, ↓wp_orM, ↓wp_asB, ↓wp_asI, ↓wp_notV, ↓wp_andV, ↓wp_orV, ↓wp_sq0, ↓wp_sq, ↓wp_tupM, ↓wp_frz, ↓wp_chM, ↓wp_sqS, ↓wp_seV, ↓wp_seL, ↓wp_asM, ↓wp_paM, ↓wp_paM3, ↓wp_paR2, ↓wp_paR3, ↓wp_rvM, ↓wp_rlM, ↓rv_v, ↓rv_l, ↓wp_shM, ↓wp_apM, ↓wp_exM, ↓wp_siM, ↓wp_clV, ↓wp_clL, ↓wp_hdM, ↓wp_chV, ↓wp_chL, ↓wp_itM, ↓wp_itA, ↓wp_rg1M, ↓wp_rg2M, ↓wp_zpM, ↓wp_enM, ↓wp_isiM, ↓wp_someM, ↓wp_sl3, ↓wp_frM, ↓wp_lc, ↓wp_agM, ↓wipP1, ↓wipP2, ↓wipP3, ↓bacP1, ↓bacP2, ↓bacP3, ↓spK0, ↓spK1, ↓spK2, ↓foP_ret, ↓rdP_v, ↓rdP_l, ↓lsP_l, ↓blP_bl, ↓inP_int, ↓vlP_val, ↓vlP_own, ↓hdP_hnd, ↓sqP_lst, ↓sqP_tup, ↓sqP_scr, ↓saP_lst, ↓saP_tup, ↓saP_rng, ↓ctP_nx, ↓ctP_rt, ↓ctP_bk, ↓ctP_ct, ↓lpP_nx, ↓lpP_ct, ↓lpP_bk, ↓lpP_rt, ↓zpP_lst, ↓zpP_tup, ↓enP_lst, ↓exP_lst, ↓tgP_V, ↓tgP_T, ↓tgsP_nil, ↓tgsP_cons, ↓rgP_ok, ↓iteP_true, ↓iteP_false, ↓iteP_t, ↓iteP_f, ↓iteP_nt, ↓iteP_nf, ↓hhP_eq, ↓opP_some, ↓pAdd, ↓pSub, ↓pNeg, ↓pMulR, ↓pMulL, ↓pMod, ↓pDiv, ↓p1018, ↓pLt, ↓pLe, ↓pGt, ↓pGe, ↓pOpB, ↓pEq, ↓pNe, ↓pIs0, ↓pIs1, ↓pIs2, ↓pIs3, ↓pIs4, ↓pIn0, ↓pIn1, ↓pIn2, ↓pIn3, ↓pIn4, ↓pLen1, ↓pLen2, ↓pLen3, ↓pInt, ↓pAbs, ↓pTup1, ↓pTup2, ↓pLst1, ↓pLst2, ↓pLst3, ↓pRng, ↓pSl1, ↓pSl2, ↓pSl3, ↓isi_int_non, ↓isi_int_bl, ↓isi_int_int, ↓isi_int_str, ↓isi_int_tup, ↓isi_int_lst, ↓isi_int_dic, ↓isi_bool_non, ↓isi_bool_bl, ↓isi_bool_int, ↓isi_bool_str, ↓isi_bool_tup, ↓isi_bool_lst, ↓isi_bool_dic, ↓isi_str_non, ↓isi_str_bl, ↓isi_str_int, ↓isi_str_str, ↓isi_str_tup, ↓isi_str_lst, ↓isi_str_dic, ↓isi_tuple_non, ↓isi_tuple_bl, ↓isi_tuple_int, ↓isi_tuple_str, ↓isi_tuple_tup, ↓isi_tuple_lst, ↓isi_tuple_dic, ↓isi_list_non, ↓isi_list_bl, ↓isi_list_int, ↓isi_list_str, ↓isi_list_tup, ↓isi_list_lst, ↓isi_list_dic, ↓isi_dict_non, ↓isi_dict_bl, ↓isi_dict_int, ↓isi_dict_str, ↓isi_dict_tup, ↓isi_dict_lst, ↓isi_dict_dic, ↓ixt0, ↓ixt1, ↓ixt2, ↓ixt3, ↓ixt4, ↓ixt5, ↓ixt6, ↓ixt7, ↓ixt8, ↓ixl0, ↓ixl1, ↓ixl2, ↓ixl3, ↓ixl4, ↓ixl5, ↓ixl6, ↓ixl7, ↓ixl8, ↓FX.gp0, ↓FX.gp1, ↓FX.gp2, ↓FX.gp3, ↓FX.gp4, ↓FX.gp5, ↓FX.gp6, ↓FX.gp7, ↓FX.gp8, ↓FX.gp9, ↓FX.gp10, ↓FX.gp11, ↓FX.gp12, ↓FX.gp13, ↓FX.gp14, ↓FX.gp15, ↓FX.gp16, ↓FX.gp17, ↓FX.gp18, ↓FX.gp19, ↓FX.gp20, ↓FX.gp21, ↓FX.gp22, ↓FX.gp23, ↓FX.gp24, ↓FX.gp25, ↓FX.gp26, ↓FX.gp27, ↓FX.gp28, ↓FX.gp29, ↓FX.gp30, ↓FX.gp31, ↓FX.gp32, ↓FX.gp33, ↓FX.sp0, ↓FX.sp1, ↓FX.sp2, ↓FX.sp3, ↓FX.sp4, ↓FX.sp5, ↓FX.sp6, ↓FX.sp7, ↓FX.sp8, ↓FX.sp9, ↓FX.sp10, ↓FX.sp11, ↓FX.sp12, ↓FX.sp13, ↓FX.sp14, ↓FX.sp15, ↓FX.sp16, ↓FX.sp17, ↓FX.sp18, ↓FX.sp19, ↓FX.sp20, ↓FX.sp21, ↓FX.sp22, ↓FX.sp23, ↓FX.sp24, ↓FX.sp25, ↓FX.sp26, ↓FX.sp27, ↓FX.sp28, ↓FX.sp29, ↓FX.sp30, ↓FX.sp31, ↓FX.sp32, ↓FX.sp33, ↓FX.hp0, ↓FX.hp1, ↓FX.hp2, ↓FX.hp3, ↓FX.hp4, ↓FX.wp0, ↓FX.wp1, ↓FX.wp2, ↓FX.wp3, ↓FX.wp4, end_rt, end_nx, ↓tgQ_eq, Bool.not_true, Bool.not_false, and_self, and_true, true_and, ↓foP_of (check_hub_ok G h h1 h2), ↓foP_of (check_line_ok G (p := p) (ls := ls) (i := i) (by omega) (by omega)), ↓foP_of (check_line_ok G (p := p) (ls := ls) (i := j) (by omega) (by omega)), ↓hx0, ↓foP_of (check_within_ok G y1 y2), ↓foP_of (waits_at G (c := c) 0 h hi hj), ↓foP_of (waits_at G (c := c) y h hi hj), ↓pSum]

end
end FX.K71

set_option Elab.async false
set_option linter.all false
set_option maxRecDepth 100000
set_option maxHeartbeats 4000000
namespace FX.K71
open PySem PySem.Spec PyProof.Rows L2 LamX FX
section
variable {K : PySem.W.Frag} {mg : Str → Option Value}
/-! ### the law's own -/
theorem some_ok (G : Txt K mg) {hc : List D} {ds : List D} (h : GoodH hc) (h0 : ds ≠ []) (h1 : ds.length < 2 ^ 62) : foP (r__law_some G hc [.lst ds]) fun r hc' => ∃ d ∈ ds, r = .v d ∧ GoodH hc' := by
  refine runH_of ⟨[.hnd, .val (.lst ds)], hc⟩ rfl ?_
  have hl := List.length_pos_iff.mpr h0
  obtain ⟨r, hc', e, k, rfl, k0, k1, hg⟩ := (draw_ok G h (n := ds.length) (by omega) (by omega)).ex
  have hk : k.toNat < ds.length := by omega
  unfold m__law_some
  simp -implicitDefEqProofs (disch := omega) only [↓wp_bnd, ↓wp_ret, ↓wp_vV, ↓wp_vB, ↓wp_vL, ↓wp_hix, ↓wp_b1, ↓wp_b2, ↓wp_ifM, ↓wp_notM, ↓wp_andM, ↓wp_orM, ↓wp_asB, ↓wp_asI, ↓wp_notV, ↓wp_andV, ↓wp_orV, ↓wp_sq0, ↓wp_sq, ↓wp_tupM, ↓wp_frz, ↓wp_chM, ↓wp_sqS, ↓wp_seV, ↓wp_seL, ↓wp_asM, ↓wp_paM, ↓wp_paM3, ↓wp_paR2, ↓wp_paR3, ↓wp_rvM, ↓wp_rlM, ↓rv_v, ↓rv_l, ↓wp_shM, ↓wp_apM, ↓wp_exM, ↓wp_siM, ↓wp_clV, ↓wp_clL, ↓wp_hdM, ↓wp_chV, ↓wp_chL, ↓wp_itM, ↓wp_itA, ↓wp_rg1M, ↓wp_rg2M, ↓wp_zpM, ↓wp_enM, ↓wp_isiM, ↓wp_someM, ↓wp_sl3, ↓wp_frM, ↓wp_lc, ↓wp_agM, ↓wipP1, ↓wipP2, ↓wipP3, ↓bacP1, ↓bacP2, ↓bacP3, ↓spK0, ↓spK1, ↓spK2, ↓foP_ret, ↓rdP_v, ↓rdP_l, ↓lsP_l, ↓blP_bl, ↓inP_int, ↓vlP_val, ↓vlP_own, ↓hdP_hnd, ↓sqP_lst, ↓sqP_tup, ↓sqP_scr, ↓saP_lst, ↓saP_tup, ↓saP_rng, ↓ctP_nx, ↓ctP_rt, ↓ctP_bk, ↓ctP_ct, ↓lpP_nx, ↓lpP_ct, ↓lpP_bk, ↓lpP_rt, ↓zpP_lst, ↓zpP_tup, ↓enP_lst, ↓exP_lst, ↓tgP_V, ↓tgP_T, ↓tgsP_nil, ↓tgsP_cons, ↓rgP_ok, ↓iteP_true, ↓iteP_false, ↓iteP_t, ↓iteP_f, ↓iteP_nt, ↓iteP_nf, ↓hhP_eq, ↓opP_some, ↓pAdd, ↓pSub, ↓pNeg, ↓pMulR, ↓pMulL, ↓pMod, ↓pDiv, ↓p1018, ↓pLt, ↓pLe, ↓pGt, ↓pGe, ↓pOpB, ↓pEq, ↓pNe, ↓pIs0, ↓pIs1, ↓pIs2, ↓pIs3, ↓pIs4, ↓pIn0, ↓pIn1, ↓pIn2, ↓pIn3, ↓pIn4, ↓pLen1, ↓pLen2, ↓pLen3, ↓pInt, ↓pAbs, ↓pTup1, ↓pTup2, ↓pLst1, ↓pLst2, ↓pLst3, ↓pRng, ↓pSl1, ↓pSl2, ↓pSl3, ↓isi_int_non, ↓isi_int_bl, ↓isi_int_int, ↓isi_int_str, ↓isi_int_tup, ↓isi_int_lst, ↓isi_int_dic, ↓isi_bool_non, ↓isi_bool_bl, ↓isi_bool_int, ↓isi_bool_str, ↓isi_bool_tup, ↓isi_bool_lst, ↓isi_bool_dic, ↓isi_str_non, ↓isi_str_bl, ↓isi_str_int, ↓isi_str_str, ↓isi_str_tup, ↓isi_str_lst, ↓isi_str_dic, ↓isi_tuple_non, ↓isi_tuple_bl, ↓isi_tuple_int, ↓isi_tuple_str, ↓isi_tuple_tup, ↓isi_tuple_lst, ↓isi_tuple_dic, ↓isi_list_non, ↓isi_list_bl, ↓isi_list_int, ↓isi_list_str, ↓isi_list_tup, ↓isi_list_lst, ↓isi_list_dic, ↓isi_dict_non, ↓isi_dict_bl, ↓isi_dict_int, ↓isi_dict_str, ↓isi_dict_tup, ↓isi_dict_lst, ↓isi_dict_dic, ↓ixt0, ↓ixt1, ↓ixt2, ↓ixt3, ↓ixt4, ↓ixt5, ↓ixt6, ↓ixt7, ↓ixt8, ↓ixl0, ↓ixl1, ↓ixl2, ↓ixl3, ↓ixl4, ↓ixl5, ↓ixl6, ↓ixl7, ↓ixl8, ↓FX.gp0, ↓FX.gp1, ↓FX.gp2, ↓FX.gp3, ↓FX.gp4, ↓FX.gp5, ↓FX.gp6, ↓FX.gp7, ↓FX.gp8, ↓FX.gp9, ↓FX.gp10, ↓FX.gp11, ↓FX.gp12, ↓FX.gp13, ↓FX.gp14, ↓FX.gp15, ↓FX.gp16, ↓FX.gp17, ↓FX.gp18, ↓FX.gp19, ↓FX.gp20, ↓FX.gp21, ↓FX.gp22, ↓FX.gp23, ↓FX.gp24, ↓FX.gp25, ↓FX.gp26, ↓FX.gp27, ↓FX.gp28, ↓FX.gp29, ↓FX.gp30, ↓FX.gp31, ↓FX.gp32, ↓FX.gp33, ↓FX.sp0, ↓FX.sp1, ↓FX.sp2, ↓FX.sp3, ↓FX.sp4, ↓FX.sp5, ↓FX.sp6, ↓FX.sp7, ↓FX.sp8, ↓FX.sp9, ↓FX.sp10, ↓FX.sp11, ↓FX.sp12, ↓FX.sp13, ↓FX.sp14, ↓FX.sp15, ↓FX.sp16, ↓FX.sp17, ↓FX.sp18, ↓FX.sp19, ↓FX.sp20, ↓FX.sp21, ↓FX.sp22, ↓FX.sp23, ↓FX.sp24, ↓FX.sp25, ↓FX.sp26, ↓FX.sp27, ↓FX.sp28, ↓FX.sp29, ↓FX.sp30, ↓FX.sp31, ↓FX.sp32, ↓FX.sp33, ↓FX.hp0, ↓FX.hp1, ↓FX.hp2, ↓FX.hp3, ↓FX.hp4, ↓FX.wp0, ↓FX.wp1, ↓FX.wp2, ↓FX.wp3, ↓FX.wp4, end_rt, end_nx, ↓tgQ_eq, Bool.not_true, Bool.not_false, and_self, and_true, true_and, ↓foP_of e, ↓pIxL (List.getElem?_eq_getElem hk) (show k = (k.toNat : Int) by omega)]
  exact ⟨_, List.getElem_mem hk, rfl, hg⟩
theorem law_is_ok (G : Txt K mg) {d : D} (h : smd d = true) (h2 : dep d ≤ 60) (h3 : nod d ≤ 200000) : r__law_is G [d, d] = .ret (.v (.bl true)) [] := by
  refine runP_of ⟨[.val d, .val d], []⟩ rfl ?_
  obtain ⟨s, e⟩ := reprD_ok h h2 h3
  unfold m__law_is
  simp -implicitDefEqProofs (disch := omega) only [↓wp_bnd, ↓wp_ret, ↓wp_vV, ↓wp_vB, ↓wp_vL, ↓wp_hix, ↓wp_b1, ↓wp_b2, ↓wp_ifM, ↓wp_notM, ↓wp_andM, ↓wp_orM, ↓wp_asB, ↓wp_asI, ↓wp_notV, ↓wp_andV, ↓wp_orV, ↓wp_sq0, ↓wp_sq, ↓wp_tupM, ↓wp_frz, ↓wp_chM, ↓wp_sqS, ↓wp_seV, ↓wp_seL, ↓wp_asM, ↓wp_paM, ↓wp_paM3, ↓wp_paR2, ↓wp_paR3, ↓wp_rvM, ↓wp_rlM, ↓rv_v, ↓rv_l, ↓wp_shM, ↓wp_apM, ↓wp_exM, ↓wp_siM, ↓wp_clV, ↓wp_clL, ↓wp_hdM, ↓wp_chV, ↓wp_chL, ↓wp_itM, ↓wp_itA, ↓wp_rg1M, ↓wp_rg2M, ↓wp_zpM, ↓wp_enM, ↓wp_isiM, ↓wp_someM, ↓wp_sl3, ↓wp_frM, ↓wp_lc, ↓wp_agM, ↓wipP1, ↓wipP2, ↓wipP3, ↓bacP1, ↓bacP2, ↓bacP3, ↓spK0, ↓spK1, ↓spK2, ↓foP_ret, ↓rdP_v, ↓rdP_l, ↓lsP_l, ↓blP_bl, ↓inP_int, ↓vlP_val, ↓vlP_own, ↓hdP_hnd, ↓sqP_lst, ↓sqP_tup, ↓sqP_scr, ↓saP_lst, ↓saP_tup, ↓saP_rng, ↓ctP_nx, ↓ctP_rt, ↓ctP_bk, ↓ctP_ct, ↓lpP_nx, ↓lpP_ct, ↓lpP_bk, ↓lpP_rt, ↓zpP_lst, ↓zpP_tup, ↓enP_lst, ↓exP_lst, ↓tgP_V, ↓tgP_T, ↓tgsP_nil, ↓tgsP_cons, ↓rgP_ok, ↓iteP_true, ↓iteP_false, ↓iteP_t, ↓iteP_f, ↓iteP_nt, ↓iteP_nf, ↓hhP_eq, ↓opP_some, ↓pAdd, ↓pSub, ↓pNeg, ↓pMulR, ↓pMulL, ↓pMod, ↓pDiv, ↓p1018, ↓pLt, ↓pLe, ↓pGt, ↓pGe, ↓pOpB, ↓pEq, ↓pNe, ↓pIs0, ↓pIs1, ↓pIs2, ↓pIs3, ↓pIs4, ↓pIn0, ↓pIn1, ↓pIn2, ↓pIn3, ↓pIn4, ↓pLen1, ↓pLen2, ↓pLen3, ↓pInt, ↓pAbs, ↓pTup1, ↓pTup2, ↓pLst1, ↓pLst2, ↓pLst3, ↓pRng, ↓pSl1, ↓pSl2, ↓pSl3, ↓isi_int_non, ↓isi_int_bl, ↓isi_int_int, ↓isi_int_str, ↓isi_int_tup, ↓isi_int_lst, ↓isi_int_dic, ↓isi_bool_non, ↓isi_bool_bl, ↓isi_bool_int, ↓isi_bool_str, ↓isi_bool_tup, ↓isi_bool_lst, ↓isi_bool_dic, ↓isi_str_non, ↓isi_str_bl, ↓isi_str_int, ↓isi_str_str, ↓isi_str_tup, ↓isi_str_lst, ↓isi_str_dic, ↓isi_tuple_non, ↓isi_tuple_bl, ↓isi_tuple_int, ↓isi_tuple_str, ↓isi_tuple_tup, ↓isi_tuple_lst, ↓isi_tuple_dic, ↓isi_list_non, ↓isi_list_bl, ↓isi_list_int, ↓isi_list_str, ↓isi_list_tup, ↓isi_list_lst, ↓isi_list_dic, ↓isi_dict_non, ↓isi_dict_bl, ↓isi_dict_int, ↓isi_dict_str, ↓isi_dict_tup, ↓isi_dict_lst, ↓isi_dict_dic, ↓ixt0, ↓ixt1, ↓ixt2, ↓ixt3, ↓ixt4, ↓ixt5, ↓ixt6, ↓ixt7, ↓ixt8, ↓ixl0, ↓ixl1, ↓ixl2, ↓ixl3, ↓ixl4, ↓ixl5, ↓ixl6, ↓ixl7, ↓ixl8, ↓FX.gp0, ↓FX.gp1, ↓FX.gp2, ↓FX.gp3, ↓FX.gp4, ↓FX.gp5, ↓FX.gp6, ↓FX.gp7, ↓FX.gp8, ↓FX.gp9, ↓FX.gp10, ↓FX.gp11, ↓FX.gp12, ↓FX.gp13, ↓FX.gp14, ↓FX.gp15, ↓FX.gp16, ↓FX.gp17, ↓FX.gp18, ↓FX.gp19, ↓FX.gp20, ↓FX.gp21, ↓FX.gp22, ↓FX.gp23, ↓FX.gp24, ↓FX.gp25, ↓FX.gp26, ↓FX.gp27, ↓FX.gp28, ↓FX.gp29, ↓FX.gp30, ↓FX.gp31, ↓FX.gp32, ↓FX.gp33, ↓FX.sp0, ↓FX.sp1, ↓FX.sp2, ↓FX.sp3, ↓FX.sp4, ↓FX.sp5, ↓FX.sp6, ↓FX.sp7, ↓FX.sp8, ↓FX.sp9, ↓FX.sp10, ↓FX.sp11, ↓FX.sp12, ↓FX.sp13, ↓FX.sp14, ↓FX.sp15, ↓FX.sp16, ↓FX.sp17, ↓FX.sp18, ↓FX.sp19, ↓FX.sp20, ↓FX.sp21, ↓FX.sp22, ↓FX.sp23, ↓FX.sp24, ↓FX.sp25, ↓FX.sp26, ↓FX.sp27, ↓FX.sp28, ↓FX.sp29, ↓FX.sp30, ↓FX.sp31, ↓FX.sp32, ↓FX.sp33, ↓FX.hp0, ↓FX.hp1, ↓FX.hp2, ↓FX.hp3, ↓FX.hp4, ↓FX.wp0, ↓FX.wp1, ↓FX.wp2, ↓FX.wp3, ↓FX.wp4, end_rt, end_nx, ↓tgQ_eq, Bool.not_true, Bool.not_false, and_self, and_true, true_and, ↓opP_of e, ↓opP_of (eqB_str (s := s))]
theorem isort_up {xs : List Int} (h : xs.Nodup) : (isort xs).Pairwise (· < ·) := by
  have h1 := isort_sorted xs
  have h2 : (isort xs).Nodup := (isort_perm xs).nodup_iff.mpr h
  exact (h1.and h2).imp fun ⟨a, b⟩ => by omega
theorem lot_ok (G : Txt K mg) {hc : List D} {p : Int} (h : GoodH hc) (h0 : 1 ≤ p) (h1 : p ≤ 200) : foP (r__law_lot G hc [.int p]) fun r hc' => ∃ xs : List Int, r = .v (.tup (xs.map .int)) ∧ Lot p xs ∧ GoodH hc' := by
  refine runH_of ⟨[.hnd, .val (.int p), .un, .un, .un], hc⟩ rfl ?_
  obtain ⟨r, hc1, e1, k, rfl, k0, k1, hg1⟩ := (draw_ok G h (n := p) (by omega) (by omega)).ex
  obtain ⟨r, hc2, e2, t, rfl, t0, t1, hg2⟩ := (draw_ok G hg1 (n := 4) (by omega) (by omega)).ex
  unfold m__law_lot
  simp -implicitDefEqProofs (disch := omega) only [↓wp_bnd, ↓wp_ret, ↓wp_vV, ↓wp_vB, ↓wp_vL, ↓wp_hix, ↓wp_b1, ↓wp_b2, ↓wp_ifM, ↓wp_notM, ↓wp_andM, ↓wp_orM, ↓wp_asB, ↓wp_asI, ↓wp_notV, ↓wp_andV, ↓wp_orV, ↓wp_sq0, ↓wp_sq, ↓wp_tupM, ↓wp_frz, ↓wp_chM, ↓wp_sqS, ↓wp_seV, ↓wp_seL, ↓wp_asM, ↓wp_paM, ↓wp_paM3, ↓wp_paR2, ↓wp_paR3, ↓wp_rvM, ↓wp_rlM, ↓rv_v, ↓rv_l, ↓wp_shM, ↓wp_apM, ↓wp_exM, ↓wp_siM, ↓wp_clV, ↓wp_clL, ↓wp_hdM, ↓wp_chV, ↓wp_chL, ↓wp_itM, ↓wp_itA, ↓wp_rg1M, ↓wp_rg2M, ↓wp_zpM, ↓wp_enM, ↓wp_isiM, ↓wp_someM, ↓wp_sl3, ↓wp_frM, ↓wp_lc, ↓wp_agM, ↓wipP1, ↓wipP2, ↓wipP3, ↓bacP1, ↓bacP2, ↓bacP3, ↓spK0, ↓spK1, ↓spK2, ↓foP_ret, ↓rdP_v, ↓rdP_l, ↓lsP_l, ↓blP_bl, ↓inP_int, ↓vlP_val, ↓vlP_own, ↓hdP_hnd, ↓sqP_lst, ↓sqP_tup, ↓sqP_scr, ↓saP_lst, ↓saP_tup, ↓saP_rng, ↓ctP_nx, ↓ctP_rt, ↓ctP_bk, ↓ctP_ct, ↓lpP_nx, ↓lpP_ct, ↓lpP_bk, ↓lpP_rt, ↓zpP_lst, ↓zpP_tup, ↓enP_lst, ↓exP_lst, ↓tgP_V, ↓tgP_T, ↓tgsP_nil, ↓tgsP_cons, ↓rgP_ok, ↓iteP_true, ↓iteP_false, ↓iteP_t, ↓iteP_f, ↓iteP_nt, ↓iteP_nf, ↓hhP_eq, ↓opP_some, ↓pAdd, ↓pSub, ↓pNeg, ↓pMulR, ↓pMulL, ↓pMod, ↓pDiv, ↓p1018, ↓pLt, ↓pLe, ↓pGt, ↓pGe, ↓pOpB, ↓pEq, ↓pNe, ↓pIs0, ↓pIs1, ↓pIs2, ↓pIs3, ↓pIs4, ↓pIn0, ↓pIn1, ↓pIn2, ↓pIn3, ↓pIn4, ↓pLen1, ↓pLen2, ↓pLen3, ↓pInt, ↓pAbs, ↓pTup1, ↓pTup2, ↓pLst1, ↓pLst2, ↓pLst3, ↓pRng, ↓pSl1, ↓pSl2, ↓pSl3, ↓isi_int_non, ↓isi_int_bl, ↓isi_int_int, ↓isi_int_str, ↓isi_int_tup, ↓isi_int_lst, ↓isi_int_dic, ↓isi_bool_non, ↓isi_bool_bl, ↓isi_bool_int, ↓isi_bool_str, ↓isi_bool_tup, ↓isi_bool_lst, ↓isi_bool_dic, ↓isi_str_non, ↓isi_str_bl, ↓isi_str_int, ↓isi_str_str, ↓isi_str_tup, ↓isi_str_lst, ↓isi_str_dic, ↓isi_tuple_non, ↓isi_tuple_bl, ↓isi_tuple_int, ↓isi_tuple_str, ↓isi_tuple_tup, ↓isi_tuple_lst, ↓isi_tuple_dic, ↓isi_list_non, ↓isi_list_bl, ↓isi_list_int, ↓isi_list_str, ↓isi_list_tup, ↓isi_list_lst, ↓isi_list_dic, ↓isi_dict_non, ↓isi_dict_bl, ↓isi_dict_int, ↓isi_dict_str, ↓isi_dict_tup, ↓isi_dict_lst, ↓isi_dict_dic, ↓ixt0, ↓ixt1, ↓ixt2, ↓ixt3, ↓ixt4, ↓ixt5, ↓ixt6, ↓ixt7, ↓ixt8, ↓ixl0, ↓ixl1, ↓ixl2, ↓ixl3, ↓ixl4, ↓ixl5, ↓ixl6, ↓ixl7, ↓ixl8, ↓FX.gp0, ↓FX.gp1, ↓FX.gp2, ↓FX.gp3, ↓FX.gp4, ↓FX.gp5, ↓FX.gp6, ↓FX.gp7, ↓FX.gp8, ↓FX.gp9, ↓FX.gp10, ↓FX.gp11, ↓FX.gp12, ↓FX.gp13, ↓FX.gp14, ↓FX.gp15, ↓FX.gp16, ↓FX.gp17, ↓FX.gp18, ↓FX.gp19, ↓FX.gp20, ↓FX.gp21, ↓FX.gp22, ↓FX.gp23, ↓FX.gp24, ↓FX.gp25, ↓FX.gp26, ↓FX.gp27, ↓FX.gp28, ↓FX.gp29, ↓FX.gp30, ↓FX.gp31, ↓FX.gp32, ↓FX.gp33, ↓FX.sp0, ↓FX.sp1, ↓FX.sp2, ↓FX.sp3, ↓FX.sp4, ↓FX.sp5, ↓FX.sp6, ↓FX.sp7, ↓FX.sp8, ↓FX.sp9, ↓FX.sp10, ↓FX.sp11, ↓FX.sp12, ↓FX.sp13, ↓FX.sp14, ↓FX.sp15, ↓FX.sp16, ↓FX.sp17, ↓FX.sp18, ↓FX.sp19, ↓FX.sp20, ↓FX.sp21, ↓FX.sp22, ↓FX.sp23, ↓FX.sp24, ↓FX.sp25, ↓FX.sp26, ↓FX.sp27, ↓FX.sp28, ↓FX.sp29, ↓FX.sp30, ↓FX.sp31, ↓FX.sp32, ↓FX.sp33, ↓FX.hp0, ↓FX.hp1, ↓FX.hp2, ↓FX.hp3, ↓FX.hp4, ↓FX.wp0, ↓FX.wp1, ↓FX.wp2, ↓FX.wp3, ↓FX.wp4, end_rt, end_nx, ↓tgQ_eq, Bool.not_true, Bool.not_false, and_self, and_true, true_and, ↓foP_of e1, ↓foP_of e2]
  rw [rngD0]
  refine wp_frT (enc := fun i : Nat => D.int i) (fun i S => ∃ (xs : List Int) (y z : Sl) (hc : List D), S = ⟨[.hnd, .val (.int p), .own (xs.map .int), y, z], hc⟩ ∧ GoodH hc ∧ xs ≠ [] ∧ (∀ x ∈ xs, 0 ≤ x ∧ x < p) ∧ xs.Nodup ∧ xs.length ≤ i + 1)
    ⟨[k], .un, .un, hc2, rfl, hg2, by simp, by simp; omega, by simp, by simp⟩ ?_ ?_
  · rintro S ⟨xs, y, z, hc, rfl, hg, ne, lt, nd, few⟩
    rw [List.length_range] at few
    simp -implicitDefEqProofs (disch := omega) only [↓wp_bnd, ↓wp_ret, ↓wp_vV, ↓wp_vB, ↓wp_vL, ↓wp_hix, ↓wp_b1, ↓wp_b2, ↓wp_ifM, ↓wp_notM, ↓wp_andM, ↓wp_orM, ↓wp_asB, ↓wp_asI, ↓wp_notV, ↓wp_andV, ↓wp_orV, ↓wp_sq0, ↓wp_sq, ↓wp_tupM, ↓wp_frz, ↓wp_chM, ↓wp_sqS, ↓wp_seV, ↓wp_seL, ↓wp_asM, ↓wp_paM, ↓wp_paM3, ↓wp_paR2, ↓wp_paR3, ↓wp_rvM, ↓wp_rlM, ↓rv_v, ↓rv_l, ↓wp_shM, ↓wp_apM, ↓wp_exM, ↓wp_siM, ↓wp_clV, ↓wp_clL, ↓wp_hdM, ↓wp_chV, ↓wp_chL, ↓wp_itM, ↓wp_itA, ↓wp_rg1M, ↓wp_rg2M, ↓wp_zpM, ↓wp_enM, ↓wp_isiM, ↓wp_someM, ↓wp_sl3, ↓wp_frM, ↓wp_lc, ↓wp_agM, ↓wipP1, ↓wipP2, ↓wipP3, ↓bacP1, ↓bacP2, ↓bacP3, ↓spK0, ↓spK1, ↓spK2, ↓foP_ret, ↓rdP_v, ↓rdP_l, ↓lsP_l, ↓blP_bl, ↓inP_int, ↓vlP_val, ↓vlP_own, ↓hdP_hnd, ↓sqP_lst, ↓sqP_tup, ↓sqP_scr, ↓saP_lst, ↓saP_tup, ↓saP_rng, ↓ctP_nx, ↓ctP_rt, ↓ctP_bk, ↓ctP_ct, ↓lpP_nx, ↓lpP_ct, ↓lpP_bk, ↓lpP_rt, ↓zpP_lst, ↓zpP_tup, ↓enP_lst, ↓exP_lst, ↓tgP_V, ↓tgP_T, ↓tgsP_nil, ↓tgsP_cons, ↓rgP_ok, ↓iteP_true, ↓iteP_false, ↓iteP_t, ↓iteP_f, ↓iteP_nt, ↓iteP_nf, ↓hhP_eq, ↓opP_some, ↓pAdd, ↓pSub, ↓pNeg, ↓pMulR, ↓pMulL, ↓pMod, ↓pDiv, ↓p1018, ↓pLt, ↓pLe, ↓pGt, ↓pGe, ↓pOpB, ↓pEq, ↓pNe, ↓pIs0, ↓pIs1, ↓pIs2, ↓pIs3, ↓pIs4, ↓pIn0, ↓pIn1, ↓pIn2, ↓pIn3, ↓pIn4, ↓pLen1, ↓pLen2, ↓pLen3, ↓pInt, ↓pAbs, ↓pTup1, ↓pTup2, ↓pLst1, ↓pLst2, ↓pLst3, ↓pRng, ↓pSl1, ↓pSl2, ↓pSl3, ↓isi_int_non, ↓isi_int_bl, ↓isi_int_int, ↓isi_int_str, ↓isi_int_tup, ↓isi_int_lst, ↓isi_int_dic, ↓isi_bool_non, ↓isi_bool_bl, ↓isi_bool_int, ↓isi_bool_str, ↓isi_bool_tup, ↓isi_bool_lst, ↓isi_bool_dic, ↓isi_str_non, ↓isi_str_bl, ↓isi_str_int, ↓isi_str_str, ↓isi_str_tup, ↓isi_str_lst, ↓isi_str_dic, ↓isi_tuple_non, ↓isi_tuple_bl, ↓isi_tuple_int, ↓isi_tuple_str, ↓isi_tuple_tup, ↓isi_tuple_lst, ↓isi_tuple_dic, ↓isi_list_non, ↓isi_list_bl, ↓isi_list_int, ↓isi_list_str, ↓isi_list_tup, ↓isi_list_lst, ↓isi_list_dic, ↓isi_dict_non, ↓isi_dict_bl, ↓isi_dict_int, ↓isi_dict_str, ↓isi_dict_tup, ↓isi_dict_lst, ↓isi_dict_dic, ↓ixt0, ↓ixt1, ↓ixt2, ↓ixt3, ↓ixt4, ↓ixt5, ↓ixt6, ↓ixt7, ↓ixt8, ↓ixl0, ↓ixl1, ↓ixl2, ↓ixl3, ↓ixl4, ↓ixl5, ↓ixl6, ↓ixl7, ↓ixl8, ↓FX.gp0, ↓FX.gp1, ↓FX.gp2, ↓FX.gp3, ↓FX.gp4, ↓FX.gp5, ↓FX.gp6, ↓FX.gp7, ↓FX.gp8, ↓FX.gp9, ↓FX.gp10, ↓FX.gp11, ↓FX.gp12, ↓FX.gp13, ↓FX.gp14, ↓FX.gp15, ↓FX.gp16, ↓FX.gp17, ↓FX.gp18, ↓FX.gp19, ↓FX.gp20, ↓FX.gp21, ↓FX.gp22, ↓FX.gp23, ↓FX.gp24, ↓FX.gp25, ↓FX.gp26, ↓FX.gp27, ↓FX.gp28, ↓FX.gp29, ↓FX.gp30, ↓FX.gp31, ↓FX.gp32, ↓FX.gp33, ↓FX.sp0, ↓FX.sp1, ↓FX.sp2, ↓FX.sp3, ↓FX.sp4, ↓FX.sp5, ↓FX.sp6, ↓FX.sp7, ↓FX.sp8, ↓FX.sp9, ↓FX.sp10, ↓FX.sp11, ↓FX.sp12, ↓FX.sp13, ↓FX.sp14, ↓FX.sp15, ↓FX.sp16, ↓FX.sp17, ↓FX.sp18, ↓FX.sp19, ↓FX.sp20, ↓FX.sp21, ↓FX.sp22, ↓FX.sp23, ↓FX.sp24, ↓FX.sp25, ↓FX.sp26, ↓FX.sp27, ↓FX.sp28, ↓FX.sp29, ↓FX.sp30, ↓FX.sp31, ↓FX.sp32, ↓FX.sp33, ↓FX.hp0, ↓FX.hp1, ↓FX.hp2, ↓FX.hp3, ↓FX.hp4, ↓FX.wp0, ↓FX.wp1, ↓FX.wp2, ↓FX.wp3, ↓FX.wp4, end_rt, end_nx, ↓tgQ_eq, Bool.not_true, Bool.not_false, and_self, and_true, true_and, ↓pSort]
    refine ⟨isort xs, rfl, ⟨?_, fun x hx => lt x ((isort_perm xs).mem_iff.mp hx), isort_up nd, ?_⟩, hg⟩
    · intro q
      have := (isort_perm xs).length_eq
      rw [q] at this
      exact ne (List.length_eq_zero_iff.mp this.symm)
    · rw [(isort_perm xs).length_eq]; omega
  · rintro i x S hx ⟨xs, y, z, hc, rfl, hg, ne, lt, nd, few⟩
    have hi : i < t.toNat := by
      have := (List.getElem?_eq_some_iff.mp hx).1
      rwa [List.length_range] at this
    obtain ⟨r, hc3, e3, v, rfl, v0, v1, hg3⟩ := (draw_ok G hg (n := p) (by omega) (by omega)).ex
    simp -implicitDefEqProofs (disch := omega) only [↓wp_bnd, ↓wp_ret, ↓wp_vV, ↓wp_vB, ↓wp_vL, ↓wp_hix, ↓wp_b1, ↓wp_b2, ↓wp_ifM, ↓wp_notM, ↓wp_andM, ↓wp_orM, ↓wp_asB, ↓wp_asI, ↓wp_notV, ↓wp_andV, ↓wp_orV, ↓wp_sq0, ↓wp_sq, ↓wp_tupM, ↓wp_frz, ↓wp_chM, ↓wp_sqS, ↓wp_seV, ↓wp_seL, ↓wp_asM, ↓wp_paM, ↓wp_paM3, ↓wp_paR2, ↓wp_paR3, ↓wp_rvM, ↓wp_rlM, ↓rv_v, ↓rv_l, ↓wp_shM, ↓wp_apM, ↓wp_exM, ↓wp_siM, ↓wp_clV, ↓wp_clL, ↓wp_hdM, ↓wp_chV, ↓wp_chL, ↓wp_itM, ↓wp_itA, ↓wp_rg1M, ↓wp_rg2M, ↓wp_zpM, ↓wp_enM, ↓wp_isiM, ↓wp_someM, ↓wp_sl3, ↓wp_frM, ↓wp_lc, ↓wp_agM, ↓wipP1, ↓wipP2, ↓wipP3, ↓bacP1, ↓bacP2, ↓bacP3, ↓spK0, ↓spK1, ↓spK2, ↓foP_ret, ↓rdP_v, ↓rdP_l, ↓lsP_l, ↓blP_bl, ↓inP_int, ↓vlP_val, ↓vlP_own, ↓hdP_hnd, ↓sqP_lst, ↓sqP_tup, ↓sqP_scr, ↓saP_lst, ↓saP_tup, ↓saP_rng, ↓ctP_nx, ↓ctP_rt, ↓ctP_bk, ↓ctP_ct, ↓lpP_nx, ↓lpP_ct, ↓lpP_bk, ↓lpP_rt, ↓zpP_lst, ↓zpP_tup, ↓enP_lst, ↓exP_lst, ↓tgP_V, ↓tgP_T, ↓tgsP_nil, ↓tgsP_cons, ↓rgP_ok, ↓iteP_true, ↓iteP_false, ↓iteP_t, ↓iteP_f, ↓iteP_nt, ↓iteP_nf, ↓hhP_eq, ↓opP_some, ↓pAdd, ↓pSub, ↓pNeg, ↓pMulR, ↓pMulL, ↓pMod, ↓pDiv, ↓p1018, ↓pLt, ↓pLe, ↓pGt, ↓pGe, ↓pOpB, ↓pEq, ↓pNe, ↓pIs0, ↓pIs1, ↓pIs2, ↓pIs3, ↓pIs4, ↓pIn0, ↓pIn1, ↓pIn2, ↓pIn3, ↓pIn4, ↓pLen1, ↓pLen2, ↓pLen3, ↓pInt, ↓pAbs, ↓pTup1, ↓pTup2, ↓pLst1, ↓pLst2, ↓pLst3, ↓pRng, ↓pSl1, ↓pSl2, ↓pSl3, ↓isi_int_non, ↓isi_int_bl, ↓isi_int_int, ↓isi_int_str, ↓isi_int_tup, ↓isi_int_lst, ↓isi_int_dic, ↓isi_bool_non, ↓isi_bool_bl, ↓isi_bool_int, ↓isi_bool_str, ↓isi_bool_tup, ↓isi_bool_lst, ↓isi_bool_dic, ↓isi_str_non, ↓isi_str_bl, ↓isi_str_int, ↓isi_str_str, ↓isi_str_tup, ↓isi_str_lst, ↓isi_str_dic, ↓isi_tuple_non, ↓isi_tuple_bl, ↓isi_tuple_int, ↓isi_tuple_str, ↓isi_tuple_tup, ↓isi_tuple_lst, ↓isi_tuple_dic, ↓isi_list_non, ↓isi_list_bl, ↓isi_list_int, ↓isi_list_str, ↓isi_list_tup, ↓isi_list_lst, ↓isi_list_dic, ↓isi_dict_non, ↓isi_dict_bl, ↓isi_dict_int, ↓isi_dict_str, ↓isi_dict_tup, ↓isi_dict_lst, ↓isi_dict_dic, ↓ixt0, ↓ixt1, ↓ixt2, ↓ixt3, ↓ixt4, ↓ixt5, ↓ixt6, ↓ixt7, ↓ixt8, ↓ixl0, ↓ixl1, ↓ixl2, ↓ixl3, ↓ixl4, ↓ixl5, ↓ixl6, ↓ixl7, ↓ixl8, ↓FX.gp0, ↓FX.gp1, ↓FX.gp2, ↓FX.gp3, ↓FX.gp4, ↓FX.gp5, ↓FX.gp6, ↓FX.gp7, ↓FX.gp8, ↓FX.gp9, ↓FX.gp10, ↓FX.gp11, ↓FX.gp12, ↓FX.gp13, ↓FX.gp14, ↓FX.gp15, ↓FX.gp16, ↓FX.gp17, ↓FX.gp18, ↓FX.gp19, ↓FX.gp20, ↓FX.gp21, ↓FX.gp22, ↓FX.gp23, ↓FX.gp24, ↓FX.gp25, ↓FX.gp26, ↓FX.gp27, ↓FX.gp28, ↓FX.gp29, ↓FX.gp30, ↓FX.gp31, ↓FX.gp32, ↓FX.gp33, ↓FX.sp0, ↓FX.sp1, ↓FX.sp2, ↓FX.sp3, ↓FX.sp4, ↓FX.sp5, ↓FX.sp6, ↓FX.sp7, ↓FX.sp8, ↓FX.sp9, ↓FX.sp10, ↓FX.sp11, ↓FX.sp12, ↓FX.sp13, ↓FX.sp14, ↓FX.sp15, ↓FX.sp16, ↓FX.sp17, ↓FX.sp18, ↓FX.sp19, ↓FX.sp20, ↓FX.sp21, ↓FX.sp22, ↓FX.sp23, ↓FX.sp24, ↓FX.sp25, ↓FX.sp26, ↓FX.sp27, ↓FX.sp28, ↓FX.sp29, ↓FX.sp30, ↓FX.sp31, ↓FX.sp32, ↓FX.sp33, ↓FX.hp0, ↓FX.hp1, ↓FX.hp2, ↓FX.hp3, ↓FX.hp4, ↓FX.wp0, ↓FX.wp1, ↓FX.wp2, ↓FX.wp3, ↓FX.wp4, end_rt, end_nx, ↓tgQ_eq, Bool.not_true, Bool.not_false, and_self, and_true, true_and, ↓foP_of e3, ↓pHas2, ↓iteP_not, List.length_map]
    refine iteP_dec (fun _ => ⟨xs, _, _, hc3, rfl, hg3, ne, lt, nd, by omega⟩) fun hn => ?_
    refine ⟨by rw [sizeLine_eq]; omega, xs ++ [v], _, _, hc3, by rw [List.map_append]; rfl, hg3, by simp, fun x hx => ?_, ?_, by simp; omega⟩
    · rcases List.mem_append.mp hx with q | q
      · exact lt x q
      · rw [List.mem_singleton.mp q]; exact ⟨v0, v1⟩
    · rw [List.nodup_append]
      exact ⟨nd, by simp, fun a ha b hb => by rw [List.mem_singleton.mp hb]; exact fun q => hn (by rw [← q]; exact ha)⟩
theorem hub_ok (G : Txt K mg) {hc : List D} (h : GoodH hc) : foP (r__law_hub G hc []) fun r hc' => ∃ p ls, r = .v (hubD p ls) ∧ Hub p ls ∧ p ≤ 30 ∧ GoodH hc' := by
  refine runH_of ⟨[.hnd, .un, .un, .un], hc⟩ rfl ?_
  obtain ⟨r, hc1, e1, d, hd, rfl, hg1⟩ := (some_ok G h (ds := [.int 4, .int 30]) (by simp) (by simp)).ex
  obtain ⟨n, rfl, n0, n1⟩ : ∃ n : Int, d = .int n ∧ 4 ≤ n ∧ n ≤ 30 := by
    rcases List.mem_cons.mp hd with e | e
    · exact ⟨4, e, by omega, by omega⟩
    · exact ⟨30, List.mem_singleton.mp e, by omega, by omega⟩
  obtain ⟨r, hc2, e2, k, rfl, k0, k1, hg2⟩ := (draw_ok G hg1 (n := n) (by omega) (by omega)).ex
  obtain ⟨r, hc3, e3, t, rfl, t0, t1, hg3⟩ := (draw_ok G hg2 (n := 4) (by omega) (by omega)).ex
  unfold m__law_hub
  simp -implicitDefEqProofs (disch := omega) only [↓wp_bnd, ↓wp_ret, ↓wp_vV, ↓wp_vB, ↓wp_vL, ↓wp_hix, ↓wp_b1, ↓wp_b2, ↓wp_ifM, ↓wp_notM, ↓wp_andM, ↓wp_orM, ↓wp_asB, ↓wp_asI, ↓wp_notV, ↓wp_andV, ↓wp_orV, ↓wp_sq0, ↓wp_sq, ↓wp_tupM, ↓wp_frz, ↓wp_chM, ↓wp_sqS, ↓wp_seV, ↓wp_seL, ↓wp_asM, ↓wp_paM, ↓wp_paM3, ↓wp_paR2, ↓wp_paR3, ↓wp_rvM, ↓wp_rlM, ↓rv_v, ↓rv_l, ↓wp_shM, ↓wp_apM, ↓wp_exM, ↓wp_siM, ↓wp_clV, ↓wp_clL, ↓wp_hdM, ↓wp_chV, ↓wp_chL, ↓wp_itM, ↓wp_itA, ↓wp_rg1M, ↓wp_rg2M, ↓wp_zpM, ↓wp_enM, ↓wp_isiM, ↓wp_someM, ↓wp_sl3, ↓wp_frM, ↓wp_lc, ↓wp_agM, ↓wipP1, ↓wipP2, ↓wipP3, ↓bacP1, ↓bacP2, ↓bacP3, ↓spK0, ↓spK1, ↓spK2, ↓foP_ret, ↓rdP_v, ↓rdP_l, ↓lsP_l, ↓blP_bl, ↓inP_int, ↓vlP_val, ↓vlP_own, ↓hdP_hnd, ↓sqP_lst, ↓sqP_tup, ↓sqP_scr, ↓saP_lst, ↓saP_tup, ↓saP_rng, ↓ctP_nx, ↓ctP_rt, ↓ctP_bk, ↓ctP_ct, ↓lpP_nx, ↓lpP_ct, ↓lpP_bk, ↓lpP_rt, ↓zpP_lst, ↓zpP_tup, ↓enP_lst, ↓exP_lst, ↓tgP_V, ↓tgP_T, ↓tgsP_nil, ↓tgsP_cons, ↓rgP_ok, ↓iteP_true, ↓iteP_false, ↓iteP_t, ↓iteP_f, ↓iteP_nt, ↓iteP_nf, ↓hhP_eq, ↓opP_some, ↓pAdd, ↓pSub, ↓pNeg, ↓pMulR, ↓pMulL, ↓pMod, ↓pDiv, ↓p1018, ↓pLt, ↓pLe, ↓pGt, ↓pGe, ↓pOpB, ↓pEq, ↓pNe, ↓pIs0, ↓pIs1, ↓pIs2, ↓pIs3, ↓pIs4, ↓pIn0, ↓pIn1, ↓pIn2, ↓pIn3, ↓pIn4, ↓pLen1, ↓pLen2, ↓pLen3, ↓pInt, ↓pAbs, ↓pTup1, ↓pTup2, ↓pLst1, ↓pLst2, ↓pLst3, ↓pRng, ↓pSl1, ↓pSl2, ↓pSl3, ↓isi_int_non, ↓isi_int_bl, ↓isi_int_int, ↓isi_int_str, ↓isi_int_tup, ↓isi_int_lst, ↓isi_int_dic, ↓isi_bool_non, ↓isi_bool_bl, ↓isi_bool_int, ↓isi_bool_str, ↓isi_bool_tup, ↓isi_bool_lst, ↓isi_bool_dic, ↓isi_str_non, ↓isi_str_bl, ↓isi_str_int, ↓isi_str_str, ↓isi_str_tup, ↓isi_str_lst, ↓isi_str_dic, ↓isi_tuple_non, ↓isi_tuple_bl, ↓isi_tuple_int, ↓isi_tuple_str, ↓isi_tuple_tup, ↓isi_tuple_lst, ↓isi_tuple_dic, ↓isi_list_non, ↓isi_list_bl, ↓isi_list_int, ↓isi_list_str, ↓isi_list_tup, ↓isi_list_lst, ↓isi_list_dic, ↓isi_dict_non, ↓isi_dict_bl, ↓isi_dict_int, ↓isi_dict_str, ↓isi_dict_tup, ↓isi_dict_lst, ↓isi_dict_dic, ↓ixt0, ↓ixt1, ↓ixt2, ↓ixt3, ↓ixt4, ↓ixt5, ↓ixt6, ↓ixt7, ↓ixt8, ↓ixl0, ↓ixl1, ↓ixl2, ↓ixl3, ↓ixl4, ↓ixl5, ↓ixl6, ↓ixl7, ↓ixl8, ↓FX.gp0, ↓FX.gp1, ↓FX.gp2, ↓FX.gp3, ↓FX.gp4, ↓FX.gp5, ↓FX.gp6, ↓FX.gp7, ↓FX.gp8, ↓FX.gp9, ↓FX.gp10, ↓FX.gp11, ↓FX.gp12, ↓FX.gp13, ↓FX.gp14, ↓FX.gp15, ↓FX.gp16, ↓FX.gp17, ↓FX.gp18, ↓FX.gp19, ↓FX.gp20, ↓FX.gp21, ↓FX.gp22, ↓FX.gp23, ↓FX.gp24, ↓FX.gp25, ↓FX.gp26, ↓FX.gp27, ↓FX.gp28, ↓FX.gp29, ↓FX.gp30, ↓FX.gp31, ↓FX.gp32, ↓FX.gp33, ↓FX.sp0, ↓FX.sp1, ↓FX.sp2, ↓FX.sp3, ↓FX.sp4, ↓FX.sp5, ↓FX.sp6, ↓FX.sp7, ↓FX.sp8, ↓FX.sp9, ↓FX.sp10, ↓FX.sp11, ↓FX.sp12, ↓FX.sp13, ↓FX.sp14, ↓FX.sp15, ↓FX.sp16, ↓FX.sp17, ↓FX.sp18, ↓FX.sp19, ↓FX.sp20, ↓FX.sp21, ↓FX.sp22, ↓FX.sp23, ↓FX.sp24, ↓FX.sp25, ↓FX.sp26, ↓FX.sp27, ↓FX.sp28, ↓FX.sp29, ↓FX.sp30, ↓FX.sp31, ↓FX.sp32, ↓FX.sp33, ↓FX.hp0, ↓FX.hp1, ↓FX.hp2, ↓FX.hp3, ↓FX.hp4, ↓FX.wp0, ↓FX.wp1, ↓FX.wp2, ↓FX.wp3, ↓FX.wp4, end_rt, end_nx, ↓tgQ_eq, Bool.not_true, Bool.not_false, and_self, and_true, true_and, ↓foP_of e1, ↓foP_of e2, ↓foP_of e3]
  rw [rngD0]
  refine wp_frT (enc := fun i : Nat => D.int i) (fun i S => ∃ (ls : List Line) (y : Sl) (hc : List D), S = ⟨[.hnd, .val (.int (1 + k)), .own (ls.map lineD), y], hc⟩ ∧ GoodH hc ∧ ls.length = i ∧ ∀ l ∈ ls, Lot (1 + k) l.1 ∧ Lot (1 + k) l.2)
    ⟨[], .un, hc3, rfl, hg3, rfl, fun l hl => by cases hl⟩ ?_ ?_
  · rintro S ⟨ls, y, hc, rfl, hg, len, lots⟩
    rw [List.length_range] at len
    simp -implicitDefEqProofs (disch := omega) only [↓wp_bnd, ↓wp_ret, ↓wp_vV, ↓wp_vB, ↓wp_vL, ↓wp_hix, ↓wp_b1, ↓wp_b2, ↓wp_ifM, ↓wp_notM, ↓wp_andM, ↓wp_orM, ↓wp_asB, ↓wp_asI, ↓wp_notV, ↓wp_andV, ↓wp_orV, ↓wp_sq0, ↓wp_sq, ↓wp_tupM, ↓wp_frz, ↓wp_chM, ↓wp_sqS, ↓wp_seV, ↓wp_seL, ↓wp_asM, ↓wp_paM, ↓wp_paM3, ↓wp_paR2, ↓wp_paR3, ↓wp_rvM, ↓wp_rlM, ↓rv_v, ↓rv_l, ↓wp_shM, ↓wp_apM, ↓wp_exM, ↓wp_siM, ↓wp_clV, ↓wp_clL, ↓wp_hdM, ↓wp_chV, ↓wp_chL, ↓wp_itM, ↓wp_itA, ↓wp_rg1M, ↓wp_rg2M, ↓wp_zpM, ↓wp_enM, ↓wp_isiM, ↓wp_someM, ↓wp_sl3, ↓wp_frM, ↓wp_lc, ↓wp_agM, ↓wipP1, ↓wipP2, ↓wipP3, ↓bacP1, ↓bacP2, ↓bacP3, ↓spK0, ↓spK1, ↓spK2, ↓foP_ret, ↓rdP_v, ↓rdP_l, ↓lsP_l, ↓blP_bl, ↓inP_int, ↓vlP_val, ↓vlP_own, ↓hdP_hnd, ↓sqP_lst, ↓sqP_tup, ↓sqP_scr, ↓saP_lst, ↓saP_tup, ↓saP_rng, ↓ctP_nx, ↓ctP_rt, ↓ctP_bk, ↓ctP_ct, ↓lpP_nx, ↓lpP_ct, ↓lpP_bk, ↓lpP_rt, ↓zpP_lst, ↓zpP_tup, ↓enP_lst, ↓exP_lst, ↓tgP_V, ↓tgP_T, ↓tgsP_nil, ↓tgsP_cons, ↓rgP_ok, ↓iteP_true, ↓iteP_false, ↓iteP_t, ↓iteP_f, ↓iteP_nt, ↓iteP_nf, ↓hhP_eq, ↓opP_some, ↓pAdd, ↓pSub, ↓pNeg, ↓pMulR, ↓pMulL, ↓pMod, ↓pDiv, ↓p1018, ↓pLt, ↓pLe, ↓pGt, ↓pGe, ↓pOpB, ↓pEq, ↓pNe, ↓pIs0, ↓pIs1, ↓pIs2, ↓pIs3, ↓pIs4, ↓pIn0, ↓pIn1, ↓pIn2, ↓pIn3, ↓pIn4, ↓pLen1, ↓pLen2, ↓pLen3, ↓pInt, ↓pAbs, ↓pTup1, ↓pTup2, ↓pLst1, ↓pLst2, ↓pLst3, ↓pRng, ↓pSl1, ↓pSl2, ↓pSl3, ↓isi_int_non, ↓isi_int_bl, ↓isi_int_int, ↓isi_int_str, ↓isi_int_tup, ↓isi_int_lst, ↓isi_int_dic, ↓isi_bool_non, ↓isi_bool_bl, ↓isi_bool_int, ↓isi_bool_str, ↓isi_bool_tup, ↓isi_bool_lst, ↓isi_bool_dic, ↓isi_str_non, ↓isi_str_bl, ↓isi_str_int, ↓isi_str_str, ↓isi_str_tup, ↓isi_str_lst, ↓isi_str_dic, ↓isi_tuple_non, ↓isi_tuple_bl, ↓isi_tuple_int, ↓isi_tuple_str, ↓isi_tuple_tup, ↓isi_tuple_lst, ↓isi_tuple_dic, ↓isi_list_non, ↓isi_list_bl, ↓isi_list_int, ↓isi_list_str, ↓isi_list_tup, ↓isi_list_lst, ↓isi_list_dic, ↓isi_dict_non, ↓isi_dict_bl, ↓isi_dict_int, ↓isi_dict_str, ↓isi_dict_tup, ↓isi_dict_lst, ↓isi_dict_dic, ↓ixt0, ↓ixt1, ↓ixt2, ↓ixt3, ↓ixt4, ↓ixt5, ↓ixt6, ↓ixt7, ↓ixt8, ↓ixl0, ↓ixl1, ↓ixl2, ↓ixl3, ↓ixl4, ↓ixl5, ↓ixl6, ↓ixl7, ↓ixl8, ↓FX.gp0, ↓FX.gp1, ↓FX.gp2, ↓FX.gp3, ↓FX.gp4, ↓FX.gp5, ↓FX.gp6, ↓FX.gp7, ↓FX.gp8, ↓FX.gp9, ↓FX.gp10, ↓FX.gp11, ↓FX.gp12, ↓FX.gp13, ↓FX.gp14, ↓FX.gp15, ↓FX.gp16, ↓FX.gp17, ↓FX.gp18, ↓FX.gp19, ↓FX.gp20, ↓FX.gp21, ↓FX.gp22, ↓FX.gp23, ↓FX.gp24, ↓FX.gp25, ↓FX.gp26, ↓FX.gp27, ↓FX.gp28, ↓FX.gp29, ↓FX.gp30, ↓FX.gp31, ↓FX.gp32, ↓FX.gp33, ↓FX.sp0, ↓FX.sp1, ↓FX.sp2, ↓FX.sp3, ↓FX.sp4, ↓FX.sp5, ↓FX.sp6, ↓FX.sp7, ↓FX.sp8, ↓FX.sp9, ↓FX.sp10, ↓FX.sp11, ↓FX.sp12, ↓FX.sp13, ↓FX.sp14, ↓FX.sp15, ↓FX.sp16, ↓FX.sp17, ↓FX.sp18, ↓FX.sp19, ↓FX.sp20, ↓FX.sp21, ↓FX.sp22, ↓FX.sp23, ↓FX.sp24, ↓FX.sp25, ↓FX.sp26, ↓FX.sp27, ↓FX.sp28, ↓FX.sp29, ↓FX.sp30, ↓FX.sp31, ↓FX.sp32, ↓FX.sp33, ↓FX.hp0, ↓FX.hp1, ↓FX.hp2, ↓FX.hp3, ↓FX.hp4, ↓FX.wp0, ↓FX.wp1, ↓FX.wp2, ↓FX.wp3, ↓FX.wp4, end_rt, end_nx, ↓tgQ_eq, Bool.not_true, Bool.not_false, and_self, and_true, true_and]
    exact ⟨1 + k, ls, rfl, ⟨by omega, by omega, by omega, by omega, lots⟩, by omega, hg⟩
  · rintro i x S hx ⟨ls, y, hc, rfl, hg, len, lots⟩
    have hi : i < (2 + t).toNat := by
      have := (List.getElem?_eq_some_iff.mp hx).1
      rwa [List.length_range] at this
    obtain ⟨r, hc4, e4, xs, rfl, lx, hg4⟩ := (lot_ok G hg (p := 1 + k) (by omega) (by omega)).ex
    obtain ⟨r, hc5, e5, ys, rfl, ly, hg5⟩ := (lot_ok G hg4 (p := 1 + k) (by omega) (by omega)).ex
    simp -implicitDefEqProofs (disch := omega) only [↓wp_bnd, ↓wp_ret, ↓wp_vV, ↓wp_vB, ↓wp_vL, ↓wp_hix, ↓wp_b1, ↓wp_b2, ↓wp_ifM, ↓wp_notM, ↓wp_andM, ↓wp_orM, ↓wp_asB, ↓wp_asI, ↓wp_notV, ↓wp_andV, ↓wp_orV, ↓wp_sq0, ↓wp_sq, ↓wp_tupM, ↓wp_frz, ↓wp_chM, ↓wp_sqS, ↓wp_seV, ↓wp_seL, ↓wp_asM, ↓wp_paM, ↓wp_paM3, ↓wp_paR2, ↓wp_paR3, ↓wp_rvM, ↓wp_rlM, ↓rv_v, ↓rv_l, ↓wp_shM, ↓wp_apM, ↓wp_exM, ↓wp_siM, ↓wp_clV, ↓wp_clL, ↓wp_hdM, ↓wp_chV, ↓wp_chL, ↓wp_itM, ↓wp_itA, ↓wp_rg1M, ↓wp_rg2M, ↓wp_zpM, ↓wp_enM, ↓wp_isiM, ↓wp_someM, ↓wp_sl3, ↓wp_frM, ↓wp_lc, ↓wp_agM, ↓wipP1, ↓wipP2, ↓wipP3, ↓bacP1, ↓bacP2, ↓bacP3, ↓spK0, ↓spK1, ↓spK2, ↓foP_ret, ↓rdP_v, ↓rdP_l, ↓lsP_l, ↓blP_bl, ↓inP_int, ↓vlP_val, ↓vlP_own, ↓hdP_hnd, ↓sqP_lst, ↓sqP_tup, ↓sqP_scr, ↓saP_lst, ↓saP_tup, ↓saP_rng, ↓ctP_nx, ↓ctP_rt, ↓ctP_bk, ↓ctP_ct, ↓lpP_nx, ↓lpP_ct, ↓lpP_bk, ↓lpP_rt, ↓zpP_lst, ↓zpP_tup, ↓enP_lst, ↓exP_lst, ↓tgP_V, ↓tgP_T, ↓tgsP_nil, ↓tgsP_cons, ↓rgP_ok, ↓iteP_true, ↓iteP_false, ↓iteP_t, ↓iteP_f, ↓iteP_nt, ↓iteP_nf, ↓hhP_eq, ↓opP_some, ↓pAdd, ↓pSub, ↓pNeg, ↓pMulR, ↓pMulL, ↓pMod, ↓pDiv, ↓p1018, ↓pLt, ↓pLe, ↓pGt, ↓pGe, ↓pOpB, ↓pEq, ↓pNe, ↓pIs0, ↓pIs1, ↓pIs2, ↓pIs3, ↓pIs4, ↓pIn0, ↓pIn1, ↓pIn2, ↓pIn3, ↓pIn4, ↓pLen1, ↓pLen2, ↓pLen3, ↓pInt, ↓pAbs, ↓pTup1, ↓pTup2, ↓pLst1, ↓pLst2, ↓pLst3, ↓pRng, ↓pSl1, ↓pSl2, ↓pSl3, ↓isi_int_non, ↓isi_int_bl, ↓isi_int_int, ↓isi_int_str, ↓isi_int_tup, ↓isi_int_lst, ↓isi_int_dic, ↓isi_bool_non, ↓isi_bool_bl, ↓isi_bool_int, ↓isi_bool_str, ↓isi_bool_tup, ↓isi_bool_lst, ↓isi_bool_dic, ↓isi_str_non, ↓isi_str_bl, ↓isi_str_int, ↓isi_str_str, ↓isi_str_tup, ↓isi_str_lst, ↓isi_str_dic, ↓isi_tuple_non, ↓isi_tuple_bl, ↓isi_tuple_int, ↓isi_tuple_str, ↓isi_tuple_tup, ↓isi_tuple_lst, ↓isi_tuple_dic, ↓isi_list_non, ↓isi_list_bl, ↓isi_list_int, ↓isi_list_str, ↓isi_list_tup, ↓isi_list_lst, ↓isi_list_dic, ↓isi_dict_non, ↓isi_dict_bl, ↓isi_dict_int, ↓isi_dict_str, ↓isi_dict_tup, ↓isi_dict_lst, ↓isi_dict_dic, ↓ixt0, ↓ixt1, ↓ixt2, ↓ixt3, ↓ixt4, ↓ixt5, ↓ixt6, ↓ixt7, ↓ixt8, ↓ixl0, ↓ixl1, ↓ixl2, ↓ixl3, ↓ixl4, ↓ixl5, ↓ixl6, ↓ixl7, ↓ixl8, ↓FX.gp0, ↓FX.gp1, ↓FX.gp2, ↓FX.gp3, ↓FX.gp4, ↓FX.gp5, ↓FX.gp6, ↓FX.gp7, ↓FX.gp8, ↓FX.gp9, ↓FX.gp10, ↓FX.gp11, ↓FX.gp12, ↓FX.gp13, ↓FX.gp14, ↓FX.gp15, ↓FX.gp16, ↓FX.gp17, ↓FX.gp18, ↓FX.gp19, ↓FX.gp20, ↓FX.gp21, ↓FX.gp22, ↓FX.gp23, ↓FX.gp24, ↓FX.gp25, ↓FX.gp26, ↓FX.gp27, ↓FX.gp28, ↓FX.gp29, ↓FX.gp30, ↓FX.gp31, ↓FX.gp32, ↓FX.gp33, ↓FX.sp0, ↓FX.sp1, ↓FX.sp2, ↓FX.sp3, ↓FX.sp4, ↓FX.sp5, ↓FX.sp6, ↓FX.sp7, ↓FX.sp8, ↓FX.sp9, ↓FX.sp10, ↓FX.sp11, ↓FX.sp12, ↓FX.sp13, ↓FX.sp14, ↓FX.sp15, ↓FX.sp16, ↓FX.sp17, ↓FX.sp18, ↓FX.sp19, ↓FX.sp20, ↓FX.sp21, ↓FX.sp22, ↓FX.sp23, ↓FX.sp24, ↓FX.sp25, ↓FX.sp26, ↓FX.sp27, ↓FX.sp28, ↓FX.sp29, ↓FX.sp30, ↓FX.sp31, ↓FX.sp32, ↓FX.sp33, ↓FX.hp0, ↓FX.hp1, ↓FX.hp2, ↓FX.hp3, ↓FX.hp4, ↓FX.wp0, ↓FX.wp1, ↓FX.wp2, ↓FX.wp3, ↓FX.wp4, end_rt, end_nx, ↓tgQ_eq, Bool.not_true, Bool.not_false, and_self, and_true, true_and, ↓foP_of e4, ↓foP_of e5, List.length_map]
    refine ⟨by rw [sizeLine_eq]; omega, ls ++ [(xs, ys)], _, hc5, by rw [List.map_append]; rfl, hg5, by simp; omega, fun l hl => ?_⟩
    rcases List.mem_append.mp hl with q | q
    · exact lots l q
    · rw [List.mem_singleton.mp q]; exact ⟨lx, ly⟩

end
end FX.K71

set_option Elab.async false
set_option linter.all false
set_option maxRecDepth 100000
set_option maxHeartbeats 4000000
namespace FX.K71
open PySem PySem.Spec PyProof.Rows L2 LamX FX
section
variable {K : PySem.W.Frag} {mg : Str → Option Value}
/-! ### the law's waits -/
theorem law_waits_ok (G : Txt K mg) {p c : Int} {ls : List Line} {i j : Nat} (hp : 0 < p) (hi : i < ls.length) (hj : j < ls.length) (ni : (ln ls i).1.length ≤ 1000) (nj : (ln ls j).2.length ≤ 1000) (ne : (ln ls j).2 ≠ []) :
    r__law_waits G [hubD p ls, .int c, .int i, .int j] = .ret (.v (.tup ((WW p c 0 ls i j).map .int))) [] := by
  refine runP_of ⟨[.val (hubD p ls), .val (.int c), .val (.int i), .val (.int j), .un, .un, .un, .un, .un], []⟩ rfl ?_
  unfold m__law_waits hubD
  simp -implicitDefEqProofs (disch := omega) only [↓wp_bnd, ↓wp_ret, ↓wp_vV, ↓wp_vB, ↓wp_vL, ↓wp_hix, ↓wp_b1, ↓wp_b2, ↓wp_ifM, ↓wp_notM, ↓wp_andM, ↓wp_orM, ↓wp_asB, ↓wp_asI, ↓wp_notV, ↓wp_andV, ↓wp_orV, ↓wp_sq0, ↓wp_sq, ↓wp_tupM, ↓wp_frz, ↓wp_chM, ↓wp_sqS, ↓wp_seV, ↓wp_seL, ↓wp_asM, ↓wp_paM, ↓wp_paM3, ↓wp_paR2, ↓wp_paR3, ↓wp_rvM, ↓wp_rlM, ↓rv_v, ↓rv_l, ↓wp_shM, ↓wp_apM, ↓wp_exM, ↓wp_siM, ↓wp_clV, ↓wp_clL, ↓wp_hdM, ↓wp_chV, ↓wp_chL, ↓wp_itM, ↓wp_itA, ↓wp_rg1M, ↓wp_rg2M, ↓wp_zpM, ↓wp_enM, ↓wp_isiM, ↓wp_someM, ↓wp_sl3, ↓wp_frM, ↓wp_lc, ↓wp_agM, ↓wipP1, ↓wipP2, ↓wipP3, ↓bacP1, ↓bacP2, ↓bacP3, ↓spK0, ↓spK1, ↓spK2, ↓foP_ret, ↓rdP_v, ↓rdP_l, ↓lsP_l, ↓blP_bl, ↓inP_int, ↓vlP_val, ↓vlP_own, ↓hdP_hnd, ↓sqP_lst, ↓sqP_tup, ↓sqP_scr, ↓saP_lst, ↓saP_tup, ↓saP_rng, ↓ctP_nx, ↓ctP_rt, ↓ctP_bk, ↓ctP_ct, ↓lpP_nx, ↓lpP_ct, ↓lpP_bk, ↓lpP_rt, ↓zpP_lst, ↓zpP_tup, ↓enP_lst, ↓exP_lst, ↓tgP_V, ↓tgP_T, ↓tgsP_nil, ↓tgsP_cons, ↓rgP_ok, ↓iteP_true, ↓iteP_false, ↓iteP_t, ↓iteP_f, ↓iteP_nt, ↓iteP_nf, ↓hhP_eq, ↓opP_some, ↓pAdd, ↓pSub, ↓pNeg, ↓pMulR, ↓pMulL, ↓pMod, ↓pDiv, ↓p1018, ↓pLt, ↓pLe, ↓pGt, ↓pGe, ↓pOpB, ↓pEq, ↓pNe, ↓pIs0, ↓pIs1, ↓pIs2, ↓pIs3, ↓pIs4, ↓pIn0, ↓pIn1, ↓pIn2, ↓pIn3, ↓pIn4, ↓pLen1, ↓pLen2, ↓pLen3, ↓pInt, ↓pAbs, ↓pTup1, ↓pTup2, ↓pLst1, ↓pLst2, ↓pLst3, ↓pRng, ↓pSl1, ↓pSl2, ↓pSl3, ↓isi_int_non, ↓isi_int_bl, ↓isi_int_int, ↓isi_int_str, ↓isi_int_tup, ↓isi_int_lst, ↓isi_int_dic, ↓isi_bool_non, ↓isi_bool_bl, ↓isi_bool_int, ↓isi_bool_str, ↓isi_bool_tup, ↓isi_bool_lst, ↓isi_bool_dic, ↓isi_str_non, ↓isi_str_bl, ↓isi_str_int, ↓isi_str_str, ↓isi_str_tup, ↓isi_str_lst, ↓isi_str_dic, ↓isi_tuple_non, ↓isi_tuple_bl, ↓isi_tuple_int, ↓isi_tuple_str, ↓isi_tuple_tup, ↓isi_tuple_lst, ↓isi_tuple_dic, ↓isi_list_non, ↓isi_list_bl, ↓isi_list_int, ↓isi_list_str, ↓isi_list_tup, ↓isi_list_lst, ↓isi_list_dic, ↓isi_dict_non, ↓isi_dict_bl, ↓isi_dict_int, ↓isi_dict_str, ↓isi_dict_tup, ↓isi_dict_lst, ↓isi_dict_dic, ↓ixt0, ↓ixt1, ↓ixt2, ↓ixt3, ↓ixt4, ↓ixt5, ↓ixt6, ↓ixt7, ↓ixt8, ↓ixl0, ↓ixl1, ↓ixl2, ↓ixl3, ↓ixl4, ↓ixl5, ↓ixl6, ↓ixl7, ↓ixl8, ↓FX.gp0, ↓FX.gp1, ↓FX.gp2, ↓FX.gp3, ↓FX.gp4, ↓FX.gp5, ↓FX.gp6, ↓FX.gp7, ↓FX.gp8, ↓FX.gp9, ↓FX.gp10, ↓FX.gp11, ↓FX.gp12, ↓FX.gp13, ↓FX.gp14, ↓FX.gp15, ↓FX.gp16, ↓FX.gp17, ↓FX.gp18, ↓FX.gp19, ↓FX.gp20, ↓FX.gp21, ↓FX.gp22, ↓FX.gp23, ↓FX.gp24, ↓FX.gp25, ↓FX.gp26, ↓FX.gp27, ↓FX.gp28, ↓FX.gp29, ↓FX.gp30, ↓FX.gp31, ↓FX.gp32, ↓FX.gp33, ↓FX.sp0, ↓FX.sp1, ↓FX.sp2, ↓FX.sp3, ↓FX.sp4, ↓FX.sp5, ↓FX.sp6, ↓FX.sp7, ↓FX.sp8, ↓FX.sp9, ↓FX.sp10, ↓FX.sp11, ↓FX.sp12, ↓FX.sp13, ↓FX.sp14, ↓FX.sp15, ↓FX.sp16, ↓FX.sp17, ↓FX.sp18, ↓FX.sp19, ↓FX.sp20, ↓FX.sp21, ↓FX.sp22, ↓FX.sp23, ↓FX.sp24, ↓FX.sp25, ↓FX.sp26, ↓FX.sp27, ↓FX.sp28, ↓FX.sp29, ↓FX.sp30, ↓FX.sp31, ↓FX.sp32, ↓FX.sp33, ↓FX.hp0, ↓FX.hp1, ↓FX.hp2, ↓FX.hp3, ↓FX.hp4, ↓FX.wp0, ↓FX.wp1, ↓FX.wp2, ↓FX.wp3, ↓FX.wp4, end_rt, end_nx, ↓tgQ_eq, Bool.not_true, Bool.not_false, and_self, and_true, true_and, ↓pIxT (line_at (ln_at hi)) rfl, ↓lx0]
  refine wp_frT (enc := D.int) (fun k S => ∃ z, S = ⟨[.val (.tup [.int p, .tup (ls.map lineD)]), .val (.int c), .val (.int i), .val (.int j), .val (.int p), .val (.tup (ls.map lineD)), .own ((((ln ls i).1.take k).map (wt p c 0 (ln ls j).2)).map .int), z, .un], []⟩) ⟨.un, rfl⟩ ?_ ?_
  · rintro S ⟨z, rfl⟩
    simp -implicitDefEqProofs (disch := omega) only [↓wp_bnd, ↓wp_ret, ↓wp_vV, ↓wp_vB, ↓wp_vL, ↓wp_hix, ↓wp_b1, ↓wp_b2, ↓wp_ifM, ↓wp_notM, ↓wp_andM, ↓wp_orM, ↓wp_asB, ↓wp_asI, ↓wp_notV, ↓wp_andV, ↓wp_orV, ↓wp_sq0, ↓wp_sq, ↓wp_tupM, ↓wp_frz, ↓wp_chM, ↓wp_sqS, ↓wp_seV, ↓wp_seL, ↓wp_asM, ↓wp_paM, ↓wp_paM3, ↓wp_paR2, ↓wp_paR3, ↓wp_rvM, ↓wp_rlM, ↓rv_v, ↓rv_l, ↓wp_shM, ↓wp_apM, ↓wp_exM, ↓wp_siM, ↓wp_clV, ↓wp_clL, ↓wp_hdM, ↓wp_chV, ↓wp_chL, ↓wp_itM, ↓wp_itA, ↓wp_rg1M, ↓wp_rg2M, ↓wp_zpM, ↓wp_enM, ↓wp_isiM, ↓wp_someM, ↓wp_sl3, ↓wp_frM, ↓wp_lc, ↓wp_agM, ↓wipP1, ↓wipP2, ↓wipP3, ↓bacP1, ↓bacP2, ↓bacP3, ↓spK0, ↓spK1, ↓spK2, ↓foP_ret, ↓rdP_v, ↓rdP_l, ↓lsP_l, ↓blP_bl, ↓inP_int, ↓vlP_val, ↓vlP_own, ↓hdP_hnd, ↓sqP_lst, ↓sqP_tup, ↓sqP_scr, ↓saP_lst, ↓saP_tup, ↓saP_rng, ↓ctP_nx, ↓ctP_rt, ↓ctP_bk, ↓ctP_ct, ↓lpP_nx, ↓lpP_ct, ↓lpP_bk, ↓lpP_rt, ↓zpP_lst, ↓zpP_tup, ↓enP_lst, ↓exP_lst, ↓tgP_V, ↓tgP_T, ↓tgsP_nil, ↓tgsP_cons, ↓rgP_ok, ↓iteP_true, ↓iteP_false, ↓iteP_t, ↓iteP_f, ↓iteP_nt, ↓iteP_nf, ↓hhP_eq, ↓opP_some, ↓pAdd, ↓pSub, ↓pNeg, ↓pMulR, ↓pMulL, ↓pMod, ↓pDiv, ↓p1018, ↓pLt, ↓pLe, ↓pGt, ↓pGe, ↓pOpB, ↓pEq, ↓pNe, ↓pIs0, ↓pIs1, ↓pIs2, ↓pIs3, ↓pIs4, ↓pIn0, ↓pIn1, ↓pIn2, ↓pIn3, ↓pIn4, ↓pLen1, ↓pLen2, ↓pLen3, ↓pInt, ↓pAbs, ↓pTup1, ↓pTup2, ↓pLst1, ↓pLst2, ↓pLst3, ↓pRng, ↓pSl1, ↓pSl2, ↓pSl3, ↓isi_int_non, ↓isi_int_bl, ↓isi_int_int, ↓isi_int_str, ↓isi_int_tup, ↓isi_int_lst, ↓isi_int_dic, ↓isi_bool_non, ↓isi_bool_bl, ↓isi_bool_int, ↓isi_bool_str, ↓isi_bool_tup, ↓isi_bool_lst, ↓isi_bool_dic, ↓isi_str_non, ↓isi_str_bl, ↓isi_str_int, ↓isi_str_str, ↓isi_str_tup, ↓isi_str_lst, ↓isi_str_dic, ↓isi_tuple_non, ↓isi_tuple_bl, ↓isi_tuple_int, ↓isi_tuple_str, ↓isi_tuple_tup, ↓isi_tuple_lst, ↓isi_tuple_dic, ↓isi_list_non, ↓isi_list_bl, ↓isi_list_int, ↓isi_list_str, ↓isi_list_tup, ↓isi_list_lst, ↓isi_list_dic, ↓isi_dict_non, ↓isi_dict_bl, ↓isi_dict_int, ↓isi_dict_str, ↓isi_dict_tup, ↓isi_dict_lst, ↓isi_dict_dic, ↓ixt0, ↓ixt1, ↓ixt2, ↓ixt3, ↓ixt4, ↓ixt5, ↓ixt6, ↓ixt7, ↓ixt8, ↓ixl0, ↓ixl1, ↓ixl2, ↓ixl3, ↓ixl4, ↓ixl5, ↓ixl6, ↓ixl7, ↓ixl8, ↓FX.gp0, ↓FX.gp1, ↓FX.gp2, ↓FX.gp3, ↓FX.gp4, ↓FX.gp5, ↓FX.gp6, ↓FX.gp7, ↓FX.gp8, ↓FX.gp9, ↓FX.gp10, ↓FX.gp11, ↓FX.gp12, ↓FX.gp13, ↓FX.gp14, ↓FX.gp15, ↓FX.gp16, ↓FX.gp17, ↓FX.gp18, ↓FX.gp19, ↓FX.gp20, ↓FX.gp21, ↓FX.gp22, ↓FX.gp23, ↓FX.gp24, ↓FX.gp25, ↓FX.gp26, ↓FX.gp27, ↓FX.gp28, ↓FX.gp29, ↓FX.gp30, ↓FX.gp31, ↓FX.gp32, ↓FX.gp33, ↓FX.sp0, ↓FX.sp1, ↓FX.sp2, ↓FX.sp3, ↓FX.sp4, ↓FX.sp5, ↓FX.sp6, ↓FX.sp7, ↓FX.sp8, ↓FX.sp9, ↓FX.sp10, ↓FX.sp11, ↓FX.sp12, ↓FX.sp13, ↓FX.sp14, ↓FX.sp15, ↓FX.sp16, ↓FX.sp17, ↓FX.sp18, ↓FX.sp19, ↓FX.sp20, ↓FX.sp21, ↓FX.sp22, ↓FX.sp23, ↓FX.sp24, ↓FX.sp25, ↓FX.sp26, ↓FX.sp27, ↓FX.sp28, ↓FX.sp29, ↓FX.sp30, ↓FX.sp31, ↓FX.sp32, ↓FX.sp33, ↓FX.hp0, ↓FX.hp1, ↓FX.hp2, ↓FX.hp3, ↓FX.hp4, ↓FX.wp0, ↓FX.wp1, ↓FX.wp2, ↓FX.wp3, ↓FX.wp4, end_rt, end_nx, ↓tgQ_eq, Bool.not_true, Bool.not_false, and_self, and_true, true_and, List.take_length]
    rfl
  · rintro k x S hx ⟨z, rfl⟩
    have hk := (List.getElem?_eq_some_iff.mp hx).1
    simp -implicitDefEqProofs (disch := omega) only [↓wp_bnd, ↓wp_ret, ↓wp_vV, ↓wp_vB, ↓wp_vL, ↓wp_hix, ↓wp_b1, ↓wp_b2, ↓wp_ifM, ↓wp_notM, ↓wp_andM, ↓wp_orM, ↓wp_asB, ↓wp_asI, ↓wp_notV, ↓wp_andV, ↓wp_orV, ↓wp_sq0, ↓wp_sq, ↓wp_tupM, ↓wp_frz, ↓wp_chM, ↓wp_sqS, ↓wp_seV, ↓wp_seL, ↓wp_asM, ↓wp_paM, ↓wp_paM3, ↓wp_paR2, ↓wp_paR3, ↓wp_rvM, ↓wp_rlM, ↓rv_v, ↓rv_l, ↓wp_shM, ↓wp_apM, ↓wp_exM, ↓wp_siM, ↓wp_clV, ↓wp_clL, ↓wp_hdM, ↓wp_chV, ↓wp_chL, ↓wp_itM, ↓wp_itA, ↓wp_rg1M, ↓wp_rg2M, ↓wp_zpM, ↓wp_enM, ↓wp_isiM, ↓wp_someM, ↓wp_sl3, ↓wp_frM, ↓wp_lc, ↓wp_agM, ↓wipP1, ↓wipP2, ↓wipP3, ↓bacP1, ↓bacP2, ↓bacP3, ↓spK0, ↓spK1, ↓spK2, ↓foP_ret, ↓rdP_v, ↓rdP_l, ↓lsP_l, ↓blP_bl, ↓inP_int, ↓vlP_val, ↓vlP_own, ↓hdP_hnd, ↓sqP_lst, ↓sqP_tup, ↓sqP_scr, ↓saP_lst, ↓saP_tup, ↓saP_rng, ↓ctP_nx, ↓ctP_rt, ↓ctP_bk, ↓ctP_ct, ↓lpP_nx, ↓lpP_ct, ↓lpP_bk, ↓lpP_rt, ↓zpP_lst, ↓zpP_tup, ↓enP_lst, ↓exP_lst, ↓tgP_V, ↓tgP_T, ↓tgsP_nil, ↓tgsP_cons, ↓rgP_ok, ↓iteP_true, ↓iteP_false, ↓iteP_t, ↓iteP_f, ↓iteP_nt, ↓iteP_nf, ↓hhP_eq, ↓opP_some, ↓pAdd, ↓pSub, ↓pNeg, ↓pMulR, ↓pMulL, ↓pMod, ↓pDiv, ↓p1018, ↓pLt, ↓pLe, ↓pGt, ↓pGe, ↓pOpB, ↓pEq, ↓pNe, ↓pIs0, ↓pIs1, ↓pIs2, ↓pIs3, ↓pIs4, ↓pIn0, ↓pIn1, ↓pIn2, ↓pIn3, ↓pIn4, ↓pLen1, ↓pLen2, ↓pLen3, ↓pInt, ↓pAbs, ↓pTup1, ↓pTup2, ↓pLst1, ↓pLst2, ↓pLst3, ↓pRng, ↓pSl1, ↓pSl2, ↓pSl3, ↓isi_int_non, ↓isi_int_bl, ↓isi_int_int, ↓isi_int_str, ↓isi_int_tup, ↓isi_int_lst, ↓isi_int_dic, ↓isi_bool_non, ↓isi_bool_bl, ↓isi_bool_int, ↓isi_bool_str, ↓isi_bool_tup, ↓isi_bool_lst, ↓isi_bool_dic, ↓isi_str_non, ↓isi_str_bl, ↓isi_str_int, ↓isi_str_str, ↓isi_str_tup, ↓isi_str_lst, ↓isi_str_dic, ↓isi_tuple_non, ↓isi_tuple_bl, ↓isi_tuple_int, ↓isi_tuple_str, ↓isi_tuple_tup, ↓isi_tuple_lst, ↓isi_tuple_dic, ↓isi_list_non, ↓isi_list_bl, ↓isi_list_int, ↓isi_list_str, ↓isi_list_tup, ↓isi_list_lst, ↓isi_list_dic, ↓isi_dict_non, ↓isi_dict_bl, ↓isi_dict_int, ↓isi_dict_str, ↓isi_dict_tup, ↓isi_dict_lst, ↓isi_dict_dic, ↓ixt0, ↓ixt1, ↓ixt2, ↓ixt3, ↓ixt4, ↓ixt5, ↓ixt6, ↓ixt7, ↓ixt8, ↓ixl0, ↓ixl1, ↓ixl2, ↓ixl3, ↓ixl4, ↓ixl5, ↓ixl6, ↓ixl7, ↓ixl8, ↓FX.gp0, ↓FX.gp1, ↓FX.gp2, ↓FX.gp3, ↓FX.gp4, ↓FX.gp5, ↓FX.gp6, ↓FX.gp7, ↓FX.gp8, ↓FX.gp9, ↓FX.gp10, ↓FX.gp11, ↓FX.gp12, ↓FX.gp13, ↓FX.gp14, ↓FX.gp15, ↓FX.gp16, ↓FX.gp17, ↓FX.gp18, ↓FX.gp19, ↓FX.gp20, ↓FX.gp21, ↓FX.gp22, ↓FX.gp23, ↓FX.gp24, ↓FX.gp25, ↓FX.gp26, ↓FX.gp27, ↓FX.gp28, ↓FX.gp29, ↓FX.gp30, ↓FX.gp31, ↓FX.gp32, ↓FX.gp33, ↓FX.sp0, ↓FX.sp1, ↓FX.sp2, ↓FX.sp3, ↓FX.sp4, ↓FX.sp5, ↓FX.sp6, ↓FX.sp7, ↓FX.sp8, ↓FX.sp9, ↓FX.sp10, ↓FX.sp11, ↓FX.sp12, ↓FX.sp13, ↓FX.sp14, ↓FX.sp15, ↓FX.sp16, ↓FX.sp17, ↓FX.sp18, ↓FX.sp19, ↓FX.sp20, ↓FX.sp21, ↓FX.sp22, ↓FX.sp23, ↓FX.sp24, ↓FX.sp25, ↓FX.sp26, ↓FX.sp27, ↓FX.sp28, ↓FX.sp29, ↓FX.sp30, ↓FX.sp31, ↓FX.sp32, ↓FX.sp33, ↓FX.hp0, ↓FX.hp1, ↓FX.hp2, ↓FX.hp3, ↓FX.hp4, ↓FX.wp0, ↓FX.wp1, ↓FX.wp2, ↓FX.wp3, ↓FX.wp4, end_rt, end_nx, ↓tgQ_eq, Bool.not_true, Bool.not_false, and_self, and_true, true_and, ↓pIxT (line_at (ln_at hj)) rfl, ↓lx1]
    refine ⟨by rw [List.length_map, sizeLine_eq]; omega, ?_⟩
    refine wp_lcA (enc := D.int) (g := fun z => .int ((z - x - c) % p)) (fun z _ => by simp -implicitDefEqProofs (disch := omega) only [↓wp_bnd, ↓wp_ret, ↓wp_vV, ↓wp_vB, ↓wp_vL, ↓wp_hix, ↓wp_b1, ↓wp_b2, ↓wp_ifM, ↓wp_notM, ↓wp_andM, ↓wp_orM, ↓wp_asB, ↓wp_asI, ↓wp_notV, ↓wp_andV, ↓wp_orV, ↓wp_sq0, ↓wp_sq, ↓wp_tupM, ↓wp_frz, ↓wp_chM, ↓wp_sqS, ↓wp_seV, ↓wp_seL, ↓wp_asM, ↓wp_paM, ↓wp_paM3, ↓wp_paR2, ↓wp_paR3, ↓wp_rvM, ↓wp_rlM, ↓rv_v, ↓rv_l, ↓wp_shM, ↓wp_apM, ↓wp_exM, ↓wp_siM, ↓wp_clV, ↓wp_clL, ↓wp_hdM, ↓wp_chV, ↓wp_chL, ↓wp_itM, ↓wp_itA, ↓wp_rg1M, ↓wp_rg2M, ↓wp_zpM, ↓wp_enM, ↓wp_isiM, ↓wp_someM, ↓wp_sl3, ↓wp_frM, ↓wp_lc, ↓wp_agM, ↓wipP1, ↓wipP2, ↓wipP3, ↓bacP1, ↓bacP2, ↓bacP3, ↓spK0, ↓spK1, ↓spK2, ↓foP_ret, ↓rdP_v, ↓rdP_l, ↓lsP_l, ↓blP_bl, ↓inP_int, ↓vlP_val, ↓vlP_own, ↓hdP_hnd, ↓sqP_lst, ↓sqP_tup, ↓sqP_scr, ↓saP_lst, ↓saP_tup, ↓saP_rng, ↓ctP_nx, ↓ctP_rt, ↓ctP_bk, ↓ctP_ct, ↓lpP_nx, ↓lpP_ct, ↓lpP_bk, ↓lpP_rt, ↓zpP_lst, ↓zpP_tup, ↓enP_lst, ↓exP_lst, ↓tgP_V, ↓tgP_T, ↓tgsP_nil, ↓tgsP_cons, ↓rgP_ok, ↓iteP_true, ↓iteP_false, ↓iteP_t, ↓iteP_f, ↓iteP_nt, ↓iteP_nf, ↓hhP_eq, ↓opP_some, ↓pAdd, ↓pSub, ↓pNeg, ↓pMulR, ↓pMulL, ↓pMod, ↓pDiv, ↓p1018, ↓pLt, ↓pLe, ↓pGt, ↓pGe, ↓pOpB, ↓pEq, ↓pNe, ↓pIs0, ↓pIs1, ↓pIs2, ↓pIs3, ↓pIs4, ↓pIn0, ↓pIn1, ↓pIn2, ↓pIn3, ↓pIn4, ↓pLen1, ↓pLen2, ↓pLen3, ↓pInt, ↓pAbs, ↓pTup1, ↓pTup2, ↓pLst1, ↓pLst2, ↓pLst3, ↓pRng, ↓pSl1, ↓pSl2, ↓pSl3, ↓isi_int_non, ↓isi_int_bl, ↓isi_int_int, ↓isi_int_str, ↓isi_int_tup, ↓isi_int_lst, ↓isi_int_dic, ↓isi_bool_non, ↓isi_bool_bl, ↓isi_bool_int, ↓isi_bool_str, ↓isi_bool_tup, ↓isi_bool_lst, ↓isi_bool_dic, ↓isi_str_non, ↓isi_str_bl, ↓isi_str_int, ↓isi_str_str, ↓isi_str_tup, ↓isi_str_lst, ↓isi_str_dic, ↓isi_tuple_non, ↓isi_tuple_bl, ↓isi_tuple_int, ↓isi_tuple_str, ↓isi_tuple_tup, ↓isi_tuple_lst, ↓isi_tuple_dic, ↓isi_list_non, ↓isi_list_bl, ↓isi_list_int, ↓isi_list_str, ↓isi_list_tup, ↓isi_list_lst, ↓isi_list_dic, ↓isi_dict_non, ↓isi_dict_bl, ↓isi_dict_int, ↓isi_dict_str, ↓isi_dict_tup, ↓isi_dict_lst, ↓isi_dict_dic, ↓ixt0, ↓ixt1, ↓ixt2, ↓ixt3, ↓ixt4, ↓ixt5, ↓ixt6, ↓ixt7, ↓ixt8, ↓ixl0, ↓ixl1, ↓ixl2, ↓ixl3, ↓ixl4, ↓ixl5, ↓ixl6, ↓ixl7, ↓ixl8, ↓FX.gp0, ↓FX.gp1, ↓FX.gp2, ↓FX.gp3, ↓FX.gp4, ↓FX.gp5, ↓FX.gp6, ↓FX.gp7, ↓FX.gp8, ↓FX.gp9, ↓FX.gp10, ↓FX.gp11, ↓FX.gp12, ↓FX.gp13, ↓FX.gp14, ↓FX.gp15, ↓FX.gp16, ↓FX.gp17, ↓FX.gp18, ↓FX.gp19, ↓FX.gp20, ↓FX.gp21, ↓FX.gp22, ↓FX.gp23, ↓FX.gp24, ↓FX.gp25, ↓FX.gp26, ↓FX.gp27, ↓FX.gp28, ↓FX.gp29, ↓FX.gp30, ↓FX.gp31, ↓FX.gp32, ↓FX.gp33, ↓FX.sp0, ↓FX.sp1, ↓FX.sp2, ↓FX.sp3, ↓FX.sp4, ↓FX.sp5, ↓FX.sp6, ↓FX.sp7, ↓FX.sp8, ↓FX.sp9, ↓FX.sp10, ↓FX.sp11, ↓FX.sp12, ↓FX.sp13, ↓FX.sp14, ↓FX.sp15, ↓FX.sp16, ↓FX.sp17, ↓FX.sp18, ↓FX.sp19, ↓FX.sp20, ↓FX.sp21, ↓FX.sp22, ↓FX.sp23, ↓FX.sp24, ↓FX.sp25, ↓FX.sp26, ↓FX.sp27, ↓FX.sp28, ↓FX.sp29, ↓FX.sp30, ↓FX.sp31, ↓FX.sp32, ↓FX.sp33, ↓FX.hp0, ↓FX.hp1, ↓FX.hp2, ↓FX.hp3, ↓FX.hp4, ↓FX.wp0, ↓FX.wp1, ↓FX.wp2, ↓FX.wp3, ↓FX.wp4, end_rt, end_nx, ↓tgQ_eq, Bool.not_true, Bool.not_false, and_self, and_true, true_and]) ?_
    simp -implicitDefEqProofs (disch := omega) only [↓wp_bnd, ↓wp_ret, ↓wp_vV, ↓wp_vB, ↓wp_vL, ↓wp_hix, ↓wp_b1, ↓wp_b2, ↓wp_ifM, ↓wp_notM, ↓wp_andM, ↓wp_orM, ↓wp_asB, ↓wp_asI, ↓wp_notV, ↓wp_andV, ↓wp_orV, ↓wp_sq0, ↓wp_sq, ↓wp_tupM, ↓wp_frz, ↓wp_chM, ↓wp_sqS, ↓wp_seV, ↓wp_seL, ↓wp_asM, ↓wp_paM, ↓wp_paM3, ↓wp_paR2, ↓wp_paR3, ↓wp_rvM, ↓wp_rlM, ↓rv_v, ↓rv_l, ↓wp_shM, ↓wp_apM, ↓wp_exM, ↓wp_siM, ↓wp_clV, ↓wp_clL, ↓wp_hdM, ↓wp_chV, ↓wp_chL, ↓wp_itM, ↓wp_itA, ↓wp_rg1M, ↓wp_rg2M, ↓wp_zpM, ↓wp_enM, ↓wp_isiM, ↓wp_someM, ↓wp_sl3, ↓wp_frM, ↓wp_lc, ↓wp_agM, ↓wipP1, ↓wipP2, ↓wipP3, ↓bacP1, ↓bacP2, ↓bacP3, ↓spK0, ↓spK1, ↓spK2, ↓foP_ret, ↓rdP_v, ↓rdP_l, ↓lsP_l, ↓blP_bl, ↓inP_int, ↓vlP_val, ↓vlP_own, ↓hdP_hnd, ↓sqP_lst, ↓sqP_tup, ↓sqP_scr, ↓saP_lst, ↓saP_tup, ↓saP_rng, ↓ctP_nx, ↓ctP_rt, ↓ctP_bk, ↓ctP_ct, ↓lpP_nx, ↓lpP_ct, ↓lpP_bk, ↓lpP_rt, ↓zpP_lst, ↓zpP_tup, ↓enP_lst, ↓exP_lst, ↓tgP_V, ↓tgP_T, ↓tgsP_nil, ↓tgsP_cons, ↓rgP_ok, ↓iteP_true, ↓iteP_false, ↓iteP_t, ↓iteP_f, ↓iteP_nt, ↓iteP_nf, ↓hhP_eq, ↓opP_some, ↓pAdd, ↓pSub, ↓pNeg, ↓pMulR, ↓pMulL, ↓pMod, ↓pDiv, ↓p1018, ↓pLt, ↓pLe, ↓pGt, ↓pGe, ↓pOpB, ↓pEq, ↓pNe, ↓pIs0, ↓pIs1, ↓pIs2, ↓pIs3, ↓pIs4, ↓pIn0, ↓pIn1, ↓pIn2, ↓pIn3, ↓pIn4, ↓pLen1, ↓pLen2, ↓pLen3, ↓pInt, ↓pAbs, ↓pTup1, ↓pTup2, ↓pLst1, ↓pLst2, ↓pLst3, ↓pRng, ↓pSl1, ↓pSl2, ↓pSl3, ↓isi_int_non, ↓isi_int_bl, ↓isi_int_int, ↓isi_int_str, ↓isi_int_tup, ↓isi_int_lst, ↓isi_int_dic, ↓isi_bool_non, ↓isi_bool_bl, ↓isi_bool_int, ↓isi_bool_str, ↓isi_bool_tup, ↓isi_bool_lst, ↓isi_bool_dic, ↓isi_str_non, ↓isi_str_bl, ↓isi_str_int, ↓isi_str_str, ↓isi_str_tup, ↓isi_str_lst, ↓isi_str_dic, ↓isi_tuple_non, ↓isi_tuple_bl, ↓isi_tuple_int, ↓isi_tuple_str, ↓isi_tuple_tup, ↓isi_tuple_lst, ↓isi_tuple_dic, ↓isi_list_non, ↓isi_list_bl, ↓isi_list_int, ↓isi_list_str, ↓isi_list_tup, ↓isi_list_lst, ↓isi_list_dic, ↓isi_dict_non, ↓isi_dict_bl, ↓isi_dict_int, ↓isi_dict_str, ↓isi_dict_tup, ↓isi_dict_lst, ↓isi_dict_dic, ↓ixt0, ↓ixt1, ↓ixt2, ↓ixt3, ↓ixt4, ↓ixt5, ↓ixt6, ↓ixt7, ↓ixt8, ↓ixl0, ↓ixl1, ↓ixl2, ↓ixl3, ↓ixl4, ↓ixl5, ↓ixl6, ↓ixl7, ↓ixl8, ↓FX.gp0, ↓FX.gp1, ↓FX.gp2, ↓FX.gp3, ↓FX.gp4, ↓FX.gp5, ↓FX.gp6, ↓FX.gp7, ↓FX.gp8, ↓FX.gp9, ↓FX.gp10, ↓FX.gp11, ↓FX.gp12, ↓FX.gp13, ↓FX.gp14, ↓FX.gp15, ↓FX.gp16, ↓FX.gp17, ↓FX.gp18, ↓FX.gp19, ↓FX.gp20, ↓FX.gp21, ↓FX.gp22, ↓FX.gp23, ↓FX.gp24, ↓FX.gp25, ↓FX.gp26, ↓FX.gp27, ↓FX.gp28, ↓FX.gp29, ↓FX.gp30, ↓FX.gp31, ↓FX.gp32, ↓FX.gp33, ↓FX.sp0, ↓FX.sp1, ↓FX.sp2, ↓FX.sp3, ↓FX.sp4, ↓FX.sp5, ↓FX.sp6, ↓FX.sp7, ↓FX.sp8, ↓FX.sp9, ↓FX.sp10, ↓FX.sp11, ↓FX.sp12, ↓FX.sp13, ↓FX.sp14, ↓FX.sp15, ↓FX.sp16, ↓FX.sp17, ↓FX.sp18, ↓FX.sp19, ↓FX.sp20, ↓FX.sp21, ↓FX.sp22, ↓FX.sp23, ↓FX.sp24, ↓FX.sp25, ↓FX.sp26, ↓FX.sp27, ↓FX.sp28, ↓FX.sp29, ↓FX.sp30, ↓FX.sp31, ↓FX.sp32, ↓FX.sp33, ↓FX.hp0, ↓FX.hp1, ↓FX.hp2, ↓FX.hp3, ↓FX.hp4, ↓FX.wp0, ↓FX.wp1, ↓FX.wp2, ↓FX.wp3, ↓FX.wp4, end_rt, end_nx, ↓tgQ_eq, Bool.not_true, Bool.not_false, and_self, and_true, true_and, List.nil_append, ↓pMinF]
    rw [minI_ne (by simpa using ne)]
    simp -implicitDefEqProofs (disch := omega) only [↓wp_bnd, ↓wp_ret, ↓wp_vV, ↓wp_vB, ↓wp_vL, ↓wp_hix, ↓wp_b1, ↓wp_b2, ↓wp_ifM, ↓wp_notM, ↓wp_andM, ↓wp_orM, ↓wp_asB, ↓wp_asI, ↓wp_notV, ↓wp_andV, ↓wp_orV, ↓wp_sq0, ↓wp_sq, ↓wp_tupM, ↓wp_frz, ↓wp_chM, ↓wp_sqS, ↓wp_seV, ↓wp_seL, ↓wp_asM, ↓wp_paM, ↓wp_paM3, ↓wp_paR2, ↓wp_paR3, ↓wp_rvM, ↓wp_rlM, ↓rv_v, ↓rv_l, ↓wp_shM, ↓wp_apM, ↓wp_exM, ↓wp_siM, ↓wp_clV, ↓wp_clL, ↓wp_hdM, ↓wp_chV, ↓wp_chL, ↓wp_itM, ↓wp_itA, ↓wp_rg1M, ↓wp_rg2M, ↓wp_zpM, ↓wp_enM, ↓wp_isiM, ↓wp_someM, ↓wp_sl3, ↓wp_frM, ↓wp_lc, ↓wp_agM, ↓wipP1, ↓wipP2, ↓wipP3, ↓bacP1, ↓bacP2, ↓bacP3, ↓spK0, ↓spK1, ↓spK2, ↓foP_ret, ↓rdP_v, ↓rdP_l, ↓lsP_l, ↓blP_bl, ↓inP_int, ↓vlP_val, ↓vlP_own, ↓hdP_hnd, ↓sqP_lst, ↓sqP_tup, ↓sqP_scr, ↓saP_lst, ↓saP_tup, ↓saP_rng, ↓ctP_nx, ↓ctP_rt, ↓ctP_bk, ↓ctP_ct, ↓lpP_nx, ↓lpP_ct, ↓lpP_bk, ↓lpP_rt, ↓zpP_lst, ↓zpP_tup, ↓enP_lst, ↓exP_lst, ↓tgP_V, ↓tgP_T, ↓tgsP_nil, ↓tgsP_cons, ↓rgP_ok, ↓iteP_true, ↓iteP_false, ↓iteP_t, ↓iteP_f, ↓iteP_nt, ↓iteP_nf, ↓hhP_eq, ↓opP_some, ↓pAdd, ↓pSub, ↓pNeg, ↓pMulR, ↓pMulL, ↓pMod, ↓pDiv, ↓p1018, ↓pLt, ↓pLe, ↓pGt, ↓pGe, ↓pOpB, ↓pEq, ↓pNe, ↓pIs0, ↓pIs1, ↓pIs2, ↓pIs3, ↓pIs4, ↓pIn0, ↓pIn1, ↓pIn2, ↓pIn3, ↓pIn4, ↓pLen1, ↓pLen2, ↓pLen3, ↓pInt, ↓pAbs, ↓pTup1, ↓pTup2, ↓pLst1, ↓pLst2, ↓pLst3, ↓pRng, ↓pSl1, ↓pSl2, ↓pSl3, ↓isi_int_non, ↓isi_int_bl, ↓isi_int_int, ↓isi_int_str, ↓isi_int_tup, ↓isi_int_lst, ↓isi_int_dic, ↓isi_bool_non, ↓isi_bool_bl, ↓isi_bool_int, ↓isi_bool_str, ↓isi_bool_tup, ↓isi_bool_lst, ↓isi_bool_dic, ↓isi_str_non, ↓isi_str_bl, ↓isi_str_int, ↓isi_str_str, ↓isi_str_tup, ↓isi_str_lst, ↓isi_str_dic, ↓isi_tuple_non, ↓isi_tuple_bl, ↓isi_tuple_int, ↓isi_tuple_str, ↓isi_tuple_tup, ↓isi_tuple_lst, ↓isi_tuple_dic, ↓isi_list_non, ↓isi_list_bl, ↓isi_list_int, ↓isi_list_str, ↓isi_list_tup, ↓isi_list_lst, ↓isi_list_dic, ↓isi_dict_non, ↓isi_dict_bl, ↓isi_dict_int, ↓isi_dict_str, ↓isi_dict_tup, ↓isi_dict_lst, ↓isi_dict_dic, ↓ixt0, ↓ixt1, ↓ixt2, ↓ixt3, ↓ixt4, ↓ixt5, ↓ixt6, ↓ixt7, ↓ixt8, ↓ixl0, ↓ixl1, ↓ixl2, ↓ixl3, ↓ixl4, ↓ixl5, ↓ixl6, ↓ixl7, ↓ixl8, ↓FX.gp0, ↓FX.gp1, ↓FX.gp2, ↓FX.gp3, ↓FX.gp4, ↓FX.gp5, ↓FX.gp6, ↓FX.gp7, ↓FX.gp8, ↓FX.gp9, ↓FX.gp10, ↓FX.gp11, ↓FX.gp12, ↓FX.gp13, ↓FX.gp14, ↓FX.gp15, ↓FX.gp16, ↓FX.gp17, ↓FX.gp18, ↓FX.gp19, ↓FX.gp20, ↓FX.gp21, ↓FX.gp22, ↓FX.gp23, ↓FX.gp24, ↓FX.gp25, ↓FX.gp26, ↓FX.gp27, ↓FX.gp28, ↓FX.gp29, ↓FX.gp30, ↓FX.gp31, ↓FX.gp32, ↓FX.gp33, ↓FX.sp0, ↓FX.sp1, ↓FX.sp2, ↓FX.sp3, ↓FX.sp4, ↓FX.sp5, ↓FX.sp6, ↓FX.sp7, ↓FX.sp8, ↓FX.sp9, ↓FX.sp10, ↓FX.sp11, ↓FX.sp12, ↓FX.sp13, ↓FX.sp14, ↓FX.sp15, ↓FX.sp16, ↓FX.sp17, ↓FX.sp18, ↓FX.sp19, ↓FX.sp20, ↓FX.sp21, ↓FX.sp22, ↓FX.sp23, ↓FX.sp24, ↓FX.sp25, ↓FX.sp26, ↓FX.sp27, ↓FX.sp28, ↓FX.sp29, ↓FX.sp30, ↓FX.sp31, ↓FX.sp32, ↓FX.sp33, ↓FX.hp0, ↓FX.hp1, ↓FX.hp2, ↓FX.hp3, ↓FX.hp4, ↓FX.wp0, ↓FX.wp1, ↓FX.wp2, ↓FX.wp3, ↓FX.wp4, end_rt, end_nx, ↓tgQ_eq, Bool.not_true, Bool.not_false, and_self, and_true, true_and]
    refine ⟨by rw [List.length_map, List.length_map, List.length_take, sizeLine_eq]; omega, .val (.int x), ?_⟩
    rw [List.take_add_one, hx, Option.toList_some, List.map_append, List.map_append]
    have e : mn ((ln ls j).2.map fun z => (z - x - c) % p) = wt p c 0 (ln ls j).2 x := by
      unfold wt
      congr 1
      exact List.map_congr_left fun z _ => by rw [Int.add_zero]
    rw [e]
    rfl
/-- a line's leaves that much later -/
def laterL (p y : Int) (l : Line) : Line := (l.1, isort (l.2.map fun z => (z + y) % p))
def laterLs (p y : Int) (ls : List Line) (j : Nat) : List Line := ls.take j ++ [laterL p y (ln ls j)] ++ ls.drop (j + 1)
theorem later_at {p y : Int} {ls : List Line} {j i : Nat} (hj : j < ls.length) (hi : i < ls.length) : (laterLs p y ls j).length = ls.length ∧ ln (laterLs p y ls j) i = if i = j then laterL p y (ln ls j) else ln ls i := by
  have e : laterLs p y ls j = ls.set j (laterL p y (ln ls j)) := by
    unfold laterLs
    rw [List.set_eq_take_append_cons_drop, if_pos hj, List.append_assoc]
    rfl
  rw [e]
  refine ⟨List.length_set, ?_⟩
  unfold ln
  rw [getD_set]
  by_cases h : j = i
  · subst h; rw [if_pos ⟨rfl, hj⟩, if_pos rfl]
  · rw [if_neg (fun q => h q.1), if_neg (Ne.symm h)]
theorem law_later_ok (G : Txt K mg) {p y : Int} {ls : List Line} {j : Nat} (hp : 0 < p) (hj : j < ls.length) (few : ls.length ≤ 8) (nj : (ln ls j).2.length ≤ 1000) :
    r__law_later G [hubD p ls, .int j, .int y] = .ret (.v (hubD p (laterLs p y ls j))) [] := by
  refine runP_of ⟨[.val (hubD p ls), .val (.int j), .val (.int y), .un, .un, .un, .un], []⟩ rfl ?_
  unfold m__law_later hubD
  simp -implicitDefEqProofs (disch := omega) only [↓wp_bnd, ↓wp_ret, ↓wp_vV, ↓wp_vB, ↓wp_vL, ↓wp_hix, ↓wp_b1, ↓wp_b2, ↓wp_ifM, ↓wp_notM, ↓wp_andM, ↓wp_orM, ↓wp_asB, ↓wp_asI, ↓wp_notV, ↓wp_andV, ↓wp_orV, ↓wp_sq0, ↓wp_sq, ↓wp_tupM, ↓wp_frz, ↓wp_chM, ↓wp_sqS, ↓wp_seV, ↓wp_seL, ↓wp_asM, ↓wp_paM, ↓wp_paM3, ↓wp_paR2, ↓wp_paR3, ↓wp_rvM, ↓wp_rlM, ↓rv_v, ↓rv_l, ↓wp_shM, ↓wp_apM, ↓wp_exM, ↓wp_siM, ↓wp_clV, ↓wp_clL, ↓wp_hdM, ↓wp_chV, ↓wp_chL, ↓wp_itM, ↓wp_itA, ↓wp_rg1M, ↓wp_rg2M, ↓wp_zpM, ↓wp_enM, ↓wp_isiM, ↓wp_someM, ↓wp_sl3, ↓wp_frM, ↓wp_lc, ↓wp_agM, ↓wipP1, ↓wipP2, ↓wipP3, ↓bacP1, ↓bacP2, ↓bacP3, ↓spK0, ↓spK1, ↓spK2, ↓foP_ret, ↓rdP_v, ↓rdP_l, ↓lsP_l, ↓blP_bl, ↓inP_int, ↓vlP_val, ↓vlP_own, ↓hdP_hnd, ↓sqP_lst, ↓sqP_tup, ↓sqP_scr, ↓saP_lst, ↓saP_tup, ↓saP_rng, ↓ctP_nx, ↓ctP_rt, ↓ctP_bk, ↓ctP_ct, ↓lpP_nx, ↓lpP_ct, ↓lpP_bk, ↓lpP_rt, ↓zpP_lst, ↓zpP_tup, ↓enP_lst, ↓exP_lst, ↓tgP_V, ↓tgP_T, ↓tgsP_nil, ↓tgsP_cons, ↓rgP_ok, ↓iteP_true, ↓iteP_false, ↓iteP_t, ↓iteP_f, ↓iteP_nt, ↓iteP_nf, ↓hhP_eq, ↓opP_some, ↓pAdd, ↓pSub, ↓pNeg, ↓pMulR, ↓pMulL, ↓pMod, ↓pDiv, ↓p1018, ↓pLt, ↓pLe, ↓pGt, ↓pGe, ↓pOpB, ↓pEq, ↓pNe, ↓pIs0, ↓pIs1, ↓pIs2, ↓pIs3, ↓pIs4, ↓pIn0, ↓pIn1, ↓pIn2, ↓pIn3, ↓pIn4, ↓pLen1, ↓pLen2, ↓pLen3, ↓pInt, ↓pAbs, ↓pTup1, ↓pTup2, ↓pLst1, ↓pLst2, ↓pLst3, ↓pRng, ↓pSl1, ↓pSl2, ↓pSl3, ↓isi_int_non, ↓isi_int_bl, ↓isi_int_int, ↓isi_int_str, ↓isi_int_tup, ↓isi_int_lst, ↓isi_int_dic, ↓isi_bool_non, ↓isi_bool_bl, ↓isi_bool_int, ↓isi_bool_str, ↓isi_bool_tup, ↓isi_bool_lst, ↓isi_bool_dic, ↓isi_str_non, ↓isi_str_bl, ↓isi_str_int, ↓isi_str_str, ↓isi_str_tup, ↓isi_str_lst, ↓isi_str_dic, ↓isi_tuple_non, ↓isi_tuple_bl, ↓isi_tuple_int, ↓isi_tuple_str, ↓isi_tuple_tup, ↓isi_tuple_lst, ↓isi_tuple_dic, ↓isi_list_non, ↓isi_list_bl, ↓isi_list_int, ↓isi_list_str, ↓isi_list_tup, ↓isi_list_lst, ↓isi_list_dic, ↓isi_dict_non, ↓isi_dict_bl, ↓isi_dict_int, ↓isi_dict_str, ↓isi_dict_tup, ↓isi_dict_lst, ↓isi_dict_dic, ↓ixt0, ↓ixt1, ↓ixt2, ↓ixt3, ↓ixt4, ↓ixt5, ↓ixt6, ↓ixt7, ↓ixt8, ↓ixl0, ↓ixl1, ↓ixl2, ↓ixl3, ↓ixl4, ↓ixl5, ↓ixl6, ↓ixl7, ↓ixl8, ↓FX.gp0, ↓FX.gp1, ↓FX.gp2, ↓FX.gp3, ↓FX.gp4, ↓FX.gp5, ↓FX.gp6, ↓FX.gp7, ↓FX.gp8, ↓FX.gp9, ↓FX.gp10, ↓FX.gp11, ↓FX.gp12, ↓FX.gp13, ↓FX.gp14, ↓FX.gp15, ↓FX.gp16, ↓FX.gp17, ↓FX.gp18, ↓FX.gp19, ↓FX.gp20, ↓FX.gp21, ↓FX.gp22, ↓FX.gp23, ↓FX.gp24, ↓FX.gp25, ↓FX.gp26, ↓FX.gp27, ↓FX.gp28, ↓FX.gp29, ↓FX.gp30, ↓FX.gp31, ↓FX.gp32, ↓FX.gp33, ↓FX.sp0, ↓FX.sp1, ↓FX.sp2, ↓FX.sp3, ↓FX.sp4, ↓FX.sp5, ↓FX.sp6, ↓FX.sp7, ↓FX.sp8, ↓FX.sp9, ↓FX.sp10, ↓FX.sp11, ↓FX.sp12, ↓FX.sp13, ↓FX.sp14, ↓FX.sp15, ↓FX.sp16, ↓FX.sp17, ↓FX.sp18, ↓FX.sp19, ↓FX.sp20, ↓FX.sp21, ↓FX.sp22, ↓FX.sp23, ↓FX.sp24, ↓FX.sp25, ↓FX.sp26, ↓FX.sp27, ↓FX.sp28, ↓FX.sp29, ↓FX.sp30, ↓FX.sp31, ↓FX.sp32, ↓FX.sp33, ↓FX.hp0, ↓FX.hp1, ↓FX.hp2, ↓FX.hp3, ↓FX.hp4, ↓FX.wp0, ↓FX.wp1, ↓FX.wp2, ↓FX.wp3, ↓FX.wp4, end_rt, end_nx, ↓tgQ_eq, Bool.not_true, Bool.not_false, and_self, and_true, true_and, ↓pIxT (line_at (ln_at hj)) rfl, ↓lx1]
  refine ⟨by rw [List.length_map, sizeLine_eq]; omega, ?_⟩
  refine wp_lcA (enc := D.int) (g := fun z => .int ((z + y) % p)) (fun z _ => by simp -implicitDefEqProofs (disch := omega) only [↓wp_bnd, ↓wp_ret, ↓wp_vV, ↓wp_vB, ↓wp_vL, ↓wp_hix, ↓wp_b1, ↓wp_b2, ↓wp_ifM, ↓wp_notM, ↓wp_andM, ↓wp_orM, ↓wp_asB, ↓wp_asI, ↓wp_notV, ↓wp_andV, ↓wp_orV, ↓wp_sq0, ↓wp_sq, ↓wp_tupM, ↓wp_frz, ↓wp_chM, ↓wp_sqS, ↓wp_seV, ↓wp_seL, ↓wp_asM, ↓wp_paM, ↓wp_paM3, ↓wp_paR2, ↓wp_paR3, ↓wp_rvM, ↓wp_rlM, ↓rv_v, ↓rv_l, ↓wp_shM, ↓wp_apM, ↓wp_exM, ↓wp_siM, ↓wp_clV, ↓wp_clL, ↓wp_hdM, ↓wp_chV, ↓wp_chL, ↓wp_itM, ↓wp_itA, ↓wp_rg1M, ↓wp_rg2M, ↓wp_zpM, ↓wp_enM, ↓wp_isiM, ↓wp_someM, ↓wp_sl3, ↓wp_frM, ↓wp_lc, ↓wp_agM, ↓wipP1, ↓wipP2, ↓wipP3, ↓bacP1, ↓bacP2, ↓bacP3, ↓spK0, ↓spK1, ↓spK2, ↓foP_ret, ↓rdP_v, ↓rdP_l, ↓lsP_l, ↓blP_bl, ↓inP_int, ↓vlP_val, ↓vlP_own, ↓hdP_hnd, ↓sqP_lst, ↓sqP_tup, ↓sqP_scr, ↓saP_lst, ↓saP_tup, ↓saP_rng, ↓ctP_nx, ↓ctP_rt, ↓ctP_bk, ↓ctP_ct, ↓lpP_nx, ↓lpP_ct, ↓lpP_bk, ↓lpP_rt, ↓zpP_lst, ↓zpP_tup, ↓enP_lst, ↓exP_lst, ↓tgP_V, ↓tgP_T, ↓tgsP_nil, ↓tgsP_cons, ↓rgP_ok, ↓iteP_true, ↓iteP_false, ↓iteP_t, ↓iteP_f, ↓iteP_nt, ↓iteP_nf, ↓hhP_eq, ↓opP_some, ↓pAdd, ↓pSub, ↓pNeg, ↓pMulR, ↓pMulL, ↓pMod, ↓pDiv, ↓p1018, ↓pLt, ↓pLe, ↓pGt, ↓pGe, ↓pOpB, ↓pEq, ↓pNe, ↓pIs0, ↓pIs1, ↓pIs2, ↓pIs3, ↓pIs4, ↓pIn0, ↓pIn1, ↓pIn2, ↓pIn3, ↓pIn4, ↓pLen1, ↓pLen2, ↓pLen3, ↓pInt, ↓pAbs, ↓pTup1, ↓pTup2, ↓pLst1, ↓pLst2, ↓pLst3, ↓pRng, ↓pSl1, ↓pSl2, ↓pSl3, ↓isi_int_non, ↓isi_int_bl, ↓isi_int_int, ↓isi_int_str, ↓isi_int_tup, ↓isi_int_lst, ↓isi_int_dic, ↓isi_bool_non, ↓isi_bool_bl, ↓isi_bool_int, ↓isi_bool_str, ↓isi_bool_tup, ↓isi_bool_lst, ↓isi_bool_dic, ↓isi_str_non, ↓isi_str_bl, ↓isi_str_int, ↓isi_str_str, ↓isi_str_tup, ↓isi_str_lst, ↓isi_str_dic, ↓isi_tuple_non, ↓isi_tuple_bl, ↓isi_tuple_int, ↓isi_tuple_str, ↓isi_tuple_tup, ↓isi_tuple_lst, ↓isi_tuple_dic, ↓isi_list_non, ↓isi_list_bl, ↓isi_list_int, ↓isi_list_str, ↓isi_list_tup, ↓isi_list_lst, ↓isi_list_dic, ↓isi_dict_non, ↓isi_dict_bl, ↓isi_dict_int, ↓isi_dict_str, ↓isi_dict_tup, ↓isi_dict_lst, ↓isi_dict_dic, ↓ixt0, ↓ixt1, ↓ixt2, ↓ixt3, ↓ixt4, ↓ixt5, ↓ixt6, ↓ixt7, ↓ixt8, ↓ixl0, ↓ixl1, ↓ixl2, ↓ixl3, ↓ixl4, ↓ixl5, ↓ixl6, ↓ixl7, ↓ixl8, ↓FX.gp0, ↓FX.gp1, ↓FX.gp2, ↓FX.gp3, ↓FX.gp4, ↓FX.gp5, ↓FX.gp6, ↓FX.gp7, ↓FX.gp8, ↓FX.gp9, ↓FX.gp10, ↓FX.gp11, ↓FX.gp12, ↓FX.gp13, ↓FX.gp14, ↓FX.gp15, ↓FX.gp16, ↓FX.gp17, ↓FX.gp18, ↓FX.gp19, ↓FX.gp20, ↓FX.gp21, ↓FX.gp22, ↓FX.gp23, ↓FX.gp24, ↓FX.gp25, ↓FX.gp26, ↓FX.gp27, ↓FX.gp28, ↓FX.gp29, ↓FX.gp30, ↓FX.gp31, ↓FX.gp32, ↓FX.gp33, ↓FX.sp0, ↓FX.sp1, ↓FX.sp2, ↓FX.sp3, ↓FX.sp4, ↓FX.sp5, ↓FX.sp6, ↓FX.sp7, ↓FX.sp8, ↓FX.sp9, ↓FX.sp10, ↓FX.sp11, ↓FX.sp12, ↓FX.sp13, ↓FX.sp14, ↓FX.sp15, ↓FX.sp16, ↓FX.sp17, ↓FX.sp18, ↓FX.sp19, ↓FX.sp20, ↓FX.sp21, ↓FX.sp22, ↓FX.sp23, ↓FX.sp24, ↓FX.sp25, ↓FX.sp26, ↓FX.sp27, ↓FX.sp28, ↓FX.sp29, ↓FX.sp30, ↓FX.sp31, ↓FX.sp32, ↓FX.sp33, ↓FX.hp0, ↓FX.hp1, ↓FX.hp2, ↓FX.hp3, ↓FX.hp4, ↓FX.wp0, ↓FX.wp1, ↓FX.wp2, ↓FX.wp3, ↓FX.wp4, end_rt, end_nx, ↓tgQ_eq, Bool.not_true, Bool.not_false, and_self, and_true, true_and]) ?_
  simp only [List.nil_append]
  have A1 : ∀ (x : D) (Q : D → Prop), opP (addD (.tup (cutD (ls.map lineD) none (some (j : Int)))) (.tup [x])) Q = Q (.tup ((ls.map lineD).take j ++ [x])) := fun x Q => by
    rw [cut_to (i := (j : Int)) (k := j) rfl]
    exact pAddT (by rw [List.length_take, List.length_map, sizeLine_eq]; simp; omega)
  have A2 : ∀ (x : D) (Q : D → Prop), opP (addD (.tup ((ls.map lineD).take j ++ [x])) (.tup (cutD (ls.map lineD) (some ((j : Int) + 1)) none))) Q = Q (.tup ((ls.map lineD).take j ++ [x] ++ (ls.map lineD).drop (j + 1))) := fun x Q => by
    rw [cut_from (i := (j : Int) + 1) (k := j + 1) (by omega)]
    exact pAddT (by rw [List.length_append, List.length_take, List.length_drop, List.length_map, sizeLine_eq]; simp; omega)
  simp -implicitDefEqProofs (disch := omega) only [↓A1, ↓A2, ↓wp_bnd, ↓wp_ret, ↓wp_vV, ↓wp_vB, ↓wp_vL, ↓wp_hix, ↓wp_b1, ↓wp_b2, ↓wp_ifM, ↓wp_notM, ↓wp_andM, ↓wp_orM, ↓wp_asB, ↓wp_asI, ↓wp_notV, ↓wp_andV, ↓wp_orV, ↓wp_sq0, ↓wp_sq, ↓wp_tupM, ↓wp_frz, ↓wp_chM, ↓wp_sqS, ↓wp_seV, ↓wp_seL, ↓wp_asM, ↓wp_paM, ↓wp_paM3, ↓wp_paR2, ↓wp_paR3, ↓wp_rvM, ↓wp_rlM, ↓rv_v, ↓rv_l, ↓wp_shM, ↓wp_apM, ↓wp_exM, ↓wp_siM, ↓wp_clV, ↓wp_clL, ↓wp_hdM, ↓wp_chV, ↓wp_chL, ↓wp_itM, ↓wp_itA, ↓wp_rg1M, ↓wp_rg2M, ↓wp_zpM, ↓wp_enM, ↓wp_isiM, ↓wp_someM, ↓wp_sl3, ↓wp_frM, ↓wp_lc, ↓wp_agM, ↓wipP1, ↓wipP2, ↓wipP3, ↓bacP1, ↓bacP2, ↓bacP3, ↓spK0, ↓spK1, ↓spK2, ↓foP_ret, ↓rdP_v, ↓rdP_l, ↓lsP_l, ↓blP_bl, ↓inP_int, ↓vlP_val, ↓vlP_own, ↓hdP_hnd, ↓sqP_lst, ↓sqP_tup, ↓sqP_scr, ↓saP_lst, ↓saP_tup, ↓saP_rng, ↓ctP_nx, ↓ctP_rt, ↓ctP_bk, ↓ctP_ct, ↓lpP_nx, ↓lpP_ct, ↓lpP_bk, ↓lpP_rt, ↓zpP_lst, ↓zpP_tup, ↓enP_lst, ↓exP_lst, ↓tgP_V, ↓tgP_T, ↓tgsP_nil, ↓tgsP_cons, ↓rgP_ok, ↓iteP_true, ↓iteP_false, ↓iteP_t, ↓iteP_f, ↓iteP_nt, ↓iteP_nf, ↓hhP_eq, ↓opP_some, ↓pAdd, ↓pSub, ↓pNeg, ↓pMulR, ↓pMulL, ↓pMod, ↓pDiv, ↓p1018, ↓pLt, ↓pLe, ↓pGt, ↓pGe, ↓pOpB, ↓pEq, ↓pNe, ↓pIs0, ↓pIs1, ↓pIs2, ↓pIs3, ↓pIs4, ↓pIn0, ↓pIn1, ↓pIn2, ↓pIn3, ↓pIn4, ↓pLen1, ↓pLen2, ↓pLen3, ↓pInt, ↓pAbs, ↓pTup1, ↓pTup2, ↓pLst1, ↓pLst2, ↓pLst3, ↓pRng, ↓pSl1, ↓pSl2, ↓pSl3, ↓isi_int_non, ↓isi_int_bl, ↓isi_int_int, ↓isi_int_str, ↓isi_int_tup, ↓isi_int_lst, ↓isi_int_dic, ↓isi_bool_non, ↓isi_bool_bl, ↓isi_bool_int, ↓isi_bool_str, ↓isi_bool_tup, ↓isi_bool_lst, ↓isi_bool_dic, ↓isi_str_non, ↓isi_str_bl, ↓isi_str_int, ↓isi_str_str, ↓isi_str_tup, ↓isi_str_lst, ↓isi_str_dic, ↓isi_tuple_non, ↓isi_tuple_bl, ↓isi_tuple_int, ↓isi_tuple_str, ↓isi_tuple_tup, ↓isi_tuple_lst, ↓isi_tuple_dic, ↓isi_list_non, ↓isi_list_bl, ↓isi_list_int, ↓isi_list_str, ↓isi_list_tup, ↓isi_list_lst, ↓isi_list_dic, ↓isi_dict_non, ↓isi_dict_bl, ↓isi_dict_int, ↓isi_dict_str, ↓isi_dict_tup, ↓isi_dict_lst, ↓isi_dict_dic, ↓ixt0, ↓ixt1, ↓ixt2, ↓ixt3, ↓ixt4, ↓ixt5, ↓ixt6, ↓ixt7, ↓ixt8, ↓ixl0, ↓ixl1, ↓ixl2, ↓ixl3, ↓ixl4, ↓ixl5, ↓ixl6, ↓ixl7, ↓ixl8, ↓FX.gp0, ↓FX.gp1, ↓FX.gp2, ↓FX.gp3, ↓FX.gp4, ↓FX.gp5, ↓FX.gp6, ↓FX.gp7, ↓FX.gp8, ↓FX.gp9, ↓FX.gp10, ↓FX.gp11, ↓FX.gp12, ↓FX.gp13, ↓FX.gp14, ↓FX.gp15, ↓FX.gp16, ↓FX.gp17, ↓FX.gp18, ↓FX.gp19, ↓FX.gp20, ↓FX.gp21, ↓FX.gp22, ↓FX.gp23, ↓FX.gp24, ↓FX.gp25, ↓FX.gp26, ↓FX.gp27, ↓FX.gp28, ↓FX.gp29, ↓FX.gp30, ↓FX.gp31, ↓FX.gp32, ↓FX.gp33, ↓FX.sp0, ↓FX.sp1, ↓FX.sp2, ↓FX.sp3, ↓FX.sp4, ↓FX.sp5, ↓FX.sp6, ↓FX.sp7, ↓FX.sp8, ↓FX.sp9, ↓FX.sp10, ↓FX.sp11, ↓FX.sp12, ↓FX.sp13, ↓FX.sp14, ↓FX.sp15, ↓FX.sp16, ↓FX.sp17, ↓FX.sp18, ↓FX.sp19, ↓FX.sp20, ↓FX.sp21, ↓FX.sp22, ↓FX.sp23, ↓FX.sp24, ↓FX.sp25, ↓FX.sp26, ↓FX.sp27, ↓FX.sp28, ↓FX.sp29, ↓FX.sp30, ↓FX.sp31, ↓FX.sp32, ↓FX.sp33, ↓FX.hp0, ↓FX.hp1, ↓FX.hp2, ↓FX.hp3, ↓FX.hp4, ↓FX.wp0, ↓FX.wp1, ↓FX.wp2, ↓FX.wp3, ↓FX.wp4, end_rt, end_nx, ↓tgQ_eq, Bool.not_true, Bool.not_false, and_self, and_true, true_and, ↓pSortF, ↓pIxT (line_at (ln_at hj)) rfl, ↓lx0]
  unfold laterLs laterL lineD
  simp only [List.map_append, List.map_cons, List.map_nil, List.map_take, List.map_drop]
/-- the waits at a hub whose line j leaves later are the waits held back -/
theorem WW_later {p c y : Int} {ls : List Line} {i j : Nat} (h : Hub p ls) (hi : i < ls.length) (hj : j < ls.length) : WW p c 0 (laterLs p y ls j) i j = WW p c y ls i j := by
  obtain ⟨_, e1⟩ := later_at (p := p) (y := y) hj hi
  obtain ⟨_, e2⟩ := later_at (p := p) (y := y) hj hj
  rw [if_pos rfl] at e2
  have e3 : (ln (laterLs p y ls j) i).1 = (ln ls i).1 := by
    rw [e1]
    by_cases q : i = j
    · subst q; rw [if_pos rfl]; rfl
    · rw [if_neg q]
  unfold WW waitsI
  rw [e2, e3]
  refine List.map_congr_left fun m _ => ?_
  have hne := (h.lots _ (List.mem_of_getElem? (ln_at hj))).2.ne
  have key : ∀ l : Int, ((l + y) % p + 0 - m - c) % p = (l + y - m - c) % p := fun l => by
    rw [show (l + y) % p + 0 - m - c = (l + y) % p - (m + c) by omega, Int.emod_sub_emod, show l + y - (m + c) = l + y - m - c by omega]
  unfold wt laterL
  refine (mn_eq (by simpa using fun q => hne (by
    have := (isort_perm ((ln ls j).2.map fun z => (z + y) % p)).length_eq
    rw [q] at this
    simpa using this.symm)) fun z => ?_)
  simp only [List.mem_map, (isort_perm _).mem_iff]
  constructor
  · rintro ⟨_, ⟨l, hl, rfl⟩, rfl⟩
    exact ⟨l, hl, (key l).symm⟩
  · rintro ⟨l, hl, rfl⟩
    exact ⟨_, ⟨l, hl, rfl⟩, key l⟩
theorem WW_round {p c y : Int} {ls : List Line} {i j : Nat} : WW p (c + p) y ls i j = WW p c y ls i j ∧ WW p c (y + p) ls i j = WW p c y ls i j := by
  unfold WW waitsI
  refine ⟨List.map_congr_left fun m _ => ?_, List.map_congr_left fun m _ => ?_⟩
  · unfold wt
    congr 1
    exact List.map_congr_left fun l _ => by rw [show l + y - m - (c + p) = (l + y - m - c) - p by omega, Int.sub_emod_right]
  · unfold wt
    congr 1
    exact List.map_congr_left fun l _ => by rw [show l + (y + p) - m - c = (l + y - m - c) + p by omega, Int.add_emod_right]

end
end FX.K71

set_option Elab.async false
set_option linter.all false
set_option maxRecDepth 100000
set_option maxHeartbeats 4000000
namespace FX.K71
open PySem PySem.Spec PyProof.Rows L2 LamX FX
section
variable {K : PySem.W.Frag} {mg : Str → Option Value}
/-! ### small values -/
def SmD (a b : Nat) (d : D) : Prop := smd d = true ∧ dep d ≤ a ∧ nod d ≤ b
theorem SmD.int {i : Int} (h : i.natAbs < 2 ^ 64) : SmD 0 1 (.int i) := ⟨by unfold smd; exact decide_eq_true h, by unfold dep; omega, by unfold nod; omega⟩
theorem SmD.many {X : Type} {f : X → D} {a b : Nat} : ∀ {xs : List X}, (∀ x ∈ xs, SmD a b (f x)) → smds (xs.map f) = true ∧ deps (xs.map f) ≤ a ∧ nods (xs.map f) ≤ xs.length * b
  | [], _ => ⟨rfl, Nat.zero_le _, Nat.zero_le _⟩
  | x :: xs, h => by
    obtain ⟨a1, a2, a3⟩ := h x List.mem_cons_self
    obtain ⟨b1, b2, b3⟩ := SmD.many (xs := xs) fun y hy => h y (List.mem_cons_of_mem _ hy)
    refine ⟨?_, ?_, ?_⟩
    · rw [List.map_cons]; unfold smds; rw [a1, b1]; rfl
    · rw [List.map_cons]; unfold deps; omega
    · rw [List.map_cons, List.length_cons, Nat.succ_mul]; unfold nods; omega
theorem SmD.tup {X : Type} {f : X → D} {a b c : Nat} {xs : List X} (h : ∀ x ∈ xs, SmD a b (f x)) (l : xs.length * b + 1 ≤ c) : SmD (a + 1) c (.tup (xs.map f)) := by
  obtain ⟨b1, b2, b3⟩ := SmD.many h
  exact ⟨by unfold smd; exact b1, by unfold dep; omega, by unfold nod; omega⟩
theorem SmD.lst {X : Type} {f : X → D} {a b c : Nat} {xs : List X} (h : ∀ x ∈ xs, SmD a b (f x)) (l : xs.length * b + 1 ≤ c) : SmD (a + 1) c (.lst (xs.map f)) := by
  obtain ⟨b1, b2, b3⟩ := SmD.many h
  exact ⟨by unfold smd; exact b1, by unfold dep; omega, by unfold nod; omega⟩
theorem SmD.is (G : Txt K mg) {d : D} {a b : Nat} (h : SmD a b d) (ha : a ≤ 60) (hb : b ≤ 200000) : r__law_is G [d, d] = .ret (.v (.bl true)) [] := law_is_ok G h.1 (by have := h.2.1; omega) (by have := h.2.2; omega)
theorem wt_small {p c y : Int} {b : List Int} {m : Int} (hp : 0 < p) (ne : b ≠ []) : 0 ≤ wt p c y b m ∧ wt p c y b m < p := by
  unfold wt
  obtain ⟨h, _⟩ := mn_spec (xs := b.map fun l => (l + y - m - c) % p) (by simpa using ne)
  obtain ⟨l, _, e⟩ := List.mem_map.mp h
  rw [← e]
  exact ⟨Int.emod_nonneg _ (by omega), Int.emod_lt_of_pos _ hp⟩
theorem WW_small {p c y : Int} {ls : List Line} {i j : Nat} (h : Hub p ls) (hi : i < ls.length) (hj : j < ls.length) : (∀ z ∈ WW p c y ls i j, 0 ≤ z ∧ z < p) ∧ (WW p c y ls i j).length ≤ 1000 := by
  obtain ⟨l1, _⟩ := h.lots _ (List.mem_of_getElem? (ln_at hi))
  obtain ⟨_, l2⟩ := h.lots _ (List.mem_of_getElem? (ln_at hj))
  have h1 := h.lo
  unfold WW waitsI
  refine ⟨fun z hz => ?_, by rw [List.length_map]; exact l1.few⟩
  obtain ⟨m, _, rfl⟩ := List.mem_map.mp hz
  exact wt_small (by omega) l2.ne
theorem sum_small {p : Int} : ∀ {xs : List Int}, (∀ z ∈ xs, 0 ≤ z ∧ z < p) → 0 ≤ xs.sum ∧ xs.sum ≤ xs.length * p
  | [], _ => ⟨by simp, by simp⟩
  | x :: xs, h => by
    obtain ⟨a, b⟩ := h x List.mem_cons_self
    obtain ⟨c, d⟩ := sum_small (xs := xs) fun y hy => h y (List.mem_cons_of_mem _ hy)
    rw [List.sum_cons, List.length_cons]
    refine ⟨by omega, ?_⟩
    have e : ((xs.length + 1 : Nat) : Int) * p = xs.length * p + p := by rw [Int.natCast_add, Int.add_mul]; omega
    rw [e]; omega
theorem WW_sum {p c y : Int} {ls : List Line} {i j : Nat} (h : Hub p ls) (hi : i < ls.length) (hj : j < ls.length) : 0 ≤ (WW p c y ls i j).sum ∧ (WW p c y ls i j).sum ≤ 200000 := by
  obtain ⟨a, b⟩ := WW_small (c := c) (y := y) h hi hj
  obtain ⟨c1, d⟩ := sum_small a
  have h1 := h.lo
  have h2 := h.hi
  have : ((WW p c y ls i j).length : Int) * p ≤ 1000 * 200 := Int.mul_le_mul (by omega) h2 (by omega) (by omega)
  omega
theorem WWD_small {p c y : Int} {ls : List Line} {i j : Nat} (h : Hub p ls) (hi : i < ls.length) (hj : j < ls.length) : SmD 1 1001 (.tup ((WW p c y ls i j).map .int)) := by
  obtain ⟨a, b⟩ := WW_small (c := c) (y := y) h hi hj
  have h2 := h.hi
  exact SmD.tup (fun z hz => SmD.int (by obtain ⟨x, y⟩ := a z hz; omega)) (by omega)
theorem table_small {p c : Int} {ls : List Line} (h : Hub p ls) : SmD 2 100 (tableD p c ls) := by
  have h8 := h.few
  refine SmD.tup (f := fun i => .tup ((List.range ls.length).map fun j => .int (WW p c 0 ls i j).sum)) (fun i hi => SmD.tup (a := 0) (b := 1) (c := 9) (f := fun j => .int (WW p c 0 ls i j).sum) (fun j hj => SmD.int ?_) ?_) ?_
  · obtain ⟨x, y⟩ := WW_sum (c := c) (y := 0) h (List.mem_range.mp hi) (List.mem_range.mp hj)
    omega
  · rw [List.length_range]; omega
  · rw [List.length_range]; omega

end
end FX.K71

set_option Elab.async false
set_option linter.all false
set_option maxRecDepth 100000
set_option maxHeartbeats 4000000
namespace FX.K71
open PySem PySem.Spec PyProof.Rows L2 LamX FX
section
variable {K : PySem.W.Frag} {mg : Str → Option Value}
/-! ### one drawn hub -/
theorem plns_map {X : Type} {f : X → D} {n : Nat} : ∀ {xs : List X}, (∀ x ∈ xs, pln n (f x) = true) → plns n (xs.map f) = true
  | [], _ => by unfold plns; rfl
  | x :: xs, h => by
    rw [List.map_cons]
    unfold plns
    rw [h x List.mem_cons_self, plns_map (xs := xs) fun y hy => h y (List.mem_cons_of_mem _ hy)]
    rfl
theorem prs_ne {n : Nat} (h : 2 ≤ n) : prs n ≠ [] := fun e => by
  have : ((0 : Nat), 1) ∈ prs n := List.mem_flatMap.mpr ⟨0, List.mem_range.mpr (by omega), List.mem_map.mpr ⟨1, List.mem_filter.mpr ⟨List.mem_range.mpr (by omega), rfl⟩, rfl⟩⟩
  rw [e] at this
  cases this
def rowD (p c : Int) (ls : List Line) (i : Nat) : D := .tup ((List.range ls.length).map fun j => .int (WW p c 0 ls i j).sum)
theorem law_right_ok (G : Txt K mg) {hc : List D} (good : GoodH hc) : foP (r__law_right G hc []) fun r hc' => r = .v (.bl true) ∧ GoodH hc' := by
  refine runH_of ⟨[.hnd, .un, .un, .un, .un, .un, .un, .un, .un, .un, .un, .un, .un, .un, .un, .un, .un, .un], hc⟩ rfl ?_
  obtain ⟨r, hc1, e1, p, ls, rfl, h, p30, hg1⟩ := (hub_ok G good).ex
  obtain ⟨r, hc2, e2, d, hd, rfl, hg2⟩ := (some_ok G hg1 (ds := [.int 4, .int 60]) (by simp) (by simp)).ex
  obtain ⟨m, rfl, m0, m1⟩ : ∃ n : Int, d = .int n ∧ 4 ≤ n ∧ n ≤ 60 := by
    rcases List.mem_cons.mp hd with e | e
    · exact ⟨4, e, by omega, by omega⟩
    · exact ⟨60, List.mem_singleton.mp e, by omega, by omega⟩
  obtain ⟨r, hc3, e3, c, rfl, c0, c1, hg3⟩ := (draw_ok G hg2 (n := m) (by omega) (by omega)).ex
  have plo := h.lo
  have few := h.few
  have two := h.two
  have le : (ls.map lineD).length = ls.length := List.length_map _
  unfold m__law_right
  generalize hn : ls.length = n at *
  simp -implicitDefEqProofs (disch := omega) only [↓wp_bnd, ↓wp_ret, ↓wp_vV, ↓wp_vB, ↓wp_vL, ↓wp_hix, ↓wp_b1, ↓wp_b2, ↓wp_ifM, ↓wp_notM, ↓wp_andM, ↓wp_orM, ↓wp_asB, ↓wp_asI, ↓wp_notV, ↓wp_andV, ↓wp_orV, ↓wp_sq0, ↓wp_sq, ↓wp_tupM, ↓wp_frz, ↓wp_chM, ↓wp_sqS, ↓wp_seV, ↓wp_seL, ↓wp_asM, ↓wp_paM, ↓wp_paM3, ↓wp_paR2, ↓wp_paR3, ↓wp_rvM, ↓wp_rlM, ↓rv_v, ↓rv_l, ↓wp_shM, ↓wp_apM, ↓wp_exM, ↓wp_siM, ↓wp_clV, ↓wp_clL, ↓wp_hdM, ↓wp_chV, ↓wp_chL, ↓wp_itM, ↓wp_itA, ↓wp_rg1M, ↓wp_rg2M, ↓wp_zpM, ↓wp_enM, ↓wp_isiM, ↓wp_someM, ↓wp_sl3, ↓wp_frM, ↓wp_lc, ↓wp_agM, ↓wipP1, ↓wipP2, ↓wipP3, ↓bacP1, ↓bacP2, ↓bacP3, ↓spK0, ↓spK1, ↓spK2, ↓foP_ret, ↓rdP_v, ↓rdP_l, ↓lsP_l, ↓blP_bl, ↓inP_int, ↓vlP_val, ↓vlP_own, ↓hdP_hnd, ↓sqP_lst, ↓sqP_tup, ↓sqP_scr, ↓saP_lst, ↓saP_tup, ↓saP_rng, ↓ctP_nx, ↓ctP_rt, ↓ctP_bk, ↓ctP_ct, ↓lpP_nx, ↓lpP_ct, ↓lpP_bk, ↓lpP_rt, ↓zpP_lst, ↓zpP_tup, ↓enP_lst, ↓exP_lst, ↓tgP_V, ↓tgP_T, ↓tgsP_nil, ↓tgsP_cons, ↓rgP_ok, ↓iteP_true, ↓iteP_false, ↓iteP_t, ↓iteP_f, ↓iteP_nt, ↓iteP_nf, ↓hhP_eq, ↓opP_some, ↓pAdd, ↓pSub, ↓pNeg, ↓pMulR, ↓pMulL, ↓pMod, ↓pDiv, ↓p1018, ↓pLt, ↓pLe, ↓pGt, ↓pGe, ↓pOpB, ↓pEq, ↓pNe, ↓pIs0, ↓pIs1, ↓pIs2, ↓pIs3, ↓pIs4, ↓pIn0, ↓pIn1, ↓pIn2, ↓pIn3, ↓pIn4, ↓pLen1, ↓pLen2, ↓pLen3, ↓pInt, ↓pAbs, ↓pTup1, ↓pTup2, ↓pLst1, ↓pLst2, ↓pLst3, ↓pRng, ↓pSl1, ↓pSl2, ↓pSl3, ↓isi_int_non, ↓isi_int_bl, ↓isi_int_int, ↓isi_int_str, ↓isi_int_tup, ↓isi_int_lst, ↓isi_int_dic, ↓isi_bool_non, ↓isi_bool_bl, ↓isi_bool_int, ↓isi_bool_str, ↓isi_bool_tup, ↓isi_bool_lst, ↓isi_bool_dic, ↓isi_str_non, ↓isi_str_bl, ↓isi_str_int, ↓isi_str_str, ↓isi_str_tup, ↓isi_str_lst, ↓isi_str_dic, ↓isi_tuple_non, ↓isi_tuple_bl, ↓isi_tuple_int, ↓isi_tuple_str, ↓isi_tuple_tup, ↓isi_tuple_lst, ↓isi_tuple_dic, ↓isi_list_non, ↓isi_list_bl, ↓isi_list_int, ↓isi_list_str, ↓isi_list_tup, ↓isi_list_lst, ↓isi_list_dic, ↓isi_dict_non, ↓isi_dict_bl, ↓isi_dict_int, ↓isi_dict_str, ↓isi_dict_tup, ↓isi_dict_lst, ↓isi_dict_dic, ↓ixt0, ↓ixt1, ↓ixt2, ↓ixt3, ↓ixt4, ↓ixt5, ↓ixt6, ↓ixt7, ↓ixt8, ↓ixl0, ↓ixl1, ↓ixl2, ↓ixl3, ↓ixl4, ↓ixl5, ↓ixl6, ↓ixl7, ↓ixl8, ↓FX.gp0, ↓FX.gp1, ↓FX.gp2, ↓FX.gp3, ↓FX.gp4, ↓FX.gp5, ↓FX.gp6, ↓FX.gp7, ↓FX.gp8, ↓FX.gp9, ↓FX.gp10, ↓FX.gp11, ↓FX.gp12, ↓FX.gp13, ↓FX.gp14, ↓FX.gp15, ↓FX.gp16, ↓FX.gp17, ↓FX.gp18, ↓FX.gp19, ↓FX.gp20, ↓FX.gp21, ↓FX.gp22, ↓FX.gp23, ↓FX.gp24, ↓FX.gp25, ↓FX.gp26, ↓FX.gp27, ↓FX.gp28, ↓FX.gp29, ↓FX.gp30, ↓FX.gp31, ↓FX.gp32, ↓FX.gp33, ↓FX.sp0, ↓FX.sp1, ↓FX.sp2, ↓FX.sp3, ↓FX.sp4, ↓FX.sp5, ↓FX.sp6, ↓FX.sp7, ↓FX.sp8, ↓FX.sp9, ↓FX.sp10, ↓FX.sp11, ↓FX.sp12, ↓FX.sp13, ↓FX.sp14, ↓FX.sp15, ↓FX.sp16, ↓FX.sp17, ↓FX.sp18, ↓FX.sp19, ↓FX.sp20, ↓FX.sp21, ↓FX.sp22, ↓FX.sp23, ↓FX.sp24, ↓FX.sp25, ↓FX.sp26, ↓FX.sp27, ↓FX.sp28, ↓FX.sp29, ↓FX.sp30, ↓FX.sp31, ↓FX.sp32, ↓FX.sp33, ↓FX.hp0, ↓FX.hp1, ↓FX.hp2, ↓FX.hp3, ↓FX.hp4, ↓FX.wp0, ↓FX.wp1, ↓FX.wp2, ↓FX.wp3, ↓FX.wp4, end_rt, end_nx, ↓tgQ_eq, Bool.not_true, Bool.not_false, and_self, and_true, true_and, ↓foP_of e1, ↓foP_of e2, ↓foP_of e3, ↓hx1, le, Int.sub_zero, Int.toNat_natCast, rngD0]
  try rw [le]
  have rl : ∀ k, ((List.range n).take k).length ≤ 8 := fun k => by rw [List.length_take, List.length_range]; omega
  have lw : ∀ i j : Nat, i < n → j < n → r__law_waits G [hubD p ls, .int c, .int i, .int j] = .ret (.v (.tup ((WW p c 0 ls i j).map .int))) [] := fun i j hi hj =>
    law_waits_ok G (by omega) (by omega) (by omega) (h.lots _ (List.mem_of_getElem? (ln_at (by omega)))).1.few (h.lots _ (List.mem_of_getElem? (ln_at (by omega)))).2.few (h.lots _ (List.mem_of_getElem? (ln_at (by omega)))).2.ne
  have cw : ∀ i j : Nat, i < n → j < n → r_change_waits G [hubD p ls, .int c, .int i, .int j] = .ret (.v (.tup ((WW p c 0 ls i j).map .int))) [] := fun i j hi hj =>
    change_waits_ok G h c0 (by omega) (ln_at (by omega)) (ln_at (by omega))
  have rn : ((List.range n).map fun (i : Nat) => D.int (i : Int)).length ≤ sizeLine := by rw [List.length_map, List.length_range, sizeLine_eq]; omega
  refine wp_frT (enc := fun i : Nat => D.int i) (fun k S => ∃ x y z, S = ⟨[.hnd, .val (hubD p ls), .val (.int c), .val (.int n), .own (((List.range n).take k).map (rowD p c ls)), .own ((((List.range n).take k).flatMap fun i => ((List.range n).filter fun j => !decide (j = i)).map fun j => (i, j)).map (tripD (gw p c ls))), x, y, .un, .un, .un, .un, z, .un, .un, .un, .un, .un], hc3⟩) ⟨.un, .un, .un, by simp <;> rfl⟩ ?_ ?_
  · rintro S ⟨x, y, z, rfl⟩
    rw [List.take_of_length_le (by omega), show ((List.range n).flatMap fun i => ((List.range n).filter fun j => !decide (j = i)).map fun j => (i, j)) = prs n from rfl]
    have tb : r_change_table G [hubD p ls, .int c] = .ret (.v (.tup ((List.range n).map (rowD p c ls)))) [] := by rw [change_table_ok G h c0 (by omega)]; unfold tableD rowD; rw [hn]
    have sm1 : SmD 2 100 (.tup ((List.range n).map (rowD p c ls))) := by have := table_small (c := c) h; unfold tableD at this; rw [hn] at this; unfold rowD; rw [hn]; exact this
    simp -implicitDefEqProofs (disch := omega) only [↓wp_bnd, ↓wp_ret, ↓wp_vV, ↓wp_vB, ↓wp_vL, ↓wp_hix, ↓wp_b1, ↓wp_b2, ↓wp_ifM, ↓wp_notM, ↓wp_andM, ↓wp_orM, ↓wp_asB, ↓wp_asI, ↓wp_notV, ↓wp_andV, ↓wp_orV, ↓wp_sq0, ↓wp_sq, ↓wp_tupM, ↓wp_frz, ↓wp_chM, ↓wp_sqS, ↓wp_seV, ↓wp_seL, ↓wp_asM, ↓wp_paM, ↓wp_paM3, ↓wp_paR2, ↓wp_paR3, ↓wp_rvM, ↓wp_rlM, ↓rv_v, ↓rv_l, ↓wp_shM, ↓wp_apM, ↓wp_exM, ↓wp_siM, ↓wp_clV, ↓wp_clL, ↓wp_hdM, ↓wp_chV, ↓wp_chL, ↓wp_itM, ↓wp_itA, ↓wp_rg1M, ↓wp_rg2M, ↓wp_zpM, ↓wp_enM, ↓wp_isiM, ↓wp_someM, ↓wp_sl3, ↓wp_frM, ↓wp_lc, ↓wp_agM, ↓wipP1, ↓wipP2, ↓wipP3, ↓bacP1, ↓bacP2, ↓bacP3, ↓spK0, ↓spK1, ↓spK2, ↓foP_ret, ↓rdP_v, ↓rdP_l, ↓lsP_l, ↓blP_bl, ↓inP_int, ↓vlP_val, ↓vlP_own, ↓hdP_hnd, ↓sqP_lst, ↓sqP_tup, ↓sqP_scr, ↓saP_lst, ↓saP_tup, ↓saP_rng, ↓ctP_nx, ↓ctP_rt, ↓ctP_bk, ↓ctP_ct, ↓lpP_nx, ↓lpP_ct, ↓lpP_bk, ↓lpP_rt, ↓zpP_lst, ↓zpP_tup, ↓enP_lst, ↓exP_lst, ↓tgP_V, ↓tgP_T, ↓tgsP_nil, ↓tgsP_cons, ↓rgP_ok, ↓iteP_true, ↓iteP_false, ↓iteP_t, ↓iteP_f, ↓iteP_nt, ↓iteP_nf, ↓hhP_eq, ↓opP_some, ↓pAdd, ↓pSub, ↓pNeg, ↓pMulR, ↓pMulL, ↓pMod, ↓pDiv, ↓p1018, ↓pLt, ↓pLe, ↓pGt, ↓pGe, ↓pOpB, ↓pEq, ↓pNe, ↓pIs0, ↓pIs1, ↓pIs2, ↓pIs3, ↓pIs4, ↓pIn0, ↓pIn1, ↓pIn2, ↓pIn3, ↓pIn4, ↓pLen1, ↓pLen2, ↓pLen3, ↓pInt, ↓pAbs, ↓pTup1, ↓pTup2, ↓pLst1, ↓pLst2, ↓pLst3, ↓pRng, ↓pSl1, ↓pSl2, ↓pSl3, ↓isi_int_non, ↓isi_int_bl, ↓isi_int_int, ↓isi_int_str, ↓isi_int_tup, ↓isi_int_lst, ↓isi_int_dic, ↓isi_bool_non, ↓isi_bool_bl, ↓isi_bool_int, ↓isi_bool_str, ↓isi_bool_tup, ↓isi_bool_lst, ↓isi_bool_dic, ↓isi_str_non, ↓isi_str_bl, ↓isi_str_int, ↓isi_str_str, ↓isi_str_tup, ↓isi_str_lst, ↓isi_str_dic, ↓isi_tuple_non, ↓isi_tuple_bl, ↓isi_tuple_int, ↓isi_tuple_str, ↓isi_tuple_tup, ↓isi_tuple_lst, ↓isi_tuple_dic, ↓isi_list_non, ↓isi_list_bl, ↓isi_list_int, ↓isi_list_str, ↓isi_list_tup, ↓isi_list_lst, ↓isi_list_dic, ↓isi_dict_non, ↓isi_dict_bl, ↓isi_dict_int, ↓isi_dict_str, ↓isi_dict_tup, ↓isi_dict_lst, ↓isi_dict_dic, ↓ixt0, ↓ixt1, ↓ixt2, ↓ixt3, ↓ixt4, ↓ixt5, ↓ixt6, ↓ixt7, ↓ixt8, ↓ixl0, ↓ixl1, ↓ixl2, ↓ixl3, ↓ixl4, ↓ixl5, ↓ixl6, ↓ixl7, ↓ixl8, ↓FX.gp0, ↓FX.gp1, ↓FX.gp2, ↓FX.gp3, ↓FX.gp4, ↓FX.gp5, ↓FX.gp6, ↓FX.gp7, ↓FX.gp8, ↓FX.gp9, ↓FX.gp10, ↓FX.gp11, ↓FX.gp12, ↓FX.gp13, ↓FX.gp14, ↓FX.gp15, ↓FX.gp16, ↓FX.gp17, ↓FX.gp18, ↓FX.gp19, ↓FX.gp20, ↓FX.gp21, ↓FX.gp22, ↓FX.gp23, ↓FX.gp24, ↓FX.gp25, ↓FX.gp26, ↓FX.gp27, ↓FX.gp28, ↓FX.gp29, ↓FX.gp30, ↓FX.gp31, ↓FX.gp32, ↓FX.gp33, ↓FX.sp0, ↓FX.sp1, ↓FX.sp2, ↓FX.sp3, ↓FX.sp4, ↓FX.sp5, ↓FX.sp6, ↓FX.sp7, ↓FX.sp8, ↓FX.sp9, ↓FX.sp10, ↓FX.sp11, ↓FX.sp12, ↓FX.sp13, ↓FX.sp14, ↓FX.sp15, ↓FX.sp16, ↓FX.sp17, ↓FX.sp18, ↓FX.sp19, ↓FX.sp20, ↓FX.sp21, ↓FX.sp22, ↓FX.sp23, ↓FX.sp24, ↓FX.sp25, ↓FX.sp26, ↓FX.sp27, ↓FX.sp28, ↓FX.sp29, ↓FX.sp30, ↓FX.sp31, ↓FX.sp32, ↓FX.sp33, ↓FX.hp0, ↓FX.hp1, ↓FX.hp2, ↓FX.hp3, ↓FX.hp4, ↓FX.wp0, ↓FX.wp1, ↓FX.wp2, ↓FX.wp3, ↓FX.wp4, end_rt, end_nx, ↓tgQ_eq, Bool.not_true, Bool.not_false, and_self, and_true, true_and, ↓foP_of tb, ↓foP_of (sm1.is G (by omega) (by omega))]
    have pl := prs_len n
    have l3 : n * n ≤ 8 * 8 := Nat.mul_le_mul few few
    have pls : ((prs n).map (tripD (gw p c ls))).length ≤ sizeLine := by rw [List.length_map, sizeLine_eq]; omega
    have pne : prs n ≠ [] := prs_ne (by omega)
    obtain ⟨q0, b0, b1, b2, b3⟩ := bst_is (f := gw p c ls) pne
    have mxe : maxI ((prs n).map (gw p c ls)) = some (mx ((prs n).map (gw p c ls))) := maxI_ne (by simpa using pne)
    have bmax : ∀ q ∈ prs n, gw p c ls q ≤ mx ((prs n).map (gw p c ls)) := fun q hq => (mx_spec (xs := (prs n).map (gw p c ls)) (by simpa using pne)).2 _ (List.mem_map_of_mem hq)
    generalize mx ((prs n).map (gw p c ls)) = M at *
    have ix0 : ∀ (q : Nat × Nat) (Q : D → Prop), opP (ixD (tripD (gw p c ls) q) (.int 0)) Q = Q (.int (gw p c ls q)) := fun _ _ => rfl
    have M0 : 0 ≤ M ∧ M ≤ 200 := by
      obtain ⟨y1, y2, _⟩ := prs_mem b1
      obtain ⟨z1, _⟩ := mx_spec (WW_ne (p := p) (c := c) (y := 0) (j := q0.2) h (show q0.1 < ls.length by omega))
      have := (WW_small (c := c) (y := 0) h (show q0.1 < ls.length by omega) (show q0.2 < ls.length by omega)).1 _ z1
      have e : gw p c ls q0 = mx (WW p c 0 ls q0.1 q0.2) := rfl
      have := h.hi
      omega
    have hb0 : ((prs n).filter fun q => decide (gw p c ls q = M))[0]? = some q0 := by rw [← List.head?_eq_getElem?]; exact b3
    have hb : (((prs n).filter fun q => decide (gw p c ls q = M)).map (tripD (gw p c ls)))[0]? = some (tripD (gw p c ls) q0) := by rw [List.getElem?_map, hb0]; rfl
    have wo : r_worst_change G [hubD p ls, .int c] = .ret (.v (tripD (gw p c ls) q0)) [] := by rw [worst_change_ok G h c0 (by omega), hn, b0]; rfl
    have sm2 : SmD 1 4 (tripD (gw p c ls) q0) := by
      obtain ⟨y1, y2, _⟩ := prs_mem b1
      exact SmD.tup (f := D.int) (xs := [gw p c ls q0, (q0.1 : Int), (q0.2 : Int)]) (a := 0) (b := 1) (fun z hz => SmD.int (by simp only [List.mem_cons, List.not_mem_nil, or_false] at hz; omega)) (by simp)
    refine ⟨pls, wp_lcA (enc := tripD (gw p c ls)) (g := fun q => .int (gw p c ls q)) (fun q hq => by simp -implicitDefEqProofs (disch := omega) only [↓wp_bnd, ↓wp_ret, ↓wp_vV, ↓wp_vB, ↓wp_vL, ↓wp_hix, ↓wp_b1, ↓wp_b2, ↓wp_ifM, ↓wp_notM, ↓wp_andM, ↓wp_orM, ↓wp_asB, ↓wp_asI, ↓wp_notV, ↓wp_andV, ↓wp_orV, ↓wp_sq0, ↓wp_sq, ↓wp_tupM, ↓wp_frz, ↓wp_chM, ↓wp_sqS, ↓wp_seV, ↓wp_seL, ↓wp_asM, ↓wp_paM, ↓wp_paM3, ↓wp_paR2, ↓wp_paR3, ↓wp_rvM, ↓wp_rlM, ↓rv_v, ↓rv_l, ↓wp_shM, ↓wp_apM, ↓wp_exM, ↓wp_siM, ↓wp_clV, ↓wp_clL, ↓wp_hdM, ↓wp_chV, ↓wp_chL, ↓wp_itM, ↓wp_itA, ↓wp_rg1M, ↓wp_rg2M, ↓wp_zpM, ↓wp_enM, ↓wp_isiM, ↓wp_someM, ↓wp_sl3, ↓wp_frM, ↓wp_lc, ↓wp_agM, ↓wipP1, ↓wipP2, ↓wipP3, ↓bacP1, ↓bacP2, ↓bacP3, ↓spK0, ↓spK1, ↓spK2, ↓foP_ret, ↓rdP_v, ↓rdP_l, ↓lsP_l, ↓blP_bl, ↓inP_int, ↓vlP_val, ↓vlP_own, ↓hdP_hnd, ↓sqP_lst, ↓sqP_tup, ↓sqP_scr, ↓saP_lst, ↓saP_tup, ↓saP_rng, ↓ctP_nx, ↓ctP_rt, ↓ctP_bk, ↓ctP_ct, ↓lpP_nx, ↓lpP_ct, ↓lpP_bk, ↓lpP_rt, ↓zpP_lst, ↓zpP_tup, ↓enP_lst, ↓exP_lst, ↓tgP_V, ↓tgP_T, ↓tgsP_nil, ↓tgsP_cons, ↓rgP_ok, ↓iteP_true, ↓iteP_false, ↓iteP_t, ↓iteP_f, ↓iteP_nt, ↓iteP_nf, ↓hhP_eq, ↓opP_some, ↓pAdd, ↓pSub, ↓pNeg, ↓pMulR, ↓pMulL, ↓pMod, ↓pDiv, ↓p1018, ↓pLt, ↓pLe, ↓pGt, ↓pGe, ↓pOpB, ↓pEq, ↓pNe, ↓pIs0, ↓pIs1, ↓pIs2, ↓pIs3, ↓pIs4, ↓pIn0, ↓pIn1, ↓pIn2, ↓pIn3, ↓pIn4, ↓pLen1, ↓pLen2, ↓pLen3, ↓pInt, ↓pAbs, ↓pTup1, ↓pTup2, ↓pLst1, ↓pLst2, ↓pLst3, ↓pRng, ↓pSl1, ↓pSl2, ↓pSl3, ↓isi_int_non, ↓isi_int_bl, ↓isi_int_int, ↓isi_int_str, ↓isi_int_tup, ↓isi_int_lst, ↓isi_int_dic, ↓isi_bool_non, ↓isi_bool_bl, ↓isi_bool_int, ↓isi_bool_str, ↓isi_bool_tup, ↓isi_bool_lst, ↓isi_bool_dic, ↓isi_str_non, ↓isi_str_bl, ↓isi_str_int, ↓isi_str_str, ↓isi_str_tup, ↓isi_str_lst, ↓isi_str_dic, ↓isi_tuple_non, ↓isi_tuple_bl, ↓isi_tuple_int, ↓isi_tuple_str, ↓isi_tuple_tup, ↓isi_tuple_lst, ↓isi_tuple_dic, ↓isi_list_non, ↓isi_list_bl, ↓isi_list_int, ↓isi_list_str, ↓isi_list_tup, ↓isi_list_lst, ↓isi_list_dic, ↓isi_dict_non, ↓isi_dict_bl, ↓isi_dict_int, ↓isi_dict_str, ↓isi_dict_tup, ↓isi_dict_lst, ↓isi_dict_dic, ↓ixt0, ↓ixt1, ↓ixt2, ↓ixt3, ↓ixt4, ↓ixt5, ↓ixt6, ↓ixt7, ↓ixt8, ↓ixl0, ↓ixl1, ↓ixl2, ↓ixl3, ↓ixl4, ↓ixl5, ↓ixl6, ↓ixl7, ↓ixl8, ↓FX.gp0, ↓FX.gp1, ↓FX.gp2, ↓FX.gp3, ↓FX.gp4, ↓FX.gp5, ↓FX.gp6, ↓FX.gp7, ↓FX.gp8, ↓FX.gp9, ↓FX.gp10, ↓FX.gp11, ↓FX.gp12, ↓FX.gp13, ↓FX.gp14, ↓FX.gp15, ↓FX.gp16, ↓FX.gp17, ↓FX.gp18, ↓FX.gp19, ↓FX.gp20, ↓FX.gp21, ↓FX.gp22, ↓FX.gp23, ↓FX.gp24, ↓FX.gp25, ↓FX.gp26, ↓FX.gp27, ↓FX.gp28, ↓FX.gp29, ↓FX.gp30, ↓FX.gp31, ↓FX.gp32, ↓FX.gp33, ↓FX.sp0, ↓FX.sp1, ↓FX.sp2, ↓FX.sp3, ↓FX.sp4, ↓FX.sp5, ↓FX.sp6, ↓FX.sp7, ↓FX.sp8, ↓FX.sp9, ↓FX.sp10, ↓FX.sp11, ↓FX.sp12, ↓FX.sp13, ↓FX.sp14, ↓FX.sp15, ↓FX.sp16, ↓FX.sp17, ↓FX.sp18, ↓FX.sp19, ↓FX.sp20, ↓FX.sp21, ↓FX.sp22, ↓FX.sp23, ↓FX.sp24, ↓FX.sp25, ↓FX.sp26, ↓FX.sp27, ↓FX.sp28, ↓FX.sp29, ↓FX.sp30, ↓FX.sp31, ↓FX.sp32, ↓FX.sp33, ↓FX.hp0, ↓FX.hp1, ↓FX.hp2, ↓FX.hp3, ↓FX.hp4, ↓FX.wp0, ↓FX.wp1, ↓FX.wp2, ↓FX.wp3, ↓FX.wp4, end_rt, end_nx, ↓tgQ_eq, Bool.not_true, Bool.not_false, and_self, and_true, true_and, ↓ix0]) ?_⟩
    simp -implicitDefEqProofs (disch := omega) only [↓wp_bnd, ↓wp_ret, ↓wp_vV, ↓wp_vB, ↓wp_vL, ↓wp_hix, ↓wp_b1, ↓wp_b2, ↓wp_ifM, ↓wp_notM, ↓wp_andM, ↓wp_orM, ↓wp_asB, ↓wp_asI, ↓wp_notV, ↓wp_andV, ↓wp_orV, ↓wp_sq0, ↓wp_sq, ↓wp_tupM, ↓wp_frz, ↓wp_chM, ↓wp_sqS, ↓wp_seV, ↓wp_seL, ↓wp_asM, ↓wp_paM, ↓wp_paM3, ↓wp_paR2, ↓wp_paR3, ↓wp_rvM, ↓wp_rlM, ↓rv_v, ↓rv_l, ↓wp_shM, ↓wp_apM, ↓wp_exM, ↓wp_siM, ↓wp_clV, ↓wp_clL, ↓wp_hdM, ↓wp_chV, ↓wp_chL, ↓wp_itM, ↓wp_itA, ↓wp_rg1M, ↓wp_rg2M, ↓wp_zpM, ↓wp_enM, ↓wp_isiM, ↓wp_someM, ↓wp_sl3, ↓wp_frM, ↓wp_lc, ↓wp_agM, ↓wipP1, ↓wipP2, ↓wipP3, ↓bacP1, ↓bacP2, ↓bacP3, ↓spK0, ↓spK1, ↓spK2, ↓foP_ret, ↓rdP_v, ↓rdP_l, ↓lsP_l, ↓blP_bl, ↓inP_int, ↓vlP_val, ↓vlP_own, ↓hdP_hnd, ↓sqP_lst, ↓sqP_tup, ↓sqP_scr, ↓saP_lst, ↓saP_tup, ↓saP_rng, ↓ctP_nx, ↓ctP_rt, ↓ctP_bk, ↓ctP_ct, ↓lpP_nx, ↓lpP_ct, ↓lpP_bk, ↓lpP_rt, ↓zpP_lst, ↓zpP_tup, ↓enP_lst, ↓exP_lst, ↓tgP_V, ↓tgP_T, ↓tgsP_nil, ↓tgsP_cons, ↓rgP_ok, ↓iteP_true, ↓iteP_false, ↓iteP_t, ↓iteP_f, ↓iteP_nt, ↓iteP_nf, ↓hhP_eq, ↓opP_some, ↓pAdd, ↓pSub, ↓pNeg, ↓pMulR, ↓pMulL, ↓pMod, ↓pDiv, ↓p1018, ↓pLt, ↓pLe, ↓pGt, ↓pGe, ↓pOpB, ↓pEq, ↓pNe, ↓pIs0, ↓pIs1, ↓pIs2, ↓pIs3, ↓pIs4, ↓pIn0, ↓pIn1, ↓pIn2, ↓pIn3, ↓pIn4, ↓pLen1, ↓pLen2, ↓pLen3, ↓pInt, ↓pAbs, ↓pTup1, ↓pTup2, ↓pLst1, ↓pLst2, ↓pLst3, ↓pRng, ↓pSl1, ↓pSl2, ↓pSl3, ↓isi_int_non, ↓isi_int_bl, ↓isi_int_int, ↓isi_int_str, ↓isi_int_tup, ↓isi_int_lst, ↓isi_int_dic, ↓isi_bool_non, ↓isi_bool_bl, ↓isi_bool_int, ↓isi_bool_str, ↓isi_bool_tup, ↓isi_bool_lst, ↓isi_bool_dic, ↓isi_str_non, ↓isi_str_bl, ↓isi_str_int, ↓isi_str_str, ↓isi_str_tup, ↓isi_str_lst, ↓isi_str_dic, ↓isi_tuple_non, ↓isi_tuple_bl, ↓isi_tuple_int, ↓isi_tuple_str, ↓isi_tuple_tup, ↓isi_tuple_lst, ↓isi_tuple_dic, ↓isi_list_non, ↓isi_list_bl, ↓isi_list_int, ↓isi_list_str, ↓isi_list_tup, ↓isi_list_lst, ↓isi_list_dic, ↓isi_dict_non, ↓isi_dict_bl, ↓isi_dict_int, ↓isi_dict_str, ↓isi_dict_tup, ↓isi_dict_lst, ↓isi_dict_dic, ↓ixt0, ↓ixt1, ↓ixt2, ↓ixt3, ↓ixt4, ↓ixt5, ↓ixt6, ↓ixt7, ↓ixt8, ↓ixl0, ↓ixl1, ↓ixl2, ↓ixl3, ↓ixl4, ↓ixl5, ↓ixl6, ↓ixl7, ↓ixl8, ↓FX.gp0, ↓FX.gp1, ↓FX.gp2, ↓FX.gp3, ↓FX.gp4, ↓FX.gp5, ↓FX.gp6, ↓FX.gp7, ↓FX.gp8, ↓FX.gp9, ↓FX.gp10, ↓FX.gp11, ↓FX.gp12, ↓FX.gp13, ↓FX.gp14, ↓FX.gp15, ↓FX.gp16, ↓FX.gp17, ↓FX.gp18, ↓FX.gp19, ↓FX.gp20, ↓FX.gp21, ↓FX.gp22, ↓FX.gp23, ↓FX.gp24, ↓FX.gp25, ↓FX.gp26, ↓FX.gp27, ↓FX.gp28, ↓FX.gp29, ↓FX.gp30, ↓FX.gp31, ↓FX.gp32, ↓FX.gp33, ↓FX.sp0, ↓FX.sp1, ↓FX.sp2, ↓FX.sp3, ↓FX.sp4, ↓FX.sp5, ↓FX.sp6, ↓FX.sp7, ↓FX.sp8, ↓FX.sp9, ↓FX.sp10, ↓FX.sp11, ↓FX.sp12, ↓FX.sp13, ↓FX.sp14, ↓FX.sp15, ↓FX.sp16, ↓FX.sp17, ↓FX.sp18, ↓FX.sp19, ↓FX.sp20, ↓FX.sp21, ↓FX.sp22, ↓FX.sp23, ↓FX.sp24, ↓FX.sp25, ↓FX.sp26, ↓FX.sp27, ↓FX.sp28, ↓FX.sp29, ↓FX.sp30, ↓FX.sp31, ↓FX.sp32, ↓FX.sp33, ↓FX.hp0, ↓FX.hp1, ↓FX.hp2, ↓FX.hp3, ↓FX.hp4, ↓FX.wp0, ↓FX.wp1, ↓FX.wp2, ↓FX.wp3, ↓FX.wp4, end_rt, end_nx, ↓tgQ_eq, Bool.not_true, Bool.not_false, and_self, and_true, true_and, List.nil_append, ↓pMaxF, mxe]
    refine ⟨pls, wp_lcT (enc := tripD (gw p c ls)) (p := fun q => decide (gw p c ls q = M)) (g := tripD (gw p c ls)) (fun q hq => by simp -implicitDefEqProofs (disch := omega) only [↓wp_bnd, ↓wp_ret, ↓wp_vV, ↓wp_vB, ↓wp_vL, ↓wp_hix, ↓wp_b1, ↓wp_b2, ↓wp_ifM, ↓wp_notM, ↓wp_andM, ↓wp_orM, ↓wp_asB, ↓wp_asI, ↓wp_notV, ↓wp_andV, ↓wp_orV, ↓wp_sq0, ↓wp_sq, ↓wp_tupM, ↓wp_frz, ↓wp_chM, ↓wp_sqS, ↓wp_seV, ↓wp_seL, ↓wp_asM, ↓wp_paM, ↓wp_paM3, ↓wp_paR2, ↓wp_paR3, ↓wp_rvM, ↓wp_rlM, ↓rv_v, ↓rv_l, ↓wp_shM, ↓wp_apM, ↓wp_exM, ↓wp_siM, ↓wp_clV, ↓wp_clL, ↓wp_hdM, ↓wp_chV, ↓wp_chL, ↓wp_itM, ↓wp_itA, ↓wp_rg1M, ↓wp_rg2M, ↓wp_zpM, ↓wp_enM, ↓wp_isiM, ↓wp_someM, ↓wp_sl3, ↓wp_frM, ↓wp_lc, ↓wp_agM, ↓wipP1, ↓wipP2, ↓wipP3, ↓bacP1, ↓bacP2, ↓bacP3, ↓spK0, ↓spK1, ↓spK2, ↓foP_ret, ↓rdP_v, ↓rdP_l, ↓lsP_l, ↓blP_bl, ↓inP_int, ↓vlP_val, ↓vlP_own, ↓hdP_hnd, ↓sqP_lst, ↓sqP_tup, ↓sqP_scr, ↓saP_lst, ↓saP_tup, ↓saP_rng, ↓ctP_nx, ↓ctP_rt, ↓ctP_bk, ↓ctP_ct, ↓lpP_nx, ↓lpP_ct, ↓lpP_bk, ↓lpP_rt, ↓zpP_lst, ↓zpP_tup, ↓enP_lst, ↓exP_lst, ↓tgP_V, ↓tgP_T, ↓tgsP_nil, ↓tgsP_cons, ↓rgP_ok, ↓iteP_true, ↓iteP_false, ↓iteP_t, ↓iteP_f, ↓iteP_nt, ↓iteP_nf, ↓hhP_eq, ↓opP_some, ↓pAdd, ↓pSub, ↓pNeg, ↓pMulR, ↓pMulL, ↓pMod, ↓pDiv, ↓p1018, ↓pLt, ↓pLe, ↓pGt, ↓pGe, ↓pOpB, ↓pEq, ↓pNe, ↓pIs0, ↓pIs1, ↓pIs2, ↓pIs3, ↓pIs4, ↓pIn0, ↓pIn1, ↓pIn2, ↓pIn3, ↓pIn4, ↓pLen1, ↓pLen2, ↓pLen3, ↓pInt, ↓pAbs, ↓pTup1, ↓pTup2, ↓pLst1, ↓pLst2, ↓pLst3, ↓pRng, ↓pSl1, ↓pSl2, ↓pSl3, ↓isi_int_non, ↓isi_int_bl, ↓isi_int_int, ↓isi_int_str, ↓isi_int_tup, ↓isi_int_lst, ↓isi_int_dic, ↓isi_bool_non, ↓isi_bool_bl, ↓isi_bool_int, ↓isi_bool_str, ↓isi_bool_tup, ↓isi_bool_lst, ↓isi_bool_dic, ↓isi_str_non, ↓isi_str_bl, ↓isi_str_int, ↓isi_str_str, ↓isi_str_tup, ↓isi_str_lst, ↓isi_str_dic, ↓isi_tuple_non, ↓isi_tuple_bl, ↓isi_tuple_int, ↓isi_tuple_str, ↓isi_tuple_tup, ↓isi_tuple_lst, ↓isi_tuple_dic, ↓isi_list_non, ↓isi_list_bl, ↓isi_list_int, ↓isi_list_str, ↓isi_list_tup, ↓isi_list_lst, ↓isi_list_dic, ↓isi_dict_non, ↓isi_dict_bl, ↓isi_dict_int, ↓isi_dict_str, ↓isi_dict_tup, ↓isi_dict_lst, ↓isi_dict_dic, ↓ixt0, ↓ixt1, ↓ixt2, ↓ixt3, ↓ixt4, ↓ixt5, ↓ixt6, ↓ixt7, ↓ixt8, ↓ixl0, ↓ixl1, ↓ixl2, ↓ixl3, ↓ixl4, ↓ixl5, ↓ixl6, ↓ixl7, ↓ixl8, ↓FX.gp0, ↓FX.gp1, ↓FX.gp2, ↓FX.gp3, ↓FX.gp4, ↓FX.gp5, ↓FX.gp6, ↓FX.gp7, ↓FX.gp8, ↓FX.gp9, ↓FX.gp10, ↓FX.gp11, ↓FX.gp12, ↓FX.gp13, ↓FX.gp14, ↓FX.gp15, ↓FX.gp16, ↓FX.gp17, ↓FX.gp18, ↓FX.gp19, ↓FX.gp20, ↓FX.gp21, ↓FX.gp22, ↓FX.gp23, ↓FX.gp24, ↓FX.gp25, ↓FX.gp26, ↓FX.gp27, ↓FX.gp28, ↓FX.gp29, ↓FX.gp30, ↓FX.gp31, ↓FX.gp32, ↓FX.gp33, ↓FX.sp0, ↓FX.sp1, ↓FX.sp2, ↓FX.sp3, ↓FX.sp4, ↓FX.sp5, ↓FX.sp6, ↓FX.sp7, ↓FX.sp8, ↓FX.sp9, ↓FX.sp10, ↓FX.sp11, ↓FX.sp12, ↓FX.sp13, ↓FX.sp14, ↓FX.sp15, ↓FX.sp16, ↓FX.sp17, ↓FX.sp18, ↓FX.sp19, ↓FX.sp20, ↓FX.sp21, ↓FX.sp22, ↓FX.sp23, ↓FX.sp24, ↓FX.sp25, ↓FX.sp26, ↓FX.sp27, ↓FX.sp28, ↓FX.sp29, ↓FX.sp30, ↓FX.sp31, ↓FX.sp32, ↓FX.sp33, ↓FX.hp0, ↓FX.hp1, ↓FX.hp2, ↓FX.hp3, ↓FX.hp4, ↓FX.wp0, ↓FX.wp1, ↓FX.wp2, ↓FX.wp3, ↓FX.wp4, end_rt, end_nx, ↓tgQ_eq, Bool.not_true, Bool.not_false, and_self, and_true, true_and, ↓ix0]; exact fun _ => trivial) ?_⟩
    simp -implicitDefEqProofs (disch := omega) only [↓wp_bnd, ↓wp_ret, ↓wp_vV, ↓wp_vB, ↓wp_vL, ↓wp_hix, ↓wp_b1, ↓wp_b2, ↓wp_ifM, ↓wp_notM, ↓wp_andM, ↓wp_orM, ↓wp_asB, ↓wp_asI, ↓wp_notV, ↓wp_andV, ↓wp_orV, ↓wp_sq0, ↓wp_sq, ↓wp_tupM, ↓wp_frz, ↓wp_chM, ↓wp_sqS, ↓wp_seV, ↓wp_seL, ↓wp_asM, ↓wp_paM, ↓wp_paM3, ↓wp_paR2, ↓wp_paR3, ↓wp_rvM, ↓wp_rlM, ↓rv_v, ↓rv_l, ↓wp_shM, ↓wp_apM, ↓wp_exM, ↓wp_siM, ↓wp_clV, ↓wp_clL, ↓wp_hdM, ↓wp_chV, ↓wp_chL, ↓wp_itM, ↓wp_itA, ↓wp_rg1M, ↓wp_rg2M, ↓wp_zpM, ↓wp_enM, ↓wp_isiM, ↓wp_someM, ↓wp_sl3, ↓wp_frM, ↓wp_lc, ↓wp_agM, ↓wipP1, ↓wipP2, ↓wipP3, ↓bacP1, ↓bacP2, ↓bacP3, ↓spK0, ↓spK1, ↓spK2, ↓foP_ret, ↓rdP_v, ↓rdP_l, ↓lsP_l, ↓blP_bl, ↓inP_int, ↓vlP_val, ↓vlP_own, ↓hdP_hnd, ↓sqP_lst, ↓sqP_tup, ↓sqP_scr, ↓saP_lst, ↓saP_tup, ↓saP_rng, ↓ctP_nx, ↓ctP_rt, ↓ctP_bk, ↓ctP_ct, ↓lpP_nx, ↓lpP_ct, ↓lpP_bk, ↓lpP_rt, ↓zpP_lst, ↓zpP_tup, ↓enP_lst, ↓exP_lst, ↓tgP_V, ↓tgP_T, ↓tgsP_nil, ↓tgsP_cons, ↓rgP_ok, ↓iteP_true, ↓iteP_false, ↓iteP_t, ↓iteP_f, ↓iteP_nt, ↓iteP_nf, ↓hhP_eq, ↓opP_some, ↓pAdd, ↓pSub, ↓pNeg, ↓pMulR, ↓pMulL, ↓pMod, ↓pDiv, ↓p1018, ↓pLt, ↓pLe, ↓pGt, ↓pGe, ↓pOpB, ↓pEq, ↓pNe, ↓pIs0, ↓pIs1, ↓pIs2, ↓pIs3, ↓pIs4, ↓pIn0, ↓pIn1, ↓pIn2, ↓pIn3, ↓pIn4, ↓pLen1, ↓pLen2, ↓pLen3, ↓pInt, ↓pAbs, ↓pTup1, ↓pTup2, ↓pLst1, ↓pLst2, ↓pLst3, ↓pRng, ↓pSl1, ↓pSl2, ↓pSl3, ↓isi_int_non, ↓isi_int_bl, ↓isi_int_int, ↓isi_int_str, ↓isi_int_tup, ↓isi_int_lst, ↓isi_int_dic, ↓isi_bool_non, ↓isi_bool_bl, ↓isi_bool_int, ↓isi_bool_str, ↓isi_bool_tup, ↓isi_bool_lst, ↓isi_bool_dic, ↓isi_str_non, ↓isi_str_bl, ↓isi_str_int, ↓isi_str_str, ↓isi_str_tup, ↓isi_str_lst, ↓isi_str_dic, ↓isi_tuple_non, ↓isi_tuple_bl, ↓isi_tuple_int, ↓isi_tuple_str, ↓isi_tuple_tup, ↓isi_tuple_lst, ↓isi_tuple_dic, ↓isi_list_non, ↓isi_list_bl, ↓isi_list_int, ↓isi_list_str, ↓isi_list_tup, ↓isi_list_lst, ↓isi_list_dic, ↓isi_dict_non, ↓isi_dict_bl, ↓isi_dict_int, ↓isi_dict_str, ↓isi_dict_tup, ↓isi_dict_lst, ↓isi_dict_dic, ↓ixt0, ↓ixt1, ↓ixt2, ↓ixt3, ↓ixt4, ↓ixt5, ↓ixt6, ↓ixt7, ↓ixt8, ↓ixl0, ↓ixl1, ↓ixl2, ↓ixl3, ↓ixl4, ↓ixl5, ↓ixl6, ↓ixl7, ↓ixl8, ↓FX.gp0, ↓FX.gp1, ↓FX.gp2, ↓FX.gp3, ↓FX.gp4, ↓FX.gp5, ↓FX.gp6, ↓FX.gp7, ↓FX.gp8, ↓FX.gp9, ↓FX.gp10, ↓FX.gp11, ↓FX.gp12, ↓FX.gp13, ↓FX.gp14, ↓FX.gp15, ↓FX.gp16, ↓FX.gp17, ↓FX.gp18, ↓FX.gp19, ↓FX.gp20, ↓FX.gp21, ↓FX.gp22, ↓FX.gp23, ↓FX.gp24, ↓FX.gp25, ↓FX.gp26, ↓FX.gp27, ↓FX.gp28, ↓FX.gp29, ↓FX.gp30, ↓FX.gp31, ↓FX.gp32, ↓FX.gp33, ↓FX.sp0, ↓FX.sp1, ↓FX.sp2, ↓FX.sp3, ↓FX.sp4, ↓FX.sp5, ↓FX.sp6, ↓FX.sp7, ↓FX.sp8, ↓FX.sp9, ↓FX.sp10, ↓FX.sp11, ↓FX.sp12, ↓FX.sp13, ↓FX.sp14, ↓FX.sp15, ↓FX.sp16, ↓FX.sp17, ↓FX.sp18, ↓FX.sp19, ↓FX.sp20, ↓FX.sp21, ↓FX.sp22, ↓FX.sp23, ↓FX.sp24, ↓FX.sp25, ↓FX.sp26, ↓FX.sp27, ↓FX.sp28, ↓FX.sp29, ↓FX.sp30, ↓FX.sp31, ↓FX.sp32, ↓FX.sp33, ↓FX.hp0, ↓FX.hp1, ↓FX.hp2, ↓FX.hp3, ↓FX.hp4, ↓FX.wp0, ↓FX.wp1, ↓FX.wp2, ↓FX.wp3, ↓FX.wp4, end_rt, end_nx, ↓tgQ_eq, Bool.not_true, Bool.not_false, and_self, and_true, true_and, List.nil_append, ↓pIxL hb (i := 0) rfl, ↓foP_of wo, ↓foP_of (sm2.is G (by omega) (by omega))]
    obtain ⟨r, hc4, e4, k, rfl, k0, k1, hg4⟩ := (draw_ok G hg3 (n := M + 2) (by omega) (by omega)).ex
    simp -implicitDefEqProofs (disch := omega) only [↓wp_bnd, ↓wp_ret, ↓wp_vV, ↓wp_vB, ↓wp_vL, ↓wp_hix, ↓wp_b1, ↓wp_b2, ↓wp_ifM, ↓wp_notM, ↓wp_andM, ↓wp_orM, ↓wp_asB, ↓wp_asI, ↓wp_notV, ↓wp_andV, ↓wp_orV, ↓wp_sq0, ↓wp_sq, ↓wp_tupM, ↓wp_frz, ↓wp_chM, ↓wp_sqS, ↓wp_seV, ↓wp_seL, ↓wp_asM, ↓wp_paM, ↓wp_paM3, ↓wp_paR2, ↓wp_paR3, ↓wp_rvM, ↓wp_rlM, ↓rv_v, ↓rv_l, ↓wp_shM, ↓wp_apM, ↓wp_exM, ↓wp_siM, ↓wp_clV, ↓wp_clL, ↓wp_hdM, ↓wp_chV, ↓wp_chL, ↓wp_itM, ↓wp_itA, ↓wp_rg1M, ↓wp_rg2M, ↓wp_zpM, ↓wp_enM, ↓wp_isiM, ↓wp_someM, ↓wp_sl3, ↓wp_frM, ↓wp_lc, ↓wp_agM, ↓wipP1, ↓wipP2, ↓wipP3, ↓bacP1, ↓bacP2, ↓bacP3, ↓spK0, ↓spK1, ↓spK2, ↓foP_ret, ↓rdP_v, ↓rdP_l, ↓lsP_l, ↓blP_bl, ↓inP_int, ↓vlP_val, ↓vlP_own, ↓hdP_hnd, ↓sqP_lst, ↓sqP_tup, ↓sqP_scr, ↓saP_lst, ↓saP_tup, ↓saP_rng, ↓ctP_nx, ↓ctP_rt, ↓ctP_bk, ↓ctP_ct, ↓lpP_nx, ↓lpP_ct, ↓lpP_bk, ↓lpP_rt, ↓zpP_lst, ↓zpP_tup, ↓enP_lst, ↓exP_lst, ↓tgP_V, ↓tgP_T, ↓tgsP_nil, ↓tgsP_cons, ↓rgP_ok, ↓iteP_true, ↓iteP_false, ↓iteP_t, ↓iteP_f, ↓iteP_nt, ↓iteP_nf, ↓hhP_eq, ↓opP_some, ↓pAdd, ↓pSub, ↓pNeg, ↓pMulR, ↓pMulL, ↓pMod, ↓pDiv, ↓p1018, ↓pLt, ↓pLe, ↓pGt, ↓pGe, ↓pOpB, ↓pEq, ↓pNe, ↓pIs0, ↓pIs1, ↓pIs2, ↓pIs3, ↓pIs4, ↓pIn0, ↓pIn1, ↓pIn2, ↓pIn3, ↓pIn4, ↓pLen1, ↓pLen2, ↓pLen3, ↓pInt, ↓pAbs, ↓pTup1, ↓pTup2, ↓pLst1, ↓pLst2, ↓pLst3, ↓pRng, ↓pSl1, ↓pSl2, ↓pSl3, ↓isi_int_non, ↓isi_int_bl, ↓isi_int_int, ↓isi_int_str, ↓isi_int_tup, ↓isi_int_lst, ↓isi_int_dic, ↓isi_bool_non, ↓isi_bool_bl, ↓isi_bool_int, ↓isi_bool_str, ↓isi_bool_tup, ↓isi_bool_lst, ↓isi_bool_dic, ↓isi_str_non, ↓isi_str_bl, ↓isi_str_int, ↓isi_str_str, ↓isi_str_tup, ↓isi_str_lst, ↓isi_str_dic, ↓isi_tuple_non, ↓isi_tuple_bl, ↓isi_tuple_int, ↓isi_tuple_str, ↓isi_tuple_tup, ↓isi_tuple_lst, ↓isi_tuple_dic, ↓isi_list_non, ↓isi_list_bl, ↓isi_list_int, ↓isi_list_str, ↓isi_list_tup, ↓isi_list_lst, ↓isi_list_dic, ↓isi_dict_non, ↓isi_dict_bl, ↓isi_dict_int, ↓isi_dict_str, ↓isi_dict_tup, ↓isi_dict_lst, ↓isi_dict_dic, ↓ixt0, ↓ixt1, ↓ixt2, ↓ixt3, ↓ixt4, ↓ixt5, ↓ixt6, ↓ixt7, ↓ixt8, ↓ixl0, ↓ixl1, ↓ixl2, ↓ixl3, ↓ixl4, ↓ixl5, ↓ixl6, ↓ixl7, ↓ixl8, ↓FX.gp0, ↓FX.gp1, ↓FX.gp2, ↓FX.gp3, ↓FX.gp4, ↓FX.gp5, ↓FX.gp6, ↓FX.gp7, ↓FX.gp8, ↓FX.gp9, ↓FX.gp10, ↓FX.gp11, ↓FX.gp12, ↓FX.gp13, ↓FX.gp14, ↓FX.gp15, ↓FX.gp16, ↓FX.gp17, ↓FX.gp18, ↓FX.gp19, ↓FX.gp20, ↓FX.gp21, ↓FX.gp22, ↓FX.gp23, ↓FX.gp24, ↓FX.gp25, ↓FX.gp26, ↓FX.gp27, ↓FX.gp28, ↓FX.gp29, ↓FX.gp30, ↓FX.gp31, ↓FX.gp32, ↓FX.gp33, ↓FX.sp0, ↓FX.sp1, ↓FX.sp2, ↓FX.sp3, ↓FX.sp4, ↓FX.sp5, ↓FX.sp6, ↓FX.sp7, ↓FX.sp8, ↓FX.sp9, ↓FX.sp10, ↓FX.sp11, ↓FX.sp12, ↓FX.sp13, ↓FX.sp14, ↓FX.sp15, ↓FX.sp16, ↓FX.sp17, ↓FX.sp18, ↓FX.sp19, ↓FX.sp20, ↓FX.sp21, ↓FX.sp22, ↓FX.sp23, ↓FX.sp24, ↓FX.sp25, ↓FX.sp26, ↓FX.sp27, ↓FX.sp28, ↓FX.sp29, ↓FX.sp30, ↓FX.sp31, ↓FX.sp32, ↓FX.sp33, ↓FX.hp0, ↓FX.hp1, ↓FX.hp2, ↓FX.hp3, ↓FX.hp4, ↓FX.wp0, ↓FX.wp1, ↓FX.wp2, ↓FX.wp3, ↓FX.wp4, end_rt, end_nx, ↓tgQ_eq, Bool.not_true, Bool.not_false, and_self, and_true, true_and, ↓foP_of e4]
    refine ⟨pls, wp_lcT (enc := tripD (gw p c ls)) (p := fun q => decide (gw p c ls q ≤ k)) (g := pairD) (fun q hq => by unfold tripD; simp -implicitDefEqProofs (disch := omega) only [↓wp_bnd, ↓wp_ret, ↓wp_vV, ↓wp_vB, ↓wp_vL, ↓wp_hix, ↓wp_b1, ↓wp_b2, ↓wp_ifM, ↓wp_notM, ↓wp_andM, ↓wp_orM, ↓wp_asB, ↓wp_asI, ↓wp_notV, ↓wp_andV, ↓wp_orV, ↓wp_sq0, ↓wp_sq, ↓wp_tupM, ↓wp_frz, ↓wp_chM, ↓wp_sqS, ↓wp_seV, ↓wp_seL, ↓wp_asM, ↓wp_paM, ↓wp_paM3, ↓wp_paR2, ↓wp_paR3, ↓wp_rvM, ↓wp_rlM, ↓rv_v, ↓rv_l, ↓wp_shM, ↓wp_apM, ↓wp_exM, ↓wp_siM, ↓wp_clV, ↓wp_clL, ↓wp_hdM, ↓wp_chV, ↓wp_chL, ↓wp_itM, ↓wp_itA, ↓wp_rg1M, ↓wp_rg2M, ↓wp_zpM, ↓wp_enM, ↓wp_isiM, ↓wp_someM, ↓wp_sl3, ↓wp_frM, ↓wp_lc, ↓wp_agM, ↓wipP1, ↓wipP2, ↓wipP3, ↓bacP1, ↓bacP2, ↓bacP3, ↓spK0, ↓spK1, ↓spK2, ↓foP_ret, ↓rdP_v, ↓rdP_l, ↓lsP_l, ↓blP_bl, ↓inP_int, ↓vlP_val, ↓vlP_own, ↓hdP_hnd, ↓sqP_lst, ↓sqP_tup, ↓sqP_scr, ↓saP_lst, ↓saP_tup, ↓saP_rng, ↓ctP_nx, ↓ctP_rt, ↓ctP_bk, ↓ctP_ct, ↓lpP_nx, ↓lpP_ct, ↓lpP_bk, ↓lpP_rt, ↓zpP_lst, ↓zpP_tup, ↓enP_lst, ↓exP_lst, ↓tgP_V, ↓tgP_T, ↓tgsP_nil, ↓tgsP_cons, ↓rgP_ok, ↓iteP_true, ↓iteP_false, ↓iteP_t, ↓iteP_f, ↓iteP_nt, ↓iteP_nf, ↓hhP_eq, ↓opP_some, ↓pAdd, ↓pSub, ↓pNeg, ↓pMulR, ↓pMulL, ↓pMod, ↓pDiv, ↓p1018, ↓pLt, ↓pLe, ↓pGt, ↓pGe, ↓pOpB, ↓pEq, ↓pNe, ↓pIs0, ↓pIs1, ↓pIs2, ↓pIs3, ↓pIs4, ↓pIn0, ↓pIn1, ↓pIn2, ↓pIn3, ↓pIn4, ↓pLen1, ↓pLen2, ↓pLen3, ↓pInt, ↓pAbs, ↓pTup1, ↓pTup2, ↓pLst1, ↓pLst2, ↓pLst3, ↓pRng, ↓pSl1, ↓pSl2, ↓pSl3, ↓isi_int_non, ↓isi_int_bl, ↓isi_int_int, ↓isi_int_str, ↓isi_int_tup, ↓isi_int_lst, ↓isi_int_dic, ↓isi_bool_non, ↓isi_bool_bl, ↓isi_bool_int, ↓isi_bool_str, ↓isi_bool_tup, ↓isi_bool_lst, ↓isi_bool_dic, ↓isi_str_non, ↓isi_str_bl, ↓isi_str_int, ↓isi_str_str, ↓isi_str_tup, ↓isi_str_lst, ↓isi_str_dic, ↓isi_tuple_non, ↓isi_tuple_bl, ↓isi_tuple_int, ↓isi_tuple_str, ↓isi_tuple_tup, ↓isi_tuple_lst, ↓isi_tuple_dic, ↓isi_list_non, ↓isi_list_bl, ↓isi_list_int, ↓isi_list_str, ↓isi_list_tup, ↓isi_list_lst, ↓isi_list_dic, ↓isi_dict_non, ↓isi_dict_bl, ↓isi_dict_int, ↓isi_dict_str, ↓isi_dict_tup, ↓isi_dict_lst, ↓isi_dict_dic, ↓ixt0, ↓ixt1, ↓ixt2, ↓ixt3, ↓ixt4, ↓ixt5, ↓ixt6, ↓ixt7, ↓ixt8, ↓ixl0, ↓ixl1, ↓ixl2, ↓ixl3, ↓ixl4, ↓ixl5, ↓ixl6, ↓ixl7, ↓ixl8, ↓FX.gp0, ↓FX.gp1, ↓FX.gp2, ↓FX.gp3, ↓FX.gp4, ↓FX.gp5, ↓FX.gp6, ↓FX.gp7, ↓FX.gp8, ↓FX.gp9, ↓FX.gp10, ↓FX.gp11, ↓FX.gp12, ↓FX.gp13, ↓FX.gp14, ↓FX.gp15, ↓FX.gp16, ↓FX.gp17, ↓FX.gp18, ↓FX.gp19, ↓FX.gp20, ↓FX.gp21, ↓FX.gp22, ↓FX.gp23, ↓FX.gp24, ↓FX.gp25, ↓FX.gp26, ↓FX.gp27, ↓FX.gp28, ↓FX.gp29, ↓FX.gp30, ↓FX.gp31, ↓FX.gp32, ↓FX.gp33, ↓FX.sp0, ↓FX.sp1, ↓FX.sp2, ↓FX.sp3, ↓FX.sp4, ↓FX.sp5, ↓FX.sp6, ↓FX.sp7, ↓FX.sp8, ↓FX.sp9, ↓FX.sp10, ↓FX.sp11, ↓FX.sp12, ↓FX.sp13, ↓FX.sp14, ↓FX.sp15, ↓FX.sp16, ↓FX.sp17, ↓FX.sp18, ↓FX.sp19, ↓FX.sp20, ↓FX.sp21, ↓FX.sp22, ↓FX.sp23, ↓FX.sp24, ↓FX.sp25, ↓FX.sp26, ↓FX.sp27, ↓FX.sp28, ↓FX.sp29, ↓FX.sp30, ↓FX.sp31, ↓FX.sp32, ↓FX.sp33, ↓FX.hp0, ↓FX.hp1, ↓FX.hp2, ↓FX.hp3, ↓FX.hp4, ↓FX.wp0, ↓FX.wp1, ↓FX.wp2, ↓FX.wp3, ↓FX.wp4, end_rt, end_nx, ↓tgQ_eq, Bool.not_true, Bool.not_false, and_self, and_true, true_and]; exact fun _ => rfl) ?_⟩
    have ke : r_kept_changes G [hubD p ls, .int c, .int k] = .ret (.v (.lst (((prs n).filter fun q => decide (gw p c ls q ≤ k)).map pairD))) [] := by rw [kept_changes_ok G h c0 (by omega) k0, hn]
    have km : r_kept_changes G [hubD p ls, .int c, .int M] = .ret (.v (.lst ((prs n).map pairD))) [] := by
      rw [kept_changes_ok G h c0 (by omega) M0.1, hn, List.filter_eq_self.mpr]
      exact fun q hq => decide_eq_true (bmax q hq)
    have sm3 : SmD 2 200 (.lst (((prs n).filter fun q => decide (gw p c ls q ≤ k)).map pairD)) := SmD.lst (a := 1) (b := 3) (f := pairD) (fun q hq => by
      obtain ⟨y1, y2, _⟩ := prs_mem (List.mem_filter.mp hq).1
      exact SmD.tup (f := D.int) (xs := [(q.1 : Int), (q.2 : Int)]) (a := 0) (b := 1) (fun z hz => SmD.int (by simp only [List.mem_cons, List.not_mem_nil, or_false] at hz; omega)) (by simp)) (by have := List.length_filter_le (fun q => decide (gw p c ls q ≤ k)) (prs n); omega)
    simp -implicitDefEqProofs (disch := omega) only [↓wp_bnd, ↓wp_ret, ↓wp_vV, ↓wp_vB, ↓wp_vL, ↓wp_hix, ↓wp_b1, ↓wp_b2, ↓wp_ifM, ↓wp_notM, ↓wp_andM, ↓wp_orM, ↓wp_asB, ↓wp_asI, ↓wp_notV, ↓wp_andV, ↓wp_orV, ↓wp_sq0, ↓wp_sq, ↓wp_tupM, ↓wp_frz, ↓wp_chM, ↓wp_sqS, ↓wp_seV, ↓wp_seL, ↓wp_asM, ↓wp_paM, ↓wp_paM3, ↓wp_paR2, ↓wp_paR3, ↓wp_rvM, ↓wp_rlM, ↓rv_v, ↓rv_l, ↓wp_shM, ↓wp_apM, ↓wp_exM, ↓wp_siM, ↓wp_clV, ↓wp_clL, ↓wp_hdM, ↓wp_chV, ↓wp_chL, ↓wp_itM, ↓wp_itA, ↓wp_rg1M, ↓wp_rg2M, ↓wp_zpM, ↓wp_enM, ↓wp_isiM, ↓wp_someM, ↓wp_sl3, ↓wp_frM, ↓wp_lc, ↓wp_agM, ↓wipP1, ↓wipP2, ↓wipP3, ↓bacP1, ↓bacP2, ↓bacP3, ↓spK0, ↓spK1, ↓spK2, ↓foP_ret, ↓rdP_v, ↓rdP_l, ↓lsP_l, ↓blP_bl, ↓inP_int, ↓vlP_val, ↓vlP_own, ↓hdP_hnd, ↓sqP_lst, ↓sqP_tup, ↓sqP_scr, ↓saP_lst, ↓saP_tup, ↓saP_rng, ↓ctP_nx, ↓ctP_rt, ↓ctP_bk, ↓ctP_ct, ↓lpP_nx, ↓lpP_ct, ↓lpP_bk, ↓lpP_rt, ↓zpP_lst, ↓zpP_tup, ↓enP_lst, ↓exP_lst, ↓tgP_V, ↓tgP_T, ↓tgsP_nil, ↓tgsP_cons, ↓rgP_ok, ↓iteP_true, ↓iteP_false, ↓iteP_t, ↓iteP_f, ↓iteP_nt, ↓iteP_nf, ↓hhP_eq, ↓opP_some, ↓pAdd, ↓pSub, ↓pNeg, ↓pMulR, ↓pMulL, ↓pMod, ↓pDiv, ↓p1018, ↓pLt, ↓pLe, ↓pGt, ↓pGe, ↓pOpB, ↓pEq, ↓pNe, ↓pIs0, ↓pIs1, ↓pIs2, ↓pIs3, ↓pIs4, ↓pIn0, ↓pIn1, ↓pIn2, ↓pIn3, ↓pIn4, ↓pLen1, ↓pLen2, ↓pLen3, ↓pInt, ↓pAbs, ↓pTup1, ↓pTup2, ↓pLst1, ↓pLst2, ↓pLst3, ↓pRng, ↓pSl1, ↓pSl2, ↓pSl3, ↓isi_int_non, ↓isi_int_bl, ↓isi_int_int, ↓isi_int_str, ↓isi_int_tup, ↓isi_int_lst, ↓isi_int_dic, ↓isi_bool_non, ↓isi_bool_bl, ↓isi_bool_int, ↓isi_bool_str, ↓isi_bool_tup, ↓isi_bool_lst, ↓isi_bool_dic, ↓isi_str_non, ↓isi_str_bl, ↓isi_str_int, ↓isi_str_str, ↓isi_str_tup, ↓isi_str_lst, ↓isi_str_dic, ↓isi_tuple_non, ↓isi_tuple_bl, ↓isi_tuple_int, ↓isi_tuple_str, ↓isi_tuple_tup, ↓isi_tuple_lst, ↓isi_tuple_dic, ↓isi_list_non, ↓isi_list_bl, ↓isi_list_int, ↓isi_list_str, ↓isi_list_tup, ↓isi_list_lst, ↓isi_list_dic, ↓isi_dict_non, ↓isi_dict_bl, ↓isi_dict_int, ↓isi_dict_str, ↓isi_dict_tup, ↓isi_dict_lst, ↓isi_dict_dic, ↓ixt0, ↓ixt1, ↓ixt2, ↓ixt3, ↓ixt4, ↓ixt5, ↓ixt6, ↓ixt7, ↓ixt8, ↓ixl0, ↓ixl1, ↓ixl2, ↓ixl3, ↓ixl4, ↓ixl5, ↓ixl6, ↓ixl7, ↓ixl8, ↓FX.gp0, ↓FX.gp1, ↓FX.gp2, ↓FX.gp3, ↓FX.gp4, ↓FX.gp5, ↓FX.gp6, ↓FX.gp7, ↓FX.gp8, ↓FX.gp9, ↓FX.gp10, ↓FX.gp11, ↓FX.gp12, ↓FX.gp13, ↓FX.gp14, ↓FX.gp15, ↓FX.gp16, ↓FX.gp17, ↓FX.gp18, ↓FX.gp19, ↓FX.gp20, ↓FX.gp21, ↓FX.gp22, ↓FX.gp23, ↓FX.gp24, ↓FX.gp25, ↓FX.gp26, ↓FX.gp27, ↓FX.gp28, ↓FX.gp29, ↓FX.gp30, ↓FX.gp31, ↓FX.gp32, ↓FX.gp33, ↓FX.sp0, ↓FX.sp1, ↓FX.sp2, ↓FX.sp3, ↓FX.sp4, ↓FX.sp5, ↓FX.sp6, ↓FX.sp7, ↓FX.sp8, ↓FX.sp9, ↓FX.sp10, ↓FX.sp11, ↓FX.sp12, ↓FX.sp13, ↓FX.sp14, ↓FX.sp15, ↓FX.sp16, ↓FX.sp17, ↓FX.sp18, ↓FX.sp19, ↓FX.sp20, ↓FX.sp21, ↓FX.sp22, ↓FX.sp23, ↓FX.sp24, ↓FX.sp25, ↓FX.sp26, ↓FX.sp27, ↓FX.sp28, ↓FX.sp29, ↓FX.sp30, ↓FX.sp31, ↓FX.sp32, ↓FX.sp33, ↓FX.hp0, ↓FX.hp1, ↓FX.hp2, ↓FX.hp3, ↓FX.hp4, ↓FX.wp0, ↓FX.wp1, ↓FX.wp2, ↓FX.wp3, ↓FX.wp4, end_rt, end_nx, ↓tgQ_eq, Bool.not_true, Bool.not_false, and_self, and_true, true_and, List.nil_append, ↓foP_of ke, ↓foP_of km, ↓foP_of (sm3.is G (by omega) (by omega))]
    rw [List.length_map, List.length_map]
    rw [show decide (((prs n).length : Int) = ((prs n).length : Int)) = true from decide_eq_true rfl]
    obtain ⟨r, hc5, e5, k5, rfl, i0, i1, hg5⟩ := (draw_ok G hg4 (n := n) (by omega) (by omega)).ex
    obtain ⟨i, rfl⟩ := Int.eq_ofNat_of_zero_le i0
    obtain ⟨r, hc6, e6, k6, rfl, j0, j1, hg6⟩ := (draw_ok G hg5 (n := n) (by omega) (by omega)).ex
    obtain ⟨j, rfl⟩ := Int.eq_ofNat_of_zero_le j0
    obtain ⟨r, hc7, e7, v, rfl, v0, v1, hg7⟩ := (draw_ok G hg6 (n := p + 1) (by omega) (by omega)).ex
    have hi : i < n := by omega
    have hj : j < n := by omega
    obtain ⟨la, lb⟩ := later_at (p := p) (y := v) (ls := ls) (j := j) (i := i) (by omega) (by omega)
    have lt : r__law_waits G [hubD p (laterLs p v ls j), .int c, .int i, .int j] = .ret (.v (.tup ((WW p c v ls i j).map .int))) [] := by
      rw [← WW_later h (by omega) (by omega)]
      obtain ⟨_, lc⟩ := later_at (p := p) (y := v) (ls := ls) (j := j) (i := j) (by omega) (by omega)
      rw [if_pos rfl] at lc
      obtain ⟨li1, _⟩ := h.lots _ (List.mem_of_getElem? (ln_at (show i < ls.length by omega)))
      obtain ⟨_, lj2⟩ := h.lots _ (List.mem_of_getElem? (ln_at (show j < ls.length by omega)))
      have ll : (isort ((ln ls j).2.map fun z => (z + v) % p)).length = (ln ls j).2.length := by rw [(isort_perm _).length_eq, List.length_map]
      have lne : 0 < (ln ls j).2.length := List.length_pos_iff.mpr lj2.ne
      refine law_waits_ok G (by omega) (by omega) (by omega) ?_ ?_ ?_
      · rw [lb]
        split
        · rename_i q; subst q; exact li1.few
        · exact li1.few
      · rw [lc]; unfold laterL; rw [ll]; exact lj2.few
      · rw [lc]; unfold laterL; exact List.length_pos_iff.mp (by rw [ll]; exact lne)
    have g1 : r_held_gain G [hubD p ls, .int c, .int i, .int j, .int v] = .ret (.v (.int ((WW p c 0 ls i j).sum - (WW p c v ls i j).sum))) [] := held_gain_ok G h c0 (by omega) (by omega) (by omega) v0 (by omega)
    have g2 : r_held_gain G [hubD p ls, .int c, .int i, .int j, .int p] = .ret (.v (.int 0)) [] := by
      rw [held_gain_ok G h c0 (by omega) (by omega) (by omega) (by omega) (by omega)]
      have := (WW_round (p := p) (c := c) (y := 0) (ls := ls) (i := i) (j := j)).2
      rw [Int.zero_add] at this
      rw [this, Int.sub_self]
    have l8 := law_later_ok G (p := p) (y := v) (ls := ls) (j := j) (by omega) (by omega) (by omega) (h.lots _ (List.mem_of_getElem? (ln_at (by omega)))).2.few
    have sm4 : SmD 1 3 (.lst [.int ((WW p c 0 ls i j).sum - (WW p c v ls i j).sum), .int 0]) := by
      have s1 := WW_sum (c := c) (y := 0) h (show i < ls.length by omega) (show j < ls.length by omega)
      have s2 := WW_sum (c := c) (y := v) h (show i < ls.length by omega) (show j < ls.length by omega)
      exact SmD.lst (f := D.int) (xs := [(WW p c 0 ls i j).sum - (WW p c v ls i j).sum, 0]) (a := 0) (b := 1) (fun z hz => SmD.int (by simp only [List.mem_cons, List.not_mem_nil, or_false] at hz; omega)) (by simp)
    simp -implicitDefEqProofs (disch := omega) only [↓wp_bnd, ↓wp_ret, ↓wp_vV, ↓wp_vB, ↓wp_vL, ↓wp_hix, ↓wp_b1, ↓wp_b2, ↓wp_ifM, ↓wp_notM, ↓wp_andM, ↓wp_orM, ↓wp_asB, ↓wp_asI, ↓wp_notV, ↓wp_andV, ↓wp_orV, ↓wp_sq0, ↓wp_sq, ↓wp_tupM, ↓wp_frz, ↓wp_chM, ↓wp_sqS, ↓wp_seV, ↓wp_seL, ↓wp_asM, ↓wp_paM, ↓wp_paM3, ↓wp_paR2, ↓wp_paR3, ↓wp_rvM, ↓wp_rlM, ↓rv_v, ↓rv_l, ↓wp_shM, ↓wp_apM, ↓wp_exM, ↓wp_siM, ↓wp_clV, ↓wp_clL, ↓wp_hdM, ↓wp_chV, ↓wp_chL, ↓wp_itM, ↓wp_itA, ↓wp_rg1M, ↓wp_rg2M, ↓wp_zpM, ↓wp_enM, ↓wp_isiM, ↓wp_someM, ↓wp_sl3, ↓wp_frM, ↓wp_lc, ↓wp_agM, ↓wipP1, ↓wipP2, ↓wipP3, ↓bacP1, ↓bacP2, ↓bacP3, ↓spK0, ↓spK1, ↓spK2, ↓foP_ret, ↓rdP_v, ↓rdP_l, ↓lsP_l, ↓blP_bl, ↓inP_int, ↓vlP_val, ↓vlP_own, ↓hdP_hnd, ↓sqP_lst, ↓sqP_tup, ↓sqP_scr, ↓saP_lst, ↓saP_tup, ↓saP_rng, ↓ctP_nx, ↓ctP_rt, ↓ctP_bk, ↓ctP_ct, ↓lpP_nx, ↓lpP_ct, ↓lpP_bk, ↓lpP_rt, ↓zpP_lst, ↓zpP_tup, ↓enP_lst, ↓exP_lst, ↓tgP_V, ↓tgP_T, ↓tgsP_nil, ↓tgsP_cons, ↓rgP_ok, ↓iteP_true, ↓iteP_false, ↓iteP_t, ↓iteP_f, ↓iteP_nt, ↓iteP_nf, ↓hhP_eq, ↓opP_some, ↓pAdd, ↓pSub, ↓pNeg, ↓pMulR, ↓pMulL, ↓pMod, ↓pDiv, ↓p1018, ↓pLt, ↓pLe, ↓pGt, ↓pGe, ↓pOpB, ↓pEq, ↓pNe, ↓pIs0, ↓pIs1, ↓pIs2, ↓pIs3, ↓pIs4, ↓pIn0, ↓pIn1, ↓pIn2, ↓pIn3, ↓pIn4, ↓pLen1, ↓pLen2, ↓pLen3, ↓pInt, ↓pAbs, ↓pTup1, ↓pTup2, ↓pLst1, ↓pLst2, ↓pLst3, ↓pRng, ↓pSl1, ↓pSl2, ↓pSl3, ↓isi_int_non, ↓isi_int_bl, ↓isi_int_int, ↓isi_int_str, ↓isi_int_tup, ↓isi_int_lst, ↓isi_int_dic, ↓isi_bool_non, ↓isi_bool_bl, ↓isi_bool_int, ↓isi_bool_str, ↓isi_bool_tup, ↓isi_bool_lst, ↓isi_bool_dic, ↓isi_str_non, ↓isi_str_bl, ↓isi_str_int, ↓isi_str_str, ↓isi_str_tup, ↓isi_str_lst, ↓isi_str_dic, ↓isi_tuple_non, ↓isi_tuple_bl, ↓isi_tuple_int, ↓isi_tuple_str, ↓isi_tuple_tup, ↓isi_tuple_lst, ↓isi_tuple_dic, ↓isi_list_non, ↓isi_list_bl, ↓isi_list_int, ↓isi_list_str, ↓isi_list_tup, ↓isi_list_lst, ↓isi_list_dic, ↓isi_dict_non, ↓isi_dict_bl, ↓isi_dict_int, ↓isi_dict_str, ↓isi_dict_tup, ↓isi_dict_lst, ↓isi_dict_dic, ↓ixt0, ↓ixt1, ↓ixt2, ↓ixt3, ↓ixt4, ↓ixt5, ↓ixt6, ↓ixt7, ↓ixt8, ↓ixl0, ↓ixl1, ↓ixl2, ↓ixl3, ↓ixl4, ↓ixl5, ↓ixl6, ↓ixl7, ↓ixl8, ↓FX.gp0, ↓FX.gp1, ↓FX.gp2, ↓FX.gp3, ↓FX.gp4, ↓FX.gp5, ↓FX.gp6, ↓FX.gp7, ↓FX.gp8, ↓FX.gp9, ↓FX.gp10, ↓FX.gp11, ↓FX.gp12, ↓FX.gp13, ↓FX.gp14, ↓FX.gp15, ↓FX.gp16, ↓FX.gp17, ↓FX.gp18, ↓FX.gp19, ↓FX.gp20, ↓FX.gp21, ↓FX.gp22, ↓FX.gp23, ↓FX.gp24, ↓FX.gp25, ↓FX.gp26, ↓FX.gp27, ↓FX.gp28, ↓FX.gp29, ↓FX.gp30, ↓FX.gp31, ↓FX.gp32, ↓FX.gp33, ↓FX.sp0, ↓FX.sp1, ↓FX.sp2, ↓FX.sp3, ↓FX.sp4, ↓FX.sp5, ↓FX.sp6, ↓FX.sp7, ↓FX.sp8, ↓FX.sp9, ↓FX.sp10, ↓FX.sp11, ↓FX.sp12, ↓FX.sp13, ↓FX.sp14, ↓FX.sp15, ↓FX.sp16, ↓FX.sp17, ↓FX.sp18, ↓FX.sp19, ↓FX.sp20, ↓FX.sp21, ↓FX.sp22, ↓FX.sp23, ↓FX.sp24, ↓FX.sp25, ↓FX.sp26, ↓FX.sp27, ↓FX.sp28, ↓FX.sp29, ↓FX.sp30, ↓FX.sp31, ↓FX.sp32, ↓FX.sp33, ↓FX.hp0, ↓FX.hp1, ↓FX.hp2, ↓FX.hp3, ↓FX.hp4, ↓FX.wp0, ↓FX.wp1, ↓FX.wp2, ↓FX.wp3, ↓FX.wp4, end_rt, end_nx, ↓tgQ_eq, Bool.not_true, Bool.not_false, and_self, and_true, true_and, ↓foP_of e5, ↓foP_of e6, ↓foP_of e7, ↓hx0, ↓foP_of (lw i j hi hj), ↓foP_of l8, ↓foP_of lt, ↓pSumT, ↓foP_of g1, ↓foP_of g2, ↓foP_of (sm4.is G (by omega) (by omega))]
    have tb2 : r_change_table G [hubD p ls, .int (c + p)] = .ret (.v (.tup ((List.range n).map (rowD p c ls)))) [] := by
      rw [change_table_ok G h (by omega) (by omega)]
      unfold tableD rowD
      rw [hn]
      simp only [(WW_round (y := 0)).1]
    have pl1 : pln 12 (.tup ((List.range n).map (rowD p c ls))) = true := by
      unfold pln
      refine plns_map fun i _ => ?_
      unfold rowD pln
      exact plns_map fun j _ => by unfold pln; rfl
    simp -implicitDefEqProofs (disch := omega) only [↓wp_bnd, ↓wp_ret, ↓wp_vV, ↓wp_vB, ↓wp_vL, ↓wp_hix, ↓wp_b1, ↓wp_b2, ↓wp_ifM, ↓wp_notM, ↓wp_andM, ↓wp_orM, ↓wp_asB, ↓wp_asI, ↓wp_notV, ↓wp_andV, ↓wp_orV, ↓wp_sq0, ↓wp_sq, ↓wp_tupM, ↓wp_frz, ↓wp_chM, ↓wp_sqS, ↓wp_seV, ↓wp_seL, ↓wp_asM, ↓wp_paM, ↓wp_paM3, ↓wp_paR2, ↓wp_paR3, ↓wp_rvM, ↓wp_rlM, ↓rv_v, ↓rv_l, ↓wp_shM, ↓wp_apM, ↓wp_exM, ↓wp_siM, ↓wp_clV, ↓wp_clL, ↓wp_hdM, ↓wp_chV, ↓wp_chL, ↓wp_itM, ↓wp_itA, ↓wp_rg1M, ↓wp_rg2M, ↓wp_zpM, ↓wp_enM, ↓wp_isiM, ↓wp_someM, ↓wp_sl3, ↓wp_frM, ↓wp_lc, ↓wp_agM, ↓wipP1, ↓wipP2, ↓wipP3, ↓bacP1, ↓bacP2, ↓bacP3, ↓spK0, ↓spK1, ↓spK2, ↓foP_ret, ↓rdP_v, ↓rdP_l, ↓lsP_l, ↓blP_bl, ↓inP_int, ↓vlP_val, ↓vlP_own, ↓hdP_hnd, ↓sqP_lst, ↓sqP_tup, ↓sqP_scr, ↓saP_lst, ↓saP_tup, ↓saP_rng, ↓ctP_nx, ↓ctP_rt, ↓ctP_bk, ↓ctP_ct, ↓lpP_nx, ↓lpP_ct, ↓lpP_bk, ↓lpP_rt, ↓zpP_lst, ↓zpP_tup, ↓enP_lst, ↓exP_lst, ↓tgP_V, ↓tgP_T, ↓tgsP_nil, ↓tgsP_cons, ↓rgP_ok, ↓iteP_true, ↓iteP_false, ↓iteP_t, ↓iteP_f, ↓iteP_nt, ↓iteP_nf, ↓hhP_eq, ↓opP_some, ↓pAdd, ↓pSub, ↓pNeg, ↓pMulR, ↓pMulL, ↓pMod, ↓pDiv, ↓p1018, ↓pLt, ↓pLe, ↓pGt, ↓pGe, ↓pOpB, ↓pEq, ↓pNe, ↓pIs0, ↓pIs1, ↓pIs2, ↓pIs3, ↓pIs4, ↓pIn0, ↓pIn1, ↓pIn2, ↓pIn3, ↓pIn4, ↓pLen1, ↓pLen2, ↓pLen3, ↓pInt, ↓pAbs, ↓pTup1, ↓pTup2, ↓pLst1, ↓pLst2, ↓pLst3, ↓pRng, ↓pSl1, ↓pSl2, ↓pSl3, ↓isi_int_non, ↓isi_int_bl, ↓isi_int_int, ↓isi_int_str, ↓isi_int_tup, ↓isi_int_lst, ↓isi_int_dic, ↓isi_bool_non, ↓isi_bool_bl, ↓isi_bool_int, ↓isi_bool_str, ↓isi_bool_tup, ↓isi_bool_lst, ↓isi_bool_dic, ↓isi_str_non, ↓isi_str_bl, ↓isi_str_int, ↓isi_str_str, ↓isi_str_tup, ↓isi_str_lst, ↓isi_str_dic, ↓isi_tuple_non, ↓isi_tuple_bl, ↓isi_tuple_int, ↓isi_tuple_str, ↓isi_tuple_tup, ↓isi_tuple_lst, ↓isi_tuple_dic, ↓isi_list_non, ↓isi_list_bl, ↓isi_list_int, ↓isi_list_str, ↓isi_list_tup, ↓isi_list_lst, ↓isi_list_dic, ↓isi_dict_non, ↓isi_dict_bl, ↓isi_dict_int, ↓isi_dict_str, ↓isi_dict_tup, ↓isi_dict_lst, ↓isi_dict_dic, ↓ixt0, ↓ixt1, ↓ixt2, ↓ixt3, ↓ixt4, ↓ixt5, ↓ixt6, ↓ixt7, ↓ixt8, ↓ixl0, ↓ixl1, ↓ixl2, ↓ixl3, ↓ixl4, ↓ixl5, ↓ixl6, ↓ixl7, ↓ixl8, ↓FX.gp0, ↓FX.gp1, ↓FX.gp2, ↓FX.gp3, ↓FX.gp4, ↓FX.gp5, ↓FX.gp6, ↓FX.gp7, ↓FX.gp8, ↓FX.gp9, ↓FX.gp10, ↓FX.gp11, ↓FX.gp12, ↓FX.gp13, ↓FX.gp14, ↓FX.gp15, ↓FX.gp16, ↓FX.gp17, ↓FX.gp18, ↓FX.gp19, ↓FX.gp20, ↓FX.gp21, ↓FX.gp22, ↓FX.gp23, ↓FX.gp24, ↓FX.gp25, ↓FX.gp26, ↓FX.gp27, ↓FX.gp28, ↓FX.gp29, ↓FX.gp30, ↓FX.gp31, ↓FX.gp32, ↓FX.gp33, ↓FX.sp0, ↓FX.sp1, ↓FX.sp2, ↓FX.sp3, ↓FX.sp4, ↓FX.sp5, ↓FX.sp6, ↓FX.sp7, ↓FX.sp8, ↓FX.sp9, ↓FX.sp10, ↓FX.sp11, ↓FX.sp12, ↓FX.sp13, ↓FX.sp14, ↓FX.sp15, ↓FX.sp16, ↓FX.sp17, ↓FX.sp18, ↓FX.sp19, ↓FX.sp20, ↓FX.sp21, ↓FX.sp22, ↓FX.sp23, ↓FX.sp24, ↓FX.sp25, ↓FX.sp26, ↓FX.sp27, ↓FX.sp28, ↓FX.sp29, ↓FX.sp30, ↓FX.sp31, ↓FX.sp32, ↓FX.sp33, ↓FX.hp0, ↓FX.hp1, ↓FX.hp2, ↓FX.hp3, ↓FX.hp4, ↓FX.wp0, ↓FX.wp1, ↓FX.wp2, ↓FX.wp3, ↓FX.wp4, end_rt, end_nx, ↓tgQ_eq, Bool.not_true, Bool.not_false, and_self, and_true, true_and, ↓foP_of tb2, opB, ↓pEqR pl1]
    exact hg7
  · rintro i x S hx ⟨x1, y1, z1, rfl⟩
    have hi : i < n := by
      have := (List.getElem?_eq_some_iff.mp hx).1
      rwa [List.length_range] at this
    rw [List.getElem?_range hi] at hx
    cases hx
    simp -implicitDefEqProofs (disch := omega) only [↓wp_bnd, ↓wp_ret, ↓wp_vV, ↓wp_vB, ↓wp_vL, ↓wp_hix, ↓wp_b1, ↓wp_b2, ↓wp_ifM, ↓wp_notM, ↓wp_andM, ↓wp_orM, ↓wp_asB, ↓wp_asI, ↓wp_notV, ↓wp_andV, ↓wp_orV, ↓wp_sq0, ↓wp_sq, ↓wp_tupM, ↓wp_frz, ↓wp_chM, ↓wp_sqS, ↓wp_seV, ↓wp_seL, ↓wp_asM, ↓wp_paM, ↓wp_paM3, ↓wp_paR2, ↓wp_paR3, ↓wp_rvM, ↓wp_rlM, ↓rv_v, ↓rv_l, ↓wp_shM, ↓wp_apM, ↓wp_exM, ↓wp_siM, ↓wp_clV, ↓wp_clL, ↓wp_hdM, ↓wp_chV, ↓wp_chL, ↓wp_itM, ↓wp_itA, ↓wp_rg1M, ↓wp_rg2M, ↓wp_zpM, ↓wp_enM, ↓wp_isiM, ↓wp_someM, ↓wp_sl3, ↓wp_frM, ↓wp_lc, ↓wp_agM, ↓wipP1, ↓wipP2, ↓wipP3, ↓bacP1, ↓bacP2, ↓bacP3, ↓spK0, ↓spK1, ↓spK2, ↓foP_ret, ↓rdP_v, ↓rdP_l, ↓lsP_l, ↓blP_bl, ↓inP_int, ↓vlP_val, ↓vlP_own, ↓hdP_hnd, ↓sqP_lst, ↓sqP_tup, ↓sqP_scr, ↓saP_lst, ↓saP_tup, ↓saP_rng, ↓ctP_nx, ↓ctP_rt, ↓ctP_bk, ↓ctP_ct, ↓lpP_nx, ↓lpP_ct, ↓lpP_bk, ↓lpP_rt, ↓zpP_lst, ↓zpP_tup, ↓enP_lst, ↓exP_lst, ↓tgP_V, ↓tgP_T, ↓tgsP_nil, ↓tgsP_cons, ↓rgP_ok, ↓iteP_true, ↓iteP_false, ↓iteP_t, ↓iteP_f, ↓iteP_nt, ↓iteP_nf, ↓hhP_eq, ↓opP_some, ↓pAdd, ↓pSub, ↓pNeg, ↓pMulR, ↓pMulL, ↓pMod, ↓pDiv, ↓p1018, ↓pLt, ↓pLe, ↓pGt, ↓pGe, ↓pOpB, ↓pEq, ↓pNe, ↓pIs0, ↓pIs1, ↓pIs2, ↓pIs3, ↓pIs4, ↓pIn0, ↓pIn1, ↓pIn2, ↓pIn3, ↓pIn4, ↓pLen1, ↓pLen2, ↓pLen3, ↓pInt, ↓pAbs, ↓pTup1, ↓pTup2, ↓pLst1, ↓pLst2, ↓pLst3, ↓pRng, ↓pSl1, ↓pSl2, ↓pSl3, ↓isi_int_non, ↓isi_int_bl, ↓isi_int_int, ↓isi_int_str, ↓isi_int_tup, ↓isi_int_lst, ↓isi_int_dic, ↓isi_bool_non, ↓isi_bool_bl, ↓isi_bool_int, ↓isi_bool_str, ↓isi_bool_tup, ↓isi_bool_lst, ↓isi_bool_dic, ↓isi_str_non, ↓isi_str_bl, ↓isi_str_int, ↓isi_str_str, ↓isi_str_tup, ↓isi_str_lst, ↓isi_str_dic, ↓isi_tuple_non, ↓isi_tuple_bl, ↓isi_tuple_int, ↓isi_tuple_str, ↓isi_tuple_tup, ↓isi_tuple_lst, ↓isi_tuple_dic, ↓isi_list_non, ↓isi_list_bl, ↓isi_list_int, ↓isi_list_str, ↓isi_list_tup, ↓isi_list_lst, ↓isi_list_dic, ↓isi_dict_non, ↓isi_dict_bl, ↓isi_dict_int, ↓isi_dict_str, ↓isi_dict_tup, ↓isi_dict_lst, ↓isi_dict_dic, ↓ixt0, ↓ixt1, ↓ixt2, ↓ixt3, ↓ixt4, ↓ixt5, ↓ixt6, ↓ixt7, ↓ixt8, ↓ixl0, ↓ixl1, ↓ixl2, ↓ixl3, ↓ixl4, ↓ixl5, ↓ixl6, ↓ixl7, ↓ixl8, ↓FX.gp0, ↓FX.gp1, ↓FX.gp2, ↓FX.gp3, ↓FX.gp4, ↓FX.gp5, ↓FX.gp6, ↓FX.gp7, ↓FX.gp8, ↓FX.gp9, ↓FX.gp10, ↓FX.gp11, ↓FX.gp12, ↓FX.gp13, ↓FX.gp14, ↓FX.gp15, ↓FX.gp16, ↓FX.gp17, ↓FX.gp18, ↓FX.gp19, ↓FX.gp20, ↓FX.gp21, ↓FX.gp22, ↓FX.gp23, ↓FX.gp24, ↓FX.gp25, ↓FX.gp26, ↓FX.gp27, ↓FX.gp28, ↓FX.gp29, ↓FX.gp30, ↓FX.gp31, ↓FX.gp32, ↓FX.gp33, ↓FX.sp0, ↓FX.sp1, ↓FX.sp2, ↓FX.sp3, ↓FX.sp4, ↓FX.sp5, ↓FX.sp6, ↓FX.sp7, ↓FX.sp8, ↓FX.sp9, ↓FX.sp10, ↓FX.sp11, ↓FX.sp12, ↓FX.sp13, ↓FX.sp14, ↓FX.sp15, ↓FX.sp16, ↓FX.sp17, ↓FX.sp18, ↓FX.sp19, ↓FX.sp20, ↓FX.sp21, ↓FX.sp22, ↓FX.sp23, ↓FX.sp24, ↓FX.sp25, ↓FX.sp26, ↓FX.sp27, ↓FX.sp28, ↓FX.sp29, ↓FX.sp30, ↓FX.sp31, ↓FX.sp32, ↓FX.sp33, ↓FX.hp0, ↓FX.hp1, ↓FX.hp2, ↓FX.hp3, ↓FX.hp4, ↓FX.wp0, ↓FX.wp1, ↓FX.wp2, ↓FX.wp3, ↓FX.wp4, end_rt, end_nx, ↓tgQ_eq, Bool.not_true, Bool.not_false, and_self, and_true, true_and, Int.sub_zero, Int.toNat_natCast, rngD0]
    refine ⟨rn, wp_lcA (enc := fun i : Nat => D.int i) (g := fun j => .tup ((WW p c 0 ls i j).map .int)) (fun j hj => ?_) ?_⟩
    · have := List.mem_range.mp hj
      simp -implicitDefEqProofs (disch := omega) only [↓wp_bnd, ↓wp_ret, ↓wp_vV, ↓wp_vB, ↓wp_vL, ↓wp_hix, ↓wp_b1, ↓wp_b2, ↓wp_ifM, ↓wp_notM, ↓wp_andM, ↓wp_orM, ↓wp_asB, ↓wp_asI, ↓wp_notV, ↓wp_andV, ↓wp_orV, ↓wp_sq0, ↓wp_sq, ↓wp_tupM, ↓wp_frz, ↓wp_chM, ↓wp_sqS, ↓wp_seV, ↓wp_seL, ↓wp_asM, ↓wp_paM, ↓wp_paM3, ↓wp_paR2, ↓wp_paR3, ↓wp_rvM, ↓wp_rlM, ↓rv_v, ↓rv_l, ↓wp_shM, ↓wp_apM, ↓wp_exM, ↓wp_siM, ↓wp_clV, ↓wp_clL, ↓wp_hdM, ↓wp_chV, ↓wp_chL, ↓wp_itM, ↓wp_itA, ↓wp_rg1M, ↓wp_rg2M, ↓wp_zpM, ↓wp_enM, ↓wp_isiM, ↓wp_someM, ↓wp_sl3, ↓wp_frM, ↓wp_lc, ↓wp_agM, ↓wipP1, ↓wipP2, ↓wipP3, ↓bacP1, ↓bacP2, ↓bacP3, ↓spK0, ↓spK1, ↓spK2, ↓foP_ret, ↓rdP_v, ↓rdP_l, ↓lsP_l, ↓blP_bl, ↓inP_int, ↓vlP_val, ↓vlP_own, ↓hdP_hnd, ↓sqP_lst, ↓sqP_tup, ↓sqP_scr, ↓saP_lst, ↓saP_tup, ↓saP_rng, ↓ctP_nx, ↓ctP_rt, ↓ctP_bk, ↓ctP_ct, ↓lpP_nx, ↓lpP_ct, ↓lpP_bk, ↓lpP_rt, ↓zpP_lst, ↓zpP_tup, ↓enP_lst, ↓exP_lst, ↓tgP_V, ↓tgP_T, ↓tgsP_nil, ↓tgsP_cons, ↓rgP_ok, ↓iteP_true, ↓iteP_false, ↓iteP_t, ↓iteP_f, ↓iteP_nt, ↓iteP_nf, ↓hhP_eq, ↓opP_some, ↓pAdd, ↓pSub, ↓pNeg, ↓pMulR, ↓pMulL, ↓pMod, ↓pDiv, ↓p1018, ↓pLt, ↓pLe, ↓pGt, ↓pGe, ↓pOpB, ↓pEq, ↓pNe, ↓pIs0, ↓pIs1, ↓pIs2, ↓pIs3, ↓pIs4, ↓pIn0, ↓pIn1, ↓pIn2, ↓pIn3, ↓pIn4, ↓pLen1, ↓pLen2, ↓pLen3, ↓pInt, ↓pAbs, ↓pTup1, ↓pTup2, ↓pLst1, ↓pLst2, ↓pLst3, ↓pRng, ↓pSl1, ↓pSl2, ↓pSl3, ↓isi_int_non, ↓isi_int_bl, ↓isi_int_int, ↓isi_int_str, ↓isi_int_tup, ↓isi_int_lst, ↓isi_int_dic, ↓isi_bool_non, ↓isi_bool_bl, ↓isi_bool_int, ↓isi_bool_str, ↓isi_bool_tup, ↓isi_bool_lst, ↓isi_bool_dic, ↓isi_str_non, ↓isi_str_bl, ↓isi_str_int, ↓isi_str_str, ↓isi_str_tup, ↓isi_str_lst, ↓isi_str_dic, ↓isi_tuple_non, ↓isi_tuple_bl, ↓isi_tuple_int, ↓isi_tuple_str, ↓isi_tuple_tup, ↓isi_tuple_lst, ↓isi_tuple_dic, ↓isi_list_non, ↓isi_list_bl, ↓isi_list_int, ↓isi_list_str, ↓isi_list_tup, ↓isi_list_lst, ↓isi_list_dic, ↓isi_dict_non, ↓isi_dict_bl, ↓isi_dict_int, ↓isi_dict_str, ↓isi_dict_tup, ↓isi_dict_lst, ↓isi_dict_dic, ↓ixt0, ↓ixt1, ↓ixt2, ↓ixt3, ↓ixt4, ↓ixt5, ↓ixt6, ↓ixt7, ↓ixt8, ↓ixl0, ↓ixl1, ↓ixl2, ↓ixl3, ↓ixl4, ↓ixl5, ↓ixl6, ↓ixl7, ↓ixl8, ↓FX.gp0, ↓FX.gp1, ↓FX.gp2, ↓FX.gp3, ↓FX.gp4, ↓FX.gp5, ↓FX.gp6, ↓FX.gp7, ↓FX.gp8, ↓FX.gp9, ↓FX.gp10, ↓FX.gp11, ↓FX.gp12, ↓FX.gp13, ↓FX.gp14, ↓FX.gp15, ↓FX.gp16, ↓FX.gp17, ↓FX.gp18, ↓FX.gp19, ↓FX.gp20, ↓FX.gp21, ↓FX.gp22, ↓FX.gp23, ↓FX.gp24, ↓FX.gp25, ↓FX.gp26, ↓FX.gp27, ↓FX.gp28, ↓FX.gp29, ↓FX.gp30, ↓FX.gp31, ↓FX.gp32, ↓FX.gp33, ↓FX.sp0, ↓FX.sp1, ↓FX.sp2, ↓FX.sp3, ↓FX.sp4, ↓FX.sp5, ↓FX.sp6, ↓FX.sp7, ↓FX.sp8, ↓FX.sp9, ↓FX.sp10, ↓FX.sp11, ↓FX.sp12, ↓FX.sp13, ↓FX.sp14, ↓FX.sp15, ↓FX.sp16, ↓FX.sp17, ↓FX.sp18, ↓FX.sp19, ↓FX.sp20, ↓FX.sp21, ↓FX.sp22, ↓FX.sp23, ↓FX.sp24, ↓FX.sp25, ↓FX.sp26, ↓FX.sp27, ↓FX.sp28, ↓FX.sp29, ↓FX.sp30, ↓FX.sp31, ↓FX.sp32, ↓FX.sp33, ↓FX.hp0, ↓FX.hp1, ↓FX.hp2, ↓FX.hp3, ↓FX.hp4, ↓FX.wp0, ↓FX.wp1, ↓FX.wp2, ↓FX.wp3, ↓FX.wp4, end_rt, end_nx, ↓tgQ_eq, Bool.not_true, Bool.not_false, and_self, and_true, true_and, ↓foP_of (lw i j hi this)]
    simp -implicitDefEqProofs (disch := omega) only [↓wp_bnd, ↓wp_ret, ↓wp_vV, ↓wp_vB, ↓wp_vL, ↓wp_hix, ↓wp_b1, ↓wp_b2, ↓wp_ifM, ↓wp_notM, ↓wp_andM, ↓wp_orM, ↓wp_asB, ↓wp_asI, ↓wp_notV, ↓wp_andV, ↓wp_orV, ↓wp_sq0, ↓wp_sq, ↓wp_tupM, ↓wp_frz, ↓wp_chM, ↓wp_sqS, ↓wp_seV, ↓wp_seL, ↓wp_asM, ↓wp_paM, ↓wp_paM3, ↓wp_paR2, ↓wp_paR3, ↓wp_rvM, ↓wp_rlM, ↓rv_v, ↓rv_l, ↓wp_shM, ↓wp_apM, ↓wp_exM, ↓wp_siM, ↓wp_clV, ↓wp_clL, ↓wp_hdM, ↓wp_chV, ↓wp_chL, ↓wp_itM, ↓wp_itA, ↓wp_rg1M, ↓wp_rg2M, ↓wp_zpM, ↓wp_enM, ↓wp_isiM, ↓wp_someM, ↓wp_sl3, ↓wp_frM, ↓wp_lc, ↓wp_agM, ↓wipP1, ↓wipP2, ↓wipP3, ↓bacP1, ↓bacP2, ↓bacP3, ↓spK0, ↓spK1, ↓spK2, ↓foP_ret, ↓rdP_v, ↓rdP_l, ↓lsP_l, ↓blP_bl, ↓inP_int, ↓vlP_val, ↓vlP_own, ↓hdP_hnd, ↓sqP_lst, ↓sqP_tup, ↓sqP_scr, ↓saP_lst, ↓saP_tup, ↓saP_rng, ↓ctP_nx, ↓ctP_rt, ↓ctP_bk, ↓ctP_ct, ↓lpP_nx, ↓lpP_ct, ↓lpP_bk, ↓lpP_rt, ↓zpP_lst, ↓zpP_tup, ↓enP_lst, ↓exP_lst, ↓tgP_V, ↓tgP_T, ↓tgsP_nil, ↓tgsP_cons, ↓rgP_ok, ↓iteP_true, ↓iteP_false, ↓iteP_t, ↓iteP_f, ↓iteP_nt, ↓iteP_nf, ↓hhP_eq, ↓opP_some, ↓pAdd, ↓pSub, ↓pNeg, ↓pMulR, ↓pMulL, ↓pMod, ↓pDiv, ↓p1018, ↓pLt, ↓pLe, ↓pGt, ↓pGe, ↓pOpB, ↓pEq, ↓pNe, ↓pIs0, ↓pIs1, ↓pIs2, ↓pIs3, ↓pIs4, ↓pIn0, ↓pIn1, ↓pIn2, ↓pIn3, ↓pIn4, ↓pLen1, ↓pLen2, ↓pLen3, ↓pInt, ↓pAbs, ↓pTup1, ↓pTup2, ↓pLst1, ↓pLst2, ↓pLst3, ↓pRng, ↓pSl1, ↓pSl2, ↓pSl3, ↓isi_int_non, ↓isi_int_bl, ↓isi_int_int, ↓isi_int_str, ↓isi_int_tup, ↓isi_int_lst, ↓isi_int_dic, ↓isi_bool_non, ↓isi_bool_bl, ↓isi_bool_int, ↓isi_bool_str, ↓isi_bool_tup, ↓isi_bool_lst, ↓isi_bool_dic, ↓isi_str_non, ↓isi_str_bl, ↓isi_str_int, ↓isi_str_str, ↓isi_str_tup, ↓isi_str_lst, ↓isi_str_dic, ↓isi_tuple_non, ↓isi_tuple_bl, ↓isi_tuple_int, ↓isi_tuple_str, ↓isi_tuple_tup, ↓isi_tuple_lst, ↓isi_tuple_dic, ↓isi_list_non, ↓isi_list_bl, ↓isi_list_int, ↓isi_list_str, ↓isi_list_tup, ↓isi_list_lst, ↓isi_list_dic, ↓isi_dict_non, ↓isi_dict_bl, ↓isi_dict_int, ↓isi_dict_str, ↓isi_dict_tup, ↓isi_dict_lst, ↓isi_dict_dic, ↓ixt0, ↓ixt1, ↓ixt2, ↓ixt3, ↓ixt4, ↓ixt5, ↓ixt6, ↓ixt7, ↓ixt8, ↓ixl0, ↓ixl1, ↓ixl2, ↓ixl3, ↓ixl4, ↓ixl5, ↓ixl6, ↓ixl7, ↓ixl8, ↓FX.gp0, ↓FX.gp1, ↓FX.gp2, ↓FX.gp3, ↓FX.gp4, ↓FX.gp5, ↓FX.gp6, ↓FX.gp7, ↓FX.gp8, ↓FX.gp9, ↓FX.gp10, ↓FX.gp11, ↓FX.gp12, ↓FX.gp13, ↓FX.gp14, ↓FX.gp15, ↓FX.gp16, ↓FX.gp17, ↓FX.gp18, ↓FX.gp19, ↓FX.gp20, ↓FX.gp21, ↓FX.gp22, ↓FX.gp23, ↓FX.gp24, ↓FX.gp25, ↓FX.gp26, ↓FX.gp27, ↓FX.gp28, ↓FX.gp29, ↓FX.gp30, ↓FX.gp31, ↓FX.gp32, ↓FX.gp33, ↓FX.sp0, ↓FX.sp1, ↓FX.sp2, ↓FX.sp3, ↓FX.sp4, ↓FX.sp5, ↓FX.sp6, ↓FX.sp7, ↓FX.sp8, ↓FX.sp9, ↓FX.sp10, ↓FX.sp11, ↓FX.sp12, ↓FX.sp13, ↓FX.sp14, ↓FX.sp15, ↓FX.sp16, ↓FX.sp17, ↓FX.sp18, ↓FX.sp19, ↓FX.sp20, ↓FX.sp21, ↓FX.sp22, ↓FX.sp23, ↓FX.sp24, ↓FX.sp25, ↓FX.sp26, ↓FX.sp27, ↓FX.sp28, ↓FX.sp29, ↓FX.sp30, ↓FX.sp31, ↓FX.sp32, ↓FX.sp33, ↓FX.hp0, ↓FX.hp1, ↓FX.hp2, ↓FX.hp3, ↓FX.hp4, ↓FX.wp0, ↓FX.wp1, ↓FX.wp2, ↓FX.wp3, ↓FX.wp4, end_rt, end_nx, ↓tgQ_eq, Bool.not_true, Bool.not_false, and_self, and_true, true_and, List.nil_append, Int.sub_zero, Int.toNat_natCast, rngD0]
    refine ⟨rn, wp_lcA (enc := fun i : Nat => D.int i) (g := fun j => .tup ((WW p c 0 ls i j).map .int)) (fun j hj => ?_) ?_⟩
    · have := List.mem_range.mp hj
      simp -implicitDefEqProofs (disch := omega) only [↓wp_bnd, ↓wp_ret, ↓wp_vV, ↓wp_vB, ↓wp_vL, ↓wp_hix, ↓wp_b1, ↓wp_b2, ↓wp_ifM, ↓wp_notM, ↓wp_andM, ↓wp_orM, ↓wp_asB, ↓wp_asI, ↓wp_notV, ↓wp_andV, ↓wp_orV, ↓wp_sq0, ↓wp_sq, ↓wp_tupM, ↓wp_frz, ↓wp_chM, ↓wp_sqS, ↓wp_seV, ↓wp_seL, ↓wp_asM, ↓wp_paM, ↓wp_paM3, ↓wp_paR2, ↓wp_paR3, ↓wp_rvM, ↓wp_rlM, ↓rv_v, ↓rv_l, ↓wp_shM, ↓wp_apM, ↓wp_exM, ↓wp_siM, ↓wp_clV, ↓wp_clL, ↓wp_hdM, ↓wp_chV, ↓wp_chL, ↓wp_itM, ↓wp_itA, ↓wp_rg1M, ↓wp_rg2M, ↓wp_zpM, ↓wp_enM, ↓wp_isiM, ↓wp_someM, ↓wp_sl3, ↓wp_frM, ↓wp_lc, ↓wp_agM, ↓wipP1, ↓wipP2, ↓wipP3, ↓bacP1, ↓bacP2, ↓bacP3, ↓spK0, ↓spK1, ↓spK2, ↓foP_ret, ↓rdP_v, ↓rdP_l, ↓lsP_l, ↓blP_bl, ↓inP_int, ↓vlP_val, ↓vlP_own, ↓hdP_hnd, ↓sqP_lst, ↓sqP_tup, ↓sqP_scr, ↓saP_lst, ↓saP_tup, ↓saP_rng, ↓ctP_nx, ↓ctP_rt, ↓ctP_bk, ↓ctP_ct, ↓lpP_nx, ↓lpP_ct, ↓lpP_bk, ↓lpP_rt, ↓zpP_lst, ↓zpP_tup, ↓enP_lst, ↓exP_lst, ↓tgP_V, ↓tgP_T, ↓tgsP_nil, ↓tgsP_cons, ↓rgP_ok, ↓iteP_true, ↓iteP_false, ↓iteP_t, ↓iteP_f, ↓iteP_nt, ↓iteP_nf, ↓hhP_eq, ↓opP_some, ↓pAdd, ↓pSub, ↓pNeg, ↓pMulR, ↓pMulL, ↓pMod, ↓pDiv, ↓p1018, ↓pLt, ↓pLe, ↓pGt, ↓pGe, ↓pOpB, ↓pEq, ↓pNe, ↓pIs0, ↓pIs1, ↓pIs2, ↓pIs3, ↓pIs4, ↓pIn0, ↓pIn1, ↓pIn2, ↓pIn3, ↓pIn4, ↓pLen1, ↓pLen2, ↓pLen3, ↓pInt, ↓pAbs, ↓pTup1, ↓pTup2, ↓pLst1, ↓pLst2, ↓pLst3, ↓pRng, ↓pSl1, ↓pSl2, ↓pSl3, ↓isi_int_non, ↓isi_int_bl, ↓isi_int_int, ↓isi_int_str, ↓isi_int_tup, ↓isi_int_lst, ↓isi_int_dic, ↓isi_bool_non, ↓isi_bool_bl, ↓isi_bool_int, ↓isi_bool_str, ↓isi_bool_tup, ↓isi_bool_lst, ↓isi_bool_dic, ↓isi_str_non, ↓isi_str_bl, ↓isi_str_int, ↓isi_str_str, ↓isi_str_tup, ↓isi_str_lst, ↓isi_str_dic, ↓isi_tuple_non, ↓isi_tuple_bl, ↓isi_tuple_int, ↓isi_tuple_str, ↓isi_tuple_tup, ↓isi_tuple_lst, ↓isi_tuple_dic, ↓isi_list_non, ↓isi_list_bl, ↓isi_list_int, ↓isi_list_str, ↓isi_list_tup, ↓isi_list_lst, ↓isi_list_dic, ↓isi_dict_non, ↓isi_dict_bl, ↓isi_dict_int, ↓isi_dict_str, ↓isi_dict_tup, ↓isi_dict_lst, ↓isi_dict_dic, ↓ixt0, ↓ixt1, ↓ixt2, ↓ixt3, ↓ixt4, ↓ixt5, ↓ixt6, ↓ixt7, ↓ixt8, ↓ixl0, ↓ixl1, ↓ixl2, ↓ixl3, ↓ixl4, ↓ixl5, ↓ixl6, ↓ixl7, ↓ixl8, ↓FX.gp0, ↓FX.gp1, ↓FX.gp2, ↓FX.gp3, ↓FX.gp4, ↓FX.gp5, ↓FX.gp6, ↓FX.gp7, ↓FX.gp8, ↓FX.gp9, ↓FX.gp10, ↓FX.gp11, ↓FX.gp12, ↓FX.gp13, ↓FX.gp14, ↓FX.gp15, ↓FX.gp16, ↓FX.gp17, ↓FX.gp18, ↓FX.gp19, ↓FX.gp20, ↓FX.gp21, ↓FX.gp22, ↓FX.gp23, ↓FX.gp24, ↓FX.gp25, ↓FX.gp26, ↓FX.gp27, ↓FX.gp28, ↓FX.gp29, ↓FX.gp30, ↓FX.gp31, ↓FX.gp32, ↓FX.gp33, ↓FX.sp0, ↓FX.sp1, ↓FX.sp2, ↓FX.sp3, ↓FX.sp4, ↓FX.sp5, ↓FX.sp6, ↓FX.sp7, ↓FX.sp8, ↓FX.sp9, ↓FX.sp10, ↓FX.sp11, ↓FX.sp12, ↓FX.sp13, ↓FX.sp14, ↓FX.sp15, ↓FX.sp16, ↓FX.sp17, ↓FX.sp18, ↓FX.sp19, ↓FX.sp20, ↓FX.sp21, ↓FX.sp22, ↓FX.sp23, ↓FX.sp24, ↓FX.sp25, ↓FX.sp26, ↓FX.sp27, ↓FX.sp28, ↓FX.sp29, ↓FX.sp30, ↓FX.sp31, ↓FX.sp32, ↓FX.sp33, ↓FX.hp0, ↓FX.hp1, ↓FX.hp2, ↓FX.hp3, ↓FX.hp4, ↓FX.wp0, ↓FX.wp1, ↓FX.wp2, ↓FX.wp3, ↓FX.wp4, end_rt, end_nx, ↓tgQ_eq, Bool.not_true, Bool.not_false, and_self, and_true, true_and, ↓foP_of (cw i j hi this)]
    have sm : SmD 2 60000 (.lst ((List.range n).map fun j => .tup ((WW p c 0 ls i j).map .int))) := SmD.lst (b := 1001) (f := fun j => .tup ((WW p c 0 ls i j).map .int)) (fun j hj => WWD_small h (by omega) (by have := List.mem_range.mp hj; omega)) (by rw [List.length_range]; omega)
    simp -implicitDefEqProofs (disch := omega) only [↓wp_bnd, ↓wp_ret, ↓wp_vV, ↓wp_vB, ↓wp_vL, ↓wp_hix, ↓wp_b1, ↓wp_b2, ↓wp_ifM, ↓wp_notM, ↓wp_andM, ↓wp_orM, ↓wp_asB, ↓wp_asI, ↓wp_notV, ↓wp_andV, ↓wp_orV, ↓wp_sq0, ↓wp_sq, ↓wp_tupM, ↓wp_frz, ↓wp_chM, ↓wp_sqS, ↓wp_seV, ↓wp_seL, ↓wp_asM, ↓wp_paM, ↓wp_paM3, ↓wp_paR2, ↓wp_paR3, ↓wp_rvM, ↓wp_rlM, ↓rv_v, ↓rv_l, ↓wp_shM, ↓wp_apM, ↓wp_exM, ↓wp_siM, ↓wp_clV, ↓wp_clL, ↓wp_hdM, ↓wp_chV, ↓wp_chL, ↓wp_itM, ↓wp_itA, ↓wp_rg1M, ↓wp_rg2M, ↓wp_zpM, ↓wp_enM, ↓wp_isiM, ↓wp_someM, ↓wp_sl3, ↓wp_frM, ↓wp_lc, ↓wp_agM, ↓wipP1, ↓wipP2, ↓wipP3, ↓bacP1, ↓bacP2, ↓bacP3, ↓spK0, ↓spK1, ↓spK2, ↓foP_ret, ↓rdP_v, ↓rdP_l, ↓lsP_l, ↓blP_bl, ↓inP_int, ↓vlP_val, ↓vlP_own, ↓hdP_hnd, ↓sqP_lst, ↓sqP_tup, ↓sqP_scr, ↓saP_lst, ↓saP_tup, ↓saP_rng, ↓ctP_nx, ↓ctP_rt, ↓ctP_bk, ↓ctP_ct, ↓lpP_nx, ↓lpP_ct, ↓lpP_bk, ↓lpP_rt, ↓zpP_lst, ↓zpP_tup, ↓enP_lst, ↓exP_lst, ↓tgP_V, ↓tgP_T, ↓tgsP_nil, ↓tgsP_cons, ↓rgP_ok, ↓iteP_true, ↓iteP_false, ↓iteP_t, ↓iteP_f, ↓iteP_nt, ↓iteP_nf, ↓hhP_eq, ↓opP_some, ↓pAdd, ↓pSub, ↓pNeg, ↓pMulR, ↓pMulL, ↓pMod, ↓pDiv, ↓p1018, ↓pLt, ↓pLe, ↓pGt, ↓pGe, ↓pOpB, ↓pEq, ↓pNe, ↓pIs0, ↓pIs1, ↓pIs2, ↓pIs3, ↓pIs4, ↓pIn0, ↓pIn1, ↓pIn2, ↓pIn3, ↓pIn4, ↓pLen1, ↓pLen2, ↓pLen3, ↓pInt, ↓pAbs, ↓pTup1, ↓pTup2, ↓pLst1, ↓pLst2, ↓pLst3, ↓pRng, ↓pSl1, ↓pSl2, ↓pSl3, ↓isi_int_non, ↓isi_int_bl, ↓isi_int_int, ↓isi_int_str, ↓isi_int_tup, ↓isi_int_lst, ↓isi_int_dic, ↓isi_bool_non, ↓isi_bool_bl, ↓isi_bool_int, ↓isi_bool_str, ↓isi_bool_tup, ↓isi_bool_lst, ↓isi_bool_dic, ↓isi_str_non, ↓isi_str_bl, ↓isi_str_int, ↓isi_str_str, ↓isi_str_tup, ↓isi_str_lst, ↓isi_str_dic, ↓isi_tuple_non, ↓isi_tuple_bl, ↓isi_tuple_int, ↓isi_tuple_str, ↓isi_tuple_tup, ↓isi_tuple_lst, ↓isi_tuple_dic, ↓isi_list_non, ↓isi_list_bl, ↓isi_list_int, ↓isi_list_str, ↓isi_list_tup, ↓isi_list_lst, ↓isi_list_dic, ↓isi_dict_non, ↓isi_dict_bl, ↓isi_dict_int, ↓isi_dict_str, ↓isi_dict_tup, ↓isi_dict_lst, ↓isi_dict_dic, ↓ixt0, ↓ixt1, ↓ixt2, ↓ixt3, ↓ixt4, ↓ixt5, ↓ixt6, ↓ixt7, ↓ixt8, ↓ixl0, ↓ixl1, ↓ixl2, ↓ixl3, ↓ixl4, ↓ixl5, ↓ixl6, ↓ixl7, ↓ixl8, ↓FX.gp0, ↓FX.gp1, ↓FX.gp2, ↓FX.gp3, ↓FX.gp4, ↓FX.gp5, ↓FX.gp6, ↓FX.gp7, ↓FX.gp8, ↓FX.gp9, ↓FX.gp10, ↓FX.gp11, ↓FX.gp12, ↓FX.gp13, ↓FX.gp14, ↓FX.gp15, ↓FX.gp16, ↓FX.gp17, ↓FX.gp18, ↓FX.gp19, ↓FX.gp20, ↓FX.gp21, ↓FX.gp22, ↓FX.gp23, ↓FX.gp24, ↓FX.gp25, ↓FX.gp26, ↓FX.gp27, ↓FX.gp28, ↓FX.gp29, ↓FX.gp30, ↓FX.gp31, ↓FX.gp32, ↓FX.gp33, ↓FX.sp0, ↓FX.sp1, ↓FX.sp2, ↓FX.sp3, ↓FX.sp4, ↓FX.sp5, ↓FX.sp6, ↓FX.sp7, ↓FX.sp8, ↓FX.sp9, ↓FX.sp10, ↓FX.sp11, ↓FX.sp12, ↓FX.sp13, ↓FX.sp14, ↓FX.sp15, ↓FX.sp16, ↓FX.sp17, ↓FX.sp18, ↓FX.sp19, ↓FX.sp20, ↓FX.sp21, ↓FX.sp22, ↓FX.sp23, ↓FX.sp24, ↓FX.sp25, ↓FX.sp26, ↓FX.sp27, ↓FX.sp28, ↓FX.sp29, ↓FX.sp30, ↓FX.sp31, ↓FX.sp32, ↓FX.sp33, ↓FX.hp0, ↓FX.hp1, ↓FX.hp2, ↓FX.hp3, ↓FX.hp4, ↓FX.wp0, ↓FX.wp1, ↓FX.wp2, ↓FX.wp3, ↓FX.wp4, end_rt, end_nx, ↓tgQ_eq, Bool.not_true, Bool.not_false, and_self, and_true, true_and, List.nil_append, ↓foP_of (sm.is G (by omega) (by omega))]
    refine ⟨by rw [List.length_map, List.length_range, sizeLine_eq]; omega, wp_lcA (enc := fun j : Nat => D.tup ((WW p c 0 ls i j).map .int)) (g := fun j => .int (WW p c 0 ls i j).sum) (fun j hj => ?_) ?_⟩
    · have := WW_sum (c := c) (y := 0) (i := i) (j := j) h (by omega) (by have := List.mem_range.mp hj; omega)
      simp -implicitDefEqProofs (disch := omega) only [↓wp_bnd, ↓wp_ret, ↓wp_vV, ↓wp_vB, ↓wp_vL, ↓wp_hix, ↓wp_b1, ↓wp_b2, ↓wp_ifM, ↓wp_notM, ↓wp_andM, ↓wp_orM, ↓wp_asB, ↓wp_asI, ↓wp_notV, ↓wp_andV, ↓wp_orV, ↓wp_sq0, ↓wp_sq, ↓wp_tupM, ↓wp_frz, ↓wp_chM, ↓wp_sqS, ↓wp_seV, ↓wp_seL, ↓wp_asM, ↓wp_paM, ↓wp_paM3, ↓wp_paR2, ↓wp_paR3, ↓wp_rvM, ↓wp_rlM, ↓rv_v, ↓rv_l, ↓wp_shM, ↓wp_apM, ↓wp_exM, ↓wp_siM, ↓wp_clV, ↓wp_clL, ↓wp_hdM, ↓wp_chV, ↓wp_chL, ↓wp_itM, ↓wp_itA, ↓wp_rg1M, ↓wp_rg2M, ↓wp_zpM, ↓wp_enM, ↓wp_isiM, ↓wp_someM, ↓wp_sl3, ↓wp_frM, ↓wp_lc, ↓wp_agM, ↓wipP1, ↓wipP2, ↓wipP3, ↓bacP1, ↓bacP2, ↓bacP3, ↓spK0, ↓spK1, ↓spK2, ↓foP_ret, ↓rdP_v, ↓rdP_l, ↓lsP_l, ↓blP_bl, ↓inP_int, ↓vlP_val, ↓vlP_own, ↓hdP_hnd, ↓sqP_lst, ↓sqP_tup, ↓sqP_scr, ↓saP_lst, ↓saP_tup, ↓saP_rng, ↓ctP_nx, ↓ctP_rt, ↓ctP_bk, ↓ctP_ct, ↓lpP_nx, ↓lpP_ct, ↓lpP_bk, ↓lpP_rt, ↓zpP_lst, ↓zpP_tup, ↓enP_lst, ↓exP_lst, ↓tgP_V, ↓tgP_T, ↓tgsP_nil, ↓tgsP_cons, ↓rgP_ok, ↓iteP_true, ↓iteP_false, ↓iteP_t, ↓iteP_f, ↓iteP_nt, ↓iteP_nf, ↓hhP_eq, ↓opP_some, ↓pAdd, ↓pSub, ↓pNeg, ↓pMulR, ↓pMulL, ↓pMod, ↓pDiv, ↓p1018, ↓pLt, ↓pLe, ↓pGt, ↓pGe, ↓pOpB, ↓pEq, ↓pNe, ↓pIs0, ↓pIs1, ↓pIs2, ↓pIs3, ↓pIs4, ↓pIn0, ↓pIn1, ↓pIn2, ↓pIn3, ↓pIn4, ↓pLen1, ↓pLen2, ↓pLen3, ↓pInt, ↓pAbs, ↓pTup1, ↓pTup2, ↓pLst1, ↓pLst2, ↓pLst3, ↓pRng, ↓pSl1, ↓pSl2, ↓pSl3, ↓isi_int_non, ↓isi_int_bl, ↓isi_int_int, ↓isi_int_str, ↓isi_int_tup, ↓isi_int_lst, ↓isi_int_dic, ↓isi_bool_non, ↓isi_bool_bl, ↓isi_bool_int, ↓isi_bool_str, ↓isi_bool_tup, ↓isi_bool_lst, ↓isi_bool_dic, ↓isi_str_non, ↓isi_str_bl, ↓isi_str_int, ↓isi_str_str, ↓isi_str_tup, ↓isi_str_lst, ↓isi_str_dic, ↓isi_tuple_non, ↓isi_tuple_bl, ↓isi_tuple_int, ↓isi_tuple_str, ↓isi_tuple_tup, ↓isi_tuple_lst, ↓isi_tuple_dic, ↓isi_list_non, ↓isi_list_bl, ↓isi_list_int, ↓isi_list_str, ↓isi_list_tup, ↓isi_list_lst, ↓isi_list_dic, ↓isi_dict_non, ↓isi_dict_bl, ↓isi_dict_int, ↓isi_dict_str, ↓isi_dict_tup, ↓isi_dict_lst, ↓isi_dict_dic, ↓ixt0, ↓ixt1, ↓ixt2, ↓ixt3, ↓ixt4, ↓ixt5, ↓ixt6, ↓ixt7, ↓ixt8, ↓ixl0, ↓ixl1, ↓ixl2, ↓ixl3, ↓ixl4, ↓ixl5, ↓ixl6, ↓ixl7, ↓ixl8, ↓FX.gp0, ↓FX.gp1, ↓FX.gp2, ↓FX.gp3, ↓FX.gp4, ↓FX.gp5, ↓FX.gp6, ↓FX.gp7, ↓FX.gp8, ↓FX.gp9, ↓FX.gp10, ↓FX.gp11, ↓FX.gp12, ↓FX.gp13, ↓FX.gp14, ↓FX.gp15, ↓FX.gp16, ↓FX.gp17, ↓FX.gp18, ↓FX.gp19, ↓FX.gp20, ↓FX.gp21, ↓FX.gp22, ↓FX.gp23, ↓FX.gp24, ↓FX.gp25, ↓FX.gp26, ↓FX.gp27, ↓FX.gp28, ↓FX.gp29, ↓FX.gp30, ↓FX.gp31, ↓FX.gp32, ↓FX.gp33, ↓FX.sp0, ↓FX.sp1, ↓FX.sp2, ↓FX.sp3, ↓FX.sp4, ↓FX.sp5, ↓FX.sp6, ↓FX.sp7, ↓FX.sp8, ↓FX.sp9, ↓FX.sp10, ↓FX.sp11, ↓FX.sp12, ↓FX.sp13, ↓FX.sp14, ↓FX.sp15, ↓FX.sp16, ↓FX.sp17, ↓FX.sp18, ↓FX.sp19, ↓FX.sp20, ↓FX.sp21, ↓FX.sp22, ↓FX.sp23, ↓FX.sp24, ↓FX.sp25, ↓FX.sp26, ↓FX.sp27, ↓FX.sp28, ↓FX.sp29, ↓FX.sp30, ↓FX.sp31, ↓FX.sp32, ↓FX.sp33, ↓FX.hp0, ↓FX.hp1, ↓FX.hp2, ↓FX.hp3, ↓FX.hp4, ↓FX.wp0, ↓FX.wp1, ↓FX.wp2, ↓FX.wp3, ↓FX.wp4, end_rt, end_nx, ↓tgQ_eq, Bool.not_true, Bool.not_false, and_self, and_true, true_and, ↓pSumT]
    simp -implicitDefEqProofs (disch := omega) only [↓wp_bnd, ↓wp_ret, ↓wp_vV, ↓wp_vB, ↓wp_vL, ↓wp_hix, ↓wp_b1, ↓wp_b2, ↓wp_ifM, ↓wp_notM, ↓wp_andM, ↓wp_orM, ↓wp_asB, ↓wp_asI, ↓wp_notV, ↓wp_andV, ↓wp_orV, ↓wp_sq0, ↓wp_sq, ↓wp_tupM, ↓wp_frz, ↓wp_chM, ↓wp_sqS, ↓wp_seV, ↓wp_seL, ↓wp_asM, ↓wp_paM, ↓wp_paM3, ↓wp_paR2, ↓wp_paR3, ↓wp_rvM, ↓wp_rlM, ↓rv_v, ↓rv_l, ↓wp_shM, ↓wp_apM, ↓wp_exM, ↓wp_siM, ↓wp_clV, ↓wp_clL, ↓wp_hdM, ↓wp_chV, ↓wp_chL, ↓wp_itM, ↓wp_itA, ↓wp_rg1M, ↓wp_rg2M, ↓wp_zpM, ↓wp_enM, ↓wp_isiM, ↓wp_someM, ↓wp_sl3, ↓wp_frM, ↓wp_lc, ↓wp_agM, ↓wipP1, ↓wipP2, ↓wipP3, ↓bacP1, ↓bacP2, ↓bacP3, ↓spK0, ↓spK1, ↓spK2, ↓foP_ret, ↓rdP_v, ↓rdP_l, ↓lsP_l, ↓blP_bl, ↓inP_int, ↓vlP_val, ↓vlP_own, ↓hdP_hnd, ↓sqP_lst, ↓sqP_tup, ↓sqP_scr, ↓saP_lst, ↓saP_tup, ↓saP_rng, ↓ctP_nx, ↓ctP_rt, ↓ctP_bk, ↓ctP_ct, ↓lpP_nx, ↓lpP_ct, ↓lpP_bk, ↓lpP_rt, ↓zpP_lst, ↓zpP_tup, ↓enP_lst, ↓exP_lst, ↓tgP_V, ↓tgP_T, ↓tgsP_nil, ↓tgsP_cons, ↓rgP_ok, ↓iteP_true, ↓iteP_false, ↓iteP_t, ↓iteP_f, ↓iteP_nt, ↓iteP_nf, ↓hhP_eq, ↓opP_some, ↓pAdd, ↓pSub, ↓pNeg, ↓pMulR, ↓pMulL, ↓pMod, ↓pDiv, ↓p1018, ↓pLt, ↓pLe, ↓pGt, ↓pGe, ↓pOpB, ↓pEq, ↓pNe, ↓pIs0, ↓pIs1, ↓pIs2, ↓pIs3, ↓pIs4, ↓pIn0, ↓pIn1, ↓pIn2, ↓pIn3, ↓pIn4, ↓pLen1, ↓pLen2, ↓pLen3, ↓pInt, ↓pAbs, ↓pTup1, ↓pTup2, ↓pLst1, ↓pLst2, ↓pLst3, ↓pRng, ↓pSl1, ↓pSl2, ↓pSl3, ↓isi_int_non, ↓isi_int_bl, ↓isi_int_int, ↓isi_int_str, ↓isi_int_tup, ↓isi_int_lst, ↓isi_int_dic, ↓isi_bool_non, ↓isi_bool_bl, ↓isi_bool_int, ↓isi_bool_str, ↓isi_bool_tup, ↓isi_bool_lst, ↓isi_bool_dic, ↓isi_str_non, ↓isi_str_bl, ↓isi_str_int, ↓isi_str_str, ↓isi_str_tup, ↓isi_str_lst, ↓isi_str_dic, ↓isi_tuple_non, ↓isi_tuple_bl, ↓isi_tuple_int, ↓isi_tuple_str, ↓isi_tuple_tup, ↓isi_tuple_lst, ↓isi_tuple_dic, ↓isi_list_non, ↓isi_list_bl, ↓isi_list_int, ↓isi_list_str, ↓isi_list_tup, ↓isi_list_lst, ↓isi_list_dic, ↓isi_dict_non, ↓isi_dict_bl, ↓isi_dict_int, ↓isi_dict_str, ↓isi_dict_tup, ↓isi_dict_lst, ↓isi_dict_dic, ↓ixt0, ↓ixt1, ↓ixt2, ↓ixt3, ↓ixt4, ↓ixt5, ↓ixt6, ↓ixt7, ↓ixt8, ↓ixl0, ↓ixl1, ↓ixl2, ↓ixl3, ↓ixl4, ↓ixl5, ↓ixl6, ↓ixl7, ↓ixl8, ↓FX.gp0, ↓FX.gp1, ↓FX.gp2, ↓FX.gp3, ↓FX.gp4, ↓FX.gp5, ↓FX.gp6, ↓FX.gp7, ↓FX.gp8, ↓FX.gp9, ↓FX.gp10, ↓FX.gp11, ↓FX.gp12, ↓FX.gp13, ↓FX.gp14, ↓FX.gp15, ↓FX.gp16, ↓FX.gp17, ↓FX.gp18, ↓FX.gp19, ↓FX.gp20, ↓FX.gp21, ↓FX.gp22, ↓FX.gp23, ↓FX.gp24, ↓FX.gp25, ↓FX.gp26, ↓FX.gp27, ↓FX.gp28, ↓FX.gp29, ↓FX.gp30, ↓FX.gp31, ↓FX.gp32, ↓FX.gp33, ↓FX.sp0, ↓FX.sp1, ↓FX.sp2, ↓FX.sp3, ↓FX.sp4, ↓FX.sp5, ↓FX.sp6, ↓FX.sp7, ↓FX.sp8, ↓FX.sp9, ↓FX.sp10, ↓FX.sp11, ↓FX.sp12, ↓FX.sp13, ↓FX.sp14, ↓FX.sp15, ↓FX.sp16, ↓FX.sp17, ↓FX.sp18, ↓FX.sp19, ↓FX.sp20, ↓FX.sp21, ↓FX.sp22, ↓FX.sp23, ↓FX.sp24, ↓FX.sp25, ↓FX.sp26, ↓FX.sp27, ↓FX.sp28, ↓FX.sp29, ↓FX.sp30, ↓FX.sp31, ↓FX.sp32, ↓FX.sp33, ↓FX.hp0, ↓FX.hp1, ↓FX.hp2, ↓FX.hp3, ↓FX.hp4, ↓FX.wp0, ↓FX.wp1, ↓FX.wp2, ↓FX.wp3, ↓FX.wp4, end_rt, end_nx, ↓tgQ_eq, Bool.not_true, Bool.not_false, and_self, and_true, true_and, List.nil_append, Int.sub_zero, Int.toNat_natCast, rngD0]
    refine ⟨by rw [List.length_map]; have := rl i; rw [sizeLine_eq]; omega, rn, wp_lcT (enc := fun j : Nat => D.int j) (p := fun j => !decide (j = i)) (g := fun j => tripD (gw p c ls) (i, j)) (fun j hj => ?_) ?_⟩
    · have hj := List.mem_range.mp hj
      have hx : ((List.range n).map fun j => D.tup ((WW p c 0 ls i j).map .int))[j]? = some (.tup ((WW p c 0 ls i j).map .int)) := by rw [List.getElem?_map, List.getElem?_range hj]; rfl
      have hne : maxI (WW p c 0 ls i j) = some (gw p c ls (i, j)) := maxI_ne (WW_ne h (by omega))
      simp -implicitDefEqProofs (disch := omega) only [↓wp_bnd, ↓wp_ret, ↓wp_vV, ↓wp_vB, ↓wp_vL, ↓wp_hix, ↓wp_b1, ↓wp_b2, ↓wp_ifM, ↓wp_notM, ↓wp_andM, ↓wp_orM, ↓wp_asB, ↓wp_asI, ↓wp_notV, ↓wp_andV, ↓wp_orV, ↓wp_sq0, ↓wp_sq, ↓wp_tupM, ↓wp_frz, ↓wp_chM, ↓wp_sqS, ↓wp_seV, ↓wp_seL, ↓wp_asM, ↓wp_paM, ↓wp_paM3, ↓wp_paR2, ↓wp_paR3, ↓wp_rvM, ↓wp_rlM, ↓rv_v, ↓rv_l, ↓wp_shM, ↓wp_apM, ↓wp_exM, ↓wp_siM, ↓wp_clV, ↓wp_clL, ↓wp_hdM, ↓wp_chV, ↓wp_chL, ↓wp_itM, ↓wp_itA, ↓wp_rg1M, ↓wp_rg2M, ↓wp_zpM, ↓wp_enM, ↓wp_isiM, ↓wp_someM, ↓wp_sl3, ↓wp_frM, ↓wp_lc, ↓wp_agM, ↓wipP1, ↓wipP2, ↓wipP3, ↓bacP1, ↓bacP2, ↓bacP3, ↓spK0, ↓spK1, ↓spK2, ↓foP_ret, ↓rdP_v, ↓rdP_l, ↓lsP_l, ↓blP_bl, ↓inP_int, ↓vlP_val, ↓vlP_own, ↓hdP_hnd, ↓sqP_lst, ↓sqP_tup, ↓sqP_scr, ↓saP_lst, ↓saP_tup, ↓saP_rng, ↓ctP_nx, ↓ctP_rt, ↓ctP_bk, ↓ctP_ct, ↓lpP_nx, ↓lpP_ct, ↓lpP_bk, ↓lpP_rt, ↓zpP_lst, ↓zpP_tup, ↓enP_lst, ↓exP_lst, ↓tgP_V, ↓tgP_T, ↓tgsP_nil, ↓tgsP_cons, ↓rgP_ok, ↓iteP_true, ↓iteP_false, ↓iteP_t, ↓iteP_f, ↓iteP_nt, ↓iteP_nf, ↓hhP_eq, ↓opP_some, ↓pAdd, ↓pSub, ↓pNeg, ↓pMulR, ↓pMulL, ↓pMod, ↓pDiv, ↓p1018, ↓pLt, ↓pLe, ↓pGt, ↓pGe, ↓pOpB, ↓pEq, ↓pNe, ↓pIs0, ↓pIs1, ↓pIs2, ↓pIs3, ↓pIs4, ↓pIn0, ↓pIn1, ↓pIn2, ↓pIn3, ↓pIn4, ↓pLen1, ↓pLen2, ↓pLen3, ↓pInt, ↓pAbs, ↓pTup1, ↓pTup2, ↓pLst1, ↓pLst2, ↓pLst3, ↓pRng, ↓pSl1, ↓pSl2, ↓pSl3, ↓isi_int_non, ↓isi_int_bl, ↓isi_int_int, ↓isi_int_str, ↓isi_int_tup, ↓isi_int_lst, ↓isi_int_dic, ↓isi_bool_non, ↓isi_bool_bl, ↓isi_bool_int, ↓isi_bool_str, ↓isi_bool_tup, ↓isi_bool_lst, ↓isi_bool_dic, ↓isi_str_non, ↓isi_str_bl, ↓isi_str_int, ↓isi_str_str, ↓isi_str_tup, ↓isi_str_lst, ↓isi_str_dic, ↓isi_tuple_non, ↓isi_tuple_bl, ↓isi_tuple_int, ↓isi_tuple_str, ↓isi_tuple_tup, ↓isi_tuple_lst, ↓isi_tuple_dic, ↓isi_list_non, ↓isi_list_bl, ↓isi_list_int, ↓isi_list_str, ↓isi_list_tup, ↓isi_list_lst, ↓isi_list_dic, ↓isi_dict_non, ↓isi_dict_bl, ↓isi_dict_int, ↓isi_dict_str, ↓isi_dict_tup, ↓isi_dict_lst, ↓isi_dict_dic, ↓ixt0, ↓ixt1, ↓ixt2, ↓ixt3, ↓ixt4, ↓ixt5, ↓ixt6, ↓ixt7, ↓ixt8, ↓ixl0, ↓ixl1, ↓ixl2, ↓ixl3, ↓ixl4, ↓ixl5, ↓ixl6, ↓ixl7, ↓ixl8, ↓FX.gp0, ↓FX.gp1, ↓FX.gp2, ↓FX.gp3, ↓FX.gp4, ↓FX.gp5, ↓FX.gp6, ↓FX.gp7, ↓FX.gp8, ↓FX.gp9, ↓FX.gp10, ↓FX.gp11, ↓FX.gp12, ↓FX.gp13, ↓FX.gp14, ↓FX.gp15, ↓FX.gp16, ↓FX.gp17, ↓FX.gp18, ↓FX.gp19, ↓FX.gp20, ↓FX.gp21, ↓FX.gp22, ↓FX.gp23, ↓FX.gp24, ↓FX.gp25, ↓FX.gp26, ↓FX.gp27, ↓FX.gp28, ↓FX.gp29, ↓FX.gp30, ↓FX.gp31, ↓FX.gp32, ↓FX.gp33, ↓FX.sp0, ↓FX.sp1, ↓FX.sp2, ↓FX.sp3, ↓FX.sp4, ↓FX.sp5, ↓FX.sp6, ↓FX.sp7, ↓FX.sp8, ↓FX.sp9, ↓FX.sp10, ↓FX.sp11, ↓FX.sp12, ↓FX.sp13, ↓FX.sp14, ↓FX.sp15, ↓FX.sp16, ↓FX.sp17, ↓FX.sp18, ↓FX.sp19, ↓FX.sp20, ↓FX.sp21, ↓FX.sp22, ↓FX.sp23, ↓FX.sp24, ↓FX.sp25, ↓FX.sp26, ↓FX.sp27, ↓FX.sp28, ↓FX.sp29, ↓FX.sp30, ↓FX.sp31, ↓FX.sp32, ↓FX.sp33, ↓FX.hp0, ↓FX.hp1, ↓FX.hp2, ↓FX.hp3, ↓FX.hp4, ↓FX.wp0, ↓FX.wp1, ↓FX.wp2, ↓FX.wp3, ↓FX.wp4, end_rt, end_nx, ↓tgQ_eq, Bool.not_true, Bool.not_false, and_self, and_true, true_and, List.nil_append, ↓pIxL hx rfl, ↓pMaxT, hne]
      exact ⟨congrArg (!·) (decide_eq_decide.mpr (by omega)), fun _ => rfl⟩
    · simp -implicitDefEqProofs (disch := omega) only [↓wp_bnd, ↓wp_ret, ↓wp_vV, ↓wp_vB, ↓wp_vL, ↓wp_hix, ↓wp_b1, ↓wp_b2, ↓wp_ifM, ↓wp_notM, ↓wp_andM, ↓wp_orM, ↓wp_asB, ↓wp_asI, ↓wp_notV, ↓wp_andV, ↓wp_orV, ↓wp_sq0, ↓wp_sq, ↓wp_tupM, ↓wp_frz, ↓wp_chM, ↓wp_sqS, ↓wp_seV, ↓wp_seL, ↓wp_asM, ↓wp_paM, ↓wp_paM3, ↓wp_paR2, ↓wp_paR3, ↓wp_rvM, ↓wp_rlM, ↓rv_v, ↓rv_l, ↓wp_shM, ↓wp_apM, ↓wp_exM, ↓wp_siM, ↓wp_clV, ↓wp_clL, ↓wp_hdM, ↓wp_chV, ↓wp_chL, ↓wp_itM, ↓wp_itA, ↓wp_rg1M, ↓wp_rg2M, ↓wp_zpM, ↓wp_enM, ↓wp_isiM, ↓wp_someM, ↓wp_sl3, ↓wp_frM, ↓wp_lc, ↓wp_agM, ↓wipP1, ↓wipP2, ↓wipP3, ↓bacP1, ↓bacP2, ↓bacP3, ↓spK0, ↓spK1, ↓spK2, ↓foP_ret, ↓rdP_v, ↓rdP_l, ↓lsP_l, ↓blP_bl, ↓inP_int, ↓vlP_val, ↓vlP_own, ↓hdP_hnd, ↓sqP_lst, ↓sqP_tup, ↓sqP_scr, ↓saP_lst, ↓saP_tup, ↓saP_rng, ↓ctP_nx, ↓ctP_rt, ↓ctP_bk, ↓ctP_ct, ↓lpP_nx, ↓lpP_ct, ↓lpP_bk, ↓lpP_rt, ↓zpP_lst, ↓zpP_tup, ↓enP_lst, ↓exP_lst, ↓tgP_V, ↓tgP_T, ↓tgsP_nil, ↓tgsP_cons, ↓rgP_ok, ↓iteP_true, ↓iteP_false, ↓iteP_t, ↓iteP_f, ↓iteP_nt, ↓iteP_nf, ↓hhP_eq, ↓opP_some, ↓pAdd, ↓pSub, ↓pNeg, ↓pMulR, ↓pMulL, ↓pMod, ↓pDiv, ↓p1018, ↓pLt, ↓pLe, ↓pGt, ↓pGe, ↓pOpB, ↓pEq, ↓pNe, ↓pIs0, ↓pIs1, ↓pIs2, ↓pIs3, ↓pIs4, ↓pIn0, ↓pIn1, ↓pIn2, ↓pIn3, ↓pIn4, ↓pLen1, ↓pLen2, ↓pLen3, ↓pInt, ↓pAbs, ↓pTup1, ↓pTup2, ↓pLst1, ↓pLst2, ↓pLst3, ↓pRng, ↓pSl1, ↓pSl2, ↓pSl3, ↓isi_int_non, ↓isi_int_bl, ↓isi_int_int, ↓isi_int_str, ↓isi_int_tup, ↓isi_int_lst, ↓isi_int_dic, ↓isi_bool_non, ↓isi_bool_bl, ↓isi_bool_int, ↓isi_bool_str, ↓isi_bool_tup, ↓isi_bool_lst, ↓isi_bool_dic, ↓isi_str_non, ↓isi_str_bl, ↓isi_str_int, ↓isi_str_str, ↓isi_str_tup, ↓isi_str_lst, ↓isi_str_dic, ↓isi_tuple_non, ↓isi_tuple_bl, ↓isi_tuple_int, ↓isi_tuple_str, ↓isi_tuple_tup, ↓isi_tuple_lst, ↓isi_tuple_dic, ↓isi_list_non, ↓isi_list_bl, ↓isi_list_int, ↓isi_list_str, ↓isi_list_tup, ↓isi_list_lst, ↓isi_list_dic, ↓isi_dict_non, ↓isi_dict_bl, ↓isi_dict_int, ↓isi_dict_str, ↓isi_dict_tup, ↓isi_dict_lst, ↓isi_dict_dic, ↓ixt0, ↓ixt1, ↓ixt2, ↓ixt3, ↓ixt4, ↓ixt5, ↓ixt6, ↓ixt7, ↓ixt8, ↓ixl0, ↓ixl1, ↓ixl2, ↓ixl3, ↓ixl4, ↓ixl5, ↓ixl6, ↓ixl7, ↓ixl8, ↓FX.gp0, ↓FX.gp1, ↓FX.gp2, ↓FX.gp3, ↓FX.gp4, ↓FX.gp5, ↓FX.gp6, ↓FX.gp7, ↓FX.gp8, ↓FX.gp9, ↓FX.gp10, ↓FX.gp11, ↓FX.gp12, ↓FX.gp13, ↓FX.gp14, ↓FX.gp15, ↓FX.gp16, ↓FX.gp17, ↓FX.gp18, ↓FX.gp19, ↓FX.gp20, ↓FX.gp21, ↓FX.gp22, ↓FX.gp23, ↓FX.gp24, ↓FX.gp25, ↓FX.gp26, ↓FX.gp27, ↓FX.gp28, ↓FX.gp29, ↓FX.gp30, ↓FX.gp31, ↓FX.gp32, ↓FX.gp33, ↓FX.sp0, ↓FX.sp1, ↓FX.sp2, ↓FX.sp3, ↓FX.sp4, ↓FX.sp5, ↓FX.sp6, ↓FX.sp7, ↓FX.sp8, ↓FX.sp9, ↓FX.sp10, ↓FX.sp11, ↓FX.sp12, ↓FX.sp13, ↓FX.sp14, ↓FX.sp15, ↓FX.sp16, ↓FX.sp17, ↓FX.sp18, ↓FX.sp19, ↓FX.sp20, ↓FX.sp21, ↓FX.sp22, ↓FX.sp23, ↓FX.sp24, ↓FX.sp25, ↓FX.sp26, ↓FX.sp27, ↓FX.sp28, ↓FX.sp29, ↓FX.sp30, ↓FX.sp31, ↓FX.sp32, ↓FX.sp33, ↓FX.hp0, ↓FX.hp1, ↓FX.hp2, ↓FX.hp3, ↓FX.hp4, ↓FX.wp0, ↓FX.wp1, ↓FX.wp2, ↓FX.wp3, ↓FX.wp4, end_rt, end_nx, ↓tgQ_eq, Bool.not_true, Bool.not_false, and_self, and_true, true_and, List.nil_append]
      have l1 := flatMap_len n ((List.range n).take i)
      have l0 := rl i
      have l2 := List.length_filter_le (fun j => !decide (j = i)) (List.range n)
      rw [List.length_range] at l2
      have l3 : ((List.range n).take i).length * n ≤ 8 * 8 := Nat.mul_le_mul (by omega) (by omega)
      refine ⟨by rw [List.length_map, List.length_map, sizeLine_eq]; omega, .val (.int i), .val (.lst ((List.range n).map fun j => .tup ((WW p c 0 ls i j).map .int))), keepV (keepV (keepV z1)), ?_⟩
      rw [List.take_add_one, List.getElem?_range hi, List.flatMap_append, List.map_append, List.map_append]
      simp only [Option.toList_some, List.flatMap_cons, List.flatMap_nil, List.append_nil, List.map_map]
      rw [← hn]
      rfl

end
end FX.K71

set_option Elab.async false
set_option linter.all false
set_option maxRecDepth 100000
set_option maxHeartbeats 4000000
namespace FX.K71
open PySem PySem.Spec PyProof.Rows L2 LamX FX
section
variable {K : PySem.W.Frag} {mg : Str → Option Value}
/-! ### the hand, from the script -/
theorem law_hand_ok (G : Txt K mg) {ns : List Int} (h : ns.length ≤ 63) : ∃ hc, r__law_hand G [.scr (ns.map .int)] = .ret (.l hc) [] ∧ GoodH hc := by
  refine ⟨[.lst (ns.map fun z => .int z.natAbs), .int 0, .int 0, .int (323 + 109 * ns.length), .int 0], ?_, ns.map fun z => (z.natAbs : Int), 0, 0, 323 + 109 * (ns.length : Int), 0, by rw [List.map_map]; rfl, fun z hz => ?_, by omega, by omega, by omega, by omega⟩
  · refine runP_of ⟨[.val (.scr (ns.map .int)), .un, .un], []⟩ rfl ?_
    unfold m__law_hand
    simp -implicitDefEqProofs (disch := omega) only [↓wp_bnd, ↓wp_ret, ↓wp_vV, ↓wp_vB, ↓wp_vL, ↓wp_hix, ↓wp_b1, ↓wp_b2, ↓wp_ifM, ↓wp_notM, ↓wp_andM, ↓wp_orM, ↓wp_asB, ↓wp_asI, ↓wp_notV, ↓wp_andV, ↓wp_orV, ↓wp_sq0, ↓wp_sq, ↓wp_tupM, ↓wp_frz, ↓wp_chM, ↓wp_sqS, ↓wp_seV, ↓wp_seL, ↓wp_asM, ↓wp_paM, ↓wp_paM3, ↓wp_paR2, ↓wp_paR3, ↓wp_rvM, ↓wp_rlM, ↓rv_v, ↓rv_l, ↓wp_shM, ↓wp_apM, ↓wp_exM, ↓wp_siM, ↓wp_clV, ↓wp_clL, ↓wp_hdM, ↓wp_chV, ↓wp_chL, ↓wp_itM, ↓wp_itA, ↓wp_rg1M, ↓wp_rg2M, ↓wp_zpM, ↓wp_enM, ↓wp_isiM, ↓wp_someM, ↓wp_sl3, ↓wp_frM, ↓wp_lc, ↓wp_agM, ↓wipP1, ↓wipP2, ↓wipP3, ↓bacP1, ↓bacP2, ↓bacP3, ↓spK0, ↓spK1, ↓spK2, ↓foP_ret, ↓rdP_v, ↓rdP_l, ↓lsP_l, ↓blP_bl, ↓inP_int, ↓vlP_val, ↓vlP_own, ↓hdP_hnd, ↓sqP_lst, ↓sqP_tup, ↓sqP_scr, ↓saP_lst, ↓saP_tup, ↓saP_rng, ↓ctP_nx, ↓ctP_rt, ↓ctP_bk, ↓ctP_ct, ↓lpP_nx, ↓lpP_ct, ↓lpP_bk, ↓lpP_rt, ↓zpP_lst, ↓zpP_tup, ↓enP_lst, ↓exP_lst, ↓tgP_V, ↓tgP_T, ↓tgsP_nil, ↓tgsP_cons, ↓rgP_ok, ↓iteP_true, ↓iteP_false, ↓iteP_t, ↓iteP_f, ↓iteP_nt, ↓iteP_nf, ↓hhP_eq, ↓opP_some, ↓pAdd, ↓pSub, ↓pNeg, ↓pMulR, ↓pMulL, ↓pMod, ↓pDiv, ↓p1018, ↓pLt, ↓pLe, ↓pGt, ↓pGe, ↓pOpB, ↓pEq, ↓pNe, ↓pIs0, ↓pIs1, ↓pIs2, ↓pIs3, ↓pIs4, ↓pIn0, ↓pIn1, ↓pIn2, ↓pIn3, ↓pIn4, ↓pLen1, ↓pLen2, ↓pLen3, ↓pInt, ↓pAbs, ↓pTup1, ↓pTup2, ↓pLst1, ↓pLst2, ↓pLst3, ↓pRng, ↓pSl1, ↓pSl2, ↓pSl3, ↓isi_int_non, ↓isi_int_bl, ↓isi_int_int, ↓isi_int_str, ↓isi_int_tup, ↓isi_int_lst, ↓isi_int_dic, ↓isi_bool_non, ↓isi_bool_bl, ↓isi_bool_int, ↓isi_bool_str, ↓isi_bool_tup, ↓isi_bool_lst, ↓isi_bool_dic, ↓isi_str_non, ↓isi_str_bl, ↓isi_str_int, ↓isi_str_str, ↓isi_str_tup, ↓isi_str_lst, ↓isi_str_dic, ↓isi_tuple_non, ↓isi_tuple_bl, ↓isi_tuple_int, ↓isi_tuple_str, ↓isi_tuple_tup, ↓isi_tuple_lst, ↓isi_tuple_dic, ↓isi_list_non, ↓isi_list_bl, ↓isi_list_int, ↓isi_list_str, ↓isi_list_tup, ↓isi_list_lst, ↓isi_list_dic, ↓isi_dict_non, ↓isi_dict_bl, ↓isi_dict_int, ↓isi_dict_str, ↓isi_dict_tup, ↓isi_dict_lst, ↓isi_dict_dic, ↓ixt0, ↓ixt1, ↓ixt2, ↓ixt3, ↓ixt4, ↓ixt5, ↓ixt6, ↓ixt7, ↓ixt8, ↓ixl0, ↓ixl1, ↓ixl2, ↓ixl3, ↓ixl4, ↓ixl5, ↓ixl6, ↓ixl7, ↓ixl8, ↓FX.gp0, ↓FX.gp1, ↓FX.gp2, ↓FX.gp3, ↓FX.gp4, ↓FX.gp5, ↓FX.gp6, ↓FX.gp7, ↓FX.gp8, ↓FX.gp9, ↓FX.gp10, ↓FX.gp11, ↓FX.gp12, ↓FX.gp13, ↓FX.gp14, ↓FX.gp15, ↓FX.gp16, ↓FX.gp17, ↓FX.gp18, ↓FX.gp19, ↓FX.gp20, ↓FX.gp21, ↓FX.gp22, ↓FX.gp23, ↓FX.gp24, ↓FX.gp25, ↓FX.gp26, ↓FX.gp27, ↓FX.gp28, ↓FX.gp29, ↓FX.gp30, ↓FX.gp31, ↓FX.gp32, ↓FX.gp33, ↓FX.sp0, ↓FX.sp1, ↓FX.sp2, ↓FX.sp3, ↓FX.sp4, ↓FX.sp5, ↓FX.sp6, ↓FX.sp7, ↓FX.sp8, ↓FX.sp9, ↓FX.sp10, ↓FX.sp11, ↓FX.sp12, ↓FX.sp13, ↓FX.sp14, ↓FX.sp15, ↓FX.sp16, ↓FX.sp17, ↓FX.sp18, ↓FX.sp19, ↓FX.sp20, ↓FX.sp21, ↓FX.sp22, ↓FX.sp23, ↓FX.sp24, ↓FX.sp25, ↓FX.sp26, ↓FX.sp27, ↓FX.sp28, ↓FX.sp29, ↓FX.sp30, ↓FX.sp31, ↓FX.sp32, ↓FX.sp33, ↓FX.hp0, ↓FX.hp1, ↓FX.hp2, ↓FX.hp3, ↓FX.hp4, ↓FX.wp0, ↓FX.wp1, ↓FX.wp2, ↓FX.wp3, ↓FX.wp4, end_rt, end_nx, ↓tgQ_eq, Bool.not_true, Bool.not_false, and_self, and_true, true_and]
    have ec : cutD (ns.map D.int) none (some 63) = ns.map D.int := by rw [cut_to (i := 63) (k := 63) rfl, List.take_of_length_le (by rw [List.length_map]; exact h)]
    rw [ec]
    refine ⟨by rw [List.length_map, sizeLine_eq]; omega, wp_lcA (enc := D.int) (g := fun z => .int z.natAbs) (fun z _ => by simp -implicitDefEqProofs (disch := omega) only [↓wp_bnd, ↓wp_ret, ↓wp_vV, ↓wp_vB, ↓wp_vL, ↓wp_hix, ↓wp_b1, ↓wp_b2, ↓wp_ifM, ↓wp_notM, ↓wp_andM, ↓wp_orM, ↓wp_asB, ↓wp_asI, ↓wp_notV, ↓wp_andV, ↓wp_orV, ↓wp_sq0, ↓wp_sq, ↓wp_tupM, ↓wp_frz, ↓wp_chM, ↓wp_sqS, ↓wp_seV, ↓wp_seL, ↓wp_asM, ↓wp_paM, ↓wp_paM3, ↓wp_paR2, ↓wp_paR3, ↓wp_rvM, ↓wp_rlM, ↓rv_v, ↓rv_l, ↓wp_shM, ↓wp_apM, ↓wp_exM, ↓wp_siM, ↓wp_clV, ↓wp_clL, ↓wp_hdM, ↓wp_chV, ↓wp_chL, ↓wp_itM, ↓wp_itA, ↓wp_rg1M, ↓wp_rg2M, ↓wp_zpM, ↓wp_enM, ↓wp_isiM, ↓wp_someM, ↓wp_sl3, ↓wp_frM, ↓wp_lc, ↓wp_agM, ↓wipP1, ↓wipP2, ↓wipP3, ↓bacP1, ↓bacP2, ↓bacP3, ↓spK0, ↓spK1, ↓spK2, ↓foP_ret, ↓rdP_v, ↓rdP_l, ↓lsP_l, ↓blP_bl, ↓inP_int, ↓vlP_val, ↓vlP_own, ↓hdP_hnd, ↓sqP_lst, ↓sqP_tup, ↓sqP_scr, ↓saP_lst, ↓saP_tup, ↓saP_rng, ↓ctP_nx, ↓ctP_rt, ↓ctP_bk, ↓ctP_ct, ↓lpP_nx, ↓lpP_ct, ↓lpP_bk, ↓lpP_rt, ↓zpP_lst, ↓zpP_tup, ↓enP_lst, ↓exP_lst, ↓tgP_V, ↓tgP_T, ↓tgsP_nil, ↓tgsP_cons, ↓rgP_ok, ↓iteP_true, ↓iteP_false, ↓iteP_t, ↓iteP_f, ↓iteP_nt, ↓iteP_nf, ↓hhP_eq, ↓opP_some, ↓pAdd, ↓pSub, ↓pNeg, ↓pMulR, ↓pMulL, ↓pMod, ↓pDiv, ↓p1018, ↓pLt, ↓pLe, ↓pGt, ↓pGe, ↓pOpB, ↓pEq, ↓pNe, ↓pIs0, ↓pIs1, ↓pIs2, ↓pIs3, ↓pIs4, ↓pIn0, ↓pIn1, ↓pIn2, ↓pIn3, ↓pIn4, ↓pLen1, ↓pLen2, ↓pLen3, ↓pInt, ↓pAbs, ↓pTup1, ↓pTup2, ↓pLst1, ↓pLst2, ↓pLst3, ↓pRng, ↓pSl1, ↓pSl2, ↓pSl3, ↓isi_int_non, ↓isi_int_bl, ↓isi_int_int, ↓isi_int_str, ↓isi_int_tup, ↓isi_int_lst, ↓isi_int_dic, ↓isi_bool_non, ↓isi_bool_bl, ↓isi_bool_int, ↓isi_bool_str, ↓isi_bool_tup, ↓isi_bool_lst, ↓isi_bool_dic, ↓isi_str_non, ↓isi_str_bl, ↓isi_str_int, ↓isi_str_str, ↓isi_str_tup, ↓isi_str_lst, ↓isi_str_dic, ↓isi_tuple_non, ↓isi_tuple_bl, ↓isi_tuple_int, ↓isi_tuple_str, ↓isi_tuple_tup, ↓isi_tuple_lst, ↓isi_tuple_dic, ↓isi_list_non, ↓isi_list_bl, ↓isi_list_int, ↓isi_list_str, ↓isi_list_tup, ↓isi_list_lst, ↓isi_list_dic, ↓isi_dict_non, ↓isi_dict_bl, ↓isi_dict_int, ↓isi_dict_str, ↓isi_dict_tup, ↓isi_dict_lst, ↓isi_dict_dic, ↓ixt0, ↓ixt1, ↓ixt2, ↓ixt3, ↓ixt4, ↓ixt5, ↓ixt6, ↓ixt7, ↓ixt8, ↓ixl0, ↓ixl1, ↓ixl2, ↓ixl3, ↓ixl4, ↓ixl5, ↓ixl6, ↓ixl7, ↓ixl8, ↓FX.gp0, ↓FX.gp1, ↓FX.gp2, ↓FX.gp3, ↓FX.gp4, ↓FX.gp5, ↓FX.gp6, ↓FX.gp7, ↓FX.gp8, ↓FX.gp9, ↓FX.gp10, ↓FX.gp11, ↓FX.gp12, ↓FX.gp13, ↓FX.gp14, ↓FX.gp15, ↓FX.gp16, ↓FX.gp17, ↓FX.gp18, ↓FX.gp19, ↓FX.gp20, ↓FX.gp21, ↓FX.gp22, ↓FX.gp23, ↓FX.gp24, ↓FX.gp25, ↓FX.gp26, ↓FX.gp27, ↓FX.gp28, ↓FX.gp29, ↓FX.gp30, ↓FX.gp31, ↓FX.gp32, ↓FX.gp33, ↓FX.sp0, ↓FX.sp1, ↓FX.sp2, ↓FX.sp3, ↓FX.sp4, ↓FX.sp5, ↓FX.sp6, ↓FX.sp7, ↓FX.sp8, ↓FX.sp9, ↓FX.sp10, ↓FX.sp11, ↓FX.sp12, ↓FX.sp13, ↓FX.sp14, ↓FX.sp15, ↓FX.sp16, ↓FX.sp17, ↓FX.sp18, ↓FX.sp19, ↓FX.sp20, ↓FX.sp21, ↓FX.sp22, ↓FX.sp23, ↓FX.sp24, ↓FX.sp25, ↓FX.sp26, ↓FX.sp27, ↓FX.sp28, ↓FX.sp29, ↓FX.sp30, ↓FX.sp31, ↓FX.sp32, ↓FX.sp33, ↓FX.hp0, ↓FX.hp1, ↓FX.hp2, ↓FX.hp3, ↓FX.hp4, ↓FX.wp0, ↓FX.wp1, ↓FX.wp2, ↓FX.wp3, ↓FX.wp4, end_rt, end_nx, ↓tgQ_eq, Bool.not_true, Bool.not_false, and_self, and_true, true_and]; exact congrArg D.int (by split <;> omega)) ?_⟩
    simp -implicitDefEqProofs (disch := omega) only [↓wp_bnd, ↓wp_ret, ↓wp_vV, ↓wp_vB, ↓wp_vL, ↓wp_hix, ↓wp_b1, ↓wp_b2, ↓wp_ifM, ↓wp_notM, ↓wp_andM, ↓wp_orM, ↓wp_asB, ↓wp_asI, ↓wp_notV, ↓wp_andV, ↓wp_orV, ↓wp_sq0, ↓wp_sq, ↓wp_tupM, ↓wp_frz, ↓wp_chM, ↓wp_sqS, ↓wp_seV, ↓wp_seL, ↓wp_asM, ↓wp_paM, ↓wp_paM3, ↓wp_paR2, ↓wp_paR3, ↓wp_rvM, ↓wp_rlM, ↓rv_v, ↓rv_l, ↓wp_shM, ↓wp_apM, ↓wp_exM, ↓wp_siM, ↓wp_clV, ↓wp_clL, ↓wp_hdM, ↓wp_chV, ↓wp_chL, ↓wp_itM, ↓wp_itA, ↓wp_rg1M, ↓wp_rg2M, ↓wp_zpM, ↓wp_enM, ↓wp_isiM, ↓wp_someM, ↓wp_sl3, ↓wp_frM, ↓wp_lc, ↓wp_agM, ↓wipP1, ↓wipP2, ↓wipP3, ↓bacP1, ↓bacP2, ↓bacP3, ↓spK0, ↓spK1, ↓spK2, ↓foP_ret, ↓rdP_v, ↓rdP_l, ↓lsP_l, ↓blP_bl, ↓inP_int, ↓vlP_val, ↓vlP_own, ↓hdP_hnd, ↓sqP_lst, ↓sqP_tup, ↓sqP_scr, ↓saP_lst, ↓saP_tup, ↓saP_rng, ↓ctP_nx, ↓ctP_rt, ↓ctP_bk, ↓ctP_ct, ↓lpP_nx, ↓lpP_ct, ↓lpP_bk, ↓lpP_rt, ↓zpP_lst, ↓zpP_tup, ↓enP_lst, ↓exP_lst, ↓tgP_V, ↓tgP_T, ↓tgsP_nil, ↓tgsP_cons, ↓rgP_ok, ↓iteP_true, ↓iteP_false, ↓iteP_t, ↓iteP_f, ↓iteP_nt, ↓iteP_nf, ↓hhP_eq, ↓opP_some, ↓pAdd, ↓pSub, ↓pNeg, ↓pMulR, ↓pMulL, ↓pMod, ↓pDiv, ↓p1018, ↓pLt, ↓pLe, ↓pGt, ↓pGe, ↓pOpB, ↓pEq, ↓pNe, ↓pIs0, ↓pIs1, ↓pIs2, ↓pIs3, ↓pIs4, ↓pIn0, ↓pIn1, ↓pIn2, ↓pIn3, ↓pIn4, ↓pLen1, ↓pLen2, ↓pLen3, ↓pInt, ↓pAbs, ↓pTup1, ↓pTup2, ↓pLst1, ↓pLst2, ↓pLst3, ↓pRng, ↓pSl1, ↓pSl2, ↓pSl3, ↓isi_int_non, ↓isi_int_bl, ↓isi_int_int, ↓isi_int_str, ↓isi_int_tup, ↓isi_int_lst, ↓isi_int_dic, ↓isi_bool_non, ↓isi_bool_bl, ↓isi_bool_int, ↓isi_bool_str, ↓isi_bool_tup, ↓isi_bool_lst, ↓isi_bool_dic, ↓isi_str_non, ↓isi_str_bl, ↓isi_str_int, ↓isi_str_str, ↓isi_str_tup, ↓isi_str_lst, ↓isi_str_dic, ↓isi_tuple_non, ↓isi_tuple_bl, ↓isi_tuple_int, ↓isi_tuple_str, ↓isi_tuple_tup, ↓isi_tuple_lst, ↓isi_tuple_dic, ↓isi_list_non, ↓isi_list_bl, ↓isi_list_int, ↓isi_list_str, ↓isi_list_tup, ↓isi_list_lst, ↓isi_list_dic, ↓isi_dict_non, ↓isi_dict_bl, ↓isi_dict_int, ↓isi_dict_str, ↓isi_dict_tup, ↓isi_dict_lst, ↓isi_dict_dic, ↓ixt0, ↓ixt1, ↓ixt2, ↓ixt3, ↓ixt4, ↓ixt5, ↓ixt6, ↓ixt7, ↓ixt8, ↓ixl0, ↓ixl1, ↓ixl2, ↓ixl3, ↓ixl4, ↓ixl5, ↓ixl6, ↓ixl7, ↓ixl8, ↓FX.gp0, ↓FX.gp1, ↓FX.gp2, ↓FX.gp3, ↓FX.gp4, ↓FX.gp5, ↓FX.gp6, ↓FX.gp7, ↓FX.gp8, ↓FX.gp9, ↓FX.gp10, ↓FX.gp11, ↓FX.gp12, ↓FX.gp13, ↓FX.gp14, ↓FX.gp15, ↓FX.gp16, ↓FX.gp17, ↓FX.gp18, ↓FX.gp19, ↓FX.gp20, ↓FX.gp21, ↓FX.gp22, ↓FX.gp23, ↓FX.gp24, ↓FX.gp25, ↓FX.gp26, ↓FX.gp27, ↓FX.gp28, ↓FX.gp29, ↓FX.gp30, ↓FX.gp31, ↓FX.gp32, ↓FX.gp33, ↓FX.sp0, ↓FX.sp1, ↓FX.sp2, ↓FX.sp3, ↓FX.sp4, ↓FX.sp5, ↓FX.sp6, ↓FX.sp7, ↓FX.sp8, ↓FX.sp9, ↓FX.sp10, ↓FX.sp11, ↓FX.sp12, ↓FX.sp13, ↓FX.sp14, ↓FX.sp15, ↓FX.sp16, ↓FX.sp17, ↓FX.sp18, ↓FX.sp19, ↓FX.sp20, ↓FX.sp21, ↓FX.sp22, ↓FX.sp23, ↓FX.sp24, ↓FX.sp25, ↓FX.sp26, ↓FX.sp27, ↓FX.sp28, ↓FX.sp29, ↓FX.sp30, ↓FX.sp31, ↓FX.sp32, ↓FX.sp33, ↓FX.hp0, ↓FX.hp1, ↓FX.hp2, ↓FX.hp3, ↓FX.hp4, ↓FX.wp0, ↓FX.wp1, ↓FX.wp2, ↓FX.wp3, ↓FX.wp4, end_rt, end_nx, ↓tgQ_eq, Bool.not_true, Bool.not_false, and_self, and_true, true_and, List.nil_append, List.length_map]
  · obtain ⟨y, _, rfl⟩ := List.mem_map.mp hz
    omega
/-! ### refusals -/
def two : D := .tup [.tup [.int 0], .tup [.int 1]]
def five : D := .tup [.int 5, .tup [two, two]]
theorem no1 (G : Txt K mg) : ∀ d ∈ ([.non, .int (-1), .int 101, .bl true, .str "1", .tup [.int 1]] : List D), r_change_waits G [five, d, .int 0, .int 0] = .exc ⟨G.x_NoNumber.C, none⟩ [] := by
  intro d h
  simp only [List.mem_cons, List.not_mem_nil, or_false] at h
  rcases h with rfl | rfl | rfl | rfl | rfl | rfl <;> rfl
theorem no2 (G : Txt K mg) : ∀ d ∈ ([.non, .int (-1), .int 2, .bl true, .str "1", .tup [.int 1]] : List D), r_change_waits G [five, .int 1, d, .int 0] = .exc ⟨G.x_NoPlace.C, none⟩ [] := by
  intro d h
  simp only [List.mem_cons, List.not_mem_nil, or_false] at h
  rcases h with rfl | rfl | rfl | rfl | rfl | rfl <;> rfl
theorem no3 (G : Txt K mg) : ∀ d ∈ ([.non, .int (-1), .int 2, .bl true, .str "1", .tup [.int 1]] : List D), r_held_gain G [five, .int 1, .int 0, d, .int 1] = .exc ⟨G.x_NoPlace.C, none⟩ [] := by
  intro d h
  simp only [List.mem_cons, List.not_mem_nil, or_false] at h
  rcases h with rfl | rfl | rfl | rfl | rfl | rfl <;> rfl
theorem no4 (G : Txt K mg) : ∀ d ∈ ([.non, .int (-1), .int 6, .bl true, .str "1", .tup [.int 1]] : List D), r_held_gain G [five, .int 1, .int 0, .int 1, d] = .exc ⟨G.x_NoNumber.C, none⟩ [] := by
  intro d h
  simp only [List.mem_cons, List.not_mem_nil, or_false] at h
  rcases h with rfl | rfl | rfl | rfl | rfl | rfl <;> rfl
theorem no5 (G : Txt K mg) : ∀ d ∈ ([.non, .int (-1), .bl true, .str "1", .tup [.int 1]] : List D), r_kept_changes G [five, .int 1, d] = .exc ⟨G.x_NoNumber.C, none⟩ [] := by
  intro d h
  simp only [List.mem_cons, List.not_mem_nil, or_false] at h
  rcases h with rfl | rfl | rfl | rfl | rfl <;> rfl
def bads : List D := [.non, .int 1, .tup [.int 5, .tup [two]], .tup [.int 0, .tup [two, two]], .tup [.int 201, .tup [two, two]], .lst [.int 5, .tup [two, two]], .tup [.int 5, .tup (List.replicate 9 two)],
  .tup [.int 5, .tup [two, .tup [.tup [], .tup [.int 1]]]], .tup [.int 5, .tup [two, .tup [.tup [.int 1, .int 0], .tup [.int 1]]]], .tup [.int 5, .tup [two, .tup [.tup [.int 0], .tup [.int 5]]]], .tup [.int 1, .tup [two, two]],
  .tup [.int 5, .tup [two, .tup [.tup [.bl true], .tup [.int 1]]]], .tup [.int 5, .tup [two, .tup [.tup [.int 0, .int 0], .tup [.int 1]]]], .tup [.int 5, .tup [two, .tup [.tup [.int 0]]]], .tup [.int 5, .lst [two, two]], .dic [], .str "hub"]
theorem no0 (G : Txt K mg) (e : D) : ∀ d ∈ bads, r_change_table G [d, e] = .exc ⟨G.x_BadHub.C, none⟩ [] := by
  intro d h
  unfold bads at h
  simp only [List.mem_cons, List.not_mem_nil, or_false] at h
  rcases h with rfl | rfl | rfl | rfl | rfl | rfl | rfl | rfl | rfl | rfl | rfl | rfl | rfl | rfl | rfl | rfl | rfl <;> rfl
def ten : D := .tup [.int 10, .tup [.tup [.tup [.int 0], .tup [.int 3]], .tup [.tup [.int 5], .tup [.int 1, .int 6]]]]
theorem yes0 (G : Txt K mg) : r_change_waits G [ten, .int 2, .int 0, .int 1] = .ret (.v (.tup [.int 4])) [] := rfl
theorem yes1 (G : Txt K mg) : r_change_table G [ten, .int 2] = .ret (.v (.tup [.tup [.int 1, .int 4], .tup [.int 6, .int 4]])) [] := rfl
theorem yes2 (G : Txt K mg) : r_worst_change G [ten, .int 2] = .ret (.v (.tup [.int 6, .int 1, .int 0])) [] := rfl
theorem yes3 (G : Txt K mg) : r_held_gain G [ten, .int 2, .int 0, .int 1, .int 1] = .ret (.v (.int 4)) [] := rfl

end
end FX.K71

set_option Elab.async false
set_option linter.all false
set_option maxRecDepth 100000
set_option maxHeartbeats 4000000
namespace FX.K71
open PySem PySem.Spec PyProof.Rows L2 LamX FX
section
variable {K : PySem.W.Frag} {mg : Str → Option Value}
/-! ### a refusal is caught -/
theorem err_run (G : Txt K mg) {C : Addr} {S : Sto} {mb : M D} {sl' : List Sl} (he : mb ⟨lamS S, S.hc⟩ = .exc ⟨C, none⟩ ⟨sl', S.hc⟩) (hr : PySem.W.exmOne K (.ref C) (.ref G.x_RoundError.C) = some true) : lamV 2 (mw__law_error G) mb S = .ok (.exc ⟨C, none⟩) S := by
  refine lamV_eq (n := 2) (mw := mw__law_error G) (mb := mb) (S := S) (d := .exc ⟨C, none⟩) (hc := S.hc) fun f vs ds hp => ?_
  have hc1 : cloM 0 f vs ds hp (lamS S) mb ⟨[.clo f vs ds hp, .un], S.hc⟩ = .exc ⟨C, none⟩ ⟨[.clo f vs ds hp, .un], S.hc⟩ := by rw [cloM_at rfl rfl, he]
  show endF (mw__law_error G (cloM 0 f vs ds hp (lamS S) mb) ⟨[.clo f vs ds hp, .un], S.hc⟩) = _
  have e : tryM (exOf K G.x_RoundError.C) 1 (bnd (cloM 0 f vs ds hp (lamS S) mb) fun _ => ret .nx) (bnd (vV 1) fun d => ret (.rt (.v d))) ⟨[.clo f vs ds hp, .un], S.hc⟩ = .ok (.rt (.v (.exc ⟨C, none⟩))) ⟨[.clo f vs ds hp, .un], S.hc⟩ := by
    have e1 : (bnd (cloM 0 f vs ds hp (lamS S) mb) fun _ => ret Ctl.nx) ⟨[.clo f vs ds hp, .un], S.hc⟩ = .exc ⟨C, none⟩ ⟨[.clo f vs ds hp, .un], S.hc⟩ := by unfold bnd; rw [hc1]
    unfold tryM
    rw [e1]
    dsimp only [exOf]
    rw [hr]
    rfl
  unfold mw__law_error sqS bnd
  unfold bnd at e
  rw [e]
  rfl
theorem wp_err (G : Txt K mg) {C : Addr} {S : Sto} {mb : M D} {sl' : List Sl} {cv : Value} {Q : D → Sto → Prop} (he : mb ⟨lamS S, S.hc⟩ = .exc ⟨C, none⟩ ⟨sl', S.hc⟩) (hr : PySem.W.exmOne K (.ref C) (.ref G.x_RoundError.C) = some true) (hi : excCB K C = true) (hk : PySem.W.kitOne K (.ref C) cv = some true) : Wp (b1 (lamV 2 (mw__law_error G) mb) (isxD K cv)) S Q = Q (.bl true) S := by
  rw [wp_b1]
  unfold Wp
  rw [err_run G he hr]
  show opP (isxD K cv (.exc ⟨C, none⟩)) _ = _
  unfold isxD; dsimp only
  rw [if_pos ⟨rfl, hi⟩, hk]
  rfl

end
end FX.K71

set_option Elab.async false
set_option linter.all false
set_option maxRecDepth 100000
set_option maxHeartbeats 4000000
namespace FX.K71
open PySem PySem.Spec PyProof.Rows L2 LamX FX
section
variable {K : PySem.W.Frag} {mg : Str → Option Value}
/-! ### the law -/
theorem wp_ex {α : Type} {m : M α} {S : Sto} {Q : α → Sto → Prop} (h : Wp m S Q) : ∃ a S', m S = .ok a S' ∧ Q a S' := by
  unfold Wp at h
  generalize m S = z at h
  cases z with
  | ok a S' => exact ⟨a, S', rfl, h⟩
  | exc e S' => exact False.elim h
  | stuck => exact False.elim h
theorem wp_rt {m : M Ctl} {S : Sto} (w : Wp m S fun c _ => c = .rt (.v (.bl true))) : ∃ S', m S = .ok (.rt (.v (.bl true))) S' := by
  obtain ⟨a, S', x, q⟩ := wp_ex w
  exact ⟨S', by rw [x, q]⟩
theorem wp_lam (G : Txt K mg) {C : Addr} {S : Sto} {mb : M D} {sl' : List Sl} {Q : D → Sto → Prop} (he : mb ⟨lamS S, S.hc⟩ = .exc ⟨C, none⟩ ⟨sl', S.hc⟩) (hr : PySem.W.exmOne K (.ref C) (.ref G.x_RoundError.C) = some true) : Wp (lamV 2 (mw__law_error G) mb) S Q = Q (.exc ⟨C, none⟩) S := by
  unfold Wp
  rw [err_run G he hr]
  rfl
theorem op_isx {C : Addr} {cv : Value} {Q : D → Prop} (hi : excCB K C = true) (hk : PySem.W.kitOne K (.ref C) cv = some true) : opP (isxD K cv (.exc ⟨C, none⟩)) Q = Q (.bl true) := opP_of (by unfold isxD; dsimp only; rw [if_pos ⟨rfl, hi⟩, hk]; rfl)
theorem clV_exc {g : List D → Fo} {fs : List (M D)} {S S' : Sto} {ds : List D} {e : Xc} {hc : List D} (h : sqM fs S = .ok ds S') (q : g ds = .exc e hc) : clV g fs S = .exc e S' := by
  unfold clV bnd
  rw [h]
  dsimp only
  rw [q]
theorem wp_cpL_nil {st : TgF} {c : M Bool} {f : M D} {vs : List Nat} {acc : List D} {S : Sto} {Q : List D → Sto → Prop} : Wp (cpL st c f vs [] acc) S Q = Q acc S := rfl
theorem law_ok (G : Txt K mg) {ns : List Int} (h : ns.length ≤ 63) : ∃ S', m_law G (lawS 13 ns) = .ok (.rt (.v (.bl true))) S' := by
  obtain ⟨hc, e, good⟩ := law_hand_ok G h
  have e1 : clL (r__law_hand G) [vV 0] (lawS 13 ns) = .ok hc (lawS 13 ns) := by
    show (match r__law_hand G [.scr (ns.map .int)] with
      | .ret (.l rs) _ => (.ok rs (lawS 13 ns) : Out (List D))
      | .exc e _ => .exc e (lawS 13 ns)
      | _ => .stuck) = _
    rw [e]
  unfold m_law lawO
  rw [e1]
  dsimp only
  refine wp_rt ?_
  show Wp _ ⟨[.val (.scr (ns.map .int)), .hnd, .un, .un, .un, .un, .un, .un, .un, .un, .un, .un, .un], hc⟩ _
  obtain ⟨_, hc1, a1, rfl, g1⟩ := (law_right_ok G good).ex
  obtain ⟨_, hc2, a2, rfl, g2⟩ := (law_right_ok G g1).ex
  obtain ⟨_, hc3, a3, rfl, g3⟩ := (law_right_ok G g2).ex
  obtain ⟨_, hc4, a4, rfl, g4⟩ := (law_right_ok G g3).ex
  simp -implicitDefEqProofs (disch := omega) only [↓wp_bnd, ↓wp_ret, ↓wp_vV, ↓wp_vB, ↓wp_vL, ↓wp_hix, ↓wp_b1, ↓wp_b2, ↓wp_ifM, ↓wp_notM, ↓wp_andM, ↓wp_orM, ↓wp_asB, ↓wp_asI, ↓wp_notV, ↓wp_andV, ↓wp_orV, ↓wp_sq0, ↓wp_sq, ↓wp_tupM, ↓wp_frz, ↓wp_chM, ↓wp_sqS, ↓wp_seV, ↓wp_seL, ↓wp_asM, ↓wp_paM, ↓wp_paM3, ↓wp_paR2, ↓wp_paR3, ↓wp_rvM, ↓wp_rlM, ↓rv_v, ↓rv_l, ↓wp_shM, ↓wp_apM, ↓wp_exM, ↓wp_siM, ↓wp_clV, ↓wp_clL, ↓wp_hdM, ↓wp_chV, ↓wp_chL, ↓wp_itM, ↓wp_itA, ↓wp_rg1M, ↓wp_rg2M, ↓wp_zpM, ↓wp_enM, ↓wp_isiM, ↓wp_someM, ↓wp_sl3, ↓wp_frM, ↓wp_lc, ↓wp_agM, ↓wipP1, ↓wipP2, ↓wipP3, ↓bacP1, ↓bacP2, ↓bacP3, ↓spK0, ↓spK1, ↓spK2, ↓foP_ret, ↓rdP_v, ↓rdP_l, ↓lsP_l, ↓blP_bl, ↓inP_int, ↓vlP_val, ↓vlP_own, ↓hdP_hnd, ↓sqP_lst, ↓sqP_tup, ↓sqP_scr, ↓saP_lst, ↓saP_tup, ↓saP_rng, ↓ctP_nx, ↓ctP_rt, ↓ctP_bk, ↓ctP_ct, ↓lpP_nx, ↓lpP_ct, ↓lpP_bk, ↓lpP_rt, ↓zpP_lst, ↓zpP_tup, ↓enP_lst, ↓exP_lst, ↓tgP_V, ↓tgP_T, ↓tgsP_nil, ↓tgsP_cons, ↓rgP_ok, ↓iteP_true, ↓iteP_false, ↓iteP_t, ↓iteP_f, ↓iteP_nt, ↓iteP_nf, ↓hhP_eq, ↓opP_some, ↓pAdd, ↓pSub, ↓pNeg, ↓pMulR, ↓pMulL, ↓pMod, ↓pDiv, ↓p1018, ↓pLt, ↓pLe, ↓pGt, ↓pGe, ↓pOpB, ↓pEq, ↓pNe, ↓pIs0, ↓pIs1, ↓pIs2, ↓pIs3, ↓pIs4, ↓pIn0, ↓pIn1, ↓pIn2, ↓pIn3, ↓pIn4, ↓pLen1, ↓pLen2, ↓pLen3, ↓pInt, ↓pAbs, ↓pTup1, ↓pTup2, ↓pLst1, ↓pLst2, ↓pLst3, ↓pRng, ↓pSl1, ↓pSl2, ↓pSl3, ↓isi_int_non, ↓isi_int_bl, ↓isi_int_int, ↓isi_int_str, ↓isi_int_tup, ↓isi_int_lst, ↓isi_int_dic, ↓isi_bool_non, ↓isi_bool_bl, ↓isi_bool_int, ↓isi_bool_str, ↓isi_bool_tup, ↓isi_bool_lst, ↓isi_bool_dic, ↓isi_str_non, ↓isi_str_bl, ↓isi_str_int, ↓isi_str_str, ↓isi_str_tup, ↓isi_str_lst, ↓isi_str_dic, ↓isi_tuple_non, ↓isi_tuple_bl, ↓isi_tuple_int, ↓isi_tuple_str, ↓isi_tuple_tup, ↓isi_tuple_lst, ↓isi_tuple_dic, ↓isi_list_non, ↓isi_list_bl, ↓isi_list_int, ↓isi_list_str, ↓isi_list_tup, ↓isi_list_lst, ↓isi_list_dic, ↓isi_dict_non, ↓isi_dict_bl, ↓isi_dict_int, ↓isi_dict_str, ↓isi_dict_tup, ↓isi_dict_lst, ↓isi_dict_dic, ↓ixt0, ↓ixt1, ↓ixt2, ↓ixt3, ↓ixt4, ↓ixt5, ↓ixt6, ↓ixt7, ↓ixt8, ↓ixl0, ↓ixl1, ↓ixl2, ↓ixl3, ↓ixl4, ↓ixl5, ↓ixl6, ↓ixl7, ↓ixl8, ↓FX.gp0, ↓FX.gp1, ↓FX.gp2, ↓FX.gp3, ↓FX.gp4, ↓FX.gp5, ↓FX.gp6, ↓FX.gp7, ↓FX.gp8, ↓FX.gp9, ↓FX.gp10, ↓FX.gp11, ↓FX.gp12, ↓FX.gp13, ↓FX.gp14, ↓FX.gp15, ↓FX.gp16, ↓FX.gp17, ↓FX.gp18, ↓FX.gp19, ↓FX.gp20, ↓FX.gp21, ↓FX.gp22, ↓FX.gp23, ↓FX.gp24, ↓FX.gp25, ↓FX.gp26, ↓FX.gp27, ↓FX.gp28, ↓FX.gp29, ↓FX.gp30, ↓FX.gp31, ↓FX.gp32, ↓FX.gp33, ↓FX.sp0, ↓FX.sp1, ↓FX.sp2, ↓FX.sp3, ↓FX.sp4, ↓FX.sp5, ↓FX.sp6, ↓FX.sp7, ↓FX.sp8, ↓FX.sp9, ↓FX.sp10, ↓FX.sp11, ↓FX.sp12, ↓FX.sp13, ↓FX.sp14, ↓FX.sp15, ↓FX.sp16, ↓FX.sp17, ↓FX.sp18, ↓FX.sp19, ↓FX.sp20, ↓FX.sp21, ↓FX.sp22, ↓FX.sp23, ↓FX.sp24, ↓FX.sp25, ↓FX.sp26, ↓FX.sp27, ↓FX.sp28, ↓FX.sp29, ↓FX.sp30, ↓FX.sp31, ↓FX.sp32, ↓FX.sp33, ↓FX.hp0, ↓FX.hp1, ↓FX.hp2, ↓FX.hp3, ↓FX.hp4, ↓FX.wp0, ↓FX.wp1, ↓FX.wp2, ↓FX.wp3, ↓FX.wp4, end_rt, end_nx, ↓tgQ_eq, Bool.not_true, Bool.not_false, and_self, and_true, true_and, Int.sub_zero]
  refine ⟨by rw [sizeLine_eq]; decide, ?_⟩
  rw [show rngD 0 (Int.toNat 4) = [.int 0, .int 1, .int 2, .int 3] from rfl]
  have al : ∀ Q, opP (allD (.lst ([] ++ [.bl true] ++ [.bl true] ++ [.bl true] ++ [.bl true]))) Q = Q (.bl true) := fun _ => rfl
  have mu : ∀ (x : D) Q, opP (mulD (.tup [x]) (.int 9)) Q = Q (.tup (List.replicate 9 x)) := fun _ _ => rfl
  simp -implicitDefEqProofs (disch := omega) only [↓wp_bnd, ↓wp_ret, ↓wp_vV, ↓wp_vB, ↓wp_vL, ↓wp_hix, ↓wp_b1, ↓wp_b2, ↓wp_ifM, ↓wp_notM, ↓wp_andM, ↓wp_orM, ↓wp_asB, ↓wp_asI, ↓wp_notV, ↓wp_andV, ↓wp_orV, ↓wp_sq0, ↓wp_sq, ↓wp_tupM, ↓wp_frz, ↓wp_chM, ↓wp_sqS, ↓wp_seV, ↓wp_seL, ↓wp_asM, ↓wp_paM, ↓wp_paM3, ↓wp_paR2, ↓wp_paR3, ↓wp_rvM, ↓wp_rlM, ↓rv_v, ↓rv_l, ↓wp_shM, ↓wp_apM, ↓wp_exM, ↓wp_siM, ↓wp_clV, ↓wp_clL, ↓wp_hdM, ↓wp_chV, ↓wp_chL, ↓wp_itM, ↓wp_itA, ↓wp_rg1M, ↓wp_rg2M, ↓wp_zpM, ↓wp_enM, ↓wp_isiM, ↓wp_someM, ↓wp_sl3, ↓wp_frM, ↓wp_lc, ↓wp_agM, ↓wipP1, ↓wipP2, ↓wipP3, ↓bacP1, ↓bacP2, ↓bacP3, ↓spK0, ↓spK1, ↓spK2, ↓foP_ret, ↓rdP_v, ↓rdP_l, ↓lsP_l, ↓blP_bl, ↓inP_int, ↓vlP_val, ↓vlP_own, ↓hdP_hnd, ↓sqP_lst, ↓sqP_tup, ↓sqP_scr, ↓saP_lst, ↓saP_tup, ↓saP_rng, ↓ctP_nx, ↓ctP_rt, ↓ctP_bk, ↓ctP_ct, ↓lpP_nx, ↓lpP_ct, ↓lpP_bk, ↓lpP_rt, ↓zpP_lst, ↓zpP_tup, ↓enP_lst, ↓exP_lst, ↓tgP_V, ↓tgP_T, ↓tgsP_nil, ↓tgsP_cons, ↓rgP_ok, ↓iteP_true, ↓iteP_false, ↓iteP_t, ↓iteP_f, ↓iteP_nt, ↓iteP_nf, ↓hhP_eq, ↓opP_some, ↓pAdd, ↓pSub, ↓pNeg, ↓pMulR, ↓pMulL, ↓pMod, ↓pDiv, ↓p1018, ↓pLt, ↓pLe, ↓pGt, ↓pGe, ↓pOpB, ↓pEq, ↓pNe, ↓pIs0, ↓pIs1, ↓pIs2, ↓pIs3, ↓pIs4, ↓pIn0, ↓pIn1, ↓pIn2, ↓pIn3, ↓pIn4, ↓pLen1, ↓pLen2, ↓pLen3, ↓pInt, ↓pAbs, ↓pTup1, ↓pTup2, ↓pLst1, ↓pLst2, ↓pLst3, ↓pRng, ↓pSl1, ↓pSl2, ↓pSl3, ↓isi_int_non, ↓isi_int_bl, ↓isi_int_int, ↓isi_int_str, ↓isi_int_tup, ↓isi_int_lst, ↓isi_int_dic, ↓isi_bool_non, ↓isi_bool_bl, ↓isi_bool_int, ↓isi_bool_str, ↓isi_bool_tup, ↓isi_bool_lst, ↓isi_bool_dic, ↓isi_str_non, ↓isi_str_bl, ↓isi_str_int, ↓isi_str_str, ↓isi_str_tup, ↓isi_str_lst, ↓isi_str_dic, ↓isi_tuple_non, ↓isi_tuple_bl, ↓isi_tuple_int, ↓isi_tuple_str, ↓isi_tuple_tup, ↓isi_tuple_lst, ↓isi_tuple_dic, ↓isi_list_non, ↓isi_list_bl, ↓isi_list_int, ↓isi_list_str, ↓isi_list_tup, ↓isi_list_lst, ↓isi_list_dic, ↓isi_dict_non, ↓isi_dict_bl, ↓isi_dict_int, ↓isi_dict_str, ↓isi_dict_tup, ↓isi_dict_lst, ↓isi_dict_dic, ↓ixt0, ↓ixt1, ↓ixt2, ↓ixt3, ↓ixt4, ↓ixt5, ↓ixt6, ↓ixt7, ↓ixt8, ↓ixl0, ↓ixl1, ↓ixl2, ↓ixl3, ↓ixl4, ↓ixl5, ↓ixl6, ↓ixl7, ↓ixl8, ↓FX.gp0, ↓FX.gp1, ↓FX.gp2, ↓FX.gp3, ↓FX.gp4, ↓FX.gp5, ↓FX.gp6, ↓FX.gp7, ↓FX.gp8, ↓FX.gp9, ↓FX.gp10, ↓FX.gp11, ↓FX.gp12, ↓FX.gp13, ↓FX.gp14, ↓FX.gp15, ↓FX.gp16, ↓FX.gp17, ↓FX.gp18, ↓FX.gp19, ↓FX.gp20, ↓FX.gp21, ↓FX.gp22, ↓FX.gp23, ↓FX.gp24, ↓FX.gp25, ↓FX.gp26, ↓FX.gp27, ↓FX.gp28, ↓FX.gp29, ↓FX.gp30, ↓FX.gp31, ↓FX.gp32, ↓FX.gp33, ↓FX.sp0, ↓FX.sp1, ↓FX.sp2, ↓FX.sp3, ↓FX.sp4, ↓FX.sp5, ↓FX.sp6, ↓FX.sp7, ↓FX.sp8, ↓FX.sp9, ↓FX.sp10, ↓FX.sp11, ↓FX.sp12, ↓FX.sp13, ↓FX.sp14, ↓FX.sp15, ↓FX.sp16, ↓FX.sp17, ↓FX.sp18, ↓FX.sp19, ↓FX.sp20, ↓FX.sp21, ↓FX.sp22, ↓FX.sp23, ↓FX.sp24, ↓FX.sp25, ↓FX.sp26, ↓FX.sp27, ↓FX.sp28, ↓FX.sp29, ↓FX.sp30, ↓FX.sp31, ↓FX.sp32, ↓FX.sp33, ↓FX.hp0, ↓FX.hp1, ↓FX.hp2, ↓FX.hp3, ↓FX.hp4, ↓FX.wp0, ↓FX.wp1, ↓FX.wp2, ↓FX.wp3, ↓FX.wp4, end_rt, end_nx, ↓tgQ_eq, Bool.not_true, Bool.not_false, and_self, and_true, true_and, ↓wp_cpL_cons, ↓wp_cpL_nil, ↓foP_of a1, ↓foP_of a2, ↓foP_of a3, ↓foP_of a4, ↓al, ↓mu]
  rw [pAddL (by rw [sizeLine_eq]; decide)]
  try simp -implicitDefEqProofs (disch := omega) only [↓wp_bnd, ↓wp_ret, ↓wp_vV, ↓wp_vB, ↓wp_vL, ↓wp_hix, ↓wp_b1, ↓wp_b2, ↓wp_ifM, ↓wp_notM, ↓wp_andM, ↓wp_orM, ↓wp_asB, ↓wp_asI, ↓wp_notV, ↓wp_andV, ↓wp_orV, ↓wp_sq0, ↓wp_sq, ↓wp_tupM, ↓wp_frz, ↓wp_chM, ↓wp_sqS, ↓wp_seV, ↓wp_seL, ↓wp_asM, ↓wp_paM, ↓wp_paM3, ↓wp_paR2, ↓wp_paR3, ↓wp_rvM, ↓wp_rlM, ↓rv_v, ↓rv_l, ↓wp_shM, ↓wp_apM, ↓wp_exM, ↓wp_siM, ↓wp_clV, ↓wp_clL, ↓wp_hdM, ↓wp_chV, ↓wp_chL, ↓wp_itM, ↓wp_itA, ↓wp_rg1M, ↓wp_rg2M, ↓wp_zpM, ↓wp_enM, ↓wp_isiM, ↓wp_someM, ↓wp_sl3, ↓wp_frM, ↓wp_lc, ↓wp_agM, ↓wipP1, ↓wipP2, ↓wipP3, ↓bacP1, ↓bacP2, ↓bacP3, ↓spK0, ↓spK1, ↓spK2, ↓foP_ret, ↓rdP_v, ↓rdP_l, ↓lsP_l, ↓blP_bl, ↓inP_int, ↓vlP_val, ↓vlP_own, ↓hdP_hnd, ↓sqP_lst, ↓sqP_tup, ↓sqP_scr, ↓saP_lst, ↓saP_tup, ↓saP_rng, ↓ctP_nx, ↓ctP_rt, ↓ctP_bk, ↓ctP_ct, ↓lpP_nx, ↓lpP_ct, ↓lpP_bk, ↓lpP_rt, ↓zpP_lst, ↓zpP_tup, ↓enP_lst, ↓exP_lst, ↓tgP_V, ↓tgP_T, ↓tgsP_nil, ↓tgsP_cons, ↓rgP_ok, ↓iteP_true, ↓iteP_false, ↓iteP_t, ↓iteP_f, ↓iteP_nt, ↓iteP_nf, ↓hhP_eq, ↓opP_some, ↓pAdd, ↓pSub, ↓pNeg, ↓pMulR, ↓pMulL, ↓pMod, ↓pDiv, ↓p1018, ↓pLt, ↓pLe, ↓pGt, ↓pGe, ↓pOpB, ↓pEq, ↓pNe, ↓pIs0, ↓pIs1, ↓pIs2, ↓pIs3, ↓pIs4, ↓pIn0, ↓pIn1, ↓pIn2, ↓pIn3, ↓pIn4, ↓pLen1, ↓pLen2, ↓pLen3, ↓pInt, ↓pAbs, ↓pTup1, ↓pTup2, ↓pLst1, ↓pLst2, ↓pLst3, ↓pRng, ↓pSl1, ↓pSl2, ↓pSl3, ↓isi_int_non, ↓isi_int_bl, ↓isi_int_int, ↓isi_int_str, ↓isi_int_tup, ↓isi_int_lst, ↓isi_int_dic, ↓isi_bool_non, ↓isi_bool_bl, ↓isi_bool_int, ↓isi_bool_str, ↓isi_bool_tup, ↓isi_bool_lst, ↓isi_bool_dic, ↓isi_str_non, ↓isi_str_bl, ↓isi_str_int, ↓isi_str_str, ↓isi_str_tup, ↓isi_str_lst, ↓isi_str_dic, ↓isi_tuple_non, ↓isi_tuple_bl, ↓isi_tuple_int, ↓isi_tuple_str, ↓isi_tuple_tup, ↓isi_tuple_lst, ↓isi_tuple_dic, ↓isi_list_non, ↓isi_list_bl, ↓isi_list_int, ↓isi_list_str, ↓isi_list_tup, ↓isi_list_lst, ↓isi_list_dic, ↓isi_dict_non, ↓isi_dict_bl, ↓isi_dict_int, ↓isi_dict_str, ↓isi_dict_tup, ↓isi_dict_lst, ↓isi_dict_dic, ↓ixt0, ↓ixt1, ↓ixt2, ↓ixt3, ↓ixt4, ↓ixt5, ↓ixt6, ↓ixt7, ↓ixt8, ↓ixl0, ↓ixl1, ↓ixl2, ↓ixl3, ↓ixl4, ↓ixl5, ↓ixl6, ↓ixl7, ↓ixl8, ↓FX.gp0, ↓FX.gp1, ↓FX.gp2, ↓FX.gp3, ↓FX.gp4, ↓FX.gp5, ↓FX.gp6, ↓FX.gp7, ↓FX.gp8, ↓FX.gp9, ↓FX.gp10, ↓FX.gp11, ↓FX.gp12, ↓FX.gp13, ↓FX.gp14, ↓FX.gp15, ↓FX.gp16, ↓FX.gp17, ↓FX.gp18, ↓FX.gp19, ↓FX.gp20, ↓FX.gp21, ↓FX.gp22, ↓FX.gp23, ↓FX.gp24, ↓FX.gp25, ↓FX.gp26, ↓FX.gp27, ↓FX.gp28, ↓FX.gp29, ↓FX.gp30, ↓FX.gp31, ↓FX.gp32, ↓FX.gp33, ↓FX.sp0, ↓FX.sp1, ↓FX.sp2, ↓FX.sp3, ↓FX.sp4, ↓FX.sp5, ↓FX.sp6, ↓FX.sp7, ↓FX.sp8, ↓FX.sp9, ↓FX.sp10, ↓FX.sp11, ↓FX.sp12, ↓FX.sp13, ↓FX.sp14, ↓FX.sp15, ↓FX.sp16, ↓FX.sp17, ↓FX.sp18, ↓FX.sp19, ↓FX.sp20, ↓FX.sp21, ↓FX.sp22, ↓FX.sp23, ↓FX.sp24, ↓FX.sp25, ↓FX.sp26, ↓FX.sp27, ↓FX.sp28, ↓FX.sp29, ↓FX.sp30, ↓FX.sp31, ↓FX.sp32, ↓FX.sp33, ↓FX.hp0, ↓FX.hp1, ↓FX.hp2, ↓FX.hp3, ↓FX.hp4, ↓FX.wp0, ↓FX.wp1, ↓FX.wp2, ↓FX.wp3, ↓FX.wp4, end_rt, end_nx, ↓tgQ_eq, Bool.not_true, Bool.not_false, and_self, and_true, true_and]
  rw [pAddL (by rw [sizeLine_eq]; decide)]
  try simp -implicitDefEqProofs (disch := omega) only [↓wp_bnd, ↓wp_ret, ↓wp_vV, ↓wp_vB, ↓wp_vL, ↓wp_hix, ↓wp_b1, ↓wp_b2, ↓wp_ifM, ↓wp_notM, ↓wp_andM, ↓wp_orM, ↓wp_asB, ↓wp_asI, ↓wp_notV, ↓wp_andV, ↓wp_orV, ↓wp_sq0, ↓wp_sq, ↓wp_tupM, ↓wp_frz, ↓wp_chM, ↓wp_sqS, ↓wp_seV, ↓wp_seL, ↓wp_asM, ↓wp_paM, ↓wp_paM3, ↓wp_paR2, ↓wp_paR3, ↓wp_rvM, ↓wp_rlM, ↓rv_v, ↓rv_l, ↓wp_shM, ↓wp_apM, ↓wp_exM, ↓wp_siM, ↓wp_clV, ↓wp_clL, ↓wp_hdM, ↓wp_chV, ↓wp_chL, ↓wp_itM, ↓wp_itA, ↓wp_rg1M, ↓wp_rg2M, ↓wp_zpM, ↓wp_enM, ↓wp_isiM, ↓wp_someM, ↓wp_sl3, ↓wp_frM, ↓wp_lc, ↓wp_agM, ↓wipP1, ↓wipP2, ↓wipP3, ↓bacP1, ↓bacP2, ↓bacP3, ↓spK0, ↓spK1, ↓spK2, ↓foP_ret, ↓rdP_v, ↓rdP_l, ↓lsP_l, ↓blP_bl, ↓inP_int, ↓vlP_val, ↓vlP_own, ↓hdP_hnd, ↓sqP_lst, ↓sqP_tup, ↓sqP_scr, ↓saP_lst, ↓saP_tup, ↓saP_rng, ↓ctP_nx, ↓ctP_rt, ↓ctP_bk, ↓ctP_ct, ↓lpP_nx, ↓lpP_ct, ↓lpP_bk, ↓lpP_rt, ↓zpP_lst, ↓zpP_tup, ↓enP_lst, ↓exP_lst, ↓tgP_V, ↓tgP_T, ↓tgsP_nil, ↓tgsP_cons, ↓rgP_ok, ↓iteP_true, ↓iteP_false, ↓iteP_t, ↓iteP_f, ↓iteP_nt, ↓iteP_nf, ↓hhP_eq, ↓opP_some, ↓pAdd, ↓pSub, ↓pNeg, ↓pMulR, ↓pMulL, ↓pMod, ↓pDiv, ↓p1018, ↓pLt, ↓pLe, ↓pGt, ↓pGe, ↓pOpB, ↓pEq, ↓pNe, ↓pIs0, ↓pIs1, ↓pIs2, ↓pIs3, ↓pIs4, ↓pIn0, ↓pIn1, ↓pIn2, ↓pIn3, ↓pIn4, ↓pLen1, ↓pLen2, ↓pLen3, ↓pInt, ↓pAbs, ↓pTup1, ↓pTup2, ↓pLst1, ↓pLst2, ↓pLst3, ↓pRng, ↓pSl1, ↓pSl2, ↓pSl3, ↓isi_int_non, ↓isi_int_bl, ↓isi_int_int, ↓isi_int_str, ↓isi_int_tup, ↓isi_int_lst, ↓isi_int_dic, ↓isi_bool_non, ↓isi_bool_bl, ↓isi_bool_int, ↓isi_bool_str, ↓isi_bool_tup, ↓isi_bool_lst, ↓isi_bool_dic, ↓isi_str_non, ↓isi_str_bl, ↓isi_str_int, ↓isi_str_str, ↓isi_str_tup, ↓isi_str_lst, ↓isi_str_dic, ↓isi_tuple_non, ↓isi_tuple_bl, ↓isi_tuple_int, ↓isi_tuple_str, ↓isi_tuple_tup, ↓isi_tuple_lst, ↓isi_tuple_dic, ↓isi_list_non, ↓isi_list_bl, ↓isi_list_int, ↓isi_list_str, ↓isi_list_tup, ↓isi_list_lst, ↓isi_list_dic, ↓isi_dict_non, ↓isi_dict_bl, ↓isi_dict_int, ↓isi_dict_str, ↓isi_dict_tup, ↓isi_dict_lst, ↓isi_dict_dic, ↓ixt0, ↓ixt1, ↓ixt2, ↓ixt3, ↓ixt4, ↓ixt5, ↓ixt6, ↓ixt7, ↓ixt8, ↓ixl0, ↓ixl1, ↓ixl2, ↓ixl3, ↓ixl4, ↓ixl5, ↓ixl6, ↓ixl7, ↓ixl8, ↓FX.gp0, ↓FX.gp1, ↓FX.gp2, ↓FX.gp3, ↓FX.gp4, ↓FX.gp5, ↓FX.gp6, ↓FX.gp7, ↓FX.gp8, ↓FX.gp9, ↓FX.gp10, ↓FX.gp11, ↓FX.gp12, ↓FX.gp13, ↓FX.gp14, ↓FX.gp15, ↓FX.gp16, ↓FX.gp17, ↓FX.gp18, ↓FX.gp19, ↓FX.gp20, ↓FX.gp21, ↓FX.gp22, ↓FX.gp23, ↓FX.gp24, ↓FX.gp25, ↓FX.gp26, ↓FX.gp27, ↓FX.gp28, ↓FX.gp29, ↓FX.gp30, ↓FX.gp31, ↓FX.gp32, ↓FX.gp33, ↓FX.sp0, ↓FX.sp1, ↓FX.sp2, ↓FX.sp3, ↓FX.sp4, ↓FX.sp5, ↓FX.sp6, ↓FX.sp7, ↓FX.sp8, ↓FX.sp9, ↓FX.sp10, ↓FX.sp11, ↓FX.sp12, ↓FX.sp13, ↓FX.sp14, ↓FX.sp15, ↓FX.sp16, ↓FX.sp17, ↓FX.sp18, ↓FX.sp19, ↓FX.sp20, ↓FX.sp21, ↓FX.sp22, ↓FX.sp23, ↓FX.sp24, ↓FX.sp25, ↓FX.sp26, ↓FX.sp27, ↓FX.sp28, ↓FX.sp29, ↓FX.sp30, ↓FX.sp31, ↓FX.sp32, ↓FX.sp33, ↓FX.hp0, ↓FX.hp1, ↓FX.hp2, ↓FX.hp3, ↓FX.hp4, ↓FX.wp0, ↓FX.wp1, ↓FX.wp2, ↓FX.wp3, ↓FX.wp4, end_rt, end_nx, ↓tgQ_eq, Bool.not_true, Bool.not_false, and_self, and_true, true_and]
  rw [pAddL (by rw [sizeLine_eq]; decide)]
  obtain ⟨_, hc5, a5, b, hb, rfl, g5⟩ := (some_ok G g4 (ds := bads) (by simp [bads]) (by simp [bads])).ex
  try simp -implicitDefEqProofs (disch := omega) only [↓wp_bnd, ↓wp_ret, ↓wp_vV, ↓wp_vB, ↓wp_vL, ↓wp_hix, ↓wp_b1, ↓wp_b2, ↓wp_ifM, ↓wp_notM, ↓wp_andM, ↓wp_orM, ↓wp_asB, ↓wp_asI, ↓wp_notV, ↓wp_andV, ↓wp_orV, ↓wp_sq0, ↓wp_sq, ↓wp_tupM, ↓wp_frz, ↓wp_chM, ↓wp_sqS, ↓wp_seV, ↓wp_seL, ↓wp_asM, ↓wp_paM, ↓wp_paM3, ↓wp_paR2, ↓wp_paR3, ↓wp_rvM, ↓wp_rlM, ↓rv_v, ↓rv_l, ↓wp_shM, ↓wp_apM, ↓wp_exM, ↓wp_siM, ↓wp_clV, ↓wp_clL, ↓wp_hdM, ↓wp_chV, ↓wp_chL, ↓wp_itM, ↓wp_itA, ↓wp_rg1M, ↓wp_rg2M, ↓wp_zpM, ↓wp_enM, ↓wp_isiM, ↓wp_someM, ↓wp_sl3, ↓wp_frM, ↓wp_lc, ↓wp_agM, ↓wipP1, ↓wipP2, ↓wipP3, ↓bacP1, ↓bacP2, ↓bacP3, ↓spK0, ↓spK1, ↓spK2, ↓foP_ret, ↓rdP_v, ↓rdP_l, ↓lsP_l, ↓blP_bl, ↓inP_int, ↓vlP_val, ↓vlP_own, ↓hdP_hnd, ↓sqP_lst, ↓sqP_tup, ↓sqP_scr, ↓saP_lst, ↓saP_tup, ↓saP_rng, ↓ctP_nx, ↓ctP_rt, ↓ctP_bk, ↓ctP_ct, ↓lpP_nx, ↓lpP_ct, ↓lpP_bk, ↓lpP_rt, ↓zpP_lst, ↓zpP_tup, ↓enP_lst, ↓exP_lst, ↓tgP_V, ↓tgP_T, ↓tgsP_nil, ↓tgsP_cons, ↓rgP_ok, ↓iteP_true, ↓iteP_false, ↓iteP_t, ↓iteP_f, ↓iteP_nt, ↓iteP_nf, ↓hhP_eq, ↓opP_some, ↓pAdd, ↓pSub, ↓pNeg, ↓pMulR, ↓pMulL, ↓pMod, ↓pDiv, ↓p1018, ↓pLt, ↓pLe, ↓pGt, ↓pGe, ↓pOpB, ↓pEq, ↓pNe, ↓pIs0, ↓pIs1, ↓pIs2, ↓pIs3, ↓pIs4, ↓pIn0, ↓pIn1, ↓pIn2, ↓pIn3, ↓pIn4, ↓pLen1, ↓pLen2, ↓pLen3, ↓pInt, ↓pAbs, ↓pTup1, ↓pTup2, ↓pLst1, ↓pLst2, ↓pLst3, ↓pRng, ↓pSl1, ↓pSl2, ↓pSl3, ↓isi_int_non, ↓isi_int_bl, ↓isi_int_int, ↓isi_int_str, ↓isi_int_tup, ↓isi_int_lst, ↓isi_int_dic, ↓isi_bool_non, ↓isi_bool_bl, ↓isi_bool_int, ↓isi_bool_str, ↓isi_bool_tup, ↓isi_bool_lst, ↓isi_bool_dic, ↓isi_str_non, ↓isi_str_bl, ↓isi_str_int, ↓isi_str_str, ↓isi_str_tup, ↓isi_str_lst, ↓isi_str_dic, ↓isi_tuple_non, ↓isi_tuple_bl, ↓isi_tuple_int, ↓isi_tuple_str, ↓isi_tuple_tup, ↓isi_tuple_lst, ↓isi_tuple_dic, ↓isi_list_non, ↓isi_list_bl, ↓isi_list_int, ↓isi_list_str, ↓isi_list_tup, ↓isi_list_lst, ↓isi_list_dic, ↓isi_dict_non, ↓isi_dict_bl, ↓isi_dict_int, ↓isi_dict_str, ↓isi_dict_tup, ↓isi_dict_lst, ↓isi_dict_dic, ↓ixt0, ↓ixt1, ↓ixt2, ↓ixt3, ↓ixt4, ↓ixt5, ↓ixt6, ↓ixt7, ↓ixt8, ↓ixl0, ↓ixl1, ↓ixl2, ↓ixl3, ↓ixl4, ↓ixl5, ↓ixl6, ↓ixl7, ↓ixl8, ↓FX.gp0, ↓FX.gp1, ↓FX.gp2, ↓FX.gp3, ↓FX.gp4, ↓FX.gp5, ↓FX.gp6, ↓FX.gp7, ↓FX.gp8, ↓FX.gp9, ↓FX.gp10, ↓FX.gp11, ↓FX.gp12, ↓FX.gp13, ↓FX.gp14, ↓FX.gp15, ↓FX.gp16, ↓FX.gp17, ↓FX.gp18, ↓FX.gp19, ↓FX.gp20, ↓FX.gp21, ↓FX.gp22, ↓FX.gp23, ↓FX.gp24, ↓FX.gp25, ↓FX.gp26, ↓FX.gp27, ↓FX.gp28, ↓FX.gp29, ↓FX.gp30, ↓FX.gp31, ↓FX.gp32, ↓FX.gp33, ↓FX.sp0, ↓FX.sp1, ↓FX.sp2, ↓FX.sp3, ↓FX.sp4, ↓FX.sp5, ↓FX.sp6, ↓FX.sp7, ↓FX.sp8, ↓FX.sp9, ↓FX.sp10, ↓FX.sp11, ↓FX.sp12, ↓FX.sp13, ↓FX.sp14, ↓FX.sp15, ↓FX.sp16, ↓FX.sp17, ↓FX.sp18, ↓FX.sp19, ↓FX.sp20, ↓FX.sp21, ↓FX.sp22, ↓FX.sp23, ↓FX.sp24, ↓FX.sp25, ↓FX.sp26, ↓FX.sp27, ↓FX.sp28, ↓FX.sp29, ↓FX.sp30, ↓FX.sp31, ↓FX.sp32, ↓FX.sp33, ↓FX.hp0, ↓FX.hp1, ↓FX.hp2, ↓FX.hp3, ↓FX.hp4, ↓FX.wp0, ↓FX.wp1, ↓FX.wp2, ↓FX.wp3, ↓FX.wp4, end_rt, end_nx, ↓tgQ_eq, Bool.not_true, Bool.not_false, and_self, and_true, true_and]
  refine Eq.mpr (foP_of a5) ?_
  try simp -implicitDefEqProofs (disch := omega) only [↓wp_bnd, ↓wp_ret, ↓wp_vV, ↓wp_vB, ↓wp_vL, ↓wp_hix, ↓wp_b1, ↓wp_b2, ↓wp_ifM, ↓wp_notM, ↓wp_andM, ↓wp_orM, ↓wp_asB, ↓wp_asI, ↓wp_notV, ↓wp_andV, ↓wp_orV, ↓wp_sq0, ↓wp_sq, ↓wp_tupM, ↓wp_frz, ↓wp_chM, ↓wp_sqS, ↓wp_seV, ↓wp_seL, ↓wp_asM, ↓wp_paM, ↓wp_paM3, ↓wp_paR2, ↓wp_paR3, ↓wp_rvM, ↓wp_rlM, ↓rv_v, ↓rv_l, ↓wp_shM, ↓wp_apM, ↓wp_exM, ↓wp_siM, ↓wp_clV, ↓wp_clL, ↓wp_hdM, ↓wp_chV, ↓wp_chL, ↓wp_itM, ↓wp_itA, ↓wp_rg1M, ↓wp_rg2M, ↓wp_zpM, ↓wp_enM, ↓wp_isiM, ↓wp_someM, ↓wp_sl3, ↓wp_frM, ↓wp_lc, ↓wp_agM, ↓wipP1, ↓wipP2, ↓wipP3, ↓bacP1, ↓bacP2, ↓bacP3, ↓spK0, ↓spK1, ↓spK2, ↓foP_ret, ↓rdP_v, ↓rdP_l, ↓lsP_l, ↓blP_bl, ↓inP_int, ↓vlP_val, ↓vlP_own, ↓hdP_hnd, ↓sqP_lst, ↓sqP_tup, ↓sqP_scr, ↓saP_lst, ↓saP_tup, ↓saP_rng, ↓ctP_nx, ↓ctP_rt, ↓ctP_bk, ↓ctP_ct, ↓lpP_nx, ↓lpP_ct, ↓lpP_bk, ↓lpP_rt, ↓zpP_lst, ↓zpP_tup, ↓enP_lst, ↓exP_lst, ↓tgP_V, ↓tgP_T, ↓tgsP_nil, ↓tgsP_cons, ↓rgP_ok, ↓iteP_true, ↓iteP_false, ↓iteP_t, ↓iteP_f, ↓iteP_nt, ↓iteP_nf, ↓hhP_eq, ↓opP_some, ↓pAdd, ↓pSub, ↓pNeg, ↓pMulR, ↓pMulL, ↓pMod, ↓pDiv, ↓p1018, ↓pLt, ↓pLe, ↓pGt, ↓pGe, ↓pOpB, ↓pEq, ↓pNe, ↓pIs0, ↓pIs1, ↓pIs2, ↓pIs3, ↓pIs4, ↓pIn0, ↓pIn1, ↓pIn2, ↓pIn3, ↓pIn4, ↓pLen1, ↓pLen2, ↓pLen3, ↓pInt, ↓pAbs, ↓pTup1, ↓pTup2, ↓pLst1, ↓pLst2, ↓pLst3, ↓pRng, ↓pSl1, ↓pSl2, ↓pSl3, ↓isi_int_non, ↓isi_int_bl, ↓isi_int_int, ↓isi_int_str, ↓isi_int_tup, ↓isi_int_lst, ↓isi_int_dic, ↓isi_bool_non, ↓isi_bool_bl, ↓isi_bool_int, ↓isi_bool_str, ↓isi_bool_tup, ↓isi_bool_lst, ↓isi_bool_dic, ↓isi_str_non, ↓isi_str_bl, ↓isi_str_int, ↓isi_str_str, ↓isi_str_tup, ↓isi_str_lst, ↓isi_str_dic, ↓isi_tuple_non, ↓isi_tuple_bl, ↓isi_tuple_int, ↓isi_tuple_str, ↓isi_tuple_tup, ↓isi_tuple_lst, ↓isi_tuple_dic, ↓isi_list_non, ↓isi_list_bl, ↓isi_list_int, ↓isi_list_str, ↓isi_list_tup, ↓isi_list_lst, ↓isi_list_dic, ↓isi_dict_non, ↓isi_dict_bl, ↓isi_dict_int, ↓isi_dict_str, ↓isi_dict_tup, ↓isi_dict_lst, ↓isi_dict_dic, ↓ixt0, ↓ixt1, ↓ixt2, ↓ixt3, ↓ixt4, ↓ixt5, ↓ixt6, ↓ixt7, ↓ixt8, ↓ixl0, ↓ixl1, ↓ixl2, ↓ixl3, ↓ixl4, ↓ixl5, ↓ixl6, ↓ixl7, ↓ixl8, ↓FX.gp0, ↓FX.gp1, ↓FX.gp2, ↓FX.gp3, ↓FX.gp4, ↓FX.gp5, ↓FX.gp6, ↓FX.gp7, ↓FX.gp8, ↓FX.gp9, ↓FX.gp10, ↓FX.gp11, ↓FX.gp12, ↓FX.gp13, ↓FX.gp14, ↓FX.gp15, ↓FX.gp16, ↓FX.gp17, ↓FX.gp18, ↓FX.gp19, ↓FX.gp20, ↓FX.gp21, ↓FX.gp22, ↓FX.gp23, ↓FX.gp24, ↓FX.gp25, ↓FX.gp26, ↓FX.gp27, ↓FX.gp28, ↓FX.gp29, ↓FX.gp30, ↓FX.gp31, ↓FX.gp32, ↓FX.gp33, ↓FX.sp0, ↓FX.sp1, ↓FX.sp2, ↓FX.sp3, ↓FX.sp4, ↓FX.sp5, ↓FX.sp6, ↓FX.sp7, ↓FX.sp8, ↓FX.sp9, ↓FX.sp10, ↓FX.sp11, ↓FX.sp12, ↓FX.sp13, ↓FX.sp14, ↓FX.sp15, ↓FX.sp16, ↓FX.sp17, ↓FX.sp18, ↓FX.sp19, ↓FX.sp20, ↓FX.sp21, ↓FX.sp22, ↓FX.sp23, ↓FX.sp24, ↓FX.sp25, ↓FX.sp26, ↓FX.sp27, ↓FX.sp28, ↓FX.sp29, ↓FX.sp30, ↓FX.sp31, ↓FX.sp32, ↓FX.sp33, ↓FX.hp0, ↓FX.hp1, ↓FX.hp2, ↓FX.hp3, ↓FX.hp4, ↓FX.wp0, ↓FX.wp1, ↓FX.wp2, ↓FX.wp3, ↓FX.wp4, end_rt, end_nx, ↓tgQ_eq, Bool.not_true, Bool.not_false, and_self, and_true, true_and]
  obtain ⟨_, hc6, a6, d, hd, rfl, g6⟩ := (some_ok G g5 (ds := [.non, .int (-1), .int 101, .bl true, .str "1", .tup [.int 1]]) (by simp) (by simp)).ex
  refine Eq.mpr (foP_of a6) ?_
  try simp -implicitDefEqProofs (disch := omega) only [↓wp_bnd, ↓wp_ret, ↓wp_vV, ↓wp_vB, ↓wp_vL, ↓wp_hix, ↓wp_b1, ↓wp_b2, ↓wp_ifM, ↓wp_notM, ↓wp_andM, ↓wp_orM, ↓wp_asB, ↓wp_asI, ↓wp_notV, ↓wp_andV, ↓wp_orV, ↓wp_sq0, ↓wp_sq, ↓wp_tupM, ↓wp_frz, ↓wp_chM, ↓wp_sqS, ↓wp_seV, ↓wp_seL, ↓wp_asM, ↓wp_paM, ↓wp_paM3, ↓wp_paR2, ↓wp_paR3, ↓wp_rvM, ↓wp_rlM, ↓rv_v, ↓rv_l, ↓wp_shM, ↓wp_apM, ↓wp_exM, ↓wp_siM, ↓wp_clV, ↓wp_clL, ↓wp_hdM, ↓wp_chV, ↓wp_chL, ↓wp_itM, ↓wp_itA, ↓wp_rg1M, ↓wp_rg2M, ↓wp_zpM, ↓wp_enM, ↓wp_isiM, ↓wp_someM, ↓wp_sl3, ↓wp_frM, ↓wp_lc, ↓wp_agM, ↓wipP1, ↓wipP2, ↓wipP3, ↓bacP1, ↓bacP2, ↓bacP3, ↓spK0, ↓spK1, ↓spK2, ↓foP_ret, ↓rdP_v, ↓rdP_l, ↓lsP_l, ↓blP_bl, ↓inP_int, ↓vlP_val, ↓vlP_own, ↓hdP_hnd, ↓sqP_lst, ↓sqP_tup, ↓sqP_scr, ↓saP_lst, ↓saP_tup, ↓saP_rng, ↓ctP_nx, ↓ctP_rt, ↓ctP_bk, ↓ctP_ct, ↓lpP_nx, ↓lpP_ct, ↓lpP_bk, ↓lpP_rt, ↓zpP_lst, ↓zpP_tup, ↓enP_lst, ↓exP_lst, ↓tgP_V, ↓tgP_T, ↓tgsP_nil, ↓tgsP_cons, ↓rgP_ok, ↓iteP_true, ↓iteP_false, ↓iteP_t, ↓iteP_f, ↓iteP_nt, ↓iteP_nf, ↓hhP_eq, ↓opP_some, ↓pAdd, ↓pSub, ↓pNeg, ↓pMulR, ↓pMulL, ↓pMod, ↓pDiv, ↓p1018, ↓pLt, ↓pLe, ↓pGt, ↓pGe, ↓pOpB, ↓pEq, ↓pNe, ↓pIs0, ↓pIs1, ↓pIs2, ↓pIs3, ↓pIs4, ↓pIn0, ↓pIn1, ↓pIn2, ↓pIn3, ↓pIn4, ↓pLen1, ↓pLen2, ↓pLen3, ↓pInt, ↓pAbs, ↓pTup1, ↓pTup2, ↓pLst1, ↓pLst2, ↓pLst3, ↓pRng, ↓pSl1, ↓pSl2, ↓pSl3, ↓isi_int_non, ↓isi_int_bl, ↓isi_int_int, ↓isi_int_str, ↓isi_int_tup, ↓isi_int_lst, ↓isi_int_dic, ↓isi_bool_non, ↓isi_bool_bl, ↓isi_bool_int, ↓isi_bool_str, ↓isi_bool_tup, ↓isi_bool_lst, ↓isi_bool_dic, ↓isi_str_non, ↓isi_str_bl, ↓isi_str_int, ↓isi_str_str, ↓isi_str_tup, ↓isi_str_lst, ↓isi_str_dic, ↓isi_tuple_non, ↓isi_tuple_bl, ↓isi_tuple_int, ↓isi_tuple_str, ↓isi_tuple_tup, ↓isi_tuple_lst, ↓isi_tuple_dic, ↓isi_list_non, ↓isi_list_bl, ↓isi_list_int, ↓isi_list_str, ↓isi_list_tup, ↓isi_list_lst, ↓isi_list_dic, ↓isi_dict_non, ↓isi_dict_bl, ↓isi_dict_int, ↓isi_dict_str, ↓isi_dict_tup, ↓isi_dict_lst, ↓isi_dict_dic, ↓ixt0, ↓ixt1, ↓ixt2, ↓ixt3, ↓ixt4, ↓ixt5, ↓ixt6, ↓ixt7, ↓ixt8, ↓ixl0, ↓ixl1, ↓ixl2, ↓ixl3, ↓ixl4, ↓ixl5, ↓ixl6, ↓ixl7, ↓ixl8, ↓FX.gp0, ↓FX.gp1, ↓FX.gp2, ↓FX.gp3, ↓FX.gp4, ↓FX.gp5, ↓FX.gp6, ↓FX.gp7, ↓FX.gp8, ↓FX.gp9, ↓FX.gp10, ↓FX.gp11, ↓FX.gp12, ↓FX.gp13, ↓FX.gp14, ↓FX.gp15, ↓FX.gp16, ↓FX.gp17, ↓FX.gp18, ↓FX.gp19, ↓FX.gp20, ↓FX.gp21, ↓FX.gp22, ↓FX.gp23, ↓FX.gp24, ↓FX.gp25, ↓FX.gp26, ↓FX.gp27, ↓FX.gp28, ↓FX.gp29, ↓FX.gp30, ↓FX.gp31, ↓FX.gp32, ↓FX.gp33, ↓FX.sp0, ↓FX.sp1, ↓FX.sp2, ↓FX.sp3, ↓FX.sp4, ↓FX.sp5, ↓FX.sp6, ↓FX.sp7, ↓FX.sp8, ↓FX.sp9, ↓FX.sp10, ↓FX.sp11, ↓FX.sp12, ↓FX.sp13, ↓FX.sp14, ↓FX.sp15, ↓FX.sp16, ↓FX.sp17, ↓FX.sp18, ↓FX.sp19, ↓FX.sp20, ↓FX.sp21, ↓FX.sp22, ↓FX.sp23, ↓FX.sp24, ↓FX.sp25, ↓FX.sp26, ↓FX.sp27, ↓FX.sp28, ↓FX.sp29, ↓FX.sp30, ↓FX.sp31, ↓FX.sp32, ↓FX.sp33, ↓FX.hp0, ↓FX.hp1, ↓FX.hp2, ↓FX.hp3, ↓FX.hp4, ↓FX.wp0, ↓FX.wp1, ↓FX.wp2, ↓FX.wp3, ↓FX.wp4, end_rt, end_nx, ↓tgQ_eq, Bool.not_true, Bool.not_false, and_self, and_true, true_and]
  refine Eq.mpr (wp_lam G (C := G.x_BadHub.C) (clV_exc rfl (no0 G d b hb)) G.e_BadHub_RoundError) ?_
  simp -implicitDefEqProofs (disch := omega) only [↓wp_bnd, ↓wp_ret, ↓wp_vV, ↓wp_vB, ↓wp_vL, ↓wp_hix, ↓wp_b1, ↓wp_b2, ↓wp_ifM, ↓wp_notM, ↓wp_andM, ↓wp_orM, ↓wp_asB, ↓wp_asI, ↓wp_notV, ↓wp_andV, ↓wp_orV, ↓wp_sq0, ↓wp_sq, ↓wp_tupM, ↓wp_frz, ↓wp_chM, ↓wp_sqS, ↓wp_seV, ↓wp_seL, ↓wp_asM, ↓wp_paM, ↓wp_paM3, ↓wp_paR2, ↓wp_paR3, ↓wp_rvM, ↓wp_rlM, ↓rv_v, ↓rv_l, ↓wp_shM, ↓wp_apM, ↓wp_exM, ↓wp_siM, ↓wp_clV, ↓wp_clL, ↓wp_hdM, ↓wp_chV, ↓wp_chL, ↓wp_itM, ↓wp_itA, ↓wp_rg1M, ↓wp_rg2M, ↓wp_zpM, ↓wp_enM, ↓wp_isiM, ↓wp_someM, ↓wp_sl3, ↓wp_frM, ↓wp_lc, ↓wp_agM, ↓wipP1, ↓wipP2, ↓wipP3, ↓bacP1, ↓bacP2, ↓bacP3, ↓spK0, ↓spK1, ↓spK2, ↓foP_ret, ↓rdP_v, ↓rdP_l, ↓lsP_l, ↓blP_bl, ↓inP_int, ↓vlP_val, ↓vlP_own, ↓hdP_hnd, ↓sqP_lst, ↓sqP_tup, ↓sqP_scr, ↓saP_lst, ↓saP_tup, ↓saP_rng, ↓ctP_nx, ↓ctP_rt, ↓ctP_bk, ↓ctP_ct, ↓lpP_nx, ↓lpP_ct, ↓lpP_bk, ↓lpP_rt, ↓zpP_lst, ↓zpP_tup, ↓enP_lst, ↓exP_lst, ↓tgP_V, ↓tgP_T, ↓tgsP_nil, ↓tgsP_cons, ↓rgP_ok, ↓iteP_true, ↓iteP_false, ↓iteP_t, ↓iteP_f, ↓iteP_nt, ↓iteP_nf, ↓hhP_eq, ↓opP_some, ↓pAdd, ↓pSub, ↓pNeg, ↓pMulR, ↓pMulL, ↓pMod, ↓pDiv, ↓p1018, ↓pLt, ↓pLe, ↓pGt, ↓pGe, ↓pOpB, ↓pEq, ↓pNe, ↓pIs0, ↓pIs1, ↓pIs2, ↓pIs3, ↓pIs4, ↓pIn0, ↓pIn1, ↓pIn2, ↓pIn3, ↓pIn4, ↓pLen1, ↓pLen2, ↓pLen3, ↓pInt, ↓pAbs, ↓pTup1, ↓pTup2, ↓pLst1, ↓pLst2, ↓pLst3, ↓pRng, ↓pSl1, ↓pSl2, ↓pSl3, ↓isi_int_non, ↓isi_int_bl, ↓isi_int_int, ↓isi_int_str, ↓isi_int_tup, ↓isi_int_lst, ↓isi_int_dic, ↓isi_bool_non, ↓isi_bool_bl, ↓isi_bool_int, ↓isi_bool_str, ↓isi_bool_tup, ↓isi_bool_lst, ↓isi_bool_dic, ↓isi_str_non, ↓isi_str_bl, ↓isi_str_int, ↓isi_str_str, ↓isi_str_tup, ↓isi_str_lst, ↓isi_str_dic, ↓isi_tuple_non, ↓isi_tuple_bl, ↓isi_tuple_int, ↓isi_tuple_str, ↓isi_tuple_tup, ↓isi_tuple_lst, ↓isi_tuple_dic, ↓isi_list_non, ↓isi_list_bl, ↓isi_list_int, ↓isi_list_str, ↓isi_list_tup, ↓isi_list_lst, ↓isi_list_dic, ↓isi_dict_non, ↓isi_dict_bl, ↓isi_dict_int, ↓isi_dict_str, ↓isi_dict_tup, ↓isi_dict_lst, ↓isi_dict_dic, ↓ixt0, ↓ixt1, ↓ixt2, ↓ixt3, ↓ixt4, ↓ixt5, ↓ixt6, ↓ixt7, ↓ixt8, ↓ixl0, ↓ixl1, ↓ixl2, ↓ixl3, ↓ixl4, ↓ixl5, ↓ixl6, ↓ixl7, ↓ixl8, ↓FX.gp0, ↓FX.gp1, ↓FX.gp2, ↓FX.gp3, ↓FX.gp4, ↓FX.gp5, ↓FX.gp6, ↓FX.gp7, ↓FX.gp8, ↓FX.gp9, ↓FX.gp10, ↓FX.gp11, ↓FX.gp12, ↓FX.gp13, ↓FX.gp14, ↓FX.gp15, ↓FX.gp16, ↓FX.gp17, ↓FX.gp18, ↓FX.gp19, ↓FX.gp20, ↓FX.gp21, ↓FX.gp22, ↓FX.gp23, ↓FX.gp24, ↓FX.gp25, ↓FX.gp26, ↓FX.gp27, ↓FX.gp28, ↓FX.gp29, ↓FX.gp30, ↓FX.gp31, ↓FX.gp32, ↓FX.gp33, ↓FX.sp0, ↓FX.sp1, ↓FX.sp2, ↓FX.sp3, ↓FX.sp4, ↓FX.sp5, ↓FX.sp6, ↓FX.sp7, ↓FX.sp8, ↓FX.sp9, ↓FX.sp10, ↓FX.sp11, ↓FX.sp12, ↓FX.sp13, ↓FX.sp14, ↓FX.sp15, ↓FX.sp16, ↓FX.sp17, ↓FX.sp18, ↓FX.sp19, ↓FX.sp20, ↓FX.sp21, ↓FX.sp22, ↓FX.sp23, ↓FX.sp24, ↓FX.sp25, ↓FX.sp26, ↓FX.sp27, ↓FX.sp28, ↓FX.sp29, ↓FX.sp30, ↓FX.sp31, ↓FX.sp32, ↓FX.sp33, ↓FX.hp0, ↓FX.hp1, ↓FX.hp2, ↓FX.hp3, ↓FX.hp4, ↓FX.wp0, ↓FX.wp1, ↓FX.wp2, ↓FX.wp3, ↓FX.wp4, end_rt, end_nx, ↓tgQ_eq, Bool.not_true, Bool.not_false, and_self, and_true, true_and, ↓op_isx G.i_BadHub G.k_BadHub_BadHub]
  refine Eq.mpr (wp_lam G (C := G.x_NoNumber.C) (clV_exc rfl (no1 G d hd)) G.e_NoNumber_RoundError) ?_
  simp -implicitDefEqProofs (disch := omega) only [↓wp_bnd, ↓wp_ret, ↓wp_vV, ↓wp_vB, ↓wp_vL, ↓wp_hix, ↓wp_b1, ↓wp_b2, ↓wp_ifM, ↓wp_notM, ↓wp_andM, ↓wp_orM, ↓wp_asB, ↓wp_asI, ↓wp_notV, ↓wp_andV, ↓wp_orV, ↓wp_sq0, ↓wp_sq, ↓wp_tupM, ↓wp_frz, ↓wp_chM, ↓wp_sqS, ↓wp_seV, ↓wp_seL, ↓wp_asM, ↓wp_paM, ↓wp_paM3, ↓wp_paR2, ↓wp_paR3, ↓wp_rvM, ↓wp_rlM, ↓rv_v, ↓rv_l, ↓wp_shM, ↓wp_apM, ↓wp_exM, ↓wp_siM, ↓wp_clV, ↓wp_clL, ↓wp_hdM, ↓wp_chV, ↓wp_chL, ↓wp_itM, ↓wp_itA, ↓wp_rg1M, ↓wp_rg2M, ↓wp_zpM, ↓wp_enM, ↓wp_isiM, ↓wp_someM, ↓wp_sl3, ↓wp_frM, ↓wp_lc, ↓wp_agM, ↓wipP1, ↓wipP2, ↓wipP3, ↓bacP1, ↓bacP2, ↓bacP3, ↓spK0, ↓spK1, ↓spK2, ↓foP_ret, ↓rdP_v, ↓rdP_l, ↓lsP_l, ↓blP_bl, ↓inP_int, ↓vlP_val, ↓vlP_own, ↓hdP_hnd, ↓sqP_lst, ↓sqP_tup, ↓sqP_scr, ↓saP_lst, ↓saP_tup, ↓saP_rng, ↓ctP_nx, ↓ctP_rt, ↓ctP_bk, ↓ctP_ct, ↓lpP_nx, ↓lpP_ct, ↓lpP_bk, ↓lpP_rt, ↓zpP_lst, ↓zpP_tup, ↓enP_lst, ↓exP_lst, ↓tgP_V, ↓tgP_T, ↓tgsP_nil, ↓tgsP_cons, ↓rgP_ok, ↓iteP_true, ↓iteP_false, ↓iteP_t, ↓iteP_f, ↓iteP_nt, ↓iteP_nf, ↓hhP_eq, ↓opP_some, ↓pAdd, ↓pSub, ↓pNeg, ↓pMulR, ↓pMulL, ↓pMod, ↓pDiv, ↓p1018, ↓pLt, ↓pLe, ↓pGt, ↓pGe, ↓pOpB, ↓pEq, ↓pNe, ↓pIs0, ↓pIs1, ↓pIs2, ↓pIs3, ↓pIs4, ↓pIn0, ↓pIn1, ↓pIn2, ↓pIn3, ↓pIn4, ↓pLen1, ↓pLen2, ↓pLen3, ↓pInt, ↓pAbs, ↓pTup1, ↓pTup2, ↓pLst1, ↓pLst2, ↓pLst3, ↓pRng, ↓pSl1, ↓pSl2, ↓pSl3, ↓isi_int_non, ↓isi_int_bl, ↓isi_int_int, ↓isi_int_str, ↓isi_int_tup, ↓isi_int_lst, ↓isi_int_dic, ↓isi_bool_non, ↓isi_bool_bl, ↓isi_bool_int, ↓isi_bool_str, ↓isi_bool_tup, ↓isi_bool_lst, ↓isi_bool_dic, ↓isi_str_non, ↓isi_str_bl, ↓isi_str_int, ↓isi_str_str, ↓isi_str_tup, ↓isi_str_lst, ↓isi_str_dic, ↓isi_tuple_non, ↓isi_tuple_bl, ↓isi_tuple_int, ↓isi_tuple_str, ↓isi_tuple_tup, ↓isi_tuple_lst, ↓isi_tuple_dic, ↓isi_list_non, ↓isi_list_bl, ↓isi_list_int, ↓isi_list_str, ↓isi_list_tup, ↓isi_list_lst, ↓isi_list_dic, ↓isi_dict_non, ↓isi_dict_bl, ↓isi_dict_int, ↓isi_dict_str, ↓isi_dict_tup, ↓isi_dict_lst, ↓isi_dict_dic, ↓ixt0, ↓ixt1, ↓ixt2, ↓ixt3, ↓ixt4, ↓ixt5, ↓ixt6, ↓ixt7, ↓ixt8, ↓ixl0, ↓ixl1, ↓ixl2, ↓ixl3, ↓ixl4, ↓ixl5, ↓ixl6, ↓ixl7, ↓ixl8, ↓FX.gp0, ↓FX.gp1, ↓FX.gp2, ↓FX.gp3, ↓FX.gp4, ↓FX.gp5, ↓FX.gp6, ↓FX.gp7, ↓FX.gp8, ↓FX.gp9, ↓FX.gp10, ↓FX.gp11, ↓FX.gp12, ↓FX.gp13, ↓FX.gp14, ↓FX.gp15, ↓FX.gp16, ↓FX.gp17, ↓FX.gp18, ↓FX.gp19, ↓FX.gp20, ↓FX.gp21, ↓FX.gp22, ↓FX.gp23, ↓FX.gp24, ↓FX.gp25, ↓FX.gp26, ↓FX.gp27, ↓FX.gp28, ↓FX.gp29, ↓FX.gp30, ↓FX.gp31, ↓FX.gp32, ↓FX.gp33, ↓FX.sp0, ↓FX.sp1, ↓FX.sp2, ↓FX.sp3, ↓FX.sp4, ↓FX.sp5, ↓FX.sp6, ↓FX.sp7, ↓FX.sp8, ↓FX.sp9, ↓FX.sp10, ↓FX.sp11, ↓FX.sp12, ↓FX.sp13, ↓FX.sp14, ↓FX.sp15, ↓FX.sp16, ↓FX.sp17, ↓FX.sp18, ↓FX.sp19, ↓FX.sp20, ↓FX.sp21, ↓FX.sp22, ↓FX.sp23, ↓FX.sp24, ↓FX.sp25, ↓FX.sp26, ↓FX.sp27, ↓FX.sp28, ↓FX.sp29, ↓FX.sp30, ↓FX.sp31, ↓FX.sp32, ↓FX.sp33, ↓FX.hp0, ↓FX.hp1, ↓FX.hp2, ↓FX.hp3, ↓FX.hp4, ↓FX.wp0, ↓FX.wp1, ↓FX.wp2, ↓FX.wp3, ↓FX.wp4, end_rt, end_nx, ↓tgQ_eq, Bool.not_true, Bool.not_false, and_self, and_true, true_and, ↓op_isx G.i_NoNumber G.k_NoNumber_NoNumber]
  obtain ⟨_, hc7, a7, u, hu, rfl, g7⟩ := (some_ok G g6 (ds := [.non, .int (-1), .int 2, .bl true, .str "1", .tup [.int 1]]) (by simp) (by simp)).ex
  refine Eq.mpr (foP_of a7) ?_
  try simp -implicitDefEqProofs (disch := omega) only [↓wp_bnd, ↓wp_ret, ↓wp_vV, ↓wp_vB, ↓wp_vL, ↓wp_hix, ↓wp_b1, ↓wp_b2, ↓wp_ifM, ↓wp_notM, ↓wp_andM, ↓wp_orM, ↓wp_asB, ↓wp_asI, ↓wp_notV, ↓wp_andV, ↓wp_orV, ↓wp_sq0, ↓wp_sq, ↓wp_tupM, ↓wp_frz, ↓wp_chM, ↓wp_sqS, ↓wp_seV, ↓wp_seL, ↓wp_asM, ↓wp_paM, ↓wp_paM3, ↓wp_paR2, ↓wp_paR3, ↓wp_rvM, ↓wp_rlM, ↓rv_v, ↓rv_l, ↓wp_shM, ↓wp_apM, ↓wp_exM, ↓wp_siM, ↓wp_clV, ↓wp_clL, ↓wp_hdM, ↓wp_chV, ↓wp_chL, ↓wp_itM, ↓wp_itA, ↓wp_rg1M, ↓wp_rg2M, ↓wp_zpM, ↓wp_enM, ↓wp_isiM, ↓wp_someM, ↓wp_sl3, ↓wp_frM, ↓wp_lc, ↓wp_agM, ↓wipP1, ↓wipP2, ↓wipP3, ↓bacP1, ↓bacP2, ↓bacP3, ↓spK0, ↓spK1, ↓spK2, ↓foP_ret, ↓rdP_v, ↓rdP_l, ↓lsP_l, ↓blP_bl, ↓inP_int, ↓vlP_val, ↓vlP_own, ↓hdP_hnd, ↓sqP_lst, ↓sqP_tup, ↓sqP_scr, ↓saP_lst, ↓saP_tup, ↓saP_rng, ↓ctP_nx, ↓ctP_rt, ↓ctP_bk, ↓ctP_ct, ↓lpP_nx, ↓lpP_ct, ↓lpP_bk, ↓lpP_rt, ↓zpP_lst, ↓zpP_tup, ↓enP_lst, ↓exP_lst, ↓tgP_V, ↓tgP_T, ↓tgsP_nil, ↓tgsP_cons, ↓rgP_ok, ↓iteP_true, ↓iteP_false, ↓iteP_t, ↓iteP_f, ↓iteP_nt, ↓iteP_nf, ↓hhP_eq, ↓opP_some, ↓pAdd, ↓pSub, ↓pNeg, ↓pMulR, ↓pMulL, ↓pMod, ↓pDiv, ↓p1018, ↓pLt, ↓pLe, ↓pGt, ↓pGe, ↓pOpB, ↓pEq, ↓pNe, ↓pIs0, ↓pIs1, ↓pIs2, ↓pIs3, ↓pIs4, ↓pIn0, ↓pIn1, ↓pIn2, ↓pIn3, ↓pIn4, ↓pLen1, ↓pLen2, ↓pLen3, ↓pInt, ↓pAbs, ↓pTup1, ↓pTup2, ↓pLst1, ↓pLst2, ↓pLst3, ↓pRng, ↓pSl1, ↓pSl2, ↓pSl3, ↓isi_int_non, ↓isi_int_bl, ↓isi_int_int, ↓isi_int_str, ↓isi_int_tup, ↓isi_int_lst, ↓isi_int_dic, ↓isi_bool_non, ↓isi_bool_bl, ↓isi_bool_int, ↓isi_bool_str, ↓isi_bool_tup, ↓isi_bool_lst, ↓isi_bool_dic, ↓isi_str_non, ↓isi_str_bl, ↓isi_str_int, ↓isi_str_str, ↓isi_str_tup, ↓isi_str_lst, ↓isi_str_dic, ↓isi_tuple_non, ↓isi_tuple_bl, ↓isi_tuple_int, ↓isi_tuple_str, ↓isi_tuple_tup, ↓isi_tuple_lst, ↓isi_tuple_dic, ↓isi_list_non, ↓isi_list_bl, ↓isi_list_int, ↓isi_list_str, ↓isi_list_tup, ↓isi_list_lst, ↓isi_list_dic, ↓isi_dict_non, ↓isi_dict_bl, ↓isi_dict_int, ↓isi_dict_str, ↓isi_dict_tup, ↓isi_dict_lst, ↓isi_dict_dic, ↓ixt0, ↓ixt1, ↓ixt2, ↓ixt3, ↓ixt4, ↓ixt5, ↓ixt6, ↓ixt7, ↓ixt8, ↓ixl0, ↓ixl1, ↓ixl2, ↓ixl3, ↓ixl4, ↓ixl5, ↓ixl6, ↓ixl7, ↓ixl8, ↓FX.gp0, ↓FX.gp1, ↓FX.gp2, ↓FX.gp3, ↓FX.gp4, ↓FX.gp5, ↓FX.gp6, ↓FX.gp7, ↓FX.gp8, ↓FX.gp9, ↓FX.gp10, ↓FX.gp11, ↓FX.gp12, ↓FX.gp13, ↓FX.gp14, ↓FX.gp15, ↓FX.gp16, ↓FX.gp17, ↓FX.gp18, ↓FX.gp19, ↓FX.gp20, ↓FX.gp21, ↓FX.gp22, ↓FX.gp23, ↓FX.gp24, ↓FX.gp25, ↓FX.gp26, ↓FX.gp27, ↓FX.gp28, ↓FX.gp29, ↓FX.gp30, ↓FX.gp31, ↓FX.gp32, ↓FX.gp33, ↓FX.sp0, ↓FX.sp1, ↓FX.sp2, ↓FX.sp3, ↓FX.sp4, ↓FX.sp5, ↓FX.sp6, ↓FX.sp7, ↓FX.sp8, ↓FX.sp9, ↓FX.sp10, ↓FX.sp11, ↓FX.sp12, ↓FX.sp13, ↓FX.sp14, ↓FX.sp15, ↓FX.sp16, ↓FX.sp17, ↓FX.sp18, ↓FX.sp19, ↓FX.sp20, ↓FX.sp21, ↓FX.sp22, ↓FX.sp23, ↓FX.sp24, ↓FX.sp25, ↓FX.sp26, ↓FX.sp27, ↓FX.sp28, ↓FX.sp29, ↓FX.sp30, ↓FX.sp31, ↓FX.sp32, ↓FX.sp33, ↓FX.hp0, ↓FX.hp1, ↓FX.hp2, ↓FX.hp3, ↓FX.hp4, ↓FX.wp0, ↓FX.wp1, ↓FX.wp2, ↓FX.wp3, ↓FX.wp4, end_rt, end_nx, ↓tgQ_eq, Bool.not_true, Bool.not_false, and_self, and_true, true_and]
  refine Eq.mpr (wp_lam G (C := G.x_NoPlace.C) (clV_exc rfl (no2 G u hu)) G.e_NoPlace_RoundError) ?_
  simp -implicitDefEqProofs (disch := omega) only [↓wp_bnd, ↓wp_ret, ↓wp_vV, ↓wp_vB, ↓wp_vL, ↓wp_hix, ↓wp_b1, ↓wp_b2, ↓wp_ifM, ↓wp_notM, ↓wp_andM, ↓wp_orM, ↓wp_asB, ↓wp_asI, ↓wp_notV, ↓wp_andV, ↓wp_orV, ↓wp_sq0, ↓wp_sq, ↓wp_tupM, ↓wp_frz, ↓wp_chM, ↓wp_sqS, ↓wp_seV, ↓wp_seL, ↓wp_asM, ↓wp_paM, ↓wp_paM3, ↓wp_paR2, ↓wp_paR3, ↓wp_rvM, ↓wp_rlM, ↓rv_v, ↓rv_l, ↓wp_shM, ↓wp_apM, ↓wp_exM, ↓wp_siM, ↓wp_clV, ↓wp_clL, ↓wp_hdM, ↓wp_chV, ↓wp_chL, ↓wp_itM, ↓wp_itA, ↓wp_rg1M, ↓wp_rg2M, ↓wp_zpM, ↓wp_enM, ↓wp_isiM, ↓wp_someM, ↓wp_sl3, ↓wp_frM, ↓wp_lc, ↓wp_agM, ↓wipP1, ↓wipP2, ↓wipP3, ↓bacP1, ↓bacP2, ↓bacP3, ↓spK0, ↓spK1, ↓spK2, ↓foP_ret, ↓rdP_v, ↓rdP_l, ↓lsP_l, ↓blP_bl, ↓inP_int, ↓vlP_val, ↓vlP_own, ↓hdP_hnd, ↓sqP_lst, ↓sqP_tup, ↓sqP_scr, ↓saP_lst, ↓saP_tup, ↓saP_rng, ↓ctP_nx, ↓ctP_rt, ↓ctP_bk, ↓ctP_ct, ↓lpP_nx, ↓lpP_ct, ↓lpP_bk, ↓lpP_rt, ↓zpP_lst, ↓zpP_tup, ↓enP_lst, ↓exP_lst, ↓tgP_V, ↓tgP_T, ↓tgsP_nil, ↓tgsP_cons, ↓rgP_ok, ↓iteP_true, ↓iteP_false, ↓iteP_t, ↓iteP_f, ↓iteP_nt, ↓iteP_nf, ↓hhP_eq, ↓opP_some, ↓pAdd, ↓pSub, ↓pNeg, ↓pMulR, ↓pMulL, ↓pMod, ↓pDiv, ↓p1018, ↓pLt, ↓pLe, ↓pGt, ↓pGe, ↓pOpB, ↓pEq, ↓pNe, ↓pIs0, ↓pIs1, ↓pIs2, ↓pIs3, ↓pIs4, ↓pIn0, ↓pIn1, ↓pIn2, ↓pIn3, ↓pIn4, ↓pLen1, ↓pLen2, ↓pLen3, ↓pInt, ↓pAbs, ↓pTup1, ↓pTup2, ↓pLst1, ↓pLst2, ↓pLst3, ↓pRng, ↓pSl1, ↓pSl2, ↓pSl3, ↓isi_int_non, ↓isi_int_bl, ↓isi_int_int, ↓isi_int_str, ↓isi_int_tup, ↓isi_int_lst, ↓isi_int_dic, ↓isi_bool_non, ↓isi_bool_bl, ↓isi_bool_int, ↓isi_bool_str, ↓isi_bool_tup, ↓isi_bool_lst, ↓isi_bool_dic, ↓isi_str_non, ↓isi_str_bl, ↓isi_str_int, ↓isi_str_str, ↓isi_str_tup, ↓isi_str_lst, ↓isi_str_dic, ↓isi_tuple_non, ↓isi_tuple_bl, ↓isi_tuple_int, ↓isi_tuple_str, ↓isi_tuple_tup, ↓isi_tuple_lst, ↓isi_tuple_dic, ↓isi_list_non, ↓isi_list_bl, ↓isi_list_int, ↓isi_list_str, ↓isi_list_tup, ↓isi_list_lst, ↓isi_list_dic, ↓isi_dict_non, ↓isi_dict_bl, ↓isi_dict_int, ↓isi_dict_str, ↓isi_dict_tup, ↓isi_dict_lst, ↓isi_dict_dic, ↓ixt0, ↓ixt1, ↓ixt2, ↓ixt3, ↓ixt4, ↓ixt5, ↓ixt6, ↓ixt7, ↓ixt8, ↓ixl0, ↓ixl1, ↓ixl2, ↓ixl3, ↓ixl4, ↓ixl5, ↓ixl6, ↓ixl7, ↓ixl8, ↓FX.gp0, ↓FX.gp1, ↓FX.gp2, ↓FX.gp3, ↓FX.gp4, ↓FX.gp5, ↓FX.gp6, ↓FX.gp7, ↓FX.gp8, ↓FX.gp9, ↓FX.gp10, ↓FX.gp11, ↓FX.gp12, ↓FX.gp13, ↓FX.gp14, ↓FX.gp15, ↓FX.gp16, ↓FX.gp17, ↓FX.gp18, ↓FX.gp19, ↓FX.gp20, ↓FX.gp21, ↓FX.gp22, ↓FX.gp23, ↓FX.gp24, ↓FX.gp25, ↓FX.gp26, ↓FX.gp27, ↓FX.gp28, ↓FX.gp29, ↓FX.gp30, ↓FX.gp31, ↓FX.gp32, ↓FX.gp33, ↓FX.sp0, ↓FX.sp1, ↓FX.sp2, ↓FX.sp3, ↓FX.sp4, ↓FX.sp5, ↓FX.sp6, ↓FX.sp7, ↓FX.sp8, ↓FX.sp9, ↓FX.sp10, ↓FX.sp11, ↓FX.sp12, ↓FX.sp13, ↓FX.sp14, ↓FX.sp15, ↓FX.sp16, ↓FX.sp17, ↓FX.sp18, ↓FX.sp19, ↓FX.sp20, ↓FX.sp21, ↓FX.sp22, ↓FX.sp23, ↓FX.sp24, ↓FX.sp25, ↓FX.sp26, ↓FX.sp27, ↓FX.sp28, ↓FX.sp29, ↓FX.sp30, ↓FX.sp31, ↓FX.sp32, ↓FX.sp33, ↓FX.hp0, ↓FX.hp1, ↓FX.hp2, ↓FX.hp3, ↓FX.hp4, ↓FX.wp0, ↓FX.wp1, ↓FX.wp2, ↓FX.wp3, ↓FX.wp4, end_rt, end_nx, ↓tgQ_eq, Bool.not_true, Bool.not_false, and_self, and_true, true_and, ↓op_isx G.i_NoPlace G.k_NoPlace_NoPlace]
  refine Eq.mpr (wp_lam G (C := G.x_NoPlace.C) (clV_exc rfl (no3 G u hu)) G.e_NoPlace_RoundError) ?_
  simp -implicitDefEqProofs (disch := omega) only [↓wp_bnd, ↓wp_ret, ↓wp_vV, ↓wp_vB, ↓wp_vL, ↓wp_hix, ↓wp_b1, ↓wp_b2, ↓wp_ifM, ↓wp_notM, ↓wp_andM, ↓wp_orM, ↓wp_asB, ↓wp_asI, ↓wp_notV, ↓wp_andV, ↓wp_orV, ↓wp_sq0, ↓wp_sq, ↓wp_tupM, ↓wp_frz, ↓wp_chM, ↓wp_sqS, ↓wp_seV, ↓wp_seL, ↓wp_asM, ↓wp_paM, ↓wp_paM3, ↓wp_paR2, ↓wp_paR3, ↓wp_rvM, ↓wp_rlM, ↓rv_v, ↓rv_l, ↓wp_shM, ↓wp_apM, ↓wp_exM, ↓wp_siM, ↓wp_clV, ↓wp_clL, ↓wp_hdM, ↓wp_chV, ↓wp_chL, ↓wp_itM, ↓wp_itA, ↓wp_rg1M, ↓wp_rg2M, ↓wp_zpM, ↓wp_enM, ↓wp_isiM, ↓wp_someM, ↓wp_sl3, ↓wp_frM, ↓wp_lc, ↓wp_agM, ↓wipP1, ↓wipP2, ↓wipP3, ↓bacP1, ↓bacP2, ↓bacP3, ↓spK0, ↓spK1, ↓spK2, ↓foP_ret, ↓rdP_v, ↓rdP_l, ↓lsP_l, ↓blP_bl, ↓inP_int, ↓vlP_val, ↓vlP_own, ↓hdP_hnd, ↓sqP_lst, ↓sqP_tup, ↓sqP_scr, ↓saP_lst, ↓saP_tup, ↓saP_rng, ↓ctP_nx, ↓ctP_rt, ↓ctP_bk, ↓ctP_ct, ↓lpP_nx, ↓lpP_ct, ↓lpP_bk, ↓lpP_rt, ↓zpP_lst, ↓zpP_tup, ↓enP_lst, ↓exP_lst, ↓tgP_V, ↓tgP_T, ↓tgsP_nil, ↓tgsP_cons, ↓rgP_ok, ↓iteP_true, ↓iteP_false, ↓iteP_t, ↓iteP_f, ↓iteP_nt, ↓iteP_nf, ↓hhP_eq, ↓opP_some, ↓pAdd, ↓pSub, ↓pNeg, ↓pMulR, ↓pMulL, ↓pMod, ↓pDiv, ↓p1018, ↓pLt, ↓pLe, ↓pGt, ↓pGe, ↓pOpB, ↓pEq, ↓pNe, ↓pIs0, ↓pIs1, ↓pIs2, ↓pIs3, ↓pIs4, ↓pIn0, ↓pIn1, ↓pIn2, ↓pIn3, ↓pIn4, ↓pLen1, ↓pLen2, ↓pLen3, ↓pInt, ↓pAbs, ↓pTup1, ↓pTup2, ↓pLst1, ↓pLst2, ↓pLst3, ↓pRng, ↓pSl1, ↓pSl2, ↓pSl3, ↓isi_int_non, ↓isi_int_bl, ↓isi_int_int, ↓isi_int_str, ↓isi_int_tup, ↓isi_int_lst, ↓isi_int_dic, ↓isi_bool_non, ↓isi_bool_bl, ↓isi_bool_int, ↓isi_bool_str, ↓isi_bool_tup, ↓isi_bool_lst, ↓isi_bool_dic, ↓isi_str_non, ↓isi_str_bl, ↓isi_str_int, ↓isi_str_str, ↓isi_str_tup, ↓isi_str_lst, ↓isi_str_dic, ↓isi_tuple_non, ↓isi_tuple_bl, ↓isi_tuple_int, ↓isi_tuple_str, ↓isi_tuple_tup, ↓isi_tuple_lst, ↓isi_tuple_dic, ↓isi_list_non, ↓isi_list_bl, ↓isi_list_int, ↓isi_list_str, ↓isi_list_tup, ↓isi_list_lst, ↓isi_list_dic, ↓isi_dict_non, ↓isi_dict_bl, ↓isi_dict_int, ↓isi_dict_str, ↓isi_dict_tup, ↓isi_dict_lst, ↓isi_dict_dic, ↓ixt0, ↓ixt1, ↓ixt2, ↓ixt3, ↓ixt4, ↓ixt5, ↓ixt6, ↓ixt7, ↓ixt8, ↓ixl0, ↓ixl1, ↓ixl2, ↓ixl3, ↓ixl4, ↓ixl5, ↓ixl6, ↓ixl7, ↓ixl8, ↓FX.gp0, ↓FX.gp1, ↓FX.gp2, ↓FX.gp3, ↓FX.gp4, ↓FX.gp5, ↓FX.gp6, ↓FX.gp7, ↓FX.gp8, ↓FX.gp9, ↓FX.gp10, ↓FX.gp11, ↓FX.gp12, ↓FX.gp13, ↓FX.gp14, ↓FX.gp15, ↓FX.gp16, ↓FX.gp17, ↓FX.gp18, ↓FX.gp19, ↓FX.gp20, ↓FX.gp21, ↓FX.gp22, ↓FX.gp23, ↓FX.gp24, ↓FX.gp25, ↓FX.gp26, ↓FX.gp27, ↓FX.gp28, ↓FX.gp29, ↓FX.gp30, ↓FX.gp31, ↓FX.gp32, ↓FX.gp33, ↓FX.sp0, ↓FX.sp1, ↓FX.sp2, ↓FX.sp3, ↓FX.sp4, ↓FX.sp5, ↓FX.sp6, ↓FX.sp7, ↓FX.sp8, ↓FX.sp9, ↓FX.sp10, ↓FX.sp11, ↓FX.sp12, ↓FX.sp13, ↓FX.sp14, ↓FX.sp15, ↓FX.sp16, ↓FX.sp17, ↓FX.sp18, ↓FX.sp19, ↓FX.sp20, ↓FX.sp21, ↓FX.sp22, ↓FX.sp23, ↓FX.sp24, ↓FX.sp25, ↓FX.sp26, ↓FX.sp27, ↓FX.sp28, ↓FX.sp29, ↓FX.sp30, ↓FX.sp31, ↓FX.sp32, ↓FX.sp33, ↓FX.hp0, ↓FX.hp1, ↓FX.hp2, ↓FX.hp3, ↓FX.hp4, ↓FX.wp0, ↓FX.wp1, ↓FX.wp2, ↓FX.wp3, ↓FX.wp4, end_rt, end_nx, ↓tgQ_eq, Bool.not_true, Bool.not_false, and_self, and_true, true_and, ↓op_isx G.i_NoPlace G.k_NoPlace_NoPlace]
  obtain ⟨_, hc8, a8, v, hv, rfl, g8⟩ := (some_ok G g7 (ds := [.non, .int (-1), .int 6, .bl true, .str "1", .tup [.int 1]]) (by simp) (by simp)).ex
  refine Eq.mpr (foP_of a8) ?_
  try simp -implicitDefEqProofs (disch := omega) only [↓wp_bnd, ↓wp_ret, ↓wp_vV, ↓wp_vB, ↓wp_vL, ↓wp_hix, ↓wp_b1, ↓wp_b2, ↓wp_ifM, ↓wp_notM, ↓wp_andM, ↓wp_orM, ↓wp_asB, ↓wp_asI, ↓wp_notV, ↓wp_andV, ↓wp_orV, ↓wp_sq0, ↓wp_sq, ↓wp_tupM, ↓wp_frz, ↓wp_chM, ↓wp_sqS, ↓wp_seV, ↓wp_seL, ↓wp_asM, ↓wp_paM, ↓wp_paM3, ↓wp_paR2, ↓wp_paR3, ↓wp_rvM, ↓wp_rlM, ↓rv_v, ↓rv_l, ↓wp_shM, ↓wp_apM, ↓wp_exM, ↓wp_siM, ↓wp_clV, ↓wp_clL, ↓wp_hdM, ↓wp_chV, ↓wp_chL, ↓wp_itM, ↓wp_itA, ↓wp_rg1M, ↓wp_rg2M, ↓wp_zpM, ↓wp_enM, ↓wp_isiM, ↓wp_someM, ↓wp_sl3, ↓wp_frM, ↓wp_lc, ↓wp_agM, ↓wipP1, ↓wipP2, ↓wipP3, ↓bacP1, ↓bacP2, ↓bacP3, ↓spK0, ↓spK1, ↓spK2, ↓foP_ret, ↓rdP_v, ↓rdP_l, ↓lsP_l, ↓blP_bl, ↓inP_int, ↓vlP_val, ↓vlP_own, ↓hdP_hnd, ↓sqP_lst, ↓sqP_tup, ↓sqP_scr, ↓saP_lst, ↓saP_tup, ↓saP_rng, ↓ctP_nx, ↓ctP_rt, ↓ctP_bk, ↓ctP_ct, ↓lpP_nx, ↓lpP_ct, ↓lpP_bk, ↓lpP_rt, ↓zpP_lst, ↓zpP_tup, ↓enP_lst, ↓exP_lst, ↓tgP_V, ↓tgP_T, ↓tgsP_nil, ↓tgsP_cons, ↓rgP_ok, ↓iteP_true, ↓iteP_false, ↓iteP_t, ↓iteP_f, ↓iteP_nt, ↓iteP_nf, ↓hhP_eq, ↓opP_some, ↓pAdd, ↓pSub, ↓pNeg, ↓pMulR, ↓pMulL, ↓pMod, ↓pDiv, ↓p1018, ↓pLt, ↓pLe, ↓pGt, ↓pGe, ↓pOpB, ↓pEq, ↓pNe, ↓pIs0, ↓pIs1, ↓pIs2, ↓pIs3, ↓pIs4, ↓pIn0, ↓pIn1, ↓pIn2, ↓pIn3, ↓pIn4, ↓pLen1, ↓pLen2, ↓pLen3, ↓pInt, ↓pAbs, ↓pTup1, ↓pTup2, ↓pLst1, ↓pLst2, ↓pLst3, ↓pRng, ↓pSl1, ↓pSl2, ↓pSl3, ↓isi_int_non, ↓isi_int_bl, ↓isi_int_int, ↓isi_int_str, ↓isi_int_tup, ↓isi_int_lst, ↓isi_int_dic, ↓isi_bool_non, ↓isi_bool_bl, ↓isi_bool_int, ↓isi_bool_str, ↓isi_bool_tup, ↓isi_bool_lst, ↓isi_bool_dic, ↓isi_str_non, ↓isi_str_bl, ↓isi_str_int, ↓isi_str_str, ↓isi_str_tup, ↓isi_str_lst, ↓isi_str_dic, ↓isi_tuple_non, ↓isi_tuple_bl, ↓isi_tuple_int, ↓isi_tuple_str, ↓isi_tuple_tup, ↓isi_tuple_lst, ↓isi_tuple_dic, ↓isi_list_non, ↓isi_list_bl, ↓isi_list_int, ↓isi_list_str, ↓isi_list_tup, ↓isi_list_lst, ↓isi_list_dic, ↓isi_dict_non, ↓isi_dict_bl, ↓isi_dict_int, ↓isi_dict_str, ↓isi_dict_tup, ↓isi_dict_lst, ↓isi_dict_dic, ↓ixt0, ↓ixt1, ↓ixt2, ↓ixt3, ↓ixt4, ↓ixt5, ↓ixt6, ↓ixt7, ↓ixt8, ↓ixl0, ↓ixl1, ↓ixl2, ↓ixl3, ↓ixl4, ↓ixl5, ↓ixl6, ↓ixl7, ↓ixl8, ↓FX.gp0, ↓FX.gp1, ↓FX.gp2, ↓FX.gp3, ↓FX.gp4, ↓FX.gp5, ↓FX.gp6, ↓FX.gp7, ↓FX.gp8, ↓FX.gp9, ↓FX.gp10, ↓FX.gp11, ↓FX.gp12, ↓FX.gp13, ↓FX.gp14, ↓FX.gp15, ↓FX.gp16, ↓FX.gp17, ↓FX.gp18, ↓FX.gp19, ↓FX.gp20, ↓FX.gp21, ↓FX.gp22, ↓FX.gp23, ↓FX.gp24, ↓FX.gp25, ↓FX.gp26, ↓FX.gp27, ↓FX.gp28, ↓FX.gp29, ↓FX.gp30, ↓FX.gp31, ↓FX.gp32, ↓FX.gp33, ↓FX.sp0, ↓FX.sp1, ↓FX.sp2, ↓FX.sp3, ↓FX.sp4, ↓FX.sp5, ↓FX.sp6, ↓FX.sp7, ↓FX.sp8, ↓FX.sp9, ↓FX.sp10, ↓FX.sp11, ↓FX.sp12, ↓FX.sp13, ↓FX.sp14, ↓FX.sp15, ↓FX.sp16, ↓FX.sp17, ↓FX.sp18, ↓FX.sp19, ↓FX.sp20, ↓FX.sp21, ↓FX.sp22, ↓FX.sp23, ↓FX.sp24, ↓FX.sp25, ↓FX.sp26, ↓FX.sp27, ↓FX.sp28, ↓FX.sp29, ↓FX.sp30, ↓FX.sp31, ↓FX.sp32, ↓FX.sp33, ↓FX.hp0, ↓FX.hp1, ↓FX.hp2, ↓FX.hp3, ↓FX.hp4, ↓FX.wp0, ↓FX.wp1, ↓FX.wp2, ↓FX.wp3, ↓FX.wp4, end_rt, end_nx, ↓tgQ_eq, Bool.not_true, Bool.not_false, and_self, and_true, true_and]
  refine Eq.mpr (wp_lam G (C := G.x_NoNumber.C) (clV_exc rfl (no4 G v hv)) G.e_NoNumber_RoundError) ?_
  simp -implicitDefEqProofs (disch := omega) only [↓wp_bnd, ↓wp_ret, ↓wp_vV, ↓wp_vB, ↓wp_vL, ↓wp_hix, ↓wp_b1, ↓wp_b2, ↓wp_ifM, ↓wp_notM, ↓wp_andM, ↓wp_orM, ↓wp_asB, ↓wp_asI, ↓wp_notV, ↓wp_andV, ↓wp_orV, ↓wp_sq0, ↓wp_sq, ↓wp_tupM, ↓wp_frz, ↓wp_chM, ↓wp_sqS, ↓wp_seV, ↓wp_seL, ↓wp_asM, ↓wp_paM, ↓wp_paM3, ↓wp_paR2, ↓wp_paR3, ↓wp_rvM, ↓wp_rlM, ↓rv_v, ↓rv_l, ↓wp_shM, ↓wp_apM, ↓wp_exM, ↓wp_siM, ↓wp_clV, ↓wp_clL, ↓wp_hdM, ↓wp_chV, ↓wp_chL, ↓wp_itM, ↓wp_itA, ↓wp_rg1M, ↓wp_rg2M, ↓wp_zpM, ↓wp_enM, ↓wp_isiM, ↓wp_someM, ↓wp_sl3, ↓wp_frM, ↓wp_lc, ↓wp_agM, ↓wipP1, ↓wipP2, ↓wipP3, ↓bacP1, ↓bacP2, ↓bacP3, ↓spK0, ↓spK1, ↓spK2, ↓foP_ret, ↓rdP_v, ↓rdP_l, ↓lsP_l, ↓blP_bl, ↓inP_int, ↓vlP_val, ↓vlP_own, ↓hdP_hnd, ↓sqP_lst, ↓sqP_tup, ↓sqP_scr, ↓saP_lst, ↓saP_tup, ↓saP_rng, ↓ctP_nx, ↓ctP_rt, ↓ctP_bk, ↓ctP_ct, ↓lpP_nx, ↓lpP_ct, ↓lpP_bk, ↓lpP_rt, ↓zpP_lst, ↓zpP_tup, ↓enP_lst, ↓exP_lst, ↓tgP_V, ↓tgP_T, ↓tgsP_nil, ↓tgsP_cons, ↓rgP_ok, ↓iteP_true, ↓iteP_false, ↓iteP_t, ↓iteP_f, ↓iteP_nt, ↓iteP_nf, ↓hhP_eq, ↓opP_some, ↓pAdd, ↓pSub, ↓pNeg, ↓pMulR, ↓pMulL, ↓pMod, ↓pDiv, ↓p1018, ↓pLt, ↓pLe, ↓pGt, ↓pGe, ↓pOpB, ↓pEq, ↓pNe, ↓pIs0, ↓pIs1, ↓pIs2, ↓pIs3, ↓pIs4, ↓pIn0, ↓pIn1, ↓pIn2, ↓pIn3, ↓pIn4, ↓pLen1, ↓pLen2, ↓pLen3, ↓pInt, ↓pAbs, ↓pTup1, ↓pTup2, ↓pLst1, ↓pLst2, ↓pLst3, ↓pRng, ↓pSl1, ↓pSl2, ↓pSl3, ↓isi_int_non, ↓isi_int_bl, ↓isi_int_int, ↓isi_int_str, ↓isi_int_tup, ↓isi_int_lst, ↓isi_int_dic, ↓isi_bool_non, ↓isi_bool_bl, ↓isi_bool_int, ↓isi_bool_str, ↓isi_bool_tup, ↓isi_bool_lst, ↓isi_bool_dic, ↓isi_str_non, ↓isi_str_bl, ↓isi_str_int, ↓isi_str_str, ↓isi_str_tup, ↓isi_str_lst, ↓isi_str_dic, ↓isi_tuple_non, ↓isi_tuple_bl, ↓isi_tuple_int, ↓isi_tuple_str, ↓isi_tuple_tup, ↓isi_tuple_lst, ↓isi_tuple_dic, ↓isi_list_non, ↓isi_list_bl, ↓isi_list_int, ↓isi_list_str, ↓isi_list_tup, ↓isi_list_lst, ↓isi_list_dic, ↓isi_dict_non, ↓isi_dict_bl, ↓isi_dict_int, ↓isi_dict_str, ↓isi_dict_tup, ↓isi_dict_lst, ↓isi_dict_dic, ↓ixt0, ↓ixt1, ↓ixt2, ↓ixt3, ↓ixt4, ↓ixt5, ↓ixt6, ↓ixt7, ↓ixt8, ↓ixl0, ↓ixl1, ↓ixl2, ↓ixl3, ↓ixl4, ↓ixl5, ↓ixl6, ↓ixl7, ↓ixl8, ↓FX.gp0, ↓FX.gp1, ↓FX.gp2, ↓FX.gp3, ↓FX.gp4, ↓FX.gp5, ↓FX.gp6, ↓FX.gp7, ↓FX.gp8, ↓FX.gp9, ↓FX.gp10, ↓FX.gp11, ↓FX.gp12, ↓FX.gp13, ↓FX.gp14, ↓FX.gp15, ↓FX.gp16, ↓FX.gp17, ↓FX.gp18, ↓FX.gp19, ↓FX.gp20, ↓FX.gp21, ↓FX.gp22, ↓FX.gp23, ↓FX.gp24, ↓FX.gp25, ↓FX.gp26, ↓FX.gp27, ↓FX.gp28, ↓FX.gp29, ↓FX.gp30, ↓FX.gp31, ↓FX.gp32, ↓FX.gp33, ↓FX.sp0, ↓FX.sp1, ↓FX.sp2, ↓FX.sp3, ↓FX.sp4, ↓FX.sp5, ↓FX.sp6, ↓FX.sp7, ↓FX.sp8, ↓FX.sp9, ↓FX.sp10, ↓FX.sp11, ↓FX.sp12, ↓FX.sp13, ↓FX.sp14, ↓FX.sp15, ↓FX.sp16, ↓FX.sp17, ↓FX.sp18, ↓FX.sp19, ↓FX.sp20, ↓FX.sp21, ↓FX.sp22, ↓FX.sp23, ↓FX.sp24, ↓FX.sp25, ↓FX.sp26, ↓FX.sp27, ↓FX.sp28, ↓FX.sp29, ↓FX.sp30, ↓FX.sp31, ↓FX.sp32, ↓FX.sp33, ↓FX.hp0, ↓FX.hp1, ↓FX.hp2, ↓FX.hp3, ↓FX.hp4, ↓FX.wp0, ↓FX.wp1, ↓FX.wp2, ↓FX.wp3, ↓FX.wp4, end_rt, end_nx, ↓tgQ_eq, Bool.not_true, Bool.not_false, and_self, and_true, true_and, ↓op_isx G.i_NoNumber G.k_NoNumber_NoNumber]
  obtain ⟨_, hc9, a9, w, hw, rfl, g9⟩ := (some_ok G g8 (ds := [.non, .int (-1), .bl true, .str "1", .tup [.int 1]]) (by simp) (by simp)).ex
  refine Eq.mpr (foP_of a9) ?_
  try simp -implicitDefEqProofs (disch := omega) only [↓wp_bnd, ↓wp_ret, ↓wp_vV, ↓wp_vB, ↓wp_vL, ↓wp_hix, ↓wp_b1, ↓wp_b2, ↓wp_ifM, ↓wp_notM, ↓wp_andM, ↓wp_orM, ↓wp_asB, ↓wp_asI, ↓wp_notV, ↓wp_andV, ↓wp_orV, ↓wp_sq0, ↓wp_sq, ↓wp_tupM, ↓wp_frz, ↓wp_chM, ↓wp_sqS, ↓wp_seV, ↓wp_seL, ↓wp_asM, ↓wp_paM, ↓wp_paM3, ↓wp_paR2, ↓wp_paR3, ↓wp_rvM, ↓wp_rlM, ↓rv_v, ↓rv_l, ↓wp_shM, ↓wp_apM, ↓wp_exM, ↓wp_siM, ↓wp_clV, ↓wp_clL, ↓wp_hdM, ↓wp_chV, ↓wp_chL, ↓wp_itM, ↓wp_itA, ↓wp_rg1M, ↓wp_rg2M, ↓wp_zpM, ↓wp_enM, ↓wp_isiM, ↓wp_someM, ↓wp_sl3, ↓wp_frM, ↓wp_lc, ↓wp_agM, ↓wipP1, ↓wipP2, ↓wipP3, ↓bacP1, ↓bacP2, ↓bacP3, ↓spK0, ↓spK1, ↓spK2, ↓foP_ret, ↓rdP_v, ↓rdP_l, ↓lsP_l, ↓blP_bl, ↓inP_int, ↓vlP_val, ↓vlP_own, ↓hdP_hnd, ↓sqP_lst, ↓sqP_tup, ↓sqP_scr, ↓saP_lst, ↓saP_tup, ↓saP_rng, ↓ctP_nx, ↓ctP_rt, ↓ctP_bk, ↓ctP_ct, ↓lpP_nx, ↓lpP_ct, ↓lpP_bk, ↓lpP_rt, ↓zpP_lst, ↓zpP_tup, ↓enP_lst, ↓exP_lst, ↓tgP_V, ↓tgP_T, ↓tgsP_nil, ↓tgsP_cons, ↓rgP_ok, ↓iteP_true, ↓iteP_false, ↓iteP_t, ↓iteP_f, ↓iteP_nt, ↓iteP_nf, ↓hhP_eq, ↓opP_some, ↓pAdd, ↓pSub, ↓pNeg, ↓pMulR, ↓pMulL, ↓pMod, ↓pDiv, ↓p1018, ↓pLt, ↓pLe, ↓pGt, ↓pGe, ↓pOpB, ↓pEq, ↓pNe, ↓pIs0, ↓pIs1, ↓pIs2, ↓pIs3, ↓pIs4, ↓pIn0, ↓pIn1, ↓pIn2, ↓pIn3, ↓pIn4, ↓pLen1, ↓pLen2, ↓pLen3, ↓pInt, ↓pAbs, ↓pTup1, ↓pTup2, ↓pLst1, ↓pLst2, ↓pLst3, ↓pRng, ↓pSl1, ↓pSl2, ↓pSl3, ↓isi_int_non, ↓isi_int_bl, ↓isi_int_int, ↓isi_int_str, ↓isi_int_tup, ↓isi_int_lst, ↓isi_int_dic, ↓isi_bool_non, ↓isi_bool_bl, ↓isi_bool_int, ↓isi_bool_str, ↓isi_bool_tup, ↓isi_bool_lst, ↓isi_bool_dic, ↓isi_str_non, ↓isi_str_bl, ↓isi_str_int, ↓isi_str_str, ↓isi_str_tup, ↓isi_str_lst, ↓isi_str_dic, ↓isi_tuple_non, ↓isi_tuple_bl, ↓isi_tuple_int, ↓isi_tuple_str, ↓isi_tuple_tup, ↓isi_tuple_lst, ↓isi_tuple_dic, ↓isi_list_non, ↓isi_list_bl, ↓isi_list_int, ↓isi_list_str, ↓isi_list_tup, ↓isi_list_lst, ↓isi_list_dic, ↓isi_dict_non, ↓isi_dict_bl, ↓isi_dict_int, ↓isi_dict_str, ↓isi_dict_tup, ↓isi_dict_lst, ↓isi_dict_dic, ↓ixt0, ↓ixt1, ↓ixt2, ↓ixt3, ↓ixt4, ↓ixt5, ↓ixt6, ↓ixt7, ↓ixt8, ↓ixl0, ↓ixl1, ↓ixl2, ↓ixl3, ↓ixl4, ↓ixl5, ↓ixl6, ↓ixl7, ↓ixl8, ↓FX.gp0, ↓FX.gp1, ↓FX.gp2, ↓FX.gp3, ↓FX.gp4, ↓FX.gp5, ↓FX.gp6, ↓FX.gp7, ↓FX.gp8, ↓FX.gp9, ↓FX.gp10, ↓FX.gp11, ↓FX.gp12, ↓FX.gp13, ↓FX.gp14, ↓FX.gp15, ↓FX.gp16, ↓FX.gp17, ↓FX.gp18, ↓FX.gp19, ↓FX.gp20, ↓FX.gp21, ↓FX.gp22, ↓FX.gp23, ↓FX.gp24, ↓FX.gp25, ↓FX.gp26, ↓FX.gp27, ↓FX.gp28, ↓FX.gp29, ↓FX.gp30, ↓FX.gp31, ↓FX.gp32, ↓FX.gp33, ↓FX.sp0, ↓FX.sp1, ↓FX.sp2, ↓FX.sp3, ↓FX.sp4, ↓FX.sp5, ↓FX.sp6, ↓FX.sp7, ↓FX.sp8, ↓FX.sp9, ↓FX.sp10, ↓FX.sp11, ↓FX.sp12, ↓FX.sp13, ↓FX.sp14, ↓FX.sp15, ↓FX.sp16, ↓FX.sp17, ↓FX.sp18, ↓FX.sp19, ↓FX.sp20, ↓FX.sp21, ↓FX.sp22, ↓FX.sp23, ↓FX.sp24, ↓FX.sp25, ↓FX.sp26, ↓FX.sp27, ↓FX.sp28, ↓FX.sp29, ↓FX.sp30, ↓FX.sp31, ↓FX.sp32, ↓FX.sp33, ↓FX.hp0, ↓FX.hp1, ↓FX.hp2, ↓FX.hp3, ↓FX.hp4, ↓FX.wp0, ↓FX.wp1, ↓FX.wp2, ↓FX.wp3, ↓FX.wp4, end_rt, end_nx, ↓tgQ_eq, Bool.not_true, Bool.not_false, and_self, and_true, true_and]
  refine Eq.mpr (wp_lam G (C := G.x_NoNumber.C) (clV_exc rfl (no5 G w hw)) G.e_NoNumber_RoundError) ?_
  simp -implicitDefEqProofs (disch := omega) only [↓wp_bnd, ↓wp_ret, ↓wp_vV, ↓wp_vB, ↓wp_vL, ↓wp_hix, ↓wp_b1, ↓wp_b2, ↓wp_ifM, ↓wp_notM, ↓wp_andM, ↓wp_orM, ↓wp_asB, ↓wp_asI, ↓wp_notV, ↓wp_andV, ↓wp_orV, ↓wp_sq0, ↓wp_sq, ↓wp_tupM, ↓wp_frz, ↓wp_chM, ↓wp_sqS, ↓wp_seV, ↓wp_seL, ↓wp_asM, ↓wp_paM, ↓wp_paM3, ↓wp_paR2, ↓wp_paR3, ↓wp_rvM, ↓wp_rlM, ↓rv_v, ↓rv_l, ↓wp_shM, ↓wp_apM, ↓wp_exM, ↓wp_siM, ↓wp_clV, ↓wp_clL, ↓wp_hdM, ↓wp_chV, ↓wp_chL, ↓wp_itM, ↓wp_itA, ↓wp_rg1M, ↓wp_rg2M, ↓wp_zpM, ↓wp_enM, ↓wp_isiM, ↓wp_someM, ↓wp_sl3, ↓wp_frM, ↓wp_lc, ↓wp_agM, ↓wipP1, ↓wipP2, ↓wipP3, ↓bacP1, ↓bacP2, ↓bacP3, ↓spK0, ↓spK1, ↓spK2, ↓foP_ret, ↓rdP_v, ↓rdP_l, ↓lsP_l, ↓blP_bl, ↓inP_int, ↓vlP_val, ↓vlP_own, ↓hdP_hnd, ↓sqP_lst, ↓sqP_tup, ↓sqP_scr, ↓saP_lst, ↓saP_tup, ↓saP_rng, ↓ctP_nx, ↓ctP_rt, ↓ctP_bk, ↓ctP_ct, ↓lpP_nx, ↓lpP_ct, ↓lpP_bk, ↓lpP_rt, ↓zpP_lst, ↓zpP_tup, ↓enP_lst, ↓exP_lst, ↓tgP_V, ↓tgP_T, ↓tgsP_nil, ↓tgsP_cons, ↓rgP_ok, ↓iteP_true, ↓iteP_false, ↓iteP_t, ↓iteP_f, ↓iteP_nt, ↓iteP_nf, ↓hhP_eq, ↓opP_some, ↓pAdd, ↓pSub, ↓pNeg, ↓pMulR, ↓pMulL, ↓pMod, ↓pDiv, ↓p1018, ↓pLt, ↓pLe, ↓pGt, ↓pGe, ↓pOpB, ↓pEq, ↓pNe, ↓pIs0, ↓pIs1, ↓pIs2, ↓pIs3, ↓pIs4, ↓pIn0, ↓pIn1, ↓pIn2, ↓pIn3, ↓pIn4, ↓pLen1, ↓pLen2, ↓pLen3, ↓pInt, ↓pAbs, ↓pTup1, ↓pTup2, ↓pLst1, ↓pLst2, ↓pLst3, ↓pRng, ↓pSl1, ↓pSl2, ↓pSl3, ↓isi_int_non, ↓isi_int_bl, ↓isi_int_int, ↓isi_int_str, ↓isi_int_tup, ↓isi_int_lst, ↓isi_int_dic, ↓isi_bool_non, ↓isi_bool_bl, ↓isi_bool_int, ↓isi_bool_str, ↓isi_bool_tup, ↓isi_bool_lst, ↓isi_bool_dic, ↓isi_str_non, ↓isi_str_bl, ↓isi_str_int, ↓isi_str_str, ↓isi_str_tup, ↓isi_str_lst, ↓isi_str_dic, ↓isi_tuple_non, ↓isi_tuple_bl, ↓isi_tuple_int, ↓isi_tuple_str, ↓isi_tuple_tup, ↓isi_tuple_lst, ↓isi_tuple_dic, ↓isi_list_non, ↓isi_list_bl, ↓isi_list_int, ↓isi_list_str, ↓isi_list_tup, ↓isi_list_lst, ↓isi_list_dic, ↓isi_dict_non, ↓isi_dict_bl, ↓isi_dict_int, ↓isi_dict_str, ↓isi_dict_tup, ↓isi_dict_lst, ↓isi_dict_dic, ↓ixt0, ↓ixt1, ↓ixt2, ↓ixt3, ↓ixt4, ↓ixt5, ↓ixt6, ↓ixt7, ↓ixt8, ↓ixl0, ↓ixl1, ↓ixl2, ↓ixl3, ↓ixl4, ↓ixl5, ↓ixl6, ↓ixl7, ↓ixl8, ↓FX.gp0, ↓FX.gp1, ↓FX.gp2, ↓FX.gp3, ↓FX.gp4, ↓FX.gp5, ↓FX.gp6, ↓FX.gp7, ↓FX.gp8, ↓FX.gp9, ↓FX.gp10, ↓FX.gp11, ↓FX.gp12, ↓FX.gp13, ↓FX.gp14, ↓FX.gp15, ↓FX.gp16, ↓FX.gp17, ↓FX.gp18, ↓FX.gp19, ↓FX.gp20, ↓FX.gp21, ↓FX.gp22, ↓FX.gp23, ↓FX.gp24, ↓FX.gp25, ↓FX.gp26, ↓FX.gp27, ↓FX.gp28, ↓FX.gp29, ↓FX.gp30, ↓FX.gp31, ↓FX.gp32, ↓FX.gp33, ↓FX.sp0, ↓FX.sp1, ↓FX.sp2, ↓FX.sp3, ↓FX.sp4, ↓FX.sp5, ↓FX.sp6, ↓FX.sp7, ↓FX.sp8, ↓FX.sp9, ↓FX.sp10, ↓FX.sp11, ↓FX.sp12, ↓FX.sp13, ↓FX.sp14, ↓FX.sp15, ↓FX.sp16, ↓FX.sp17, ↓FX.sp18, ↓FX.sp19, ↓FX.sp20, ↓FX.sp21, ↓FX.sp22, ↓FX.sp23, ↓FX.sp24, ↓FX.sp25, ↓FX.sp26, ↓FX.sp27, ↓FX.sp28, ↓FX.sp29, ↓FX.sp30, ↓FX.sp31, ↓FX.sp32, ↓FX.sp33, ↓FX.hp0, ↓FX.hp1, ↓FX.hp2, ↓FX.hp3, ↓FX.hp4, ↓FX.wp0, ↓FX.wp1, ↓FX.wp2, ↓FX.wp3, ↓FX.wp4, end_rt, end_nx, ↓tgQ_eq, Bool.not_true, Bool.not_false, and_self, and_true, true_and, ↓op_isx G.i_NoNumber G.k_NoNumber_NoNumber]
  refine Eq.mpr (foP_of (yes0 G)) ?_
  try simp -implicitDefEqProofs (disch := omega) only [↓wp_bnd, ↓wp_ret, ↓wp_vV, ↓wp_vB, ↓wp_vL, ↓wp_hix, ↓wp_b1, ↓wp_b2, ↓wp_ifM, ↓wp_notM, ↓wp_andM, ↓wp_orM, ↓wp_asB, ↓wp_asI, ↓wp_notV, ↓wp_andV, ↓wp_orV, ↓wp_sq0, ↓wp_sq, ↓wp_tupM, ↓wp_frz, ↓wp_chM, ↓wp_sqS, ↓wp_seV, ↓wp_seL, ↓wp_asM, ↓wp_paM, ↓wp_paM3, ↓wp_paR2, ↓wp_paR3, ↓wp_rvM, ↓wp_rlM, ↓rv_v, ↓rv_l, ↓wp_shM, ↓wp_apM, ↓wp_exM, ↓wp_siM, ↓wp_clV, ↓wp_clL, ↓wp_hdM, ↓wp_chV, ↓wp_chL, ↓wp_itM, ↓wp_itA, ↓wp_rg1M, ↓wp_rg2M, ↓wp_zpM, ↓wp_enM, ↓wp_isiM, ↓wp_someM, ↓wp_sl3, ↓wp_frM, ↓wp_lc, ↓wp_agM, ↓wipP1, ↓wipP2, ↓wipP3, ↓bacP1, ↓bacP2, ↓bacP3, ↓spK0, ↓spK1, ↓spK2, ↓foP_ret, ↓rdP_v, ↓rdP_l, ↓lsP_l, ↓blP_bl, ↓inP_int, ↓vlP_val, ↓vlP_own, ↓hdP_hnd, ↓sqP_lst, ↓sqP_tup, ↓sqP_scr, ↓saP_lst, ↓saP_tup, ↓saP_rng, ↓ctP_nx, ↓ctP_rt, ↓ctP_bk, ↓ctP_ct, ↓lpP_nx, ↓lpP_ct, ↓lpP_bk, ↓lpP_rt, ↓zpP_lst, ↓zpP_tup, ↓enP_lst, ↓exP_lst, ↓tgP_V, ↓tgP_T, ↓tgsP_nil, ↓tgsP_cons, ↓rgP_ok, ↓iteP_true, ↓iteP_false, ↓iteP_t, ↓iteP_f, ↓iteP_nt, ↓iteP_nf, ↓hhP_eq, ↓opP_some, ↓pAdd, ↓pSub, ↓pNeg, ↓pMulR, ↓pMulL, ↓pMod, ↓pDiv, ↓p1018, ↓pLt, ↓pLe, ↓pGt, ↓pGe, ↓pOpB, ↓pEq, ↓pNe, ↓pIs0, ↓pIs1, ↓pIs2, ↓pIs3, ↓pIs4, ↓pIn0, ↓pIn1, ↓pIn2, ↓pIn3, ↓pIn4, ↓pLen1, ↓pLen2, ↓pLen3, ↓pInt, ↓pAbs, ↓pTup1, ↓pTup2, ↓pLst1, ↓pLst2, ↓pLst3, ↓pRng, ↓pSl1, ↓pSl2, ↓pSl3, ↓isi_int_non, ↓isi_int_bl, ↓isi_int_int, ↓isi_int_str, ↓isi_int_tup, ↓isi_int_lst, ↓isi_int_dic, ↓isi_bool_non, ↓isi_bool_bl, ↓isi_bool_int, ↓isi_bool_str, ↓isi_bool_tup, ↓isi_bool_lst, ↓isi_bool_dic, ↓isi_str_non, ↓isi_str_bl, ↓isi_str_int, ↓isi_str_str, ↓isi_str_tup, ↓isi_str_lst, ↓isi_str_dic, ↓isi_tuple_non, ↓isi_tuple_bl, ↓isi_tuple_int, ↓isi_tuple_str, ↓isi_tuple_tup, ↓isi_tuple_lst, ↓isi_tuple_dic, ↓isi_list_non, ↓isi_list_bl, ↓isi_list_int, ↓isi_list_str, ↓isi_list_tup, ↓isi_list_lst, ↓isi_list_dic, ↓isi_dict_non, ↓isi_dict_bl, ↓isi_dict_int, ↓isi_dict_str, ↓isi_dict_tup, ↓isi_dict_lst, ↓isi_dict_dic, ↓ixt0, ↓ixt1, ↓ixt2, ↓ixt3, ↓ixt4, ↓ixt5, ↓ixt6, ↓ixt7, ↓ixt8, ↓ixl0, ↓ixl1, ↓ixl2, ↓ixl3, ↓ixl4, ↓ixl5, ↓ixl6, ↓ixl7, ↓ixl8, ↓FX.gp0, ↓FX.gp1, ↓FX.gp2, ↓FX.gp3, ↓FX.gp4, ↓FX.gp5, ↓FX.gp6, ↓FX.gp7, ↓FX.gp8, ↓FX.gp9, ↓FX.gp10, ↓FX.gp11, ↓FX.gp12, ↓FX.gp13, ↓FX.gp14, ↓FX.gp15, ↓FX.gp16, ↓FX.gp17, ↓FX.gp18, ↓FX.gp19, ↓FX.gp20, ↓FX.gp21, ↓FX.gp22, ↓FX.gp23, ↓FX.gp24, ↓FX.gp25, ↓FX.gp26, ↓FX.gp27, ↓FX.gp28, ↓FX.gp29, ↓FX.gp30, ↓FX.gp31, ↓FX.gp32, ↓FX.gp33, ↓FX.sp0, ↓FX.sp1, ↓FX.sp2, ↓FX.sp3, ↓FX.sp4, ↓FX.sp5, ↓FX.sp6, ↓FX.sp7, ↓FX.sp8, ↓FX.sp9, ↓FX.sp10, ↓FX.sp11, ↓FX.sp12, ↓FX.sp13, ↓FX.sp14, ↓FX.sp15, ↓FX.sp16, ↓FX.sp17, ↓FX.sp18, ↓FX.sp19, ↓FX.sp20, ↓FX.sp21, ↓FX.sp22, ↓FX.sp23, ↓FX.sp24, ↓FX.sp25, ↓FX.sp26, ↓FX.sp27, ↓FX.sp28, ↓FX.sp29, ↓FX.sp30, ↓FX.sp31, ↓FX.sp32, ↓FX.sp33, ↓FX.hp0, ↓FX.hp1, ↓FX.hp2, ↓FX.hp3, ↓FX.hp4, ↓FX.wp0, ↓FX.wp1, ↓FX.wp2, ↓FX.wp3, ↓FX.wp4, end_rt, end_nx, ↓tgQ_eq, Bool.not_true, Bool.not_false, and_self, and_true, true_and]
  refine Eq.mpr (foP_of (yes1 G)) ?_
  try simp -implicitDefEqProofs (disch := omega) only [↓wp_bnd, ↓wp_ret, ↓wp_vV, ↓wp_vB, ↓wp_vL, ↓wp_hix, ↓wp_b1, ↓wp_b2, ↓wp_ifM, ↓wp_notM, ↓wp_andM, ↓wp_orM, ↓wp_asB, ↓wp_asI, ↓wp_notV, ↓wp_andV, ↓wp_orV, ↓wp_sq0, ↓wp_sq, ↓wp_tupM, ↓wp_frz, ↓wp_chM, ↓wp_sqS, ↓wp_seV, ↓wp_seL, ↓wp_asM, ↓wp_paM, ↓wp_paM3, ↓wp_paR2, ↓wp_paR3, ↓wp_rvM, ↓wp_rlM, ↓rv_v, ↓rv_l, ↓wp_shM, ↓wp_apM, ↓wp_exM, ↓wp_siM, ↓wp_clV, ↓wp_clL, ↓wp_hdM, ↓wp_chV, ↓wp_chL, ↓wp_itM, ↓wp_itA, ↓wp_rg1M, ↓wp_rg2M, ↓wp_zpM, ↓wp_enM, ↓wp_isiM, ↓wp_someM, ↓wp_sl3, ↓wp_frM, ↓wp_lc, ↓wp_agM, ↓wipP1, ↓wipP2, ↓wipP3, ↓bacP1, ↓bacP2, ↓bacP3, ↓spK0, ↓spK1, ↓spK2, ↓foP_ret, ↓rdP_v, ↓rdP_l, ↓lsP_l, ↓blP_bl, ↓inP_int, ↓vlP_val, ↓vlP_own, ↓hdP_hnd, ↓sqP_lst, ↓sqP_tup, ↓sqP_scr, ↓saP_lst, ↓saP_tup, ↓saP_rng, ↓ctP_nx, ↓ctP_rt, ↓ctP_bk, ↓ctP_ct, ↓lpP_nx, ↓lpP_ct, ↓lpP_bk, ↓lpP_rt, ↓zpP_lst, ↓zpP_tup, ↓enP_lst, ↓exP_lst, ↓tgP_V, ↓tgP_T, ↓tgsP_nil, ↓tgsP_cons, ↓rgP_ok, ↓iteP_true, ↓iteP_false, ↓iteP_t, ↓iteP_f, ↓iteP_nt, ↓iteP_nf, ↓hhP_eq, ↓opP_some, ↓pAdd, ↓pSub, ↓pNeg, ↓pMulR, ↓pMulL, ↓pMod, ↓pDiv, ↓p1018, ↓pLt, ↓pLe, ↓pGt, ↓pGe, ↓pOpB, ↓pEq, ↓pNe, ↓pIs0, ↓pIs1, ↓pIs2, ↓pIs3, ↓pIs4, ↓pIn0, ↓pIn1, ↓pIn2, ↓pIn3, ↓pIn4, ↓pLen1, ↓pLen2, ↓pLen3, ↓pInt, ↓pAbs, ↓pTup1, ↓pTup2, ↓pLst1, ↓pLst2, ↓pLst3, ↓pRng, ↓pSl1, ↓pSl2, ↓pSl3, ↓isi_int_non, ↓isi_int_bl, ↓isi_int_int, ↓isi_int_str, ↓isi_int_tup, ↓isi_int_lst, ↓isi_int_dic, ↓isi_bool_non, ↓isi_bool_bl, ↓isi_bool_int, ↓isi_bool_str, ↓isi_bool_tup, ↓isi_bool_lst, ↓isi_bool_dic, ↓isi_str_non, ↓isi_str_bl, ↓isi_str_int, ↓isi_str_str, ↓isi_str_tup, ↓isi_str_lst, ↓isi_str_dic, ↓isi_tuple_non, ↓isi_tuple_bl, ↓isi_tuple_int, ↓isi_tuple_str, ↓isi_tuple_tup, ↓isi_tuple_lst, ↓isi_tuple_dic, ↓isi_list_non, ↓isi_list_bl, ↓isi_list_int, ↓isi_list_str, ↓isi_list_tup, ↓isi_list_lst, ↓isi_list_dic, ↓isi_dict_non, ↓isi_dict_bl, ↓isi_dict_int, ↓isi_dict_str, ↓isi_dict_tup, ↓isi_dict_lst, ↓isi_dict_dic, ↓ixt0, ↓ixt1, ↓ixt2, ↓ixt3, ↓ixt4, ↓ixt5, ↓ixt6, ↓ixt7, ↓ixt8, ↓ixl0, ↓ixl1, ↓ixl2, ↓ixl3, ↓ixl4, ↓ixl5, ↓ixl6, ↓ixl7, ↓ixl8, ↓FX.gp0, ↓FX.gp1, ↓FX.gp2, ↓FX.gp3, ↓FX.gp4, ↓FX.gp5, ↓FX.gp6, ↓FX.gp7, ↓FX.gp8, ↓FX.gp9, ↓FX.gp10, ↓FX.gp11, ↓FX.gp12, ↓FX.gp13, ↓FX.gp14, ↓FX.gp15, ↓FX.gp16, ↓FX.gp17, ↓FX.gp18, ↓FX.gp19, ↓FX.gp20, ↓FX.gp21, ↓FX.gp22, ↓FX.gp23, ↓FX.gp24, ↓FX.gp25, ↓FX.gp26, ↓FX.gp27, ↓FX.gp28, ↓FX.gp29, ↓FX.gp30, ↓FX.gp31, ↓FX.gp32, ↓FX.gp33, ↓FX.sp0, ↓FX.sp1, ↓FX.sp2, ↓FX.sp3, ↓FX.sp4, ↓FX.sp5, ↓FX.sp6, ↓FX.sp7, ↓FX.sp8, ↓FX.sp9, ↓FX.sp10, ↓FX.sp11, ↓FX.sp12, ↓FX.sp13, ↓FX.sp14, ↓FX.sp15, ↓FX.sp16, ↓FX.sp17, ↓FX.sp18, ↓FX.sp19, ↓FX.sp20, ↓FX.sp21, ↓FX.sp22, ↓FX.sp23, ↓FX.sp24, ↓FX.sp25, ↓FX.sp26, ↓FX.sp27, ↓FX.sp28, ↓FX.sp29, ↓FX.sp30, ↓FX.sp31, ↓FX.sp32, ↓FX.sp33, ↓FX.hp0, ↓FX.hp1, ↓FX.hp2, ↓FX.hp3, ↓FX.hp4, ↓FX.wp0, ↓FX.wp1, ↓FX.wp2, ↓FX.wp3, ↓FX.wp4, end_rt, end_nx, ↓tgQ_eq, Bool.not_true, Bool.not_false, and_self, and_true, true_and]
  refine Eq.mpr (foP_of (yes2 G)) ?_
  try simp -implicitDefEqProofs (disch := omega) only [↓wp_bnd, ↓wp_ret, ↓wp_vV, ↓wp_vB, ↓wp_vL, ↓wp_hix, ↓wp_b1, ↓wp_b2, ↓wp_ifM, ↓wp_notM, ↓wp_andM, ↓wp_orM, ↓wp_asB, ↓wp_asI, ↓wp_notV, ↓wp_andV, ↓wp_orV, ↓wp_sq0, ↓wp_sq, ↓wp_tupM, ↓wp_frz, ↓wp_chM, ↓wp_sqS, ↓wp_seV, ↓wp_seL, ↓wp_asM, ↓wp_paM, ↓wp_paM3, ↓wp_paR2, ↓wp_paR3, ↓wp_rvM, ↓wp_rlM, ↓rv_v, ↓rv_l, ↓wp_shM, ↓wp_apM, ↓wp_exM, ↓wp_siM, ↓wp_clV, ↓wp_clL, ↓wp_hdM, ↓wp_chV, ↓wp_chL, ↓wp_itM, ↓wp_itA, ↓wp_rg1M, ↓wp_rg2M, ↓wp_zpM, ↓wp_enM, ↓wp_isiM, ↓wp_someM, ↓wp_sl3, ↓wp_frM, ↓wp_lc, ↓wp_agM, ↓wipP1, ↓wipP2, ↓wipP3, ↓bacP1, ↓bacP2, ↓bacP3, ↓spK0, ↓spK1, ↓spK2, ↓foP_ret, ↓rdP_v, ↓rdP_l, ↓lsP_l, ↓blP_bl, ↓inP_int, ↓vlP_val, ↓vlP_own, ↓hdP_hnd, ↓sqP_lst, ↓sqP_tup, ↓sqP_scr, ↓saP_lst, ↓saP_tup, ↓saP_rng, ↓ctP_nx, ↓ctP_rt, ↓ctP_bk, ↓ctP_ct, ↓lpP_nx, ↓lpP_ct, ↓lpP_bk, ↓lpP_rt, ↓zpP_lst, ↓zpP_tup, ↓enP_lst, ↓exP_lst, ↓tgP_V, ↓tgP_T, ↓tgsP_nil, ↓tgsP_cons, ↓rgP_ok, ↓iteP_true, ↓iteP_false, ↓iteP_t, ↓iteP_f, ↓iteP_nt, ↓iteP_nf, ↓hhP_eq, ↓opP_some, ↓pAdd, ↓pSub, ↓pNeg, ↓pMulR, ↓pMulL, ↓pMod, ↓pDiv, ↓p1018, ↓pLt, ↓pLe, ↓pGt, ↓pGe, ↓pOpB, ↓pEq, ↓pNe, ↓pIs0, ↓pIs1, ↓pIs2, ↓pIs3, ↓pIs4, ↓pIn0, ↓pIn1, ↓pIn2, ↓pIn3, ↓pIn4, ↓pLen1, ↓pLen2, ↓pLen3, ↓pInt, ↓pAbs, ↓pTup1, ↓pTup2, ↓pLst1, ↓pLst2, ↓pLst3, ↓pRng, ↓pSl1, ↓pSl2, ↓pSl3, ↓isi_int_non, ↓isi_int_bl, ↓isi_int_int, ↓isi_int_str, ↓isi_int_tup, ↓isi_int_lst, ↓isi_int_dic, ↓isi_bool_non, ↓isi_bool_bl, ↓isi_bool_int, ↓isi_bool_str, ↓isi_bool_tup, ↓isi_bool_lst, ↓isi_bool_dic, ↓isi_str_non, ↓isi_str_bl, ↓isi_str_int, ↓isi_str_str, ↓isi_str_tup, ↓isi_str_lst, ↓isi_str_dic, ↓isi_tuple_non, ↓isi_tuple_bl, ↓isi_tuple_int, ↓isi_tuple_str, ↓isi_tuple_tup, ↓isi_tuple_lst, ↓isi_tuple_dic, ↓isi_list_non, ↓isi_list_bl, ↓isi_list_int, ↓isi_list_str, ↓isi_list_tup, ↓isi_list_lst, ↓isi_list_dic, ↓isi_dict_non, ↓isi_dict_bl, ↓isi_dict_int, ↓isi_dict_str, ↓isi_dict_tup, ↓isi_dict_lst, ↓isi_dict_dic, ↓ixt0, ↓ixt1, ↓ixt2, ↓ixt3, ↓ixt4, ↓ixt5, ↓ixt6, ↓ixt7, ↓ixt8, ↓ixl0, ↓ixl1, ↓ixl2, ↓ixl3, ↓ixl4, ↓ixl5, ↓ixl6, ↓ixl7, ↓ixl8, ↓FX.gp0, ↓FX.gp1, ↓FX.gp2, ↓FX.gp3, ↓FX.gp4, ↓FX.gp5, ↓FX.gp6, ↓FX.gp7, ↓FX.gp8, ↓FX.gp9, ↓FX.gp10, ↓FX.gp11, ↓FX.gp12, ↓FX.gp13, ↓FX.gp14, ↓FX.gp15, ↓FX.gp16, ↓FX.gp17, ↓FX.gp18, ↓FX.gp19, ↓FX.gp20, ↓FX.gp21, ↓FX.gp22, ↓FX.gp23, ↓FX.gp24, ↓FX.gp25, ↓FX.gp26, ↓FX.gp27, ↓FX.gp28, ↓FX.gp29, ↓FX.gp30, ↓FX.gp31, ↓FX.gp32, ↓FX.gp33, ↓FX.sp0, ↓FX.sp1, ↓FX.sp2, ↓FX.sp3, ↓FX.sp4, ↓FX.sp5, ↓FX.sp6, ↓FX.sp7, ↓FX.sp8, ↓FX.sp9, ↓FX.sp10, ↓FX.sp11, ↓FX.sp12, ↓FX.sp13, ↓FX.sp14, ↓FX.sp15, ↓FX.sp16, ↓FX.sp17, ↓FX.sp18, ↓FX.sp19, ↓FX.sp20, ↓FX.sp21, ↓FX.sp22, ↓FX.sp23, ↓FX.sp24, ↓FX.sp25, ↓FX.sp26, ↓FX.sp27, ↓FX.sp28, ↓FX.sp29, ↓FX.sp30, ↓FX.sp31, ↓FX.sp32, ↓FX.sp33, ↓FX.hp0, ↓FX.hp1, ↓FX.hp2, ↓FX.hp3, ↓FX.hp4, ↓FX.wp0, ↓FX.wp1, ↓FX.wp2, ↓FX.wp3, ↓FX.wp4, end_rt, end_nx, ↓tgQ_eq, Bool.not_true, Bool.not_false, and_self, and_true, true_and]
  refine Eq.mpr (foP_of (yes3 G)) ?_
  try simp -implicitDefEqProofs (disch := omega) only [↓wp_bnd, ↓wp_ret, ↓wp_vV, ↓wp_vB, ↓wp_vL, ↓wp_hix, ↓wp_b1, ↓wp_b2, ↓wp_ifM, ↓wp_notM, ↓wp_andM, ↓wp_orM, ↓wp_asB, ↓wp_asI, ↓wp_notV, ↓wp_andV, ↓wp_orV, ↓wp_sq0, ↓wp_sq, ↓wp_tupM, ↓wp_frz, ↓wp_chM, ↓wp_sqS, ↓wp_seV, ↓wp_seL, ↓wp_asM, ↓wp_paM, ↓wp_paM3, ↓wp_paR2, ↓wp_paR3, ↓wp_rvM, ↓wp_rlM, ↓rv_v, ↓rv_l, ↓wp_shM, ↓wp_apM, ↓wp_exM, ↓wp_siM, ↓wp_clV, ↓wp_clL, ↓wp_hdM, ↓wp_chV, ↓wp_chL, ↓wp_itM, ↓wp_itA, ↓wp_rg1M, ↓wp_rg2M, ↓wp_zpM, ↓wp_enM, ↓wp_isiM, ↓wp_someM, ↓wp_sl3, ↓wp_frM, ↓wp_lc, ↓wp_agM, ↓wipP1, ↓wipP2, ↓wipP3, ↓bacP1, ↓bacP2, ↓bacP3, ↓spK0, ↓spK1, ↓spK2, ↓foP_ret, ↓rdP_v, ↓rdP_l, ↓lsP_l, ↓blP_bl, ↓inP_int, ↓vlP_val, ↓vlP_own, ↓hdP_hnd, ↓sqP_lst, ↓sqP_tup, ↓sqP_scr, ↓saP_lst, ↓saP_tup, ↓saP_rng, ↓ctP_nx, ↓ctP_rt, ↓ctP_bk, ↓ctP_ct, ↓lpP_nx, ↓lpP_ct, ↓lpP_bk, ↓lpP_rt, ↓zpP_lst, ↓zpP_tup, ↓enP_lst, ↓exP_lst, ↓tgP_V, ↓tgP_T, ↓tgsP_nil, ↓tgsP_cons, ↓rgP_ok, ↓iteP_true, ↓iteP_false, ↓iteP_t, ↓iteP_f, ↓iteP_nt, ↓iteP_nf, ↓hhP_eq, ↓opP_some, ↓pAdd, ↓pSub, ↓pNeg, ↓pMulR, ↓pMulL, ↓pMod, ↓pDiv, ↓p1018, ↓pLt, ↓pLe, ↓pGt, ↓pGe, ↓pOpB, ↓pEq, ↓pNe, ↓pIs0, ↓pIs1, ↓pIs2, ↓pIs3, ↓pIs4, ↓pIn0, ↓pIn1, ↓pIn2, ↓pIn3, ↓pIn4, ↓pLen1, ↓pLen2, ↓pLen3, ↓pInt, ↓pAbs, ↓pTup1, ↓pTup2, ↓pLst1, ↓pLst2, ↓pLst3, ↓pRng, ↓pSl1, ↓pSl2, ↓pSl3, ↓isi_int_non, ↓isi_int_bl, ↓isi_int_int, ↓isi_int_str, ↓isi_int_tup, ↓isi_int_lst, ↓isi_int_dic, ↓isi_bool_non, ↓isi_bool_bl, ↓isi_bool_int, ↓isi_bool_str, ↓isi_bool_tup, ↓isi_bool_lst, ↓isi_bool_dic, ↓isi_str_non, ↓isi_str_bl, ↓isi_str_int, ↓isi_str_str, ↓isi_str_tup, ↓isi_str_lst, ↓isi_str_dic, ↓isi_tuple_non, ↓isi_tuple_bl, ↓isi_tuple_int, ↓isi_tuple_str, ↓isi_tuple_tup, ↓isi_tuple_lst, ↓isi_tuple_dic, ↓isi_list_non, ↓isi_list_bl, ↓isi_list_int, ↓isi_list_str, ↓isi_list_tup, ↓isi_list_lst, ↓isi_list_dic, ↓isi_dict_non, ↓isi_dict_bl, ↓isi_dict_int, ↓isi_dict_str, ↓isi_dict_tup, ↓isi_dict_lst, ↓isi_dict_dic, ↓ixt0, ↓ixt1, ↓ixt2, ↓ixt3, ↓ixt4, ↓ixt5, ↓ixt6, ↓ixt7, ↓ixt8, ↓ixl0, ↓ixl1, ↓ixl2, ↓ixl3, ↓ixl4, ↓ixl5, ↓ixl6, ↓ixl7, ↓ixl8, ↓FX.gp0, ↓FX.gp1, ↓FX.gp2, ↓FX.gp3, ↓FX.gp4, ↓FX.gp5, ↓FX.gp6, ↓FX.gp7, ↓FX.gp8, ↓FX.gp9, ↓FX.gp10, ↓FX.gp11, ↓FX.gp12, ↓FX.gp13, ↓FX.gp14, ↓FX.gp15, ↓FX.gp16, ↓FX.gp17, ↓FX.gp18, ↓FX.gp19, ↓FX.gp20, ↓FX.gp21, ↓FX.gp22, ↓FX.gp23, ↓FX.gp24, ↓FX.gp25, ↓FX.gp26, ↓FX.gp27, ↓FX.gp28, ↓FX.gp29, ↓FX.gp30, ↓FX.gp31, ↓FX.gp32, ↓FX.gp33, ↓FX.sp0, ↓FX.sp1, ↓FX.sp2, ↓FX.sp3, ↓FX.sp4, ↓FX.sp5, ↓FX.sp6, ↓FX.sp7, ↓FX.sp8, ↓FX.sp9, ↓FX.sp10, ↓FX.sp11, ↓FX.sp12, ↓FX.sp13, ↓FX.sp14, ↓FX.sp15, ↓FX.sp16, ↓FX.sp17, ↓FX.sp18, ↓FX.sp19, ↓FX.sp20, ↓FX.sp21, ↓FX.sp22, ↓FX.sp23, ↓FX.sp24, ↓FX.sp25, ↓FX.sp26, ↓FX.sp27, ↓FX.sp28, ↓FX.sp29, ↓FX.sp30, ↓FX.sp31, ↓FX.sp32, ↓FX.sp33, ↓FX.hp0, ↓FX.hp1, ↓FX.hp2, ↓FX.hp3, ↓FX.hp4, ↓FX.wp0, ↓FX.wp1, ↓FX.wp2, ↓FX.wp3, ↓FX.wp4, end_rt, end_nx, ↓tgQ_eq, Bool.not_true, Bool.not_false, and_self, and_true, true_and]
  refine Eq.mpr (foP_of (law_is_ok G (d := .lst [.tup [.int 4], .tup [.tup [.int 1, .int 4], .tup [.int 6, .int 4]], .tup [.int 6, .int 1, .int 0], .int 4]) (by decide) (by decide) (by decide))) ?_
  try simp -implicitDefEqProofs (disch := omega) only [↓wp_bnd, ↓wp_ret, ↓wp_vV, ↓wp_vB, ↓wp_vL, ↓wp_hix, ↓wp_b1, ↓wp_b2, ↓wp_ifM, ↓wp_notM, ↓wp_andM, ↓wp_orM, ↓wp_asB, ↓wp_asI, ↓wp_notV, ↓wp_andV, ↓wp_orV, ↓wp_sq0, ↓wp_sq, ↓wp_tupM, ↓wp_frz, ↓wp_chM, ↓wp_sqS, ↓wp_seV, ↓wp_seL, ↓wp_asM, ↓wp_paM, ↓wp_paM3, ↓wp_paR2, ↓wp_paR3, ↓wp_rvM, ↓wp_rlM, ↓rv_v, ↓rv_l, ↓wp_shM, ↓wp_apM, ↓wp_exM, ↓wp_siM, ↓wp_clV, ↓wp_clL, ↓wp_hdM, ↓wp_chV, ↓wp_chL, ↓wp_itM, ↓wp_itA, ↓wp_rg1M, ↓wp_rg2M, ↓wp_zpM, ↓wp_enM, ↓wp_isiM, ↓wp_someM, ↓wp_sl3, ↓wp_frM, ↓wp_lc, ↓wp_agM, ↓wipP1, ↓wipP2, ↓wipP3, ↓bacP1, ↓bacP2, ↓bacP3, ↓spK0, ↓spK1, ↓spK2, ↓foP_ret, ↓rdP_v, ↓rdP_l, ↓lsP_l, ↓blP_bl, ↓inP_int, ↓vlP_val, ↓vlP_own, ↓hdP_hnd, ↓sqP_lst, ↓sqP_tup, ↓sqP_scr, ↓saP_lst, ↓saP_tup, ↓saP_rng, ↓ctP_nx, ↓ctP_rt, ↓ctP_bk, ↓ctP_ct, ↓lpP_nx, ↓lpP_ct, ↓lpP_bk, ↓lpP_rt, ↓zpP_lst, ↓zpP_tup, ↓enP_lst, ↓exP_lst, ↓tgP_V, ↓tgP_T, ↓tgsP_nil, ↓tgsP_cons, ↓rgP_ok, ↓iteP_true, ↓iteP_false, ↓iteP_t, ↓iteP_f, ↓iteP_nt, ↓iteP_nf, ↓hhP_eq, ↓opP_some, ↓pAdd, ↓pSub, ↓pNeg, ↓pMulR, ↓pMulL, ↓pMod, ↓pDiv, ↓p1018, ↓pLt, ↓pLe, ↓pGt, ↓pGe, ↓pOpB, ↓pEq, ↓pNe, ↓pIs0, ↓pIs1, ↓pIs2, ↓pIs3, ↓pIs4, ↓pIn0, ↓pIn1, ↓pIn2, ↓pIn3, ↓pIn4, ↓pLen1, ↓pLen2, ↓pLen3, ↓pInt, ↓pAbs, ↓pTup1, ↓pTup2, ↓pLst1, ↓pLst2, ↓pLst3, ↓pRng, ↓pSl1, ↓pSl2, ↓pSl3, ↓isi_int_non, ↓isi_int_bl, ↓isi_int_int, ↓isi_int_str, ↓isi_int_tup, ↓isi_int_lst, ↓isi_int_dic, ↓isi_bool_non, ↓isi_bool_bl, ↓isi_bool_int, ↓isi_bool_str, ↓isi_bool_tup, ↓isi_bool_lst, ↓isi_bool_dic, ↓isi_str_non, ↓isi_str_bl, ↓isi_str_int, ↓isi_str_str, ↓isi_str_tup, ↓isi_str_lst, ↓isi_str_dic, ↓isi_tuple_non, ↓isi_tuple_bl, ↓isi_tuple_int, ↓isi_tuple_str, ↓isi_tuple_tup, ↓isi_tuple_lst, ↓isi_tuple_dic, ↓isi_list_non, ↓isi_list_bl, ↓isi_list_int, ↓isi_list_str, ↓isi_list_tup, ↓isi_list_lst, ↓isi_list_dic, ↓isi_dict_non, ↓isi_dict_bl, ↓isi_dict_int, ↓isi_dict_str, ↓isi_dict_tup, ↓isi_dict_lst, ↓isi_dict_dic, ↓ixt0, ↓ixt1, ↓ixt2, ↓ixt3, ↓ixt4, ↓ixt5, ↓ixt6, ↓ixt7, ↓ixt8, ↓ixl0, ↓ixl1, ↓ixl2, ↓ixl3, ↓ixl4, ↓ixl5, ↓ixl6, ↓ixl7, ↓ixl8, ↓FX.gp0, ↓FX.gp1, ↓FX.gp2, ↓FX.gp3, ↓FX.gp4, ↓FX.gp5, ↓FX.gp6, ↓FX.gp7, ↓FX.gp8, ↓FX.gp9, ↓FX.gp10, ↓FX.gp11, ↓FX.gp12, ↓FX.gp13, ↓FX.gp14, ↓FX.gp15, ↓FX.gp16, ↓FX.gp17, ↓FX.gp18, ↓FX.gp19, ↓FX.gp20, ↓FX.gp21, ↓FX.gp22, ↓FX.gp23, ↓FX.gp24, ↓FX.gp25, ↓FX.gp26, ↓FX.gp27, ↓FX.gp28, ↓FX.gp29, ↓FX.gp30, ↓FX.gp31, ↓FX.gp32, ↓FX.gp33, ↓FX.sp0, ↓FX.sp1, ↓FX.sp2, ↓FX.sp3, ↓FX.sp4, ↓FX.sp5, ↓FX.sp6, ↓FX.sp7, ↓FX.sp8, ↓FX.sp9, ↓FX.sp10, ↓FX.sp11, ↓FX.sp12, ↓FX.sp13, ↓FX.sp14, ↓FX.sp15, ↓FX.sp16, ↓FX.sp17, ↓FX.sp18, ↓FX.sp19, ↓FX.sp20, ↓FX.sp21, ↓FX.sp22, ↓FX.sp23, ↓FX.sp24, ↓FX.sp25, ↓FX.sp26, ↓FX.sp27, ↓FX.sp28, ↓FX.sp29, ↓FX.sp30, ↓FX.sp31, ↓FX.sp32, ↓FX.sp33, ↓FX.hp0, ↓FX.hp1, ↓FX.hp2, ↓FX.hp3, ↓FX.hp4, ↓FX.wp0, ↓FX.wp1, ↓FX.wp2, ↓FX.wp3, ↓FX.wp4, end_rt, end_nx, ↓tgQ_eq, Bool.not_true, Bool.not_false, and_self, and_true, true_and]

end
end FX.K71


theorem PySem.Challenge.cw_steprounds_k71_whole_changing_lines_holds : PySem.Challenge.rw_steprounds_k71_whole_changing_lines.Holds := by
  exact FX.K71.holds_of fun G _ h => FX.K71.law_ok G h.1
