import PyProof.Rows.All
import Wide.All
import OpenK.AllK
import Wide.FinOn
import HandS.ForMost
import HandS.Walk
import HandS.Codes
import HandS.Flow
import HandS.Conv
import HandS.Deep
import HandS.Zip
import HandS.TupAny
import HandS.TupMul
import HandS.IsInst
import HandS.Exc
import HandS.ExcOwn
import HandS.ExcInit
import HandS.TryMany
import HandS.ExcField
import HandS.Lambda
import HandS.Wide
import HandS.Style
import HandS.More
import KE.SortData
import KE.GoesMore
import PyProof.Draws
import HandS.WordsExc
import HandS.Defaults
import HandS.SetFor
import HandS.Small
import HandS.Words
import HandS.Strs
import HandS.Set
import PyProof.DictKinds
import PyProof.Rows.SetFrom
import HandS.RaiseMore
import HandS.EndTab
import HandS.HeadWalk
import HandS.HeadHook4
import Wide.Once
import HandS.Head0
import HandS.Head1
import HandS.Head2
import PySem.Challenge.RW_howevermany_k60_whole_logs_of_renumbered
section
set_option Elab.async false
set_option linter.all false
set_option maxRecDepth 100000
set_option maxHeartbeats 2000000
/-! Data as values: what a value means in the part of the heap that no longer changes. -/
namespace Dn
open PySem PySem.Spec L2

inductive D where
  | non
  | bl (b : Bool)
  | int (i : Int)
  | str (s : Str)
  | tup (ds : List D)
  | lst (ds : List D)
  | dic (ks : List Key) (ds : List D)
  | obj (c : Nat) (ds : List D)

mutual
def beqD : D → D → Bool
  | .non, .non => true
  | .bl a, .bl b => a == b
  | .int a, .int b => a == b
  | .str a, .str b => decide (a = b)
  | .tup a, .tup b => beqDs a b
  | .lst a, .lst b => beqDs a b
  | .dic k a, .dic l b => decide (k = l) && beqDs a b
  | .obj k a, .obj l b => decide (k = l) && beqDs a b
  | _, _ => false
def beqDs : List D → List D → Bool
  | [], [] => true
  | a :: as, b :: bs => beqD a b && beqDs as bs
  | _, _ => false
end
mutual
theorem beqD_iff : ∀ a b : D, beqD a b = true ↔ a = b
  | .non, b => by cases b <;> simp [beqD]
  | .bl _, b => by cases b <;> simp [beqD]
  | .int _, b => by cases b <;> simp [beqD]
  | .str _, b => by cases b <;> simp [beqD]
  | .tup xs, b => by cases b <;> simp [beqD, beqDs_iff xs]
  | .lst xs, b => by cases b <;> simp [beqD, beqDs_iff xs]
  | .dic _ xs, b => by cases b <;> simp [beqD, beqDs_iff xs]
  | .obj _ xs, b => by cases b <;> simp [beqD, beqDs_iff xs]
theorem beqDs_iff : ∀ a b : List D, beqDs a b = true ↔ a = b
  | [], b => by cases b <;> simp [beqDs]
  | x :: xs, b => by cases b <;> simp [beqDs, beqD_iff x, beqDs_iff xs]
end
instance : DecidableEq D := fun a b => decidable_of_iff _ (beqD_iff a b)

/-- the written part; the classes by number: where they stand, their fields in order -/
structure Gm where
  K : PySem.W.Frag
  C : Nat → Addr
  F : Nat → List Str

mutual
def DV (G : Gm) (I : Hp) : D → V → Prop
  | .non, v => v = .non
  | .bl b, v => v = .bl b
  | .int i, v => v = .int i
  | .str s, v => v = .str s
  | .tup ds, v => ∃ a vs, v = .ref a ∧ SqT G.K I a vs ∧ DVs G I ds vs
  | .lst ds, v => ∃ a vs, v = .ref a ∧ I a = some (.lst vs) ∧ DVs G I ds vs
  | .dic ks ds, v => ∃ a vs, v = .ref a ∧ I a = some (.dK (ks.zip vs)) ∧ ks.length = ds.length ∧ DVs G I ds vs
  | .obj c ds, v => ∃ a dx vs, v = .ref a ∧ I a = some (.ins (G.C c) dx ((G.F c).zip vs)) ∧ (G.F c).length = ds.length ∧ DVs G I ds vs
def DVs (G : Gm) (I : Hp) : List D → List V → Prop
  | [], vs => vs = []
  | d :: ds, vs => ∃ v r, vs = v :: r ∧ DV G I d v ∧ DVs G I ds r
end

def Sub (I H : Hp) : Prop := ∀ b o, I b = some o → H b = some o
theorem Sub.refl {H : Hp} : Sub H H := fun _ _ h => h
theorem Sub.trans {A B C : Hp} (x : Sub A B) (y : Sub B C) : Sub A C := fun b o h => y b o (x b o h)
theorem Sub.rd {I H : Hp} {a : Addr} {u : HO} (e : Sub I H) (h : Rd I a u) : Rd H a u := by
  rcases h with h | ⟨o, h⟩
  · exact .inl (e a _ h)
  · exact .inr ⟨o, e a _ h⟩
theorem Sub.seqL {K : PySem.W.Frag} {I H : Hp} {a : Addr} {xs : List V} (e : Sub I H) (h : SqL K I a xs) : SqL K H a xs := by
  rcases h with h | h
  · exact .inl (e.rd h)
  · exact .inr h
theorem Sub.seqT {K : PySem.W.Frag} {I H : Hp} {a : Addr} {xs : List V} (e : Sub I H) (h : SqT K I a xs) : SqT K H a xs := by
  rcases h with h | h
  · exact .inl (e.rd h)
  · exact .inr h
theorem Sub.new {H : Hp} {p : Addr} {o : HO} (h : H p = none) : Sub H (upd H p o) := fun a u e => by
  rw [upd_ne (ne_of_none e h)]
  exact e

mutual
theorem DV.mono {G : Gm} {I J : Hp} (e : Sub I J) : ∀ {d : D} {v : V}, DV G I d v → DV G J d v
  | .non, _, h => h
  | .bl _, _, h => h
  | .int _, _, h => h
  | .str _, _, h => h
  | .tup ds, v, h => by
    unfold DV at h ⊢
    obtain ⟨a, vs, rfl, h1, h2⟩ := h
    exact ⟨a, vs, rfl, e.seqT h1, DVs.mono e h2⟩
  | .lst ds, v, h => by
    unfold DV at h ⊢
    obtain ⟨a, vs, rfl, h1, h2⟩ := h
    exact ⟨a, vs, rfl, e _ _ h1, DVs.mono e h2⟩
  | .dic ks ds, v, h => by
    unfold DV at h ⊢
    obtain ⟨a, vs, rfl, h1, hl, h2⟩ := h
    exact ⟨a, vs, rfl, e _ _ h1, hl, DVs.mono e h2⟩
  | .obj c ds, v, h => by
    unfold DV at h ⊢
    obtain ⟨a, dx, vs, rfl, h1, hl, h2⟩ := h
    exact ⟨a, dx, vs, rfl, e _ _ h1, hl, DVs.mono e h2⟩
theorem DVs.mono {G : Gm} {I J : Hp} (e : Sub I J) : ∀ {ds : List D} {vs : List V}, DVs G I ds vs → DVs G J ds vs
  | [], _, h => h
  | d :: ds, vs, h => by
    unfold DVs at h ⊢
    obtain ⟨v, r, rfl, h1, h2⟩ := h
    exact ⟨v, r, rfl, DV.mono e h1, DVs.mono e h2⟩
end
end Dn
end
section
set_option Elab.async false
set_option linter.all false
set_option maxRecDepth 100000
set_option maxHeartbeats 2000000
namespace Dn
open PySem PySem.Spec L2

/-! ### what a mirror gives -/
inductive Er where
  | stuck
  | exn (x : Nat) (ds : List D)
abbrev R (α : Type) := Except Er α
/-- r gives what Ko wants, or raises what Kx wants -/
def Pst {α : Type} (r : R α) (Kx : Nat → List D → Prop) (Ko : α → Prop) : Prop := match r with
  | .ok a => Ko a
  | .error (.exn x ds) => Kx x ds
  | .error .stuck => False
theorem Pst.bind {α β : Type} {r : R α} {f : α → R β} {Kx : Nat → List D → Prop} {Ko : β → Prop} : Pst (r >>= f) Kx Ko ↔ Pst r Kx fun a => Pst (f a) Kx Ko := by
  cases r with
  | ok a => exact Iff.rfl
  | error e => cases e <;> exact Iff.rfl
theorem Pst.mono {α : Type} {r : R α} {Kx Kx' : Nat → List D → Prop} {Ko Ko' : α → Prop} (h : Pst r Kx Ko) (hx : ∀ x ds, Kx x ds → Kx' x ds) (ho : ∀ a, Ko a → Ko' a) : Pst r Kx' Ko' := by
  cases r with
  | ok a => exact ho a h
  | error e => cases e with
    | stuck => exact h
    | exn x ds => exact hx x ds h
theorem Pst.imp {α : Type} {r : R α} {Kx : Nat → List D → Prop} {Ko Ko' : α → Prop} (h : Pst r Kx Ko) (ho : ∀ a, r = .ok a → Ko a → Ko' a) : Pst r Kx Ko' := by
  cases r with
  | ok a => exact ho a rfl h
  | error e => cases e with
    | stuck => exact h
    | exn x ds => exact h
/-- none is stuck -/
def ofO {α : Type} : Option α → R α
  | some a => .ok a
  | none => .error .stuck
theorem Pst.ofO {α : Type} {o : Option α} {Kx : Nat → List D → Prop} {Ko : α → Prop} (h : Pst (Dn.ofO o) Kx Ko) : ∃ a, o = some a ∧ Ko a := by
  cases o with
  | none => exact False.elim h
  | some a => exact ⟨a, rfl, h⟩
/-- an exception is stuck (where none may leave) -/
def unx {α : Type} : R α → R α
  | .ok a => .ok a
  | .error _ => .error .stuck
theorem Pst.unx {α : Type} {r : R α} {Kx Kx' : Nat → List D → Prop} {Ko : α → Prop} (h : Pst (Dn.unx r) Kx Ko) : Pst r Kx' Ko := by
  cases r with
  | ok a => exact h
  | error e => exact False.elim h

/-! ### the pen -/
/-- what may change: the pen, or an instance whose attributes are plain -/
inductive Pen where
  | pn (cells : List Int) (at_ digits count fold : Int)
  | ob (n : Nat) (fs : List (Str × D))
def pen0 : Pen := .ob 0 []
def Pen.isPn : Pen → Bool
  | .pn .. => true
  | .ob .. => false
/-- how a lambda of the law is called -/
def lamQ : Str := "law.<locals>.<lambda>"
def scaV : D → V
  | .bl b => .bl b
  | .int i => .int i
  | .str z => .str z
  | _ => .non
def isSca : D → Bool
  | .non => true
  | .bl _ => true
  | .int _ => true
  | .str _ => true
  | _ => false
def Pen.sca : Pen → Bool
  | .pn .. => true
  | .ob _ fs => fs.all fun x => isSca x.2
def fsV (fs : List (Str × D)) : List (Str × V) := fs.map fun x => (x.1, scaV x.2)
def penA (cc : Addr × (Nat → Addr)) : Pen → HO
  | .pn _ at_ digits count fold => .dK [(.inr "cells", .ref cc.1), (.inr "at", .int at_), (.inr "digits", .int digits), (.inr "count", .int count), (.inr "fold", .int fold)]
  | .ob n fs => .ins (cc.2 n) cc.1 (fsV fs)
def penC (a : Addr) : Pen → HO
  | .pn cells .. => .lst (cells.map V.int)
  | .ob .. => .own a
/-- at a; behind it what stays (the cells, the instance's dict), then the classes -/
structure PenAt (a : Addr) (cc : Addr × (Nat → Addr)) (p : Pen) (H : Hp) : Prop where
  d : H a = some (penA cc p)
  c : H cc.1 = some (penC a p)
  s : p.sca = true
  t : p.isPn = true → cc.2 1000 ≠ 0 → LamX.TabS H (cc.2 1000) lamQ ∧ ∀ b ps, H b = some (.tbl ps) → b = cc.2 1000
theorem PenAt.ne {a : Addr} {cc : Addr × (Nat → Addr)} {p : Pen} {H : Hp} (h : PenAt a cc p H) : cc.1 ≠ a := ne_of h.c h.d (by cases p <;> (intro z; cases z))
abbrev PP := Option (Addr × (Addr × (Nat → Addr)))
def PenOk (P : PP) (p : Pen) (H : Hp) : Prop := ∀ a cc, P = some (a, cc) → PenAt a cc p H
theorem PenOk.none {p : Pen} {H : Hp} : PenOk Option.none p H := fun _ _ e => by cases e

/-! ### from a heap on: I is the part that never changes any more -/
/-- what stays: all but the thing P; a code object's table may grow -/
structure Keep (P : PP) (H H' : Hp) : Prop where
  at_ : ∀ b o, (∀ a cc, P = some (a, cc) → b ≠ a) → (∀ ps, o ≠ .tbl ps) → H b = some o → H' b = some o
  tbl : ∀ b ps, H b = some (.tbl ps) → ∃ ps', H' b = some (.tbl ps')
  tab : ∀ b, LamX.TabS H b lamQ → LamX.TabS H' b lamQ
  old : ∀ b ps, H' b = some (.tbl ps) → ∃ ps', H b = some (.tbl ps')
theorem Keep.refl {P : PP} {H : Hp} : Keep P H H := ⟨fun _ _ _ _ h => h, fun _ ps h => ⟨ps, h⟩, fun _ h => h, fun _ ps h => ⟨ps, h⟩⟩
theorem Keep.trans {P : PP} {H H1 H2 : Hp} (x : Keep P H H1) (y : Keep P H1 H2) : Keep P H H2 := ⟨fun b o hb hn h => y.at_ b o hb hn (x.at_ b o hb hn h), fun b ps h => by
  obtain ⟨ps1, h1⟩ := x.tbl b ps h
  exact y.tbl b ps1 h1, fun b h => y.tab b (x.tab b h), fun b ps h => by
  obtain ⟨ps1, h1⟩ := y.old b ps h
  exact x.old b ps1 h1⟩
theorem Keep.of {P : PP} {H H' : Hp} (s : Sub H H') (t : ∀ b ps, H' b = some (.tbl ps) → ∃ ps', H b = some (.tbl ps')) : Keep P H H' := ⟨fun b o _ _ h => s b o h, fun b ps h => ⟨ps, s b _ h⟩, fun _ h => h.ext s, t⟩
theorem old_upd {H : Hp} {q : Addr} {o : HO} (ho : ∀ ps, o ≠ .tbl ps) : ∀ b ps, upd H q o b = some (.tbl ps) → ∃ ps', H b = some (.tbl ps') := fun b ps h => by
  by_cases z : b = q
  · rw [z, upd_same] at h
    exact absurd (Option.some.inj h) (ho ps)
  · rw [upd_ne z] at h
    exact ⟨ps, h⟩
theorem Keep.lift {P : PP} {H H' : Hp} (x : Keep none H H') : Keep P H H' := ⟨fun b o _ hn h => x.at_ b o (fun _ _ z => by cases z) hn h, x.tbl, x.tab, x.old⟩
theorem codeO_lst {q : Addr} {r : Str} {vs : List V} : HO.lst vs ≠ LamX.CodeO q r := fun z => by unfold LamX.CodeO at z; cases z
theorem codeO_dK {q : Addr} {r : Str} {vs : List (Key × V)} : HO.dK vs ≠ LamX.CodeO q r := fun z => by unfold LamX.CodeO at z; cases z
theorem codeO_ins {q C dx : Addr} {r : Str} {vs : List (Str × V)} : HO.ins C dx vs ≠ LamX.CodeO q r := fun z => by unfold LamX.CodeO at z; cases z
/-- a place that was free at the beginning, and no code object's, is written -/
theorem Keep.put {P : PP} {H0 H : Hp} {q : Addr} {o : HO} (x : Keep P H0 H) (h0 : H0 q = none) (hq : ∀ r, H q ≠ some (LamX.CodeO q r)) (ho : ∀ ps, o ≠ .tbl ps := by intro ps z; cases z) : Keep P H0 (upd H q o) :=
  ⟨fun b u hb hn h => by rw [upd_ne (fun z => by rw [z, h0] at h; cases h)]; exact x.at_ b u hb hn h, fun b ps h => by rw [upd_ne (fun z => by rw [z, h0] at h; cases h)]; exact x.tbl b ps h, fun b h => by
    have nb : b ≠ q := by
      obtain ⟨ps, h1, _⟩ := h
      exact fun e => by rw [e, h0] at h1; cases h1
    obtain ⟨ps, h1, h2, h3⟩ := x.tab b h
    refine ⟨ps, by rw [upd_ne nb]; exact h1, h2, fun pos cv hc => ?_⟩
    obtain ⟨c, e1, e2⟩ := h3 pos cv hc
    exact ⟨c, e1, by rw [upd_ne (fun e => hq lamQ (by rw [e] at e2; exact e2))]; exact e2⟩, fun b ps h => by
    obtain ⟨ps1, h1⟩ := old_upd ho b ps h
    exact x.old b ps1 h1⟩
/-- neither a code object nor a table of them -/
def NoC (H : Hp) (q : Addr) : Prop := (∀ r, H q ≠ some (LamX.CodeO q r)) ∧ ∀ ps, H q ≠ some (.tbl ps)
theorem NoC.put {H : Hp} {q : Addr} {o : HO} (n : NoC H q) {b : Addr} {z : Str} (h : LamX.TabS H b z) : LamX.TabS (upd H q o) b z := by
  obtain ⟨ps, h1, h2, h3⟩ := h
  refine ⟨ps, by rw [upd_ne (fun e => n.2 ps (by rw [← e]; exact h1))]; exact h1, h2, fun pos cv hc => ?_⟩
  obtain ⟨c, e1, e2⟩ := h3 pos cv hc
  exact ⟨c, e1, by rw [upd_ne (fun e => n.1 z (by rw [e] at e2; exact e2))]; exact e2⟩
structure Ext (P : PP) (I H : Hp) (p' : Pen) (I' H' : Hp) : Prop where
  keep : Keep P H H'
  grow : Sub I I'
  sub : Sub I' H'
  new : ∀ b o, H b = some o → I b = none → I' b = none
  pen : PenOk P p' H'
theorem Ext.refl {P : PP} {I H : Hp} {p : Pen} (s : Sub I H) (k : PenOk P p H) : Ext P I H p I H := ⟨Keep.refl, Sub.refl, s, fun _ _ _ h => h, k⟩
theorem Ext.there {P : PP} {I H I' H' : Hp} {p' : Pen} (e : Ext P I H p' I' H') {b : Addr} {o : HO} (h : H b = some o) : ∃ o', H' b = some o' := by
  by_cases hb : ∀ a cc, P = some (a, cc) → b ≠ a
  · cases o with
    | tbl ps =>
      obtain ⟨ps', h'⟩ := e.keep.tbl b ps h
      exact ⟨_, h'⟩
    | _ => exact ⟨_, e.keep.at_ b _ hb (fun ps z => by cases z) h⟩
  · have ⟨a, cc, hp, hb⟩ : ∃ a cc, P = some (a, cc) ∧ b = a := by
      cases P with
      | none => exact absurd (fun a cc (e : (none : PP) = some (a, cc)) => by cases e) hb
      | some q =>
        refine ⟨q.1, q.2, rfl, ?_⟩
        by_cases h1 : b = q.1
        · exact h1
        · exact absurd (fun a cc e => by cases e; exact h1) hb
    exact ⟨_, by rw [hb]; exact (e.pen a cc hp).d⟩
theorem Ext.trans {P : PP} {I H I1 H1 I2 H2 : Hp} {p1 p2 : Pen} (x : Ext P I H p1 I1 H1) (y : Ext P I1 H1 p2 I2 H2) : Ext P I H p2 I2 H2 :=
  ⟨x.keep.trans y.keep, x.grow.trans y.grow, y.sub, fun b o h n => by
    obtain ⟨o', h'⟩ := x.there h
    exact y.new b o' h' (x.new b o h n), y.pen⟩
theorem penA_tbl {cc : Addr × (Nat → Addr)} {p : Pen} (ps : Array Value) : penA cc p ≠ .tbl ps := by cases p <;> (intro z; cases z)
theorem penC_tbl {a : Addr} {p : Pen} (ps : Array Value) : penC a p ≠ .tbl ps := by cases p <;> (intro z; cases z)
/-- a step that keeps all of the heap -/
theorem Ext.lift {P : PP} {I H I' H' : Hp} {p p' : Pen} (e : Ext none I H p' I' H') (k : PenOk P p H) : Ext P I H p I' H' :=
  ⟨e.keep.lift, e.grow, e.sub, e.new, fun a cc z => ⟨e.keep.at_ _ _ (fun _ _ z => by cases z) penA_tbl (k a cc z).d, e.keep.at_ _ _ (fun _ _ z => by cases z) penC_tbl (k a cc z).c, (k a cc z).s, fun h1 h2 => ⟨e.keep.tab _ ((k a cc z).t h1 h2).1, fun b ps h => by
    obtain ⟨ps1, h3⟩ := e.keep.old b ps h
    exact ((k a cc z).t h1 h2).2 b ps1 h3⟩⟩⟩
abbrev ExtN (I H I' H' : Hp) : Prop := ∀ p, Ext none I H p I' H'
theorem ExtN.refl {I H : Hp} (s : Sub I H) : ExtN I H I H := fun _ => Ext.refl s PenOk.none
theorem ExtN.trans {I H I1 H1 I2 H2 : Hp} (x : ExtN I H I1 H1) (y : ExtN I1 H1 I2 H2) : ExtN I H I2 H2 := fun p => (x p).trans (y p)
theorem ExtN.sub {I H I' H' : Hp} (e : ExtN I H I' H') : Sub I' H' := (e pen0).sub
theorem ExtN.grow {I H I' H' : Hp} (e : ExtN I H I' H') : Sub I I' := (e pen0).grow
theorem ExtN.to {P : PP} {I H I' H' : Hp} {p : Pen} (e : ExtN I H I' H') (k : PenOk P p H) : Ext P I H p I' H' := (e p).lift k
/-- a new object that will never change -/
theorem ExtN.lay {I H : Hp} {q : Addr} {o : HO} (s : Sub I H) (h : H q = none) (ho : ∀ ps, o ≠ .tbl ps := by intro ps z; cases z) : ExtN I H (upd I q o) (upd H q o) := fun p => by
  have hi : I q = none := by
    cases e : I q with
    | none => rfl
    | some u => rw [s q u e] at h; cases h
  refine ⟨Keep.of (Sub.new h) (old_upd ho), Sub.new hi, fun b u e => ?_, fun b u e n => ?_, PenOk.none⟩
  · by_cases hb : b = q
    · subst hb
      rw [upd_same] at e
      rw [upd_same]
      exact e
    · rw [upd_ne hb] at e
      rw [upd_ne hb]
      exact s b u e
  · rw [upd_ne (ne_of_none e h)]
    exact n
/-- a new object of which nothing is held -/
theorem ExtN.lose {I H : Hp} {q : Addr} {o : HO} (s : Sub I H) (h : H q = none) (ho : ∀ ps, o ≠ .tbl ps := by intro ps z; cases z) : ExtN I H I (upd H q o) := fun p =>
  ⟨Keep.of (Sub.new h) (old_upd ho), Sub.refl, s.trans (Sub.new h), fun _ _ _ n => n, PenOk.none⟩

/-! ### the slots -/
inductive Sl where
  | no
  | val (d : D)
  | own (ds : List D)
  | ownd (ks : List Key) (ds : List D)
  | pen
  | cln (d : D)
/-- a tuple of which it is known that it has no dict -/
def Cln (G : Gm) (I : Hp) (d : D) (v : V) : Prop := ∃ q ob vs ds, d = .tup ds ∧ v = .ref q ∧ I q = some (.frz ob (.tup vs)) ∧ ob.cls = .type "tuple" ∧ ob.dict = none ∧ DVs G I ds vs
theorem Cln.mono {G : Gm} {I I' : Hp} {d : D} {v : V} (s : Sub I I') (h : Cln G I d v) : Cln G I' d v := by
  obtain ⟨q, ob, vs, ds, e, e2, h1, h2, h3, h4⟩ := h
  exact ⟨q, ob, vs, ds, e, e2, s _ _ h1, h2, h3, DVs.mono s h4⟩
structure Ctx where
  P : PP
  I0 : Hp
  H0 : Hp
def Sl.isOwn : Sl → Bool
  | .own _ => true
  | .ownd _ _ => true
  | _ => false
def SlotR (G : Gm) (c : Ctx) (I H : Hp) (s : Sl) (o : Option (Option V)) : Prop := match s with
  | .no => True
  | .val d => ∃ v, o = some (some v) ∧ DV G I d v
  | .own ds => ∃ q vs, o = some (some (.ref q)) ∧ H q = some (.lst vs) ∧ I q = none ∧ c.H0 q = none ∧ DVs G I ds vs
  | .ownd ks ds => ∃ q vs, o = some (some (.ref q)) ∧ H q = some (.dK (ks.zip vs)) ∧ ks.length = ds.length ∧ I q = none ∧ c.H0 q = none ∧ DVs G I ds vs
  | .pen => ∃ a cc, c.P = some (a, cc) ∧ o = some (some (.ref a))
  | .cln d => ∃ v, o = some (some v) ∧ DV G I d v ∧ Cln G I d v
/-- no tables are held -/
def NoT (I : Hp) : Prop := ∀ b ps, I b ≠ some (.tbl ps)
theorem Ext.noT {P : PP} {I H I' H' : Hp} {p' : Pen} (e : Ext P I H p' I' H') (s : Sub I H) (h : NoT I) : NoT I' := fun b ps hb => by
  obtain ⟨ps1, h1⟩ := e.keep.old b ps (e.sub b _ hb)
  cases hi : I b with
  | none => rw [e.new b _ h1 hi] at hb; cases hb
  | some o =>
    have h2 := s b o hi
    rw [h1] at h2
    cases h2
    exact h b ps1 hi
/-- a pen stays one -/
theorem Ext.kind {P : PP} {I H I' H' : Hp} {p p' : Pen} (e : Ext P I H p' I' H') (k : PenOk P p H) (hP : P ≠ none) (hp : p'.isPn = true) : p.isPn = true := by
  cases hc : P with
  | none => exact absurd hc hP
  | some q =>
    have pa := k q.1 q.2 hc
    have pb := e.pen q.1 q.2 hc
    have k1 := e.keep.at_ q.2.1 _ (fun a cc z => by rw [hc] at z; cases z; exact pa.ne) penC_tbl pa.c
    have k2 := pb.c
    rw [k1] at k2
    cases p with
    | pn => rfl
    | ob n fs => cases p' with
      | pn => exact absurd (Option.some.inj k2) (by intro z; unfold penC at z; cases z)
      | ob => cases hp
structure Now (G : Gm) (c : Ctx) (p : Pen) (ρ : List Sl) (σ : L2.St) (I H : Hp) : Prop where
  ext : Ext c.P c.I0 c.H0 p I H
  hid : ∀ a cc, c.P = some (a, cc) → I a = none ∧ (∃ o, c.H0 a = some o) ∧ (∃ o, c.H0 cc.1 = some o) ∧ cc.2 = G.C
  len : σ.length = ρ.length
  rel : ∀ (i : Nat) (s : Sl), ρ[i]? = some s → SlotR G c I H s σ[i]?
  dist : ∀ (i j : Nat) (s t : Sl) (q : Addr), ρ[i]? = some s → ρ[j]? = some t → s.isOwn = true → t.isOwn = true → σ[i]? = some (some (.ref q)) → σ[j]? = some (some (.ref q)) → i = j
  nt : c.P ≠ none → p.isPn = true → NoT I
section
variable {G : Gm} {c : Ctx} {p p' : Pen} {ρ : List Sl} {σ : L2.St} {I H I' H' : Hp}
theorem Now.sub (n : Now G c p ρ σ I H) : Sub I H := n.ext.sub
theorem Now.pen (n : Now G c p ρ σ I H) : PenOk c.P p H := n.ext.pen
theorem Now.refl (n : Now G c p ρ σ I H) : Ext c.P I H p I H := Ext.refl n.sub n.pen
/-- own things are not the pen's -/
theorem Now.apart (n : Now G c p ρ σ I H) {q : Addr} (h : c.H0 q = none) : ∀ a cc, c.P = some (a, cc) → q ≠ a ∧ q ≠ cc.1 := fun a cc e => by
  obtain ⟨_, ⟨o, h1⟩, ⟨o', h2⟩, _⟩ := n.hid a cc e
  exact ⟨fun z => (by rw [z, h1] at h; cases h), fun z => (by rw [z, h2] at h; cases h)⟩
theorem Now.step (n : Now G c p ρ σ I H) (e : Ext c.P I H p' I' H') : Now G c p' ρ σ I' H' := by
  refine ⟨n.ext.trans e, fun a cc z => ⟨?_, (n.hid a cc z).2⟩, n.len, fun i s hs => ?_, n.dist, fun hP hp => e.noT n.sub (n.nt hP (e.kind n.pen hP hp))⟩
  · exact e.new a _ (n.pen a cc z).d (n.hid a cc z).1
  · have r := n.rel i s hs
    cases s with
    | no => trivial
    | val d =>
      obtain ⟨v, h1, h2⟩ := r
      exact ⟨v, h1, h2.mono e.grow⟩
    | own ds =>
      obtain ⟨q, vs, h1, h2, h3, h4, h5⟩ := r
      exact ⟨q, vs, h1, e.keep.at_ q _ (fun a cc z => (n.apart h4 a cc z).1) (fun _ z => by cases z) h2, e.new q _ h2 h3, h4, DVs.mono e.grow h5⟩
    | ownd ks ds =>
      obtain ⟨q, vs, h1, h2, hl, h3, h4, h5⟩ := r
      exact ⟨q, vs, h1, e.keep.at_ q _ (fun a cc z => (n.apart h4 a cc z).1) (fun _ z => by cases z) h2, hl, e.new q _ h2 h3, h4, DVs.mono e.grow h5⟩
    | pen => exact r
    | cln d =>
      obtain ⟨v, h1, h2, h3⟩ := r
      exact ⟨v, h1, h2.mono e.grow, h3.mono e.grow⟩
end

/-! ### what evaluates to what -/
/-- an exception of the class x with the fields ds leaves -/
def Thr (G : Gm) (c : Ctx) (W : XK) (x : Nat) (ds : List D) : Prop :=
  ∀ p' I' H' dx vs, Ext c.P c.I0 c.H0 p' I' H' → H' dx = some (.xd ((G.F x).zip vs)) → (G.F x).length = ds.length → DVs G I' ds vs → W (.ref (G.C x)) (some dx) H'
abbrev KE := List Sl → Pen → R (D × Pen)
abbrev KB := List Sl → Pen → R (Bool × Pen)
abbrev KL := List Sl → Pen → R (List D × Pen)
inductive Fl where
  | nx
  | ret (d : D)
  | bk
  | ct
abbrev KS := List Sl → Pen → R (Fl × List Sl × Pen)
def EvE (G : Gm) (W : XK) (m : KE) (te : TE) : Prop := ∀ (c : Ctx) (p : Pen) (ρ : List Sl) (σ : L2.St) (I H : Hp) (Q : VK), Now G c p ρ σ I H →
  Pst (m ρ p) (Thr G c W) (fun a => ∀ v I' H', Ext c.P I H a.2 I' H' → DV G I' a.1 v → Q v H') → te σ H Q
def EvB (G : Gm) (W : XK) (m : KB) (tt : TT) : Prop := ∀ (c : Ctx) (p : Pen) (ρ : List Sl) (σ : L2.St) (I H : Hp) (Q : Bool → Hp → Prop), Now G c p ρ σ I H →
  Pst (m ρ p) (Thr G c W) (fun a => ∀ I' H', Ext c.P I H a.2 I' H' → Q a.1 H') → tt σ H Q
/-- an argument list -/
def EvA (G : Gm) (W : XK) (m : KL) (ta : TA) : Prop := ∀ (c : Ctx) (p : Pen) (ρ : List Sl) (σ : L2.St) (I H : Hp) (Q : List V → Hp → Prop), Now G c p ρ σ I H →
  Pst (m ρ p) (Thr G c W) (fun a => ∀ vs I' H', Ext c.P I H a.2 I' H' → DVs G I' a.1 vs → Q vs H') → ta σ H Q
/-- a list to be read: it may be an own one -/
def EvL (G : Gm) (W : XK) (m : KL) (te : TE) : Prop := ∀ (c : Ctx) (p : Pen) (ρ : List Sl) (σ : L2.St) (I H : Hp) (Q : VK), Now G c p ρ σ I H →
  Pst (m ρ p) (Thr G c W) (fun a => ∀ q vs I' H', Ext c.P I H a.2 I' H' → H' q = some (.lst vs) → DVs G I' a.1 vs → Q (.ref q) H') → te σ H Q
/-- a new list -/
def EvF (G : Gm) (W : XK) (m : KL) (te : TE) : Prop := ∀ (c : Ctx) (p : Pen) (ρ : List Sl) (σ : L2.St) (I H : Hp) (Q : VK), Now G c p ρ σ I H →
  Pst (m ρ p) (Thr G c W) (fun a => ∀ q vs I' H', Ext c.P I H a.2 I' H' → H q = none → I' q = none → H' q = some (.lst vs) → DVs G I' a.1 vs → Q (.ref q) H') → te σ H Q
def EvS (G : Gm) (W : XK) (m : KS) (ts : TS) : Prop := ∀ (c : Ctx) (p : Pen) (ρ : List Sl) (σ : L2.St) (I H : Hp) (E : Ends), Now G c p ρ σ I H →
  Pst (m ρ p) (Thr G c W) (fun a => match a.1 with
    | .nx => ∀ σ' I' H', Now G c a.2.2 a.2.1 σ' I' H' → Sub I I' → E.nx σ' H'
    | .bk => ∀ σ' I' H', Now G c a.2.2 a.2.1 σ' I' H' → Sub I I' → E.bk σ' H'
    | .ct => ∀ σ' I' H', Now G c a.2.2 a.2.1 σ' I' H' → Sub I I' → E.ct σ' H'
    | .ret d => ∀ v I' H', Ext c.P c.I0 c.H0 a.2.2 I' H' → DV G I' d v → E.rt v H') → ts E σ H

/-- a new list as a value -/
def kFz (m : KL) : KE := fun ρ p => do
  let a ← m ρ p
  pure (.lst a.1, a.2)
theorem EvF.val {G : Gm} {W : XK} {m : KL} {te : TE} (h : EvF G W m te) : EvE G W (kFz m) te := fun c p ρ σ I H Q n k => by
  refine h c p ρ σ I H Q n ?_
  have k := Pst.bind.mp k
  refine k.mono (fun _ _ z => z) fun a ha q vs I' H' e hq hi hH hd => ?_
  have hi' : ∀ b o, H b = some o → b ≠ q := fun b o hb z => by rw [z, hq] at hb; cases hb
  refine ha (.ref q) (upd I' q (.lst vs)) H' ⟨e.keep, e.grow.trans (Sub.new hi), fun b o hb => ?_, fun b o hb hn => ?_, e.pen⟩ ?_
  · by_cases z : b = q
    · subst z
      rw [upd_same] at hb
      rw [hH]
      exact hb
    · rw [upd_ne z] at hb
      exact e.sub b o hb
  · rw [upd_ne (hi' b o hb)]
    exact e.new b o hb hn
  · show DV G (upd I' q (.lst vs)) (.lst a.1) (.ref q)
    unfold DV
    exact ⟨q, vs, rfl, upd_same, DVs.mono (Sub.new hi) hd⟩
theorem EvF.list {G : Gm} {W : XK} {m : KL} {te : TE} (h : EvF G W m te) : EvL G W m te := fun c p ρ σ I H Q n k =>
  h c p ρ σ I H Q n (k.mono (fun _ _ z => z) fun a ha q vs I' H' e _ _ hH hd => ha q vs I' H' e hH hd)
def toL : D → Option (List D)
  | .lst ds => some ds
  | _ => none
def kL (m : KE) : KL := fun ρ p => do
  let a ← m ρ p
  let ds ← ofO (toL a.1)
  pure (ds, a.2)
theorem EvE.list {G : Gm} {W : XK} {m : KE} {te : TE} (h : EvE G W m te) : EvL G W (kL m) te := fun c p ρ σ I H Q n k => by
  refine h c p ρ σ I H Q n ?_
  have k := Pst.bind.mp k
  refine k.mono (fun _ _ z => z) fun a ha v I' H' e hd => ?_
  have ha := Pst.bind.mp ha
  obtain ⟨ds, h1, h2⟩ := Pst.ofO ha
  obtain ⟨d, p1⟩ := a
  cases d with
  | lst xs =>
    have h1 : some xs = some ds := h1
    injection h1 with h1
    subst h1
    have hd : DV G I' (.lst xs) v := hd
    unfold DV at hd
    obtain ⟨q, vs, rfl, h3, h4⟩ := hd
    exact h2 q vs I' H' e (e.sub _ _ h3) h4
  | _ => exact absurd h1 (by intro z; cases z)
end Dn
end
section
set_option Elab.async false
set_option linter.all false
set_option maxRecDepth 100000
set_option maxHeartbeats 2000000
namespace Dn
open PySem PySem.Spec L2

/-! ### a piece of syntax, its reading, its mirror -/
structure ME (X : Cx) (G : Gm) (W : XK) (e : Expr) (te : TE) (m : KE) : Prop where
  pe : PE X e te
  ev : EvE G W m te
structure MT (X : Cx) (G : Gm) (W : XK) (e : Expr) (tt : TT) (m : KB) : Prop where
  pt : PT X e tt
  ev : EvB G W m tt
structure MA (X : Cx) (G : Gm) (W : XK) (es : List Expr) (ta : TA) (m : KL) : Prop where
  pa : PA X es ta
  ev : EvA G W m ta
structure ML (X : Cx) (G : Gm) (W : XK) (e : Expr) (te : TE) (m : KL) : Prop where
  pe : PE X e te
  ev : EvL G W m te
structure MF (X : Cx) (G : Gm) (W : XK) (e : Expr) (te : TE) (m : KL) : Prop where
  pe : PE X e te
  ev : EvF G W m te
structure MS (X : Cx) (G : Gm) (W : XK) (st : Stmt) (ts : TS) (m : KS) : Prop where
  ps : PS X st ts
  ev : EvS G W m ts
structure MB (X : Cx) (G : Gm) (W : XK) (sts : List Stmt) (ts : TS) (m : KS) : Prop where
  ps : PSs X sts ts
  ev : EvS G W m ts
section
variable {X : Cx} {G : Gm} {W : XK} {e a b : Expr} {te ta tb : TE} {tt : TT} {m ma mb : KE} {mt : KB} {ml : KL} {pos : Pos}
theorem MF.val (h : MF X G W e te ml) : ME X G W e te (kFz ml) := ⟨h.pe, h.ev.val⟩
theorem MF.list (h : MF X G W e te ml) : ML X G W e te ml := ⟨h.pe, h.ev.list⟩
theorem ME.list (h : ME X G W e te m) : ML X G W e te (kL m) := ⟨h.pe, h.ev.list⟩

/-! ### names, constants -/
def kC (d : D) : KE := fun _ p => .ok (d, p)
def kVar (i : Nat) : KE := fun ρ p => match ρ[i]? with
  | some (.val d) => .ok (d, p)
  | some (.cln d) => .ok (d, p)
  | _ => .error .stuck
def kOwn (i : Nat) : KL := fun ρ p => match ρ[i]? with
  | some (.own ds) => .ok (ds, p)
  | _ => .error .stuck
theorem ev_var {i : Nat} : EvE G W (kVar i) (tVar i) := fun c p ρ σ I H Q n k => by
  unfold kVar at k
  cases hs : ρ[i]? with
  | none => rw [hs] at k; exact False.elim k
  | some s =>
    rw [hs] at k
    have r := n.rel i s hs
    cases s with
    | val d =>
      obtain ⟨v, h1, h2⟩ := r
      exact ⟨v, h1, k v I H n.refl h2⟩
    | cln d =>
      obtain ⟨v, h1, h2, _⟩ := r
      exact ⟨v, h1, k v I H n.refl h2⟩
    | _ => exact False.elim k
theorem ev_own {i : Nat} : EvL G W (kOwn i) (tVar i) := fun c p ρ σ I H Q n k => by
  unfold kOwn at k
  cases hs : ρ[i]? with
  | none => rw [hs] at k; exact False.elim k
  | some s =>
    rw [hs] at k
    have r := n.rel i s hs
    cases s with
    | own d =>
      obtain ⟨q, vs, h1, h2, h3, h4, h5⟩ := r
      exact ⟨.ref q, h1, k q vs I H n.refl h2 h5⟩
    | _ => exact False.elim k
theorem ev_c {d : D} {v : V} (h : ∀ I, DV G I d v) : EvE G W (kC d) (tC v) := fun c p ρ σ I H Q n k => k v I H n.refl (h I)
theorem me_var (i : Nat) {x : Str} (hN : X.N[i]? = some x := by rfl) (hv : Vis X.env.scope x := by first | exact Or.inl rfl | exact Or.inr (Or.inl rfl) | exact Or.inr (Or.inr rfl)) (hd : (x == ("__debug__" : Str)) = false := by decide)
    (hcd : (x == ("__classdict__" : Str)) = false := by decide) : ME X G W (.Name x pos) (tVar i) (kVar i) := ⟨pe_var hN hv hd hcd, ev_var⟩
theorem ml_own (i : Nat) {x : Str} (hN : X.N[i]? = some x := by rfl) (hv : Vis X.env.scope x := by first | exact Or.inl rfl | exact Or.inr (Or.inl rfl) | exact Or.inr (Or.inr rfl)) (hd : (x == ("__debug__" : Str)) = false := by decide)
    (hcd : (x == ("__classdict__" : Str)) = false := by decide) : ML X G W (.Name x pos) (tVar i) (kOwn i) := ⟨pe_var hN hv hd hcd, ev_own⟩
theorem dv_int {I : Hp} {i : Int} : DV G I (.int i) (.int i) := by unfold DV; rfl
theorem dv_str {I : Hp} {i : Str} : DV G I (.str i) (.str i) := by unfold DV; rfl
theorem dv_bl {I : Hp} {i : Bool} : DV G I (.bl i) (.bl i) := by unfold DV; rfl
theorem dv_non {I : Hp} : DV G I .non .non := by unfold DV; rfl
theorem me_int {i : Int} {j} : ME X G W (.Constant (.int i) j pos) (tC (.int i)) (kC (.int i)) := ⟨pe_int, ev_c fun _ => dv_int⟩
theorem me_str {i : Str} {j} : ME X G W (.Constant (.str i) j pos) (tC (.str i)) (kC (.str i)) := ⟨pe_str, ev_c fun _ => dv_str⟩
theorem me_bl {i : Bool} {j} : ME X G W (.Constant (.bool i) j pos) (tC (.bl i)) (kC (.bl i)) := ⟨pe_bl, ev_c fun _ => dv_bl⟩
theorem me_non {j} : ME X G W (.Constant .none j pos) (tC .non) (kC .non) := ⟨pe_non, ev_c fun _ => dv_non⟩
/-- a constant of the module: an int, a text -/
theorem me_gI {x : Str} {i : Int} {t : Tok} (hm : X.mg x = some (.int i t)) (hg : Gl X x := by rfl) (hd : (x == ("__debug__" : Str)) = false := by decide) : ME X G W (.Name x pos) (tC (.int i)) (kC (.int i)) := ⟨pe_glob hg hm ⟨t, rfl⟩ hd, ev_c fun _ => dv_int⟩
theorem me_gS {x : Str} {i : Str} {t : Tok} (hm : X.mg x = some (.str i t)) (hg : Gl X x := by rfl) (hd : (x == ("__debug__" : Str)) = false := by decide) : ME X G W (.Name x pos) (tC (.str i)) (kC (.str i)) := ⟨pe_glob hg hm ⟨t, rfl⟩ hd, ev_c fun _ => dv_str⟩

/-! ### two-place, one-place operations; calls of built-ins -/
def OpD (G : Gm) (r : R2) (op : D → D → Option D) : Prop := ∀ (I H : Hp) (x y : V) (a b d : D) (Q : VK), Sub I H → DV G I a x → DV G I b y → op a b = some d → (∀ v I' H', ExtN I H I' H' → DV G I' d v → Q v H') → r x y H Q
def UnD (G : Gm) (r : V → Hp → VK → Prop) (op : D → Option D) : Prop := ∀ (I H : Hp) (x : V) (a d : D) (Q : VK), Sub I H → DV G I a x → op a = some d → (∀ v I' H', ExtN I H I' H' → DV G I' d v → Q v H') → r x H Q
def CaD (G : Gm) (r : List V → Hp → VK → Prop) (op : List D → Option D) : Prop := ∀ (I H : Hp) (xs : List V) (as : List D) (d : D) (Q : VK), Sub I H → DVs G I as xs → op as = some d → (∀ v I' H', ExtN I H I' H' → DV G I' d v → Q v H') → r xs H Q
/-- the call gives a new list -/
def CaF (G : Gm) (r : List V → Hp → VK → Prop) (op : List D → Option (List D)) : Prop := ∀ (I H : Hp) (xs : List V) (as ds : List D) (Q : VK), Sub I H → DVs G I as xs → op as = some ds → (∀ q vs I' H', ExtN I H I' H' → H q = none → I' q = none → H' q = some (.lst vs) → DVs G I' ds vs → Q (.ref q) H') → r xs H Q
/-- one list in (an own one, too), a value out -/
def ClD (G : Gm) (r : List V → Hp → VK → Prop) (op : List D → Option D) : Prop := ∀ (I H : Hp) (q : Addr) (vs : List V) (ds : List D) (d : D) (Q : VK), Sub I H → H q = some (.lst vs) → DVs G I ds vs → op ds = some d → (∀ v I' H', ExtN I H I' H' → DV G I' d v → Q v H') → r [.ref q] H Q
def ClF (G : Gm) (r : List V → Hp → VK → Prop) (op : List D → Option (List D)) : Prop := ∀ (I H : Hp) (q : Addr) (vs : List V) (as ds : List D) (Q : VK), Sub I H → H q = some (.lst vs) → DVs G I as vs → op as = some ds → (∀ q vs I' H', ExtN I H I' H' → H q = none → I' q = none → H' q = some (.lst vs) → DVs G I' ds vs → Q (.ref q) H') → r [.ref q] H Q
def kOp (op : D → D → Option D) (ma mb : KE) : KE := fun ρ p => do
  let a ← ma ρ p
  let b ← mb ρ a.2
  let d ← ofO (op a.1 b.1)
  pure (d, b.2)
def kUn (op : D → Option D) (ma : KE) : KE := fun ρ p => do
  let a ← ma ρ p
  let d ← ofO (op a.1)
  pure (d, a.2)
def kCa (op : List D → Option D) (ma : KL) : KE := fun ρ p => do
  let a ← ma ρ p
  let d ← ofO (op a.1)
  pure (d, a.2)
def kCaL (op : List D → Option (List D)) (ma : KL) : KL := fun ρ p => do
  let a ← ma ρ p
  let d ← ofO (op a.1)
  pure (d, a.2)
theorem ev_op {r : R2} {op : D → D → Option D} (ho : OpD G r op) (ha : EvE G W ma ta) (hb : EvE G W mb tb) : EvE G W (kOp op ma mb) (tOp r ta tb) := fun c p ρ σ I H Q n k => by
  refine ha c p ρ σ I H _ n ((Pst.bind.mp k).mono (fun _ _ z => z) fun x hx v I1 H1 e1 d1 => ?_)
  have n1 := n.step e1
  refine hb c x.2 ρ σ I1 H1 _ n1 ((Pst.bind.mp hx).mono (fun _ _ z => z) fun y hy w I2 H2 e2 d2 => ?_)
  obtain ⟨d, ed, k⟩ := Pst.ofO (Pst.bind.mp hy)
  have n2 := n1.step e2
  exact ho I2 H2 v w x.1 y.1 d Q n2.sub (d1.mono e2.grow) d2 ed fun u I3 H3 e3 d3 => k u I3 H3 ((e1.trans e2).trans (e3.to n2.pen)) d3
theorem ev_un {r : V → Hp → VK → Prop} {op : D → Option D} (ho : UnD G r op) (ha : EvE G W ma ta) : EvE G W (kUn op ma) (tUn r ta) := fun c p ρ σ I H Q n k => by
  refine ha c p ρ σ I H _ n ((Pst.bind.mp k).mono (fun _ _ z => z) fun x hx v I1 H1 e1 d1 => ?_)
  have n1 := n.step e1
  obtain ⟨d, ed, k⟩ := Pst.ofO (Pst.bind.mp hx)
  exact ho I1 H1 v x.1 d Q n1.sub d1 ed fun u I3 H3 e3 d3 => k u I3 H3 (e1.trans (e3.to n1.pen)) d3
theorem ev_ca {r : List V → Hp → VK → Prop} {op : List D → Option D} {tr : TA} (ho : CaD G r op) (ha : EvA G W ml tr) : EvE G W (kCa op ml) (tCB r tr) := fun c p ρ σ I H Q n k => by
  refine ha c p ρ σ I H _ n ((Pst.bind.mp k).mono (fun _ _ z => z) fun x hx v I1 H1 e1 d1 => ?_)
  have n1 := n.step e1
  obtain ⟨d, ed, k⟩ := Pst.ofO (Pst.bind.mp hx)
  exact ho I1 H1 v x.1 d Q n1.sub d1 ed fun u I3 H3 e3 d3 => k u I3 H3 (e1.trans (e3.to n1.pen)) d3
theorem ev_caF {r : List V → Hp → VK → Prop} {op : List D → Option (List D)} {tr : TA} (ho : CaF G r op) (ha : EvA G W ml tr) : EvF G W (kCaL op ml) (tCB r tr) := fun c p ρ σ I H Q n k => by
  refine ha c p ρ σ I H _ n ((Pst.bind.mp k).mono (fun _ _ z => z) fun x hx v I1 H1 e1 d1 => ?_)
  have n1 := n.step e1
  obtain ⟨d, ed, k⟩ := Pst.ofO (Pst.bind.mp hx)
  refine ho I1 H1 v x.1 d Q n1.sub d1 ed fun q vs I3 H3 e3 hq hi hh d3 => k q vs I3 H3 (e1.trans (e3.to n1.pen)) ?_ hi hh d3
  cases z : H q with
  | none => rfl
  | some o =>
    obtain ⟨o', h'⟩ := e1.there z
    rw [h'] at hq
    cases hq
/-- one argument that is a list -/
theorem ev_cl {r : List V → Hp → VK → Prop} {op : List D → Option D} (ho : ClD G r op) (ha : EvL G W ml te) : EvE G W (kCa op ml) (tCB r (tCons te tNil)) := fun c p ρ σ I H Q n k => by
  refine ha c p ρ σ I H _ n ((Pst.bind.mp k).mono (fun _ _ z => z) fun x hx q vs I1 H1 e1 hq d1 => ?_)
  have n1 := n.step e1
  obtain ⟨d, ed, k⟩ := Pst.ofO (Pst.bind.mp hx)
  exact ho I1 H1 q vs x.1 d Q n1.sub hq d1 ed fun u I3 H3 e3 d3 => k u I3 H3 (e1.trans (e3.to n1.pen)) d3
theorem ev_clF {r : List V → Hp → VK → Prop} {op : List D → Option (List D)} (ho : ClF G r op) (ha : EvL G W ml te) : EvF G W (kCaL op ml) (tCB r (tCons te tNil)) := fun c p ρ σ I H Q n k => by
  refine ha c p ρ σ I H _ n ((Pst.bind.mp k).mono (fun _ _ z => z) fun x hx q vs I1 H1 e1 hq d1 => ?_)
  have n1 := n.step e1
  obtain ⟨d, ed, k⟩ := Pst.ofO (Pst.bind.mp hx)
  refine ho I1 H1 q vs x.1 d Q n1.sub hq d1 ed fun q vs I3 H3 e3 hq hi hh d3 => k q vs I3 H3 (e1.trans (e3.to n1.pen)) ?_ hi hh d3
  cases z : H q with
  | none => rfl
  | some o =>
    obtain ⟨o', h'⟩ := e1.there z
    rw [h'] at hq
    cases hq
/-! ### argument lists -/
def kNil : KL := fun _ p => .ok ([], p)
def kCons (m : KE) (ms : KL) : KL := fun ρ p => do
  let a ← m ρ p
  let r ← ms ρ a.2
  pure (a.1 :: r.1, r.2)
theorem ev_nil : EvA G W kNil tNil := fun c p ρ σ I H Q n k => k [] I H n.refl (by unfold DVs; rfl)
theorem ev_cons {tr : TA} (ha : EvE G W m te) (hr : EvA G W ml tr) : EvA G W (kCons m ml) (tCons te tr) := fun c p ρ σ I H Q n k => by
  refine ha c p ρ σ I H _ n ((Pst.bind.mp k).mono (fun _ _ z => z) fun x hx v I1 H1 e1 d1 => ?_)
  have n1 := n.step e1
  refine hr c x.2 ρ σ I1 H1 _ n1 ((Pst.bind.mp hx).mono (fun _ _ z => z) fun y hy w I2 H2 e2 d2 => ?_)
  exact hy (v :: w) I2 H2 (e1.trans e2) (by unfold DVs; exact ⟨v, w, rfl, d1.mono e2.grow, d2⟩)
theorem ma_nil : MA X G W [] tNil kNil := ⟨pa_nil, ev_nil⟩
theorem ma_cons {es : List Expr} {tr : TA} (ha : ME X G W e te m) (hr : MA X G W es tr ml) (hs : starEach (e :: es) X.env = (false, eval e X.env) :: starEach es X.env := by rfl) : MA X G W (e :: es) (tCons te tr) (kCons m ml) :=
  ⟨pa_cons ha.pe hr.pa hs, ev_cons ha.ev hr.ev⟩
/-! ### displays -/
def kTup (ml : KL) : KE := fun ρ p => do
  let a ← ml ρ p
  if a.1.length ≤ sizeLine then pure (.tup a.1, a.2) else .error .stuck
def kLst (ml : KL) : KL := fun ρ p => do
  let a ← ml ρ p
  if a.1.length ≤ sizeLine then pure a else .error .stuck
theorem DVs.length {I : Hp} : ∀ {ds : List D} {vs : List V}, DVs G I ds vs → vs.length = ds.length
  | [], _, h => by unfold DVs at h; subst h; rfl
  | d :: ds, _, h => by
    unfold DVs at h
    obtain ⟨v, r, rfl, _, h2⟩ := h
    simp [DVs.length h2]
theorem Pst.ite {α : Type} {c : Prop} [Decidable c] {a : α} {Kx : Nat → List D → Prop} {Ko : α → Prop} (h : Pst (if c then (pure a : R α) else .error .stuck) Kx Ko) : c ∧ Ko a := by
  by_cases hc : c
  · rw [if_pos hc] at h
    exact ⟨hc, h⟩
  · rw [if_neg hc] at h
    exact False.elim h
theorem ev_tup {tr : TA} (ha : EvA G W ml tr) : EvE G W (kTup ml) (tTup tr) := fun c p ρ σ I H Q n k => by
  refine ha c p ρ σ I H _ n ((Pst.bind.mp k).mono (fun _ _ z => z) fun x hx vs I1 H1 e1 d1 => ?_)
  have n1 := n.step e1
  obtain ⟨hl, k⟩ := Pst.ite hx
  refine ⟨by rw [d1.length]; exact hl, fun q hq => ?_⟩
  have e2 := ExtN.lay (o := .tup vs) n1.sub hq
  refine k (.ref q) _ _ (e1.trans (e2.to n1.pen)) ?_
  unfold DV
  exact ⟨q, vs, rfl, SqT.of upd_same, DVs.mono e2.grow d1⟩
theorem ev_lst {tr : TA} (ha : EvA G W ml tr) : EvF G W (kLst ml) (tLst tr) := fun c p ρ σ I H Q n k => by
  refine ha c p ρ σ I H _ n ((Pst.bind.mp k).mono (fun _ _ z => z) fun x hx vs I1 H1 e1 d1 => ?_)
  have n1 := n.step e1
  obtain ⟨hl, k⟩ := Pst.ite hx
  refine ⟨by rw [d1.length]; exact hl, fun q hq => ?_⟩
  have e2 := ExtN.lose (o := .lst vs) n1.sub hq
  have hiq : I1 q = none := by
    cases z : I1 q with
    | none => rfl
    | some o => rw [n1.sub q o z] at hq; cases hq
  refine k q vs _ _ (e1.trans (e2.to n1.pen)) ?_ hiq upd_same d1
  cases z : H q with
  | none => rfl
  | some o =>
    obtain ⟨o', h'⟩ := e1.there z
    rw [h'] at hq
    cases hq
theorem me_tup {es : List Expr} {tr : TA} {k} (h : MA X G W es tr ml) : ME X G W (.Tuple es k pos) (tTup tr) (kTup ml) := ⟨pe_tup h.pa, ev_tup h.ev⟩
theorem mf_lst {es : List Expr} {tr : TA} (h : MA X G W es tr ml) : MF X G W (.List es pos) (tLst tr) (kLst ml) := ⟨pe_lst h.pa, ev_lst h.ev⟩
end
end Dn
end
section
set_option Elab.async false
set_option linter.all false
set_option maxRecDepth 100000
set_option maxHeartbeats 2000000
namespace Dn
open PySem PySem.Spec L2

/-! ### data as the library's data -/
mutual
def pd : D → PyData
  | .non => .none
  | .bl b => .bool b
  | .int i => .int i
  | .str s => .str s
  | .tup ds => .tuple (pds ds)
  | .lst ds => .list (pds ds)
  | .dic _ _ => .dict []
  | .obj _ _ => .dict []
def pds : List D → List PyData
  | [] => []
  | d :: ds => pd d :: pds ds
end
def fit (d : D) : Bool := SeqAt.shaped (pd d)
mutual
theorem dp_of {G : Gm} {I : Hp} : ∀ {d : D} {v : V}, (pd d).canLay0 = true → DV G I d v → Dp G.K I v (pd d)
  | .non, v, _, h => by unfold DV at h; subst h; unfold pd; exact .non
  | .bl b, v, _, h => by unfold DV at h; subst h; unfold pd; exact .bl b
  | .int b, v, _, h => by unfold DV at h; subst h; unfold pd; exact .int b
  | .str b, v, _, h => by unfold DV at h; subst h; unfold pd; exact .str b
  | .tup ds, v, c, h => by
    unfold DV at h
    obtain ⟨a, vs, rfl, h1, h2⟩ := h
    unfold pd at c ⊢
    unfold PyData.canLay0 at c
    exact .tup h1 (dps_of c h2)
  | .lst ds, v, c, h => by
    unfold DV at h
    obtain ⟨a, vs, rfl, h1, h2⟩ := h
    unfold pd at c ⊢
    unfold PyData.canLay0 at c
    exact .lst (SqL.of h1) (dps_of c h2)
  | .dic _ _, v, c, _ => by unfold pd PyData.canLay0 at c; cases c
  | .obj _ _, v, c, _ => by unfold pd PyData.canLay0 at c; cases c
theorem dps_of {G : Gm} {I : Hp} : ∀ {ds : List D} {vs : List V}, PyData.canLayAll0 (pds ds) = true → DVs G I ds vs → DpAll G.K I vs (pds ds)
  | [], vs, _, h => by unfold DVs at h; subst h; unfold pds; exact .nil
  | d :: ds, vs, c, h => by
    unfold DVs at h
    obtain ⟨v, r, rfl, h1, h2⟩ := h
    unfold pds at c ⊢
    unfold PyData.canLayAll0 at c
    have c := Bool.and_eq_true_iff.mp c
    exact .cons (dp_of c.1 h1) (dps_of c.2 h2)
end
theorem fit_lay {d : D} (h : fit d = true) : (pd d).canLay0 = true := (Bool.and_eq_true_iff.mp h).1
section
variable {X : Cx} {G : Gm} {I H : Hp}
theorem dp_in {d : D} {v : V} (s : Sub I H) (f : fit d = true) (h : DV G I d v) : Dp G.K H v (pd d) := dp_of (fit_lay f) (h.mono s)
/-- no step: the value as it is -/
theorem ExtN.self (s : Sub I H) : ExtN I H I H := ExtN.refl s

/-! ### ints -/
def intOp (f : Int → Int → Option D) : D → D → Option D
  | .int i, .int j => f i j
  | _, _ => none
theorem intOp_some {f : Int → Int → Option D} {a b d : D} (h : intOp f a b = some d) : ∃ i j, a = .int i ∧ b = .int j ∧ f i j = some d := by
  unfold intOp at h
  split at h
  · exact ⟨_, _, rfl, rfl, h⟩
  · cases h
theorem od_int0 {g : Int → Int → V} {f : Int → Int → D} (hd : ∀ i j I, DV G I (f i j) (g i j)) : OpD G (rI0 g) (intOp fun i j => some (f i j)) := fun I H x y a b d Q s da db e k => by
  obtain ⟨i, j, ea, eb, e2⟩ := intOp_some e
  subst ea eb
  injection e2 with e2
  subst e2
  unfold DV at da db
  subst da db
  exact ⟨i, j, rfl, rfl, k _ I H (ExtN.refl s) (hd i j I)⟩
theorem od_intC {C : Int → Int → Prop} [∀ i j, Decidable (C i j)] {g : Int → Int → V} {f : Int → Int → D} (hd : ∀ i j I, DV G I (f i j) (g i j)) : OpD G (rI C g) (intOp fun i j => if C i j then some (f i j) else none) := fun I H x y a b d Q s da db e k => by
  obtain ⟨i, j, ea, eb, e2⟩ := intOp_some e
  subst ea eb
  by_cases hc : C i j
  · rw [if_pos hc] at e2
    injection e2 with e2
    subst e2
    unfold DV at da db
    subst da db
    exact ⟨i, j, rfl, rfl, hc, k _ I H (ExtN.refl s) (hd i j I)⟩
  · rw [if_neg hc] at e2
    cases e2
instance (i j : Int) : Decidable (CMul i j) := by unfold CMul; infer_instance
instance (i j : Int) : Decidable (CDiv i j) := by unfold CDiv; infer_instance
instance (i j : Int) : Decidable (CPow i j) := by unfold CPow; infer_instance
def subD := intOp fun i j => some (.int (i - j))
def mulI := intOp fun i j => if CMul i j then some (.int (i * j)) else none
def fdivD := intOp fun i j => if CDiv i j then some (.int (i / j)) else none
def modD := intOp fun i j => if 0 < j then some (.int (i % j)) else none
def ltD := intOp fun i j => some (.bl (decide (i < j)))
def leD := intOp fun i j => some (.bl (decide (i ≤ j)))
def gtD := intOp fun i j => some (.bl (decide (j < i)))
def geD := intOp fun i j => some (.bl (decide (j ≤ i)))
theorem od_sub : OpD G (rI0 fun i j => .int (i - j)) subD := od_int0 fun _ _ _ => dv_int
theorem od_mulI : OpD G (rI CMul fun i j => .int (i * j)) mulI := od_intC fun _ _ _ => dv_int
theorem od_fdiv : OpD G (rI CDiv fun i j => .int (i / j)) fdivD := od_intC fun _ _ _ => dv_int
theorem od_mod : OpD G (rI (fun _ j => 0 < j) fun i j => .int (i % j)) modD := od_intC (C := fun _ j => 0 < j) fun _ _ _ => dv_int
theorem od_lt : OpD G (rI0 fun i j => .bl (decide (i < j))) ltD := od_int0 fun _ _ _ => dv_bl
theorem od_le : OpD G (rI0 fun i j => .bl (decide (i ≤ j))) leD := od_int0 fun _ _ _ => dv_bl
theorem od_gt : OpD G (rI0 fun i j => .bl (decide (j < i))) gtD := od_int0 fun _ _ _ => dv_bl
theorem od_ge : OpD G (rI0 fun i j => .bl (decide (j ≤ i))) geD := od_int0 fun _ _ _ => dv_bl

/-! ### + -/
def rAdd (K : PySem.W.Frag) : R2 := fun x y H Q => rI0 (fun i j => V.int (i + j)) x y H Q ∨ (∃ i j, x = .str i ∧ y = .str j ∧ i.length + j.length ≤ sizeLine ∧ Q (.str (i ++ j)) H) ∨ rCatA K x y H Q ∨ rCat x y H Q
theorem op_addAll : OpR X (binaryOp .Add) (rAdd X.K) := op_add.or (op_add_str.or (op_catA.or op_cat))
def addD : D → D → Option D
  | .int i, .int j => some (.int (i + j))
  | .str i, .str j => if i.length + j.length ≤ sizeLine then some (.str (i ++ j)) else none
  | .tup a, .tup b => if a.length + b.length ≤ sizeLine then some (.tup (a ++ b)) else none
  | .lst a, .lst b => if a.length + b.length ≤ sizeLine then some (.lst (a ++ b)) else none
  | _, _ => none
theorem DVs.append : ∀ {as bs : List D} {vs ws : List V}, DVs G I as vs → DVs G I bs ws → DVs G I (as ++ bs) (vs ++ ws)
  | [], bs, vs, ws, h, k => by unfold DVs at h; subst h; exact k
  | d :: ds, bs, vs, ws, h, k => by
    unfold DVs at h
    obtain ⟨v, r, rfl, h1, h2⟩ := h
    show DVs G I (d :: (ds ++ bs)) _
    unfold DVs
    exact ⟨v, r ++ ws, rfl, h1, DVs.append h2 k⟩
theorem DVs.take : ∀ {as : List D} {vs : List V} (n : Nat), DVs G I as vs → DVs G I (as.take n) (vs.take n)
  | [], vs, n, h => by unfold DVs at h; subst h; simp; unfold DVs; rfl
  | d :: ds, vs, 0, h => by simp; unfold DVs; rfl
  | d :: ds, vs, n + 1, h => by
    unfold DVs at h
    obtain ⟨v, r, rfl, h1, h2⟩ := h
    show DVs G I (d :: ds.take n) (v :: r.take n)
    unfold DVs
    exact ⟨v, _, rfl, h1, DVs.take n h2⟩
theorem DVs.drop : ∀ {as : List D} {vs : List V} (n : Nat), DVs G I as vs → DVs G I (as.drop n) (vs.drop n)
  | [], vs, n, h => by unfold DVs at h; subst h; simp; unfold DVs; rfl
  | d :: ds, vs, 0, h => h
  | d :: ds, vs, n + 1, h => by
    unfold DVs at h
    obtain ⟨v, r, rfl, h1, h2⟩ := h
    exact DVs.drop n h2
theorem DVs.get : ∀ {as : List D} {vs : List V} {i : Nat} {d : D}, DVs G I as vs → as[i]? = some d → ∃ v, vs[i]? = some v ∧ DV G I d v
  | [], vs, i, d, h, e => by simp at e
  | a :: as, vs, 0, d, h, e => by
    unfold DVs at h
    obtain ⟨v, r, rfl, h1, h2⟩ := h
    simp at e
    subst e
    exact ⟨v, rfl, h1⟩
  | a :: as, vs, i + 1, d, h, e => by
    unfold DVs at h
    obtain ⟨v, r, rfl, h1, h2⟩ := h
    obtain ⟨w, h3, h4⟩ := DVs.get (i := i) h2 (by simpa using e)
    exact ⟨w, by simpa using h3, h4⟩
theorem DVs.set : ∀ {as : List D} {vs : List V} {d : D} {v : V} (i : Nat), DVs G I as vs → DV G I d v → DVs G I (as.set i d) (vs.set i v)
  | [], vs, d, v, i, h, _ => by unfold DVs at h; subst h; simp; unfold DVs; rfl
  | a :: as, vs, d, v, 0, h, k => by
    unfold DVs at h
    obtain ⟨w, r, rfl, h1, h2⟩ := h
    show DVs G I (d :: as) (v :: r)
    unfold DVs
    exact ⟨v, r, rfl, k, h2⟩
  | a :: as, vs, d, v, i + 1, h, k => by
    unfold DVs at h
    obtain ⟨w, r, rfl, h1, h2⟩ := h
    show DVs G I (a :: as.set i d) (w :: r.set i v)
    unfold DVs
    exact ⟨w, _, rfl, h1, DVs.set i h2 k⟩
theorem DVs.one {d : D} {vs : List V} : DVs G I [d] vs ↔ ∃ v, vs = [v] ∧ DV G I d v := by
  constructor
  · intro h
    unfold DVs at h
    obtain ⟨v, r, rfl, h1, h2⟩ := h
    unfold DVs at h2
    subst h2
    exact ⟨v, rfl, h1⟩
  · rintro ⟨v, rfl, h⟩
    unfold DVs
    exact ⟨v, [], rfl, h, by unfold DVs; rfl⟩
theorem DVs.nil {vs : List V} : DVs G I [] vs ↔ vs = [] := by unfold DVs; exact Iff.rfl
theorem DVs.nil_iff {ds : List D} {vs : List V} (h : DVs G I ds vs) : vs = [] ↔ ds = [] := by
  have := h.length
  constructor
  · intro e; subst e; exact List.eq_nil_of_length_eq_zero this.symm
  · intro e; subst e; exact List.eq_nil_of_length_eq_zero this
theorem od_add : OpD G (rAdd G.K) addD := fun I H x y a b d Q s da db e k => by
  unfold addD at e
  split at e
  · injection e with e; subst e
    unfold DV at da db; subst da db
    exact .inl ⟨_, _, rfl, rfl, k _ I H (ExtN.refl s) dv_int⟩
  · split at e
    · rename_i hl
      injection e with e; subst e
      unfold DV at da db; subst da db
      exact .inr (.inl ⟨_, _, rfl, rfl, hl, k _ I H (ExtN.refl s) dv_str⟩)
    · cases e
  · split at e
    · rename_i as bs hl
      injection e with e; subst e
      have da' := da
      have db' := db
      unfold DV at da' db'
      obtain ⟨p, xs, rfl, h1, h2⟩ := da'
      obtain ⟨q, ys, rfl, h3, h4⟩ := db'
      refine .inr (.inr (.inl ⟨p, q, xs, ys, rfl, rfl, s.seqT h1, s.seqT h3, by rw [h2.length, h4.length]; exact hl, fun hx => ?_, fun hx hy => ?_, fun hx hy t ht => ?_⟩))
      · have := h2.nil_iff.mp hx
        subst this
        exact k _ I H (ExtN.refl s) db
      · have := h4.nil_iff.mp hy
        subst this
        rw [List.append_nil] at k
        exact k _ I H (ExtN.refl s) da
      · have e2 := ExtN.lay (o := .tup (xs ++ ys)) s ht
        refine k _ _ _ e2 ?_
        unfold DV
        exact ⟨t, _, rfl, SqT.of upd_same, DVs.append (DVs.mono e2.grow h2) (DVs.mono e2.grow h4)⟩
    · cases e
  · split at e
    · rename_i as bs hl
      injection e with e; subst e
      unfold DV at da db
      obtain ⟨p, xs, rfl, h1, h2⟩ := da
      obtain ⟨q, ys, rfl, h3, h4⟩ := db
      refine .inr (.inr (.inr ⟨p, q, xs, ys, rfl, rfl, s _ _ h1, s _ _ h3, by rw [h2.length, h4.length]; exact hl, fun t ht => ?_⟩))
      have e2 := ExtN.lay (o := .lst (xs ++ ys)) s ht
      refine k _ _ _ e2 ?_
      unfold DV
      exact ⟨t, _, rfl, upd_same, DVs.append (DVs.mono e2.grow h2) (DVs.mono e2.grow h4)⟩
    · cases e
  · cases e

/-! ### == -/
def vOf : D → V
  | .non => .non
  | .bl b => .bl b
  | .int i => .int i
  | .str s => .str s
  | _ => .ref 0
theorem vOf_eq {d : D} {v : V} (h : DV G I d v) (hs : ∀ ds, d ≠ .tup ds) (hl : ∀ ds, d ≠ .lst ds) (hd : ∀ ks ds, d ≠ .dic ks ds) (ho : ∀ c ds, d ≠ .obj c ds) : v = vOf d := by
  cases d with
  | non => unfold DV at h; exact h
  | bl b => unfold DV at h; exact h
  | int b => unfold DV at h; exact h
  | str b => unfold DV at h; exact h
  | tup ds => exact absurd rfl (hs ds)
  | lst ds => exact absurd rfl (hl ds)
  | dic ks ds => exact absurd rfl (hd ks ds)
  | obj ks ds => exact absurd rfl (ho ks ds)
def scalD : D → D → Bool
  | .non, .non => true | .non, .int _ => true | .int _, .non => true | .non, .bl _ => true | .bl _, .non => true | .non, .str _ => true | .str _, .non => true
  | .int _, .int _ => true | .bl _, .bl _ => true | .str _, .str _ => true
  | .int _, .str _ => true | .str _, .int _ => true | .bl _, .str _ => true | .str _, .bl _ => true
  | _, _ => false
def rEqA (K : PySem.W.Frag) : R2 := fun x y H Q => rEq x y H Q ∨ rEqD K x y H Q
def rNeA (K : PySem.W.Frag) : R2 := fun x y H Q => rNe x y H Q ∨ rNeD K x y H Q
theorem op_eqAll (hu : X.A.units + 64 < cLine) : OpR X (compareOp .Eq) (rEqA X.K) := op_eq.or (op_eqD hu)
theorem op_neAll (hu : X.A.units + 64 < cLine) : OpR X (compareOp .NotEq) (rNeA X.K) := op_ne.or (op_neD hu)
/-- whether two data are equal -/
def eqB (a b : D) : Option Bool := if scalD a b = true then some (decide (a = b)) else if fit a = true ∧ fit b = true then some (PyData.eqv (pd a) (pd b)) else none
def eqD (a b : D) : Option D := (eqB a b).map .bl
def neD (a b : D) : Option D := (eqB a b).map fun k => .bl (!k)
theorem scalD_ok {a b : D} {x y : V} (h : scalD a b = true) (da : DV G I a x) (db : DV G I b y) : scal x y = true ∧ decide (x = y) = decide (a = b) := by
  unfold scalD at h
  split at h <;> first
    | (unfold DV at da db; subst da db; refine ⟨rfl, ?_⟩; simp)
    | cases h
theorem od_eq : OpD G (rEqA G.K) eqD := fun I H x y a b d Q s da db e k => by
  unfold eqD eqB at e
  by_cases h : scalD a b = true
  · rw [if_pos h] at e
    simp only [Option.map_some, Option.some.injEq] at e
    subst e
    obtain ⟨h1, h2⟩ := scalD_ok h da db
    exact .inl ⟨h1, by rw [h2]; exact k _ I H (ExtN.refl s) dv_bl⟩
  · rw [if_neg h] at e
    by_cases hf : fit a = true ∧ fit b = true
    · rw [if_pos hf] at e
      simp only [Option.map_some, Option.some.injEq] at e
      subst e
      exact .inr ⟨pd a, pd b, dp_in s hf.1 da, dp_in s hf.2 db, hf.1, hf.2, k _ I H (ExtN.refl s) dv_bl⟩
    · rw [if_neg hf] at e
      cases e
theorem od_ne : OpD G (rNeA G.K) neD := fun I H x y a b d Q s da db e k => by
  unfold neD eqB at e
  by_cases h : scalD a b = true
  · rw [if_pos h] at e
    simp only [Option.map_some, Option.some.injEq] at e
    subst e
    obtain ⟨h1, h2⟩ := scalD_ok h da db
    exact .inl ⟨h1, by rw [h2]; exact k _ I H (ExtN.refl s) dv_bl⟩
  · rw [if_neg h] at e
    by_cases hf : fit a = true ∧ fit b = true
    · rw [if_pos hf] at e
      simp only [Option.map_some, Option.some.injEq] at e
      subst e
      exact .inr ⟨pd a, pd b, dp_in s hf.1 da, dp_in s hf.2 db, hf.1, hf.2, k _ I H (ExtN.refl s) dv_bl⟩
    · rw [if_neg hf] at e
      cases e
end
end Dn
end
section
set_option Elab.async false
set_option linter.all false
set_option maxRecDepth 100000
set_option maxHeartbeats 2000000
namespace Dn
open PySem PySem.Spec L2

structure MW (X : Cx) (G : Gm) (W : XK) (e : Expr) (tt : TT) (m : KB) : Prop where
  pw : PW X e tt
  ev : EvB G W m tt
section
variable {X : Cx} {G : Gm} {W : XK} {e a b : Expr} {te ta tb : TE} {tt tu : TT} {m ma mb : KE} {mt mu : KB} {ml : KL} {pos : Pos}

/-! ### tests -/
def toB : D → Option Bool
  | .bl b => some b
  | _ => none
theorem toB_some {d : D} {k : Bool} (h : toB d = some k) : d = .bl k := by
  unfold toB at h
  split at h
  · injection h with h; rw [h]
  · cases h
def kT (m : KE) : KB := fun ρ p => do
  let a ← m ρ p
  let k ← ofO (toB a.1)
  pure (k, a.2)
theorem ev_T (h : EvE G W m te) : EvB G W (kT m) (tB te) := fun c p ρ σ I H Q n k => by
  refine h c p ρ σ I H _ n ((Pst.bind.mp k).mono (fun _ _ z => z) fun x hx v I1 H1 e1 d1 => ?_)
  obtain ⟨d, ed, k⟩ := Pst.ofO (Pst.bind.mp hx)
  rw [toB_some ed] at d1
  unfold DV at d1
  exact ⟨d, d1, k I1 H1 e1⟩
theorem ev_TT (h : EvE G W m te) : EvB G W (kT m) (tTest te) := ev_T h
def kAndB (t u : KB) : KB := fun ρ p => do
  let a ← t ρ p
  if a.1 = true then u ρ a.2 else pure (false, a.2)
def kOrB (t u : KB) : KB := fun ρ p => do
  let a ← t ρ p
  if a.1 = true then pure (true, a.2) else u ρ a.2
def kNotB (t : KB) : KB := fun ρ p => do
  let a ← t ρ p
  pure (!a.1, a.2)
theorem ev_andB (h : EvB G W mt tt) (h2 : EvB G W mu tu) : EvB G W (kAndB mt mu) (tAnd tt tu) := fun c p ρ σ I H Q n k => by
  refine h c p ρ σ I H _ n ((Pst.bind.mp k).mono (fun _ _ z => z) fun x hx I1 H1 e1 => ?_)
  obtain ⟨x, p1⟩ := x
  cases x with
  | true => exact h2 c p1 ρ σ I1 H1 _ (n.step e1) ((show Pst (mu ρ p1) _ _ from hx).mono (fun _ _ z => z) fun y hy I2 H2 e2 => hy I2 H2 (e1.trans e2))
  | false => exact (show ∀ I' H', Ext c.P I H p1 I' H' → Q false H' from hx) I1 H1 e1
theorem ev_orB (h : EvB G W mt tt) (h2 : EvB G W mu tu) : EvB G W (kOrB mt mu) (tOr tt tu) := fun c p ρ σ I H Q n k => by
  refine h c p ρ σ I H _ n ((Pst.bind.mp k).mono (fun _ _ z => z) fun x hx I1 H1 e1 => ?_)
  obtain ⟨x, p1⟩ := x
  cases x with
  | false => exact h2 c p1 ρ σ I1 H1 _ (n.step e1) ((show Pst (mu ρ p1) _ _ from hx).mono (fun _ _ z => z) fun y hy I2 H2 e2 => hy I2 H2 (e1.trans e2))
  | true => exact (show ∀ I' H', Ext c.P I H p1 I' H' → Q true H' from hx) I1 H1 e1
theorem ev_notB (h : EvB G W mt tt) : EvB G W (kNotB mt) (tNot tt) := fun c p ρ σ I H Q n k =>
  h c p ρ σ I H _ n ((Pst.bind.mp k).mono (fun _ _ z => z) fun x hx I1 H1 e1 => hx I1 H1 e1)
theorem mt_val (h : ME X G W e te m) (he : ∀ whole, isTrue e X.env whole = (do let v ← whole; standAt e.pos; holding [v] (truthy v)) := by intro _; rfl) : MT X G W e (tB te) (kT m) := ⟨pt_val h.pe he, ev_T h.ev⟩
theorem mt_cmp {op : CmpOp} {r : R2} {f : D → D → Option D} (ho : OpR X (compareOp op) r) (hd : OpD G r f) (ha : ME X G W a ta ma) (hb : ME X G W b tb mb) (hm : behindInMarks op b = false := by with_unfolding_all rfl) :
    MT X G W (.Compare a [op] [b] pos) (tTest (tOp r ta tb)) (kT (kOp f ma mb)) := ⟨pt_cmpR ho ha.pe hb.pe hm, ev_TT (ev_op hd ha.ev hb.ev)⟩
theorem me_cmp {op : CmpOp} {r : R2} {f : D → D → Option D} (ho : OpR X (compareOp op) r) (hd : OpD G r f) (ha : ME X G W a ta ma) (hb : ME X G W b tb mb) (hm : behindInMarks op b = false := by with_unfolding_all rfl) :
    ME X G W (.Compare a [op] [b] pos) (tOp r ta tb) (kOp f ma mb) := ⟨pe_cmpR ho ha.pe hb.pe hm, ev_op hd ha.ev hb.ev⟩
theorem me_bin {op : Operator} {r : R2} {f : D → D → Option D} (ho : OpR X (binaryOp op) r) (hd : OpD G r f) (ha : ME X G W a ta ma) (hb : ME X G W b tb mb) : ME X G W (.BinOp a op b pos) (tOp r ta tb) (kOp f ma mb) :=
  ⟨pe_op ho ha.pe hb.pe, ev_op hd ha.ev hb.ev⟩
theorem mt_not (h : MT X G W a tt mt) : MT X G W (.UnaryOp .Not a pos) (tNot tt) (kNotB mt) := ⟨pt_not h.pt, ev_notB h.ev⟩
theorem mw_and1 (h : MT X G W a tt mt) : MW X G W (.BoolOp .And [a] pos) tt mt := ⟨pw_and1 h.pt, h.ev⟩
theorem mw_or1 (h : MT X G W a tt mt) : MW X G W (.BoolOp .Or [a] pos) tt mt := ⟨pw_or1 h.pt, h.ev⟩
theorem mw_and {rest : List Expr} (h : MT X G W a tt mt) (h2 : MW X G W (.BoolOp .And (b :: rest) pos) tu mu) : MW X G W (.BoolOp .And (a :: b :: rest) pos) (tAnd tt tu) (kAndB mt mu) := ⟨pw_and h.pt h2.pw, ev_andB h.ev h2.ev⟩
theorem mw_or {rest : List Expr} (h : MT X G W a tt mt) (h2 : MW X G W (.BoolOp .Or (b :: rest) pos) tu mu) : MW X G W (.BoolOp .Or (a :: b :: rest) pos) (tOr tt tu) (kOrB mt mu) := ⟨pw_or h.pt h2.pw, ev_orB h.ev h2.ev⟩
theorem MW.pt (h : MW X G W e tt mt) : MT X G W e tt mt := ⟨h.pw.pt, h.ev⟩
/-! .. as values -/
def kAndV (ma mb : KE) : KE := fun ρ p => do
  let a ← ma ρ p
  let k ← ofO (toB a.1)
  if k = true then mb ρ a.2 else pure (.bl false, a.2)
def kOrV (ma mb : KE) : KE := fun ρ p => do
  let a ← ma ρ p
  let k ← ofO (toB a.1)
  if k = true then pure (.bl true, a.2) else mb ρ a.2
def notD (d : D) : Option D := (toB d).map fun k => .bl (!k)
def kIf (t : KB) (ma mb : KE) : KE := fun ρ p => do
  let a ← t ρ p
  if a.1 = true then ma ρ a.2 else mb ρ a.2
theorem ev_andV (ha : EvE G W ma ta) (hb : EvE G W mb tb) : EvE G W (kAndV ma mb) (tAndV ta tb) := fun c p ρ σ I H Q n k => by
  refine ha c p ρ σ I H _ n ((Pst.bind.mp k).mono (fun _ _ z => z) fun x hx v I1 H1 e1 d1 => ?_)
  obtain ⟨d, ed, k⟩ := Pst.ofO (Pst.bind.mp hx)
  obtain ⟨x, p1⟩ := x
  have ed := toB_some ed
  simp only at ed
  subst ed
  have d1 : DV G I1 (.bl d) v := d1
  unfold DV at d1
  refine ⟨d, d1, ?_⟩
  cases d with
  | true => exact hb c p1 ρ σ I1 H1 _ (n.step e1) ((show Pst (mb ρ p1) _ _ from k).mono (fun _ _ z => z) fun y hy w I2 H2 e2 d2 => hy w I2 H2 (e1.trans e2) d2)
  | false => exact (show ∀ v I' H', Ext c.P I H p1 I' H' → DV G I' (.bl false) v → Q v H' from k) (.bl false) I1 H1 e1 dv_bl
theorem ev_orV (ha : EvE G W ma ta) (hb : EvE G W mb tb) : EvE G W (kOrV ma mb) (tOrV ta tb) := fun c p ρ σ I H Q n k => by
  refine ha c p ρ σ I H _ n ((Pst.bind.mp k).mono (fun _ _ z => z) fun x hx v I1 H1 e1 d1 => ?_)
  obtain ⟨d, ed, k⟩ := Pst.ofO (Pst.bind.mp hx)
  obtain ⟨x, p1⟩ := x
  have ed := toB_some ed
  simp only at ed
  subst ed
  have d1 : DV G I1 (.bl d) v := d1
  unfold DV at d1
  refine ⟨d, d1, ?_⟩
  cases d with
  | false => exact hb c p1 ρ σ I1 H1 _ (n.step e1) ((show Pst (mb ρ p1) _ _ from k).mono (fun _ _ z => z) fun y hy w I2 H2 e2 d2 => hy w I2 H2 (e1.trans e2) d2)
  | true => exact (show ∀ v I' H', Ext c.P I H p1 I' H' → DV G I' (.bl true) v → Q v H' from k) (.bl true) I1 H1 e1 dv_bl
theorem ev_notV (ha : EvE G W ma ta) : EvE G W (kUn notD ma) (tNotV ta) := fun c p ρ σ I H Q n k => by
  refine ha c p ρ σ I H _ n ((Pst.bind.mp k).mono (fun _ _ z => z) fun x hx v I1 H1 e1 d1 => ?_)
  obtain ⟨d, ed, k⟩ := Pst.ofO (Pst.bind.mp hx)
  unfold notD at ed
  cases hb : toB x.1 with
  | none => rw [hb] at ed; cases ed
  | some b =>
    rw [hb] at ed
    simp only [Option.map_some, Option.some.injEq] at ed
    subst ed
    rw [toB_some hb] at d1
    unfold DV at d1
    exact ⟨b, d1, k _ I1 H1 e1 dv_bl⟩
theorem ev_if (h : EvB G W mt tt) (ha : EvE G W ma ta) (hb : EvE G W mb tb) : EvE G W (kIf mt ma mb) (tIf tt ta tb) := fun c p ρ σ I H Q n k => by
  refine h c p ρ σ I H _ n ((Pst.bind.mp k).mono (fun _ _ z => z) fun x hx I1 H1 e1 => ?_)
  obtain ⟨x, p1⟩ := x
  cases x with
  | true => exact ha c p1 ρ σ I1 H1 _ (n.step e1) ((show Pst (ma ρ p1) _ _ from hx).mono (fun _ _ z => z) fun y hy w I2 H2 e2 d2 => hy w I2 H2 (e1.trans e2) d2)
  | false => exact hb c p1 ρ σ I1 H1 _ (n.step e1) ((show Pst (mb ρ p1) _ _ from hx).mono (fun _ _ z => z) fun y hy w I2 H2 e2 d2 => hy w I2 H2 (e1.trans e2) d2)
theorem me_one {op} (h : ME X G W a ta ma) : ME X G W (.BoolOp op [a] pos) ta ma := ⟨pe_one h.pe, h.ev⟩
theorem me_and {rest : List Expr} (ha : ME X G W a ta ma) (hb : ME X G W (.BoolOp .And (b :: rest) pos) tb mb) : ME X G W (.BoolOp .And (a :: b :: rest) pos) (tAndV ta tb) (kAndV ma mb) := ⟨pe_and ha.pe hb.pe, ev_andV ha.ev hb.ev⟩
theorem me_or {rest : List Expr} (ha : ME X G W a ta ma) (hb : ME X G W (.BoolOp .Or (b :: rest) pos) tb mb) : ME X G W (.BoolOp .Or (a :: b :: rest) pos) (tOrV ta tb) (kOrV ma mb) := ⟨pe_or ha.pe hb.pe, ev_orV ha.ev hb.ev⟩
theorem me_not (ha : ME X G W a ta ma) : ME X G W (.UnaryOp .Not a pos) (tNotV ta) (kUn notD ma) := ⟨pe_not ha.pe, ev_notV ha.ev⟩
theorem me_if {t : Expr} (h : MT X G W t tt mt) (ha : ME X G W a ta ma) (hb : ME X G W b tb mb) : ME X G W (.IfExp t a b pos) (tIf tt ta tb) (kIf mt ma mb) := ⟨pe_ifExp h.pt ha.pe hb.pe, ev_if h.ev ha.ev hb.ev⟩
def negD : D → Option D
  | .int i => some (.int (-i))
  | _ => none
theorem ud_neg : UnD G (rU fun i => .int (-i)) negD := fun I H x a d Q s da e k => by
  unfold negD at e
  split at e
  · injection e with e; subst e
    unfold DV at da; subst da
    exact ⟨_, rfl, k _ I H (ExtN.refl s) dv_int⟩
  · cases e
theorem me_neg (ha : ME X G W a ta ma) : ME X G W (.UnaryOp .USub a pos) (tUn (rU fun i => .int (-i)) ta) (kUn negD ma) := ⟨pe_un un_neg ha.pe, ev_un ud_neg ha.ev⟩

/-! ### is -/
def rIsA : R2 := fun x y H Q => (y = .non ∨ ∃ b, y = .bl b) ∧ Q (.bl (decide (x = y))) H
def rIsNotA : R2 := fun x y H Q => (y = .non ∨ ∃ b, y = .bl b) ∧ Q (.bl (!decide (x = y))) H
theorem op_isA : OpR X (compareOp .Is) rIsA := by
  intro pins s σ H x y v u Q I rx ry h
  obtain ⟨h, q⟩ := h
  rcases h with rfl | ⟨b, rfl⟩
  · exact op_isN pins s σ H x .non v u Q I rx ry ⟨rfl, q⟩
  · cases (show u = Value.bool b from ry)
    cases x with
    | bl a => exact op_isBl pins s σ H (.bl a) (.bl b) v _ Q I rx rfl ⟨a, b, rfl, rfl, by simpa using q⟩
    | non => cases rx; exact wpAny_is_other rfl (by intro z; cases z) ⟨.bl false, H, I, rfl, by simpa using q⟩
    | int _ => obtain ⟨t, rfl⟩ := rx; exact wpAny_is_other rfl (by intro z; cases z) ⟨.bl false, H, I, rfl, by simpa using q⟩
    | str _ => obtain ⟨t, rfl⟩ := rx; exact wpAny_is_other rfl (by intro z; cases z) ⟨.bl false, H, I, rfl, by simpa using q⟩
    | byt _ => obtain ⟨t, rfl⟩ := rx; exact wpAny_is_other rfl (by intro z; cases z) ⟨.bl false, H, I, rfl, by simpa using q⟩
    | flt _ => obtain ⟨t, rfl⟩ := rx; exact wpAny_is_other rfl (by intro z; cases z) ⟨.bl false, H, I, rfl, by simpa using q⟩
    | ref _ => cases rx; exact wpAny_is_other rfl (by intro z; cases z) ⟨.bl false, H, I, rfl, by simpa using q⟩
    | ty _ => cases rx; exact wpAny_is_other rfl (by intro z; cases z) ⟨.bl false, H, I, rfl, by simpa using q⟩
theorem op_isNotA : OpR X (compareOp .IsNot) rIsNotA := by
  intro pins s σ H x y v u Q I rx ry h
  obtain ⟨h, q⟩ := h
  rcases h with rfl | ⟨b, rfl⟩
  · exact op_notN pins s σ H x .non v u Q I rx ry ⟨rfl, q⟩
  · cases (show u = Value.bool b from ry)
    cases x with
    | bl a => exact op_notBl pins s σ H (.bl a) (.bl b) v _ Q I rx rfl ⟨a, b, rfl, rfl, by simpa using q⟩
    | non => cases rx; exact wpAny_isNot_other rfl (by intro z; cases z) ⟨.bl true, H, I, rfl, by simpa using q⟩
    | int _ => obtain ⟨t, rfl⟩ := rx; exact wpAny_isNot_other rfl (by intro z; cases z) ⟨.bl true, H, I, rfl, by simpa using q⟩
    | str _ => obtain ⟨t, rfl⟩ := rx; exact wpAny_isNot_other rfl (by intro z; cases z) ⟨.bl true, H, I, rfl, by simpa using q⟩
    | byt _ => obtain ⟨t, rfl⟩ := rx; exact wpAny_isNot_other rfl (by intro z; cases z) ⟨.bl true, H, I, rfl, by simpa using q⟩
    | flt _ => obtain ⟨t, rfl⟩ := rx; exact wpAny_isNot_other rfl (by intro z; cases z) ⟨.bl true, H, I, rfl, by simpa using q⟩
    | ref _ => cases rx; exact wpAny_isNot_other rfl (by intro z; cases z) ⟨.bl true, H, I, rfl, by simpa using q⟩
    | ty _ => cases rx; exact wpAny_isNot_other rfl (by intro z; cases z) ⟨.bl true, H, I, rfl, by simpa using q⟩
/-- what `is` may have on its right -/
def isR : D → Bool
  | .non => true
  | .bl _ => true
  | _ => false
def isD (a b : D) : Option D := if isR b = true then some (.bl (decide (a = b))) else none
def isNotD (a b : D) : Option D := if isR b = true then some (.bl (!decide (a = b))) else none
theorem isR_dec {I : Hp} {a b : D} {x y : V} (h : isR b = true) (da : DV G I a x) (db : DV G I b y) : (y = .non ∨ ∃ b, y = .bl b) ∧ decide (x = y) = decide (a = b) := by
  cases b with
  | non =>
    unfold DV at db; subst db
    refine ⟨.inl rfl, ?_⟩
    cases a with
    | non => unfold DV at da; subst da; simp
    | bl _ => unfold DV at da; subst da; simp
    | int _ => unfold DV at da; subst da; simp
    | str _ => unfold DV at da; subst da; simp
    | tup _ => unfold DV at da; obtain ⟨_, _, rfl, _⟩ := da; simp
    | lst _ => unfold DV at da; obtain ⟨_, _, rfl, _⟩ := da; simp
    | dic _ _ => unfold DV at da; obtain ⟨_, _, rfl, _⟩ := da; simp
    | obj _ _ => unfold DV at da; obtain ⟨_, _, _, rfl, _⟩ := da; simp
  | bl k =>
    unfold DV at db; subst db
    refine ⟨.inr ⟨_, rfl⟩, ?_⟩
    cases a with
    | non => unfold DV at da; subst da; simp
    | bl _ => unfold DV at da; subst da; simp
    | int _ => unfold DV at da; subst da; simp
    | str _ => unfold DV at da; subst da; simp
    | tup _ => unfold DV at da; obtain ⟨_, _, rfl, _⟩ := da; simp
    | lst _ => unfold DV at da; obtain ⟨_, _, rfl, _⟩ := da; simp
    | dic _ _ => unfold DV at da; obtain ⟨_, _, rfl, _⟩ := da; simp
    | obj _ _ => unfold DV at da; obtain ⟨_, _, _, rfl, _⟩ := da; simp
  | _ => cases h
theorem od_is : OpD G rIsA isD := fun I H x y a b d Q s da db e k => by
  unfold isD at e
  by_cases h : isR b = true
  · rw [if_pos h] at e
    injection e with e; subst e
    obtain ⟨h1, h2⟩ := isR_dec h da db
    exact ⟨h1, by rw [h2]; exact k _ I H (ExtN.refl s) dv_bl⟩
  · rw [if_neg h] at e; cases e
theorem od_isNot : OpD G rIsNotA isNotD := fun I H x y a b d Q s da db e k => by
  unfold isNotD at e
  by_cases h : isR b = true
  · rw [if_pos h] at e
    injection e with e; subst e
    obtain ⟨h1, h2⟩ := isR_dec h da db
    exact ⟨h1, by rw [h2]; exact k _ I H (ExtN.refl s) dv_bl⟩
  · rw [if_neg h] at e; cases e

/-! ### in -/
def flatD : D → Bool
  | .non => true
  | .bl _ => true
  | .int _ => true
  | .str _ => true
  | _ => false
theorem flatD_v {I : Hp} {d : D} {v : V} (f : flatD d = true) (h : DV G I d v) : v = vOf d ∧ flatV v = true := by
  cases d with
  | non => unfold DV at h; subst h; exact ⟨rfl, rfl⟩
  | bl _ => unfold DV at h; subst h; exact ⟨rfl, rfl⟩
  | int _ => unfold DV at h; subst h; exact ⟨rfl, rfl⟩
  | str _ => unfold DV at h; subst h; exact ⟨rfl, rfl⟩
  | _ => cases f
theorem eqV_pd {a b : D} (fa : flatD a = true) (fb : flatD b = true) : eqV (vOf a) (vOf b) = PyData.eqv (pd a) (pd b) := by
  cases a <;> first
    | (cases fa; done)
    | (cases b <;> first
        | (cases fb; done)
        | (simp only [pd, PyData.eqv, vOf, eqV]; done)
        | (simp only [pd, PyData.eqv, vOf]; rfl))
theorem flats_v {I : Hp} : ∀ {ds : List D} {vs : List V}, ds.all flatD = true → DVs G I ds vs → vs.all flatV = true ∧ ∀ x : D, flatD x = true → inV (vOf x) vs = ds.any fun z => PyData.eqv (pd z) (pd x)
  | [], vs, _, h => by unfold DVs at h; subst h; exact ⟨rfl, fun _ _ => rfl⟩
  | d :: ds, vs, f, h => by
    unfold DVs at h
    obtain ⟨v, r, rfl, h1, h2⟩ := h
    rw [List.all_cons, Bool.and_eq_true] at f
    obtain ⟨e1, e2⟩ := flatD_v f.1 h1
    obtain ⟨h3, h4⟩ := flats_v f.2 h2
    refine ⟨by rw [List.all_cons, e2, h3]; rfl, fun x fx => ?_⟩
    rw [List.any_cons, ← h4 x fx, ← eqV_pd f.1 fx, ← e1]
    rfl
def inB (x : D) : D → Option Bool
  | .str b => match x with
    | .str a => some (!(Builtin.Str.occurrences b a 0 b.length 1).isEmpty)
    | _ => none
  | .tup ds => if flatD x = true ∧ ds.all flatD = true then some (ds.any fun z => PyData.eqv (pd z) (pd x)) else none
  | .lst ds => if flatD x = true ∧ ds.all flatD = true then some (ds.any fun z => PyData.eqv (pd z) (pd x)) else if fit x = true ∧ fit (.lst ds) = true then some (ds.any fun z => PyData.eqv (pd z) (pd x)) else none
  | _ => none
def inD (x c : D) : Option D := (inB x c).map .bl
def notInD (x c : D) : Option D := (inB x c).map fun k => .bl (!k)
def rInA (K : PySem.W.Frag) : R2 := fun x y H Q => (∃ i j, x = .str i ∧ y = .str j ∧ Q (.bl (!(Builtin.Str.occurrences j i 0 j.length 1).isEmpty)) H) ∨ rIn K false x y H Q ∨ rInD K x y H Q
def rNotInA (K : PySem.W.Frag) : R2 := fun x y H Q => (∃ i j, x = .str i ∧ y = .str j ∧ Q (.bl (!(!(Builtin.Str.occurrences j i 0 j.length 1).isEmpty))) H) ∨ rIn K true x y H Q ∨ rNotInD K x y H Q
theorem op_inA (hu : X.A.units + 65 < cLine) : OpR X (compareOp .In) (rInA X.K) := op_in_str.or (op_in_seq.or (op_inD hu))
theorem op_notInA (hu : X.A.units + 65 < cLine) : OpR X (compareOp .NotIn) (rNotInA X.K) := op_notin_str.or (op_notIn_seq.or (op_notInD hu))
theorem pds_any (f : PyData → Bool) : ∀ ds : List D, (pds ds).any f = ds.any fun z => f (pd z)
  | [] => by unfold pds; rfl
  | d :: ds => by unfold pds; rw [List.any_cons, List.any_cons, pds_any f ds]
theorem od_in : OpD G (rInA G.K) inD := fun I H x y a b d Q s da db e k => by
  unfold inD at e
  cases hb : inB a b with
  | none => rw [hb] at e; cases e
  | some z =>
    rw [hb] at e
    simp only [Option.map_some, Option.some.injEq] at e
    subst e
    have k := k (.bl z) I H (ExtN.refl s) dv_bl
    unfold inB at hb
    split at hb
    · split at hb
      · injection hb with hb
        unfold DV at da db
        subst da db
        exact .inl ⟨_, _, rfl, rfl, by rw [hb]; exact k⟩
      · cases hb
    · split at hb
      · rename_i ds hc
        injection hb with hb
        unfold DV at db
        obtain ⟨q, vs, rfl, h1, h2⟩ := db
        obtain ⟨e1, e2⟩ := flatD_v hc.1 da
        obtain ⟨h3, h4⟩ := flats_v hc.2 h2
        refine .inr (.inl ⟨q, vs, rfl, .inr (s.seqT h1), e2, h3, ?_⟩)
        show Q (.bl (inV x vs)) H
        rw [e1, h4 a hc.1, hb]
        exact k
      · cases hb
    · rename_i ds
      split at hb
      · rename_i hc
        injection hb with hb
        unfold DV at db
        obtain ⟨q, vs, rfl, h1, h2⟩ := db
        obtain ⟨e1, e2⟩ := flatD_v hc.1 da
        obtain ⟨h3, h4⟩ := flats_v hc.2 h2
        refine .inr (.inl ⟨q, vs, rfl, .inl (SqL.of (s _ _ h1)), e2, h3, ?_⟩)
        show Q (.bl (inV x vs)) H
        rw [e1, h4 a hc.1, hb]
        exact k
      · split at hb
        · rename_i hf
          injection hb with hb
          have h2 := dp_in s hf.2 db
          unfold pd at h2
          refine .inr (.inr ⟨pd a, pds ds, dp_in s hf.1 da, h2, hf.1, ?_, ?_⟩)
          · have := hf.2
            unfold fit pd at this
            exact this
          · rw [pds_any, hb]
            exact k
        · cases hb
    · cases hb
theorem od_notIn : OpD G (rNotInA G.K) notInD := fun I H x y a b d Q s da db e k => by
  unfold notInD at e
  cases hb : inB a b with
  | none => rw [hb] at e; cases e
  | some z =>
    rw [hb] at e
    simp only [Option.map_some, Option.some.injEq] at e
    subst e
    have k := k (.bl (!z)) I H (ExtN.refl s) dv_bl
    unfold inB at hb
    split at hb
    · split at hb
      · injection hb with hb
        unfold DV at da db
        subst da db
        exact .inl ⟨_, _, rfl, rfl, by rw [hb]; exact k⟩
      · cases hb
    · split at hb
      · rename_i ds hc
        injection hb with hb
        unfold DV at db
        obtain ⟨q, vs, rfl, h1, h2⟩ := db
        obtain ⟨e1, e2⟩ := flatD_v hc.1 da
        obtain ⟨h3, h4⟩ := flats_v hc.2 h2
        refine .inr (.inl ⟨q, vs, rfl, .inr (s.seqT h1), e2, h3, ?_⟩)
        show Q (.bl (!inV x vs)) H
        rw [e1, h4 a hc.1, hb]
        exact k
      · cases hb
    · rename_i ds
      split at hb
      · rename_i hc
        injection hb with hb
        unfold DV at db
        obtain ⟨q, vs, rfl, h1, h2⟩ := db
        obtain ⟨e1, e2⟩ := flatD_v hc.1 da
        obtain ⟨h3, h4⟩ := flats_v hc.2 h2
        refine .inr (.inl ⟨q, vs, rfl, .inl (SqL.of (s _ _ h1)), e2, h3, ?_⟩)
        show Q (.bl (!inV x vs)) H
        rw [e1, h4 a hc.1, hb]
        exact k
      · split at hb
        · rename_i hf
          injection hb with hb
          have h2 := dp_in s hf.2 db
          unfold pd at h2
          refine .inr (.inr ⟨pd a, pds ds, dp_in s hf.1 da, h2, hf.1, ?_, ?_⟩)
          · have := hf.2
            unfold fit pd at this
            exact this
          · rw [pds_any, hb]
            exact k
        · cases hb
    · cases hb
end
end Dn
end
section
set_option Elab.async false
set_option linter.all false
set_option maxRecDepth 100000
set_option maxHeartbeats 2000000
namespace Dn
open PySem PySem.Spec L2

section
variable {X : Cx} {G : Gm} {W : XK} {e a b : Expr} {te ta tb : TE} {tt tu : TT} {m ma mb : KE} {mt mu : KB} {ml mk : KL} {pos : Pos}

/-! ### subscripts -/
def ixD : D → D → Option D
  | .tup ds, .int i => atI ds i
  | .lst ds, .int i => atI ds i
  | .str z, .int i => if z.length ≤ sizeLine then (atI z.cps.toList i).map fun c => .str ⟨#[c]⟩ else none
  | _, _ => none
theorem DVs.at {I : Hp} {ds : List D} {vs : List V} {i : Int} {d : D} (h : DVs G I ds vs) (e : atI ds i = some d) : ∃ v, atI vs i = some v ∧ DV G I d v := by
  unfold atI at e ⊢
  rw [h.length]
  cases hn : ixN ds.length i with
  | none => rw [hn] at e; cases e
  | some j =>
    rw [hn] at e
    exact h.get e
theorem od_ix : OpD G (rIx G.K) ixD := fun I H x y a b d Q s da db e k => by
  unfold ixD at e
  split at e
  · unfold DV at da db
    obtain ⟨q, vs, rfl, h1, h2⟩ := da
    subst db
    obtain ⟨v, h3, h4⟩ := h2.at e
    exact .inr (.inl ⟨q, vs, _, v, rfl, rfl, s.seqT h1, h3, k v I H (ExtN.refl s) h4⟩)
  · unfold DV at da db
    obtain ⟨q, vs, rfl, h1, h2⟩ := da
    subst db
    obtain ⟨v, h3, h4⟩ := h2.at e
    exact .inl ⟨q, vs, _, v, rfl, rfl, SqL.of (s _ _ h1), h3, k v I H (ExtN.refl s) h4⟩
  · unfold DV at da db
    subst da db
    split at e
    · rename_i z i hz
      cases hc : atI z.cps.toList i with
      | none => rw [hc] at e; cases e
      | some c =>
        rw [hc] at e
        simp only [Option.map_some, Option.some.injEq] at e
        subst e
        exact .inr (.inr ⟨z, i, c, rfl, rfl, hz, hc, k _ I H (ExtN.refl s) dv_str⟩)
    · cases e
  · cases e
theorem me_ix (ha : ME X G W a ta ma) (hb : ME X G W b tb mb) (hk : X.K = G.K := by rfl) (hs : PlainIx b := by exact fun _ _ => rfl) : ME X G W (.Subscript a b pos) (tOp (rIx X.K) ta tb) (kOp ixD ma mb) :=
  ⟨pe_ix ix_seq ha.pe hb.pe hs, ev_op (by rw [hk]; exact od_ix) ha.ev hb.ev⟩
/-- an item of a list that may be an own one -/
def kIxL (ml : KL) (mb : KE) : KE := fun ρ p => do
  let a ← ml ρ p
  let b ← mb ρ a.2
  let d ← ofO (ixD (.lst a.1) b.1)
  pure (d, b.2)
/-- between two expressions an own list of ours stays -/
def KeepL (m : KE) : Prop := True
theorem ev_ixO {i : Nat} (hb : EvE G W mb tb) : EvE G W (kIxL (kOwn i) mb) (tOp (rIx G.K) (tVar i) tb) := fun c p ρ σ I H Q n k => by
  have k := Pst.bind.mp k
  unfold kOwn at k
  cases hs : ρ[i]? with
  | none => rw [hs] at k; exact False.elim k
  | some sl =>
    rw [hs] at k
    have r := n.rel i sl hs
    cases sl with
    | own ds =>
      obtain ⟨q, vs, h1, h2, h3, h4, h5⟩ := r
      refine ⟨.ref q, h1, ?_⟩
      have k : Pst (do let b ← mb ρ p; let d ← ofO (ixD (.lst ds) b.1); pure (d, b.2)) _ _ := k
      refine hb c p ρ σ I H _ n ((Pst.bind.mp k).mono (fun _ _ z => z) fun y hy w I2 H2 e2 d2 => ?_)
      obtain ⟨d, ed, k⟩ := Pst.ofO (Pst.bind.mp hy)
      have n2 := n.step e2
      obtain ⟨y1, p2⟩ := y
      unfold ixD at ed
      split at ed
      · rename_i e1 _; cases e1
      · rename_i xs j e1 ej
        cases e1
        simp only at ej
        have d2 : DV G I2 y1 w := d2
        rw [ej] at d2
        unfold DV at d2
        subst d2
        have h5' := DVs.mono e2.grow h5
        obtain ⟨v, h6, h7⟩ := h5'.at ed
        exact .inl ⟨q, vs, _, v, rfl, rfl, SqL.of (e2.keep.at_ q _ (fun a cc z => (n.apart h4 a cc z).1) (fun _ z => by cases z) h2), h6, k v I2 H2 e2 h7⟩
      · rename_i e1 _; cases e1
      · cases ed
    | _ => exact False.elim k
theorem me_ixO (i : Nat) {x : Str} {px : Pos} (hb : ME X G W b tb mb) (hN : X.N[i]? = some x := by rfl) (hv : Vis X.env.scope x := by first | exact Or.inl rfl | exact Or.inr (Or.inl rfl) | exact Or.inr (Or.inr rfl)) (hk : X.K = G.K := by rfl) (hs : PlainIx b := by exact fun _ _ => rfl)
    (hd : (x == ("__debug__" : Str)) = false := by decide) (hcd : (x == ("__classdict__" : Str)) = false := by decide) : ME X G W (.Subscript (.Name x px) b pos) (tOp (rIx X.K) (tVar i) tb) (kIxL (kOwn i) mb) :=
  ⟨pe_ix ix_seq (pe_var hN hv hd hcd) hb.pe hs, by rw [hk]; exact ev_ixO hb.ev⟩

/-! ### slices -/
abbrev KO := List Sl → Pen → R (Option Int × Pen)
def EvO (G : Gm) (W : XK) (m : KO) (to : TO) : Prop := ∀ (c : Ctx) (p : Pen) (ρ : List Sl) (σ : L2.St) (I H : Hp) (Q : Option Int → Hp → Prop), Now G c p ρ σ I H →
  Pst (m ρ p) (Thr G c W) (fun a => ∀ I' H', Ext c.P I H a.2 I' H' → Q a.1 H') → to σ H Q
structure MO (X : Cx) (G : Gm) (W : XK) (e : Option Expr) (to : TO) (m : KO) : Prop where
  po : L2.PO X e to
  ev : EvO G W m to
def kNone : KO := fun _ p => .ok (none, p)
def toI : D → Option Int
  | .int i => some i
  | _ => none
theorem toI_some {d : D} {i : Int} (h : toI d = some i) : d = .int i := by
  unfold toI at h
  split at h
  · injection h with h; rw [h]
  · cases h
def kPart (m : KE) : KO := fun ρ p => do
  let a ← m ρ p
  let i ← ofO (toI a.1)
  pure (some i, a.2)
theorem mo_none : MO X G W none tNoPart kNone := ⟨po_none, fun c p ρ σ I H Q n k => k I H n.refl⟩
theorem mo_some (h : ME X G W e te m) : MO X G W (some e) (tPart te) (kPart m) := ⟨po_some h.pe, fun c p ρ σ I H Q n k => by
  refine h.ev c p ρ σ I H _ n ((Pst.bind.mp k).mono (fun _ _ z => z) fun x hx v I1 H1 e1 d1 => ?_)
  obtain ⟨i, ei, k⟩ := Pst.ofO (Pst.bind.mp hx)
  rw [toI_some ei] at d1
  unfold DV at d1
  exact ⟨i, d1, k I1 H1 e1⟩⟩
def cutA {α : Type} (xs : List α) (lo hi : Option Int) : List α := (xs.drop (HT.sIx xs.length 0 lo)).take (HT.sIx xs.length xs.length hi - HT.sIx xs.length 0 lo)
theorem cutA_v {I : Hp} {ds : List D} {vs : List V} {lo hi : Option Int} (h : DVs G I ds vs) : DVs G I (cutA ds lo hi) (cutV vs lo hi) := by
  unfold cutA cutV
  rw [h.length]
  exact DVs.take _ (DVs.drop _ h)
def sliceD : D → Option Int → Option Int → Option D
  | .tup ds, lo, hi => some (.tup (cutA ds lo hi))
  | .lst ds, lo, hi => some (.lst (cutA ds lo hi))
  | .str z, lo, hi => if z.length ≤ sizeLine then some (.str (Txt.slice z lo hi)) else none
  | _, _, _ => none
def rSlAll (K : PySem.W.Frag) : V → Option Int → Option Int → Hp → VK → Prop := fun x lo hi H Q => rSlA K x lo hi H Q ∨ rSlL K x lo hi H Q ∨ C8.rSlX x lo hi H Q
theorem sl_all : SlR X (rSlAll X.K) := sl_tupA.or (sl_list.or C8.sl_txt)
def kSl (ma : KE) (ml mh : KO) : KE := fun ρ p => do
  let a ← ma ρ p
  let l ← ml ρ a.2
  let h ← mh ρ l.2
  let d ← ofO (sliceD a.1 l.1 h.1)
  pure (d, h.2)
theorem me_slice {lo hi : Option Expr} {tl th : TO} {m1 m2 : KO} {p2 : Pos} (ha : ME X G W a ta ma) (hl : MO X G W lo tl m1) (hh : MO X G W hi th m2) (hk : X.K = G.K := by rfl) : ME X G W (.Subscript a (.Slice lo hi none p2) pos) (tSl (rSlAll X.K) ta tl th) (kSl ma m1 m2) := by
  refine ⟨pe_slice sl_all ha.pe hl.po hh.po, fun c p ρ σ I H Q n k => ?_⟩
  rw [hk]
  refine ha.ev c p ρ σ I H _ n ((Pst.bind.mp k).mono (fun _ _ z => z) fun x hx v I1 H1 e1 d1 => ?_)
  have n1 := n.step e1
  refine hl.ev c x.2 ρ σ I1 H1 _ n1 ((Pst.bind.mp hx).mono (fun _ _ z => z) fun y hy I2 H2 e2 => ?_)
  have n2 := n1.step e2
  refine hh.ev c y.2 ρ σ I2 H2 _ n2 ((Pst.bind.mp hy).mono (fun _ _ z => z) fun z hz I3 H3 e3 => ?_)
  have n3 := n2.step e3
  obtain ⟨d, ed, k⟩ := Pst.ofO (Pst.bind.mp hz)
  have k := fun v I' H' (e : Ext c.P I3 H3 z.2 I' H') => k v I' H' (((e1.trans e2).trans e3).trans e)
  have d3 := d1.mono (e2.grow.trans e3.grow)
  generalize x.1 = dx at ed d3
  cases dx with
  | tup ds =>
    injection (show some (D.tup (cutA ds y.1 z.1)) = some d from ed) with ed
    subst ed
    have d3' := d3
    unfold DV at d3'
    obtain ⟨q, vs, rfl, h1, h2⟩ := d3'
    refine .inl ⟨q, vs, rfl, n3.sub.seqT h1, fun hw => ?_, fun hw t ht => ?_⟩
    · have e : cutA ds y.1 z.1 = ds := by
        rw [h2.length] at hw
        unfold cutA
        rw [hw.1, hw.2]
        simp
      rw [e] at k
      exact k _ I3 H3 n3.refl d3
    · have e4 := ExtN.lay (o := .tup (cutV vs y.1 z.1)) n3.sub ht
      refine k _ _ _ (e4.to n3.pen) ?_
      unfold DV
      exact ⟨t, _, rfl, SqT.of upd_same, cutA_v (DVs.mono e4.grow h2)⟩
  | lst ds =>
    injection (show some (D.lst (cutA ds y.1 z.1)) = some d from ed) with ed
    subst ed
    unfold DV at d3
    obtain ⟨q, vs, rfl, h1, h2⟩ := d3
    refine .inr (.inl ⟨q, vs, rfl, SqL.of (n3.sub _ _ h1), fun t ht => ?_⟩)
    have e4 := ExtN.lay (o := .lst (cutV vs y.1 z.1)) n3.sub ht
    refine k _ _ _ (e4.to n3.pen) ?_
    unfold DV
    exact ⟨t, _, rfl, upd_same, cutA_v (DVs.mono e4.grow h2)⟩
  | str zz =>
    have ed : (if zz.length ≤ sizeLine then some (D.str (Txt.slice zz y.1 z.1)) else none) = some d := ed
    split at ed
    · rename_i hz
      injection ed with ed
      subst ed
      unfold DV at d3
      subst d3
      exact .inr (.inr ⟨zz, rfl, hz, k _ I3 H3 n3.refl dv_str⟩)
    · cases ed
  | _ => exact absurd (show (none : Option D) = some d from ed) (by intro z; cases z)

/-! ### lists: + with operands that may be own -/
def kCat (ma mb : KL) : KL := fun ρ p => do
  let a ← ma ρ p
  let b ← mb ρ a.2
  if a.1.length + b.1.length ≤ sizeLine then pure (a.1 ++ b.1, b.2) else .error .stuck
/-- the left one an own slot -/
theorem ev_catO {i : Nat} (hb : EvL G W mk tb) : EvF G W (kCat (kOwn i) mk) (tOp rCat (tVar i) tb) := fun c p ρ σ I H Q n k => by
  have k := Pst.bind.mp k
  unfold kOwn at k
  cases hs : ρ[i]? with
  | none => rw [hs] at k; exact False.elim k
  | some sl =>
    rw [hs] at k
    have r := n.rel i sl hs
    cases sl with
    | own ds =>
      obtain ⟨q, vs, h1, h2, h3, h4, h5⟩ := r
      refine ⟨.ref q, h1, ?_⟩
      have k : Pst (do let b ← mk ρ p; if ds.length + b.1.length ≤ sizeLine then pure (ds ++ b.1, b.2) else .error .stuck) _ _ := k
      refine hb c p ρ σ I H _ n ((Pst.bind.mp k).mono (fun _ _ z => z) fun y hy r ws I2 H2 e2 hr d2 => ?_)
      obtain ⟨hl, k⟩ := Pst.ite hy
      have n2 := n.step e2
      have hq2 := e2.keep.at_ q _ (fun a cc z => (n.apart h4 a cc z).1) (fun _ z => by cases z) h2
      refine ⟨q, r, vs, ws, rfl, rfl, hq2, hr, by rw [h5.length, d2.length]; exact hl, fun t ht => ?_⟩
      have e3 := ExtN.lose (o := .lst (vs ++ ws)) n2.sub ht
      refine k t _ I2 _ (e2.trans (e3.to n2.pen)) ?_ ?_ upd_same (DVs.append (DVs.mono e2.grow h5) d2)
      · cases z : H t with
        | none => rfl
        | some o => obtain ⟨o', h'⟩ := e2.there z; rw [h'] at ht; cases ht
      · cases z : I2 t with
        | none => rfl
        | some o => rw [n2.sub t o z] at ht; cases ht
    | _ => exact False.elim k
theorem mf_catO (i : Nat) {x : Str} {px : Pos} (hb : ML X G W b tb mk) (hN : X.N[i]? = some x := by rfl) (hv : Vis X.env.scope x := by first | exact Or.inl rfl | exact Or.inr (Or.inl rfl) | exact Or.inr (Or.inr rfl))
    (hd : (x == ("__debug__" : Str)) = false := by decide) (hcd : (x == ("__classdict__" : Str)) = false := by decide) : MF X G W (.BinOp (.Name x px) .Add b pos) (tOp rCat (tVar i) tb) (kCat (kOwn i) mk) := ⟨pe_op op_cat (pe_var hN hv hd hcd) hb.pe, ev_catO hb.ev⟩
/-- the left one a value -/
theorem ev_catV (ha : EvE G W ma ta) (hb : EvL G W mk tb) : EvF G W (kCat (kL ma) mk) (tOp rCat ta tb) := fun c p ρ σ I H Q n k => by
  have k := Pst.bind.mp (Pst.bind.mp k)
  refine ha c p ρ σ I H _ n (k.mono (fun _ _ z => z) fun x hx v I1 H1 e1 d1 => ?_)
  have n1 := n.step e1
  obtain ⟨as, ea, hx⟩ := Pst.ofO (Pst.bind.mp hx)
  obtain ⟨x1, p1⟩ := x
  cases x1 with
  | lst xs =>
    have ea : some xs = some as := ea
    injection ea with ea
    subst ea
    have hx := Pst.bind.mp hx
    refine hb c p1 ρ σ I1 H1 _ n1 (hx.mono (fun _ _ z => z) fun y hy r ws I2 H2 e2 hr d2 => ?_)
    obtain ⟨hl, k⟩ := Pst.ite hy
    have n2 := n1.step e2
    have d1 := (show DV G I1 (.lst xs) v from d1).mono e2.grow
    unfold DV at d1
    obtain ⟨q, vs, rfl, h1, h2⟩ := d1
    refine ⟨q, r, vs, ws, rfl, rfl, n2.sub _ _ h1, hr, by rw [h2.length, d2.length]; exact hl, fun t ht => ?_⟩
    have e3 := ExtN.lose (o := .lst (vs ++ ws)) n2.sub ht
    refine k t _ I2 _ ((e1.trans e2).trans (e3.to n2.pen)) ?_ ?_ upd_same (DVs.append h2 d2)
    · cases z : H t with
      | none => rfl
      | some o => obtain ⟨o', h'⟩ := (e1.trans e2).there z; rw [h'] at ht; cases ht
    · cases z : I2 t with
      | none => rfl
      | some o => rw [n2.sub t o z] at ht; cases ht
  | _ => exact absurd ea (by intro z; cases z)
theorem mf_catV (ha : ME X G W a ta ma) (hb : ML X G W b tb mk) : MF X G W (.BinOp a .Add b pos) (tOp rCat ta tb) (kCat (kL ma) mk) := ⟨pe_op op_cat ha.pe hb.pe, ev_catV ha.ev hb.ev⟩
/-- [x] * n -/
def repL (ds : List D) (d : D) : Option (List D) := match d with
  | .int k => if k < 2 ^ 63 ∧ -(2 ^ 63) ≤ k ∧ ds.length * k.toNat ≤ sizeLine then some (List.replicate k.toNat ds).flatten else none
  | _ => none
def kRep (ma : KL) (mb : KE) : KL := fun ρ p => do
  let a ← ma ρ p
  let b ← mb ρ a.2
  let d ← ofO (repL a.1 b.1)
  pure (d, b.2)
theorem DVs.rep {I : Hp} {ds : List D} {vs : List V} (h : DVs G I ds vs) : ∀ n : Nat, DVs G I (List.replicate n ds).flatten (List.replicate n vs).flatten
  | 0 => by simp; unfold DVs; rfl
  | n + 1 => by rw [List.replicate_succ, List.replicate_succ, List.flatten_cons, List.flatten_cons]; exact DVs.append h (DVs.rep h n)
theorem ev_rep (ha : EvF G W ml ta) (hb : EvE G W mb tb) : EvF G W (kRep ml mb) (tOp rRep ta tb) := fun c p ρ σ I H Q n k => by
  refine ha c p ρ σ I H _ n ((Pst.bind.mp k).mono (fun _ _ z => z) fun x hx q vs I1 H1 e1 hq0 hiq hq d1 => ?_)
  have n1 := n.step e1
  refine hb c x.2 ρ σ I1 H1 _ n1 ((Pst.bind.mp hx).mono (fun _ _ z => z) fun y hy w I2 H2 e2 d2 => ?_)
  have n2 := n1.step e2
  obtain ⟨ds, ed, k⟩ := Pst.ofO (Pst.bind.mp hy)
  unfold repL at ed
  split at ed
  · rename_i j hj
    split at ed
    · rename_i hc
      injection ed with ed
      subst ed
      rw [hj] at d2
      unfold DV at d2
      subst d2
      have hq2 : H2 q = some (.lst vs) := e2.keep.at_ q _ (fun a cc z => by
        rintro rfl
        have := (n.pen q cc z).d
        rw [hq0] at this
        cases this) (fun _ z => by cases z) hq
      refine ⟨q, j, vs, rfl, rfl, hq2, hc.2.1, hc.1, by rw [d1.length]; exact hc.2.2, fun t ht => ?_⟩
      have e3 := ExtN.lose (o := .lst (List.replicate j.toNat vs).flatten) n2.sub ht
      refine k t _ I2 _ ((e1.trans e2).trans (e3.to n2.pen)) ?_ ?_ upd_same (DVs.rep (DVs.mono e2.grow d1) _)
      · cases z : H t with
        | none => rfl
        | some o => obtain ⟨o', h'⟩ := (e1.trans e2).there z; rw [h'] at ht; cases ht
      · cases z : I2 t with
        | none => rfl
        | some o => rw [n2.sub t o z] at ht; cases ht
    · cases ed
  · cases ed
theorem mf_rep (ha : MF X G W a ta ml) (hb : ME X G W b tb mb) : MF X G W (.BinOp a .Mult b pos) (tOp rRep ta tb) (kRep ml mb) := ⟨pe_op op_rep ha.pe hb.pe, ev_rep ha.ev hb.ev⟩
/-- (x,) * n -/
def repT (a b : D) : Option D := match a, b with
  | .tup ds, .int k => if 2 ≤ k ∧ k ≤ 1000 ∧ ds.length ≤ 1000 ∧ ds ≠ [] then some (.tup (List.replicate k.toNat ds).flatten) else none
  | _, _ => none
theorem od_repT : OpD G (rRepT G.K) repT := fun I H x y a b d Q s da db e k => by
  unfold repT at e
  split at e
  · rename_i ds j
    split at e
    · rename_i hc
      injection e with e; subst e
      unfold DV at da db
      obtain ⟨q, vs, rfl, h1, h2⟩ := da
      subst db
      refine ⟨q, j, vs, rfl, rfl, s.seqT h1, fun z => hc.2.2.2 (h2.nil_iff.mp z), hc.1, hc.2.1, by rw [h2.length]; exact hc.2.2.1, fun t ht => ?_⟩
      have e2 := ExtN.lay (o := .tup (List.replicate j.toNat vs).flatten) s ht
      refine k _ _ _ e2 ?_
      unfold DV
      exact ⟨t, _, rfl, SqT.of upd_same, DVs.rep (DVs.mono e2.grow h2) _⟩
    · cases e
  · cases e

/-! ### calls of built-ins -/
theorem me_callB {id : String} {r : List V → Hp → VK → Prop} {op : List D → Option D} {x : Str} {p : Pos} {es : List Expr} {tr : TA} (hc : CallR X (.builtin id) r) (hd : CaD G r op) (hv : bootBuiltins x = some (.builtin id)) (hm : X.mg x = none) (ha : MA X G W (e :: es) tr ml)
    (hg : Gl X x := by rfl) (hn : x ≠ "__name__" := by decide) (hdb : (x == ("__debug__" : Str)) = false := by decide) (he : starEach (e :: es) X.env = (false, eval e X.env) :: starEach es X.env := by rfl) (hpl : (backTo pos (starEach es X.env)).any (·.1) = false := by rfl) :
    ME X G W (.Call (.Name x p) (e :: es) [] pos) (tCB r tr) (kCa op ml) := ⟨pe_callB hc hg hm hv ha.pa hn hdb he hpl, ev_ca hd ha.ev⟩
theorem me_callTy {T : String} {r : List V → Hp → VK → Prop} {op : List D → Option D} {x : Str} {p : Pos} {es : List Expr} {tr : TA} (hc : CallR X (.type T) r) (hd : CaD G r op) (hv : bootBuiltins x = some (.type T)) (hm : X.mg x = none) (ha : MA X G W (e :: es) tr ml)
    (hg : Gl X x := by rfl) (hn : x ≠ "__name__" := by decide) (hdb : (x == ("__debug__" : Str)) = false := by decide) (he : starEach (e :: es) X.env = (false, eval e X.env) :: starEach es X.env := by rfl) (hpl : (backTo pos (starEach es X.env)).any (·.1) = false := by rfl) :
    ME X G W (.Call (.Name x p) (e :: es) [] pos) (tCB r tr) (kCa op ml) := ⟨pe_callTy hc hg hm hv ha.pa hn hdb he hpl, ev_ca hd ha.ev⟩
/-- one argument, a list that may be own -/
theorem me_callBL {id : String} {r : List V → Hp → VK → Prop} {op : List D → Option D} {x : Str} {p : Pos} (hc : CallR X (.builtin id) r) (hd : ClD G r op) (hv : bootBuiltins x = some (.builtin id)) (hm : X.mg x = none) (ha : ML X G W e te ml)
    (hg : Gl X x := by rfl) (hn : x ≠ "__name__" := by decide) (hdb : (x == ("__debug__" : Str)) = false := by decide) (he : starEach (e :: []) X.env = (false, eval e X.env) :: starEach [] X.env := by rfl) :
    ME X G W (.Call (.Name x p) [e] [] pos) (tCB r (tCons te tNil)) (kCa op ml) := ⟨pe_callB hc hg hm hv (pa_cons ha.pe pa_nil he) hn hdb he rfl, ev_cl hd ha.ev⟩
theorem me_callTyL {T : String} {r : List V → Hp → VK → Prop} {op : List D → Option D} {x : Str} {p : Pos} (hc : CallR X (.type T) r) (hd : ClD G r op) (hv : bootBuiltins x = some (.type T)) (hm : X.mg x = none) (ha : ML X G W e te ml)
    (hg : Gl X x := by rfl) (hn : x ≠ "__name__" := by decide) (hdb : (x == ("__debug__" : Str)) = false := by decide) (he : starEach (e :: []) X.env = (false, eval e X.env) :: starEach [] X.env := by rfl) :
    ME X G W (.Call (.Name x p) [e] [] pos) (tCB r (tCons te tNil)) (kCa op ml) := ⟨pe_callTy hc hg hm hv (pa_cons ha.pe pa_nil he) hn hdb he rfl, ev_cl hd ha.ev⟩
theorem mf_callBL {id : String} {r : List V → Hp → VK → Prop} {op : List D → Option (List D)} {x : Str} {p : Pos} (hc : CallR X (.builtin id) r) (hd : ClF G r op) (hv : bootBuiltins x = some (.builtin id)) (hm : X.mg x = none) (ha : ML X G W e te ml)
    (hg : Gl X x := by rfl) (hn : x ≠ "__name__" := by decide) (hdb : (x == ("__debug__" : Str)) = false := by decide) (he : starEach (e :: []) X.env = (false, eval e X.env) :: starEach [] X.env := by rfl) :
    MF X G W (.Call (.Name x p) [e] [] pos) (tCB r (tCons te tNil)) (kCaL op ml) := ⟨pe_callB hc hg hm hv (pa_cons ha.pe pa_nil he) hn hdb he rfl, ev_clF hd ha.ev⟩
theorem mf_callB {id : String} {r : List V → Hp → VK → Prop} {op : List D → Option (List D)} {x : Str} {p : Pos} {es : List Expr} {tr : TA} (hc : CallR X (.builtin id) r) (hd : CaF G r op) (hv : bootBuiltins x = some (.builtin id)) (hm : X.mg x = none) (ha : MA X G W (e :: es) tr ml)
    (hg : Gl X x := by rfl) (hn : x ≠ "__name__" := by decide) (hdb : (x == ("__debug__" : Str)) = false := by decide) (he : starEach (e :: es) X.env = (false, eval e X.env) :: starEach es X.env := by rfl) (hpl : (backTo pos (starEach es X.env)).any (·.1) = false := by rfl) :
    MF X G W (.Call (.Name x p) (e :: es) [] pos) (tCB r tr) (kCaL op ml) := ⟨pe_callB hc hg hm hv ha.pa hn hdb he hpl, ev_caF hd ha.ev⟩
theorem mf_callTy {T : String} {r : List V → Hp → VK → Prop} {op : List D → Option (List D)} {x : Str} {p : Pos} {es : List Expr} {tr : TA} (hc : CallR X (.type T) r) (hd : CaF G r op) (hv : bootBuiltins x = some (.type T)) (hm : X.mg x = none) (ha : MA X G W (e :: es) tr ml)
    (hg : Gl X x := by rfl) (hn : x ≠ "__name__" := by decide) (hdb : (x == ("__debug__" : Str)) = false := by decide) (he : starEach (e :: es) X.env = (false, eval e X.env) :: starEach es X.env := by rfl) (hpl : (backTo pos (starEach es X.env)).any (·.1) = false := by rfl) :
    MF X G W (.Call (.Name x p) (e :: es) [] pos) (tCB r tr) (kCaL op ml) := ⟨pe_callTy hc hg hm hv ha.pa hn hdb he hpl, ev_caF hd ha.ev⟩

/-- len -/
def rLenA (K : PySem.W.Frag) : List V → Hp → VK → Prop := fun xs H Q => (∃ p ys, xs = [.ref p] ∧ (SqL K H p ys ∨ SqT K H p ys) ∧ Q (.int ys.length) H) ∨ (∃ z, xs = [.str z] ∧ z.length ≤ sizeLine ∧ Q (.int z.length) H)
theorem call_lenA : CallR X (.builtin "len") (rLenA X.K) := call_len_seq.or call_len_str
def lenD : List D → Option D
  | [.tup ds] => some (.int ds.length)
  | [.lst ds] => some (.int ds.length)
  | [.str z] => if z.length ≤ sizeLine then some (.int z.length) else none
  | _ => none
theorem cd_len : CaD G (rLenA G.K) lenD := fun I H xs as d Q s da e k => by
  unfold lenD at e
  split at e
  · injection e with e; subst e
    obtain ⟨v, rfl, h⟩ := DVs.one.mp da
    unfold DV at h
    obtain ⟨q, vs, rfl, h1, h2⟩ := h
    refine .inl ⟨q, vs, rfl, .inr (s.seqT h1), ?_⟩
    rw [h2.length]
    exact k _ I H (ExtN.refl s) dv_int
  · injection e with e; subst e
    obtain ⟨v, rfl, h⟩ := DVs.one.mp da
    unfold DV at h
    obtain ⟨q, vs, rfl, h1, h2⟩ := h
    refine .inl ⟨q, vs, rfl, .inl (SqL.of (s _ _ h1)), ?_⟩
    rw [h2.length]
    exact k _ I H (ExtN.refl s) dv_int
  · split at e
    · rename_i hz
      injection e with e; subst e
      obtain ⟨v, rfl, h⟩ := DVs.one.mp da
      unfold DV at h
      subst h
      exact .inr ⟨_, rfl, hz, k _ I H (ExtN.refl s) dv_int⟩
    · cases e
  · cases e
def lenL (ds : List D) : Option D := some (.int ds.length)
theorem cl_len : ClD G (rLenA G.K) lenL := fun I H q vs ds d Q s h da e k => by
  unfold lenL at e
  injection e with e; subst e
  refine .inl ⟨q, vs, rfl, .inl (SqL.of h), ?_⟩
  rw [da.length]
  exact k _ I H (ExtN.refl s) dv_int
/-- tuple(x) -/
def rTupOf (K : PySem.W.Frag) : List V → Hp → VK → Prop := fun xs H Q => ∃ p ys, xs = [.ref p] ∧ ((SqL K H p ys ∧ ∀ l, H l = none → Q (.ref l) (upd H l (.tup ys))) ∨ (SqT K H p ys ∧ Q (.ref p) H))
theorem call_tupOf : CallR X (.type "tuple") (rTupOf X.K) := call_tuple_of
def tupD : List D → Option D
  | [.tup ds] => some (.tup ds)
  | [.lst ds] => some (.tup ds)
  | _ => none
theorem cl_tup : ClD G (rTupOf G.K) fun ds => some (.tup ds) := fun I H q vs ds d Q s h da e k => by
  injection e with e; subst e
  refine ⟨q, vs, rfl, .inl ⟨SqL.of h, fun t ht => ?_⟩⟩
  have e2 := ExtN.lay (o := .tup vs) s ht
  refine k _ _ _ e2 ?_
  unfold DV
  exact ⟨t, _, rfl, SqT.of upd_same, DVs.mono e2.grow da⟩
theorem cd_tup : CaD G (rTupOf G.K) tupD := fun I H xs as d Q s da e k => by
  unfold tupD at e
  split at e
  · injection e with e; subst e
    obtain ⟨v, rfl, h⟩ := DVs.one.mp da
    have h' := h
    unfold DV at h'
    obtain ⟨q, vs, rfl, h1, h2⟩ := h'
    exact ⟨q, vs, rfl, .inr ⟨s.seqT h1, k _ I H (ExtN.refl s) h⟩⟩
  · injection e with e; subst e
    obtain ⟨v, rfl, h⟩ := DVs.one.mp da
    unfold DV at h
    obtain ⟨q, vs, rfl, h1, h2⟩ := h
    exact cl_tup I H q vs _ _ Q s (s _ _ h1) h2 rfl k
  · cases e
/-- list(x) -/
def rLstOf (K : PySem.W.Frag) : List V → Hp → VK → Prop := fun xs H Q => ∃ p ys, xs = [.ref p] ∧ (SqL K H p ys ∨ SqT K H p ys) ∧ ∀ l, H l = none → Q (.ref l) (upd H l (.lst ys))
theorem call_lstOf : CallR X (.type "list") (rLstOf X.K) := call_list_of
def lstD : List D → Option (List D)
  | [.tup ds] => some ds
  | [.lst ds] => some ds
  | _ => none
theorem sub_none {I H : Hp} {t : Addr} (s : Sub I H) (h : H t = none) : I t = none := by
  cases z : I t with
  | none => rfl
  | some o => rw [s t o z] at h; cases h
theorem cf_lst : CaF G (rLstOf G.K) lstD := fun I H xs as ds Q s da e k => by
  unfold lstD at e
  split at e
  · injection e with e; subst e
    obtain ⟨v, rfl, h⟩ := DVs.one.mp da
    unfold DV at h
    obtain ⟨q, vs, rfl, h1, h2⟩ := h
    refine ⟨q, vs, rfl, .inr (s.seqT h1), fun t ht => ?_⟩
    exact k t vs I _ (ExtN.lose s ht) ht (sub_none s ht) upd_same h2
  · injection e with e; subst e
    obtain ⟨v, rfl, h⟩ := DVs.one.mp da
    unfold DV at h
    obtain ⟨q, vs, rfl, h1, h2⟩ := h
    refine ⟨q, vs, rfl, .inl (SqL.of (s _ _ h1)), fun t ht => ?_⟩
    exact k t vs I _ (ExtN.lose s ht) ht (sub_none s ht) upd_same h2
  · cases e
/-- all, any of a list of truth values -/
def blsOf : List D → Option (List Bool)
  | [] => some []
  | d :: ds => match toB d, blsOf ds with
    | some b, some bs => some (b :: bs)
    | _, _ => none
theorem bls_v {I : Hp} : ∀ {ds : List D} {vs : List V} {bs : List Bool}, DVs G I ds vs → blsOf ds = some bs → vs = bs.map V.bl
  | [], vs, bs, h, e => by unfold DVs at h; subst h; unfold blsOf at e; injection e with e; subst e; rfl
  | d :: ds, vs, bs, h, e => by
    unfold DVs at h
    obtain ⟨v, r, rfl, h1, h2⟩ := h
    unfold blsOf at e
    split at e
    · rename_i b bs' hb hbs
      injection e with e
      subst e
      rw [toB_some hb] at h1
      unfold DV at h1
      subst h1
      rw [bls_v h2 hbs]
      rfl
    · cases e
def allL (ds : List D) : Option D := (blsOf ds).map fun bs => .bl (bs.all id)
def anyL (ds : List D) : Option D := (blsOf ds).map fun bs => .bl (bs.any id)
theorem cl_all : ClD G (rAll G.K) allL := fun I H q vs ds d Q s h da e k => by
  unfold allL at e
  cases hb : blsOf ds with
  | none => rw [hb] at e; cases e
  | some bs =>
    rw [hb] at e
    simp only [Option.map_some, Option.some.injEq] at e
    subst e
    have := bls_v da hb
    subst this
    exact ⟨q, bs, rfl, SqL.of h, k _ I H (ExtN.refl s) dv_bl⟩
theorem cl_any : ClD G (rAny G.K) anyL := fun I H q vs ds d Q s h da e k => by
  unfold anyL at e
  cases hb : blsOf ds with
  | none => rw [hb] at e; cases e
  | some bs =>
    rw [hb] at e
    simp only [Option.map_some, Option.some.injEq] at e
    subst e
    have := bls_v da hb
    subst this
    exact ⟨q, bs, rfl, SqL.of h, k _ I H (ExtN.refl s) dv_bl⟩
/-- str(n), int(n) -/
def strD : List D → Option D
  | [.int i] => if i.natAbs.log2 < 1920 then some (.str (toString i)) else none
  | _ => none
theorem cd_str : CaD G (fun xs H Q => ∃ i, xs = [.int i] ∧ i.natAbs.log2 < 1920 ∧ Q (.str (toString i)) H) strD := fun I H xs as d Q s da e k => by
  unfold strD at e
  split at e
  · split at e
    · rename_i hz
      injection e with e; subst e
      obtain ⟨v, rfl, h⟩ := DVs.one.mp da
      unfold DV at h; subst h
      exact ⟨_, rfl, hz, k _ I H (ExtN.refl s) dv_str⟩
    · cases e
  · cases e
def minD : List D → Option D
  | [.int i, .int j] => some (.int (if j < i then j else i))
  | _ => none
theorem cd_min : CaD G (fun xs H Q => ∃ i j, xs = [.int i, .int j] ∧ Q (.int (if j < i then j else i)) H) minD := fun I H xs as d Q s da e k => by
  unfold minD at e
  split at e
  · injection e with e; subst e
    unfold DVs at da
    obtain ⟨v, r, rfl, h1, h2⟩ := da
    obtain ⟨w, rfl, h3⟩ := DVs.one.mp h2
    unfold DV at h1 h3
    subst h1 h3
    exact ⟨_, _, rfl, k _ I H (ExtN.refl s) dv_int⟩
  · cases e

/-! ### isinstance -/
inductive BT where
  | int | bool | str | tuple | list
  deriving DecidableEq
def BT.nm : BT → String
  | .int => "int" | .bool => "bool" | .str => "str" | .tuple => "tuple" | .list => "list"
def tyN : D → String
  | .non => "NoneType" | .bl _ => "bool" | .int _ => "int" | .str _ => "str" | .tup _ => "tuple" | .lst _ => "list" | .dic _ _ => "dict" | .obj _ _ => "object"
def isiB : D → BT → Option Bool
  | .int _, .int => some true
  | .bl _, .int => some true
  | .bl _, .bool => some true
  | .str _, .str => some true
  | .tup _, .tuple => some true
  | .lst _, .list => some true
  | .obj _ _, _ => none
  | _, _ => some false
theorem isiB_ok {d : D} {t : BT} {k : Bool} (h : isiB d t = some k) : kitB (tyN d) t.nm = some k := by
  cases d <;> cases t <;> first
    | (cases h; done)
    | (injection h with h; subst h; show kitB _ _ = _; simp only [tyN, BT.nm]; decide +kernel)
theorem tyX_of {I H : Hp} {d : D} {v : V} (s : Sub I H) (ho : ∀ c ds, d ≠ .obj c ds) (h : DV G I d v) : TyX G.K H v (.type (tyN d)) := by
  cases d with
  | non => unfold DV at h; subst h; exact .base .non
  | bl _ => unfold DV at h; subst h; exact .base (.bl _)
  | int _ => unfold DV at h; subst h; exact .base (.int _)
  | str _ => unfold DV at h; subst h; exact .base (.str _)
  | tup ds =>
    unfold DV at h
    obtain ⟨a, vs, rfl, h1, _⟩ := h
    rcases s.seqT h1 with (h1 | ⟨o, h1⟩) | ⟨o, its, n, h1, h2, _⟩
    · exact .base (.tup h1)
    · exact .fTuple h1
    · exact .kTuple h1 h2
  | lst ds =>
    unfold DV at h
    obtain ⟨a, vs, rfl, h1, _⟩ := h
    exact .base (.lst (s _ _ h1))
  | dic ks ds =>
    unfold DV at h
    obtain ⟨a, vs, rfl, h1, _⟩ := h
    exact .base (.dK (s _ _ h1))
  | obj c ds => exact absurd rfl (ho c ds)
def kIsi (t : BT) (m : KE) : KE := fun ρ p => do
  let a ← m ρ p
  let k ← ofO (isiB a.1 t)
  pure (.bl k, a.2)
theorem ev_isi (t : BT) (h : EvE G W m te) : EvE G W (kIsi t m) (tCB (rIsi G.K) (tCons te (tCons (tC (.ty t.nm)) tNil))) := fun c p ρ σ I H Q n k => by
  refine h c p ρ σ I H _ n ((Pst.bind.mp k).mono (fun _ _ z => z) fun x hx v I1 H1 e1 d1 => ?_)
  obtain ⟨b, eb, k⟩ := Pst.ofO (Pst.bind.mp hx)
  have n1 := n.step e1
  refine ⟨v, .ty t.nm, _, _, b, rfl, .ty _, tyX_of n1.sub (fun c ds z => by rw [z] at eb; cases eb) d1, kit_ty (isiB_ok eb), k _ I1 H1 e1 dv_bl⟩
theorem me_isi (t : BT) {x : Str} {p p2 : Pos} {T : Str} (h : ME X G W e te m) (hx : x = "isinstance") (hm : X.mg x = none) (hT : bootBuiltins T = some (.type t.nm)) (hmT : X.mg T = none) (hk : X.K = G.K := by rfl)
    (hg : Gl X x := by rfl) (hgT : Gl X T := by rfl) (hn : x ≠ "__name__" := by decide) (hdb : (x == ("__debug__" : Str)) = false := by decide) (hnT : T ≠ "__name__" := by decide) (hdbT : (T == ("__debug__" : Str)) = false := by decide)
    (he : starEach (e :: [.Name T p2]) X.env = (false, eval e X.env) :: starEach [.Name T p2] X.env := by rfl) (hpl : (backTo pos (starEach [.Name T p2] X.env)).any (·.1) = false := by rfl) (he2 : starEach ((.Name T p2) :: []) X.env = (false, eval (.Name T p2) X.env) :: starEach [] X.env := by rfl) :
    ME X G W (.Call (.Name x p) [e, .Name T p2] [] pos) (tCB (rIsi X.K) (tCons te (tCons (tC (.ty t.nm)) tNil))) (kIsi t m) := by
  subst hx
  exact ⟨pe_callB call_isi hg hm PyProof.Rows.boot_isinstance (pa_cons h.pe (pa_cons (pe_bltn hgT hmT hT rfl hnT hdbT) pa_nil he2) he) hn hdb he hpl, by rw [hk]; exact ev_isi t h.ev⟩

/-! ### sorted -/
/-- x < y by data (alike data) -/
def leD' (a b : D) : Bool := PySem.W.dataLe false pd a b
def sortOk (ds : List D) : Bool := (ds.all fun a => ds.all fun b => PySem.W.alike (pd a) (pd b)) && ((ds.all fun a => match a with | .tup (_ :: _) => true | _ => false) || (ds.all fun a => match a with | .tup _ => false | .non => false | _ => true)) && decide (ds.length ≤ sizeLine) && ds.all fit
def sortL (ds : List D) : Option (List D) := if sortOk ds = true then some (ds.mergeSort leD') else none
theorem each_vals {I : Hp} : ∀ {out : List Value} {ds : List D}, PySem.W.EachIs (fun u d => ∃ x, RelV x u ∧ DV G I d x) out ds → ∃ vs, Vals vs out ∧ DVs G I ds vs
  | [], [], .nil => ⟨[], .nil, by unfold DVs; rfl⟩
  | u :: us, d :: ds, .cons ⟨x, h1, h2⟩ t => by
    obtain ⟨vs, h3, h4⟩ := each_vals t
    exact ⟨x :: vs, .cons h1 h3, by unfold DVs; exact ⟨x, vs, rfl, h2, h4⟩⟩
theorem vals_each {I : Hp} : ∀ {out : List Value} {ds : List D} {vs : List V}, Vals vs out → DVs G I ds vs → PySem.W.EachIs (fun u d => ∃ x, RelV x u ∧ DV G I d x) out ds
  | us, [], vs, r, h => by unfold DVs at h; subst h; cases r; exact .nil
  | us, d :: ds, vs, r, h => by
    unfold DVs at h
    obtain ⟨v, t, rfl, h1, h2⟩ := h
    cases r with
    | cons r1 r2 => exact .cons ⟨v, r1, h1⟩ (vals_each r2 h2)
def rSortG (G : Gm) : List V → Hp → VK → Prop := fun xs H Q => ∃ (I : Hp) (a : Addr) (vs : List V) (ds : List D), xs = [.ref a] ∧ Sub I H ∧ SqL G.K H a vs ∧ DVs G I ds vs ∧ sortOk ds = true ∧
  ∀ ws p, DVs G I (ds.mergeSort leD') ws → H p = none → Q (.ref p) (upd H p (.lst ws))
theorem eachReads {pins : List (Addr × Obj)} {σ : L2.St} {H I : Hp} {s : Shared} (J : Inv X pins σ H s) (hk : X.K = G.K) (hs : Sub I H) : ∀ {us : List Value} {ds : List D} {vs : List V}, Vals vs us → DVs G I ds vs → ds.all fit = true → PySem.W.EachIs (fun u d => ∃ as, Reads s.heap u (pd d) as) us ds
  | us, [], vs, r, h, _ => by unfold DVs at h; subst h; cases r; exact .nil
  | us, d :: ds, vs, r, h, f => by
    unfold DVs at h
    obtain ⟨v, t, rfl, h1, h2⟩ := h
    rw [List.all_cons, Bool.and_eq_true] at f
    cases r with
    | cons r1 r2 => exact .cons (Dp.reads J (pd d) v _ (by rw [hk]; exact dp_in hs f.1 h1) r1) (eachReads J hk hs r2 h2 f.2)
theorem alike_fit (d : D) (h : fit d = true) : (pd d).depth ≤ 64 := of_decide_eq_true (Bool.and_eq_true_iff.mp h).2
theorem cr_sortG (hk : X.K = G.K) (hu : X.A.units + 70 < cLine) : CallR X (.builtin "sorted") (rSortG G) := by
  intro pins s σ H xs us Q J r h
  obtain ⟨I, a, vs, ds, rfl, hs, ha, hd, ok, q⟩ := h
  unfold sortOk at ok
  simp only [Bool.and_eq_true, decide_eq_true_eq, Bool.or_eq_true] at ok
  obtain ⟨⟨⟨h1, h2⟩, h3⟩, h4⟩ := ok
  rw [← hk] at ha
  obtain ⟨its, rv, hl, hz⟩ := J.list ha
  rw [Vals.ref1 r]
  refine PySem.W.sorted_data (bs := ds) (enc := pd) (R := fun u d => ∃ x, RelV x u ∧ DV G I d x) hl.isList (vals_each rv hd) (eachReads J hk hs rv hd h4) ?_ ?_ h3 ?_ fun out ho eo => ?_
  · intro x hx y hy
    obtain ⟨a, ha, rfl⟩ := List.mem_map.mp hx
    obtain ⟨b, hb, rfl⟩ := List.mem_map.mp hy
    exact List.all_eq_true.mp (List.all_eq_true.mp h1 a ha) b hb
  · rcases h2 with h2 | h2
    · refine .inl fun x hx => ?_
      obtain ⟨a, ha, rfl⟩ := List.mem_map.mp hx
      have z := List.all_eq_true.mp h2 a ha
      cases a with
      | tup ds =>
        cases ds with
        | nil => cases z
        | cons y ys => exact ⟨pd y, pds ys, by simp only [pd, pds]⟩
      | _ => cases z
    · refine .inr fun x hx => ?_
      obtain ⟨a, ha, rfl⟩ := List.mem_map.mp hx
      have z := List.all_eq_true.mp h2 a ha
      cases a <;> first
        | (cases z; done)
        | (simp [pd]; done)
  · intro b hb
    have := alike_fit b (List.all_eq_true.mp h4 b hb)
    omega
  · obtain ⟨ws, h5, h6⟩ := each_vals eo
    obtain ⟨ep, he'⟩ := PyProof.Rows.sortedAll_at s.heap its out.toArray
    have hlen : ws.length ≤ sizeLine := by rw [h6.length, List.length_mergeSort]; exact h3
    exact ⟨.ref _, upd H (s.heap.objs.size + 1) (.lst ws), J.laid (t' := s.toks) (fun _ _ => PyProof.Rows.sortedAll_old) (Nat.le_succ _) ⟨hlen, out, ep, h5, he'⟩, rfl, q _ _ h6 (J.hok.fresh (Nat.le_succ _))⟩
theorem cl_sort : ClF G (rSortG G) sortL := fun I H q vs ds es Q s h da e k => by
  unfold sortL at e
  split at e
  · rename_i ok
    injection e with e; subst e
    exact ⟨I, q, vs, ds, rfl, s, SqL.of h, da, ok, fun ws p hw hp => k p ws I _ (ExtN.lose s hp) hp (sub_none s hp) upd_same hw⟩
  · cases e
end
end Dn
end
section
set_option Elab.async false
set_option linter.all false
set_option maxRecDepth 100000
set_option maxHeartbeats 2000000
namespace Dn
open PySem PySem.Spec L2

/-! ### slots change -/
section
variable {G : Gm} {c : Ctx} {p p' : Pen} {ρ : List Sl} {σ : L2.St} {I H : Hp}
theorem Now.lt (n : Now G c p ρ σ I H) {i : Nat} : i < ρ.length ↔ i < σ.length := by rw [n.len]
theorem Now.own_at (n : Now G c p ρ σ I H) {i : Nat} {s : Sl} {q : Addr} (hs : ρ[i]? = some s) (ho : s.isOwn = true) (hq : σ[i]? = some (some (.ref q))) : (∃ o, H q = some o ∧ (∀ r, o ≠ LamX.CodeO q r) ∧ ∀ ps, o ≠ .tbl ps) ∧ I q = none ∧ c.H0 q = none := by
  have r := n.rel i s hs
  cases s with
  | own ds =>
    obtain ⟨q', vs, h1, h2, h3, h4, h5⟩ := r
    rw [hq] at h1
    cases h1
    exact ⟨⟨_, h2, fun _ => codeO_lst, fun _ z => by cases z⟩, h3, h4⟩
  | ownd ks ds =>
    obtain ⟨q', vs, h1, h2, hl, h3, h4, h5⟩ := r
    rw [hq] at h1
    cases h1
    exact ⟨⟨_, h2, fun _ => codeO_dK, fun _ z => by cases z⟩, h3, h4⟩
  | _ => cases ho
theorem Now.setS (n : Now G c p ρ σ I H) {i : Nat} {v : V} {s : Sl} (hs : i < σ.length → SlotR G c I H s (some (some v))) (hf : s.isOwn = true → ∀ q : Addr, v = .ref q → ∀ (j : Nat) (t : Sl), ρ[j]? = some t → t.isOwn = true → σ[j]? ≠ some (some (.ref q))) :
    Now G c p (ρ.set i s) (σ.set i (some v)) I H := by
  refine ⟨n.ext, n.hid, by rw [List.length_set, List.length_set]; exact n.len, fun j t ht => ?_, fun j k s1 s2 q h1 h2 o1 o2 g1 g2 => ?_, n.nt⟩
  · by_cases hj : i = j
    · subst hj
      by_cases hl : i < ρ.length
      · rw [List.getElem?_set_self hl] at ht
        cases ht
        have hl' := n.lt.mp hl
        rw [List.getElem?_set_self hl']
        exact hs hl'
      · rw [List.getElem?_eq_none (by rw [List.length_set]; omega)] at ht
        cases ht
    · rw [List.getElem?_set_ne hj] at ht
      rw [List.getElem?_set_ne hj]
      exact n.rel j t ht
  · by_cases hj : i = j
    · subst hj
      by_cases hk : i = k
      · exact hk
      · rw [List.getElem?_set_ne hk] at h2 g2
        by_cases hl : i < ρ.length
        · rw [List.getElem?_set_self hl] at h1
          cases h1
          rw [List.getElem?_set_self (n.lt.mp hl)] at g1
          cases g1
          exact absurd g2 (hf o1 q rfl k s2 h2 o2)
        · rw [List.getElem?_eq_none (by rw [List.length_set]; omega)] at h1
          cases h1
    · rw [List.getElem?_set_ne hj] at h1 g1
      by_cases hk : i = k
      · subst hk
        by_cases hl : i < ρ.length
        · rw [List.getElem?_set_self hl] at h2
          cases h2
          rw [List.getElem?_set_self (n.lt.mp hl)] at g2
          cases g2
          exact absurd g1 (hf o2 q rfl j s1 h1 o1)
        · rw [List.getElem?_eq_none (by rw [List.length_set]; omega)] at h2
          cases h2
      · rw [List.getElem?_set_ne hk] at h2 g2
        exact n.dist j k s1 s2 q h1 h2 o1 o2 g1 g2
theorem Now.setV (n : Now G c p ρ σ I H) {i : Nat} {v : V} {d : D} (h : DV G I d v) : Now G c p (ρ.set i (.val d)) (σ.set i (some v)) I H :=
  n.setS (fun _ => ⟨v, rfl, h⟩) fun z => by cases z
/-- the slot is forgotten -/
theorem Now.forget (n : Now G c p ρ σ I H) (i : Nat) : Now G c p (ρ.set i .no) σ I H := by
  refine ⟨n.ext, n.hid, by rw [List.length_set]; exact n.len, fun j t ht => ?_, fun j k s1 s2 q h1 h2 o1 o2 g1 g2 => ?_, n.nt⟩
  · by_cases hj : i = j
    · subst hj
      by_cases hl : i < ρ.length
      · rw [List.getElem?_set_self hl] at ht
        cases ht
        trivial
      · rw [List.getElem?_eq_none (by rw [List.length_set]; omega)] at ht
        cases ht
    · rw [List.getElem?_set_ne hj] at ht
      exact n.rel j t ht
  · have h : ∀ {k : Nat} {s : Sl}, (ρ.set i .no)[k]? = some s → s.isOwn = true → ρ[k]? = some s := fun {k s} hk ho => by
      by_cases hj : i = k
      · subst hj
        by_cases hl : i < ρ.length
        · rw [List.getElem?_set_self hl] at hk
          cases hk
          cases ho
        · rw [List.getElem?_eq_none (by rw [List.length_set]; omega)] at hk
          cases hk
      · rw [List.getElem?_set_ne hj] at hk
        exact hk
    exact n.dist j k s1 s2 q (h h1 o1) (h h2 o2) o1 o2 g1 g2
/-- the heap changes at a place of which nothing is held -/
theorem Now.put (n : Now G c p ρ σ I H) {q : Addr} {o : HO} (hi : I q = none) (h0 : c.H0 q = none) (hq : NoC H q) (hf : ∀ (j : Nat) (t : Sl), ρ[j]? = some t → t.isOwn = true → σ[j]? ≠ some (some (.ref q))) (ho : ∀ ps, o ≠ .tbl ps := by intro ps z; cases z) : Now G c p ρ σ I (upd H q o) := by
  have ap := n.apart h0
  have e : Ext c.P c.I0 c.H0 p I (upd H q o) := by
    refine ⟨n.ext.keep.put h0 hq.1 ho, n.ext.grow, fun b u h => ?_, n.ext.new, fun a cc z => ⟨?_, ?_, (n.pen a cc z).s, fun h1 h2 => ⟨hq.put ((n.pen a cc z).t h1 h2).1, fun b ps h => by
      obtain ⟨ps1, h3⟩ := old_upd ho b ps h
      exact ((n.pen a cc z).t h1 h2).2 b ps1 h3⟩⟩⟩
    · rw [upd_ne (fun z => by rw [z, hi] at h; cases h)]
      exact n.ext.sub b u h
    · rw [upd_ne (ap a cc z).1.symm]
      exact (n.pen a cc z).d
    · rw [upd_ne (ap a cc z).2.symm]
      exact (n.pen a cc z).c
  refine ⟨e, n.hid, n.len, fun j t ht => ?_, n.dist, n.nt⟩
  have r := n.rel j t ht
  cases t with
  | no => trivial
  | val d => exact r
  | own ds =>
    obtain ⟨q', vs, h1, h2, h3, h4, h5⟩ := r
    exact ⟨q', vs, h1, by rw [upd_ne (fun z => hf j _ ht rfl (by rw [h1, z]))]; exact h2, h3, h4, h5⟩
  | ownd ks ds =>
    obtain ⟨q', vs, h1, h2, hl, h3, h4, h5⟩ := r
    exact ⟨q', vs, h1, by rw [upd_ne (fun z => hf j _ ht rfl (by rw [h1, z]))]; exact h2, hl, h3, h4, h5⟩
  | pen => exact r
  | cln d => exact r
/-- an own thing changes -/
theorem Now.mut (n : Now G c p ρ σ I H) {i : Nat} {s s' : Sl} {q : Addr} {o : HO} (hs : ρ[i]? = some s) (ho : s.isOwn = true) (hq : σ[i]? = some (some (.ref q))) (hr : SlotR G c I (upd H q o) s' (some (some (.ref q)))) (hot : ∀ ps, o ≠ .tbl ps := by intro ps z; cases z) :
    Now G c p (ρ.set i s') σ I (upd H q o) := by
  obtain ⟨⟨o1, h1, h1c, h1t⟩, h2, h3⟩ := n.own_at hs ho hq
  have n1 := (n.forget i).put (o := o) h2 h3 ⟨fun r z => h1c r (by rw [h1] at z; injection z), fun ps z => h1t ps (by rw [h1] at z; injection z)⟩ (ho := hot) fun j t ht hto hj => by
    by_cases hij : i = j
    · subst hij
      by_cases hl : i < ρ.length
      · rw [List.getElem?_set_self hl] at ht
        cases ht
        cases hto
      · rw [List.getElem?_eq_none (by rw [List.length_set]; omega)] at ht
        cases ht
    · rw [List.getElem?_set_ne hij] at ht
      exact hij (n.dist i j s t q hs ht ho hto hq hj)
  have hl : i < ρ.length := by
    rcases Nat.lt_or_ge i ρ.length with h | h
    · exact h
    · rw [List.getElem?_eq_none h] at hs; cases hs
  refine ⟨n1.ext, n1.hid, by rw [List.length_set]; exact n.len, fun j t ht => ?_, fun j k s1 s2 q' g1 g2 o1 o2 w1 w2 => ?_, n1.nt⟩
  · by_cases hij : i = j
    · subst hij
      rw [List.getElem?_set_self hl] at ht
      cases ht
      rw [hq]
      exact hr
    · rw [List.getElem?_set_ne hij] at ht
      exact n1.rel j t (by rw [List.getElem?_set_ne hij]; exact ht)
  · by_cases hij : i = j
    · subst hij
      by_cases hik : i = k
      · exact hik
      · rw [List.getElem?_set_ne hik] at g2
        rw [hq] at w1
        cases w1
        exact n.dist i k s s2 q hs g2 ho o2 hq w2
    · rw [List.getElem?_set_ne hij] at g1
      by_cases hik : i = k
      · subst hik
        rw [hq] at w2
        cases w2
        exact (n.dist i j s s1 q hs g1 ho o1 hq w1).symm
      · rw [List.getElem?_set_ne hik] at g2
        exact n.dist j k s1 s2 q' g1 g2 o1 o2 w1 w2
/-- an own list is from now on a value -/
def frzS : Sl → Sl
  | .own ds => .val (.lst ds)
  | .ownd ks ds => .val (.dic ks ds)
  | s => s
def frzAt (i : Nat) (ρ : List Sl) : List Sl := match ρ[i]? with
  | some s => ρ.set i (frzS s)
  | none => ρ
theorem Now.frz (n : Now G c p ρ σ I H) (i : Nat) : ∃ I', Now G c p (frzAt i ρ) σ I' H ∧ Sub I I' := by
  unfold frzAt
  cases hs : ρ[i]? with
  | none => exact ⟨I, n, Sub.refl⟩
  | some s =>
    have hl : i < ρ.length := by
      rcases Nat.lt_or_ge i ρ.length with h | h
      · exact h
      · rw [List.getElem?_eq_none h] at hs; cases hs
    have r := n.rel i s hs
    have same : ρ.set i s = ρ := by
      apply List.ext_getElem?
      intro j
      by_cases hj : i = j
      · subst hj; rw [List.getElem?_set_self hl, hs]
      · rw [List.getElem?_set_ne hj]
    have main : ∀ (q : Addr) (o : HO) (s' : Sl), s.isOwn = true → σ[i]? = some (some (.ref q)) → H q = some o → s'.isOwn = false → SlotR G c (upd I q o) H s' (some (some (.ref q))) → ∃ I', Now G c p (ρ.set i s') σ I' H ∧ Sub I I' := fun q o s' hso hq hH hs' hr => by
      obtain ⟨⟨oo, hoo, _, hot⟩, h2, h3⟩ := n.own_at hs hso hq
      have ap := n.apart h3
      refine ⟨upd I q o, ⟨⟨n.ext.keep, n.ext.grow.trans (Sub.new h2), fun b u h => ?_, fun b u h k => ?_, n.pen⟩, fun a cc z => ⟨?_, (n.hid a cc z).2⟩, by rw [List.length_set]; exact n.len, fun j t ht => ?_, fun j k s1 s2 q' g1 g2 o1 o2 w1 w2 => ?_, fun hP hp b ps hb => (by
        by_cases z : b = q
        · rw [z, upd_same] at hb
          rw [hoo] at hH
          exact hot ps ((Option.some.inj hH).trans (Option.some.inj hb))
        · rw [upd_ne z] at hb
          exact n.nt hP hp b ps hb)⟩, Sub.new h2⟩
      · by_cases hb : b = q
        · subst hb
          rw [upd_same] at h
          rw [hH]; exact h
        · rw [upd_ne hb] at h
          exact n.sub b u h
      · rw [upd_ne (fun z => by rw [z, h3] at h; cases h)]
        exact n.ext.new b u h k
      · rw [upd_ne (ap a cc z).1.symm]
        exact (n.hid a cc z).1
      · by_cases hij : i = j
        · subst hij
          rw [List.getElem?_set_self hl] at ht
          cases ht
          rw [hq]
          exact hr
        · rw [List.getElem?_set_ne hij] at ht
          have r := n.rel j t ht
          cases t with
          | no => trivial
          | val d =>
            obtain ⟨v, h1, h2'⟩ := r
            exact ⟨v, h1, h2'.mono (Sub.new h2)⟩
          | own ds =>
            obtain ⟨q', vs, h1, h2', h3', h4, h5⟩ := r
            exact ⟨q', vs, h1, h2', by rw [upd_ne (fun z => hij (n.dist i j s _ q hs ht hso rfl hq (by rw [h1, z])))]; exact h3', h4, DVs.mono (Sub.new h2) h5⟩
          | ownd ks ds =>
            obtain ⟨q', vs, h1, h2', hl', h3', h4, h5⟩ := r
            exact ⟨q', vs, h1, h2', hl', by rw [upd_ne (fun z => hij (n.dist i j s _ q hs ht hso rfl hq (by rw [h1, z])))]; exact h3', h4, DVs.mono (Sub.new h2) h5⟩
          | pen => exact r
          | cln d =>
            obtain ⟨v, h1, h2', h3'⟩ := r
            exact ⟨v, h1, h2'.mono (Sub.new h2), h3'.mono (Sub.new h2)⟩
      · have back : ∀ {k : Nat} {s1 : Sl}, (ρ.set i s')[k]? = some s1 → s1.isOwn = true → ρ[k]? = some s1 := fun {k s1} hk ho => by
          by_cases hj : i = k
          · subst hj
            rw [List.getElem?_set_self hl] at hk
            cases hk
            rw [hs'] at ho
            cases ho
          · rw [List.getElem?_set_ne hj] at hk
            exact hk
        exact n.dist j k s1 s2 q' (back g1 o1) (back g2 o2) o1 o2 w1 w2
    cases s with
    | own ds =>
      obtain ⟨q, vs, h1, h2, h3, h4, h5⟩ := r
      exact main q _ (.val (.lst ds)) rfl h1 h2 rfl ⟨.ref q, rfl, by unfold DV; exact ⟨q, vs, rfl, upd_same, DVs.mono (Sub.new h3) h5⟩⟩
    | ownd ks ds =>
      obtain ⟨q, vs, h1, h2, hl', h3, h4, h5⟩ := r
      exact main q _ (.val (.dic ks ds)) rfl h1 h2 rfl ⟨.ref q, rfl, by unfold DV; exact ⟨q, vs, rfl, upd_same, hl', DVs.mono (Sub.new h3) h5⟩⟩
    | no => exact ⟨I, by show Now G c p (ρ.set i .no) σ I H; rw [same]; exact n, Sub.refl⟩
    | val d => exact ⟨I, by show Now G c p (ρ.set i (.val d)) σ I H; rw [same]; exact n, Sub.refl⟩
    | pen => exact ⟨I, by show Now G c p (ρ.set i .pen) σ I H; rw [same]; exact n, Sub.refl⟩
    | cln d => exact ⟨I, by show Now G c p (ρ.set i (.cln d)) σ I H; rw [same]; exact n, Sub.refl⟩
end

/-! ### targets -/
abbrev KG := D → List Sl → R (List Sl)
abbrev KGs := List D → List Sl → R (List Sl)
/-- what a store leaves: the slots beside is, and it makes none an own one -/
structure SlG (is : List Nat) (ρ ρ' : List Sl) (σ σ' : L2.St) : Prop where
  len : σ'.length = σ.length
  out : ∀ j : Nat, j ∉ is → σ'[j]? = σ[j]?
  own : ∀ (j : Nat) (t : Sl), ρ'[j]? = some t → t.isOwn = true → ρ[j]? = some t ∧ σ'[j]? = σ[j]?
def EvG (G : Gm) (is : List Nat) (m : KG) (g : TG) : Prop := ∀ (c : Ctx) (p : Pen) (ρ : List Sl) (σ : L2.St) (I H : Hp) (d : D) (v : V) (Q : L2.St → Hp → Prop), Now G c p ρ σ I H → DV G I d v →
  Pst (m d ρ) (fun _ _ => False) (fun ρ' => ∀ σ', Now G c p ρ' σ' I H → SlG is ρ ρ' σ σ' → Q σ' H) → g v σ H Q
def EvGs (G : Gm) (is : List Nat) (m : KGs) (g : TGs) : Prop := ∀ (c : Ctx) (p : Pen) (ρ : List Sl) (σ : L2.St) (I H : Hp) (ds : List D) (vs : List V) (Q : L2.St → Hp → Prop), Now G c p ρ σ I H → DVs G I ds vs →
  Pst (m ds ρ) (fun _ _ => False) (fun ρ' => ∀ σ', Now G c p ρ' σ' I H → SlG is ρ ρ' σ σ' → Q σ' H) → g vs σ H Q
structure MG (X : Cx) (G : Gm) (e : Expr) (g : TG) (is : List Nat) (m : KG) : Prop where
  pg : PG X e g
  ev : EvG G is m g
structure MGs (X : Cx) (G : Gm) (es : List Expr) (g : TGs) (is : List Nat) (m : KGs) : Prop where
  pg : PGs X es g
  ev : EvGs G is m g
def gkN (i : Nat) : KG := fun d ρ => .ok (ρ.set i (.val d))
def gkNil : KGs := fun ds ρ => match ds with
  | [] => .ok ρ
  | _ => .error .stuck
def gkCons (m : KG) (ms : KGs) : KGs := fun ds ρ => match ds with
  | d :: r => do
    let ρ1 ← m d ρ
    ms r ρ1
  | [] => .error .stuck
def gkTup (n : Nat) (ms : KGs) : KG := fun d ρ => match d with
  | .tup ds => if ds.length = n then ms ds ρ else .error .stuck
  | _ => .error .stuck
section
variable {X : Cx} {G : Gm} {W : XK} {e a b : Expr} {es : List Expr} {te ta tb : TE} {tt tu : TT} {m ma mb : KE} {mt mu : KB} {ml mk : KL} {pos : Pos} {g : TG} {gs : TGs} {is js : List Nat} {mg : KG} {mgs : KGs}
theorem eg_name (i : Nat) : EvG G [i] (gkN i) (gName i) := fun c p ρ σ I H d v Q n h k =>
  (show ∀ σ', Now G c p (ρ.set i (.val d)) σ' I H → SlG [i] ρ (ρ.set i (.val d)) σ σ' → Q σ' H from k) _ (n.setV h) ⟨List.length_set, fun j hj => List.getElem?_set_ne (fun z => hj (by simp [z])), fun j t hj ho => by
    by_cases hij : i = j
    · subst hij
      by_cases hl : i < ρ.length
      · rw [List.getElem?_set_self hl] at hj
        injection hj with hj
        rw [← hj] at ho
        cases ho
      · rw [List.getElem?_eq_none (by rw [List.length_set]; omega)] at hj
        cases hj
    · rw [List.getElem?_set_ne hij] at hj
      exact ⟨hj, List.getElem?_set_ne hij⟩⟩
theorem eg_nil : EvGs G [] gkNil gNil := fun c p ρ σ I H ds vs Q n h k => by
  cases ds with
  | nil => exact ⟨DVs.nil.mp h, (show ∀ σ', Now G c p ρ σ' I H → SlG [] ρ ρ σ σ' → Q σ' H from k) σ n ⟨rfl, fun _ _ => rfl, fun _ _ h _ => ⟨h, rfl⟩⟩⟩
  | cons d ds => exact False.elim k
theorem eg_cons (h1 : EvG G is mg g) (h2 : EvGs G js mgs gs) : EvGs G (is ++ js) (gkCons mg mgs) (gCons g gs) := fun c p ρ σ I H ds vs Q n h k => by
  cases ds with
  | nil => exact False.elim k
  | cons d ds =>
    unfold DVs at h
    obtain ⟨v, r, rfl, h3, h4⟩ := h
    refine ⟨v, r, rfl, h1 c p ρ σ I H d v _ n h3 ((Pst.bind.mp (show Pst (mg d ρ >>= fun ρ1 => mgs ds ρ1) _ _ from k)).mono (fun _ _ z => z) fun ρ1 hk σ1 n1 s1 => ?_)⟩
    refine h2 c p ρ1 σ1 I H ds r Q n1 h4 (hk.mono (fun _ _ z => z) fun ρ2 hk2 σ2 n2 s2 => hk2 σ2 n2 ⟨s2.len.trans s1.len, fun j hj => ?_, fun j t hj ho => ?_⟩)
    · rw [List.mem_append, not_or] at hj
      rw [s2.out j hj.2, s1.out j hj.1]
    · obtain ⟨h5, h6⟩ := s2.own j t hj ho
      obtain ⟨h7, h8⟩ := s1.own j t h5 ho
      exact ⟨h7, h6.trans h8⟩
theorem eg_tup {nn : Nat} (h : EvGs G is mgs gs) : EvG G is (gkTup nn mgs) (gTup G.K nn gs) := fun c p ρ σ I H d v Q n hd k => by
  cases d with
  | tup ds =>
    have k : Pst (if ds.length = nn then mgs ds ρ else .error .stuck) _ _ := k
    by_cases hl : ds.length = nn
    · rw [if_pos hl] at k
      unfold DV at hd
      obtain ⟨q, vs, rfl, h1, h2⟩ := hd
      exact ⟨q, vs, rfl, n.sub.seqT h1, by rw [h2.length]; exact hl, h c p ρ σ I H ds vs Q n h2 k⟩
    · rw [if_neg hl] at k
      exact False.elim k
  | _ => exact False.elim k
theorem mg_name (i : Nat) {x : Str} (hN : X.N.Nodup) (hi : X.N[i]? = some x := by rfl) (hx : Loc X.env.scope x := by first | exact Or.inl rfl | exact Or.inr rfl) (hf : X.fn x = true ∨ X.env.scope.names.lookup x = some .local := by first | exact .inl rfl | exact .inr rfl) : MG X G (.Name x pos) (gName i) [i] (gkN i) :=
  ⟨pg_name hN hi hx hf, eg_name i⟩
theorem mgs_nil : MGs X G [] gNil [] gkNil := ⟨pgs_nil, eg_nil⟩
theorem mgs_cons (h1 : MG X G e g is mg) (h2 : MGs X G es gs js mgs) (hs : (assignEach (e :: es) X.env).map (·.2) = assign e X.env :: (assignEach es X.env).map (·.2) := by rfl) : MGs X G (e :: es) (gCons g gs) (is ++ js) (gkCons mg mgs) := ⟨pgs_cons h1.pg h2.pg hs, eg_cons h1.ev h2.ev⟩
theorem mg_tup {nn k : Nat} (h : MGs X G es gs is mgs) (hc : X.calm = true := by rfl) (hk : X.K = G.K := by rfl) (hn : (assignEach es X.env).length = nn := by rfl) (hst : (assignEach es X.env).findIdx? (·.1) = none := by rfl) : MG X G (.Tuple es k pos) (gTup X.K nn gs) is (gkTup nn mgs) :=
  ⟨pg_tup hc h.pg hn hst, by rw [hk]; exact eg_tup h.ev⟩
end
end Dn
end
section
set_option Elab.async false
set_option linter.all false
set_option maxRecDepth 100000
set_option maxHeartbeats 2000000
namespace Dn
open PySem PySem.Spec L2

section
variable {X : Cx} {G : Gm} {W : XK} {e a b : Expr} {es : List Expr} {te ta tb : TE} {tt tu : TT} {m ma mb : KE} {mt mu : KB} {ml mk : KL} {pos : Pos} {g : TG} {gs : TGs} {is js : List Nat} {mg : KG} {mgs : KGs} {st : Stmt} {rest : List Stmt} {t u : TS} {ms mr : KS}

/-! ### statements -/
def kNext : KS := fun ρ p => .ok (.nx, ρ, p)
def kSeq (a b : KS) : KS := fun ρ p => do
  let r ← a ρ p
  match r.1 with
  | .nx => b r.2.1 r.2.2
  | _ => pure r
theorem es_next : EvS G W kNext tNext := fun c p ρ σ I H E n k => k σ I H n Sub.refl
/-- what a statement's end asks -/
def Fin (G : Gm) (c : Ctx) (I : Hp) (E : Ends) (a : Fl × List Sl × Pen) : Prop := match a.1 with
  | .nx => ∀ σ' I' H', Now G c a.2.2 a.2.1 σ' I' H' → Sub I I' → E.nx σ' H'
  | .bk => ∀ σ' I' H', Now G c a.2.2 a.2.1 σ' I' H' → Sub I I' → E.bk σ' H'
  | .ct => ∀ σ' I' H', Now G c a.2.2 a.2.1 σ' I' H' → Sub I I' → E.ct σ' H'
  | .ret d => ∀ v I' H', Ext c.P c.I0 c.H0 a.2.2 I' H' → DV G I' d v → E.rt v H'
theorem EvS.run (h : EvS G W ms t) {c : Ctx} {p : Pen} {ρ : List Sl} {σ : L2.St} {I H : Hp} {E : Ends} (n : Now G c p ρ σ I H) (k : Pst (ms ρ p) (Thr G c W) (Fin G c I E)) : t E σ H := h c p ρ σ I H E n k
theorem EvS.of (h : ∀ (c : Ctx) (p : Pen) (ρ : List Sl) (σ : L2.St) (I H : Hp) (E : Ends), Now G c p ρ σ I H → Pst (ms ρ p) (Thr G c W) (Fin G c I E) → t E σ H) : EvS G W ms t := h
theorem Fin.mono {c : Ctx} {I J : Hp} {E : Ends} {x : Fl × List Sl × Pen} (h : Fin G c I E x) (s : Sub I J) : Fin G c J E x := by
  obtain ⟨f, ρ, p⟩ := x
  cases f with
  | nx => exact fun σ' I' H' n z => h σ' I' H' n (s.trans z)
  | bk => exact fun σ' I' H' n z => h σ' I' H' n (s.trans z)
  | ct => exact fun σ' I' H' n z => h σ' I' H' n (s.trans z)
  | ret d => exact h
theorem es_seq (h1 : EvS G W ms t) (h2 : EvS G W mr u) : EvS G W (kSeq ms mr) (tSeq t u) := .of fun c p ρ σ I H E n k => by
  refine h1.run n ((Pst.bind.mp k).mono (fun _ _ z => z) fun x hx => ?_)
  obtain ⟨f, ρ', p'⟩ := x
  cases f with
  | nx => exact fun σ' I' H' n' s => h2.run n' ((show Pst (mr ρ' p') _ (Fin G c I E) from hx).mono (fun _ _ z => z) fun y hy => hy.mono s)
  | bk => exact hx
  | ct => exact hx
  | ret d => exact hx
theorem mb_nil : MB X G W [] tNext kNext := ⟨pss_nil, es_next⟩
theorem mb_one (h : MS X G W st t ms) : MB X G W [st] t ms := ⟨pss_one h.ps, h.ev⟩
theorem mb_cons (h : MS X G W st t ms) (h2 : MB X G W rest u mr) : MB X G W (st :: rest) (tSeq t u) (kSeq ms mr) := ⟨pss_cons h.ps h2.ps, es_seq h.ev h2.ev⟩
/-- x = e -/
def kAsg (m : KE) (mg : KG) : KS := fun ρ p => do
  let a ← m ρ p
  let ρ' ← unx (mg a.1 ρ)
  pure (.nx, ρ', a.2)
theorem es_asg (h : EvE G W m te) (hg : EvG G is mg g) : EvS G W (kAsg m mg) (tAsg te g) := .of fun c p ρ σ I H E n k => by
  refine h c p ρ σ I H _ n ((Pst.bind.mp k).mono (fun _ _ z => z) fun x hx v I1 H1 e1 d1 => ?_)
  have n1 := n.step e1
  refine hg c x.2 ρ σ I1 H1 x.1 v _ n1 d1 ((Pst.bind.mp hx).unx.mono (fun _ _ z => z) fun ρ' hk σ' n' _ => ?_)
  exact (show ∀ σ' I' H', Now G c x.2 ρ' σ' I' H' → Sub I I' → E.nx σ' H' from hk) σ' I1 H1 n' e1.grow
theorem ms_asg {tg : Expr} (h : ME X G W e te m) (hg : MG X G tg g is mg) (hs : swapsWithSole [tg] e pos.line X.env = pure false := by rfl) (hw : swappedStores [tg] e X.env = pure none := by rfl)
    (h1 : (assignEach [tg] X.env).map (·.2) = [assign tg X.env] := by rfl) : MS X G W (.Assign [tg] e pos) (tAsg te g) (kAsg m mg) := ⟨ps_asg h.pe hg.pg hs hw h1, es_asg h.ev hg.ev⟩
/-- x = a new list, x's own -/
def kAsgF (i : Nat) (m : KL) : KS := fun ρ p => do
  let a ← m ρ p
  pure (.nx, ρ.set i (.own a.1), a.2)
theorem es_asgF {i : Nat} (h : EvF G W ml te) : EvS G W (kAsgF i ml) (tAsg te (gName i)) := .of fun c p ρ σ I H E n k => by
  refine h c p ρ σ I H _ n ((Pst.bind.mp k).mono (fun _ _ z => z) fun x hx q vs I1 H1 e1 hq hi hh d1 => ?_)
  have n1 := n.step e1
  have h0 : c.H0 q = none := by
    cases z : c.H0 q with
    | none => rfl
    | some o => obtain ⟨o', h'⟩ := n.ext.there z; rw [h'] at hq; cases hq
  refine (show ∀ σ' I' H', Now G c x.2 (ρ.set i (.own x.1)) σ' I' H' → Sub I I' → E.nx σ' H' from hx) (σ.set i (some (.ref q))) I1 H1 (n1.setS (fun _ => ⟨q, vs, rfl, hh, hi, h0, d1⟩) fun _ q' hq' j t ht ho hj => ?_) e1.grow
  cases hq'
  obtain ⟨⟨o, hh, _⟩, _, _⟩ := n.own_at ht ho hj
  rw [hh] at hq
  cases hq
theorem ms_asgF (i : Nat) {x : Str} {px : Pos} (h : MF X G W e te ml) (hN : X.N.Nodup) (hi : X.N[i]? = some x := by rfl) (hx : Loc X.env.scope x := by first | exact Or.inl rfl | exact Or.inr rfl) (hf : X.fn x = true ∨ X.env.scope.names.lookup x = some .local := by first | exact .inl rfl | exact .inr rfl)
    (hs : swapsWithSole [.Name x px] e pos.line X.env = pure false := by rfl) (hw : swappedStores [.Name x px] e X.env = pure none := by rfl) (h1 : (assignEach [.Name x px] X.env).map (·.2) = [assign (.Name x px) X.env] := by rfl) :
    MS X G W (.Assign [.Name x px] e pos) (tAsg te (gName i)) (kAsgF i ml) := ⟨ps_asg h.pe (pg_name hN hi hx hf) hs hw h1, es_asgF h.ev⟩
/-- e -/
def kDrop (m : KE) : KS := fun ρ p => do
  let a ← m ρ p
  pure (.nx, ρ, a.2)
theorem es_drop (h : EvE G W m te) : EvS G W (kDrop m) (tDrop te) := .of fun c p ρ σ I H E n k =>
  h c p ρ σ I H _ n ((Pst.bind.mp k).mono (fun _ _ z => z) fun x hx v I1 H1 e1 d1 => (show ∀ σ' I' H', Now G c x.2 ρ σ' I' H' → Sub I I' → E.nx σ' H' from hx) σ I1 H1 (n.step e1) e1.grow)
theorem ms_drop (h : ME X G W e te m) (hs : swapsWith e none pos.line X.env = pure false := by rfl) : MS X G W (.Expr e pos) (tDrop te) (kDrop m) := ⟨ps_expr h.pe hs, es_drop h.ev⟩
/-- return e -/
def kRet (m : KE) : KS := fun ρ p => do
  let a ← m ρ p
  pure (.ret a.1, ρ, a.2)
theorem es_ret (h : EvE G W m te) : EvS G W (kRet m) (tRet te) := .of fun c p ρ σ I H E n k =>
  h c p ρ σ I H _ n ((Pst.bind.mp k).mono (fun _ _ z => z) fun x hx v I1 H1 e1 d1 => (show ∀ v I' H', Ext c.P c.I0 c.H0 x.2 I' H' → DV G I' x.1 v → E.rt v H' from hx) v I1 H1 (n.step e1).ext d1)
theorem ms_ret (h : ME X G W e te m) : MS X G W (.Return (some e) pos) (tRet te) (kRet m) := ⟨ps_ret h.pe, es_ret h.ev⟩
def kRetN : KS := fun ρ p => .ok (.ret .non, ρ, p)
theorem ms_retN : MS X G W (.Return none pos) tRetN kRetN := ⟨ps_retN, .of fun c p ρ σ I H E n k => (show ∀ v I' H', Ext c.P c.I0 c.H0 p I' H' → DV G I' .non v → E.rt v H' from k) .non I H n.ext dv_non⟩
def kIfS (t : KB) (a b : KS) : KS := fun ρ p => do
  let k ← t ρ p
  if k.1 = true then a ρ k.2 else b ρ k.2
theorem es_if (h : EvB G W mt tt) (h1 : EvS G W ms t) (h2 : EvS G W mr u) : EvS G W (kIfS mt ms mr) (tIfS tt t u) := .of fun c p ρ σ I H E n k => by
  refine h c p ρ σ I H _ n ((Pst.bind.mp k).mono (fun _ _ z => z) fun x hx I1 H1 e1 => ?_)
  obtain ⟨x, p1⟩ := x
  cases x with
  | true => exact h1.run (n.step e1) ((show Pst (ms ρ p1) _ (Fin G c I E) from hx).mono (fun _ _ z => z) fun y hy => hy.mono e1.grow)
  | false => exact h2.run (n.step e1) ((show Pst (mr ρ p1) _ (Fin G c I E) from hx).mono (fun _ _ z => z) fun y hy => hy.mono e1.grow)
theorem ms_if {sa sb : List Stmt} (h : MT X G W e tt mt) (h1 : MB X G W sa t ms) (h2 : MB X G W sb u mr) : MS X G W (.If e sa sb pos) (tIfS tt t u) (kIfS mt ms mr) := ⟨ps_if h.pt h1.ps h2.ps, es_if h.ev h1.ev h2.ev⟩
def kBreak : KS := fun ρ p => .ok (.bk, ρ, p)
def kCont : KS := fun ρ p => .ok (.ct, ρ, p)
theorem ms_break : MS X G W (.Break pos) tBreak kBreak := ⟨ps_break, .of fun c p ρ σ I H E n k => (show ∀ σ' I' H', Now G c p ρ σ' I' H' → Sub I I' → E.bk σ' H' from k) σ I H n Sub.refl⟩
theorem ms_cont : MS X G W (.Continue pos) tCont kCont := ⟨ps_continue, .of fun c p ρ σ I H E n k => (show ∀ σ' I' H', Now G c p ρ σ' I' H' → Sub I I' → E.ct σ' H' from k) σ I H n Sub.refl⟩
theorem ms_pass : MS X G W (.Pass pos) tNext kNext := ⟨ps_pass, es_next⟩
/-- ahead of a statement: own lists become values, slots are forgotten -/
def frzAll (is : List Nat) (ρ : List Sl) : List Sl := is.foldl (fun ρ i => frzAt i ρ) ρ
def fgtAll (is : List Nat) (ρ : List Sl) : List Sl := is.foldl (fun ρ i => ρ.set i .no) ρ
def kFrz (is : List Nat) (m : KS) : KS := fun ρ p => m (frzAll is ρ) p
def kFgt (is : List Nat) (m : KS) : KS := fun ρ p => m (fgtAll is ρ) p
theorem Now.frzAll {c : Ctx} {p : Pen} {σ : L2.St} {H : Hp} : ∀ (is : List Nat) {ρ : List Sl} {I : Hp}, Now G c p ρ σ I H → ∃ I', Now G c p (Dn.frzAll is ρ) σ I' H ∧ Sub I I'
  | [], _, I, n => ⟨I, n, Sub.refl⟩
  | i :: is, _, I, n => by
    obtain ⟨I1, n1, s1⟩ := n.frz i
    obtain ⟨I2, n2, s2⟩ := Now.frzAll is n1
    exact ⟨I2, n2, s1.trans s2⟩
theorem Now.fgtAll {c : Ctx} {p : Pen} {σ : L2.St} {I H : Hp} : ∀ (is : List Nat) {ρ : List Sl}, Now G c p ρ σ I H → Now G c p (Dn.fgtAll is ρ) σ I H
  | [], _, n => n
  | i :: is, _, n => Now.fgtAll is (n.forget i)
theorem es_frz (is : List Nat) (h : EvS G W ms t) : EvS G W (kFrz is ms) t := .of fun c p ρ σ I H E n k => by
  obtain ⟨I', n', s⟩ := Now.frzAll is n
  exact h.run n' ((show Pst (ms (frzAll is ρ) p) _ (Fin G c I E) from k).mono (fun _ _ z => z) fun y hy => hy.mono s)
theorem es_fgt (is : List Nat) (h : EvS G W ms t) : EvS G W (kFgt is ms) t := .of fun c p ρ σ I H E n k => h.run (Now.fgtAll is n) k
theorem ms_frz (is : List Nat) (h : MS X G W st t ms) : MS X G W st t (kFrz is ms) := ⟨h.ps, es_frz is h.ev⟩
theorem ms_fgt (is : List Nat) (h : MS X G W st t ms) : MS X G W st t (kFgt is ms) := ⟨h.ps, es_fgt is h.ev⟩
/-- behind a statement that goes on, slots are forgotten -/
def kAft (is : List Nat) (m : KS) : KS := fun ρ p => do
  let r ← m ρ p
  pure (r.1, fgtAll is r.2.1, r.2.2)
theorem es_aft (is : List Nat) (h : EvS G W ms t) : EvS G W (kAft is ms) t := .of fun c p ρ σ I H E n k => by
  refine h.run n ((Pst.bind.mp k).mono (fun _ _ z => z) fun x hx => ?_)
  obtain ⟨f, ρ', p'⟩ := x
  cases f with
  | nx => exact fun σ' I' H' n' s => (show ∀ σ' I' H', Now G c p' (fgtAll is ρ') σ' I' H' → Sub I I' → E.nx σ' H' from hx) σ' I' H' (Now.fgtAll is n') s
  | bk => exact fun σ' I' H' n' s => (show ∀ σ' I' H', Now G c p' (fgtAll is ρ') σ' I' H' → Sub I I' → E.bk σ' H' from hx) σ' I' H' (Now.fgtAll is n') s
  | ct => exact fun σ' I' H' n' s => (show ∀ σ' I' H', Now G c p' (fgtAll is ρ') σ' I' H' → Sub I I' → E.ct σ' H' from hx) σ' I' H' (Now.fgtAll is n') s
  | ret d => exact hx
theorem ms_aft (is : List Nat) (h : MS X G W st t ms) : MS X G W st t (kAft is ms) := ⟨h.ps, es_aft is h.ev⟩
theorem mb_aft (is : List Nat) {sts : List Stmt} (h : MB X G W sts t ms) : MB X G W sts t (kAft is ms) := ⟨h.ps, es_aft is h.ev⟩

/-! ### a value or a new thing of one's own -/
abbrev KX := List Sl → Pen → R (Sl × Pen)
def NewR (G : Gm) (I' H H' : Hp) (s : Sl) (v : V) : Prop := match s with
  | .val d => DV G I' d v
  | .own ds => ∃ q vs, v = .ref q ∧ H q = none ∧ I' q = none ∧ H' q = some (.lst vs) ∧ DVs G I' ds vs
  | .ownd ks ds => ∃ q vs, v = .ref q ∧ H q = none ∧ I' q = none ∧ H' q = some (.dK (ks.zip vs)) ∧ ks.length = ds.length ∧ DVs G I' ds vs
  | .cln d => DV G I' d v ∧ Cln G I' d v
  | _ => False
def EvX (G : Gm) (W : XK) (m : KX) (te : TE) : Prop := ∀ (c : Ctx) (p : Pen) (ρ : List Sl) (σ : L2.St) (I H : Hp) (Q : VK), Now G c p ρ σ I H →
  Pst (m ρ p) (Thr G c W) (fun a => ∀ v I' H', Ext c.P I H a.2 I' H' → NewR G I' H H' a.1 v → Q v H') → te σ H Q
structure MX (X : Cx) (G : Gm) (W : XK) (e : Expr) (te : TE) (m : KX) : Prop where
  pe : PE X e te
  ev : EvX G W m te
def kXV (m : KE) : KX := fun ρ p => do
  let a ← m ρ p
  pure (.val a.1, a.2)
def kXF (m : KL) : KX := fun ρ p => do
  let a ← m ρ p
  pure (.own a.1, a.2)
theorem ex_v (h : EvE G W m te) : EvX G W (kXV m) te := fun c p ρ σ I H Q n k =>
  h c p ρ σ I H _ n ((Pst.bind.mp k).mono (fun _ _ z => z) fun x hx v I1 H1 e1 d1 => (show ∀ v I' H', Ext c.P I H x.2 I' H' → NewR G I' H H' (.val x.1) v → Q v H' from hx) v I1 H1 e1 d1)
theorem ex_f (h : EvF G W ml te) : EvX G W (kXF ml) te := fun c p ρ σ I H Q n k =>
  h c p ρ σ I H _ n ((Pst.bind.mp k).mono (fun _ _ z => z) fun x hx q vs I1 H1 e1 hq hi hh d1 => (show ∀ v I' H', Ext c.P I H x.2 I' H' → NewR G I' H H' (.own x.1) v → Q v H' from hx) _ I1 H1 e1 ⟨q, vs, rfl, hq, hi, hh, d1⟩)
theorem mx_v (h : ME X G W e te m) : MX X G W e te (kXV m) := ⟨h.pe, ex_v h.ev⟩
theorem mx_f (h : MF X G W e te ml) : MX X G W e te (kXF ml) := ⟨h.pe, ex_f h.ev⟩
/-- {} -/
def kDic0 : KX := fun _ p => .ok (.ownd [] [], p)
theorem mx_dic0 : MX X G W (.Dict [] [] pos) tDNewK kDic0 := ⟨pe_dnewK, fun c p ρ σ I H Q n k q hq =>
  (show ∀ v I' H', Ext c.P I H p I' H' → NewR G I' H H' (.ownd [] []) v → Q v H' from k) (.ref q) I _ ((ExtN.lose n.sub hq).to n.pen) ⟨q, [], rfl, hq, sub_none n.sub hq, upd_same, rfl, DVs.nil.mpr rfl⟩⟩
/-- a slot is set to what is new -/
theorem Now.setX {c : Ctx} {p : Pen} {ρ : List Sl} {σ : L2.St} {I H H' : Hp} {s : Sl} {v : V} {i : Nat} (n : Now G c p ρ σ I H') (k : ∀ b o, H b = none → o = c.H0 b → o = none) (hold : ∀ (j : Nat) (t : Sl) (q : Addr), ρ[j]? = some t → t.isOwn = true → σ[j]? = some (some (.ref q)) → ∃ o, H q = some o) (r : NewR G I H H' s v) :
    Now G c p (ρ.set i s) (σ.set i (some v)) I H' := by
  cases s with
  | val d => exact n.setV r
  | own ds =>
    obtain ⟨q, vs, rfl, h1, h2, h3, h4⟩ := r
    refine n.setS (fun _ => ⟨q, vs, rfl, h3, h2, k q _ h1 rfl, h4⟩) fun _ q' hq' j t ht ho hj => ?_
    cases hq'
    obtain ⟨o, ho⟩ := hold j t q ht ho hj
    rw [h1] at ho
    cases ho
  | ownd ks ds =>
    obtain ⟨q, vs, rfl, h1, h2, h3, hl, h4⟩ := r
    refine n.setS (fun _ => ⟨q, vs, rfl, h3, hl, h2, k q _ h1 rfl, h4⟩) fun _ q' hq' j t ht ho hj => ?_
    cases hq'
    obtain ⟨o, ho⟩ := hold j t q ht ho hj
    rw [h1] at ho
    cases ho
  | no => exact False.elim r
  | pen => exact False.elim r
  | cln d => exact n.setS (fun _ => ⟨v, rfl, r.1, r.2⟩) fun z => by cases z
theorem Now.old0 {c : Ctx} {p : Pen} {ρ : List Sl} {σ : L2.St} {I H : Hp} (n : Now G c p ρ σ I H) : ∀ b o, H b = none → o = c.H0 b → o = none := fun b o h e => by
  cases z : c.H0 b with
  | none => rw [e, z]
  | some u => obtain ⟨o', h'⟩ := n.ext.there z; rw [h'] at h; cases h
theorem Now.olds {c : Ctx} {p : Pen} {ρ : List Sl} {σ : L2.St} {I H : Hp} (n : Now G c p ρ σ I H) : ∀ (j : Nat) (t : Sl) (q : Addr), ρ[j]? = some t → t.isOwn = true → σ[j]? = some (some (.ref q)) → ∃ o, H q = some o := fun _ _ _ h1 h2 h3 => (n.own_at h1 h2 h3).1.imp fun _ h => h.1
def kAsgX (i : Nat) (m : KX) : KS := fun ρ p => do
  let a ← m ρ p
  pure (.nx, ρ.set i a.1, a.2)
theorem es_asgX {i : Nat} {mx : KX} (h : EvX G W mx te) : EvS G W (kAsgX i mx) (tAsg te (gName i)) := .of fun c p ρ σ I H E n k =>
  h c p ρ σ I H _ n ((Pst.bind.mp k).mono (fun _ _ z => z) fun x hx v I1 H1 e1 r =>
    (show ∀ σ' I' H', Now G c x.2 (ρ.set i x.1) σ' I' H' → Sub I I' → E.nx σ' H' from hx) (σ.set i (some v)) I1 H1 ((n.step e1).setX n.old0 n.olds r) e1.grow)
theorem ms_asgX (i : Nat) {x : Str} {px : Pos} {mx : KX} (h : MX X G W e te mx) (hN : X.N.Nodup) (hi : X.N[i]? = some x := by rfl) (hx : Loc X.env.scope x := by first | exact Or.inl rfl | exact Or.inr rfl) (hf : X.fn x = true ∨ X.env.scope.names.lookup x = some .local := by first | exact .inl rfl | exact .inr rfl)
    (hs : swapsWithSole [.Name x px] e pos.line X.env = pure false := by rfl) (hw : swappedStores [.Name x px] e X.env = pure none := by rfl) (h1 : (assignEach [.Name x px] X.env).map (·.2) = [assign (.Name x px) X.env] := by rfl) :
    MS X G W (.Assign [.Name x px] e pos) (tAsg te (gName i)) (kAsgX i mx) := ⟨ps_asg h.pe (pg_name hN hi hx hf) hs hw h1, es_asgX h.ev⟩
/-- later steps keep what is new -/
theorem NewR.step {P : PP} {I1 H H1 I2 H2 : Hp} {p2 : Pen} {s : Sl} {v : V} (hP : ∀ a cc, P = some (a, cc) → ∃ o, H a = some o) (r : NewR G I1 H H1 s v) (e : Ext P I1 H1 p2 I2 H2) : NewR G I2 H H2 s v := by
  have ne : ∀ q, H q = none → ∀ a cc, P = some (a, cc) → q ≠ a := fun q h a cc z w => by
    obtain ⟨o, ho⟩ := hP a cc z
    rw [← w, h] at ho
    cases ho
  cases s with
  | val d => exact DV.mono e.grow r
  | own ds =>
    obtain ⟨q, vs, rfl, h1, h2, h3, h4⟩ := r
    exact ⟨q, vs, rfl, h1, e.new q _ h3 h2, e.keep.at_ q _ (ne q h1) (fun _ z => by cases z) h3, DVs.mono e.grow h4⟩
  | ownd ks ds =>
    obtain ⟨q, vs, rfl, h1, h2, h3, hl, h4⟩ := r
    exact ⟨q, vs, rfl, h1, e.new q _ h3 h2, e.keep.at_ q _ (ne q h1) (fun _ z => by cases z) h3, hl, DVs.mono e.grow h4⟩
  | no => exact False.elim r
  | pen => exact False.elim r
  | cln d => exact ⟨DV.mono e.grow r.1, r.2.mono e.grow⟩
def kPar (i j : Nat) (m1 m2 : KX) : KS := fun ρ p => do
  let a ← m1 ρ p
  let b ← m2 ρ a.2
  pure (.nx, (ρ.set i a.1).set j b.1, b.2)
theorem es_par {i j : Nat} {m1 m2 : KX} (h1 : EvX G W m1 ta) (h2 : EvX G W m2 tb) : EvS G W (kPar i j m1 m2) (tPar i j (tCons ta (tCons tb tNil))) := .of fun c p ρ σ I H E n k => by
  refine h1 c p ρ σ I H _ n ((Pst.bind.mp k).mono (fun _ _ z => z) fun x hx v I1 H1 e1 r1 => ?_)
  have n1 := n.step e1
  refine h2 c x.2 ρ σ I1 H1 _ n1 ((Pst.bind.mp hx).mono (fun _ _ z => z) fun y hy w I2 H2 e2 r2 => ⟨v, w, rfl, ?_⟩)
  have n2 := n1.step e2
  have r1' := NewR.step (fun a cc z => ⟨_, (n.pen a cc z).d⟩) r1 e2
  have n3 := n2.setX (i := i) n.old0 n.olds r1'
  refine (show ∀ σ' I' H', Now G c y.2 ((ρ.set i x.1).set j y.1) σ' I' H' → Sub I I' → E.nx σ' H' from hy) _ I2 H2 (n3.setX n1.old0 (fun k t q ht ho hk => ?_) r2) (e1.grow.trans e2.grow)
  by_cases hik : i = k
  · subst hik
    by_cases hl : i < ρ.length
    · rw [List.getElem?_set_self hl] at ht
      rw [List.getElem?_set_self (n.lt.mp hl)] at hk
      injection ht with ht
      injection hk with hk
      injection hk with hk
      subst hk
      rw [ht] at r1
      cases t with
      | own ds =>
        obtain ⟨q', vs, e, _, _, h3, _⟩ := r1
        cases e
        exact ⟨_, h3⟩
      | ownd ks ds =>
        obtain ⟨q', vs, e, _, _, h3, _⟩ := r1
        cases e
        exact ⟨_, h3⟩
      | _ => cases ho
    · rw [List.getElem?_eq_none (by rw [List.length_set]; omega)] at ht
      cases ht
  · rw [List.getElem?_set_ne hik] at ht hk
    exact (n1.own_at ht ho hk).1.imp fun _ h => h.1
theorem ms_par (i j : Nat) {x y : Str} {px py pt : Pos} {kt k2 : Nat} {pt2 : Pos} {m1 m2 : KX} (h1 : MX X G W a ta m1) (h2 : MX X G W b tb m2) (hN : X.N.Nodup) (hi : X.N[i]? = some x := by rfl) (hj : X.N[j]? = some y := by rfl) (hij : i ≠ j := by decide) (hc : X.calm = true := by rfl)
    (hx : X.env.scope.names.lookup x = some .local := by rfl) (hy : X.env.scope.names.lookup y = some .local := by rfl)
    (hw : swappedStores [.Tuple [.Name x px, .Name y py] kt pt] (.Tuple [a, b] k2 pt2) X.env = pure (some [x, y]) := by rfl) (he1 : starEach (a :: [b]) X.env = (false, eval a X.env) :: starEach [b] X.env := by rfl) (he2 : starEach (b :: []) X.env = (false, eval b X.env) :: starEach [] X.env := by rfl)
    (hs : swapsWithSole [.Tuple [.Name x px, .Name y py] kt pt] (.Tuple [a, b] k2 pt2) pos.line X.env = pure false := by rfl) :
    MS X G W (.Assign [.Tuple [.Name x px, .Name y py] kt pt] (.Tuple [a, b] k2 pt2) pos) (tPar i j (tCons ta (tCons tb tNil))) (kPar i j m1 m2) :=
  ⟨ps_par hc hN hi hj hij hx hy (pa_cons h1.pe (pa_cons h2.pe pa_nil he2) he1) hw hs, es_par h1.ev h2.ev⟩

/-! ### own lists change -/
/-- x.append(e) -/
def kApp (i : Nat) (m : KE) : KS := fun ρ p => match ρ[i]? with
  | some (.own ds) => do
    let a ← m ρ p
    if ds.length < sizeLine then pure (.nx, ρ.set i (.own (ds ++ [a.1])), a.2) else .error .stuck
  | _ => .error .stuck
theorem es_app {i : Nat} (h : EvE G W m te) : EvS G W (kApp i m) (tDrop (tBM G.K "list" rAppend (tVar i) (tCons te tNil))) := .of fun c p ρ σ I H E n k => by
  unfold kApp at k
  cases hs : ρ[i]? with
  | none => rw [hs] at k; exact False.elim k
  | some sl =>
    rw [hs] at k
    have r := n.rel i sl hs
    cases sl with
    | own ds =>
      obtain ⟨q, vs, h1, h2, h3, h4, h5⟩ := r
      refine ⟨.ref q, h1, .inl ⟨rfl, vs, SqL.of h2⟩, ?_⟩
      have k : Pst (m ρ p >>= fun a => if ds.length < sizeLine then pure (.nx, ρ.set i (.own (ds ++ [a.1])), a.2) else .error .stuck) _ (Fin G c I E) := k
      refine h c p ρ σ I H _ n ((Pst.bind.mp k).mono (fun _ _ z => z) fun x hx v I1 H1 e1 d1 => ?_)
      have n1 := n.step e1
      obtain ⟨hl, hx⟩ := Pst.ite hx
      have hq := e1.keep.at_ q _ (fun a cc z => (n.apart h4 a cc z).1) (fun _ z => by cases z) h2
      refine ⟨q, vs, v, rfl, rfl, hq, by rw [h5.length]; exact hl, ?_⟩
      refine (show ∀ σ' I' H', Now G c x.2 (ρ.set i (.own (ds ++ [x.1]))) σ' I' H' → Sub I I' → E.nx σ' H' from hx) σ I1 _ (n1.mut hs rfl h1 ⟨q, _, rfl, upd_same, e1.new q _ h2 h3, h4, DVs.append (DVs.mono e1.grow h5) (DVs.one.mpr ⟨v, rfl, d1⟩)⟩) e1.grow
    | _ => exact False.elim k
theorem ms_app (i : Nat) {x : Str} {px pa pc : Pos} (h : ME X G W e te m) (hN : X.N[i]? = some x := by rfl) (hv : Vis X.env.scope x := by first | exact Or.inl rfl | exact Or.inr (Or.inl rfl) | exact Or.inr (Or.inr rfl)) (hk : X.K = G.K := by rfl)
    (hd : (x == ("__debug__" : Str)) = false := by decide) (hcd : (x == ("__classdict__" : Str)) = false := by decide) (he : starEach (e :: []) X.env = (false, eval e X.env) :: starEach [] X.env := by rfl)
    (hs : swapsWith (.Call (.Attribute (.Name x px) "append" pa) [e] [] pc) none pos.line X.env = pure false := by rfl)
    (hbase : attributeBase (.Name x px) "append" X.env (eval (.Name x px) X.env) = eval (.Name x px) X.env := by rfl)
    (hfew : ((backTo pc (starEach (e :: []) X.env)).all (fun x => !x.1) && (backToKw pc (keywordEach [] X.env)).all (fun x => x.1.isSome)
      && decide ((e :: ([] : List Expr)).length + ([] : List Keyword).length + (if ([] : List Keyword).isEmpty then 0 else 1) < 30)) = true := by rfl)
    (hline : (pa.endLine == pc.line) = true := by rfl) (hplain : (backTo pc (starEach [] X.env)).any (·.1) = false := by rfl) :
    MS X G W (.Expr (.Call (.Attribute (.Name x px) "append" pa) [e] [] pc) pos) (tDrop (tBM X.K "list" rAppend (tVar i) (tCons te tNil))) (kApp i m) :=
  ⟨ps_expr (pe_bm PySem.F.plainAttrs_list PySem.F.slot_list_append PySem.F.type_list_append mt_append (pe_var hN hv hd hcd) (pa_cons h.pe pa_nil he) hbase hfew hline he hplain) hs, by rw [hk]; exact es_app h.ev⟩
/-- x[j] = e -/
def kSet (i : Nat) (mj mv : KE) : KS := fun ρ p => do
  let a ← mv ρ p
  match ρ[i]? with
  | some (.own ds) => do
    let b ← mj ρ a.2
    let j ← ofO (toI b.1)
    let k ← ofO (ixN ds.length j)
    pure (.nx, ρ.set i (.own (ds.set k a.1)), b.2)
  | _ => .error .stuck
theorem es_set {i : Nat} (hj : EvE G W ma ta) (hv : EvE G W m te) : EvS G W (kSet i ma m) (tAsg te (gSub (tVar i) ta rSetL)) := .of fun c p ρ σ I H E n k => by
  refine hv c p ρ σ I H _ n ((Pst.bind.mp k).mono (fun _ _ z => z) fun x hx v I1 H1 e1 d1 => ?_)
  have n1 := n.step e1
  cases hs : ρ[i]? with
  | none => rw [hs] at hx; exact False.elim hx
  | some sl =>
    rw [hs] at hx
    have r := n1.rel i sl hs
    cases sl with
    | own ds =>
      obtain ⟨q, vs, h1, h2, h3, h4, h5⟩ := r
      refine ⟨.ref q, h1, ?_⟩
      have hx : Pst (ma ρ x.2 >>= fun b => ofO (toI b.1) >>= fun j => ofO (ixN ds.length j) >>= fun k => pure (.nx, ρ.set i (.own (ds.set k x.1)), b.2)) _ (Fin G c I E) := hx
      refine hj c x.2 ρ σ I1 H1 _ n1 ((Pst.bind.mp hx).mono (fun _ _ z => z) fun y hy w I2 H2 e2 d2 => ?_)
      have n2 := n1.step e2
      obtain ⟨j, ej, hy⟩ := Pst.ofO (Pst.bind.mp hy)
      obtain ⟨k, ek, hy⟩ := Pst.ofO (Pst.bind.mp hy)
      rw [toI_some ej] at d2
      unfold DV at d2
      have hq := e2.keep.at_ q _ (fun a cc z => (n1.apart h4 a cc z).1) (fun _ z => by cases z) h2
      refine ⟨q, vs, j, k, rfl, d2, hq, by rw [h5.length]; exact ek, ?_⟩
      exact (show ∀ σ' I' H', Now G c y.2 (ρ.set i (.own (ds.set k x.1))) σ' I' H' → Sub I I' → E.nx σ' H' from hy) σ I2 _ (n2.mut hs rfl h1 ⟨q, _, rfl, upd_same, e2.new q _ h2 h3, h4, DVs.set _ (DVs.mono e2.grow h5) (d1.mono e2.grow)⟩) (e1.grow.trans e2.grow)
    | _ => exact False.elim hx
theorem ms_set (i : Nat) {x : Str} {px ps : Pos} (hj : ME X G W a ta ma) (h : ME X G W e te m) (hN : X.N[i]? = some x := by rfl) (hv : Vis X.env.scope x := by first | exact Or.inl rfl | exact Or.inr (Or.inl rfl) | exact Or.inr (Or.inr rfl))
    (hd : (x == ("__debug__" : Str)) = false := by decide) (hcd : (x == ("__classdict__" : Str)) = false := by decide)
    (ha : ∀ v, assign (.Subscript (.Name x px) a ps) X.env v = (do
      let ov ← holding [v] (eval (.Name x px) X.env)
      let iv ← holding [v, ov] (eval a X.env)
      standAt ps
      holding [v, ov, iv] (setItem ov iv v)
      release [v, ov, iv] []) := by intro _; rfl)
    (hs : swapsWithSole [.Subscript (.Name x px) a ps] e pos.line X.env = pure false := by rfl) (hw : swappedStores [.Subscript (.Name x px) a ps] e X.env = pure none := by rfl) (h1 : (assignEach [.Subscript (.Name x px) a ps] X.env).map (·.2) = [assign (.Subscript (.Name x px) a ps) X.env] := by rfl) :
    MS X G W (.Assign [.Subscript (.Name x px) a ps] e pos) (tAsg te (gSub (tVar i) ta rSetL)) (kSet i ma m) := ⟨ps_asg h.pe (pg_sub (pe_var hN hv hd hcd) hj.pe set_list ha) hs hw h1, es_set hj.ev h.ev⟩
/-- return x, x an own list -/
def kRetL (m : KL) : KS := fun ρ p => do
  let a ← m ρ p
  pure (.ret (.lst a.1), ρ, a.2)
theorem es_retO {i : Nat} : EvS G W (kRetL (kOwn i)) (tRet (tVar i)) := .of fun c p ρ σ I H E n k => by
  have k := Pst.bind.mp k
  unfold kOwn at k
  cases hs : ρ[i]? with
  | none => rw [hs] at k; exact False.elim k
  | some sl =>
    rw [hs] at k
    have r := n.rel i sl hs
    cases sl with
    | own ds =>
      obtain ⟨q, vs, h1, h2, h3, h4, h5⟩ := r
      refine ⟨.ref q, h1, ?_⟩
      have s1 : Sub I (upd I q (.lst vs)) := Sub.new h3
      refine (show ∀ v I' H', Ext c.P c.I0 c.H0 p I' H' → DV G I' (.lst ds) v → E.rt v H' from k) (.ref q) (upd I q (.lst vs)) H ⟨n.ext.keep, n.ext.grow.trans s1, fun b o hb => ?_, fun b o hb hn => ?_, n.pen⟩ (by unfold DV; exact ⟨q, vs, rfl, upd_same, DVs.mono s1 h5⟩)
      · by_cases z : b = q
        · subst z
          rw [upd_same] at hb
          rw [h2]
          exact hb
        · rw [upd_ne z] at hb
          exact n.sub b o hb
      · rw [upd_ne (fun z => by rw [z, h4] at hb; cases hb)]
        exact n.ext.new b o hb hn
    | _ => exact False.elim k
theorem ms_retO (i : Nat) {x : Str} {px : Pos} (hN : X.N[i]? = some x := by rfl) (hv : Vis X.env.scope x := by first | exact Or.inl rfl | exact Or.inr (Or.inl rfl) | exact Or.inr (Or.inr rfl)) (hd : (x == ("__debug__" : Str)) = false := by decide) (hcd : (x == ("__classdict__" : Str)) = false := by decide) :
    MS X G W (.Return (some (.Name x px)) pos) (tRet (tVar i)) (kRetL (kOwn i)) := ⟨ps_ret (pe_var hN hv hd hcd), es_retO⟩

/-! ### while -/
def whileGo (t : KB) (b : KS) : Nat → KS
  | 0 => fun _ _ => .error .stuck
  | n + 1 => fun ρ p => do
    let k ← t ρ p
    if k.1 = true then do
      let r ← b ρ k.2
      match r.1 with
      | .nx => whileGo t b n r.2.1 r.2.2
      | .ct => whileGo t b n r.2.1 r.2.2
      | .bk => pure (.nx, r.2.1, r.2.2)
      | .ret d => pure (.ret d, r.2.1, r.2.2)
    else pure (.nx, ρ, k.2)
theorem es_while (f : Nat) (h : EvB G W mt tt) (hb : EvS G W ms t) : EvS G W (whileGo mt ms f) (tWhile tt t) := .of fun c p ρ σ I H E n k => by
  refine ⟨fun m σ H => ∃ ρ p J, Now G c p ρ σ J H ∧ Sub I J ∧ Pst (whileGo mt ms m ρ p) (Thr G c W) (Fin G c I E), ⟨f, ρ, p, I, n, Sub.refl, k⟩, ?_⟩
  rintro m σ H ⟨ρ, p, J, n, s, k⟩
  cases m with
  | zero => exact False.elim k
  | succ m =>
    refine h c p ρ σ J H _ n ((Pst.bind.mp (show Pst (mt ρ p >>= _) _ _ from k)).mono (fun _ _ z => z) fun x hx I1 H1 e1 => ?_)
    obtain ⟨x, p1⟩ := x
    have n1 := n.step e1
    cases x with
    | false => exact (show ∀ σ' I' H', Now G c p1 ρ σ' I' H' → Sub I I' → E.nx σ' H' from hx) σ I1 H1 n1 (s.trans e1.grow)
    | true =>
      show ∃ N : L2.St → Hp → Prop, _
      refine ⟨fun σ' H' => ∃ ρ p J, Now G c p ρ σ' J H' ∧ Sub I J ∧ Pst (whileGo mt ms m ρ p) (Thr G c W) (Fin G c I E), fun σ' H' z => ⟨m, Nat.lt_succ_self m, z⟩, ?_⟩
      have hx : Pst (ms ρ p1 >>= fun r => match r.1 with
        | .nx => whileGo mt ms m r.2.1 r.2.2
        | .ct => whileGo mt ms m r.2.1 r.2.2
        | .bk => pure (.nx, r.2.1, r.2.2)
        | .ret d => pure (.ret d, r.2.1, r.2.2)) (Thr G c W) (Fin G c I E) := hx
      refine hb.run n1 ((Pst.bind.mp hx).mono (fun _ _ z => z) fun y hy => ?_)
      obtain ⟨fl, ρ2, p2⟩ := y
      cases fl with
      | nx => exact fun σ' I' H' n' s' => ⟨ρ2, p2, I', n', (s.trans e1.grow).trans s', hy⟩
      | ct => exact fun σ' I' H' n' s' => ⟨ρ2, p2, I', n', (s.trans e1.grow).trans s', hy⟩
      | bk => exact fun σ' I' H' n' s' => (show ∀ σ' I' H', Now G c p2 ρ2 σ' I' H' → Sub I I' → E.nx σ' H' from hy) σ' I' H' n' ((s.trans e1.grow).trans s')
      | ret d => exact hy
theorem ms_while (f : Nat) {body : List Stmt} (h : MT X G W e tt mt) (hb : MB X G W body t ms) (hp : PassesOwn (model X.prog X.w) X.A X.env X.xe := by first | exact PassesOwn.never | exact L2.passes_of rfl) : MS X G W (.While e body [] pos) (tWhile tt t) (whileGo mt ms f) := ⟨ps_while hp h.pt hb.ps, es_while f h.ev hb.ev⟩
end
end Dn
end
section
set_option Elab.async false
set_option linter.all false
set_option maxRecDepth 100000
set_option maxHeartbeats 2000000
namespace Dn
open PySem PySem.Spec L2

section
variable {X : Cx} {G : Gm} {W : XK} {e a b tg iter elt : Expr} {es : List Expr} {te ta tb : TE} {tt tu : TT} {m ma mb : KE} {mt mu : KB} {ml mk : KL} {pos : Pos} {g : TG} {gs : TGs} {is js : List Nat} {mg : KG} {mgs : KGs} {st : Stmt} {rest : List Stmt} {t u : TS} {ms mr : KS} {wi wi2 : TI} {mi mi2 : KL}

/-! ### what is walked -/
def YD (G : Gm) (I : Hp) (ds : List D) : Nat → Hp → V → Hp → Prop := fun i H x H' => ∀ I2, Sub I I2 → Sub I2 H → ∃ I3, ExtN I2 H I3 H' ∧ ∃ d, ds[i]? = some d ∧ DV G I3 d x
def WalkD (G : Gm) (I : Hp) (ds : List D) (J : It) : Prop := Walk J ds.length (fun H => Sub I H) (YD G I ds)
def EvI (G : Gm) (W : XK) (m : KL) (wi : TI) : Prop := ∀ (c : Ctx) (p : Pen) (ρ : List Sl) (σ : L2.St) (I H : Hp) (Q : It → Hp → Prop), Now G c p ρ σ I H →
  Pst (m ρ p) (Thr G c W) (fun a => ∀ J I' H', Ext c.P I H a.2 I' H' → WalkD G I' a.1 J → Q J H') → wi σ H Q
structure MI (X : Cx) (G : Gm) (W : XK) (tg iter : Expr) (wi : TI) (m : KL) : Prop where
  pi : PI X tg iter wi
  ev : EvI G W m wi
theorem PI.or (h : PI X tg iter wi) (h2 : PI X tg iter wi2) : PI X tg iter (fun σ H Q => wi σ H Q ∨ wi2 σ H Q) := ⟨fun pins s σ H R I q => by
  rcases q with q | q
  · exact h.run pins s σ H R I q
  · exact h2.run pins s σ H R I q⟩
/-- a list or a tuple -/
def toSeq : D → Option (List D)
  | .lst ds => some ds
  | .tup ds => some ds
  | _ => none
def kSeqI (m : KE) : KL := fun ρ p => do
  let a ← m ρ p
  let ds ← ofO (toSeq a.1)
  pure (ds, a.2)
theorem walk_seqL {I : Hp} {ds : List D} {vs : List V} {q : Addr} (h1 : I q = some (.lst vs)) (h2 : DVs G I ds vs) : WalkD G I ds (Itl G.K q) := by
  unfold WalkD
  rw [← h2.length]
  refine walk_list.mono (fun H s => SqL.of (s _ _ h1)) fun i H x H' hi s y I2 s1 s2 => ?_
  obtain ⟨rfl, hx⟩ := y
  have hd : i < ds.length := by rw [← h2.length]; exact hi
  obtain ⟨v, h3, h4⟩ := (DVs.mono s1 h2).get (List.getElem?_eq_getElem hd)
  rw [hx] at h3
  cases h3
  exact ⟨I2, ExtN.refl s2, _, List.getElem?_eq_getElem hd, h4⟩
theorem walk_seqT {I : Hp} {ds : List D} {vs : List V} {q : Addr} (h1 : SqT G.K I q vs) (h2 : DVs G I ds vs) : WalkD G I ds (Itt G.K q) := by
  unfold WalkD
  rw [← h2.length]
  refine walk_tup.mono (fun H s => s.seqT h1) fun i H x H' hi s y I2 s1 s2 => ?_
  obtain ⟨rfl, hx⟩ := y
  have hd : i < ds.length := by rw [← h2.length]; exact hi
  obtain ⟨v, h3, h4⟩ := (DVs.mono s1 h2).get (List.getElem?_eq_getElem hd)
  rw [hx] at h3
  cases h3
  exact ⟨I2, ExtN.refl s2, _, List.getElem?_eq_getElem hd, h4⟩
theorem ei_seq (h : EvE G W m te) : EvI G W (kSeqI m) (fun σ H Q => iList G.K te σ H Q ∨ iTup G.K te σ H Q) := fun c p ρ σ I H Q n k => by
  have k := Pst.bind.mp k
  have one : ∀ Q', Pst (m ρ p) (Thr G c W) (fun a => ∀ v I' H', Ext c.P I H a.2 I' H' → DV G I' a.1 v → Q' v H') → te σ H Q' := fun Q' => h c p ρ σ I H Q' n
  cases e : m ρ p with
  | error x =>
    refine .inl (one _ ?_)
    rw [e] at k ⊢
    cases x with
    | stuck => exact False.elim k
    | exn x ds => exact k
  | ok z =>
    obtain ⟨d, p1⟩ := z
    rw [e] at k one
    obtain ⟨ds, h1, k⟩ := Pst.ofO (Pst.bind.mp (show Pst (ofO (toSeq d) >>= fun ds => pure (ds, p1)) _ _ from k))
    cases d with
    | lst xs =>
      cases h1
      refine .inl (one _ ?_)
      show ∀ v I' H', Ext c.P I H p1 I' H' → DV G I' (.lst ds) v → _
      intro v I' H' x hv
      unfold DV at hv
      obtain ⟨q, vs, rfl, h2, h3⟩ := hv
      exact ⟨q, rfl, ⟨vs, SqL.of (x.sub _ _ h2)⟩, (show ∀ J I' H', Ext c.P I H p1 I' H' → WalkD G I' ds J → Q J H' from k) _ I' H' x (walk_seqL h2 h3)⟩
    | tup xs =>
      cases h1
      refine .inr (one _ ?_)
      show ∀ v I' H', Ext c.P I H p1 I' H' → DV G I' (.tup ds) v → _
      intro v I' H' x hv
      unfold DV at hv
      obtain ⟨q, vs, rfl, h2, h3⟩ := hv
      exact ⟨q, rfl, ⟨vs, x.sub.seqT h2⟩, (show ∀ J I' H', Ext c.P I H p1 I' H' → WalkD G I' ds J → Q J H' from k) _ I' H' x (walk_seqT h2 h3)⟩
    | _ => cases h1
theorem mi_seq (h : ME X G W iter te m) (hk : X.K = G.K := by rfl) : MI X G W tg iter (fun σ H Q => iList G.K te σ H Q ∨ iTup G.K te σ H Q) (kSeqI m) :=
  ⟨by rw [← hk]; exact PI.or (pi_list h.pe) (pi_tup h.pe), ei_seq h.ev⟩

/-! ### for -/
def forGo (mg : KG) (b : KS) : List D → KS
  | [], ρ, p => pure (.nx, ρ, p)
  | d :: ds, ρ, p => do
    let ρ1 ← unx (mg d ρ)
    let r ← b ρ1 p
    match r.1 with
    | .nx => forGo mg b ds r.2.1 r.2.2
    | .ct => forGo mg b ds r.2.1 r.2.2
    | .bk => pure (.nx, r.2.1, r.2.2)
    | .ret d => pure (.ret d, r.2.1, r.2.2)
def kFor (mi : KL) (mg : KG) (b : KS) : KS := fun ρ p => do
  let a ← mi ρ p
  forGo mg b a.1 ρ a.2
theorem drop_at {α : Type} {l : List α} {i : Nat} {d : α} (h : l[i]? = some d) : l.drop i = d :: l.drop (i + 1) := by
  obtain ⟨h1, h2⟩ := List.getElem?_eq_some_iff.mp h
  rw [List.drop_eq_getElem_cons h1, h2]
theorem es_for (hi : EvI G W mi wi) (hg : EvG G is mg g) (hb : EvS G W ms t) : EvS G W (kFor mi mg ms) (tFor wi g t) := .of fun c p ρ σ I H E n k => by
  refine hi c p ρ σ I H _ n ((Pst.bind.mp k).mono (fun _ _ z => z) fun x hx J I1 H1 e1 w => ?_)
  obtain ⟨ds, p1⟩ := x
  have hx : Pst (forGo mg ms ds ρ p1) (Thr G c W) (Fin G c I E) := hx
  refine for_it w (fun i σ H => ∃ ρ p I2, Now G c p ρ σ I2 H ∧ Sub I1 I2 ∧ Pst (forGo mg ms (ds.drop i) ρ p) (Thr G c W) (Fin G c I E)) ⟨ρ, p1, I1, n.step e1, Sub.refl, hx⟩ (fun i σ H _ ⟨ρ, p, I2, n2, s2, _⟩ => s2.trans n2.sub)
    (fun i x σ H H' hlt ⟨ρ, p, I2, n2, s2, k2⟩ y => ?_) (fun σ H ⟨ρ, p, I2, n2, s2, k2⟩ => ?_)
  · obtain ⟨I3, e3, d, hd, hv⟩ := y I2 s2 n2.sub
    have n3 := n2.step (e3.to (p := p) n2.pen)
    rw [drop_at hd] at k2
    have k2 : Pst (unx (mg d ρ) >>= fun ρ1 => ms ρ1 p >>= fun r => match r.1 with
      | .nx => forGo mg ms (ds.drop (i + 1)) r.2.1 r.2.2
      | .ct => forGo mg ms (ds.drop (i + 1)) r.2.1 r.2.2
      | .bk => pure (.nx, r.2.1, r.2.2)
      | .ret d => pure (.ret d, r.2.1, r.2.2)) (Thr G c W) (Fin G c I E) := k2
    refine hg c p ρ σ I3 H' d x _ n3 hv ((Pst.unx (Pst.bind.mp k2)).mono (fun _ _ z => z) fun ρ1 h1 σ1 n4 _ => ?_)
    refine hb.run n4 ((Pst.bind.mp h1).mono (fun _ _ z => z) fun z hz => ?_)
    obtain ⟨f, ρ2, p2⟩ := z
    cases f with
    | nx => exact fun σ' I' H' n' s' => ⟨ρ2, p2, I', n', (s2.trans e3.grow).trans s', hz⟩
    | ct => exact fun σ' I' H' n' s' => ⟨ρ2, p2, I', n', (s2.trans e3.grow).trans s', hz⟩
    | bk => exact fun σ' I' H' n' s' => (show ∀ σ' I' H', Now G c p2 ρ2 σ' I' H' → Sub I I' → E.nx σ' H' from hz) σ' I' H' n' (e1.grow.trans ((s2.trans e3.grow).trans s'))
    | ret d => exact hz
  · rw [List.drop_length] at k2
    exact (show ∀ σ' I' H', Now G c p ρ σ' I' H' → Sub I I' → E.nx σ' H' from k2) σ I2 H n2 (e1.grow.trans s2)
theorem ms_for {body : List Stmt} (hi : MI X G W tg iter wi mi) (hg : MG X G tg g is mg) (hb : MB X G W body t ms) (hc : X.calm = true := by rfl) (hp : PassesOwn (model X.prog X.w) X.A X.env X.xe := by first | exact PassesOwn.never | exact L2.passes_of rfl)
    (hs : ∀ x, foldedSetIterable iter X.env x = pure x := by intro _; rfl) : MS X G W (.For tg iter body [] pos) (tFor wi g t) (kFor mi mg ms) := ⟨ps_for hp hc hi.pi hg.pg hb.ps hs, es_for hi.ev hg.ev hb.ev⟩

/-! ### comprehensions -/
theorem fgt_len : ∀ (vs : List Nat) (ρ : List Sl), (fgtAll vs ρ).length = ρ.length
  | [], _ => rfl
  | v :: vs, ρ => by
    show (fgtAll vs (ρ.set v .no)).length = _
    rw [fgt_len vs, List.length_set]
theorem fgt_get : ∀ (vs : List Nat) (ρ : List Sl) (i : Nat) (s : Sl), (fgtAll vs ρ)[i]? = some s → s = .no ∨ (ρ[i]? = some s ∧ i ∉ vs)
  | [], _, _, _, h => .inr ⟨h, by simp⟩
  | v :: vs, ρ, i, s, h => by
    rcases fgt_get vs (ρ.set v .no) i s h with h | ⟨h1, h2⟩
    · exact .inl h
    · by_cases hv : v = i
      · subst hv
        by_cases hl : v < ρ.length
        · rw [List.getElem?_set_self hl] at h1
          injection h1 with h1
          exact .inl h1.symm
        · rw [List.getElem?_eq_none (by rw [List.length_set]; omega)] at h1
          cases h1
      · rw [List.getElem?_set_ne hv] at h1
        exact .inr ⟨h1, fun z => by rcases List.mem_cons.mp z with z | z; exact hv z.symm; exact h2 z⟩
theorem Now.wipe {c : Ctx} {p : Pen} {ρ : List Sl} {σ : L2.St} {I H : Hp} (n : Now G c p ρ σ I H) (vs : List Nat) : Now G c p (Dn.fgtAll vs ρ) (L2.wipe σ vs) I H := by
  refine ⟨n.ext, n.hid, by rw [wipe_length, fgt_len]; exact n.len, fun i s hs => ?_, fun i j s t q h1 h2 o1 o2 g1 g2 => ?_, n.nt⟩
  · rcases fgt_get vs ρ i s hs with e | ⟨h1, h2⟩
    · subst e; trivial
    · rw [wipe_out h2]
      exact n.rel i s h1
  · rcases fgt_get vs ρ i s h1 with e | ⟨h1', h3⟩
    · subst e; cases o1
    · rcases fgt_get vs ρ j t h2 with e | ⟨h2', h4⟩
      · subst e; cases o2
      · rw [wipe_out h3] at g1
        rw [wipe_out h4] at g2
        exact n.dist i j s t q h1' h2' o1 o2 g1 g2
theorem wipe_in {σ : L2.St} {i : Nat} : ∀ {vs : List Nat}, i ∈ vs → i < σ.length → (L2.wipe σ vs)[i]? = some none
  | [], h, _ => by cases h
  | v :: vs, h, hl => by
    unfold L2.wipe
    by_cases hv : v = i
    · subst hv
      exact List.getElem?_set_self (by rw [wipe_length]; exact hl)
    · rw [List.getElem?_set_ne hv]
      exact wipe_in ((List.mem_cons.mp h).resolve_left fun z => hv z.symm) hl
theorem wipe_same {σ σ2 : L2.St} {vs : List Nat} (hl : σ2.length = σ.length) (h : ∀ j : Nat, j ∉ vs → σ2[j]? = (L2.wipe σ vs)[j]?) : L2.wipe σ2 vs = L2.wipe σ vs := by
  apply List.ext_getElem?
  intro j
  by_cases hj : j ∈ vs
  · by_cases h1 : j < σ.length
    · rw [wipe_in hj (by omega), wipe_in hj h1]
    · rw [List.getElem?_eq_none (by rw [wipe_length]; omega), List.getElem?_eq_none (by rw [wipe_length]; omega)]
  · rw [wipe_out hj, h j hj]
theorem Pst.ite' {α : Type} {P : Prop} [Decidable P] {r : R α} {Kx : Nat → List D → Prop} {Ko : α → Prop} (h : Pst (if P then r else .error .stuck) Kx Ko) : P ∧ Pst r Kx Ko := by
  by_cases hp : P
  · rw [if_pos hp] at h; exact ⟨hp, h⟩
  · rw [if_neg hp] at h; exact False.elim h
/-- the turns of a comprehension -/
def lcGo (mg : KG) (mt : KB) (me : KE) (ρ : List Sl) : List D → List D → Pen → R (List D × Pen)
  | [], acc, p => pure (acc, p)
  | d :: ds, acc, p => do
    let ρ1 ← unx (mg d ρ)
    let t ← unx (mt ρ1 p)
    if t.1 = true then do
      let y ← unx (me ρ1 t.2)
      if acc.length < sizeLine then lcGo mg mt me ρ ds (acc ++ [y.1]) y.2 else .error .stuck
    else lcGo mg mt me ρ ds acc t.2
def kLc (vs : List Nat) (mi : KL) (mg : KG) (mt : KB) (me : KE) : KL := fun ρ p => do
  let a ← mi ρ p
  lcGo mg mt me (fgtAll vs ρ) a.1 [] a.2
def xNo : XK := fun _ _ _ => False
/-- the list being made: nothing is held of it -/
structure Mk (G : Gm) (c : Ctx) (Dd : Addr) (I H : Hp) (acc : List D) : Prop where
  nI : I Dd = none
  n0 : c.H0 Dd = none
  at_ : ∃ vs, H Dd = some (.lst vs) ∧ DVs G I acc vs
theorem Mk.nC {c : Ctx} {Dd : Addr} {I H : Hp} {acc : List D} (m : Mk G c Dd I H acc) : ∀ r, H Dd ≠ some (LamX.CodeO Dd r) := fun r z => by
  obtain ⟨vs, h1, _⟩ := m.at_
  rw [h1] at z
  exact codeO_lst (Option.some.inj z)
theorem Mk.nO {c : Ctx} {Dd : Addr} {I H : Hp} {acc : List D} (m : Mk G c Dd I H acc) : NoC H Dd := ⟨m.nC, fun ps z => by
  obtain ⟨vs, h1, _⟩ := m.at_
  rw [h1] at z
  cases z⟩
theorem Mk.step {c : Ctx} {Dd : Addr} {p p' : Pen} {ρ : List Sl} {σ : L2.St} {I H I' H' : Hp} {acc : List D} (m : Mk G c Dd I H acc) (n : Now G c p ρ σ I H) (e : Ext c.P I H p' I' H') : Mk G c Dd I' H' acc := by
  obtain ⟨vs, h1, h2⟩ := m.at_
  exact ⟨e.new _ _ h1 m.nI, m.n0, vs, e.keep.at_ _ _ (fun a cc z => (n.apart m.n0 a cc z).1) (fun _ z => by cases z) h1, DVs.mono e.grow h2⟩
theorem Mk.free {c : Ctx} {Dd : Addr} {p : Pen} {ρ : List Sl} {σ : L2.St} {I H : Hp} (n : Now G c p ρ σ I H) (h : H Dd = none) (o : HO) (ho : ∀ ps, o ≠ .tbl ps := by intro ps z; cases z) : Now G c p ρ σ I (upd H Dd o) := by
  have h0 : c.H0 Dd = none := n.old0 Dd _ h rfl
  refine n.put (by cases z : I Dd with | none => rfl | some u => rw [n.sub _ _ z] at h; cases h) h0 ⟨fun r z => (by rw [h] at z; cases z), fun ps z => (by rw [h] at z; cases z)⟩ (ho := ho) fun j t h1 h2 h3 => ?_
  obtain ⟨o', h'⟩ := n.olds j t Dd h1 h2 h3
  rw [h] at h'
  cases h'
theorem es_lc {vs : List Nat} (hi : EvI G W mi wi) (hg : EvG G is mg g) (hv : ∀ i ∈ is, i ∈ vs) (ht : EvB G xNo mt tt) (he : EvE G xNo m te) : EvF G W (kLc vs mi mg mt m) (tLc wi g tt te vs) := fun c p ρ σ I H Q n k => by
  refine hi c p ρ σ I H _ n ((Pst.bind.mp k).mono (fun _ _ z => z) fun x hx J I1 H1 e1 w Dd hD => ?_)
  obtain ⟨ds, p1⟩ := x
  have n1 := n.step e1
  have hDH : H Dd = none := by
    cases z : H Dd with
    | none => rfl
    | some u => obtain ⟨o, ho⟩ := e1.there z; rw [hD] at ho; cases ho
  have hD0 : c.H0 Dd = none := n1.old0 Dd _ hD rfl
  have hI1 : I1 Dd = none := by
    cases z : I1 Dd with
    | none => rfl
    | some u => rw [n1.sub _ _ z] at hD; cases hD
  let Kf : List D × Pen → Prop := fun a => ∀ q vs I' H', Ext c.P I H a.2 I' H' → H q = none → I' q = none → H' q = some (.lst vs) → DVs G I' a.1 vs → Q (.ref q) H'
  have hx : Pst (lcGo mg mt m (fgtAll vs ρ) ds [] p1) (Thr G c W) Kf := hx
  have wip : Now G c p1 (fgtAll vs ρ) (L2.wipe σ vs) I1 (upd H1 Dd (.lst [])) := Mk.free (n1.wipe vs) hD _
  refine lc_it w (fun i H2 => ∃ p I2 acc, Now G c p (fgtAll vs ρ) (L2.wipe σ vs) I2 H2 ∧ Sub I1 I2 ∧ Mk G c Dd I2 H2 acc ∧ Ext c.P I H p I2 H2 ∧ Pst (lcGo mg mt m (fgtAll vs ρ) (ds.drop i) acc p) (Thr G c W) Kf)
    ⟨p1, I1, [], wip, Sub.refl, ⟨hI1, hD0, [], upd_same, DVs.nil.mpr rfl⟩, e1.trans (ExtN.to (ExtN.lose n1.sub hD) n1.pen), hx⟩ (fun i H2 _ ⟨p, I2, acc, n2, s2, _⟩ => s2.trans n2.sub)
    (fun i x H2 H3 hlt ⟨p, I2, acc, n2, s2, mk, ex, k2⟩ y => ?_) (fun H2 ⟨p, I2, acc, n2, s2, mk, ex, k2⟩ => ?_)
  · obtain ⟨I3, e3, d, hd, hv'⟩ := y I2 s2 n2.sub
    have e3 := e3.to (p := p) n2.pen
    have n3 := n2.step e3
    have mk3 := mk.step n2 e3
    rw [drop_at hd] at k2
    have k2 : Pst (unx (mg d (fgtAll vs ρ)) >>= fun ρ1 => unx (mt ρ1 p) >>= fun t => if t.1 = true then (unx (m ρ1 t.2) >>= fun y => if acc.length < sizeLine then lcGo mg mt m (fgtAll vs ρ) (ds.drop (i + 1)) (acc ++ [y.1]) y.2 else .error .stuck)
      else lcGo mg mt m (fgtAll vs ρ) (ds.drop (i + 1)) acc t.2) (Thr G c W) Kf := k2
    refine hg c p _ _ I3 H3 d x _ n3 hv' ((Pst.unx (Pst.bind.mp k2)).mono (fun _ _ z => z) fun ρ1 h1 σ1 n4 same => ⟨?_, ?_⟩)
    · exact wipe_same (same.len.trans (wipe_length _ _)) fun j hj => same.out j fun z => hj (hv j z)
    · refine ht c p ρ1 σ1 I3 H3 _ n4 ((Pst.unx (Pst.bind.mp h1)).mono (fun _ _ z => z) fun z hz I4 H4 e4 => ?_)
      obtain ⟨bb, p4⟩ := z
      have n5 := n4.step e4
      have mk4 := mk3.step n4 e4
      cases bb with
      | false => exact ⟨p4, I4, acc, n3.step e4, (s2.trans e3.grow).trans e4.grow, mk4, (ex.trans e3).trans e4, hz⟩
      | true =>
        have hz : Pst (unx (m ρ1 p4) >>= fun y => if acc.length < sizeLine then lcGo mg mt m (fgtAll vs ρ) (ds.drop (i + 1)) (acc ++ [y.1]) y.2 else .error .stuck) (Thr G c W) Kf := hz
        show te σ1 H4 _
        refine he c p4 ρ1 σ1 I4 H4 _ n5 ((Pst.unx (Pst.bind.mp hz)).mono (fun _ _ z => z) fun y hy v I5 H5 e5 hv5 => ?_)
        have mk5 := mk4.step n5 e5
        obtain ⟨avs, ha1, ha2⟩ := mk5.at_
        obtain ⟨hl, hy⟩ := Pst.ite' hy
        have n6 := (n3.step e4).step e5
        have fr : ∀ (j : Nat) (t : Sl), (fgtAll vs ρ)[j]? = some t → t.isOwn = true → (L2.wipe σ vs)[j]? ≠ some (some (.ref Dd)) := fun j t h1 h2 h3 => by
          obtain ⟨o, ho⟩ := (n1.wipe vs).olds j t Dd h1 h2 h3
          rw [hD] at ho
          cases ho
        refine ⟨avs, ha1, by rw [ha2.length]; exact hl, y.2, I5, acc ++ [y.1], n6.put mk5.nI mk5.n0 mk5.nO fr, ((s2.trans e3.grow).trans e4.grow).trans e5.grow, ⟨mk5.nI, mk5.n0, _, upd_same, DVs.append ha2 (DVs.one.mpr ⟨v, rfl, hv5⟩)⟩, ?_, hy⟩
        have e6 : Ext c.P I H y.2 I5 H5 := ((ex.trans e3).trans e4).trans e5
        refine ⟨e6.keep.put hDH mk5.nC, e6.grow, fun b u h => ?_, e6.new, (n6.put mk5.nI mk5.n0 mk5.nO fr).pen⟩
        · rw [upd_ne (fun z => by rw [z, mk5.nI] at h; cases h)]
          exact e6.sub b u h
  · rw [List.drop_length] at k2
    obtain ⟨avs, ha1, ha2⟩ := mk.at_
    exact (show Kf (acc, p) from k2) Dd avs I2 H2 ex hDH mk.nI ha1 ha2
end
end Dn
end
section
set_option Elab.async false
set_option linter.all false
set_option maxRecDepth 100000
set_option maxHeartbeats 2000000
namespace Dn
open PySem PySem.Spec L2

section
variable {X : Cx} {G : Gm} {W : XK} {e a b tg iter elt tg1 iter1 : Expr} {es ifs ifs1 : List Expr} {te ta tb : TE} {tr : TA} {tt tt1 tu : TT} {m ma mb : KE} {mt mt1 mu : KB} {ml mk : KL} {pos : Pos} {g g1 : TG} {gs : TGs} {is is1 js : List Nat} {mg mg1 : KG} {mgs : KGs} {st : Stmt} {t u : TS} {ms mr : KS} {wi wi1 : TI} {mi mi1 : KL}

/-! ### the tests of a comprehension, the comprehension -/
structure MTs (X : Cx) (G : Gm) (W : XK) (es : List Expr) (tt : TT) (m : KB) : Prop where
  pt : PTs X es tt
  ev : EvB G W m tt
def kYes : KB := fun _ p => .ok (true, p)
theorem mts_nil : MTs X G W [] tYes kYes := ⟨pts_nil, fun c p ρ σ I H Q n k => (show ∀ I' H', Ext c.P I H p I' H' → Q true H' from k) I H n.refl⟩
theorem mts_one (h : MT X G W e tt mt) : MTs X G W [e] tt mt := ⟨pts_one h.pt, h.ev⟩
/-- what is read in every block of a comprehension -/
abbrev BlkE (X : Cx) (sc : Scope) (Pr : Cx → Prop) : Prop := ∀ (s : Shared) (H : Hp) (C : Addr) (cl : List (Str × Addr)) (fp : List Addr), Pr (X.blk s H sc (compEnvC sc cl C X.env) fp)
theorem mf_lc {scope : Scope} (own : List (Str × Nat)) (hN : X.N.Nodup) (hi : MI X G W tg iter wi mi) (ok : blkC X.N X.env.scope scope own = true)
    (hg : BlkE X scope fun Y => MG Y G tg g is mg) (ht : BlkE X scope fun Y => MTs Y G xNo ifs tt mt) (he : BlkE X scope fun Y => ME Y G xNo elt te m) (hv : ∀ i ∈ is, i ∈ own.map (·.2) := by decide) (hc : X.calm = true := by rfl) (hs : ∀ x, foldedSetIterable iter X.env x = pure x := by intro _; rfl) :
    MF X G W (.ListComp elt [⟨tg, iter, ifs, 0⟩] scope pos) (tLc wi g tt te (own.map (·.2))) (kLc (own.map (·.2)) mi mg mt m) :=
  ⟨pe_lc hc hN hi.pi (blkOk_by ok) (fun s H C cl fp => (hg s H C cl fp).pg) (fun s H C cl fp => (ht s H C cl fp).pt) (fun s H C cl fp => (he s H C cl fp).pe) hs,
    es_lc hi.ev (hg X.s_0 X.H_0 default [] []).ev hv (ht X.s_0 X.H_0 default [] []).ev (he X.s_0 X.H_0 default [] []).ev⟩
/-- y = [..] on one line -/
theorem ms_setLc (i : Nat) {y : Str} {py spos : Pos} {scope : Scope} (own : List (Str × Nat)) (hN : X.N.Nodup) (hi : MI X G W tg iter wi mi) (ok : blkC X.N X.env.scope scope own = true)
    (hg : BlkE X scope fun Y => MG Y G tg g is mg) (ht : BlkE X scope fun Y => MTs Y G xNo ifs tt mt) (he : BlkE X scope fun Y => ME Y G xNo elt te m) (hsw : swapsWith (.ListComp elt [⟨tg, iter, ifs, 0⟩] scope pos) (some (.Name y py)) spos.line X.env = pure true)
    (hy : X.N[i]? = some y := by rfl) (hyl : X.env.scope.names.lookup y = some .local := by rfl) (hv : ∀ i ∈ is, i ∈ own.map (·.2) := by decide) (hc : X.calm = true := by rfl) (hs : ∀ x, foldedSetIterable iter X.env x = pure x := by intro _; rfl) :
    MS X G W (.Assign [.Name y py] (.ListComp elt [⟨tg, iter, ifs, 0⟩] scope pos) spos) (tAsg (tLc wi g tt te (own.map (·.2))) (gName i)) (kAsgF i (kLc (own.map (·.2)) mi mg mt m)) :=
  ⟨ps_setLc hc hN hy hyl hsw hi.pi (blkOk_by ok) (fun s H C cl fp => (hg s H C cl fp).pg) (fun s H C cl fp => (ht s H C cl fp).pt) (fun s H C cl fp => (he s H C cl fp).pe) hs,
    es_asgF (es_lc hi.ev (hg X.s_0 X.H_0 default [] []).ev hv (ht X.s_0 X.H_0 default [] []).ev (he X.s_0 X.H_0 default [] []).ev)⟩

/-! ### two sources -/
def lc2Go (mg : KG) (mt : KB) (vs1 : List Nat) (mi1 : KL) (mg1 : KG) (mt1 : KB) (me : KE) (ρ : List Sl) : List D → List D → Pen → R (List D × Pen)
  | [], acc, p => pure (acc, p)
  | d :: ds, acc, p => do
    let ρ1 ← unx (mg d ρ)
    let t ← unx (mt ρ1 p)
    if t.1 = true then do
      let a ← unx (mi1 ρ1 t.2)
      let r ← lcGo mg1 mt1 me (fgtAll vs1 ρ1) a.1 acc a.2
      lc2Go mg mt vs1 mi1 mg1 mt1 me ρ ds r.1 r.2
    else lc2Go mg mt vs1 mi1 mg1 mt1 me ρ ds acc t.2
def kLc2 (vs vs1 : List Nat) (mi : KL) (mg : KG) (mt : KB) (mi1 : KL) (mg1 : KG) (mt1 : KB) (me : KE) : KL := fun ρ p => do
  let a ← mi ρ p
  lc2Go mg mt vs1 mi1 mg1 mt1 me (fgtAll vs ρ) a.1 [] a.2
/-- an inner walk -/
theorem it_in {J : It} {n : Nat} {Gd : Hp → Prop} {Y : Nat → Hp → V → Hp → Prop} (w : Walk J n Gd Y) {H1 : Hp} {N : Hp → Prop} {B : Nat → (Hp → Prop) → V → Hp → Prop} (Pv : Nat → Hp → Prop) (h0 : Pv 0 H1) (hG : ∀ i H, i ≤ n → Pv i H → Gd H)
    (hs : ∀ i x H H', i < n → Pv i H → Y i H x H' → B i (Pv (i + 1)) x H') (hd : ∀ H, Pv n H → N H) :
    ∃ W1 : Nat → Nat → Hp → Prop, (∃ m, W1 0 m H1) ∧ ∀ j k H, W1 j k H → (J.stop j H ∧ N H) ∨ (J.go j H ∧ ∃ Nx1 : Hp → Prop, (∀ H', Nx1 H' → ∃ k', k' < k ∧ W1 (j + 1) k' H') ∧ ∀ x H', J.yld j H x H' → B j Nx1 x H') := by
  refine ⟨fun j k H => j ≤ n ∧ k + j = n ∧ Pv j H, ⟨n, by omega, by omega, h0⟩, fun j k H ⟨h1, h2, h3⟩ => ?_⟩
  have q := hG j H h1 h3
  rcases Nat.lt_or_ge j n with h | h
  · exact .inr ⟨w.goes j H h q, Pv (j + 1), fun H' z => ⟨k - 1, by omega, by omega, by omega, z⟩, fun x H' y => hs j x H H' h h3 (w.yields j H x H' h q y)⟩
  · have : j = n := Nat.le_antisymm h1 h
    subst this
    exact .inl ⟨w.stops H q, hd H h3⟩
/-- a turn's element goes to the new list -/
theorem Mk.put {c : Ctx} {Dd : Addr} {p : Pen} {ρ : List Sl} {σ : L2.St} {I0 I H0 H : Hp} {acc : List D} {vs : List V} {v : V} {d : D} (mk : Mk G c Dd I H acc) (ha : H Dd = some (.lst vs)) (hv : DV G I d v) (n : Now G c p ρ σ I H) (fr : ∀ (j : Nat) (t : Sl), ρ[j]? = some t → t.isOwn = true → σ[j]? ≠ some (some (.ref Dd)))
    (hz : H0 Dd = none) (ex : Ext c.P I0 H0 p I H) : Now G c p ρ σ I (upd H Dd (.lst (vs ++ [v]))) ∧ Mk G c Dd I (upd H Dd (.lst (vs ++ [v]))) (acc ++ [d]) ∧ Ext c.P I0 H0 p I (upd H Dd (.lst (vs ++ [v]))) := by
  obtain ⟨avs, ha1, ha2⟩ := mk.at_
  rw [ha] at ha1
  cases ha1
  have n' := n.put (o := .lst (vs ++ [v])) mk.nI mk.n0 mk.nO fr
  refine ⟨n', ⟨mk.nI, mk.n0, _, upd_same, DVs.append ha2 (DVs.one.mpr ⟨v, rfl, hv⟩)⟩, ex.keep.put hz (fun r z => by rw [ha] at z; exact codeO_lst (Option.some.inj z)), ex.grow, fun b u h => ?_, ex.new, n'.pen⟩
  · rw [upd_ne (fun z => by rw [z, mk.nI] at h; cases h)]
    exact ex.sub b u h
/-- what the turns of an inner comprehension keep -/
structure LcAt (G : Gm) (c : Ctx) (Dd : Addr) (I0 H0 J : Hp) (ρ : List Sl) (σ : L2.St) (ρo : List Sl) (σo : L2.St) (p : Pen) (I H : Hp) (acc : List D) : Prop where
  n : Now G c p ρ σ I H
  no : Now G c p ρo σo I H
  s : Sub J I
  mkk : Mk G c Dd I H acc
  ex : Ext c.P I0 H0 p I H
  fr : ∀ (j : Nat) (t : Sl), ρ[j]? = some t → t.isOwn = true → σ[j]? ≠ some (some (.ref Dd))
  fro : ∀ (j : Nat) (t : Sl), ρo[j]? = some t → t.isOwn = true → σo[j]? ≠ some (some (.ref Dd))
theorem lc_in {c : Ctx} {Dd : Addr} {I0 H0 : Hp} {ρ1 ρo : List Sl} {σ1 σo : L2.St} {vs1 : List Nat} {ds : List D} {J1 : It} {J : Hp} {Kx : Nat → List D → Prop} {Kf : List D × Pen → Prop} {N : Hp → Prop} (w : WalkD G J ds J1) (hz : H0 Dd = none)
    (hg : EvG G is1 mg1 g1) (hv : ∀ i ∈ is1, i ∈ vs1) (ht : EvB G xNo mt1 tt1) (he : EvE G xNo m te) {p1 : Pen} {I1 H1 : Hp} {acc : List D}
    (h0 : LcAt G c Dd I0 H0 J (fgtAll vs1 ρ1) (L2.wipe σ1 vs1) ρo σo p1 I1 H1 acc) (k : Pst (lcGo mg1 mt1 m (fgtAll vs1 ρ1) ds acc p1) Kx Kf)
    (hd : ∀ p I H acc, LcAt G c Dd I0 H0 J (fgtAll vs1 ρ1) (L2.wipe σ1 vs1) ρo σo p I H acc → Kf (acc, p) → N H) :
    ∃ W1 : Nat → Nat → Hp → Prop, (∃ m, W1 0 m H1) ∧ ∀ j k H, W1 j k H → (J1.stop j H ∧ N H) ∨ (J1.go j H ∧ ∃ Nx1 : Hp → Prop, (∀ H', Nx1 H' → ∃ k', k' < k ∧ W1 (j + 1) k' H') ∧ ∀ x H', J1.yld j H x H' → g1 x (L2.wipe σ1 vs1) H' fun σ3 H5 => L2.wipe σ3 vs1 = L2.wipe σ1 vs1 ∧ tt1 σ3 H5 fun b H6 =>
      if b = true then te σ3 H6 fun y H7 => ∃ acc, H7 Dd = some (.lst acc) ∧ acc.length < sizeLine ∧ Nx1 (upd H7 Dd (.lst (acc ++ [y]))) else Nx1 H6) := by
  refine it_in w (fun i H => ∃ p I acc, LcAt G c Dd I0 H0 J (fgtAll vs1 ρ1) (L2.wipe σ1 vs1) ρo σo p I H acc ∧ Pst (lcGo mg1 mt1 m (fgtAll vs1 ρ1) (ds.drop i) acc p) Kx Kf) ⟨p1, I1, acc, h0, k⟩ (fun i H _ ⟨p, I, acc, h, _⟩ => h.s.trans h.n.sub)
    (fun i x H H3 hlt ⟨p, I2, acc, h, k2⟩ y => ?_) (fun H ⟨p, I, acc, h, k⟩ => ?_)
  · obtain ⟨I3, e3, d, hd', hv'⟩ := y I2 h.s h.n.sub
    have e3 := e3.to (p := p) h.n.pen
    have n3 := h.n.step e3
    have mk3 := h.mkk.step h.n e3
    rw [drop_at hd'] at k2
    have k2 : Pst (unx (mg1 d (fgtAll vs1 ρ1)) >>= fun ρ2 => unx (mt1 ρ2 p) >>= fun t => if t.1 = true then (unx (m ρ2 t.2) >>= fun y => if acc.length < sizeLine then lcGo mg1 mt1 m (fgtAll vs1 ρ1) (ds.drop (i + 1)) (acc ++ [y.1]) y.2 else .error .stuck)
      else lcGo mg1 mt1 m (fgtAll vs1 ρ1) (ds.drop (i + 1)) acc t.2) Kx Kf := k2
    refine hg c p _ _ I3 H3 d x _ n3 hv' ((Pst.unx (Pst.bind.mp k2)).mono (fun _ _ z => z) fun ρ2 h1 σ2 n4 same => ⟨wipe_same (same.len.trans (wipe_length _ _)) fun j hj => same.out j fun z => hj (hv j z), ?_⟩)
    refine ht c p ρ2 σ2 I3 H3 _ n4 ((Pst.unx (Pst.bind.mp h1)).mono (fun _ _ z => z) fun z hz' I4 H4 e4 => ?_)
    obtain ⟨bb, p4⟩ := z
    have n5 := n4.step e4
    have mk4 := mk3.step n4 e4
    cases bb with
    | false => exact ⟨p4, I4, acc, ⟨n3.step e4, (h.no.step e3).step e4, (h.s.trans e3.grow).trans e4.grow, mk4, (h.ex.trans e3).trans e4, h.fr, h.fro⟩, hz'⟩
    | true =>
      have hz' : Pst (unx (m ρ2 p4) >>= fun y => if acc.length < sizeLine then lcGo mg1 mt1 m (fgtAll vs1 ρ1) (ds.drop (i + 1)) (acc ++ [y.1]) y.2 else .error .stuck) Kx Kf := hz'
      show te σ2 H4 _
      refine he c p4 ρ2 σ2 I4 H4 _ n5 ((Pst.unx (Pst.bind.mp hz')).mono (fun _ _ z => z) fun y hy v I5 H5 e5 hv5 => ?_)
      have mk5 := mk4.step n5 e5
      obtain ⟨avs, ha1, ha2⟩ := mk5.at_
      obtain ⟨hl, hy⟩ := Pst.ite' hy
      obtain ⟨n7, mk7, e7⟩ := Mk.put mk5 ha1 hv5 ((n3.step e4).step e5) h.fr hz (((h.ex.trans e3).trans e4).trans e5)
      obtain ⟨n8, _⟩ := Mk.put mk5 ha1 hv5 (((h.no.step e3).step e4).step e5) h.fro hz (((h.ex.trans e3).trans e4).trans e5)
      exact ⟨avs, ha1, by rw [ha2.length]; exact hl, y.2, I5, acc ++ [y.1], ⟨n7, n8, ((h.s.trans e3.grow).trans e4.grow).trans e5.grow, mk7, e7, h.fr, h.fro⟩, hy⟩
  · rw [List.drop_length] at k
    exact hd p I H acc h k
theorem es_lc2 {vs vs1 : List Nat} (hi : EvI G W mi wi) (hg : EvG G is mg g) (hv : ∀ i ∈ is, i ∈ vs) (ht : EvB G xNo mt tt) (hi1 : EvI G xNo mi1 wi1) (hg1 : EvG G is1 mg1 g1) (hv1 : ∀ i ∈ is1, i ∈ vs1) (ht1 : EvB G xNo mt1 tt1) (he : EvE G xNo m te) :
    EvF G W (kLc2 vs vs1 mi mg mt mi1 mg1 mt1 m) (tLc2 wi g tt wi1 g1 tt1 te vs vs1) := fun c p ρ σ I H Q n k => by
  refine hi c p ρ σ I H _ n ((Pst.bind.mp k).mono (fun _ _ z => z) fun x hx J I1 H1 e1 w => ?_)
  obtain ⟨ds, p1⟩ := x
  have n1 := n.step e1
  intro Dd hD
  have hDH : H Dd = none := by
    cases z : H Dd with
    | none => rfl
    | some u => obtain ⟨o, ho⟩ := e1.there z; rw [hD] at ho; cases ho
  have hD0 : c.H0 Dd = none := n1.old0 Dd _ hD rfl
  have hI1 : I1 Dd = none := by
    cases z : I1 Dd with
    | none => rfl
    | some u => rw [n1.sub _ _ z] at hD; cases hD
  let Kf : List D × Pen → Prop := fun a => ∀ q vs I' H', Ext c.P I H a.2 I' H' → H q = none → I' q = none → H' q = some (.lst vs) → DVs G I' a.1 vs → Q (.ref q) H'
  have hx : Pst (lc2Go mg mt vs1 mi1 mg1 mt1 m (fgtAll vs ρ) ds [] p1) (Thr G c W) Kf := hx
  have fr : ∀ (j : Nat) (t : Sl), (fgtAll vs ρ)[j]? = some t → t.isOwn = true → (L2.wipe σ vs)[j]? ≠ some (some (.ref Dd)) := fun j t h1 h2 h3 => by
    obtain ⟨o, ho⟩ := (n1.wipe vs).olds j t Dd h1 h2 h3
    rw [hD] at ho
    cases ho
  have st0 : LcAt G c Dd I H I1 (fgtAll vs ρ) (L2.wipe σ vs) (fgtAll vs ρ) (L2.wipe σ vs) p1 I1 (upd H1 Dd (.lst [])) [] :=
    ⟨Mk.free (n1.wipe vs) hD _, Mk.free (n1.wipe vs) hD _, Sub.refl, ⟨hI1, hD0, [], upd_same, DVs.nil.mpr rfl⟩, e1.trans (ExtN.to (ExtN.lose n1.sub hD) n1.pen), fr, fr⟩
  refine it_in w (fun i H2 => ∃ p I2 acc, LcAt G c Dd I H I1 (fgtAll vs ρ) (L2.wipe σ vs) (fgtAll vs ρ) (L2.wipe σ vs) p I2 H2 acc ∧ Pst (lc2Go mg mt vs1 mi1 mg1 mt1 m (fgtAll vs ρ) (ds.drop i) acc p) (Thr G c W) Kf) ⟨p1, I1, [], st0, hx⟩ (fun i H2 _ ⟨p, I2, acc, h, _⟩ => h.s.trans h.n.sub)
    (fun i x H2 H3 hlt ⟨p, I2, acc, h, k2⟩ y => ?_) (fun H2 ⟨p, I2, acc, h, k2⟩ => ?_)
  · obtain ⟨I3, e3, d, hd', hv'⟩ := y I2 h.s h.n.sub
    have e3 := e3.to (p := p) h.n.pen
    have n3 := h.n.step e3
    have mk3 := h.mkk.step h.n e3
    rw [drop_at hd'] at k2
    have k2 : Pst (unx (mg d (fgtAll vs ρ)) >>= fun ρ1 => unx (mt ρ1 p) >>= fun t => if t.1 = true then (unx (mi1 ρ1 t.2) >>= fun a => lcGo mg1 mt1 m (fgtAll vs1 ρ1) a.1 acc a.2 >>= fun r => lc2Go mg mt vs1 mi1 mg1 mt1 m (fgtAll vs ρ) (ds.drop (i + 1)) r.1 r.2)
      else lc2Go mg mt vs1 mi1 mg1 mt1 m (fgtAll vs ρ) (ds.drop (i + 1)) acc t.2) (Thr G c W) Kf := k2
    refine hg c p _ _ I3 H3 d x _ n3 hv' ((Pst.unx (Pst.bind.mp k2)).mono (fun _ _ z => z) fun ρ2 h1 σ2 n4 same => ⟨wipe_same (same.len.trans (wipe_length _ _)) fun j hj => same.out j fun z => hj (hv j z), ?_⟩)
    refine ht c p ρ2 σ2 I3 H3 _ n4 ((Pst.unx (Pst.bind.mp h1)).mono (fun _ _ z => z) fun z hz' I4 H4 e4 => ?_)
    obtain ⟨bb, p4⟩ := z
    have n5 := n4.step e4
    have mk4 := mk3.step n4 e4
    cases bb with
    | false => exact ⟨p4, I4, acc, ⟨n3.step e4, (h.no.step e3).step e4, (h.s.trans e3.grow).trans e4.grow, mk4, (h.ex.trans e3).trans e4, h.fr, h.fro⟩, hz'⟩
    | true =>
      have hz' : Pst (unx (mi1 ρ2 p4) >>= fun a => lcGo mg1 mt1 m (fgtAll vs1 ρ2) a.1 acc a.2 >>= fun r => lc2Go mg mt vs1 mi1 mg1 mt1 m (fgtAll vs ρ) (ds.drop (i + 1)) r.1 r.2) (Thr G c W) Kf := hz'
      show wi1 σ2 H4 _
      refine hi1 c p4 ρ2 σ2 I4 H4 _ n5 ((Pst.unx (Pst.bind.mp hz')).mono (fun _ _ z => z) fun a ha J1 I5 H5 e5 w1 => ?_)
      have mk5 := mk4.step n5 e5
      have n6 := n5.step e5
      have e6 : Ext c.P I H a.2 I5 H5 := ((h.ex.trans e3).trans e4).trans e5
      have fr1 : ∀ (j : Nat) (t : Sl), (fgtAll vs1 ρ2)[j]? = some t → t.isOwn = true → (L2.wipe σ2 vs1)[j]? ≠ some (some (.ref Dd)) := fun j t h1 h2 h3 => by
        rcases fgt_get vs1 ρ2 j t h1 with e | ⟨g1, g2⟩
        · subst e; cases h2
        · rw [wipe_out g2] at h3
          obtain ⟨g3, g4⟩ := same.own j t g1 h2
          rw [g4] at h3
          exact h.fr j t g3 h2 h3
      refine lc_in w1 hDH hg1 hv1 ht1 he (J := I5) ⟨n6.wipe vs1, (n3.step e4).step e5, Sub.refl, mk5, e6, fr1, h.fr⟩ (Pst.bind.mp ha) fun p I6 H6 acc' h' k' => ?_
      exact ⟨p, I6, acc', ⟨h'.no, h'.no, ((((h.s.trans e3.grow).trans e4.grow).trans e5.grow)).trans h'.s, h'.mkk, h'.ex, h.fr, h.fr⟩, k'⟩
  · rw [List.drop_length] at k2
    obtain ⟨avs, ha1, ha2⟩ := h.mkk.at_
    exact (show Kf (acc, p) from k2) Dd avs I2 H2 h.ex hDH h.mkk.nI ha1 ha2
end
end Dn
end
section
set_option Elab.async false
set_option linter.all false
set_option maxRecDepth 100000
set_option maxHeartbeats 2000000
namespace Dn
open PySem PySem.Spec L2

section
variable {X : Cx} {G : Gm} {W : XK} {e a b tg iter elt : Expr} {es ifs : List Expr} {te ta tb : TE} {tr : TA} {tt tu : TT} {m ma mb : KE} {mt mu : KB} {ml mk : KL} {pos : Pos} {g : TG} {gs : TGs} {is js : List Nat} {mg : KG} {mgs : KGs} {st : Stmt} {t u : TS} {ms mr : KS} {wi wi1 : TI} {mi mi1 : KL}

/-! ### two sources: the syntax -/
theorem mf_lc2 {tg1 iter1 : Expr} {ifs1 : List Expr} {tt1 : TT} {mt1 : KB} {g1 : TG} {is1 : List Nat} {mg1 : KG} {scope : Scope} (own : List (Str × Nat)) (vs1 : List Nat) (hN : X.N.Nodup) (hi : MI X G W tg iter wi mi) (ok : blkC X.N X.env.scope scope own = true)
    (hg : BlkE X scope fun Y => MG Y G tg g is mg) (ht : BlkE X scope fun Y => MTs Y G xNo ifs tt mt) (hi1 : BlkE X scope fun Y => MI Y G xNo tg1 iter1 wi1 mi1) (hg1 : BlkE X scope fun Y => MG Y G tg1 g1 is1 mg1) (ht1 : BlkE X scope fun Y => MTs Y G xNo ifs1 tt1 mt1) (he : BlkE X scope fun Y => ME Y G xNo elt te m)
    (hvs : ∀ i ∈ vs1, i ∈ own.map (·.2) := by decide) (hv : ∀ i ∈ is, i ∈ own.map (·.2) := by decide) (hv1 : ∀ i ∈ is1, i ∈ vs1 := by decide) (hc : X.calm = true := by rfl) (hs : ∀ x, foldedSetIterable iter X.env x = pure x := by intro _; rfl) (hs1 : ∀ env x, foldedSetIterable iter1 env x = pure x := by intro _ _; rfl) :
    MF X G W (.ListComp elt [⟨tg, iter, ifs, 0⟩, ⟨tg1, iter1, ifs1, 0⟩] scope pos) (tLc2 wi g tt wi1 g1 tt1 te (own.map (·.2)) vs1) (kLc2 (own.map (·.2)) vs1 mi mg mt mi1 mg1 mt1 m) :=
  ⟨pe_lc2 hc hN hi.pi (blkOk_by ok) hvs (fun s H C cl fp => (hg s H C cl fp).pg) (fun s H C cl fp => (ht s H C cl fp).pt) (fun s H C cl fp => (hi1 s H C cl fp).pi) (fun s H C cl fp => (hg1 s H C cl fp).pg) (fun s H C cl fp => (ht1 s H C cl fp).pt) (fun s H C cl fp => (he s H C cl fp).pe) hs hs1,
    es_lc2 hi.ev (hg X.s_0 X.H_0 default [] []).ev hv (ht X.s_0 X.H_0 default [] []).ev (hi1 X.s_0 X.H_0 default [] []).ev (hg1 X.s_0 X.H_0 default [] []).ev hv1 (ht1 X.s_0 X.H_0 default [] []).ev (he X.s_0 X.H_0 default [] []).ev⟩
theorem ms_setLc2 (i : Nat) {y : Str} {py spos : Pos} {tg1 iter1 : Expr} {ifs1 : List Expr} {tt1 : TT} {mt1 : KB} {g1 : TG} {is1 : List Nat} {mg1 : KG} {scope : Scope} (own : List (Str × Nat)) (vs1 : List Nat) (hN : X.N.Nodup) (hi : MI X G W tg iter wi mi) (ok : blkC X.N X.env.scope scope own = true)
    (hg : BlkE X scope fun Y => MG Y G tg g is mg) (ht : BlkE X scope fun Y => MTs Y G xNo ifs tt mt) (hi1 : BlkE X scope fun Y => MI Y G xNo tg1 iter1 wi1 mi1) (hg1 : BlkE X scope fun Y => MG Y G tg1 g1 is1 mg1) (ht1 : BlkE X scope fun Y => MTs Y G xNo ifs1 tt1 mt1) (he : BlkE X scope fun Y => ME Y G xNo elt te m)
    (hsw : swapsWith (.ListComp elt [⟨tg, iter, ifs, 0⟩, ⟨tg1, iter1, ifs1, 0⟩] scope pos) (some (.Name y py)) spos.line X.env = pure true) (hy : X.N[i]? = some y := by rfl) (hyl : X.env.scope.names.lookup y = some .local := by rfl)
    (hvs : ∀ i ∈ vs1, i ∈ own.map (·.2) := by decide) (hv : ∀ i ∈ is, i ∈ own.map (·.2) := by decide) (hv1 : ∀ i ∈ is1, i ∈ vs1 := by decide) (hc : X.calm = true := by rfl) (hs : ∀ x, foldedSetIterable iter X.env x = pure x := by intro _; rfl) (hs1 : ∀ env x, foldedSetIterable iter1 env x = pure x := by intro _ _; rfl) :
    MS X G W (.Assign [.Name y py] (.ListComp elt [⟨tg, iter, ifs, 0⟩, ⟨tg1, iter1, ifs1, 0⟩] scope pos) spos) (tAsg (tLc2 wi g tt wi1 g1 tt1 te (own.map (·.2)) vs1) (gName i)) (kAsgF i (kLc2 (own.map (·.2)) vs1 mi mg mt mi1 mg1 mt1 m)) :=
  ⟨ps_setLc2 hc hN hy hyl hsw hi.pi (blkOk_by ok) hvs (fun s H C cl fp => (hg s H C cl fp).pg) (fun s H C cl fp => (ht s H C cl fp).pt) (fun s H C cl fp => (hi1 s H C cl fp).pi) (fun s H C cl fp => (hg1 s H C cl fp).pg) (fun s H C cl fp => (ht1 s H C cl fp).pt) (fun s H C cl fp => (he s H C cl fp).pe) hs hs1,
    es_asgF (es_lc2 hi.ev (hg X.s_0 X.H_0 default [] []).ev hv (ht X.s_0 X.H_0 default [] []).ev (hi1 X.s_0 X.H_0 default [] []).ev (hg1 X.s_0 X.H_0 default [] []).ev hv1 (ht1 X.s_0 X.H_0 default [] []).ev (he X.s_0 X.H_0 default [] []).ev)⟩

/-! ### range -/
def rgD (lo : Int) (n : Nat) : List D := (List.range n).map fun i => .int (lo + (i : Nat))
theorem rgD_len (lo : Int) (n : Nat) : (rgD lo n).length = n := by unfold rgD; simp
theorem rgD_get (lo : Int) {n i : Nat} (h : i < n) : (rgD lo n)[i]? = some (.int (lo + (i : Nat))) := by unfold rgD; simp [h]
def rgI (a b : Int) : Option (List D) := if -(2 ^ 62) ≤ a ∧ a < 2 ^ 62 ∧ -(2 ^ 62) ≤ b ∧ b < 2 ^ 62 then some (rgD a (b - a).toNat) else none
def kRng1 (m : KE) : KL := fun ρ p => do
  let a ← m ρ p
  let j ← ofO (toI a.1)
  let ds ← ofO (rgI 0 j)
  pure (ds, a.2)
def kRng2 (ma mb : KE) : KL := fun ρ p => do
  let a ← ma ρ p
  let b ← mb ρ a.2
  let i ← ofO (toI a.1)
  let j ← ofO (toI b.1)
  let ds ← ofO (rgI i j)
  pure (ds, b.2)
theorem rgI_some {a b : Int} {ds : List D} (h : rgI a b = some ds) : (-(2 ^ 62) ≤ a ∧ a < 2 ^ 62 ∧ -(2 ^ 62) ≤ b ∧ b < 2 ^ 62) ∧ ds = rgD a (b - a).toNat := by
  unfold rgI at h
  split at h
  · rename_i hb
    cases h
    exact ⟨hb, rfl⟩
  · cases h
theorem walk_rg {I : Hp} {lo : Int} {n : Nat} : WalkD G I (rgD lo n) (Itr lo n) := by
  unfold WalkD
  rw [rgD_len]
  refine walk_range.mono (fun _ _ => trivial) fun i H x H' hi _ y I2 s1 s2 => ?_
  obtain ⟨rfl, rfl⟩ := y
  exact ⟨I2, ExtN.refl s2, _, rgD_get lo hi, by unfold DV; rfl⟩
theorem ei_rng1 (h : EvE G W m te) : EvI G W (kRng1 m) (iRng1 (tCons te tNil)) := fun c p ρ σ I H Q n k => by
  refine h c p ρ σ I H _ n ((Pst.bind.mp k).mono (fun _ _ z => z) fun x hx v I' H' e d => ?_)
  obtain ⟨j, ej, hx⟩ := Pst.ofO (Pst.bind.mp hx)
  obtain ⟨ds, e1, hx⟩ := Pst.ofO (Pst.bind.mp hx)
  obtain ⟨hb, rfl⟩ := rgI_some e1
  rw [toI_some ej] at d
  unfold DV at d
  subst d
  refine ⟨j, rfl, hb.2.2.1, hb.2.2.2, ?_⟩
  have hx := (show ∀ J I' H', Ext c.P I H x.2 I' H' → WalkD G I' (rgD 0 (j - 0).toNat) J → Q J H' from hx) (Itr 0 j.toNat) I' H' e
  rw [Int.sub_zero] at hx
  exact hx walk_rg
theorem ei_rng2 (h : EvE G W ma ta) (h2 : EvE G W mb tb) : EvI G W (kRng2 ma mb) (iRng2 (tCons ta (tCons tb tNil))) := fun c p ρ σ I H Q n k => by
  refine h c p ρ σ I H _ n ((Pst.bind.mp k).mono (fun _ _ z => z) fun x hx v I1 H1 e1 d1 => ?_)
  refine h2 c x.2 ρ σ I1 H1 _ (n.step e1) ((Pst.bind.mp hx).mono (fun _ _ z => z) fun y hy v2 I2 H2 e2 d2 => ?_)
  obtain ⟨i, ei, hy⟩ := Pst.ofO (Pst.bind.mp hy)
  obtain ⟨j, ej, hy⟩ := Pst.ofO (Pst.bind.mp hy)
  obtain ⟨ds, er, hy⟩ := Pst.ofO (Pst.bind.mp hy)
  obtain ⟨hb, rfl⟩ := rgI_some er
  rw [toI_some ei] at d1
  rw [toI_some ej] at d2
  unfold DV at d1 d2
  subst d1 d2
  exact ⟨i, j, rfl, hb, (show ∀ J I' H', Ext c.P I H y.2 I' H' → WalkD G I' (rgD i (j - i).toNat) J → Q J H' from hy) _ I2 H2 (e1.trans e2) walk_rg⟩
theorem mi_rng1 {p : Pos} (h : ME X G W a ta ma) (hm : X.mg "range" = none := by rfl) (hg : Gl X "range" := by rfl) (hs : starEach [a] X.env = [(false, eval a X.env)] := by rfl) : MI X G W tg (.Call (.Name "range" p) [a] [] pos) (iRng1 (tCons ta tNil)) (kRng1 ma) :=
  ⟨pi_range1 hg hm (pa_cons h.pe pa_nil (by rw [hs]; rfl)) hs, ei_rng1 h.ev⟩
theorem mi_rng2 {p : Pos} (h : ME X G W a ta ma) (h2 : ME X G W b tb mb) (hm : X.mg "range" = none := by rfl) (hg : Gl X "range" := by rfl) (hs : starEach [a, b] X.env = [(false, eval a X.env), (false, eval b X.env)] := by rfl) (hs2 : starEach [b] X.env = [(false, eval b X.env)] := by rfl) : MI X G W tg (.Call (.Name "range" p) [a, b] [] pos) (iRng2 (tCons ta (tCons tb tNil))) (kRng2 ma mb) :=
  ⟨pi_range2 hg hm (pa_cons h.pe (pa_cons h2.pe pa_nil (by rw [hs2]; rfl)) (by rw [hs, hs2])) hs hs2, ei_rng2 h.ev h2.ev⟩

/-! ### list(range(..)), tuple(range(..)) -/
structure MR (X : Cx) (G : Gm) (W : XK) (e : Expr) (tw : L2.St → Hp → (Int → Int → Hp → Prop) → Prop) (m : KL) : Prop where
  pr : PRg X e tw
  ev : ∀ (c : Ctx) (p : Pen) (ρ : List Sl) (σ : L2.St) (I H : Hp) (Q : Int → Int → Hp → Prop), Now G c p ρ σ I H →
    Pst (m ρ p) (Thr G c W) (fun a => ∀ i j I' H', Ext c.P I H a.2 I' H' → a.1 = rgD i (j - i).toNat → -(2 ^ 62) ≤ i → i < 2 ^ 62 → -(2 ^ 62) ≤ j → j < 2 ^ 62 → Q i j H') → tw σ H Q
theorem mr_1 {p : Pos} (h : ME X G W a ta ma) (hm : X.mg "range" = none := by rfl) (hg : Gl X "range" := by rfl) (hs : starEach [a] X.env = (false, eval a X.env) :: starEach [] X.env := by rfl) : MR X G W (.Call (.Name "range" p) [a] [] pos) (tRg1 ta) (kRng1 ma) :=
  ⟨prg_1 hg hm h.pe hs, fun c p ρ σ I H Q n k => by
    refine h.ev c p ρ σ I H _ n ((Pst.bind.mp k).mono (fun _ _ z => z) fun x hx v I' H' e d => ?_)
    obtain ⟨j, ej, hx⟩ := Pst.ofO (Pst.bind.mp hx)
    obtain ⟨ds, e1, hx⟩ := Pst.ofO (Pst.bind.mp hx)
    obtain ⟨hb, rfl⟩ := rgI_some e1
    rw [toI_some ej] at d
    unfold DV at d
    exact ⟨j, d, (show ∀ i j' I' H', Ext c.P I H x.2 I' H' → rgD 0 (j - 0).toNat = rgD i (j' - i).toNat → -(2 ^ 62) ≤ i → i < 2 ^ 62 → -(2 ^ 62) ≤ j' → j' < 2 ^ 62 → Q i j' H' from hx) 0 j I' H' e rfl hb.1 hb.2.1 hb.2.2.1 hb.2.2.2⟩⟩
theorem mr_2 {p : Pos} (h : ME X G W a ta ma) (h2 : ME X G W b tb mb) (hm : X.mg "range" = none := by rfl) (hg : Gl X "range" := by rfl) (hs : starEach [a, b] X.env = (false, eval a X.env) :: starEach [b] X.env := by rfl) (hs2 : starEach [b] X.env = (false, eval b X.env) :: starEach [] X.env := by rfl) (hp : (backTo pos (starEach [b] X.env)).any (·.1) = false := by rfl) : MR X G W (.Call (.Name "range" p) [a, b] [] pos) (tRg2 ta tb) (kRng2 ma mb) :=
  ⟨prg_2 hg hm h.pe h2.pe hs hs2 hp, fun c p ρ σ I H Q n k => by
    refine h.ev c p ρ σ I H _ n ((Pst.bind.mp k).mono (fun _ _ z => z) fun x hx v I1 H1 e1 d1 => ?_)
    refine h2.ev c x.2 ρ σ I1 H1 _ (n.step e1) ((Pst.bind.mp hx).mono (fun _ _ z => z) fun y hy v2 I2 H2 e2 d2 => ?_)
    obtain ⟨i, ei, hy⟩ := Pst.ofO (Pst.bind.mp hy)
    obtain ⟨j, ej, hy⟩ := Pst.ofO (Pst.bind.mp hy)
    obtain ⟨ds, er, hy⟩ := Pst.ofO (Pst.bind.mp hy)
    obtain ⟨hb, rfl⟩ := rgI_some er
    rw [toI_some ei] at d1
    rw [toI_some ej] at d2
    unfold DV at d1 d2
    exact ⟨i, j, d1, d2, (show ∀ i' j' I' H', Ext c.P I H y.2 I' H' → rgD i (j - i).toNat = rgD i' (j' - i').toNat → -(2 ^ 62) ≤ i' → i' < 2 ^ 62 → -(2 ^ 62) ≤ j' → j' < 2 ^ 62 → Q i' j' H' from hy) i j I2 H2 (e1.trans e2) rfl hb.1 hb.2.1 hb.2.2.1 hb.2.2.2⟩⟩
theorem dvs_rg {I : Hp} {i j : Int} : DVs G I (rgD i (j - i).toNat) (rgV i j) := by
  unfold rgD rgV
  generalize (List.range (j - i).toNat) = l
  induction l with
  | nil => exact DVs.nil.mpr rfl
  | cons x r ih =>
    rw [List.map_cons, List.map_cons]
    unfold DVs
    exact ⟨_, _, rfl, by unfold DV; rfl, ih⟩
def kLstR (m : KL) : KL := fun ρ p => do
  let a ← m ρ p
  if a.1.length ≤ 16777216 then pure (a.1, a.2) else .error .stuck
theorem mf_listR {tw : L2.St → Hp → (Int → Int → Hp → Prop) → Prop} {p : Pos} (h : MR X G W e tw ml) (hm : X.mg "list" = none := by rfl) (hc : X.calm = true := by rfl) (hg : Gl X "list" := by rfl) (hs : starEach [e] X.env = (false, eval e X.env) :: starEach [] X.env := by rfl) : MF X G W (.Call (.Name "list" p) [e] [] pos) (tLstRg tw) (kLstR ml) :=
  ⟨pe_listRg hc hg hm h.pr hs, fun c p ρ σ I H Q n k => by
    refine h.ev c p ρ σ I H _ n ((Pst.bind.mp k).mono (fun _ _ z => z) fun x hx i j I' H' e d b1 b2 b3 b4 => ?_)
    obtain ⟨hl, hx⟩ := Pst.ite hx
    rw [d, rgD_len] at hl
    rw [d] at hx
    refine ⟨⟨b1, b2, b3, b4, by omega⟩, fun q hq => ?_⟩
    have nn := n.step e
    have hH : H q = none := by
      cases z : H q with
      | none => rfl
      | some u => obtain ⟨o, ho⟩ := e.there z; rw [hq] at ho; cases ho
    exact (show ∀ q vs I' H', Ext c.P I H x.2 I' H' → H q = none → I' q = none → H' q = some (.lst vs) → DVs G I' (rgD i (j - i).toNat) vs → Q (.ref q) H' from hx) q _ I' _ (e.trans ((ExtN.lose nn.sub hq).to nn.pen)) hH (sub_none nn.sub hq) upd_same dvs_rg⟩
def kTupR (m : KL) : KE := fun ρ p => do
  let a ← m ρ p
  if a.1.length ≤ 16777216 then pure (.tup a.1, a.2) else .error .stuck
theorem me_tupR {tw : L2.St → Hp → (Int → Int → Hp → Prop) → Prop} {p : Pos} (h : MR X G W e tw ml) (hm : X.mg "tuple" = none := by rfl) (hc : X.calm = true := by rfl) (hg : Gl X "tuple" := by rfl) (hs : starEach [e] X.env = (false, eval e X.env) :: starEach [] X.env := by rfl) : ME X G W (.Call (.Name "tuple" p) [e] [] pos) (tTupRg tw) (kTupR ml) :=
  ⟨pe_tupRg hc hg hm h.pr hs, fun c p ρ σ I H Q n k => by
    refine h.ev c p ρ σ I H _ n ((Pst.bind.mp k).mono (fun _ _ z => z) fun x hx i j I' H' e d b1 b2 b3 b4 => ?_)
    obtain ⟨hl, hx⟩ := Pst.ite hx
    rw [d, rgD_len] at hl
    rw [d] at hx
    refine ⟨⟨b1, b2, b3, b4, by omega⟩, fun q hq => ?_⟩
    have nn := n.step e
    exact (show ∀ v I' H', Ext c.P I H x.2 I' H' → DV G I' (.tup (rgD i (j - i).toNat)) v → Q v H' from hx) (.ref q) (upd I' q (.tup (rgV i j))) _ (e.trans ((ExtN.lay nn.sub hq).to nn.pen)) (by unfold DV; exact ⟨q, _, rfl, SqT.of upd_same, dvs_rg⟩)⟩

/-! ### pairs -/
/-- what gives new pairs -/
theorem walk_pair {I : Hp} {J : It} {xs ys : List V} {ds1 ds2 : List D} {n : Nat} {Gd : Hp → Prop} {f1 f2 : Nat → Option V} (w : Walk J n Gd (YPair f1 f2)) (hG : ∀ H, Sub I H → Gd H) (ps : List D) (hn : ps.length = n)
    (hp : ∀ (i : Nat) (x y : V), i < n → f1 i = some x → f2 i = some y → ∃ a b, ps[i]? = some (.tup [a, b]) ∧ DV G I a x ∧ DV G I b y) : WalkD G I ps J := by
  unfold WalkD
  rw [hn]
  refine w.mono (fun H s => hG H s) fun i H v H' hi s y I2 s1 s2 => ?_
  obtain ⟨T, x, z, rfl, hT, rfl, h1, h2⟩ := y
  obtain ⟨a, b, h3, h4, h5⟩ := hp i x z hi h1 h2
  have hT2 : I2 T = none := by
    cases e : I2 T with
    | none => rfl
    | some u => rw [s2 _ _ e] at hT; cases hT
  have gr : Sub I (upd I2 T (.tup [x, z])) := s1.trans (Sub.new hT2)
  refine ⟨upd I2 T (.tup [x, z]), ExtN.lay s2 hT, _, h3, ?_⟩
  unfold DV
  refine ⟨T, [x, z], rfl, SqT.of upd_same, ?_⟩
  unfold DVs
  exact ⟨_, _, rfl, h4.mono gr, DVs.one.mpr ⟨_, rfl, h5.mono gr⟩⟩
def zipD (xs ys : List D) : List D := List.zipWith (fun a b => .tup [a, b]) xs ys
theorem zip_at {I : Hp} {xs ys : List D} {vs ws : List V} (h1 : DVs G I xs vs) (h2 : DVs G I ys ws) {i : Nat} {x y : V} (hi : i < min vs.length ws.length) (hx : vs[i]? = some x) (hy : ws[i]? = some y) : ∃ a b, (zipD xs ys)[i]? = some (.tup [a, b]) ∧ DV G I a x ∧ DV G I b y := by
  have e1 := h1.length
  have e2 := h2.length
  have l1 : i < xs.length := by omega
  have l2 : i < ys.length := by omega
  obtain ⟨v, g1, g2⟩ := h1.get (List.getElem?_eq_getElem l1)
  obtain ⟨w, g3, g4⟩ := h2.get (List.getElem?_eq_getElem l2)
  rw [hx] at g1
  rw [hy] at g3
  cases g1
  cases g3
  exact ⟨_, _, by unfold zipD; rw [List.getElem?_zipWith, List.getElem?_eq_getElem l1, List.getElem?_eq_getElem l2], g2, g4⟩
theorem zip_len (xs ys : List D) : (zipD xs ys).length = min xs.length ys.length := by unfold zipD; rw [List.length_zipWith]
def zipA : D → D → Option (List D)
  | .lst a, .lst b => some (zipD a b)
  | .tup a, .tup b => some (zipD a b)
  | _, _ => none
def kZip (ma mb : KE) : KL := fun ρ p => do
  let a ← ma ρ p
  let b ← mb ρ a.2
  let ds ← ofO (zipA a.1 b.1)
  pure (ds, b.2)
theorem ei_zip (h : EvE G W ma ta) (h2 : EvE G W mb tb) : EvI G W (kZip ma mb) (RZ.iZipA G.K (tCons ta (tCons tb tNil))) := fun c p ρ σ I H Q n k => by
  refine h c p ρ σ I H _ n ((Pst.bind.mp k).mono (fun _ _ z => z) fun x hx v I1 H1 e1 d1 => ?_)
  refine h2 c x.2 ρ σ I1 H1 _ (n.step e1) ((Pst.bind.mp hx).mono (fun _ _ z => z) fun y hy v2 I2 H2 e2 d2 => ?_)
  obtain ⟨x, p1⟩ := x
  obtain ⟨y, p2⟩ := y
  obtain ⟨ds, er, hy⟩ := Pst.ofO (Pst.bind.mp hy)
  have d1 := d1.mono e2.grow
  have hy : ∀ J I' H', Ext c.P I H p2 I' H' → WalkD G I' ds J → Q J H' := hy
  cases x with
  | lst xs =>
    cases y with
    | lst ys =>
      cases er
      have d1 : DV G I2 (.lst xs) v := d1
      have d2 : DV G I2 (.lst ys) v2 := d2
      unfold DV at d1 d2
      obtain ⟨q, vs, rfl, g1, g2⟩ := d1
      obtain ⟨q2, ws, rfl, g3, g4⟩ := d2
      refine ⟨q, q2, vs, ws, rfl, .inl ⟨SqL.of (e2.sub _ _ g1), SqL.of (e2.sub _ _ g3), hy _ I2 H2 (e1.trans e2) ?_⟩⟩
      exact walk_pair (xs := vs) (ys := ws) (ds1 := xs) (ds2 := ys) (walk_zip (xs := vs) (ys := ws) rfl) (fun H s => ⟨SqL.of (s _ _ g1), SqL.of (s _ _ g3)⟩) _ (by rw [zip_len, g2.length, g4.length]) fun i x y hi h1 h2 => zip_at g2 g4 hi h1 h2
    | _ => cases er
  | tup xs =>
    cases y with
    | tup ys =>
      cases er
      have d1 : DV G I2 (.tup xs) v := d1
      have d2 : DV G I2 (.tup ys) v2 := d2
      unfold DV at d1 d2
      obtain ⟨q, vs, rfl, g1, g2⟩ := d1
      obtain ⟨q2, ws, rfl, g3, g4⟩ := d2
      refine ⟨q, q2, vs, ws, rfl, .inr ⟨e2.sub.seqT g1, e2.sub.seqT g3, hy _ I2 H2 (e1.trans e2) ?_⟩⟩
      have w : Walk (RZ.ItzT G.K q q2) (min vs.length ws.length) (fun H => SqT G.K H q vs ∧ SqT G.K H q2 ws) (YPair (fun i => vs[i]?) (fun i => ws[i]?)) := by
        refine ⟨fun i H hi z => ?_, fun H z => ⟨vs, ws, z.1, z.2, by omega⟩, fun i H v H' _ z y => ?_⟩
        · have l1 : i < vs.length := by omega
          have l2 : i < ws.length := by omega
          exact ⟨vs, ws, vs[i], ws[i], z.1, z.2, List.getElem?_eq_getElem l1, List.getElem?_eq_getElem l2⟩
        · obtain ⟨T, x, y, h1, h2, h3, h4, h5⟩ := y
          exact ⟨T, x, y, h1, h2, h3, h4 vs z.1, h5 ws z.2⟩
      exact walk_pair (xs := vs) (ys := ws) (ds1 := xs) (ds2 := ys) w (fun H s => ⟨s.seqT g1, s.seqT g3⟩) _ (by rw [zip_len, g2.length, g4.length]) fun i x y hi h1 h2 => zip_at g2 g4 hi h1 h2
    | _ => cases er
  | _ => cases er
theorem mi_zip {elts : List Expr} {kk : Nat} {tpos p : Pos} (h : ME X G W a ta ma) (h2 : ME X G W b tb mb) (hm : X.mg "zip" = none := by rfl) (hk : X.K = G.K := by rfl) (hg : Gl X "zip" := by rfl)
    (hs : starEach [a, b] X.env = (false, eval a X.env) :: starEach [b] X.env := by rfl) (hs2 : starEach [b] X.env = (false, eval b X.env) :: starEach [] X.env := by rfl) (hpl : (backTo pos (starEach [b] X.env)).any (·.1) = false := by rfl) :
    MI X G W (.Tuple elts kk tpos) (.Call (.Name "zip" p) [a, b] [] pos) (RZ.iZipA G.K (tCons ta (tCons tb tNil))) (kZip ma mb) :=
  ⟨by rw [← hk]; exact RZ.pi_zipA hg hm (pa_cons h.pe (pa_cons h2.pe pa_nil hs2) hs) hs hpl, ei_zip h.ev h2.ev⟩
/-- the signs of a text -/
def sgD (z : Str) : List D := z.cps.toList.map fun c => .str ⟨#[c]⟩
def toS : D → Option Str
  | .str z => some z
  | _ => none
def kSgn (m : KE) : KL := fun ρ p => do
  let a ← m ρ p
  let z ← ofO (toS a.1)
  pure (sgD z, a.2)
theorem walk_sg {I : Hp} {z : Str} : WalkD G I (sgD z) (Its z) := by
  unfold WalkD
  have e : (sgD z).length = z.cps.size := by unfold sgD; simp
  rw [e]
  refine walk_str.mono (fun _ _ => trivial) fun i H x H' hi _ y I2 s1 s2 => ?_
  obtain ⟨rfl, cc, hc, rfl⟩ := y
  exact ⟨I2, ExtN.refl s2, _, by unfold sgD; rw [List.getElem?_map, Array.getElem?_toList, hc]; rfl, by unfold DV; rfl⟩
theorem mi_sgn (h : ME X G W iter te m) : MI X G W tg iter (iStr te) (kSgn m) := ⟨pi_str h.pe, fun c p ρ σ I H Q n k => by
  refine h.ev c p ρ σ I H _ n ((Pst.bind.mp k).mono (fun _ _ z => z) fun x hx v I1 H1 e1 d1 => ?_)
  obtain ⟨z, ez, hx⟩ := Pst.ofO (Pst.bind.mp hx)
  obtain ⟨x, p1⟩ := x
  cases x with
  | str z' =>
    cases ez
    have d1 : DV G I1 (.str z) v := d1
    unfold DV at d1
    exact ⟨z, d1, (show ∀ J I' H', Ext c.P I H p1 I' H' → WalkD G I' (sgD z) J → Q J H' from hx) _ I1 H1 e1 walk_sg⟩
  | _ => cases ez⟩
end
end Dn
end
section
set_option Elab.async false
set_option linter.all false
set_option maxRecDepth 100000
set_option maxHeartbeats 400000
namespace Dn
open PySem PySem.Spec L2

/-! ### enumerate(tuple) -/
set_option maxHeartbeats 1000000 in
theorem meets_enum1 {v : Value} {o : Obj} {Hh : Heap → Prop} (B : Begins v o Hh) :
    Meets (Builtin.«enumerate.__new__» ⟨[.type "enumerate", v], []⟩) (fun _ Rr s => Hh s.heap ∧
      Rr (.ok (.ret (.ref (s.heap.push o).objs.size))) { s with heap := (s.heap.push o).push { cls := .type "enumerate", data := .fields #[.none, .bool false, .ref s.heap.objs.size, rawInt 0, .none, .none] } }) :=
  .of_wp fun prog w A Rr s hyp => by
    obtain ⟨hp, gg, dr, tk, os⟩ := s
    obtain ⟨hb, hyp⟩ := hyp
    have hsub := sub_enumerate
    have it1 : ∀ {A' : Around} {E : Value → Shared → Prop} {Q : Value → Shared → Prop}, Q (.ref hp.objs.size) ⟨hp.push o, gg, dr, tk, os⟩ → wpAny (model prog w) A' (pyIter v) Q E ⟨hp, gg, dr, tk, os⟩ :=
      fun q => B.iter prog w _ _ ⟨hp, gg, dr, tk, os⟩ _ hb q
    wp_walk using it1
    refine wpAny_stack_any fun st => wpAny_pure ?_
    split
    · rename_i cl _ _ _ _ _
      cases (cl == Value.type "enumerate") <;> (wp_walk using it1; exact ⟨_, rfl, hyp⟩)
    · wp_walk using it1
      exact ⟨_, rfl, hyp⟩
section
variable {prog : Program} {w : World} {A : Around} {E : Value → Shared → Prop} {s : Shared}
theorem call_enum1 {v : Value} {o : Obj} {Hh : Heap → Prop} {Q : Value → Shared → Prop} (B : Begins v o Hh) (hb : Hh s.heap)
    (hyp : ∀ h', IsEnum h' (s.heap.objs.size + 1) s.heap.objs.size 0 .none → h'.get? s.heap.objs.size = some o → (∀ b u, s.heap.get? b = some u → h'.get? b = some u) → Q (.ref (s.heap.objs.size + 1)) { s with heap := h' }) :
    wpAny (model prog w) A (call (.type "enumerate") [v]) Q E s := by
  refine callType_new F.called_enumerate (by decide) (F.typeCall_enumerate_1 _) (F.newCall_enumerate_1 _) (fun obj => F.args_object_init_2 obj _) F.entry_enumerate_new (meets_enum1 B) ⟨hb, ?_⟩
  have sz : (s.heap.push o).objs.size = s.heap.objs.size + 1 := Heap.size_push ..
  have en : IsEnum ((s.heap.push o).push { cls := .type "enumerate", data := .fields #[.none, .bool false, .ref s.heap.objs.size, rawInt 0, .none, .none] }) (s.heap.objs.size + 1) s.heap.objs.size 0 .none := by
    have z := Heap.get?_push_size (s.heap.push o) (o := { cls := .type "enumerate", data := .fields #[.none, .bool false, .ref s.heap.objs.size, rawInt 0, .none, .none] }) rfl
    rw [sz] at z
    exact z
  show _ ∧ _
  rw [sz]
  exact ⟨⟨_, en, rfl⟩, hyp _ en (Heap.get?_push_of_some _ (Heap.get?_push_size _ B.free)) fun b u z => Heap.get?_push_of_some _ (Heap.get?_push_of_some _ z)⟩
end
/-- the tuple at a, each item in a new pair behind its number -/
def Itet (K : PySem.W.Frag) (a : Addr) : It :=
  ⟨fun i H => ∃ xs : List V, SqT K H a xs ∧ i < xs.length, fun i H v H' => ∃ T x, v = .ref T ∧ H T = none ∧ H' = upd H T (.tup [.int (i : Nat), x]) ∧ ∀ xs, SqT K H a xs → xs[i]? = some x, fun i H => ∃ xs : List V, SqT K H a xs ∧ xs.length = i⟩
theorem turn_enumT {P : Program} {w : World} {K : PySem.W.Frag} {elts : List Expr} {kk : Nat} {tpos : Pos} {a e it : Addr} (hne : e ≠ it) (ha : a ≠ it) (hea : e ≠ a) :
    Turn P w K (.Tuple elts kk tpos) (Itet K a) [e, it] e (fun i h => (∃ old, IsEnum h e it ((i : Nat) : Int) old) ∧ h.IsTupleIter it a i) where
  mem := List.mem_cons_self
  obj := fun i h ⟨⟨old, he⟩, o, ho, hc, hd⟩ b hb => by
    rcases List.mem_cons.mp hb with z | z
    · subst z; exact ⟨_, he, fun v q => nomatch q⟩
    · obtain rfl := List.mem_singleton.mp z
      exact ⟨o, ho, fun v q => by rw [hd] at q; cases q⟩
  keep := fun i h h' ⟨⟨old, he⟩, hi⟩ k => ⟨⟨old, k e (by simp) _ he⟩, hi.at fun o q => k it (by simp) o q⟩
  item := by
    intro X hP hw hK hc i pins s σ H E I hf ⟨⟨old, he⟩, hit⟩ ⟨xs, hq, hlt⟩
    subst hP hw hK
    obtain ⟨its, rv, tp, _⟩ := I.tuple hq
    obtain ⟨u, hu, ru⟩ := rv.get (List.getElem?_eq_getElem hlt)
    have lt1 : e < s.heap.objs.size := Heap.lt_size he
    have lt2 : it < s.heap.objs.size := by obtain ⟨_, q, _⟩ := hit; exact Heap.lt_size q
    have hhd : X.A.in1.handled = none := I.ok.hd hc
    have hn : i < its.toArray.size := by
      have := rv.length
      simp
      omega
    refine wpAny_pyNext_enum_itemD (Draws.tuple hhd it a ha its.toArray) he ⟨hit, tp⟩ hn hne (by simp [hne, hea]) fun x h' tk px eo ht hT hsz hk => ?_
    have px : its.toArray[i]? = some x := px
    have hx : x = u := by
      have z : its.toArray[i]? = some u := by simpa using hu
      rw [px] at z
      exact Option.some.inj z
    subst hx
    refine ⟨_, rfl, wpAny_letOwnedTupleGo_enum (s := { s with heap := h', toks := tk + 1 }) eo fun h2 he' sb => ?_⟩
    have hT2 : h2.get? s.heap.objs.size = some { cls := .type "tuple", data := .seq #[.int i tk, x] } := by rw [sb.2 _ (Nat.ne_of_gt lt1)]; exact hT
    have kp : ∀ b o, b ∉ [e, it] → s.heap.get? b = some o → h2.get? b = some o := fun b o hb q => by
      have n1 : b ≠ e := fun z => hb (by simp [z])
      have n2 : b ≠ it := fun z => hb (by simp [z])
      rw [sb.2 b n1]
      exact hk b o n1 n2 q
    have I1 := I.turnedNew (t' := tk + 1) (ob := .tup [.int (i : Nat), xs[i]]) kp hf (Nat.le_refl _)
      ⟨by show 2 ≤ sizeLine; decide, [.int i tk, x], .cons ⟨_, rfl⟩ (.cons ru .nil), ⟨_, hT2, rfl, _, rfl⟩⟩
    refine ⟨.ref s.heap.objs.size, _, I1, rfl, ⟨_, xs[i], rfl, I.hok.fresh (Nat.le_refl _), rfl, fun ys hy => ?_⟩, ⟨⟨x, ?_⟩, ht.1.at fun o q => ?_⟩, fun b hb => ?_⟩
    · rw [I.tuple_inj hy hq]
      exact List.getElem?_eq_getElem hlt
    · have z : ((i + 1 : Nat) : Int) = (i : Int) + 1 := by omega
      rw [z]
      exact he'
    · exact (sb.2 it (Ne.symm hne)).trans q
    · have lb : b < s.heap.objs.size := by
        rcases List.mem_cons.mp hb with z | z
        · rw [z]; exact lt1
        · rw [List.mem_singleton.mp z]; exact lt2
      rw [upd_ne (Nat.ne_of_lt lb)]
      exact (hf b hb).1
  done := by
    intro X hP hw hK hc i pins s σ H E I hf ⟨⟨old, he⟩, hit⟩ ⟨xs, hq, hl⟩
    subst hP hw hK
    obtain ⟨its, rv, tp, _⟩ := I.tuple hq
    obtain ⟨f0, f1, f2, f3, f4, f5⟩ := hf it (by simp)
    have hn : i = its.toArray.size := by
      have := rv.length
      simp
      omega
    have hhd : X.A.in1.handled = none := I.ok.hd hc
    rw [hn] at hit
    exact wpAny_pyNext_enum_endD (Draws.tuple hhd it a ha its.toArray) he ⟨hit, tp⟩ fun h' hx => ⟨rfl, I.turned (t' := s.toks) (fun b o hb q => hx b o hb q) f0 f1 f3 f4 f5⟩
  self := fun _ _ _ _ _ ⟨⟨_, he⟩, _⟩ q => wpAny_pyIter_enum he q
section
variable {X : Cx} {G : Gm} {W : XK} {e a b tg iter elt : Expr} {es ifs : List Expr} {te ta tb : TE} {tr : TA} {m ma mb : KE} {ml mk : KL} {pos : Pos} {wi wi1 : TI} {mi mi1 : KL}
def iEnumT (K : PySem.W.Frag) (ta : TA) : TI := fun σ H Rr => ta σ H fun vs H1 => ∃ q xs, vs = [.ref q] ∧ SqT K H1 q xs ∧ Rr (Itet K q) H1
theorem pi_enumT {ta : TA} {p tpos : Pos} {elts : List Expr} {kk : Nat} (hg : Gl X "enumerate") (hm : X.mg "enumerate" = none) (ha : PA X [e] ta) (hs : starEach [e] X.env = [(false, eval e X.env)] := by rfl) :
    PI X (.Tuple elts kk tpos) (.Call (.Name "enumerate" p) [e] [] pos) (iEnumT X.K ta) := by
  refine ⟨fun pins s σ H Rr I hyp => ?_⟩
  refine PyProof.Rows.Call_ (ld_blt I hg hm PyProof.Rows.boot_enumerate (PyProof.Rows.callWith_type1 (thn (ha.run pos pins s σ H _ I hyp) fun us s1 ⟨vs, H1, I1, r1, q, xs, ex, hq, fin⟩ => ?_) hs rfl))
  subst ex
  cases r1 with
  | cons rx rest =>
    cases rest
    cases rx
    obtain ⟨its, rv, tp, _⟩ := I1.tuple hq
    have lq : q < s1.heap.objs.size := by obtain ⟨o, ho, _⟩ := tp; exact Heap.lt_size ho
    refine call_enum1 (begins_tuple q its.toArray) tp fun h' en it kp => wpAny_pyIter_enum en ?_
    have I2 : Inv X pins σ H1 { s1 with heap := h' } := I1.kept (t' := s1.toks) kp
    refine ⟨s1.heap.objs.size + 1, [s1.heap.objs.size + 1, s1.heap.objs.size], _, Itet X.K q, H1, rfl, I2, turn_enumT (a := q) (e := s1.heap.objs.size + 1) (it := s1.heap.objs.size) (Nat.succ_ne_self _) (Nat.ne_of_lt lq) (Nat.ne_of_gt (Nat.lt_succ_of_lt lq)), ⟨⟨.none, en⟩, _, it, rfl, rfl⟩, fun b hb => ?_, fin⟩
    have le : s1.heap.objs.size ≤ b := by
      rcases List.mem_cons.mp hb with z | z
      · rw [z]; exact Nat.le_succ _
      · rw [List.mem_singleton.mp z]; exact Nat.le_refl _
    exact I1.fpOk le (I1.hok.fresh le)
/-- numbered -/
def enD (ds : List D) : List D := zipD (rgD 0 ds.length) ds
theorem en_at {I : Hp} {xs : List D} {vs : List V} (h : DVs G I xs vs) {i : Nat} {x y : V} (hi : i < vs.length) (hx : some (V.int (i : Nat)) = some x) (hy : vs[i]? = some y) : ∃ a b, (enD xs)[i]? = some (.tup [a, b]) ∧ DV G I a x ∧ DV G I b y := by
  have e1 := h.length
  have l1 : i < xs.length := by omega
  obtain ⟨v, g1, g2⟩ := h.get (List.getElem?_eq_getElem l1)
  rw [hy] at g1
  cases g1
  cases hx
  refine ⟨.int (0 + (i : Nat)), _, ?_, ?_, g2⟩
  · unfold enD zipD
    rw [List.getElem?_zipWith, rgD_get 0 l1, List.getElem?_eq_getElem l1]
  · unfold DV
    rw [Int.zero_add]
theorem en_len (xs : List D) : (enD xs).length = xs.length := by unfold enD; rw [zip_len, rgD_len, Nat.min_self]
def kEnum (m : KE) : KL := fun ρ p => do
  let a ← m ρ p
  let ds ← ofO (toSeq a.1)
  pure (enD ds, a.2)
theorem ei_enum (h : EvE G W m te) : EvI G W (kEnum m) (fun σ H Q => iEnum G.K (tCons te tNil) σ H Q ∨ iEnumT G.K (tCons te tNil) σ H Q) := fun c p ρ σ I H Q n k => by
  have k := Pst.bind.mp k
  have one : ∀ Q', Pst (m ρ p) (Thr G c W) (fun a => ∀ v I' H', Ext c.P I H a.2 I' H' → DV G I' a.1 v → Q' v H') → te σ H Q' := fun Q' => h c p ρ σ I H Q' n
  cases e : m ρ p with
  | error x =>
    refine .inl (one _ ?_)
    rw [e] at k ⊢
    cases x with
    | stuck => exact False.elim k
    | exn x ds => exact k
  | ok z =>
    obtain ⟨d, p1⟩ := z
    rw [e] at k one
    obtain ⟨ds, h1, k⟩ := Pst.ofO (Pst.bind.mp (show Pst (ofO (toSeq d) >>= fun ds => pure (enD ds, p1)) _ _ from k))
    have k : ∀ J I' H', Ext c.P I H p1 I' H' → WalkD G I' (enD ds) J → Q J H' := k
    cases d with
    | lst xs =>
      cases h1
      refine .inl (one _ ?_)
      show ∀ v I' H', Ext c.P I H p1 I' H' → DV G I' (.lst ds) v → _
      intro v I' H' x hv
      unfold DV at hv
      obtain ⟨q, vs, rfl, h2, h3⟩ := hv
      refine ⟨q, vs, rfl, SqL.of (x.sub _ _ h2), k _ I' H' x ?_⟩
      exact walk_pair (xs := vs) (ys := vs) (ds1 := ds) (ds2 := ds) (walk_enum (xs := vs)) (fun H s => SqL.of (s _ _ h2)) _ (by rw [en_len, h3.length]) fun i x y hi h1 h2 => en_at h3 hi h1 h2
    | tup xs =>
      cases h1
      refine .inr (one _ ?_)
      show ∀ v I' H', Ext c.P I H p1 I' H' → DV G I' (.tup ds) v → _
      intro v I' H' x hv
      unfold DV at hv
      obtain ⟨q, vs, rfl, h2, h3⟩ := hv
      refine ⟨q, vs, rfl, x.sub.seqT h2, k _ I' H' x ?_⟩
      have w : Walk (Itet G.K q) vs.length (fun H => SqT G.K H q vs) (YPair (fun i => some (.int (i : Nat))) (fun i => vs[i]?)) :=
        ⟨fun i H hi z => ⟨vs, z, hi⟩, fun H z => ⟨vs, z, rfl⟩, fun i H v H' _ z ⟨T, x, y1, y2, y3, y4⟩ => ⟨T, _, x, y1, y2, y3, rfl, y4 vs z⟩⟩
      exact walk_pair (xs := vs) (ys := vs) (ds1 := ds) (ds2 := ds) w (fun H s => s.seqT h2) _ (by rw [en_len, h3.length]) fun i x y hi h1 h2 => en_at h3 hi h1 h2
    | _ => cases h1
theorem mi_enum {elts : List Expr} {kk : Nat} {tpos p : Pos} (h : ME X G W e te m) (hm : X.mg "enumerate" = none := by rfl) (hk : X.K = G.K := by rfl) (hg : Gl X "enumerate" := by rfl) (hs : starEach [e] X.env = [(false, eval e X.env)] := by rfl) :
    MI X G W (.Tuple elts kk tpos) (.Call (.Name "enumerate" p) [e] [] pos) (fun σ H Q => iEnum G.K (tCons te tNil) σ H Q ∨ iEnumT G.K (tCons te tNil) σ H Q) (kEnum m) :=
  ⟨by rw [← hk]; exact PI.or (pi_enum hg hm (pa_cons h.pe pa_nil (by rw [hs]; rfl)) hs) (pi_enumT hg hm (pa_cons h.pe pa_nil (by rw [hs]; rfl)) hs), ei_enum h.ev⟩
end
end Dn
end
section
set_option Elab.async false
set_option linter.all false
set_option maxRecDepth 100000
set_option maxHeartbeats 400000
namespace Dn
open PySem PySem.Spec L2

/-! ### what a def promises -/
abbrev KF := List D → R D
abbrev KM := List D → Pen → R (D × Pen)
/-- a def over data -/
def spP (G : Gm) (n : Nat) (m : KF) : Sp := fun vs H Q E => ∃ I ds, Sub I H ∧ DVs G I ds vs ∧ ds.length = n ∧ Pst (m ds) (Thr G ⟨none, I, H⟩ E) (fun d => ∀ v I' H', Ext none I H pen0 I' H' → DV G I' d v → Q v H')
/-- a def whose first parameter may change -/
def spM (G : Gm) (n : Nat) (m : KM) : Sp := fun vs H Q E => ∃ a cc p I ds ws, vs = .ref a :: ws ∧ Sub I H ∧ PenAt a cc p H ∧ I a = none ∧ cc.2 = G.C ∧ (p.isPn = true → NoT I) ∧ DVs G I ds ws ∧ ds.length = n ∧
  Pst (m ds p) (Thr G ⟨some (a, cc), I, H⟩ E) (fun r => ∀ v I' H', Ext (some (a, cc)) I H r.2 I' H' → DV G I' r.1 v → Q v H')
theorem Ext.any {I H I' H' : Hp} {p : Pen} (e : Ext none I H p I' H') : ExtN I H I' H' := fun _ => ⟨e.keep, e.grow, e.sub, e.new, PenOk.none⟩
theorem Thr.mono {G : Gm} {c c2 : Ctx} {W : XK} {x : Nat} {ds : List D} (h : Thr G c W x ds) (e : ∀ p' I' H', Ext c2.P c2.I0 c2.H0 p' I' H' → ∃ p2, Ext c.P c.I0 c.H0 p2 I' H') : Thr G c2 W x ds := fun p' I' H' dx vs e2 h1 h2 h3 => by
  obtain ⟨p2, e3⟩ := e p' I' H' e2
  exact h p2 I' H' dx vs e3 h1 h2 h3
/-- the slots at the entry -/
def ρ0 (n : Nat) (ds : List D) : List Sl := ds.map Sl.val ++ List.replicate (n - ds.length) .no
/-- what a body gives -/
def fin1 : Fl × List Sl × Pen → R D
  | (.ret d, _) => .ok d
  | (.nx, _) => .ok .non
  | _ => .error .stuck
def mFn (n : Nat) (b : KS) : KF := fun ds => do
  let r ← b (ρ0 n ds) pen0
  fin1 r
def mPn (n : Nat) (b : KS) : KM := fun ds p => do
  let r ← b (.pen :: ρ0 (n - 1) ds) p
  let d ← fin1 r
  pure (d, r.2.2)
section
variable {G : Gm}
theorem start_get {n : Nat} {ds : List D} {vs : List V} {I H : Hp} {c : Ctx} (hl : vs.length ≤ n) (h : DVs G I ds vs) (i : Nat) (s : Sl) (hs : (ρ0 n ds)[i]? = some s) : s.isOwn = false ∧ SlotR G c I H s ((vs.map some ++ List.replicate (n - vs.length) none)[i]?) := by
  have e := h.length
  unfold ρ0 at hs
  by_cases hi : i < ds.length
  · rw [List.getElem?_append_left (by simpa using hi), List.getElem?_map, List.getElem?_eq_getElem hi] at hs
    cases hs
    obtain ⟨v, g1, g2⟩ := h.get (List.getElem?_eq_getElem hi)
    refine ⟨rfl, v, ?_, g2⟩
    rw [List.getElem?_append_left (by simp; omega), List.getElem?_map, g1]
    rfl
  · rw [List.getElem?_append_right (by simp; omega), List.getElem?_replicate] at hs
    split at hs
    · cases hs
      exact ⟨rfl, trivial⟩
    · cases hs
theorem now_start {N : List Str} {ds : List D} {vs : List V} {I H : Hp} (s : Sub I H) (h : DVs G I ds vs) (hl : vs.length ≤ N.length) : Now G ⟨none, I, H⟩ pen0 (ρ0 N.length ds) (start N vs) I H := by
  have e := h.length
  refine ⟨Ext.refl s PenOk.none, fun a cc z => (by cases z), ?_, fun i t ht => (start_get hl h i t ht).2, fun i j s1 t q h1 _ o1 _ _ _ => ?_, fun z => absurd rfl z⟩
  · unfold L2.start ρ0
    simp
    omega
  · rw [(start_get (H := H) (c := ⟨none, I, H⟩) hl h i s1 h1).1] at o1
    cases o1
theorem now_startM {N : List Str} {ds : List D} {ws : List V} {I H : Hp} {a : Addr} {cc : Addr × (Nat → Addr)} {p : Pen} (s : Sub I H) (h : DVs G I ds ws) (hl : ws.length + 1 ≤ N.length) (hp : PenAt a cc p H) (ha : I a = none) (hC : cc.2 = G.C) (hnt : p.isPn = true → NoT I) : Now G ⟨some (a, cc), I, H⟩ p (.pen :: ρ0 (N.length - 1) ds) (start N (.ref a :: ws)) I H := by
  have e := h.length
  have es : start N (.ref a :: ws) = some (.ref a) :: (ws.map some ++ List.replicate (N.length - 1 - ws.length) none) := by
    unfold L2.start
    rw [List.map_cons, List.length_cons, List.cons_append]
    have : N.length - (ws.length + 1) = N.length - 1 - ws.length := by omega
    rw [this]
  have own0 : ∀ (i : Nat) (s1 : Sl), (Sl.pen :: ρ0 (N.length - 1) ds)[i]? = some s1 → s1.isOwn = false := fun i s1 h1 => by
    cases i with
    | zero => cases h1; rfl
    | succ i => exact (start_get (n := N.length - 1) (H := H) (c := ⟨none, I, H⟩) (by omega) h i s1 h1).1
  refine ⟨Ext.refl s fun a' cc' z => (by cases z; exact hp), fun a' cc' z => (by cases z; exact ⟨ha, ⟨_, hp.d⟩, ⟨_, hp.c⟩, hC⟩), ?_, fun i t ht => ?_, fun i j s1 t q h1 _ o1 _ _ _ => ?_, fun _ => hnt⟩
  · rw [es]
    unfold ρ0
    simp
    omega
  · rw [es]
    cases i with
    | zero => cases ht; exact ⟨a, cc, rfl, rfl⟩
    | succ i => exact (start_get (n := N.length - 1) (by omega) h i t ht).2
  · rw [own0 i s1 h1] at o1
    cases o1
/-- a body keeps its promise -/
theorem run_body {X : Cx} {N : List Str} {body : List Stmt} {t : TS} {b : KS} {n : Nat} {vs : List V} {H : Hp} {Q : VK} {E : XK} (hb : MB X G E body t b) (hn : n ≤ N.length) (h : spP G n (mFn N.length b) vs H Q E) : t { nx := fun _ H' => Q .non H', rt := Q } (start N vs) H := by
  obtain ⟨I, ds, s, hd, hl, k⟩ := h
  have k := Pst.bind.mp k
  refine hb.ev.run (now_start s hd (by rw [hd.length, hl]; exact hn)) (k.mono (fun _ _ z => z) fun x hx => ?_)
  obtain ⟨f, ρ, p⟩ := x
  cases f with
  | nx => exact fun σ' I' H' n' _ => (show ∀ v I' H', Ext none I H pen0 I' H' → DV G I' .non v → Q v H' from hx) .non I' H' ((Ext.any n'.ext) pen0) dv_non
  | ret d => exact fun v I' H' e hv => (show ∀ v I' H', Ext none I H pen0 I' H' → DV G I' d v → Q v H' from hx) v I' H' ((Ext.any e) pen0) hv
  | bk => exact False.elim hx
  | ct => exact False.elim hx
theorem run_bodyM {X : Cx} {N : List Str} {body : List Stmt} {t : TS} {b : KS} {n : Nat} {vs : List V} {H : Hp} {Q : VK} {E : XK} (hb : MB X G E body t b) (hn : n + 1 ≤ N.length) (h : spM G n (mPn N.length b) vs H Q E) : t { nx := fun _ H' => Q .non H', rt := Q } (start N vs) H := by
  obtain ⟨a, cc, p, I, ds, ws, rfl, s, hp, ha, hC, hnt, hd, hl, k⟩ := h
  have k := Pst.bind.mp k
  refine hb.ev.run (now_startM s hd (by rw [hd.length, hl]; exact hn) hp ha hC hnt) (k.mono (fun _ _ z => z) fun x hx => ?_)
  obtain ⟨f, ρ, p'⟩ := x
  cases f with
  | nx => exact fun σ' I' H' n' _ => (show ∀ v I' H', Ext (some (a, cc)) I H p' I' H' → DV G I' .non v → Q v H' from hx) .non I' H' n'.ext dv_non
  | ret d => exact fun v I' H' e hv => (show ∀ v I' H', Ext (some (a, cc)) I H p' I' H' → DV G I' d v → Q v H' from hx) v I' H' e hv
  | bk => exact False.elim hx
  | ct => exact False.elim hx
section
variable {P : Program} {w : World} {K : PySem.W.Frag} {mg : Str → Option Value} {base : Heap} {k : Nat} {f : Addr} {fd : FuncData} {x qual : Str} {params : Arguments} {body : List Stmt} {scope : Scope} {dvs : List V} {kws : List (Str × V)} {N ps : List Str} {b : KS}
/-- what a body's context is -/
abbrev BdyE (P : Program) (w : World) (K : PySem.W.Frag) (mg : Str → Option Value) (base : Heap) (k : Nat) (f : Addr) (qual : Str) (scope : Scope) (N : List Str) (Pr : Cx → XK → Prop) : Prop := ∀ (cdv : Value) (A : Around) (outer : List Env) (s : Shared) (H : Hp) (E : XK), Room k (A.deeper (PyProof.Rows.envOfC qual scope s.heap.objs.size f cdv)) →
  Pr (cxOf (L2.CX P w) P w K mg base N qual scope f cdv A outer s H E) E
theorem fn_den (F : FunD K x qual params body scope dvs kws f fd) (S : FnScope N ps scope) (hb : BdyE P w K mg base k f qual scope N fun X E => ∃ t, MB X G E body t b) : FnOk P w K mg base (L2.CX P w) (k + 1) f fd ps (spP G ps.length (mFn N.length b)) := by
  have hpl : ps.length ≤ N.length := by have := congrArg List.length S.pre; rw [List.length_take] at this; omega
  refine F.ok S (fun vs H Q E h => ?_) fun cdv A outer s H vs Q E hr h => ?_
  · obtain ⟨I, ds, _, hd, hl, _⟩ := h
    rw [hd.length, hl]
  · obtain ⟨t, ht⟩ := hb cdv A outer s H E hr
    exact ⟨t, ht.ps, run_body ht hpl h⟩
theorem fn_denM {p0 : Str} {pr : List Str} (hps : ps = p0 :: pr) (F : FunD K x qual params body scope dvs kws f fd) (S : FnScope N ps scope) (hb : BdyE P w K mg base k f qual scope N fun X E => ∃ t, MB X G E body t b) : FnOk P w K mg base (L2.CX P w) (k + 1) f fd ps (spM G pr.length (mPn N.length b)) := by
  have hpl : ps.length ≤ N.length := by have := congrArg List.length S.pre; rw [List.length_take] at this; omega
  rw [hps, List.length_cons] at hpl
  refine F.ok S (fun vs H Q E h => ?_) fun cdv A outer s H vs Q E hr h => ?_
  · obtain ⟨a, cc, p, I, ds, ws, rfl, _, _, _, _, _, hd, hl, _⟩ := h
    rw [hps, List.length_cons, List.length_cons, hd.length, hl]
  · obtain ⟨t, ht⟩ := hb cdv A outer s H E hr
    exact ⟨t, ht.ps, run_bodyM ht hpl h⟩
end
end

/-! ### calls -/
def kCall (n : Nat) (m : KF) (dds : List D) (ml : KL) : KE := fun ρ p => do
  let a ← ml ρ p
  if (a.1 ++ dds).length = n then do
    let d ← m (a.1 ++ dds)
    pure (d, a.2)
  else .error .stuck
def kCallM (i n : Nat) (m : KM) (dds : List D) (ml : KL) : KE := fun ρ p => match ρ[i]? with
  | some .pen => do
    let a ← ml ρ p
    if (a.1 ++ dds).length = n then m (a.1 ++ dds) a.2 else .error .stuck
  | _ => .error .stuck
section
variable {X : Cx} {G : Gm} {W : XK} {e : Expr} {es : List Expr} {te : TE} {tr : TA} {m : KE} {ml : KL} {pos p : Pos} {k : Nat} {f : Addr} {fd : FuncData} {ps : List Str} {dvs : List V} {dsv : List Value} {x : Str} {n : Nat} {kf : KF} {km : KM} {dds : List D}
theorem ev_call (h : EvA G W ml tr) (hd : ∀ I, DVs G I dds dvs) : EvE G W (kCall n kf dds ml) (tCall (spP G n kf) dvs W tr) := fun c p ρ σ I H Q nn kk => by
  refine h c p ρ σ I H _ nn ((Pst.bind.mp kk).mono (fun _ _ z => z) fun y hy vs I1 H1 e1 d1 => ?_)
  obtain ⟨hl, hy⟩ := Pst.ite' hy
  have n1 := nn.step e1
  refine ⟨I1, y.1 ++ dds, n1.sub, DVs.append d1 (hd I1), hl, (Pst.bind.mp hy).mono (fun x ds z => z.mono fun p' I' H' e' => ⟨y.2, n1.ext.trans ((Ext.any e').to n1.pen)⟩) fun d hk v I' H' e' hv => ?_⟩
  exact (show ∀ v I' H', Ext c.P I H y.2 I' H' → DV G I' d v → Q v H' from hk) v I' H' (e1.trans ((Ext.any e').to n1.pen)) hv
theorem me_call (F : FnOk X.prog X.w X.K X.mg X.base (L2.CX X.prog X.w) k f fd ps (spP G n kf)) (hr : Room k X.A) (hm : X.mg x = some (.ref f)) (hk : PySem.W.keepIn X.K (.ref f) = true) (hb : Binds X.K fd ps dsv) (hd : Vals dvs dsv) (hdd : ∀ I, DVs G I dds dvs) (ha : MA X G W (e :: es) tr ml)
    (hx : Passes (L2.CX X.prog X.w) X W := by first | exact L2.passes_call (takes_of rfl rfl rfl rfl) (fun _ _ _ _ h => h) | exact L2.passes_call takes0 (fun _ _ _ _ h => h)) (hg : Gl X x := by rfl) (hdb : (x == ("__debug__" : Str)) = false := by decide)
    (he : starEach (e :: es) X.env = (false, eval e X.env) :: starEach es X.env := by rfl) (hpl : (backTo pos (starEach es X.env)).any (·.1) = false := by rfl) :
    ME X G W (.Call (.Name x p) (e :: es) [] pos) (tCall (spP G n kf) dvs W tr) (kCall n kf dds ml) := ⟨pe_call F hr hg hm hk hb hd hx ha.pa hdb he hpl, ev_call ha.ev hdd⟩
theorem ev_callM {i : Nat} (h : EvA G W ml tr) (hd : ∀ I, DVs G I dds dvs) : EvE G W (kCallM i n km dds ml) (tCall (spM G n km) dvs W (tCons (tVar i) tr)) := fun c p ρ σ I H Q nn kk => by
  unfold kCallM at kk
  cases hs : ρ[i]? with
  | none => rw [hs] at kk; exact False.elim kk
  | some sl =>
    rw [hs] at kk
    have r := nn.rel i sl hs
    cases sl with
    | pen =>
      obtain ⟨a, cc, hP, h1⟩ := r
      have kk : Pst (ml ρ p >>= fun a => if (a.1 ++ dds).length = n then km (a.1 ++ dds) a.2 else .error .stuck) _ _ := kk
      refine ⟨.ref a, h1, h c p ρ σ I H _ nn ((Pst.bind.mp kk).mono (fun _ _ z => z) fun y hy vs I1 H1 e1 d1 => ?_)⟩
      obtain ⟨hl, hy⟩ := Pst.ite' hy
      have n1 := nn.step e1
      obtain ⟨g1, g2, g3, g4⟩ := n1.hid a cc hP
      refine ⟨a, cc, y.2, I1, y.1 ++ dds, vs ++ dvs, rfl, n1.sub, n1.pen a cc hP, g1, g4, n1.nt (by rw [hP]; intro z; cases z), DVs.append d1 (hd I1), hl, hy.mono (fun x ds z => z.mono fun p' I' H' e' => ⟨p', n1.ext.trans (by rw [hP]; exact e')⟩) fun r hk v I' H' e' hv => ?_⟩
      exact hk v I' H' (e1.trans (by rw [hP]; exact e')) hv
    | _ => exact False.elim kk
theorem me_callM (i : Nat) {y : Str} {py : Pos} (F : FnOk X.prog X.w X.K X.mg X.base (L2.CX X.prog X.w) k f fd ps (spM G n km)) (hr : Room k X.A) (hm : X.mg x = some (.ref f)) (hk : PySem.W.keepIn X.K (.ref f) = true) (hb : Binds X.K fd ps dsv) (hd : Vals dvs dsv) (hdd : ∀ I, DVs G I dds dvs) (ha : MA X G W es tr ml)
    (hx : Passes (L2.CX X.prog X.w) X W := by first | exact L2.passes_call (takes_of rfl rfl rfl rfl) (fun _ _ _ _ h => h) | exact L2.passes_call takes0 (fun _ _ _ _ h => h)) (hg : Gl X x := by rfl) (hdb : (x == ("__debug__" : Str)) = false := by decide)
    (hN : X.N[i]? = some y := by rfl) (hv : Vis X.env.scope y := by first | exact Or.inl rfl | exact Or.inr (Or.inl rfl) | exact Or.inr (Or.inr rfl)) (hdy : (y == ("__debug__" : Str)) = false := by decide) (hcd : (y == ("__classdict__" : Str)) = false := by decide)
    (he : starEach (.Name y py :: es) X.env = (false, eval (.Name y py) X.env) :: starEach es X.env := by rfl) (hpl : (backTo pos (starEach es X.env)).any (·.1) = false := by rfl) :
    ME X G W (.Call (.Name x p) (.Name y py :: es) [] pos) (tCall (spM G n km) dvs W (tCons (tVar i) tr)) (kCallM i n km dds ml) := ⟨pe_call F hr hg hm hk hb hd hx (pa_cons (pe_var hN hv hdy hcd) ha.pa he) hdb he hpl, ev_callM ha.ev hdd⟩
end
end Dn
end
section
set_option Elab.async false
set_option linter.all false
set_option maxRecDepth 100000
set_option maxHeartbeats 400000
namespace Dn
open PySem PySem.Spec L2

/-! ### built-in methods -/
def MtD (G : Gm) (r : V → List V → Hp → VK → Prop) (op : D → List D → Option D) : Prop := ∀ (I H : Hp) (x : V) (xs : List V) (a : D) (as : List D) (d : D) (Q : VK), Sub I H → DV G I a x → DVs G I as xs → op a as = some d → (∀ v I' H', ExtN I H I' H' → DV G I' d v → Q v H') → r x xs H Q
def tyD (T : String) : D → Bool
  | .str _ => decide (T = "str")
  | .int _ => decide (T = "int")
  | .lst _ => decide (T = "list")
  | _ => false
theorem tyD_ok {G : Gm} {I H : Hp} {T : String} {d : D} {v : V} (s : Sub I H) (h : tyD T d = true) (hd : DV G I d v) : tyV G.K T v H := by
  cases d with
  | str z => unfold DV at hd; subst hd; exact (show T = "str" from of_decide_eq_true h)
  | int z => unfold DV at hd; subst hd; exact (show T = "int" from of_decide_eq_true h)
  | lst ds => unfold DV at hd; obtain ⟨q, vs, rfl, h1, h2⟩ := hd; exact .inl ⟨of_decide_eq_true h, vs, SqL.of (s _ _ h1)⟩
  | _ => cases h
def kBm (T : String) (op : D → List D → Option D) (mo : KE) (ml : KL) : KE := fun ρ p => do
  let a ← mo ρ p
  if tyD T a.1 = true then do
    let b ← ml ρ a.2
    let d ← ofO (op a.1 b.1)
    pure (d, b.2)
  else .error .stuck
section
variable {X : Cx} {G : Gm} {W : XK} {e o : Expr} {es : List Expr} {te to ty tx : TE} {tr : TA} {m mo mi mv : KE} {ml : KL} {pos apos cpos p : Pos} {T id : String} {r : V → List V → Hp → VK → Prop} {op : D → List D → Option D} {name x : Str}
theorem ev_bm (ho : EvE G W mo to) (ha : EvA G W ml tr) (hd : MtD G r op) : EvE G W (kBm T op mo ml) (tBM G.K T r to tr) := fun c p ρ σ I H Q n k => by
  refine ho c p ρ σ I H _ n ((Pst.bind.mp k).mono (fun _ _ z => z) fun y hy v I1 H1 e1 d1 => ?_)
  obtain ⟨ht, hy⟩ := Pst.ite' hy
  have n1 := n.step e1
  refine ⟨tyD_ok n1.sub ht d1, ha c y.2 ρ σ I1 H1 _ n1 ((Pst.bind.mp hy).mono (fun _ _ z => z) fun z hz vs I2 H2 e2 d2 => ?_)⟩
  obtain ⟨d, ed, hz⟩ := Pst.ofO (Pst.bind.mp hz)
  have n2 := n1.step e2
  exact hd I2 H2 v vs y.1 z.1 d Q n2.sub (d1.mono e2.grow) d2 ed fun w I3 H3 e3 d3 => (show ∀ v I' H', Ext c.P I H z.2 I' H' → DV G I' d v → Q v H' from hz) w I3 H3 ((e1.trans e2).trans (e3.to n2.pen)) d3
theorem me_bm (pa : PlainAttrs T) (slot : Slot T name id) (hty : typeOf (.builtin id) = pure (.type "method_descriptor")) (hm : MtR X id r) (hd : MtD G r op) (ho : ME X G W o to mo) (ha : MA X G W (e :: es) tr ml) (hk : X.K = G.K := by rfl)
    (hbase : attributeBase o name X.env (eval o X.env) = eval o X.env := by rfl)
    (hfew : ((backTo cpos (starEach (e :: es) X.env)).all (fun x => !x.1) && (backToKw cpos (keywordEach [] X.env)).all (fun x => x.1.isSome)
      && decide ((e :: es).length + ([] : List Keyword).length + (if ([] : List Keyword).isEmpty then 0 else 1) < 30)) = true := by rfl)
    (hline : (apos.endLine == cpos.line) = true := by rfl) (hs : starEach (e :: es) X.env = (false, eval e X.env) :: starEach es X.env := by rfl) (hplain : (backTo cpos (starEach es X.env)).any (·.1) = false := by rfl) :
    ME X G W (.Call (.Attribute o name apos) (e :: es) [] cpos) (tBM X.K T r to tr) (kBm T op mo ml) := ⟨pe_bm pa slot hty hm ho.pe ha.pa hbase hfew hline hs hplain, by rw [hk]; exact ev_bm ho.ev ha.ev hd⟩

/-! ### list.count, list.index -/
def eqN (d z : D) : Bool := PyData.eqv (pd z) (pd d)
def cntD : D → List D → Option D
  | .lst ds, [d] => if fit d = true ∧ fit (.lst ds) = true then some (.int (ds.countP (eqN d) : Nat)) else none
  | _, _ => none
def idxD : D → List D → Option D
  | .lst ds, [d] => if fit d = true ∧ fit (.lst ds) = true then (ds.findIdx? (eqN d)).map fun j => .int (j : Nat) else none
  | _, _ => none
def rCountD (K : PySem.W.Frag) : V → List V → Hp → VK → Prop := fun x xs H Q => ∃ (a : Addr) (y : V) (d : PyData) (ds : List PyData), x = V.ref a ∧ xs = [y] ∧ Dp K H (V.ref a) (.list ds) ∧ Dp K H y d ∧ SeqAt.shaped (.list ds) = true ∧ SeqAt.shaped d = true ∧ Q (.int (ds.countP fun z => PyData.eqv z d : Nat)) H
theorem count_map {α β : Type} (f : α → β) (p : β → Bool) : ∀ l : List α, (l.map f).countP p = l.countP (fun x => p (f x))
  | [] => rfl
  | x :: l => by rw [List.map_cons, List.countP_cons, List.countP_cons, count_map f p l]
theorem mt_countD (hu : X.A.units + 65 < cLine) : MtR X "list.count" (rCountD X.K) := by
  intro pins s σ H x xs v us Q I rx rxs hyp
  obtain ⟨a, y, d, ds, rfl, rfl, hl, hy, sl, sd, q⟩ := hyp
  cases rx
  cases rxs with
  | cons ry rt =>
    cases rt
    obtain ⟨bs, r1⟩ := Dp.reads I d y _ hy ry
    have lay : PyData.canLayAll0 ds = true := SeqAt.canLay_of_shaped sl
    have room : X.A.units + 1 + min (PyData.depthAll ds) d.depth < cLine := PyProof.Rows.room_in_shaped sd hu
    cases hl with
    | lst hs ha =>
      obtain ⟨its, rv, ⟨⟨c0, d0, dat, sls⟩, n, ho, hc, hdn, hdt⟩, _⟩ := I.list hs
      simp only at hc hdt
      subst hc hdt
      obtain ⟨as, h4⟩ := Dp.readsAll I ds _ its ha rv
      have hmap := SeqAt.readsAll_map ds its as lay h4
      refine call_meets PySem.F.slot_list_count ⟨_, ho, rfl⟩ PySem.F.entry_list_count (PySem.F.args_list_count_2 _ _)
        (SeqAt.list_countAt a its.toArray n d0 sls _ fun u => PyData.eqv (SeqAt.readOf s.heap u) d) ⟨ho, SeqAt.items_eqAt (vs := its.toArray) (show ReadsAll s.heap its.toArray.toList ds as from h4) r1 lay (SeqAt.canLay_of_shaped sd) room, ?_⟩
      have ec : its.toArray.toList.countP (fun u => PyData.eqv (SeqAt.readOf s.heap u) d) = ds.countP fun z => PyData.eqv z d := by rw [← hmap, count_map]
      refine ⟨.int (ds.countP fun z => PyData.eqv z d : Nat), H, I.tok _, ⟨s.toks, ?_⟩, q⟩
      rw [← ec]
theorem pds_map : ∀ ds : List D, pds ds = ds.map pd
  | [] => by unfold pds; rfl
  | d :: ds => by unfold pds; rw [List.map_cons, pds_map ds]
theorem md_count : MtD G (rCountD G.K) cntD := fun I H x xs a as d Q s da das e k => by
  unfold cntD at e
  split at e
  · rename_i ds d0
    split at e
    · rename_i hf
      injection e with e
      subst e
      obtain ⟨y, rfl, dy⟩ := DVs.one.mp das
      obtain ⟨q, vs, rfl, h1, h2⟩ := (show ∃ q vs, x = V.ref q ∧ I q = some (.lst vs) ∧ DVs G I ds vs by unfold DV at da; exact da)
      have hl : Dp G.K H (V.ref q) (pd (.lst ds)) := dp_in s hf.2 da
      have eq1 : (PyData.list (pds ds)) = pd (.lst ds) := by rw [pd]
      rw [← eq1] at hl
      refine ⟨q, y, pd d0, pds ds, rfl, rfl, hl, dp_in s hf.1 dy, by rw [eq1]; exact hf.2, hf.1, ?_⟩
      have ec : (pds ds).countP (fun z => PyData.eqv z (pd d0)) = ds.countP (eqN d0) := by rw [pds_map, count_map]; rfl
      rw [ec]
      exact k _ I H (ExtN.refl s) (by unfold DV; rfl)
    · cases e
  · cases e
theorem find_first {α : Type} (p : α → Bool) {l : List α} {j : Nat} (h : l.findIdx? p = some j) : (∃ z, l[j]? = some z ∧ p z = true) ∧ ∀ (m : Nat) (z : α), m < j → l[m]? = some z → p z = false := by
  obtain ⟨h1, h2, h3⟩ := List.findIdx?_eq_some_iff_getElem.mp h
  refine ⟨⟨l[j], List.getElem?_eq_getElem h1, h2⟩, fun m z hm hz => ?_⟩
  obtain ⟨g1, g2⟩ := List.getElem?_eq_some_iff.mp hz
  have := h3 m hm
  rw [g2] at this
  simpa using this
theorem md_index : MtD G (rIndexD G.K) idxD := fun I H x xs a as d Q s da das e k => by
  unfold idxD at e
  split at e
  · rename_i ds d0
    split at e
    · rename_i hf
      obtain ⟨j, hj, e⟩ := Option.map_eq_some_iff.mp e
      subst e
      obtain ⟨y, rfl, dy⟩ := DVs.one.mp das
      obtain ⟨q, vs, rfl, h1, h2⟩ := (show ∃ q vs, x = V.ref q ∧ I q = some (.lst vs) ∧ DVs G I ds vs by unfold DV at da; exact da)
      have hl : Dp G.K H (V.ref q) (pd (.lst ds)) := dp_in s hf.2 da
      have eq1 : (PyData.list (pds ds)) = pd (.lst ds) := by rw [pd]
      rw [← eq1] at hl
      obtain ⟨⟨z, hz, hp⟩, hno⟩ := find_first _ hj
      refine ⟨q, y, pd d0, pds ds, j, pd z, rfl, rfl, hl, dp_in s hf.1 dy, by rw [eq1]; exact hf.2, hf.1, by rw [pds_map, List.getElem?_map, hz]; rfl, hp, fun m z' hm hz' => ?_, k _ I H (ExtN.refl s) (by unfold DV; rfl)⟩
      rw [pds_map, List.getElem?_map] at hz'
      cases e2 : ds[m]? with
      | none => rw [e2] at hz'; cases hz'
      | some z2 =>
        rw [e2] at hz'
        injection hz' with hz'
        rw [← hz']
        exact hno m z2 hm e2
    · cases e
  · cases e
theorem me_count (hu : X.A.units + 65 < cLine) (ho : ME X G W o to mo) (ha : MA X G W [e] tr ml) (hk : X.K = G.K := by rfl) (hbase : attributeBase o "count" X.env (eval o X.env) = eval o X.env := by rfl)
    (hfew : ((backTo cpos (starEach [e] X.env)).all (fun x => !x.1) && (backToKw cpos (keywordEach [] X.env)).all (fun x => x.1.isSome) && decide (([e] : List Expr).length + ([] : List Keyword).length + (if ([] : List Keyword).isEmpty then 0 else 1) < 30)) = true := by rfl)
    (hline : (apos.endLine == cpos.line) = true := by rfl) (hs : starEach [e] X.env = (false, eval e X.env) :: starEach [] X.env := by rfl) (hplain : (backTo cpos (starEach [] X.env)).any (·.1) = false := by rfl) :
    ME X G W (.Call (.Attribute o "count" apos) [e] [] cpos) (tBM X.K "list" (rCountD X.K) to tr) (kBm "list" cntD mo ml) :=
  me_bm PySem.F.plainAttrs_list PySem.F.slot_list_count PySem.F.type_list_count (mt_countD hu) (by rw [hk]; exact md_count) ho ha hk hbase hfew hline hs hplain
theorem me_index (hu : X.A.units + 65 < cLine) (ho : ME X G W o to mo) (ha : MA X G W [e] tr ml) (hk : X.K = G.K := by rfl) (hbase : attributeBase o "index" X.env (eval o X.env) = eval o X.env := by rfl)
    (hfew : ((backTo cpos (starEach [e] X.env)).all (fun x => !x.1) && (backToKw cpos (keywordEach [] X.env)).all (fun x => x.1.isSome) && decide (([e] : List Expr).length + ([] : List Keyword).length + (if ([] : List Keyword).isEmpty then 0 else 1) < 30)) = true := by rfl)
    (hline : (apos.endLine == cpos.line) = true := by rfl) (hs : starEach [e] X.env = (false, eval e X.env) :: starEach [] X.env := by rfl) (hplain : (backTo cpos (starEach [] X.env)).any (·.1) = false := by rfl) :
    ME X G W (.Call (.Attribute o "index" apos) [e] [] cpos) (tBM X.K "list" (rIndexD X.K) to tr) (kBm "list" idxD mo ml) :=
  me_bm PySem.F.plainAttrs_list PySem.F.slot_list_index PySem.F.type_list_index (mt_indexD hu) (by rw [hk]; exact md_index) ho ha hk hbase hfew hline hs hplain
/-- int(e) -/
def intD : List D → Option D
  | [.int i] => some (.int i)
  | [.bl b] => some (.int (if b then 1 else 0))
  | _ => none
theorem cd_int : CaD G (fun xs H Q => (∃ i, xs = [.int i] ∧ Q (.int i) H) ∨ ∃ k, xs = [.bl k] ∧ Q (.int (if k then 1 else 0)) H) intD := fun I H xs as d Q s da e k => by
  unfold intD at e
  split at e
  · rename_i i
    injection e with e
    subst e
    obtain ⟨y, rfl, dy⟩ := DVs.one.mp da
    unfold DV at dy
    subst dy
    exact .inl ⟨i, rfl, k _ I H (ExtN.refl s) (by unfold DV; rfl)⟩
  · rename_i b
    injection e with e
    subst e
    obtain ⟨y, rfl, dy⟩ := DVs.one.mp da
    unfold DV at dy
    subst dy
    exact .inr ⟨b, rfl, k _ I H (ExtN.refl s) (by unfold DV; rfl)⟩
  · cases e
end
end Dn
end
section
set_option Elab.async false
set_option linter.all false
set_option maxRecDepth 100000
set_option maxHeartbeats 400000
namespace Dn
open PySem PySem.Spec L2

/-! ### dicts with int and text keys -/
def keyD : D → Option Key
  | .int i => some (.inl i)
  | .str z => some (.inr z)
  | _ => none
theorem keyD_v {G : Gm} {I : Hp} {d : D} {k : Key} {v : V} (h : keyD d = some k) (hd : DV G I d v) : v = kV k := by
  cases d with
  | int i => cases h; unfold DV at hd; exact hd
  | str z => cases h; unfold DV at hd; exact hd
  | _ => cases h
def dlk : List Key → List D → Key → Option D
  | k :: ks, d :: ds, x => if k = x then some d else dlk ks ds x
  | _, _, _ => none
def dput (ks : List Key) (ds : List D) (x : Key) (d : D) : List Key × List D :=
  if (ks.any fun k => decide (k = x)) = true then (ks, ks.zipWith (fun k e => if k = x then d else e) ds) else (ks ++ [x], ds ++ [d])
def rdk (k : Key) : D := match k with
  | .inl i => .int i
  | .inr z => .str z
section
variable {G : Gm} {I : Hp}
theorem dlk_ok {x : Key} : ∀ {ks : List Key} {ds : List D} {vs : List V}, ks.length = ds.length → DVs G I ds vs → match dlk ks ds x with
    | some d => ∃ v, valV (ks.zip vs) x = some v ∧ DV G I d v
    | none => valV (ks.zip vs) x = none
  | [], [], vs, _, h => rfl
  | k :: ks, d :: ds, vs, hl, h => by
    unfold DVs at h
    obtain ⟨v, r, rfl, hv, hr⟩ := h
    unfold dlk
    by_cases hk : k = x
    · rw [if_pos hk]
      exact ⟨v, valV_pos hk, hv⟩
    · rw [if_neg hk]
      have e : valV ((k :: ks).zip (v :: r)) x = valV (ks.zip r) x := valV_neg hk
      rw [e]
      exact dlk_ok (Nat.succ.inj hl) hr
  | [], _ :: _, _, hl, _ => by cases hl
  | _ :: _, [], _, hl, _ => by cases hl
theorem dlk_some {x : Key} {ks : List Key} {ds : List D} {vs : List V} {d : D} (hl : ks.length = ds.length) (h : DVs G I ds vs) (e : dlk ks ds x = some d) : ∃ v, valV (ks.zip vs) x = some v ∧ DV G I d v := by
  have := dlk_ok (x := x) hl h
  rw [e] at this
  exact this
theorem dlk_none {x : Key} {ks : List Key} {ds : List D} {vs : List V} (hl : ks.length = ds.length) (h : DVs G I ds vs) (e : dlk ks ds x = none) : valV (ks.zip vs) x = none := by
  have := dlk_ok (x := x) hl h
  rw [e] at this
  exact this
theorem zip_any {x : Key} : ∀ {ks : List Key} {vs : List V}, ks.length = vs.length → ((ks.zip vs).any fun kv => decide (kv.1 = x)) = ks.any fun k => decide (k = x)
  | [], [], _ => rfl
  | k :: ks, v :: vs, h => by rw [List.zip_cons_cons, List.any_cons, List.any_cons, zip_any (Nat.succ.inj h)]
theorem zip_map {x : Key} {v : V} : ∀ {ks : List Key} {vs : List V}, (ks.zip vs).map (fun kv => if kv.1 = x then (kv.1, v) else kv) = ks.zip (ks.zipWith (fun k e => if k = x then v else e) vs)
  | [], _ => rfl
  | _ :: _, [] => rfl
  | k :: ks, w :: vs => by
    rw [List.zip_cons_cons, List.map_cons, zip_map, List.zipWith_cons_cons, List.zip_cons_cons]
    by_cases hk : k = x
    · rw [if_pos hk, if_pos hk]
    · rw [if_neg hk, if_neg hk]
theorem DVs.zipIf {x : Key} {d : D} {v : V} (hd : DV G I d v) : ∀ {ks : List Key} {ds : List D} {vs : List V}, DVs G I ds vs → DVs G I (ks.zipWith (fun k e => if k = x then d else e) ds) (ks.zipWith (fun k e => if k = x then v else e) vs)
  | [], _, _, _ => by simp; exact DVs.nil.mpr rfl
  | _ :: _, [], vs, h => by
    have := DVs.nil.mp h
    subst this
    simp
    exact DVs.nil.mpr rfl
  | k :: ks, e :: ds, vs, h => by
    unfold DVs at h
    obtain ⟨w, r, rfl, hw, hr⟩ := h
    rw [List.zipWith_cons_cons, List.zipWith_cons_cons]
    unfold DVs
    refine ⟨_, _, rfl, ?_, DVs.zipIf hd hr⟩
    by_cases hk : k = x
    · rw [if_pos hk, if_pos hk]; exact hd
    · rw [if_neg hk, if_neg hk]; exact hw
theorem dput_ok {x : Key} {ks : List Key} {ds : List D} {vs : List V} {d : D} {v : V} (hl : ks.length = ds.length) (h : DVs G I ds vs) (hd : DV G I d v) :
    ∃ ws, putK (ks.zip vs) x v = (dput ks ds x d).1.zip ws ∧ (dput ks ds x d).1.length = (dput ks ds x d).2.length ∧ DVs G I (dput ks ds x d).2 ws := by
  have lv := h.length
  unfold putK dput
  rw [zip_any (by omega)]
  cases hx : ks.any fun k => decide (k = x) with
  | true =>
    rw [if_pos rfl, if_pos rfl]
    exact ⟨_, zip_map, by simp [hl], DVs.zipIf hd h⟩
  | false =>
    rw [if_neg (by decide), if_neg (by decide)]
    refine ⟨vs ++ [v], ?_, by simp [hl], DVs.append h (DVs.one.mpr ⟨v, rfl, hd⟩)⟩
    show _ = (ks ++ [x]).zip (vs ++ [v])
    rw [List.zip_append (by omega)]
    rfl
end
section
variable {X : Cx} {G : Gm} {W : XK} {e o f value : Expr} {es : List Expr} {te to ty tx tv : TE} {tr : TA} {m mo mk mf mv : KE} {ml : KL} {pos pos' apos cpos p : Pos} {x : Str}
/-- what a dict expression gives: an own one in a slot, or a value -/
abbrev KDx := List Sl → Pen → R ((List Key × List D) × Pen)
def EvDx (G : Gm) (W : XK) (m : KDx) (te : TE) : Prop := ∀ (c : Ctx) (p : Pen) (ρ : List Sl) (σ : L2.St) (I H : Hp) (Q : VK), Now G c p ρ σ I H →
  Pst (m ρ p) (Thr G c W) (fun a => ∀ q vs I' H', Ext c.P I H a.2 I' H' → H' q = some (.dK (a.1.1.zip vs)) → (∀ I2 H2 p2, Ext c.P I' H' p2 I2 H2 → H2 q = some (.dK (a.1.1.zip vs))) → a.1.1.length = a.1.2.length → DVs G I' a.1.2 vs → Q (.ref q) H') → te σ H Q
structure MDx (X : Cx) (G : Gm) (W : XK) (e : Expr) (te : TE) (m : KDx) : Prop where
  pe : PE X e te
  ev : EvDx G W m te
def kDO (i : Nat) : KDx := fun ρ p => match ρ[i]? with
  | some (.ownd ks ds) => .ok ((ks, ds), p)
  | _ => .error .stuck
def toDic : D → Option (List Key × List D)
  | .dic ks ds => some (ks, ds)
  | _ => none
def kDV (m : KE) : KDx := fun ρ p => do
  let a ← m ρ p
  let ds ← ofO (toDic a.1)
  pure (ds, a.2)
theorem ev_dO (i : Nat) : EvDx G W (kDO i) (tVar i) := fun c p ρ σ I H Q n k => by
  unfold kDO at k
  cases hs : ρ[i]? with
  | none => rw [hs] at k; exact False.elim k
  | some sl =>
    rw [hs] at k
    have r := n.rel i sl hs
    cases sl with
    | ownd ks ds =>
      obtain ⟨q, vs, h1, h2, hl, h3, h4, h5⟩ := r
      refine ⟨.ref q, h1, (show ∀ q vs I' H', Ext c.P I H p I' H' → H' q = some (.dK (ks.zip vs)) → (∀ I2 H2 p2, Ext c.P I' H' p2 I2 H2 → H2 q = some (.dK (ks.zip vs))) → ks.length = ds.length → DVs G I' ds vs → Q (.ref q) H' from k) q vs I H n.refl h2 (fun I2 H2 p2 e => e.keep.at_ q _ (fun a cc z => (n.apart h4 a cc z).1) (fun _ z => by cases z) h2) hl h5⟩
    | _ => exact False.elim k
theorem ev_dV (h : EvE G W m te) : EvDx G W (kDV m) te := fun c p ρ σ I H Q n k => by
  refine h c p ρ σ I H Q n ((Pst.bind.mp k).mono (fun _ _ z => z) fun y hy v I' H' e d => ?_)
  obtain ⟨ds, ed, hy⟩ := Pst.ofO (Pst.bind.mp hy)
  obtain ⟨y, p1⟩ := y
  cases y with
  | dic ks xs =>
    cases ed
    have d : DV G I' (.dic ks xs) v := d
    unfold DV at d
    obtain ⟨q, vs, rfl, h1, h2, h3⟩ := d
    exact (show ∀ q vs I' H', Ext c.P I H p1 I' H' → H' q = some (.dK (ks.zip vs)) → (∀ I2 H2 p2, Ext c.P I' H' p2 I2 H2 → H2 q = some (.dK (ks.zip vs))) → ks.length = xs.length → DVs G I' xs vs → Q (.ref q) H' from hy) q vs I' H' e (e.sub _ _ h1) (fun I2 H2 p2 e2 => e2.sub _ _ (e2.grow _ _ h1)) h2 h3
  | _ => cases ed
theorem mdx_O (i : Nat) {px : Pos} (hN : X.N[i]? = some x := by rfl) (hv : Vis X.env.scope x := by first | exact Or.inl rfl | exact Or.inr (Or.inl rfl) | exact Or.inr (Or.inr rfl)) (hd : (x == ("__debug__" : Str)) = false := by decide) (hcd : (x == ("__classdict__" : Str)) = false := by decide) :
    MDx X G W (.Name x px) (tVar i) (kDO i) := ⟨pe_var hN hv hd hcd, ev_dO i⟩
theorem mdx_V (h : ME X G W e te m) : MDx X G W e te (kDV m) := ⟨h.pe, ev_dV h.ev⟩
/-- d[k] -/
def kDIt (md : KDx) (mk : KE) : KE := fun ρ p => do
  let a ← md ρ p
  let b ← mk ρ a.2
  let k ← ofO (keyD b.1)
  let d ← ofO (dlk a.1.1 a.1.2 k)
  pure (d, b.2)
theorem ev_dit {md : KDx} (h : EvDx G W md to) (hk : EvE G W mk ty) : EvE G W (kDIt md mk) (tDGet to ty) := fun c p ρ σ I H Q n k => by
  refine h c p ρ σ I H _ n ((Pst.bind.mp k).mono (fun _ _ z => z) fun y hy q vs I1 H1 e1 hq keep hl dvs => ?_)
  refine hk c y.2 ρ σ I1 H1 _ (n.step e1) ((Pst.bind.mp hy).mono (fun _ _ z => z) fun z hz v I2 H2 e2 dv => ?_)
  obtain ⟨kk, ek, hz⟩ := Pst.ofO (Pst.bind.mp hz)
  obtain ⟨d, ed, hz⟩ := Pst.ofO (Pst.bind.mp hz)
  rw [keyD_v ek dv]
  obtain ⟨w, hw, dw⟩ := dlk_some hl (DVs.mono e2.grow dvs) ed
  have g := DGet.k (k := kk) (keep _ _ _ e2)
  rw [hw] at g
  exact ⟨q, w, rfl, g, (show ∀ v I' H', Ext c.P I H z.2 I' H' → DV G I' d v → Q v H' from hz) w I2 H2 (e1.trans e2) dw⟩
theorem me_dit {md : KDx} (hu : X.A.units + 1 < cLine) (ho : MDx X G W o to md) (hk : ME X G W e ty mk) (hs : NoSl e := by intro _ _; rfl) : ME X G W (.Subscript o e pos) (tDGet to ty) (kDIt md mk) := ⟨pe_dget hu ho.pe hk.pe hs, ev_dit ho.ev hk.ev⟩
/-- d.get(k, x) -/
def kDGe (md : KDx) (mk mf : KE) : KE := fun ρ p => do
  let a ← md ρ p
  let b ← mk ρ a.2
  let f ← mf ρ b.2
  let k ← ofO (keyD b.1)
  pure ((dlk a.1.1 a.1.2 k).getD f.1, f.2)
theorem ev_dge {md : KDx} (h : EvDx G W md to) (hk : EvE G W mk ty) (hf : EvE G W mf tx) : EvE G W (kDGe md mk mf) (tDGet2 to ty tx) := fun c p ρ σ I H Q n k => by
  refine h c p ρ σ I H _ n ((Pst.bind.mp k).mono (fun _ _ z => z) fun y hy q vs I1 H1 e1 hq keep hl dvs => ⟨q, rfl, .inl ⟨_, .inl hq⟩, ?_⟩)
  have n1 := n.step e1
  refine hk c y.2 ρ σ I1 H1 _ n1 ((Pst.bind.mp hy).mono (fun _ _ z => z) fun z hz v I2 H2 e2 dv => ?_)
  refine hf c z.2 ρ σ I2 H2 _ (n1.step e2) ((Pst.bind.mp hz).mono (fun _ _ z => z) fun u hu w I3 H3 e3 dw => ?_)
  obtain ⟨kk, ek, hu⟩ := Pst.ofO (Pst.bind.mp hu)
  rw [keyD_v ek dv]
  have g := DGet.k (k := kk) (keep _ _ _ (e2.trans e3))
  refine ⟨_, g, ?_⟩
  have dvs := DVs.mono (e2.grow.trans e3.grow) dvs
  have hu : ∀ v I' H', Ext c.P I H u.2 I' H' → DV G I' ((dlk y.1.1 y.1.2 kk).getD u.1) v → Q v H' := hu
  have ex := (e1.trans e2).trans e3
  cases hd : dlk y.1.1 y.1.2 kk with
  | none =>
    rw [dlk_none hl dvs hd]
    rw [hd] at hu
    exact hu w I3 H3 ex dw
  | some d =>
    obtain ⟨w2, hw, dw2⟩ := dlk_some hl dvs hd
    rw [hw]
    rw [hd] at hu
    exact hu w2 I3 H3 ex dw2
theorem me_dge {md : KDx} (hu : X.A.units + 1 < cLine) (ho : MDx X G W o to md) (hk : ME X G W e ty mk) (hf : ME X G W f tx mf) (hb : attributeBase o "get" X.env (eval o X.env) = eval o X.env := by rfl)
    (few : ((backTo cpos (starEach [e, f] X.env)).all (fun x => !x.1) && (backToKw cpos (keywordEach [] X.env)).all (fun x => x.1.isSome) && decide (([e, f] : List Expr).length + ([] : List Keyword).length + (if ([] : List Keyword).isEmpty then 0 else 1) < 30)) = true := by rfl)
    (line : (apos.endLine == cpos.line) = true := by rfl) (trees : backTo cpos (starEach [e, f] X.env) = [(false, eval e X.env), (false, eval f X.env)] := by rfl) :
    ME X G W (.Call (.Attribute o "get" apos) [e, f] [] cpos) (tDGet2 to ty tx) (kDGe md mk mf) := ⟨pe_dget2 hu ho.pe hk.pe hf.pe ⟨hb, few, line, trees⟩, ev_dge ho.ev hk.ev hf.ev⟩
/-- k in d, k not in d -/
def kDIn (f : Bool → Bool) (mk : KE) (md : KDx) : KE := fun ρ p => do
  let b ← mk ρ p
  let a ← md ρ b.2
  let k ← ofO (keyD b.1)
  pure (.bl (f (dlk a.1.1 a.1.2 k).isSome), a.2)
theorem ev_din {md : KDx} (h : EvDx G W md to) (hk : EvE G W mk ty) : EvE G W (kDIn (fun b => b) mk md) (tDIn ty to) ∧ EvE G W (kDIn (fun b => !b) mk md) (tDNotIn ty to) := by
  have key : ∀ f : Bool → Bool, ∀ (c : Ctx) (p : Pen) (ρ : List Sl) (σ : L2.St) (I H : Hp) (Q : VK), Now G c p ρ σ I H → Pst (kDIn f mk md ρ p) (Thr G c W) (fun a => ∀ v I' H', Ext c.P I H a.2 I' H' → DV G I' a.1 v → Q v H') →
      ty σ H fun y H1 => to σ H1 fun x H2 => ∃ a o, x = .ref a ∧ DGet H2 a y o ∧ Q (.bl (f o.isSome)) H2 := fun f c p ρ σ I H Q n k => by
    refine hk c p ρ σ I H _ n ((Pst.bind.mp k).mono (fun _ _ z => z) fun z hz v I1 H1 e1 dv => ?_)
    refine h c z.2 ρ σ I1 H1 _ (n.step e1) ((Pst.bind.mp hz).mono (fun _ _ z => z) fun y hy q vs I2 H2 e2 hq keep hl dvs => ?_)
    obtain ⟨kk, ek, hy⟩ := Pst.ofO (Pst.bind.mp hy)
    rw [keyD_v ek dv]
    refine ⟨q, _, rfl, DGet.k (k := kk) hq, ?_⟩
    have es : (valV (y.1.1.zip vs) kk).isSome = (dlk y.1.1 y.1.2 kk).isSome := by
      cases hd : dlk y.1.1 y.1.2 kk with
      | none => rw [dlk_none hl dvs hd]; rfl
      | some d =>
        obtain ⟨w, hw, _⟩ := dlk_some hl dvs hd
        rw [hw]
        rfl
    rw [es]
    exact (show ∀ v I' H', Ext c.P I H y.2 I' H' → DV G I' (.bl (f (dlk y.1.1 y.1.2 kk).isSome)) v → Q v H' from hy) _ I2 H2 (e1.trans e2) (by unfold DV; rfl)
  exact ⟨key fun b => b, key fun b => !b⟩
/-- x[k] = v, x an own dict -/
def kDSet (i : Nat) (mk mv : KE) : KS := fun ρ p => do
  let a ← mv ρ p
  match ρ[i]? with
  | some (.ownd ks ds) => do
    let b ← mk ρ a.2
    let k ← ofO (keyD b.1)
    if ks.length < sizeLine then pure (.nx, ρ.set i (.ownd (dput ks ds k a.1).1 (dput ks ds k a.1).2), b.2) else .error .stuck
  | _ => .error .stuck
theorem es_dset {i : Nat} (hk : EvE G W mk ty) (hv : EvE G W mv tv) : EvS G W (kDSet i mk mv) (sDPut (tVar i) ty tv) := .of fun c p ρ σ I H E n k => by
  refine hv c p ρ σ I H _ n ((Pst.bind.mp k).mono (fun _ _ z => z) fun x hx v I1 H1 e1 d1 => ?_)
  have n1 := n.step e1
  cases hs : ρ[i]? with
  | none => rw [hs] at hx; exact False.elim hx
  | some sl =>
    rw [hs] at hx
    have r := n1.rel i sl hs
    cases sl with
    | ownd ks ds =>
      obtain ⟨q, vs, h1, h2, hl, h3, h4, h5⟩ := r
      refine ⟨.ref q, h1, ?_⟩
      have hx : Pst (mk ρ x.2 >>= fun b => ofO (keyD b.1) >>= fun k => if ks.length < sizeLine then pure (.nx, ρ.set i (.ownd (dput ks ds k x.1).1 (dput ks ds k x.1).2), b.2) else .error .stuck) _ (Fin G c I E) := hx
      refine hk c x.2 ρ σ I1 H1 _ n1 ((Pst.bind.mp hx).mono (fun _ _ z => z) fun y hy w I2 H2 e2 d2 => ?_)
      have n2 := n1.step e2
      obtain ⟨kk, ek, hy⟩ := Pst.ofO (Pst.bind.mp hy)
      obtain ⟨hz, hy⟩ := Pst.ite' hy
      rw [keyD_v ek d2]
      have hq := e2.keep.at_ q _ (fun a cc z => (n1.apart h4 a cc z).1) (fun _ z => by cases z) h2
      have h5' := DVs.mono e2.grow h5
      refine ⟨q, _, rfl, DPut.k hq (by have := h5.length; rw [List.length_zip]; omega), ?_⟩
      obtain ⟨ws, ew, lw, dw⟩ := dput_ok (x := kk) hl h5' (d1.mono e2.grow)
      rw [ew]
      exact (show ∀ σ' I' H', Now G c y.2 (ρ.set i (.ownd (dput ks ds kk x.1).1 (dput ks ds kk x.1).2)) σ' I' H' → Sub I I' → E.nx σ' H' from hy) σ I2 _ (n2.mut hs rfl h1 ⟨q, ws, rfl, upd_same, lw, e2.new q _ h2 h3, h4, dw⟩) (e1.grow.trans e2.grow)
    | _ => exact False.elim hx
theorem ms_dset (i : Nat) {px : Pos} (hu : X.A.units + 1 < cLine) (hk : ME X G W e ty mk) (hv : ME X G W value tv mv) (hN : X.N[i]? = some x := by rfl) (hvi : Vis X.env.scope x := by first | exact Or.inl rfl | exact Or.inr (Or.inl rfl) | exact Or.inr (Or.inr rfl))
    (hd : (x == ("__debug__" : Str)) = false := by decide) (hcd : (x == ("__classdict__" : Str)) = false := by decide) (hs : swapsWith value (some (.Subscript (.Name x px) e pos')) pos.line X.env = pure false := by rfl) :
    MS X G W (.Assign [.Subscript (.Name x px) e pos'] value pos) (sDPut (tVar i) ty tv) (kDSet i mk mv) := ⟨ps_dput hu (pe_var hN hvi hd hcd) hk.pe hv.pe hs, es_dset hk.ev hv.ev⟩
/-- list(d), d an own dict or a value -/
def kDKs (md : KDx) : KL := fun ρ p => do
  let a ← md ρ p
  pure (a.1.1.map rdk, a.2)
theorem dvs_keys {I : Hp} : ∀ {ks : List Key} {vs : List V}, ks.length = vs.length → DVs G I (ks.map rdk) ((ks.zip vs).map fun kv => kV kv.1)
  | [], [], _ => DVs.nil.mpr rfl
  | k :: ks, v :: vs, h => by
    rw [List.zip_cons_cons, List.map_cons, List.map_cons]
    unfold DVs
    refine ⟨_, _, rfl, ?_, dvs_keys (Nat.succ.inj h)⟩
    cases k with
    | inl i => show DV G I (.int i) _; unfold DV; rfl
    | inr z => show DV G I (.str z) _; unfold DV; rfl
theorem mf_dkeys {md : KDx} (ho : MDx X G W o to md) (hm : X.mg "list" = none := by rfl) (hc : X.calm = true := by rfl) (hg : Gl X "list" := by rfl) (he : starEach (o :: []) X.env = (false, eval o X.env) :: starEach [] X.env := by rfl) :
    MF X G W (.Call (.Name "list" p) [o] [] pos) (tCB (fun xs H Q => ∃ (a : Addr) (kvs : List (Key × V)), xs = [.ref a] ∧ Rd H a (.dK kvs) ∧ ∀ p, H p = none → Q (.ref p) (upd H p (.lst (kvs.map fun kv => kV kv.1)))) (tCons to tNil)) (kDKs md) :=
  ⟨pe_callTy (call_listD hc) hg hm PyProof.Rows.boot_list (pa_cons ho.pe pa_nil he) (by decide) (by decide) he rfl, fun c p ρ σ I H Q n k => by
    refine ho.ev c p ρ σ I H _ n ((Pst.bind.mp k).mono (fun _ _ z => z) fun y hy q vs I1 H1 e1 hq keep hl dvs => ⟨q, _, rfl, .inl hq, fun t ht => ?_⟩)
    have n1 := n.step e1
    have hH : H t = none := by
      cases z : H t with
      | none => rfl
      | some u => obtain ⟨o, ho⟩ := e1.there z; rw [ht] at ho; cases ho
    exact (show ∀ q vs I' H', Ext c.P I H y.2 I' H' → H q = none → I' q = none → H' q = some (.lst vs) → DVs G I' (y.1.1.map rdk) vs → Q (.ref q) H' from hy) t _ I1 _ (e1.trans ((ExtN.lose n1.sub ht).to n1.pen)) hH (sub_none n1.sub ht) upd_same (dvs_keys (by have := dvs.length; omega))⟩

/-! ### found.append(left.pop(e)) -/
def kAppPop (i j : Nat) (m : KE) : KS := fun ρ p => match ρ[i]?, ρ[j]? with
  | some (.own fs), some (.own ls) => do
    let a ← m ρ p
    let z ← ofO (toI a.1)
    let k ← ofO (ixN ls.length z)
    let d ← ofO ls[k]?
    if i ≠ j ∧ -(2 ^ 63) ≤ z ∧ z < 2 ^ 63 ∧ fs.length < sizeLine then pure (.nx, (ρ.set j (.own (ls.eraseIdx k))).set i (.own (fs ++ [d])), a.2) else .error .stuck
  | _, _ => .error .stuck
theorem DVs.erase {I : Hp} : ∀ {ds : List D} {vs : List V} (k : Nat), DVs G I ds vs → DVs G I (ds.eraseIdx k) (vs.eraseIdx k)
  | [], vs, k, h => by
    have := DVs.nil.mp h
    subst this
    simpa using h
  | d :: ds, vs, 0, h => by
    unfold DVs at h
    obtain ⟨v, r, rfl, _, hr⟩ := h
    simpa using hr
  | d :: ds, vs, k + 1, h => by
    unfold DVs at h
    obtain ⟨v, r, rfl, hv, hr⟩ := h
    rw [List.eraseIdx_cons_succ, List.eraseIdx_cons_succ]
    unfold DVs
    exact ⟨_, _, rfl, hv, DVs.erase k hr⟩
theorem es_appPop {i j : Nat} (h : EvE G W m te) : EvS G W (kAppPop i j m) (tDrop (tBM G.K "list" rAppend (tVar i) (tCons (tBM G.K "list" rPopAt (tVar j) (tCons te tNil)) tNil))) := .of fun c p ρ σ I H E n k => by
  unfold kAppPop at k
  split at k
  · rename_i fs ls hi hj
    obtain ⟨q1, vs1, g1, g2, g3, g4, g5⟩ := n.rel i _ hi
    obtain ⟨q2, vs2, f1, f2, f3, f4, f5⟩ := n.rel j _ hj
    refine ⟨.ref q1, g1, .inl ⟨rfl, vs1, SqL.of g2⟩, .ref q2, f1, .inl ⟨rfl, vs2, SqL.of f2⟩, ?_⟩
    refine h c p ρ σ I H _ n ((Pst.bind.mp k).mono (fun _ _ z => z) fun x hx v I1 H1 e1 d1 => ?_)
    obtain ⟨z, ez, hx⟩ := Pst.ofO (Pst.bind.mp hx)
    obtain ⟨kk, ek, hx⟩ := Pst.ofO (Pst.bind.mp hx)
    obtain ⟨d, ed, hx⟩ := Pst.ofO (Pst.bind.mp hx)
    obtain ⟨⟨hne, hz1, hz2, hz3⟩, hx⟩ := Pst.ite' hx
    have n1 := n.step e1
    rw [toI_some ez] at d1
    unfold DV at d1
    have hq1 := e1.keep.at_ q1 _ (fun a cc z => (n.apart g4 a cc z).1) (fun _ z => by cases z) g2
    have hq2 := e1.keep.at_ q2 _ (fun a cc z => (n.apart f4 a cc z).1) (fun _ z => by cases z) f2
    have f5' := DVs.mono e1.grow f5
    obtain ⟨w, hw, dw⟩ := f5'.get ed
    refine ⟨q2, vs2, z, kk, w, rfl, by rw [d1], hq2, hz1, hz2, ?_, hw, ?_⟩
    · rw [f5.length]; exact (L2.ixN_seq ek).1
    have qne : q1 ≠ q2 := fun e => hne (n.dist i j _ _ q1 hi hj rfl rfl g1 (by rw [f1, e]))
    have n2 := n1.mut (o := .lst (vs2.eraseIdx kk)) (s' := .own (ls.eraseIdx kk)) hj rfl f1 ⟨q2, _, rfl, upd_same, e1.new q2 _ f2 f3, f4, f5'.erase kk⟩
    refine ⟨q1, vs1, w, rfl, rfl, by rw [upd_ne qne]; exact hq1, by rw [g5.length]; exact hz3, ?_⟩
    have hi2 : (ρ.set j (.own (ls.eraseIdx kk)))[i]? = some (.own fs) := by rw [List.getElem?_set_ne (Ne.symm hne)]; exact hi
    exact (show ∀ σ' I' H', Now G c x.2 ((ρ.set j (.own (ls.eraseIdx kk))).set i (.own (fs ++ [d]))) σ' I' H' → Sub I I' → E.nx σ' H' from hx) σ I1 _ (n2.mut hi2 rfl g1 ⟨q1, _, rfl, upd_same, e1.new q1 _ g2 g3, g4, DVs.append (DVs.mono e1.grow g5) (DVs.one.mpr ⟨w, rfl, dw⟩)⟩) e1.grow
  · exact False.elim k
theorem ms_appPop (i j : Nat) {y : Str} {px py pa pc pa2 pc2 : Pos} (h : ME X G W e te m) (hN : X.N[i]? = some x := by rfl) (hNy : X.N[j]? = some y := by rfl) (hv : Vis X.env.scope x := by first | exact Or.inl rfl | exact Or.inr (Or.inl rfl) | exact Or.inr (Or.inr rfl)) (hvy : Vis X.env.scope y := by first | exact Or.inl rfl | exact Or.inr (Or.inl rfl) | exact Or.inr (Or.inr rfl)) (hk : X.K = G.K := by rfl)
    (hd : (x == ("__debug__" : Str)) = false := by decide) (hcd : (x == ("__classdict__" : Str)) = false := by decide) (hdy : (y == ("__debug__" : Str)) = false := by decide) (hcdy : (y == ("__classdict__" : Str)) = false := by decide) (he : starEach (e :: []) X.env = (false, eval e X.env) :: starEach [] X.env := by rfl)
    (he2 : starEach (.Call (.Attribute (.Name y py) "pop" pa2) [e] [] pc2 :: []) X.env = (false, eval (.Call (.Attribute (.Name y py) "pop" pa2) [e] [] pc2) X.env) :: starEach [] X.env := by rfl)
    (hs : swapsWith (.Call (.Attribute (.Name x px) "append" pa) [.Call (.Attribute (.Name y py) "pop" pa2) [e] [] pc2] [] pc) none pos.line X.env = pure false := by rfl)
    (hbase : attributeBase (.Name x px) "append" X.env (eval (.Name x px) X.env) = eval (.Name x px) X.env := by rfl) (hbasey : attributeBase (.Name y py) "pop" X.env (eval (.Name y py) X.env) = eval (.Name y py) X.env := by rfl)
    (hfew : ((backTo pc (starEach (.Call (.Attribute (.Name y py) "pop" pa2) [e] [] pc2 :: []) X.env)).all (fun x => !x.1) && (backToKw pc (keywordEach [] X.env)).all (fun x => x.1.isSome)
      && decide ((Expr.Call (.Attribute (.Name y py) "pop" pa2) [e] [] pc2 :: ([] : List Expr)).length + ([] : List Keyword).length + (if ([] : List Keyword).isEmpty then 0 else 1) < 30)) = true := by rfl)
    (hfew2 : ((backTo pc2 (starEach (e :: []) X.env)).all (fun x => !x.1) && (backToKw pc2 (keywordEach [] X.env)).all (fun x => x.1.isSome)
      && decide ((e :: ([] : List Expr)).length + ([] : List Keyword).length + (if ([] : List Keyword).isEmpty then 0 else 1) < 30)) = true := by rfl)
    (hline : (pa.endLine == pc.line) = true := by rfl) (hline2 : (pa2.endLine == pc2.line) = true := by rfl) (hplain : (backTo pc (starEach [] X.env)).any (·.1) = false := by rfl) (hplain2 : (backTo pc2 (starEach [] X.env)).any (·.1) = false := by rfl) :
    MS X G W (.Expr (.Call (.Attribute (.Name x px) "append" pa) [.Call (.Attribute (.Name y py) "pop" pa2) [e] [] pc2] [] pc) pos) (tDrop (tBM X.K "list" rAppend (tVar i) (tCons (tBM X.K "list" rPopAt (tVar j) (tCons te tNil)) tNil))) (kAppPop i j m) :=
  ⟨ps_expr (pe_bm PySem.F.plainAttrs_list PySem.F.slot_list_append PySem.F.type_list_append mt_append (pe_var hN hv hd hcd)
    (pa_cons (pe_bm PySem.F.plainAttrs_list PySem.F.slot_list_pop PySem.F.type_list_pop mt_popAt (pe_var hNy hvy hdy hcdy) (pa_cons h.pe pa_nil he) hbasey hfew2 hline2 he hplain2) pa_nil he2) hbase hfew hline he2 hplain) hs, by rw [hk]; exact es_appPop h.ev⟩
end
end Dn
end
section
set_option Elab.async false
set_option linter.all false
set_option maxRecDepth 100000
set_option maxHeartbeats 400000
namespace Dn
open PySem PySem.Spec L2

/-! ### the errors' __init__ -/
def tOs (K : PySem.W.Frag) : List (Str × Nat) → TS
  | [] => tNext
  | [x] => tOst K x.1 (tVar 0) (tVar x.2)
  | x :: y :: r => tSeq (tOst K x.1 (tVar 0) (tVar x.2)) (tOs K (y :: r))
/-- what an error's __init__ promises: the fields' names in the parameters' order -/
def spI (K : PySem.W.Frag) (C : Addr) (fl : List Str) : Sp := fun vs H Q E => ∃ a ws, vs = .ref a :: ws ∧ ws.length = fl.length ∧ H a = some (exo a C none) ∧
  ∀ d H', H d = none → d ≠ a → H' a = some (exo a C (some d)) → H' d = some (exd d (fl.zip ws).reverse) → (∀ b, b ≠ a → b ≠ d → H' b = H b) → Q .non H'
section
variable {K : PySem.W.Frag} {C : Addr}
theorem os_more (T : OexC K C) {a d : Addr} (hda : d ≠ a) {D : Ends} {σ : L2.St} (h0 : σ[0]? = some (some (.ref a))) : ∀ (l : List (Str × Nat)) (ws : List V) (fs : List (Str × V)) (H : Hp), l ≠ [] → l.length = ws.length → (∀ (i : Nat) (p : Str × Nat), l[i]? = some p → σ[p.2]? = some ws[i]?) →
    (∀ p ∈ l, PySem.W.findIn K (.ref C) p.1 = some none) → fs.length + l.length ≤ 900 → H a = some (exo a C (some d)) → H d = some (exd d fs) →
    (∀ H', H' a = some (exo a C (some d)) → H' d = some (exd d (((l.map (·.1)).zip ws).reverse ++ fs)) → (∀ b, b ≠ d → H' b = H b) → D.nx σ H') → tOs K l D σ H
  | [], _, _, _, h, _, _, _, _, _, _, _ => absurd rfl h
  | [x], [w], fs, H, _, _, hs, hno, hz, ha, hd, k => by
    have h1 : σ[x.2]? = some (some w) := by simpa using hs 0 x rfl
    refine ⟨w, h1, .ref a, h0, a, C, rfl, T, hno x (by simp), .inr ⟨d, fs, ha, hd, by simp at hz; omega, ?_⟩⟩
    exact k _ (by rw [upd_ne hda.symm]; exact ha) (by rw [upd_same]; rfl) fun b hb => upd_ne hb
  | x :: y :: r, w :: ws, fs, H, _, hl, hs, hno, hz, ha, hd, k => by
    have h1 : σ[x.2]? = some (some w) := by simpa using hs 0 x rfl
    refine ⟨w, h1, .ref a, h0, a, C, rfl, T, hno x (by simp), .inr ⟨d, fs, ha, hd, by simp at hz; omega, ?_⟩⟩
    refine os_more T hda (D := D) h0 (y :: r) ws ((x.1, w) :: fs) _ (by simp) (by simpa using hl) (fun i p hp => by simpa using hs (i + 1) p hp) (fun p hp => hno p (List.mem_cons_of_mem _ hp)) (by simp at hz ⊢; omega) (by rw [upd_ne hda.symm]; exact ha) upd_same fun H' g1 g2 g3 => ?_
    refine k H' g1 ?_ fun b hb => by rw [g3 b hb, upd_ne hb]
    rw [g2]
    simp
  | [_], [], _, _, _, hl, _, _, _, _, _, _ => by cases hl
  | [_], _ :: _ :: _, _, _, _, hl, _, _, _, _, _, _ => by cases hl
  | _ :: _ :: _, [], _, _, _, hl, _, _, _, _, _, _ => by cases hl
theorem os_all (T : OexC K C) {a : Addr} {D : Ends} {σ : L2.St} (h0 : σ[0]? = some (some (.ref a))) (l : List (Str × Nat)) (ws : List V) (H : Hp) (hl : l ≠ []) (hw : l.length = ws.length) (hs : ∀ (i : Nat) (p : Str × Nat), l[i]? = some p → σ[p.2]? = some ws[i]?)
    (hno : ∀ p ∈ l, PySem.W.findIn K (.ref C) p.1 = some none) (hz : l.length ≤ 800) (ha : H a = some (exo a C none))
    (k : ∀ d H', H d = none → d ≠ a → H' a = some (exo a C (some d)) → H' d = some (exd d ((l.map (·.1)).zip ws).reverse) → (∀ b, b ≠ a → b ≠ d → H' b = H b) → D.nx σ H') : tOs K l D σ H := by
  match l, ws, hw with
  | x :: r, w :: ws, hw =>
    have h1 : σ[x.2]? = some (some w) := by simpa using hs 0 x rfl
    have one : ∀ d, H d = none → d ≠ a → (upd (upd H d (exd d [(x.1, w)])) a (exo a C (some d))) a = some (exo a C (some d)) ∧ (upd (upd H d (exd d [(x.1, w)])) a (exo a C (some d))) d = some (exd d [(x.1, w)]) ∧ ∀ b, b ≠ a → b ≠ d → (upd (upd H d (exd d [(x.1, w)])) a (exo a C (some d))) b = H b :=
      fun d hd hda => ⟨upd_same, by rw [upd_ne hda, upd_same], fun b h1 h2 => by rw [upd_ne h1, upd_ne h2]⟩
    match r, ws, hw with
    | [], [], _ =>
      refine ⟨w, h1, .ref a, h0, a, C, rfl, T, hno x (by simp), .inl ⟨ha, fun d hd hda => ?_⟩⟩
      obtain ⟨g1, g2, g3⟩ := one d hd hda
      exact k d _ hd hda g1 g2 g3
    | y :: r, w2 :: ws, hw =>
      refine ⟨w, h1, .ref a, h0, a, C, rfl, T, hno x (by simp), .inl ⟨ha, fun d hd hda => ?_⟩⟩
      obtain ⟨g1, g2, g3⟩ := one d hd hda
      refine os_more T hda (D := D) h0 (y :: r) (w2 :: ws) [(x.1, w)] _ (by simp) (by simpa using hw) (fun i p hp => by simpa using hs (i + 1) p hp) (fun p hp => hno p (List.mem_cons_of_mem _ hp)) (by simp at hz ⊢; omega) g1 g2 fun H' e1 e2 e3 => ?_
      refine k d H' hd hda e1 ?_ fun b hb1 hb2 => by rw [e3 b hb2, g3 b hb1 hb2]
      rw [e2]
      simp
/-- the slots of an __init__: self, then the fields -/
def flI (fl : List Str) : List (Str × Nat) := fl.zipIdx 1
theorem run_init {fl : List Str} (T : OexC K C) (hne : fl ≠ []) (hno : ∀ f ∈ fl, PySem.W.findIn K (.ref C) f = some none) (hz : fl.length ≤ 800) {vs : List V} {H : Hp} {Q : VK} {E : XK} (h : spI K C fl vs H Q E) : tOs K (flI fl) { nx := fun _ H' => Q .non H', rt := Q } (L2.start ("self" :: fl) vs) H := by
  obtain ⟨a, ws, rfl, hl, ha, k⟩ := h
  have em : (flI fl).map (·.1) = fl := by unfold flI; simp
  have el : (flI fl).length = fl.length := by unfold flI; simp
  have es : L2.start ("self" :: fl) (.ref a :: ws) = (V.ref a :: ws).map some := by
    unfold L2.start
    rw [List.length_cons, List.length_cons, hl]
    simp
  refine os_all T (by rw [es]; rfl) (flI fl) ws H (fun z => hne (by rw [← em, z]; rfl)) (by rw [el, hl]) (fun i p hp => ?_) (fun p hp => hno p.1 (by rw [← em]; exact List.mem_map.mpr ⟨p, hp, rfl⟩)) (by rw [el]; exact hz) ha fun d H' h1 h2 h3 h4 h5 => ?_
  · unfold flI at hp
    rw [List.getElem?_zipIdx] at hp
    obtain ⟨f, hf, e⟩ := Option.map_eq_some_iff.mp hp
    subst e
    rw [es]
    have hi : i < fl.length := (List.getElem?_eq_some_iff.mp hf).1
    have hi2 : i < ws.length := by omega
    show ((V.ref a :: ws).map some)[1 + i]? = _
    rw [Nat.add_comm, List.map_cons, List.getElem?_cons_succ, List.getElem?_map, List.getElem?_eq_getElem hi2]
    rfl
  · rw [em] at h4
    exact k d H' h1 h2 h3 h4 h5
end

/-! ### raise C(e, ..) -/
/-- x the class's number, ds the arguments; the fields lie behind in the other order -/
def kRaise (x : Nat) (ml : KL) : KS := fun ρ p => do
  let a ← ml ρ p
  if a.1.length ≤ 800 then .error (.exn x a.1.reverse) else .error .stuck
theorem DVs.rev {G : Gm} {I : Hp} : ∀ {ds : List D} {vs : List V}, DVs G I ds vs → DVs G I ds.reverse vs.reverse
  | [], vs, h => by
    have := DVs.nil.mp h
    subst this
    exact h
  | d :: ds, vs, h => by
    unfold DVs at h
    obtain ⟨v, r, rfl, hv, hr⟩ := h
    rw [List.reverse_cons, List.reverse_cons]
    exact DVs.append (DVs.rev hr) (DVs.one.mpr ⟨v, rfl, hv⟩)
theorem zip_rev {α β : Type} : ∀ (l : List α) (r : List β), l.length = r.length → (l.zip r).reverse = l.reverse.zip r.reverse
  | [], [], _ => rfl
  | a :: l, b :: r, h => by
    have h' := Nat.succ.inj h
    rw [List.zip_cons_cons, List.reverse_cons, zip_rev l r h', List.reverse_cons, List.reverse_cons, List.zip_append (by simp [h'])]
    rfl
section
variable {X : Cx} {G : Gm} {W : XK} {e : Expr} {es : List Expr} {te : TE} {tr : TA} {m : KE} {ml : KL} {pos p rpos : Pos} {x : Str} {fl : List Str}
theorem es_raise {n : Nat} (hF : G.F n = fl.reverse) (hn : ∀ (ρ : List Sl) (p : Pen) (a : List D × Pen), ml ρ p = .ok a → a.1.length = fl.length) (h : EvA G W ml tr) : EvS G W (kRaise n ml) (fun _ σ H => tMkO (G.C n) (spI G.K (G.C n) fl) [] tr σ H fun cls d H' => W cls d H') := .of fun c p ρ σ I H E nn k => by
  refine h c p ρ σ I H _ nn ((Pst.bind.mp k).imp fun y ey hy vs I1 H1 e1 d1 => ?_)
  have hlen := hn ρ p y ey
  have lv := d1.length
  have n1 := nn.step e1
  by_cases hz : y.1.length ≤ 800
  · rw [if_pos hz] at hy
    refine ⟨by omega, fun a ha => ⟨a, vs, by rw [List.append_nil], by omega, upd_same, fun d H' hd hda h1 h2 h3 => ⟨rfl, d, (fl.zip vs).reverse, h1, h2, ?_, ?_⟩⟩⟩
    · rw [upd_ne hda] at hd
      exact hd
    · have hd1 : H1 d = none := by rw [upd_ne hda] at hd; exact hd
      have hy : Thr G c W n y.1.reverse := hy
      have ek : ∀ b o, H1 b = some o → (upd (del H' a) d (.xd (fl.zip vs).reverse)) b = some o := fun b o hb => by
        have hba : b ≠ a := fun z => by rw [z, ha] at hb; cases hb
        have hbd : b ≠ d := fun z => by rw [z, hd1] at hb; cases hb
        rw [upd_ne hbd, del_ne hba, h3 b hba hbd, upd_ne hba]
        exact hb
      have eo : ∀ b ps, (upd (del H' a) d (.xd (fl.zip vs).reverse)) b = some (.tbl ps) → ∃ ps', H1 b = some (.tbl ps') := fun b ps hb => by
        obtain ⟨ps1, hb⟩ := old_upd (fun _ z => by cases z) b ps hb
        have hba : b ≠ a := fun z => by rw [z] at hb; simp [del] at hb
        by_cases hbd : b = d
        · rw [hbd, del_ne (fun z => hba (hbd.trans z)), h2] at hb
          exact absurd (Option.some.inj hb) (by intro z; unfold exd at z; cases z)
        · rw [del_ne hba, h3 b hba hbd, upd_ne hba] at hb
          exact ⟨ps1, hb⟩
      have e2 : ExtN I1 H1 I1 (upd (del H' a) d (.xd (fl.zip vs).reverse)) := fun p => ⟨Keep.of ek eo, Sub.refl, fun b o hb => ek b o (n1.sub b o hb), fun _ _ _ q => q, PenOk.none⟩
      refine hy y.2 I1 _ d vs.reverse (n1.ext.trans (e2.to n1.pen)) ?_ ?_ (DVs.rev d1)
      · rw [upd_same, hF]
        have : (fl.zip vs).reverse = fl.reverse.zip vs.reverse := zip_rev _ _ (by omega)
        rw [this]
      · rw [hF, List.length_reverse, List.length_reverse]
        omega
  · rw [if_neg hz] at hy
    exact False.elim hy
theorem ms_raise (n : Nat) {fI : Addr} {k : Nat} {fd : FuncData} {ps : List Str} (T : OexC X.K (G.C n)) (iC : PySem.W.findIn X.K (.ref (G.C n)) "__init__" = some (some (.ref fI))) (tI : PySem.W.typeIn X.K (.ref fI) = some (.type "function"))
    (F1 : FnOk X.prog X.w X.K X.mg X.base (L2.CX X.prog X.w) k fI fd ps (spI X.K (G.C n) fl)) (hr : Room (k + 1) X.A) (hb : Binds X.K fd ps []) (hm : X.mg x = some (.ref (G.C n))) (hF : G.F n = fl.reverse) (ha : MA X G W (e :: es) tr ml)
    (hn : ∀ (ρ : List Sl) (p : Pen) (a : List D × Pen), ml ρ p = .ok a → a.1.length = fl.length) (tk : Takes X (fun cls d _ H => W cls d H)) (hk : X.K = G.K := by rfl) (hc : X.calm = true := by rfl) (hg : Gl X x := by rfl)
    (hdb : (x == ("__debug__" : Str)) = false := by decide) (he : starEach (e :: es) X.env = (false, eval e X.env) :: starEach es X.env := by rfl) (hpl : (backTo pos (starEach es X.env)).any (·.1) = false := by rfl) :
    MS X G W (.Raise (some (.Call (.Name x p) (e :: es) [] pos)) none rpos) (fun _ σ H => tMkO (G.C n) (spI G.K (G.C n) fl) [] tr σ H fun cls d H' => W cls d H') (kRaise n ml) :=
  ⟨ps_raise hc tk (by rw [← hk]; exact pmk_oex T iC tI F1 hr hb .nil (L2.passes_call takes0 (fun _ _ _ _ h => h.elim)) hg hm ha.pa hdb he hpl), es_raise hF hn ha.ev⟩
theorem kNil_len : ∀ (ρ : List Sl) (p : Pen) (a : List D × Pen), kNil ρ p = .ok a → a.1.length = 0 := fun ρ p a h => by cases h; rfl
theorem kCons_len {ma : KE} {ml : KL} {k : Nat} (hl : ∀ ρ p a, ml ρ p = .ok a → a.1.length = k) : ∀ ρ p a, kCons ma ml ρ p = .ok a → a.1.length = k + 1 := fun ρ p a h => by
  unfold kCons at h
  cases e1 : ma ρ p with
  | error x => rw [e1] at h; cases h
  | ok y =>
    rw [e1] at h
    have h : (ml ρ y.2 >>= fun b => pure (y.1 :: b.1, b.2)) = Except.ok a := h
    cases e2 : ml ρ y.2 with
    | error x => rw [e2] at h; cases h
    | ok z =>
      rw [e2] at h
      cases h
      exact congrArg (· + 1) (hl ρ y.2 z e2)
/-- an error's __init__ keeps its promise -/
theorem fn_init {P : Program} {w : World} {K : PySem.W.Frag} {mg : Str → Option Value} {base : Heap} {f : Addr} {fd : FuncData} {nm qual : Str} {params : Arguments} {body : List Stmt} {scope : Scope} {fl : List Str} {C : Addr} (F : FunD K nm qual params body scope [] [] f fd)
    (S : FnScope ("self" :: fl) ("self" :: fl) scope) (T : OexC K C) (hne : fl ≠ []) (hno : ∀ f ∈ fl, PySem.W.findIn K (.ref C) f = some none) (hz : fl.length ≤ 800) (hb : BdyE P w K mg base 0 f qual scope ("self" :: fl) fun X E => PSs X body (tOs K (flI fl))) :
    FnOk P w K mg base (L2.CX P w) 1 f fd ("self" :: fl) (spI K C fl) := by
  refine F.ok S (fun vs H Q E h => ?_) fun cdv A outer s H vs Q E hr h => ⟨_, hb cdv A outer s H E hr, run_init T hne hno hz h⟩
  obtain ⟨a, ws, rfl, hl, _⟩ := h
  rw [List.length_cons, List.length_cons, hl]
end
end Dn
end
section
set_option Elab.async false
set_option linter.all false
set_option maxRecDepth 100000
set_option maxHeartbeats 400000
namespace Dn
open PySem PySem.Spec L2

/-! ### a tuple whose object is known to have no dict -/
section
variable {X : Cx}
def rTupC (K : PySem.W.Frag) : List V → Hp → VK → Prop := fun xs H Q => ∃ p ys, xs = [.ref p] ∧ SqL K H p ys ∧ ∀ l ob, H l = none → ob.cls = .type "tuple" → ob.dict = none → Q (.ref l) (upd H l (.frz ob (.tup ys)))
theorem call_tupC : CallR X (.type "tuple") (rTupC X.K) := by
  intro pins s σ H xs us Q I rv hyp
  obtain ⟨p, ys, rfl, hq, fin⟩ := hyp
  obtain ⟨u, rfl, ru⟩ := rv.one
  cases ru
  obtain ⟨its, r', pl, hz⟩ := I.list hq
  have hlen := r'.length
  have hsz := sizeLine_eq
  refine call_tuple_list pl.isList (fun h' kp => ?_) (by simp only [List.size_toArray] <;> omega)
  have J1 : Inv X pins σ H { s with heap := h' } := I.kept (t' := s.toks) kp
  have hnew : H h'.objs.size = none := J1.hok.fresh (Nat.le_refl _)
  let ob : Obj := { cls := .type "tuple", data := .seq its.toArray }
  have at_ : (h'.push ob).get? h'.objs.size = some ob := Heap.get?_push_size _ rfl
  have new : ObjOk X.prog X.w (upd H h'.objs.size (.frz ob (.tup ys))) (h'.push ob) h'.objs.size (.frz ob (.tup ys)) := ⟨at_, hz, its, r', ⟨ob, at_, rfl, _, rfl⟩⟩
  have J2 : Inv X pins σ (upd H h'.objs.size (.frz ob (.tup ys))) { s with heap := h'.push ob } := J1.laid (t' := s.toks) (fun b o e => Heap.get?_push_of_some _ e) (Nat.le_refl _) new
  exact ⟨.ref h'.objs.size, _, J2, rfl, fin _ ob hnew rfl rfl⟩
/-- t.index(x), t such a tuple -/
def rIdxC (K : PySem.W.Frag) : V → List V → Hp → VK → Prop := fun x xs H Q => ∃ (a : Addr) (ob : Obj) (ws : List V) (y : V) (d : PyData) (ds : List PyData) (j : Nat) (z : PyData), x = V.ref a ∧ xs = [y] ∧ H a = some (.frz ob (.tup ws)) ∧ DpAll K H ws ds ∧ Dp K H y d ∧
  SeqAt.shaped (.list ds) = true ∧ SeqAt.shaped d = true ∧ ds[j]? = some z ∧ PyData.eqv z d = true ∧ (∀ (m : Nat) (z' : PyData), m < j → ds[m]? = some z' → PyData.eqv z' d = false) ∧ Q (.int (j : Nat)) H
theorem mt_idxC (hu : X.A.units + 65 < cLine) : MtR X "tuple.index" (rIdxC X.K) := by
  intro pins s σ H x xs v us Q I rx rxs hyp
  obtain ⟨a, ob, ws, y, d, ds, j, z, rfl, rfl, ha, hds, hy, sl, sd, hz, hzj, hno, q⟩ := hyp
  cases rx
  cases rxs with
  | cons ry rt =>
    rename_i uy ut
    cases rt
    obtain ⟨bs, r1⟩ := Dp.reads I d y uy hy ry
    have lay : PyData.canLayAll0 ds = true := SeqAt.canLay_of_shaped sl
    have room : X.A.units + 1 + min (PyData.depthAll ds) d.depth < cLine := PyProof.Rows.room_in_shaped sd hu
    have hS : SqT X.K H a ws := .inl (.inr ⟨ob, ha⟩)
    obtain ⟨its, rv, ⟨⟨c0, d0, dat, sls⟩, ho, hc, n, hdt⟩, hlen⟩ := I.tuple hS
    simp only at hc hdt
    subst hc hdt
    obtain ⟨as, h4⟩ := Dp.readsAll I ds _ its hds rv
    have hmap : its.map (SeqAt.readOf s.heap) = ds := SeqAt.readsAll_map ds its as lay h4
    have hn : its.length = ds.length := by rw [← hmap, List.length_map]
    obtain ⟨hjd, _⟩ := List.getElem?_eq_some_iff.mp hz
    have hj : j < its.toArray.size := by rw [List.size_toArray]; omega
    have at_ : ∀ (m : Nat) (hm : m < its.toArray.size) (z' : PyData), ds[m]? = some z' → SeqAt.readOf s.heap its.toArray[m] = z' := fun m hm z' e => by
      have hml : m < its.length := by rw [List.size_toArray] at hm; exact hm
      rw [← hmap, List.getElem?_map, List.getElem?_eq_getElem hml] at e
      have e1 : SeqAt.readOf s.heap its[m] = z' := Option.some.inj e
      rw [← e1]
      simp
    refine call_meets PySem.F.slot_tuple_index ⟨_, ho, rfl⟩ PySem.F.entry_tuple_index (PySem.F.args_tuple_index_2 _ _)
      (TI.tuple_indexAt a its.toArray n d0 sls uy (fun u => PyData.eqv (SeqAt.readOf s.heap u) d) j hj ?_ ?_) ⟨ho, SeqAt.items_eqAt (vs := its.toArray) (show ReadsAll s.heap its.toArray.toList ds as from h4) r1 lay (SeqAt.canLay_of_shaped sd) room, .int (j : Nat), H, I.tok _, ⟨_, rfl⟩, q⟩
    · show PyData.eqv (SeqAt.readOf s.heap its.toArray[j]) d = true
      rw [at_ j hj z hz]
      exact hzj
    · intro m hm hmj
      have hmd : m < ds.length := by rw [List.size_toArray] at hm; omega
      have e' : ds[m]? = some ds[m] := List.getElem?_eq_getElem hmd
      show PyData.eqv (SeqAt.readOf s.heap its.toArray[m]) d = false
      rw [at_ m hm _ e']
      exact hno m _ hmj e'
def tTm (r : V → List V → Hp → VK → Prop) (to : TE) (t : TA) : TE := fun σ H Q => to σ H fun x H1 => (∃ q ob vs, x = .ref q ∧ H1 q = some (.frz ob (.tup vs)) ∧ ob.cls = .type "tuple" ∧ ob.dict = none) ∧ t σ H1 fun xs H2 => r x xs H2 Q
variable {o e : Expr} {es : List Expr} {to : TE} {t : TA} {name : Str} {apos cpos : Pos} {id : String} {r : V → List V → Hp → VK → Prop}
theorem pe_tm (slot : Slot "tuple" name id) (hty : typeOf (.builtin id) = pure (.type "method_descriptor")) (hm : MtR X id r) (ho : PE X o to) (ha : PA X (e :: es) t)
    (hbase : attributeBase o name X.env (eval o X.env) = eval o X.env := by rfl)
    (hfew : ((backTo cpos (starEach (e :: es) X.env)).all (fun x => !x.1) && (backToKw cpos (keywordEach [] X.env)).all (fun x => x.1.isSome)
      && decide ((e :: es).length + ([] : List Keyword).length + (if ([] : List Keyword).isEmpty then 0 else 1) < 30)) = true := by rfl)
    (hline : (apos.endLine == cpos.line) = true := by rfl) (hs : starEach (e :: es) X.env = (false, eval e X.env) :: starEach es X.env := by rfl) (hplain : (backTo cpos (starEach es X.env)).any (·.1) = false := by rfl) :
    PE X (.Call (.Attribute o name apos) (e :: es) [] cpos) (tTm r to t) := by
  refine ⟨fun pins s σ H Q I hyp => ?_⟩
  refine wpAny_Call_method_late hbase hfew hline rfl (thn (ho.run pins s σ H _ I hyp) fun v s1 ⟨x, H1, I1, r1, ⟨q, ob, vs, ex, hq, hc, hd⟩, q1⟩ => ?_)
  subst ex
  obtain rfl : v = Value.ref q := r1
  obtain ⟨hob, _⟩ := I1.hok q _ hq
  refine ⟨"tuple", id, PySem.F.plainAttrs_tuple, slot, hty, ⟨ob, hob, hc⟩, fun a ea => ?_, ?_⟩
  · cases ea
    exact ⟨ob, hob, hd⟩
  have hA := ha.run cpos pins s1 σ H1 _ I1 q1
  rw [hs] at hA ⊢
  refine Calls.callWith_builtin (by show (false || (backTo cpos (starEach es X.env)).any (·.1)) = false; rw [hplain] <;> rfl) (Calls.evalArgs_plain ?_)
  exact thn hA fun us s2 ⟨xs, H2, I2, r2, q2⟩ => hm pins s2 σ H2 (.ref q) xs _ us Q I2 rfl r2 q2
end
section
variable {X : Cx} {G : Gm} {W : XK} {e o : Expr} {es : List Expr} {te to ty tx : TE} {tr : TA} {m mo mi mv : KE} {ml : KL} {pos apos cpos p : Pos} {x : Str}
/-- tuple(list) for a name -/
def kXC (m : KL) : KX := fun ρ p => do
  let a ← m ρ p
  pure (.cln (.tup a.1), a.2)
theorem mx_cln (h : ML X G W e te ml) (hm : X.mg "tuple" = none := by rfl) (hk : X.K = G.K := by rfl) (hg : Gl X "tuple" := by rfl) (he : starEach (e :: []) X.env = (false, eval e X.env) :: starEach [] X.env := by rfl) :
    MX X G W (.Call (.Name "tuple" p) [e] [] pos) (tCB (rTupC X.K) (tCons te tNil)) (kXC ml) :=
  ⟨pe_callTy call_tupC hg hm PyProof.Rows.boot_tuple (pa_cons h.pe pa_nil he) (by decide) (by decide) he rfl, fun c p ρ σ I H Q n k => by
    refine h.ev c p ρ σ I H _ n ((Pst.bind.mp k).mono (fun _ _ z => z) fun y hy q vs I1 H1 e1 hq dvs => ⟨q, vs, rfl, SqL.of hq, fun l ob hl hc hd => ?_⟩)
    have n1 := n.step e1
    have e2 := e1.trans ((ExtN.lay (o := .frz ob (.tup vs)) n1.sub hl).to n1.pen)
    refine (show ∀ v I' H', Ext c.P I H y.2 I' H' → NewR G I' H H' (Sl.cln (.tup y.1)) v → Q v H' from hy) (.ref l) (upd I1 l (.frz ob (.tup vs))) _ e2 ⟨?_, l, ob, vs, _, rfl, rfl, upd_same, hc, hd, DVs.mono (Sub.new (sub_none n1.sub hl)) dvs⟩
    unfold DV
    exact ⟨l, vs, rfl, .inl (.inr ⟨ob, upd_same⟩), DVs.mono (Sub.new (sub_none n1.sub hl)) dvs⟩⟩
/-- x.index(e), x such a name -/
def kCix (i : Nat) (m : KE) : KE := fun ρ p => match ρ[i]? with
  | some (.cln (.tup ds)) => do
    let a ← m ρ p
    if fit a.1 = true ∧ fit (.lst ds) = true then do
      let j ← ofO (ds.findIdx? (eqN a.1))
      pure (.int (j : Nat), a.2)
    else .error .stuck
  | _ => .error .stuck
theorem ev_cix {i : Nat} (h : EvE G W m te) : EvE G W (kCix i m) (tTm (rIdxC G.K) (tVar i) (tCons te tNil)) := fun c p ρ σ I H Q n k => by
  unfold kCix at k
  cases hs : ρ[i]? with
  | none => rw [hs] at k; exact False.elim k
  | some sl =>
    rw [hs] at k
    have r := n.rel i sl hs
    cases sl with
    | cln d =>
      cases d with
      | tup ds =>
        obtain ⟨v, h1, h2, q, ob, ws, ds', e0, rfl, h3, h4, h5, dvs⟩ := r
        cases e0
        refine ⟨.ref q, h1, ⟨q, ob, ws, rfl, n.sub _ _ h3, h4, h5⟩, ?_⟩
        have k : Pst (m ρ p >>= fun a => if fit a.1 = true ∧ fit (.lst ds) = true then (ofO (ds.findIdx? (eqN a.1)) >>= fun j => pure (D.int (j : Nat), a.2)) else .error .stuck) _ _ := k
        refine h c p ρ σ I H _ n ((Pst.bind.mp k).mono (fun _ _ z => z) fun y hy v2 I2 H2 e2 d2 => ?_)
        obtain ⟨hf, hy⟩ := Pst.ite' hy
        obtain ⟨j, hj, hy⟩ := Pst.ofO (Pst.bind.mp hy)
        have n2 := n.step e2
        obtain ⟨⟨z, hz, hp⟩, hno⟩ := find_first _ hj
        have dvs2 := DVs.mono (e2.grow.trans n2.sub) dvs
        have eq1 : (PyData.list (pds ds)) = pd (.lst ds) := by rw [pd]
        have lay : PyData.canLayAll0 (pds ds) = true := by
          have := fit_lay hf.2
          rw [← eq1] at this
          unfold PyData.canLay0 at this
          exact this
        refine ⟨q, ob, ws, v2, pd y.1, pds ds, j, pd z, rfl, rfl, n2.sub _ _ (e2.grow _ _ h3), dps_of lay dvs2, dp_in n2.sub hf.1 d2, by rw [eq1]; exact hf.2, hf.1, ?_, hp, fun m z' hm hz' => ?_, ?_⟩
        · rw [pds_map, List.getElem?_map, hz]; rfl
        · rw [pds_map, List.getElem?_map] at hz'
          cases e3 : ds[m]? with
          | none => rw [e3] at hz'; cases hz'
          | some z2 =>
            rw [e3] at hz'
            injection hz' with hz'
            rw [← hz']
            exact hno m z2 hm e3
        · exact (show ∀ v I' H', Ext c.P I H y.2 I' H' → DV G I' (.int (j : Nat)) v → Q v H' from hy) _ I2 H2 e2 (by unfold DV; rfl)
      | _ => exact False.elim k
    | _ => exact False.elim k
theorem me_cix (i : Nat) {px : Pos} (hu : X.A.units + 65 < cLine) (ha : ME X G W e te m) (hk : X.K = G.K := by rfl) (hN : X.N[i]? = some x := by rfl) (hv : Vis X.env.scope x := by first | exact Or.inl rfl | exact Or.inr (Or.inl rfl) | exact Or.inr (Or.inr rfl)) (hd : (x == ("__debug__" : Str)) = false := by decide) (hcd : (x == ("__classdict__" : Str)) = false := by decide)
    (hbase : attributeBase (.Name x px) "index" X.env (eval (.Name x px) X.env) = eval (.Name x px) X.env := by rfl)
    (hfew : ((backTo cpos (starEach [e] X.env)).all (fun x => !x.1) && (backToKw cpos (keywordEach [] X.env)).all (fun x => x.1.isSome) && decide (([e] : List Expr).length + ([] : List Keyword).length + (if ([] : List Keyword).isEmpty then 0 else 1) < 30)) = true := by rfl)
    (hline : (apos.endLine == cpos.line) = true := by rfl) (hs : starEach [e] X.env = (false, eval e X.env) :: starEach [] X.env := by rfl) (hplain : (backTo cpos (starEach [] X.env)).any (·.1) = false := by rfl) :
    ME X G W (.Call (.Attribute (.Name x px) "index" apos) [e] [] cpos) (tTm (rIdxC X.K) (tVar i) (tCons te tNil)) (kCix i m) :=
  ⟨pe_tm PySem.F.slot_tuple_index PySem.F.type_tuple_index (mt_idxC hu) (pe_var hN hv hd hcd) (pa_cons ha.pe pa_nil hs) hbase hfew hline hs hplain, by rw [hk]; exact ev_cix ha.ev⟩
end
end Dn
end
section
set_option Elab.async false
set_option linter.all false
set_option maxRecDepth 100000
set_option maxHeartbeats 400000
namespace Dn
open PySem PySem.Spec L2

/-! ### the thing that may change is written -/
theorem penA_code {cc : Addr × (Nat → Addr)} {p : Pen} {a : Addr} (r : Str) : penA cc p ≠ LamX.CodeO a r := by
  cases p with
  | pn c a d n f => exact codeO_dK
  | ob n fs => exact codeO_ins
section
variable {G : Gm} {c : Ctx} {p p' : Pen} {ρ : List Sl} {σ : L2.St} {I H : Hp}
theorem Now.penSet (n : Now G c p ρ σ I H) {a : Addr} {cc : Addr × (Nat → Addr)} (hP : c.P = some (a, cc)) (hs : p'.sca = true) (hc : penC a p' = penC a p) : Now G c p' ρ σ I (upd H a (penA cc p')) := by
  have pa := n.pen a cc hP
  obtain ⟨hi, ⟨o0, h0⟩, ⟨o1, h1⟩, hC⟩ := n.hid a cc hP
  have hne := pa.ne
  have na : ∀ b o, H b = some o → o ≠ penA cc p → b ≠ a := fun b o hb ho z => by rw [z, pa.d] at hb; exact ho (Option.some.inj hb).symm
  have oldUp : ∀ b ps, upd H a (penA cc p') b = some (.tbl ps) → ∃ ps', H b = some (.tbl ps') := old_upd penA_tbl
  have tabUp : ∀ b z, LamX.TabS H b z → LamX.TabS (upd H a (penA cc p')) b z := fun b z h => by
    obtain ⟨ps, g1, g2, g3⟩ := h
    refine ⟨ps, by rw [upd_ne (na b _ g1 (fun e => penA_tbl _ e.symm))]; exact g1, g2, fun pos cv hcv => ?_⟩
    obtain ⟨q, e1, e2⟩ := g3 pos cv hcv
    exact ⟨q, e1, by rw [upd_ne (na q _ e2 (fun e => penA_code _ e.symm))]; exact e2⟩
  have same : p'.isPn = true → p.isPn = true := fun h => by
    cases p with
    | pn => rfl
    | ob n fs => cases p' with
      | pn => exact absurd hc (by intro z; unfold penC at z; cases z)
      | ob => cases h
  have own : ∀ q, c.H0 q = none → q ≠ a := fun q h z => by rw [z, h0] at h; cases h
  refine ⟨⟨⟨fun b o hb hn h => ?_, fun b ps h => ?_, fun b h => ?_, fun b ps h => ?_⟩, n.ext.grow, fun b o h => ?_, n.ext.new, fun a' cc' z => ?_⟩, n.hid, n.len, fun i t ht => ?_, n.dist, fun h1 h2 => n.nt h1 (same h2)⟩
  · rw [upd_ne (hb a cc hP)]
    exact n.ext.keep.at_ b o hb hn h
  · obtain ⟨ps', h'⟩ := n.ext.keep.tbl b ps h
    exact ⟨ps', by rw [upd_ne (na b _ h' (fun e => penA_tbl _ e.symm))]; exact h'⟩
  · exact tabUp b _ (n.ext.keep.tab b h)
  · obtain ⟨ps1, h1⟩ := oldUp b ps h
    exact n.ext.keep.old b ps1 h1
  · rw [upd_ne (fun z => by rw [z, hi] at h; cases h)]
    exact n.ext.sub b o h
  · rw [hP] at z
    cases z
    exact ⟨upd_same, by rw [upd_ne hne, hc]; exact pa.c, hs, fun h1 h2 => ⟨tabUp _ _ (pa.t (same h1) h2).1, fun b ps h => by
      obtain ⟨ps1, h3⟩ := oldUp b ps h
      exact (pa.t (same h1) h2).2 b ps1 h3⟩⟩
  · have r := n.rel i t ht
    cases t with
    | no => trivial
    | val d => exact r
    | own ds =>
      obtain ⟨q, vs, g1, g2, g3, g4, g5⟩ := r
      exact ⟨q, vs, g1, by rw [upd_ne (own q g4)]; exact g2, g3, g4, g5⟩
    | ownd ks ds =>
      obtain ⟨q, vs, g1, g2, gl, g3, g4, g5⟩ := r
      exact ⟨q, vs, g1, by rw [upd_ne (own q g4)]; exact g2, gl, g3, g4, g5⟩
    | pen => exact r
    | cln d => exact r
/-- .. as a step -/
theorem Now.penExt (n : Now G c p ρ σ I H) {a : Addr} {cc : Addr × (Nat → Addr)} (hP : c.P = some (a, cc)) (hs : p'.sca = true) (hc : penC a p' = penC a p) : Ext c.P I H p' I (upd H a (penA cc p')) := by
  have pa := n.pen a cc hP
  obtain ⟨hi, _⟩ := n.hid a cc hP
  have na : ∀ b o, H b = some o → o ≠ penA cc p → b ≠ a := fun b o hb ho z => by rw [z, pa.d] at hb; exact ho (Option.some.inj hb).symm
  have oldUp : ∀ b ps, upd H a (penA cc p') b = some (.tbl ps) → ∃ ps', H b = some (.tbl ps') := old_upd penA_tbl
  have tabUp : ∀ b z, LamX.TabS H b z → LamX.TabS (upd H a (penA cc p')) b z := fun b z h => by
    obtain ⟨ps, g1, g2, g3⟩ := h
    refine ⟨ps, by rw [upd_ne (na b _ g1 (fun e => penA_tbl _ e.symm))]; exact g1, g2, fun pos cv hcv => ?_⟩
    obtain ⟨q, e1, e2⟩ := g3 pos cv hcv
    exact ⟨q, e1, by rw [upd_ne (na q _ e2 (fun e => penA_code _ e.symm))]; exact e2⟩
  have same : p'.isPn = true → p.isPn = true := fun h => by
    cases p with
    | pn => rfl
    | ob n fs => cases p' with
      | pn => exact absurd hc (by intro z; unfold penC at z; cases z)
      | ob => cases h
  refine ⟨⟨fun b o hb hn h => ?_, fun b ps h => ⟨ps, ?_⟩, fun b h => ?_, oldUp⟩, Sub.refl, fun b o h => ?_, fun _ _ _ z => z, fun a' cc' z => ?_⟩
  · rw [upd_ne (hb a cc hP)]
    exact h
  · rw [upd_ne (na b _ h (fun e => penA_tbl _ e.symm))]
    exact h
  · exact tabUp b _ h
  · rw [upd_ne (fun z => by rw [z, hi] at h; cases h)]
    exact n.sub b o h
  · rw [hP] at z
    cases z
    exact ⟨upd_same, by rw [upd_ne pa.ne, hc]; exact pa.c, hs, fun h1 h2 => ⟨tabUp _ _ (pa.t (same h1) h2).1, fun b ps h => by
      obtain ⟨ps1, h3⟩ := oldUp b ps h
      exact (pa.t (same h1) h2).2 b ps1 h3⟩⟩
end

/-! ### the pen -/
def penF : Pen → Str → Option D
  | .pn _ at_ digits count fold, k => if k = "at" then some (.int at_) else if k = "digits" then some (.int digits) else if k = "count" then some (.int count) else if k = "fold" then some (.int fold) else none
  | _, _ => none
def penW : Pen → Str → D → Option Pen
  | .pn cs at_ digits count fold, k, .int i => if k = "at" then some (.pn cs i digits count fold) else if k = "digits" then some (.pn cs at_ i count fold) else if k = "count" then some (.pn cs at_ digits i fold) else if k = "fold" then some (.pn cs at_ digits count i) else none
  | _, _, _ => none
theorem penF_ok {cc : Addr × (Nat → Addr)} {p : Pen} {k : Str} {d : D} (h : penF p k = some d) : ∃ kvs v, penA cc p = .dK kvs ∧ valV kvs (.inr k) = some v ∧ ∀ G I, DV G I d v := by
  cases p with
  | ob n fs => cases h
  | pn cs at_ digits count fold =>
    simp only [penF] at h
    by_cases h1 : k = "at"
    · rw [if_pos h1] at h
      cases h
      subst h1
      exact ⟨_, _, rfl, rfl, fun G I => by unfold DV; rfl⟩
    · rw [if_neg h1] at h
      by_cases h2 : k = "digits"
      · rw [if_pos h2] at h
        cases h
        subst h2
        exact ⟨_, _, rfl, rfl, fun G I => by unfold DV; rfl⟩
      · rw [if_neg h2] at h
        by_cases h3 : k = "count"
        · rw [if_pos h3] at h
          cases h
          subst h3
          exact ⟨_, _, rfl, rfl, fun G I => by unfold DV; rfl⟩
        · rw [if_neg h3] at h
          by_cases h4 : k = "fold"
          · rw [if_pos h4] at h
            cases h
            subst h4
            exact ⟨_, _, rfl, rfl, fun G I => by unfold DV; rfl⟩
          · rw [if_neg h4] at h
            cases h
theorem penW_ok {cc : Addr × (Nat → Addr)} {p p' : Pen} {k : Str} {d : D} (h : penW p k d = some p') : ∃ kvs i, penA cc p = .dK kvs ∧ d = .int i ∧ kvs.length = 5 ∧ penA cc p' = .dK (putK kvs (.inr k) (.int i)) ∧ p'.sca = true ∧ ∀ a, penC a p' = penC a p := by
  cases p with
  | ob n fs => cases h
  | pn cs at_ digits count fold =>
    cases d with
    | int i =>
      refine ⟨_, i, rfl, rfl, rfl, ?_⟩
      simp only [penW] at h
      by_cases h1 : k = "at"
      · rw [if_pos h1] at h
        cases h
        subst h1
        exact ⟨rfl, rfl, fun _ => rfl⟩
      · rw [if_neg h1] at h
        by_cases h2 : k = "digits"
        · rw [if_pos h2] at h
          cases h
          subst h2
          exact ⟨rfl, rfl, fun _ => rfl⟩
        · rw [if_neg h2] at h
          by_cases h3 : k = "count"
          · rw [if_pos h3] at h
            cases h
            subst h3
            exact ⟨rfl, rfl, fun _ => rfl⟩
          · rw [if_neg h3] at h
            by_cases h4 : k = "fold"
            · rw [if_pos h4] at h
              cases h
              subst h4
              exact ⟨rfl, rfl, fun _ => rfl⟩
            · rw [if_neg h4] at h
              cases h
    | _ => cases h
section
variable {X : Cx} {G : Gm} {W : XK} {e o value : Expr} {es : List Expr} {te to ty tv : TE} {tr : TA} {m mo mi mv : KE} {ml : KL} {pos apos cpos p pos' kp : Pos} {x : Str}
/-- x["k"], x the pen -/
def kPen (i : Nat) (k : Str) : KE := fun ρ p => match ρ[i]? with
  | some .pen => do
    let d ← ofO (penF p k)
    pure (d, p)
  | _ => .error .stuck
theorem ev_pen {i : Nat} {k : Str} : EvE G W (kPen i k) (tDGet (tVar i) (tC (.str k))) := fun c p ρ σ I H Q n kk => by
  unfold kPen at kk
  cases hs : ρ[i]? with
  | none => rw [hs] at kk; exact False.elim kk
  | some sl =>
    rw [hs] at kk
    have r := n.rel i sl hs
    cases sl with
    | pen =>
      obtain ⟨a, cc, hP, h1⟩ := r
      obtain ⟨d, ed, kk⟩ := Pst.ofO (Pst.bind.mp kk)
      obtain ⟨kvs, v, e1, e2, e3⟩ := penF_ok (cc := cc) ed
      refine ⟨.ref a, h1, a, v, rfl, ?_, (show ∀ v I' H', Ext c.P I H p I' H' → DV G I' d v → Q v H' from kk) v I H n.refl (e3 G I)⟩
      have g := DGet.k (k := .inr k) (show H a = some (.dK kvs) by rw [← e1]; exact (n.pen a cc hP).d)
      rw [e2] at g
      exact g
    | _ => exact False.elim kk
theorem me_pen (i : Nat) (k : Str) {px : Pos} {j : Nat} (hu : X.A.units + 1 < cLine) (hN : X.N[i]? = some x := by rfl) (hv : Vis X.env.scope x := by first | exact Or.inl rfl | exact Or.inr (Or.inl rfl) | exact Or.inr (Or.inr rfl)) (hd : (x == ("__debug__" : Str)) = false := by decide) (hcd : (x == ("__classdict__" : Str)) = false := by decide) :
    ME X G W (.Subscript (.Name x px) (.Constant (.str k) j kp) pos) (tDGet (tVar i) (tC (.str k))) (kPen i k) := ⟨pe_dget hu (pe_var hN hv hd hcd) pe_str (by intro _ _; rfl), ev_pen⟩
/-- x["cells"] -/
def kCells (i : Nat) : KL := fun ρ p => match ρ[i]?, p with
  | some .pen, .pn cs _ _ _ _ => .ok (cs.map D.int, p)
  | _, _ => .error .stuck
theorem dvs_ints {I : Hp} : ∀ ns : List Int, DVs G I (ns.map D.int) (ns.map V.int)
  | [] => DVs.nil.mpr rfl
  | n :: ns => by
    rw [List.map_cons, List.map_cons]
    unfold DVs
    exact ⟨_, _, rfl, by unfold DV; rfl, dvs_ints ns⟩
theorem ev_cells {i : Nat} : EvL G W (kCells i) (tDGet (tVar i) (tC (.str "cells"))) := fun c p ρ σ I H Q n kk => by
  unfold kCells at kk
  split at kk
  · rename_i cs a1 a2 a3 a4 hs
    obtain ⟨a, cc, hP, h1⟩ := n.rel i _ hs
    have pa := n.pen a cc hP
    refine ⟨.ref a, h1, a, .ref cc.1, rfl, DGet.k (k := .inr "cells") pa.d, (show ∀ q vs I' H', Ext c.P I H _ I' H' → H' q = some (.lst vs) → DVs G I' (cs.map D.int) vs → Q (.ref q) H' from kk) cc.1 _ I H n.refl pa.c (dvs_ints cs)⟩
  · exact False.elim kk
theorem ml_cells (i : Nat) {px : Pos} {j : Nat} (hu : X.A.units + 1 < cLine) (hN : X.N[i]? = some x := by rfl) (hv : Vis X.env.scope x := by first | exact Or.inl rfl | exact Or.inr (Or.inl rfl) | exact Or.inr (Or.inr rfl)) (hd : (x == ("__debug__" : Str)) = false := by decide) (hcd : (x == ("__classdict__" : Str)) = false := by decide) :
    ML X G W (.Subscript (.Name x px) (.Constant (.str "cells") j kp) pos) (tDGet (tVar i) (tC (.str "cells"))) (kCells i) := ⟨pe_dget hu (pe_var hN hv hd hcd) pe_str (by intro _ _; rfl), ev_cells⟩
/-- x["k"] = e -/
def kPenS (i : Nat) (k : Str) (m : KE) : KS := fun ρ p => do
  let a ← m ρ p
  match ρ[i]? with
  | some .pen => do
    let p' ← ofO (penW a.2 k a.1)
    pure (.nx, ρ, p')
  | _ => .error .stuck
theorem es_penS {i : Nat} {k : Str} (h : EvE G W m te) : EvS G W (kPenS i k m) (sDPut (tVar i) (tC (.str k)) te) := .of fun c p ρ σ I H E n kk => by
  refine h c p ρ σ I H _ n ((Pst.bind.mp kk).mono (fun _ _ z => z) fun y hy v I1 H1 e1 d1 => ?_)
  have n1 := n.step e1
  cases hs : ρ[i]? with
  | none => rw [hs] at hy; exact False.elim hy
  | some sl =>
    rw [hs] at hy
    have r := n1.rel i sl hs
    cases sl with
    | pen =>
      obtain ⟨a, cc, hP, h1⟩ := r
      obtain ⟨p', ep, hy⟩ := Pst.ofO (Pst.bind.mp hy)
      obtain ⟨kvs, j, g1, g2, g3, g4, g5, g6⟩ := penW_ok (cc := cc) ep
      rw [g2] at d1
      unfold DV at d1
      have hd := (n1.pen a cc hP).d
      rw [g1] at hd
      refine ⟨.ref a, h1, a, _, rfl, DPut.k (k := .inr k) hd (by rw [g3]; decide), ?_⟩
      rw [d1, ← g4]
      exact (show ∀ σ' I' H', Now G c p' ρ σ' I' H' → Sub I I' → E.nx σ' H' from hy) σ I1 _ (n1.penSet hP g5 (g6 a)) e1.grow
    | _ => exact False.elim hy
theorem ms_penS (i : Nat) (k : Str) {px : Pos} {j : Nat} (hu : X.A.units + 1 < cLine) (hv0 : ME X G W value tv mv) (hN : X.N[i]? = some x := by rfl) (hv : Vis X.env.scope x := by first | exact Or.inl rfl | exact Or.inr (Or.inl rfl) | exact Or.inr (Or.inr rfl)) (hd : (x == ("__debug__" : Str)) = false := by decide) (hcd : (x == ("__classdict__" : Str)) = false := by decide)
    (hs : swapsWith value (some (.Subscript (.Name x px) (.Constant (.str k) j kp) pos')) pos.line X.env = pure false := by rfl) :
    MS X G W (.Assign [.Subscript (.Name x px) (.Constant (.str k) j kp) pos'] value pos) (sDPut (tVar i) (tC (.str k)) tv) (kPenS i k mv) := ⟨ps_dput hu (pe_var hN hv hd hcd) pe_str hv0.pe hs, es_penS hv0.ev⟩

/-! ### a mutable instance with plain attributes -/
def obF : Pen → Str → Option D
  | .ob _ fs, k => fs.lookup k
  | _, _ => none
/-- what the class with the number n says -/
structure ObC (G : Gm) (n : Nat) (al : List Str) : Prop where
  cls : Cls G.K (G.C n)
  no : ∀ f ∈ al, NoAttr G.K (G.C n) f
theorem look_fsV (k : Str) : ∀ fs : List (Str × D), (fsV fs).lookup k = (fs.lookup k).map scaV
  | [] => rfl
  | (f, d) :: fs => by
    show List.lookup k ((f, scaV d) :: fsV fs) = _
    unfold List.lookup
    cases e : (k == f) with
    | true => rfl
    | false => exact look_fsV k fs
theorem sca_look {k : Str} {d : D} : ∀ {fs : List (Str × D)}, (fs.all fun x => isSca x.2) = true → fs.lookup k = some d → isSca d = true
  | [], _, h => by cases h
  | (f, e) :: fs, ha, h => by
    rw [List.all_cons] at ha
    obtain ⟨h1, h2⟩ := Bool.and_eq_true_iff.mp ha
    unfold List.lookup at h
    cases e2 : (k == f) with
    | true =>
      rw [e2] at h
      cases h
      exact h1
    | false =>
      rw [e2] at h
      exact sca_look h2 h
theorem dv_sca {I : Hp} {d : D} (h : isSca d = true) : DV G I d (scaV d) := by
  cases d <;> first | (unfold DV; rfl) | cases h
def kFld (i : Nat) (nn : Nat) (k : Str) : KE := fun ρ p => match ρ[i]?, p with
  | some .pen, .ob n fs => if n = nn then do
      let d ← ofO (fs.lookup k)
      pure (d, .ob n fs)
    else .error .stuck
  | _, _ => .error .stuck
theorem ev_fld {i nn : Nat} {k : Str} {al : List Str} (hO : ObC G nn al) (hk : k ∈ al) : EvE G W (kFld i nn k) (tFld G.K (tVar i) k) := fun c p ρ σ I H Q n kk => by
  unfold kFld at kk
  split at kk
  · rename_i n0 fs hs
    obtain ⟨a, cc, hP, h1⟩ := n.rel i _ hs
    obtain ⟨hn, k2⟩ := Pst.ite' kk
    clear kk
    subst hn
    obtain ⟨d, ed, kk⟩ := Pst.ofO (Pst.bind.mp k2)
    have pa := n.pen a cc hP
    obtain ⟨_, _, _, hC⟩ := n.hid a cc hP
    have hd := pa.d
    unfold penA at hd
    rw [hC] at hd
    refine ⟨.ref a, h1, a, _, _, _, scaV d, rfl, hd, hO.cls, hO.no k hk, ?_, (show ∀ v I' H', Ext c.P I H _ I' H' → DV G I' d v → Q v H' from kk) _ I H n.refl (dv_sca (sca_look pa.s ed))⟩
    rw [look_fsV, ed]
    rfl
  · exact False.elim kk
theorem me_fld (i nn : Nat) {k : Str} {al : List Str} {px : Pos} (hO : ObC G nn al) (hk : k ∈ al := by decide) (hK : X.K = G.K := by rfl) (hb : attributeBase (.Name x px) k X.env (eval (.Name x px) X.env) = eval (.Name x px) X.env := by rfl) (hN : X.N[i]? = some x := by rfl) (hv : Vis X.env.scope x := by first | exact Or.inl rfl | exact Or.inr (Or.inl rfl) | exact Or.inr (Or.inr rfl)) (hd : (x == ("__debug__" : Str)) = false := by decide) (hcd : (x == ("__classdict__" : Str)) = false := by decide) :
    ME X G W (.Attribute (.Name x px) k pos) (tFld X.K (tVar i) k) (kFld i nn k) := ⟨pe_fld (pe_var hN hv hd hcd) hb, by rw [hK]; exact ev_fld hO hk⟩
/-- x.k = e -/
def putD (f : Str) (d : D) : List (Str × D) → List (Str × D)
  | [] => [(f, d)]
  | (g, x) :: r => if g = f then (g, d) :: r else (g, x) :: putD f d r
theorem putD_V (f : Str) (d : D) : ∀ fs : List (Str × D), fsV (putD f d fs) = putF f (scaV d) (fsV fs)
  | [] => rfl
  | (g, x) :: r => by
    show fsV (if g = f then (g, d) :: r else (g, x) :: putD f d r) = if g = f then (g, scaV d) :: fsV r else (g, scaV x) :: putF f (scaV d) (fsV r)
    by_cases h : g = f
    · rw [if_pos h, if_pos h]; rfl
    · rw [if_neg h, if_neg h, ← putD_V f d r]; rfl
theorem putD_sca {f : Str} {d : D} (hd : isSca d = true) : ∀ {fs : List (Str × D)}, (fs.all fun x => isSca x.2) = true → ((putD f d fs).all fun x => isSca x.2) = true
  | [], _ => by show (isSca d && true) = true; rw [hd]; rfl
  | (g, x) :: r, h => by
    rw [List.all_cons] at h
    obtain ⟨h1, h2⟩ := Bool.and_eq_true_iff.mp h
    show (if g = f then (g, d) :: r else (g, x) :: putD f d r).all _ = true
    by_cases hg : g = f
    · rw [if_pos hg, List.all_cons, h2, hd]; rfl
    · rw [if_neg hg, List.all_cons, putD_sca hd h2]
      exact Bool.and_eq_true_iff.mpr ⟨h1, rfl⟩
theorem dv_scaV {I : Hp} {d : D} {v : V} (h : isSca d = true) (hd : DV G I d v) : v = scaV d := by
  cases d <;> first | (unfold DV at hd; exact hd) | cases h
def kFldS (i nn : Nat) (k : Str) (m : KE) : KS := fun ρ p => do
  let a ← m ρ p
  match ρ[i]?, a.2 with
  | some .pen, .ob n fs => if n = nn ∧ isSca a.1 = true ∧ fs.length < 1000 then pure (.nx, ρ, .ob n (putD k a.1 fs)) else .error .stuck
  | _, _ => .error .stuck
theorem es_fldS {i nn : Nat} {k : Str} {al : List Str} (hO : ObC G nn al) (hk : k ∈ al) (h : EvE G W m te) : EvS G W (kFldS i nn k m) (sFld G.K (tVar i) te k) := .of fun c p ρ σ I H E n kk => by
  refine h c p ρ σ I H _ n ((Pst.bind.mp kk).mono (fun _ _ z => z) fun y hy v I1 H1 e1 d1 => ?_)
  have n1 := n.step e1
  obtain ⟨d, p1⟩ := y
  cases hs : ρ[i]? with
  | none => rw [hs] at hy; exact False.elim hy
  | some sl =>
    rw [hs] at hy
    cases sl with
    | pen =>
      cases p1 with
      | pn c1 c2 c3 c4 c5 => exact False.elim hy
      | ob n0 fs =>
        obtain ⟨⟨hn, hsc, hz⟩, h2⟩ := Pst.ite' (show Pst (if n0 = nn ∧ isSca d = true ∧ fs.length < 1000 then pure (Fl.nx, ρ, Pen.ob n0 (putD k d fs)) else .error .stuck) _ (Fin G c I E) from hy)
        clear hy
        subst hn
        obtain ⟨a, cc, hP, h1⟩ := n1.rel i _ hs
        have pa := n1.pen a cc hP
        obtain ⟨_, _, _, hC⟩ := n1.hid a cc hP
        have hd := pa.d
        unfold penA at hd
        rw [hC] at hd
        refine ⟨.ref a, h1, a, _, _, _, rfl, hd, hO.cls, hO.no k hk, by unfold fsV; rw [List.length_map]; exact hz, ?_⟩
        have e2 : penA cc (.ob n0 (putD k d fs)) = .ins (G.C n0) cc.1 (putF k v (fsV fs)) := by
          show HO.ins (cc.2 n0) cc.1 (fsV (putD k d fs)) = _
          rw [putD_V, dv_scaV hsc d1, hC]
        rw [← e2]
        exact (show ∀ σ' I' H', Now G c (.ob n0 (putD k d fs)) ρ σ' I' H' → Sub I I' → E.nx σ' H' from h2) σ I1 _ (n1.penSet hP (putD_sca hsc pa.s) rfl) e1.grow
    | _ => exact False.elim hy
theorem ms_fldS (i nn : Nat) {k : Str} {al : List Str} {px : Pos} (hO : ObC G nn al) (hv0 : ME X G W value tv mv) (hk : k ∈ al := by decide) (hK : X.K = G.K := by rfl) (hN : X.N[i]? = some x := by rfl) (hv : Vis X.env.scope x := by first | exact Or.inl rfl | exact Or.inr (Or.inl rfl) | exact Or.inr (Or.inr rfl)) (hd : (x == ("__debug__" : Str)) = false := by decide) (hcd : (x == ("__classdict__" : Str)) = false := by decide)
    (hs : swapsWith value (some (.Attribute (.Name x px) k pos')) pos.line X.env = pure false := by rfl) :
    MS X G W (.Assign [.Attribute (.Name x px) k pos'] value pos) (sFld X.K (tVar i) tv k) (kFldS i nn k mv) := ⟨ps_fld (pe_var hN hv hd hcd) hv0.pe hs, by rw [hK]; exact es_fldS hO hk hv0.ev⟩
/-- x.m(e, ..), x the instance; the method's name is no attribute -/
def kMeth (i nn : Nat) (mn : Str) (n : Nat) (km : KM) (ml : KL) : KE := fun ρ p => match ρ[i]?, p with
  | some .pen, .ob n0 fs => if n0 = nn ∧ (fs.lookup mn).isNone = true then do
      let a ← ml ρ (.ob n0 fs)
      if a.1.length = n then km a.1 a.2 else .error .stuck
    else .error .stuck
  | _, _ => .error .stuck
theorem ev_meth {i nn n : Nat} {mn : Str} {km : KM} (h : EvA G W ml tr) : EvE G W (kMeth i nn mn n km ml) (tMeth (G.C nn) mn (spM G n km) [] W (tVar i) tr) := fun c p ρ σ I H Q nw kk => by
  unfold kMeth at kk
  split at kk
  · rename_i n0 fs hs
    obtain ⟨a, cc, hP, h1⟩ := nw.rel i _ hs
    obtain ⟨⟨hn, hlk⟩, k2⟩ := Pst.ite' kk
    clear kk
    subst hn
    have pa := nw.pen a cc hP
    obtain ⟨_, _, _, hC⟩ := nw.hid a cc hP
    have hd := pa.d
    unfold penA at hd
    rw [hC] at hd
    refine ⟨.ref a, h1, a, _, _, rfl, hd, ?_, ?_⟩
    · rw [look_fsV]
      cases e : fs.lookup mn with
      | none => rfl
      | some z => rw [e] at hlk; cases hlk
    refine h c _ ρ σ I H _ nw ((Pst.bind.mp k2).mono (fun _ _ z => z) fun y hy vs I1 H1 e1 d1 => ?_)
    obtain ⟨hl, hy⟩ := Pst.ite' hy
    have n1 := nw.step e1
    obtain ⟨g1, _, _, g4⟩ := n1.hid a cc hP
    refine ⟨a, cc, y.2, I1, y.1, vs, by rw [List.append_nil], n1.sub, n1.pen a cc hP, g1, g4, n1.nt (by rw [hP]; intro z; cases z), d1, hl, hy.mono (fun x ds z => z.mono fun p' I' H' e' => ⟨p', n1.ext.trans (by rw [hP]; exact e')⟩) fun r hk v I' H' e' hv => ?_⟩
    exact hk v I' H' (e1.trans (by rw [hP]; exact e')) hv
  · exact False.elim kk
theorem me_meth (i nn : Nat) {mn : Str} {n k : Nat} {km : KM} {f : Addr} {fd : FuncData} {ps : List Str} {px : Pos} {pl : Sem Bool} (c : Cls X.K (G.C nn)) (hme : Meth X.K (G.C nn) mn f) (F : FnOk X.prog X.w X.K X.mg X.base (L2.CX X.prog X.w) k f fd ps (spM G n km)) (hr : Room k X.A) (hb : Binds X.K fd ps []) (ha : MA X G W (e :: es) tr ml)
    (hx : Passes (L2.CX X.prog X.w) X W := by first | exact L2.passes_call (takes_of rfl rfl rfl rfl) (fun _ _ _ _ h => h) | exact L2.passes_call takes0 (fun _ _ _ _ h => h))
    (hN : X.N[i]? = some x := by rfl) (hv : Vis X.env.scope x := by first | exact Or.inl rfl | exact Or.inr (Or.inl rfl) | exact Or.inr (Or.inr rfl)) (hd : (x == ("__debug__" : Str)) = false := by decide) (hcd : (x == ("__classdict__" : Str)) = false := by decide)
    (hst : starEach (e :: es) X.env = (false, eval e X.env) :: starEach es X.env := by rfl) (hpl : (backTo pos (starEach es X.env)).any (·.1) = false := by rfl)
    (ht : eval (.Call (.Attribute (.Name x px) mn apos) (e :: es) [] pos) X.env = (do
      let ov ← eval (.Name x px) X.env
      standAt apos.atName
      let (f, first) ← holding [ov] (getMethod ov mn pl)
      callWith pos f first (backTo pos (starEach (e :: es) X.env)) (backToKw pos (keywordEach [] X.env))) := by rfl) :
    ME X G W (.Call (.Attribute (.Name x px) mn apos) (e :: es) [] pos) (tMeth (G.C nn) mn (spM G n km) [] W (tVar i) tr) (kMeth i nn mn n km ml) :=
  ⟨pe_meth (pe_var hN hv hd hcd) c hme F hr hb .nil hx ha.pa hst hpl ht, ev_meth ha.ev⟩
end
end Dn
end
section
set_option Elab.async false
set_option linter.all false
set_option maxRecDepth 100000
set_option maxHeartbeats 400000
namespace Dn
open PySem PySem.Spec L2

/-! ### x = C(e, ..) for the rest of a body: the instance is what may change -/
def plainS : Sl → Sl
  | .val d => .val d
  | .cln d => .cln d
  | _ => .no
def plainSs (ρ : List Sl) : List Sl := ρ.map plainS
theorem plainS_own (s : Sl) : (plainS s).isOwn = false := by cases s <;> rfl
section
variable {G : Gm} {c c2 : Ctx} {p p2 : Pen} {ρ : List Sl} {σ : L2.St} {I H I2 H2 : Hp}
theorem plain_rel {s : Sl} {o : Option (Option V)} (h : SlotR G c I H s o) (g : Sub I I2) : SlotR G c2 I2 H2 (plainS s) o := by
  cases s with
  | val d =>
    obtain ⟨v, h1, h2⟩ := h
    exact ⟨v, h1, h2.mono g⟩
  | cln d =>
    obtain ⟨v, h1, h2, h3⟩ := h
    exact ⟨v, h1, h2.mono g, h3.mono g⟩
  | _ => trivial
/-- another beginning: what is known of values stays -/
theorem Now.plain (n : Now G c p ρ σ I H) (g : Sub I I2) (e : Ext c2.P c2.I0 c2.H0 p2 I2 H2) (hid : ∀ a cc, c2.P = some (a, cc) → I2 a = none ∧ (∃ o, c2.H0 a = some o) ∧ (∃ o, c2.H0 cc.1 = some o) ∧ cc.2 = G.C) (nt : c2.P ≠ none → p2.isPn = true → NoT I2) : Now G c2 p2 (plainSs ρ) σ I2 H2 := by
  refine ⟨e, hid, by unfold plainSs; rw [List.length_map]; exact n.len, fun i s hs => ?_, fun i j s t q h1 _ o1 _ _ _ => ?_, nt⟩
  · unfold plainSs at hs
    rw [List.getElem?_map] at hs
    obtain ⟨s0, h0, rfl⟩ := Option.map_eq_some_iff.mp hs
    exact plain_rel (n.rel i s0 h0) g
  · unfold plainSs at h1
    rw [List.getElem?_map] at h1
    obtain ⟨s0, _, rfl⟩ := Option.map_eq_some_iff.mp h1
    rw [plainS_own] at o1
    cases o1
theorem Now.setPen (n : Now G c p ρ σ I H) {a : Addr} {cc : Addr × (Nat → Addr)} (hP : c.P = some (a, cc)) (i : Nat) : Now G c p (ρ.set i .pen) (σ.set i (some (.ref a))) I H :=
  n.setS (fun _ => ⟨a, cc, hP, rfl⟩) fun z => by cases z
/-- two new things are laid, one of them changes on: as a step that keeps all -/
theorem Ext.made {P : PP} {H1 I1 H' I' : Hp} {q p' : Pen} {x dx : Addr} {o1 o2 : HO} {cc : Addr × (Nat → Addr)} (s : Sub I1 H1) (k : PenOk P q H1) (hx : H1 x = none) (hd : H1 dx = none) (e : Ext (some (x, cc)) I1 (upd (upd H1 dx o1) x o2) p' I' H') (t1 : ∀ ps, o1 ≠ .tbl ps := by intro ps z; cases z) (t2 : ∀ ps, o2 ≠ .tbl ps := by intro ps z; cases z) : Ext P I1 H1 q I' H' := by
  have up : ∀ b o, H1 b = some o → (upd (upd H1 dx o1) x o2) b = some o := fun b o hb => by
    rw [upd_ne (fun z => by rw [z, hx] at hb; cases hb), upd_ne (fun z => by rw [z, hd] at hb; cases hb)]
    exact hb
  have older : ∀ b ps, H' b = some (.tbl ps) → ∃ ps', H1 b = some (.tbl ps') := fun b ps h => by
    obtain ⟨ps1, h1⟩ := e.keep.old b ps h
    obtain ⟨ps2, h2⟩ := old_upd t2 b ps1 h1
    exact old_upd t1 b ps2 h2
  have nx : ∀ b o, H1 b = some o → ∀ a c, (some (x, cc) : PP) = some (a, c) → b ≠ a := fun b o hb a c z w => by
    cases z
    rw [w, hx] at hb
    cases hb
  refine ⟨⟨fun b o _ hn hb => e.keep.at_ b o (nx b o hb) hn (up b o hb), fun b ps hb => e.keep.tbl b ps (up b _ hb), fun b hb => e.keep.tab b (hb.ext up), older⟩, e.grow, e.sub, fun b o hb hi => e.new b o (up b o hb) hi, fun a c z => ?_⟩
  have pa := k a c z
  exact ⟨e.keep.at_ _ _ (nx _ _ pa.d) penA_tbl (up _ _ pa.d), e.keep.at_ _ _ (nx _ _ pa.c) penC_tbl (up _ _ pa.c), pa.s, fun h1 h2 => ⟨e.keep.tab _ ((pa.t h1 h2).1.ext up), fun b ps h => by
    obtain ⟨ps1, h3⟩ := older b ps h
    exact (pa.t h1 h2).2 b ps1 h3⟩⟩
end
def kFocus (i nn n : Nat) (km : KM) (ml : KL) (mr : KS) : KS := fun ρ p => do
  let a ← ml ρ p
  if a.1.length = n then do
    let r ← km a.1 (.ob nn [])
    let z ← mr ((plainSs ρ).set i .pen) r.2
    match z.1 with
    | .ret d => pure (.ret d, ρ, a.2)
    | _ => .error .stuck
  else .error .stuck
section
variable {X : Cx} {G : Gm} {W : XK} {e : Expr} {es : List Expr} {te : TE} {tr : TA} {ml : KL} {pos cpos p px : Pos} {x cn : Str} {n i nn : Nat} {km : KM} {mr : KS} {u : TS} {rest : List Stmt}
theorem es_focus (hkm : ∀ ds p r, km ds p = .ok r → r.1 = .non) (h : EvA G W ml tr) (hr : EvS G W mr u) : EvS G W (kFocus i nn n km ml mr) (tSeq (tAsg (tMake (G.C nn) (spM G n km) [] W tr) (gName i)) u) := .of fun c p ρ σ I H E nw kk => by
  refine h c p ρ σ I H _ nw ((Pst.bind.mp kk).mono (fun _ _ z => z) fun y hy vs I1 H1 e1 d1 a dx ha hdx hne => ?_)
  obtain ⟨hl, hy⟩ := Pst.ite' hy
  have n1 := nw.step e1
  have sub : Sub I1 (upd (upd H1 dx (.own a)) a (.ins (G.C nn) dx [])) := n1.sub.trans ((Sub.new hdx).trans (Sub.new (by rw [upd_ne (Ne.symm hne)]; exact ha)))
  have pa : PenAt a (dx, G.C) (.ob nn []) (upd (upd H1 dx (.own a)) a (.ins (G.C nn) dx [])) := ⟨upd_same, by rw [upd_ne hne, upd_same]; rfl, rfl, fun h _ => by cases h⟩
  have Ia : I1 a = none := sub_none n1.sub ha
  have mk : ∀ {p' I' H'}, Ext (some (a, (dx, G.C))) I1 (upd (upd H1 dx (.own a)) a (.ins (G.C nn) dx [])) p' I' H' → Ext c.P I1 H1 y.2 I' H' := fun e => Ext.made n1.sub n1.pen ha hdx e
  refine ⟨a, (dx, G.C), .ob nn [], I1, y.1, vs, by rw [List.append_nil], sub, pa, Ia, rfl, (fun z => by cases z), d1, hl, ?_⟩
  refine (Pst.bind.mp hy).imp (fun r er hk v I2 H2 e2 hv => ?_) |>.mono (fun x ds z => z.mono fun p' I' H' e' => ⟨y.2, n1.ext.trans (mk e')⟩) fun _ z => z
  have hv0 : v = .non := by
    have := hkm _ _ _ er
    rw [this] at hv
    unfold DV at hv
    exact hv
  refine ⟨hv0, ?_⟩
  show u E (σ.set i (some (.ref a))) H2
  have n2 : Now G ⟨some (a, (dx, G.C)), I1, upd (upd H1 dx (.own a)) a (.ins (G.C nn) dx [])⟩ r.2 (plainSs ρ) σ I2 H2 :=
    n1.plain e2.grow e2 (fun a' cc' z => by
      cases z
      exact ⟨e2.new a _ upd_same Ia, ⟨_, upd_same⟩, ⟨_, pa.c⟩, rfl⟩) fun hP hp => by
      have q := e2.kind (p := .ob nn []) (fun a' cc' z => by cases z; exact pa) hP hp
      cases q
  refine hr.run (n2.setPen rfl i) ((Pst.bind.mp hk).mono (fun x ds z => z.mono fun p' I' H' e' => ⟨y.2, n1.ext.trans (mk e')⟩) fun z hz => ?_)
  obtain ⟨f, ρ3, p3⟩ := z
  cases f with
  | ret d => exact fun v I' H' e' hv => (show ∀ v I' H', Ext c.P c.I0 c.H0 y.2 I' H' → DV G I' d v → E.rt v H' from hz) v I' H' (n1.ext.trans (mk e')) hv
  | nx => exact False.elim hz
  | bk => exact False.elim hz
  | ct => exact False.elim hz
theorem mb_focus (i nn : Nat) {fI : Addr} {k : Nat} {fd : FuncData} {ps : List Str} (hkm : ∀ ds p r, km ds p = .ok r → r.1 = .non) (M : L2.Mk X.K (G.C nn) fI) (F : FnOk X.prog X.w X.K X.mg X.base (L2.CX X.prog X.w) k fI fd ps (spM G n km)) (hr : Room (k + 1) X.A) (hm : X.mg cn = some (.ref (G.C nn))) (hb : Binds X.K fd ps [])
    (ha : MA X G W (e :: es) tr ml) (hN : X.N.Nodup) (hrest : MB X G W rest u mr)
    (hx : Passes (L2.CX X.prog X.w) X W := by first | exact L2.passes_call (takes_of rfl rfl rfl rfl) (fun _ _ _ _ h => h) | exact L2.passes_call takes0 (fun _ _ _ _ h => h)) (hg : Gl X cn := by rfl) (hdb : (cn == ("__debug__" : Str)) = false := by decide)
    (he : starEach (e :: es) X.env = (false, eval e X.env) :: starEach es X.env := by rfl) (hpl : (backTo cpos (starEach es X.env)).any (·.1) = false := by rfl)
    (hi : X.N[i]? = some x := by rfl) (hxl : Loc X.env.scope x := by first | exact Or.inl rfl | exact Or.inr rfl) (hf : X.fn x = true ∨ X.env.scope.names.lookup x = some .local := by first | exact .inl rfl | exact .inr rfl)
    (hs : swapsWithSole [.Name x px] (.Call (.Name cn p) (e :: es) [] cpos) pos.line X.env = pure false := by rfl) (hw : swappedStores [.Name x px] (.Call (.Name cn p) (e :: es) [] cpos) X.env = pure none := by rfl) (h1 : (assignEach [.Name x px] X.env).map (·.2) = [assign (.Name x px) X.env] := by rfl) :
    MB X G W (.Assign [.Name x px] (.Call (.Name cn p) (e :: es) [] cpos) pos :: rest) (tSeq (tAsg (tMake (G.C nn) (spM G n km) [] W tr) (gName i)) u) (kFocus i nn n km ml mr) :=
  ⟨pss_cons (ps_asg (pe_make M F hr hg hm hb .nil hx ha.pa hdb he hpl) (pg_name hN hi hxl hf) hs hw h1) hrest.ps, es_focus hkm ha.ev hrest.ev⟩
/-- what gives nothing else than None -/
theorem mPn_non {N : Nat} {b : KS} (h : ∀ ρ p r, b ρ p = .ok r → r.1 = .nx) : ∀ ds p r, mPn N b ds p = .ok r → r.1 = .non := fun ds p r e => by
  unfold mPn at e
  cases e1 : b (.pen :: ρ0 (N - 1) ds) p with
  | error z => rw [e1] at e; cases e
  | ok z =>
    have hz := h _ _ _ e1
    rw [e1] at e
    obtain ⟨f, ρ, p'⟩ := z
    have hz : f = .nx := hz
    subst hz
    cases e
    rfl
end
end Dn
end
section
set_option Elab.async false
set_option linter.all false
set_option maxRecDepth 100000
set_option maxHeartbeats 1000000
namespace Dn
open PySem PySem.Spec L2

/-! ### sets of keys carried by value (ints, texts), with what a walk over them wants -/
section
variable {P : Program} {w : World} {κ : Type} [DecidableEq κ]
structure RdK (kd : PySem.KeyKind P w κ) (rd : Value → Option κ) : Prop where
  is : ∀ k v, kd.is k v = true ↔ rd v = some k
  scan : ∀ k v, rd v = some k → v.scannable = true
variable (kd : PySem.KeyKind P w κ) (rd : Value → Option κ)
/-- the entries hold the keys ks -/
structure Hold (es : List (Int × Value)) (ks : List κ) : Prop where
  keys : es.map (fun e => rd e.2) = ks.map some
  hash : ∀ e ∈ es, ∀ k, rd e.2 = some k → e.1 = kd.hash k
/-- the set at a of just the keys zs -/
def SetG (h : Heap) (a : Addr) (zs : List κ) : Prop := ∃ o es ep t ks, h.get? a = some o ∧ o.ExactSet ∧ o.data = .set es ep t ∧ Hold kd rd es.toList ks ∧ ks.Perm zs ∧ zs.Nodup ∧ es.size < scanBound ∧ t.fits es.size = true ∧ Ris t.place.toList ∧ (w.params.followText "set-order" = true ∨ t.led = true)
variable {kd rd}
theorem SetG.at {h h' : Heap} {a : Addr} {zs : List κ} (g : SetG kd rd h a zs) (k : ∀ o, h.get? a = some o → h'.get? a = some o) : SetG kd rd h' a zs := by
  obtain ⟨o, es, ep, t, ks, ho, rest⟩ := g
  exact ⟨o, es, ep, t, ks, k o ho, rest⟩
theorem SetG.perm {h : Heap} {a : Addr} {zs ys : List κ} (g : SetG kd rd h a zs) (p : zs.Perm ys) : SetG kd rd h a ys := by
  obtain ⟨o, es, ep, t, ks, ho, hx, hd, hh, hp, nd, rest⟩ := g
  exact ⟨o, es, ep, t, ks, ho, hx, hd, hh, hp.trans p, p.nodup_iff.mp nd, rest⟩
theorem Hold.gets {es : List (Int × Value)} {ks : List κ} (g : Hold kd rd es ks) {e : Int × Value} (he : e ∈ es) : ∃ k ∈ ks, rd e.2 = some k := by
  have z : rd e.2 ∈ es.map (fun e => rd e.2) := List.mem_map.mpr ⟨e, he, rfl⟩
  rw [g.keys] at z
  obtain ⟨k, hk, e2⟩ := List.mem_map.mp z
  exact ⟨k, hk, e2.symm⟩
theorem Hold.back {es : List (Int × Value)} {ks : List κ} (g : Hold kd rd es ks) {k : κ} (hk : k ∈ ks) : ∃ e ∈ es, rd e.2 = some k := by
  have z : some k ∈ ks.map some := List.mem_map.mpr ⟨k, hk, rfl⟩
  rw [← g.keys] at z
  obtain ⟨e, he, e2⟩ := List.mem_map.mp z
  exact ⟨e, he, e2⟩
theorem Hold.elems (R : RdK kd rd) {es : List (Int × Value)} {ks : List κ} (g : Hold kd rd es ks) : ElemsOf kd es := fun e he => by
  obtain ⟨k, _, e2⟩ := g.gets he
  exact ⟨⟨k, (R.is k e.2).mpr e2, g.hash e he k e2⟩, R.scan k e.2 e2⟩
theorem map_some_inj {α : Type} : ∀ {l r : List α}, l.map some = r.map some → l = r
  | [], [], _ => rfl
  | a :: l, b :: r, h => by
    rw [List.map_cons, List.map_cons] at h
    injection h with h1 h2
    injection h1 with h1
    rw [h1, map_some_inj h2]
  | [], _ :: _, h => by cases h
  | _ :: _, [], h => by cases h
/-- the same entries otherwise laid -/
theorem Hold.perm {es es' : List (Int × Value)} {ks : List κ} (g : Hold kd rd es ks) (p : es'.Perm es) : ∃ ks', Hold kd rd es' ks' ∧ ks'.Perm ks := by
  have hash' : ∀ e ∈ es', ∀ k, rd e.2 = some k → e.1 = kd.hash k := fun e he => g.hash e (p.mem_iff.mp he)
  have all : ∀ e ∈ es', ∃ k, rd e.2 = some k := fun e he => by
    obtain ⟨k, _, z⟩ := g.gets (p.mem_iff.mp he)
    exact ⟨k, z⟩
  have mk : ∀ l : List (Int × Value), (∀ e ∈ l, ∃ k, rd e.2 = some k) → ∃ ks' : List κ, l.map (fun e => rd e.2) = ks'.map some := by
    intro l
    induction l with
    | nil => exact fun _ => ⟨[], rfl⟩
    | cons e l ih =>
      intro h
      obtain ⟨k, hk⟩ := h e List.mem_cons_self
      obtain ⟨ks', hks⟩ := ih fun x hx => h x (List.mem_cons_of_mem _ hx)
      exact ⟨k :: ks', by rw [List.map_cons, List.map_cons, hk, hks]⟩
  obtain ⟨ks', hks⟩ := mk es' all
  refine ⟨ks', ⟨hks, hash'⟩, ?_⟩
  have q := p.map (fun e => rd e.2)
  rw [hks, g.keys] at q
  have q2 := q.filterMap id
  have id1 : ∀ l : List κ, (l.map some).filterMap id = l := fun l => by
    induction l with
    | nil => rfl
    | cons x l ih =>
      show x :: (l.map some).filterMap id = x :: l
      rw [ih]
  rwa [id1, id1] at q2
theorem Hold.push {es es' : List (Int × Value)} {ks : List κ} {k : κ} {v : Value} (g : Hold kd rd es ks) (hv : rd v = some k) (p : es'.Perm (es ++ [(kd.hash k, v)])) : ∃ ks', Hold kd rd es' ks' ∧ ks'.Perm (k :: ks) := by
  have g2 : Hold kd rd (es ++ [(kd.hash k, v)]) (ks ++ [k]) := ⟨by rw [List.map_append, List.map_append, g.keys]; simp [hv], fun e he j hj => by
    rcases List.mem_append.mp he with z | z
    · exact g.hash e z j hj
    · rw [List.mem_singleton.mp z] at hj ⊢
      have : some k = some j := hv.symm.trans hj
      cases this
      rfl⟩
  obtain ⟨ks', h1, h2⟩ := g2.perm p
  exact ⟨ks', h1, h2.trans (List.perm_append_singleton _ _)⟩
section
variable {A : Around} {E : Value → Shared → Prop} {s : Shared} {a : Addr} {zs : List κ}
/-- the end of an addition: the table is stored, laid anew where it is too full -/
theorem setG_tail (R : RdK kd rd) {g : Bool → Sem Unit} (hg : ∀ (b : Bool) (s₁ : Shared) (Q' : Unit → Shared → Prop), Q' () s₁ → wpAny (model P w) A (g b) Q' E s₁) {o : Obj} {es : Array (Int × Value)} {ep : Nat} {t : SetTable} (ho : s.heap.get? a = some o) (hex : o.ExactSet) (hd : o.data = .set es ep t)
    {es1 : Array (Int × Value)} {t2 : SetTable} {ks : List κ} (hh : Hold kd rd es1.toList ks) (hp : ks.Perm zs) (nd : zs.Nodup) (hb : es1.size < scanBound) (hf : t2.fits es1.size = true) (hr : Ris t2.place.toList) (hl : w.params.followText "set-order" = true ∨ t2.led = true) {dummy : Bool} {Rr : Option Bool → Shared → Prop}
    (hR : ∀ h', Heap.SameBut a s.heap h' → SetG kd rd h' a zs → Rr (some true) { s with heap := h' }) :
    wpAny (model P w) A (do
      storeSet a es1 t2
      if (!dummy && t2.tooFull) = true then do
        g (relayAll t2 es1 (SetTable.grown es1.size)).2.2
        storeSet a (relayAll t2 es1 (SetTable.grown es1.size)).1 (relayAll t2 es1 (SetTable.grown es1.size)).2.1
        pure (some true)
      else pure (some true)) Rr E s := by
  have z1 := fits_of_scanBound hb
  refine wpAny_bind (wpAny_storeSet_of ho hd ?_ z1)
  have at1 := store_at (es' := es1) (t' := t2) ho hd
  have same1 := Heap.SameBut.update s.heap a (Obj.putSet es1 t2)
  by_cases full : (!dummy && t2.tooFull) = true
  · rw [if_pos full]
    have p1 := relayAll_perm t2 es1 (SetTable.grown es1.size)
    have p2 := relayAll_fits t2 es1 (SetTable.grown es1.size)
    have p3 := relayAll_ris t2 es1 (SetTable.grown es1.size)
    have p4 := relayAll_led t2 es1 (SetTable.grown es1.size)
    generalize relayAll t2 es1 (SetTable.grown es1.size) = z at p1 p2 p3 p4 ⊢
    obtain ⟨es2, t3, gave⟩ := z
    dsimp only at p1 p2 p3 p4 ⊢
    have sz : es2.size = es1.size := by
      have := p1.length_eq
      simpa using this
    have hb2 : es2.size < scanBound := sz ▸ hb
    refine wpAny_bind (hg _ _ _ (wpAny_bind (wpAny_storeSet_of at1 rfl ?_ (fits_of_scanBound hb2))))
    have at2 := store_at (es' := es2) (t' := t3) at1 rfl
    obtain ⟨ks2, h2, h3⟩ := hh.perm p1
    refine wpAny_pure (hR _ (same1.trans (Heap.SameBut.update _ a _)) ⟨_, es2, _, t3, ks2, at2, hex, rfl, h2, h3.trans hp, nd, hb2, p2, p3, ?_⟩)
    rw [p4]
    exact hl
  · rw [if_neg full]
    exact wpAny_pure (hR _ same1 ⟨_, es1, _, t2, ks, at1, hex, rfl, hh, hp, nd, hb, hf, hr, hl⟩)
theorem setG_add (R : RdK kd rd) {k : κ} {v : Value} {Q : Bool → Shared → Prop} (S : SetG kd rd s.heap a zs) (hv : rd v = some k) (room : zs.length + 1 < scanBound)
    (hQ : ∀ h', Heap.SameBut a s.heap h' → SetG kd rd h' a (if k ∈ zs then zs else k :: zs) → ∀ b, Q b { s with heap := h' }) : wpAny (model P w) A (setAddHashed a v (kd.hash k)) Q E s := by
  obtain ⟨o, es, ep, t, ks, ho, hex, hd, hh, hp, nd, hb, hf, hr, hl⟩ := S
  have key : kd.is k v = true := (R.is k v).mpr hv
  have sc : v.scannable = true := R.scan k v hv
  have el := hh.elems R
  unfold setAddHashed setAddHashedIn
  refine wpAny_holding (wpAny_bind (wpAny_setState_of ho hd hf ?_))
  dsimp only
  rw [byScan_of sc hb el]
  simp only [↓reduceIte]
  unfold setAddByScan
  refine wpAny_bind (wpAny_bind (wpAny_rule (wpAny_bind (wpAny_setScan_of key ho hd hf el ?_))))
  cases fi : List.findIdx? (fun e => kd.is k e.2) es.toList with
  | some j =>
    dsimp only
    obtain ⟨hj, pj, _⟩ := List.findIdx?_eq_some_iff_getElem.mp fi
    have hk : k ∈ zs := by
      obtain ⟨k2, hk2, e2⟩ := hh.gets (List.getElem_mem hj)
      have := (R.is k _).mp pj
      rw [e2] at this
      cases this
      exact hp.mem_iff.mp hk2
    have fin := hQ s.heap (Heap.SameBut.refl a s.heap)
    rw [if_pos hk] at fin
    exact wpAny_pure (wpAny_pure (fin ⟨o, es, ep, t, ks, ho, hex, hd, hh, hp, nd, hb, hf, hr, hl⟩ _))
  | none =>
    dsimp only
    have hk : k ∉ zs := fun z => by
      obtain ⟨e, he, e2⟩ := hh.back (hp.mem_iff.mpr z)
      have := List.findIdx?_eq_none_iff.mp fi e he
      rw [(R.is k e.2).mpr e2] at this
      cases this
    have quiet : ∀ (b : Bool) {s₁ : Shared} {Q' : Unit → Shared → Prop}, Q' () s₁ → wpAny (model P w) A (match b with | true => rule "set.scan.the-table-gave-way" | false => pure ()) Q' E s₁ := fun b s₁ Q' q => by
      cases b
      · exact wpAny_pure q
      · exact wpAny_rule q
    have p1 := layNew_perm t es (kd.hash k) v
    have p2 := layNew_fits t es (kd.hash k) v
    have p3 := layNew_ris t es (kd.hash k) v hr
    have p4 := layNew_led t es (kd.hash k) v
    generalize layNew t es (kd.hash k) v = z at p1 p2 p3 p4 ⊢
    obtain ⟨es1, t1, dummy, gave⟩ := z
    dsimp only at p1 p2 p3 p4 ⊢
    rw [Array.toList_push] at p1
    obtain ⟨ks1, h1, h2⟩ := hh.push hv p1
    have h3 : ks1.Perm (k :: zs) := h2.trans (hp.cons k)
    have nd1 : (k :: zs).Nodup := List.nodup_cons.mpr ⟨hk, nd⟩
    have sz : es1.size = zs.length + 1 := by
      have e1 := congrArg List.length h1.keys
      rw [List.length_map, List.length_map, h3.length_eq] at e1
      simpa using e1
    have hb1 : es1.size < scanBound := by omega
    have led : w.params.followText "set-order" = true ∨ t1.led = true := by rw [p4]; exact hl
    have fin : ∀ h', Heap.SameBut a s.heap h' → SetG kd rd h' a (k :: zs) → Q true { s with heap := h' } := fun h' sb S' => by
      have q := hQ h' sb
      rw [if_neg hk] at q
      exact q S' true
    refine wpAny_bind (quiet _ ?_)
    split
    · refine wpAny_bind ?_
      rw [hashByValue_scannable 8 sc]
      refine wpAny_pure (setG_tail R (fun b s₁ Q' q => quiet b q) ho hex hd h1 h3 nd1 hb1 ?_ ?_ ?_ fun h' sb S' => ?_)
      · first | (split <;> first | exact p2 | exact SetTable.fits_plain_off p2) | exact p2
      · first | (split <;> exact p3) | exact p3
      · first | (split <;> exact led) | exact led
      · dsimp only
        exact wpAny_pure (fin h' sb S')
    · refine wpAny_bind (wpAny_pure ?_)
      simp only [↓reduceIte]
      refine setG_tail R (fun b s₁ Q' q => quiet b q) ho hex hd h1 h3 nd1 hb1 p2 p3 led fun h' sb S' => ?_
      dsimp only
      exact wpAny_pure (fin h' sb S')
end
end
end Dn
end
section
set_option Elab.async false
set_option linter.all false
set_option maxRecDepth 100000
set_option maxHeartbeats 4000000
namespace Dn
open PySem PySem.Spec L2

/-! ### set(list) -/
section
variable {P : Program} {w : World} {κ : Type} [DecidableEq κ] {kd : PySem.KeyKind P w κ} {rd : Value → Option κ}
/-- the keys in the order in which they came last, each once -/
def news (ks : List κ) : List κ := ks.foldl (fun zs k => if k ∈ zs then zs else k :: zs) []
theorem news_snoc (ks : List κ) (k : κ) : news (ks ++ [k]) = if k ∈ news ks then news ks else k :: news ks := by unfold news; rw [List.foldl_append]; rfl
theorem news_len (ks : List κ) : (news ks).length ≤ ks.length := by
  have key : ∀ (l zs : List κ), (l.foldl (fun zs k => if k ∈ zs then zs else k :: zs) zs).length ≤ zs.length + l.length := by
    intro l
    induction l with
    | nil => exact fun zs => Nat.le_refl _
    | cons x l ih =>
      intro zs
      rw [List.foldl_cons, List.length_cons]
      by_cases h : x ∈ zs
      · rw [if_pos h]; have := ih zs; omega
      · rw [if_neg h]; have := ih (x :: zs); rw [List.length_cons] at this; omega
  have := key ks []
  rw [List.length_nil, Nat.zero_add] at this
  exact this
theorem setG_fresh {h : Heap} {a : Addr} (ho : h.get? a = some { cls := .type "set", dict := none, data := .set #[] 0 (.fresh 0 0 (!w.params.followText "set-order")) }) : SetG kd rd h a [] := by
  refine ⟨_, #[], 0, _, [], ho, ⟨rfl, rfl, rfl⟩, rfl, ⟨rfl, fun e he => (by simp at he)⟩, List.Perm.refl _, List.nodup_nil, (by decide), rfl, List.Pairwise.nil, ?_⟩
  show _ ∨ (!w.params.followText "set-order") = true
  cases w.params.followText "set-order" with
  | true => exact .inl rfl
  | false => exact .inr rfl
variable {A : Around} {E : Value → Shared → Prop} {s : Shared}
theorem setG_update (R : RdK kd rd) {I : Addr} {fp wr : List Addr} {Gn : Array GenState → Array GenState → Prop} {n : Nat} {Pv : Nat → Value → Prop} {St : Nat → Shared → Prop} {Rr : Result → Shared → Prop}
    (W : WalksS P w A.in1 I fp wr Gn n Pv St) (S : Addr) (hS : S ∉ fp) (ks : List κ) (hn : n = ks.length) (hb : ks.length + 1 < scanBound) (val : ∀ i v, Pv i v → ∃ k, ks[i]? = some k ∧ rd v = some k) :
    ∀ (m i : Nat) (s : Shared), n - i = m → i ≤ n → St i s → SetG kd rd s.heap S (news (ks.take i)) → (∀ s', Moved (S :: wr) Gn s s' → SetG kd rd s'.heap S (news ks) → Rr (.ok (.ret .none)) s') →
      codeAny (model P w) A (.builtin "set.update.loop" ⟨[.ref S, .ref I], []⟩) Rr s := by
  have nw : S ∉ wr := fun z => hS (W.sub _ z)
  intro m
  induction m with
  | zero =>
    intro i s e hi st g fin
    have ei : i = n := by omega
    subst ei
    refine codeAny_builtin PyProof.Rows.F.entry_set_update_loop ?_
    rw [Around.under_plainId PyProof.Rows.F.plain_set_update_loop _]
    refine (show wpAny _ A.in1 (pyNext (.ref I) >>= _) _ _ s from wpAny_bind (W.done s _ _ st fun s' mv => ?_))
    rw [List.take_of_length_le (by omega)] at g
    exact (show wpAny _ A.in1 (ret Value.none) _ _ s' from wpAny_pure (fin s' (mv.mono fun b hb => List.mem_cons_of_mem _ hb) (g.at fun o e => mv.heap S o nw e)))
  | succ m ih =>
    intro i s e hi st g fin
    have lt : i < n := by omega
    refine codeAny_builtin PyProof.Rows.F.entry_set_update_loop ?_
    rw [Around.under_plainId PyProof.Rows.F.plain_set_update_loop _]
    refine (show wpAny _ A.in1 (pyNext (.ref I) >>= _) _ _ s from wpAny_bind (W.item i s _ _ lt st fun v s' hP st' mv => ?_))
    obtain ⟨k, hk, hv⟩ := val i v hP
    have g' : SetG kd rd s'.heap S (news (ks.take i)) := g.at fun o e => mv.heap S o nw e
    have room : (news (ks.take i)).length + 1 < scanBound := by
      have := news_len (ks.take i)
      rw [List.length_take] at this
      omega
    refine (show wpAny _ A.in1 (holding [v] (setAdd S v) >>= _) _ _ s' from wpAny_bind (wpAny_holding ?_))
    unfold setAdd
    refine wpAny_holding (wpAny_bind (kd.pyHash ((R.is k v).mpr hv) ?_))
    refine setG_add R (s := { s' with toks := s'.toks + 1 }) g' hv room fun h' sb g2 b => ?_
    have g3 : SetG kd rd h' S (news (ks.take (i + 1))) := by
      have e3 : ks.take (i + 1) = ks.take i ++ [k] := by rw [List.take_add_one, hk]; rfl
      rw [e3, news_snoc]
      exact g2
    refine wpAny_pure ⟨plainId_quiet PyProof.Rows.F.plain_set_update_loop _, ih (i + 1) _ (by omega) lt (W.frame _ s' _ _ st' (Nat.le_succ _) fun b hb o e => ?_) g3 fun s2 mv2 gS => ?_⟩
    · have hbS : b ≠ S := fun z => hS (z ▸ hb)
      rw [sb.2 b hbS]
      exact e
    · refine fin s2 (Moved.trans W.gtrans ((mv.mono fun b hb => List.mem_cons_of_mem _ hb).then_heap (Nat.le_succ _) fun b o hb e => ?_) mv2) gS
      have hbS : b ≠ S := fun z => hb (z ▸ List.mem_cons_self)
      rw [sb.2 b hbS]
      exact e
set_option maxRecDepth 100000 in
theorem call_setG (R : RdK kd rd) {l : Addr} {items : Array Value} (ks : List κ) {Q : Value → Shared → Prop} (hh : A.handled = none) (hl : s.heap.IsList l items) (hit : items.toList.map rd = ks.map some) (hb : ks.length + 1 < scanBound)
    (h : ∀ (h' : Heap) (tk : Nat), SetG kd rd h' s.heap.objs.size (news ks) → (∀ b o, s.heap.get? b = some o → h'.get? b = some o) → Q (.ref s.heap.objs.size) { s with heap := h', toks := tk }) :
    wpAny (model P w) A (call (.type "set") [.ref l]) Q E s := by
  have hisz : items.size = ks.length := by
    have q := congrArg List.length hit
    rw [List.length_map, List.length_map, Array.length_toList] at q
    exact q
  obtain ⟨c, tl, hmro⟩ := F.called_set.mro
  have hmade := F.called_set.made
  have hsub := F.called_set.sub
  refine wpAny_call (codeAny_of_tree ?_)
  refine (show wpAny _ _ (callAny (.type "set") _) _ _ _ from wpAny_pure ⟨Code.quiet_builtin _ (by decide +kernel), codeAny_builtin F.entry_type_call ?_⟩)
  rw [Around.under_plain (weight_type_call_type "set" [.ref l] []) rfl]
  have h1 := F.called_set.notType
  have h2 := F.called_set.canCreate
  have hct := F.typeCall_set_1 (.ref l)
  repeat (any_goals (first | assumption | wp_step))
  let fo : Obj := { cls := .type "set", dict := none, data := .set #[] 0 (.fresh 0 0 (!w.params.followText "set-order")) }
  refine codeAny_mono (code_set_led1 (.ref l) (E := E) (Q₁ := fun obj s₁ => obj = .ref s.heap.objs.size ∧ s₁ = { s with heap := s.heap.push fo }) ⟨rfl, rfl⟩) fun r s₁ hr => ?_
  cases r with
  | error e => exact hr
  | ok fl =>
    cases fl with
    | ret obj =>
      obtain ⟨rfl, rfl⟩ := hr
      have hS : (s.heap.push fo).get? s.heap.objs.size = some fo := Heap.get?_push_size _ rfl
      have hT : Shared.TypeIs { s with heap := s.heap.push fo } (.ref s.heap.objs.size) "set" := ⟨_, hS, rfl⟩
      have hli := F.called_set.init.lookup
      have hbi := F.called_set.init.bind (.ref s.heap.objs.size)
      repeat (any_goals (first | assumption | wp_step))
      refine codeAny_mono (codeAny_call_builtin (R := wants (fun r s₂ => r = .none ∧ ∃ h' tk, s₂ = { s with heap := h', toks := tk } ∧ SetG kd rd h' s.heap.objs.size (news ks) ∧ (∀ b o, s.heap.get? b = some o → h'.get? b = some o)) E) F.called_set.init.plain F.entry_set_init (check_set_init_1 hT ?_)) fun r₂ s₂ hr₂ => ?_
      · obtain ⟨ol, hol, hcl, nl, hdl⟩ := hl
        obtain ⟨ocls, odict, odata, oslots⟩ := ol
        simp only at hcl hdl
        subst hcl hdl
        have hol' : (s.heap.push fo).get? l = some { cls := .type "list", dict := odict, data := .seq items nl, slots := oslots } := Heap.get?_push_of_some _ hol
        have hsls := F.sub_list_set
        have hslf := F.sub_list_frozenset
        have hne : (Value.type "list" == Value.type "dict") = false := by decide
        have hl1 : (s.heap.push fo).IsList l items := ⟨_, hol', rfl, nl, rfl⟩
        unfold Builtin.«set.__init__» noKeywords Builtin.Frozenset.updateFrom
        generalize hPI : pyIter = PI
        wp_walk
        subst hPI
        refine wpAny_pyIter_list hl1 (wpAny_bind (wpAny_runValue ?_))
        have hlS : l < s.heap.objs.size := Heap.lt_size hol
        have hh3 : A.in1.in1.in1.handled = none := by simp [hh]
        have hz1 : (s.heap.push fo).objs.size = s.heap.objs.size + 1 := Heap.size_push ..
        have hneI : l ≠ (s.heap.push fo).objs.size := by
          rw [hz1]
          exact Nat.ne_of_lt (Nat.lt_succ_of_lt hlS)
        have hSf : s.heap.objs.size ∉ [(s.heap.push fo).objs.size, l] := by
          rw [hz1]
          simp only [List.mem_cons, List.mem_singleton, List.not_mem_nil, or_false, not_or]
          exact ⟨Nat.ne_of_lt (Nat.lt_succ_self _), Nat.ne_of_gt hlS⟩
        have val : ∀ (i : Nat) (v : Value), items[i]? = some v → ∃ k, ks[i]? = some k ∧ rd v = some k := fun i v hv => by
          have q : (items.toList.map rd)[i]? = (ks.map some)[i]? := by rw [hit]
          rw [List.getElem?_map, List.getElem?_map, Array.getElem?_toList, hv] at q
          cases e : ks[i]? with
          | none => rw [e] at q; cases q
          | some k =>
            rw [e] at q
            injection q with q
            exact ⟨k, rfl, q⟩
        refine setG_update R ((Walks.list hh3 _ l hneI items).toS) s.heap.objs.size hSf ks hisz hb val (items.size - 0) 0 _ (by omega) (Nat.zero_le _) ⟨⟨_, Heap.get?_push_size _ rfl, rfl, rfl⟩, (hl1.push _)⟩ ?_ fun s' hm hS' => ?_
        · exact setG_fresh (Heap.get?_push_of_some _ hS)
        · obtain ⟨h', g2, d', tk', os'⟩ := s'
          have eg : g2 = s.gens := hm.gens
          have ed : d' = s.drawn := hm.drawn
          have eo : os' = s.os := hm.os
          subst eg ed eo
          refine (show wpAny _ _ _ _ _ _ from wpAny_pure ?_)
          refine (show wpAny _ _ (ret Value.none) _ _ _ from wpAny_pure ⟨rfl, h', tk', rfl, hS', fun b o e => ?_⟩)
          have hb0 : b < s.heap.objs.size := Heap.lt_size e
          have hb1 : b ≠ s.heap.objs.size := Nat.ne_of_lt hb0
          have hb2 : b ≠ (s.heap.push fo).objs.size := by
            rw [hz1]
            exact Nat.ne_of_lt (Nat.lt_succ_of_lt hb0)
          exact hm.heap b o (by simp only [List.mem_cons, List.mem_singleton, List.not_mem_nil, or_false, not_or]; exact ⟨hb1, hb2⟩) (Heap.get?_push_of_some _ (Heap.get?_push_of_some _ e))
      · cases r₂ with
        | error e => exact hr₂
        | ok fl₂ =>
          cases fl₂ with
          | ret r =>
            obtain ⟨rfl, h', tk, rfl, hS', hk'⟩ := hr₂
            repeat (any_goals (first | assumption | wp_step))
            exact h _ _ hS' hk'
          | _ => exact hr₂.elim
    | _ => exact hr.elim
end
end Dn
end
section
set_option Elab.async false
set_option linter.all false
set_option maxRecDepth 100000
set_option maxHeartbeats 1000000
namespace Dn
open PySem PySem.Spec L2

/-! ### sorted lists are told by their members -/
theorem sorted_one {α : Type} {le : α → α → Bool} (anti : ∀ a b, le a b = true → le b a = true → a = b) : ∀ {l r : List α}, l.Pairwise (fun a b => le a b = true) → r.Pairwise (fun a b => le a b = true) → l.Perm r → l = r
  | [], r, _, _, p => (List.Perm.nil_eq p)
  | a :: l, [], _, _, p => by have := p.length_eq; cases this
  | a :: l, b :: r, hl, hr, p => by
    obtain ⟨h1, h2⟩ := List.pairwise_cons.mp hl
    obtain ⟨g1, g2⟩ := List.pairwise_cons.mp hr
    have e : a = b := by
      have ha : a ∈ b :: r := p.mem_iff.mp List.mem_cons_self
      have hb : b ∈ a :: l := p.mem_iff.mpr List.mem_cons_self
      rcases List.mem_cons.mp ha with z | z
      · exact z
      · rcases List.mem_cons.mp hb with y | y
        · exact y.symm
        · exact anti a b (h1 b y) (g1 a z)
    subst e
    rw [sorted_one anti h2 g2 (List.Perm.cons_inv p)]
def leS (a b : Str) : Bool := decide (a.cps.toList ≤ b.cps.toList)
def sortS (zs : List Str) : List Str := zs.mergeSort leS
theorem leS_anti (a b : Str) (h1 : leS a b = true) (h2 : leS b a = true) : a = b := by
  have e : a.cps.toList = b.cps.toList := List.le_antisymm (of_decide_eq_true h1) (of_decide_eq_true h2)
  cases a
  cases b
  simp only [Str.mk.injEq]
  exact Array.toList_inj.mp e
theorem leS_trans (a b c : Str) (h1 : leS a b = true) (h2 : leS b c = true) : leS a c = true := decide_eq_true (List.le_trans (of_decide_eq_true h1) (of_decide_eq_true h2))
theorem leS_total (a b : Str) : (leS a b || leS b a) = true := by
  rcases List.le_total a.cps.toList b.cps.toList with h | h
  · rw [show leS a b = true from decide_eq_true h]; rfl
  · rw [show leS b a = true from decide_eq_true h, Bool.or_true]
theorem sortS_perm {l r : List Str} (p : l.Perm r) : sortS l = sortS r :=
  sorted_one leS_anti (List.pairwise_mergeSort leS_trans leS_total l) (List.pairwise_mergeSort leS_trans leS_total r) (((List.mergeSort_perm l leS).trans p).trans (List.mergeSort_perm r leS).symm)

/-! ### texts -/
def rdS : Value → Option Str
  | .str x _ => some x
  | _ => none
theorem rdK_str (P : Program) (w : World) : RdK (PySem.strKind P w) rdS where
  is := fun k v => by
    constructor
    · intro h
      obtain ⟨t, rfl⟩ := Value.isStrOf_shape (show Value.isStrOf k v = true from h)
      rfl
    · intro h
      cases v with
      | str x t =>
        cases h
        exact (show Value.isStrOf k (.str k t) = true by simp [Value.isStrOf])
      | _ => cases h
  scan := fun k v h => by
    cases v with
    | str x t => rfl
    | _ => cases h
def setSO (P : Program) (w : World) (a : Addr) (zs : List Str) : HO := .ext fun h => SetG (PySem.strKind P w) rdS h a zs
theorem setSO_new {P : Program} {w : World} {H : Hp} {h : Heap} {a : Addr} {zs : List Str} (g : SetG (PySem.strKind P w) rdS h a zs) : ObjOk P w H h a (setSO P w a zs) := by
  obtain ⟨o, es, ep, t, ks, ho, rest⟩ := g
  exact ⟨⟨o, es, ep, t, ks, ho, rest⟩, ⟨o, ho⟩, fun h1 h2 z k => z.at k⟩
theorem setSO_get {X : Cx} {pins : List (Addr × Obj)} {σ : L2.St} {H : Hp} {s : Shared} {a : Addr} {zs : List Str} (I : Inv X pins σ H s) (ha : H a = some (setSO X.prog X.w a zs)) : SetG (PySem.strKind X.prog X.w) rdS s.heap a zs := (I.hok a _ ha).1
section
variable {X : Cx}
def rSetS (K : PySem.W.Frag) (P : Program) (w : World) : List V → Hp → VK → Prop := fun xs H Q => ∃ (l : Addr) (zs : List Str), xs = [.ref l] ∧ SqL K H l (zs.map V.str) ∧ zs.length ≤ 4000 ∧ ∀ p, H p = none → Q (.ref p) (upd H p (setSO P w p (news zs)))
theorem rd_vals : ∀ {zs : List Str} {us : List Value}, Vals (zs.map V.str) us → us.map rdS = zs.map some
  | [], _, h => by cases h; rfl
  | z :: zs, _, h => by
    cases h with
    | cons r t =>
      obtain ⟨tk, rfl⟩ := r
      rw [List.map_cons, List.map_cons, rd_vals t]
      rfl
theorem vals_rd : ∀ {zs : List Str} {us : List Value}, us.map rdS = zs.map some → Vals (zs.map V.str) us
  | [], [], _ => .nil
  | z :: zs, u :: us, h => by
    rw [List.map_cons, List.map_cons] at h
    injection h with h1 h2
    cases u with
    | str x t =>
      cases h1
      exact .cons ⟨t, rfl⟩ (vals_rd h2)
    | _ => cases h1
  | [], _ :: _, h => by cases h
  | _ :: _, [], h => by cases h
theorem call_setS (hc : X.calm = true) : CallR X (.type "set") (rSetS X.K X.prog X.w) := by
  intro pins s σ H xs us Q I rv hyp
  obtain ⟨l, zs, rfl, hq, hz, fin⟩ := hyp
  obtain ⟨u, rfl, ru⟩ := rv.one
  cases ru
  obtain ⟨its, r', pl, _⟩ := I.list hq
  refine call_setG (rdK_str X.prog X.w) zs (I.ok.hd hc) pl.isList (rd_vals r') (by show zs.length + 1 < 4096; omega) fun h' tk g kp => ?_
  have J : Inv X pins σ (upd H s.heap.objs.size (setSO X.prog X.w s.heap.objs.size (news zs))) { s with heap := h', toks := tk } := I.laid kp (Nat.le_refl _) (setSO_new g)
  exact ⟨.ref s.heap.objs.size, _, J, rfl, fin _ (I.hok.fresh (Nat.le_refl _))⟩
def rSrtS (P : Program) (w : World) : List V → Hp → VK → Prop := fun xs H Q => ∃ (a : Addr) (zs : List Str), xs = [.ref a] ∧ H a = some (setSO P w a zs) ∧ zs.length ≤ 4000 ∧ ∀ p, H p = none → Q (.ref p) (upd H p (.lst ((sortS zs).map V.str)))
theorem each_rd : ∀ {zs : List Str} {us : List Value}, us.map rdS = zs.map some → PySem.W.EachIs (fun v z => rdS v = some z) us zs
  | [], [], _ => .nil
  | z :: zs, u :: us, h => by
    rw [List.map_cons, List.map_cons] at h
    injection h with h1 h2
    exact .cons h1 (each_rd h2)
  | [], _ :: _, h => by cases h
  | _ :: _, [], h => by cases h
theorem rd_each : ∀ {zs : List Str} {us : List Value}, PySem.W.EachIs (fun v z => rdS v = some z) us zs → us.map rdS = zs.map some
  | _, _, .nil => rfl
  | _, _, .cons h t => by rw [List.map_cons, List.map_cons, h, rd_each t]
theorem call_srtS (hc : X.calm = true) (hu : X.A.units + 70 < cLine) : CallR X (.builtin "sorted") (rSrtS X.prog X.w) := by
  intro pins s σ H xs us Q I rv hyp
  obtain ⟨a, zs, rfl, ha, hz, fin⟩ := hyp
  have g := setSO_get I ha
  rw [Vals.ref1 rv]
  obtain ⟨o, es, ep, t, ks, ho, hex, hd, hh, hp, nd, hb, hf, hr, hl⟩ := g
  refine Calls.call_function_entry PyProof.Rows.kind_sorted PyProof.Rows.plain_sorted PyProof.Rows.entry_sorted (PyProof.Rows.args_sorted1 _) ?_
  unfold Builtin.«sorted»
  refine wpAny_bind (m := checkCount "sorted" 1 1 _) (wpAny_pure (wpAny_bind (collect_set (A := X.A.in1) (I.ok.hd hc) ⟨o, ho, hex.1, hd⟩ hf hb hr hl fun s1 vs k1 hsz g1 o1 pm => ?_)))
  have ev : vs.map rdS |>.Perm (ks.map some) := by
    have q := pm.map rdS
    rw [List.map_map] at q
    have e2 : es.toList.map (rdS ∘ fun x => x.2) = ks.map some := hh.keys
    rwa [e2] at q
  have ex : ∃ bs : List Str, vs.map rdS = bs.map some := by
    have all : ∀ l : List Value, (∀ v ∈ l, rdS v ∈ ks.map some) → ∃ bs : List Str, l.map rdS = bs.map some := by
      intro l
      induction l with
      | nil => exact fun _ => ⟨[], rfl⟩
      | cons v l ih =>
        intro h
        obtain ⟨z, _, hz⟩ := List.mem_map.mp (h v List.mem_cons_self)
        obtain ⟨bs, hbs⟩ := ih fun x hx => h x (List.mem_cons_of_mem _ hx)
        exact ⟨z :: bs, by rw [List.map_cons, List.map_cons, ← hz, hbs]⟩
    exact all vs fun v hv => ev.mem_iff.mp (List.mem_map.mpr ⟨v, hv, rfl⟩)
  obtain ⟨bs, hbs⟩ := ex
  have pb : bs.Perm zs := by
    rw [hbs] at ev
    have q := ev.filterMap id
    have id1 : ∀ l : List Str, (l.map some).filterMap id = l := fun l => by
      induction l with
      | nil => rfl
      | cons x l ih =>
        show x :: (l.map some).filterMap id = x :: l
        rw [ih]
    rw [id1, id1] at q
    exact q.trans hp
  have lb : bs.length ≤ 4000 := by rw [pb.length_eq]; exact hz
  have lv : vs.length = bs.length := by
    have := congrArg List.length hbs
    rw [List.length_map, List.length_map] at this
    exact this
  have line := sizeLine_eq
  refine wpAny_bind (wpAny_newList ?_ (by omega))
  have hoL : (s1.heap.push (PyProof.Rows.seqObj "list" vs.toArray 0)).get? s1.heap.objs.size = some (PyProof.Rows.seqObj "list" vs.toArray 0) := Heap.get?_push_size _ rfl
  refine wpAny_bind (wpAny_holding (PySem.W.list_sort_data (enc := PyData.str) (R := fun v z => rdS v = some z) (bs := bs) hoL (each_rd hbs) ?_ ?_ ?_ (by omega) ?_ fun out lo eo => ?_))
  · refine (each_rd hbs).mono fun v z hv => ?_
    cases v with
    | str x t =>
      cases hv
      exact ⟨[], Reads.str _ _, by simp⟩
    | _ => cases hv
  · exact PySem.W.AllAlike.of fun b b' => rfl
  · exact PySem.W.Sortable.others fun b => ⟨(fun z => by cases z), (fun xs z => by cases z)⟩
  · intro b _
    show X.A.units + 1 + 1 + 0 < cLine
    omega
  · have hdat : (PySem.W.dataLe false PyData.str) = leS := by
      have := PySem.W.dataLe_str (fun b : Str => b)
      exact this
    rw [hdat] at eo
    have es2 : bs.mergeSort leS = sortS zs := sortS_perm pb
    rw [es2] at eo
    have hv := vals_rd (rd_each eo)
    obtain ⟨ce, hce⟩ := PyProof.Rows.sortedHeap_at (vs := vs) (out := out.toArray) hoL
    have keep : ∀ b u, s.heap.get? b = some u → (PyProof.Rows.sortedHeap (s1.heap.push (PyProof.Rows.seqObj "list" vs.toArray 0)) s1.heap.objs.size vs out.toArray).get? b = some u := fun b u e => by
      have q := k1 b u e
      have hlt := Heap.lt_size q
      rw [PyProof.Rows.sortedHeap_old (Nat.ne_of_lt hlt) (by rw [PyProof.Rows.size_push']; exact Nat.lt_succ_of_lt hlt)]
      exact Heap.get?_push_of_some _ q
    have hn : H s1.heap.objs.size = none := I.hok.fresh hsz
    have ll : ((sortS zs).map V.str).length ≤ sizeLine := by
      rw [List.length_map]
      unfold sortS
      rw [List.length_mergeSort]
      omega
    refine wpAny_pure ⟨_, rfl, ?_⟩
    have J : Inv X pins σ (upd H s1.heap.objs.size (.lst ((sortS zs).map V.str))) { s with heap := PyProof.Rows.sortedHeap (s1.heap.push (PyProof.Rows.seqObj "list" vs.toArray 0)) s1.heap.objs.size vs out.toArray, gens := s1.gens, drawn := s1.drawn, toks := s1.toks } :=
      I.call (ch := []) (Un.laid keep hsz hn) (I.hok.laid keep hsz ⟨ll, out, ce, hv, hce⟩) (by rw [g1]; exact I.bare) (fun _ z => nomatch z)
    obtain ⟨hp1, gg1, dd1, tt1, os1⟩ := s1
    cases o1
    exact ⟨.ref _, _, J, rfl, fin _ hn⟩
end

/-! ### sorted(set(texts)) -/
def allS : List D → Option (List Str)
  | [] => some []
  | .str z :: r => (allS r).map (z :: ·)
  | _ => none
theorem allS_some : ∀ {ds : List D} {zs : List Str}, allS ds = some zs → ds = zs.map D.str
  | [], zs, h => by cases h; rfl
  | .str z :: r, zs, h => by
    obtain ⟨ys, h1, rfl⟩ := Option.map_eq_some_iff.mp (show (allS r).map (z :: ·) = some zs from h)
    rw [List.map_cons, ← allS_some h1]
  | .non :: _, _, h => by cases h
  | .bl _ :: _, _, h => by cases h
  | .int _ :: _, _, h => by cases h
  | .tup _ :: _, _, h => by cases h
  | .lst _ :: _, _, h => by cases h
  | .dic _ _ :: _, _, h => by cases h
  | .obj _ _ :: _, _, h => by cases h
theorem dvs_strs {G : Gm} {I : Hp} : ∀ {zs : List Str} {vs : List V}, DVs G I (zs.map D.str) vs → vs = zs.map V.str
  | [], vs, h => DVs.nil.mp h
  | z :: zs, vs, h => by
    rw [List.map_cons] at h
    unfold DVs at h
    obtain ⟨v, r, rfl, hv, hr⟩ := h
    unfold DV at hv
    rw [hv, dvs_strs hr]
    rfl
theorem strs_dvs {G : Gm} {I : Hp} : ∀ zs : List Str, DVs G I (zs.map D.str) (zs.map V.str)
  | [] => DVs.nil.mpr rfl
  | z :: zs => by
    rw [List.map_cons, List.map_cons]
    unfold DVs
    exact ⟨_, _, rfl, by unfold DV; rfl, strs_dvs zs⟩
def kSrtS (ml : KL) : KL := fun ρ p => do
  let a ← ml ρ p
  let zs ← ofO (allS a.1)
  if zs.length ≤ 4000 then pure ((sortS (news zs)).map D.str, a.2) else .error .stuck
section
variable {X : Cx} {G : Gm} {W : XK} {e : Expr} {te : TE} {ml : KL} {pos pos2 p p2 : Pos}
theorem mf_srtS (hu : X.A.units + 70 < cLine) (h : ML X G W e te ml) (hm : X.mg "sorted" = none := by rfl) (hm2 : X.mg "set" = none := by rfl) (hk : X.K = G.K := by rfl) (hc : X.calm = true := by rfl) (hg : Gl X "sorted" := by rfl) (hg2 : Gl X "set" := by rfl)
    (he : starEach (e :: []) X.env = (false, eval e X.env) :: starEach [] X.env := by rfl) (he2 : starEach (.Call (.Name "set" p2) [e] [] pos2 :: []) X.env = (false, eval (.Call (.Name "set" p2) [e] [] pos2) X.env) :: starEach [] X.env := by rfl) :
    MF X G W (.Call (.Name "sorted" p) [.Call (.Name "set" p2) [e] [] pos2] [] pos) (tCB (rSrtS X.prog X.w) (tCons (tCB (rSetS X.K X.prog X.w) (tCons te tNil)) tNil)) (kSrtS ml) :=
  ⟨pe_callB (call_srtS hc hu) hg hm PyProof.Rows.boot_sorted (pa_cons (pe_callTy (call_setS hc) hg2 hm2 PyProof.Rows.boot_set (pa_cons h.pe pa_nil he) (by decide) (by decide) he rfl) pa_nil he2) (by decide) (by decide) he2 rfl, fun c p ρ σ I H Q n k => by
    refine h.ev c p ρ σ I H _ n ((Pst.bind.mp k).mono (fun _ _ z => z) fun y hy q vs I1 H1 e1 hq dvs => ?_)
    obtain ⟨zs, ez, hy⟩ := Pst.ofO (Pst.bind.mp hy)
    obtain ⟨hz, hy⟩ := Pst.ite' hy
    rw [allS_some ez] at dvs
    have ev := dvs_strs dvs
    subst ev
    have n1 := n.step e1
    refine ⟨q, zs, rfl, SqL.of hq, hz, fun t ht => ?_⟩
    have s2 := ExtN.lose (o := setSO X.prog X.w t (news zs)) n1.sub ht
    refine ⟨t, news zs, rfl, upd_same, Nat.le_trans (news_len zs) hz, fun r hr => ?_⟩
    have hrH : H r = none := by
      cases z : H r with
      | none => rfl
      | some u =>
        obtain ⟨o, ho⟩ := (e1.trans (s2.to n1.pen)).there z
        rw [hr] at ho
        cases ho
    have s3 := ExtN.lose (o := .lst ((sortS (news zs)).map V.str)) s2.sub hr
    exact (show ∀ q vs I' H', Ext c.P I H y.2 I' H' → H q = none → I' q = none → H' q = some (.lst vs) → DVs G I' ((sortS (news zs)).map D.str) vs → Q (.ref q) H' from hy) r _ I1 _ (e1.trans ((s2.trans s3).to n1.pen)) hrH (sub_none s2.sub hr) upd_same (strs_dvs _)⟩
end
end Dn
end
section
set_option Elab.async false
set_option linter.all false
set_option maxRecDepth 100000
set_option maxHeartbeats 400000
namespace Dn
open PySem PySem.Spec L2

section
variable {X : Cx} {G : Gm} {W : XK} {e a b c f : Expr} {es : List Expr} {ta tb tc te : TE} {m ma mb mc : KE} {pos p : Pos}

/-! ### a op b op c -/
def kChain (op op' : D → D → Option D) (ma mb mc : KE) : KE := fun ρ p => do
  let a ← ma ρ p
  let b ← mb ρ a.2
  let d ← ofO (op a.1 b.1)
  let k ← ofO (toB d)
  if k = true then do
    let c ← mc ρ b.2
    let r ← ofO (op' b.1 c.1)
    pure (r, c.2)
  else pure (.bl false, b.2)
theorem ev_chain {r r' : R2} {f g : D → D → Option D} (ho : OpD G r f) (ho' : OpD G r' g) (ha : EvE G W ma ta) (hb : EvE G W mb tb) (hc : EvE G W mc tc) : EvE G W (kChain f g ma mb mc) (tChain r r' ta tb tc) := fun c p ρ σ I H Q n k => by
  refine ha c p ρ σ I H _ n ((Pst.bind.mp k).mono (fun _ _ z => z) fun x hx v I1 H1 e1 d1 => ?_)
  have n1 := n.step e1
  refine hb c x.2 ρ σ I1 H1 _ n1 ((Pst.bind.mp hx).mono (fun _ _ z => z) fun y hy w I2 H2 e2 d2 => ?_)
  obtain ⟨d, ed, k⟩ := Pst.ofO (Pst.bind.mp hy)
  obtain ⟨kk, ek, k⟩ := Pst.ofO (Pst.bind.mp k)
  have n2 := n1.step e2
  refine ho I2 H2 v w x.1 y.1 d _ n2.sub (d1.mono e2.grow) d2 ed fun u I3 H3 e3 d3 => ?_
  rw [toB_some ek] at d3
  unfold DV at d3
  refine ⟨kk, d3, ?_⟩
  have n3 := n2.step (e3.to (p := y.2) n2.pen)
  cases kk with
  | false => exact (show ∀ v I' H', Ext c.P I H y.2 I' H' → DV G I' (.bl false) v → Q v H' from k) (.bl false) I3 H3 ((e1.trans e2).trans (e3.to n2.pen)) dv_bl
  | true =>
    have k : Pst (mc ρ y.2 >>= fun c => ofO (g y.1 c.1) >>= fun r => pure (r, c.2)) _ _ := k
    refine hc c y.2 ρ σ I3 H3 _ n3 ((Pst.bind.mp k).mono (fun _ _ z => z) fun z hz w2 I4 H4 e4 d4 => ?_)
    obtain ⟨r, er, hz⟩ := Pst.ofO (Pst.bind.mp hz)
    have n4 := n3.step e4
    exact ho' I4 H4 w w2 y.1 z.1 r Q n4.sub ((d2.mono e3.grow).mono e4.grow) d4 er fun u2 I5 H5 e5 d5 => (show ∀ v I' H', Ext c.P I H z.2 I' H' → DV G I' r v → Q v H' from hz) u2 I5 H5 ((((e1.trans e2).trans (e3.to n2.pen)).trans e4).trans (e5.to n4.pen)) d5
theorem me_chain {op op' : CmpOp} {r r' : R2} {f g : D → D → Option D} (ho : OpR X (compareOp op) r) (hd : OpD G r f) (ho' : OpR X (compareOp op') r') (hd' : OpD G r' g) (ha : ME X G W a ta ma) (hb : ME X G W b tb mb) (hc : ME X G W c tc mc)
    (hm : lastMarks [op, op'] [b, c] = false := by with_unfolding_all rfl) : ME X G W (.Compare a [op, op'] [b, c] pos) (tChain r r' ta tb tc) (kChain f g ma mb mc) :=
  ⟨pe_chain ho ho' ha.pe hb.pe hc.pe hm, ev_chain hd hd' ha.ev hb.ev hc.ev⟩
theorem mt_chain {op op' : CmpOp} {r r' : R2} {f g : D → D → Option D} (ho : OpR X (compareOp op) r) (hd : OpD G r f) (ho' : OpR X (compareOp op') r') (hd' : OpD G r' g) (ha : ME X G W a ta ma) (hb : ME X G W b tb mb) (hc : ME X G W c tc mc)
    (hm : lastMarks [op, op'] [b, c] = false := by with_unfolding_all rfl) : MT X G W (.Compare a [op, op'] [b, c] pos) (tTest (tChain r r' ta tb tc)) (kT (kChain f g ma mb mc)) :=
  ⟨pt_chain ho ho' ha.pe hb.pe hc.pe hm, ev_TT (ev_chain hd hd' ha.ev hb.ev hc.ev)⟩

/-! ### a table of the module: text keys, plain values -/
structure TabD (K : PySem.W.Frag) (w : World) (d : Addr) (kvs : List (Str × D)) : Prop where
  kd : ∃ es n, KDict K w d es n
  no : ∀ z, kvs.lookup z = none → PySem.W.nsIn K d z = some none
  so : ∀ z x, kvs.lookup z = some x → ∃ u v, PySem.W.nsIn K d z = some (some u) ∧ RelV v u ∧ ∀ G I, DV G I x v
theorem TabD.get {K : PySem.W.Frag} {w : World} {d : Addr} {kvs : List (Str × D)} (h : TabD K w d kvs) (z : Str) : ∃ r, PySem.W.nsIn K d z = some r ∧ r.isSome = (kvs.lookup z).isSome := by
  cases e : kvs.lookup z with
  | none => exact ⟨_, h.no z e, rfl⟩
  | some x =>
    obtain ⟨u, v, h1, _⟩ := h.so z x e
    exact ⟨_, h1, rfl⟩
theorem toS_some {d : D} {z : Str} (h : toS d = some z) : d = .str z := by
  cases d with
  | str y =>
    injection (show some y = some z from h) with h
    rw [h]
  | _ => cases h
def kTIn (flip : Bool) (kvs : List (Str × D)) (ma : KE) : KE := fun ρ p => do
  let a ← ma ρ p
  let z ← ofO (toS a.1)
  pure (.bl (flip != (kvs.lookup z).isSome), a.2)
def kTGet (kvs : List (Str × D)) (ma : KE) : KE := fun ρ p => do
  let a ← ma ρ p
  let z ← ofO (toS a.1)
  let d ← ofO (kvs.lookup z)
  pure (d, a.2)
def rTIn (K : PySem.W.Frag) (d : Addr) : R2 := fun x y H Q => ∃ (z : Str) (r : Option Value), x = .str z ∧ y = .ref d ∧ PySem.W.nsIn K d z = some r ∧ Q (.bl r.isSome) H
def rTNotIn (K : PySem.W.Frag) (d : Addr) : R2 := fun x y H Q => ∃ (z : Str) (r : Option Value), x = .str z ∧ y = .ref d ∧ PySem.W.nsIn K d z = some r ∧ Q (.bl (!r.isSome)) H
def rTGet (K : PySem.W.Frag) (d : Addr) : R2 := fun x y H Q => ∃ (z : Str) (u0 : Value) (v0 : V), x = .ref d ∧ y = .str z ∧ PySem.W.nsIn K d z = some (some u0) ∧ RelV v0 u0 ∧ Q v0 H
theorem ev_tin {d : Addr} {w : World} {kvs : List (Str × D)} (T : TabD G.K w d kvs) (ha : EvE G W ma ta) : EvE G W (kTIn false kvs ma) (tOp (rTIn G.K d) ta (tC (.ref d))) := fun c p ρ σ I H Q n k => by
  refine ha c p ρ σ I H _ n ((Pst.bind.mp k).mono (fun _ _ z => z) fun x hx v I1 H1 e1 d1 => ?_)
  obtain ⟨z, ez, k⟩ := Pst.ofO (Pst.bind.mp hx)
  rw [toS_some ez] at d1
  unfold DV at d1
  obtain ⟨r, h1, h2⟩ := T.get z
  refine ⟨z, r, d1, rfl, h1, ?_⟩
  rw [h2]
  have e : (false != (kvs.lookup z).isSome) = (kvs.lookup z).isSome := by cases (kvs.lookup z).isSome <;> rfl
  exact (show ∀ v I' H', Ext c.P I H x.2 I' H' → DV G I' (.bl (false != (kvs.lookup z).isSome)) v → Q v H' from k) _ I1 H1 e1 (by rw [e]; exact dv_bl)
theorem ev_tnin {d : Addr} {w : World} {kvs : List (Str × D)} (T : TabD G.K w d kvs) (ha : EvE G W ma ta) : EvE G W (kTIn true kvs ma) (tOp (rTNotIn G.K d) ta (tC (.ref d))) := fun c p ρ σ I H Q n k => by
  refine ha c p ρ σ I H _ n ((Pst.bind.mp k).mono (fun _ _ z => z) fun x hx v I1 H1 e1 d1 => ?_)
  obtain ⟨z, ez, k⟩ := Pst.ofO (Pst.bind.mp hx)
  rw [toS_some ez] at d1
  unfold DV at d1
  obtain ⟨r, h1, h2⟩ := T.get z
  refine ⟨z, r, d1, rfl, h1, ?_⟩
  rw [h2]
  have e : (true != (kvs.lookup z).isSome) = !(kvs.lookup z).isSome := by cases (kvs.lookup z).isSome <;> rfl
  exact (show ∀ v I' H', Ext c.P I H x.2 I' H' → DV G I' (.bl (true != (kvs.lookup z).isSome)) v → Q v H' from k) _ I1 H1 e1 (by rw [e]; exact dv_bl)
theorem ev_tget {d : Addr} {w : World} {kvs : List (Str × D)} (T : TabD G.K w d kvs) (ha : EvE G W ma ta) : EvE G W (kTGet kvs ma) (tOp (rTGet G.K d) (tC (.ref d)) ta) := fun c p ρ σ I H Q n k => by
  refine ha c p ρ σ I H _ n ((Pst.bind.mp k).mono (fun _ _ z => z) fun x hx v I1 H1 e1 d1 => ?_)
  obtain ⟨z, ez, k⟩ := Pst.ofO (Pst.bind.mp hx)
  obtain ⟨d2, ed, k⟩ := Pst.ofO (Pst.bind.mp k)
  rw [toS_some ez] at d1
  unfold DV at d1
  obtain ⟨u, v2, h1, h2, h3⟩ := T.so z d2 ed
  exact ⟨z, u, v2, rfl, d1, h1, h2, (show ∀ v I' H', Ext c.P I H x.2 I' H' → DV G I' d2 v → Q v H' from k) v2 I1 H1 e1 (h3 G I1)⟩
theorem mt_tin {d : Addr} {x : Str} {kvs : List (Str × D)} (T : TabD X.K X.w d kvs) (hm : X.mg x = some (.ref d)) (ha : ME X G W a ta ma) (hk : X.K = G.K := by rfl) (hg : Gl X x := by rfl) (hd : (x == ("__debug__" : Str)) = false := by decide) (hb : behindInMarks .In (.Name x p) = false := by with_unfolding_all rfl) :
    MT X G W (.Compare a [.In] [.Name x p] pos) (tTest (tOp (rTIn X.K d) ta (tC (.ref d)))) (kT (kTIn false kvs ma)) := by
  obtain ⟨es, n, kd⟩ := T.kd
  refine ⟨pt_cmpR (op_in_kd kd) ha.pe (pe_glob hg hm rfl hd) hb, ev_TT ?_⟩
  rw [hk] at T ⊢
  exact ev_tin T ha.ev
theorem mt_tnin {d : Addr} {x : Str} {kvs : List (Str × D)} (T : TabD X.K X.w d kvs) (hm : X.mg x = some (.ref d)) (ha : ME X G W a ta ma) (hk : X.K = G.K := by rfl) (hg : Gl X x := by rfl) (hd : (x == ("__debug__" : Str)) = false := by decide) (hb : behindInMarks .NotIn (.Name x p) = false := by with_unfolding_all rfl) :
    MT X G W (.Compare a [.NotIn] [.Name x p] pos) (tTest (tOp (rTNotIn X.K d) ta (tC (.ref d)))) (kT (kTIn true kvs ma)) := by
  obtain ⟨es, n, kd⟩ := T.kd
  refine ⟨pt_cmpR (op_notIn_kd kd) ha.pe (pe_glob hg hm rfl hd) hb, ev_TT ?_⟩
  rw [hk] at T ⊢
  exact ev_tnin T ha.ev
theorem ix_tab {d : Addr} {es : Array DictEntry} {n : Nat} (kd : KDict X.K X.w d es n) : IxR X (rTGet X.K d) := by
  intro value slice pins s σ H x y v u Q I rx ry h hs
  have h0 := h
  obtain ⟨z, u0, v0, rfl, rfl, h1, h2, h3⟩ := h
  cases rx
  refine PyProof.Rows.subscriptTail_builtinR (x := u0) (kd_type kd I) slot_dict_getitem.lookup ?_ hs
  have q := op_item_kd kd pins s σ H (.ref d) (.str z) (.ref d) u (fun v H' => v = v0 ∧ H' = H) I rfl ry ⟨z, u0, v0, rfl, rfl, h1, h2, rfl, rfl⟩
  obtain ⟨t, rfl⟩ := ry
  exact wpAny_getItem_of (PySem.strKind_is X.prog X.w z t) (PySem.W.mapOf_K (prog := X.prog) I.kIn kd.at_ kd.lit) (PySem.W.find_K kd.at_ h1) ⟨rfl, v0, H, I.tok _, h2, h3⟩
theorem me_tget {d : Addr} {x : Str} {kvs : List (Str × D)} (T : TabD X.K X.w d kvs) (hm : X.mg x = some (.ref d)) (ha : ME X G W a ta ma) (hk : X.K = G.K := by rfl) (hs : PlainIx a := by exact fun _ _ => rfl) (hg : Gl X x := by rfl) (hd : (x == ("__debug__" : Str)) = false := by decide) :
    ME X G W (.Subscript (.Name x p) a pos) (tOp (rTGet X.K d) (tC (.ref d)) ta) (kTGet kvs ma) := by
  obtain ⟨es, n, kd⟩ := T.kd
  refine ⟨pe_ix (ix_tab kd) (pe_glob hg hm rfl hd) ha.pe hs, ?_⟩
  rw [hk] at T ⊢
  exact ev_tget T ha.ev
end

/-! ### what a name of the module is -/
/-- a def that may be called with n arguments behind its defaults -/
def DefP (P : Program) (w : World) (G : Gm) (mg : Str → Option Value) (base : Heap) (x : Str) (k : Nat) (ps : List Str) (dsv : List Value) (sp : Sp) : Prop :=
  ∃ f fd, mg x = some (.ref f) ∧ PySem.W.keepIn G.K (.ref f) = true ∧ Binds G.K fd ps dsv ∧ FnOk P w G.K mg base (L2.CX P w) k f fd ps sp
end Dn
end
section
set_option Elab.async false
set_option linter.all false
set_option maxRecDepth 100000
set_option maxHeartbeats 400000
namespace L2
open PySem PySem.Spec
theorem Room.u1 {k : Nat} {A : Around} (r : Room k A) : A.units + 1 < cLine := by have := r.un; omega
theorem Room.u64 {k : Nat} {A : Around} (r : Room k A) : A.units + 64 < cLine := by have := r.un; omega
theorem Room.u65 {k : Nat} {A : Around} (r : Room k A) : A.units + 65 < cLine := by have := r.un; omega
theorem Room.u70 {k : Nat} {A : Around} (r : Room k A) : A.units + 70 < cLine := by have := r.un; omega
end L2
namespace Dn
open PySem PySem.Spec L2
/-! ### powers -/
def powD := intOp fun i j => if CPow i j then some (.int (i ^ j.toNat)) else none
theorem od_pow {G : Gm} : OpD G (rI CPow fun i j => .int (i ^ j.toNat)) powD := od_intC fun _ _ _ => dv_int
theorem dvs0 {G : Gm} {I : Hp} : DVs G I [] [] := by unfold DVs; rfl
def tupL (ds : List D) : Option D := some (.tup ds)

/-! ### sorted(tuple) -/
section
open PyProof.Rows
theorem collect_tup {prog : Program} {w : World} {A : Around} {E : Value → Shared → Prop} {s : Shared} {l : Addr} {vs : List Value} {Q : List Value → Shared → Prop} (hl : s.heap.IsTuple l vs.toArray)
    (h : Q vs { s with heap := (s.heap.push (seqObj "list" #[] 0)).update s.heap.objs.size (Obj.mapSeq (· ++ vs.toArray)) }) (hsz : vs.length ≤ sizeLine) :
    wpAny (model prog w) A (collect (.ref l)) Q E s := by
  obtain ⟨o, ho, hc, n, hd⟩ := id hl
  unfold collect
  refine wpAny_bind (wpAny_runValue (codeAny_builtin entry_proto_collect' ?_))
  show wpAny _ _ (do again (.builtin "list.__iadd__" ⟨[← newList [], .ref l], []⟩)) _ _ s
  refine wpAny_bind (wpAny_newList (wpAny_pure ⟨Code.quiet_builtin _ (by decide +kernel), codeAny_builtin entry_list_iadd' ?_⟩))
  show wpAny _ _ (Builtin.List.listExtendWith (.ref s.heap.objs.size) (.ref l) (.ref s.heap.objs.size)) _ _ { s with heap := s.heap.push (seqObj "list" #[] 0) }
  unfold Builtin.List.listExtendWith
  have old : (s.heap.push (seqObj "list" #[] 0)).get? l = some o := Heap.get?_push_of_some _ ho
  refine wpAny_bind (wpAny_typeOf (T := "tuple") ⟨o, old, hc⟩ ?_)
  have ht : (Value.type "tuple" == Value.type "tuple") = true := by rfl
  rw [if_pos (by rw [ht]; simp)]
  refine wpAny_bind (listItems_at old hd ?_)
  refine wpAny_bind (listItems_at (xs := #[]) (n := 0) (Heap.get?_push_size _ rfl) rfl ?_)
  rw [if_neg (by simp)]
  refine wpAny_bind (listUpdate_at (xs := #[]) (n := 0) (Heap.get?_push_size _ rfl) rfl ?_ (Nat.zero_le _) (by show (#[] ++ vs.toArray).size ≤ sizeLine + 1; simp only [Array.size_append, List.size_toArray, List.length_nil]; omega))
  refine wpAny_pure ?_
  show wpAny (model prog w) A (do
      let o ← load s.heap.objs.size
      match o.data with
      | .seq xs _ => pure xs.toList
      | _ => unsupported "internal:collect") Q E { s with heap := (s.heap.push (seqObj "list" #[] 0)).update s.heap.objs.size (Obj.mapSeq (· ++ vs.toArray)) }
  refine wpAny_bind (wpAny_load (get?_update_seq (Heap.get?_push_size _ rfl) _) ?_)
  have same : ((#[] : Array Value) ++ vs.toArray).toList = vs := by simp
  show wpAny _ _ (pure ((#[] : Array Value) ++ vs.toArray).toList) Q E _
  rw [same]
  exact wpAny_pure h
end
section
variable {X : Cx} {G : Gm}
def rSortT (G : Gm) : List V → Hp → VK → Prop := fun xs H Q => ∃ (I : Hp) (a : Addr) (vs : List V) (ds : List D), xs = [.ref a] ∧ Sub I H ∧ SqT G.K H a vs ∧ DVs G I ds vs ∧ sortOk ds = true ∧
  ∀ ws p, DVs G I (ds.mergeSort leD') ws → H p = none → Q (.ref p) (upd H p (.lst ws))
theorem cr_sortT (hk : X.K = G.K) (hu : X.A.units + 70 < cLine) : CallR X (.builtin "sorted") (rSortT G) := by
  intro pins s σ H xs us Q J r hyp
  obtain ⟨I, a, vs, ds, rfl, hs, ha, hd, ok, q⟩ := hyp
  unfold sortOk at ok
  simp only [Bool.and_eq_true, decide_eq_true_eq, Bool.or_eq_true] at ok
  obtain ⟨⟨⟨h1, h2⟩, h3⟩, h4⟩ := ok
  rw [← hk] at ha
  obtain ⟨its, rv, hl, hz⟩ := J.tuple ha
  rw [Vals.ref1 r]
  have line := line63
  have lv : its.length = ds.length := by rw [← rv.length, hd.length]
  refine Calls.call_function_entry PyProof.Rows.kind_sorted PyProof.Rows.plain_sorted PyProof.Rows.entry_sorted (PyProof.Rows.args_sorted1 _) ?_
  unfold Builtin.«sorted»
  refine wpAny_bind (m := checkCount "sorted" 1 1 _) (wpAny_pure (wpAny_bind (collect_tup hl ?_ (by omega))))
  refine wpAny_bind (wpAny_newList ?_ (by omega))
  have hoL : ∀ h' : Heap, (h'.push (PyProof.Rows.seqObj "list" its.toArray 0)).get? h'.objs.size = some (PyProof.Rows.seqObj "list" its.toArray 0) := fun h' => Heap.get?_push_size _ rfl
  have k1 : ∀ b u, s.heap.get? b = some u → ((s.heap.push (PyProof.Rows.seqObj "list" #[] 0)).update s.heap.objs.size (Obj.mapSeq (· ++ its.toArray))).get? b = some u := fun b u e => by
    have hb : b ≠ s.heap.objs.size := Nat.ne_of_lt (Heap.lt_size e)
    exact (Heap.get?_update_other _ _ (Ne.symm hb)).trans (Heap.get?_push_of_some _ e)
  have hsz : s.heap.objs.size ≤ ((s.heap.push (PyProof.Rows.seqObj "list" #[] 0)).update s.heap.objs.size (Obj.mapSeq (· ++ its.toArray))).objs.size := by
    rw [Heap.size_update, PyProof.Rows.size_push']
    omega
  generalize ((s.heap.push (PyProof.Rows.seqObj "list" #[] 0)).update s.heap.objs.size (Obj.mapSeq (· ++ its.toArray))) = g at k1 hsz ⊢
  have hne : ∀ b u, s.heap.get? b = some u → b ≠ g.objs.size := fun b u e => Nat.ne_of_lt (Heap.lt_size (k1 b u e))
  have J2 : Inv X pins σ H { s with heap := g } := J.kept (t' := s.toks) k1
  have J3 : Inv X pins σ H { s with heap := g.push (PyProof.Rows.seqObj "list" its.toArray 0) } := J.kept (t' := s.toks) fun b u e => Heap.get?_push_of_some _ (k1 b u e)
  refine wpAny_bind (wpAny_holding (PySem.W.list_sort_data (enc := pd) (R := fun u d => ∃ x, RelV x u ∧ DV G I d x) (bs := ds) (hoL g) (vals_each rv hd) ?_ ?_ ?_ h3 ?_ fun out lo eo => ?_))
  · refine PySem.W.EachIs.mono (R := fun u d => ∃ as, Reads s.heap u (pd d) as) ?_ (eachReads J hk hs rv hd h4)
    intro u d hr
    obtain ⟨as, hr⟩ := hr
    exact ⟨as, PyProof.Rows.Reads.keeps (fun b u e => Heap.get?_push_of_some _ (k1 b u e)) hr, fun hm => by
      obtain ⟨u', hu'⟩ := PyProof.On.reads_mem_get hr _ hm
      exact hne _ _ hu' rfl⟩
  · intro x hx y hy
    obtain ⟨a, ha, rfl⟩ := List.mem_map.mp hx
    obtain ⟨b, hb, rfl⟩ := List.mem_map.mp hy
    exact List.all_eq_true.mp (List.all_eq_true.mp h1 a ha) b hb
  · rcases h2 with h2 | h2
    · refine .inl fun x hx => ?_
      obtain ⟨a, ha, rfl⟩ := List.mem_map.mp hx
      have z := List.all_eq_true.mp h2 a ha
      cases a with
      | tup ds =>
        cases ds with
        | nil => cases z
        | cons y ys => exact ⟨pd y, pds ys, by simp only [pd, pds]⟩
      | _ => cases z
    · refine .inr fun x hx => ?_
      obtain ⟨a, ha, rfl⟩ := List.mem_map.mp hx
      have z := List.all_eq_true.mp h2 a ha
      cases a <;> first
        | (cases z; done)
        | (simp [pd]; done)
  · intro b hb
    have := alike_fit b (List.all_eq_true.mp h4 b hb)
    show X.A.units + 1 + 1 + (pd b).depth < cLine
    omega
  · obtain ⟨ws, h5, h6⟩ := each_vals eo
    obtain ⟨ce, hce⟩ := PyProof.Rows.sortedHeap_at (vs := its) (out := out.toArray) (hoL g)
    have hlen : ws.length ≤ sizeLine := by rw [h6.length, List.length_mergeSort]; exact h3
    have keep : ∀ b u, s.heap.get? b = some u → (PyProof.Rows.sortedHeap (g.push (PyProof.Rows.seqObj "list" its.toArray 0)) g.objs.size its out.toArray).get? b = some u := fun b u e => by
      have q1 := k1 b u e
      have hlt := Heap.lt_size q1
      rw [PyProof.Rows.sortedHeap_old (Nat.ne_of_lt hlt) (by rw [PyProof.Rows.size_push']; exact Nat.lt_succ_of_lt hlt)]
      exact Heap.get?_push_of_some _ q1
    refine wpAny_pure ⟨_, rfl, ?_⟩
    exact ⟨.ref _, upd H g.objs.size (.lst ws), J.laid (t' := s.toks) keep hsz ⟨hlen, out, ce, h5, hce⟩, rfl, q _ _ h6 (J.hok.fresh hsz)⟩
def sortT : List D → Option (List D)
  | [.tup ds] => sortL ds
  | _ => none
theorem cf_sortT : CaF G (rSortT G) sortT := fun I H xs as es Q s da e k => by
  unfold sortT at e
  split at e
  · rename_i ds
    obtain ⟨v, rfl, h⟩ := DVs.one.mp da
    unfold DV at h
    obtain ⟨q, vs, rfl, h1, h2⟩ := h
    unfold sortL at e
    split at e
    · rename_i ok
      injection e with e; subst e
      exact ⟨I, q, vs, ds, rfl, s, s.seqT h1, h2, ok, fun ws p hw hp => k p ws I _ (ExtN.lose s hp) hp (sub_none s hp) upd_same hw⟩
    · cases e
  · cases e
end

/-! ### a def of the module, an exception's class -/
structure Fn (P : Program) (w : World) (G : Gm) (mg : Str → Option Value) (base : Heap) (x : Str) (k : Nat) (ps : List Str) (dsvs : List (List Value)) (sp : Sp) (f : Addr) (fd : FuncData) : Prop where
  g : mg x = some (.ref f)
  kp : PySem.W.keepIn G.K (.ref f) = true
  bs : ∀ d ∈ dsvs, Binds G.K fd ps d
  ok : FnOk P w G.K mg base (L2.CX P w) k f fd ps sp
structure Xn (P : Program) (w : World) (G : Gm) (mg : Str → Option Value) (base : Heap) (n : Nat) (x : Str) (fl ps : List Str) (fI : Addr) (fd : FuncData) : Prop where
  T : OexC G.K (G.C n)
  i : PySem.W.findIn G.K (.ref (G.C n)) "__init__" = some (some (.ref fI))
  t : PySem.W.typeIn G.K (.ref fI) = some (.type "function")
  ok : FnOk P w G.K mg base (L2.CX P w) 1 fI fd ps (spI G.K (G.C n) fl)
  b : Binds G.K fd ps []
  g : mg x = some (.ref (G.C n))
  F : G.F n = fl.reverse
end Dn
namespace Dn
open PySem PySem.Spec L2
/-- a method of the n-th class -/
structure Mn (P : Program) (w : World) (G : Gm) (mg : Str → Option Value) (base : Heap) (n : Nat) (x : Str) (k : Nat) (ps : List Str) (dsvs : List (List Value)) (sp : Sp) (f : Addr) (fd : FuncData) : Prop where
  g : Meth G.K (G.C n) x f
  bs : ∀ d ∈ dsvs, Binds G.K fd ps d
  ok : FnOk P w G.K mg base (L2.CX P w) k f fd ps sp
/-- how an instance of the n-th class is made -/
structure In (P : Program) (w : World) (G : Gm) (mg : Str → Option Value) (base : Heap) (n : Nat) (x : Str) (k : Nat) (ps : List Str) (dsvs : List (List Value)) (sp : Sp) (f : Addr) (fd : FuncData) : Prop where
  gc : mg x = some (.ref (G.C n))
  mkc : L2.Mk G.K (G.C n) f
  bs : ∀ d ∈ dsvs, Binds G.K fd ps d
  ok : FnOk P w G.K mg base (L2.CX P w) k f fd ps sp
theorem dvs1 {G : Gm} {I : Hp} {d : D} {v : V} {ds : List D} {vs : List V} (h : DV G I d v) (t : DVs G I ds vs) : DVs G I (d :: ds) (v :: vs) := by
  unfold DVs
  exact ⟨v, vs, rfl, h, t⟩
end Dn
end
section
set_option Elab.async false
set_option linter.all false
set_option maxRecDepth 100000
set_option maxHeartbeats 400000
namespace Dn
open PySem PySem.Spec L2
/-! ### x op= e -/
section
variable {X : Cx} {G : Gm} {W : XK} {e : Expr} {es : List Expr} {te : TE} {tr : TA} {m : KE} {ml : KL} {pos : Pos}
def kAug (i : Nat) (op : D → D → Option D) (m : KE) : KS := fun ρ p => do
  let x ← kVar i ρ p
  let a ← m ρ x.2
  let d ← ofO (op x.1 a.1)
  pure (.nx, ρ.set i (.val d), a.2)
theorem es_aug {i : Nat} {r : R2} {op : D → D → Option D} (ho : OpD G r op) (h : EvE G W m te) : EvS G W (kAug i op m) (tAug i te r) := .of fun c p ρ σ I H E n k => by
  have k := Pst.bind.mp k
  refine ev_var (W := W) c p ρ σ I H (fun x H1 => te σ H1 fun y H2 => r x y H2 fun z H3 => E.nx (σ.set i (some z)) H3) n (k.mono (fun _ _ z => z) fun x hx v I1 H1 e1 d1 => ?_)
  have n1 := n.step e1
  refine h c x.2 ρ σ I1 H1 _ n1 ((Pst.bind.mp hx).mono (fun _ _ z => z) fun y hy w I2 H2 e2 d2 => ?_)
  obtain ⟨d, ed, k2⟩ := Pst.ofO (Pst.bind.mp hy)
  have n2 := n1.step e2
  refine ho I2 H2 v w x.1 y.1 d _ n2.sub (d1.mono e2.grow) d2 ed fun u I3 H3 e3 d3 => ?_
  have n3 := n2.step (e3.to (p := y.2) n2.pen)
  exact (show ∀ σ' I' H', Now G c y.2 (ρ.set i (.val d)) σ' I' H' → Sub I I' → E.nx σ' H' from k2) _ I3 H3 (n3.setV d3) ((e1.grow.trans e2.grow).trans e3.grow)
theorem ms_aug (i : Nat) {x : Str} {px : Pos} {o : Operator} {r : R2} {op : D → D → Option D} (hp : OpR X (inplaceOp o) r) (ho : OpD G r op) (h : ME X G W e te m) (hN : X.N.Nodup) (hi : X.N[i]? = some x := by rfl) (hx : Loc X.env.scope x := by first | exact Or.inl rfl | exact Or.inr rfl)
    (hf : X.fn x = true ∨ X.env.scope.names.lookup x = some .local := by first | exact .inl rfl | exact .inr rfl) : MS X G W (.AugAssign (.Name x px) o e pos) (tAug i te r) (kAug i op m) :=
  ⟨ps_aug hN hi hx h.pe hp hf, es_aug ho h.ev⟩
def addI := intOp fun i j => some (.int (i + j))
theorem od_addI : OpD G (rI0 fun i j => .int (i + j)) addI := od_int0 fun _ _ _ => dv_int
end

/-! ### self.a, self.b, .. = e1, e2, .. -/
theorem wp_attr {M : Model} {A : Around} {E : Value → Shared → Prop} {s : Shared} {env : Env} {o : Expr} {attr : Str} {pos' : Pos} {v : Value} {Q : Unit → Shared → Prop}
    (h : wpAny M A (eval o env) (fun ov s₂ => wpAny M A (setAttr ov attr v) Q E s₂) E s) : wpAny M A (assign (.Attribute o attr pos') env v) Q E s := fun Γ p hΓ => by
  simp only [assign_Attribute, Sem.wp_bind', Sem.wp_holding, Sem.wp_cmd_standAt, Sem.wp_release, Sem.wp_pure']
  exact Sem.wp_mono M Γ _ (fun ov _ s₂ h₂ => Sem.wp_mono M Γ _ (fun _ _ _ z => z) (fun _ _ _ z => z) _ _ (h₂ Γ _ hΓ)) (fun _ _ _ z => z) _ _ (h Γ _ hΓ)
def gFld (K : PySem.W.Frag) (i : Nat) (k : Str) : TG := fun v σ H Q => ∃ a C dx fs, σ[i]? = some (some (.ref a)) ∧ H a = some (.ins C dx fs) ∧ Cls K C ∧ NoAttr K C k ∧ fs.length < 1000 ∧ Q σ (upd H a (.ins C dx (putF k v fs)))
def gFlds (K : PySem.W.Frag) (i : Nat) : List Str → TGs
  | [] => gNil
  | k :: ks => gCons (gFld K i k) (gFlds K i ks)
section
variable {X : Cx} {G : Gm} {W : XK} {e : Expr} {es : List Expr} {te : TE} {tr : TA} {m : KE} {ml : KL} {pos : Pos}
theorem pg_fld {i : Nat} {k x : Str} {px p' : Pos} (h : PE X (.Name x px) (tVar i)) : PG X (.Attribute (.Name x px) k p') (gFld X.K i k) := ⟨fun pins s σ H v u Q I r hw => by
  obtain ⟨a, C, dx, fs, h1, ha, c, n, l, q⟩ := hw
  refine wp_attr (thn (h.run pins s σ H (fun y H' => y = .ref a ∧ H' = H) I ⟨_, h1, rfl, rfl⟩) fun ov s2 ⟨y, H2, I2, ry, ey, eh⟩ => ?_)
  subst ey eh
  obtain rfl : ov = Value.ref a := ry
  exact setattr_ok I2 ha c n l r fun s3 I3 => ⟨σ, _, I3, q⟩⟩
structure FT (X : Cx) (i : Nat) (es : List Expr) (ks : List Str) : Prop where
  pg : PGs X es (gFlds X.K i ks)
theorem ft_nil {i : Nat} : FT X i [] [] := ⟨pgs_nil⟩
theorem ft_cons {i : Nat} {k x : Str} {px p' : Pos} {ks : List Str} (t : FT X i es ks) (hN : X.N[i]? = some x := by rfl) (hv : Vis X.env.scope x := by first | exact Or.inl rfl | exact Or.inr (Or.inl rfl) | exact Or.inr (Or.inr rfl)) (hd : (x == ("__debug__" : Str)) = false := by decide) (hcd : (x == ("__classdict__" : Str)) = false := by decide)
    (hs : (assignEach (.Attribute (.Name x px) k p' :: es) X.env).map (·.2) = assign (.Attribute (.Name x px) k p') X.env :: (assignEach es X.env).map (·.2) := by rfl) : FT X i (.Attribute (.Name x px) k p' :: es) (k :: ks) := ⟨pgs_cons (pg_fld (pe_var hN hv hd hcd)) t.pg hs⟩
def putAll : List Str → List D → List (Str × D) → List (Str × D)
  | k :: ks, d :: ds, fs => putAll ks ds (putD k d fs)
  | _, _, fs => fs
theorem putD_len (k : Str) (d : D) : ∀ fs : List (Str × D), (putD k d fs).length ≤ fs.length + 1
  | [] => Nat.le_refl _
  | (g, x) :: r => by
    show (if g = k then (g, d) :: r else (g, x) :: putD k d r).length ≤ _
    by_cases h : g = k
    · rw [if_pos h]
      simp
    · rw [if_neg h]
      have := putD_len k d r
      simp only [List.length_cons] at *
      omega
theorem run_flds {nn i : Nat} {al : List Str} (hO : ObC G nn al) {c : Ctx} {ρ : List Sl} {σ : L2.St} {I : Hp} (hs : ρ[i]? = some .pen) : ∀ (ks : List Str) (ds : List D) (vs : List V) (fs : List (Str × D)) (H : Hp) (Q : L2.St → Hp → Prop), (∀ k ∈ ks, k ∈ al) → Now G c (.ob nn fs) ρ σ I H → DVs G I ds vs → ds.length = ks.length → (ds.all isSca) = true → fs.length + ks.length < 1000 →
    (∀ H', Now G c (.ob nn (putAll ks ds fs)) ρ σ I H' → Q σ H') → gFlds G.K i ks vs σ H Q
  | [], ds, vs, fs, H, Q, _, n, d, hl, _, _, q => by
    have hz : ds = [] := List.length_eq_zero_iff.mp hl
    subst hz
    exact ⟨DVs.nil.mp d, q H n⟩
  | k :: ks, [], vs, fs, H, Q, _, n, d, hl, _, _, q => by cases hl
  | k :: ks, d0 :: ds, vs, fs, H, Q, hk, n, d, hl, hsc, hz, q => by
    unfold DVs at d
    obtain ⟨v, r, rfl, h1, h2⟩ := d
    rw [List.all_cons] at hsc
    obtain ⟨s1, s2⟩ := Bool.and_eq_true_iff.mp hsc
    obtain ⟨a, cc, hP, ha⟩ := n.rel i _ hs
    have pa := n.pen a cc hP
    obtain ⟨_, _, _, hC⟩ := n.hid a cc hP
    have hd := pa.d
    unfold penA at hd
    rw [hC] at hd
    rw [List.length_cons] at hz
    refine ⟨v, r, rfl, a, _, _, _, ha, hd, hO.cls, hO.no k (hk k List.mem_cons_self), by unfold fsV; rw [List.length_map]; omega, ?_⟩
    have e2 : penA cc (.ob nn (putD k d0 fs)) = .ins (G.C nn) cc.1 (putF k v (fsV fs)) := by
      show HO.ins (cc.2 nn) cc.1 (fsV (putD k d0 fs)) = _
      rw [putD_V, dv_scaV s1 h1, hC]
    rw [← e2]
    have hb := putD_len k d0 fs
    exact run_flds hO hs ks ds r (putD k d0 fs) _ Q (fun x hx => hk x (List.mem_cons_of_mem _ hx)) (n.penSet hP (putD_sca s1 pa.s) rfl) h2 (by simpa using hl) s2 (by omega) q
def kFlds (i nn : Nat) (ks : List Str) (ml : KL) : KS := fun ρ p => do
  let a ← ml ρ p
  match ρ[i]?, a.2 with
  | some .pen, .ob n fs => if n = nn ∧ a.1.length = ks.length ∧ a.1.length ≤ sizeLine ∧ (a.1.all isSca) = true ∧ fs.length + ks.length < 1000 then pure (.nx, ρ, .ob n (putAll ks a.1 fs)) else .error .stuck
  | _, _ => .error .stuck
theorem es_flds {i nn : Nat} {ks al : List Str} (hO : ObC G nn al) (hk : ∀ k ∈ ks, k ∈ al) (h : EvA G W ml tr) : EvS G W (kFlds i nn ks ml) (tAsg (tTup tr) (gTup G.K ks.length (gFlds G.K i ks))) := .of fun c p ρ σ I H E n kk => by
  refine h c p ρ σ I H _ n ((Pst.bind.mp kk).mono (fun _ _ z => z) fun y hy vs I1 H1 e1 d1 => ?_)
  have n1 := n.step e1
  obtain ⟨ds, p1⟩ := y
  cases hs : ρ[i]? with
  | none => rw [hs] at hy; exact False.elim hy
  | some sl =>
    rw [hs] at hy
    cases sl with
    | pen =>
      cases p1 with
      | pn c1 c2 c3 c4 c5 => exact False.elim hy
      | ob n0 fs =>
        obtain ⟨⟨hn, hl, hz, hsc, hz2⟩, h2⟩ := Pst.ite' (show Pst (if n0 = nn ∧ ds.length = ks.length ∧ ds.length ≤ sizeLine ∧ (ds.all isSca) = true ∧ fs.length + ks.length < 1000 then pure (Fl.nx, ρ, Pen.ob n0 (putAll ks ds fs)) else .error .stuck) _ (Fin G c I E) from hy)
        clear hy
        subst hn
        have d1 : DVs G I1 ds vs := d1
        refine ⟨by rw [d1.length]; exact hz, fun q hq => ?_⟩
        have e2 := ExtN.lay (o := .tup vs) n1.sub hq
        have n2 := n1.step (e2.to n1.pen)
        refine ⟨q, vs, rfl, SqT.of upd_same, by rw [d1.length]; exact hl, ?_⟩
        exact run_flds hO hs ks ds vs fs _ _ hk n2 (DVs.mono e2.grow d1) hl hsc hz2 fun H' n3 => (show ∀ σ' I' H', Now G c (.ob n0 (putAll ks ds fs)) ρ σ' I' H' → Sub I I' → E.nx σ' H' from h2) σ _ H' n3 (e1.grow.trans e2.grow)
    | _ => exact False.elim hy
theorem ms_flds (i nn : Nat) {ks al : List Str} {ts : List Expr} {kt kv : Nat} {pt pv : Pos} (hO : ObC G nn al) (ht : FT X i ts ks) (h : MA X G W es tr ml) (hk : ∀ k ∈ ks, k ∈ al := by decide) (hK : X.K = G.K := by rfl) (hc : X.calm = true := by rfl)
    (hn : (assignEach ts X.env).length = ks.length := by rfl) (hst : (assignEach ts X.env).findIdx? (·.1) = none := by rfl)
    (hs : swapsWithSole [.Tuple ts kt pt] (.Tuple es kv pv) pos.line X.env = pure false := by rfl) (hw : swappedStores [.Tuple ts kt pt] (.Tuple es kv pv) X.env = pure none := by rfl)
    (h1 : (assignEach [.Tuple ts kt pt] X.env).map (·.2) = [assign (.Tuple ts kt pt) X.env] := by rfl) :
    MS X G W (.Assign [.Tuple ts kt pt] (.Tuple es kv pv) pos) (tAsg (tTup tr) (gTup X.K ks.length (gFlds X.K i ks))) (kFlds i nn ks ml) :=
  ⟨ps_asg (pe_tup h.pa) (pg_tup hc ht.pg hn hst) hs hw h1, by rw [hK]; exact es_flds hO hk h.ev⟩
end
/-! ### what only goes on -/
def Nx (b : KS) : Prop := ∀ ρ p r, b ρ p = .ok r → r.1 = .nx
theorem nx_seq {a b : KS} (ha : Nx a) (hb : Nx b) : Nx (kSeq a b) := fun ρ p r e => by
  unfold kSeq at e
  cases e1 : a ρ p with
  | error z => rw [e1] at e; cases e
  | ok z =>
    have hz := ha _ _ _ e1
    obtain ⟨f, ρ1, p1⟩ := z
    have hz : f = .nx := hz
    subst hz
    rw [e1] at e
    exact hb _ _ _ e
theorem nx_fldS {i nn : Nat} {k : Str} {m : KE} : Nx (kFldS i nn k m) := fun ρ p r e => by
  unfold kFldS at e
  cases e1 : m ρ p with
  | error z => rw [e1] at e; cases e
  | ok z =>
    rw [e1] at e
    have e : (match ρ[i]?, z.2 with
      | some .pen, .ob n fs => if n = nn ∧ isSca z.1 = true ∧ fs.length < 1000 then (pure (.nx, ρ, .ob n (putD k z.1 fs)) : R (Fl × List Sl × Pen)) else .error .stuck
      | _, _ => .error .stuck) = .ok r := e
    split at e
    · split at e
      · cases e; rfl
      · cases e
    · cases e
end Dn
end
section
set_option Elab.async false
set_option linter.all false
set_option maxRecDepth 100000
set_option maxHeartbeats 400000
namespace Dn
open PySem PySem.Spec L2
/-! ### comprehensions whose readings are told block by block -/
/-- what may be told of a block -/
abbrev BT' (α : Type) : Type := Shared → Hp → Addr → List (Str × Addr) → List Addr → α
/-- it is the same in all blocks -/
abbrev Same {α : Type} (X : Cx) (t : BT' α) : Prop := ∀ s H C cl fp, t s H C cl fp = t X.s_0 X.H_0 default [] []
abbrev BlkT {α : Type} (X : Cx) (sc : Scope) (Pr : Cx → α → Prop) (t : BT' α) : Prop := ∀ (s : Shared) (H : Hp) (C : Addr) (cl : List (Str × Addr)) (fp : List Addr), Pr (X.blk s H sc (compEnvC sc cl C X.env) fp) (t s H C cl fp)
theorem blkT {α : Type} {X : Cx} {sc : Scope} {Pr : Cx → α → Prop} {t : BT' α} (h : BlkT X sc Pr t) (e : Same X t) : BlkE X sc fun Y => Pr Y (t X.s_0 X.H_0 default [] []) := fun s H C cl fp => by
  rw [← e s H C cl fp]
  exact h s H C cl fp
section
variable {X : Cx} {G : Gm} {W : XK} {tg iter elt tg1 iter1 : Expr} {ifs ifs1 : List Expr} {te : BT' TE} {tt tt1 : BT' TT} {m : KE} {mt mt1 : KB} {pos : Pos} {g g1 : BT' TG} {is is1 : List Nat} {mg mg1 : KG} {wi : TI} {wi1 : BT' TI} {mi mi1 : KL}
theorem mf_lcD {scope : Scope} (own : List (Str × Nat)) (hN : X.N.Nodup) (hi : MI X G W tg iter wi mi) (ok : blkC X.N X.env.scope scope own = true)
    (hg : BlkT X scope (fun Y t => MG Y G tg t is mg) g) (ht : BlkT X scope (fun Y t => MTs Y G xNo ifs t mt) tt) (he : BlkT X scope (fun Y t => ME Y G xNo elt t m) te) (eg : Same X g := by intro _ _ _ _ _; rfl) (et : Same X tt := by intro _ _ _ _ _; rfl) (ee : Same X te := by intro _ _ _ _ _; rfl)
    (hv : ∀ i ∈ is, i ∈ own.map (·.2) := by decide) (hc : X.calm = true := by rfl) (hs : ∀ x, foldedSetIterable iter X.env x = pure x := by intro _; rfl) :
    MF X G W (.ListComp elt [⟨tg, iter, ifs, 0⟩] scope pos) (tLc wi (g X.s_0 X.H_0 default [] []) (tt X.s_0 X.H_0 default [] []) (te X.s_0 X.H_0 default [] []) (own.map (·.2))) (kLc (own.map (·.2)) mi mg mt m) :=
  mf_lc own hN hi ok (blkT hg eg) (blkT ht et) (blkT he ee) hv hc hs
theorem ms_setLcD (i : Nat) {y : Str} {py spos : Pos} {scope : Scope} (own : List (Str × Nat)) (hN : X.N.Nodup) (hi : MI X G W tg iter wi mi) (ok : blkC X.N X.env.scope scope own = true)
    (hg : BlkT X scope (fun Y t => MG Y G tg t is mg) g) (ht : BlkT X scope (fun Y t => MTs Y G xNo ifs t mt) tt) (he : BlkT X scope (fun Y t => ME Y G xNo elt t m) te) (hsw : swapsWith (.ListComp elt [⟨tg, iter, ifs, 0⟩] scope pos) (some (.Name y py)) spos.line X.env = pure true)
    (eg : Same X g := by intro _ _ _ _ _; rfl) (et : Same X tt := by intro _ _ _ _ _; rfl) (ee : Same X te := by intro _ _ _ _ _; rfl)
    (hy : X.N[i]? = some y := by rfl) (hyl : X.env.scope.names.lookup y = some .local := by rfl) (hv : ∀ i ∈ is, i ∈ own.map (·.2) := by decide) (hc : X.calm = true := by rfl) (hs : ∀ x, foldedSetIterable iter X.env x = pure x := by intro _; rfl) :
    MS X G W (.Assign [.Name y py] (.ListComp elt [⟨tg, iter, ifs, 0⟩] scope pos) spos) (tAsg (tLc wi (g X.s_0 X.H_0 default [] []) (tt X.s_0 X.H_0 default [] []) (te X.s_0 X.H_0 default [] []) (own.map (·.2))) (gName i)) (kAsgF i (kLc (own.map (·.2)) mi mg mt m)) :=
  ms_setLc i own hN hi ok (blkT hg eg) (blkT ht et) (blkT he ee) hsw hy hyl hv hc hs
theorem mf_lc2D {scope : Scope} (own : List (Str × Nat)) (vs1 : List Nat) (hN : X.N.Nodup) (hi : MI X G W tg iter wi mi) (ok : blkC X.N X.env.scope scope own = true)
    (hg : BlkT X scope (fun Y t => MG Y G tg t is mg) g) (ht : BlkT X scope (fun Y t => MTs Y G xNo ifs t mt) tt) (hi1 : BlkT X scope (fun Y t => MI Y G xNo tg1 iter1 t mi1) wi1) (hg1 : BlkT X scope (fun Y t => MG Y G tg1 t is1 mg1) g1) (ht1 : BlkT X scope (fun Y t => MTs Y G xNo ifs1 t mt1) tt1) (he : BlkT X scope (fun Y t => ME Y G xNo elt t m) te)
    (eg : Same X g := by intro _ _ _ _ _; rfl) (et : Same X tt := by intro _ _ _ _ _; rfl) (ei : Same X wi1 := by intro _ _ _ _ _; rfl) (eg1 : Same X g1 := by intro _ _ _ _ _; rfl) (et1 : Same X tt1 := by intro _ _ _ _ _; rfl) (ee : Same X te := by intro _ _ _ _ _; rfl)
    (hvs : ∀ i ∈ vs1, i ∈ own.map (·.2) := by decide) (hv : ∀ i ∈ is, i ∈ own.map (·.2) := by decide) (hv1 : ∀ i ∈ is1, i ∈ vs1 := by decide) (hc : X.calm = true := by rfl) (hs : ∀ x, foldedSetIterable iter X.env x = pure x := by intro _; rfl) (hs1 : ∀ env x, foldedSetIterable iter1 env x = pure x := by intro _ _; rfl) :
    MF X G W (.ListComp elt [⟨tg, iter, ifs, 0⟩, ⟨tg1, iter1, ifs1, 0⟩] scope pos) (tLc2 wi (g X.s_0 X.H_0 default [] []) (tt X.s_0 X.H_0 default [] []) (wi1 X.s_0 X.H_0 default [] []) (g1 X.s_0 X.H_0 default [] []) (tt1 X.s_0 X.H_0 default [] []) (te X.s_0 X.H_0 default [] []) (own.map (·.2)) vs1) (kLc2 (own.map (·.2)) vs1 mi mg mt mi1 mg1 mt1 m) :=
  mf_lc2 own vs1 hN hi ok (blkT hg eg) (blkT ht et) (blkT hi1 ei) (blkT hg1 eg1) (blkT ht1 et1) (blkT he ee) hvs hv hv1 hc hs hs1
theorem ms_setLc2D (i : Nat) {y : Str} {py spos : Pos} {scope : Scope} (own : List (Str × Nat)) (vs1 : List Nat) (hN : X.N.Nodup) (hi : MI X G W tg iter wi mi) (ok : blkC X.N X.env.scope scope own = true)
    (hg : BlkT X scope (fun Y t => MG Y G tg t is mg) g) (ht : BlkT X scope (fun Y t => MTs Y G xNo ifs t mt) tt) (hi1 : BlkT X scope (fun Y t => MI Y G xNo tg1 iter1 t mi1) wi1) (hg1 : BlkT X scope (fun Y t => MG Y G tg1 t is1 mg1) g1) (ht1 : BlkT X scope (fun Y t => MTs Y G xNo ifs1 t mt1) tt1) (he : BlkT X scope (fun Y t => ME Y G xNo elt t m) te)
    (hsw : swapsWith (.ListComp elt [⟨tg, iter, ifs, 0⟩, ⟨tg1, iter1, ifs1, 0⟩] scope pos) (some (.Name y py)) spos.line X.env = pure true)
    (eg : Same X g := by intro _ _ _ _ _; rfl) (et : Same X tt := by intro _ _ _ _ _; rfl) (ei : Same X wi1 := by intro _ _ _ _ _; rfl) (eg1 : Same X g1 := by intro _ _ _ _ _; rfl) (et1 : Same X tt1 := by intro _ _ _ _ _; rfl) (ee : Same X te := by intro _ _ _ _ _; rfl)
    (hy : X.N[i]? = some y := by rfl) (hyl : X.env.scope.names.lookup y = some .local := by rfl)
    (hvs : ∀ i ∈ vs1, i ∈ own.map (·.2) := by decide) (hv : ∀ i ∈ is, i ∈ own.map (·.2) := by decide) (hv1 : ∀ i ∈ is1, i ∈ vs1 := by decide) (hc : X.calm = true := by rfl) (hs : ∀ x, foldedSetIterable iter X.env x = pure x := by intro _; rfl) (hs1 : ∀ env x, foldedSetIterable iter1 env x = pure x := by intro _ _; rfl) :
    MS X G W (.Assign [.Name y py] (.ListComp elt [⟨tg, iter, ifs, 0⟩, ⟨tg1, iter1, ifs1, 0⟩] scope pos) spos) (tAsg (tLc2 wi (g X.s_0 X.H_0 default [] []) (tt X.s_0 X.H_0 default [] []) (wi1 X.s_0 X.H_0 default [] []) (g1 X.s_0 X.H_0 default [] []) (tt1 X.s_0 X.H_0 default [] []) (te X.s_0 X.H_0 default [] []) (own.map (·.2)) vs1) (gName i)) (kAsgF i (kLc2 (own.map (·.2)) vs1 mi mg mt mi1 mg1 mt1 m)) :=
  ms_setLc2 i own vs1 hN hi ok (blkT hg eg) (blkT ht et) (blkT hi1 ei) (blkT hg1 eg1) (blkT ht1 et1) (blkT he ee) hsw hy hyl hvs hv hv1 hc hs hs1
end
/-! ### pen["cells"][e] -/
section
variable {X : Cx} {G : Gm} {W : XK} {b : Expr} {tb : TE} {mb : KE} {pos ps kp : Pos} {x : Str}
theorem ev_ixC {i : Nat} (hb : EvE G W mb tb) : EvE G W (kIxL (kCells i) mb) (tOp (rIx G.K) (tDGet (tVar i) (tC (.str "cells"))) tb) := fun c p ρ σ I H Q n kk => by
  have k0 := Pst.bind.mp kk
  clear kk
  unfold kCells at k0
  split at k0
  · rename_i cs a1 a2 a3 a4 hs
    obtain ⟨a, cc, hP, h1⟩ := n.rel i _ hs
    have pa := n.pen a cc hP
    refine ⟨.ref a, h1, a, .ref cc.1, rfl, DGet.k (k := .inr "cells") pa.d, ?_⟩
    have k : Pst (mb ρ (.pn cs a1 a2 a3 a4) >>= fun b => ofO (ixD (.lst (cs.map D.int)) b.1) >>= fun d => pure (d, b.2)) _ _ := k0
    refine hb c _ ρ σ I H _ n ((Pst.bind.mp k).mono (fun _ _ z => z) fun y hy w I2 H2 e2 d2 => ?_)
    obtain ⟨d, ed, k⟩ := Pst.ofO (Pst.bind.mp hy)
    obtain ⟨y1, p2⟩ := y
    have keep : H2 cc.1 = some (.lst (cs.map V.int)) := e2.keep.at_ cc.1 _ (fun a' cc' z => by
      rw [hP] at z
      cases z
      exact pa.ne) (fun _ z => by cases z) pa.c
    unfold ixD at ed
    split at ed
    · rename_i e1 _; cases e1
    · rename_i xs j e1 ej
      cases e1
      simp only at ej
      have d2 : DV G I2 y1 w := d2
      rw [ej] at d2
      unfold DV at d2
      subst d2
      obtain ⟨v, h6, h7⟩ := (dvs_ints (I := I2) (G := G) cs).at ed
      exact .inl ⟨cc.1, _, _, v, rfl, rfl, SqL.of keep, h6, k v I2 H2 e2 h7⟩
    · rename_i e1 _; cases e1
    · cases ed
  · exact False.elim k0
theorem me_ixC (i : Nat) {px : Pos} {j : Nat} (hu : X.A.units + 1 < cLine) (hb : ME X G W b tb mb) (hk : X.K = G.K := by rfl) (hs : PlainIx b := by exact fun _ _ => rfl) (hN : X.N[i]? = some x := by rfl) (hv : Vis X.env.scope x := by first | exact Or.inl rfl | exact Or.inr (Or.inl rfl) | exact Or.inr (Or.inr rfl)) (hd : (x == ("__debug__" : Str)) = false := by decide) (hcd : (x == ("__classdict__" : Str)) = false := by decide) :
    ME X G W (.Subscript (.Subscript (.Name x px) (.Constant (.str "cells") j kp) ps) b pos) (tOp (rIx X.K) (tDGet (tVar i) (tC (.str "cells"))) tb) (kIxL (kCells i) mb) :=
  ⟨pe_ix ix_seq (pe_dget hu (pe_var hN hv hd hcd) pe_str (by intro _ _; rfl)) hb.pe hs, by rw [hk]; exact ev_ixC hb.ev⟩
end
end Dn
end
section
set_option Elab.async false
set_option linter.all false
set_option maxRecDepth 100000
set_option maxHeartbeats 4000000
namespace K60
open PySem PySem.Spec L2 Dn PyProof.Rows
def top (i : Nat) : Stmt := PySem.Challenge.pw_howevermany_k60_whole_logs_of_renumbered.main.body.getD i (.Pass ⟨0, 0, 0, 0⟩)
def clsB : Stmt → List Stmt
  | .ClassDef _ _ _ body _ _ _ _ _ _ _ => body
  | _ => []
def mtd (s : Stmt) (j : Nat) : Stmt := (clsB s).getD j (.Pass ⟨0, 0, 0, 0⟩)
def sizes : List (Str × D) := [("meet", .int 5), ("shout", .int 4), ("hear", .int 4)]
def obF : List Str := ["size", "shouter", "letter", "last"]
/-- the names of the module -/
structure Gs (w : World) (G : Gm) (mg : Str → Option Value) : Prop where
  n_isinstance : mg "isinstance" = none
  n_int : mg "int" = none
  n_bool : mg "bool" = none
  n_str : mg "str" = none
  n_tuple : mg "tuple" = none
  n_list : mg "list" = none
  n_len : mg "len" = none
  n_all : mg "all" = none
  n_range : mg "range" = none
  n_sorted : mg "sorted" = none
  n_set : mg "set" = none
  n_zip : mg "zip" = none
  n_enumerate : mg "enumerate" = none
  n_repr : mg "repr" = none
  c_LONGEST : ∃ t, mg "LONGEST" = some (.int 12 t)
  c_MOST_SIZE : ∃ t, mg "MOST_SIZE" = some (.int 30 t)
  c_FIGURES : ∃ t, mg "FIGURES" = some (.str "0123456789" t)
  c_LETTERS : ∃ t, mg "LETTERS" = some (.str "abcdefghijklmnopqrstuvwxyz" t)
  t_SIZES : ∃ a, mg "SIZES" = some (.ref a) ∧ TabD G.K w a sizes
  ob : ObC G 11 obF
  cls : Cls G.K (G.C 11)
end K60
end
section
set_option Elab.async false
set_option linter.all false
set_option maxRecDepth 100000
set_option maxHeartbeats 4000000
namespace K60
open PySem PySem.Spec L2 Dn PyProof.Rows
def N_is_whole : List Str := ["value", "least", "most"]
def b_is_whole : KS := (kSeq (kIfS (kOrB (kNotB (kT (kIsi .int (kVar 0)))) (kOrB (kT (kIsi .bool (kVar 0))) (kT (kOp ltD (kVar 0) (kVar 1))))) (kRet (kC (.bl false))) kNext) (kRet (kOrV (kOp isD (kVar 2) (kC .non)) (kOp leD (kVar 0) (kVar 2)))))
def m_is_whole : KF := mFn 3 b_is_whole
theorem d_is_whole {P : Program} {w : World} {G : Gm} {mg : Str → Option Value} {base : Heap} {f : Addr} (E : Gs w G mg)   : BdyE P w G.K mg base 0 f "is_whole" (defScope (top 15)) ["value", "least", "most"] fun X W => ∃ t, MB X G W (defBody (top 15)) t b_is_whole := by
  intro cdv A outer s H W hr
  have hN : (["value", "least", "most"] : List Str).Nodup := by decide
  exact ⟨_, (mb_cons (ms_if (mw_or (mt_not (mt_val (me_isi .int (me_var 0) rfl E.n_isinstance boot_int E.n_int))) (mw_or (mt_val (me_isi .bool (me_var 0) rfl E.n_isinstance boot_bool E.n_bool)) (mw_or1 (mt_cmp op_lt od_lt (me_var 0) (me_var 1))))).pt (mb_one (ms_ret me_bl)) mb_nil) (mb_one (ms_ret (me_or (me_cmp op_isA od_is (me_var 2) me_non) (me_one (me_cmp op_le od_le (me_var 0) (me_var 2)))))))⟩
def N_is_name : List Str := ["value", "sign"]
def b_is_name : KS := (kSeq (kIfS (kOrB (kNotB (kT (kIsi .str (kVar 0)))) (kOrB (kNotB (kT (kChain leD leD (kC (.int 1)) (kCa lenD (kCons (kVar 0) kNil)) (kC (.int 12))))) (kT (kOp notInD (kOp ixD (kVar 0) (kC (.int 0))) (kC (.str "abcdefghijklmnopqrstuvwxyz")))))) (kRet (kC (.bl false))) kNext) (kRet (kCa allL (kLc [1] (kSgn (kVar 0)) (gkN 1) kYes (kOrV (kOp inD (kVar 1) (kC (.str "abcdefghijklmnopqrstuvwxyz"))) (kOp inD (kVar 1) (kC (.str "0123456789"))))))))
def m_is_name : KF := mFn 2 b_is_name
theorem d_is_name {P : Program} {w : World} {G : Gm} {mg : Str → Option Value} {base : Heap} {f : Addr} (E : Gs w G mg)   : BdyE P w G.K mg base 0 f "is_name" (defScope (top 20)) ["value", "sign"] fun X W => ∃ t, MB X G W (defBody (top 20)) t b_is_name := by
  intro cdv A outer s H W hr
  obtain ⟨_, c_FIGURES⟩ := E.c_FIGURES
  obtain ⟨_, c_LETTERS⟩ := E.c_LETTERS
  obtain ⟨_, c_LONGEST⟩ := E.c_LONGEST
  have hN : (["value", "sign"] : List Str).Nodup := by decide
  exact ⟨_, (mb_cons (ms_if (mw_or (mt_not (mt_val (me_isi .str (me_var 0) rfl E.n_isinstance boot_str E.n_str))) (mw_or (mt_not (mt_chain op_le od_le op_le od_le me_int (me_callB call_lenA cd_len boot_len E.n_len (ma_cons (me_var 0) ma_nil)) (me_gI c_LONGEST))) (mw_or1 (mt_cmp (op_notInA hr.u65) od_notIn (me_ix (me_var 0) me_int) (me_gS c_LETTERS))))).pt (mb_one (ms_ret me_bl)) mb_nil) (mb_one (ms_ret (me_callBL (cr_all rfl) cl_all boot_all E.n_all (mf_lcD [("sign", 1)] hN (mi_sgn (me_var 0)) rfl (fun s H C cl fp => (mg_name 1 hN)) (fun s H C cl fp => mts_nil) (fun s H C cl fp => (me_or (me_cmp (op_inA hr.u65) od_in (me_var 1) (me_gS c_LETTERS)) (me_one (me_cmp (op_inA hr.u65) od_in (me_var 1) (me_gS c_FIGURES)))))).list))))⟩
def N_is_head : List Str := ["value"]
def b_is_head : KS := (kSeq (kIfS (kOrB (kNotB (kT (kIsi .tuple (kVar 0)))) (kOrB (kT (kOp neD (kCa lenD (kCons (kVar 0) kNil)) (kC (.int 2)))) (kNotB (kT (kCall 3 m_is_whole [] (kCons (kOp ixD (kVar 0) (kC (.int 1))) (kCons (kC (.int 1)) (kCons (kC (.int 30)) kNil)))))))) (kRet (kC (.bl false))) kNext) (kRet (kAndV (kIsi .str (kOp ixD (kVar 0) (kC (.int 0)))) (kOp eqD (kOp ixD (kVar 0) (kC (.int 0))) (kC (.str "crowd"))))))
def m_is_head : KF := mFn 1 b_is_head
theorem d_is_head {P : Program} {w : World} {G : Gm} {mg : Str → Option Value} {base : Heap} {f : Addr} (E : Gs w G mg) {fa_is_whole : Addr} {fd_is_whole : FuncData} (D_is_whole : Fn P w G mg base "is_whole" 1 ["value", "least", "most"] [[], [.none]] (spP G 3 m_is_whole) fa_is_whole fd_is_whole)  : BdyE P w G.K mg base 1 f "is_head" (defScope (top 24)) ["value"] fun X W => ∃ t, MB X G W (defBody (top 24)) t b_is_head := by
  intro cdv A outer s H W hr
  obtain ⟨_, c_MOST_SIZE⟩ := E.c_MOST_SIZE
  have hN : (["value"] : List Str).Nodup := by decide
  exact ⟨_, (mb_cons (ms_if (mw_or (mt_not (mt_val (me_isi .tuple (me_var 0) rfl E.n_isinstance boot_tuple E.n_tuple))) (mw_or (mt_cmp (op_neAll hr.u64) od_ne (me_callB call_lenA cd_len boot_len E.n_len (ma_cons (me_var 0) ma_nil)) me_int) (mw_or1 (mt_not (mt_val (me_call D_is_whole.ok (hr.mono (by decide)) D_is_whole.g D_is_whole.kp (D_is_whole.bs [] (by simp)) .nil (fun _ => dvs0) (ma_cons (me_ix (me_var 0) me_int) (ma_cons me_int (ma_cons (me_gI c_MOST_SIZE) ma_nil))))))))).pt (mb_one (ms_ret me_bl)) mb_nil) (mb_one (ms_ret (me_and (me_isi .str (me_ix (me_var 0) me_int) rfl E.n_isinstance boot_str E.n_str) (me_one (me_cmp (op_eqAll hr.u64) od_eq (me_ix (me_var 0) me_int) me_str))))))⟩
def N_Order_is_hand : List Str := ["self", "value"]
def b_Order_is_hand : KS := (kRet (kCall 3 m_is_whole [] (kCons (kVar 1) (kCons (kC (.int 0)) (kCons (kOp subD (kFld 0 11 "size") (kC (.int 1))) kNil)))))
def m_Order_is_hand : KM := mPn 2 b_Order_is_hand
theorem d_Order_is_hand {P : Program} {w : World} {G : Gm} {mg : Str → Option Value} {base : Heap} {f : Addr} (E : Gs w G mg) {fa_is_whole : Addr} {fd_is_whole : FuncData} (D_is_whole : Fn P w G mg base "is_whole" 1 ["value", "least", "most"] [[], [.none]] (spP G 3 m_is_whole) fa_is_whole fd_is_whole)  : BdyE P w G.K mg base 1 f "Order.is_hand" (defScope (mtd (top 25) 1)) ["self", "value"] fun X W => ∃ t, MB X G W (defBody (mtd (top 25) 1)) t b_Order_is_hand := by
  intro cdv A outer s H W hr
  have hN : (["self", "value"] : List Str).Nodup := by decide
  exact ⟨_, (mb_one (ms_ret (me_call D_is_whole.ok (hr.mono (by decide)) D_is_whole.g D_is_whole.kp (D_is_whole.bs [] (by simp)) .nil (fun _ => dvs0) (ma_cons (me_var 1) (ma_cons me_int (ma_cons (me_bin op_sub od_sub (me_fld 0 11 E.ob) me_int) ma_nil))))))⟩
def N_Order_can_hear : List Str := ["self", "hand"]
def b_Order_can_hear : KS := (kRet (kAndV (kOp isNotD (kFld 0 11 "shouter") (kC .non)) (kAndV (kMeth 0 11 "is_hand" 1 m_Order_is_hand (kCons (kVar 1) kNil)) (kAndV (kOp gtD (kVar 1) (kFld 0 11 "last")) (kOp neD (kVar 1) (kFld 0 11 "shouter"))))))
def m_Order_can_hear : KM := mPn 2 b_Order_can_hear
theorem d_Order_can_hear {P : Program} {w : World} {G : Gm} {mg : Str → Option Value} {base : Heap} {f : Addr} (E : Gs w G mg) {fa_Order_is_hand : Addr} {fd_Order_is_hand : FuncData} (D_Order_is_hand : Mn P w G mg base 11 "is_hand" 2 ["self", "value"] [[]] (spM G 1 m_Order_is_hand) fa_Order_is_hand fd_Order_is_hand)  : BdyE P w G.K mg base 2 f "Order.can_hear" (defScope (mtd (top 25) 2)) ["self", "hand"] fun X W => ∃ t, MB X G W (defBody (mtd (top 25) 2)) t b_Order_can_hear := by
  intro cdv A outer s H W hr
  have hN : (["self", "hand"] : List Str).Nodup := by decide
  exact ⟨_, (mb_one (ms_ret (me_and (me_cmp op_isNotA od_isNot (me_fld 0 11 E.ob) me_non) (me_and (me_meth 0 11 E.cls D_Order_is_hand.g D_Order_is_hand.ok (hr.mono (by decide)) (D_Order_is_hand.bs [] (by simp)) (ma_cons (me_var 1) ma_nil)) (me_and (me_cmp op_gt od_gt (me_var 1) (me_fld 0 11 E.ob)) (me_one (me_cmp (op_neAll hr.u64) od_ne (me_var 1) (me_fld 0 11 E.ob))))))))⟩
def N_Order_is_event : List Str := ["self", "value"]
def b_Order_is_event : KS := (kSeq (kIfS (kOrB (kNotB (kT (kIsi .tuple (kVar 1)))) (kOrB (kT (kOp eqD (kVar 1) (kTup kNil))) (kOrB (kNotB (kT (kIsi .str (kOp ixD (kVar 1) (kC (.int 0)))))) (kT (kTIn true sizes (kOp ixD (kVar 1) (kC (.int 0)))))))) (kRet (kC (.bl false))) kNext) (kSeq (kIfS (kOrB (kT (kOp neD (kCa lenD (kCons (kVar 1) kNil)) (kTGet sizes (kOp ixD (kVar 1) (kC (.int 0)))))) (kNotB (kT (kMeth 0 11 "is_hand" 1 m_Order_is_hand (kCons (kOp ixD (kVar 1) (kC (.int 1))) kNil))))) (kRet (kC (.bl false))) kNext) (kSeq (kIfS (kT (kOp eqD (kOp ixD (kVar 1) (kC (.int 0))) (kC (.str "meet")))) (kRet (kAndV (kMeth 0 11 "is_hand" 1 m_Order_is_hand (kCons (kOp ixD (kVar 1) (kC (.int 2))) kNil)) (kAndV (kOp neD (kOp ixD (kVar 1) (kC (.int 1))) (kOp ixD (kVar 1) (kC (.int 2)))) (kAndV (kCall 1 m_is_name [] (kCons (kOp ixD (kVar 1) (kC (.int 3))) kNil)) (kCall 1 m_is_name [] (kCons (kOp ixD (kVar 1) (kC (.int 4))) kNil)))))) kNext) (kSeq (kIfS (kOrB (kNotB (kT (kCall 1 m_is_name [] (kCons (kOp ixD (kVar 1) (kC (.int 2))) kNil)))) (kNotB (kT (kCall 1 m_is_name [] (kCons (kOp ixD (kVar 1) (kC (.int 3))) kNil))))) (kRet (kC (.bl false))) kNext) (kRet (kOrV (kOp eqD (kOp ixD (kVar 1) (kC (.int 0))) (kC (.str "shout"))) (kAndV (kMeth 0 11 "can_hear" 1 m_Order_can_hear (kCons (kOp ixD (kVar 1) (kC (.int 1))) kNil)) (kOp eqD (kOp ixD (kVar 1) (kC (.int 2))) (kFld 0 11 "letter")))))))))
def m_Order_is_event : KM := mPn 2 b_Order_is_event
theorem d_Order_is_event {P : Program} {w : World} {G : Gm} {mg : Str → Option Value} {base : Heap} {f : Addr} (E : Gs w G mg) {fa_Order_is_hand : Addr} {fd_Order_is_hand : FuncData} (D_Order_is_hand : Mn P w G mg base 11 "is_hand" 2 ["self", "value"] [[]] (spM G 1 m_Order_is_hand) fa_Order_is_hand fd_Order_is_hand) {fa_is_name : Addr} {fd_is_name : FuncData} (D_is_name : Fn P w G mg base "is_name" 1 ["value"] [[]] (spP G 1 m_is_name) fa_is_name fd_is_name) {fa_Order_can_hear : Addr} {fd_Order_can_hear : FuncData} (D_Order_can_hear : Mn P w G mg base 11 "can_hear" 3 ["self", "hand"] [[]] (spM G 1 m_Order_can_hear) fa_Order_can_hear fd_Order_can_hear)  : BdyE P w G.K mg base 3 f "Order.is_event" (defScope (mtd (top 25) 4)) ["self", "value"] fun X W => ∃ t, MB X G W (defBody (mtd (top 25) 4)) t b_Order_is_event := by
  intro cdv A outer s H W hr
  obtain ⟨_, g_SIZES, t_SIZES⟩ := E.t_SIZES
  have hN : (["self", "value"] : List Str).Nodup := by decide
  exact ⟨_, (mb_cons (ms_if (mw_or (mt_not (mt_val (me_isi .tuple (me_var 1) rfl E.n_isinstance boot_tuple E.n_tuple))) (mw_or (mt_cmp (op_eqAll hr.u64) od_eq (me_var 1) (me_tup ma_nil)) (mw_or (mt_not (mt_val (me_isi .str (me_ix (me_var 1) me_int) rfl E.n_isinstance boot_str E.n_str))) (mw_or1 (mt_tnin t_SIZES g_SIZES (me_ix (me_var 1) me_int)))))).pt (mb_one (ms_ret me_bl)) mb_nil) (mb_cons (ms_if (mw_or (mt_cmp (op_neAll hr.u64) od_ne (me_callB call_lenA cd_len boot_len E.n_len (ma_cons (me_var 1) ma_nil)) (me_tget t_SIZES g_SIZES (me_ix (me_var 1) me_int))) (mw_or1 (mt_not (mt_val (me_meth 0 11 E.cls D_Order_is_hand.g D_Order_is_hand.ok (hr.mono (by decide)) (D_Order_is_hand.bs [] (by simp)) (ma_cons (me_ix (me_var 1) me_int) ma_nil)))))).pt (mb_one (ms_ret me_bl)) mb_nil) (mb_cons (ms_if (mt_cmp (op_eqAll hr.u64) od_eq (me_ix (me_var 1) me_int) me_str) (mb_one (ms_ret (me_and (me_meth 0 11 E.cls D_Order_is_hand.g D_Order_is_hand.ok (hr.mono (by decide)) (D_Order_is_hand.bs [] (by simp)) (ma_cons (me_ix (me_var 1) me_int) ma_nil)) (me_and (me_cmp (op_neAll hr.u64) od_ne (me_ix (me_var 1) me_int) (me_ix (me_var 1) me_int)) (me_and (me_call D_is_name.ok (hr.mono (by decide)) D_is_name.g D_is_name.kp (D_is_name.bs [] (by simp)) .nil (fun _ => dvs0) (ma_cons (me_ix (me_var 1) me_int) ma_nil)) (me_one (me_call D_is_name.ok (hr.mono (by decide)) D_is_name.g D_is_name.kp (D_is_name.bs [] (by simp)) .nil (fun _ => dvs0) (ma_cons (me_ix (me_var 1) me_int) ma_nil)))))))) mb_nil) (mb_cons (ms_if (mw_or (mt_not (mt_val (me_call D_is_name.ok (hr.mono (by decide)) D_is_name.g D_is_name.kp (D_is_name.bs [] (by simp)) .nil (fun _ => dvs0) (ma_cons (me_ix (me_var 1) me_int) ma_nil)))) (mw_or1 (mt_not (mt_val (me_call D_is_name.ok (hr.mono (by decide)) D_is_name.g D_is_name.kp (D_is_name.bs [] (by simp)) .nil (fun _ => dvs0) (ma_cons (me_ix (me_var 1) me_int) ma_nil)))))).pt (mb_one (ms_ret me_bl)) mb_nil) (mb_one (ms_ret (me_or (me_cmp (op_eqAll hr.u64) od_eq (me_ix (me_var 1) me_int) me_str) (me_one (me_and (me_meth 0 11 E.cls D_Order_can_hear.g D_Order_can_hear.ok (hr.mono (by decide)) (D_Order_can_hear.bs [] (by simp)) (ma_cons (me_ix (me_var 1) me_int) ma_nil)) (me_one (me_cmp (op_eqAll hr.u64) od_eq (me_ix (me_var 1) me_int) (me_fld 0 11 E.ob))))))))))))⟩
def N_Order_take : List Str := ["self", "event"]
def b_Order_take : KS := (kIfS (kT (kOp eqD (kOp ixD (kVar 1) (kC (.int 0))) (kC (.str "meet")))) (kFldS 0 11 "shouter" (kC .non)) (kIfS (kT (kOp eqD (kOp ixD (kVar 1) (kC (.int 0))) (kC (.str "shout")))) (kFlds 0 11 ["shouter", "letter", "last"] (kCons (kOp ixD (kVar 1) (kC (.int 1))) (kCons (kOp ixD (kVar 1) (kC (.int 2))) (kCons (kUn negD (kC (.int 1))) kNil)))) (kFldS 0 11 "last" (kOp ixD (kVar 1) (kC (.int 1))))))
def m_Order_take : KM := mPn 2 b_Order_take
theorem d_Order_take {P : Program} {w : World} {G : Gm} {mg : Str → Option Value} {base : Heap} {f : Addr} (E : Gs w G mg)   : BdyE P w G.K mg base 0 f "Order.take" (defScope (mtd (top 25) 5)) ["self", "event"] fun X W => ∃ t, MB X G W (defBody (mtd (top 25) 5)) t b_Order_take := by
  intro cdv A outer s H W hr
  have hN : (["self", "event"] : List Str).Nodup := by decide
  exact ⟨_, (mb_one (ms_if (mt_cmp (op_eqAll hr.u64) od_eq (me_ix (me_var 1) me_int) me_str) (mb_one (ms_fldS 0 11 E.ob me_non)) (mb_one (ms_if (mt_cmp (op_eqAll hr.u64) od_eq (me_ix (me_var 1) me_int) me_str) (mb_one (ms_flds 0 11 (ks := ["shouter", "letter", "last"]) E.ob (ft_cons (ft_cons (ft_cons ft_nil))) (ma_cons (me_ix (me_var 1) me_int) (ma_cons (me_ix (me_var 1) me_int) (ma_cons (me_neg me_int) ma_nil))))) (mb_one (ms_fldS 0 11 E.ob (me_ix (me_var 1) me_int)))))))⟩
def N_Order___init__ : List Str := ["self", "size"]
def b_Order___init__ : KS := (kSeq (kFldS 0 11 "size" (kVar 1)) (kSeq (kFldS 0 11 "shouter" (kC .non)) (kSeq (kFldS 0 11 "letter" (kC (.str ""))) (kFldS 0 11 "last" (kUn negD (kC (.int 1)))))))
def m_Order___init__ : KM := mPn 2 b_Order___init__
theorem d_Order___init__ {P : Program} {w : World} {G : Gm} {mg : Str → Option Value} {base : Heap} {f : Addr} (E : Gs w G mg)   : BdyE P w G.K mg base 0 f "Order.__init__" (defScope (mtd (top 25) 0)) ["self", "size"] fun X W => ∃ t, MB X G W (defBody (mtd (top 25) 0)) t b_Order___init__ := by
  intro cdv A outer s H W hr
  have hN : (["self", "size"] : List Str).Nodup := by decide
  exact ⟨_, (mb_cons (ms_fldS 0 11 E.ob (me_var 1)) (mb_cons (ms_fldS 0 11 E.ob me_non) (mb_cons (ms_fldS 0 11 E.ob me_str) (mb_one (ms_fldS 0 11 E.ob (me_neg me_int))))))⟩
def N_changes_by : List Str := ["event"]
def b_changes_by : KS := (kSeq (kIfS (kT (kOp eqD (kOp ixD (kVar 0) (kC (.int 0))) (kC (.str "meet")))) (kRet (kFz (kLst (kCons (kTup (kCons (kOp ixD (kVar 0) (kC (.int 1))) (kCons (kOp ixD (kVar 0) (kC (.int 3))) kNil))) (kCons (kTup (kCons (kOp ixD (kVar 0) (kC (.int 2))) (kCons (kOp ixD (kVar 0) (kC (.int 4))) kNil))) kNil))))) kNext) (kRet (kIf (kT (kOp inD (kOp ixD (kVar 0) (kC (.int 0))) (kTup (kCons (kC (.str "shout")) (kCons (kC (.str "hear")) kNil))))) (kFz (kLst (kCons (kTup (kCons (kOp ixD (kVar 0) (kC (.int 1))) (kCons (kOp ixD (kVar 0) (kC (.int 3))) kNil))) kNil))) (kFz (kLst kNil)))))
def m_changes_by : KF := mFn 1 b_changes_by
theorem d_changes_by {P : Program} {w : World} {G : Gm} {mg : Str → Option Value} {base : Heap} {f : Addr} (E : Gs w G mg)   : BdyE P w G.K mg base 0 f "changes_by" (defScope (top 29)) ["event"] fun X W => ∃ t, MB X G W (defBody (top 29)) t b_changes_by := by
  intro cdv A outer s H W hr
  have hN : (["event"] : List Str).Nodup := by decide
  exact ⟨_, (mb_cons (ms_if (mt_cmp (op_eqAll hr.u64) od_eq (me_ix (me_var 0) me_int) me_str) (mb_one (ms_ret (mf_lst (ma_cons (me_tup (ma_cons (me_ix (me_var 0) me_int) (ma_cons (me_ix (me_var 0) me_int) ma_nil))) (ma_cons (me_tup (ma_cons (me_ix (me_var 0) me_int) (ma_cons (me_ix (me_var 0) me_int) ma_nil))) ma_nil))).val)) mb_nil) (mb_one (ms_ret (me_if (mt_cmp (op_inA hr.u65) od_in (me_ix (me_var 0) me_int) (me_tup (ma_cons me_str (ma_cons me_str ma_nil)))) (mf_lst (ma_cons (me_tup (ma_cons (me_ix (me_var 0) me_int) (ma_cons (me_ix (me_var 0) me_int) ma_nil))) ma_nil)).val (mf_lst ma_nil).val))))⟩
def N_turned : List Str := ["event", "order"]
def b_turned : KS := (kSeq (kIfS (kT (kOp eqD (kOp ixD (kVar 0) (kC (.int 0))) (kC (.str "meet")))) (kRet (kOp addD (kOp addD (kSl (kVar 0) kNone (kPart (kC (.int 1)))) (kTup (kCons (kOp ixD (kVar 1) (kOp ixD (kVar 0) (kC (.int 1)))) (kCons (kOp ixD (kVar 1) (kOp ixD (kVar 0) (kC (.int 2)))) kNil)))) (kSl (kVar 0) (kPart (kC (.int 3))) kNone))) kNext) (kRet (kIf (kT (kOp eqD (kOp ixD (kVar 0) (kC (.int 0))) (kC (.str "crowd")))) (kVar 0) (kOp addD (kOp addD (kSl (kVar 0) kNone (kPart (kC (.int 1)))) (kTup (kCons (kOp ixD (kVar 1) (kOp ixD (kVar 0) (kC (.int 1)))) kNil))) (kSl (kVar 0) (kPart (kC (.int 2))) kNone)))))
def m_turned : KF := mFn 2 b_turned
theorem d_turned {P : Program} {w : World} {G : Gm} {mg : Str → Option Value} {base : Heap} {f : Addr} (E : Gs w G mg)   : BdyE P w G.K mg base 0 f "turned" (defScope (top 41)) ["event", "order"] fun X W => ∃ t, MB X G W (defBody (top 41)) t b_turned := by
  intro cdv A outer s H W hr
  have hN : (["event", "order"] : List Str).Nodup := by decide
  exact ⟨_, (mb_cons (ms_if (mt_cmp (op_eqAll hr.u64) od_eq (me_ix (me_var 0) me_int) me_str) (mb_one (ms_ret (me_bin op_addAll od_add (me_bin op_addAll od_add (me_slice (me_var 0) mo_none (mo_some me_int)) (me_tup (ma_cons (me_ix (me_var 1) (me_ix (me_var 0) me_int)) (ma_cons (me_ix (me_var 1) (me_ix (me_var 0) me_int)) ma_nil)))) (me_slice (me_var 0) (mo_some me_int) mo_none)))) mb_nil) (mb_one (ms_ret (me_if (mt_cmp (op_eqAll hr.u64) od_eq (me_ix (me_var 0) me_int) me_str) (me_var 0) (me_bin op_addAll od_add (me_bin op_addAll od_add (me_slice (me_var 0) mo_none (mo_some me_int)) (me_tup (ma_cons (me_ix (me_var 1) (me_ix (me_var 0) me_int)) ma_nil))) (me_slice (me_var 0) (mo_some me_int) mo_none))))))⟩
theorem non_Order : ∀ ds p r, m_Order___init__ ds p = .ok r → r.1 = .non := mPn_non (nx_seq nx_fldS (nx_seq nx_fldS (nx_seq nx_fldS nx_fldS)))
def N_is_log : List Str := ["value", "order", "event"]
def b_is_log : KS := (kSeq (kIfS (kOrB (kNotB (kT (kIsi .tuple (kVar 0)))) (kOrB (kT (kOp eqD (kVar 0) (kTup kNil))) (kNotB (kT (kCall 1 m_is_head [] (kCons (kOp ixD (kVar 0) (kC (.int 0))) kNil)))))) (kRet (kC (.bl false))) kNext) (kFocus 1 11 1 m_Order___init__ (kCons (kOp ixD (kOp ixD (kVar 0) (kC (.int 0))) (kC (.int 1))) kNil) (kSeq (kFor (kSeqI (kSl (kVar 0) (kPart (kC (.int 1))) kNone)) (gkN 2) (kSeq (kIfS (kNotB (kT (kMeth 1 11 "is_event" 1 m_Order_is_event (kCons (kVar 2) kNil)))) (kRet (kC (.bl false))) kNext) (kDrop (kMeth 1 11 "take" 1 m_Order_take (kCons (kVar 2) kNil))))) (kRet (kC (.bl true))))))
def m_is_log : KF := mFn 3 b_is_log
theorem d_is_log {P : Program} {w : World} {G : Gm} {mg : Str → Option Value} {base : Heap} {f : Addr} (E : Gs w G mg) {fa_is_head : Addr} {fd_is_head : FuncData} (D_is_head : Fn P w G mg base "is_head" 2 ["value"] [[]] (spP G 1 m_is_head) fa_is_head fd_is_head) {fa_Order___init__ : Addr} {fd_Order___init__ : FuncData} (D_Order___init__ : In P w G mg base 11 "Order" 1 ["self", "size"] [[]] (spM G 1 m_Order___init__) fa_Order___init__ fd_Order___init__) {fa_Order_is_event : Addr} {fd_Order_is_event : FuncData} (D_Order_is_event : Mn P w G mg base 11 "is_event" 4 ["self", "value"] [[]] (spM G 1 m_Order_is_event) fa_Order_is_event fd_Order_is_event) {fa_Order_take : Addr} {fd_Order_take : FuncData} (D_Order_take : Mn P w G mg base 11 "take" 1 ["self", "event"] [[]] (spM G 1 m_Order_take) fa_Order_take fd_Order_take)  : BdyE P w G.K mg base 4 f "is_log" (defScope (top 26)) ["value", "order", "event"] fun X W => ∃ t, MB X G W (defBody (top 26)) t b_is_log := by
  intro cdv A outer s H W hr
  have hN : (["value", "order", "event"] : List Str).Nodup := by decide
  exact ⟨_, (mb_cons (ms_if (mw_or (mt_not (mt_val (me_isi .tuple (me_var 0) rfl E.n_isinstance boot_tuple E.n_tuple))) (mw_or (mt_cmp (op_eqAll hr.u64) od_eq (me_var 0) (me_tup ma_nil)) (mw_or1 (mt_not (mt_val (me_call D_is_head.ok (hr.mono (by decide)) D_is_head.g D_is_head.kp (D_is_head.bs [] (by simp)) .nil (fun _ => dvs0) (ma_cons (me_ix (me_var 0) me_int) ma_nil))))))).pt (mb_one (ms_ret me_bl)) mb_nil) (mb_focus 1 11 non_Order D_Order___init__.mkc D_Order___init__.ok (hr.mono (by decide)) D_Order___init__.gc (D_Order___init__.bs [] (by simp)) (ma_cons (me_ix (me_ix (me_var 0) me_int) me_int) ma_nil) hN (mb_cons (ms_for (mi_seq (me_slice (me_var 0) (mo_some me_int) mo_none)) (mg_name 2 hN) (mb_cons (ms_if (mt_not (mt_val (me_meth 1 11 E.cls D_Order_is_event.g D_Order_is_event.ok (hr.mono (by decide)) (D_Order_is_event.bs [] (by simp)) (ma_cons (me_var 2) ma_nil)))) (mb_one (ms_ret me_bl)) mb_nil) (mb_one (ms_drop (me_meth 1 11 E.cls D_Order_take.g D_Order_take.ok (hr.mono (by decide)) (D_Order_take.bs [] (by simp)) (ma_cons (me_var 2) ma_nil)))))) (mb_one (ms_ret me_bl)))))⟩
def N_need_log : List Str := ["log"]
def b_need_log : KS := (kIfS (kNotB (kT (kCall 1 m_is_log [] (kCons (kVar 0) kNil)))) (kRaise 0 (kCons (kC (.str "log")) (kCons (kVar 0) kNil))) kNext)
def m_need_log : KF := mFn 1 b_need_log
theorem d_need_log {P : Program} {w : World} {G : Gm} {mg : Str → Option Value} {base : Heap} {f : Addr} (E : Gs w G mg) {fa_is_log : Addr} {fd_is_log : FuncData} (D_is_log : Fn P w G mg base "is_log" 5 ["value"] [[]] (spP G 1 m_is_log) fa_is_log fd_is_log) {fI_BadRow : Addr} {fd_BadRow : FuncData} (x_BadRow : Xn P w G mg base 0 "BadRow" ["what", "row"] ["self", "what", "row"] fI_BadRow fd_BadRow) : BdyE P w G.K mg base 5 f "need_log" (defScope (top 27)) ["log"] fun X W => ∃ t, MB X G W (defBody (top 27)) t b_need_log := by
  intro cdv A outer s H W hr
  have hN : (["log"] : List Str).Nodup := by decide
  exact ⟨_, (mb_one (ms_if (mt_not (mt_val (me_call D_is_log.ok (hr.mono (by decide)) D_is_log.g D_is_log.kp (D_is_log.bs [] (by simp)) .nil (fun _ => dvs0) (ma_cons (me_var 0) ma_nil)))) (mb_one (ms_raise 0 x_BadRow.T x_BadRow.i x_BadRow.t x_BadRow.ok (hr.mono (by decide)) x_BadRow.b x_BadRow.g x_BadRow.F (ma_cons me_str (ma_cons (me_var 0) ma_nil)) (kCons_len (kCons_len kNil_len)) (takes_of rfl rfl rfl rfl))) mb_nil))⟩
def N_need_begin : List Str := ["begin", "log"]
def b_need_begin : KS := (kSeq (kIfS (kNotB (kT (kCall 1 m_is_name [] (kCons (kVar 0) kNil)))) (kRaise 1 (kCons (kVar 0) kNil)) kNext) (kDrop (kCall 1 m_need_log [] (kCons (kVar 1) kNil))))
def m_need_begin : KF := mFn 2 b_need_begin
theorem d_need_begin {P : Program} {w : World} {G : Gm} {mg : Str → Option Value} {base : Heap} {f : Addr} (E : Gs w G mg) {fa_is_name : Addr} {fd_is_name : FuncData} (D_is_name : Fn P w G mg base "is_name" 1 ["value"] [[]] (spP G 1 m_is_name) fa_is_name fd_is_name) {fa_need_log : Addr} {fd_need_log : FuncData} (D_need_log : Fn P w G mg base "need_log" 6 ["log"] [[]] (spP G 1 m_need_log) fa_need_log fd_need_log) {fI_BadName : Addr} {fd_BadName : FuncData} (x_BadName : Xn P w G mg base 1 "BadName" ["name"] ["self", "name"] fI_BadName fd_BadName) : BdyE P w G.K mg base 6 f "need_begin" (defScope (top 30)) ["begin", "log"] fun X W => ∃ t, MB X G W (defBody (top 30)) t b_need_begin := by
  intro cdv A outer s H W hr
  have hN : (["begin", "log"] : List Str).Nodup := by decide
  exact ⟨_, (mb_cons (ms_if (mt_not (mt_val (me_call D_is_name.ok (hr.mono (by decide)) D_is_name.g D_is_name.kp (D_is_name.bs [] (by simp)) .nil (fun _ => dvs0) (ma_cons (me_var 0) ma_nil)))) (mb_one (ms_raise 1 x_BadName.T x_BadName.i x_BadName.t x_BadName.ok (hr.mono (by decide)) x_BadName.b x_BadName.g x_BadName.F (ma_cons (me_var 0) ma_nil) (kCons_len kNil_len) (takes_of rfl rfl rfl rfl))) mb_nil) (mb_one (ms_drop (me_call D_need_log.ok (hr.mono (by decide)) D_need_log.g D_need_log.kp (D_need_log.bs [] (by simp)) .nil (fun _ => dvs0) (ma_cons (me_var 1) ma_nil)))))⟩
def N_states_by : List Str := ["begin", "log", "found", "event", "hand", "state"]
def b_states_by : KS := (kSeq (kAsgF 2 (kRep (kLst (kCons (kVar 0) kNil)) (kOp ixD (kOp ixD (kVar 1) (kC (.int 0))) (kC (.int 1))))) (kSeq (kFor (kSeqI (kVar 1)) (gkN 3) (kFor (kSeqI (kCall 1 m_changes_by [] (kCons (kVar 3) kNil))) (gkTup 2 (gkCons (gkN 4) (gkCons (gkN 5) gkNil))) (kSet 2 (kVar 4) (kVar 5)))) (kRetL (kOwn 2))))
def m_states_by : KF := mFn 6 b_states_by
theorem d_states_by {P : Program} {w : World} {G : Gm} {mg : Str → Option Value} {base : Heap} {f : Addr} (E : Gs w G mg) {fa_changes_by : Addr} {fd_changes_by : FuncData} (D_changes_by : Fn P w G mg base "changes_by" 1 ["event"] [[]] (spP G 1 m_changes_by) fa_changes_by fd_changes_by)  : BdyE P w G.K mg base 1 f "states_by" (defScope (top 31)) ["begin", "log", "found", "event", "hand", "state"] fun X W => ∃ t, MB X G W (defBody (top 31)) t b_states_by := by
  intro cdv A outer s H W hr
  have hN : (["begin", "log", "found", "event", "hand", "state"] : List Str).Nodup := by decide
  exact ⟨_, (mb_cons (ms_asgF 2 (mf_rep (mf_lst (ma_cons (me_var 0) ma_nil)) (me_ix (me_ix (me_var 1) me_int) me_int)) hN) (mb_cons (ms_for (mi_seq (me_var 1)) (mg_name 3 hN) (mb_one (ms_for (mi_seq (me_call D_changes_by.ok (hr.mono (by decide)) D_changes_by.g D_changes_by.kp (D_changes_by.bs [] (by simp)) .nil (fun _ => dvs0) (ma_cons (me_var 3) ma_nil))) (mg_tup (mgs_cons (mg_name 4 hN) (mgs_cons (mg_name 5 hN) mgs_nil))) (mb_one (ms_set 2 (me_var 4) (me_var 5)))))) (mb_one (ms_retO 2))))⟩
def N_states_behind : List Str := ["begin", "log"]
def b_states_behind : KS := (kSeq (kDrop (kCall 2 m_need_begin [] (kCons (kVar 0) (kCons (kVar 1) kNil)))) (kRet (kCa tupD (kCons (kCall 2 m_states_by [] (kCons (kVar 0) (kCons (kVar 1) kNil))) kNil))))
def m_states_behind : KF := mFn 2 b_states_behind
theorem d_states_behind {P : Program} {w : World} {G : Gm} {mg : Str → Option Value} {base : Heap} {f : Addr} (E : Gs w G mg) {fa_need_begin : Addr} {fd_need_begin : FuncData} (D_need_begin : Fn P w G mg base "need_begin" 7 ["begin", "log"] [[]] (spP G 2 m_need_begin) fa_need_begin fd_need_begin) {fa_states_by : Addr} {fd_states_by : FuncData} (D_states_by : Fn P w G mg base "states_by" 2 ["begin", "log"] [[]] (spP G 2 m_states_by) fa_states_by fd_states_by)  : BdyE P w G.K mg base 7 f "states_behind" (defScope (top 32)) ["begin", "log"] fun X W => ∃ t, MB X G W (defBody (top 32)) t b_states_behind := by
  intro cdv A outer s H W hr
  have hN : (["begin", "log"] : List Str).Nodup := by decide
  exact ⟨_, (mb_cons (ms_drop (me_call D_need_begin.ok (hr.mono (by decide)) D_need_begin.g D_need_begin.kp (D_need_begin.bs [] (by simp)) .nil (fun _ => dvs0) (ma_cons (me_var 0) (ma_cons (me_var 1) ma_nil)))) (mb_one (ms_ret (me_callTy call_tupOf cd_tup boot_tuple E.n_tuple (ma_cons (me_call D_states_by.ok (hr.mono (by decide)) D_states_by.g D_states_by.kp (D_states_by.bs [] (by simp)) .nil (fun _ => dvs0) (ma_cons (me_var 0) (ma_cons (me_var 1) ma_nil))) ma_nil)))))⟩
def N_counted : List Str := ["states", "state"]
def b_counted : KS := (kRet (kCa tupL (kLc [1] (kSeqI (kFz (kSrtS (kL (kVar 0))))) (gkN 1) kYes (kTup (kCons (kVar 1) (kCons (kBm "list" cntD (kVar 0) (kCons (kVar 1) kNil)) kNil))))))
def m_counted : KF := mFn 2 b_counted
theorem d_counted {P : Program} {w : World} {G : Gm} {mg : Str → Option Value} {base : Heap} {f : Addr} (E : Gs w G mg)   : BdyE P w G.K mg base 0 f "counted" (defScope (top 33)) ["states", "state"] fun X W => ∃ t, MB X G W (defBody (top 33)) t b_counted := by
  intro cdv A outer s H W hr
  have hN : (["states", "state"] : List Str).Nodup := by decide
  exact ⟨_, (mb_one (ms_ret (me_callTyL call_tupOf cl_tup boot_tuple E.n_tuple (mf_lcD [("state", 1)] hN (mi_seq (mf_srtS hr.u70 (me_var 0).list E.n_sorted E.n_set).val) rfl (fun s H C cl fp => (mg_name 1 hN)) (fun s H C cl fp => mts_nil) (fun s H C cl fp => (me_tup (ma_cons (me_var 1) (ma_cons (me_count hr.u65 (me_var 0) (ma_cons (me_var 1) ma_nil)) ma_nil))))).list)))⟩
def N_counts_behind : List Str := ["begin", "log"]
def b_counts_behind : KS := (kSeq (kDrop (kCall 2 m_need_begin [] (kCons (kVar 0) (kCons (kVar 1) kNil)))) (kRet (kCall 1 m_counted [] (kCons (kCall 2 m_states_by [] (kCons (kVar 0) (kCons (kVar 1) kNil))) kNil))))
def m_counts_behind : KF := mFn 2 b_counts_behind
theorem d_counts_behind {P : Program} {w : World} {G : Gm} {mg : Str → Option Value} {base : Heap} {f : Addr} (E : Gs w G mg) {fa_need_begin : Addr} {fd_need_begin : FuncData} (D_need_begin : Fn P w G mg base "need_begin" 7 ["begin", "log"] [[]] (spP G 2 m_need_begin) fa_need_begin fd_need_begin) {fa_counted : Addr} {fd_counted : FuncData} (D_counted : Fn P w G mg base "counted" 1 ["states"] [[]] (spP G 1 m_counted) fa_counted fd_counted) {fa_states_by : Addr} {fd_states_by : FuncData} (D_states_by : Fn P w G mg base "states_by" 2 ["begin", "log"] [[]] (spP G 2 m_states_by) fa_states_by fd_states_by)  : BdyE P w G.K mg base 7 f "counts_behind" (defScope (top 34)) ["begin", "log"] fun X W => ∃ t, MB X G W (defBody (top 34)) t b_counts_behind := by
  intro cdv A outer s H W hr
  have hN : (["begin", "log"] : List Str).Nodup := by decide
  exact ⟨_, (mb_cons (ms_drop (me_call D_need_begin.ok (hr.mono (by decide)) D_need_begin.g D_need_begin.kp (D_need_begin.bs [] (by simp)) .nil (fun _ => dvs0) (ma_cons (me_var 0) (ma_cons (me_var 1) ma_nil)))) (mb_one (ms_ret (me_call D_counted.ok (hr.mono (by decide)) D_counted.g D_counted.kp (D_counted.bs [] (by simp)) .nil (fun _ => dvs0) (ma_cons (me_call D_states_by.ok (hr.mono (by decide)) D_states_by.g D_states_by.kp (D_states_by.bs [] (by simp)) .nil (fun _ => dvs0) (ma_cons (me_var 0) (ma_cons (me_var 1) ma_nil))) ma_nil)))))⟩
def N_stops_by : List Str := ["log", "at"]
def b_stops_by : KS := (kRet (kFz (kLc [1] (kRng2 (kC (.int 1)) (kOp addD (kCa lenD (kCons (kVar 0) kNil)) (kC (.int 1)))) (gkN 1) (kOrB (kT (kOp eqD (kVar 1) (kCa lenD (kCons (kVar 0) kNil)))) (kT (kOp neD (kOp ixD (kOp ixD (kVar 0) (kVar 1)) (kC (.int 0))) (kC (.str "hear"))))) (kVar 1))))
def m_stops_by : KF := mFn 2 b_stops_by
theorem d_stops_by {P : Program} {w : World} {G : Gm} {mg : Str → Option Value} {base : Heap} {f : Addr} (E : Gs w G mg)   : BdyE P w G.K mg base 0 f "stops_by" (defScope (top 35)) ["log", "at"] fun X W => ∃ t, MB X G W (defBody (top 35)) t b_stops_by := by
  intro cdv A outer s H W hr
  have hN : (["log", "at"] : List Str).Nodup := by decide
  exact ⟨_, (mb_one (ms_ret (mf_lcD [("at", 1)] hN (mi_rng2 me_int (me_bin op_addAll od_add (me_callB call_lenA cd_len boot_len E.n_len (ma_cons (me_var 0) ma_nil)) me_int) E.n_range) rfl (fun s H C cl fp => (mg_name 1 hN)) (fun s H C cl fp => (mts_one (mw_or (mt_cmp (op_eqAll hr.u64) od_eq (me_var 1) (me_callB call_lenA cd_len boot_len E.n_len (ma_cons (me_var 0) ma_nil))) (mw_or1 (mt_cmp (op_neAll hr.u64) od_ne (me_ix (me_ix (me_var 0) (me_var 1)) me_int) me_str))).pt)) (fun s H C cl fp => (me_var 1))).val))⟩
def N_stops_of : List Str := ["log"]
def b_stops_of : KS := (kSeq (kDrop (kCall 1 m_need_log [] (kCons (kVar 0) kNil))) (kRet (kCa tupD (kCons (kCall 1 m_stops_by [] (kCons (kVar 0) kNil)) kNil))))
def m_stops_of : KF := mFn 1 b_stops_of
theorem d_stops_of {P : Program} {w : World} {G : Gm} {mg : Str → Option Value} {base : Heap} {f : Addr} (E : Gs w G mg) {fa_need_log : Addr} {fd_need_log : FuncData} (D_need_log : Fn P w G mg base "need_log" 6 ["log"] [[]] (spP G 1 m_need_log) fa_need_log fd_need_log) {fa_stops_by : Addr} {fd_stops_by : FuncData} (D_stops_by : Fn P w G mg base "stops_by" 1 ["log"] [[]] (spP G 1 m_stops_by) fa_stops_by fd_stops_by)  : BdyE P w G.K mg base 6 f "stops_of" (defScope (top 36)) ["log"] fun X W => ∃ t, MB X G W (defBody (top 36)) t b_stops_of := by
  intro cdv A outer s H W hr
  have hN : (["log"] : List Str).Nodup := by decide
  exact ⟨_, (mb_cons (ms_drop (me_call D_need_log.ok (hr.mono (by decide)) D_need_log.g D_need_log.kp (D_need_log.bs [] (by simp)) .nil (fun _ => dvs0) (ma_cons (me_var 0) ma_nil))) (mb_one (ms_ret (me_callTy call_tupOf cd_tup boot_tuple E.n_tuple (ma_cons (me_call D_stops_by.ok (hr.mono (by decide)) D_stops_by.g D_stops_by.kp (D_stops_by.bs [] (by simp)) .nil (fun _ => dvs0) (ma_cons (me_var 0) ma_nil)) ma_nil)))))⟩
def N_counts_along : List Str := ["begin", "log", "at"]
def b_counts_along : KS := (kSeq (kDrop (kCall 2 m_need_begin [] (kCons (kVar 0) (kCons (kVar 1) kNil)))) (kRet (kCa tupL (kLc [2] (kSeqI (kCall 1 m_stops_by [] (kCons (kVar 1) kNil))) (gkN 2) kYes (kTup (kCons (kVar 2) (kCons (kCall 1 m_counted [] (kCons (kCall 2 m_states_by [] (kCons (kVar 0) (kCons (kSl (kVar 1) kNone (kPart (kVar 2))) kNil))) kNil)) kNil)))))))
def m_counts_along : KF := mFn 3 b_counts_along
theorem d_counts_along {P : Program} {w : World} {G : Gm} {mg : Str → Option Value} {base : Heap} {f : Addr} (E : Gs w G mg) {fa_need_begin : Addr} {fd_need_begin : FuncData} (D_need_begin : Fn P w G mg base "need_begin" 7 ["begin", "log"] [[]] (spP G 2 m_need_begin) fa_need_begin fd_need_begin) {fa_stops_by : Addr} {fd_stops_by : FuncData} (D_stops_by : Fn P w G mg base "stops_by" 1 ["log"] [[]] (spP G 1 m_stops_by) fa_stops_by fd_stops_by) {fa_counted : Addr} {fd_counted : FuncData} (D_counted : Fn P w G mg base "counted" 1 ["states"] [[]] (spP G 1 m_counted) fa_counted fd_counted) {fa_states_by : Addr} {fd_states_by : FuncData} (D_states_by : Fn P w G mg base "states_by" 2 ["begin", "log"] [[]] (spP G 2 m_states_by) fa_states_by fd_states_by)  : BdyE P w G.K mg base 7 f "counts_along" (defScope (top 37)) ["begin", "log", "at"] fun X W => ∃ t, MB X G W (defBody (top 37)) t b_counts_along := by
  intro cdv A outer s H W hr
  have hN : (["begin", "log", "at"] : List Str).Nodup := by decide
  exact ⟨_, (mb_cons (ms_drop (me_call D_need_begin.ok (hr.mono (by decide)) D_need_begin.g D_need_begin.kp (D_need_begin.bs [] (by simp)) .nil (fun _ => dvs0) (ma_cons (me_var 0) (ma_cons (me_var 1) ma_nil)))) (mb_one (ms_ret (me_callTyL call_tupOf cl_tup boot_tuple E.n_tuple (mf_lcD [("at", 2)] hN (mi_seq (me_call D_stops_by.ok (hr.mono (by decide)) D_stops_by.g D_stops_by.kp (D_stops_by.bs [] (by simp)) .nil (fun _ => dvs0) (ma_cons (me_var 1) ma_nil))) rfl (fun s H C cl fp => (mg_name 2 hN)) (fun s H C cl fp => mts_nil) (fun s H C cl fp => (me_tup (ma_cons (me_var 2) (ma_cons (me_call D_counted.ok (hr.mono (by decide)) D_counted.g D_counted.kp (D_counted.bs [] (by simp)) .nil (fun _ => dvs0) (ma_cons (me_call D_states_by.ok (hr.mono (by decide)) D_states_by.g D_states_by.kp (D_states_by.bs [] (by simp)) .nil (fun _ => dvs0) (ma_cons (me_var 0) (ma_cons (me_slice (me_var 1) mo_none (mo_some (me_var 2))) ma_nil))) ma_nil)) ma_nil))))).list))))⟩
def N_need_hand : List Str := ["log", "hand"]
def b_need_hand : KS := (kIfS (kNotB (kT (kCall 3 m_is_whole [] (kCons (kVar 1) (kCons (kC (.int 0)) (kCons (kOp subD (kOp ixD (kOp ixD (kVar 0) (kC (.int 0))) (kC (.int 1))) (kC (.int 1))) kNil)))))) (kRaise 2 (kCons (kC (.str "hand")) (kCons (kVar 1) kNil))) kNext)
def m_need_hand : KF := mFn 2 b_need_hand
theorem d_need_hand {P : Program} {w : World} {G : Gm} {mg : Str → Option Value} {base : Heap} {f : Addr} (E : Gs w G mg) {fa_is_whole : Addr} {fd_is_whole : FuncData} (D_is_whole : Fn P w G mg base "is_whole" 1 ["value", "least", "most"] [[], [.none]] (spP G 3 m_is_whole) fa_is_whole fd_is_whole) {fI_BadNumber : Addr} {fd_BadNumber : FuncData} (x_BadNumber : Xn P w G mg base 2 "BadNumber" ["what", "number"] ["self", "what", "number"] fI_BadNumber fd_BadNumber) : BdyE P w G.K mg base 2 f "need_hand" (defScope (top 38)) ["log", "hand"] fun X W => ∃ t, MB X G W (defBody (top 38)) t b_need_hand := by
  intro cdv A outer s H W hr
  have hN : (["log", "hand"] : List Str).Nodup := by decide
  exact ⟨_, (mb_one (ms_if (mt_not (mt_val (me_call D_is_whole.ok (hr.mono (by decide)) D_is_whole.g D_is_whole.kp (D_is_whole.bs [] (by simp)) .nil (fun _ => dvs0) (ma_cons (me_var 1) (ma_cons me_int (ma_cons (me_bin op_sub od_sub (me_ix (me_ix (me_var 0) me_int) me_int) me_int) ma_nil)))))) (mb_one (ms_raise 2 x_BadNumber.T x_BadNumber.i x_BadNumber.t x_BadNumber.ok (hr.mono (by decide)) x_BadNumber.b x_BadNumber.g x_BadNumber.F (ma_cons me_str (ma_cons (me_var 1) ma_nil)) (kCons_len (kCons_len kNil_len)) (takes_of rfl rfl rfl rfl))) mb_nil))⟩
def N_way_of : List Str := ["begin", "log", "hand", "found", "number", "event", "one", "state"]
def b_way_of : KS := (kSeq (kDrop (kCall 2 m_need_begin [] (kCons (kVar 0) (kCons (kVar 1) kNil)))) (kSeq (kDrop (kCall 2 m_need_hand [] (kCons (kVar 1) (kCons (kVar 2) kNil)))) (kSeq (kAsgF 3 (kLst (kCons (kTup (kCons (kC (.int 1)) (kCons (kVar 0) kNil))) kNil))) (kSeq (kFor (kEnum (kVar 1)) (gkTup 2 (gkCons (gkN 4) (gkCons (gkN 5) gkNil))) (kFor (kSeqI (kCall 1 m_changes_by [] (kCons (kVar 5) kNil))) (gkTup 2 (gkCons (gkN 6) (gkCons (gkN 7) gkNil))) (kIfS (kT (kOp eqD (kVar 6) (kVar 2))) (kApp 3 (kTup (kCons (kOp addD (kVar 4) (kC (.int 1))) (kCons (kVar 7) kNil)))) kNext))) (kRet (kCa tupL (kOwn 3)))))))
def m_way_of : KF := mFn 8 b_way_of
theorem d_way_of {P : Program} {w : World} {G : Gm} {mg : Str → Option Value} {base : Heap} {f : Addr} (E : Gs w G mg) {fa_need_begin : Addr} {fd_need_begin : FuncData} (D_need_begin : Fn P w G mg base "need_begin" 7 ["begin", "log"] [[]] (spP G 2 m_need_begin) fa_need_begin fd_need_begin) {fa_need_hand : Addr} {fd_need_hand : FuncData} (D_need_hand : Fn P w G mg base "need_hand" 3 ["log", "hand"] [[]] (spP G 2 m_need_hand) fa_need_hand fd_need_hand) {fa_changes_by : Addr} {fd_changes_by : FuncData} (D_changes_by : Fn P w G mg base "changes_by" 1 ["event"] [[]] (spP G 1 m_changes_by) fa_changes_by fd_changes_by)  : BdyE P w G.K mg base 7 f "way_of" (defScope (top 39)) ["begin", "log", "hand", "found", "number", "event", "one", "state"] fun X W => ∃ t, MB X G W (defBody (top 39)) t b_way_of := by
  intro cdv A outer s H W hr
  have hN : (["begin", "log", "hand", "found", "number", "event", "one", "state"] : List Str).Nodup := by decide
  exact ⟨_, (mb_cons (ms_drop (me_call D_need_begin.ok (hr.mono (by decide)) D_need_begin.g D_need_begin.kp (D_need_begin.bs [] (by simp)) .nil (fun _ => dvs0) (ma_cons (me_var 0) (ma_cons (me_var 1) ma_nil)))) (mb_cons (ms_drop (me_call D_need_hand.ok (hr.mono (by decide)) D_need_hand.g D_need_hand.kp (D_need_hand.bs [] (by simp)) .nil (fun _ => dvs0) (ma_cons (me_var 1) (ma_cons (me_var 2) ma_nil)))) (mb_cons (ms_asgF 3 (mf_lst (ma_cons (me_tup (ma_cons me_int (ma_cons (me_var 0) ma_nil))) ma_nil)) hN) (mb_cons (ms_for (mi_enum (me_var 1) E.n_enumerate) (mg_tup (mgs_cons (mg_name 4 hN) (mgs_cons (mg_name 5 hN) mgs_nil))) (mb_one (ms_for (mi_seq (me_call D_changes_by.ok (hr.mono (by decide)) D_changes_by.g D_changes_by.kp (D_changes_by.bs [] (by simp)) .nil (fun _ => dvs0) (ma_cons (me_var 5) ma_nil))) (mg_tup (mgs_cons (mg_name 6 hN) (mgs_cons (mg_name 7 hN) mgs_nil))) (mb_one (ms_if (mt_cmp (op_eqAll hr.u64) od_eq (me_var 6) (me_var 2)) (mb_one (ms_app 3 (me_tup (ma_cons (me_bin op_addAll od_add (me_var 4) me_int) (ma_cons (me_var 7) ma_nil))))) mb_nil))))) (mb_one (ms_ret (me_callTyL call_tupOf cl_tup boot_tuple E.n_tuple (ml_own 3))))))))⟩
def N_heard_of : List Str := ["log", "number", "found", "at"]
def b_heard_of : KS := (kSeq (kDrop (kCall 1 m_need_log [] (kCons (kVar 0) kNil))) (kSeq (kIfS (kOrB (kNotB (kT (kCall 3 m_is_whole [] (kCons (kVar 1) (kCons (kC (.int 1)) (kCons (kOp subD (kCa lenD (kCons (kVar 0) kNil)) (kC (.int 1))) kNil)))))) (kT (kOp neD (kOp ixD (kOp ixD (kVar 0) (kVar 1)) (kC (.int 0))) (kC (.str "shout"))))) (kRaise 2 (kCons (kC (.str "number")) (kCons (kVar 1) kNil))) kNext) (kSeq (kPar 2 3 (kXF (kLst kNil)) (kXV (kOp addD (kVar 1) (kC (.int 1))))) (kSeq (whileGo (kAndB (kT (kOp ltD (kVar 3) (kCa lenD (kCons (kVar 0) kNil)))) (kT (kOp eqD (kOp ixD (kOp ixD (kVar 0) (kVar 3)) (kC (.int 0))) (kC (.str "hear"))))) (kSeq (kApp 2 (kOp ixD (kOp ixD (kVar 0) (kVar 3)) (kC (.int 1)))) (kAug 3 addI (kC (.int 1)))) 100) (kRet (kCa tupL (kOwn 2)))))))
def m_heard_of : KF := mFn 4 b_heard_of
theorem d_heard_of {P : Program} {w : World} {G : Gm} {mg : Str → Option Value} {base : Heap} {f : Addr} (E : Gs w G mg) {fa_need_log : Addr} {fd_need_log : FuncData} (D_need_log : Fn P w G mg base "need_log" 6 ["log"] [[]] (spP G 1 m_need_log) fa_need_log fd_need_log) {fa_is_whole : Addr} {fd_is_whole : FuncData} (D_is_whole : Fn P w G mg base "is_whole" 1 ["value", "least", "most"] [[], [.none]] (spP G 3 m_is_whole) fa_is_whole fd_is_whole) {fI_BadNumber : Addr} {fd_BadNumber : FuncData} (x_BadNumber : Xn P w G mg base 2 "BadNumber" ["what", "number"] ["self", "what", "number"] fI_BadNumber fd_BadNumber) : BdyE P w G.K mg base 6 f "heard_of" (defScope (top 40)) ["log", "number", "found", "at"] fun X W => ∃ t, MB X G W (defBody (top 40)) t b_heard_of := by
  intro cdv A outer s H W hr
  have hN : (["log", "number", "found", "at"] : List Str).Nodup := by decide
  exact ⟨_, (mb_cons (ms_drop (me_call D_need_log.ok (hr.mono (by decide)) D_need_log.g D_need_log.kp (D_need_log.bs [] (by simp)) .nil (fun _ => dvs0) (ma_cons (me_var 0) ma_nil))) (mb_cons (ms_if (mw_or (mt_not (mt_val (me_call D_is_whole.ok (hr.mono (by decide)) D_is_whole.g D_is_whole.kp (D_is_whole.bs [] (by simp)) .nil (fun _ => dvs0) (ma_cons (me_var 1) (ma_cons me_int (ma_cons (me_bin op_sub od_sub (me_callB call_lenA cd_len boot_len E.n_len (ma_cons (me_var 0) ma_nil)) me_int) ma_nil)))))) (mw_or1 (mt_cmp (op_neAll hr.u64) od_ne (me_ix (me_ix (me_var 0) (me_var 1)) me_int) me_str))).pt (mb_one (ms_raise 2 x_BadNumber.T x_BadNumber.i x_BadNumber.t x_BadNumber.ok (hr.mono (by decide)) x_BadNumber.b x_BadNumber.g x_BadNumber.F (ma_cons me_str (ma_cons (me_var 1) ma_nil)) (kCons_len (kCons_len kNil_len)) (takes_of rfl rfl rfl rfl))) mb_nil) (mb_cons (ms_par 2 3 (mx_f (mf_lst ma_nil)) (mx_v (me_bin op_addAll od_add (me_var 1) me_int)) hN) (mb_cons (ms_while 100 (mw_and (mt_cmp op_lt od_lt (me_var 3) (me_callB call_lenA cd_len boot_len E.n_len (ma_cons (me_var 0) ma_nil))) (mw_and1 (mt_cmp (op_eqAll hr.u64) od_eq (me_ix (me_ix (me_var 0) (me_var 3)) me_int) me_str))).pt (mb_cons (ms_app 2 (me_ix (me_ix (me_var 0) (me_var 3)) me_int)) (mb_one (ms_aug 3 iop_add od_addI me_int hN)))) (mb_one (ms_ret (me_callTyL call_tupOf cl_tup boot_tuple E.n_tuple (ml_own 2))))))))⟩
def N_renumbered_log : List Str := ["log", "order", "fine", "hand", "found", "hears", "event"]
def b_renumbered_log : KS := (kSeq (kDrop (kCall 1 m_need_log [] (kCons (kVar 0) kNil))) (kSeq (kAsg (kAndV (kIsi .tuple (kVar 1)) (kCa allL (kLc [3] (kSeqI (kVar 1)) (gkN 3) kYes (kCall 3 m_is_whole [] (kCons (kVar 3) (kCons (kC (.int 0)) (kCons (kOp subD (kOp ixD (kOp ixD (kVar 0) (kC (.int 0))) (kC (.int 1))) (kC (.int 1))) kNil))))))) (gkN 2)) (kSeq (kIfS (kOrB (kNotB (kT (kVar 2))) (kT (kOp neD (kFz (kCaL sortT (kCons (kVar 1) kNil))) (kFz (kLstR (kRng1 (kOp ixD (kOp ixD (kVar 0) (kC (.int 0))) (kC (.int 1))))))))) (kRaise 0 (kCons (kC (.str "order")) (kCons (kVar 1) kNil))) kNext) (kSeq (kPar 4 5 (kXF (kLst kNil)) (kXF (kLst kNil))) (kSeq (kFor (kSeqI (kVar 0)) (gkN 6) (kIfS (kT (kOp neD (kOp ixD (kVar 6) (kC (.int 0))) (kC (.str "hear")))) (kSeq (kPar 4 5 (kXF (kCat (kOwn 4) (kCaL sortL (kOwn 5)))) (kXF (kLst kNil))) (kApp 4 (kCall 2 m_turned [] (kCons (kVar 6) (kCons (kVar 1) kNil))))) (kApp 5 (kCall 2 m_turned [] (kCons (kVar 6) (kCons (kVar 1) kNil)))))) (kRet (kCa tupL (kCat (kOwn 4) (kCaL sortL (kOwn 5))))))))))
def m_renumbered_log : KF := mFn 7 b_renumbered_log
theorem d_renumbered_log {P : Program} {w : World} {G : Gm} {mg : Str → Option Value} {base : Heap} {f : Addr} (E : Gs w G mg) {fa_need_log : Addr} {fd_need_log : FuncData} (D_need_log : Fn P w G mg base "need_log" 6 ["log"] [[]] (spP G 1 m_need_log) fa_need_log fd_need_log) {fa_is_whole : Addr} {fd_is_whole : FuncData} (D_is_whole : Fn P w G mg base "is_whole" 1 ["value", "least", "most"] [[], [.none]] (spP G 3 m_is_whole) fa_is_whole fd_is_whole) {fa_turned : Addr} {fd_turned : FuncData} (D_turned : Fn P w G mg base "turned" 1 ["event", "order"] [[]] (spP G 2 m_turned) fa_turned fd_turned) {fI_BadRow : Addr} {fd_BadRow : FuncData} (x_BadRow : Xn P w G mg base 0 "BadRow" ["what", "row"] ["self", "what", "row"] fI_BadRow fd_BadRow) : BdyE P w G.K mg base 6 f "renumbered_log" (defScope (top 42)) ["log", "order", "fine", "hand", "found", "hears", "event"] fun X W => ∃ t, MB X G W (defBody (top 42)) t b_renumbered_log := by
  intro cdv A outer s H W hr
  have hN : (["log", "order", "fine", "hand", "found", "hears", "event"] : List Str).Nodup := by decide
  exact ⟨_, (mb_cons (ms_drop (me_call D_need_log.ok (hr.mono (by decide)) D_need_log.g D_need_log.kp (D_need_log.bs [] (by simp)) .nil (fun _ => dvs0) (ma_cons (me_var 0) ma_nil))) (mb_cons (ms_asg (me_and (me_isi .tuple (me_var 1) rfl E.n_isinstance boot_tuple E.n_tuple) (me_one (me_callBL (cr_all rfl) cl_all boot_all E.n_all (mf_lcD [("hand", 3)] hN (mi_seq (me_var 1)) rfl (fun s H C cl fp => (mg_name 3 hN)) (fun s H C cl fp => mts_nil) (fun s H C cl fp => (me_call D_is_whole.ok (hr.mono (by decide)) D_is_whole.g D_is_whole.kp (D_is_whole.bs [] (by simp)) .nil (fun _ => dvs0) (ma_cons (me_var 3) (ma_cons me_int (ma_cons (me_bin op_sub od_sub (me_ix (me_ix (me_var 0) me_int) me_int) me_int) ma_nil)))))).list))) (mg_name 2 hN)) (mb_cons (ms_if (mw_or (mt_not (mt_val (me_var 2))) (mw_or1 (mt_cmp (op_neAll hr.u64) od_ne (mf_callB (cr_sortT rfl hr.u70) cf_sortT boot_sorted E.n_sorted (ma_cons (me_var 1) ma_nil)).val (mf_listR (mr_1 (me_ix (me_ix (me_var 0) me_int) me_int) E.n_range) E.n_list).val))).pt (mb_one (ms_raise 0 x_BadRow.T x_BadRow.i x_BadRow.t x_BadRow.ok (hr.mono (by decide)) x_BadRow.b x_BadRow.g x_BadRow.F (ma_cons me_str (ma_cons (me_var 1) ma_nil)) (kCons_len (kCons_len kNil_len)) (takes_of rfl rfl rfl rfl))) mb_nil) (mb_cons (ms_par 4 5 (mx_f (mf_lst ma_nil)) (mx_f (mf_lst ma_nil)) hN) (mb_cons (ms_for (mi_seq (me_var 0)) (mg_name 6 hN) (mb_one (ms_if (mt_cmp (op_neAll hr.u64) od_ne (me_ix (me_var 6) me_int) me_str) (mb_cons (ms_par 4 5 (mx_f (mf_catO 4 (mf_callBL (cr_sortG rfl hr.u70) cl_sort boot_sorted E.n_sorted (ml_own 5)).list)) (mx_f (mf_lst ma_nil)) hN) (mb_one (ms_app 4 (me_call D_turned.ok (hr.mono (by decide)) D_turned.g D_turned.kp (D_turned.bs [] (by simp)) .nil (fun _ => dvs0) (ma_cons (me_var 6) (ma_cons (me_var 1) ma_nil)))))) (mb_one (ms_app 5 (me_call D_turned.ok (hr.mono (by decide)) D_turned.g D_turned.kp (D_turned.bs [] (by simp)) .nil (fun _ => dvs0) (ma_cons (me_var 6) (ma_cons (me_var 1) ma_nil)))))))) (mb_one (ms_ret (me_callTyL call_tupOf cl_tup boot_tuple E.n_tuple (mf_catO 4 (mf_callBL (cr_sortG rfl hr.u70) cl_sort boot_sorted E.n_sorted (ml_own 5)).list).list))))))))⟩
def N_quiet_hands : List Str := ["log", "moved", "event", "hand", "state"]
def b_quiet_hands : KS := (kSeq (kDrop (kCall 1 m_need_log [] (kCons (kVar 0) kNil))) (kSeq (kAsgF 1 (kLc2 [2, 3, 4] [3, 4] (kSeqI (kVar 0)) (gkN 2) kYes (kSeqI (kCall 1 m_changes_by [] (kCons (kVar 2) kNil))) (gkTup 2 (gkCons (gkN 3) (gkCons (gkN 4) gkNil))) kYes (kVar 3))) (kFrz [1] (kRet (kCa tupL (kLc [3] (kRng1 (kOp ixD (kOp ixD (kVar 0) (kC (.int 0))) (kC (.int 1)))) (gkN 3) (kT (kOp notInD (kVar 3) (kVar 1))) (kVar 3)))))))
def m_quiet_hands : KF := mFn 5 b_quiet_hands
theorem d_quiet_hands {P : Program} {w : World} {G : Gm} {mg : Str → Option Value} {base : Heap} {f : Addr} (E : Gs w G mg) {fa_need_log : Addr} {fd_need_log : FuncData} (D_need_log : Fn P w G mg base "need_log" 6 ["log"] [[]] (spP G 1 m_need_log) fa_need_log fd_need_log) {fa_changes_by : Addr} {fd_changes_by : FuncData} (D_changes_by : Fn P w G mg base "changes_by" 1 ["event"] [[]] (spP G 1 m_changes_by) fa_changes_by fd_changes_by)  : BdyE P w G.K mg base 6 f "quiet_hands" (defScope (top 43)) ["log", "moved", "event", "hand", "state"] fun X W => ∃ t, MB X G W (defBody (top 43)) t b_quiet_hands := by
  intro cdv A outer s H W hr
  have hN : (["log", "moved", "event", "hand", "state"] : List Str).Nodup := by decide
  exact ⟨_, (mb_cons (ms_drop (me_call D_need_log.ok (hr.mono (by decide)) D_need_log.g D_need_log.kp (D_need_log.bs [] (by simp)) .nil (fun _ => dvs0) (ma_cons (me_var 0) ma_nil))) (mb_cons (ms_asgF 1 (mf_lc2D [("event", 2), ("hand", 3), ("state", 4)] [3, 4] hN (mi_seq (me_var 0)) rfl (fun s H C cl fp => (mg_name 2 hN)) (fun s H C cl fp => mts_nil) (fun s H C cl fp => (mi_seq (me_call D_changes_by.ok (hr.mono (by decide)) D_changes_by.g D_changes_by.kp (D_changes_by.bs [] (by simp)) .nil (fun _ => dvs0) (ma_cons (me_var 2) ma_nil)))) (fun s H C cl fp => (mg_tup (mgs_cons (mg_name 3 hN) (mgs_cons (mg_name 4 hN) mgs_nil)))) (fun s H C cl fp => mts_nil) (fun s H C cl fp => (me_var 3))) hN) (mb_one (ms_frz [1] (ms_ret (me_callTyL call_tupOf cl_tup boot_tuple E.n_tuple (mf_lcD [("hand", 3)] hN (mi_rng1 (me_ix (me_ix (me_var 0) me_int) me_int) E.n_range) rfl (fun s H C cl fp => (mg_name 3 hN)) (fun s H C cl fp => (mts_one (mt_cmp (op_notInA hr.u65) od_notIn (me_var 3) (me_var 1)))) (fun s H C cl fp => (me_var 3))).list))))))⟩
end K60
end
section
set_option Elab.async false
set_option linter.all false
set_option maxRecDepth 100000
set_option maxHeartbeats 4000000
namespace K60
open PySem PySem.Spec L2 Dn PyProof.Rows
def N__law_draw : List Str := ["pen", "many", "cell", "digit", "blend"]
def b__law_draw : KS := (kSeq (kPenS 0 "count" (kOp addD (kPen 0 "count") (kC (.int 1)))) (kSeq (kIfS (kAndB (kT (kOp eqD (kPen 0 "digits") (kC (.int 0)))) (kT (kOp ltD (kPen 0 "at") (kCa lenL (kCells 0))))) (kSeq (kAsg (kIxL (kCells 0) (kPen 0 "at")) (gkN 2)) (kSeq (kPenS 0 "at" (kOp addD (kPen 0 "at") (kC (.int 1)))) (kIfS (kT (kOp geD (kVar 2) (kOp powD (kC (.int 10)) (kC (.int 18))))) (kPenS 0 "digits" (kOp subD (kVar 2) (kOp powD (kC (.int 10)) (kC (.int 18))))) (kPenS 0 "fold" (kOp modD (kCa intD (kCons (kOp addD (kOp mulI (kPen 0 "fold") (kC (.int 70157))) (kVar 2)) kNil)) (kC (.int 2147482943))))))) kNext) (kSeq (kIfS (kT (kOp gtD (kPen 0 "digits") (kC (.int 0)))) (kSeq (kAsg (kOp modD (kCa intD (kCons (kPen 0 "digits") kNil)) (kVar 1)) (gkN 3)) (kSeq (kPenS 0 "digits" (kOp fdivD (kPen 0 "digits") (kVar 1))) (kRet (kVar 3)))) kNext) (kSeq (kAsg (kOp addD (kOp addD (kPen 0 "fold") (kOp mulI (kPen 0 "count") (kC (.int 7937)))) (kC (.int 101))) (gkN 4)) (kRet (kOp modD (kOp fdivD (kCa intD (kCons (kOp modD (kOp powD (kVar 4) (kC (.int 17))) (kC (.int 2305843009213693951))) kNil)) (kC (.int 128))) (kVar 1)))))))
def m__law_draw : KM := mPn 5 b__law_draw
theorem d__law_draw {P : Program} {w : World} {G : Gm} {mg : Str → Option Value} {base : Heap} {f : Addr} (E : Gs w G mg)   : BdyE P w G.K mg base 0 f "_law_draw" (defScope (top 46)) ["pen", "many", "cell", "digit", "blend"] fun X W => ∃ t, MB X G W (defBody (top 46)) t b__law_draw := by
  intro cdv A outer s H W hr
  have hN : (["pen", "many", "cell", "digit", "blend"] : List Str).Nodup := by decide
  exact ⟨_, (mb_cons (ms_penS 0 "count" hr.u1 (me_bin op_addAll od_add (me_pen 0 "count" hr.u1) me_int)) (mb_cons (ms_if (mw_and (mt_cmp (op_eqAll hr.u64) od_eq (me_pen 0 "digits" hr.u1) me_int) (mw_and1 (mt_cmp op_lt od_lt (me_pen 0 "at" hr.u1) (me_callBL call_lenA cl_len boot_len E.n_len (ml_cells 0 hr.u1))))).pt (mb_cons (ms_asg (me_ixC 0 hr.u1 (me_pen 0 "at" hr.u1)) (mg_name 2 hN)) (mb_cons (ms_penS 0 "at" hr.u1 (me_bin op_addAll od_add (me_pen 0 "at" hr.u1) me_int)) (mb_one (ms_if (mt_cmp op_ge od_ge (me_var 2) (me_bin op_pow od_pow me_int me_int)) (mb_one (ms_penS 0 "digits" hr.u1 (me_bin op_sub od_sub (me_var 2) (me_bin op_pow od_pow me_int me_int)))) (mb_one (ms_penS 0 "fold" hr.u1 (me_bin op_mod od_mod (me_callTy call_int1 cd_int boot_int E.n_int (ma_cons (me_bin op_addAll od_add (me_bin op_mul od_mulI (me_pen 0 "fold" hr.u1) me_int) (me_var 2)) ma_nil)) me_int))))))) mb_nil) (mb_cons (ms_if (mt_cmp op_gt od_gt (me_pen 0 "digits" hr.u1) me_int) (mb_cons (ms_asg (me_bin op_mod od_mod (me_callTy call_int1 cd_int boot_int E.n_int (ma_cons (me_pen 0 "digits" hr.u1) ma_nil)) (me_var 1)) (mg_name 3 hN)) (mb_cons (ms_penS 0 "digits" hr.u1 (me_bin op_fdiv od_fdiv (me_pen 0 "digits" hr.u1) (me_var 1))) (mb_one (ms_ret (me_var 3))))) mb_nil) (mb_cons (ms_asg (me_bin op_addAll od_add (me_bin op_addAll od_add (me_pen 0 "fold" hr.u1) (me_bin op_mul od_mulI (me_pen 0 "count" hr.u1) me_int)) me_int) (mg_name 4 hN)) (mb_one (ms_ret (me_bin op_mod od_mod (me_bin op_fdiv od_fdiv (me_callTy call_int1 cd_int boot_int E.n_int (ma_cons (me_bin op_mod od_mod (me_bin op_pow od_pow (me_var 4) me_int) me_int) ma_nil)) me_int) (me_var 1))))))))⟩
def N__law_pick : List Str := ["pen", "some"]
def b__law_pick : KS := (kRet (kOp ixD (kVar 1) (kCallM 0 1 m__law_draw [] (kCons (kCa lenD (kCons (kVar 1) kNil)) kNil))))
def m__law_pick : KM := mPn 2 b__law_pick
theorem d__law_pick {P : Program} {w : World} {G : Gm} {mg : Str → Option Value} {base : Heap} {f : Addr} (E : Gs w G mg) {fa__law_draw : Addr} {fd__law_draw : FuncData} (D__law_draw : Fn P w G mg base "_law_draw" 1 ["pen", "many"] [[]] (spM G 1 m__law_draw) fa__law_draw fd__law_draw)  : BdyE P w G.K mg base 1 f "_law_pick" (defScope (top 47)) ["pen", "some"] fun X W => ∃ t, MB X G W (defBody (top 47)) t b__law_pick := by
  intro cdv A outer s H W hr
  have hN : (["pen", "some"] : List Str).Nodup := by decide
  exact ⟨_, (mb_one (ms_ret (me_ix (me_var 1) (me_callM 0 D__law_draw.ok (hr.mono (by decide)) D__law_draw.g D__law_draw.kp (D__law_draw.bs [] (by simp)) .nil (fun _ => dvs0) (ma_cons (me_callB call_lenA cd_len boot_len E.n_len (ma_cons (me_var 1) ma_nil)) ma_nil)))))⟩
def N__law_shuffled : List Str := ["pen", "some", "left", "found", "lap"]
def b__law_shuffled : KS := (kSeq (kPar 2 3 (kXF (kCaL lstD (kCons (kVar 1) kNil))) (kXF (kLst kNil))) (kSeq (kFor (kRng1 (kCa lenD (kCons (kVar 1) kNil))) (gkN 4) (kAppPop 3 2 (kCallM 0 1 m__law_draw [] (kCons (kCa lenL (kOwn 2)) kNil)))) (kRetL (kOwn 3))))
def m__law_shuffled : KM := mPn 5 b__law_shuffled
theorem d__law_shuffled {P : Program} {w : World} {G : Gm} {mg : Str → Option Value} {base : Heap} {f : Addr} (E : Gs w G mg) {fa__law_draw : Addr} {fd__law_draw : FuncData} (D__law_draw : Fn P w G mg base "_law_draw" 1 ["pen", "many"] [[]] (spM G 1 m__law_draw) fa__law_draw fd__law_draw)  : BdyE P w G.K mg base 1 f "_law_shuffled" (defScope (top 48)) ["pen", "some", "left", "found", "lap"] fun X W => ∃ t, MB X G W (defBody (top 48)) t b__law_shuffled := by
  intro cdv A outer s H W hr
  have hN : (["pen", "some", "left", "found", "lap"] : List Str).Nodup := by decide
  exact ⟨_, (mb_cons (ms_par 2 3 (mx_f (mf_callTy call_lstOf cf_lst boot_list E.n_list (ma_cons (me_var 1) ma_nil))) (mx_f (mf_lst ma_nil)) hN) (mb_cons (ms_for (mi_rng1 (me_callB call_lenA cd_len boot_len E.n_len (ma_cons (me_var 1) ma_nil)) E.n_range) (mg_name 4 hN) (mb_one (ms_appPop 3 2 (me_callM 0 D__law_draw.ok (hr.mono (by decide)) D__law_draw.g D__law_draw.kp (D__law_draw.bs [] (by simp)) .nil (fun _ => dvs0) (ma_cons (me_callBL call_lenA cl_len boot_len E.n_len (ml_own 2)) ma_nil))))) (mb_one (ms_retO 3))))⟩
def N__law_name : List Str := ["pen", "index", "word", "spot", "place"]
def b__law_name : KS := (kSeq (kAsg (kC (.str "")) (gkN 2)) (kSeq (kFor (kRng1 (kOp addD (kC (.int 1)) (kCallM 0 1 m__law_draw [] (kCons (kC (.int 8)) kNil)))) (gkN 3) (kAsg (kOp addD (kVar 2) (kOp ixD (kC (.str "abcdefghijklmnopqrstuvwxyz")) (kCallM 0 1 m__law_draw [] (kCons (kC (.int 26)) kNil)))) (gkN 2))) (kSeq (kAsg (kOp addD (kC (.int 1)) (kCallM 0 1 m__law_draw [] (kCons (kCa lenD (kCons (kVar 2) kNil)) kNil))) (gkN 4)) (kRet (kOp addD (kOp addD (kSl (kVar 2) kNone (kPart (kVar 4))) (kCa strD (kCons (kVar 1) kNil))) (kSl (kVar 2) (kPart (kVar 4)) kNone))))))
def m__law_name : KM := mPn 5 b__law_name
theorem d__law_name {P : Program} {w : World} {G : Gm} {mg : Str → Option Value} {base : Heap} {f : Addr} (E : Gs w G mg) {fa__law_draw : Addr} {fd__law_draw : FuncData} (D__law_draw : Fn P w G mg base "_law_draw" 1 ["pen", "many"] [[]] (spM G 1 m__law_draw) fa__law_draw fd__law_draw)  : BdyE P w G.K mg base 1 f "_law_name" (defScope (top 49)) ["pen", "index", "word", "spot", "place"] fun X W => ∃ t, MB X G W (defBody (top 49)) t b__law_name := by
  intro cdv A outer s H W hr
  have hN : (["pen", "index", "word", "spot", "place"] : List Str).Nodup := by decide
  exact ⟨_, (mb_cons (ms_asg me_str (mg_name 2 hN)) (mb_cons (ms_for (mi_rng1 (me_bin op_addAll od_add me_int (me_callM 0 D__law_draw.ok (hr.mono (by decide)) D__law_draw.g D__law_draw.kp (D__law_draw.bs [] (by simp)) .nil (fun _ => dvs0) (ma_cons me_int ma_nil))) E.n_range) (mg_name 3 hN) (mb_one (ms_asg (me_bin op_addAll od_add (me_var 2) (me_ix me_str (me_callM 0 D__law_draw.ok (hr.mono (by decide)) D__law_draw.g D__law_draw.kp (D__law_draw.bs [] (by simp)) .nil (fun _ => dvs0) (ma_cons me_int ma_nil)))) (mg_name 2 hN)))) (mb_cons (ms_asg (me_bin op_addAll od_add me_int (me_callM 0 D__law_draw.ok (hr.mono (by decide)) D__law_draw.g D__law_draw.kp (D__law_draw.bs [] (by simp)) .nil (fun _ => dvs0) (ma_cons (me_callB call_lenA cd_len boot_len E.n_len (ma_cons (me_var 2) ma_nil)) ma_nil))) (mg_name 4 hN)) (mb_one (ms_ret (me_bin op_addAll od_add (me_bin op_addAll od_add (me_slice (me_var 2) mo_none (mo_some (me_var 4))) (me_callTy call_str_int cd_str boot_str E.n_str (ma_cons (me_var 1) ma_nil))) (me_slice (me_var 2) (mo_some (me_var 4)) mo_none)))))))⟩
def N__law_names : List Str := ["pen", "many", "index"]
def b__law_names : KS := (kRet (kCallM 0 1 m__law_shuffled [] (kCons (kFz (kLc [2] (kRng1 (kVar 1)) (gkN 2) kYes (kCallM 0 1 m__law_name [] (kCons (kVar 2) kNil)))) kNil)))
def m__law_names : KM := mPn 3 b__law_names
theorem d__law_names {P : Program} {w : World} {G : Gm} {mg : Str → Option Value} {base : Heap} {f : Addr} (E : Gs w G mg) {fa__law_shuffled : Addr} {fd__law_shuffled : FuncData} (D__law_shuffled : Fn P w G mg base "_law_shuffled" 2 ["pen", "some"] [[]] (spM G 1 m__law_shuffled) fa__law_shuffled fd__law_shuffled) {fa__law_name : Addr} {fd__law_name : FuncData} (D__law_name : Fn P w G mg base "_law_name" 2 ["pen", "index"] [[]] (spM G 1 m__law_name) fa__law_name fd__law_name)  : BdyE P w G.K mg base 2 f "_law_names" (defScope (top 50)) ["pen", "many", "index"] fun X W => ∃ t, MB X G W (defBody (top 50)) t b__law_names := by
  intro cdv A outer s H W hr
  have hN : (["pen", "many", "index"] : List Str).Nodup := by decide
  exact ⟨_, (mb_one (ms_ret (me_callM 0 D__law_shuffled.ok (hr.mono (by decide)) D__law_shuffled.g D__law_shuffled.kp (D__law_shuffled.bs [] (by simp)) .nil (fun _ => dvs0) (ma_cons (mf_lcD [("index", 2)] hN (mi_rng1 (me_var 1) E.n_range) rfl (fun s H C cl fp => (mg_name 2 hN)) (fun s H C cl fp => mts_nil) (fun s H C cl fp => (me_callM 0 D__law_name.ok (hr.mono (by decide)) D__law_name.g D__law_name.kp (D__law_name.bs [] (by simp)) .nil (fun _ => dvs0) (ma_cons (me_var 2) ma_nil)))).val ma_nil))))⟩
def N__law_in_numbers : List Str := ["log", "order", "found", "hears", "row"]
def b__law_in_numbers : KS := (kSeq (kPar 2 3 (kXF (kLst kNil)) (kXF (kLst kNil))) (kSeq (kFor (kSeqI (kVar 0)) (gkN 4) (kSeq (kIfS (kT (kOp eqD (kOp ixD (kVar 4) (kC (.int 0))) (kC (.str "hear")))) (kSeq (kApp 3 (kOp addD (kTup (kCons (kC (.str "hear")) (kCons (kOp ixD (kVar 1) (kOp ixD (kVar 4) (kC (.int 1)))) kNil))) (kSl (kVar 4) (kPart (kC (.int 2))) kNone))) kCont) kNext) (kSeq (kPar 2 3 (kXF (kCat (kOwn 2) (kCaL sortL (kOwn 3)))) (kXF (kLst kNil))) (kApp 2 (kIf (kT (kOp eqD (kOp ixD (kVar 4) (kC (.int 0))) (kC (.str "crowd")))) (kVar 4) (kIf (kT (kOp eqD (kOp ixD (kVar 4) (kC (.int 0))) (kC (.str "meet")))) (kOp addD (kTup (kCons (kC (.str "meet")) (kCons (kOp ixD (kVar 1) (kOp ixD (kVar 4) (kC (.int 1)))) (kCons (kOp ixD (kVar 1) (kOp ixD (kVar 4) (kC (.int 2)))) kNil)))) (kSl (kVar 4) (kPart (kC (.int 3))) kNone)) (kOp addD (kTup (kCons (kC (.str "shout")) (kCons (kOp ixD (kVar 1) (kOp ixD (kVar 4) (kC (.int 1)))) kNil))) (kSl (kVar 4) (kPart (kC (.int 2))) kNone)))))))) (kRet (kCa tupL (kCat (kOwn 2) (kCaL sortL (kOwn 3)))))))
def m__law_in_numbers : KF := mFn 5 b__law_in_numbers
theorem d__law_in_numbers {P : Program} {w : World} {G : Gm} {mg : Str → Option Value} {base : Heap} {f : Addr} (E : Gs w G mg)   : BdyE P w G.K mg base 0 f "_law_in_numbers" (defScope (top 54)) ["log", "order", "found", "hears", "row"] fun X W => ∃ t, MB X G W (defBody (top 54)) t b__law_in_numbers := by
  intro cdv A outer s H W hr
  have hN : (["log", "order", "found", "hears", "row"] : List Str).Nodup := by decide
  exact ⟨_, (mb_cons (ms_par 2 3 (mx_f (mf_lst ma_nil)) (mx_f (mf_lst ma_nil)) hN) (mb_cons (ms_for (mi_seq (me_var 0)) (mg_name 4 hN) (mb_cons (ms_if (mt_cmp (op_eqAll hr.u64) od_eq (me_ix (me_var 4) me_int) me_str) (mb_cons (ms_app 3 (me_bin op_addAll od_add (me_tup (ma_cons me_str (ma_cons (me_ix (me_var 1) (me_ix (me_var 4) me_int)) ma_nil))) (me_slice (me_var 4) (mo_some me_int) mo_none))) (mb_one ms_cont)) mb_nil) (mb_cons (ms_par 2 3 (mx_f (mf_catO 2 (mf_callBL (cr_sortG rfl hr.u70) cl_sort boot_sorted E.n_sorted (ml_own 3)).list)) (mx_f (mf_lst ma_nil)) hN) (mb_one (ms_app 2 (me_if (mt_cmp (op_eqAll hr.u64) od_eq (me_ix (me_var 4) me_int) me_str) (me_var 4) (me_if (mt_cmp (op_eqAll hr.u64) od_eq (me_ix (me_var 4) me_int) me_str) (me_bin op_addAll od_add (me_tup (ma_cons me_str (ma_cons (me_ix (me_var 1) (me_ix (me_var 4) me_int)) (ma_cons (me_ix (me_var 1) (me_ix (me_var 4) me_int)) ma_nil)))) (me_slice (me_var 4) (mo_some me_int) mo_none)) (me_bin op_addAll od_add (me_tup (ma_cons me_str (ma_cons (me_ix (me_var 1) (me_ix (me_var 4) me_int)) ma_nil))) (me_slice (me_var 4) (mo_some me_int) mo_none))))))))) (mb_one (ms_ret (me_callTyL call_tupOf cl_tup boot_tuple E.n_tuple (mf_catO 2 (mf_callBL (cr_sortG rfl hr.u70) cl_sort boot_sorted E.n_sorted (ml_own 3)).list).list)))))⟩
def N__law_beside : List Str := ["one", "other", "many", "order", "hand"]
def b__law_beside : KS := (kSeq (kAsg (kOp ixD (kOp ixD (kVar 0) (kC (.int 0))) (kC (.int 1))) (gkN 2)) (kSeq (kAsgF 3 (kLc [4] (kRng1 (kOp ixD (kOp ixD (kVar 1) (kC (.int 0))) (kC (.int 1)))) (gkN 4) kYes (kOp addD (kVar 4) (kVar 2)))) (kFrz [3] (kRet (kOp addD (kOp addD (kTup (kCons (kTup (kCons (kC (.str "crowd")) (kCons (kOp addD (kVar 2) (kOp ixD (kOp ixD (kVar 1) (kC (.int 0))) (kC (.int 1)))) kNil))) kNil)) (kSl (kVar 0) (kPart (kC (.int 1))) kNone)) (kSl (kCall 2 m__law_in_numbers [] (kCons (kVar 1) (kCons (kVar 3) kNil))) (kPart (kC (.int 1))) kNone))))))
def m__law_beside : KF := mFn 5 b__law_beside
theorem d__law_beside {P : Program} {w : World} {G : Gm} {mg : Str → Option Value} {base : Heap} {f : Addr} (E : Gs w G mg) {fa__law_in_numbers : Addr} {fd__law_in_numbers : FuncData} (D__law_in_numbers : Fn P w G mg base "_law_in_numbers" 1 ["log", "order"] [[]] (spP G 2 m__law_in_numbers) fa__law_in_numbers fd__law_in_numbers)  : BdyE P w G.K mg base 1 f "_law_beside" (defScope (top 55)) ["one", "other", "many", "order", "hand"] fun X W => ∃ t, MB X G W (defBody (top 55)) t b__law_beside := by
  intro cdv A outer s H W hr
  have hN : (["one", "other", "many", "order", "hand"] : List Str).Nodup := by decide
  exact ⟨_, (mb_cons (ms_asg (me_ix (me_ix (me_var 0) me_int) me_int) (mg_name 2 hN)) (mb_cons (ms_setLcD 3 [("hand", 4)] hN (mi_rng1 (me_ix (me_ix (me_var 1) me_int) me_int) E.n_range) rfl (fun s H C cl fp => (mg_name 4 hN)) (fun s H C cl fp => mts_nil) (fun s H C cl fp => (me_bin op_addAll od_add (me_var 4) (me_var 2))) rfl) (mb_one (ms_frz [3] (ms_ret (me_bin op_addAll od_add (me_bin op_addAll od_add (me_tup (ma_cons (me_tup (ma_cons me_str (ma_cons (me_bin op_addAll od_add (me_var 2) (me_ix (me_ix (me_var 1) me_int) me_int)) ma_nil))) ma_nil)) (me_slice (me_var 0) (mo_some me_int) mo_none)) (me_slice (me_call D__law_in_numbers.ok (hr.mono (by decide)) D__law_in_numbers.g D__law_in_numbers.kp (D__law_in_numbers.bs [] (by simp)) .nil (fun _ => dvs0) (ma_cons (me_var 1) (ma_cons (me_var 3) ma_nil))) (mo_some me_int) mo_none)))))))⟩
def N__law_sum : List Str := ["one", "other", "found", "state", "number"]
def b__law_sum : KS := (kSeq (kAsgX 2 kDic0) (kSeq (kFor (kSeqI (kOp addD (kVar 0) (kVar 1))) (gkTup 2 (gkCons (gkN 3) (gkCons (gkN 4) gkNil))) (kDSet 2 (kVar 3) (kOp addD (kDGe (kDO 2) (kVar 3) (kC (.int 0))) (kVar 4)))) (kRet (kCa tupL (kLc [3] (kSeqI (kFz (kCaL sortL (kDKs (kDO 2))))) (gkN 3) kYes (kTup (kCons (kVar 3) (kCons (kDIt (kDO 2) (kVar 3)) kNil))))))))
def m__law_sum : KF := mFn 5 b__law_sum
theorem d__law_sum {P : Program} {w : World} {G : Gm} {mg : Str → Option Value} {base : Heap} {f : Addr} (E : Gs w G mg)   : BdyE P w G.K mg base 0 f "_law_sum" (defScope (top 56)) ["one", "other", "found", "state", "number"] fun X W => ∃ t, MB X G W (defBody (top 56)) t b__law_sum := by
  intro cdv A outer s H W hr
  have hN : (["one", "other", "found", "state", "number"] : List Str).Nodup := by decide
  exact ⟨_, (mb_cons (ms_asgX 2 mx_dic0 hN) (mb_cons (ms_for (mi_seq (me_bin op_addAll od_add (me_var 0) (me_var 1))) (mg_tup (mgs_cons (mg_name 3 hN) (mgs_cons (mg_name 4 hN) mgs_nil))) (mb_one (ms_dset 2 hr.u1 (me_var 3) (me_bin op_addAll od_add (me_dge hr.u1 (mdx_O 2) (me_var 3) me_int) (me_var 4))))) (mb_one (ms_ret (me_callTyL call_tupOf cl_tup boot_tuple E.n_tuple (mf_lcD [("state", 3)] hN (mi_seq (mf_callBL (cr_sortG rfl hr.u70) cl_sort boot_sorted E.n_sorted (mf_dkeys (mdx_O 2) E.n_list).list).val) rfl (fun s H C cl fp => (mg_name 3 hN)) (fun s H C cl fp => mts_nil) (fun s H C cl fp => (me_tup (ma_cons (me_var 3) (ma_cons (me_dit hr.u1 (mdx_O 2) (me_var 3)) ma_nil))))).list)))))⟩
def N__law_drawn_log : List Str := ["pen", "size", "names", "tones", "most", "log", "turn", "hand", "mate", "one", "letter", "hears"]
def b__law_drawn_log : KS := (kSeq (kAsg (kTup (kCons (kTup (kCons (kC (.str "crowd")) (kCons (kVar 1) kNil))) kNil)) (gkN 5)) (kSeq (kFor (kRng1 (kOp addD (kC (.int 1)) (kCallM 0 1 m__law_draw [] (kCons (kVar 4) kNil)))) (gkN 6) (kSeq (kAsg (kCallM 0 1 m__law_draw [] (kCons (kVar 1) kNil)) (gkN 7)) (kIfS (kAndB (kT (kOp gtD (kVar 1) (kC (.int 1)))) (kT (kOp eqD (kCallM 0 1 m__law_draw [] (kCons (kC (.int 2)) kNil)) (kC (.int 0))))) (kSeq (kAsg (kCallM 0 1 m__law_pick [] (kCons (kFz (kLc [9] (kRng1 (kVar 1)) (gkN 9) (kT (kOp neD (kVar 9) (kVar 7))) (kVar 9))) kNil)) (gkN 8)) (kAsg (kOp addD (kVar 5) (kTup (kCons (kTup (kCons (kC (.str "meet")) (kCons (kVar 7) (kCons (kVar 8) (kCons (kCallM 0 1 m__law_pick [] (kCons (kVar 2) kNil)) (kCons (kCallM 0 1 m__law_pick [] (kCons (kVar 2) kNil)) kNil)))))) kNil))) (gkN 5))) (kSeq (kAsg (kCallM 0 1 m__law_pick [] (kCons (kVar 3) kNil)) (gkN 10)) (kSeq (kAsgF 11 (kLc [9] (kRng1 (kVar 1)) (gkN 9) (kAndB (kT (kOp neD (kVar 9) (kVar 7))) (kT (kOp eqD (kCallM 0 1 m__law_draw [] (kCons (kC (.int 2)) kNil)) (kC (.int 0))))) (kTup (kCons (kC (.str "hear")) (kCons (kVar 9) (kCons (kVar 10) (kCons (kCallM 0 1 m__law_pick [] (kCons (kVar 2) kNil)) kNil))))))) (kAsg (kOp addD (kOp addD (kVar 5) (kTup (kCons (kTup (kCons (kC (.str "shout")) (kCons (kVar 7) (kCons (kVar 10) (kCons (kCallM 0 1 m__law_pick [] (kCons (kVar 2) kNil)) kNil))))) kNil))) (kCa tupL (kOwn 11))) (gkN 5))))))) (kRet (kVar 5))))
def m__law_drawn_log : KM := mPn 12 b__law_drawn_log
theorem d__law_drawn_log {P : Program} {w : World} {G : Gm} {mg : Str → Option Value} {base : Heap} {f : Addr} (E : Gs w G mg) {fa__law_draw : Addr} {fd__law_draw : FuncData} (D__law_draw : Fn P w G mg base "_law_draw" 1 ["pen", "many"] [[]] (spM G 1 m__law_draw) fa__law_draw fd__law_draw) {fa__law_pick : Addr} {fd__law_pick : FuncData} (D__law_pick : Fn P w G mg base "_law_pick" 2 ["pen", "some"] [[]] (spM G 1 m__law_pick) fa__law_pick fd__law_pick)  : BdyE P w G.K mg base 2 f "_law_drawn_log" (defScope (top 53)) ["pen", "size", "names", "tones", "most", "log", "turn", "hand", "mate", "one", "letter", "hears"] fun X W => ∃ t, MB X G W (defBody (top 53)) t b__law_drawn_log := by
  intro cdv A outer s H W hr
  have hN : (["pen", "size", "names", "tones", "most", "log", "turn", "hand", "mate", "one", "letter", "hears"] : List Str).Nodup := by decide
  exact ⟨_, (mb_cons (ms_asg (me_tup (ma_cons (me_tup (ma_cons me_str (ma_cons (me_var 1) ma_nil))) ma_nil)) (mg_name 5 hN)) (mb_cons (ms_for (mi_rng1 (me_bin op_addAll od_add me_int (me_callM 0 D__law_draw.ok (hr.mono (by decide)) D__law_draw.g D__law_draw.kp (D__law_draw.bs [] (by simp)) .nil (fun _ => dvs0) (ma_cons (me_var 4) ma_nil))) E.n_range) (mg_name 6 hN) (mb_cons (ms_asg (me_callM 0 D__law_draw.ok (hr.mono (by decide)) D__law_draw.g D__law_draw.kp (D__law_draw.bs [] (by simp)) .nil (fun _ => dvs0) (ma_cons (me_var 1) ma_nil)) (mg_name 7 hN)) (mb_one (ms_if (mw_and (mt_cmp op_gt od_gt (me_var 1) me_int) (mw_and1 (mt_cmp (op_eqAll hr.u64) od_eq (me_callM 0 D__law_draw.ok (hr.mono (by decide)) D__law_draw.g D__law_draw.kp (D__law_draw.bs [] (by simp)) .nil (fun _ => dvs0) (ma_cons me_int ma_nil)) me_int))).pt (mb_cons (ms_asg (me_callM 0 D__law_pick.ok (hr.mono (by decide)) D__law_pick.g D__law_pick.kp (D__law_pick.bs [] (by simp)) .nil (fun _ => dvs0) (ma_cons (mf_lcD [("one", 9)] hN (mi_rng1 (me_var 1) E.n_range) rfl (fun s H C cl fp => (mg_name 9 hN)) (fun s H C cl fp => (mts_one (mt_cmp (op_neAll hr.u64) od_ne (me_var 9) (me_var 7)))) (fun s H C cl fp => (me_var 9))).val ma_nil)) (mg_name 8 hN)) (mb_one (ms_asg (me_bin op_addAll od_add (me_var 5) (me_tup (ma_cons (me_tup (ma_cons me_str (ma_cons (me_var 7) (ma_cons (me_var 8) (ma_cons (me_callM 0 D__law_pick.ok (hr.mono (by decide)) D__law_pick.g D__law_pick.kp (D__law_pick.bs [] (by simp)) .nil (fun _ => dvs0) (ma_cons (me_var 2) ma_nil)) (ma_cons (me_callM 0 D__law_pick.ok (hr.mono (by decide)) D__law_pick.g D__law_pick.kp (D__law_pick.bs [] (by simp)) .nil (fun _ => dvs0) (ma_cons (me_var 2) ma_nil)) ma_nil)))))) ma_nil))) (mg_name 5 hN)))) (mb_cons (ms_asg (me_callM 0 D__law_pick.ok (hr.mono (by decide)) D__law_pick.g D__law_pick.kp (D__law_pick.bs [] (by simp)) .nil (fun _ => dvs0) (ma_cons (me_var 3) ma_nil)) (mg_name 10 hN)) (mb_cons (ms_setLcD 11 [("one", 9)] hN (mi_rng1 (me_var 1) E.n_range) rfl (fun s H C cl fp => (mg_name 9 hN)) (fun s H C cl fp => (mts_one (mw_and (mt_cmp (op_neAll hr.u64) od_ne (me_var 9) (me_var 7)) (mw_and1 (mt_cmp (op_eqAll hr.u64) od_eq (me_callM 0 D__law_draw.ok (hr.mono (by decide)) D__law_draw.g D__law_draw.kp (D__law_draw.bs [] (by simp)) .nil (fun _ => dvs0) (ma_cons me_int ma_nil)) me_int))).pt)) (fun s H C cl fp => (me_tup (ma_cons me_str (ma_cons (me_var 9) (ma_cons (me_var 10) (ma_cons (me_callM 0 D__law_pick.ok (hr.mono (by decide)) D__law_pick.g D__law_pick.kp (D__law_pick.bs [] (by simp)) .nil (fun _ => dvs0) (ma_cons (me_var 2) ma_nil)) ma_nil)))))) rfl) (mb_one (ms_asg (me_bin op_addAll od_add (me_bin op_addAll od_add (me_var 5) (me_tup (ma_cons (me_tup (ma_cons me_str (ma_cons (me_var 7) (ma_cons (me_var 10) (ma_cons (me_callM 0 D__law_pick.ok (hr.mono (by decide)) D__law_pick.g D__law_pick.kp (D__law_pick.bs [] (by simp)) .nil (fun _ => dvs0) (ma_cons (me_var 2) ma_nil)) ma_nil))))) ma_nil))) (me_callTyL call_tupOf cl_tup boot_tuple E.n_tuple (ml_own 11))) (mg_name 5 hN))))))))) (mb_one (ms_ret (me_var 5)))))⟩
def N__law_same : List Str := ["told", "due", "one", "two"]
def b__law_same (m__law_same : KF) : KS := (kSeq (kIfS (kT (kIsi .tuple (kVar 1))) (kRet (kAndV (kIsi .tuple (kVar 0)) (kAndV (kOp eqD (kCa lenD (kCons (kVar 0) kNil)) (kCa lenD (kCons (kVar 1) kNil))) (kCa allL (kLc [2, 3] (kZip (kVar 0) (kVar 1)) (gkTup 2 (gkCons (gkN 2) (gkCons (gkN 3) gkNil))) kYes (kCall 2 m__law_same [] (kCons (kVar 2) (kCons (kVar 3) kNil)))))))) kNext) (kSeq (kIfS (kT (kOp isD (kVar 1) (kC .non))) (kRet (kOp isD (kVar 0) (kC .non))) kNext) (kSeq (kIfS (kT (kOp isD (kVar 1) (kC (.bl true)))) (kRet (kOp isD (kVar 0) (kC (.bl true)))) kNext) (kSeq (kIfS (kT (kOp isD (kVar 1) (kC (.bl false)))) (kRet (kOp isD (kVar 0) (kC (.bl false)))) kNext) (kSeq (kIfS (kT (kIsi .int (kVar 1))) (kRet (kAndV (kIsi .int (kVar 0)) (kAndV (kUn notD (kIsi .bool (kVar 0))) (kOp eqD (kVar 0) (kVar 1))))) kNext) (kRet (kAndV (kIsi .str (kVar 0)) (kOp eqD (kVar 0) (kVar 1)))))))))
def r__law_same : Nat → KF
  | 0 => fun _ => .error .stuck
  | n + 1 => mFn 4 (b__law_same (r__law_same n))
theorem d__law_same {P : Program} {w : World} {G : Gm} {mg : Str → Option Value} {base : Heap} {f : Addr} {k : Nat} {m__law_same : KF} (E : Gs w G mg) {fa__law_same : Addr} {fd__law_same : FuncData} (D__law_same : Fn P w G mg base "_law_same" k ["told", "due"] [[]] (spP G 2 m__law_same) fa__law_same fd__law_same) : BdyE P w G.K mg base k f "_law_same" (defScope (top 51)) ["told", "due", "one", "two"] fun X W => ∃ t, MB X G W (defBody (top 51)) t (b__law_same m__law_same) := by
  intro cdv A outer s H W hr
  have hN : (["told", "due", "one", "two"] : List Str).Nodup := by decide
  exact ⟨_, (mb_cons (ms_if (mt_val (me_isi .tuple (me_var 1) rfl E.n_isinstance boot_tuple E.n_tuple)) (mb_one (ms_ret (me_and (me_isi .tuple (me_var 0) rfl E.n_isinstance boot_tuple E.n_tuple) (me_and (me_cmp (op_eqAll hr.u64) od_eq (me_callB call_lenA cd_len boot_len E.n_len (ma_cons (me_var 0) ma_nil)) (me_callB call_lenA cd_len boot_len E.n_len (ma_cons (me_var 1) ma_nil))) (me_one (me_callBL (cr_all rfl) cl_all boot_all E.n_all (mf_lcD [("one", 2), ("two", 3)] hN (mi_zip (me_var 0) (me_var 1) E.n_zip) rfl (fun s H C cl fp => (mg_tup (mgs_cons (mg_name 2 hN) (mgs_cons (mg_name 3 hN) mgs_nil)))) (fun s H C cl fp => mts_nil) (fun s H C cl fp => (me_call D__law_same.ok (hr.mono (Nat.le_refl _)) D__law_same.g D__law_same.kp (D__law_same.bs [] (by simp)) .nil (fun _ => dvs0) (ma_cons (me_var 2) (ma_cons (me_var 3) ma_nil))))).list)))))) mb_nil) (mb_cons (ms_if (mt_cmp op_isA od_is (me_var 1) me_non) (mb_one (ms_ret (me_cmp op_isA od_is (me_var 0) me_non))) mb_nil) (mb_cons (ms_if (mt_cmp op_isA od_is (me_var 1) me_bl) (mb_one (ms_ret (me_cmp op_isA od_is (me_var 0) me_bl))) mb_nil) (mb_cons (ms_if (mt_cmp op_isA od_is (me_var 1) me_bl) (mb_one (ms_ret (me_cmp op_isA od_is (me_var 0) me_bl))) mb_nil) (mb_cons (ms_if (mt_val (me_isi .int (me_var 1) rfl E.n_isinstance boot_int E.n_int)) (mb_one (ms_ret (me_and (me_isi .int (me_var 0) rfl E.n_isinstance boot_int E.n_int) (me_and (me_not (me_isi .bool (me_var 0) rfl E.n_isinstance boot_bool E.n_bool)) (me_one (me_cmp (op_eqAll hr.u64) od_eq (me_var 0) (me_var 1))))))) mb_nil) (mb_one (ms_ret (me_and (me_isi .str (me_var 0) rfl E.n_isinstance boot_str E.n_str) (me_one (me_cmp (op_eqAll hr.u64) od_eq (me_var 0) (me_var 1)))))))))))⟩
end K60
end
section
set_option Elab.async false
set_option linter.all false
set_option maxRecDepth 100000
set_option maxHeartbeats 400000
namespace Dn
open PySem PySem.Spec L2
/-! ### the law's pen: how it is made -/
section
variable {G : Gm}
/-- what stands in the dict's display -/
def tPen (K : PySem.W.Frag) (i j : Nat) : TE := tDisp [(tC (.str "cells"), tCB (rLstOf K) (tCons (tVar i) tNil)), (tC (.str "at"), tC (.int 0)), (tC (.str "digits"), tC (.int 0)), (tC (.str "count"), tC (.int 0)), (tC (.str "fold"), tVar j)]
theorem upd_upd {H : Hp} {a : Addr} {o u : HO} : upd (upd H a o) a u = upd H a u := by
  funext b
  by_cases h : b = a
  · rw [h, upd_same, upd_same]
  · rw [upd_ne h, upd_ne h, upd_ne h]
theorem upd_swap {H : Hp} {a b : Addr} {o u : HO} (h : a ≠ b) : upd (upd H a o) b u = upd (upd H b u) a o := by
  funext x
  by_cases h1 : x = a
  · rw [h1, upd_ne h, upd_same, upd_same]
  · by_cases h2 : x = b
    · rw [h2, upd_same, upd_ne (Ne.symm h), upd_same]
    · rw [upd_ne h2, upd_ne h1, upd_ne h1, upd_ne h2]
theorem dvs_int_inv {I : Hp} : ∀ {ns : List Int} {vs : List V}, DVs G I (ns.map D.int) vs → vs = ns.map V.int
  | [], vs, h => DVs.nil.mp h
  | n :: ns, vs, h => by
    rw [List.map_cons] at h
    unfold DVs at h
    obtain ⟨v, r, rfl, h1, h2⟩ := h
    unfold DV at h1
    rw [h1, dvs_int_inv h2]
    rfl
theorem run_pen {c : Ctx} {p : Pen} {ρ : List Sl} {σ : L2.St} {I H : Hp} {i j : Nat} {ns : List Int} {f : Int} {Q : VK} (n : Now G c p ρ σ I H) (h0 : ρ[i]? = some (.val (.lst (ns.map D.int)))) (h1 : ρ[j]? = some (.val (.int f)))
    (k : ∀ a q, H a = none → H q = none → q ≠ a → Q (.ref a) (upd (upd H q (.lst (ns.map V.int))) a (penA (q, G.C) (.pn ns 0 0 0 f)))) : tPen G.K i j σ H Q := by
  obtain ⟨v, e0, d0⟩ := n.rel i _ h0
  obtain ⟨u, e1, d1⟩ := n.rel j _ h1
  unfold DV at d0 d1
  subst d1
  obtain ⟨s, xs, rfl, g1, g2⟩ := d0
  have ex := dvs_int_inv g2
  subst ex
  intro a ha
  have ns1 : s ≠ a := ne_of_none (n.sub s _ g1) ha
  refine ⟨.ref s, e0, s, ns.map V.int, rfl, .inl (SqL.of (by rw [upd_ne ns1]; exact n.sub s _ g1)), fun q hq => ?_⟩
  have qa : q ≠ a := fun z => by rw [z, upd_same] at hq; cases hq
  rw [upd_ne qa] at hq
  refine ⟨_, e1, by rw [upd_ne (Ne.symm qa), upd_same], [(.inr "cells", .ref q), (.inr "at", .int 0), (.inr "digits", .int 0), (.inr "count", .int 0), (.inr "fold", .int f)], rfl, by simp, ?_⟩
  have e2 : upd (upd (upd H a (.dK [])) q (.lst (ns.map V.int))) a (.dK (mergeK [] [(.inr "cells", .ref q), (.inr "at", .int 0), (.inr "digits", .int 0), (.inr "count", .int 0), (.inr "fold", .int f)])) = upd (upd H q (.lst (ns.map V.int))) a (penA (q, G.C) (.pn ns 0 0 0 f)) := by
    rw [upd_swap (Ne.symm qa), upd_upd]
    congr 1
  rw [e2]
  exact k a q ha hq qa

/-- the promise: pre is what goes ahead of the display -/
def spPen (G : Gm) (N : Nat) (pre : KS) : Sp := fun vs H Q _ => ∃ I ns ρ p f, Sub I H ∧ DVs G I [.lst (ns.map D.int)] vs ∧ pre (ρ0 N [.lst (ns.map D.int)]) pen0 = .ok (.nx, ρ, p) ∧ ρ[0]? = some (.val (.lst (ns.map D.int))) ∧ ρ[1]? = some (.val (.int f)) ∧
  ∀ I1 H1 a q, ExtN I H I1 H1 → H1 a = none → H1 q = none → q ≠ a → Q (.ref a) (upd (upd H1 q (.lst (ns.map V.int))) a (penA (q, G.C) (.pn ns 0 0 0 f)))
section
variable {P : Program} {w : World} {mg : Str → Option Value} {base : Heap} {k : Nat} {f : Addr} {fd : FuncData} {x qual : Str} {params : Arguments} {body : List Stmt} {scope : Scope} {N : List Str} {pre : KS} {x0 : Str}
theorem fn_pen (F : FunD G.K x qual params body scope [] [] f fd) (S : FnScope N [x0] scope) (hb : BdyE P w G.K mg base k f qual scope N fun X E => ∃ t, PSs X body (tSeq t (tRet (tPen G.K 0 1))) ∧ EvS G E pre t) (hN : 1 ≤ N.length) : FnOk P w G.K mg base (L2.CX P w) (k + 1) f fd [x0] (spPen G N.length pre) := by
  refine F.ok S (fun vs H Q E h => ?_) fun cdv A outer s H vs Q E hr h => ?_
  · obtain ⟨I, ns, ρ, p, f, _, hd, _⟩ := h
    rw [hd.length]
    rfl
  · obtain ⟨t, ht, he⟩ := hb cdv A outer s H E hr
    refine ⟨_, ht, ?_⟩
    obtain ⟨I, ns, ρ, p, f, hs, hd, hp, h0, h1, q⟩ := h
    have n0 := now_start (N := N) hs hd (by rw [hd.length]; exact hN)
    refine he.run n0 ?_
    rw [hp]
    exact fun σ' I' H' n' s' => run_pen n' h0 h1 fun a q' ha hq' hne => q I' H' a q' (Ext.any n'.ext) ha hq' hne
end

/-! ### pen = _law_pen(script), for the rest of a body -/
def intsOf : List D → Option (List Int)
  | [] => some []
  | .int n :: r => (intsOf r).map (n :: ·)
  | _ => none
theorem intsOf_some : ∀ {ds : List D} {ns : List Int}, intsOf ds = some ns → ds = ns.map D.int
  | [], ns, h => by injection h with h; subst h; rfl
  | d :: r, ns, h => by
    cases d with
    | int n =>
      have h : (intsOf r).map (n :: ·) = some ns := h
      obtain ⟨l, h1, rfl⟩ := Option.map_eq_some_iff.mp h
      rw [intsOf_some h1]
      rfl
    | _ => cases h
def slV : Option Sl → Option D
  | some (.val d) => some d
  | _ => none
theorem slV_some {o : Option Sl} {d : D} (h : slV o = some d) : o = some (.val d) := by
  cases o with
  | none => cases h
  | some s =>
    cases s with
    | val e =>
      injection (show some e = some d from h) with h
      rw [h]
    | _ => cases h
def isNx : Fl → Bool
  | .nx => true
  | _ => false
def kFocusP (i N : Nat) (pre : KS) (m : KE) (mr : KS) : KS := fun ρ p => do
  let a ← m ρ p
  let ds ← ofO (toL a.1)
  let ns ← ofO (intsOf ds)
  let r ← unx (pre (ρ0 N [.lst (ns.map D.int)]) pen0)
  if isNx r.1 = true ∧ slV r.2.1[0]? = some (.lst (ns.map D.int)) then do
    let d ← ofO (slV r.2.1[1]?)
    let f ← ofO (toI d)
    let z ← mr ((plainSs ρ).set i .pen) (.pn ns 0 0 0 f)
    match z.1 with
    | .ret d => pure (.ret d, ρ, a.2)
    | _ => .error .stuck
  else .error .stuck
theorem toL_some {d : D} {ds : List D} (h : toL d = some ds) : d = .lst ds := by
  cases d with
  | lst j =>
    injection (show some j = some ds from h) with h
    rw [h]
  | _ => cases h
theorem Pst.unx' {α : Type} {r : R α} {Kx Kx' : Nat → List D → Prop} {Ko : α → Prop} (h : Pst (Dn.unx r) Kx Ko) : ∃ a, r = .ok a ∧ Ko a := by
  cases r with
  | ok a => exact ⟨a, rfl, h⟩
  | error e => exact False.elim h
section
variable {X : Cx} {W : XK} {e : Expr} {te : TE} {m : KE} {pos cpos p px : Pos} {x cn x0 : Str} {N i : Nat} {pre mr : KS} {u : TS} {rest : List Stmt} {k : Nat} {f : Addr} {fd : FuncData}
theorem run_focusP (h : EvE G W m te) (hr : EvS G W mr u) {c : Ctx} {p : Pen} {ρ : List Sl} {σ : L2.St} {I H : Hp} {E : Ends} (nw : Now G c p ρ σ I H) (hI : NoT I) (ht : G.C 1000 ≠ 0 → LamX.TabS c.H0 (G.C 1000) lamQ ∧ ∀ b ps, c.H0 b = some (.tbl ps) → b = G.C 1000) (kk : Pst (kFocusP i N pre m mr ρ p) (Thr G c W) (Fin G c I E)) : tSeq (tAsg (tCall (spPen G N pre) [] W (tCons te tNil)) (gName i)) u E σ H := by
  refine h c p ρ σ I H _ nw ((Pst.bind.mp kk).mono (fun _ _ z => z) fun y hy v I1 H1 e1 d1 => ?_)
  have n1 := nw.step e1
  obtain ⟨ds, eds, hy⟩ := Pst.ofO (Pst.bind.mp hy)
  obtain ⟨ns, ens, hy⟩ := Pst.ofO (Pst.bind.mp hy)
  obtain ⟨r, er, hy⟩ := Pst.unx' (Kx' := Thr G c W) (Pst.bind.mp hy)
  obtain ⟨⟨hnx, hs0⟩, hy⟩ := Pst.ite' hy
  obtain ⟨d, ed, hy⟩ := Pst.ofO (Pst.bind.mp hy)
  obtain ⟨g, eg, hlast⟩ := Pst.ofO (Pst.bind.mp hy)
  rw [toL_some eds, intsOf_some ens] at d1
  obtain ⟨fl, ρ1, pz⟩ := r
  have hfl : fl = .nx := by cases fl <;> first | rfl | cases hnx
  subst hfl
  have d1s : DVs G I1 [.lst (ns.map D.int)] [v] := DVs.one.mpr ⟨v, rfl, d1⟩
  refine ⟨I1, ns, ρ1, pz, g, n1.sub, d1s, er, slV_some hs0, by rw [← toI_some eg]; exact slV_some ed, fun I2 H2 a q e2 ha hq hne => ?_⟩
  show u E (σ.set i (some (.ref a))) _
  have n2 := n1.step (e2.to n1.pen)
  have pa : PenAt a (q, G.C) (.pn ns 0 0 0 g) (upd (upd H2 q (.lst (ns.map V.int))) a (penA (q, G.C) (.pn ns 0 0 0 g))) := ⟨upd_same, by rw [upd_ne hne, upd_same]; rfl, rfl, fun _ hz => ⟨(n2.ext.keep.tab _ (ht hz).1).ext fun b o hb => by rw [upd_ne (fun z => by rw [z, ha] at hb; cases hb), upd_ne (fun z => by rw [z, hq] at hb; cases hb)]; exact hb, fun b ps h => by
    obtain ⟨ps1, h1⟩ := old_upd (penA_tbl (p := .pn ns 0 0 0 g)) b ps h
    obtain ⟨ps2, h2⟩ := old_upd (fun _ z => by cases z) b ps1 h1
    obtain ⟨ps3, h3⟩ := n2.ext.keep.old b ps2 h2
    exact (ht hz).2 b ps3 h3⟩⟩
  have sub : Sub I2 (upd (upd H2 q (.lst (ns.map V.int))) a (penA (q, G.C) (.pn ns 0 0 0 g))) := n2.sub.trans ((Sub.new hq).trans (Sub.new (by rw [upd_ne (Ne.symm hne)]; exact ha)))
  have Ia : I2 a = none := sub_none n2.sub ha
  have mk : ∀ {p' I' H'}, Ext (some (a, (q, G.C))) I2 (upd (upd H2 q (.lst (ns.map V.int))) a (penA (q, G.C) (.pn ns 0 0 0 g))) p' I' H' → Ext c.P I2 H2 y.2 I' H' := fun e => Ext.made n2.sub n2.pen ha hq e (t2 := penA_tbl)
  have e0 : Ext (some (a, (q, G.C))) I2 (upd (upd H2 q (.lst (ns.map V.int))) a (penA (q, G.C) (.pn ns 0 0 0 g))) (.pn ns 0 0 0 g) I2 (upd (upd H2 q (.lst (ns.map V.int))) a (penA (q, G.C) (.pn ns 0 0 0 g))) := Ext.refl sub fun a' cc' z => by cases z; exact pa
  have n3 : Now G ⟨some (a, (q, G.C)), I2, upd (upd H2 q (.lst (ns.map V.int))) a (penA (q, G.C) (.pn ns 0 0 0 g))⟩ (.pn ns 0 0 0 g) (plainSs ρ) σ I2 (upd (upd H2 q (.lst (ns.map V.int))) a (penA (q, G.C) (.pn ns 0 0 0 g))) :=
    n2.plain Sub.refl e0 (fun a' cc' z => by
      cases z
      exact ⟨Ia, ⟨_, upd_same⟩, ⟨_, pa.c⟩, rfl⟩) fun _ _ => (e2 pen0).noT n1.sub (e1.noT nw.sub hI)
  refine hr.run (n3.setPen rfl i) ((Pst.bind.mp hlast).mono (fun x ds z => z.mono fun p' I' H' e' => ⟨y.2, n2.ext.trans (mk e')⟩) fun z hz => ?_)
  obtain ⟨f, ρ3, p3⟩ := z
  cases f with
  | ret d => exact fun v I' H' e' hv => (show ∀ v I' H', Ext c.P c.I0 c.H0 y.2 I' H' → DV G I' d v → E.rt v H' from hz) v I' H' (n2.ext.trans (mk e')) hv
  | nx => exact False.elim hz
  | bk => exact False.elim hz
  | ct => exact False.elim hz
theorem ps_focusP (i : Nat) (F : FnOk X.prog X.w X.K X.mg X.base (L2.CX X.prog X.w) k f fd [x0] (spPen G N pre)) (hr : Room k X.A) (hm : X.mg cn = some (.ref f)) (hk : PySem.W.keepIn X.K (.ref f) = true) (hb : Binds X.K fd [x0] [])
    (ha : ME X G W e te m) (hN : X.N.Nodup) (hrest : MB X G W rest u mr)
    (hx : Passes (L2.CX X.prog X.w) X W := by first | exact L2.passes_call (takes_of rfl rfl rfl rfl) (fun _ _ _ _ h => h) | exact L2.passes_call takes0 (fun _ _ _ _ h => h)) (hg : Gl X cn := by rfl) (hdb : (cn == ("__debug__" : Str)) = false := by decide)
    (he : starEach (e :: []) X.env = (false, eval e X.env) :: starEach [] X.env := by rfl) (hpl : (backTo cpos (starEach [] X.env)).any (·.1) = false := by rfl)
    (hi : X.N[i]? = some x := by rfl) (hxl : Loc X.env.scope x := by first | exact Or.inl rfl | exact Or.inr rfl) (hf : X.fn x = true ∨ X.env.scope.names.lookup x = some .local := by first | exact .inl rfl | exact .inr rfl)
    (hs : swapsWithSole [.Name x px] (.Call (.Name cn p) [e] [] cpos) pos.line X.env = pure false := by rfl) (hw : swappedStores [.Name x px] (.Call (.Name cn p) [e] [] cpos) X.env = pure none := by rfl) (h1 : (assignEach [.Name x px] X.env).map (·.2) = [assign (.Name x px) X.env] := by rfl) :
    PSs X (.Assign [.Name x px] (.Call (.Name cn p) [e] [] cpos) pos :: rest) (tSeq (tAsg (tCall (spPen G N pre) [] W (tCons te tNil)) (gName i)) u) :=
  pss_cons (ps_asg (pe_call F hr hg hm hk hb .nil hx (pa_cons ha.pe pa_nil he) hdb he hpl) (pg_name hN hi hxl hf) hs hw h1) hrest.ps
end
theorem pen_body {X : Cx} {W : XK} {s1 s2 : Stmt} {t1 t2 : TS} {m1 m2 : KS} {e : Expr} {pos : Pos} (h1 : MS X G W s1 t1 m1) (h2 : MS X G W s2 t2 m2) (h3 : PE X e (tPen G.K 0 1)) :
    PSs X [s1, s2, .Return (some e) pos] (tSeq (tSeq t1 t2) (tRet (tPen G.K 0 1))) ∧ EvS G W (kSeq m1 m2) (tSeq t1 t2) := by
  have q : PSs X [s1, s2, .Return (some e) pos] (tSeq t1 (tSeq t2 (tRet (tPen G.K 0 1)))) := pss_cons h1.ps (pss_cons h2.ps (pss_one (ps_ret h3)))
  exact ⟨q, es_seq h1.ev h2.ev⟩
end
end Dn
end
section
set_option Elab.async false
set_option linter.all false
set_option maxRecDepth 100000
set_option maxHeartbeats 400000
namespace Dn
open PySem PySem.Spec L2
/-! ### repr -/
def seqLike : D → Bool
  | .tup _ => true
  | .lst _ => true
  | _ => false
def showOk (d : D) : Bool := fit d && (pd d).showable && !(pd d).hasDict && decide ((pd d).shown.length ≤ sizeLine)
def reprD1 : D → Option Str
  | .non => some "None"
  | .int i => if i.natAbs.log2 < 1920 then some (toString i) else none
  | d => if seqLike d = true ∧ showOk d = true then some (pd d).shown else none
def reprD : List D → Option D
  | [d] => (reprD1 d).map .str
  | _ => none
def rRepr (G : Gm) : List V → Hp → VK → Prop := fun xs H Q => ∃ (I : Hp) (v : V) (d : D) (z : Str), xs = [v] ∧ Sub I H ∧ DV G I d v ∧ reprD1 d = some z ∧ Q (.str z) H
section
variable {X : Cx} {G : Gm}
theorem cr_repr (hk : X.K = G.K) (hg : X.A.guards = some []) (hu : X.A.units + 70 < cLine) : CallR X (.builtin "repr") (rRepr G) := by
  intro pins s σ H xs us Q J r hyp
  obtain ⟨I, v, d, z, rfl, hs, hd, hz, q⟩ := hyp
  have seq : seqLike d = true → (if seqLike d = true ∧ showOk d = true then some (pd d).shown else none) = some z → wpAny (model X.prog X.w) X.A (call (.builtin "repr") us) (EP X pins σ Q) X.xe s := by
    intro hl hz
    obtain ⟨u, rfl, ru⟩ := r.one
    split at hz
    · rename_i hc
      injection hz with hz
      obtain ⟨_, h2⟩ := hc
      unfold showOk at h2
      simp only [Bool.and_eq_true, decide_eq_true_eq, Bool.not_eq_true'] at h2
      obtain ⟨⟨⟨h3, h4⟩, h5⟩, h6⟩ := h2
      have hp : Dp X.K H v (pd d) := by
        rw [hk]
        exact dp_in hs h3 hd
      obtain ⟨as, hr⟩ := Dp.reads J (pd d) v u hp ru
      have hv : ∃ a, v = .ref a := by
        cases d with
        | tup ds =>
          unfold DV at hd
          obtain ⟨a, _, e, _⟩ := hd
          exact ⟨a, e⟩
        | lst ds =>
          unfold DV at hd
          obtain ⟨a, _, e, _⟩ := hd
          exact ⟨a, e⟩
        | _ => cases hl
      obtain ⟨a, rfl⟩ := hv
      obtain rfl : u = Value.ref a := ru
      have hdep := alike_fit d h3
      refine repr_of_reads' hr h4 (fun e => by rw [h5] at e; cases e) hg (by omega) (fun _ _ e => e) (fun h' tok tk keep => ?_) h6
      rw [hz]
      exact ⟨.str z, H, J.kept keep, ⟨_, rfl⟩, q⟩
    · cases hz
  cases d with
  | non =>
    unfold DV at hd
    subst hd
    obtain ⟨u, rfl, ru⟩ := r.one
    obtain rfl : u = Value.none := ru
    injection hz with hz
    subst hz
    exact P.repr_of_none ⟨.str _, H, J.tok _, ⟨_, rfl⟩, q⟩
  | int i =>
    unfold DV at hd
    subst hd
    obtain ⟨u, rfl, ru⟩ := r.one
    obtain ⟨t, rfl⟩ := (show ∃ t, u = Value.int i t from ru)
    have hz : (if i.natAbs.log2 < 1920 then some (Str.ofString (toString i)) else none) = some z := hz
    split at hz
    · rename_i hi
      injection hz with hz
      subst hz
      exact P.repr_of_int hi ⟨.str _, H, J.tok _, ⟨_, rfl⟩, q⟩
    · cases hz
  | tup ds => exact seq rfl hz
  | lst ds => exact seq rfl hz
  | _ => exact absurd hz (by unfold reprD1; simp [seqLike])
theorem cd_repr : CaD G (rRepr G) reprD := fun I H xs as d Q s da e k => by
  unfold reprD at e
  split at e
  · rename_i x
    obtain ⟨z, h1, rfl⟩ := Option.map_eq_some_iff.mp e
    obtain ⟨v, rfl, h⟩ := DVs.one.mp da
    exact ⟨I, v, x, z, rfl, s, h, h1, k _ I H (ExtN.refl s) dv_str⟩
  · cases e
end
end Dn
end
section
set_option Elab.async false
set_option linter.all false
set_option maxRecDepth 100000
set_option maxHeartbeats 2000000
namespace Dn
open PySem PySem.Spec L2 PyProof.Rows
/-! ### except C as n, clause behind clause; one of the clauses told must take what comes -/
abbrev Cla : Type := Value × (Addr → Value → Option Addr → TS)
/-- the ends of a suite: the name is gone again -/
def gone (i : Nat) (D : Ends) : Ends := { nx := fun τ K => D.nx (τ.set i none) K, rt := D.rt, bk := fun τ K => D.bk (τ.set i none) K, ct := fun τ K => D.ct (τ.set i none) K }
def wSome (F : PySem.W.Frag) (i : Nat) (D : Ends) : List Cla → WX
  | [] => fun _ _ _ _ => False
  | q :: l => fun cls d τ H => ∃ b, PySem.W.exmOne F cls q.1 = some b ∧ (b = true → ∀ a, H a = none → q.2 a cls d (gone i D) (τ.set i (some (.ref a))) H) ∧ (b = false → wSome F i D l cls d τ H)
inductive Clas (X : Cx) (n : Str) : List ExceptHandler → List Cla → Prop
  | stop {hds : List ExceptHandler} : Clas X n hds []
  | cons {x : Str} {c : Value} {ts : Addr → Value → Option Addr → TS} {st : Stmt} {sts : List Stmt} {np pp : Pos} {hds : List ExceptHandler} {l : List Cla} (names : Names X x c)
      (suite : ∀ (a : Addr) (o : Obj) (cls : Value) (d : Option Addr) (pn : List (Addr × Obj)), Zc cls d o → (∃ vs, o.data = .fields vs) → PSs (X.suite a ((a, o) :: pn)) (st :: sts) (ts a cls d)) (more : Clas X n hds l) :
      Clas X n (.ExceptHandler (some (.Name x np)) (some n) (st :: sts) pp :: hds) ((c, ts) :: l)
section
variable {X : Cx} {body : List Stmt} {h₀ : ExceptHandler} {hds : List ExceptHandler} {l : List Cla} {pos : Pos} {tb : WX → TS} {n : Str} {i : Nat}
theorem ps_try_some (stk : X.stack = X.env :: X.outer) (own : X.env.frame = some X.env.locals) (nd : X.N.Nodup) (at_ : X.N[i]? = some n) (loc : X.env.kindOf n = some .local)
    (inner : ∀ (W : WX) (pn : List (Addr × Obj)) (xe : Value → Shared → Prop), Takes (X.tr pn xe) W → PassesOwn (model X.prog X.w) X.A X.env xe → PSs (X.tr pn xe) body (tb W))
    (cl : Clas X n (h₀ :: hds) l) : PS X (.Try body (h₀ :: hds) [] [] pos) (fun D τ H => tb (wSome X.K i D l) D τ H) := ⟨fun pins s τ H D inv wish => by
  have fine := inv.ok
  have frames : X.A.frames = some (X.env :: X.outer) := by rw [fine.frames, stk]
  refine wpAny_Try_except (wpAny_mono ((inner (wSome X.K i D l) (X.pn ++ pins) _ (fun u s' came => ?caught) PassesOwn.looking).run [] s τ H D (inv.toTry _) wish) (fun fl s1 e => ?through) fun _ _ z => z)
  case through =>
    cases fl with
    | next =>
      obtain ⟨τ1, H1, inv1, q⟩ := e
      exact wpAny_execs_nil ⟨τ1, H1, inv1.ofTry fine, q⟩
    | brk =>
      obtain ⟨τ1, H1, inv1, q⟩ := e
      exact ⟨τ1, H1, inv1.ofTry fine, q⟩
    | cont =>
      obtain ⟨τ1, H1, inv1, q⟩ := e
      exact ⟨τ1, H1, inv1.ofTry fine, q⟩
    | ret u =>
      obtain ⟨v, τ1, H1, inv1, rv, q⟩ := e
      exact ⟨v, τ1, H1, inv1.ofTry fine, rv, q⟩
  case caught =>
    obtain ⟨a, base, sT, pinsT, τ1, H1, cls, d, rfl, inT, big, went, sky, free, os, gens, told⟩ := came
    have inv1 : Inv X pins τ1 H1 sT := inT.ofTry fine
    rw [stk] at sky
    refine Sky.land Zc.steady frames own sky fun h3 landed went3 => ?_
    have inv3 : Inv X pins τ1 H1 { s' with heap := h3 } := inv1.landed big landed.1 (went.trans went3) os gens
    obtain ⟨o3, vs3, got3, z3, data3⟩ := landed.there
    have apart : a ∉ frs (X.env :: X.outer) := fun hm => by
      obtain ⟨_, o', e', hnf⟩ := landed.2.2.1.mem hm
      rw [got3] at e'
      cases e'
      exact hnf _ data3
    have notLoc : a ≠ X.env.locals := fun z => apart (List.mem_filterMap.mpr ⟨_, List.mem_cons_self, by rw [own, z]⟩)
    have notFr : a ∉ X.fs := fun hm => by
      obtain ⟨e, he, q⟩ := List.mem_filterMap.mp hm
      exact apart (List.mem_filterMap.mpr ⟨e, List.mem_cons_of_mem _ he, q⟩)
    have look := inv3.suite got3 data3 free notLoc notFr
    suffices all : ∀ {hs' : List ExceptHandler} {l' : List Cla}, Clas X n hs' l' → wSome X.K i D l' cls d τ1 H1 → wpAny (model X.prog X.w) X.A (handleBy (.ref a) X.env hs') (SP X pins D) X.xe { s' with heap := h3 } from all cl told
    intro hs' l' ok
    induction ok with
    | stop => exact fun z => z.elim
    | @cons x c ts st sts np pp hs2 l2 names suite more ih =>
      rintro ⟨b, is, yes, no⟩
      refine wpAny_handleBy_cons (codeAny_handlers_test ?_) (by intro q; cases q)
      have ty : PySem.W.Looks (model X.prog X.w) h3 (typeOf (.ref a)) cls := fun A Q E s k q => wpAny_typeOf_ref (k _ _ got3) (by rw [z3.1]; exact q)
      have named : ∀ {Q : Value → Shared → Prop} {E : Value → Shared → Prop}, Q c { s' with heap := h3 } → wpAny (model X.prog X.w) (X.A.mark (some (.ref a))) (eval (.Name x np) X.env) Q E { s' with heap := h3 } := fun {Q E} q => by
        obtain ⟨hg, hd, hm | ⟨hm, hv, hn⟩⟩ := names
        · exact ld_glob (X := X.suite a ((a, o3) :: (X.pn ++ pins))) look hg hm q hd
        · exact ld_blt (X := X.suite a ((a, o3) :: (X.pn ++ pins))) look hg hm hv q hn hd
      refine named ((PySem.W.exm_one (M := model X.prog X.w) inv3.kIn ty is).here ?_)
      cases b with
      | false => exact ih (no rfl)
      | true =>
        refine codeAny_handlers_suite_as (HandSPX.lands_againZ landed fun h4 landed4 went4 => ?_)
        have inv4 : Inv X pins τ1 H1 { s' with heap := h4 } := inv1.landed big landed4.1 ((went.trans went3).trans went4) os gens
        obtain ⟨o4, vs4, got4, z4, data4⟩ := landed4.there
        refine store_ok (X := X.suite a ((a, o4) :: (X.pn ++ pins))) (v := .ref a) (inv4.suite got4 data4 free notLoc notFr) nd at_ (.inl loc) rfl (fun s5 in5 => ?_) (.inr loc)
        refine wpAny_mono ((suite a o4 cls d (X.pn ++ pins) z4 ⟨_, data4⟩).run [] s5 _ H1 _ in5 (yes rfl a free)) (fun f s6 e6 => ?_) (fun _ _ z => z.elim)
        have last : ∀ {τ6 : L2.St} {H6 : Hp} {Q : Shared → Prop}, Inv (X.suite a ((a, o4) :: (X.pn ++ pins))) [] τ6 H6 s6 → (∀ s7, Inv X pins (τ6.set i none) H6 s7 → Q s7) →
            wpAny (model X.prog X.w) X.A (do bindName X.env n .none; unbindBehindTheSuite X.env n pp) (fun _ s7 => Q s7) X.xe s6 := fun {τ6 H6 Q} in6 hq => gone_ok (in6.unsuite fine) nd at_ loc hq
        cases f with
        | next =>
          obtain ⟨τ6, H6, in6, q6⟩ := e6
          exact last in6 fun s7 in7 => ⟨_, _, in7, q6⟩
        | brk =>
          obtain ⟨τ6, H6, in6, q6⟩ := e6
          exact last in6 fun s7 in7 => ⟨_, _, in7, q6⟩
        | cont =>
          obtain ⟨τ6, H6, in6, q6⟩ := e6
          exact last in6 fun s7 in7 => ⟨_, _, in7, q6⟩
        | ret u =>
          obtain ⟨v6, τ6, H6, in6, r6, q6⟩ := e6
          exact last in6 fun s7 in7 => ⟨_, _, _, in7, r6, q6⟩⟩
end
end Dn
end
section
set_option Elab.async false
set_option linter.all false
set_option maxRecDepth 100000
set_option maxHeartbeats 2000000
namespace Dn
open PySem PySem.Spec L2
/-! ### found = None / try: call() / except .. as error: found = .. / return found -/
theorem pss_never {X : Cx} {sts : List Stmt} : PSs X sts (fun _ _ _ => False) := ⟨fun _ _ _ _ _ _ h => h.elim⟩
/-- the state has as many slots as there are names -/
theorem takes_len {X : Cx} {W : WX} (t : Takes X W) : Takes X fun cls d τ H => τ.length = X.N.length → W cls d τ H := fun u s' ⟨a, B, sI, pins, τ, H, cls, d, e, I, nb, up, sky, na, os, ag, w⟩ =>
  t u s' ⟨a, B, sI, pins, τ, H, cls, d, e, I, nb, up, sky, na, os, ag, w I.len⟩
/-- what stands behind the try -/
def whyE (Q : VK) : Ends := { nx := fun τ K => ∃ v, τ[1]? = some (some v) ∧ Q v K, rt := Q }
def TTwhy (F : PySem.W.Frag) (l : List Cla) : (XK → Hp → VK → Prop) → Hp → VK → Prop := fun tl H Q => tl (fun cls d K => ∀ τ : L2.St, τ.length = 3 → wSome F 2 (whyE Q) l cls d τ K) H fun _ K => ∃ v, (some (some V.non) : Option (Option V)) = some (some v) ∧ Q v K
section
variable {X : Cx}
abbrev whyX (X : Cx) (x : Str) (sg : Scope) (g : Addr) (cdg : Value) (s : Shared) (H : Hp) : Cx := (cxOf C8.CX0 X.prog X.w X.K X.mg X.base ["call", "found", "error"] x sg g cdg X.A X.stack s H C8.E0).nox
theorem why_gives {x q : Str} {sg : Scope} {g : Addr} {cdg : Value} {h₀ : ExceptHandler} {hds : List ExceptHandler} {l : List Cla} {j : Nat} {p1 p2 p3 p4 p5 p6 p7 p8 p9 : Pos}
    (cl : ∀ s H, Clas (whyX X x sg g cdg s H) "error" (h₀ :: hds) l) (lf : sg.names.lookup ("found" : PySem.Str) = some NameKind.local) (le : sg.names.lookup ("error" : PySem.Str) = some NameKind.local) (ll : sg.names.lookup ("call" : PySem.Str) = some NameKind.local) :
    LamX.GivesTo X ["call", "found", "error"] x sg g cdg [.Assign [.Name "found" p1] (.Constant .none j p2) p3, .Try [.Expr (.Call (.Name "call" p4) [] [] p5) p6] (h₀ :: hds) [] [] p7, .Return (some (.Name "found" p8)) p9] "call" q (TTwhy X.K l) := by
  intro f c' s H Q tl act hc h
  have nd : (["call", "found", "error"] : List Str).Nodup := by decide
  have tr : PS (whyX X x sg g cdg s H) (.Try [.Expr (.Call (.Name "call" p4) [] [] p5) p6] (h₀ :: hds) [] [] p7) _ :=
    ps_try_some (X := whyX X x sg g cdg s H) (n := "error") (i := 2) (l := l) (tb := fun W D τ K => ∃ Ech : XK, (∀ cls d τ' K', Ech cls d K' → τ'.length = 3 → W cls d τ' K') ∧ τ[0]? = some (some (.ref f)) ∧ K c' = some (LamX.CodeO c' q) ∧ tl Ech K fun _ K' => D.nx τ K')
      rfl rfl nd rfl le (fun W pn xe tk _ => ⟨fun pins s' τ K D I w => by
        obtain ⟨Ech, hW, h1, h2, h3⟩ := w
        have pe := act _ pn xe Ech p4 p5 (takes_len tk) hW
        exact (pss_one (ps_expr (pos := p6) pe)).run pins s' τ K D I ⟨h1, h2, h3⟩⟩) (cl s H)
  refine ⟨_, pss_cons (ps_asg pe_non (pg_name (i := 1) nd rfl (.inl lf) (.inr lf))) (pss_cons tr (pss_one (ps_ret (pe_var (i := 1) rfl (.inl lf))))), ?_⟩
  exact ⟨fun cls d K => ∀ τ : L2.St, τ.length = 3 → wSome X.K 2 (whyE Q) l cls d τ K, fun cls d τ' K' w hl => w τ' hl, rfl, hc, h⟩
end
end Dn
end
section
set_option Elab.async false
set_option linter.all false
set_option maxRecDepth 100000
set_option maxHeartbeats 2000000
namespace Dn
open PySem PySem.Spec L2
/-! ### new tables are looked at no more -/
def prune (H H1 : Hp) : Hp := fun b => match H1 b with
  | some (.tbl ps) => (match H b with
    | some (.tbl _) => some (.tbl ps)
    | _ => none)
  | o => o
theorem prune_sub {H H1 : Hp} {b : Addr} {o : HO} (h : prune H H1 b = some o) : H1 b = some o := by
  unfold prune at h
  split at h
  · rename_i ps e
    split at h
    · rw [e]; exact h
    · cases h
  · exact h
theorem prune_non {H H1 : Hp} {b : Addr} {o : HO} (h : H1 b = some o) (ho : ∀ ps, o ≠ .tbl ps) : prune H H1 b = some o := by
  unfold prune
  rw [h]
  split
  · rename_i ps e
    exact absurd (Option.some.inj e) (ho ps)
  · rfl
theorem prune_tbl {H H1 : Hp} {b : Addr} {ps qs : Array Value} (h : H1 b = some (.tbl ps)) (h2 : H b = some (.tbl qs)) : prune H H1 b = some (.tbl ps) := by
  unfold prune
  rw [h]
  dsimp only
  rw [h2]
theorem prune_none {H H1 : Hp} {b : Addr} (h : H1 b = none) : prune H H1 b = none := by
  unfold prune
  rw [h]
theorem prune_old {H H1 : Hp} {b : Addr} {ps : Array Value} (h : prune H H1 b = some (.tbl ps)) : ∃ qs, H b = some (.tbl qs) := by
  have h1 := prune_sub h
  unfold prune at h
  rw [h1] at h
  dsimp only at h
  split at h
  · rename_i qs e
    exact ⟨qs, e⟩
  · cases h
section
variable {X : Cx} {pins pins1 : List (Addr × Obj)} {σ σ1 : L2.St} {H H1 : Hp} {s s1 : Shared}
theorem inv_prune (I : L2.Inv X pins σ H s) (J : L2.Inv X pins1 σ1 H1 s1) : L2.Inv X pins1 σ1 (prune H H1) s1 :=
  ⟨J.ok, J.os, J.bare, ⟨J.base.keep, J.base.slot, fun b o e n x => prune_none (J.base.free b o e n x), J.base.there, fun b xs e => prune_non (J.base.tups b xs e) (fun _ z => (by cases z)), fun b o u e => prune_non (J.base.frzs b o u e) (fun _ z => (by cases z)), fun b ps e => by
      obtain ⟨m1, h1⟩ := J.base.tbls b ps e
      obtain ⟨m2, h2⟩ := I.base.tbls b ps e
      exact ⟨m1, prune_tbl h1 h2⟩⟩,
    J.loc, J.cell, prune_none J.free, fun x c e => prune_none (J.freeC x c e), fun p hp => by
      obtain ⟨h1, h2, h3⟩ := J.pin p hp
      exact ⟨h1, prune_none h2, h3⟩, fun a o e => (J.hok a o (prune_sub e)).stay (fun _ _ _ q => q) (fun b q => prune_non q (fun _ z => (by cases z))) (fun b xs q => prune_non q (fun _ z => (by cases z))), J.len⟩
end
theorem prune_ext {H H1 : Hp} (e : LamX.ExtN H H1) : LamX.ExtN H (prune H H1) := fun b o h n => prune_non (e b o h n) n
theorem prune_tabs {T : List (Addr × Str)} {H H1 : Hp} (t : LamX.Tabs T H) (t1 : LamX.Tabs T H1) : LamX.Tabs T (prune H H1) := fun p hp => by
  obtain ⟨ps, h1, h2, h3⟩ := t1 p hp
  obtain ⟨qs, g1, _⟩ := t p hp
  exact ⟨ps, prune_tbl h1 g1, h2, fun pos cv hc => by
    obtain ⟨c, e1, e2⟩ := h3 pos cv hc
    exact ⟨c, e1, prune_non e2 fun ps => LamX.codeO_ne ps⟩⟩
end Dn
end
section
set_option Elab.async false
set_option linter.all false
set_option maxRecDepth 100000
set_option maxHeartbeats 2000000
namespace Dn
open PySem PySem.Spec L2
/-! ### g(lambda: e), told of no new tables -/
/-- the def g that is handed the lambda -/
structure LamG (X : Cx) (x a : Str) (g : Addr) (cd : Value) (pg : Arguments) (bg : List Stmt) (sg : Scope) (Ng : List Str) : Prop where
  at_ : ∃ (oc : Value) (od : Option Addr) (dV kV doc pm ct : Value) (an : Option Addr) (sl : Array (Option Value)), X.K.lookup g = some ⟨oc, od, .func (PySem.W.fnOf x x pg bg sg dV kV doc pm an cd ct), sl⟩ ∧ L2.Binds X.K (PySem.W.fnOf x x pg bg sg dV kV doc pm an cd ct) [a] []
  code : PySem.W.codeIn X.K cd x = true
  here : X.mg x = some (.ref g)
  kept : PySem.W.keepIn X.K (.ref g) = true
  scope : FnScope Ng [a] sg
  first : Ng[0]? = some a
  seen : Vis sg a
/-- the place where the lambda stands: the code object at c, its table at P -/
structure LamP (X : Cx) (T : List (Addr × Str)) (c P : Addr) : Prop where
  tab : LamX.TabB X.base X.mg c P
  code : X.env.code = .ref c
  mem : (P, X.env.qual ++ "<lambda>") ∈ T
  one : ∀ p ∈ T, p.1 = P → p.2 = X.env.qual ++ "<lambda>"
/-- the lambda itself -/
structure LamL (X : Cx) (params : Arguments) (body : Expr) (scope : Scope) : Prop where
  sees : LamX.LamS X.env.scope scope
  dflt : defaultsOf params X.env = ([], [])
  bind : ∀ (q : Str) (cl : List (Str × Addr)) (pm cv ctv : Value), bindArgs (PySem.W.kla_fn "<lambda>" q params body scope cl pm cv ctv) ⟨[], []⟩ = pure []
def tLamN (T : List (Addr × Str)) (TT : (XK → Hp → VK → Prop) → Hp → VK → Prop) (t : XK → TE) : TE := fun σ H Q => LamX.Tabs T H ∧ ∀ H1, LamX.ExtN H H1 → LamX.Tabs T H1 → (∀ b ps, H1 b = some (.tbl ps) → ∃ qs, H b = some (.tbl qs)) → TT (fun E K R => t E σ K R) H1 Q
section
variable {X : Cx} {T : List (Addr × Str)} {TT : (XK → Hp → VK → Prop) → Hp → VK → Prop} {x a : Str} {g c P : Addr} {k : Nat} {cd : Value} {pg : Arguments} {bg : List Stmt} {sg : Scope} {Ng : List Str} {params : Arguments} {body : Expr} {scope : Scope} {t : XK → TE} {p lpos pos : Pos}
theorem pe_lamN (G : LamG X x a g cd pg bg sg Ng) (W : LamP X T c P) (L : LamL X params body scope) (gives : LamX.GivesTo X Ng x sg g cd bg a (X.env.qual ++ "<lambda>") TT) (hr : Room (k + 2) X.A)
    (inner : ∀ (A : Around) (outer : List Env) (s : Shared) (H : Hp) (E : XK) (f c' : Addr), Room k (A.deeper (LamX.lamEnv X scope s.heap.objs.size f c')) → PE (LamX.lamCx X A outer s H E scope f c') body (t E))
    (hg : Gl X x := by rfl) (hdb : (x == ("__debug__" : Str)) = false := by decide) (hd : (a == ("__debug__" : Str)) = false := by decide) (hcd : (a == ("__classdict__" : Str)) = false := by decide) :
    PE X (.Call (.Name x p) [.Lambda params body scope lpos] [] pos) (tLamN T TT t) := ⟨fun pins s σ H Q inv ⟨tabs, wish⟩ => by
  obtain ⟨oc, od, dV, kV, doc, pm, ct, an, sl, look, binds⟩ := G.at_
  refine wpAny_Call_Name_kw (ld_glob inv hg G.here ?_ hdb)
  refine PySem.W.callWith_K (h₀ := X.base) inv.ok.mod.kin G.kept ?_ (by rfl) (by rfl)
  show wpAny _ _ (spliced ((false, eval (.Lambda params body scope lpos) X.env) :: backTo pos (starEach [] X.env))) _ _ s
  refine Calls.spliced_cons (LamX.lam_make2 inv W.tab W.code W.mem W.one tabs L.dflt (L.sees.has inv.ok) fun f c' pm' ctv H0 s' inv0 ext0 tabs0 isF noF frF isC => ?_)
  have inv1 := inv_prune inv inv0
  have noF1 : prune H H0 f = none := prune_none noF
  have isC1 : prune H H0 c' = some (LamX.CodeO c' (X.env.qual ++ "<lambda>")) := prune_non isC fun ps => LamX.codeO_ne ps
  have wish1 := wish (prune H H0) (prune_ext ext0) (prune_tabs tabs tabs0) fun _ _ => prune_old
  have called : codeAny (model X.prog X.w) X.A (.call (.ref g) ⟨[.ref f], []⟩) (CR C8.CX0 X.stack X.prog X.w (prune H H0) s' Q C8.E0) s' := by
    refine LamX.run_ofS (us := [.ref f]) (vs := [.ref f]) look G.code G.scope hr inv1.env0 (binds s' [.ref f] inv1.kIn rfl) (.cons rfl .nil) rfl fun hr' => ?_
    obtain ⟨u, hu, run⟩ := gives f c' s' _ Q (fun E K R => t E σ K R) (fun W2 pn xe E p1 p2 tk hW => LamX.pe_act (i := 0) inv1 L.sees isF noF1 frF (L.bind _ _ _ _ _) tk hW hr' (fun A outer s H hr2 => inner A outer s H E f c' hr2) G.first G.seen hd hcd) isC1 wish1
    exact ⟨u, hu.nox, run⟩
  refine Calls.spliced_nil ⟨inv1.kIn, wpAny_call (codeAny_mono called fun r s2 res => ?_)⟩
  match r, res with
  | .ok (.ret u), res => exact inv1.after res
  | .ok .next, res => exact False.elim res
  | .ok .brk, res => exact False.elim res
  | .ok .cont, res => exact False.elim res
  | .error e, res => exact (show False from res).elim⟩
end
end Dn
end
section
set_option Elab.async false
set_option linter.all false
set_option maxRecDepth 100000
set_option maxHeartbeats 2000000
namespace Dn
open PySem PySem.Spec L2
section
variable {G : Gm} {c : Ctx} {p : Pen} {ρ : List Sl} {σ : L2.St} {I H H1 : Hp} {i : Nat}
/-- where the law's lambdas are kept -/
theorem tabs_now (n : Now G c p ρ σ I H) (hi : ρ[i]? = some .pen) (hp : p.isPn = true) (hz : G.C 1000 ≠ 0) : LamX.Tabs [(G.C 1000, lamQ)] H := fun q hq => by
  obtain ⟨a, cc, hP, _⟩ := n.rel i _ hi
  obtain ⟨_, _, _, hC⟩ := n.hid a cc hP
  have t := ((n.pen a cc hP).t hp (by rw [hC]; exact hz)).1
  rw [hC] at t
  rw [List.mem_singleton.mp hq]
  exact t
/-- a lambda is made: as a step -/
theorem ext_lam (n : Now G c p ρ σ I H) (hi : ρ[i]? = some .pen) (hp : p.isPn = true) (hz : G.C 1000 ≠ 0) (e : LamX.ExtN H H1) (t : LamX.Tabs [(G.C 1000, lamQ)] H1) (old : ∀ b ps, H1 b = some (.tbl ps) → ∃ qs, H b = some (.tbl qs)) : Ext c.P I H p I H1 := by
  obtain ⟨a, cc, hP, _⟩ := n.rel i _ hi
  obtain ⟨_, _, _, hC⟩ := n.hid a cc hP
  have pa := n.pen a cc hP
  obtain ⟨_, uniq⟩ := pa.t hp (by rw [hC]; exact hz)
  have t1 := t _ (List.mem_singleton.mpr rfl)
  have nt := n.nt (by rw [hP]; intro z; cases z) hp
  refine ⟨⟨fun b o _ hn h => e b o h hn, fun b ps h => ?_, fun b h => ?_, old⟩, Sub.refl, fun b o h => e b o (n.sub b o h) fun ps z => nt b ps (by rw [h, z]), fun _ _ _ z => z, fun a' cc' z => ?_⟩
  · obtain ⟨qs, h1, _⟩ := t1
    rw [uniq b ps h, hC]
    exact ⟨qs, h1⟩
  · obtain ⟨ps, h1, _⟩ := h
    rw [uniq b ps h1, hC]
    exact t1
  · rw [hP] at z
    cases z
    refine ⟨e _ _ pa.d penA_tbl, e _ _ pa.c penC_tbl, pa.s, fun _ _ => ⟨by rw [hC]; exact t1, fun b ps h => ?_⟩⟩
    obtain ⟨qs, h1⟩ := old b ps h
    exact uniq b qs h1
end
end Dn
end
section
set_option Elab.async false
set_option linter.all false
set_option maxRecDepth 100000
set_option maxHeartbeats 2000000
namespace Dn
open PySem PySem.Spec L2
/-! ### `_law_why(lambda: e)` -/
/-- what a clause tells: a field, or its repr -/
inductive WF where
  | fld (f : Str)
  | rep (f : Str)
/-- a clause: the class, its fields in the dict's order, the word, what is told -/
structure WC where
  x : Nat
  fl : List Str
  word : Str
  fs : List WF
def wf1 (fl : List Str) (ds : List D) : WF → Option D
  | .fld f => (fl.zip ds).lookup f
  | .rep f => match (fl.zip ds).lookup f with
    | some d => (reprD1 d).map .str
    | none => none
def wfs (fl : List Str) (ds : List D) : List WF → Option (List D)
  | [] => some []
  | q :: r => match wf1 fl ds q, wfs fl ds r with
    | some d, some l => some (d :: l)
    | _, _ => none
def wcOf : List WC → Nat → Option WC
  | [], _ => none
  | c :: r, x => if c.x = x then some c else wcOf r x
def kWhy (cl : List WC) (i : Nat) (m : KE) : KE := fun ρ p => match ρ[i]?, p with
  | some .pen, .pn cs at_ dg ct fo => (match m (plainSs ρ) pen0 with
    | .ok _ => .ok (.non, .pn cs at_ dg ct fo)
    | .error (.exn x ds) => do
      let c ← ofO (wcOf cl x)
      let l ← ofO (wfs c.fl ds c.fs)
      if l.length < sizeLine then pure (.tup (.str c.word :: l), .pn cs at_ dg ct fo) else .error .stuck
    | .error .stuck => .error .stuck)
  | _, _ => .error .stuck
section
variable {X : Cx} {G : Gm}
def tWF (G : Gm) (a : Addr) (cls : Value) (d : Option Addr) (x : Nat) : WF → TE
  | .fld f => tXf a cls d (G.C x) f (tVar 2)
  | .rep f => tCB (rRepr G) (tCons (tXf a cls d (G.C x) f (tVar 2)) tNil)
def tWFs (G : Gm) (a : Addr) (cls : Value) (d : Option Addr) (x : Nat) : List WF → TA
  | [] => tNil
  | q :: r => tCons (tWF G a cls d x q) (tWFs G a cls d x r)
def claOf (G : Gm) (c : WC) : Cla := (.ref (G.C c.x), fun a cls d => tAsg (tTup (tCons (tC (.str c.word)) (tWFs G a cls d c.x c.fs))) (gName 1))
def clasOf (G : Gm) (cl : List WC) : List Cla := cl.map (claOf G)
theorem DVs.look {I : Hp} : ∀ {fl : List Str} {ds : List D} {vs : List V} {f : Str} {d : D}, DVs G I ds vs → (fl.zip ds).lookup f = some d → ∃ v, (fl.zip vs).lookup f = some v ∧ DV G I d v
  | [], _, _, _, _, _, h => by simp at h
  | _ :: _, [], _, _, _, _, h => by simp at h
  | g :: fl, e :: ds, vs, f, d, hd, h => by
    unfold DVs at hd
    obtain ⟨v, r, rfl, h1, h2⟩ := hd
    rw [List.zip_cons_cons, List.lookup_cons] at h ⊢
    cases q : f == g with
    | true =>
      rw [q] at h
      cases h
      exact ⟨v, rfl, h1⟩
    | false =>
      rw [q] at h
      exact DVs.look h2 h
theorem run_wf {I H : Hp} {τ : L2.St} {a dx : Addr} {cls : Value} {x : Nat} {fl : List Str} {ds : List D} {vs : List V} {q : WF} {d : D} {Q : VK} (hs : Sub I H) (hτ : τ[2]? = some (some (.ref a))) (hc : cls = .ref (G.C x)) (hx : H dx = some (.xd (fl.zip vs))) (hd : DVs G I ds vs) (hq : wf1 fl ds q = some d) (k : ∀ v, DV G I d v → Q v H) : tWF G a cls (some dx) x q τ H Q := by
  cases q with
  | fld f =>
    obtain ⟨v, h1, h2⟩ := DVs.look hd hq
    exact ⟨.ref a, hτ, rfl, hc, dx, _, v, rfl, hx, h1, k v h2⟩
  | rep f =>
    unfold wf1 at hq
    dsimp only at hq
    split at hq
    · rename_i e he
      obtain ⟨z, hz, rfl⟩ := Option.map_eq_some_iff.mp hq
      obtain ⟨v, h1, h2⟩ := DVs.look hd he
      exact ⟨.ref a, hτ, rfl, hc, dx, _, v, rfl, hx, h1, I, v, e, z, rfl, hs, h2, hz, k _ dv_str⟩
    · cases hq
theorem run_wfs {I H : Hp} {τ : L2.St} {a dx : Addr} {cls : Value} {x : Nat} {fl : List Str} {ds : List D} {vs : List V} (hs : Sub I H) (hτ : τ[2]? = some (some (.ref a))) (hc : cls = .ref (G.C x)) (hx : H dx = some (.xd (fl.zip vs))) (hd : DVs G I ds vs) : ∀ {qs : List WF} {l : List D} {Q : List V → Hp → Prop}, wfs fl ds qs = some l → (∀ ws, DVs G I l ws → Q ws H) → tWFs G a cls (some dx) x qs τ H Q
  | [], l, Q, hq, k => by
    cases hq
    exact k [] (by unfold DVs; rfl)
  | q :: r, l, Q, hq, k => by
    unfold wfs at hq
    split at hq
    · rename_i d l' h1 h2
      cases hq
      exact run_wf hs hτ hc hx hd h1 fun v hv => run_wfs hs hτ hc hx hd h2 fun ws hw => k (v :: ws) (by unfold DVs; exact ⟨v, ws, rfl, hv, hw⟩)
    · cases hq
/-- which class is which -/
def ExmC (G : Gm) (cl : List WC) : Prop := ∀ x, (wcOf cl x).isSome = true → ∀ c ∈ cl, PySem.W.exmOne G.K (.ref (G.C x)) (.ref (G.C c.x)) = some (decide (c.x = x))
theorem run_clas {I H : Hp} {dx : Addr} {x : Nat} {ds : List D} {vs : List V} {c : WC} {l : List D} {Q : VK} (hs : Sub I H) (hd : DVs G I ds vs) (hx : H dx = some (.xd ((G.F x).zip vs))) (hF : c.fl = G.F x) (hl : wfs c.fl ds c.fs = some l) (hlen : l.length < sizeLine)
    (k : ∀ v H' I', ExtN I H I' H' → DV G I' (.tup (.str c.word :: l)) v → Q v H') : ∀ {cl : List WC}, wcOf cl x = some c → (∀ c ∈ cl, PySem.W.exmOne G.K (.ref (G.C x)) (.ref (G.C c.x)) = some (decide (c.x = x))) → ∀ τ : L2.St, τ.length = 3 → wSome G.K 2 (whyE Q) (clasOf G cl) (.ref (G.C x)) (some dx) τ H
  | [], h, _, _, _ => by cases h
  | e :: r, h, hm, τ, ht => by
    refine ⟨_, hm e List.mem_cons_self, fun hb a ha => ?_, fun hb => ?_⟩
    · have ex : e.x = x := of_decide_eq_true hb
      have hc : e = c := by
        unfold wcOf at h
        rw [if_pos ex] at h
        exact Option.some.inj h
      subst hc
      subst ex
      obtain ⟨t0, t1, t2, rfl⟩ : ∃ t0 t1 t2, τ = [t0, t1, t2] := by
        match τ, ht with
        | [t0, t1, t2], _ => exact ⟨t0, t1, t2, rfl⟩
      show tAsg (tTup (tCons (tC (.str e.word)) (tWFs G a (.ref (G.C e.x)) (some dx) e.x e.fs))) (gName 1) (gone 2 (whyE Q)) [t0, t1, some (.ref a)] H
      refine run_wfs (τ := [t0, t1, some (.ref a)]) hs rfl rfl (by rw [hF]; exact hx) hd hl fun ws hw => ?_
      refine ⟨by rw [List.length_cons, hw.length]; omega, fun q hq => ?_⟩
      refine ⟨.ref q, rfl, k (.ref q) _ (upd I q (.tup (.str e.word :: ws))) (ExtN.lay hs hq) ?_⟩
      have hi : I q = none := by
        cases z : I q with
        | none => rfl
        | some u => rw [hs q u z] at hq; cases hq
      unfold DV
      exact ⟨q, _, rfl, SqT.of upd_same, by unfold DVs; exact ⟨_, ws, rfl, dv_str, hw.mono (Sub.new hi)⟩⟩
    · have nx : e.x ≠ x := of_decide_eq_false hb
      refine run_clas hs hd hx hF hl hlen k ?_ (fun c hc => hm c (List.mem_cons_of_mem _ hc)) τ ht
      unfold wcOf at h
      rw [if_neg nx] at h
      exact h
def FldC (G : Gm) (cl : List WC) : Prop := ∀ c ∈ cl, c.fl = G.F c.x
theorem wcOf_mem : ∀ {cl : List WC} {x : Nat} {c : WC}, wcOf cl x = some c → c ∈ cl ∧ c.x = x
  | [], _, _, h => by cases h
  | e :: r, x, c, h => by
    unfold wcOf at h
    split at h
    · cases h
      exact ⟨List.mem_cons_self, by assumption⟩
    · exact ⟨List.mem_cons_of_mem _ (wcOf_mem h).1, (wcOf_mem h).2⟩
theorem ev_why {W : XK} {cl : List WC} {i : Nat} {m : KE} {t : XK → TE} (hm : ExmC G cl) (hF : FldC G cl) (hz : G.C 1000 ≠ 0) (h : ∀ E, EvE G E m (t E)) : EvE G W (kWhy cl i m) (tLamN [(G.C 1000, lamQ)] (TTwhy G.K (clasOf G cl)) t) := fun c p ρ σ I H Q n k => by
  unfold kWhy at k
  split at k
  · rename_i cs at_ dg ct fo hi
    have hz2 := tabs_now n hi rfl hz
    refine ⟨hz2, fun H1 e T1 old => ?_⟩
    have ex := ext_lam n hi rfl hz e T1 old
    have n1 := n.step ex
    have n2 : Now G ⟨none, I, H1⟩ pen0 (plainSs ρ) σ I H1 := n1.plain Sub.refl (Ext.refl n1.sub PenOk.none) (fun _ _ z => by cases z) fun z => absurd rfl z
    show t (fun cls d K => ∀ τ : L2.St, τ.length = 3 → wSome G.K 2 (whyE Q) (clasOf G cl) cls d τ K) σ H1 _
    refine h _ ⟨none, I, H1⟩ pen0 (plainSs ρ) σ I H1 _ n2 ?_
    split at k
    · rename_i a ha
      rw [ha]
      intro v I' H' e1 hd
      exact ⟨.non, rfl, k .non I' H' (ex.trans ((Ext.any e1).to n1.pen)) dv_non⟩
    · rename_i x ds ha
      rw [ha]
      obtain ⟨w, hw, k⟩ := Pst.ofO (Pst.bind.mp k)
      obtain ⟨l, hl, k⟩ := Pst.ofO (Pst.bind.mp k)
      obtain ⟨hlen, k⟩ := Pst.ite k
      intro p' I' H' dx vs e1 h1 h2 h3 τ hτ
      have hwm := wcOf_mem hw
      refine run_clas e1.sub h3 h1 (by rw [hF w hwm.1, hwm.2]) hl hlen (fun v H'' I'' e2 hv => ?_) hw (hm x (by rw [hw]; rfl)) τ hτ
      exact k v I'' H'' (ex.trans (((Ext.any e1).trans e2).to n1.pen)) hv
    · exact False.elim k
  · exact False.elim k
end
end Dn
end
section
set_option Elab.async false
set_option linter.all false
set_option maxRecDepth 100000
set_option maxHeartbeats 2000000
namespace Dn
open PySem PySem.Spec L2
/-- a class that a clause names -/
structure Wn (G : Gm) (mg : Str → Option Value) (n : Nat) (x : Str) (fl : List Str) : Prop where
  g : mg x = some (.ref (G.C n))
  T : XfC G.K (G.C n)
  no : ∀ f ∈ fl, PySem.W.findIn G.K (.ref (G.C n)) f = some none
section
variable {X : Cx} {G : Gm} {W : XK} {cl : List WC} {x a : Str} {g c P : Addr} {k : Nat} {cd : Value} {pg : Arguments} {bg : List Stmt} {sg : Scope} {Ng : List Str} {params : Arguments} {body : Expr} {scope : Scope} {t : Around → List Env → Shared → Hp → XK → Addr → Addr → TE} {m : KE} {p lpos pos : Pos}
theorem me_why (i : Nat) (LG : LamG X x a g cd pg bg sg Ng) (LP : LamP X [(G.C 1000, lamQ)] c P) (LL : LamL X params body scope) (gv : LamX.GivesTo X Ng x sg g cd bg a (X.env.qual ++ "<lambda>") (TTwhy X.K (clasOf G cl))) (hK : X.K = G.K) (hm : ExmC G cl) (hF : FldC G cl) (hz : G.C 1000 ≠ 0) (hr : Room (k + 2) X.A)
    (inner : ∀ (A : Around) (outer : List Env) (s : Shared) (H : Hp) (E : XK) (f c' : Addr), Room k (A.deeper (LamX.lamEnv X scope s.heap.objs.size f c')) → ME (LamX.lamCx X A outer s H E scope f c') G E body (t A outer s H E f c') m)
    (same : ∀ A outer s H E f c', t A outer s H E f c' = t X.A [] X.s_0 X.H_0 E 0 0 := by intros; rfl) (hg : Gl X x := by rfl) (hdb : (x == ("__debug__" : Str)) = false := by decide) (hd : (a == ("__debug__" : Str)) = false := by decide) (hcd : (a == ("__classdict__" : Str)) = false := by decide) :
    ME X G W (.Call (.Name x p) [.Lambda params body scope lpos] [] pos) (tLamN [(G.C 1000, lamQ)] (TTwhy G.K (clasOf G cl)) fun E => t X.A [] X.s_0 X.H_0 E 0 0) (kWhy cl i m) :=
  ⟨by
    rw [← hK]
    exact pe_lamN LG LP LL gv hr (fun A outer s H E f c' hr' => by rw [← same A outer s H E f c']; exact (inner A outer s H E f c' hr').pe) hg hdb hd hcd, ev_why hm hF hz fun E => (inner X.A [] X.s_0 X.H_0 E 0 0 ((hr.mono (Nat.le_succ _)).deeper _)).ev⟩
end
end Dn
end
section
set_option Elab.async false
set_option linter.all false
set_option maxRecDepth 100000
set_option maxHeartbeats 2000000
namespace Dn
open PySem PySem.Spec L2 PyProof.Rows
/-! ### the law's call, at the caller's own place -/
/-- the heap as it is looked at: the script, where it is not written, and the one table -/
def scrO (us : List Value) (ns : List Int) : HO := .frz { cls := .type "list", data := .seq us.toArray } (.lst (ns.map V.int))
open Classical in
noncomputable def seenH (K : PySem.W.Frag) (a T : Addr) (us : List Value) (ns : List Int) : Hp := fun b =>
  if b = T then some (.tbl #[]) else if b = a ∧ K.lookup a = none then some (scrO us ns) else none
section
variable {P : Program} {w : World} {K : PySem.W.Frag} {mg mb : Str → Option Value} {CX : CXT} {fa a c T : Addr} {s₁ : Shared} {us : List Value} {ns : List Int}
/-- what stands at the head's heap -/
structure Atop (K : PySem.W.Frag) (mg mb : Str → Option Value) (c T a : Addr) (us : List Value) (ns : List Int) (s₁ : Shared) : Prop where
  kin : K.In s₁.heap
  glob : s₁.heap.Ns mainGlobals mg
  blt : s₁.heap.Ns builtinsNs mb
  boot : ∀ x : Str, x ≠ "__name__" → mb x = bootBuiltins x
  lim : s₁.heap.NoLimit
  gens : s₁.gens = #[]
  tab : s₁.heap.get? T = some { cls := .none, data := .fields #[] }
  tabK : K.lookup T = none
  code : PySem.W.CodeHd s₁.heap c T
  bmod : ∃ (bm : Addr) (ob : Obj), mg "__builtins__" = some (.ref bm) ∧ bm ≠ builtinsNs ∧ s₁.heap.get? bm = some ob ∧ ob.cls = .type "module" ∧ ob.dict = some builtinsNs ∧ ob.data = .plain
  scr : s₁.heap.get? a = some { cls := .type "list", data := .seq us.toArray }
  whole : IntsAre us ns
  len : ns.length ≤ sizeLine
variable (t : Atop K mg mb c T a us ns s₁)
include t
theorem Atop.aT : a ≠ T := fun z => by
  have h1 := t.scr
  rw [z, t.tab] at h1
  cases h1
theorem Atop.seenT : seenH K a T us ns T = some (.tbl #[]) := if_pos rfl
theorem Atop.only {b : Addr} {o : HO} (h : seenH K a T us ns b = some o) : (b = T ∧ o = .tbl #[]) ∨ (b = a ∧ K.lookup a = none ∧ o = scrO us ns) := by
  unfold seenH at h
  split at h
  · cases h
    exact .inl ⟨by assumption, rfl⟩
  · split at h
    · rename_i h2
      cases h
      exact .inr ⟨h2.1, h2.2, rfl⟩
    · cases h
theorem Atop.hidden {b : Addr} {o : Obj} (e : s₁.heap.get? b = some o) (n1 : ∀ (vs : Array Value) n, o.data ≠ .seq vs n) (n2 : o.data ≠ .fields #[]) : seenH K a T us ns b = none := by
  cases q : seenH K a T us ns b with
  | none => rfl
  | some u =>
    rcases t.only q with ⟨rfl, _⟩ | ⟨rfl, _⟩
    · rw [t.tab] at e
      cases e
      exact absurd rfl n2
    · rw [t.scr] at e
      cases e
      exact absurd rfl (n1 _ _)
theorem Atop.nsp {b : Addr} {m : Str → Option Value} (h : s₁.heap.Ns b m) : (hidT s₁.heap (seenH K a T us ns)).Ns b m := by
  obtain ⟨o, es, ep, e, d, r⟩ := h
  refine ⟨o, es, ep, hidT_get e (t.hidden e (fun vs n z => ?_) fun z => ?_), d, r⟩ <;> (rw [d] at z; cases z)
theorem Atop.kbase : K.In (hidT s₁.heap (seenH K a T us ns)) := fun b o e => hidT_get (t.kin b o e) (by
  cases q : seenH K a T us ns b with
  | none => rfl
  | some u =>
    rcases t.only q with ⟨rfl, _⟩ | ⟨rfl, h2, _⟩
    · rw [t.tabK] at e; cases e
    · rw [h2] at e; cases e)
theorem Atop.tb : LamX.TabB (hidT s₁.heap (seenH K a T us ns)) mg c T := by
  refine ⟨?_, ?_, fun z => ?_⟩
  · obtain ⟨o, vs, file, tf, flags, tg, inF, text, tt, e1, r1, r2, r3, rest⟩ := t.code
    refine ⟨o, vs, file, tf, flags, tg, inF, text, tt, hidT_get e1 (t.hidden e1 (fun q n z => ?_) fun z => ?_), r1, r2, r3, rest⟩
    · rw [r2] at z; cases z
    · rw [r2] at z
      cases z
      simp at r3
  · obtain ⟨bm, ob, g1, g2, g3, g4, g5, g6⟩ := t.bmod
    have ng : bm ≠ mainGlobals := fun q => by
      obtain ⟨o, es, ep, e, hd, _⟩ := t.glob
      rw [← q, g3] at e
      cases e
      rw [g6] at hd
      cases hd
    have nT : bm ≠ T := fun q => by
      rw [q, t.tab] at g3
      cases g3
      cases g6
    exact ⟨bm, ob, g1, g2, ng, nT, hidT_get g3 (t.hidden g3 (fun q n z => by rw [g6] at z; cases z) fun z => by rw [g6] at z; cases z), g4, g5, g6⟩
  · obtain ⟨o, es, ep, e, hd, _⟩ := t.glob
    rw [z, t.tab] at e
    cases e
    cases hd
theorem Atop.seq : SqL K (seenH K a T us ns) a (ns.map V.int) := by
  cases hk : K.lookup a with
  | none => exact .inl (.inr ⟨_, (if_neg t.aT).trans (if_pos ⟨rfl, hk⟩)⟩)
  | some o =>
    have e := t.kin a o hk
    rw [t.scr] at e
    cases e
    exact .inr ⟨_, us.toArray, _, hk, rfl, rfl, rfl, by rw [List.size_toArray, t.whole.length]; exact t.len, by simpa using vals_ints t.whole⟩
theorem Atop.hok : HOk P w (seenH K a T us ns) s₁.heap := fun b o h => by
  rcases t.only h with ⟨rfl, rfl⟩ | ⟨rfl, _, rfl⟩
  · exact t.tab
  · exact ⟨t.scr, by rw [List.length_map]; exact t.len, us, _, vals_ints t.whole, t.scr⟩
theorem Atop.env0 : Env0 P w K mg (hidT s₁.heap (seenH K a T us ns)) callerA [] s₁ (seenH K a T us ns) :=
  ⟨rfl, ⟨t.kbase, t.nsp t.glob, ⟨mb, t.nsp t.blt, t.boot⟩, by obtain ⟨mc, h1, h2⟩ := t.lim; exact ⟨mc, t.nsp h1, h2⟩⟩, fun b o e => of_hidT e, Nat.le_of_eq (hidT_size _ _), trivial, fun b hb => absurd hb (List.not_mem_nil), t.hok, .of_eq t.gens⟩
theorem Atop.ends (hx : ∀ H e s', CX [] H s₁ (fun _ _ _ => False) e s' → False)
    (r : codeAny (model P w) callerA (.call (.ref fa) ⟨[.ref a], []⟩) (CR CX [] P w (seenH K a T us ns) s₁ (fun v _ => v = .bl true) fun _ _ _ => False) s₁) :
    codeAny (model P w) callerA (.call (.ref fa) ⟨[.ref a], []⟩) (fun r s' => r = .ok (.ret (.bool true)) ∧ OldK s₁.heap s'.heap ∧ s'.os = s₁.os ∧ AllBare s'.gens) s₁ := by
  refine codeAny_mono r fun x s' h => ?_
  match x, h with
  | .error e, h => exact (hx _ e s' h).elim
  | .ok .next, h => exact False.elim h
  | .ok .brk, h => exact False.elim h
  | .ok .cont, h => exact False.elim h
  | .ok (.ret u), h =>
    obtain ⟨v, H', os, bare, un, hok', rv, rfl⟩ := h
    obtain rfl : u = Value.bool true := rv
    obtain ⟨more, hm⟩ := un.tbls T #[] t.seenT
    have hm : s'.heap.get? T = some { cls := .none, data := .fields (#[] ++ more) } := hok' T _ hm
    have key : ∀ b o, b ≠ T → s₁.heap.get? b = some o → s'.heap.get? b = some o := fun b o nb e => by
      cases q : seenH K a T us ns b with
      | none => exact un.keep b o e q (List.not_mem_nil) (List.not_mem_nil)
      | some u =>
        rcases t.only q with ⟨z, _⟩ | ⟨rfl, _, rfl⟩
        · exact absurd z nb
        · obtain ⟨e2, _⟩ := hok' b _ (un.frzs b _ _ q)
          rw [t.scr] at e
          cases e
          exact e2
    refine ⟨rfl, ⟨fun b o e => ?_, fun b o e => ?_⟩, os, bare⟩
    · by_cases hb : b = T
      · subst hb
        rw [t.tab] at e
        cases e
        exact .inr (.inl ⟨(t.code.tab t.tab).isCodeTable, rfl, #[], more, rfl, hm⟩)
      · exact .inl (key b o hb e)
    · by_cases hb : b = T
      · exact ⟨_, by rw [hb]; exact hm⟩
      · exact ⟨o, key b o hb e⟩
end
end Dn
end
section
set_option Elab.async false
set_option linter.all false
set_option maxRecDepth 100000
set_option maxHeartbeats 2000000
namespace Dn
open PySem PySem.Spec L2 PyProof.Rows He
/-! ### what the head tells of classes, of tables -/
def oexB (K : PySem.W.Frag) (C : Addr) : Bool := (match K.lookup C with
  | some ⟨.type "type", _, .cls cd, sl⟩ => (match cd.mro, sl.toList with
    | .ref C' :: bm, [_, _, _, _, some (.builtin n), _] => decide (C' = C) && (decide (n = "ValueError.__new__") && (cd.hasDict && (!cd.hasDel && PySem.HandSPX.refsVE bm)))
    | _, _ => false)
  | _ => false) && (eqO (PySem.W.findIn K (.ref C) "__setattr__") (some (some (.builtin "object.__setattr__"))) && (decide (PySem.W.subIn K (.ref C) (.type "BaseException") = some true) && (decide (PySem.W.typeIn K (.ref C) = some (.type "type")) && PySem.W.keepIn K (.ref C))))
theorem oexB_ok {K : PySem.W.Frag} {C : Addr} (h : oexB K C = true) : OexC K C := by
  obtain ⟨h0, h⟩ := ba h
  obtain ⟨h1, h⟩ := ba h
  obtain ⟨h2, h⟩ := ba h
  obtain ⟨h3, h4⟩ := ba h
  refine ⟨?_, eqO_ok h1, of_decide_eq_true h2, of_decide_eq_true h3, h4⟩
  split at h0
  · rename_i dd cd sl e
    split at h0
    · rename_i C' bm k0 k1 k2 k3 n k5 em es
      obtain ⟨q1, h0⟩ := ba h0
      obtain ⟨q2, h0⟩ := ba h0
      obtain ⟨q3, h0⟩ := ba h0
      obtain ⟨q4, q5⟩ := ba h0
      have q1 := of_decide_eq_true q1
      have q2 := of_decide_eq_true q2
      subst q1 q2
      obtain ⟨nm, bs, mro, nsA, qn, hd, sn, sub, ab, col, del⟩ := cd
      dsimp only at em q3 q4
      have q4 : del = false := by simpa using q4
      subst em q3 q4
      obtain ⟨l⟩ := sl
      dsimp only at es
      subst es
      exact ⟨nm, qn, nsA, bs, bm, sn, sub, ab, col, dd, k0, k1, k2, k3, k5, e, q5⟩
    · cases h0
  · cases h0
/-- an error class of the program's own: its name, its fields -/
def xnB (K : PySem.W.Frag) (x : Str) (fl : List Str) : Bool := oexB K (ga K x) && (xfB K (ga K x) && ((Fa.glo x).ok K && (eqO (PySem.W.findIn K (.ref (ga K x)) "__init__") (some (some (.ref (ma K (ga K x) "__init__")))) &&
  (decide (PySem.W.typeIn K (.ref (ma K (ga K x) "__init__")) = some (.type "function")) && fl.all fun f => eqO (PySem.W.findIn K (.ref (ga K x)) f) (some none)))))
structure XnB (K : PySem.W.Frag) (mg : Str → Option Value) (x : Str) (fl : List Str) : Prop where
  T : OexC K (ga K x)
  F : XfC K (ga K x)
  g : mg x = some (.ref (ga K x))
  i : PySem.W.findIn K (.ref (ga K x)) "__init__" = some (some (.ref (ma K (ga K x) "__init__")))
  t : PySem.W.typeIn K (.ref (ma K (ga K x) "__init__")) = some (.type "function")
  no : ∀ f ∈ fl, PySem.W.findIn K (.ref (ga K x)) f = some none
theorem xnB_ok {K : PySem.W.Frag} {h : Heap} {mg : Str → Option Value} (X : K.In h) (G : h.Ns mainGlobals mg) {x : Str} {fl : List Str} (c : xnB K x fl = true) : XnB K mg x fl := by
  obtain ⟨h1, c⟩ := ba c
  obtain ⟨h2, c⟩ := ba c
  obtain ⟨h3, c⟩ := ba c
  obtain ⟨h4, c⟩ := ba c
  obtain ⟨h5, h6⟩ := ba c
  exact ⟨oexB_ok h1, xfB_ok h2, glo_ok X G h3, eqO_ok h4, of_decide_eq_true h5, fun f hf => eqO_ok (List.all_eq_true.mp h6 f hf)⟩
/-- the keys of a table are these -/
def onlyB (K : PySem.W.Frag) (a : Addr) (ks : List Str) : Bool := match K.lookup a with
  | some ⟨_, _, .dict es _, _⟩ => es.toList.all fun e => match e.key with
    | .str x _ => ks.contains x
    | _ => false
  | _ => false
theorem onlyB_ok {K : PySem.W.Frag} {a : Addr} {ks : List Str} (h : onlyB K a ks = true) {z : Str} (hz : z ∉ ks) : PySem.W.nsIn K a z = some none := by
  unfold onlyB at h
  split at h
  · rename_i c dd es n sl e
    unfold PySem.W.nsIn
    rw [e]
    dsimp only
    have h := List.all_eq_true.mp h
    have n1 : es.toList.find? (·.key.isStr z) = none := by
      rw [List.find?_eq_none]
      intro q hq
      have hq := h q hq
      cases k : q.key with
      | str x t =>
        rw [k] at hq
        have hx : x ∈ ks := by simpa using hq
        intro hs
        have : x = z := by simpa [Value.isStr] using hs
        exact hz (this ▸ hx)
      | _ => rw [k] at hq; cases hq
    have n2 : es.toList.any (·.refKey) = false := by
      rw [List.any_eq_false]
      intro q hq
      have hq := h q hq
      cases k : q.key with
      | str x t => simp [DictEntry.refKey, k]
      | _ => rw [k] at hq; cases hq
    rw [n1, n2]
    rfl
  · cases h
/-- a table's entries as data -/
def dvD : Dv → Option D
  | .non => some .non
  | .bl b => some (.bl b)
  | .int i => some (.int i)
  | .str x => some (.str x)
  | _ => none
theorem dvD_ok {K : PySem.W.Frag} {v : Dv} {d : D} (h : dvD v = some d) (G : Gm) (I : Hp) : DV G I d (v.v K) := by
  cases v <;> first
    | (cases h; done)
    | (cases h; unfold DV; rfl)
def tabV (kvs : List (Str × Dv)) : Option (List (Str × D)) := match kvs with
  | [] => some []
  | (k, v) :: r => match dvD v, tabV r with
    | some d, some l => some ((k, d) :: l)
    | _, _ => none
theorem tabV_look : ∀ {kvs : List (Str × Dv)} {l : List (Str × D)}, tabV kvs = some l → ∀ z, (l.lookup z = none → z ∉ kvs.map (·.1)) ∧ ∀ d, l.lookup z = some d → ∃ v, (z, v) ∈ kvs ∧ dvD v = some d
  | [], l, h, z => by
    cases h
    exact ⟨fun _ => List.not_mem_nil, fun d e => by cases e⟩
  | (k, v) :: r, l, h, z => by
    unfold tabV at h
    split at h
    · rename_i d m h1 h2
      cases h
      have ih := tabV_look h2 z
      rw [List.lookup_cons]
      cases q : z == k with
      | true =>
        have q := beq_iff_eq.mp q
        subst q
        exact ⟨fun e => (by cases e), fun d' e => (by cases e; exact ⟨v, List.mem_cons_self, h1⟩)⟩
      | false =>
        have q : z ≠ k := fun e => by rw [e] at q; simp at q
        refine ⟨fun e => ?_, fun d' e => ?_⟩
        · rw [List.map_cons, List.mem_cons]
          intro e1
          rcases e1 with e1 | e1
          · exact q e1
          · exact ih.1 e e1
        · obtain ⟨v', h3, h4⟩ := ih.2 d' e
          exact ⟨v', List.mem_cons_of_mem _ h3, h4⟩
    · cases h
theorem tabD_ok {K : PySem.W.Frag} {w : World} {a : Addr} {kvs : List (Str × Dv)} {l : List (Str × D)} (hd : ∃ es n, KDict K w a es n) (h1 : onlyB K a (kvs.map (·.1)) = true) (h2 : valsB K a kvs = true) (h3 : tabV kvs = some l) : TabD K w a l :=
  ⟨hd, fun z e => onlyB_ok h1 ((tabV_look h3 z).1 e), fun z d e => by
    obtain ⟨v, h4, h5⟩ := (tabV_look h3 z).2 d e
    obtain ⟨u, h6, h7⟩ := valsB_ok h2 h4
    exact ⟨u, v.v K, h6, h7, fun G I => dvD_ok h5 G I⟩⟩
end Dn
end
section
set_option Elab.async false
set_option linter.all false
set_option maxRecDepth 100000
set_option maxHeartbeats 2000000
namespace Dn
open PySem PySem.Spec L2 PyProof.Rows
/-! ### the pen of a script that is held, not data -/
def penStep (a b f c : Int) : Int := (f * a + c) % b
def penFold (a b f0 : Int) (ns : List Int) : Int := ns.foldl (penStep a b) f0
theorem penFold_snoc {a b f0 : Int} {ns : List Int} {c : Int} : penFold a b f0 (ns ++ [c]) = penStep a b (penFold a b f0 ns) c := by
  unfold penFold
  rw [List.foldl_append]
  rfl
/-- one turn, the loop -/
abbrev tInt1 (t : TE) : TE := tCB (fun xs H Q => (∃ i, xs = [.int i] ∧ Q (.int i) H) ∨ ∃ k, xs = [.bl k] ∧ Q (.int (if k then 1 else 0)) H) (tCons t tNil)
def tTurn (a b : Int) : TS := tAsg (tOp (rI (fun _ j => 0 < j) fun i j => .int (i % j)) (tInt1 (tOp (rI0 fun i j => .int (i + j)) (tOp (rI CMul fun i j => .int (i * j)) (tVar 1) (tC (.int a))) (tVar 2))) (tC (.int b))) (gName 1)
def tPenAll (K : PySem.W.Frag) (a b f0 : Int) : TS := tSeq (tAsg (tC (.int f0)) (gName 1)) (tSeq (tFor (iList K (tVar 0)) (gName 2) (tTurn a b)) (tRet (tPen K 0 1)))
def spPenS (G : Gm) (a b f0 : Int) : Sp := fun vs H Q _ => ∃ s ns, vs = [.ref s] ∧ SqL G.K H s (ns.map V.int) ∧
  ∀ p q, H p = none → H q = none → q ≠ p → Q (.ref p) (upd (upd H q (.lst (ns.map V.int))) p (penA (q, G.C) (.pn ns 0 0 0 (penFold a b f0 ns))))
section
variable {G : Gm} {a b f0 : Int}
theorem wish_pen {s : Addr} {ns : List Int} {H : Hp} {D : Ends} (ha : -(2 ^ 64) < a ∧ a < 2 ^ 64) (hb : 0 < b) (hS : SqL G.K H s (ns.map V.int)) (k : ∀ p q, H p = none → H q = none → q ≠ p → D.rt (.ref p) (upd (upd H q (.lst (ns.map V.int))) p (penA (q, G.C) (.pn ns 0 0 0 (penFold a b f0 ns))))) :
    tPenAll G.K a b f0 D [some (.ref s), none, none] H := by
  refine ⟨.ref s, rfl, s, rfl, ⟨_, hS⟩, for_list (fun i σ H1 => H1 = H ∧ ∃ o, σ = [some (.ref s), some (.int (penFold a b f0 (ns.take i))), o]) ⟨rfl, none, rfl⟩ (fun i σ H1 _ h => by rw [h.1]; exact hS) (fun i x σ H1 hx h => ?_) fun σ H1 h => ?_⟩
  · obtain ⟨rfl, o, rfl⟩ := h
    rw [List.getElem?_map] at hx
    obtain ⟨c, hc, rfl⟩ := Option.map_eq_some_iff.mp hx
    obtain ⟨hi, hc⟩ := List.getElem?_eq_some_iff.mp hc
    have et : ns.take (i + 1) = ns.take i ++ [c] := by rw [← hc, List.take_succ_eq_append_getElem hi]
    show tTurn a b _ [some (.ref s), some (.int (penFold a b f0 (ns.take i))), some (.int c)] H1
    refine ⟨_, rfl, _, a, rfl, rfl, .inr ha, _, rfl, _, c, rfl, rfl, .inl ⟨_, rfl, _, b, rfl, rfl, hb, ?_⟩⟩
    refine ⟨rfl, some (.int c), ?_⟩
    rw [et, penFold_snoc]
    rfl
  · obtain ⟨rfl, o, rfl⟩ := h
    rw [List.length_map, List.take_length]
    intro p hp
    have sp : s ≠ p ∨ ∃ e, G.K.lookup s = e := .inr ⟨_, rfl⟩
    have hS1 : SqL G.K (upd H1 p (.dK [])) s (ns.map V.int) := by
      rcases hS with (h | ⟨o, h⟩) | h
      · exact .inl (.inl (by rw [upd_ne (ne_of_none h hp)]; exact h))
      · exact .inl (.inr ⟨o, by rw [upd_ne (ne_of_none h hp)]; exact h⟩)
      · exact .inr h
    refine ⟨.ref s, rfl, s, ns.map V.int, rfl, .inl hS1, fun q hq => ?_⟩
    have qp : q ≠ p := fun z => by rw [z, upd_same] at hq; cases hq
    rw [upd_ne qp] at hq
    refine ⟨_, rfl, by rw [upd_ne (Ne.symm qp), upd_same], [(.inr "cells", .ref q), (.inr "at", .int 0), (.inr "digits", .int 0), (.inr "count", .int 0), (.inr "fold", .int (penFold a b f0 ns))], rfl, by simp, ?_⟩
    have e2 : upd (upd (upd H1 p (.dK [])) q (.lst (ns.map V.int))) p (.dK (mergeK [] [(.inr "cells", .ref q), (.inr "at", .int 0), (.inr "digits", .int 0), (.inr "count", .int 0), (.inr "fold", .int (penFold a b f0 ns))])) = upd (upd H1 q (.lst (ns.map V.int))) p (penA (q, G.C) (.pn ns 0 0 0 (penFold a b f0 ns))) := by
      rw [upd_swap (Ne.symm qp), upd_upd]
      congr 1
    rw [e2]
    exact k p q hp hq qp
section
variable {P : Program} {w : World} {mg : Str → Option Value} {base : Heap} {k : Nat} {f : Addr} {fd : FuncData} {x qual : Str} {params : Arguments} {body : List Stmt} {scope : Scope} {N : List Str} {x0 : Str}
theorem fn_penS (F : FunD G.K x qual params body scope [] [] f fd) (S : FnScope N [x0] scope) (hN : N.length = 3) (ha : -(2 ^ 64) < a ∧ a < 2 ^ 64) (hb : 0 < b) (h : BdyE P w G.K mg base k f qual scope N fun X E => PSs X body (tPenAll G.K a b f0)) : FnOk P w G.K mg base (L2.CX P w) (k + 1) f fd [x0] (spPenS G a b f0) := by
  refine F.ok S (fun vs H Q E h => ?_) fun cdv A outer s H vs Q E hr hh => ⟨_, h cdv A outer s H E hr, ?_⟩
  · obtain ⟨s, ns, rfl, _⟩ := h
    rfl
  · obtain ⟨s, ns, rfl, hS, hq⟩ := hh
    have e : start N [.ref s] = [some (.ref s), none, none] := by
      unfold L2.start
      rw [hN]
      rfl
    rw [e]
    exact wish_pen ha hb hS hq
end
/-- the rest of the law's body, from what the script's pen is -/
theorem run_lawP {W : XK} {mr : KS} {u : TS} {H : Hp} {D : Ends} {s : Addr} {ns : List Int} {i n : Nat} {E : XK} (hr : EvS G E mr u) (hS : SqL G.K H s (ns.map V.int)) (hi : i < n + 1) (hi0 : i ≠ 0)
    (ht : G.C 1000 ≠ 0 → LamX.TabS H (G.C 1000) lamQ ∧ ∀ b ps, H b = some (.tbl ps) → b = G.C 1000) {ρ : List Sl} {p : Pen}
    (hm : mr ((List.replicate (n + 1) Sl.no).set i .pen) (.pn ns 0 0 0 (penFold a b f0 ns)) = .ok (.ret (.bl true), ρ, p)) (hD : ∀ H', D.rt (.bl true) H') :
    tSeq (tAsg (tCall (spPenS G a b f0) [] E (tCons (tVar 0) tNil)) (gName i)) u D (some (.ref s) :: List.replicate n none) H := by
  refine ⟨.ref s, rfl, s, ns, rfl, hS, fun a' q ha hq hne => ?_⟩
  show u D ((some (.ref s) :: List.replicate n none).set i (some (.ref a'))) _
  generalize hH : upd (upd H q (.lst (ns.map V.int))) a' (penA (q, G.C) (.pn ns 0 0 0 (penFold a b f0 ns))) = H2
  have keep : ∀ b o, H b = some o → H2 b = some o := fun b o hb => by
    rw [← hH, upd_ne (fun z => by rw [z, ha] at hb; cases hb), upd_ne (fun z => by rw [z, hq] at hb; cases hb)]
    exact hb
  have pa : PenAt a' (q, G.C) (.pn ns 0 0 0 (penFold a b f0 ns)) H2 := ⟨by rw [← hH]; exact upd_same, by rw [← hH, upd_ne hne, upd_same]; rfl, rfl, fun _ hz => ⟨(ht hz).1.ext keep, fun b ps h => by
    rw [← hH] at h
    obtain ⟨ps1, h1⟩ := old_upd (penA_tbl (p := .pn ns 0 0 0 (penFold _ _ _ ns))) b ps h
    obtain ⟨ps2, h2⟩ := old_upd (fun _ z => by cases z) b ps1 h1
    exact (ht hz).2 b ps2 h2⟩⟩
  have sub : Sub (fun _ => none) H2 := fun b o h => by cases h
  have slots : ∀ (j : Nat) (t : Sl), ((List.replicate (n + 1) Sl.no).set i .pen)[j]? = some t → (t = .no ∨ (t = .pen ∧ j = i)) := fun j t h => by
    rw [List.getElem?_set] at h
    split at h
    · rename_i e
      split at h
      · cases h
        exact .inr ⟨rfl, e.symm⟩
      · cases h
    · rw [List.getElem?_replicate] at h
      split at h
      · cases h
        exact .inl rfl
      · cases h
  have n3 : Now G ⟨some (a', (q, G.C)), fun _ => none, H2⟩ (.pn ns 0 0 0 (penFold a b f0 ns)) ((List.replicate (n + 1) Sl.no).set i .pen) ((some (.ref s) :: List.replicate n none).set i (some (.ref a'))) (fun _ => none) H2 := by
    refine ⟨Ext.refl sub fun a2 cc z => (by cases z; exact pa), fun a2 cc z => (by cases z; exact ⟨rfl, ⟨_, pa.d⟩, ⟨_, pa.c⟩, rfl⟩), by simp, fun j t h => ?_, fun j j2 t t2 q2 h _ o1 _ _ _ => ?_, fun _ _ b ps z => by cases z⟩
    · rcases slots j t h with rfl | ⟨rfl, rfl⟩
      · trivial
      · refine ⟨a', (q, G.C), rfl, ?_⟩
        rw [List.getElem?_set_self (by simp; omega)]
    · rcases slots j t h with rfl | ⟨rfl, rfl⟩ <;> cases o1
  refine hr.run n3 ?_
  rw [hm]
  intro v I' H' _ hv
  unfold DV at hv
  subst hv
  exact hD H'
end
end Dn
end
section
set_option Elab.async false
set_option linter.all false
set_option maxRecDepth 100000
set_option maxHeartbeats 4000000
namespace K60
open PySem PySem.Spec L2 Dn PyProof.Rows
theorem d__law_pen {P : Program} {w : World} {G : Gm} {mg : Str → Option Value} {base : Heap} {f : Addr} (E : Gs w G mg) : BdyE P w G.K mg base 0 f "_law_pen" (defScope (top 45)) ["script", "fold", "cell"] fun X W => PSs X (defBody (top 45)) (tPenAll G.K 181 1000000531 67) := by
  intro cdv A outer s H W hr
  have hN : (["script", "fold", "cell"] : List Str).Nodup := by decide
  exact (pss_cons (ps_asg pe_int (pg_name (i := 1) hN rfl (.inl rfl))) (pss_cons (ps_for (L2.passes_of rfl) rfl (pi_list (pe_var (i := 0) rfl (Or.inl rfl))) (pg_name (i := 2) hN rfl (.inl rfl)) (pss_one (ps_asg (pe_op op_mod (pe_callTy call_int1 rfl E.n_int boot_int (pa_cons (pe_op op_add (pe_op op_mul (pe_var (i := 1) rfl (Or.inl rfl)) pe_int) (pe_var (i := 2) rfl (Or.inl rfl))) pa_nil)) pe_int) (pg_name (i := 1) hN rfl (.inl rfl))))) (pss_one (ps_ret (pe_disp (pps_cons pe_str (pe_callTy call_lstOf rfl E.n_list boot_list (pa_cons (pe_var (i := 0) rfl (Or.inl rfl)) pa_nil)) (pps_cons pe_str pe_int (pps_cons pe_str pe_int (pps_cons pe_str pe_int (pps_cons pe_str (pe_var (i := 1) rfl (Or.inl rfl)) pps_nil))))) rfl rfl (by simp) (by decide))))))
def penA0 : Int := 181
def penB0 : Int := 1000000531
def penF0 : Int := 67
end K60
end
section
set_option Elab.async false
set_option linter.all false
set_option maxRecDepth 100000
set_option maxHeartbeats 4000000
namespace K60
open PySem PySem.Spec L2 Dn PyProof.Rows
def whyC : List WC := [⟨3, ["word", "line"], "text", [.fld "line", .fld "word"]⟩, ⟨1, ["name"], "name", [.rep "name"]⟩, ⟨2, ["number", "what"], "number", [.fld "what", .rep "number"]⟩, ⟨0, ["row", "what"], "row", [.fld "what", .rep "row"]⟩, ⟨4, ["column", "line"], "read", [.fld "line", .fld "column"]⟩, ⟨5, ["name", "why", "column", "line"], "placed", [.fld "line", .fld "column", .fld "why", .fld "name"]⟩, ⟨6, ["name"], "none", [.rep "name"]⟩, ⟨7, ["name"], "taken", [.rep "name"]⟩, ⟨8, ["what"], "unlike", [.fld "what"]⟩, ⟨9, ["what"], "there", [.rep "what"]⟩, ⟨10, ["limit", "many", "what"], "many", [.fld "what", .fld "many", .fld "limit"]⟩]
theorem g__law_why {X : Cx} {G : Gm} {w : World} (E : Gs w G X.mg) (w_BadText : Wn G X.mg 3 "BadText" ["line", "word"]) (w_BadName : Wn G X.mg 1 "BadName" ["name"]) (w_BadNumber : Wn G X.mg 2 "BadNumber" ["what", "number"]) (w_BadRow : Wn G X.mg 0 "BadRow" ["what", "row"]) (w_Misread : Wn G X.mg 4 "Misread" ["line", "column"]) (w_Misplaced : Wn G X.mg 5 "Misplaced" ["line", "column", "why", "name"]) (w_NoName : Wn G X.mg 6 "NoName" ["name"]) (w_TakenName : Wn G X.mg 7 "TakenName" ["name"]) (w_Unlike : Wn G X.mg 8 "Unlike" ["what"]) (w_NotThere : Wn G X.mg 9 "NotThere" ["what"]) (w_TooMany : Wn G X.mg 10 "TooMany" ["what", "many", "limit"]) (hK : X.K = G.K) (hgd : X.A.guards = some []) {k : Nat} (hr : Room (k + 1) X.A) {g : Addr} {cdg : Value} {qq : Str} : LamX.GivesTo X ["call", "found", "error"] "_law_why" (defScope (top 52)) g cdg (defBody (top 52)) "call" qq (TTwhy X.K (clasOf G whyC)) := by
  obtain ⟨K, C, F⟩ := G
  dsimp only at hK
  subst hK
  have hK : X.K = X.K := rfl
  refine why_gives (h₀ := _) (fun s H => ?_) rfl rfl rfl
  have hN : (["call", "found", "error"] : List Str).Nodup := by decide
  have hu := (hr.deeper (envOfC "_law_why" (defScope (top 52)) s.heap.objs.size g cdg)).u70
  exact (Clas.cons (x := "BadText") (c := .ref (C 3)) ⟨rfl, by decide, .inl w_BadText.g⟩ (fun a o cls d pn hz hf => pss_one (ps_asg (pe_tup (pa_cons pe_str (pa_cons (pe_xf w_BadText.T (w_BadText.no "line" (by simp)) hz hf (pe_var (i := 2) rfl (.inl rfl))) (pa_cons (pe_xf w_BadText.T (w_BadText.no "word" (by simp)) hz hf (pe_var (i := 2) rfl (.inl rfl))) pa_nil)))) (pg_name (i := 1) hN rfl (.inl rfl) (.inr rfl)))) (Clas.cons (x := "BadName") (c := .ref (C 1)) ⟨rfl, by decide, .inl w_BadName.g⟩ (fun a o cls d pn hz hf => pss_one (ps_asg (pe_tup (pa_cons pe_str (pa_cons (pe_callB (cr_repr hK hgd hu) rfl E.n_repr boot_repr (pa_cons (pe_xf w_BadName.T (w_BadName.no "name" (by simp)) hz hf (pe_var (i := 2) rfl (.inl rfl))) pa_nil)) pa_nil))) (pg_name (i := 1) hN rfl (.inl rfl) (.inr rfl)))) (Clas.cons (x := "BadNumber") (c := .ref (C 2)) ⟨rfl, by decide, .inl w_BadNumber.g⟩ (fun a o cls d pn hz hf => pss_one (ps_asg (pe_tup (pa_cons pe_str (pa_cons (pe_xf w_BadNumber.T (w_BadNumber.no "what" (by simp)) hz hf (pe_var (i := 2) rfl (.inl rfl))) (pa_cons (pe_callB (cr_repr hK hgd hu) rfl E.n_repr boot_repr (pa_cons (pe_xf w_BadNumber.T (w_BadNumber.no "number" (by simp)) hz hf (pe_var (i := 2) rfl (.inl rfl))) pa_nil)) pa_nil)))) (pg_name (i := 1) hN rfl (.inl rfl) (.inr rfl)))) (Clas.cons (x := "BadRow") (c := .ref (C 0)) ⟨rfl, by decide, .inl w_BadRow.g⟩ (fun a o cls d pn hz hf => pss_one (ps_asg (pe_tup (pa_cons pe_str (pa_cons (pe_xf w_BadRow.T (w_BadRow.no "what" (by simp)) hz hf (pe_var (i := 2) rfl (.inl rfl))) (pa_cons (pe_callB (cr_repr hK hgd hu) rfl E.n_repr boot_repr (pa_cons (pe_xf w_BadRow.T (w_BadRow.no "row" (by simp)) hz hf (pe_var (i := 2) rfl (.inl rfl))) pa_nil)) pa_nil)))) (pg_name (i := 1) hN rfl (.inl rfl) (.inr rfl)))) (Clas.cons (x := "Misread") (c := .ref (C 4)) ⟨rfl, by decide, .inl w_Misread.g⟩ (fun a o cls d pn hz hf => pss_one (ps_asg (pe_tup (pa_cons pe_str (pa_cons (pe_xf w_Misread.T (w_Misread.no "line" (by simp)) hz hf (pe_var (i := 2) rfl (.inl rfl))) (pa_cons (pe_xf w_Misread.T (w_Misread.no "column" (by simp)) hz hf (pe_var (i := 2) rfl (.inl rfl))) pa_nil)))) (pg_name (i := 1) hN rfl (.inl rfl) (.inr rfl)))) (Clas.cons (x := "Misplaced") (c := .ref (C 5)) ⟨rfl, by decide, .inl w_Misplaced.g⟩ (fun a o cls d pn hz hf => pss_one (ps_asg (pe_tup (pa_cons pe_str (pa_cons (pe_xf w_Misplaced.T (w_Misplaced.no "line" (by simp)) hz hf (pe_var (i := 2) rfl (.inl rfl))) (pa_cons (pe_xf w_Misplaced.T (w_Misplaced.no "column" (by simp)) hz hf (pe_var (i := 2) rfl (.inl rfl))) (pa_cons (pe_xf w_Misplaced.T (w_Misplaced.no "why" (by simp)) hz hf (pe_var (i := 2) rfl (.inl rfl))) (pa_cons (pe_xf w_Misplaced.T (w_Misplaced.no "name" (by simp)) hz hf (pe_var (i := 2) rfl (.inl rfl))) pa_nil)))))) (pg_name (i := 1) hN rfl (.inl rfl) (.inr rfl)))) (Clas.cons (x := "NoName") (c := .ref (C 6)) ⟨rfl, by decide, .inl w_NoName.g⟩ (fun a o cls d pn hz hf => pss_one (ps_asg (pe_tup (pa_cons pe_str (pa_cons (pe_callB (cr_repr hK hgd hu) rfl E.n_repr boot_repr (pa_cons (pe_xf w_NoName.T (w_NoName.no "name" (by simp)) hz hf (pe_var (i := 2) rfl (.inl rfl))) pa_nil)) pa_nil))) (pg_name (i := 1) hN rfl (.inl rfl) (.inr rfl)))) (Clas.cons (x := "TakenName") (c := .ref (C 7)) ⟨rfl, by decide, .inl w_TakenName.g⟩ (fun a o cls d pn hz hf => pss_one (ps_asg (pe_tup (pa_cons pe_str (pa_cons (pe_callB (cr_repr hK hgd hu) rfl E.n_repr boot_repr (pa_cons (pe_xf w_TakenName.T (w_TakenName.no "name" (by simp)) hz hf (pe_var (i := 2) rfl (.inl rfl))) pa_nil)) pa_nil))) (pg_name (i := 1) hN rfl (.inl rfl) (.inr rfl)))) (Clas.cons (x := "Unlike") (c := .ref (C 8)) ⟨rfl, by decide, .inl w_Unlike.g⟩ (fun a o cls d pn hz hf => pss_one (ps_asg (pe_tup (pa_cons pe_str (pa_cons (pe_xf w_Unlike.T (w_Unlike.no "what" (by simp)) hz hf (pe_var (i := 2) rfl (.inl rfl))) pa_nil))) (pg_name (i := 1) hN rfl (.inl rfl) (.inr rfl)))) (Clas.cons (x := "NotThere") (c := .ref (C 9)) ⟨rfl, by decide, .inl w_NotThere.g⟩ (fun a o cls d pn hz hf => pss_one (ps_asg (pe_tup (pa_cons pe_str (pa_cons (pe_callB (cr_repr hK hgd hu) rfl E.n_repr boot_repr (pa_cons (pe_xf w_NotThere.T (w_NotThere.no "what" (by simp)) hz hf (pe_var (i := 2) rfl (.inl rfl))) pa_nil)) pa_nil))) (pg_name (i := 1) hN rfl (.inl rfl) (.inr rfl)))) (Clas.cons (x := "TooMany") (c := .ref (C 10)) ⟨rfl, by decide, .inl w_TooMany.g⟩ (fun a o cls d pn hz hf => pss_one (ps_asg (pe_tup (pa_cons pe_str (pa_cons (pe_xf w_TooMany.T (w_TooMany.no "what" (by simp)) hz hf (pe_var (i := 2) rfl (.inl rfl))) (pa_cons (pe_xf w_TooMany.T (w_TooMany.no "many" (by simp)) hz hf (pe_var (i := 2) rfl (.inl rfl))) (pa_cons (pe_xf w_TooMany.T (w_TooMany.no "limit" (by simp)) hz hf (pe_var (i := 2) rfl (.inl rfl))) pa_nil))))) (pg_name (i := 1) hN rfl (.inl rfl) (.inr rfl)))) Clas.stop)))))))))))
end K60
end
section
set_option Elab.async false
set_option linter.all false
set_option maxRecDepth 100000
set_option maxHeartbeats 2000000
namespace Dn
open PySem PySem.Spec L2
/-! ### a, b = e, f, where captured names are among a, b; no own lists -/
def kParT (i j : Nat) (m1 m2 : KX) : KS := fun ρ p => do
  let a ← m1 ρ p
  let b ← m2 ρ a.2
  if a.1.isOwn = false ∧ b.1.isOwn = false then pure (.nx, (ρ.set i a.1).set j b.1, b.2) else .error .stuck
section
variable {X : Cx} {G : Gm} {W : XK} {a b : Expr} {ta tb : TE} {pos : Pos}
theorem slot_new {c : Ctx} {I I2 H H2 H3 : Hp} {s : Sl} {v : V} (h : NewR G I H H2 s v) (ho : s.isOwn = false) (g : Sub I I2) : SlotR G c I2 H3 s (some (some v)) := by
  cases s with
  | val d => exact ⟨v, rfl, DV.mono g h⟩
  | cln d => exact ⟨v, rfl, DV.mono g h.1, h.2.mono g⟩
  | own ds => cases ho
  | ownd ks ds => cases ho
  | no => exact False.elim h
  | pen => exact False.elim h
theorem es_parT {i j : Nat} {m1 m2 : KX} (h1 : EvX G W m1 ta) (h2 : EvX G W m2 tb) : EvS G W (kParT i j m1 m2) (tAsg (tTup (tCons ta (tCons tb tNil))) (gTup G.K 2 (gCons (gName i) (gCons (gName j) gNil)))) := .of fun c p ρ σ I H E n k => by
  refine h1 c p ρ σ I H _ n ((Pst.bind.mp k).mono (fun _ _ z => z) fun x hx v I1 H1 e1 r1 => ?_)
  have n1 := n.step e1
  refine h2 c x.2 ρ σ I1 H1 _ n1 ((Pst.bind.mp hx).mono (fun _ _ z => z) fun y hy w I2 H2 e2 r2 => ?_)
  have n2 := n1.step e2
  obtain ⟨⟨o1, o2⟩, hy⟩ := Pst.ite hy
  refine ⟨by simp [sizeLine], fun q hq => ⟨q, [v, w], rfl, SqT.of upd_same, rfl, ?_⟩⟩
  have e3 : ExtN I2 H2 I2 (upd H2 q (.tup [v, w])) := ExtN.lose n2.sub hq
  have n3 := n2.step (e3.to n2.pen)
  have n4 := n3.setS (i := i) (s := x.1) (v := v) (fun _ => slot_new r1 o1 e2.grow) (fun z => by rw [o1] at z; cases z)
  have n5 := n4.setS (i := j) (s := y.1) (v := w) (fun _ => slot_new r2 o2 Sub.refl) (fun z => by rw [o2] at z; cases z)
  exact ⟨v, [w], rfl, w, [], rfl, rfl, hy _ I2 _ n5 (e1.grow.trans e2.grow)⟩
theorem ms_parT (i j : Nat) {x y : Str} {px py pt : Pos} {kt k2 : Nat} {pt2 : Pos} {m1 m2 : KX} (h1 : MX X G W a ta m1) (h2 : MX X G W b tb m2) (hN : X.N.Nodup) (hi : X.N[i]? = some x := by rfl) (hj : X.N[j]? = some y := by rfl) (hc : X.calm = true := by rfl) (hk : X.K = G.K := by rfl)
    (hx : Loc X.env.scope x := by first | exact Or.inl rfl | exact Or.inr rfl) (hy : Loc X.env.scope y := by first | exact Or.inl rfl | exact Or.inr rfl) (fx : X.fn x = true ∨ X.env.scope.names.lookup x = some .local := by first | exact .inl rfl | exact .inr rfl) (fy : X.fn y = true ∨ X.env.scope.names.lookup y = some .local := by first | exact .inl rfl | exact .inr rfl)
    (he1 : starEach (a :: [b]) X.env = (false, eval a X.env) :: starEach [b] X.env := by rfl) (he2 : starEach (b :: []) X.env = (false, eval b X.env) :: starEach [] X.env := by rfl)
    (hs : swapsWithSole [.Tuple [.Name x px, .Name y py] kt pt] (.Tuple [a, b] k2 pt2) pos.line X.env = pure false := by rfl) (hw : swappedStores [.Tuple [.Name x px, .Name y py] kt pt] (.Tuple [a, b] k2 pt2) X.env = pure none := by rfl)
    (ha : (assignEach [.Tuple [.Name x px, .Name y py] kt pt] X.env).map (·.2) = [assign (.Tuple [.Name x px, .Name y py] kt pt) X.env] := by rfl) :
    MS X G W (.Assign [.Tuple [.Name x px, .Name y py] kt pt] (.Tuple [a, b] k2 pt2) pos) (tAsg (tTup (tCons ta (tCons tb tNil))) (gTup X.K 2 (gCons (gName i) (gCons (gName j) gNil)))) (kParT i j m1 m2) :=
  ⟨ps_asg (pe_tup (pa_cons h1.pe (pa_cons h2.pe pa_nil he2) he1)) (pg_tup hc (pgs_cons (pg_name hN hi hx fx) (pgs_cons (pg_name hN hj hy fy) pgs_nil))) hs hw ha, by rw [hk]; exact es_parT h1.ev h2.ev⟩
end
@[simp] theorem kParT_ap (i j : Nat) (m1 m2 : KX) (ρ : List Sl) (p : Pen) : kParT i j m1 m2 ρ p = (do
  let a ← m1 ρ p
  let b ← m2 ρ a.2
  if a.1.isOwn = false ∧ b.1.isOwn = false then pure (.nx, (ρ.set i a.1).set j b.1, b.2) else .error .stuck) := (rfl)
end Dn
end
section
set_option Elab.async false
set_option linter.all false
set_option maxRecDepth 100000
set_option maxHeartbeats 4000000
namespace K60
open PySem PySem.Spec L2 Dn PyProof.Rows
def m__law_same : KF := r__law_same 8
def N_law : List Str := ["script", "pen", "lap", "names", "tones", "log", "begin", "size", "order", "later", "due", "told", "at", "both", "hand", "back", "spot", "row", "place", "state", "wide", "mate", "whole", "bad"]
def b_law : KS := (kSeq (kFor (kRng1 (kC (.int 5))) (gkN 2) (kSeq (kPar 3 4 (kXV (kCallM 1 1 m__law_names [] (kCons (kC (.int 4)) kNil))) (kXV (kCallM 1 1 m__law_names [] (kCons (kC (.int 2)) kNil)))) (kSeq (kAsg (kCallM 1 4 m__law_drawn_log [] (kCons (kOp addD (kC (.int 2)) (kCallM 1 1 m__law_draw [] (kCons (kC (.int 5)) kNil))) (kCons (kVar 3) (kCons (kVar 4) (kCons (kC (.int 6)) kNil))))) (gkN 5)) (kSeq (kAsg (kTup (kCons (kOp ixD (kVar 3) (kC (.int 0))) (kCons (kOp ixD (kOp ixD (kVar 5) (kC (.int 0))) (kC (.int 1))) kNil))) (gkTup 2 (gkCons (gkN 6) (gkCons (gkN 7) gkNil)))) (kSeq (kParT 8 9 (kXC (kL (kCallM 1 1 m__law_shuffled [] (kCons (kFz (kLstR (kRng1 (kVar 7)))) kNil)))) (kXC (kL (kCallM 1 1 m__law_shuffled [] (kCons (kFz (kLstR (kRng1 (kVar 7)))) kNil))))) (kSeq (kAsg (kCall 2 m__law_in_numbers [] (kCons (kVar 5) (kCons (kVar 8) kNil))) (gkN 10)) (kSeq (kAsg (kTup (kCons (kCall 2 m_renumbered_log [] (kCons (kVar 5) (kCons (kVar 8) kNil))) (kCons (kCallM 1 1 m__law_draw [] (kCons (kCa lenD (kCons (kVar 10) kNil)) kNil)) kNil))) (gkTup 2 (gkCons (gkN 11) (gkCons (gkN 12) gkNil)))) (kSeq (kIfS (kOrB (kT (kOp neD (kCa lenD (kCons (kVar 11) kNil)) (kCa lenD (kCons (kVar 10) kNil)))) (kOrB (kNotB (kT (kCall 2 m__law_same [] (kCons (kOp ixD (kVar 11) (kVar 12)) (kCons (kOp ixD (kVar 10) (kVar 12)) kNil))))) (kOrB (kNotB (kT (kCall 2 m__law_same [] (kCons (kVar 11) (kCons (kVar 10) kNil))))) (kT (kOp isNotD (kCall 1 m_is_log [] (kCons (kVar 11) kNil)) (kC (.bl true))))))) (kRet (kC (.bl false))) kNext) (kSeq (kAsgX 13 (kXC (kLc [14] (kRng1 (kVar 7)) (gkN 14) kYes (kOp ixD (kVar 9) (kOp ixD (kVar 8) (kVar 14)))))) (kSeq (kAsgX 15 (kXC (kLc [14] (kRng1 (kVar 7)) (gkN 14) kYes (kCix 8 (kVar 14))))) (kSeq (kIfS (kOrB (kT (kOp neD (kCall 2 m_renumbered_log [] (kCons (kVar 11) (kCons (kVar 9) kNil))) (kCall 2 m_renumbered_log [] (kCons (kVar 5) (kCons (kVar 13) kNil))))) (kOrB (kT (kOp neD (kCall 2 m_renumbered_log [] (kCons (kVar 11) (kCons (kVar 15) kNil))) (kVar 5))) (kT (kOp neD (kCall 2 m_renumbered_log [] (kCons (kVar 5) (kCons (kTupR (kRng1 (kVar 7))) kNil))) (kVar 5))))) (kRet (kC (.bl false))) kNext) (kSeq (kIfS (kOrB (kT (kOp neD (kCall 1 m_stops_of [] (kCons (kVar 11) kNil)) (kCall 1 m_stops_of [] (kCons (kVar 5) kNil)))) (kT (kOp neD (kCall 2 m_counts_along [] (kCons (kVar 6) (kCons (kVar 11) kNil))) (kCall 2 m_counts_along [] (kCons (kVar 6) (kCons (kVar 5) kNil)))))) (kRet (kC (.bl false))) kNext) (kSeq (kIfS (kT (kOp neD (kFz (kLc [14] (kRng1 (kVar 7)) (gkN 14) (kT (kOp neD (kOp ixD (kCall 2 m_states_behind [] (kCons (kVar 6) (kCons (kVar 11) kNil))) (kOp ixD (kVar 8) (kVar 14))) (kOp ixD (kCall 2 m_states_behind [] (kCons (kVar 6) (kCons (kVar 5) kNil))) (kVar 14)))) (kVar 14))) (kFz (kLst kNil)))) (kRet (kC (.bl false))) kNext) (kSeq (kIfS (kT (kOp neD (kCall 1 m_quiet_hands [] (kCons (kVar 11) kNil)) (kCa tupL (kCaL sortL (kLc [14] (kSeqI (kCall 1 m_quiet_hands [] (kCons (kVar 5) kNil))) (gkN 14) kYes (kOp ixD (kVar 8) (kVar 14))))))) (kRet (kC (.bl false))) kNext) (kSeq (kFor (kEnum (kVar 5)) (gkTup 2 (gkCons (gkN 16) (gkCons (gkN 17) gkNil))) (kIfS (kAndB (kT (kOp eqD (kOp ixD (kVar 17) (kC (.int 0))) (kC (.str "shout")))) (kT (kOp neD (kCall 2 m_heard_of [] (kCons (kVar 11) (kCons (kVar 16) kNil))) (kCa tupL (kCaL sortL (kLc [14] (kSeqI (kCall 2 m_heard_of [] (kCons (kVar 5) (kCons (kVar 16) kNil)))) (gkN 14) kYes (kOp ixD (kVar 8) (kVar 14)))))))) (kRet (kC (.bl false))) kNext)) (kSeq (kFor (kRng1 (kVar 7)) (gkN 14) (kIfS (kT (kOp neD (kFz (kLc [18, 19] (kSeqI (kCall 3 m_way_of [] (kCons (kVar 6) (kCons (kVar 11) (kCons (kOp ixD (kVar 8) (kVar 14)) kNil))))) (gkTup 2 (gkCons (gkN 18) (gkCons (gkN 19) gkNil))) kYes (kVar 19))) (kFz (kLc [18, 19] (kSeqI (kCall 3 m_way_of [] (kCons (kVar 6) (kCons (kVar 5) (kCons (kVar 14) kNil))))) (gkTup 2 (gkCons (gkN 18) (gkCons (gkN 19) gkNil))) kYes (kVar 19))))) (kRet (kC (.bl false))) kNext)) (kSeq (kAsg (kOp addD (kTup (kCons (kTup (kCons (kC (.str "crowd")) (kCons (kOp addD (kVar 7) (kC (.int 1))) kNil))) kNil)) (kSl (kVar 5) (kPart (kC (.int 1))) kNone)) (gkN 20)) (kSeq (kIfS (kOrB (kT (kOp neD (kCall 1 m_quiet_hands [] (kCons (kVar 20) kNil)) (kOp addD (kCall 1 m_quiet_hands [] (kCons (kVar 5) kNil)) (kTup (kCons (kVar 7) kNil))))) (kOrB (kT (kOp neD (kCall 2 m_counts_behind [] (kCons (kVar 6) (kCons (kVar 20) kNil))) (kCall 2 m__law_sum [] (kCons (kCall 2 m_counts_behind [] (kCons (kVar 6) (kCons (kVar 5) kNil))) (kCons (kTup (kCons (kTup (kCons (kVar 6) (kCons (kC (.int 1)) kNil))) kNil)) kNil))))) (kT (kOp neD (kCall 1 m_stops_of [] (kCons (kVar 20) kNil)) (kCall 1 m_stops_of [] (kCons (kVar 5) kNil)))))) (kRet (kC (.bl false))) kNext) (kSeq (kIfS (kOrB (kT (kOp neD (kFz (kLc [14] (kRng1 (kVar 7)) (gkN 14) (kT (kOp neD (kCall 3 m_way_of [] (kCons (kVar 6) (kCons (kVar 20) (kCons (kVar 14) kNil)))) (kCall 3 m_way_of [] (kCons (kVar 6) (kCons (kVar 5) (kCons (kVar 14) kNil)))))) (kVar 14))) (kFz (kLst kNil)))) (kT (kOp neD (kCall 3 m_way_of [] (kCons (kVar 6) (kCons (kVar 20) (kCons (kVar 7) kNil)))) (kTup (kCons (kTup (kCons (kC (.int 1)) (kCons (kVar 6) kNil))) kNil))))) (kRet (kC (.bl false))) kNext) (kSeq (kAsg (kCallM 1 4 m__law_drawn_log [] (kCons (kOp addD (kC (.int 1)) (kCallM 1 1 m__law_draw [] (kCons (kC (.int 4)) kNil))) (kCons (kVar 3) (kCons (kVar 4) (kCons (kC (.int 4)) kNil))))) (gkN 21)) (kSeq (kAsg (kCall 2 m__law_beside [] (kCons (kVar 5) (kCons (kVar 21) kNil))) (gkN 22)) (kSeq (kIfS (kOrB (kT (kOp isNotD (kCall 1 m_is_log [] (kCons (kVar 22) kNil)) (kC (.bl true)))) (kNotB (kT (kCall 2 m__law_same [] (kCons (kCall 2 m_counts_behind [] (kCons (kVar 6) (kCons (kVar 22) kNil))) (kCons (kCall 2 m__law_sum [] (kCons (kCall 2 m_counts_behind [] (kCons (kVar 6) (kCons (kVar 5) kNil))) (kCons (kCall 2 m_counts_behind [] (kCons (kVar 6) (kCons (kVar 21) kNil))) kNil))) kNil)))))) (kRet (kC (.bl false))) kNext) (kSeq (kIfS (kOrB (kT (kOp neD (kCall 2 m_states_behind [] (kCons (kVar 6) (kCons (kVar 22) kNil))) (kOp addD (kCall 2 m_states_behind [] (kCons (kVar 6) (kCons (kVar 5) kNil))) (kCall 2 m_states_behind [] (kCons (kVar 6) (kCons (kVar 21) kNil)))))) (kT (kOp neD (kCall 1 m_quiet_hands [] (kCons (kVar 22) kNil)) (kOp addD (kCall 1 m_quiet_hands [] (kCons (kVar 5) kNil)) (kCa tupL (kLc [14] (kSeqI (kCall 1 m_quiet_hands [] (kCons (kVar 21) kNil))) (gkN 14) kYes (kOp addD (kVar 14) (kVar 7)))))))) (kRet (kC (.bl false))) kNext) (kSeq (kIfS (kT (kOp neD (kCa lenD (kCons (kCall 1 m_stops_of [] (kCons (kVar 22) kNil)) kNil)) (kOp subD (kOp addD (kCa lenD (kCons (kCall 1 m_stops_of [] (kCons (kVar 5) kNil)) kNil)) (kCa lenD (kCons (kCall 1 m_stops_of [] (kCons (kVar 21) kNil)) kNil))) (kC (.int 1))))) (kRet (kC (.bl false))) kNext) (kSeq (kFor (kSeqI (kFz (kLst (kCons (kC .non) (kCons (kC (.int 5)) (kCons (kSl (kVar 8) kNone (kPart (kUn negD (kC (.int 1))))) (kCons (kOp addD (kVar 8) (kTup (kCons (kVar 7) kNil))) (kCons (kOp repT (kTup (kCons (kC (.int 0)) kNil)) (kVar 7)) (kCons (kFz (kCaL lstD (kCons (kVar 8) kNil))) (kCons (kIf (kT (kOp eqD (kOp ixD (kVar 8) (kC (.int 0))) (kC (.int 1)))) (kOp addD (kTup (kCons (kC (.bl true)) kNil)) (kSl (kVar 8) (kPart (kC (.int 1))) kNone)) (kOp addD (kTup (kCons (kC .non) kNil)) (kSl (kVar 8) (kPart (kC (.int 1))) kNone))) kNil)))))))))) (gkN 23) (kIfS (kT (kOp neD (kWhy whyC 1 (kCall 2 m_renumbered_log [] (kCons (kVar 5) (kCons (kVar 23) kNil)))) (kTup (kCons (kC (.str "row")) (kCons (kC (.str "order")) (kCons (kCa reprD (kCons (kVar 23) kNil)) kNil)))))) (kRet (kC (.bl false))) kNext)) (kIfS (kT (kOp neD (kWhy whyC 1 (kCall 2 m_renumbered_log [] (kCons (kSl (kVar 5) (kPart (kC (.int 1))) kNone) (kCons (kC .non) kNil)))) (kTup (kCons (kC (.str "row")) (kCons (kC (.str "log")) (kCons (kCa reprD (kCons (kSl (kVar 5) (kPart (kC (.int 1))) kNone) kNil)) kNil)))))) (kRet (kC (.bl false))) kNext)))))))))))))))))))))))))) (kRet (kC (.bl true))))
theorem d_law {P : Program} {w : World} {G : Gm} {mg : Str → Option Value} {base : Heap} {f c0 ga : Addr} {cda : Value} {pga : Arguments} (E : Gs w G mg) {fa__law_names : Addr} {fd__law_names : FuncData} (D__law_names : Fn P w G mg base "_law_names" 3 ["pen", "many"] [[]] (spM G 1 m__law_names) fa__law_names fd__law_names) {fa__law_drawn_log : Addr} {fd__law_drawn_log : FuncData} (D__law_drawn_log : Fn P w G mg base "_law_drawn_log" 3 ["pen", "size", "names", "tones", "most"] [[]] (spM G 4 m__law_drawn_log) fa__law_drawn_log fd__law_drawn_log) {fa__law_draw : Addr} {fd__law_draw : FuncData} (D__law_draw : Fn P w G mg base "_law_draw" 1 ["pen", "many"] [[]] (spM G 1 m__law_draw) fa__law_draw fd__law_draw) {fa__law_shuffled : Addr} {fd__law_shuffled : FuncData} (D__law_shuffled : Fn P w G mg base "_law_shuffled" 2 ["pen", "some"] [[]] (spM G 1 m__law_shuffled) fa__law_shuffled fd__law_shuffled) {fa__law_in_numbers : Addr} {fd__law_in_numbers : FuncData} (D__law_in_numbers : Fn P w G mg base "_law_in_numbers" 1 ["log", "order"] [[]] (spP G 2 m__law_in_numbers) fa__law_in_numbers fd__law_in_numbers) {fa_renumbered_log : Addr} {fd_renumbered_log : FuncData} (D_renumbered_log : Fn P w G mg base "renumbered_log" 7 ["log", "order"] [[]] (spP G 2 m_renumbered_log) fa_renumbered_log fd_renumbered_log) {fa__law_same : Addr} {fd__law_same : FuncData} (D__law_same : Fn P w G mg base "_law_same" 9 ["told", "due"] [[]] (spP G 2 m__law_same) fa__law_same fd__law_same) {fa_is_log : Addr} {fd_is_log : FuncData} (D_is_log : Fn P w G mg base "is_log" 5 ["value"] [[]] (spP G 1 m_is_log) fa_is_log fd_is_log) {fa_stops_of : Addr} {fd_stops_of : FuncData} (D_stops_of : Fn P w G mg base "stops_of" 7 ["log"] [[]] (spP G 1 m_stops_of) fa_stops_of fd_stops_of) {fa_counts_along : Addr} {fd_counts_along : FuncData} (D_counts_along : Fn P w G mg base "counts_along" 8 ["begin", "log"] [[]] (spP G 2 m_counts_along) fa_counts_along fd_counts_along) {fa_states_behind : Addr} {fd_states_behind : FuncData} (D_states_behind : Fn P w G mg base "states_behind" 8 ["begin", "log"] [[]] (spP G 2 m_states_behind) fa_states_behind fd_states_behind) {fa_quiet_hands : Addr} {fd_quiet_hands : FuncData} (D_quiet_hands : Fn P w G mg base "quiet_hands" 7 ["log"] [[]] (spP G 1 m_quiet_hands) fa_quiet_hands fd_quiet_hands) {fa_heard_of : Addr} {fd_heard_of : FuncData} (D_heard_of : Fn P w G mg base "heard_of" 7 ["log", "number"] [[]] (spP G 2 m_heard_of) fa_heard_of fd_heard_of) {fa_way_of : Addr} {fd_way_of : FuncData} (D_way_of : Fn P w G mg base "way_of" 8 ["begin", "log", "hand"] [[]] (spP G 3 m_way_of) fa_way_of fd_way_of) {fa_counts_behind : Addr} {fd_counts_behind : FuncData} (D_counts_behind : Fn P w G mg base "counts_behind" 8 ["begin", "log"] [[]] (spP G 2 m_counts_behind) fa_counts_behind fd_counts_behind) {fa__law_sum : Addr} {fd__law_sum : FuncData} (D__law_sum : Fn P w G mg base "_law_sum" 1 ["one", "other"] [[]] (spP G 2 m__law_sum) fa__law_sum fd__law_sum) {fa__law_beside : Addr} {fd__law_beside : FuncData} (D__law_beside : Fn P w G mg base "_law_beside" 2 ["one", "other"] [[]] (spP G 2 m__law_beside) fa__law_beside fd__law_beside) (w_BadText : Wn G mg 3 "BadText" ["line", "word"]) (w_BadName : Wn G mg 1 "BadName" ["name"]) (w_BadNumber : Wn G mg 2 "BadNumber" ["what", "number"]) (w_BadRow : Wn G mg 0 "BadRow" ["what", "row"]) (w_Misread : Wn G mg 4 "Misread" ["line", "column"]) (w_Misplaced : Wn G mg 5 "Misplaced" ["line", "column", "why", "name"]) (w_NoName : Wn G mg 6 "NoName" ["name"]) (w_TakenName : Wn G mg 7 "TakenName" ["name"]) (w_Unlike : Wn G mg 8 "Unlike" ["what"]) (w_NotThere : Wn G mg 9 "NotThere" ["what"]) (w_TooMany : Wn G mg 10 "TooMany" ["what", "many", "limit"])
    (LW : ∀ X : Cx, X.K = G.K → X.mg = mg → LamG X "_law_why" "call" ga cda pga (defBody (top 52)) (defScope (top 52)) ["call", "found", "error"]) (hexm : ExmC G whyC) (hfld : FldC G whyC) (hz : G.C 1000 ≠ 0) (hT : LamX.TabB base mg c0 (G.C 1000))
    (A : Around) (outer : List Env) (s : Shared) (H : Hp) (W : XK) (hA : A.guards = some []) (hr : Room 12 (A.deeper (PyProof.Rows.envOfC "law" (defScope (top 57)) s.heap.objs.size f (.ref c0)))) :
    ∃ t, MB (cxOf (L2.CX P w) P w G.K mg base ["script", "pen", "lap", "names", "tones", "log", "begin", "size", "order", "later", "due", "told", "at", "both", "hand", "back", "spot", "row", "place", "state", "wide", "mate", "whole", "bad"] "law" (defScope (top 57)) f (.ref c0) A outer s H W) G W (defBody (top 57)).tail t b_law := by
  have hN : (["script", "pen", "lap", "names", "tones", "log", "begin", "size", "order", "later", "due", "told", "at", "both", "hand", "back", "spot", "row", "place", "state", "wide", "mate", "whole", "bad"] : List Str).Nodup := by decide
  have LP : LamP (cxOf (L2.CX P w) P w G.K mg base ["script", "pen", "lap", "names", "tones", "log", "begin", "size", "order", "later", "due", "told", "at", "both", "hand", "back", "spot", "row", "place", "state", "wide", "mate", "whole", "bad"] "law" (defScope (top 57)) f (.ref c0) A outer s H W) [(G.C 1000, lamQ)] c0 (G.C 1000) := ⟨hT, rfl, List.mem_singleton.mpr rfl, fun p hp _ => by rw [List.mem_singleton.mp hp]; rfl⟩
  have gv : LamX.GivesTo (cxOf (L2.CX P w) P w G.K mg base ["script", "pen", "lap", "names", "tones", "log", "begin", "size", "order", "later", "due", "told", "at", "both", "hand", "back", "spot", "row", "place", "state", "wide", "mate", "whole", "bad"] "law" (defScope (top 57)) f (.ref c0) A outer s H W) ["call", "found", "error"] "_law_why" (defScope (top 52)) ga cda (defBody (top 52)) "call" lamQ (TTwhy G.K (clasOf G whyC)) := g__law_why E w_BadText w_BadName w_BadNumber w_BadRow w_Misread w_Misplaced w_NoName w_TakenName w_Unlike w_NotThere w_TooMany rfl hA (k := 10) (hr.mono (by decide))
  exact ⟨_, (mb_cons (ms_for (mi_rng1 me_int E.n_range) (mg_name 2 hN) (mb_cons (ms_par 3 4 (mx_v (me_callM 1 D__law_names.ok (hr.mono (by decide)) D__law_names.g D__law_names.kp (D__law_names.bs [] (by simp)) .nil (fun _ => dvs0) (ma_cons me_int ma_nil))) (mx_v (me_callM 1 D__law_names.ok (hr.mono (by decide)) D__law_names.g D__law_names.kp (D__law_names.bs [] (by simp)) .nil (fun _ => dvs0) (ma_cons me_int ma_nil))) hN) (mb_cons (ms_asg (me_callM 1 D__law_drawn_log.ok (hr.mono (by decide)) D__law_drawn_log.g D__law_drawn_log.kp (D__law_drawn_log.bs [] (by simp)) .nil (fun _ => dvs0) (ma_cons (me_bin op_addAll od_add me_int (me_callM 1 D__law_draw.ok (hr.mono (by decide)) D__law_draw.g D__law_draw.kp (D__law_draw.bs [] (by simp)) .nil (fun _ => dvs0) (ma_cons me_int ma_nil))) (ma_cons (me_var 3) (ma_cons (me_var 4) (ma_cons me_int ma_nil))))) (mg_name 5 hN)) (mb_cons (ms_asg (me_tup (ma_cons (me_ix (me_var 3) me_int) (ma_cons (me_ix (me_ix (me_var 5) me_int) me_int) ma_nil))) (mg_tup (mgs_cons (mg_name 6 hN) (mgs_cons (mg_name 7 hN) mgs_nil)))) (mb_cons (ms_parT 8 9 (mx_cln (me_callM 1 D__law_shuffled.ok (hr.mono (by decide)) D__law_shuffled.g D__law_shuffled.kp (D__law_shuffled.bs [] (by simp)) .nil (fun _ => dvs0) (ma_cons (mf_listR (mr_1 (me_var 7) E.n_range) E.n_list).val ma_nil)).list E.n_tuple) (mx_cln (me_callM 1 D__law_shuffled.ok (hr.mono (by decide)) D__law_shuffled.g D__law_shuffled.kp (D__law_shuffled.bs [] (by simp)) .nil (fun _ => dvs0) (ma_cons (mf_listR (mr_1 (me_var 7) E.n_range) E.n_list).val ma_nil)).list E.n_tuple) hN) (mb_cons (ms_asg (me_call D__law_in_numbers.ok (hr.mono (by decide)) D__law_in_numbers.g D__law_in_numbers.kp (D__law_in_numbers.bs [] (by simp)) .nil (fun _ => dvs0) (ma_cons (me_var 5) (ma_cons (me_var 8) ma_nil))) (mg_name 10 hN)) (mb_cons (ms_asg (me_tup (ma_cons (me_call D_renumbered_log.ok (hr.mono (by decide)) D_renumbered_log.g D_renumbered_log.kp (D_renumbered_log.bs [] (by simp)) .nil (fun _ => dvs0) (ma_cons (me_var 5) (ma_cons (me_var 8) ma_nil))) (ma_cons (me_callM 1 D__law_draw.ok (hr.mono (by decide)) D__law_draw.g D__law_draw.kp (D__law_draw.bs [] (by simp)) .nil (fun _ => dvs0) (ma_cons (me_callB call_lenA cd_len boot_len E.n_len (ma_cons (me_var 10) ma_nil)) ma_nil)) ma_nil))) (mg_tup (mgs_cons (mg_name 11 hN) (mgs_cons (mg_name 12 hN) mgs_nil)))) (mb_cons (ms_if (mw_or (mt_cmp (op_neAll hr.u64) od_ne (me_callB call_lenA cd_len boot_len E.n_len (ma_cons (me_var 11) ma_nil)) (me_callB call_lenA cd_len boot_len E.n_len (ma_cons (me_var 10) ma_nil))) (mw_or (mt_not (mt_val (me_call D__law_same.ok (hr.mono (by decide)) D__law_same.g D__law_same.kp (D__law_same.bs [] (by simp)) .nil (fun _ => dvs0) (ma_cons (me_ix (me_var 11) (me_var 12)) (ma_cons (me_ix (me_var 10) (me_var 12)) ma_nil))))) (mw_or (mt_not (mt_val (me_call D__law_same.ok (hr.mono (by decide)) D__law_same.g D__law_same.kp (D__law_same.bs [] (by simp)) .nil (fun _ => dvs0) (ma_cons (me_var 11) (ma_cons (me_var 10) ma_nil))))) (mw_or1 (mt_cmp op_isNotA od_isNot (me_call D_is_log.ok (hr.mono (by decide)) D_is_log.g D_is_log.kp (D_is_log.bs [] (by simp)) .nil (fun _ => dvs0) (ma_cons (me_var 11) ma_nil)) me_bl))))).pt (mb_one (ms_ret me_bl)) mb_nil) (mb_cons (ms_asgX 13 (mx_cln (mf_lcD [("hand", 14)] hN (mi_rng1 (me_var 7) E.n_range) rfl (fun s H C cl fp => (mg_name 14 hN)) (fun s H C cl fp => mts_nil) (fun s H C cl fp => (me_ix (me_var 9) (me_ix (me_var 8) (me_var 14))))).list E.n_tuple) hN) (mb_cons (ms_asgX 15 (mx_cln (mf_lcD [("hand", 14)] hN (mi_rng1 (me_var 7) E.n_range) rfl (fun s H C cl fp => (mg_name 14 hN)) (fun s H C cl fp => mts_nil) (fun s H C cl fp => (me_cix 8 hr.u65 (me_var 14)))).list E.n_tuple) hN) (mb_cons (ms_if (mw_or (mt_cmp (op_neAll hr.u64) od_ne (me_call D_renumbered_log.ok (hr.mono (by decide)) D_renumbered_log.g D_renumbered_log.kp (D_renumbered_log.bs [] (by simp)) .nil (fun _ => dvs0) (ma_cons (me_var 11) (ma_cons (me_var 9) ma_nil))) (me_call D_renumbered_log.ok (hr.mono (by decide)) D_renumbered_log.g D_renumbered_log.kp (D_renumbered_log.bs [] (by simp)) .nil (fun _ => dvs0) (ma_cons (me_var 5) (ma_cons (me_var 13) ma_nil)))) (mw_or (mt_cmp (op_neAll hr.u64) od_ne (me_call D_renumbered_log.ok (hr.mono (by decide)) D_renumbered_log.g D_renumbered_log.kp (D_renumbered_log.bs [] (by simp)) .nil (fun _ => dvs0) (ma_cons (me_var 11) (ma_cons (me_var 15) ma_nil))) (me_var 5)) (mw_or1 (mt_cmp (op_neAll hr.u64) od_ne (me_call D_renumbered_log.ok (hr.mono (by decide)) D_renumbered_log.g D_renumbered_log.kp (D_renumbered_log.bs [] (by simp)) .nil (fun _ => dvs0) (ma_cons (me_var 5) (ma_cons (me_tupR (mr_1 (me_var 7) E.n_range) E.n_tuple) ma_nil))) (me_var 5))))).pt (mb_one (ms_ret me_bl)) mb_nil) (mb_cons (ms_if (mw_or (mt_cmp (op_neAll hr.u64) od_ne (me_call D_stops_of.ok (hr.mono (by decide)) D_stops_of.g D_stops_of.kp (D_stops_of.bs [] (by simp)) .nil (fun _ => dvs0) (ma_cons (me_var 11) ma_nil)) (me_call D_stops_of.ok (hr.mono (by decide)) D_stops_of.g D_stops_of.kp (D_stops_of.bs [] (by simp)) .nil (fun _ => dvs0) (ma_cons (me_var 5) ma_nil))) (mw_or1 (mt_cmp (op_neAll hr.u64) od_ne (me_call D_counts_along.ok (hr.mono (by decide)) D_counts_along.g D_counts_along.kp (D_counts_along.bs [] (by simp)) .nil (fun _ => dvs0) (ma_cons (me_var 6) (ma_cons (me_var 11) ma_nil))) (me_call D_counts_along.ok (hr.mono (by decide)) D_counts_along.g D_counts_along.kp (D_counts_along.bs [] (by simp)) .nil (fun _ => dvs0) (ma_cons (me_var 6) (ma_cons (me_var 5) ma_nil)))))).pt (mb_one (ms_ret me_bl)) mb_nil) (mb_cons (ms_if (mt_cmp (op_neAll hr.u64) od_ne (mf_lcD [("hand", 14)] hN (mi_rng1 (me_var 7) E.n_range) rfl (fun s H C cl fp => (mg_name 14 hN)) (fun s H C cl fp => (mts_one (mt_cmp (op_neAll hr.u64) od_ne (me_ix (me_call D_states_behind.ok (hr.mono (by decide)) D_states_behind.g D_states_behind.kp (D_states_behind.bs [] (by simp)) .nil (fun _ => dvs0) (ma_cons (me_var 6) (ma_cons (me_var 11) ma_nil))) (me_ix (me_var 8) (me_var 14))) (me_ix (me_call D_states_behind.ok (hr.mono (by decide)) D_states_behind.g D_states_behind.kp (D_states_behind.bs [] (by simp)) .nil (fun _ => dvs0) (ma_cons (me_var 6) (ma_cons (me_var 5) ma_nil))) (me_var 14))))) (fun s H C cl fp => (me_var 14))).val (mf_lst ma_nil).val) (mb_one (ms_ret me_bl)) mb_nil) (mb_cons (ms_if (mt_cmp (op_neAll hr.u64) od_ne (me_call D_quiet_hands.ok (hr.mono (by decide)) D_quiet_hands.g D_quiet_hands.kp (D_quiet_hands.bs [] (by simp)) .nil (fun _ => dvs0) (ma_cons (me_var 11) ma_nil)) (me_callTyL call_tupOf cl_tup boot_tuple E.n_tuple (mf_callBL (cr_sortG rfl hr.u70) cl_sort boot_sorted E.n_sorted (mf_lcD [("hand", 14)] hN (mi_seq (me_call D_quiet_hands.ok (hr.mono (by decide)) D_quiet_hands.g D_quiet_hands.kp (D_quiet_hands.bs [] (by simp)) .nil (fun _ => dvs0) (ma_cons (me_var 5) ma_nil))) rfl (fun s H C cl fp => (mg_name 14 hN)) (fun s H C cl fp => mts_nil) (fun s H C cl fp => (me_ix (me_var 8) (me_var 14)))).list).list)) (mb_one (ms_ret me_bl)) mb_nil) (mb_cons (ms_for (mi_enum (me_var 5) E.n_enumerate) (mg_tup (mgs_cons (mg_name 16 hN) (mgs_cons (mg_name 17 hN) mgs_nil))) (mb_one (ms_if (mw_and (mt_cmp (op_eqAll hr.u64) od_eq (me_ix (me_var 17) me_int) me_str) (mw_and1 (mt_cmp (op_neAll hr.u64) od_ne (me_call D_heard_of.ok (hr.mono (by decide)) D_heard_of.g D_heard_of.kp (D_heard_of.bs [] (by simp)) .nil (fun _ => dvs0) (ma_cons (me_var 11) (ma_cons (me_var 16) ma_nil))) (me_callTyL call_tupOf cl_tup boot_tuple E.n_tuple (mf_callBL (cr_sortG rfl hr.u70) cl_sort boot_sorted E.n_sorted (mf_lcD [("hand", 14)] hN (mi_seq (me_call D_heard_of.ok (hr.mono (by decide)) D_heard_of.g D_heard_of.kp (D_heard_of.bs [] (by simp)) .nil (fun _ => dvs0) (ma_cons (me_var 5) (ma_cons (me_var 16) ma_nil)))) rfl (fun s H C cl fp => (mg_name 14 hN)) (fun s H C cl fp => mts_nil) (fun s H C cl fp => (me_ix (me_var 8) (me_var 14)))).list).list)))).pt (mb_one (ms_ret me_bl)) mb_nil))) (mb_cons (ms_for (mi_rng1 (me_var 7) E.n_range) (mg_name 14 hN) (mb_one (ms_if (mt_cmp (op_neAll hr.u64) od_ne (mf_lcD [("place", 18), ("state", 19)] hN (mi_seq (me_call D_way_of.ok (hr.mono (by decide)) D_way_of.g D_way_of.kp (D_way_of.bs [] (by simp)) .nil (fun _ => dvs0) (ma_cons (me_var 6) (ma_cons (me_var 11) (ma_cons (me_ix (me_var 8) (me_var 14)) ma_nil))))) rfl (fun s H C cl fp => (mg_tup (mgs_cons (mg_name 18 hN) (mgs_cons (mg_name 19 hN) mgs_nil)))) (fun s H C cl fp => mts_nil) (fun s H C cl fp => (me_var 19))).val (mf_lcD [("place", 18), ("state", 19)] hN (mi_seq (me_call D_way_of.ok (hr.mono (by decide)) D_way_of.g D_way_of.kp (D_way_of.bs [] (by simp)) .nil (fun _ => dvs0) (ma_cons (me_var 6) (ma_cons (me_var 5) (ma_cons (me_var 14) ma_nil))))) rfl (fun s H C cl fp => (mg_tup (mgs_cons (mg_name 18 hN) (mgs_cons (mg_name 19 hN) mgs_nil)))) (fun s H C cl fp => mts_nil) (fun s H C cl fp => (me_var 19))).val) (mb_one (ms_ret me_bl)) mb_nil))) (mb_cons (ms_asg (me_bin op_addAll od_add (me_tup (ma_cons (me_tup (ma_cons me_str (ma_cons (me_bin op_addAll od_add (me_var 7) me_int) ma_nil))) ma_nil)) (me_slice (me_var 5) (mo_some me_int) mo_none)) (mg_name 20 hN)) (mb_cons (ms_if (mw_or (mt_cmp (op_neAll hr.u64) od_ne (me_call D_quiet_hands.ok (hr.mono (by decide)) D_quiet_hands.g D_quiet_hands.kp (D_quiet_hands.bs [] (by simp)) .nil (fun _ => dvs0) (ma_cons (me_var 20) ma_nil)) (me_bin op_addAll od_add (me_call D_quiet_hands.ok (hr.mono (by decide)) D_quiet_hands.g D_quiet_hands.kp (D_quiet_hands.bs [] (by simp)) .nil (fun _ => dvs0) (ma_cons (me_var 5) ma_nil)) (me_tup (ma_cons (me_var 7) ma_nil)))) (mw_or (mt_cmp (op_neAll hr.u64) od_ne (me_call D_counts_behind.ok (hr.mono (by decide)) D_counts_behind.g D_counts_behind.kp (D_counts_behind.bs [] (by simp)) .nil (fun _ => dvs0) (ma_cons (me_var 6) (ma_cons (me_var 20) ma_nil))) (me_call D__law_sum.ok (hr.mono (by decide)) D__law_sum.g D__law_sum.kp (D__law_sum.bs [] (by simp)) .nil (fun _ => dvs0) (ma_cons (me_call D_counts_behind.ok (hr.mono (by decide)) D_counts_behind.g D_counts_behind.kp (D_counts_behind.bs [] (by simp)) .nil (fun _ => dvs0) (ma_cons (me_var 6) (ma_cons (me_var 5) ma_nil))) (ma_cons (me_tup (ma_cons (me_tup (ma_cons (me_var 6) (ma_cons me_int ma_nil))) ma_nil)) ma_nil)))) (mw_or1 (mt_cmp (op_neAll hr.u64) od_ne (me_call D_stops_of.ok (hr.mono (by decide)) D_stops_of.g D_stops_of.kp (D_stops_of.bs [] (by simp)) .nil (fun _ => dvs0) (ma_cons (me_var 20) ma_nil)) (me_call D_stops_of.ok (hr.mono (by decide)) D_stops_of.g D_stops_of.kp (D_stops_of.bs [] (by simp)) .nil (fun _ => dvs0) (ma_cons (me_var 5) ma_nil)))))).pt (mb_one (ms_ret me_bl)) mb_nil) (mb_cons (ms_if (mw_or (mt_cmp (op_neAll hr.u64) od_ne (mf_lcD [("hand", 14)] hN (mi_rng1 (me_var 7) E.n_range) rfl (fun s H C cl fp => (mg_name 14 hN)) (fun s H C cl fp => (mts_one (mt_cmp (op_neAll hr.u64) od_ne (me_call D_way_of.ok (hr.mono (by decide)) D_way_of.g D_way_of.kp (D_way_of.bs [] (by simp)) .nil (fun _ => dvs0) (ma_cons (me_var 6) (ma_cons (me_var 20) (ma_cons (me_var 14) ma_nil)))) (me_call D_way_of.ok (hr.mono (by decide)) D_way_of.g D_way_of.kp (D_way_of.bs [] (by simp)) .nil (fun _ => dvs0) (ma_cons (me_var 6) (ma_cons (me_var 5) (ma_cons (me_var 14) ma_nil))))))) (fun s H C cl fp => (me_var 14))).val (mf_lst ma_nil).val) (mw_or1 (mt_cmp (op_neAll hr.u64) od_ne (me_call D_way_of.ok (hr.mono (by decide)) D_way_of.g D_way_of.kp (D_way_of.bs [] (by simp)) .nil (fun _ => dvs0) (ma_cons (me_var 6) (ma_cons (me_var 20) (ma_cons (me_var 7) ma_nil)))) (me_tup (ma_cons (me_tup (ma_cons me_int (ma_cons (me_var 6) ma_nil))) ma_nil))))).pt (mb_one (ms_ret me_bl)) mb_nil) (mb_cons (ms_asg (me_callM 1 D__law_drawn_log.ok (hr.mono (by decide)) D__law_drawn_log.g D__law_drawn_log.kp (D__law_drawn_log.bs [] (by simp)) .nil (fun _ => dvs0) (ma_cons (me_bin op_addAll od_add me_int (me_callM 1 D__law_draw.ok (hr.mono (by decide)) D__law_draw.g D__law_draw.kp (D__law_draw.bs [] (by simp)) .nil (fun _ => dvs0) (ma_cons me_int ma_nil))) (ma_cons (me_var 3) (ma_cons (me_var 4) (ma_cons me_int ma_nil))))) (mg_name 21 hN)) (mb_cons (ms_asg (me_call D__law_beside.ok (hr.mono (by decide)) D__law_beside.g D__law_beside.kp (D__law_beside.bs [] (by simp)) .nil (fun _ => dvs0) (ma_cons (me_var 5) (ma_cons (me_var 21) ma_nil))) (mg_name 22 hN)) (mb_cons (ms_if (mw_or (mt_cmp op_isNotA od_isNot (me_call D_is_log.ok (hr.mono (by decide)) D_is_log.g D_is_log.kp (D_is_log.bs [] (by simp)) .nil (fun _ => dvs0) (ma_cons (me_var 22) ma_nil)) me_bl) (mw_or1 (mt_not (mt_val (me_call D__law_same.ok (hr.mono (by decide)) D__law_same.g D__law_same.kp (D__law_same.bs [] (by simp)) .nil (fun _ => dvs0) (ma_cons (me_call D_counts_behind.ok (hr.mono (by decide)) D_counts_behind.g D_counts_behind.kp (D_counts_behind.bs [] (by simp)) .nil (fun _ => dvs0) (ma_cons (me_var 6) (ma_cons (me_var 22) ma_nil))) (ma_cons (me_call D__law_sum.ok (hr.mono (by decide)) D__law_sum.g D__law_sum.kp (D__law_sum.bs [] (by simp)) .nil (fun _ => dvs0) (ma_cons (me_call D_counts_behind.ok (hr.mono (by decide)) D_counts_behind.g D_counts_behind.kp (D_counts_behind.bs [] (by simp)) .nil (fun _ => dvs0) (ma_cons (me_var 6) (ma_cons (me_var 5) ma_nil))) (ma_cons (me_call D_counts_behind.ok (hr.mono (by decide)) D_counts_behind.g D_counts_behind.kp (D_counts_behind.bs [] (by simp)) .nil (fun _ => dvs0) (ma_cons (me_var 6) (ma_cons (me_var 21) ma_nil))) ma_nil))) ma_nil))))))).pt (mb_one (ms_ret me_bl)) mb_nil) (mb_cons (ms_if (mw_or (mt_cmp (op_neAll hr.u64) od_ne (me_call D_states_behind.ok (hr.mono (by decide)) D_states_behind.g D_states_behind.kp (D_states_behind.bs [] (by simp)) .nil (fun _ => dvs0) (ma_cons (me_var 6) (ma_cons (me_var 22) ma_nil))) (me_bin op_addAll od_add (me_call D_states_behind.ok (hr.mono (by decide)) D_states_behind.g D_states_behind.kp (D_states_behind.bs [] (by simp)) .nil (fun _ => dvs0) (ma_cons (me_var 6) (ma_cons (me_var 5) ma_nil))) (me_call D_states_behind.ok (hr.mono (by decide)) D_states_behind.g D_states_behind.kp (D_states_behind.bs [] (by simp)) .nil (fun _ => dvs0) (ma_cons (me_var 6) (ma_cons (me_var 21) ma_nil))))) (mw_or1 (mt_cmp (op_neAll hr.u64) od_ne (me_call D_quiet_hands.ok (hr.mono (by decide)) D_quiet_hands.g D_quiet_hands.kp (D_quiet_hands.bs [] (by simp)) .nil (fun _ => dvs0) (ma_cons (me_var 22) ma_nil)) (me_bin op_addAll od_add (me_call D_quiet_hands.ok (hr.mono (by decide)) D_quiet_hands.g D_quiet_hands.kp (D_quiet_hands.bs [] (by simp)) .nil (fun _ => dvs0) (ma_cons (me_var 5) ma_nil)) (me_callTyL call_tupOf cl_tup boot_tuple E.n_tuple (mf_lcD [("hand", 14)] hN (mi_seq (me_call D_quiet_hands.ok (hr.mono (by decide)) D_quiet_hands.g D_quiet_hands.kp (D_quiet_hands.bs [] (by simp)) .nil (fun _ => dvs0) (ma_cons (me_var 21) ma_nil))) rfl (fun s H C cl fp => (mg_name 14 hN)) (fun s H C cl fp => mts_nil) (fun s H C cl fp => (me_bin op_addAll od_add (me_var 14) (me_var 7)))).list))))).pt (mb_one (ms_ret me_bl)) mb_nil) (mb_cons (ms_if (mt_cmp (op_neAll hr.u64) od_ne (me_callB call_lenA cd_len boot_len E.n_len (ma_cons (me_call D_stops_of.ok (hr.mono (by decide)) D_stops_of.g D_stops_of.kp (D_stops_of.bs [] (by simp)) .nil (fun _ => dvs0) (ma_cons (me_var 22) ma_nil)) ma_nil)) (me_bin op_sub od_sub (me_bin op_addAll od_add (me_callB call_lenA cd_len boot_len E.n_len (ma_cons (me_call D_stops_of.ok (hr.mono (by decide)) D_stops_of.g D_stops_of.kp (D_stops_of.bs [] (by simp)) .nil (fun _ => dvs0) (ma_cons (me_var 5) ma_nil)) ma_nil)) (me_callB call_lenA cd_len boot_len E.n_len (ma_cons (me_call D_stops_of.ok (hr.mono (by decide)) D_stops_of.g D_stops_of.kp (D_stops_of.bs [] (by simp)) .nil (fun _ => dvs0) (ma_cons (me_var 21) ma_nil)) ma_nil))) me_int)) (mb_one (ms_ret me_bl)) mb_nil) (mb_cons (ms_for (mi_seq (mf_lst (ma_cons me_non (ma_cons me_int (ma_cons (me_slice (me_var 8) mo_none (mo_some (me_neg me_int))) (ma_cons (me_bin op_addAll od_add (me_var 8) (me_tup (ma_cons (me_var 7) ma_nil))) (ma_cons (me_bin op_repT od_repT (me_tup (ma_cons me_int ma_nil)) (me_var 7)) (ma_cons (mf_callTy call_lstOf cf_lst boot_list E.n_list (ma_cons (me_var 8) ma_nil)).val (ma_cons (me_if (mt_cmp (op_eqAll hr.u64) od_eq (me_ix (me_var 8) me_int) me_int) (me_bin op_addAll od_add (me_tup (ma_cons me_bl ma_nil)) (me_slice (me_var 8) (mo_some me_int) mo_none)) (me_bin op_addAll od_add (me_tup (ma_cons me_non ma_nil)) (me_slice (me_var 8) (mo_some me_int) mo_none))) ma_nil)))))))).val) (mg_name 23 hN) (mb_one (ms_if (mt_cmp (op_neAll hr.u64) od_ne (me_why (k := 8) 1 (LW _ rfl rfl) LP ⟨LamX.lamS_by rfl, rfl, fun _ _ _ _ _ => rfl⟩ gv rfl hexm hfld hz (hr.mono (by decide)) (fun A outer s H WX f c2 hr => (me_call D_renumbered_log.ok (hr.mono (by decide)) D_renumbered_log.g D_renumbered_log.kp (D_renumbered_log.bs [] (by simp)) .nil (fun _ => dvs0) (ma_cons (me_var 5) (ma_cons (me_var 23) ma_nil))))) (me_tup (ma_cons me_str (ma_cons me_str (ma_cons (me_callB (cr_repr rfl hA hr.u70) cd_repr boot_repr E.n_repr (ma_cons (me_var 23) ma_nil)) ma_nil))))) (mb_one (ms_ret me_bl)) mb_nil))) (mb_one (ms_if (mt_cmp (op_neAll hr.u64) od_ne (me_why (k := 8) 1 (LW _ rfl rfl) LP ⟨LamX.lamS_by rfl, rfl, fun _ _ _ _ _ => rfl⟩ gv rfl hexm hfld hz (hr.mono (by decide)) (fun A outer s H WX f c2 hr => (me_call D_renumbered_log.ok (hr.mono (by decide)) D_renumbered_log.g D_renumbered_log.kp (D_renumbered_log.bs [] (by simp)) .nil (fun _ => dvs0) (ma_cons (me_slice (me_var 5) (mo_some me_int) mo_none) (ma_cons me_non ma_nil))))) (me_tup (ma_cons me_str (ma_cons me_str (ma_cons (me_callB (cr_repr rfl hA hr.u70) cd_repr boot_repr E.n_repr (ma_cons (me_slice (me_var 5) (mo_some me_int) mo_none) ma_nil)) ma_nil))))) (mb_one (ms_ret me_bl)) mb_nil))))))))))))))))))))))))))) (mb_one (ms_ret me_bl)))⟩
end K60
end
section
set_option Elab.async false
set_option linter.all false
set_option maxRecDepth 100000
set_option maxHeartbeats 4000000
namespace K60
open PySem PySem.Spec L2 Dn PyProof.Rows
def hdFn0 : List He.DefD := [⟨("is_whole", none), "is_whole", "is_whole", defArgs (top 15), defBody (top 15), defScope (top 15), [.non], []⟩, ⟨("is_name", none), "is_name", "is_name", defArgs (top 20), defBody (top 20), defScope (top 20), [], []⟩, ⟨("is_head", none), "is_head", "is_head", defArgs (top 24), defBody (top 24), defScope (top 24), [], []⟩, ⟨("Order", some "is_hand"), "is_hand", "Order.is_hand", defArgs (mtd (top 25) 1), defBody (mtd (top 25) 1), defScope (mtd (top 25) 1), [], []⟩, ⟨("Order", some "can_hear"), "can_hear", "Order.can_hear", defArgs (mtd (top 25) 2), defBody (mtd (top 25) 2), defScope (mtd (top 25) 2), [], []⟩, ⟨("Order", some "is_event"), "is_event", "Order.is_event", defArgs (mtd (top 25) 4), defBody (mtd (top 25) 4), defScope (mtd (top 25) 4), [], []⟩, ⟨("Order", some "take"), "take", "Order.take", defArgs (mtd (top 25) 5), defBody (mtd (top 25) 5), defScope (mtd (top 25) 5), [], []⟩, ⟨("Order", some "__init__"), "__init__", "Order.__init__", defArgs (mtd (top 25) 0), defBody (mtd (top 25) 0), defScope (mtd (top 25) 0), [], []⟩, ⟨("changes_by", none), "changes_by", "changes_by", defArgs (top 29), defBody (top 29), defScope (top 29), [], []⟩, ⟨("turned", none), "turned", "turned", defArgs (top 41), defBody (top 41), defScope (top 41), [], []⟩]
def hdFn1 : List He.DefD := [⟨("is_log", none), "is_log", "is_log", defArgs (top 26), defBody (top 26), defScope (top 26), [], []⟩, ⟨("need_log", none), "need_log", "need_log", defArgs (top 27), defBody (top 27), defScope (top 27), [], []⟩, ⟨("need_begin", none), "need_begin", "need_begin", defArgs (top 30), defBody (top 30), defScope (top 30), [], []⟩, ⟨("states_by", none), "states_by", "states_by", defArgs (top 31), defBody (top 31), defScope (top 31), [], []⟩, ⟨("states_behind", none), "states_behind", "states_behind", defArgs (top 32), defBody (top 32), defScope (top 32), [], []⟩, ⟨("counted", none), "counted", "counted", defArgs (top 33), defBody (top 33), defScope (top 33), [], []⟩, ⟨("counts_behind", none), "counts_behind", "counts_behind", defArgs (top 34), defBody (top 34), defScope (top 34), [], []⟩, ⟨("stops_by", none), "stops_by", "stops_by", defArgs (top 35), defBody (top 35), defScope (top 35), [], []⟩, ⟨("stops_of", none), "stops_of", "stops_of", defArgs (top 36), defBody (top 36), defScope (top 36), [], []⟩, ⟨("counts_along", none), "counts_along", "counts_along", defArgs (top 37), defBody (top 37), defScope (top 37), [], []⟩]
def hdFn2 : List He.DefD := [⟨("need_hand", none), "need_hand", "need_hand", defArgs (top 38), defBody (top 38), defScope (top 38), [], []⟩, ⟨("way_of", none), "way_of", "way_of", defArgs (top 39), defBody (top 39), defScope (top 39), [], []⟩, ⟨("heard_of", none), "heard_of", "heard_of", defArgs (top 40), defBody (top 40), defScope (top 40), [], []⟩, ⟨("renumbered_log", none), "renumbered_log", "renumbered_log", defArgs (top 42), defBody (top 42), defScope (top 42), [], []⟩, ⟨("quiet_hands", none), "quiet_hands", "quiet_hands", defArgs (top 43), defBody (top 43), defScope (top 43), [], []⟩, ⟨("_law_draw", none), "_law_draw", "_law_draw", defArgs (top 46), defBody (top 46), defScope (top 46), [], []⟩, ⟨("_law_pick", none), "_law_pick", "_law_pick", defArgs (top 47), defBody (top 47), defScope (top 47), [], []⟩, ⟨("_law_shuffled", none), "_law_shuffled", "_law_shuffled", defArgs (top 48), defBody (top 48), defScope (top 48), [], []⟩, ⟨("_law_name", none), "_law_name", "_law_name", defArgs (top 49), defBody (top 49), defScope (top 49), [], []⟩, ⟨("_law_names", none), "_law_names", "_law_names", defArgs (top 50), defBody (top 50), defScope (top 50), [], []⟩]
def hdFn3 : List He.DefD := [⟨("_law_in_numbers", none), "_law_in_numbers", "_law_in_numbers", defArgs (top 54), defBody (top 54), defScope (top 54), [], []⟩, ⟨("_law_beside", none), "_law_beside", "_law_beside", defArgs (top 55), defBody (top 55), defScope (top 55), [], []⟩, ⟨("_law_sum", none), "_law_sum", "_law_sum", defArgs (top 56), defBody (top 56), defScope (top 56), [], []⟩, ⟨("_law_drawn_log", none), "_law_drawn_log", "_law_drawn_log", defArgs (top 53), defBody (top 53), defScope (top 53), [], []⟩, ⟨("_law_same", none), "_law_same", "_law_same", defArgs (top 51), defBody (top 51), defScope (top 51), [], []⟩, ⟨("_law_pen", none), "_law_pen", "_law_pen", defArgs (top 45), defBody (top 45), defScope (top 45), [], []⟩, ⟨("_law_why", none), "_law_why", "_law_why", defArgs (top 52), defBody (top 52), defScope (top 52), [], []⟩, ⟨("law", none), "law", "law", defArgs (top 57), defBody (top 57), defScope (top 57), [], []⟩, ⟨("BadRow", some "__init__"), "__init__", "BadRow.__init__", defArgs (mtd (top 8) 0), defBody (mtd (top 8) 0), defScope (mtd (top 8) 0), [], []⟩, ⟨("BadName", some "__init__"), "__init__", "BadName.__init__", defArgs (mtd (top 6) 0), defBody (mtd (top 6) 0), defScope (mtd (top 6) 0), [], []⟩]
def hdFn4 : List He.DefD := [⟨("BadNumber", some "__init__"), "__init__", "BadNumber.__init__", defArgs (mtd (top 7) 0), defBody (mtd (top 7) 0), defScope (mtd (top 7) 0), [], []⟩]
def hdFn : List He.DefD := hdFn0 ++ hdFn1 ++ hdFn2 ++ hdFn3 ++ hdFn4
def hdFa0 : List He.Fa := [.free "isinstance", .free "int", .free "bool", .free "str", .free "tuple", .free "list", .free "len", .free "all", .free "range", .free "sorted"]
def hdFa1 : List He.Fa := [.free "set", .free "zip", .free "enumerate", .free "repr", .int "LONGEST" 12, .int "MOST_SIZE" 30, .str "FIGURES" "0123456789", .str "LETTERS" "abcdefghijklmnopqrstuvwxyz", .cls "Order", .noat "Order" "size"]
def hdFa2 : List He.Fa := [.noat "Order" "shouter", .noat "Order" "letter", .noat "Order" "last", .meth "Order" "is_hand", .meth "Order" "can_hear", .meth "Order" "is_event", .meth "Order" "take", .mkr "Order", .glo "is_whole", .glo "is_name"]
def hdFa3 : List He.Fa := [.glo "is_head", .glo "changes_by", .glo "turned", .glo "is_log", .glo "need_log", .glo "need_begin", .glo "states_by", .glo "states_behind", .glo "counted", .glo "counts_behind"]
def hdFa4 : List He.Fa := [.glo "stops_by", .glo "stops_of", .glo "counts_along", .glo "need_hand", .glo "way_of", .glo "heard_of", .glo "renumbered_log", .glo "quiet_hands", .glo "_law_draw", .glo "_law_pick"]
def hdFa5 : List He.Fa := [.glo "_law_shuffled", .glo "_law_name", .glo "_law_names", .glo "_law_in_numbers", .glo "_law_beside", .glo "_law_sum", .glo "_law_drawn_log", .glo "_law_same", .glo "_law_pen", .glo "_law_why"]
def hdFa6 : List He.Fa := [.glo "law", .glo "Order", .glo "SIZES", .exm "BadRow" "BadRow" true, .exm "BadRow" "BadName" false, .exm "BadRow" "BadNumber" false, .exm "BadRow" "BadText" false, .exm "BadRow" "Misread" false, .exm "BadRow" "Misplaced" false, .exm "BadRow" "NoName" false]
def hdFa7 : List He.Fa := [.exm "BadRow" "TakenName" false, .exm "BadRow" "Unlike" false, .exm "BadRow" "NotThere" false, .exm "BadRow" "TooMany" false, .exm "BadName" "BadRow" false, .exm "BadName" "BadName" true, .exm "BadName" "BadNumber" false, .exm "BadName" "BadText" false, .exm "BadName" "Misread" false, .exm "BadName" "Misplaced" false]
def hdFa8 : List He.Fa := [.exm "BadName" "NoName" false, .exm "BadName" "TakenName" false, .exm "BadName" "Unlike" false, .exm "BadName" "NotThere" false, .exm "BadName" "TooMany" false, .exm "BadNumber" "BadRow" false, .exm "BadNumber" "BadName" false, .exm "BadNumber" "BadNumber" true, .exm "BadNumber" "BadText" false, .exm "BadNumber" "Misread" false]
def hdFa9 : List He.Fa := [.exm "BadNumber" "Misplaced" false, .exm "BadNumber" "NoName" false, .exm "BadNumber" "TakenName" false, .exm "BadNumber" "Unlike" false, .exm "BadNumber" "NotThere" false, .exm "BadNumber" "TooMany" false, .exm "BadText" "BadRow" false, .exm "BadText" "BadName" false, .exm "BadText" "BadNumber" false, .exm "BadText" "BadText" true]
def hdFa10 : List He.Fa := [.exm "BadText" "Misread" false, .exm "BadText" "Misplaced" false, .exm "BadText" "NoName" false, .exm "BadText" "TakenName" false, .exm "BadText" "Unlike" false, .exm "BadText" "NotThere" false, .exm "BadText" "TooMany" false, .exm "Misread" "BadRow" false, .exm "Misread" "BadName" false, .exm "Misread" "BadNumber" false]
def hdFa11 : List He.Fa := [.exm "Misread" "BadText" false, .exm "Misread" "Misread" true, .exm "Misread" "Misplaced" false, .exm "Misread" "NoName" false, .exm "Misread" "TakenName" false, .exm "Misread" "Unlike" false, .exm "Misread" "NotThere" false, .exm "Misread" "TooMany" false, .exm "Misplaced" "BadRow" false, .exm "Misplaced" "BadName" false]
def hdFa12 : List He.Fa := [.exm "Misplaced" "BadNumber" false, .exm "Misplaced" "BadText" false, .exm "Misplaced" "Misread" false, .exm "Misplaced" "Misplaced" true, .exm "Misplaced" "NoName" false, .exm "Misplaced" "TakenName" false, .exm "Misplaced" "Unlike" false, .exm "Misplaced" "NotThere" false, .exm "Misplaced" "TooMany" false, .exm "NoName" "BadRow" false]
def hdFa13 : List He.Fa := [.exm "NoName" "BadName" false, .exm "NoName" "BadNumber" false, .exm "NoName" "BadText" false, .exm "NoName" "Misread" false, .exm "NoName" "Misplaced" false, .exm "NoName" "NoName" true, .exm "NoName" "TakenName" false, .exm "NoName" "Unlike" false, .exm "NoName" "NotThere" false, .exm "NoName" "TooMany" false]
def hdFa14 : List He.Fa := [.exm "TakenName" "BadRow" false, .exm "TakenName" "BadName" false, .exm "TakenName" "BadNumber" false, .exm "TakenName" "BadText" false, .exm "TakenName" "Misread" false, .exm "TakenName" "Misplaced" false, .exm "TakenName" "NoName" false, .exm "TakenName" "TakenName" true, .exm "TakenName" "Unlike" false, .exm "TakenName" "NotThere" false]
def hdFa15 : List He.Fa := [.exm "TakenName" "TooMany" false, .exm "Unlike" "BadRow" false, .exm "Unlike" "BadName" false, .exm "Unlike" "BadNumber" false, .exm "Unlike" "BadText" false, .exm "Unlike" "Misread" false, .exm "Unlike" "Misplaced" false, .exm "Unlike" "NoName" false, .exm "Unlike" "TakenName" false, .exm "Unlike" "Unlike" true]
def hdFa16 : List He.Fa := [.exm "Unlike" "NotThere" false, .exm "Unlike" "TooMany" false, .exm "NotThere" "BadRow" false, .exm "NotThere" "BadName" false, .exm "NotThere" "BadNumber" false, .exm "NotThere" "BadText" false, .exm "NotThere" "Misread" false, .exm "NotThere" "Misplaced" false, .exm "NotThere" "NoName" false, .exm "NotThere" "TakenName" false]
def hdFa17 : List He.Fa := [.exm "NotThere" "Unlike" false, .exm "NotThere" "NotThere" true, .exm "NotThere" "TooMany" false, .exm "TooMany" "BadRow" false, .exm "TooMany" "BadName" false, .exm "TooMany" "BadNumber" false, .exm "TooMany" "BadText" false, .exm "TooMany" "Misread" false, .exm "TooMany" "Misplaced" false, .exm "TooMany" "NoName" false]
def hdFa18 : List He.Fa := [.exm "TooMany" "TakenName" false, .exm "TooMany" "Unlike" false, .exm "TooMany" "NotThere" false, .exm "TooMany" "TooMany" true]
def hdFa : List He.Fa := hdFa0 ++ hdFa1 ++ hdFa2 ++ hdFa3 ++ hdFa4 ++ hdFa5 ++ hdFa6 ++ hdFa7 ++ hdFa8 ++ hdFa9 ++ hdFa10 ++ hdFa11 ++ hdFa12 ++ hdFa13 ++ hdFa14 ++ hdFa15 ++ hdFa16 ++ hdFa17 ++ hdFa18
def hdTs : List He.Tab := [(fun K => He.ga K "SIZES", ["meet", "shout", "hear"])]
def hdTf : List He.Defn := [("law", none)]
def sizesV : List (Str × He.Dv) := [("meet", .int 5), ("shout", .int 4), ("hear", .int 4)]
def hdEx (K : PySem.W.Frag) : Bool := (xnB K "BadRow" ["what", "row"] && xnB K "BadName" ["name"] && xnB K "BadNumber" ["what", "number"] && xnB K "BadText" ["line", "word"] && xnB K "Misread" ["line", "column"] && xnB K "Misplaced" ["line", "column", "why", "name"] && xnB K "NoName" ["name"] && xnB K "TakenName" ["name"] && xnB K "Unlike" ["what"] && xnB K "NotThere" ["what"] && xnB K "TooMany" ["what", "many", "limit"]) && (onlyB K (He.ga K "SIZES") (sizesV.map (·.1)) && (He.valsB K (He.ga K "SIZES") sizesV && decide ((He.cT K ("law", none)).2 ≠ 0)))
abbrev hdR : PySem.W.OpenRow := PySem.W.OpenLaw.row PySem.Challenge.rw_howevermany_k60_whole_logs_of_renumbered
abbrev hdQ : Program := PySem.W.view hdR.prog [57]
abbrev hdH : PySem.W.Hook := He.hookX 5 hdFa hdFn hdTs hdTf hdEx
def hdOb (s : PySem.W.SharedT) : He.AlX := He.obsX 5 hdFa hdFn hdTs hdTf hdEx (HandSHeadRun.getT s)
theorem hdOb_eq (s : PySem.W.SharedT) : hdOb s = hdH.obs s.abs := He.obsX_eq (HandSHeadRun.getT_eq s)
def hdN0 : List Str := ["_wall", "CrowdError", "BadText", "Misread", "Misplaced", "BadName", "BadNumber", "BadRow", "NoName", "TakenName"]
def hdN1 : List Str := ["Unlike", "NotThere", "TooMany", "is_whole", "FIGURES", "LETTERS", "LONGEST", "is_name", "MOST_SIZE", "SIZES"]
def hdN2 : List Str := ["is_head", "Order", "is_log", "need_log", "changes_by", "need_begin", "states_by", "states_behind", "counted", "counts_behind"]
def hdN3 : List Str := ["stops_by", "stops_of", "counts_along", "need_hand", "way_of", "heard_of", "turned", "renumbered_log", "quiet_hands", "_law_pen"]
def hdN4 : List Str := ["_law_draw", "_law_pick", "_law_shuffled", "_law_name", "_law_names", "_law_same", "_law_why", "_law_drawn_log", "_law_in_numbers", "_law_beside"]
def hdN5 : List Str := ["_law_sum"]
def hdN : List Str := hdN0 ++ hdN1 ++ hdN2 ++ hdN3 ++ hdN4 ++ hdN5
theorem hdRunF (w : World) : HandSHeadRun.RunEq hdR hdQ hdH hdOb 40000 hdN (w.withFollow "special-get-raises" false) := by
  intro os
  kernel_rfl
theorem hdRunT (w : World) : HandSHeadRun.RunEq hdR hdQ hdH hdOb 40000 hdN (w.withFollow "special-get-raises" true) := by
  intro os
  kernel_rfl
theorem hdRun (w : World) : HandSHeadRun.RunEq hdR hdQ hdH hdOb 40000 hdN w := PySem.W.byRow2 "special-get-raises" (P := fun w => HandSHeadRun.RunEq hdR hdQ hdH hdOb 40000 hdN w) hdRunF hdRunT w
end K60
end
section
set_option Elab.async false
set_option linter.all false
set_option maxRecDepth 100000
set_option maxHeartbeats 4000000
namespace K60
open PySem PySem.Spec L2 Dn PyProof.Rows
def hdC (K : PySem.W.Frag) (n : Nat) : Addr := match n with
  | 0 => He.ga K "BadRow"
  | 1 => He.ga K "BadName"
  | 2 => He.ga K "BadNumber"
  | 3 => He.ga K "BadText"
  | 4 => He.ga K "Misread"
  | 5 => He.ga K "Misplaced"
  | 6 => He.ga K "NoName"
  | 7 => He.ga K "TakenName"
  | 8 => He.ga K "Unlike"
  | 9 => He.ga K "NotThere"
  | 10 => He.ga K "TooMany"
  | 11 => He.ga K "Order"
  | 1000 => (He.cT K ("law", none)).2
  | _ => 0
def hdFl (n : Nat) : List Str := match n with
  | 0 => ["row", "what"]
  | 1 => ["name"]
  | 2 => ["number", "what"]
  | 3 => ["word", "line"]
  | 4 => ["column", "line"]
  | 5 => ["name", "why", "column", "line"]
  | 6 => ["name"]
  | 7 => ["name"]
  | 8 => ["what"]
  | 9 => ["what"]
  | 10 => ["limit", "many", "what"]
  | _ => []
abbrev hdG (K : PySem.W.Frag) : Gm := ⟨K, hdC K, hdFl⟩
abbrev hdP : Program := PySem.Challenge.pw_howevermany_k60_whole_logs_of_renumbered
section
variable {w : World} {h : Heap} {K : PySem.W.Frag} {mg : Str → Option Value} (KX : K.In h) (GN : h.Ns mainGlobals mg) (c : He.SaysX hdFa hdFn hdTs hdTf hdEx w h K)
include KX GN c
omit KX GN in
theorem hdEx_and : (xnB K "BadRow" ["what", "row"] && xnB K "BadName" ["name"] && xnB K "BadNumber" ["what", "number"] && xnB K "BadText" ["line", "word"] && xnB K "Misread" ["line", "column"] && xnB K "Misplaced" ["line", "column", "why", "name"] && xnB K "NoName" ["name"] && xnB K "TakenName" ["name"] && xnB K "Unlike" ["what"] && xnB K "NotThere" ["what"] && xnB K "TooMany" ["what", "many", "limit"]) = true ∧ onlyB K (He.ga K "SIZES") (sizesV.map (·.1)) = true ∧ He.valsB K (He.ga K "SIZES") sizesV = true ∧ (He.cT K ("law", none)).2 ≠ 0 := by
  obtain ⟨h1, h2⟩ := He.ba (show (_ && _) = true from c.more)
  obtain ⟨h3, h4⟩ := He.ba h2
  obtain ⟨h5, h6⟩ := He.ba h4
  exact ⟨h1, h3, h5, of_decide_eq_true h6⟩
theorem xb_BadRow : XnB K mg "BadRow" ["what", "row"] := xnB_ok KX GN (He.ba (He.ba (He.ba (He.ba (He.ba (He.ba (He.ba (He.ba (He.ba (He.ba (hdEx_and c).1).1).1).1).1).1).1).1).1).1).1
theorem wn_BadRow : Wn (hdG K) mg 0 "BadRow" ["what", "row"] := ⟨(xb_BadRow KX GN c).g, (xb_BadRow KX GN c).F, (xb_BadRow KX GN c).no⟩
theorem xb_BadName : XnB K mg "BadName" ["name"] := xnB_ok KX GN (He.ba (He.ba (He.ba (He.ba (He.ba (He.ba (He.ba (He.ba (He.ba (He.ba (hdEx_and c).1).1).1).1).1).1).1).1).1).1).2
theorem wn_BadName : Wn (hdG K) mg 1 "BadName" ["name"] := ⟨(xb_BadName KX GN c).g, (xb_BadName KX GN c).F, (xb_BadName KX GN c).no⟩
theorem xb_BadNumber : XnB K mg "BadNumber" ["what", "number"] := xnB_ok KX GN (He.ba (He.ba (He.ba (He.ba (He.ba (He.ba (He.ba (He.ba (He.ba (hdEx_and c).1).1).1).1).1).1).1).1).1).2
theorem wn_BadNumber : Wn (hdG K) mg 2 "BadNumber" ["what", "number"] := ⟨(xb_BadNumber KX GN c).g, (xb_BadNumber KX GN c).F, (xb_BadNumber KX GN c).no⟩
theorem xb_BadText : XnB K mg "BadText" ["line", "word"] := xnB_ok KX GN (He.ba (He.ba (He.ba (He.ba (He.ba (He.ba (He.ba (He.ba (hdEx_and c).1).1).1).1).1).1).1).1).2
theorem wn_BadText : Wn (hdG K) mg 3 "BadText" ["line", "word"] := ⟨(xb_BadText KX GN c).g, (xb_BadText KX GN c).F, (xb_BadText KX GN c).no⟩
theorem xb_Misread : XnB K mg "Misread" ["line", "column"] := xnB_ok KX GN (He.ba (He.ba (He.ba (He.ba (He.ba (He.ba (He.ba (hdEx_and c).1).1).1).1).1).1).1).2
theorem wn_Misread : Wn (hdG K) mg 4 "Misread" ["line", "column"] := ⟨(xb_Misread KX GN c).g, (xb_Misread KX GN c).F, (xb_Misread KX GN c).no⟩
theorem xb_Misplaced : XnB K mg "Misplaced" ["line", "column", "why", "name"] := xnB_ok KX GN (He.ba (He.ba (He.ba (He.ba (He.ba (He.ba (hdEx_and c).1).1).1).1).1).1).2
theorem wn_Misplaced : Wn (hdG K) mg 5 "Misplaced" ["line", "column", "why", "name"] := ⟨(xb_Misplaced KX GN c).g, (xb_Misplaced KX GN c).F, (xb_Misplaced KX GN c).no⟩
theorem xb_NoName : XnB K mg "NoName" ["name"] := xnB_ok KX GN (He.ba (He.ba (He.ba (He.ba (He.ba (hdEx_and c).1).1).1).1).1).2
theorem wn_NoName : Wn (hdG K) mg 6 "NoName" ["name"] := ⟨(xb_NoName KX GN c).g, (xb_NoName KX GN c).F, (xb_NoName KX GN c).no⟩
theorem xb_TakenName : XnB K mg "TakenName" ["name"] := xnB_ok KX GN (He.ba (He.ba (He.ba (He.ba (hdEx_and c).1).1).1).1).2
theorem wn_TakenName : Wn (hdG K) mg 7 "TakenName" ["name"] := ⟨(xb_TakenName KX GN c).g, (xb_TakenName KX GN c).F, (xb_TakenName KX GN c).no⟩
theorem xb_Unlike : XnB K mg "Unlike" ["what"] := xnB_ok KX GN (He.ba (He.ba (He.ba (hdEx_and c).1).1).1).2
theorem wn_Unlike : Wn (hdG K) mg 8 "Unlike" ["what"] := ⟨(xb_Unlike KX GN c).g, (xb_Unlike KX GN c).F, (xb_Unlike KX GN c).no⟩
theorem xb_NotThere : XnB K mg "NotThere" ["what"] := xnB_ok KX GN (He.ba (He.ba (hdEx_and c).1).1).2
theorem wn_NotThere : Wn (hdG K) mg 9 "NotThere" ["what"] := ⟨(xb_NotThere KX GN c).g, (xb_NotThere KX GN c).F, (xb_NotThere KX GN c).no⟩
theorem xb_TooMany : XnB K mg "TooMany" ["what", "many", "limit"] := xnB_ok KX GN (He.ba (hdEx_and c).1).2
theorem wn_TooMany : Wn (hdG K) mg 10 "TooMany" ["what", "many", "limit"] := ⟨(xb_TooMany KX GN c).g, (xb_TooMany KX GN c).F, (xb_TooMany KX GN c).no⟩
theorem hdGs : Gs w (hdG K) mg where
  n_isinstance := He.free_ok KX GN (c.t.d.fact 0 rfl)
  n_int := He.free_ok KX GN (c.t.d.fact 1 rfl)
  n_bool := He.free_ok KX GN (c.t.d.fact 2 rfl)
  n_str := He.free_ok KX GN (c.t.d.fact 3 rfl)
  n_tuple := He.free_ok KX GN (c.t.d.fact 4 rfl)
  n_list := He.free_ok KX GN (c.t.d.fact 5 rfl)
  n_len := He.free_ok KX GN (c.t.d.fact 6 rfl)
  n_all := He.free_ok KX GN (c.t.d.fact 7 rfl)
  n_range := He.free_ok KX GN (c.t.d.fact 8 rfl)
  n_sorted := He.free_ok KX GN (c.t.d.fact 9 rfl)
  n_set := He.free_ok KX GN (c.t.d.fact 10 rfl)
  n_zip := He.free_ok KX GN (c.t.d.fact 11 rfl)
  n_enumerate := He.free_ok KX GN (c.t.d.fact 12 rfl)
  n_repr := He.free_ok KX GN (c.t.d.fact 13 rfl)
  c_LONGEST := He.int_ok KX GN (c.t.d.fact 14 rfl)
  c_MOST_SIZE := He.int_ok KX GN (c.t.d.fact 15 rfl)
  c_FIGURES := He.str_ok KX GN (c.t.d.fact 16 rfl)
  c_LETTERS := He.str_ok KX GN (c.t.d.fact 17 rfl)
  t_SIZES := ⟨_, He.glo_ok KX GN (c.t.d.fact 62 rfl), tabD_ok (c.t.tab 0 rfl) (hdEx_and c).2.1 (hdEx_and c).2.2.1 rfl⟩
  ob := ⟨He.cls_ok (c.t.d.fact 18 rfl), fun f hf => by
    unfold obF at hf
    simp only [List.mem_cons, List.not_mem_nil, or_false] at hf
    rcases hf with rfl | rfl | rfl | rfl
    · exact He.noat_ok (c.t.d.fact 19 rfl)
    · exact He.noat_ok (c.t.d.fact 20 rfl)
    · exact He.noat_ok (c.t.d.fact 21 rfl)
    · exact He.noat_ok (c.t.d.fact 22 rfl)⟩
  cls := He.cls_ok (c.t.d.fact 18 rfl)
theorem ex_BadRow {base : Heap} : ∃ fI fd, Xn hdP w (hdG K) mg base 0 "BadRow" ["what", "row"] ["self", "what", "row"] fI fd := by
  obtain ⟨fd, F⟩ := c.t.d.def_ 38 rfl
  have B := xb_BadRow KX GN c
  exact ⟨_, fd, B.T, B.i, B.t, fn_init (fl := ["what", "row"]) F ⟨rfl, rfl, rfl, by decide +kernel, rfl, by decide +kernel, by decide +kernel⟩ B.T (by simp) B.no (by decide) (fun cdv A outer s H W hr => (pss_cons (ps_ost (pe_var (i := 0) rfl (Or.inl rfl)) (pe_var (i := 1) rfl (Or.inl rfl))) (pss_one (ps_ost (pe_var (i := 0) rfl (Or.inl rfl)) (pe_var (i := 2) rfl (Or.inl rfl)))))), F.bindsN (fun _ _ _ _ _ _ us hl => match us, hl with | [_, _, _], _ => rfl), B.g, rfl⟩
theorem ex_BadName {base : Heap} : ∃ fI fd, Xn hdP w (hdG K) mg base 1 "BadName" ["name"] ["self", "name"] fI fd := by
  obtain ⟨fd, F⟩ := c.t.d.def_ 39 rfl
  have B := xb_BadName KX GN c
  exact ⟨_, fd, B.T, B.i, B.t, fn_init (fl := ["name"]) F ⟨rfl, rfl, rfl, by decide +kernel, rfl, by decide +kernel, by decide +kernel⟩ B.T (by simp) B.no (by decide) (fun cdv A outer s H W hr => (pss_one (ps_ost (pe_var (i := 0) rfl (Or.inl rfl)) (pe_var (i := 1) rfl (Or.inl rfl))))), F.bindsN (fun _ _ _ _ _ _ us hl => match us, hl with | [_, _], _ => rfl), B.g, rfl⟩
theorem ex_BadNumber {base : Heap} : ∃ fI fd, Xn hdP w (hdG K) mg base 2 "BadNumber" ["what", "number"] ["self", "what", "number"] fI fd := by
  obtain ⟨fd, F⟩ := c.t.d.def_ 40 rfl
  have B := xb_BadNumber KX GN c
  exact ⟨_, fd, B.T, B.i, B.t, fn_init (fl := ["what", "number"]) F ⟨rfl, rfl, rfl, by decide +kernel, rfl, by decide +kernel, by decide +kernel⟩ B.T (by simp) B.no (by decide) (fun cdv A outer s H W hr => (pss_cons (ps_ost (pe_var (i := 0) rfl (Or.inl rfl)) (pe_var (i := 1) rfl (Or.inl rfl))) (pss_one (ps_ost (pe_var (i := 0) rfl (Or.inl rfl)) (pe_var (i := 2) rfl (Or.inl rfl)))))), F.bindsN (fun _ _ _ _ _ _ us hl => match us, hl with | [_, _, _], _ => rfl), B.g, rfl⟩
theorem ef_is_whole {base : Heap} : ∃ fa fd, Fn hdP w (hdG K) mg base "is_whole" 1 ["value", "least", "most"] [[], [.none]] (spP (hdG K) 3 m_is_whole) fa fd := by
  obtain ⟨fd, F⟩ := c.t.d.def_ 0 rfl
  exact ⟨_, fd, He.glo_ok KX GN (c.t.d.fact 28 rfl), F.kp, fun d hd => by
    simp only [List.mem_cons, List.not_mem_nil, or_false] at hd
    rcases hd with rfl | rfl
    · obtain ⟨ds, h1, h2⟩ := F.binds1 (ps := ["value", "least", "most"]) 3 1 (by simp [He.DefD.dvs]) rfl (fun T kV doc pm an cdv ct us its hu hi => match us, hu, its, hi with | [_, _, _], _, [_], _ => ⟨_, rfl, rfl⟩)
      obtain rfl : ds = [] := by
        cases h1; rfl
      exact h2
    · obtain ⟨ds, h1, h2⟩ := F.binds1 (ps := ["value", "least", "most"]) 2 0 (by simp [He.DefD.dvs]) rfl (fun T kV doc pm an cdv ct us its hu hi => match us, hu, its, hi with | [_, _], _, [_], _ => ⟨_, rfl, rfl⟩)
      obtain rfl : ds = [.none] := by
        obtain ⟨u, e, h3⟩ := vals1 (show Vals [V.non] ds from h1)
        rw [e, show u = Value.none from h3]
      exact h2
, fn_den F ⟨rfl, rfl, rfl, by decide +kernel, rfl, by decide +kernel, by decide +kernel⟩ (d_is_whole (hdGs KX GN c) )⟩
theorem ef_is_name {base : Heap} : ∃ fa fd, Fn hdP w (hdG K) mg base "is_name" 1 ["value"] [[]] (spP (hdG K) 1 m_is_name) fa fd := by
  obtain ⟨fd, F⟩ := c.t.d.def_ 1 rfl
  exact ⟨_, fd, He.glo_ok KX GN (c.t.d.fact 29 rfl), F.kp, fun d hd => by
    rw [List.mem_singleton.mp hd]
    exact F.bindsN (fun _ _ _ _ _ _ us hl => match us, hl with | [_], _ => rfl), fn_den F ⟨rfl, rfl, rfl, by decide +kernel, rfl, by decide +kernel, by decide +kernel⟩ (d_is_name (hdGs KX GN c) )⟩
theorem ef_is_head {base : Heap} : ∃ fa fd, Fn hdP w (hdG K) mg base "is_head" 2 ["value"] [[]] (spP (hdG K) 1 m_is_head) fa fd := by
  obtain ⟨fd, F⟩ := c.t.d.def_ 2 rfl
  obtain ⟨_, _, D_is_whole⟩ := ef_is_whole KX GN c (base := base)
  exact ⟨_, fd, He.glo_ok KX GN (c.t.d.fact 30 rfl), F.kp, fun d hd => by
    rw [List.mem_singleton.mp hd]
    exact F.bindsN (fun _ _ _ _ _ _ us hl => match us, hl with | [_], _ => rfl), fn_den F ⟨rfl, rfl, rfl, by decide +kernel, rfl, by decide +kernel, by decide +kernel⟩ (d_is_head (hdGs KX GN c) D_is_whole)⟩
theorem ef_Order_is_hand {base : Heap} : ∃ fa fd, Mn hdP w (hdG K) mg base 11 "is_hand" 2 ["self", "value"] [[]] (spM (hdG K) 1 m_Order_is_hand) fa fd := by
  obtain ⟨fd, F⟩ := c.t.d.def_ 3 rfl
  obtain ⟨_, _, D_is_whole⟩ := ef_is_whole KX GN c (base := base)
  exact ⟨_, fd, He.meth_ok (c.t.d.fact 23 rfl), fun d hd => by
    rw [List.mem_singleton.mp hd]
    exact F.bindsN (fun _ _ _ _ _ _ us hl => match us, hl with | [_, _], _ => rfl), fn_denM rfl F ⟨rfl, rfl, rfl, by decide +kernel, rfl, by decide +kernel, by decide +kernel⟩ (d_Order_is_hand (hdGs KX GN c) D_is_whole)⟩
theorem ef_Order_can_hear {base : Heap} : ∃ fa fd, Mn hdP w (hdG K) mg base 11 "can_hear" 3 ["self", "hand"] [[]] (spM (hdG K) 1 m_Order_can_hear) fa fd := by
  obtain ⟨fd, F⟩ := c.t.d.def_ 4 rfl
  obtain ⟨_, _, D_Order_is_hand⟩ := ef_Order_is_hand KX GN c (base := base)
  exact ⟨_, fd, He.meth_ok (c.t.d.fact 24 rfl), fun d hd => by
    rw [List.mem_singleton.mp hd]
    exact F.bindsN (fun _ _ _ _ _ _ us hl => match us, hl with | [_, _], _ => rfl), fn_denM rfl F ⟨rfl, rfl, rfl, by decide +kernel, rfl, by decide +kernel, by decide +kernel⟩ (d_Order_can_hear (hdGs KX GN c) D_Order_is_hand)⟩
theorem ef_Order_is_event {base : Heap} : ∃ fa fd, Mn hdP w (hdG K) mg base 11 "is_event" 4 ["self", "value"] [[]] (spM (hdG K) 1 m_Order_is_event) fa fd := by
  obtain ⟨fd, F⟩ := c.t.d.def_ 5 rfl
  obtain ⟨_, _, D_Order_is_hand⟩ := ef_Order_is_hand KX GN c (base := base)
  obtain ⟨_, _, D_is_name⟩ := ef_is_name KX GN c (base := base)
  obtain ⟨_, _, D_Order_can_hear⟩ := ef_Order_can_hear KX GN c (base := base)
  exact ⟨_, fd, He.meth_ok (c.t.d.fact 25 rfl), fun d hd => by
    rw [List.mem_singleton.mp hd]
    exact F.bindsN (fun _ _ _ _ _ _ us hl => match us, hl with | [_, _], _ => rfl), fn_denM rfl F ⟨rfl, rfl, rfl, by decide +kernel, rfl, by decide +kernel, by decide +kernel⟩ (d_Order_is_event (hdGs KX GN c) D_Order_is_hand D_is_name D_Order_can_hear)⟩
theorem ef_Order_take {base : Heap} : ∃ fa fd, Mn hdP w (hdG K) mg base 11 "take" 1 ["self", "event"] [[]] (spM (hdG K) 1 m_Order_take) fa fd := by
  obtain ⟨fd, F⟩ := c.t.d.def_ 6 rfl
  exact ⟨_, fd, He.meth_ok (c.t.d.fact 26 rfl), fun d hd => by
    rw [List.mem_singleton.mp hd]
    exact F.bindsN (fun _ _ _ _ _ _ us hl => match us, hl with | [_, _], _ => rfl), fn_denM rfl F ⟨rfl, rfl, rfl, by decide +kernel, rfl, by decide +kernel, by decide +kernel⟩ (d_Order_take (hdGs KX GN c) )⟩
theorem ef_Order___init__ {base : Heap} : ∃ fa fd, In hdP w (hdG K) mg base 11 "Order" 1 ["self", "size"] [[]] (spM (hdG K) 1 m_Order___init__) fa fd := by
  obtain ⟨fd, F⟩ := c.t.d.def_ 7 rfl
  exact ⟨_, fd, He.glo_ok KX GN (c.t.d.fact 61 rfl), He.mkr_ok (c.t.d.fact 27 rfl), fun d hd => by
    rw [List.mem_singleton.mp hd]
    exact F.bindsN (fun _ _ _ _ _ _ us hl => match us, hl with | [_, _], _ => rfl), fn_denM rfl F ⟨rfl, rfl, rfl, by decide +kernel, rfl, by decide +kernel, by decide +kernel⟩ (d_Order___init__ (hdGs KX GN c) )⟩
theorem ef_changes_by {base : Heap} : ∃ fa fd, Fn hdP w (hdG K) mg base "changes_by" 1 ["event"] [[]] (spP (hdG K) 1 m_changes_by) fa fd := by
  obtain ⟨fd, F⟩ := c.t.d.def_ 8 rfl
  exact ⟨_, fd, He.glo_ok KX GN (c.t.d.fact 31 rfl), F.kp, fun d hd => by
    rw [List.mem_singleton.mp hd]
    exact F.bindsN (fun _ _ _ _ _ _ us hl => match us, hl with | [_], _ => rfl), fn_den F ⟨rfl, rfl, rfl, by decide +kernel, rfl, by decide +kernel, by decide +kernel⟩ (d_changes_by (hdGs KX GN c) )⟩
theorem ef_turned {base : Heap} : ∃ fa fd, Fn hdP w (hdG K) mg base "turned" 1 ["event", "order"] [[]] (spP (hdG K) 2 m_turned) fa fd := by
  obtain ⟨fd, F⟩ := c.t.d.def_ 9 rfl
  exact ⟨_, fd, He.glo_ok KX GN (c.t.d.fact 32 rfl), F.kp, fun d hd => by
    rw [List.mem_singleton.mp hd]
    exact F.bindsN (fun _ _ _ _ _ _ us hl => match us, hl with | [_, _], _ => rfl), fn_den F ⟨rfl, rfl, rfl, by decide +kernel, rfl, by decide +kernel, by decide +kernel⟩ (d_turned (hdGs KX GN c) )⟩
theorem ef_is_log {base : Heap} : ∃ fa fd, Fn hdP w (hdG K) mg base "is_log" 5 ["value"] [[]] (spP (hdG K) 1 m_is_log) fa fd := by
  obtain ⟨fd, F⟩ := c.t.d.def_ 10 rfl
  obtain ⟨_, _, D_is_head⟩ := ef_is_head KX GN c (base := base)
  obtain ⟨_, _, D_Order___init__⟩ := ef_Order___init__ KX GN c (base := base)
  obtain ⟨_, _, D_Order_is_event⟩ := ef_Order_is_event KX GN c (base := base)
  obtain ⟨_, _, D_Order_take⟩ := ef_Order_take KX GN c (base := base)
  exact ⟨_, fd, He.glo_ok KX GN (c.t.d.fact 33 rfl), F.kp, fun d hd => by
    rw [List.mem_singleton.mp hd]
    exact F.bindsN (fun _ _ _ _ _ _ us hl => match us, hl with | [_], _ => rfl), fn_den F ⟨rfl, rfl, rfl, by decide +kernel, rfl, by decide +kernel, by decide +kernel⟩ (d_is_log (hdGs KX GN c) D_is_head D_Order___init__ D_Order_is_event D_Order_take)⟩
theorem ef_need_log {base : Heap} : ∃ fa fd, Fn hdP w (hdG K) mg base "need_log" 6 ["log"] [[]] (spP (hdG K) 1 m_need_log) fa fd := by
  obtain ⟨fd, F⟩ := c.t.d.def_ 11 rfl
  obtain ⟨_, _, D_is_log⟩ := ef_is_log KX GN c (base := base)
  obtain ⟨_, _, x_BadRow⟩ := ex_BadRow KX GN c (base := base)
  exact ⟨_, fd, He.glo_ok KX GN (c.t.d.fact 34 rfl), F.kp, fun d hd => by
    rw [List.mem_singleton.mp hd]
    exact F.bindsN (fun _ _ _ _ _ _ us hl => match us, hl with | [_], _ => rfl), fn_den F ⟨rfl, rfl, rfl, by decide +kernel, rfl, by decide +kernel, by decide +kernel⟩ (d_need_log (hdGs KX GN c) D_is_log x_BadRow)⟩
theorem ef_need_begin {base : Heap} : ∃ fa fd, Fn hdP w (hdG K) mg base "need_begin" 7 ["begin", "log"] [[]] (spP (hdG K) 2 m_need_begin) fa fd := by
  obtain ⟨fd, F⟩ := c.t.d.def_ 12 rfl
  obtain ⟨_, _, D_is_name⟩ := ef_is_name KX GN c (base := base)
  obtain ⟨_, _, D_need_log⟩ := ef_need_log KX GN c (base := base)
  obtain ⟨_, _, x_BadName⟩ := ex_BadName KX GN c (base := base)
  exact ⟨_, fd, He.glo_ok KX GN (c.t.d.fact 35 rfl), F.kp, fun d hd => by
    rw [List.mem_singleton.mp hd]
    exact F.bindsN (fun _ _ _ _ _ _ us hl => match us, hl with | [_, _], _ => rfl), fn_den F ⟨rfl, rfl, rfl, by decide +kernel, rfl, by decide +kernel, by decide +kernel⟩ (d_need_begin (hdGs KX GN c) D_is_name D_need_log x_BadName)⟩
theorem ef_states_by {base : Heap} : ∃ fa fd, Fn hdP w (hdG K) mg base "states_by" 2 ["begin", "log"] [[]] (spP (hdG K) 2 m_states_by) fa fd := by
  obtain ⟨fd, F⟩ := c.t.d.def_ 13 rfl
  obtain ⟨_, _, D_changes_by⟩ := ef_changes_by KX GN c (base := base)
  exact ⟨_, fd, He.glo_ok KX GN (c.t.d.fact 36 rfl), F.kp, fun d hd => by
    rw [List.mem_singleton.mp hd]
    exact F.bindsN (fun _ _ _ _ _ _ us hl => match us, hl with | [_, _], _ => rfl), fn_den F ⟨rfl, rfl, rfl, by decide +kernel, rfl, by decide +kernel, by decide +kernel⟩ (d_states_by (hdGs KX GN c) D_changes_by)⟩
theorem ef_states_behind {base : Heap} : ∃ fa fd, Fn hdP w (hdG K) mg base "states_behind" 8 ["begin", "log"] [[]] (spP (hdG K) 2 m_states_behind) fa fd := by
  obtain ⟨fd, F⟩ := c.t.d.def_ 14 rfl
  obtain ⟨_, _, D_need_begin⟩ := ef_need_begin KX GN c (base := base)
  obtain ⟨_, _, D_states_by⟩ := ef_states_by KX GN c (base := base)
  exact ⟨_, fd, He.glo_ok KX GN (c.t.d.fact 37 rfl), F.kp, fun d hd => by
    rw [List.mem_singleton.mp hd]
    exact F.bindsN (fun _ _ _ _ _ _ us hl => match us, hl with | [_, _], _ => rfl), fn_den F ⟨rfl, rfl, rfl, by decide +kernel, rfl, by decide +kernel, by decide +kernel⟩ (d_states_behind (hdGs KX GN c) D_need_begin D_states_by)⟩
theorem ef_counted {base : Heap} : ∃ fa fd, Fn hdP w (hdG K) mg base "counted" 1 ["states"] [[]] (spP (hdG K) 1 m_counted) fa fd := by
  obtain ⟨fd, F⟩ := c.t.d.def_ 15 rfl
  exact ⟨_, fd, He.glo_ok KX GN (c.t.d.fact 38 rfl), F.kp, fun d hd => by
    rw [List.mem_singleton.mp hd]
    exact F.bindsN (fun _ _ _ _ _ _ us hl => match us, hl with | [_], _ => rfl), fn_den F ⟨rfl, rfl, rfl, by decide +kernel, rfl, by decide +kernel, by decide +kernel⟩ (d_counted (hdGs KX GN c) )⟩
theorem ef_counts_behind {base : Heap} : ∃ fa fd, Fn hdP w (hdG K) mg base "counts_behind" 8 ["begin", "log"] [[]] (spP (hdG K) 2 m_counts_behind) fa fd := by
  obtain ⟨fd, F⟩ := c.t.d.def_ 16 rfl
  obtain ⟨_, _, D_need_begin⟩ := ef_need_begin KX GN c (base := base)
  obtain ⟨_, _, D_counted⟩ := ef_counted KX GN c (base := base)
  obtain ⟨_, _, D_states_by⟩ := ef_states_by KX GN c (base := base)
  exact ⟨_, fd, He.glo_ok KX GN (c.t.d.fact 39 rfl), F.kp, fun d hd => by
    rw [List.mem_singleton.mp hd]
    exact F.bindsN (fun _ _ _ _ _ _ us hl => match us, hl with | [_, _], _ => rfl), fn_den F ⟨rfl, rfl, rfl, by decide +kernel, rfl, by decide +kernel, by decide +kernel⟩ (d_counts_behind (hdGs KX GN c) D_need_begin D_counted D_states_by)⟩
theorem ef_stops_by {base : Heap} : ∃ fa fd, Fn hdP w (hdG K) mg base "stops_by" 1 ["log"] [[]] (spP (hdG K) 1 m_stops_by) fa fd := by
  obtain ⟨fd, F⟩ := c.t.d.def_ 17 rfl
  exact ⟨_, fd, He.glo_ok KX GN (c.t.d.fact 40 rfl), F.kp, fun d hd => by
    rw [List.mem_singleton.mp hd]
    exact F.bindsN (fun _ _ _ _ _ _ us hl => match us, hl with | [_], _ => rfl), fn_den F ⟨rfl, rfl, rfl, by decide +kernel, rfl, by decide +kernel, by decide +kernel⟩ (d_stops_by (hdGs KX GN c) )⟩
theorem ef_stops_of {base : Heap} : ∃ fa fd, Fn hdP w (hdG K) mg base "stops_of" 7 ["log"] [[]] (spP (hdG K) 1 m_stops_of) fa fd := by
  obtain ⟨fd, F⟩ := c.t.d.def_ 18 rfl
  obtain ⟨_, _, D_need_log⟩ := ef_need_log KX GN c (base := base)
  obtain ⟨_, _, D_stops_by⟩ := ef_stops_by KX GN c (base := base)
  exact ⟨_, fd, He.glo_ok KX GN (c.t.d.fact 41 rfl), F.kp, fun d hd => by
    rw [List.mem_singleton.mp hd]
    exact F.bindsN (fun _ _ _ _ _ _ us hl => match us, hl with | [_], _ => rfl), fn_den F ⟨rfl, rfl, rfl, by decide +kernel, rfl, by decide +kernel, by decide +kernel⟩ (d_stops_of (hdGs KX GN c) D_need_log D_stops_by)⟩
theorem ef_counts_along {base : Heap} : ∃ fa fd, Fn hdP w (hdG K) mg base "counts_along" 8 ["begin", "log"] [[]] (spP (hdG K) 2 m_counts_along) fa fd := by
  obtain ⟨fd, F⟩ := c.t.d.def_ 19 rfl
  obtain ⟨_, _, D_need_begin⟩ := ef_need_begin KX GN c (base := base)
  obtain ⟨_, _, D_stops_by⟩ := ef_stops_by KX GN c (base := base)
  obtain ⟨_, _, D_counted⟩ := ef_counted KX GN c (base := base)
  obtain ⟨_, _, D_states_by⟩ := ef_states_by KX GN c (base := base)
  exact ⟨_, fd, He.glo_ok KX GN (c.t.d.fact 42 rfl), F.kp, fun d hd => by
    rw [List.mem_singleton.mp hd]
    exact F.bindsN (fun _ _ _ _ _ _ us hl => match us, hl with | [_, _], _ => rfl), fn_den F ⟨rfl, rfl, rfl, by decide +kernel, rfl, by decide +kernel, by decide +kernel⟩ (d_counts_along (hdGs KX GN c) D_need_begin D_stops_by D_counted D_states_by)⟩
theorem ef_need_hand {base : Heap} : ∃ fa fd, Fn hdP w (hdG K) mg base "need_hand" 3 ["log", "hand"] [[]] (spP (hdG K) 2 m_need_hand) fa fd := by
  obtain ⟨fd, F⟩ := c.t.d.def_ 20 rfl
  obtain ⟨_, _, D_is_whole⟩ := ef_is_whole KX GN c (base := base)
  obtain ⟨_, _, x_BadNumber⟩ := ex_BadNumber KX GN c (base := base)
  exact ⟨_, fd, He.glo_ok KX GN (c.t.d.fact 43 rfl), F.kp, fun d hd => by
    rw [List.mem_singleton.mp hd]
    exact F.bindsN (fun _ _ _ _ _ _ us hl => match us, hl with | [_, _], _ => rfl), fn_den F ⟨rfl, rfl, rfl, by decide +kernel, rfl, by decide +kernel, by decide +kernel⟩ (d_need_hand (hdGs KX GN c) D_is_whole x_BadNumber)⟩
theorem ef_way_of {base : Heap} : ∃ fa fd, Fn hdP w (hdG K) mg base "way_of" 8 ["begin", "log", "hand"] [[]] (spP (hdG K) 3 m_way_of) fa fd := by
  obtain ⟨fd, F⟩ := c.t.d.def_ 21 rfl
  obtain ⟨_, _, D_need_begin⟩ := ef_need_begin KX GN c (base := base)
  obtain ⟨_, _, D_need_hand⟩ := ef_need_hand KX GN c (base := base)
  obtain ⟨_, _, D_changes_by⟩ := ef_changes_by KX GN c (base := base)
  exact ⟨_, fd, He.glo_ok KX GN (c.t.d.fact 44 rfl), F.kp, fun d hd => by
    rw [List.mem_singleton.mp hd]
    exact F.bindsN (fun _ _ _ _ _ _ us hl => match us, hl with | [_, _, _], _ => rfl), fn_den F ⟨rfl, rfl, rfl, by decide +kernel, rfl, by decide +kernel, by decide +kernel⟩ (d_way_of (hdGs KX GN c) D_need_begin D_need_hand D_changes_by)⟩
theorem ef_heard_of {base : Heap} : ∃ fa fd, Fn hdP w (hdG K) mg base "heard_of" 7 ["log", "number"] [[]] (spP (hdG K) 2 m_heard_of) fa fd := by
  obtain ⟨fd, F⟩ := c.t.d.def_ 22 rfl
  obtain ⟨_, _, D_need_log⟩ := ef_need_log KX GN c (base := base)
  obtain ⟨_, _, D_is_whole⟩ := ef_is_whole KX GN c (base := base)
  obtain ⟨_, _, x_BadNumber⟩ := ex_BadNumber KX GN c (base := base)
  exact ⟨_, fd, He.glo_ok KX GN (c.t.d.fact 45 rfl), F.kp, fun d hd => by
    rw [List.mem_singleton.mp hd]
    exact F.bindsN (fun _ _ _ _ _ _ us hl => match us, hl with | [_, _], _ => rfl), fn_den F ⟨rfl, rfl, rfl, by decide +kernel, rfl, by decide +kernel, by decide +kernel⟩ (d_heard_of (hdGs KX GN c) D_need_log D_is_whole x_BadNumber)⟩
theorem ef_renumbered_log {base : Heap} : ∃ fa fd, Fn hdP w (hdG K) mg base "renumbered_log" 7 ["log", "order"] [[]] (spP (hdG K) 2 m_renumbered_log) fa fd := by
  obtain ⟨fd, F⟩ := c.t.d.def_ 23 rfl
  obtain ⟨_, _, D_need_log⟩ := ef_need_log KX GN c (base := base)
  obtain ⟨_, _, D_is_whole⟩ := ef_is_whole KX GN c (base := base)
  obtain ⟨_, _, D_turned⟩ := ef_turned KX GN c (base := base)
  obtain ⟨_, _, x_BadRow⟩ := ex_BadRow KX GN c (base := base)
  exact ⟨_, fd, He.glo_ok KX GN (c.t.d.fact 46 rfl), F.kp, fun d hd => by
    rw [List.mem_singleton.mp hd]
    exact F.bindsN (fun _ _ _ _ _ _ us hl => match us, hl with | [_, _], _ => rfl), fn_den F ⟨rfl, rfl, rfl, by decide +kernel, rfl, by decide +kernel, by decide +kernel⟩ (d_renumbered_log (hdGs KX GN c) D_need_log D_is_whole D_turned x_BadRow)⟩
theorem ef_quiet_hands {base : Heap} : ∃ fa fd, Fn hdP w (hdG K) mg base "quiet_hands" 7 ["log"] [[]] (spP (hdG K) 1 m_quiet_hands) fa fd := by
  obtain ⟨fd, F⟩ := c.t.d.def_ 24 rfl
  obtain ⟨_, _, D_need_log⟩ := ef_need_log KX GN c (base := base)
  obtain ⟨_, _, D_changes_by⟩ := ef_changes_by KX GN c (base := base)
  exact ⟨_, fd, He.glo_ok KX GN (c.t.d.fact 47 rfl), F.kp, fun d hd => by
    rw [List.mem_singleton.mp hd]
    exact F.bindsN (fun _ _ _ _ _ _ us hl => match us, hl with | [_], _ => rfl), fn_den F ⟨rfl, rfl, rfl, by decide +kernel, rfl, by decide +kernel, by decide +kernel⟩ (d_quiet_hands (hdGs KX GN c) D_need_log D_changes_by)⟩
theorem ef__law_draw {base : Heap} : ∃ fa fd, Fn hdP w (hdG K) mg base "_law_draw" 1 ["pen", "many"] [[]] (spM (hdG K) 1 m__law_draw) fa fd := by
  obtain ⟨fd, F⟩ := c.t.d.def_ 25 rfl
  exact ⟨_, fd, He.glo_ok KX GN (c.t.d.fact 48 rfl), F.kp, fun d hd => by
    rw [List.mem_singleton.mp hd]
    exact F.bindsN (fun _ _ _ _ _ _ us hl => match us, hl with | [_, _], _ => rfl), fn_denM rfl F ⟨rfl, rfl, rfl, by decide +kernel, rfl, by decide +kernel, by decide +kernel⟩ (d__law_draw (hdGs KX GN c) )⟩
theorem ef__law_pick {base : Heap} : ∃ fa fd, Fn hdP w (hdG K) mg base "_law_pick" 2 ["pen", "some"] [[]] (spM (hdG K) 1 m__law_pick) fa fd := by
  obtain ⟨fd, F⟩ := c.t.d.def_ 26 rfl
  obtain ⟨_, _, D__law_draw⟩ := ef__law_draw KX GN c (base := base)
  exact ⟨_, fd, He.glo_ok KX GN (c.t.d.fact 49 rfl), F.kp, fun d hd => by
    rw [List.mem_singleton.mp hd]
    exact F.bindsN (fun _ _ _ _ _ _ us hl => match us, hl with | [_, _], _ => rfl), fn_denM rfl F ⟨rfl, rfl, rfl, by decide +kernel, rfl, by decide +kernel, by decide +kernel⟩ (d__law_pick (hdGs KX GN c) D__law_draw)⟩
theorem ef__law_shuffled {base : Heap} : ∃ fa fd, Fn hdP w (hdG K) mg base "_law_shuffled" 2 ["pen", "some"] [[]] (spM (hdG K) 1 m__law_shuffled) fa fd := by
  obtain ⟨fd, F⟩ := c.t.d.def_ 27 rfl
  obtain ⟨_, _, D__law_draw⟩ := ef__law_draw KX GN c (base := base)
  exact ⟨_, fd, He.glo_ok KX GN (c.t.d.fact 50 rfl), F.kp, fun d hd => by
    rw [List.mem_singleton.mp hd]
    exact F.bindsN (fun _ _ _ _ _ _ us hl => match us, hl with | [_, _], _ => rfl), fn_denM rfl F ⟨rfl, rfl, rfl, by decide +kernel, rfl, by decide +kernel, by decide +kernel⟩ (d__law_shuffled (hdGs KX GN c) D__law_draw)⟩
theorem ef__law_name {base : Heap} : ∃ fa fd, Fn hdP w (hdG K) mg base "_law_name" 2 ["pen", "index"] [[]] (spM (hdG K) 1 m__law_name) fa fd := by
  obtain ⟨fd, F⟩ := c.t.d.def_ 28 rfl
  obtain ⟨_, _, D__law_draw⟩ := ef__law_draw KX GN c (base := base)
  exact ⟨_, fd, He.glo_ok KX GN (c.t.d.fact 51 rfl), F.kp, fun d hd => by
    rw [List.mem_singleton.mp hd]
    exact F.bindsN (fun _ _ _ _ _ _ us hl => match us, hl with | [_, _], _ => rfl), fn_denM rfl F ⟨rfl, rfl, rfl, by decide +kernel, rfl, by decide +kernel, by decide +kernel⟩ (d__law_name (hdGs KX GN c) D__law_draw)⟩
theorem ef__law_names {base : Heap} : ∃ fa fd, Fn hdP w (hdG K) mg base "_law_names" 3 ["pen", "many"] [[]] (spM (hdG K) 1 m__law_names) fa fd := by
  obtain ⟨fd, F⟩ := c.t.d.def_ 29 rfl
  obtain ⟨_, _, D__law_shuffled⟩ := ef__law_shuffled KX GN c (base := base)
  obtain ⟨_, _, D__law_name⟩ := ef__law_name KX GN c (base := base)
  exact ⟨_, fd, He.glo_ok KX GN (c.t.d.fact 52 rfl), F.kp, fun d hd => by
    rw [List.mem_singleton.mp hd]
    exact F.bindsN (fun _ _ _ _ _ _ us hl => match us, hl with | [_, _], _ => rfl), fn_denM rfl F ⟨rfl, rfl, rfl, by decide +kernel, rfl, by decide +kernel, by decide +kernel⟩ (d__law_names (hdGs KX GN c) D__law_shuffled D__law_name)⟩
theorem ef__law_in_numbers {base : Heap} : ∃ fa fd, Fn hdP w (hdG K) mg base "_law_in_numbers" 1 ["log", "order"] [[]] (spP (hdG K) 2 m__law_in_numbers) fa fd := by
  obtain ⟨fd, F⟩ := c.t.d.def_ 30 rfl
  exact ⟨_, fd, He.glo_ok KX GN (c.t.d.fact 53 rfl), F.kp, fun d hd => by
    rw [List.mem_singleton.mp hd]
    exact F.bindsN (fun _ _ _ _ _ _ us hl => match us, hl with | [_, _], _ => rfl), fn_den F ⟨rfl, rfl, rfl, by decide +kernel, rfl, by decide +kernel, by decide +kernel⟩ (d__law_in_numbers (hdGs KX GN c) )⟩
theorem ef__law_beside {base : Heap} : ∃ fa fd, Fn hdP w (hdG K) mg base "_law_beside" 2 ["one", "other"] [[]] (spP (hdG K) 2 m__law_beside) fa fd := by
  obtain ⟨fd, F⟩ := c.t.d.def_ 31 rfl
  obtain ⟨_, _, D__law_in_numbers⟩ := ef__law_in_numbers KX GN c (base := base)
  exact ⟨_, fd, He.glo_ok KX GN (c.t.d.fact 54 rfl), F.kp, fun d hd => by
    rw [List.mem_singleton.mp hd]
    exact F.bindsN (fun _ _ _ _ _ _ us hl => match us, hl with | [_, _], _ => rfl), fn_den F ⟨rfl, rfl, rfl, by decide +kernel, rfl, by decide +kernel, by decide +kernel⟩ (d__law_beside (hdGs KX GN c) D__law_in_numbers)⟩
theorem ef__law_sum {base : Heap} : ∃ fa fd, Fn hdP w (hdG K) mg base "_law_sum" 1 ["one", "other"] [[]] (spP (hdG K) 2 m__law_sum) fa fd := by
  obtain ⟨fd, F⟩ := c.t.d.def_ 32 rfl
  exact ⟨_, fd, He.glo_ok KX GN (c.t.d.fact 55 rfl), F.kp, fun d hd => by
    rw [List.mem_singleton.mp hd]
    exact F.bindsN (fun _ _ _ _ _ _ us hl => match us, hl with | [_, _], _ => rfl), fn_den F ⟨rfl, rfl, rfl, by decide +kernel, rfl, by decide +kernel, by decide +kernel⟩ (d__law_sum (hdGs KX GN c) )⟩
theorem ef__law_drawn_log {base : Heap} : ∃ fa fd, Fn hdP w (hdG K) mg base "_law_drawn_log" 3 ["pen", "size", "names", "tones", "most"] [[]] (spM (hdG K) 4 m__law_drawn_log) fa fd := by
  obtain ⟨fd, F⟩ := c.t.d.def_ 33 rfl
  obtain ⟨_, _, D__law_draw⟩ := ef__law_draw KX GN c (base := base)
  obtain ⟨_, _, D__law_pick⟩ := ef__law_pick KX GN c (base := base)
  exact ⟨_, fd, He.glo_ok KX GN (c.t.d.fact 56 rfl), F.kp, fun d hd => by
    rw [List.mem_singleton.mp hd]
    exact F.bindsN (fun _ _ _ _ _ _ us hl => match us, hl with | [_, _, _, _, _], _ => rfl), fn_denM rfl F ⟨rfl, rfl, rfl, by decide +kernel, rfl, by decide +kernel, by decide +kernel⟩ (d__law_drawn_log (hdGs KX GN c) D__law_draw D__law_pick)⟩
theorem same_rec {base : Heap} {f : Addr} {fd : FuncData} (E : Gs w (hdG K) mg) (F : FunD K "_law_same" "_law_same" (defArgs (top 51)) (defBody (top 51)) (defScope (top 51)) [] [] f fd) (hg : mg "_law_same" = some (.ref f)) : ∀ n, Fn hdP w (hdG K) mg base "_law_same" (n + 1) ["told", "due"] [[]] (spP (hdG K) 2 (r__law_same n)) f fd
  | 0 => ⟨hg, F.kp, fun d hd => by
    rw [List.mem_singleton.mp hd]
    exact F.bindsN (fun _ _ _ _ _ _ us hl => match us, hl with | [_, _], _ => rfl), ⟨fun vs H Q W h => by
    obtain ⟨_, _, _, _, _, z⟩ := h
    exact False.elim z, fun A outer s H args us vs Q W _ _ _ _ h => by
    obtain ⟨_, _, _, _, _, z⟩ := h
    exact False.elim z⟩⟩
  | n + 1 => ⟨hg, F.kp, fun d hd => by
    rw [List.mem_singleton.mp hd]
    exact F.bindsN (fun _ _ _ _ _ _ us hl => match us, hl with | [_, _], _ => rfl), fn_den F ⟨rfl, rfl, rfl, by decide +kernel, rfl, by decide +kernel, by decide +kernel⟩ (d__law_same E (same_rec E F hg n))⟩
theorem ef__law_same {base : Heap} : ∃ fa fd, Fn hdP w (hdG K) mg base "_law_same" 9 ["told", "due"] [[]] (spP (hdG K) 2 m__law_same) fa fd := by
  obtain ⟨fd, F⟩ := c.t.d.def_ 34 rfl
  exact ⟨_, fd, same_rec KX GN c (hdGs KX GN c) F (He.glo_ok KX GN (c.t.d.fact 57 rfl)) 8⟩
theorem ef__law_pen {base : Heap} : ∃ fa fd, Fn hdP w (hdG K) mg base "_law_pen" 1 ["script"] [[]] (spPenS (hdG K) penA0 penB0 penF0) fa fd := by
  obtain ⟨fd, F⟩ := c.t.d.def_ 35 rfl
  exact ⟨_, fd, He.glo_ok KX GN (c.t.d.fact 58 rfl), F.kp, fun d hd => by
    rw [List.mem_singleton.mp hd]
    exact F.bindsN (fun _ _ _ _ _ _ us hl => match us, hl with | [_], _ => rfl), fn_penS F ⟨rfl, rfl, rfl, by decide +kernel, rfl, by decide +kernel, by decide +kernel⟩ rfl (by decide) (by decide) (d__law_pen (hdGs KX GN c))⟩
theorem ef__law_why : ∃ ga cda, ∀ X : Cx, X.K = K → X.mg = mg → LamG X "_law_why" "call" ga cda (defArgs (top 52)) (defBody (top 52)) (defScope (top 52)) ["call", "found", "error"] := by
  obtain ⟨fd, F⟩ := c.t.d.def_ 36 rfl
  have hb := F.bindsN (ps := ["call"]) (fun _ _ _ _ _ _ us hl => match us, hl with | [_], _ => rfl)
  obtain ⟨oc, od, dV, kV, doc, pm, an, cdv, ct, osl, rfl, lk, hcd, _, _⟩ := F.ex
  refine ⟨He.fAd K ("_law_why", none), cdv, fun X h1 h2 => ?_⟩
  subst h1
  subst h2
  exact ⟨⟨oc, od, dV, kV, doc, pm, ct, an, osl, lk, hb⟩, hcd, He.glo_ok KX GN (c.t.d.fact 59 rfl), F.kp, ⟨rfl, rfl, rfl, by decide +kernel, rfl, by decide +kernel, by decide +kernel⟩, rfl, .inl rfl⟩
omit KX GN in
theorem hdExm : ExmC (hdG K) whyC := by
  intro x hx z hz
  have hx2 : x = 3 ∨ x = 1 ∨ x = 2 ∨ x = 0 ∨ x = 4 ∨ x = 5 ∨ x = 6 ∨ x = 7 ∨ x = 8 ∨ x = 9 ∨ x = 10 := by
    unfold whyC at hx
    simp only [wcOf] at hx
    split at hx <;> first | omega | skip
    split at hx <;> first | omega | skip
    split at hx <;> first | omega | skip
    split at hx <;> first | omega | skip
    split at hx <;> first | omega | skip
    split at hx <;> first | omega | skip
    split at hx <;> first | omega | skip
    split at hx <;> first | omega | skip
    split at hx <;> first | omega | skip
    split at hx <;> first | omega | skip
    split at hx <;> first | omega | skip
    cases hx
  unfold whyC at hz
  simp only [List.mem_cons, List.not_mem_nil, or_false] at hz
  rcases hx2 with rfl | rfl | rfl | rfl | rfl | rfl | rfl | rfl | rfl | rfl | rfl <;> rcases hz with rfl | rfl | rfl | rfl | rfl | rfl | rfl | rfl | rfl | rfl | rfl
  · exact He.exm_ok (c.t.d.fact 99 rfl)
  · exact He.exm_ok (c.t.d.fact 97 rfl)
  · exact He.exm_ok (c.t.d.fact 98 rfl)
  · exact He.exm_ok (c.t.d.fact 96 rfl)
  · exact He.exm_ok (c.t.d.fact 100 rfl)
  · exact He.exm_ok (c.t.d.fact 101 rfl)
  · exact He.exm_ok (c.t.d.fact 102 rfl)
  · exact He.exm_ok (c.t.d.fact 103 rfl)
  · exact He.exm_ok (c.t.d.fact 104 rfl)
  · exact He.exm_ok (c.t.d.fact 105 rfl)
  · exact He.exm_ok (c.t.d.fact 106 rfl)
  · exact He.exm_ok (c.t.d.fact 77 rfl)
  · exact He.exm_ok (c.t.d.fact 75 rfl)
  · exact He.exm_ok (c.t.d.fact 76 rfl)
  · exact He.exm_ok (c.t.d.fact 74 rfl)
  · exact He.exm_ok (c.t.d.fact 78 rfl)
  · exact He.exm_ok (c.t.d.fact 79 rfl)
  · exact He.exm_ok (c.t.d.fact 80 rfl)
  · exact He.exm_ok (c.t.d.fact 81 rfl)
  · exact He.exm_ok (c.t.d.fact 82 rfl)
  · exact He.exm_ok (c.t.d.fact 83 rfl)
  · exact He.exm_ok (c.t.d.fact 84 rfl)
  · exact He.exm_ok (c.t.d.fact 88 rfl)
  · exact He.exm_ok (c.t.d.fact 86 rfl)
  · exact He.exm_ok (c.t.d.fact 87 rfl)
  · exact He.exm_ok (c.t.d.fact 85 rfl)
  · exact He.exm_ok (c.t.d.fact 89 rfl)
  · exact He.exm_ok (c.t.d.fact 90 rfl)
  · exact He.exm_ok (c.t.d.fact 91 rfl)
  · exact He.exm_ok (c.t.d.fact 92 rfl)
  · exact He.exm_ok (c.t.d.fact 93 rfl)
  · exact He.exm_ok (c.t.d.fact 94 rfl)
  · exact He.exm_ok (c.t.d.fact 95 rfl)
  · exact He.exm_ok (c.t.d.fact 66 rfl)
  · exact He.exm_ok (c.t.d.fact 64 rfl)
  · exact He.exm_ok (c.t.d.fact 65 rfl)
  · exact He.exm_ok (c.t.d.fact 63 rfl)
  · exact He.exm_ok (c.t.d.fact 67 rfl)
  · exact He.exm_ok (c.t.d.fact 68 rfl)
  · exact He.exm_ok (c.t.d.fact 69 rfl)
  · exact He.exm_ok (c.t.d.fact 70 rfl)
  · exact He.exm_ok (c.t.d.fact 71 rfl)
  · exact He.exm_ok (c.t.d.fact 72 rfl)
  · exact He.exm_ok (c.t.d.fact 73 rfl)
  · exact He.exm_ok (c.t.d.fact 110 rfl)
  · exact He.exm_ok (c.t.d.fact 108 rfl)
  · exact He.exm_ok (c.t.d.fact 109 rfl)
  · exact He.exm_ok (c.t.d.fact 107 rfl)
  · exact He.exm_ok (c.t.d.fact 111 rfl)
  · exact He.exm_ok (c.t.d.fact 112 rfl)
  · exact He.exm_ok (c.t.d.fact 113 rfl)
  · exact He.exm_ok (c.t.d.fact 114 rfl)
  · exact He.exm_ok (c.t.d.fact 115 rfl)
  · exact He.exm_ok (c.t.d.fact 116 rfl)
  · exact He.exm_ok (c.t.d.fact 117 rfl)
  · exact He.exm_ok (c.t.d.fact 121 rfl)
  · exact He.exm_ok (c.t.d.fact 119 rfl)
  · exact He.exm_ok (c.t.d.fact 120 rfl)
  · exact He.exm_ok (c.t.d.fact 118 rfl)
  · exact He.exm_ok (c.t.d.fact 122 rfl)
  · exact He.exm_ok (c.t.d.fact 123 rfl)
  · exact He.exm_ok (c.t.d.fact 124 rfl)
  · exact He.exm_ok (c.t.d.fact 125 rfl)
  · exact He.exm_ok (c.t.d.fact 126 rfl)
  · exact He.exm_ok (c.t.d.fact 127 rfl)
  · exact He.exm_ok (c.t.d.fact 128 rfl)
  · exact He.exm_ok (c.t.d.fact 132 rfl)
  · exact He.exm_ok (c.t.d.fact 130 rfl)
  · exact He.exm_ok (c.t.d.fact 131 rfl)
  · exact He.exm_ok (c.t.d.fact 129 rfl)
  · exact He.exm_ok (c.t.d.fact 133 rfl)
  · exact He.exm_ok (c.t.d.fact 134 rfl)
  · exact He.exm_ok (c.t.d.fact 135 rfl)
  · exact He.exm_ok (c.t.d.fact 136 rfl)
  · exact He.exm_ok (c.t.d.fact 137 rfl)
  · exact He.exm_ok (c.t.d.fact 138 rfl)
  · exact He.exm_ok (c.t.d.fact 139 rfl)
  · exact He.exm_ok (c.t.d.fact 143 rfl)
  · exact He.exm_ok (c.t.d.fact 141 rfl)
  · exact He.exm_ok (c.t.d.fact 142 rfl)
  · exact He.exm_ok (c.t.d.fact 140 rfl)
  · exact He.exm_ok (c.t.d.fact 144 rfl)
  · exact He.exm_ok (c.t.d.fact 145 rfl)
  · exact He.exm_ok (c.t.d.fact 146 rfl)
  · exact He.exm_ok (c.t.d.fact 147 rfl)
  · exact He.exm_ok (c.t.d.fact 148 rfl)
  · exact He.exm_ok (c.t.d.fact 149 rfl)
  · exact He.exm_ok (c.t.d.fact 150 rfl)
  · exact He.exm_ok (c.t.d.fact 154 rfl)
  · exact He.exm_ok (c.t.d.fact 152 rfl)
  · exact He.exm_ok (c.t.d.fact 153 rfl)
  · exact He.exm_ok (c.t.d.fact 151 rfl)
  · exact He.exm_ok (c.t.d.fact 155 rfl)
  · exact He.exm_ok (c.t.d.fact 156 rfl)
  · exact He.exm_ok (c.t.d.fact 157 rfl)
  · exact He.exm_ok (c.t.d.fact 158 rfl)
  · exact He.exm_ok (c.t.d.fact 159 rfl)
  · exact He.exm_ok (c.t.d.fact 160 rfl)
  · exact He.exm_ok (c.t.d.fact 161 rfl)
  · exact He.exm_ok (c.t.d.fact 165 rfl)
  · exact He.exm_ok (c.t.d.fact 163 rfl)
  · exact He.exm_ok (c.t.d.fact 164 rfl)
  · exact He.exm_ok (c.t.d.fact 162 rfl)
  · exact He.exm_ok (c.t.d.fact 166 rfl)
  · exact He.exm_ok (c.t.d.fact 167 rfl)
  · exact He.exm_ok (c.t.d.fact 168 rfl)
  · exact He.exm_ok (c.t.d.fact 169 rfl)
  · exact He.exm_ok (c.t.d.fact 170 rfl)
  · exact He.exm_ok (c.t.d.fact 171 rfl)
  · exact He.exm_ok (c.t.d.fact 172 rfl)
  · exact He.exm_ok (c.t.d.fact 176 rfl)
  · exact He.exm_ok (c.t.d.fact 174 rfl)
  · exact He.exm_ok (c.t.d.fact 175 rfl)
  · exact He.exm_ok (c.t.d.fact 173 rfl)
  · exact He.exm_ok (c.t.d.fact 177 rfl)
  · exact He.exm_ok (c.t.d.fact 178 rfl)
  · exact He.exm_ok (c.t.d.fact 179 rfl)
  · exact He.exm_ok (c.t.d.fact 180 rfl)
  · exact He.exm_ok (c.t.d.fact 181 rfl)
  · exact He.exm_ok (c.t.d.fact 182 rfl)
  · exact He.exm_ok (c.t.d.fact 183 rfl)
omit KX GN c in
theorem hdFld : FldC (hdG K) whyC := by
  intro z hz
  unfold whyC at hz
  simp only [List.mem_cons, List.not_mem_nil, or_false] at hz
  rcases hz with rfl | rfl | rfl | rfl | rfl | rfl | rfl | rfl | rfl | rfl | rfl <;> rfl
end
end K60
end
section
set_option Elab.async false
set_option linter.all false
set_option maxRecDepth 100000
set_option maxHeartbeats 4000000
namespace K60
open PySem PySem.Spec L2 Dn PyProof.Rows
/-- what is left: the law's mirror gives True -/
def LawTrue : Prop := ∀ ns : List Int, ns.length ≤ 63 → ∃ ρ p, b_law ((List.replicate 24 Sl.no).set 1 .pen) (.pn ns 0 0 0 (penFold penA0 penB0 penF0 ns)) = .ok (.ret (.bl true), ρ, p)
section
variable {w : World} {h : Heap} {K : PySem.W.Frag} {mg : Str → Option Value} (KX : K.In h) (GN : h.Ns mainGlobals mg) (c : He.SaysX hdFa hdFn hdTs hdTf hdEx w h K)
include KX GN c
theorem law_runs (hm : LawTrue) {base : Heap} {s : Shared} {H : Hp} {a : Addr} {ns : List Int} (hT : LamX.TabB base mg (He.cT K ("law", none)).1 (He.cT K ("law", none)).2) (e0 : Env0 hdP w K mg base callerA [] s H)
    (ht : H (He.cT K ("law", none)).2 = some (.tbl #[])) (hu : ∀ b ps, H b = some (.tbl ps) → b = (He.cT K ("law", none)).2) (hS : SqL K H a (ns.map V.int)) (hl : ns.length ≤ 63) :
    codeAny (model hdP w) callerA (.call (.ref (He.ga K "law")) ⟨[.ref a], []⟩) (CR (L2.CX hdP w) [] hdP w H s (fun v _ => v = .bl true) fun _ _ _ => False) s := by
  obtain ⟨fd, F⟩ := c.t.d.def_ 37 rfl
  have hb := F.bindsA (ps := ["script"]) (fun _ _ _ _ _ _ us hl => match us, hl with | [_], _ => rfl)
  obtain ⟨oc, od, dV, kV, doc, pm, an, cdv, ct, osl, rfl, lk, hcd, _, _⟩ := F.ex
  obtain ⟨c0, rfl⟩ := He.codeIn_ref hcd
  have ec : He.codeOf K ("law", none) = c0 := He.codeOf_eq lk rfl
  have hT : LamX.TabB base mg c0 ((hdG K).C 1000) := by
    have e1 : (He.cT K ("law", none)).1 = c0 := ec
    rw [← e1]
    exact hT
  have hz : (hdG K).C 1000 ≠ 0 := (hdEx_and c).2.2.2
  obtain ⟨ga, cda, LW⟩ := ef__law_why KX GN c
  obtain ⟨_, _, DP⟩ := ef__law_pen KX GN c (base := base)
  obtain ⟨_, _, D__law_names⟩ := ef__law_names KX GN c (base := base)
  obtain ⟨_, _, D__law_drawn_log⟩ := ef__law_drawn_log KX GN c (base := base)
  obtain ⟨_, _, D__law_draw⟩ := ef__law_draw KX GN c (base := base)
  obtain ⟨_, _, D__law_shuffled⟩ := ef__law_shuffled KX GN c (base := base)
  obtain ⟨_, _, D__law_in_numbers⟩ := ef__law_in_numbers KX GN c (base := base)
  obtain ⟨_, _, D_renumbered_log⟩ := ef_renumbered_log KX GN c (base := base)
  obtain ⟨_, _, D__law_same⟩ := ef__law_same KX GN c (base := base)
  obtain ⟨_, _, D_is_log⟩ := ef_is_log KX GN c (base := base)
  obtain ⟨_, _, D_stops_of⟩ := ef_stops_of KX GN c (base := base)
  obtain ⟨_, _, D_counts_along⟩ := ef_counts_along KX GN c (base := base)
  obtain ⟨_, _, D_states_behind⟩ := ef_states_behind KX GN c (base := base)
  obtain ⟨_, _, D_quiet_hands⟩ := ef_quiet_hands KX GN c (base := base)
  obtain ⟨_, _, D_heard_of⟩ := ef_heard_of KX GN c (base := base)
  obtain ⟨_, _, D_way_of⟩ := ef_way_of KX GN c (base := base)
  obtain ⟨_, _, D_counts_behind⟩ := ef_counts_behind KX GN c (base := base)
  obtain ⟨_, _, D__law_sum⟩ := ef__law_sum KX GN c (base := base)
  obtain ⟨_, _, D__law_beside⟩ := ef__law_beside KX GN c (base := base)
  refine LamX.run_ofS (k := 12) (us := [.ref a]) (vs := [.ref a]) lk hcd (N := ["script", "pen", "lap", "names", "tones", "log", "begin", "size", "order", "later", "due", "told", "at", "both", "hand", "back", "spot", "row", "place", "state", "wide", "mate", "whole", "bad"]) (ps := ["script"]) ⟨rfl, rfl, rfl, by decide +kernel, rfl, by decide +kernel, by decide +kernel⟩ ⟨rfl, by decide, by decide⟩ e0 (hb s [.ref a] rfl) (.cons rfl .nil) rfl fun hr => ?_
  obtain ⟨u, hrest⟩ := d_law (hdGs KX GN c) D__law_names D__law_drawn_log D__law_draw D__law_shuffled D__law_in_numbers D_renumbered_log D__law_same D_is_log D_stops_of D_counts_along D_states_behind D_quiet_hands D_heard_of D_way_of D_counts_behind D__law_sum D__law_beside (wn_BadText KX GN c) (wn_BadName KX GN c) (wn_BadNumber KX GN c) (wn_BadRow KX GN c) (wn_Misread KX GN c) (wn_Misplaced KX GN c) (wn_NoName KX GN c) (wn_TakenName KX GN c) (wn_Unlike KX GN c) (wn_NotThere KX GN c) (wn_TooMany KX GN c) LW (hdExm c) hdFld hz hT callerA [] s H (fun _ _ _ => False) rfl hr
  have hN : (["script", "pen", "lap", "names", "tones", "log", "begin", "size", "order", "later", "due", "told", "at", "both", "hand", "back", "spot", "row", "place", "state", "wide", "mate", "whole", "bad"] : List Str).Nodup := by decide
  refine ⟨_, pss_cons (ps_asg (pe_call DP.ok (hr.mono (by decide)) rfl DP.g DP.kp (DP.bs [] (by simp)) .nil (L2.passes_call (takes_of rfl rfl rfl rfl) (fun _ _ _ _ h => h)) (pa_cons (pe_var (i := 0) rfl (Or.inl rfl)) pa_nil)) (pg_name (i := 1) hN rfl (.inl rfl))) hrest.ps, ?_⟩
  obtain ⟨ρ, p, hm⟩ := hm ns hl
  exact run_lawP (W := fun _ _ _ => False) (i := 1) (n := 23) hrest.ev hS (by decide) (by decide) (fun _ => ⟨⟨#[], ht, by trivial, fun pos cv hc => by cases hc⟩, hu⟩) hm fun _ => rfl
end
theorem hdWalk (hm : LawTrue) : PySem.W.WalkO hdQ hdN (PySem.W.XL hdQ []) hdH.says (PySem.W.OpenLaw.row PySem.Challenge.rw_howevermany_k60_whole_logs_of_renumbered).toRowW (HandSHeadRun.topDef hdP 57) [] (fun f vs => PySem.call f vs) := by
  refine Att.attach_callB (l := PySem.Challenge.rw_howevermany_k60_whole_logs_of_renumbered) (n := 63) rfl (by kernel_rfl) fun w s₀ s₁ mg mb fa o pm cd doc a vs ns G Y ho hd hcd hmg0 hobj hints hlen hbits hg => ?_
  obtain ⟨K, KX, c⟩ := Y
  have hmg : mg ("law" : PySem.Str) = some (.ref fa) := by
    have e : (HandSHeadRun.topDef hdP 57).name = ("law" : PySem.Str) := by kernel_rfl
    rw [← e]
    exact hmg0
  have e := hmg.symm.trans (He.glo_ok KX G.T.g (c.t.d.fact 60 rfl))
  obtain rfl : fa = He.ga K "law" := by
    cases e
    rfl
  have T : Atop K mg mb (He.cT K ("law", none)).1 (He.cT K ("law", none)).2 a vs ns s₁ := ⟨KX, G.T.g, G.T.b, G.T.builtins, G.T.nolimit, hg, c.empty _ (List.mem_singleton.mpr rfl), c.out _ (List.mem_singleton.mpr rfl), PySem.W.codeHd_of_K KX (c.hd _ (List.mem_singleton.mpr rfl)), G.T.bmain, hobj, hints, Nat.le_trans hlen (by decide)⟩
  refine T.ends (fun H e s' h => by
    obtain ⟨_, _, _, _, _, _, _, _, _, _, _, _, z⟩ := h
    exact z) (law_runs KX G.T.g c hm T.tb T.env0 T.seenT (fun b ps h => ?_) T.seq hlen)
  rcases T.only h with ⟨h1, _⟩ | ⟨_, _, h3⟩
  · exact h1
  · cases h3
open PySem.W PySem.Calls in
theorem law_ends (hm : LawTrue) : PySem.Challenge.rw_howevermany_k60_whole_logs_of_renumbered.Holds := by
  w_on; o_law
  refine HandSHeadRun.head_any (r := hdR) (q := hdQ) (H := hdH) (ob := hdOb) (M := 40000) (loose := hdN) (d := HandSHeadRun.topDef hdP 57) (kwd := []) hdOb_eq
    (by kernel_rfl) (fun s => by kernel_rfl) hdRun (by kernel_rfl) (by kernel_rfl) (by kernel_rfl) (by rfl) (by first | assumption | decide +kernel) (by decide +kernel) ⟨rfl, rfl, rfl, rfl, rfl, by decide +kernel⟩ ?hw ?hc
  case hw => w_witness2
  case hc => exact hdWalk hm
end K60
end
section
set_option Elab.async false
set_option linter.all false
set_option maxRecDepth 100000
set_option maxHeartbeats 400000
namespace Dn
open PySem PySem.Spec L2
/-! ### the mirrors, step by step -/
@[simp] theorem kFz_ap (m : KL) (ρ : List Sl) (p : Pen) : kFz m ρ p = (do
  let a ← m ρ p
  pure (.lst a.1, a.2)) := (rfl)
@[simp] theorem kL_ap (m : KE) (ρ : List Sl) (p : Pen) : kL m ρ p = (do
  let a ← m ρ p
  let ds ← ofO (toL a.1)
  pure (ds, a.2)) := (rfl)
@[simp] theorem kC_ap (d : D) (ρ : List Sl) (p : Pen) : kC d ρ p = (.ok (d, p)) := (rfl)
@[simp] theorem kVar_ap (i : Nat) (ρ : List Sl) (p : Pen) : kVar i ρ p = (match ρ[i]? with
  | some (.val d) => .ok (d, p)
  | some (.cln d) => .ok (d, p)
  | _ => .error .stuck) := (rfl)
@[simp] theorem kOwn_ap (i : Nat) (ρ : List Sl) (p : Pen) : kOwn i ρ p = (match ρ[i]? with
  | some (.own ds) => .ok (ds, p)
  | _ => .error .stuck) := (rfl)
@[simp] theorem kOp_ap (op : D → D → Option D) (ma mb : KE) (ρ : List Sl) (p : Pen) : kOp op ma mb ρ p = (do
  let a ← ma ρ p
  let b ← mb ρ a.2
  let d ← ofO (op a.1 b.1)
  pure (d, b.2)) := (rfl)
@[simp] theorem kUn_ap (op : D → Option D) (ma : KE) (ρ : List Sl) (p : Pen) : kUn op ma ρ p = (do
  let a ← ma ρ p
  let d ← ofO (op a.1)
  pure (d, a.2)) := (rfl)
@[simp] theorem kCa_ap (op : List D → Option D) (ma : KL) (ρ : List Sl) (p : Pen) : kCa op ma ρ p = (do
  let a ← ma ρ p
  let d ← ofO (op a.1)
  pure (d, a.2)) := (rfl)
@[simp] theorem kCaL_ap (op : List D → Option (List D)) (ma : KL) (ρ : List Sl) (p : Pen) : kCaL op ma ρ p = (do
  let a ← ma ρ p
  let d ← ofO (op a.1)
  pure (d, a.2)) := (rfl)
@[simp] theorem kNil_ap  (ρ : List Sl) (p : Pen) : kNil  ρ p = (.ok ([], p)) := (rfl)
@[simp] theorem kCons_ap (m : KE) (ms : KL) (ρ : List Sl) (p : Pen) : kCons m ms ρ p = (do
  let a ← m ρ p
  let r ← ms ρ a.2
  pure (a.1 :: r.1, r.2)) := (rfl)
@[simp] theorem kTup_ap (ml : KL) (ρ : List Sl) (p : Pen) : kTup ml ρ p = (do
  let a ← ml ρ p
  if a.1.length ≤ sizeLine then pure (.tup a.1, a.2) else .error .stuck) := (rfl)
@[simp] theorem kLst_ap (ml : KL) (ρ : List Sl) (p : Pen) : kLst ml ρ p = (do
  let a ← ml ρ p
  if a.1.length ≤ sizeLine then pure a else .error .stuck) := (rfl)
@[simp] theorem kT_ap (m : KE) (ρ : List Sl) (p : Pen) : kT m ρ p = (do
  let a ← m ρ p
  let k ← ofO (toB a.1)
  pure (k, a.2)) := (rfl)
@[simp] theorem kAndB_ap (t u : KB) (ρ : List Sl) (p : Pen) : kAndB t u ρ p = (do
  let a ← t ρ p
  if a.1 = true then u ρ a.2 else pure (false, a.2)) := (rfl)
@[simp] theorem kOrB_ap (t u : KB) (ρ : List Sl) (p : Pen) : kOrB t u ρ p = (do
  let a ← t ρ p
  if a.1 = true then pure (true, a.2) else u ρ a.2) := (rfl)
@[simp] theorem kNotB_ap (t : KB) (ρ : List Sl) (p : Pen) : kNotB t ρ p = (do
  let a ← t ρ p
  pure (!a.1, a.2)) := (rfl)
@[simp] theorem kAndV_ap (ma mb : KE) (ρ : List Sl) (p : Pen) : kAndV ma mb ρ p = (do
  let a ← ma ρ p
  let k ← ofO (toB a.1)
  if k = true then mb ρ a.2 else pure (.bl false, a.2)) := (rfl)
@[simp] theorem kOrV_ap (ma mb : KE) (ρ : List Sl) (p : Pen) : kOrV ma mb ρ p = (do
  let a ← ma ρ p
  let k ← ofO (toB a.1)
  if k = true then pure (.bl true, a.2) else mb ρ a.2) := (rfl)
@[simp] theorem kIf_ap (t : KB) (ma mb : KE) (ρ : List Sl) (p : Pen) : kIf t ma mb ρ p = (do
  let a ← t ρ p
  if a.1 = true then ma ρ a.2 else mb ρ a.2) := (rfl)
@[simp] theorem kIxL_ap (ml : KL) (mb : KE) (ρ : List Sl) (p : Pen) : kIxL ml mb ρ p = (do
  let a ← ml ρ p
  let b ← mb ρ a.2
  let d ← ofO (ixD (.lst a.1) b.1)
  pure (d, b.2)) := (rfl)
@[simp] theorem kNone_ap  (ρ : List Sl) (p : Pen) : kNone  ρ p = (.ok (none, p)) := (rfl)
@[simp] theorem kPart_ap (m : KE) (ρ : List Sl) (p : Pen) : kPart m ρ p = (do
  let a ← m ρ p
  let i ← ofO (toI a.1)
  pure (some i, a.2)) := (rfl)
@[simp] theorem kSl_ap (ma : KE) (ml mh : KO) (ρ : List Sl) (p : Pen) : kSl ma ml mh ρ p = (do
  let a ← ma ρ p
  let l ← ml ρ a.2
  let h ← mh ρ l.2
  let d ← ofO (sliceD a.1 l.1 h.1)
  pure (d, h.2)) := (rfl)
@[simp] theorem kCat_ap (ma mb : KL) (ρ : List Sl) (p : Pen) : kCat ma mb ρ p = (do
  let a ← ma ρ p
  let b ← mb ρ a.2
  if a.1.length + b.1.length ≤ sizeLine then pure (a.1 ++ b.1, b.2) else .error .stuck) := (rfl)
@[simp] theorem kRep_ap (ma : KL) (mb : KE) (ρ : List Sl) (p : Pen) : kRep ma mb ρ p = (do
  let a ← ma ρ p
  let b ← mb ρ a.2
  let d ← ofO (repL a.1 b.1)
  pure (d, b.2)) := (rfl)
@[simp] theorem kIsi_ap (t : BT) (m : KE) (ρ : List Sl) (p : Pen) : kIsi t m ρ p = (do
  let a ← m ρ p
  let k ← ofO (isiB a.1 t)
  pure (.bl k, a.2)) := (rfl)
@[simp] theorem gkN_ap (i : Nat) (d : D) (ρ : List Sl) : gkN i d ρ = (.ok (ρ.set i (.val d))) := (rfl)
@[simp] theorem gkNil_ap  (ds : List D) (ρ : List Sl) : gkNil  ds ρ = (match ds with
  | [] => .ok ρ
  | _ => .error .stuck) := (rfl)
@[simp] theorem gkCons_ap (m : KG) (ms : KGs) (ds : List D) (ρ : List Sl) : gkCons m ms ds ρ = (match ds with
  | d :: r => do
    let ρ1 ← m d ρ
    ms r ρ1
  | [] => .error .stuck) := (rfl)
@[simp] theorem gkTup_ap (n : Nat) (ms : KGs) (d : D) (ρ : List Sl) : gkTup n ms d ρ = (match d with
  | .tup ds => if ds.length = n then ms ds ρ else .error .stuck
  | _ => .error .stuck) := (rfl)
@[simp] theorem kNext_ap  (ρ : List Sl) (p : Pen) : kNext  ρ p = (.ok (.nx, ρ, p)) := (rfl)
@[simp] theorem kSeq_ap (a b : KS) (ρ : List Sl) (p : Pen) : kSeq a b ρ p = (do
  let r ← a ρ p
  match r.1 with
  | .nx => b r.2.1 r.2.2
  | _ => pure r) := (rfl)
@[simp] theorem kAsg_ap (m : KE) (mg : KG) (ρ : List Sl) (p : Pen) : kAsg m mg ρ p = (do
  let a ← m ρ p
  let ρ' ← unx (mg a.1 ρ)
  pure (.nx, ρ', a.2)) := (rfl)
@[simp] theorem kAsgF_ap (i : Nat) (m : KL) (ρ : List Sl) (p : Pen) : kAsgF i m ρ p = (do
  let a ← m ρ p
  pure (.nx, ρ.set i (.own a.1), a.2)) := (rfl)
@[simp] theorem kDrop_ap (m : KE) (ρ : List Sl) (p : Pen) : kDrop m ρ p = (do
  let a ← m ρ p
  pure (.nx, ρ, a.2)) := (rfl)
@[simp] theorem kRet_ap (m : KE) (ρ : List Sl) (p : Pen) : kRet m ρ p = (do
  let a ← m ρ p
  pure (.ret a.1, ρ, a.2)) := (rfl)
@[simp] theorem kRetN_ap  (ρ : List Sl) (p : Pen) : kRetN  ρ p = (.ok (.ret .non, ρ, p)) := (rfl)
@[simp] theorem kIfS_ap (t : KB) (a b : KS) (ρ : List Sl) (p : Pen) : kIfS t a b ρ p = (do
  let k ← t ρ p
  if k.1 = true then a ρ k.2 else b ρ k.2) := (rfl)
@[simp] theorem kBreak_ap  (ρ : List Sl) (p : Pen) : kBreak  ρ p = (.ok (.bk, ρ, p)) := (rfl)
@[simp] theorem kCont_ap  (ρ : List Sl) (p : Pen) : kCont  ρ p = (.ok (.ct, ρ, p)) := (rfl)
@[simp] theorem kFrz_ap (is : List Nat) (m : KS) (ρ : List Sl) (p : Pen) : kFrz is m ρ p = (m (frzAll is ρ) p) := (rfl)
@[simp] theorem kFgt_ap (is : List Nat) (m : KS) (ρ : List Sl) (p : Pen) : kFgt is m ρ p = (m (fgtAll is ρ) p) := (rfl)
@[simp] theorem kAft_ap (is : List Nat) (m : KS) (ρ : List Sl) (p : Pen) : kAft is m ρ p = (do
  let r ← m ρ p
  pure (r.1, fgtAll is r.2.1, r.2.2)) := (rfl)
@[simp] theorem kXV_ap (m : KE) (ρ : List Sl) (p : Pen) : kXV m ρ p = (do
  let a ← m ρ p
  pure (.val a.1, a.2)) := (rfl)
@[simp] theorem kXF_ap (m : KL) (ρ : List Sl) (p : Pen) : kXF m ρ p = (do
  let a ← m ρ p
  pure (.own a.1, a.2)) := (rfl)
@[simp] theorem kDic0_ap  (ρ : List Sl) (p : Pen) : kDic0  ρ p = (.ok (.ownd [] [], p)) := (rfl)
@[simp] theorem kAsgX_ap (i : Nat) (m : KX) (ρ : List Sl) (p : Pen) : kAsgX i m ρ p = (do
  let a ← m ρ p
  pure (.nx, ρ.set i a.1, a.2)) := (rfl)
@[simp] theorem kPar_ap (i j : Nat) (m1 m2 : KX) (ρ : List Sl) (p : Pen) : kPar i j m1 m2 ρ p = (do
  let a ← m1 ρ p
  let b ← m2 ρ a.2
  pure (.nx, (ρ.set i a.1).set j b.1, b.2)) := (rfl)
@[simp] theorem kApp_ap (i : Nat) (m : KE) (ρ : List Sl) (p : Pen) : kApp i m ρ p = (match ρ[i]? with
  | some (.own ds) => do
    let a ← m ρ p
    if ds.length < sizeLine then pure (.nx, ρ.set i (.own (ds ++ [a.1])), a.2) else .error .stuck
  | _ => .error .stuck) := (rfl)
@[simp] theorem kSet_ap (i : Nat) (mj mv : KE) (ρ : List Sl) (p : Pen) : kSet i mj mv ρ p = (do
  let a ← mv ρ p
  match ρ[i]? with
  | some (.own ds) => do
    let b ← mj ρ a.2
    let j ← ofO (toI b.1)
    let k ← ofO (ixN ds.length j)
    pure (.nx, ρ.set i (.own (ds.set k a.1)), b.2)
  | _ => .error .stuck) := (rfl)
@[simp] theorem kRetL_ap (m : KL) (ρ : List Sl) (p : Pen) : kRetL m ρ p = (do
  let a ← m ρ p
  pure (.ret (.lst a.1), ρ, a.2)) := (rfl)
@[simp] theorem kSeqI_ap (m : KE) (ρ : List Sl) (p : Pen) : kSeqI m ρ p = (do
  let a ← m ρ p
  let ds ← ofO (toSeq a.1)
  pure (ds, a.2)) := (rfl)
@[simp] theorem kFor_ap (mi : KL) (mg : KG) (b : KS) (ρ : List Sl) (p : Pen) : kFor mi mg b ρ p = (do
  let a ← mi ρ p
  forGo mg b a.1 ρ a.2) := (rfl)
@[simp] theorem kLc_ap (vs : List Nat) (mi : KL) (mg : KG) (mt : KB) (me : KE) (ρ : List Sl) (p : Pen) : kLc vs mi mg mt me ρ p = (do
  let a ← mi ρ p
  lcGo mg mt me (fgtAll vs ρ) a.1 [] a.2) := (rfl)
@[simp] theorem kYes_ap  (ρ : List Sl) (p : Pen) : kYes  ρ p = (.ok (true, p)) := (rfl)
@[simp] theorem kLc2_ap (vs vs1 : List Nat) (mi : KL) (mg : KG) (mt : KB) (mi1 : KL) (mg1 : KG) (mt1 : KB) (me : KE) (ρ : List Sl) (p : Pen) : kLc2 vs vs1 mi mg mt mi1 mg1 mt1 me ρ p = (do
  let a ← mi ρ p
  lc2Go mg mt vs1 mi1 mg1 mt1 me (fgtAll vs ρ) a.1 [] a.2) := (rfl)
@[simp] theorem kRng1_ap (m : KE) (ρ : List Sl) (p : Pen) : kRng1 m ρ p = (do
  let a ← m ρ p
  let j ← ofO (toI a.1)
  let ds ← ofO (rgI 0 j)
  pure (ds, a.2)) := (rfl)
@[simp] theorem kRng2_ap (ma mb : KE) (ρ : List Sl) (p : Pen) : kRng2 ma mb ρ p = (do
  let a ← ma ρ p
  let b ← mb ρ a.2
  let i ← ofO (toI a.1)
  let j ← ofO (toI b.1)
  let ds ← ofO (rgI i j)
  pure (ds, b.2)) := (rfl)
@[simp] theorem kLstR_ap (m : KL) (ρ : List Sl) (p : Pen) : kLstR m ρ p = (do
  let a ← m ρ p
  if a.1.length ≤ 16777216 then pure (a.1, a.2) else .error .stuck) := (rfl)
@[simp] theorem kTupR_ap (m : KL) (ρ : List Sl) (p : Pen) : kTupR m ρ p = (do
  let a ← m ρ p
  if a.1.length ≤ 16777216 then pure (.tup a.1, a.2) else .error .stuck) := (rfl)
@[simp] theorem kZip_ap (ma mb : KE) (ρ : List Sl) (p : Pen) : kZip ma mb ρ p = (do
  let a ← ma ρ p
  let b ← mb ρ a.2
  let ds ← ofO (zipA a.1 b.1)
  pure (ds, b.2)) := (rfl)
@[simp] theorem kSgn_ap (m : KE) (ρ : List Sl) (p : Pen) : kSgn m ρ p = (do
  let a ← m ρ p
  let z ← ofO (toS a.1)
  pure (sgD z, a.2)) := (rfl)
@[simp] theorem kEnum_ap (m : KE) (ρ : List Sl) (p : Pen) : kEnum m ρ p = (do
  let a ← m ρ p
  let ds ← ofO (toSeq a.1)
  pure (enD ds, a.2)) := (rfl)
@[simp] theorem mFn_ap (n : Nat) (b : KS) (ds : List D) : mFn n b ds = (do
  let r ← b (ρ0 n ds) pen0
  fin1 r) := (rfl)
@[simp] theorem mPn_ap (n : Nat) (b : KS) (ds : List D) (p : Pen) : mPn n b ds p = (do
  let r ← b (.pen :: ρ0 (n - 1) ds) p
  let d ← fin1 r
  pure (d, r.2.2)) := (rfl)
@[simp] theorem kCall_ap (n : Nat) (m : KF) (dds : List D) (ml : KL) (ρ : List Sl) (p : Pen) : kCall n m dds ml ρ p = (do
  let a ← ml ρ p
  if (a.1 ++ dds).length = n then do
    let d ← m (a.1 ++ dds)
    pure (d, a.2)
  else .error .stuck) := (rfl)
@[simp] theorem kCallM_ap (i n : Nat) (m : KM) (dds : List D) (ml : KL) (ρ : List Sl) (p : Pen) : kCallM i n m dds ml ρ p = (match ρ[i]? with
  | some .pen => do
    let a ← ml ρ p
    if (a.1 ++ dds).length = n then m (a.1 ++ dds) a.2 else .error .stuck
  | _ => .error .stuck) := (rfl)
@[simp] theorem kBm_ap (T : String) (op : D → List D → Option D) (mo : KE) (ml : KL) (ρ : List Sl) (p : Pen) : kBm T op mo ml ρ p = (do
  let a ← mo ρ p
  if tyD T a.1 = true then do
    let b ← ml ρ a.2
    let d ← ofO (op a.1 b.1)
    pure (d, b.2)
  else .error .stuck) := (rfl)
@[simp] theorem kDO_ap (i : Nat) (ρ : List Sl) (p : Pen) : kDO i ρ p = (match ρ[i]? with
  | some (.ownd ks ds) => .ok ((ks, ds), p)
  | _ => .error .stuck) := (rfl)
@[simp] theorem kDV_ap (m : KE) (ρ : List Sl) (p : Pen) : kDV m ρ p = (do
  let a ← m ρ p
  let ds ← ofO (toDic a.1)
  pure (ds, a.2)) := (rfl)
@[simp] theorem kDIt_ap (md : KDx) (mk : KE) (ρ : List Sl) (p : Pen) : kDIt md mk ρ p = (do
  let a ← md ρ p
  let b ← mk ρ a.2
  let k ← ofO (keyD b.1)
  let d ← ofO (dlk a.1.1 a.1.2 k)
  pure (d, b.2)) := (rfl)
@[simp] theorem kDGe_ap (md : KDx) (mk mf : KE) (ρ : List Sl) (p : Pen) : kDGe md mk mf ρ p = (do
  let a ← md ρ p
  let b ← mk ρ a.2
  let f ← mf ρ b.2
  let k ← ofO (keyD b.1)
  pure ((dlk a.1.1 a.1.2 k).getD f.1, f.2)) := (rfl)
@[simp] theorem kDIn_ap (f : Bool → Bool) (mk : KE) (md : KDx) (ρ : List Sl) (p : Pen) : kDIn f mk md ρ p = (do
  let b ← mk ρ p
  let a ← md ρ b.2
  let k ← ofO (keyD b.1)
  pure (.bl (f (dlk a.1.1 a.1.2 k).isSome), a.2)) := (rfl)
@[simp] theorem kDSet_ap (i : Nat) (mk mv : KE) (ρ : List Sl) (p : Pen) : kDSet i mk mv ρ p = (do
  let a ← mv ρ p
  match ρ[i]? with
  | some (.ownd ks ds) => do
    let b ← mk ρ a.2
    let k ← ofO (keyD b.1)
    if ks.length < sizeLine then pure (.nx, ρ.set i (.ownd (dput ks ds k a.1).1 (dput ks ds k a.1).2), b.2) else .error .stuck
  | _ => .error .stuck) := (rfl)
@[simp] theorem kDKs_ap (md : KDx) (ρ : List Sl) (p : Pen) : kDKs md ρ p = (do
  let a ← md ρ p
  pure (a.1.1.map rdk, a.2)) := (rfl)
@[simp] theorem kAppPop_ap (i j : Nat) (m : KE) (ρ : List Sl) (p : Pen) : kAppPop i j m ρ p = (match ρ[i]?, ρ[j]? with
  | some (.own fs), some (.own ls) => do
    let a ← m ρ p
    let z ← ofO (toI a.1)
    let k ← ofO (ixN ls.length z)
    let d ← ofO ls[k]?
    if i ≠ j ∧ -(2 ^ 63) ≤ z ∧ z < 2 ^ 63 ∧ fs.length < sizeLine then pure (.nx, (ρ.set j (.own (ls.eraseIdx k))).set i (.own (fs ++ [d])), a.2) else .error .stuck
  | _, _ => .error .stuck) := (rfl)
@[simp] theorem kRaise_ap (x : Nat) (ml : KL) (ρ : List Sl) (p : Pen) : kRaise x ml ρ p = (do
  let a ← ml ρ p
  if a.1.length ≤ 800 then .error (.exn x a.1.reverse) else .error .stuck) := (rfl)
@[simp] theorem kXC_ap (m : KL) (ρ : List Sl) (p : Pen) : kXC m ρ p = (do
  let a ← m ρ p
  pure (.cln (.tup a.1), a.2)) := (rfl)
@[simp] theorem kCix_ap (i : Nat) (m : KE) (ρ : List Sl) (p : Pen) : kCix i m ρ p = (match ρ[i]? with
  | some (.cln (.tup ds)) => do
    let a ← m ρ p
    if fit a.1 = true ∧ fit (.lst ds) = true then do
      let j ← ofO (ds.findIdx? (eqN a.1))
      pure (.int (j : Nat), a.2)
    else .error .stuck
  | _ => .error .stuck) := (rfl)
@[simp] theorem kPen_ap (i : Nat) (k : Str) (ρ : List Sl) (p : Pen) : kPen i k ρ p = (match ρ[i]? with
  | some .pen => do
    let d ← ofO (penF p k)
    pure (d, p)
  | _ => .error .stuck) := (rfl)
@[simp] theorem kCells_ap (i : Nat) (ρ : List Sl) (p : Pen) : kCells i ρ p = (match ρ[i]?, p with
  | some .pen, .pn cs _ _ _ _ => .ok (cs.map D.int, p)
  | _, _ => .error .stuck) := (rfl)
@[simp] theorem kPenS_ap (i : Nat) (k : Str) (m : KE) (ρ : List Sl) (p : Pen) : kPenS i k m ρ p = (do
  let a ← m ρ p
  match ρ[i]? with
  | some .pen => do
    let p' ← ofO (penW a.2 k a.1)
    pure (.nx, ρ, p')
  | _ => .error .stuck) := (rfl)
@[simp] theorem kFld_ap (i : Nat) (nn : Nat) (k : Str) (ρ : List Sl) (p : Pen) : kFld i nn k ρ p = (match ρ[i]?, p with
  | some .pen, .ob n fs => if n = nn then do
      let d ← ofO (fs.lookup k)
      pure (d, .ob n fs)
    else .error .stuck
  | _, _ => .error .stuck) := (rfl)
@[simp] theorem kFldS_ap (i nn : Nat) (k : Str) (m : KE) (ρ : List Sl) (p : Pen) : kFldS i nn k m ρ p = (do
  let a ← m ρ p
  match ρ[i]?, a.2 with
  | some .pen, .ob n fs => if n = nn ∧ isSca a.1 = true ∧ fs.length < 1000 then pure (.nx, ρ, .ob n (putD k a.1 fs)) else .error .stuck
  | _, _ => .error .stuck) := (rfl)
@[simp] theorem kMeth_ap (i nn : Nat) (mn : Str) (n : Nat) (km : KM) (ml : KL) (ρ : List Sl) (p : Pen) : kMeth i nn mn n km ml ρ p = (match ρ[i]?, p with
  | some .pen, .ob n0 fs => if n0 = nn ∧ (fs.lookup mn).isNone = true then do
      let a ← ml ρ (.ob n0 fs)
      if a.1.length = n then km a.1 a.2 else .error .stuck
    else .error .stuck
  | _, _ => .error .stuck) := (rfl)
@[simp] theorem kFocus_ap (i nn n : Nat) (km : KM) (ml : KL) (mr : KS) (ρ : List Sl) (p : Pen) : kFocus i nn n km ml mr ρ p = (do
  let a ← ml ρ p
  if a.1.length = n then do
    let r ← km a.1 (.ob nn [])
    let z ← mr ((plainSs ρ).set i .pen) r.2
    match z.1 with
    | .ret d => pure (.ret d, ρ, a.2)
    | _ => .error .stuck
  else .error .stuck) := (rfl)
@[simp] theorem kSrtS_ap (ml : KL) (ρ : List Sl) (p : Pen) : kSrtS ml ρ p = (do
  let a ← ml ρ p
  let zs ← ofO (allS a.1)
  if zs.length ≤ 4000 then pure ((sortS (news zs)).map D.str, a.2) else .error .stuck) := (rfl)
@[simp] theorem kChain_ap (op op' : D → D → Option D) (ma mb mc : KE) (ρ : List Sl) (p : Pen) : kChain op op' ma mb mc ρ p = (do
  let a ← ma ρ p
  let b ← mb ρ a.2
  let d ← ofO (op a.1 b.1)
  let k ← ofO (toB d)
  if k = true then do
    let c ← mc ρ b.2
    let r ← ofO (op' b.1 c.1)
    pure (r, c.2)
  else pure (.bl false, b.2)) := (rfl)
@[simp] theorem kTIn_ap (flip : Bool) (kvs : List (Str × D)) (ma : KE) (ρ : List Sl) (p : Pen) : kTIn flip kvs ma ρ p = (do
  let a ← ma ρ p
  let z ← ofO (toS a.1)
  pure (.bl (flip != (kvs.lookup z).isSome), a.2)) := (rfl)
@[simp] theorem kTGet_ap (kvs : List (Str × D)) (ma : KE) (ρ : List Sl) (p : Pen) : kTGet kvs ma ρ p = (do
  let a ← ma ρ p
  let z ← ofO (toS a.1)
  let d ← ofO (kvs.lookup z)
  pure (d, a.2)) := (rfl)
@[simp] theorem kAug_ap (i : Nat) (op : D → D → Option D) (m : KE) (ρ : List Sl) (p : Pen) : kAug i op m ρ p = (do
  let x ← kVar i ρ p
  let a ← m ρ x.2
  let d ← ofO (op x.1 a.1)
  pure (.nx, ρ.set i (.val d), a.2)) := (rfl)
@[simp] theorem kFlds_ap (i nn : Nat) (ks : List Str) (ml : KL) (ρ : List Sl) (p : Pen) : kFlds i nn ks ml ρ p = (do
  let a ← ml ρ p
  match ρ[i]?, a.2 with
  | some .pen, .ob n fs => if n = nn ∧ a.1.length = ks.length ∧ a.1.length ≤ sizeLine ∧ (a.1.all isSca) = true ∧ fs.length + ks.length < 1000 then pure (.nx, ρ, .ob n (putAll ks a.1 fs)) else .error .stuck
  | _, _ => .error .stuck) := (rfl)
@[simp] theorem kWhy_ap (cl : List WC) (i : Nat) (m : KE) (ρ : List Sl) (p : Pen) : kWhy cl i m ρ p = (match ρ[i]?, p with
  | some .pen, .pn cs at_ dg ct fo => (match m (plainSs ρ) pen0 with
    | .ok _ => .ok (.non, .pn cs at_ dg ct fo)
    | .error (.exn x ds) => do
      let c ← ofO (wcOf cl x)
      let l ← ofO (wfs c.fl ds c.fs)
      if l.length < sizeLine then pure (.tup (.str c.word :: l), .pn cs at_ dg ct fo) else .error .stuck
    | .error .stuck => .error .stuck)
  | _, _ => .error .stuck) := (rfl)
end Dn
end
section
set_option Elab.async false
set_option linter.all false
set_option maxRecDepth 100000
set_option maxHeartbeats 400000
namespace Dn
open PySem PySem.Spec L2
/-! ### reckoning with mirrors -/
@[simp] theorem ok_bind {α β : Type} (a : α) (f : α → R β) : ((Except.ok a : R α) >>= f) = f a := (rfl)
@[simp] theorem er_bind {α β : Type} (e : Er) (f : α → R β) : ((Except.error e : R α) >>= f) = .error e := (rfl)
@[simp] theorem pure_R {α : Type} (a : α) : (pure a : R α) = .ok a := (rfl)
@[simp] theorem ofO_some {α : Type} (a : α) : ofO (some a) = .ok a := (rfl)
@[simp] theorem ofO_none {α : Type} : ofO (none : Option α) = .error .stuck := (rfl)
@[simp] theorem unx_ok {α : Type} (a : α) : unx (Except.ok a : R α) = .ok a := (rfl)
@[simp] theorem fin1_ret (d : D) (x : List Sl × Pen) : fin1 (.ret d, x) = .ok d := (rfl)
@[simp] theorem fin1_nx (x : List Sl × Pen) : fin1 (.nx, x) = .ok .non := (rfl)
@[simp] theorem toB_bl (b : Bool) : toB (.bl b) = some b := (rfl)
@[simp] theorem toI_int (b : Int) : toI (.int b) = some b := (rfl)
@[simp] theorem toS_str (b : Str) : toS (.str b) = some b := (rfl)
@[simp] theorem toL_lst (b : List D) : toL (.lst b) = some b := (rfl)
@[simp] theorem toSeq_lst (b : List D) : toSeq (.lst b) = some b := (rfl)
@[simp] theorem toSeq_tup (b : List D) : toSeq (.tup b) = some b := (rfl)
@[simp] theorem subD_int (i j : Int) : subD (.int i) (.int j) = some (.int (i - j)) := (rfl)
@[simp] theorem mulI_int (i j : Int) : mulI (.int i) (.int j) = if CMul i j then some (.int (i * j)) else none := (rfl)
@[simp] theorem fdivD_int (i j : Int) : fdivD (.int i) (.int j) = if CDiv i j then some (.int (i / j)) else none := (rfl)
@[simp] theorem modD_int (i j : Int) : modD (.int i) (.int j) = if 0 < j then some (.int (i % j)) else none := (rfl)
@[simp] theorem powD_int (i j : Int) : powD (.int i) (.int j) = if CPow i j then some (.int (i ^ j.toNat)) else none := (rfl)
@[simp] theorem ltD_int (i j : Int) : ltD (.int i) (.int j) = some (.bl (decide (i < j))) := (rfl)
@[simp] theorem leD_int (i j : Int) : leD (.int i) (.int j) = some (.bl (decide (i ≤ j))) := (rfl)
@[simp] theorem gtD_int (i j : Int) : gtD (.int i) (.int j) = some (.bl (decide (j < i))) := (rfl)
@[simp] theorem geD_int (i j : Int) : geD (.int i) (.int j) = some (.bl (decide (j ≤ i))) := (rfl)
@[simp] theorem addD_int (i j : Int) : addD (.int i) (.int j) = some (.int (i + j)) := (rfl)
@[simp] theorem addI_int (i j : Int) : addI (.int i) (.int j) = some (.int (i + j)) := (rfl)
@[simp] theorem addD_str (i j : Str) : addD (.str i) (.str j) = if i.length + j.length ≤ sizeLine then some (.str (i ++ j)) else none := (rfl)
@[simp] theorem addD_tup (a b : List D) : addD (.tup a) (.tup b) = if a.length + b.length ≤ sizeLine then some (.tup (a ++ b)) else none := (rfl)
@[simp] theorem addD_lst (a b : List D) : addD (.lst a) (.lst b) = if a.length + b.length ≤ sizeLine then some (.lst (a ++ b)) else none := (rfl)
@[simp] theorem negD_int (i : Int) : negD (.int i) = some (.int (-i)) := (rfl)
@[simp] theorem notD_bl (b : Bool) : notD (.bl b) = some (.bl (!b)) := (rfl)
@[simp] theorem intD_int (i : Int) : intD [.int i] = some (.int i) := (rfl)
@[simp] theorem lenD_tup (a : List D) : lenD [.tup a] = some (.int a.length) := (rfl)
@[simp] theorem lenD_lst (a : List D) : lenD [.lst a] = some (.int a.length) := (rfl)
@[simp] theorem lenD_str (z : Str) : lenD [.str z] = if z.length ≤ sizeLine then some (.int z.length) else none := (rfl)
@[simp] theorem lenL_eq (a : List D) : lenL a = some (.int a.length) := (rfl)
@[simp] theorem tupL_eq (a : List D) : tupL a = some (.tup a) := (rfl)
@[simp] theorem tupD_tup (a : List D) : tupD [.tup a] = some (.tup a) := (rfl)
@[simp] theorem tupD_lst (a : List D) : tupD [.lst a] = some (.tup a) := (rfl)
@[simp] theorem lstD_tup (a : List D) : lstD [.tup a] = some a := (rfl)
@[simp] theorem lstD_lst (a : List D) : lstD [.lst a] = some a := (rfl)
@[simp] theorem isD_non (a : D) : isD a .non = some (.bl (decide (a = .non))) := (rfl)
@[simp] theorem isD_bl (a : D) (b : Bool) : isD a (.bl b) = some (.bl (decide (a = .bl b))) := (rfl)
@[simp] theorem isNotD_non (a : D) : isNotD a .non = some (.bl (!decide (a = .non))) := (rfl)
@[simp] theorem isNotD_bl (a : D) (b : Bool) : isNotD a (.bl b) = some (.bl (!decide (a = .bl b))) := (rfl)
@[simp] theorem isi1 (i : Int) : isiB (.int i) .int = some true := (rfl)
@[simp] theorem isi2 (i : Bool) : isiB (.bl i) .int = some true := (rfl)
@[simp] theorem isi3 (i : Str) : isiB (.str i) .int = some false := (rfl)
@[simp] theorem isi4 : isiB .non .int = some false := (rfl)
@[simp] theorem isi5 (a : List D) : isiB (.tup a) .int = some false := (rfl)
@[simp] theorem isi6 (a : List D) : isiB (.lst a) .int = some false := (rfl)
@[simp] theorem isi7 (i : Int) : isiB (.int i) .bool = some false := (rfl)
@[simp] theorem isi8 (i : Bool) : isiB (.bl i) .bool = some true := (rfl)
@[simp] theorem isi9 (i : Str) : isiB (.str i) .bool = some false := (rfl)
@[simp] theorem isi10 : isiB .non .bool = some false := (rfl)
@[simp] theorem isi11 (a : List D) : isiB (.tup a) .bool = some false := (rfl)
@[simp] theorem isi12 (a : List D) : isiB (.lst a) .bool = some false := (rfl)
@[simp] theorem isi13 (i : Int) : isiB (.int i) .str = some false := (rfl)
@[simp] theorem isi14 (i : Bool) : isiB (.bl i) .str = some false := (rfl)
@[simp] theorem isi15 (i : Str) : isiB (.str i) .str = some true := (rfl)
@[simp] theorem isi16 : isiB .non .str = some false := (rfl)
@[simp] theorem isi17 (a : List D) : isiB (.tup a) .str = some false := (rfl)
@[simp] theorem isi18 (a : List D) : isiB (.lst a) .str = some false := (rfl)
@[simp] theorem isi19 (i : Int) : isiB (.int i) .tuple = some false := (rfl)
@[simp] theorem isi20 (i : Bool) : isiB (.bl i) .tuple = some false := (rfl)
@[simp] theorem isi21 (i : Str) : isiB (.str i) .tuple = some false := (rfl)
@[simp] theorem isi22 : isiB .non .tuple = some false := (rfl)
@[simp] theorem isi23 (a : List D) : isiB (.tup a) .tuple = some true := (rfl)
@[simp] theorem isi24 (a : List D) : isiB (.lst a) .tuple = some false := (rfl)
@[simp] theorem isi25 (i : Int) : isiB (.int i) .list = some false := (rfl)
@[simp] theorem isi26 (i : Bool) : isiB (.bl i) .list = some false := (rfl)
@[simp] theorem isi27 (i : Str) : isiB (.str i) .list = some false := (rfl)
@[simp] theorem isi28 : isiB .non .list = some false := (rfl)
@[simp] theorem isi29 (a : List D) : isiB (.tup a) .list = some false := (rfl)
@[simp] theorem isi30 (a : List D) : isiB (.lst a) .list = some true := (rfl)
/-! comparing -/
theorem eqD_scal {a b : D} (h : scalD a b = true) : eqD a b = some (.bl (decide (a = b))) := by unfold eqD eqB; rw [if_pos h]; rfl
theorem neD_scal {a b : D} (h : scalD a b = true) : neD a b = some (.bl (!decide (a = b))) := by unfold neD eqB; rw [if_pos h]; rfl
@[simp] theorem eqD_ii (a b : Int) : eqD (.int a) (.int b) = some (.bl (decide (a = b))) := by rw [eqD_scal rfl]; simp
@[simp] theorem neD_ii (a b : Int) : neD (.int a) (.int b) = some (.bl (!decide (a = b))) := by rw [neD_scal rfl]; simp
@[simp] theorem eqD_ss (a b : Str) : eqD (.str a) (.str b) = some (.bl (decide (a = b))) := by rw [eqD_scal rfl]; simp
@[simp] theorem neD_ss (a b : Str) : neD (.str a) (.str b) = some (.bl (!decide (a = b))) := by rw [neD_scal rfl]; simp
@[simp] theorem eqD_bb (a b : Bool) : eqD (.bl a) (.bl b) = some (.bl (decide (a = b))) := by rw [eqD_scal rfl]; simp
@[simp] theorem eqD_is (a : Int) (b : Str) : eqD (.int a) (.str b) = some (.bl false) := by rw [eqD_scal rfl]; simp
@[simp] theorem eqD_si (a : Str) (b : Int) : eqD (.str a) (.int b) = some (.bl false) := by rw [eqD_scal rfl]; simp
@[simp] theorem neD_in (a : Int) : neD (.int a) .non = some (.bl true) := by rw [neD_scal rfl]; simp
@[simp] theorem neD_ni (a : Int) : neD .non (.int a) = some (.bl true) := by rw [neD_scal rfl]; simp
/-! items, slices -/
theorem atI_nat {α : Type} (xs : List α) (i : Nat) : atI xs (i : Int) = xs[i]? := by
  unfold atI ixN
  rw [if_pos (Int.natCast_nonneg i)]
  by_cases h : i < xs.length
  · rw [if_pos (by omega)]
    simp
  · rw [if_neg (by omega)]
    simp
    omega
@[simp] theorem atI_0 {α : Type} (xs : List α) : atI xs 0 = xs[0]? := atI_nat xs 0
@[simp] theorem atI_1 {α : Type} (xs : List α) : atI xs 1 = xs[1]? := atI_nat xs 1
@[simp] theorem atI_2 {α : Type} (xs : List α) : atI xs 2 = xs[2]? := atI_nat xs 2
@[simp] theorem atI_3 {α : Type} (xs : List α) : atI xs 3 = xs[3]? := atI_nat xs 3
@[simp] theorem atI_4 {α : Type} (xs : List α) : atI xs 4 = xs[4]? := atI_nat xs 4
@[simp] theorem ixD_tup (ds : List D) (i : Int) : ixD (.tup ds) (.int i) = atI ds i := (rfl)
@[simp] theorem ixD_lst (ds : List D) (i : Int) : ixD (.lst ds) (.int i) = atI ds i := (rfl)
theorem sIx_nat' {n d k : Nat} : HT.sIx n d (some (k : Int)) = min k n := HT.sIx_nat n d k
theorem cutA_from {α : Type} (xs : List α) (k : Nat) : cutA xs (some (k : Int)) none = xs.drop k := by
  unfold cutA
  rw [HT.sIx_nat, HT.sIx_none]
  rw [List.take_of_length_le (by simp)]
  by_cases h : k ≤ xs.length
  · rw [Nat.min_eq_left h]
  · rw [Nat.min_eq_right (by omega), List.drop_of_length_le (Nat.le_refl _), List.drop_of_length_le (by omega)]
theorem cutA_to {α : Type} (xs : List α) (k : Nat) : cutA xs none (some (k : Int)) = xs.take k := by
  unfold cutA
  rw [HT.sIx_nat, HT.sIx_none, List.drop_zero, Nat.sub_zero]
  by_cases h : k ≤ xs.length
  · rw [Nat.min_eq_left h]
  · rw [Nat.min_eq_right (by omega), List.take_of_length_le (Nat.le_refl _), List.take_of_length_le (by omega)]
@[simp] theorem cutA_f1 {α : Type} (xs : List α) : cutA xs (some 1) none = xs.drop 1 := cutA_from xs 1
@[simp] theorem cutA_f2 {α : Type} (xs : List α) : cutA xs (some 2) none = xs.drop 2 := cutA_from xs 2
@[simp] theorem cutA_f3 {α : Type} (xs : List α) : cutA xs (some 3) none = xs.drop 3 := cutA_from xs 3
@[simp] theorem cutA_t1 {α : Type} (xs : List α) : cutA xs none (some 1) = xs.take 1 := cutA_to xs 1
@[simp] theorem sliceD_tup (ds : List D) (l h : Option Int) : sliceD (.tup ds) l h = some (.tup (cutA ds l h)) := (rfl)
@[simp] theorem sliceD_lst (ds : List D) (l h : Option Int) : sliceD (.lst ds) l h = some (.lst (cutA ds l h)) := (rfl)
theorem line_val : sizeLine = 16777216 := by decide
@[simp] theorem le_line (n : Nat) : (n ≤ sizeLine) = (n ≤ 16777216) := by rw [line_val]
@[simp] theorem lt_line (n : Nat) : (n < sizeLine) = (n < 16777216) := by rw [line_val]
@[simp] theorem look_if {α : Type} (k k' : Str) (v : α) (es : List (Str × α)) : List.lookup k ((k', v) :: es) = if k = k' then some v else List.lookup k es := by
  rw [List.lookup_cons]
  by_cases h : k = k'
  · rw [if_pos h, beq_iff_eq.mpr h]
  · rw [if_neg h, beq_eq_false_iff_ne.mpr h]
/-! slots -/
@[simp] theorem ρ0_eq (n : Nat) (ds : List D) : ρ0 n ds = ds.map Sl.val ++ List.replicate (n - ds.length) .no := (rfl)
@[simp] theorem frzAll_nil (ρ : List Sl) : frzAll [] ρ = ρ := (rfl)
@[simp] theorem frzAll_cons (i : Nat) (is : List Nat) (ρ : List Sl) : frzAll (i :: is) ρ = frzAll is (frzAt i ρ) := (rfl)
@[simp] theorem fgtAll_nil (ρ : List Sl) : fgtAll [] ρ = ρ := (rfl)
@[simp] theorem fgtAll_cons (i : Nat) (is : List Nat) (ρ : List Sl) : fgtAll (i :: is) ρ = fgtAll is (ρ.set i .no) := (rfl)
@[simp] theorem frzS_own (ds : List D) : frzS (.own ds) = .val (.lst ds) := (rfl)
@[simp] theorem frzS_val (d : D) : frzS (.val d) = .val d := (rfl)
@[simp] theorem frzAt_eq (i : Nat) (ρ : List Sl) : frzAt i ρ = match ρ[i]? with
  | some s => ρ.set i (frzS s)
  | none => ρ := (rfl)
/-! `all`, `sorted`: over written-out lists -/
@[simp] theorem allL_bls (bs : List Bool) : allL (bs.map D.bl) = some (.bl (bs.all id)) := by
  have h : blsOf (bs.map D.bl) = some bs := by
    induction bs with
    | nil => rfl
    | cons b r ih =>
      show (match toB (.bl b), blsOf (r.map D.bl) with | some b, some bs => some (b :: bs) | _, _ => none) = some (b :: r)
      rw [ih]
      rfl
  unfold allL
  rw [h]
  rfl
end Dn
end
section
set_option Elab.async false
set_option linter.all false
set_option maxRecDepth 100000
set_option maxHeartbeats 400000
namespace K60
open PySem PySem.Spec L2 Dn
/-! ### words, numbers, heads -/
theorem whole_int (v lo hi : Int) : m_is_whole [.int v, .int lo, .int hi] = .ok (.bl (decide (lo ≤ v ∧ v ≤ hi))) := by
  simp [m_is_whole, b_is_whole]
  by_cases h : v < lo
  · simp [h]
    omega
  · simp [h]
    by_cases h2 : v ≤ hi <;> simp [h2] <;> omega
theorem whole_bl (b : Bool) (lo hi : Int) : m_is_whole [.bl b, .int lo, .int hi] = .ok (.bl false) := by
  simp [m_is_whole, b_is_whole]
theorem whole_non (lo hi : Int) : m_is_whole [.non, .int lo, .int hi] = .ok (.bl false) := by
  simp [m_is_whole, b_is_whole]
theorem head_ok (n : Int) (h : 1 ≤ n ∧ n ≤ 30) : m_is_head [.tup [.str "crowd", .int n]] = .ok (.bl true) := by
  simp [m_is_head, b_is_head, whole_int, h]
end K60
end
section
set_option Elab.async false
set_option linter.all false
set_option maxRecDepth 100000
set_option maxHeartbeats 400000
namespace K60
open PySem PySem.Spec L2 Dn
/-! ### unlike words -/
@[simp] theorem wq0 : ((Str.ofString "crowd") = Str.ofString "meet") = False := eq_false (by decide)
@[simp] theorem wb0 : ((Str.ofString "crowd") == Str.ofString "meet") = false := by decide
@[simp] theorem wq1 : ((Str.ofString "crowd") = Str.ofString "shout") = False := eq_false (by decide)
@[simp] theorem wb1 : ((Str.ofString "crowd") == Str.ofString "shout") = false := by decide
@[simp] theorem wq2 : ((Str.ofString "crowd") = Str.ofString "hear") = False := eq_false (by decide)
@[simp] theorem wb2 : ((Str.ofString "crowd") == Str.ofString "hear") = false := by decide
@[simp] theorem wq3 : ((Str.ofString "crowd") = Str.ofString "size") = False := eq_false (by decide)
@[simp] theorem wb3 : ((Str.ofString "crowd") == Str.ofString "size") = false := by decide
@[simp] theorem wq4 : ((Str.ofString "crowd") = Str.ofString "shouter") = False := eq_false (by decide)
@[simp] theorem wb4 : ((Str.ofString "crowd") == Str.ofString "shouter") = false := by decide
@[simp] theorem wq5 : ((Str.ofString "crowd") = Str.ofString "letter") = False := eq_false (by decide)
@[simp] theorem wb5 : ((Str.ofString "crowd") == Str.ofString "letter") = false := by decide
@[simp] theorem wq6 : ((Str.ofString "crowd") = Str.ofString "last") = False := eq_false (by decide)
@[simp] theorem wb6 : ((Str.ofString "crowd") == Str.ofString "last") = false := by decide
@[simp] theorem wq7 : ((Str.ofString "crowd") = Str.ofString "is_hand") = False := eq_false (by decide)
@[simp] theorem wb7 : ((Str.ofString "crowd") == Str.ofString "is_hand") = false := by decide
@[simp] theorem wq8 : ((Str.ofString "crowd") = Str.ofString "can_hear") = False := eq_false (by decide)
@[simp] theorem wb8 : ((Str.ofString "crowd") == Str.ofString "can_hear") = false := by decide
@[simp] theorem wq9 : ((Str.ofString "crowd") = Str.ofString "is_event") = False := eq_false (by decide)
@[simp] theorem wb9 : ((Str.ofString "crowd") == Str.ofString "is_event") = false := by decide
@[simp] theorem wq10 : ((Str.ofString "crowd") = Str.ofString "take") = False := eq_false (by decide)
@[simp] theorem wb10 : ((Str.ofString "crowd") == Str.ofString "take") = false := by decide
@[simp] theorem wq11 : ((Str.ofString "meet") = Str.ofString "crowd") = False := eq_false (by decide)
@[simp] theorem wb11 : ((Str.ofString "meet") == Str.ofString "crowd") = false := by decide
@[simp] theorem wq12 : ((Str.ofString "meet") = Str.ofString "shout") = False := eq_false (by decide)
@[simp] theorem wb12 : ((Str.ofString "meet") == Str.ofString "shout") = false := by decide
@[simp] theorem wq13 : ((Str.ofString "meet") = Str.ofString "hear") = False := eq_false (by decide)
@[simp] theorem wb13 : ((Str.ofString "meet") == Str.ofString "hear") = false := by decide
@[simp] theorem wq14 : ((Str.ofString "meet") = Str.ofString "size") = False := eq_false (by decide)
@[simp] theorem wb14 : ((Str.ofString "meet") == Str.ofString "size") = false := by decide
@[simp] theorem wq15 : ((Str.ofString "meet") = Str.ofString "shouter") = False := eq_false (by decide)
@[simp] theorem wb15 : ((Str.ofString "meet") == Str.ofString "shouter") = false := by decide
@[simp] theorem wq16 : ((Str.ofString "meet") = Str.ofString "letter") = False := eq_false (by decide)
@[simp] theorem wb16 : ((Str.ofString "meet") == Str.ofString "letter") = false := by decide
@[simp] theorem wq17 : ((Str.ofString "meet") = Str.ofString "last") = False := eq_false (by decide)
@[simp] theorem wb17 : ((Str.ofString "meet") == Str.ofString "last") = false := by decide
@[simp] theorem wq18 : ((Str.ofString "meet") = Str.ofString "is_hand") = False := eq_false (by decide)
@[simp] theorem wb18 : ((Str.ofString "meet") == Str.ofString "is_hand") = false := by decide
@[simp] theorem wq19 : ((Str.ofString "meet") = Str.ofString "can_hear") = False := eq_false (by decide)
@[simp] theorem wb19 : ((Str.ofString "meet") == Str.ofString "can_hear") = false := by decide
@[simp] theorem wq20 : ((Str.ofString "meet") = Str.ofString "is_event") = False := eq_false (by decide)
@[simp] theorem wb20 : ((Str.ofString "meet") == Str.ofString "is_event") = false := by decide
@[simp] theorem wq21 : ((Str.ofString "meet") = Str.ofString "take") = False := eq_false (by decide)
@[simp] theorem wb21 : ((Str.ofString "meet") == Str.ofString "take") = false := by decide
@[simp] theorem wq22 : ((Str.ofString "shout") = Str.ofString "crowd") = False := eq_false (by decide)
@[simp] theorem wb22 : ((Str.ofString "shout") == Str.ofString "crowd") = false := by decide
@[simp] theorem wq23 : ((Str.ofString "shout") = Str.ofString "meet") = False := eq_false (by decide)
@[simp] theorem wb23 : ((Str.ofString "shout") == Str.ofString "meet") = false := by decide
@[simp] theorem wq24 : ((Str.ofString "shout") = Str.ofString "hear") = False := eq_false (by decide)
@[simp] theorem wb24 : ((Str.ofString "shout") == Str.ofString "hear") = false := by decide
@[simp] theorem wq25 : ((Str.ofString "shout") = Str.ofString "size") = False := eq_false (by decide)
@[simp] theorem wb25 : ((Str.ofString "shout") == Str.ofString "size") = false := by decide
@[simp] theorem wq26 : ((Str.ofString "shout") = Str.ofString "shouter") = False := eq_false (by decide)
@[simp] theorem wb26 : ((Str.ofString "shout") == Str.ofString "shouter") = false := by decide
@[simp] theorem wq27 : ((Str.ofString "shout") = Str.ofString "letter") = False := eq_false (by decide)
@[simp] theorem wb27 : ((Str.ofString "shout") == Str.ofString "letter") = false := by decide
@[simp] theorem wq28 : ((Str.ofString "shout") = Str.ofString "last") = False := eq_false (by decide)
@[simp] theorem wb28 : ((Str.ofString "shout") == Str.ofString "last") = false := by decide
@[simp] theorem wq29 : ((Str.ofString "shout") = Str.ofString "is_hand") = False := eq_false (by decide)
@[simp] theorem wb29 : ((Str.ofString "shout") == Str.ofString "is_hand") = false := by decide
@[simp] theorem wq30 : ((Str.ofString "shout") = Str.ofString "can_hear") = False := eq_false (by decide)
@[simp] theorem wb30 : ((Str.ofString "shout") == Str.ofString "can_hear") = false := by decide
@[simp] theorem wq31 : ((Str.ofString "shout") = Str.ofString "is_event") = False := eq_false (by decide)
@[simp] theorem wb31 : ((Str.ofString "shout") == Str.ofString "is_event") = false := by decide
@[simp] theorem wq32 : ((Str.ofString "shout") = Str.ofString "take") = False := eq_false (by decide)
@[simp] theorem wb32 : ((Str.ofString "shout") == Str.ofString "take") = false := by decide
@[simp] theorem wq33 : ((Str.ofString "hear") = Str.ofString "crowd") = False := eq_false (by decide)
@[simp] theorem wb33 : ((Str.ofString "hear") == Str.ofString "crowd") = false := by decide
@[simp] theorem wq34 : ((Str.ofString "hear") = Str.ofString "meet") = False := eq_false (by decide)
@[simp] theorem wb34 : ((Str.ofString "hear") == Str.ofString "meet") = false := by decide
@[simp] theorem wq35 : ((Str.ofString "hear") = Str.ofString "shout") = False := eq_false (by decide)
@[simp] theorem wb35 : ((Str.ofString "hear") == Str.ofString "shout") = false := by decide
@[simp] theorem wq36 : ((Str.ofString "hear") = Str.ofString "size") = False := eq_false (by decide)
@[simp] theorem wb36 : ((Str.ofString "hear") == Str.ofString "size") = false := by decide
@[simp] theorem wq37 : ((Str.ofString "hear") = Str.ofString "shouter") = False := eq_false (by decide)
@[simp] theorem wb37 : ((Str.ofString "hear") == Str.ofString "shouter") = false := by decide
@[simp] theorem wq38 : ((Str.ofString "hear") = Str.ofString "letter") = False := eq_false (by decide)
@[simp] theorem wb38 : ((Str.ofString "hear") == Str.ofString "letter") = false := by decide
@[simp] theorem wq39 : ((Str.ofString "hear") = Str.ofString "last") = False := eq_false (by decide)
@[simp] theorem wb39 : ((Str.ofString "hear") == Str.ofString "last") = false := by decide
@[simp] theorem wq40 : ((Str.ofString "hear") = Str.ofString "is_hand") = False := eq_false (by decide)
@[simp] theorem wb40 : ((Str.ofString "hear") == Str.ofString "is_hand") = false := by decide
@[simp] theorem wq41 : ((Str.ofString "hear") = Str.ofString "can_hear") = False := eq_false (by decide)
@[simp] theorem wb41 : ((Str.ofString "hear") == Str.ofString "can_hear") = false := by decide
@[simp] theorem wq42 : ((Str.ofString "hear") = Str.ofString "is_event") = False := eq_false (by decide)
@[simp] theorem wb42 : ((Str.ofString "hear") == Str.ofString "is_event") = false := by decide
@[simp] theorem wq43 : ((Str.ofString "hear") = Str.ofString "take") = False := eq_false (by decide)
@[simp] theorem wb43 : ((Str.ofString "hear") == Str.ofString "take") = false := by decide
@[simp] theorem wq44 : ((Str.ofString "size") = Str.ofString "crowd") = False := eq_false (by decide)
@[simp] theorem wb44 : ((Str.ofString "size") == Str.ofString "crowd") = false := by decide
@[simp] theorem wq45 : ((Str.ofString "size") = Str.ofString "meet") = False := eq_false (by decide)
@[simp] theorem wb45 : ((Str.ofString "size") == Str.ofString "meet") = false := by decide
@[simp] theorem wq46 : ((Str.ofString "size") = Str.ofString "shout") = False := eq_false (by decide)
@[simp] theorem wb46 : ((Str.ofString "size") == Str.ofString "shout") = false := by decide
@[simp] theorem wq47 : ((Str.ofString "size") = Str.ofString "hear") = False := eq_false (by decide)
@[simp] theorem wb47 : ((Str.ofString "size") == Str.ofString "hear") = false := by decide
@[simp] theorem wq48 : ((Str.ofString "size") = Str.ofString "shouter") = False := eq_false (by decide)
@[simp] theorem wb48 : ((Str.ofString "size") == Str.ofString "shouter") = false := by decide
@[simp] theorem wq49 : ((Str.ofString "size") = Str.ofString "letter") = False := eq_false (by decide)
@[simp] theorem wb49 : ((Str.ofString "size") == Str.ofString "letter") = false := by decide
@[simp] theorem wq50 : ((Str.ofString "size") = Str.ofString "last") = False := eq_false (by decide)
@[simp] theorem wb50 : ((Str.ofString "size") == Str.ofString "last") = false := by decide
@[simp] theorem wq51 : ((Str.ofString "size") = Str.ofString "is_hand") = False := eq_false (by decide)
@[simp] theorem wb51 : ((Str.ofString "size") == Str.ofString "is_hand") = false := by decide
@[simp] theorem wq52 : ((Str.ofString "size") = Str.ofString "can_hear") = False := eq_false (by decide)
@[simp] theorem wb52 : ((Str.ofString "size") == Str.ofString "can_hear") = false := by decide
@[simp] theorem wq53 : ((Str.ofString "size") = Str.ofString "is_event") = False := eq_false (by decide)
@[simp] theorem wb53 : ((Str.ofString "size") == Str.ofString "is_event") = false := by decide
@[simp] theorem wq54 : ((Str.ofString "size") = Str.ofString "take") = False := eq_false (by decide)
@[simp] theorem wb54 : ((Str.ofString "size") == Str.ofString "take") = false := by decide
@[simp] theorem wq55 : ((Str.ofString "shouter") = Str.ofString "crowd") = False := eq_false (by decide)
@[simp] theorem wb55 : ((Str.ofString "shouter") == Str.ofString "crowd") = false := by decide
@[simp] theorem wq56 : ((Str.ofString "shouter") = Str.ofString "meet") = False := eq_false (by decide)
@[simp] theorem wb56 : ((Str.ofString "shouter") == Str.ofString "meet") = false := by decide
@[simp] theorem wq57 : ((Str.ofString "shouter") = Str.ofString "shout") = False := eq_false (by decide)
@[simp] theorem wb57 : ((Str.ofString "shouter") == Str.ofString "shout") = false := by decide
@[simp] theorem wq58 : ((Str.ofString "shouter") = Str.ofString "hear") = False := eq_false (by decide)
@[simp] theorem wb58 : ((Str.ofString "shouter") == Str.ofString "hear") = false := by decide
@[simp] theorem wq59 : ((Str.ofString "shouter") = Str.ofString "size") = False := eq_false (by decide)
@[simp] theorem wb59 : ((Str.ofString "shouter") == Str.ofString "size") = false := by decide
@[simp] theorem wq60 : ((Str.ofString "shouter") = Str.ofString "letter") = False := eq_false (by decide)
@[simp] theorem wb60 : ((Str.ofString "shouter") == Str.ofString "letter") = false := by decide
@[simp] theorem wq61 : ((Str.ofString "shouter") = Str.ofString "last") = False := eq_false (by decide)
@[simp] theorem wb61 : ((Str.ofString "shouter") == Str.ofString "last") = false := by decide
@[simp] theorem wq62 : ((Str.ofString "shouter") = Str.ofString "is_hand") = False := eq_false (by decide)
@[simp] theorem wb62 : ((Str.ofString "shouter") == Str.ofString "is_hand") = false := by decide
@[simp] theorem wq63 : ((Str.ofString "shouter") = Str.ofString "can_hear") = False := eq_false (by decide)
@[simp] theorem wb63 : ((Str.ofString "shouter") == Str.ofString "can_hear") = false := by decide
@[simp] theorem wq64 : ((Str.ofString "shouter") = Str.ofString "is_event") = False := eq_false (by decide)
@[simp] theorem wb64 : ((Str.ofString "shouter") == Str.ofString "is_event") = false := by decide
@[simp] theorem wq65 : ((Str.ofString "shouter") = Str.ofString "take") = False := eq_false (by decide)
@[simp] theorem wb65 : ((Str.ofString "shouter") == Str.ofString "take") = false := by decide
@[simp] theorem wq66 : ((Str.ofString "letter") = Str.ofString "crowd") = False := eq_false (by decide)
@[simp] theorem wb66 : ((Str.ofString "letter") == Str.ofString "crowd") = false := by decide
@[simp] theorem wq67 : ((Str.ofString "letter") = Str.ofString "meet") = False := eq_false (by decide)
@[simp] theorem wb67 : ((Str.ofString "letter") == Str.ofString "meet") = false := by decide
@[simp] theorem wq68 : ((Str.ofString "letter") = Str.ofString "shout") = False := eq_false (by decide)
@[simp] theorem wb68 : ((Str.ofString "letter") == Str.ofString "shout") = false := by decide
@[simp] theorem wq69 : ((Str.ofString "letter") = Str.ofString "hear") = False := eq_false (by decide)
@[simp] theorem wb69 : ((Str.ofString "letter") == Str.ofString "hear") = false := by decide
@[simp] theorem wq70 : ((Str.ofString "letter") = Str.ofString "size") = False := eq_false (by decide)
@[simp] theorem wb70 : ((Str.ofString "letter") == Str.ofString "size") = false := by decide
@[simp] theorem wq71 : ((Str.ofString "letter") = Str.ofString "shouter") = False := eq_false (by decide)
@[simp] theorem wb71 : ((Str.ofString "letter") == Str.ofString "shouter") = false := by decide
@[simp] theorem wq72 : ((Str.ofString "letter") = Str.ofString "last") = False := eq_false (by decide)
@[simp] theorem wb72 : ((Str.ofString "letter") == Str.ofString "last") = false := by decide
@[simp] theorem wq73 : ((Str.ofString "letter") = Str.ofString "is_hand") = False := eq_false (by decide)
@[simp] theorem wb73 : ((Str.ofString "letter") == Str.ofString "is_hand") = false := by decide
@[simp] theorem wq74 : ((Str.ofString "letter") = Str.ofString "can_hear") = False := eq_false (by decide)
@[simp] theorem wb74 : ((Str.ofString "letter") == Str.ofString "can_hear") = false := by decide
@[simp] theorem wq75 : ((Str.ofString "letter") = Str.ofString "is_event") = False := eq_false (by decide)
@[simp] theorem wb75 : ((Str.ofString "letter") == Str.ofString "is_event") = false := by decide
@[simp] theorem wq76 : ((Str.ofString "letter") = Str.ofString "take") = False := eq_false (by decide)
@[simp] theorem wb76 : ((Str.ofString "letter") == Str.ofString "take") = false := by decide
@[simp] theorem wq77 : ((Str.ofString "last") = Str.ofString "crowd") = False := eq_false (by decide)
@[simp] theorem wb77 : ((Str.ofString "last") == Str.ofString "crowd") = false := by decide
@[simp] theorem wq78 : ((Str.ofString "last") = Str.ofString "meet") = False := eq_false (by decide)
@[simp] theorem wb78 : ((Str.ofString "last") == Str.ofString "meet") = false := by decide
@[simp] theorem wq79 : ((Str.ofString "last") = Str.ofString "shout") = False := eq_false (by decide)
@[simp] theorem wb79 : ((Str.ofString "last") == Str.ofString "shout") = false := by decide
@[simp] theorem wq80 : ((Str.ofString "last") = Str.ofString "hear") = False := eq_false (by decide)
@[simp] theorem wb80 : ((Str.ofString "last") == Str.ofString "hear") = false := by decide
@[simp] theorem wq81 : ((Str.ofString "last") = Str.ofString "size") = False := eq_false (by decide)
@[simp] theorem wb81 : ((Str.ofString "last") == Str.ofString "size") = false := by decide
@[simp] theorem wq82 : ((Str.ofString "last") = Str.ofString "shouter") = False := eq_false (by decide)
@[simp] theorem wb82 : ((Str.ofString "last") == Str.ofString "shouter") = false := by decide
@[simp] theorem wq83 : ((Str.ofString "last") = Str.ofString "letter") = False := eq_false (by decide)
@[simp] theorem wb83 : ((Str.ofString "last") == Str.ofString "letter") = false := by decide
@[simp] theorem wq84 : ((Str.ofString "last") = Str.ofString "is_hand") = False := eq_false (by decide)
@[simp] theorem wb84 : ((Str.ofString "last") == Str.ofString "is_hand") = false := by decide
@[simp] theorem wq85 : ((Str.ofString "last") = Str.ofString "can_hear") = False := eq_false (by decide)
@[simp] theorem wb85 : ((Str.ofString "last") == Str.ofString "can_hear") = false := by decide
@[simp] theorem wq86 : ((Str.ofString "last") = Str.ofString "is_event") = False := eq_false (by decide)
@[simp] theorem wb86 : ((Str.ofString "last") == Str.ofString "is_event") = false := by decide
@[simp] theorem wq87 : ((Str.ofString "last") = Str.ofString "take") = False := eq_false (by decide)
@[simp] theorem wb87 : ((Str.ofString "last") == Str.ofString "take") = false := by decide
@[simp] theorem wq88 : ((Str.ofString "is_hand") = Str.ofString "crowd") = False := eq_false (by decide)
@[simp] theorem wb88 : ((Str.ofString "is_hand") == Str.ofString "crowd") = false := by decide
@[simp] theorem wq89 : ((Str.ofString "is_hand") = Str.ofString "meet") = False := eq_false (by decide)
@[simp] theorem wb89 : ((Str.ofString "is_hand") == Str.ofString "meet") = false := by decide
@[simp] theorem wq90 : ((Str.ofString "is_hand") = Str.ofString "shout") = False := eq_false (by decide)
@[simp] theorem wb90 : ((Str.ofString "is_hand") == Str.ofString "shout") = false := by decide
@[simp] theorem wq91 : ((Str.ofString "is_hand") = Str.ofString "hear") = False := eq_false (by decide)
@[simp] theorem wb91 : ((Str.ofString "is_hand") == Str.ofString "hear") = false := by decide
@[simp] theorem wq92 : ((Str.ofString "is_hand") = Str.ofString "size") = False := eq_false (by decide)
@[simp] theorem wb92 : ((Str.ofString "is_hand") == Str.ofString "size") = false := by decide
@[simp] theorem wq93 : ((Str.ofString "is_hand") = Str.ofString "shouter") = False := eq_false (by decide)
@[simp] theorem wb93 : ((Str.ofString "is_hand") == Str.ofString "shouter") = false := by decide
@[simp] theorem wq94 : ((Str.ofString "is_hand") = Str.ofString "letter") = False := eq_false (by decide)
@[simp] theorem wb94 : ((Str.ofString "is_hand") == Str.ofString "letter") = false := by decide
@[simp] theorem wq95 : ((Str.ofString "is_hand") = Str.ofString "last") = False := eq_false (by decide)
@[simp] theorem wb95 : ((Str.ofString "is_hand") == Str.ofString "last") = false := by decide
@[simp] theorem wq96 : ((Str.ofString "is_hand") = Str.ofString "can_hear") = False := eq_false (by decide)
@[simp] theorem wb96 : ((Str.ofString "is_hand") == Str.ofString "can_hear") = false := by decide
@[simp] theorem wq97 : ((Str.ofString "is_hand") = Str.ofString "is_event") = False := eq_false (by decide)
@[simp] theorem wb97 : ((Str.ofString "is_hand") == Str.ofString "is_event") = false := by decide
@[simp] theorem wq98 : ((Str.ofString "is_hand") = Str.ofString "take") = False := eq_false (by decide)
@[simp] theorem wb98 : ((Str.ofString "is_hand") == Str.ofString "take") = false := by decide
@[simp] theorem wq99 : ((Str.ofString "can_hear") = Str.ofString "crowd") = False := eq_false (by decide)
@[simp] theorem wb99 : ((Str.ofString "can_hear") == Str.ofString "crowd") = false := by decide
@[simp] theorem wq100 : ((Str.ofString "can_hear") = Str.ofString "meet") = False := eq_false (by decide)
@[simp] theorem wb100 : ((Str.ofString "can_hear") == Str.ofString "meet") = false := by decide
@[simp] theorem wq101 : ((Str.ofString "can_hear") = Str.ofString "shout") = False := eq_false (by decide)
@[simp] theorem wb101 : ((Str.ofString "can_hear") == Str.ofString "shout") = false := by decide
@[simp] theorem wq102 : ((Str.ofString "can_hear") = Str.ofString "hear") = False := eq_false (by decide)
@[simp] theorem wb102 : ((Str.ofString "can_hear") == Str.ofString "hear") = false := by decide
@[simp] theorem wq103 : ((Str.ofString "can_hear") = Str.ofString "size") = False := eq_false (by decide)
@[simp] theorem wb103 : ((Str.ofString "can_hear") == Str.ofString "size") = false := by decide
@[simp] theorem wq104 : ((Str.ofString "can_hear") = Str.ofString "shouter") = False := eq_false (by decide)
@[simp] theorem wb104 : ((Str.ofString "can_hear") == Str.ofString "shouter") = false := by decide
@[simp] theorem wq105 : ((Str.ofString "can_hear") = Str.ofString "letter") = False := eq_false (by decide)
@[simp] theorem wb105 : ((Str.ofString "can_hear") == Str.ofString "letter") = false := by decide
@[simp] theorem wq106 : ((Str.ofString "can_hear") = Str.ofString "last") = False := eq_false (by decide)
@[simp] theorem wb106 : ((Str.ofString "can_hear") == Str.ofString "last") = false := by decide
@[simp] theorem wq107 : ((Str.ofString "can_hear") = Str.ofString "is_hand") = False := eq_false (by decide)
@[simp] theorem wb107 : ((Str.ofString "can_hear") == Str.ofString "is_hand") = false := by decide
@[simp] theorem wq108 : ((Str.ofString "can_hear") = Str.ofString "is_event") = False := eq_false (by decide)
@[simp] theorem wb108 : ((Str.ofString "can_hear") == Str.ofString "is_event") = false := by decide
@[simp] theorem wq109 : ((Str.ofString "can_hear") = Str.ofString "take") = False := eq_false (by decide)
@[simp] theorem wb109 : ((Str.ofString "can_hear") == Str.ofString "take") = false := by decide
@[simp] theorem wq110 : ((Str.ofString "is_event") = Str.ofString "crowd") = False := eq_false (by decide)
@[simp] theorem wb110 : ((Str.ofString "is_event") == Str.ofString "crowd") = false := by decide
@[simp] theorem wq111 : ((Str.ofString "is_event") = Str.ofString "meet") = False := eq_false (by decide)
@[simp] theorem wb111 : ((Str.ofString "is_event") == Str.ofString "meet") = false := by decide
@[simp] theorem wq112 : ((Str.ofString "is_event") = Str.ofString "shout") = False := eq_false (by decide)
@[simp] theorem wb112 : ((Str.ofString "is_event") == Str.ofString "shout") = false := by decide
@[simp] theorem wq113 : ((Str.ofString "is_event") = Str.ofString "hear") = False := eq_false (by decide)
@[simp] theorem wb113 : ((Str.ofString "is_event") == Str.ofString "hear") = false := by decide
@[simp] theorem wq114 : ((Str.ofString "is_event") = Str.ofString "size") = False := eq_false (by decide)
@[simp] theorem wb114 : ((Str.ofString "is_event") == Str.ofString "size") = false := by decide
@[simp] theorem wq115 : ((Str.ofString "is_event") = Str.ofString "shouter") = False := eq_false (by decide)
@[simp] theorem wb115 : ((Str.ofString "is_event") == Str.ofString "shouter") = false := by decide
@[simp] theorem wq116 : ((Str.ofString "is_event") = Str.ofString "letter") = False := eq_false (by decide)
@[simp] theorem wb116 : ((Str.ofString "is_event") == Str.ofString "letter") = false := by decide
@[simp] theorem wq117 : ((Str.ofString "is_event") = Str.ofString "last") = False := eq_false (by decide)
@[simp] theorem wb117 : ((Str.ofString "is_event") == Str.ofString "last") = false := by decide
@[simp] theorem wq118 : ((Str.ofString "is_event") = Str.ofString "is_hand") = False := eq_false (by decide)
@[simp] theorem wb118 : ((Str.ofString "is_event") == Str.ofString "is_hand") = false := by decide
@[simp] theorem wq119 : ((Str.ofString "is_event") = Str.ofString "can_hear") = False := eq_false (by decide)
@[simp] theorem wb119 : ((Str.ofString "is_event") == Str.ofString "can_hear") = false := by decide
@[simp] theorem wq120 : ((Str.ofString "is_event") = Str.ofString "take") = False := eq_false (by decide)
@[simp] theorem wb120 : ((Str.ofString "is_event") == Str.ofString "take") = false := by decide
@[simp] theorem wq121 : ((Str.ofString "take") = Str.ofString "crowd") = False := eq_false (by decide)
@[simp] theorem wb121 : ((Str.ofString "take") == Str.ofString "crowd") = false := by decide
@[simp] theorem wq122 : ((Str.ofString "take") = Str.ofString "meet") = False := eq_false (by decide)
@[simp] theorem wb122 : ((Str.ofString "take") == Str.ofString "meet") = false := by decide
@[simp] theorem wq123 : ((Str.ofString "take") = Str.ofString "shout") = False := eq_false (by decide)
@[simp] theorem wb123 : ((Str.ofString "take") == Str.ofString "shout") = false := by decide
@[simp] theorem wq124 : ((Str.ofString "take") = Str.ofString "hear") = False := eq_false (by decide)
@[simp] theorem wb124 : ((Str.ofString "take") == Str.ofString "hear") = false := by decide
@[simp] theorem wq125 : ((Str.ofString "take") = Str.ofString "size") = False := eq_false (by decide)
@[simp] theorem wb125 : ((Str.ofString "take") == Str.ofString "size") = false := by decide
@[simp] theorem wq126 : ((Str.ofString "take") = Str.ofString "shouter") = False := eq_false (by decide)
@[simp] theorem wb126 : ((Str.ofString "take") == Str.ofString "shouter") = false := by decide
@[simp] theorem wq127 : ((Str.ofString "take") = Str.ofString "letter") = False := eq_false (by decide)
@[simp] theorem wb127 : ((Str.ofString "take") == Str.ofString "letter") = false := by decide
@[simp] theorem wq128 : ((Str.ofString "take") = Str.ofString "last") = False := eq_false (by decide)
@[simp] theorem wb128 : ((Str.ofString "take") == Str.ofString "last") = false := by decide
@[simp] theorem wq129 : ((Str.ofString "take") = Str.ofString "is_hand") = False := eq_false (by decide)
@[simp] theorem wb129 : ((Str.ofString "take") == Str.ofString "is_hand") = false := by decide
@[simp] theorem wq130 : ((Str.ofString "take") = Str.ofString "can_hear") = False := eq_false (by decide)
@[simp] theorem wb130 : ((Str.ofString "take") == Str.ofString "can_hear") = false := by decide
@[simp] theorem wq131 : ((Str.ofString "take") = Str.ofString "is_event") = False := eq_false (by decide)
@[simp] theorem wb131 : ((Str.ofString "take") == Str.ofString "is_event") = false := by decide
end K60
end
section
set_option Elab.async false
set_option linter.all false
set_option maxRecDepth 100000
set_option maxHeartbeats 400000
namespace Dn
open PySem PySem.Spec L2
/-! ### data of small depth -/
def Nice : Nat → D → Prop
  | _, .non => True
  | _, .bl _ => True
  | _, .int _ => True
  | _, .str z => PyData.strOk z = true
  | 0, _ => False
  | k + 1, .tup ds => ∀ x ∈ ds, Nice k x
  | k + 1, .lst ds => ∀ x ∈ ds, Nice k x
  | _ + 1, _ => False
theorem canAll : ∀ {ds : List D}, (∀ x ∈ ds, (pd x).canLay0 = true) → PyData.canLayAll0 (pds ds) = true
  | [], _ => by simp [pds, PyData.canLayAll0]
  | d :: ds, h => by
    simp only [pds, PyData.canLayAll0, Bool.and_eq_true]
    exact ⟨h d List.mem_cons_self, canAll fun x hx => h x (List.mem_cons_of_mem _ hx)⟩
theorem depthAll {k : Nat} : ∀ {ds : List D}, (∀ x ∈ ds, (pd x).depth ≤ k) → PyData.depthAll (pds ds) ≤ k
  | [], _ => by simp [pds, PyData.depthAll]
  | d :: ds, h => by
    simp only [pds, PyData.depthAll]
    exact Nat.max_le.mpr ⟨h d List.mem_cons_self, depthAll fun x hx => h x (List.mem_cons_of_mem _ hx)⟩
theorem Nice.lay : ∀ {k : Nat} {d : D}, Nice k d → (pd d).canLay0 = true ∧ (pd d).depth ≤ k
  | k, .non, _ => by simp [pd, PyData.canLay0, PyData.depth]
  | k, .bl _, _ => by simp [pd, PyData.canLay0, PyData.depth]
  | k, .int _, _ => by simp [pd, PyData.canLay0, PyData.depth]
  | k, .str z, h => by
    have h : PyData.strOk z = true := by cases k <;> exact h
    simp [pd, PyData.canLay0, PyData.depth, h]
  | 0, .tup _, h => False.elim h
  | 0, .lst _, h => False.elim h
  | 0, .dic _ _, h => False.elim h
  | 0, .obj _ _, h => False.elim h
  | k + 1, .dic _ _, h => False.elim h
  | k + 1, .obj _ _, h => False.elim h
  | k + 1, .tup ds, h => by
    have h : ∀ x ∈ ds, Nice k x := h
    simp only [pd, PyData.canLay0, PyData.depth]
    exact ⟨canAll fun x hx => (h x hx).lay.1, Nat.succ_le_succ (depthAll fun x hx => (h x hx).lay.2)⟩
  | k + 1, .lst ds, h => by
    have h : ∀ x ∈ ds, Nice k x := h
    simp only [pd, PyData.canLay0, PyData.depth]
    exact ⟨canAll fun x hx => (h x hx).lay.1, Nat.succ_le_succ (depthAll fun x hx => (h x hx).lay.2)⟩
theorem Nice.fit {k : Nat} {d : D} (h : Nice k d) (hk : k ≤ 64 := by decide) : fit d = true := by
  unfold Dn.fit SeqAt.shaped
  rw [h.lay.1, Bool.true_and, decide_eq_true_eq]
  exact Nat.le_trans h.lay.2 hk
theorem Nice.up : ∀ {k : Nat} {d : D}, Nice k d → Nice (k + 1) d
  | k, .non, h => by cases k <;> exact h
  | k, .bl _, h => by cases k <;> exact h
  | k, .int _, h => by cases k <;> exact h
  | k, .str z, h => by cases k <;> exact h
  | 0, .tup _, h => False.elim h
  | 0, .lst _, h => False.elim h
  | 0, .dic _ _, h => False.elim h
  | 0, .obj _ _, h => False.elim h
  | k + 1, .dic _ _, h => False.elim h
  | k + 1, .obj _ _, h => False.elim h
  | k + 1, .tup ds, h => fun x hx => Nice.up ((show ∀ x ∈ ds, Nice k x from h) x hx)
  | k + 1, .lst ds, h => fun x hx => Nice.up ((show ∀ x ∈ ds, Nice k x from h) x hx)
theorem Nice.le {k m : Nat} {d : D} (h : Nice k d) (hk : k ≤ m) : Nice m d := by
  induction hk with
  | refl => exact h
  | step _ ih => exact ih.up
@[simp] theorem nice_int (k : Nat) (i : Int) : Nice k (.int i) = True := by cases k <;> rfl
@[simp] theorem nice_bl (k : Nat) (i : Bool) : Nice k (.bl i) = True := by cases k <;> rfl
@[simp] theorem nice_non (k : Nat) : Nice k .non = True := by cases k <;> rfl
@[simp] theorem nice_str (k : Nat) (z : Str) : Nice k (.str z) = (PyData.strOk z = true) := by cases k <;> rfl
@[simp] theorem nice_tup (k : Nat) (ds : List D) : Nice (k + 1) (.tup ds) = ∀ x ∈ ds, Nice k x := rfl
@[simp] theorem nice_lst (k : Nat) (ds : List D) : Nice (k + 1) (.lst ds) = ∀ x ∈ ds, Nice k x := rfl
/-! ### equality of data -/
mutual
theorem eqv_refl : ∀ {x : PyData}, x.canLay0 = true → PyData.eqv x x = true
  | .none, _ => rfl
  | .bool _, _ => by simp [PyData.eqv]
  | .int _, _ => by simp [PyData.eqv]
  | .str _, _ => by simp [PyData.eqv]
  | .list xs, h => by
    simp only [PyData.eqv]
    exact eqvAll_refl (by simpa only [PyData.canLay0] using h)
  | .tuple xs, h => by
    simp only [PyData.eqv]
    exact eqvAll_refl (by simpa only [PyData.canLay0] using h)
  | .dict _, h => by simp [PyData.canLay0] at h
theorem eqvAll_refl : ∀ {xs : List PyData}, PyData.canLayAll0 xs = true → PyData.eqvAll xs xs = true
  | [], _ => rfl
  | x :: xs, h => by
    simp only [PyData.canLayAll0, Bool.and_eq_true] at h
    simp only [PyData.eqvAll, Bool.and_eq_true]
    exact ⟨eqv_refl h.1, eqvAll_refl h.2⟩
end
theorem scal_pd {a : D} (h : scalD a a = true) : True := trivial
theorem eqB_refl {a : D} (h : fit a = true) : eqB a a = some true := by
  unfold eqB
  split
  · simp
  · rw [if_pos ⟨h, h⟩]
    congr 1
    unfold Dn.fit SeqAt.shaped at h
    rw [Bool.and_eq_true] at h
    exact eqv_refl h.1
theorem eqD_refl {a : D} (h : fit a = true) : eqD a a = some (.bl true) := by unfold eqD; rw [eqB_refl h]; rfl
theorem neD_refl {a : D} (h : fit a = true) : neD a a = some (.bl false) := by unfold neD; rw [eqB_refl h]; rfl
theorem eqD_cn {x : D} {r : List D} (h : fit (.tup (x :: r)) = true) : eqD (.tup (x :: r)) (.tup []) = some (.bl false) := by
  unfold eqD eqB
  rw [if_neg (by simp [scalD]), if_pos ⟨h, by decide⟩]
  simp [pd, pds, PyData.eqv, PyData.eqvAll]
@[simp] theorem eqD_nn : eqD (.tup []) (.tup []) = some (.bl true) := eqD_refl (by decide)
@[simp] theorem neD_lnn : neD (.lst []) (.lst []) = some (.bl false) := neD_refl (by decide)
/-- whole numbers, whatever stands around them -/
theorem neD_ints {a b : List Int} : neD (.lst (a.map D.int)) (.lst (b.map D.int)) = some (.bl (!decide (a = b))) := by
  have hf : ∀ l : List Int, fit (.lst (l.map D.int)) = true := fun l => (show Nice 1 (.lst (l.map D.int)) by
    rw [nice_lst]
    intro x hx
    obtain ⟨i, _, rfl⟩ := List.mem_map.mp hx
    simp).fit
  have he : ∀ a b : List Int, PyData.eqvAll (pds (a.map D.int)) (pds (b.map D.int)) = decide (a = b) := by
    intro a
    induction a with
    | nil => intro b; cases b <;> simp [pds, PyData.eqvAll]
    | cons x r ih =>
      intro b
      cases b with
      | nil => simp [pds, PyData.eqvAll]
      | cons y s =>
        simp only [List.map_cons, pds, PyData.eqvAll, pd, PyData.eqv, ih]
        by_cases h1 : x = y <;> by_cases h2 : r = s <;> simp [h1, h2]
  unfold neD eqB
  rw [if_neg (by simp [scalD]), if_pos ⟨hf a, hf b⟩]
  simp only [pd, PyData.eqv, he]
  rfl
end Dn
end
section
set_option Elab.async false
set_option linter.all false
set_option maxRecDepth 100000
set_option maxHeartbeats 400000
namespace Dn
open PySem PySem.Spec L2
/-! ### sorting -/
theorem leD'_eq (a b : D) : leD' a b = !PyProof.Rows.lexLt PyProof.Rows.itemOrd (PySem.W.keyToks (pd b)) (PySem.W.keyToks (pd a)) := rfl
theorem leD'_refl (a : D) : leD' a a = true := by
  rw [leD'_eq, PyProof.Rows.lex_irrefl]
  rfl
@[simp] theorem leD'_int (i j : Int) : leD' (.int i) (.int j) = decide (i ≤ j) := by
  rw [leD'_eq]
  simp only [pd, PySem.W.keyToks, PyProof.Rows.lex_cons]
  simp [PyProof.Rows.itemOrd, PyProof.Rows.itemLt, PyProof.Rows.lexLt]
  by_cases h : i ≤ j
  · rw [decide_eq_true h, decide_eq_false (by omega)]; rfl
  · rw [decide_eq_false h, decide_eq_true (by omega)]; rfl
@[simp] theorem leD'_str (i j : Str) : leD' (.str i) (.str j) = leS i j := by
  have h : (PySem.W.dataLe false PyData.str) = leS := PySem.W.dataLe_str (fun b : Str => b)
  exact congrFun (congrFun h i) j
/-- rows of the same word, by a number -/
theorem leD'_row (w : Str) (i j : Int) (r s : List D) (h : i ≠ j) : leD' (.tup (.str w :: .int i :: r)) (.tup (.str w :: .int j :: s)) = decide (i ≤ j) := by
  rw [leD'_eq]
  simp only [pd, pds, PySem.W.keyToks, PySem.W.keyToksAll, List.cons_append, List.nil_append]
  rw [PyProof.Rows.lex_self, PyProof.Rows.lex_self, PyProof.Rows.lex_self, PyProof.Rows.lex_cons]
  simp only [PyProof.Rows.itemOrd, PyProof.Rows.itemLt]
  by_cases h1 : i < j
  · rw [decide_eq_false (show ¬ j < i by omega), decide_eq_true h1, decide_eq_true (show i ≤ j by omega)]
    rfl
  · rw [decide_eq_true (show j < i by omega), decide_eq_false (show ¬ i ≤ j by omega)]
    rfl
theorem sortL_eq {ds : List D} (h : sortOk ds = true) : sortL ds = some (ds.mergeSort leD') := if_pos h
theorem sortOk_flat {ds : List D} (h1 : ∀ a ∈ ds, ∀ b ∈ ds, PySem.W.alike (pd a) (pd b) = true) (h2 : (∀ a ∈ ds, ∃ x r, a = .tup (x :: r)) ∨ ∀ a ∈ ds, (∃ i, a = .int i) ∨ ∃ z, a = .str z) (h3 : ds.length ≤ 16777216) (h4 : ∀ a ∈ ds, fit a = true) : sortOk ds = true := by
  unfold sortOk
  simp only [Bool.and_eq_true, Bool.or_eq_true, List.all_eq_true, decide_eq_true_eq, le_line]
  refine ⟨⟨⟨h1, ?_⟩, h3⟩, h4⟩
  rcases h2 with h2 | h2
  · refine .inl fun a ha => ?_
    obtain ⟨x, r, rfl⟩ := h2 a ha
    rfl
  · refine .inr fun a ha => ?_
    rcases h2 a ha with ⟨i, rfl⟩ | ⟨i, rfl⟩ <;> rfl
/-- whole numbers -/
theorem sortL_ints {is : List Int} (h : is.length ≤ 16777216) : sortL (is.map D.int) = some ((is.mergeSort (fun a b => decide (a ≤ b))).map D.int) := by
  rw [sortL_eq, List.map_mergeSort]
  · intro a _ b _
    simp
  · refine sortOk_flat ?_ (.inr ?_) (by simpa using h) ?_
    · intro a ha b hb
      obtain ⟨i, _, rfl⟩ := List.mem_map.mp ha
      obtain ⟨j, _, rfl⟩ := List.mem_map.mp hb
      simp [pd, PySem.W.alike]
    · intro a ha
      obtain ⟨i, _, rfl⟩ := List.mem_map.mp ha
      exact .inl ⟨i, rfl⟩
    · intro a ha
      obtain ⟨i, _, rfl⟩ := List.mem_map.mp ha
      exact (show Nice 0 (.int i) by simp).fit
theorem sortL_strs {zs : List Str} (h : zs.length ≤ 16777216) (ok : ∀ z ∈ zs, PyData.strOk z = true) : sortL (zs.map D.str) = some ((sortS zs).map D.str) := by
  rw [sortL_eq]
  · unfold sortS
    rw [List.map_mergeSort]
    intro a _ b _
    simp
  · refine sortOk_flat ?_ (.inr ?_) (by simpa using h) ?_
    · intro a ha b hb
      obtain ⟨i, _, rfl⟩ := List.mem_map.mp ha
      obtain ⟨j, _, rfl⟩ := List.mem_map.mp hb
      simp [pd, PySem.W.alike]
    · intro a ha
      obtain ⟨i, _, rfl⟩ := List.mem_map.mp ha
      exact .inr ⟨i, rfl⟩
    · intro a ha
      obtain ⟨i, hi, rfl⟩ := List.mem_map.mp ha
      exact (show Nice 0 (.str i) by simpa using ok i hi).fit
/-- rows of one word, of unlike numbers -/
theorem sortL_rows {α : Type} {w : Str} {f : α → Int} {g : α → List D} {xs : List α} (hn : (xs.map f).Nodup) (h : xs.length ≤ 16777216) (ha : ∀ a ∈ xs, ∀ b ∈ xs, PySem.W.alikeAll (pds (g a)) (pds (g b)) = true) (hf : ∀ a ∈ xs, fit (.tup (.str w :: .int (f a) :: g a)) = true) :
    sortL (xs.map fun a => .tup (.str w :: .int (f a) :: g a)) = some ((xs.mergeSort fun a b => decide (f a ≤ f b)).map fun a => .tup (.str w :: .int (f a) :: g a)) := by
  rw [sortL_eq]
  · rw [List.map_mergeSort]
    intro a ha b hb
    by_cases e : f a = f b
    · have : a = b := by
        rcases List.mem_iff_getElem.mp ha with ⟨i, hi, rfl⟩
        rcases List.mem_iff_getElem.mp hb with ⟨j, hj, rfl⟩
        have := (List.getElem_inj (h₀ := by simpa using hi) (h₁ := by simpa using hj) hn).mp (by simpa using e)
        subst this
        rfl
      subst this
      rw [leD'_refl]
      simp
    · rw [leD'_row w _ _ _ _ e]
  · refine sortOk_flat ?_ (.inl ?_) (by simpa using h) ?_
    · intro a ha' b hb'
      obtain ⟨i, hi, rfl⟩ := List.mem_map.mp ha'
      obtain ⟨j, hj, rfl⟩ := List.mem_map.mp hb'
      simp [pd, pds, PySem.W.alike, PySem.W.alikeAll, ha i hi j hj]
    · intro a ha'
      obtain ⟨i, _, rfl⟩ := List.mem_map.mp ha'
      exact ⟨_, _, rfl⟩
    · intro a ha'
      obtain ⟨i, hi, rfl⟩ := List.mem_map.mp ha'
      exact hf i hi
end Dn
end
section
set_option Elab.async false
set_option linter.all false
set_option maxRecDepth 100000
set_option maxHeartbeats 400000
namespace Dn
open PySem PySem.Spec L2
/-! ### loops -/
section
variable {α : Type}
/-- a loop that is walked to its end: I of what is done, of the slots, of the pen -/
theorem forGo_inv {mg : KG} {b : KS} {g : α → D} {I : List α → List Sl → Pen → Prop} : ∀ (xs pre : List α) (ρ : List Sl) (p : Pen), I pre ρ p →
    (∀ pre' x post ρ p, pre ++ xs = pre' ++ x :: post → I pre' ρ p → ∃ f ρ' p', (unx (mg (g x) ρ) >>= fun ρ1 => b ρ1 p) = .ok (f, ρ', p') ∧ (f = .nx ∨ f = .ct) ∧ I (pre' ++ [x]) ρ' p') →
    ∃ ρ' p', forGo mg b (xs.map g) ρ p = .ok (.nx, ρ', p') ∧ I (pre ++ xs) ρ' p'
  | [], pre, ρ, p, h, _ => ⟨ρ, p, rfl, by rw [List.append_nil]; exact h⟩
  | x :: xs, pre, ρ, p, h, turn => by
    obtain ⟨f, ρ1, p1, e, hf, h1⟩ := turn pre x xs ρ p rfl h
    obtain ⟨ρ2, p2, e2, h2⟩ := forGo_inv xs (pre ++ [x]) ρ1 p1 h1 fun pre' y post ρ p ha => turn pre' y post ρ p (by rw [← ha, List.append_assoc]; rfl)
    refine ⟨ρ2, p2, ?_, by rw [List.append_assoc] at h2; exact h2⟩
    rw [List.map_cons]
    unfold forGo
    cases eq : unx (mg (g x) ρ) with
    | error z => rw [eq] at e; cases e
    | ok ρa =>
      rw [eq] at e
      have e : b ρa p = .ok (f, ρ1, p1) := e
      show (b ρa p >>= _) = _
      rw [e]
      rcases hf with rfl | rfl <;> exact e2
/-- the turns of a loop, one behind the other -/
def Goes (mg : KG) (b : KS) : List D → List Sl → Pen → List Sl → Pen → Prop
  | [], ρ, p, ρ', p' => ρ = ρ' ∧ p = p'
  | x :: xs, ρ, p, ρ', p' => ∃ f ρ1 p1, (unx (mg x ρ) >>= fun ρa => b ρa p) = .ok (f, ρ1, p1) ∧ (f = .nx ∨ f = .ct) ∧ Goes mg b xs ρ1 p1 ρ' p'
theorem Goes.app {mg : KG} {b : KS} : ∀ {xs ys : List D} {ρ ρ1 ρ2 : List Sl} {p p1 p2 : Pen}, Goes mg b xs ρ p ρ1 p1 → Goes mg b ys ρ1 p1 ρ2 p2 → Goes mg b (xs ++ ys) ρ p ρ2 p2
  | [], ys, ρ, ρ1, ρ2, p, p1, p2, h, k => by
    obtain ⟨rfl, rfl⟩ := h
    exact k
  | x :: xs, ys, ρ, ρ1, ρ2, p, p1, p2, h, k => by
    obtain ⟨f, ρa, pa, h1, h2, h3⟩ := h
    exact ⟨f, ρa, pa, h1, h2, h3.app k⟩
theorem Goes.ok {mg : KG} {b : KS} : ∀ {xs : List D} {ρ ρ1 : List Sl} {p p1 : Pen}, Goes mg b xs ρ p ρ1 p1 → forGo mg b xs ρ p = .ok (.nx, ρ1, p1)
  | [], ρ, ρ1, p, p1, h => by
    obtain ⟨rfl, rfl⟩ := h
    rfl
  | x :: xs, ρ, ρ1, p, p1, h => by
    obtain ⟨f, ρa, pa, e, hf, h3⟩ := h
    unfold forGo
    cases eq : unx (mg x ρ) with
    | error z => rw [eq] at e; cases e
    | ok ρb =>
      rw [eq] at e
      have e : b ρb p = .ok (f, ρa, pa) := e
      show (b ρb p >>= _) = _
      rw [e]
      rcases hf with rfl | rfl <;> exact h3.ok
/-- a comprehension that leaves the pen as it is -/
theorem lcGo_pure {mg : KG} {mt : KB} {me : KE} {ρ : List Sl} {p : Pen} {g h : α → D} {keep : α → Bool} : ∀ (xs : List α) (acc : List D),
    (∀ x ∈ xs, (unx (mg (g x) ρ) >>= fun ρ1 => mt ρ1 p) = .ok (keep x, p) ∧ (keep x = true → (unx (mg (g x) ρ) >>= fun ρ1 => me ρ1 p) = .ok (h x, p))) → acc.length + xs.length ≤ 16777216 →
    lcGo mg mt me ρ (xs.map g) acc p = .ok (acc ++ (xs.filter keep).map h, p)
  | [], acc, _, _ => by simp [lcGo]
  | x :: xs, acc, hx, hl => by
    obtain ⟨h1, h2⟩ := hx x List.mem_cons_self
    have ih := fun acc hl => lcGo_pure xs acc (fun y hy => hx y (List.mem_cons_of_mem _ hy)) hl
    simp only [List.length_cons] at hl
    rw [List.map_cons]
    unfold lcGo
    cases eq : unx (mg (g x) ρ) with
    | error z => rw [eq] at h1; cases h1
    | ok ρa =>
      rw [eq] at h1 h2
      have h1 : mt ρa p = .ok (keep x, p) := h1
      show (unx (mt ρa p) >>= _) = _
      rw [h1]
      show (if keep x = true then _ else _) = _
      cases hk : keep x with
      | false =>
        rw [if_neg (by simp), ih acc (by omega), List.filter_cons, hk]
        rfl
      | true =>
        have h2 : me ρa p = .ok (h x, p) := h2 hk
        rw [if_pos rfl]
        show (unx (me ρa p) >>= _) = _
        rw [h2]
        show (if acc.length < sizeLine then _ else _) = _
        rw [if_pos (by rw [line_val]; omega), ih (acc ++ [h x]) (by simp; omega), List.filter_cons, hk]
        simp
/-- .. that draws: I of what is done, of what is had, of the pen -/
theorem lcGo_inv {mg : KG} {mt : KB} {me : KE} {ρ : List Sl} {g : α → D} {I : List α → List D → Pen → Prop} : ∀ (xs pre : List α) (acc : List D) (p : Pen), I pre acc p →
    (∀ pre' x post acc p, pre ++ xs = pre' ++ x :: post → I pre' acc p → ∃ ρ1 k p1, unx (mg (g x) ρ) = .ok ρ1 ∧ mt ρ1 p = .ok (k, p1) ∧ (k = false → I (pre' ++ [x]) acc p1) ∧ (k = true → acc.length < 16777216 ∧ ∃ d p2, me ρ1 p1 = .ok (d, p2) ∧ I (pre' ++ [x]) (acc ++ [d]) p2)) →
    ∃ acc' p', lcGo mg mt me ρ (xs.map g) acc p = .ok (acc', p') ∧ I (pre ++ xs) acc' p'
  | [], pre, acc, p, h, _ => ⟨acc, p, rfl, by rw [List.append_nil]; exact h⟩
  | x :: xs, pre, acc, p, h, turn => by
    obtain ⟨ρ1, k, p1, e1, e2, hk0, hk1⟩ := turn pre x xs acc p rfl h
    have next : ∀ acc p, I (pre ++ [x]) acc p → ∃ acc' p', lcGo mg mt me ρ (xs.map g) acc p = .ok (acc', p') ∧ I (pre ++ x :: xs) acc' p' := fun acc p h1 => by
      obtain ⟨acc2, p2, e2, h2⟩ := lcGo_inv xs (pre ++ [x]) acc p h1 fun pre' y post acc p ha => turn pre' y post acc p (by rw [← ha, List.append_assoc]; rfl)
      exact ⟨acc2, p2, e2, by rw [List.append_assoc] at h2; exact h2⟩
    rw [List.map_cons]
    unfold lcGo
    rw [e1]
    show ∃ acc' p', (unx (mt ρ1 p) >>= _) = _ ∧ _
    rw [e2]
    show ∃ acc' p', (if k = true then _ else _) = _ ∧ _
    cases k with
    | false =>
      obtain ⟨acc', p', e3, h3⟩ := next acc p1 (hk0 rfl)
      exact ⟨acc', p', by rw [if_neg (by simp)]; exact e3, h3⟩
    | true =>
      obtain ⟨hl, d, p2, e3, h3⟩ := hk1 rfl
      obtain ⟨acc', p', e4, h4⟩ := next _ p2 h3
      refine ⟨acc', p', ?_, h4⟩
      rw [if_pos rfl]
      show (unx (me ρ1 p1) >>= _) = _
      rw [e3]
      show (if acc.length < sizeLine then _ else _) = _
      rw [if_pos (by rw [line_val]; omega)]
      exact e4
/-- a comprehension of two sources that leaves the pen as it is -/
theorem lc2Go_pure {mg mg1 : KG} {mt mt1 : KB} {mi1 : KL} {me : KE} {vs1 : List Nat} {ρ : List Sl} {p : Pen} {g : α → D} {h : α → List D} : ∀ (xs : List α) (acc : List D),
    (∀ x ∈ xs, ∀ acc : List D, acc.length ≤ 1000000 → ∃ ρ1 a, unx (mg (g x) ρ) = .ok ρ1 ∧ mt ρ1 p = .ok (true, p) ∧ mi1 ρ1 p = .ok (a, p) ∧ lcGo mg1 mt1 me (fgtAll vs1 ρ1) a acc p = .ok (acc ++ h x, p)) → acc.length + (xs.flatMap h).length ≤ 1000000 →
    lc2Go mg mt vs1 mi1 mg1 mt1 me ρ (xs.map g) acc p = .ok (acc ++ xs.flatMap h, p)
  | [], acc, _, _ => by simp [lc2Go]
  | x :: xs, acc, hx, hl => by
    simp only [List.flatMap_cons, List.length_append] at hl
    obtain ⟨ρ1, a, e1, e2, e3, e4⟩ := hx x List.mem_cons_self acc (by omega)
    rw [List.map_cons]
    unfold lc2Go
    simp only [e1, e2, e3, e4, unx_ok, ok_bind, if_true]
    rw [lc2Go_pure xs (acc ++ h x) (fun y hy => hx y (List.mem_cons_of_mem _ hy)) (by rw [List.length_append]; omega), List.flatMap_cons, List.append_assoc]
/-- a while that takes n turns -/
theorem while_inv {t : KB} {b : KS} {p : Pen} {ρs : Nat → List Sl} {n : Nat} (hb : ∀ i, i < n → t (ρs i) p = .ok (true, p) ∧ b (ρs i) p = .ok (.nx, ρs (i + 1), p)) (he : t (ρs n) p = .ok (false, p)) : ∀ (m k i : Nat), i + k = n → k < m → whileGo t b m (ρs i) p = .ok (.nx, ρs n, p)
  | 0, _, _, _, h => absurd h (Nat.not_lt_zero _)
  | m + 1, 0, i, hi, _ => by
    have hi : i = n := by omega
    subst hi
    unfold whileGo
    rw [he]
    rfl
  | m + 1, k + 1, i, hi, hm => by
    obtain ⟨h1, h2⟩ := hb i (by omega)
    unfold whileGo
    simp only [h1, h2, ok_bind, if_true]
    exact while_inv hb he m k (i + 1) (by omega) (by omega)
end
end Dn
end
section
set_option Elab.async false
set_option linter.all false
set_option maxRecDepth 100000
set_option maxHeartbeats 400000
namespace K60
open PySem PySem.Spec L2 Dn
/-! ### logs, block by block -/
inductive Bk where
  | meet (a b : Nat) (s t : Str)
  | shout (a : Nat) (l s : Str) (hs : List (Nat × Str))
def mD (a b : Nat) (s t : Str) : D := .tup [.str "meet", .int a, .int b, .str s, .str t]
def sD (a : Nat) (l s : Str) : D := .tup [.str "shout", .int a, .str l, .str s]
def hD (l : Str) (h : Nat × Str) : D := .tup [.str "hear", .int h.1, .str l, .str h.2]
def cD (n : Nat) : D := .tup [.str "crowd", .int n]
def rows : Bk → List D
  | .meet a b s t => [mD a b s t]
  | .shout a l s hs => sD a l s :: hs.map (hD l)
def evs (bs : List Bk) : List D := bs.flatMap rows
def logD (n : Nat) (bs : List Bk) : D := .tup (cD n :: evs bs)
/-- a name -/
structure NameOk (z : Str) : Prop where
  is : m_is_name [.str z] = .ok (.bl true)
  str : PyData.strOk z = true
  len : z.length ≤ 12
  al : ∀ c ∈ z.cps.toList, (97 ≤ c ∧ c < 123) ∨ (48 ≤ c ∧ c < 58)
/-- a block of a log of n hands -/
def BkOk (n : Nat) : Bk → Prop
  | .meet a b s t => a < n ∧ b < n ∧ a ≠ b ∧ NameOk s ∧ NameOk t
  | .shout a l s hs => a < n ∧ NameOk l ∧ NameOk s ∧ (hs.map (·.1)).Pairwise (· < ·) ∧ ∀ h ∈ hs, h.1 < n ∧ h.1 ≠ a ∧ NameOk h.2
structure LogOk (n : Nat) (bs : List Bk) : Prop where
  lo : 1 ≤ n
  hi : n ≤ 30
  ne : bs ≠ []
  ok : ∀ b ∈ bs, BkOk n b
  few : bs.length ≤ 50
@[simp] theorem so1 : PyData.strOk (Str.ofString "crowd") = true := by decide +kernel
@[simp] theorem so2 : PyData.strOk (Str.ofString "meet") = true := by decide +kernel
@[simp] theorem so3 : PyData.strOk (Str.ofString "shout") = true := by decide +kernel
@[simp] theorem so4 : PyData.strOk (Str.ofString "hear") = true := by decide +kernel
theorem nice_m {a b : Nat} {s t : Str} (hs : NameOk s) (ht : NameOk t) : Nice 1 (mD a b s t) := by simp [mD, hs.str, ht.str]
theorem nice_s {a : Nat} {l s : Str} (hs : NameOk l) (ht : NameOk s) : Nice 1 (sD a l s) := by simp [sD, hs.str, ht.str]
theorem nice_h {l : Str} {h : Nat × Str} (hs : NameOk l) (ht : NameOk h.2) : Nice 1 (hD l h) := by simp [hD, hs.str, ht.str]
theorem nice_c {n : Nat} : Nice 1 (cD n) := by simp [cD]
theorem nice_rows {n : Nat} {b : Bk} (h : BkOk n b) : ∀ x ∈ rows b, Nice 1 x := by
  intro x hx
  cases b with
  | meet a b s t =>
    obtain ⟨_, _, _, h1, h2⟩ := h
    rw [List.mem_singleton.mp hx]
    exact nice_m h1 h2
  | shout a l s hs =>
    obtain ⟨_, h1, h2, _, h3⟩ := h
    rcases List.mem_cons.mp hx with rfl | hx
    · exact nice_s h1 h2
    · obtain ⟨y, hy, rfl⟩ := List.mem_map.mp hx
      exact nice_h h1 (h3 y hy).2.2
theorem nice_evs {n : Nat} {bs : List Bk} (h : ∀ b ∈ bs, BkOk n b) : ∀ x ∈ evs bs, Nice 1 x := by
  intro x hx
  obtain ⟨b, hb, hx⟩ := List.mem_flatMap.mp hx
  exact nice_rows (h b hb) x hx
theorem nice_log {n m : Nat} {bs : List Bk} (h : ∀ b ∈ bs, BkOk n b) : Nice 2 (logD m bs) := by
  unfold logD
  rw [nice_tup]
  intro x hx
  rcases List.mem_cons.mp hx with rfl | hx
  · exact nice_c
  · exact nice_evs h x hx
/-! the judge of logs -/
abbrev ordP (n : Nat) (sh : D) (l : Str) (k : Int) : Pen := .ob 11 [("size", .int n), ("shouter", sh), ("letter", .str l), ("last", .int k)]
section
variable {n : Nat} {sh : D} {l : Str} {k : Int}
theorem hand_ok {a : Nat} (h : a < n) : m_Order_is_hand [.int a] (ordP n sh l k) = .ok (.bl true, ordP n sh l k) := by
  simp [m_Order_is_hand, b_Order_is_hand, whole_int]
  omega
theorem hear_ok {a b : Nat} (h : b < n) (hk : k < b) (hb : b ≠ a) : m_Order_can_hear [.int b] (ordP n (.int a) l k) = .ok (.bl true, ordP n (.int a) l k) := by
  have e := hand_ok (sh := .int a) (l := l) (k := k) h
  have hb : (b : Int) ≠ a := by omega
  simp [m_Order_can_hear, b_Order_can_hear, e, hk, hb]
theorem event_meet {a b : Nat} {s t : Str} (h : BkOk n (.meet a b s t)) : m_Order_is_event [mD a b s t] (ordP n sh l k) = .ok (.bl true, ordP n sh l k) := by
  obtain ⟨h1, h2, h3, h4, h5⟩ := h
  have e1 := hand_ok (sh := sh) (l := l) (k := k) h1
  have e2 := hand_ok (sh := sh) (l := l) (k := k) h2
  have e3 := eqD_cn (nice_m (a := a) (b := b) h4 h5).fit
  have h3 : (a : Int) ≠ b := by omega
  simp [m_Order_is_event, b_Order_is_event, mD, sizes, e1, e2, h4.is, h5.is, e3, h3]
theorem event_shout {a : Nat} {z s : Str} (h1 : a < n) (h4 : NameOk z) (h5 : NameOk s) : m_Order_is_event [sD a z s] (ordP n sh l k) = .ok (.bl true, ordP n sh l k) := by
  have e1 := hand_ok (sh := sh) (l := l) (k := k) h1
  have e3 := eqD_cn (nice_s (a := a) h4 h5).fit
  simp [m_Order_is_event, b_Order_is_event, sD, sizes, e1, h4.is, h5.is, e3]
theorem event_hear {a : Nat} {h : Nat × Str} (h1 : h.1 < n) (h2 : h.1 ≠ a) (h3 : k < h.1) (h4 : NameOk l) (h5 : NameOk h.2) : m_Order_is_event [hD l h] (ordP n (.int a) l k) = .ok (.bl true, ordP n (.int a) l k) := by
  have e1 := hand_ok (sh := .int a) (l := l) (k := k) h1
  have e2 := hear_ok (l := l) h1 h3 h2
  have e3 := eqD_cn (nice_h h4 h5).fit
  simp [m_Order_is_event, b_Order_is_event, hD, sizes, e1, e2, h4.is, h5.is, e3]
theorem take_meet {a b : Nat} {s t : Str} : m_Order_take [mD a b s t] (ordP n sh l k) = .ok (.non, ordP n .non l k) := by
  simp [m_Order_take, b_Order_take, mD, putD, isSca]
theorem take_shout {a : Nat} {z s : Str} : m_Order_take [sD a z s] (ordP n sh l k) = .ok (.non, ordP n (.int a) z (-1)) := by
  simp [m_Order_take, b_Order_take, sD, putD, putAll, isSca]
theorem take_hear {z : Str} {h : Nat × Str} : m_Order_take [hD z h] (ordP n sh l k) = .ok (.non, ordP n sh l h.1) := by
  simp [m_Order_take, b_Order_take, hD, putD, putAll, isSca]
end
end K60
end
section
set_option Elab.async false
set_option linter.all false
set_option maxRecDepth 100000
set_option maxHeartbeats 400000
namespace K60
open PySem PySem.Spec L2 Dn
/-! ### a right log is one -/
abbrev lgB : KS := kSeq (kIfS (kNotB (kT (kMeth 1 11 "is_event" 1 m_Order_is_event (kCons (kVar 2) kNil)))) (kRet (kC (.bl false))) kNext) (kDrop (kMeth 1 11 "take" 1 m_Order_take (kCons (kVar 2) kNil)))
section
variable {n : Nat} {sh : D} {l : Str} {k : Int} {L : D} {s : Sl}
theorem log_hears {a : Nat} (hl : NameOk l) : ∀ (hs : List (Nat × Str)) (k : Int) (s : Sl), (hs.map (·.1)).Pairwise (· < ·) → (∀ h ∈ hs, h.1 < n ∧ h.1 ≠ a ∧ NameOk h.2) → (∀ h ∈ hs, k < h.1) →
    ∃ s' k', Goes (gkN 2) lgB (hs.map (hD l)) [.val L, .pen, s] (ordP n (.int a) l k) [.val L, .pen, s'] (ordP n (.int a) l k')
  | [], k, s, _, _, _ => ⟨s, k, rfl, rfl⟩
  | h :: hs, k, s, hp, ho, hk => by
    obtain ⟨h1, h2, h3⟩ := ho h List.mem_cons_self
    rw [List.map_cons, List.pairwise_cons] at hp
    have e1 := event_hear (k := k) h1 h2 (hk h List.mem_cons_self) hl h3
    have e2 := take_hear (n := n) (sh := .int a) (l := l) (k := k) (z := l) (h := h)
    obtain ⟨s', k', ih⟩ := log_hears hl hs h.1 (.val (hD l h)) hp.2 (fun y hy => ho y (List.mem_cons_of_mem _ hy)) fun y hy => by
      have := hp.1 y.1 (List.mem_map.mpr ⟨y, hy, rfl⟩)
      omega
    exact ⟨s', k', .nx, _, _, by simp [e1, e2], .inl rfl, ih⟩
theorem log_block {b : Bk} (h : BkOk n b) : ∃ s' sh' l' k', Goes (gkN 2) lgB (rows b) [.val L, .pen, s] (ordP n sh l k) [.val L, .pen, s'] (ordP n sh' l' k') := by
  cases b with
  | meet a b u t =>
    have e1 := event_meet (sh := sh) (l := l) (k := k) h
    have e2 := take_meet (n := n) (sh := sh) (l := l) (k := k) (a := a) (b := b) (s := u) (t := t)
    exact ⟨.val (mD a b u t), .non, l, k, .nx, _, _, by simp [e1, e2], .inl rfl, rfl, rfl⟩
  | shout a z u hs =>
    obtain ⟨h1, h2, h3, h4, h5⟩ := h
    have e1 := event_shout (sh := sh) (l := l) (k := k) h1 h2 h3
    have e2 := take_shout (n := n) (sh := sh) (l := l) (k := k) (a := a) (z := z) (s := u)
    obtain ⟨s', k', ih⟩ := log_hears (L := L) (n := n) (a := a) h2 hs (-1) (.val (sD a z u)) h4 h5 fun y hy => by omega
    exact ⟨s', _, _, k', .nx, _, _, by simp [e1, e2], .inl rfl, ih⟩
theorem log_blocks : ∀ (bs : List Bk) (s : Sl) (sh : D) (l : Str) (k : Int), (∀ b ∈ bs, BkOk n b) → ∃ s' sh' l' k', Goes (gkN 2) lgB (evs bs) [.val L, .pen, s] (ordP n sh l k) [.val L, .pen, s'] (ordP n sh' l' k')
  | [], s, sh, l, k, _ => ⟨s, sh, l, k, rfl, rfl⟩
  | b :: bs, s, sh, l, k, h => by
    obtain ⟨s1, sh1, l1, k1, h1⟩ := log_block (L := L) (s := s) (sh := sh) (l := l) (k := k) (h b List.mem_cons_self)
    obtain ⟨s2, sh2, l2, k2, h2⟩ := log_blocks bs s1 sh1 l1 k1 fun y hy => h y (List.mem_cons_of_mem _ hy)
    exact ⟨s2, sh2, l2, k2, h1.app h2⟩
end
theorem init_ok {n : Nat} : m_Order___init__ [.int n] (.ob 11 []) = .ok (.non, ordP n .non "" (-1)) := by
  simp [m_Order___init__, b_Order___init__, putD, isSca]
theorem log_is {n : Nat} {bs : List Bk} (h : LogOk n bs) : m_is_log [logD n bs] = .ok (.bl true) := by
  obtain ⟨s', sh', l', k', hg⟩ := log_blocks (L := logD n bs) (n := n) bs .no .non "" (-1) h.ok
  have e0 := eqD_cn (x := cD n) (r := evs bs) (nice_log h.ok).fit
  have e1 := head_ok n ⟨by have := h.lo; omega, by have := h.hi; omega⟩
  have e2 := init_ok (n := n)
  have e3 := hg.ok
  unfold logD cD at e0 e3 ⊢
  simp [m_is_log, b_is_log, e0, e1, e2, e3, plainSs, plainS]
theorem need_ok {n : Nat} {bs : List Bk} (h : LogOk n bs) : m_need_log [logD n bs] = .ok .non := by
  simp [m_need_log, b_need_log, log_is h]
theorem begin_ok {n : Nat} {bs : List Bk} {z : Str} (h : LogOk n bs) (hz : NameOk z) : m_need_begin [.str z, logD n bs] = .ok .non := by
  simp [m_need_begin, b_need_begin, need_ok h, hz.is]
end K60
end
section
set_option Elab.async false
set_option linter.all false
set_option maxRecDepth 100000
set_option maxHeartbeats 400000
namespace Dn
open PySem PySem.Spec L2
theorem eqv_str (a b : Str) : PyData.eqv (.str a) (.str b) = decide (a = b) := by
  rw [PyData.eqv]
  rfl
theorem eqv_int (a b : Int) : PyData.eqv (.int a) (.int b) = decide (a = b) := by
  rw [PyData.eqv]
  rfl
theorem inB_strs (z : Str) (zs : List Str) : inB (.str z) (.tup (zs.map D.str)) = some (decide (z ∈ zs)) := by
  show (if flatD _ = true ∧ (List.map _ zs).all flatD = true then some ((List.map _ zs).any _) else _) = _
  rw [if_pos (by simp [flatD, List.all_map])]
  congr 1
  induction zs with
  | nil => rfl
  | cons y r ih =>
    rw [List.map_cons, List.any_cons, ih]
    simp only [pd, eqv_str]
    by_cases h1 : y = z
    · subst h1; simp
    · have h2 : z ≠ y := fun e => h1 e.symm
      simp [h1, h2]
@[simp] theorem inD_2 (z a b : Str) : inD (.str z) (.tup [.str a, .str b]) = some (.bl (decide (z = a ∨ z = b))) := by
  unfold inD
  have h := inB_strs z [a, b]
  simp only [List.map_cons, List.map_nil] at h
  rw [h]
  simp
theorem inB_ints (z : Int) (zs : List Int) : inB (.int z) (.lst (zs.map D.int)) = some (decide (z ∈ zs)) := by
  show (if flatD _ = true ∧ (List.map _ zs).all flatD = true then some ((List.map _ zs).any _) else _) = _
  rw [if_pos (by simp [flatD, List.all_map])]
  congr 1
  induction zs with
  | nil => rfl
  | cons y r ih =>
    rw [List.map_cons, List.any_cons, ih]
    simp only [pd, eqv_int]
    by_cases h1 : y = z
    · subst h1; simp
    · have h2 : z ≠ y := fun e => h1 e.symm
      simp [h1, h2]
theorem notInD_ints (z : Int) (zs : List Int) : notInD (.int z) (.lst (zs.map D.int)) = some (.bl (!decide (z ∈ zs))) := by
  unfold notInD
  rw [inB_ints]
  rfl
theorem rp_c {ds : List D} {n : Nat} (hn : n ≤ 1000) (hd : ds.length * n ≤ 16777216) : (n : Int) < 2 ^ 63 ∧ -(2 ^ 63) ≤ (n : Int) ∧ ds.length * (n : Int).toNat ≤ sizeLine := by
    refine ⟨by omega, by omega, ?_⟩
    rw [Int.toNat_natCast]
    exact Nat.le_trans hd (Nat.le_of_eq line_val.symm)
theorem repL_nat {ds : List D} {n : Nat} (hn : n ≤ 1000) (hd : ds.length * n ≤ 16777216) : repL ds (.int n) = some (List.replicate n ds).flatten := by
  have c := rp_c hn hd
  simp only [repL]
  rw [if_pos c]
  rfl
end Dn
end
section
set_option Elab.async false
set_option linter.all false
set_option maxRecDepth 100000
set_option maxHeartbeats 400000
namespace K60
open PySem PySem.Spec L2 Dn
/-! ### where hands are -/
def pairD (h : Nat × Str) : D := .tup [.int h.1, .str h.2]
def chB : Bk → List (Nat × Str)
  | .meet a b s t => [(a, s), (b, t)]
  | .shout a _ s hs => (a, s) :: hs
theorem ch_meet {a b : Nat} {s t : Str} : m_changes_by [mD a b s t] = .ok (.lst [pairD (a, s), pairD (b, t)]) := by
  simp [m_changes_by, b_changes_by, mD, pairD]
theorem ch_shout {a : Nat} {l s : Str} : m_changes_by [sD a l s] = .ok (.lst [pairD (a, s)]) := by
  simp [m_changes_by, b_changes_by, sD, pairD]
theorem ch_hear {l : Str} {h : Nat × Str} : m_changes_by [hD l h] = .ok (.lst [pairD h]) := by
  simp [m_changes_by, b_changes_by, hD, pairD]
theorem ch_crowd {n : Nat} : m_changes_by [cD n] = .ok (.lst []) := by
  simp [m_changes_by, b_changes_by, cD, pairD]
def fin (st : List Str) (cs : List (Nat × Str)) : List Str := cs.foldl (fun f c => f.set c.1 c.2) st
theorem fin_app (st : List Str) (a b : List (Nat × Str)) : fin st (a ++ b) = fin (fin st a) b := by unfold fin; rw [List.foldl_append]
@[simp] theorem fin_len (cs : List (Nat × Str)) : ∀ st : List Str, (fin st cs).length = st.length := by
  induction cs with
  | nil => intro st; rfl
  | cons c cs ih =>
    intro st
    show (fin (st.set c.1 c.2) cs).length = _
    rw [ih, List.length_set]
def allCh (bs : List Bk) : List (Nat × Str) := bs.flatMap chB
/-- a row with its changes -/
def Chs (x : D) (cs : List (Nat × Str)) : Prop := m_changes_by [x] = .ok (.lst (cs.map pairD))
inductive ChAll : List D → List (Nat × Str) → Prop
  | nil : ChAll [] []
  | cons {x : D} {cs : List (Nat × Str)} {xs : List D} {ds : List (Nat × Str)} : Chs x cs → ChAll xs ds → ChAll (x :: xs) (cs ++ ds)
theorem ChAll.app : ∀ {xs ys : List D} {cs ds : List (Nat × Str)}, ChAll xs cs → ChAll ys ds → ChAll (xs ++ ys) (cs ++ ds)
  | _, _, _, _, .nil, k => k
  | _, _, _, _, .cons h r, k => by
    rw [List.cons_append, List.append_assoc]
    exact .cons h (r.app k)
theorem chAll_rows (b : Bk) : ChAll (rows b) (chB b) := by
  cases b with
  | meet a b s t => exact .cons (cs := [(a, s), (b, t)]) ch_meet .nil
  | shout a l s hs =>
    refine .cons (cs := [(a, s)]) ch_shout ?_
    induction hs with
    | nil => exact .nil
    | cons h hs ih => exact .cons (cs := [h]) ch_hear ih
theorem chAll_evs : ∀ bs : List Bk, ChAll (evs bs) (allCh bs)
  | [] => .nil
  | b :: bs => (chAll_rows b).app (chAll_evs bs)
theorem chAll_log (n : Nat) (bs : List Bk) : ChAll (cD n :: evs bs) (allCh bs) := .cons (cs := []) ch_crowd (chAll_evs bs)
theorem ch_lt {n : Nat} {bs : List Bk} (h : ∀ b ∈ bs, BkOk n b) : ∀ c ∈ allCh bs, c.1 < n := by
  intro c hc
  obtain ⟨b, hb, hc⟩ := List.mem_flatMap.mp hc
  have ok := h b hb
  cases b with
  | meet a b s t =>
    obtain ⟨h1, h2, _⟩ := ok
    simp only [chB, List.mem_cons, List.not_mem_nil, or_false] at hc
    rcases hc with rfl | rfl
    · exact h1
    · exact h2
  | shout a l s hs =>
    obtain ⟨h1, _, _, _, h2⟩ := ok
    simp only [chB, List.mem_cons] at hc
    rcases hc with rfl | hc
    · exact h1
    · exact (h2 c hc).1
theorem set_go {s0 s1 s3 : Sl} {p : Pen} : ∀ (cs : List (Nat × Str)) (st : List Str) (s4 s5 : Sl), (∀ c ∈ cs, c.1 < st.length) →
    ∃ s4' s5', Goes (gkTup 2 (gkCons (gkN 4) (gkCons (gkN 5) gkNil))) (kSet 2 (kVar 4) (kVar 5)) (cs.map pairD) [s0, s1, .own (st.map D.str), s3, s4, s5] p [s0, s1, .own ((fin st cs).map D.str), s3, s4', s5'] p
  | [], st, s4, s5, _ => ⟨s4, s5, rfl, rfl⟩
  | c :: cs, st, s4, s5, h => by
    have hc := h c List.mem_cons_self
    obtain ⟨s4', s5', ih⟩ := set_go cs (st.set c.1 c.2) (.val (.int c.1)) (.val (.str c.2)) (fun y hy => by rw [List.length_set]; exact h y (List.mem_cons_of_mem _ hy))
    have ei : ixN st.length (c.1 : Int) = some c.1 := by
      unfold ixN
      rw [if_pos (by omega), if_pos (by omega)]
      rfl
    refine ⟨s4', s5', .nx, _, _, ?_, .inl rfl, ih⟩
    simp [pairD, ei, List.map_set]
abbrev stB : KS := kFor (kSeqI (kCall 1 m_changes_by [] (kCons (kVar 3) kNil))) (gkTup 2 (gkCons (gkN 4) (gkCons (gkN 5) gkNil))) (kSet 2 (kVar 4) (kVar 5))
theorem st_go {s0 s1 : Sl} {p : Pen} : ∀ {xs : List D} {cs : List (Nat × Str)}, ChAll xs cs → ∀ (st : List Str) (s3 s4 s5 : Sl), (∀ c ∈ cs, c.1 < st.length) →
    ∃ s3' s4' s5', Goes (gkN 3) stB xs [s0, s1, .own (st.map D.str), s3, s4, s5] p [s0, s1, .own ((fin st cs).map D.str), s3', s4', s5'] p
  | _, _, .nil, st, s3, s4, s5, _ => ⟨s3, s4, s5, rfl, rfl⟩
  | _, _, .cons (x := x) (cs := cs) (xs := xs) (ds := ds) hx hr, st, s3, s4, s5, h => by
    obtain ⟨s4', s5', h1⟩ := set_go (s0 := s0) (s1 := s1) (s3 := .val x) (p := p) cs st s4 s5 fun c hc => h c (List.mem_append_left _ hc)
    obtain ⟨t3, t4, t5, ih⟩ := st_go hr (fin st cs) (.val x) s4' s5' fun c hc => by rw [fin_len]; exact h c (List.mem_append_right _ hc)
    rw [fin_app]
    refine ⟨t3, t4, t5, .nx, _, _, ?_, .inl rfl, ih⟩
    have e := h1.ok
    unfold Chs at hx
    simp [hx, e]
def stOf (z : Str) (n : Nat) (bs : List Bk) : List Str := fin (List.replicate n z) (allCh bs)
@[simp] theorem stOf_len (z : Str) (n : Nat) (bs : List Bk) : (stOf z n bs).length = n := by unfold stOf; rw [fin_len, List.length_replicate]
theorem states_by {z : Str} {n : Nat} {bs : List Bk} (hn : n ≤ 100) (h : ∀ b ∈ bs, BkOk n b) : m_states_by [.str z, logD n bs] = .ok (.lst ((stOf z n bs).map D.str)) := by
  obtain ⟨s3, s4, s5, hg⟩ := st_go (s0 := .val (.str z)) (s1 := .val (logD n bs)) (p := pen0) (chAll_log n bs) (List.replicate n z) .no .no .no fun c hc => by
    rw [List.length_replicate]
    exact ch_lt h c hc
  have e := hg.ok
  have er : repL [.str z] (.int n) = some ((List.replicate n z).map D.str) := by
    rw [repL_nat (by omega) (by simp; omega)]
    simp
  unfold logD cD at e ⊢
  simp only [List.map_replicate] at er e
  simp [m_states_by, b_states_by, er, e]
  rfl
theorem states_behind {z : Str} {n : Nat} {bs : List Bk} (h : LogOk n bs) (hz : NameOk z) : m_states_behind [.str z, logD n bs] = .ok (.tup ((stOf z n bs).map D.str)) := by
  have := h.hi
  simp [m_states_behind, b_states_behind, begin_ok h hz, states_by (show n ≤ 100 by omega) h.ok]
end K60
end
section
set_option Elab.async false
set_option linter.all false
set_option maxRecDepth 100000
set_option maxHeartbeats 400000
namespace K60
open PySem PySem.Spec L2 Dn
/-! ### counting states -/
theorem mem_news (zs : List Str) : (∀ s, s ∈ news zs ↔ s ∈ zs) ∧ (news zs).Nodup := by
  suffices h : ∀ rs : List Str, (∀ s, s ∈ news rs.reverse ↔ s ∈ rs.reverse) ∧ (news rs.reverse).Nodup by
    have := h zs.reverse
    rwa [List.reverse_reverse] at this
  intro rs
  induction rs with
  | nil => exact ⟨fun s => Iff.rfl, List.nodup_nil⟩
  | cons k ks ih =>
    rw [List.reverse_cons, news_snoc]
    split
    · rename_i hk
      refine ⟨fun s => ?_, ih.2⟩
      rw [ih.1, List.mem_append, List.mem_singleton]
      exact ⟨.inl, fun h => h.elim id fun e => by rw [e]; exact (ih.1 k).mp hk⟩
    · rename_i hk
      refine ⟨fun s => ?_, List.nodup_cons.mpr ⟨hk, ih.2⟩⟩
      rw [List.mem_cons, ih.1, List.mem_append, List.mem_singleton]
      exact Or.comm
theorem news_perm {zs ws : List Str} (h : ∀ s, s ∈ zs ↔ s ∈ ws) : sortS (news zs) = sortS (news ws) := by
  refine sortS_perm ((List.perm_ext_iff_of_nodup (mem_news zs).2 (mem_news ws).2).mpr fun s => ?_)
  rw [(mem_news zs).1, (mem_news ws).1, h]
theorem mem_sortS {s : Str} {zs : List Str} : s ∈ sortS zs ↔ s ∈ zs := (List.mergeSort_perm zs leS).mem_iff
def cntD1 (zs : List Str) (s : Str) : D := .tup [.str s, .int (zs.count s : Nat)]
def cntL (zs : List Str) : List D := (sortS (news zs)).map (cntD1 zs)
theorem cntL_perm {zs ws : List Str} (h : zs.Perm ws) : cntL zs = cntL ws := by
  unfold cntL
  rw [news_perm fun s => h.mem_iff]
  exact List.map_congr_left fun s _ => by unfold cntD1; rw [h.count_eq]
theorem allS_map (zs : List Str) : allS (zs.map D.str) = some zs := by
  induction zs with
  | nil => rfl
  | cons z r ih =>
    show (allS (r.map D.str)).map (z :: ·) = _
    rw [ih]
    rfl
theorem fit_strs {zs : List Str} (h : ∀ z ∈ zs, PyData.strOk z = true) : fit (.lst (zs.map D.str)) = true := by
  refine (show Nice 1 _ from ?_).fit
  rw [nice_lst]
  intro x hx
  obtain ⟨z, hz, rfl⟩ := List.mem_map.mp hx
  rw [nice_str]
  exact h z hz
theorem cnt_at {zs : List Str} {s : Str} (h : ∀ z ∈ zs, PyData.strOk z = true) (hs : PyData.strOk s = true) : cntD (.lst (zs.map D.str)) [.str s] = some (.int (zs.count s : Nat)) := by
  have f1 : fit (.str s) = true := (show Nice 0 (.str s) by simpa using hs).fit
  have e : ((zs.map D.str).countP (eqN (.str s))) = zs.count s := by
    unfold List.count
    rw [List.countP_map]
    congr 1
  show (if fit (.str s) = true ∧ fit (.lst (zs.map D.str)) = true then _ else _) = _
  rw [if_pos ⟨f1, fit_strs h⟩, e]
theorem counted_ok {zs : List Str} (h : ∀ z ∈ zs, PyData.strOk z = true) (hl : zs.length ≤ 100) : m_counted [.lst (zs.map D.str)] = .ok (.tup (cntL zs)) := by
  have e1 := lcGo_pure (mg := gkN 1) (mt := kYes) (me := kTup (kCons (kVar 1) (kCons (kBm "list" cntD (kVar 0) (kCons (kVar 1) kNil)) kNil))) (ρ := [.val (.lst (zs.map D.str)), .no]) (p := pen0) (g := D.str) (h := cntD1 zs) (keep := fun _ => true) (sortS (news zs)) [] (fun s hs => by
    have hz : s ∈ zs := (mem_news zs).1 s |>.mp (mem_sortS.mp hs)
    simp [cnt_at h (h s hz), tyD, cntD1]) (by
    have := news_len zs
    have h2 : (sortS (news zs)).length = (news zs).length := (List.mergeSort_perm _ _).length_eq
    simp only [List.length_nil]
    omega)
  rw [List.filter_eq_self.mpr (fun _ _ => rfl)] at e1
  have hl : zs.length ≤ 4000 := by omega
  simp [m_counted, b_counted, allS_map, e1, hl, cntL]
end K60
end
section
set_option Elab.async false
set_option linter.all false
set_option maxRecDepth 100000
set_option maxHeartbeats 400000
namespace K60
open PySem PySem.Spec L2 Dn
theorem fin_mem {x : Str} (cs : List (Nat × Str)) : ∀ st : List Str, x ∈ fin st cs → x ∈ st ∨ ∃ c ∈ cs, c.2 = x := by
  induction cs with
  | nil => intro st h; exact .inl h
  | cons c cs ih =>
    intro st h
    rcases ih (st.set c.1 c.2) h with h | ⟨d, hd, e⟩
    · rcases List.mem_or_eq_of_mem_set h with h | h
      · exact .inl h
      · exact .inr ⟨c, List.mem_cons_self, h.symm⟩
    · exact .inr ⟨d, List.mem_cons_of_mem _ hd, e⟩
theorem ch_name {n : Nat} {bs : List Bk} (h : ∀ b ∈ bs, BkOk n b) : ∀ c ∈ allCh bs, NameOk c.2 := by
  intro c hc
  obtain ⟨b, hb, hc⟩ := List.mem_flatMap.mp hc
  have ok := h b hb
  cases b with
  | meet a b s t =>
    obtain ⟨_, _, _, h1, h2⟩ := ok
    simp only [chB, List.mem_cons, List.not_mem_nil, or_false] at hc
    rcases hc with rfl | rfl
    · exact h1
    · exact h2
  | shout a l s hs =>
    obtain ⟨_, _, h1, _, h2⟩ := ok
    simp only [chB, List.mem_cons] at hc
    rcases hc with rfl | hc
    · exact h1
    · exact (h2 c hc).2.2
theorem st_name {z : Str} {n : Nat} {bs : List Bk} (hz : NameOk z) (h : ∀ b ∈ bs, BkOk n b) : ∀ s ∈ stOf z n bs, NameOk s := by
  intro s hs
  rcases fin_mem _ _ hs with h1 | ⟨c, hc, rfl⟩
  · rw [(List.mem_replicate.mp h1).2]
    exact hz
  · exact ch_name h c hc
theorem counts_behind {z : Str} {n : Nat} {bs : List Bk} (h : LogOk n bs) (hz : NameOk z) : m_counts_behind [.str z, logD n bs] = .ok (.tup (cntL (stOf z n bs))) := by
  have := h.hi
  have e := counted_ok (zs := stOf z n bs) (fun s hs => (st_name hz h.ok s hs).str) (by rw [stOf_len]; omega)
  simp [m_counts_behind, b_counts_behind, begin_ok h hz, states_by (show n ≤ 100 by omega) h.ok, e]
/-! ### stops -/
def wd : D → Str
  | .tup (.str w :: _) => w
  | _ => ""
def Row (x : D) : Prop := ∃ w r, x = .tup (.str w :: r)
theorem row_ev {bs : List Bk} : ∀ x ∈ evs bs, Row x := by
  intro x hx
  obtain ⟨b, _, hx⟩ := List.mem_flatMap.mp hx
  cases b with
  | meet a b s t =>
    rw [List.mem_singleton.mp hx]
    exact ⟨_, _, rfl⟩
  | shout a l s hs =>
    rcases List.mem_cons.mp hx with rfl | hx
    · exact ⟨_, _, rfl⟩
    · obtain ⟨y, _, rfl⟩ := List.mem_map.mp hx
      exact ⟨_, _, rfl⟩
/-- the places from k on where no hear comes next -/
def bnd : Nat → List D → List Nat
  | k, [] => [k]
  | k, y :: ys => if wd y = "hear" then bnd (k + 1) ys else k :: bnd (k + 1) ys
def keepS (ys : List D) (i : Nat) : Bool := decide (i = ys.length) || (match ys[i]? with
  | some y => !decide (wd y = "hear")
  | none => false)
theorem bnd_eq : ∀ (ys : List D) (k : Nat), ((List.range (ys.length + 1)).filter (keepS ys)).map (k + ·) = bnd k ys
  | [], k => by
    simp [bnd, keepS, List.range_succ]
  | y :: ys, k => by
    have ih := bnd_eq ys (k + 1)
    have e : ∀ i, keepS (y :: ys) (i + 1) = keepS ys i := fun i => by simp [keepS]
    have e2 : ((List.range (ys.length + 1)).map Nat.succ).filter (keepS (y :: ys)) = ((List.range (ys.length + 1)).filter (keepS ys)).map Nat.succ := by
      rw [List.filter_map]
      congr 1
      exact List.filter_congr fun i _ => e i
    have e3 : (((List.range (ys.length + 1)).filter (keepS ys)).map Nat.succ).map (k + ·) = bnd (k + 1) ys := by
      rw [← ih, List.map_map]
      exact List.map_congr_left fun i _ => by simp; omega
    rw [List.length_cons, List.range_succ_eq_map, List.filter_cons, e2]
    by_cases h : wd y = "hear"
    · rw [if_neg (by simp [keepS, h]), e3]
      simp [bnd, h]
    · rw [if_pos (by simp [keepS, h]), List.map_cons, e3]
      simp [bnd, h]
def pre (bs : List Bk) : List (List Bk) := (List.range (bs.length + 1)).map fun j => bs.take j
theorem pre_cons (b : Bk) (bs : List Bk) : pre (b :: bs) = [] :: (pre bs).map (b :: ·) := by
  unfold pre
  rw [List.length_cons, List.range_succ_eq_map]
  simp
theorem bnd_hears (l : Str) (ys : List D) : ∀ (hs : List (Nat × Str)) (k : Nat), bnd k (hs.map (hD l) ++ ys) = bnd (k + hs.length) ys
  | [], k => rfl
  | h :: hs, k => by
    rw [List.map_cons, List.cons_append, bnd, if_pos (show wd (hD l h) = (Str.ofString "hear") from rfl), bnd_hears l ys hs, List.length_cons]
    congr 1
    omega
theorem bnd_rows (b : Bk) (ys : List D) (k : Nat) : bnd k (rows b ++ ys) = k :: bnd (k + (rows b).length) ys := by
  cases b with
  | meet a b s t =>
    show bnd k (mD a b s t :: ys) = _
    rw [bnd, if_neg (by simp [wd, mD])]
    rfl
  | shout a l s hs =>
    show bnd k (sD a l s :: (hs.map (hD l) ++ ys)) = _
    rw [bnd, if_neg (by simp [wd, sD]), bnd_hears]
    simp only [rows, List.length_cons, List.length_map]
    congr 2
    omega
theorem bnd_evs : ∀ (bs : List Bk) (k : Nat), bnd k (evs bs) = (pre bs).map fun q => k + (evs q).length
  | [], k => rfl
  | b :: bs, k => by
    show bnd k (rows b ++ evs bs) = _
    rw [bnd_rows, bnd_evs bs, pre_cons, List.map_cons, List.map_map]
    congr 1
    exact List.map_congr_left fun q _ => by
      show k + (rows b).length + (evs q).length = k + (rows b ++ evs q).length
      rw [List.length_append]
      omega
theorem rgI_nat {n : Nat} (h : n ≤ 1000000) : rgI 1 ((n : Int) + 1 + 1) = some ((List.range (n + 1)).map fun i => .int (1 + (i : Nat))) := by
  unfold rgI rgD
  rw [if_pos (by omega)]
  congr 3
  omega
/-- the stop behind these blocks -/
def posI (q : List Bk) : Int := ((1 + (evs q).length : Nat) : Int)
theorem stops_by {n : Nat} {bs : List Bk} (hl : (evs bs).length ≤ 1000000) : m_stops_by [logD n bs] = .ok (.lst ((pre bs).map fun q => .int (posI q))) := by
  have e1 := lcGo_pure (mg := gkN 1) (mt := kOrB (kT (kOp eqD (kVar 1) (kCa lenD (kCons (kVar 0) kNil)))) (kT (kOp neD (kOp ixD (kOp ixD (kVar 0) (kVar 1)) (kC (.int 0))) (kC (.str "hear"))))) (me := kVar 1)
    (ρ := [.val (logD n bs), .no]) (p := pen0) (g := fun i : Nat => .int (1 + (i : Nat))) (h := fun i : Nat => .int (1 + (i : Nat))) (keep := keepS (evs bs)) (List.range ((evs bs).length + 1)) [] (fun i hi => by
    have hi := List.mem_range.mp hi
    refine ⟨?_, fun _ => by simp⟩
    by_cases h : i = (evs bs).length
    · have h1 : (1 : Int) + i = (evs bs).length + 1 := by omega
      simp [logD, h1, keepS, h]
      omega
    · have h1 : ¬ (1 : Int) + i = (evs bs).length + 1 := by omega
      have h2 : i < (evs bs).length := by omega
      obtain ⟨w, r, e⟩ := row_ev _ (List.getElem_mem h2)
      have h3 : atI (cD n :: evs bs) (1 + (i : Int)) = some ((evs bs)[i]) := by
        have := atI_nat (cD n :: evs bs) (i + 1)
        rw [show ((i + 1 : Nat) : Int) = 1 + (i : Int) by omega] at this
        rw [this]
        simp [h2]
      simp [logD, h1, keepS, h, h2, h3, e, wd]
      by_cases hw : w = Str.ofString "hear" <;> simp [hw]) (by simp; omega)
  have e2 := rgI_nat hl
  have e3 : (((List.range ((evs bs).length + 1)).filter (keepS (evs bs))).map fun i : Nat => D.int (1 + (i : Nat))) = (pre bs).map fun q => .int ((1 + (evs q).length : Nat) : Int) := by
    have e4 := congrArg (List.map fun i : Nat => D.int (i : Nat)) ((bnd_eq (evs bs) 1).trans (bnd_evs bs 1))
    rw [List.map_map, List.map_map] at e4
    refine Eq.trans (List.map_congr_left fun i _ => ?_) e4
    show D.int (1 + (i : Int)) = D.int ((1 + i : Nat) : Int)
    congr 1
  rw [e3, List.nil_append] at e1
  have e1 : lcGo _ _ _ _ _ _ _ = .ok ((pre bs).map fun q => .int (posI q), pen0) := e1
  unfold logD at e1 ⊢
  simp [m_stops_by, b_stops_by, e2, e1]
end K60
end
section
set_option Elab.async false
set_option linter.all false
set_option maxRecDepth 100000
set_option maxHeartbeats 400000
namespace K60
open PySem PySem.Spec L2 Dn
theorem rows_len {n : Nat} {b : Bk} (h : BkOk n b) : (rows b).length ≤ n + 1 := by
  cases b with
  | meet a b s t => simp [rows]
  | shout a l s hs =>
    obtain ⟨_, _, _, h1, h2⟩ := h
    have : (hs.map (·.1)).length ≤ n := by
      have nd : (hs.map (·.1)).Nodup := h1.imp fun h => Nat.ne_of_lt h
      have sub : (hs.map (·.1)) ⊆ List.range n := fun x hx => by
        obtain ⟨y, hy, rfl⟩ := List.mem_map.mp hx
        exact List.mem_range.mpr (h2 y hy).1
      have := nd.length_le_of_subset sub
      simpa using this
    simp only [rows, List.length_cons, List.length_map] at this ⊢
    omega
theorem evs_len {n : Nat} : ∀ {bs : List Bk}, (∀ b ∈ bs, BkOk n b) → (evs bs).length ≤ bs.length * (n + 1)
  | [], _ => by simp [evs]
  | b :: bs, h => by
    have h1 := rows_len (h b List.mem_cons_self)
    have h2 := evs_len fun y hy => h y (List.mem_cons_of_mem _ hy)
    show (rows b ++ evs bs).length ≤ _
    rw [List.length_append, List.length_cons, Nat.succ_mul]
    omega
theorem LogOk.len {n : Nat} {bs : List Bk} (h : LogOk n bs) : (evs bs).length ≤ 2000 := by
  have h1 := evs_len h.ok
  have h2 := h.few
  have h3 := h.hi
  have : bs.length * (n + 1) ≤ 50 * 31 := Nat.mul_le_mul h2 (by omega)
  omega
theorem stops_of {n : Nat} {bs : List Bk} (h : LogOk n bs) : m_stops_of [logD n bs] = .ok (.tup ((pre bs).map fun q => .int (posI q))) := by
  have := h.len
  simp [m_stops_of, b_stops_of, need_ok h, stops_by (n := n) (bs := bs) (by omega)]
theorem pre_sub {bs q : List Bk} (h : q ∈ pre bs) : ∃ r, bs = q ++ r := by
  obtain ⟨j, _, rfl⟩ := List.mem_map.mp h
  exact ⟨bs.drop j, (List.take_append_drop j bs).symm⟩
def alongD (z : Str) (n : Nat) (q : List Bk) : D := .tup [.int (posI q), .tup (cntL (stOf z n q))]
theorem counts_along {z : Str} {n : Nat} {bs : List Bk} (h : LogOk n bs) (hz : NameOk z) : m_counts_along [.str z, logD n bs] = .ok (.tup ((pre bs).map (alongD z n))) := by
  have hn := h.hi
  have hl := h.len
  have hf := h.few
  have e1 := lcGo_pure (mg := gkN 2) (mt := kYes) (me := kTup (kCons (kVar 2) (kCons (kCall 1 m_counted [] (kCons (kCall 2 m_states_by [] (kCons (kVar 0) (kCons (kSl (kVar 1) kNone (kPart (kVar 2))) kNil))) kNil)) kNil)))
    (ρ := [.val (.str z), .val (logD n bs), .no]) (p := pen0) (g := fun q => .int (posI q)) (h := alongD z n) (keep := fun _ => true) (pre bs) [] (fun q hq => by
    obtain ⟨r, e⟩ := pre_sub hq
    have okq : ∀ b ∈ q, BkOk n b := fun b hb => h.ok b (by rw [e]; exact List.mem_append_left _ hb)
    have cut : cutA (cD n :: evs bs) none (some (posI q)) = cD n :: evs q := by
      unfold posI
      rw [cutA_to, Nat.add_comm, List.take_succ_cons, e]
      show cD n :: List.take (evs q).length (evs (q ++ r)) = _
      unfold evs
      rw [List.flatMap_append, List.take_left]
    have e2 := states_by (z := z) (n := n) (bs := q) (by omega) okq
    have e3 := counted_ok (zs := stOf z n q) (fun s hs => (st_name hz okq s hs).str) (by rw [stOf_len]; omega)
    unfold logD at e2 ⊢
    simp [cut, e2, e3, alongD]) (by unfold pre; simp; omega)
  rw [List.filter_eq_self.mpr (fun _ _ => rfl)] at e1
  have e2 := stops_by (n := n) (bs := bs) (by omega)
  simp [m_counts_along, b_counts_along, begin_ok h hz, e1, e2]
end K60
end
section
set_option Elab.async false
set_option linter.all false
set_option maxRecDepth 100000
set_option maxHeartbeats 400000
namespace K60
open PySem PySem.Spec L2 Dn
/-! ### hands in other numbers -/
def srt (hs : List (Nat × Str)) : List (Nat × Str) := hs.mergeSort fun a b => decide (a.1 ≤ b.1)
def rePair (o : Nat → Nat) (h : Nat × Str) : Nat × Str := (o h.1, h.2)
def renB (o : Nat → Nat) : Bk → Bk
  | .meet a b s t => .meet (o a) (o b) s t
  | .shout a l s hs => .shout (o a) l s (srt (hs.map (rePair o)))
theorem srt_perm (hs : List (Nat × Str)) : (srt hs).Perm hs := List.mergeSort_perm _ _
/-- hears that wait to be sorted -/
structure HsOk (l : Str) (hs : List (Nat × Str)) : Prop where
  nd : (hs.map (·.1)).Nodup
  few : hs.length ≤ 5000
  nm : PyData.strOk l = true ∧ ∀ h ∈ hs, PyData.strOk h.2 = true
theorem sort_hs {l : Str} {hs : List (Nat × Str)} (h : HsOk l hs) : sortL (hs.map (hD l)) = some ((srt hs).map (hD l)) := by
  have e := sortL_rows (w := "hear") (f := fun h : Nat × Str => (h.1 : Int)) (g := fun h => [.str l, .str h.2]) (xs := hs) (by
    have : hs.map (fun h => (h.1 : Int)) = (hs.map (·.1)).map (fun n : Nat => (n : Int)) := by rw [List.map_map]; rfl
    rw [this]
    exact h.nd.map _ fun a b hab e => hab (by omega)) (by have := h.few; omega) (fun a _ b _ => by simp [pds, pd, PySem.W.alikeAll, PySem.W.alike]) (fun a ha => (show Nice 1 _ by simp [h.nm.1, h.nm.2 a ha]).fit)
  have e2 : (fun a b : Nat × Str => decide ((a.1 : Int) ≤ b.1)) = fun a b => decide (a.1 ≤ b.1) := by
    funext a b
    simp
  rw [e2] at e
  exact e
@[simp] theorem srt_nil : srt [] = [] := by simp [srt]
/-- a loop that renumbers: what it does with a row that is no hear, with a hear -/
structure RenL (n : Nat) (o : Nat → Nat) (mg : KG) (b : KS) (p : Pen) (St : List D → List D → Sl → List Sl) : Prop where
  nh : ∀ (x x' : D) (F : List D) (hs : List (Nat × Str)) (l : Str) (s : Sl), ((∃ a c u v, a < n ∧ c < n ∧ x = mD a c u v ∧ x' = mD (o a) (o c) u v) ∨ (∃ a z u, a < n ∧ x = sD a z u ∧ x' = sD (o a) z u) ∨ ∃ m, x = cD m ∧ x' = cD m) → HsOk l hs → F.length + hs.length ≤ 100000 →
    Goes mg b [x] (St F (hs.map (hD l)) s) p (St (F ++ (srt hs).map (hD l) ++ [x']) [] (.val x)) p
  he : ∀ (l : Str) (h : Nat × Str) (F H : List D) (s : Sl), h.1 < n → H.length ≤ 100000 → Goes mg b [hD l h] (St F H s) p (St F (H ++ [hD l (rePair o h)]) (.val (hD l h))) p
section
variable {n : Nat} {o : Nat → Nat} {mg : KG} {b : KS} {p : Pen} {St : List D → List D → Sl → List Sl}
theorem ren_hears (R : RenL n o mg b p St) {l : Str} {F : List D} : ∀ (hs : List (Nat × Str)) (H : List D) (s : Sl), (∀ h ∈ hs, h.1 < n) → H.length + hs.length ≤ 100000 → ∃ s', Goes mg b (hs.map (hD l)) (St F H s) p (St F (H ++ (hs.map (rePair o)).map (hD l)) s') p
  | [], H, s, _, _ => ⟨s, by simp; exact ⟨rfl, rfl⟩⟩
  | h :: hs, H, s, hn, hl => by
    simp only [List.length_cons] at hl
    have h1 := R.he l h F H s (hn h List.mem_cons_self) (by omega)
    obtain ⟨s', h2⟩ := ren_hears R (l := l) (F := F) hs (H ++ [hD l (rePair o h)]) (.val (hD l h)) (fun y hy => hn y (List.mem_cons_of_mem _ hy)) (by simp; omega)
    refine ⟨s', ?_⟩
    have h3 := h1.app h2
    simp only [List.append_assoc, List.singleton_append] at h3
    exact h3
theorem ren_block (R : RenL n o mg b p St) (hi : ∀ x y, x < n → y < n → o x = o y → x = y) {B : Bk} (h : BkOk n B) (hn : n ≤ 100) {F : List D} {hs : List (Nat × Str)} {l : Str} {s : Sl} (ok : HsOk l hs) (hl : F.length + hs.length ≤ 50000) :
    ∃ F' hs' l' s', Goes mg b (rows B) (St F (hs.map (hD l)) s) p (St F' (hs'.map (hD l')) s') p ∧ HsOk l' hs' ∧ F' ++ (srt hs').map (hD l') = F ++ (srt hs).map (hD l) ++ rows (renB o B) ∧ F'.length + hs'.length ≤ F.length + hs.length + n + 1 := by
  have lsrt : (srt hs).length = hs.length := (srt_perm hs).length_eq
  cases B with
  | meet a c u v =>
    obtain ⟨h1, h2, h3, h4, h5⟩ := h
    have g := R.nh (mD a c u v) (mD (o a) (o c) u v) F hs l s (.inl ⟨a, c, u, v, h1, h2, rfl, rfl⟩) ok (by omega)
    refine ⟨_, [], l, _, g, ⟨List.nodup_nil, by simp, ok.nm.1, fun _ h => nomatch h⟩, by simp [renB, rows], ?_⟩
    simp [lsrt]
    have hn0 : 0 < n := by omega
    omega
  | shout a z u gs =>
    obtain ⟨h1, h2, h3, h4, h5⟩ := h
    have g := R.nh (sD a z u) (sD (o a) z u) F hs l s (.inr (.inl ⟨a, z, u, h1, rfl, rfl⟩)) ok (by omega)
    have hg : gs.length ≤ n := by
      have := rows_len (n := n) (b := .shout a z u gs) ⟨h1, h2, h3, h4, h5⟩
      simp [rows] at this
      omega
    obtain ⟨s', g2⟩ := ren_hears R (l := z) (F := F ++ (srt hs).map (hD l) ++ [sD (o a) z u]) gs [] (.val (sD a z u)) (fun y hy => (h5 y hy).1) (by simp; omega)
    rw [List.nil_append] at g2
    refine ⟨_, gs.map (rePair o), z, s', g.app g2, ⟨?_, by simp; omega, h2.str, fun y hy => ?_⟩, by simp [renB, rows], ?_⟩
    · rw [List.map_map]
      have nd : (gs.map (·.1)).Nodup := h4.imp fun h => Nat.ne_of_lt h
      rw [show ((fun x : Nat × Str => x.1) ∘ rePair o) = o ∘ (·.1) from rfl, ← List.map_map]
      refine List.pairwise_map.mpr (List.Pairwise.imp_of_mem (fun {x y} hx hy hxy e => ?_) nd)
      obtain ⟨x', hx', rfl⟩ := List.mem_map.mp hx
      obtain ⟨y', hy', rfl⟩ := List.mem_map.mp hy
      exact hxy (hi _ _ (h5 x' hx').1 (h5 y' hy').1 e)
    · obtain ⟨x', hx', rfl⟩ := List.mem_map.mp hy
      exact (h5 x' hx').2.2.str
    · simp [lsrt]
      omega
theorem ren_blocks (R : RenL n o mg b p St) (hi : ∀ x y, x < n → y < n → o x = o y → x = y) (hn : n ≤ 100) : ∀ (bs : List Bk) {F : List D} {hs : List (Nat × Str)} {l : Str} {s : Sl}, (∀ B ∈ bs, BkOk n B) → HsOk l hs → F.length + hs.length + bs.length * (n + 1) ≤ 50000 →
    ∃ F' hs' l' s', Goes mg b (evs bs) (St F (hs.map (hD l)) s) p (St F' (hs'.map (hD l')) s') p ∧ HsOk l' hs' ∧ F' ++ (srt hs').map (hD l') = F ++ (srt hs).map (hD l) ++ evs (bs.map (renB o)) ∧ F'.length + hs'.length ≤ 50000
  | [], F, hs, l, s, _, ok, hl => ⟨F, hs, l, s, ⟨rfl, rfl⟩, ok, by simp [evs], by simpa using hl⟩
  | B :: bs, F, hs, l, s, h, ok, hl => by
    rw [List.length_cons, Nat.succ_mul] at hl
    obtain ⟨F1, hs1, l1, s1, g1, ok1, e1, n1⟩ := ren_block R hi (h B List.mem_cons_self) hn (F := F) (s := s) ok (by omega)
    obtain ⟨F2, hs2, l2, s2, g2, ok2, e2, n2⟩ := ren_blocks R hi hn bs (F := F1) (s := s1) (fun y hy => h y (List.mem_cons_of_mem _ hy)) ok1 (by omega)
    refine ⟨F2, hs2, l2, s2, g1.app g2, ok2, ?_, n2⟩
    rw [e2, e1]
    show _ = _ ++ (rows (renB o B) ++ evs (bs.map (renB o)))
    rw [List.append_assoc]
theorem ren_log (R : RenL n o mg b p St) (hi : ∀ x y, x < n → y < n → o x = o y → x = y) (hn : n ≤ 100) {bs : List Bk} (h : ∀ B ∈ bs, BkOk n B) (hl : bs.length ≤ 60) (m : Nat) (s : Sl) :
    ∃ F' hs' l' s', Goes mg b (cD m :: evs bs) (St [] [] s) p (St F' (hs'.map (hD l')) s') p ∧ HsOk l' hs' ∧ F' ++ (srt hs').map (hD l') = cD m :: evs (bs.map (renB o)) ∧ F'.length + hs'.length ≤ 50000 := by
  have ok0 : HsOk "hear" [] := ⟨List.nodup_nil, by simp, by simp, fun _ h => nomatch h⟩
  have g := R.nh (cD m) (cD m) [] [] "hear" s (.inr (.inr ⟨m, rfl, rfl⟩)) ok0 (by simp)
  have hb : bs.length * (n + 1) ≤ 60 * 101 := Nat.mul_le_mul hl (by omega)
  obtain ⟨F2, hs2, l2, s2, g2, ok2, e2, n2⟩ := ren_blocks R hi hn bs (F := [cD m]) (s := .val (cD m)) h ok0 (by simp; omega)
  refine ⟨F2, hs2, l2, s2, ?_, ok2, by rw [e2]; simp, n2⟩
  simp only [List.map_nil, srt_nil, List.append_nil, List.nil_append] at g
  exact g.app g2
end
end K60
end
section
set_option Elab.async false
set_option linter.all false
set_option maxRecDepth 100000
set_option maxHeartbeats 400000
namespace K60
open PySem PySem.Spec L2 Dn
/-- a list or tuple that tells other numbers -/
def Ord (n : Nat) (o : Nat → Nat) (O : D) : Prop := ∀ a, a < n → ixD O (.int a) = some (.int (o a))
section
variable {n : Nat} {o : Nat → Nat} {O : D}
theorem turn_m {a b : Nat} {s t : Str} (h : Ord n o O) (ha : a < n) (hb : b < n) : m_turned [mD a b s t, O] = .ok (mD (o a) (o b) s t) := by
  simp [m_turned, b_turned, mD, h a ha, h b hb]
theorem turn_s {a : Nat} {s t : Str} (h : Ord n o O) (ha : a < n) : m_turned [sD a s t, O] = .ok (sD (o a) s t) := by
  simp [m_turned, b_turned, sD, h a ha]
theorem turn_h {l : Str} {g : Nat × Str} (h : Ord n o O) (ha : g.1 < n) : m_turned [hD l g, O] = .ok (hD l (rePair o g)) := by
  simp [m_turned, b_turned, hD, h g.1 ha, rePair]
theorem turn_c {m : Nat} : m_turned [cD m, O] = .ok (cD m) := by
  simp [m_turned, b_turned, cD]
abbrev rnB : KS := kIfS (kT (kOp neD (kOp ixD (kVar 6) (kC (.int 0))) (kC (.str "hear")))) (kSeq (kPar 4 5 (kXF (kCat (kOwn 4) (kCaL sortL (kOwn 5)))) (kXF (kLst kNil))) (kApp 4 (kCall 2 m_turned [] (kCons (kVar 6) (kCons (kVar 1) kNil))))) (kApp 5 (kCall 2 m_turned [] (kCons (kVar 6) (kCons (kVar 1) kNil))))
theorem rn_loop (h : Ord n o O) {p : Pen} {s0 s2 s3 : Sl} : RenL n o (gkN 6) rnB p (fun F H s => [s0, .val O, s2, s3, .own F, .own H, s]) where
  nh := fun x x' F hs l s hx ok hl => by
    have lsrt : (srt hs).length = hs.length := (srt_perm hs).length_eq
    have b1 : F.length + (srt hs).length ≤ 16777216 := by omega
    have b2 : F.length + (srt hs).length < 16777216 := by omega
    refine ⟨.nx, _, _, ?_, .inl rfl, rfl, rfl⟩
    have e := sort_hs ok
    rcases hx with ⟨a, c, u, v, ha, hc, rfl, rfl⟩ | ⟨a, z, u, ha, rfl, rfl⟩ | ⟨m, rfl, rfl⟩
    · have t := turn_m (s := u) (t := v) h ha hc
      have w : ixD (mD a c u v) (.int 0) = some (.str "meet") := (rfl)
      simp [w, e, t, b1, b2]
    · have t := turn_s (s := z) (t := u) h ha
      have w : ixD (sD a z u) (.int 0) = some (.str "shout") := (rfl)
      simp [w, e, t, b1, b2]
    · have t := turn_c (O := O) (m := m)
      have w : ixD (cD m) (.int 0) = some (.str "crowd") := (rfl)
      simp [w, e, t, b1, b2]
  he := fun l g F H s hg hl => by
    have b1 : H.length < 16777216 := by omega
    refine ⟨.nx, _, _, ?_, .inl rfl, rfl, rfl⟩
    have t := turn_h (l := l) h hg
    have w : ixD (hD l g) (.int 0) = some (.str "hear") := (rfl)
    simp [w, t, b1]
abbrev inB' : KS := kSeq (kIfS (kT (kOp eqD (kOp ixD (kVar 4) (kC (.int 0))) (kC (.str "hear")))) (kSeq (kApp 3 (kOp addD (kTup (kCons (kC (.str "hear")) (kCons (kOp ixD (kVar 1) (kOp ixD (kVar 4) (kC (.int 1)))) kNil))) (kSl (kVar 4) (kPart (kC (.int 2))) kNone))) kCont) kNext) (kSeq (kPar 2 3 (kXF (kCat (kOwn 2) (kCaL sortL (kOwn 3)))) (kXF (kLst kNil))) (kApp 2 (kIf (kT (kOp eqD (kOp ixD (kVar 4) (kC (.int 0))) (kC (.str "crowd")))) (kVar 4) (kIf (kT (kOp eqD (kOp ixD (kVar 4) (kC (.int 0))) (kC (.str "meet")))) (kOp addD (kTup (kCons (kC (.str "meet")) (kCons (kOp ixD (kVar 1) (kOp ixD (kVar 4) (kC (.int 1)))) (kCons (kOp ixD (kVar 1) (kOp ixD (kVar 4) (kC (.int 2)))) kNil)))) (kSl (kVar 4) (kPart (kC (.int 3))) kNone)) (kOp addD (kTup (kCons (kC (.str "shout")) (kCons (kOp ixD (kVar 1) (kOp ixD (kVar 4) (kC (.int 1)))) kNil))) (kSl (kVar 4) (kPart (kC (.int 2))) kNone))))))
theorem in_loop (h : Ord n o O) {p : Pen} {s0 : Sl} : RenL n o (gkN 4) inB' p (fun F H s => [s0, .val O, .own F, .own H, s]) where
  nh := fun x x' F hs l s hx ok hl => by
    have lsrt : (srt hs).length = hs.length := (srt_perm hs).length_eq
    have b1 : F.length + (srt hs).length ≤ 16777216 := by omega
    have b2 : F.length + (srt hs).length < 16777216 := by omega
    refine ⟨.nx, _, _, ?_, .inl rfl, rfl, rfl⟩
    have e := sort_hs ok
    rcases hx with ⟨a, c, u, v, ha, hc, rfl, rfl⟩ | ⟨a, z, u, ha, rfl, rfl⟩ | ⟨m, rfl, rfl⟩
    · simp [e, b1, b2, mD, h a ha, h c hc]
    · simp [e, b1, b2, sD, h a ha]
    · simp [e, b1, b2, cD]
  he := fun l g F H s hg hl => by
    have b1 : H.length < 16777216 := by omega
    refine ⟨.ct, _, _, ?_, .inr rfl, rfl, rfl⟩
    simp [b1, hD, h g.1 hg, rePair]
theorem in_numbers {bs : List Bk} (h : Ord n o O) (hi : ∀ x y, x < n → y < n → o x = o y → x = y) (hn : n ≤ 100) (ok : ∀ B ∈ bs, BkOk n B) (hl : bs.length ≤ 60) (m : Nat) : m__law_in_numbers [logD m bs, O] = .ok (logD m (bs.map (renB o))) := by
  obtain ⟨F, hs, l, s, g, k, e, b⟩ := ren_log (in_loop (s0 := .val (logD m bs)) (p := pen0) h) hi hn ok hl m .no
  have e1 := g.ok
  have e2 := sort_hs k
  have lsrt : (srt hs).length = hs.length := (srt_perm hs).length_eq
  have b1 : F.length + (srt hs).length ≤ 16777216 := by omega
  unfold logD at e1 ⊢
  simp [m__law_in_numbers, b__law_in_numbers, e1, e2, b1, e]
end
end K60
end
section
set_option Elab.async false
set_option linter.all false
set_option maxRecDepth 100000
set_option maxHeartbeats 400000
namespace K60
open PySem PySem.Spec L2 Dn
/-! ### renumbered_log -/
def numsD (is : List Nat) : List D := is.map fun i : Nat => D.int (i : Int)
theorem numsD_eq (is : List Nat) : numsD is = (is.map fun i : Nat => (i : Int)).map D.int := by unfold numsD; rw [List.map_map]; rfl
@[simp] theorem numsD_len (is : List Nat) : (numsD is).length = is.length := by simp [numsD]
def oOf (ord : List Nat) (a : Nat) : Nat := ord.getD a 0
theorem ord_tup {ord : List Nat} : Ord ord.length (oOf ord) (.tup (numsD ord)) := fun a ha => by
  rw [ixD_tup, Dn.atI_nat]
  unfold numsD oOf
  rw [List.getElem?_map, List.getElem?_eq_getElem ha, List.getD_eq_getElem?_getD, List.getElem?_eq_getElem ha]
  rfl
theorem rg0 {n : Nat} (h : n ≤ 1000000) : rgI 0 (n : Int) = some (numsD (List.range n)) := by
  unfold rgI rgD numsD
  rw [if_pos (by omega)]
  simp
theorem sorted_range {is : List Nat} {n : Nat} (h : is.Perm (List.range n)) : (is.map fun i : Nat => (i : Int)).mergeSort (fun a b => decide (a ≤ b)) = (List.range n).map fun i : Nat => (i : Int) := by
  refine List.Perm.eq_of_pairwise (le := fun a b => a ≤ b) (fun a b _ _ h1 h2 => by omega) ?_ ?_ ((List.mergeSort_perm _ _).trans (h.map _))
  · have := List.pairwise_mergeSort (le := fun a b : Int => decide (a ≤ b)) (fun a b c h1 h2 => by simp at *; omega) (fun a b => by simp; omega) (is.map fun i : Nat => (i : Int))
    exact this.imp fun h => by simpa using h
  · refine List.pairwise_map.mpr (List.Pairwise.imp (fun h => ?_) List.pairwise_lt_range)
    omega
abbrev fnE : KE := kCall 3 m_is_whole [] (kCons (kVar 3) (kCons (kC (.int 0)) (kCons (kOp subD (kOp ixD (kOp ixD (kVar 0) (kC (.int 0))) (kC (.int 1))) (kC (.int 1))) kNil)))
theorem fine_go {n : Nat} {bs : List Bk} {s1 : Sl} {p : Pen} {w : D → Bool} {ds : List D} (hw : ∀ d ∈ ds, m_is_whole [d, .int 0, .int ((n : Int) - 1)] = .ok (.bl (w d))) (hl : ds.length ≤ 16777216) :
    lcGo (gkN 3) kYes fnE [.val (logD n bs), s1, .no, .no, .no, .no, .no] ds [] p = .ok (ds.map fun d => .bl (w d), p) := by
  have e := lcGo_pure (mg := gkN 3) (mt := kYes) (me := fnE) (ρ := [.val (logD n bs), s1, .no, .no, .no, .no, .no]) (p := p) (g := fun d : D => d) (h := fun d => .bl (w d)) (keep := fun _ => true) ds [] (fun d hd => by
    simp [logD, cD, hw d hd]) (by simpa using hl)
  rw [List.filter_eq_self.mpr (fun _ _ => rfl)] at e
  simpa using e
@[simp] theorem allL_w (ds : List D) (w : D → Bool) : allL (ds.map (D.bl ∘ w)) = some (.bl (ds.all w)) := by
  have := allL_bls (ds.map w)
  rw [List.map_map] at this
  rw [this, List.all_map]
  rfl
@[simp] theorem logD_0 (n : Nat) (bs : List Bk) : ixD (logD n bs) (.int 0) = some (cD n) := by unfold logD; rw [ixD_tup, atI_0]; rfl
@[simp] theorem cD_1 (n : Nat) : ixD (cD n) (.int 1) = some (.int n) := by unfold cD; rw [ixD_tup, atI_1]; rfl
@[simp] theorem logD_seq (n : Nat) (bs : List Bk) : toSeq (logD n bs) = some (cD n :: evs bs) := (rfl)
section
variable {n : Nat} {bs : List Bk}
theorem map_bl (ds : List D) (w : D → Bool) : (ds.map fun d => D.bl (w d)) = (ds.map w).map D.bl := by rw [List.map_map]; rfl
/-- a tuple in which something is no hand -/
theorem ren_unfine (h : LogOk n bs) {w : D → Bool} {ds : List D} (hw : ∀ d ∈ ds, m_is_whole [d, .int 0, .int ((n : Int) - 1)] = .ok (.bl (w d))) (hl : ds.length ≤ 1000) (hf : ds.all w = false) : m_renumbered_log [logD n bs, .tup ds] = .error (.exn 0 [.tup ds, .str "order"]) := by
  have e := fine_go (n := n) (bs := bs) (s1 := .val (.tup ds)) (p := pen0) hw (by omega)
  rw [map_bl, List.map_map] at e
  simp [m_renumbered_log, b_renumbered_log, need_ok h, e, hf]
theorem ren_notup (h : LogOk n bs) {d : D} (hd : isiB d .tuple = some false) : m_renumbered_log [logD n bs, d] = .error (.exn 0 [d, .str "order"]) := by
  simp [m_renumbered_log, b_renumbered_log, need_ok h, hd]
theorem whole_hand (a : Nat) (n : Nat) : m_is_whole [.int a, .int 0, .int ((n : Int) - 1)] = .ok (.bl (decide (a < n))) := by
  rw [whole_int]
  congr 3
  simp
  omega
/-- hands that are not each once -/
theorem ren_unsorted (h : LogOk n bs) {is : List Nat} (hi : ∀ i ∈ is, i < n) (hl : is.length ≤ 1000) (hs : (is.map fun i : Nat => (i : Int)).mergeSort (fun a b => decide (a ≤ b)) ≠ (List.range n).map fun i : Nat => (i : Int)) : m_renumbered_log [logD n bs, .tup (numsD is)] = .error (.exn 0 [.tup (numsD is), .str "order"]) := by
  have hn := h.hi
  have e := fine_go (n := n) (bs := bs) (s1 := .val (.tup (numsD is))) (p := pen0) (ds := numsD is) (w := fun _ => true) (fun d hd => by
    obtain ⟨i, hi', rfl⟩ := List.mem_map.mp hd
    rw [whole_hand, decide_eq_true (hi i hi')]) (by simp; omega)
  rw [map_bl, List.map_map] at e
  have ea : ((numsD is).all fun _ => true) = true := by simp
  have es := sortL_ints (is := is.map fun i : Nat => (i : Int)) (by simp; omega)
  rw [← numsD_eq] at es
  have er := rg0 (n := n) (by omega)
  have en := neD_ints (a := (is.map fun i : Nat => (i : Int)).mergeSort (fun a b => decide (a ≤ b))) (b := (List.range n).map fun i : Nat => (i : Int))
  rw [← numsD_eq, decide_eq_false hs] at en
  have en : neD _ _ = some (.bl true) := en
  have hn2 : n ≤ 16777216 := by omega
  simp [m_renumbered_log, b_renumbered_log, need_ok h, e, ea, sortT, es, er, en, hn2]
/-- each hand once -/
theorem ren_ok (h : LogOk n bs) {ord : List Nat} (hp : ord.Perm (List.range n)) : m_renumbered_log [logD n bs, .tup (numsD ord)] = .ok (logD n (bs.map (renB (oOf ord)))) := by
  have hn := h.hi
  have hl : ord.length = n := by rw [hp.length_eq, List.length_range]
  have hi : ∀ i ∈ ord, i < n := fun i hi => List.mem_range.mp (hp.mem_iff.mp hi)
  have e := fine_go (n := n) (bs := bs) (s1 := .val (.tup (numsD ord))) (p := pen0) (ds := numsD ord) (w := fun _ => true) (fun d hd => by
    obtain ⟨i, hi', rfl⟩ := List.mem_map.mp hd
    rw [whole_hand, decide_eq_true (hi i hi')]) (by simp; omega)
  rw [map_bl, List.map_map] at e
  have ea : ((numsD ord).all fun _ => true) = true := by simp
  have es := sortL_ints (is := ord.map fun i : Nat => (i : Int)) (by simp; omega)
  rw [← numsD_eq, sorted_range hp, ← numsD_eq] at es
  have er := rg0 (n := n) (by omega)
  have en := neD_ints (a := (List.range n).map fun i : Nat => (i : Int)) (b := (List.range n).map fun i : Nat => (i : Int))
  rw [← numsD_eq, decide_eq_true rfl] at en
  have en : neD _ _ = some (.bl false) := en
  have hn2 : n ≤ 16777216 := by omega
  have ho : Ord n (oOf ord) (.tup (numsD ord)) := by rw [← hl]; exact ord_tup
  have nd : ord.Nodup := hp.nodup_iff.mpr List.nodup_range
  have inj : ∀ x y, x < n → y < n → oOf ord x = oOf ord y → x = y := fun x y hx hy e => by
    unfold oOf at e
    rw [List.getD_eq_getElem?_getD, List.getD_eq_getElem?_getD, List.getElem?_eq_getElem (by omega), List.getElem?_eq_getElem (by omega)] at e
    exact (List.getElem_inj nd).mp e
  obtain ⟨F, hs, l, s, g, k, ef, b⟩ := ren_log (rn_loop (s0 := .val (logD n bs)) (s2 := .val (.bl true)) (s3 := .no) (p := pen0) ho) inj (by omega) h.ok (by have := h.few; omega) n .no
  have e1 := g.ok
  have e2 := sort_hs k
  have lsrt : (srt hs).length = hs.length := (srt_perm hs).length_eq
  have b1 : F.length + (srt hs).length ≤ 16777216 := by omega
  simp [m_renumbered_log, b_renumbered_log, need_ok h, e, ea, sortT, es, er, en, hn2, e1, e2, b1, ef]
  rfl
end
end K60
end
section
set_option Elab.async false
set_option linter.all false
set_option maxRecDepth 100000
set_option maxHeartbeats 400000
namespace K60
open PySem PySem.Spec L2 Dn
/-! ### ways, hearers, who does nothing -/
def ChR : List D → List (List (Nat × Str)) → Prop
  | [], [] => True
  | x :: xs, c :: cs => Chs x c ∧ ChR xs cs
  | _, _ => False
theorem ChR.app : ∀ {xs ys : List D} {cs ds : List (List (Nat × Str))}, ChR xs cs → ChR ys ds → ChR (xs ++ ys) (cs ++ ds)
  | [], _, [], _, _, k => k
  | _ :: _, _, _ :: _, _, h, k => ⟨h.1, h.2.app k⟩
  | [], _, _ :: _, _, h, _ => False.elim h
  | _ :: _, _, [], _, h, _ => False.elim h
def chRows : Bk → List (List (Nat × Str))
  | .meet a b s t => [[(a, s), (b, t)]]
  | .shout a _ s hs => [(a, s)] :: hs.map fun h => [h]
theorem chRows_ok (b : Bk) : ChR (rows b) (chRows b) := by
  cases b with
  | meet a b s t => exact ⟨ch_meet, trivial⟩
  | shout a l s hs =>
    refine ⟨ch_shout, ?_⟩
    induction hs with
    | nil => trivial
    | cons h hs ih => exact ⟨ch_hear, ih⟩
theorem chRows_flat (b : Bk) : (chRows b).flatten = chB b := by
  cases b with
  | meet a b s t => simp [chRows, chB]
  | shout a l s hs =>
    simp only [chRows, chB, List.flatten_cons]
    have : (hs.map fun h => [h]).flatten = hs := by
      induction hs with
      | nil => rfl
      | cons h hs ih => simp [ih]
    rw [this]
    rfl
theorem chEvs_ok : ∀ bs : List Bk, ChR (evs bs) (bs.flatMap chRows)
  | [] => trivial
  | b :: bs => (chRows_ok b).app (chEvs_ok bs)
theorem chLog_ok (n : Nat) (bs : List Bk) : ChR (cD n :: evs bs) ([] :: bs.flatMap chRows) := ⟨ch_crowd, chEvs_ok bs⟩
theorem chEvs_flat : ∀ bs : List Bk, (bs.flatMap chRows).flatten = allCh bs
  | [] => rfl
  | b :: bs => by
    show (chRows b ++ bs.flatMap chRows).flatten = chB b ++ allCh bs
    rw [List.flatten_append, chRows_flat, chEvs_flat]
/-! ways -/
def wayR (h : Nat) : Nat → List (List (Nat × Str)) → List (Nat × Str)
  | _, [] => []
  | k, c :: cs => ((c.filter fun x => decide (x.1 = h)).map fun x => (k + 1, x.2)) ++ wayR h (k + 1) cs
theorem wayR_states (h : Nat) : ∀ (cs : List (List (Nat × Str))) (k : Nat), (wayR h k cs).map (·.2) = (cs.flatten.filter fun x => decide (x.1 = h)).map (·.2)
  | [], _ => rfl
  | c :: cs, k => by
    simp only [wayR, List.map_append, List.flatten_cons, List.filter_append, wayR_states h cs (k + 1), List.map_map]
    rfl
def wayD (q : Nat × Str) : D := .tup [.int q.1, .str q.2]
def enF : Nat → List D → List D
  | _, [] => []
  | k, x :: xs => .tup [.int k, x] :: enF (k + 1) xs
theorem enD_eq : ∀ (xs : List D) (k : Nat), zipD (rgD k xs.length) xs = enF k xs
  | [], _ => rfl
  | x :: xs, k => by
    have ih := enD_eq xs (k + 1)
    unfold zipD rgD at ih ⊢
    rw [List.length_cons, List.range_succ_eq_map, List.map_cons, List.zipWith_cons_cons, List.map_map, enF]
    refine congr (congrArg List.cons ?_) ?_
    · show D.tup [D.int ((k : Int) + ((0 : Nat) : Int)), x] = _
      rw [show (k : Int) + ((0 : Nat) : Int) = k by omega]
    · rw [← ih]
      congr 1
      exact List.map_congr_left fun i _ => by
        show D.int _ = D.int _
        congr 1
        show (k : Int) + (Nat.succ i : Nat) = ((k + 1 : Nat) : Int) + (i : Nat)
        omega
abbrev wyI : KS := kIfS (kT (kOp eqD (kVar 6) (kVar 2))) (kApp 3 (kTup (kCons (kOp addD (kVar 4) (kC (.int 1))) (kCons (kVar 7) kNil)))) kNext
theorem way_in {s0 s1 s5 : Sl} {h k : Nat} {p : Pen} : ∀ (cs : List (Nat × Str)) (F : List D) (s6 s7 : Sl), F.length + cs.length ≤ 100000 →
    ∃ s6' s7', Goes (gkTup 2 (gkCons (gkN 6) (gkCons (gkN 7) gkNil))) wyI (cs.map pairD) [s0, s1, .val (.int h), .own F, .val (.int k), s5, s6, s7] p
      [s0, s1, .val (.int h), .own (F ++ ((cs.filter fun x => decide (x.1 = h)).map fun x => (k + 1, x.2)).map wayD), .val (.int k), s5, s6', s7'] p
  | [], F, s6, s7, _ => ⟨s6, s7, by simp, rfl⟩
  | c :: cs, F, s6, s7, hl => by
    simp only [List.length_cons] at hl
    by_cases hc : c.1 = h
    · obtain ⟨s6', s7', ih⟩ := way_in (s0 := s0) (s1 := s1) (s5 := s5) (h := h) (k := k) (p := p) cs (F ++ [wayD (k + 1, c.2)]) (.val (.int c.1)) (.val (.str c.2)) (by simp; omega)
      have b1 : F.length < 16777216 := by omega
      have hc' : (c.1 : Int) = h := by omega
      rw [List.filter_cons, if_pos (by simpa using hc), List.map_cons, List.map_cons]
      rw [List.append_assoc] at ih
      exact ⟨s6', s7', .nx, _, _, by simp [pairD, hc', b1, wayD], .inl rfl, ih⟩
    · obtain ⟨s6', s7', ih⟩ := way_in (s0 := s0) (s1 := s1) (s5 := s5) (h := h) (k := k) (p := p) cs F (.val (.int c.1)) (.val (.str c.2)) (by omega)
      have hc' : ¬ (c.1 : Int) = h := by omega
      rw [List.filter_cons, if_neg (by simpa using hc)]
      exact ⟨s6', s7', .nx, _, _, by simp [pairD, hc'], .inl rfl, ih⟩
abbrev wyB : KS := kFor (kSeqI (kCall 1 m_changes_by [] (kCons (kVar 5) kNil))) (gkTup 2 (gkCons (gkN 6) (gkCons (gkN 7) gkNil))) wyI
theorem way_out {s0 s1 : Sl} {h : Nat} {p : Pen} : ∀ (xs : List D) (cs : List (List (Nat × Str))) (k : Nat) (F : List D) (s4 s5 s6 s7 : Sl), ChR xs cs → F.length + cs.flatten.length ≤ 100000 →
    ∃ s4' s5' s6' s7', Goes (gkTup 2 (gkCons (gkN 4) (gkCons (gkN 5) gkNil))) wyB (enF k xs) [s0, s1, .val (.int h), .own F, s4, s5, s6, s7] p
      [s0, s1, .val (.int h), .own (F ++ (wayR h k cs).map wayD), s4', s5', s6', s7'] p
  | [], [], k, F, s4, s5, s6, s7, _, _ => ⟨s4, s5, s6, s7, by rw [wayR, List.map_nil, List.append_nil], rfl⟩
  | x :: xs, c :: cs, k, F, s4, s5, s6, s7, hx, hl => by
    simp only [List.flatten_cons, List.length_append] at hl
    obtain ⟨s6', s7', h1⟩ := way_in (s0 := s0) (s1 := s1) (s5 := .val x) (h := h) (k := k) (p := p) c F s6 s7 (by omega)
    have hf : (c.filter fun x => decide (x.1 = h)).length ≤ c.length := List.length_filter_le _ _
    obtain ⟨a4, a5, a6, a7, ih⟩ := way_out (s0 := s0) (s1 := s1) (h := h) (p := p) xs cs (k + 1) (F ++ ((c.filter fun x => decide (x.1 = h)).map fun x => (k + 1, x.2)).map wayD) (.val (.int k)) (.val x) s6' s7' hx.2 (by simp only [List.length_append, List.length_map]; omega)
    have e := h1.ok
    have hc : m_changes_by [x] = _ := hx.1
    rw [wayR, List.map_append, ← List.append_assoc]
    exact ⟨a4, a5, a6, a7, .nx, _, _, by simp [hc, e], .inl rfl, ih⟩
  | [], _ :: _, _, _, _, _, _, _, h, _ => False.elim h
  | _ :: _, [], _, _, _, _, _, _, h, _ => False.elim h
def wayOf (z : Str) (h : Nat) (bs : List Bk) : List (Nat × Str) := (1, z) :: wayR h 0 ([] :: bs.flatMap chRows)
theorem chB_len {n : Nat} {b : Bk} (h : BkOk n b) : (chB b).length ≤ n + 1 := by
  have h1 := rows_len h
  cases b with
  | meet a b s t =>
    obtain ⟨h1, h2, h3, _⟩ := h
    simp [chB]
    omega
  | shout a l s hs => simpa [rows, chB] using h1
theorem allCh_len {n : Nat} : ∀ {bs : List Bk}, (∀ b ∈ bs, BkOk n b) → (allCh bs).length ≤ bs.length * (n + 1)
  | [], _ => by simp [allCh]
  | b :: bs, h => by
    have h1 := chB_len (h b List.mem_cons_self)
    have h2 := allCh_len fun y hy => h y (List.mem_cons_of_mem _ hy)
    show (chB b ++ allCh bs).length ≤ _
    rw [List.length_append, List.length_cons, Nat.succ_mul]
    omega
theorem way_of {z : Str} {n h : Nat} {bs : List Bk} (ok : LogOk n bs) (hz : NameOk z) (hh : h < n) : m_way_of [.str z, logD n bs, .int h] = .ok (.tup ((wayOf z h bs).map wayD)) := by
  have hn := ok.hi
  have hl : (allCh bs).length ≤ 2000 := by
    have h1 := allCh_len ok.ok
    have : bs.length * (n + 1) ≤ 50 * 31 := Nat.mul_le_mul ok.few (by omega)
    omega
  obtain ⟨a4, a5, a6, a7, g⟩ := way_out (s0 := .val (.str z)) (s1 := .val (logD n bs)) (h := h) (p := pen0) (cD n :: evs bs) ([] :: bs.flatMap chRows) 0 [.tup [.int 1, .str z]] .no .no .no .no (chLog_ok n bs) (by rw [List.flatten_cons, chEvs_flat]; simp; omega)
  have e := g.ok
  have en : enD (cD n :: evs bs) = enF 0 (cD n :: evs bs) := enD_eq _ 0
  have nh : m_need_hand [logD n bs, .int h] = .ok .non := by
    have w := whole_hand h n
    rw [decide_eq_true hh] at w
    simp [m_need_hand, b_need_hand, w]
  simp [m_way_of, b_way_of, begin_ok ok hz, nh, en, e, wayOf, wayD]
end K60
end
section
set_option Elab.async false
set_option linter.all false
set_option maxRecDepth 100000
set_option maxHeartbeats 400000
namespace K60
open PySem PySem.Spec L2 Dn
/-! who hears -/
theorem logD_at {n : Nat} {A B : List D} {bs : List Bk} {x : D} (h : evs bs = A ++ x :: B) : ixD (logD n bs) (.int ((A.length : Int) + 1)) = some x := by
  unfold logD
  rw [ixD_tup, show (A.length : Int) + 1 = ((A.length + 1 : Nat) : Int) by omega, Dn.atI_nat, List.getElem?_cons_succ, h]
  simp
theorem word_0 (w : Str) (r : List D) : ixD (.tup (.str w :: r)) (.int 0) = some (.str w) := by rw [ixD_tup, atI_0]; rfl
theorem row_wd {x : D} (h : Row x) : ixD x (.int 0) = some (.str (wd x)) := by
  obtain ⟨w, r, rfl⟩ := h
  exact word_0 w r
theorem first_wd (bs : List Bk) : evs bs = [] ∨ ∃ x r, evs bs = x :: r ∧ Row x ∧ wd x ≠ "hear" := by
  cases bs with
  | nil => exact .inl rfl
  | cons b bs =>
    refine .inr ?_
    cases b with
    | meet a b s t => exact ⟨_, _, rfl, ⟨_, _, rfl⟩, by simp [wd, mD]⟩
    | shout a l s hs => exact ⟨_, _, rfl, ⟨_, _, rfl⟩, by simp [wd, sD]⟩
abbrev hrT : KB := kAndB (kT (kOp ltD (kVar 3) (kCa lenD (kCons (kVar 0) kNil)))) (kT (kOp eqD (kOp ixD (kOp ixD (kVar 0) (kVar 3)) (kC (.int 0))) (kC (.str "hear"))))
abbrev hrB : KS := kSeq (kApp 2 (kOp ixD (kOp ixD (kVar 0) (kVar 3)) (kC (.int 1)))) (kAug 3 addI (kC (.int 1)))
theorem heard_of {n : Nat} {bs P Q : List Bk} {a : Nat} {l s : Str} {hs : List (Nat × Str)} (ok : LogOk n bs) (e : bs = P ++ .shout a l s hs :: Q) : m_heard_of [logD n bs, .int (((evs P).length : Int) + 1)] = .ok (.tup (numsD (hs.map (·.1)))) := by
  have hn := ok.hi
  have hev : evs bs = evs P ++ sD a l s :: (hs.map (hD l) ++ evs Q) := by
    rw [e]
    unfold evs
    rw [List.flatMap_append, List.flatMap_cons]
    rfl
  have hL : (evs bs).length = (evs P).length + 1 + hs.length + (evs Q).length := by
    rw [hev]
    simp
    omega
  have hh : hs.length ≤ 31 := by
    have h1 := rows_len (ok.ok (.shout a l s hs) (by rw [e]; simp))
    simp [rows] at h1
    omega
  have elen : lenD [logD n bs] = some (.int ((evs bs).length + 1 : Int)) := by
    unfold logD
    simp
  have at0 := logD_at (n := n) hev
  have w0 : ixD (sD a l s) (.int 0) = some (.str "shout") := by unfold sD; exact word_0 _ _
  have atH : ∀ i, (hi : i < hs.length) → ixD (logD n bs) (.int ((evs P).length + 1 + 1 + (i : Int))) = some (hD l hs[i]) := fun i hi => by
    have h1 : evs bs = (evs P ++ sD a l s :: (hs.take i).map (hD l)) ++ hD l hs[i] :: ((hs.drop (i + 1)).map (hD l) ++ evs Q) := by
      rw [hev, List.append_assoc, List.cons_append]
      congr 2
      rw [← List.cons_append, ← List.append_assoc]
      congr 1
      have : hs = hs.take i ++ hs[i] :: hs.drop (i + 1) := by
        rw [← List.drop_eq_getElem_cons hi, List.take_append_drop]
      exact (congrArg (List.map (hD l)) this).trans (by rw [List.map_append, List.map_cons])
    have h2 := logD_at (n := n) h1
    rw [← h2]
    congr 2
    simp
    omega
  have inv := while_inv (t := hrT) (b := hrB) (p := pen0) (n := hs.length) (ρs := fun i => [.val (logD n bs), .val (.int ((evs P).length + 1 : Int)), .own (numsD ((hs.take i).map (·.1))), .val (.int ((evs P).length + 1 + 1 + (i : Int)))]) (fun i hi => by
    have b1 : ((evs P).length : Int) + 1 + 1 + i < (evs bs).length + 1 := by omega
    have a1 := atH i hi
    have w1 : ixD (hD l hs[i]) (.int 0) = some (.str "hear") := by unfold hD; exact word_0 _ _
    have w2 : ixD (hD l hs[i]) (.int 1) = some (.int hs[i].1) := by unfold hD; rw [ixD_tup, atI_1]; rfl
    have b2 : i < 16777216 := by omega
    have b3 : (hs.take i).length < 16777216 := by simp; omega
    have et : numsD ((hs.take (i + 1)).map (·.1)) = numsD ((hs.take i).map (·.1)) ++ [.int hs[i].1] := by
      rw [List.take_succ_eq_append_getElem hi]
      unfold numsD
      rw [List.map_append, List.map_append]
      rfl
    refine ⟨by simp [elen, b1, a1, w1], ?_⟩
    simp only [et]
    have b4 : min i hs.length < 16777216 := by omega
    simp [a1, w2, b4]
    omega) (by
    rcases first_wd Q with h0 | ⟨x, r, hx, hr, hw⟩
    · rw [h0] at hL
      have b1 : ¬ ((evs P).length : Int) + 1 + 1 + hs.length < (evs bs).length + 1 := by simp at hL; omega
      simp [elen, b1]
    · have b1 : ((evs P).length : Int) + 1 + 1 + hs.length < (evs bs).length + 1 := by rw [hx] at hL; simp at hL; omega
      have h1 : evs bs = (evs P ++ sD a l s :: hs.map (hD l)) ++ x :: r := by
        rw [hev, hx]
        simp
      have a1 := logD_at (n := n) h1
      have e1 : (((evs P ++ sD a l s :: hs.map (hD l)).length : Nat) : Int) + 1 = ((evs P).length : Int) + 1 + 1 + hs.length := by simp; omega
      rw [e1] at a1
      have w1 := row_wd hr
      simp [elen, b1, a1, w1, hw])
  have inv := inv 100 hs.length 0 (by omega) (by omega)
  simp only [List.take_zero, List.map_nil, List.take_length] at inv
  have wh : m_is_whole [.int (((evs P).length : Int) + 1), .int 1, .int ((evs bs).length : Int)] = .ok (.bl true) := by
    rw [whole_int, decide_eq_true (by omega)]
  have z : (((evs P).length : Int) + 1 + 1 + ((0 : Nat) : Int)) = ((evs P).length : Int) + 1 + 1 := by omega
  rw [z] at inv
  have n0 : numsD [] = [] := rfl
  rw [n0] at inv
  simp [m_heard_of, b_heard_of, need_ok ok, elen, wh, at0, w0, inv]
end K60
end
section
set_option Elab.async false
set_option linter.all false
set_option maxRecDepth 100000
set_option maxHeartbeats 400000
namespace K60
open PySem PySem.Spec L2 Dn
/-! who does nothing -/
theorem ChR.zip : ∀ {xs : List D} {cs : List (List (Nat × Str))}, ChR xs cs → ∃ zs : List (D × List (Nat × Str)), zs.map (·.1) = xs ∧ (∀ q ∈ zs, Chs q.1 q.2) ∧ zs.flatMap (fun q => numsD (q.2.map (·.1))) = numsD (cs.flatten.map (·.1))
  | [], [], _ => ⟨[], rfl, (fun _ h => nomatch h), rfl⟩
  | x :: xs, c :: cs, h => by
    obtain ⟨zs, h1, h2, h3⟩ := ChR.zip h.2
    refine ⟨(x, c) :: zs, by rw [List.map_cons, h1], fun q hq => ?_, ?_⟩
    · rcases List.mem_cons.mp hq with rfl | hq
      · exact h.1
      · exact h2 q hq
    · rw [List.flatMap_cons, h3, List.flatten_cons, List.map_append]
      unfold numsD
      rw [List.map_append]
  | [], _ :: _, h => False.elim h
  | _ :: _, [], h => False.elim h
def quiet (n : Nat) (bs : List Bk) : List Nat := (List.range n).filter fun h => !decide (h ∈ (allCh bs).map (·.1))
theorem quiet_hands {n : Nat} {bs : List Bk} (ok : LogOk n bs) : m_quiet_hands [logD n bs] = .ok (.tup (numsD (quiet n bs))) := by
  have hn := ok.hi
  have hl : (allCh bs).length ≤ 2000 := by
    have h1 := allCh_len ok.ok
    have : bs.length * (n + 1) ≤ 50 * 31 := Nat.mul_le_mul ok.few (by omega)
    omega
  obtain ⟨zs, h1, h2, h3⟩ := (chLog_ok n bs).zip
  rw [List.flatten_cons, chEvs_flat, List.nil_append] at h3
  have e := lc2Go_pure (mg := gkN 2) (mt := kYes) (mi1 := kSeqI (kCall 1 m_changes_by [] (kCons (kVar 2) kNil))) (mg1 := gkTup 2 (gkCons (gkN 3) (gkCons (gkN 4) gkNil))) (mt1 := kYes) (me := kVar 3) (vs1 := [3, 4]) (ρ := [.val (logD n bs), .no, .no, .no, .no]) (p := pen0) (g := fun q : D × List (Nat × Str) => q.1) (h := fun q => numsD (q.2.map (·.1))) zs [] (fun q hq acc ha => by
    have hc : m_changes_by [q.1] = _ := h2 q hq
    refine ⟨_, q.2.map pairD, rfl, rfl, by simp [hc], ?_⟩
    have e2 := lcGo_pure (mg := gkTup 2 (gkCons (gkN 3) (gkCons (gkN 4) gkNil))) (mt := kYes) (me := kVar 3) (ρ := [.val (logD n bs), .no, .val q.1, .no, .no]) (p := pen0) (g := pairD) (h := fun c : Nat × Str => .int (c.1 : Int)) (keep := fun _ => true) q.2 acc (fun c hc => by simp [pairD]) (by
      have : numsD (q.2.map (·.1)) = zs.flatMap (fun q => numsD (q.2.map (·.1))) ∨ True := .inr trivial
      have hq2 : q.2.length ≤ (zs.flatMap (fun q => numsD (q.2.map (·.1)))).length := by
        obtain ⟨a, b, rfl⟩ := List.append_of_mem hq
        simp
        omega
      rw [h3] at hq2
      simp at hq2
      omega)
    rw [List.filter_eq_self.mpr (fun _ _ => rfl)] at e2
    have e3 : q.2.map (fun c : Nat × Str => D.int (c.1 : Int)) = numsD (q.2.map (·.1)) := by unfold numsD; rw [List.map_map]; rfl
    rw [e3] at e2
    exact e2) (by rw [h3]; simp; omega)
  rw [h3, h1, List.nil_append] at e
  have ek := lcGo_pure (mg := gkN 3) (mt := kT (kOp notInD (kVar 3) (kVar 1))) (me := kVar 3) (ρ := [.val (logD n bs), .val (.lst (numsD ((allCh bs).map (·.1)))), .no, .no, .no]) (p := pen0) (g := fun i : Nat => .int (i : Int)) (h := fun i : Nat => .int (i : Int)) (keep := fun h => !decide (h ∈ (allCh bs).map (·.1))) (List.range n) [] (fun i hi => by
    have hm := notInD_ints (i : Int) (((allCh bs).map (·.1)).map fun i : Nat => (i : Int))
    rw [← numsD_eq] at hm
    have hd : decide ((i : Int) ∈ ((allCh bs).map (·.1)).map fun i : Nat => (i : Int)) = decide (i ∈ (allCh bs).map (·.1)) := by
      congr 1
      rw [eq_iff_iff]
      constructor
      · intro h
        obtain ⟨j, hj, e⟩ := List.mem_map.mp h
        have : j = i := by omega
        exact this ▸ hj
      · intro h
        exact List.mem_map.mpr ⟨i, h, rfl⟩
    rw [hd] at hm
    refine ⟨?_, fun _ => by simp⟩
    simp only [gkN_ap, unx_ok, ok_bind]
    simp [hm]) (by simp; omega)
  have er := rg0 (n := n) (by omega)
  have eq2 : (List.range n).map (fun i : Nat => D.int (i : Int)) = numsD (List.range n) := rfl
  rw [eq2, List.nil_append] at ek
  simp [m_quiet_hands, b_quiet_hands, need_ok ok, e, er, ek]
  rfl
end K60
end
section
set_option Elab.async false
set_option linter.all false
set_option maxRecDepth 100000
set_option maxHeartbeats 400000
namespace K60
open PySem PySem.Spec L2 Dn
/-! ### sums of counts -/
def kyS (ks : List Str) : List Key := ks.map Sum.inr
def vlS (ks : List Str) (f : Str → Int) : List D := ks.map fun k => .int (f k)
theorem dlk_s {f : Str → Int} {s : Str} : ∀ ks : List Str, dlk (kyS ks) (vlS ks f) (.inr s) = if s ∈ ks then some (.int (f s)) else none
  | [] => rfl
  | k :: ks => by
    show dlk (.inr k :: kyS ks) (.int (f k) :: vlS ks f) (.inr s) = _
    unfold dlk
    by_cases h : k = s
    · subst h
      simp
    · have h2 : ¬ s = k := fun e => h e.symm
      rw [if_neg (by simpa using h), dlk_s ks]
      simp [h2]
/-- one more row -/
def addF (f : Str → Int) (s : Str) (v : Int) : Str → Int := fun k => if k = s then f s + v else f k
def addK (ks : List Str) (s : Str) : List Str := if s ∈ ks then ks else ks ++ [s]
theorem dput_s {f : Str → Int} {s : Str} {v : Int} {ks : List Str} (nd : ks.Nodup) : dput (kyS ks) (vlS ks f) (.inr s) (.int (f s + v)) = (kyS (addK ks s), vlS (addK ks s) (addF f s v)) := by
  unfold dput addK
  have ha : ((kyS ks).any fun k => decide (k = (.inr s : Key))) = decide (s ∈ ks) := by
    unfold kyS
    rw [List.any_map]
    induction ks with
    | nil => rfl
    | cons k ks ih =>
      rw [List.any_cons, ih (List.nodup_cons.mp nd).2]
      by_cases h : k = s
      · subst h; simp
      · have h2 : ¬ s = k := fun e => h e.symm
        simp [h, h2]
  rw [ha]
  by_cases h : s ∈ ks
  · rw [if_pos (by simpa using h), if_pos h]
    refine Prod.ext rfl ?_
    show (kyS ks).zipWith _ (vlS ks f) = vlS ks (addF f s v)
    unfold kyS vlS
    rw [List.zipWith_map, List.zipWith_self]
    exact List.map_congr_left fun k _ => by
      unfold addF
      by_cases hk : k = s
      · rw [if_pos (by rw [hk]), if_pos hk]
      · rw [if_neg (by simpa using hk), if_neg hk]
  · rw [if_neg (by simpa using h), if_neg h]
    refine Prod.ext ?_ ?_
    · show kyS ks ++ [.inr s] = kyS (ks ++ [s])
      unfold kyS
      rw [List.map_append]
      rfl
    · show vlS ks f ++ [.int (f s + v)] = vlS (ks ++ [s]) (addF f s v)
      unfold vlS
      rw [List.map_append]
      congr 1
      · refine List.map_congr_left fun k hk => ?_
        unfold addF
        rw [if_neg (fun e : k = s => h (e ▸ hk))]
      · show [D.int (f s + v)] = [D.int (addF f s v s)]
        unfold addF
        rw [if_pos rfl]
theorem addK_nd {ks : List Str} {s : Str} (h : ks.Nodup) : (addK ks s).Nodup := by
  unfold addK
  split
  · exact h
  · rename_i hs
    exact List.nodup_append.mpr ⟨h, by simp, fun a ha b hb e => hs (by rw [← List.mem_singleton.mp hb, ← e]; exact ha)⟩
theorem addK_mem {ks : List Str} {s x : Str} : x ∈ addK ks s ↔ x ∈ ks ∨ x = s := by
  unfold addK
  split
  · rename_i hs
    exact ⟨.inl, fun h => h.elim id fun e => e ▸ hs⟩
  · simp
def sumF (L : List (Str × Int)) (f : Str → Int) : Str → Int := L.foldl (fun f q => addF f q.1 q.2) f
def sumK (L : List (Str × Int)) (ks : List Str) : List Str := L.foldl (fun ks q => addK ks q.1) ks
def rowD (q : Str × Int) : D := .tup [.str q.1, .int q.2]
abbrev smB : KS := kDSet 2 (kVar 3) (kOp addD (kDGe (kDO 2) (kVar 3) (kC (.int 0))) (kVar 4))
theorem sum_go {s0 s1 : Sl} {p : Pen} : ∀ (L : List (Str × Int)) (ks : List Str) (f : Str → Int) (s3 s4 : Sl), ks.Nodup → (∀ s, s ∉ ks → f s = 0) → ks.length + L.length ≤ 100000 →
    ∃ s3' s4', Goes (gkTup 2 (gkCons (gkN 3) (gkCons (gkN 4) gkNil))) smB (L.map rowD) [s0, s1, .ownd (kyS ks) (vlS ks f), s3, s4] p [s0, s1, .ownd (kyS (sumK L ks)) (vlS (sumK L ks) (sumF L f)), s3', s4'] p
  | [], ks, f, s3, s4, _, _, _ => ⟨s3, s4, rfl, rfl⟩
  | q :: L, ks, f, s3, s4, nd, h0, hl => by
    simp only [List.length_cons] at hl
    have hk : (addK ks q.1).length ≤ ks.length + 1 := by
      unfold addK
      split <;> simp
    obtain ⟨s3', s4', ih⟩ := sum_go (s0 := s0) (s1 := s1) (p := p) L (addK ks q.1) (addF f q.1 q.2) (.val (.str q.1)) (.val (.int q.2)) (addK_nd nd) (fun s hs => by
      have h1 : s ∉ ks ∧ s ≠ q.1 := ⟨fun h => hs (addK_mem.mpr (.inl h)), fun h => hs (addK_mem.mpr (.inr h))⟩
      unfold addF
      rw [if_neg h1.2]
      exact h0 s h1.1) (by omega)
    have b1 : (kyS ks).length < 16777216 := by unfold kyS; rw [List.length_map]; omega
    have eg : (dlk (kyS ks) (vlS ks f) (.inr q.1)).getD (.int 0) = .int (f q.1) := by
      rw [dlk_s]
      split
      · rfl
      · rename_i h
        rw [h0 _ h]
        rfl
    have ep := dput_s (f := f) (s := q.1) (v := q.2) nd
    exact ⟨s3', s4', .nx, _, _, by simp [rowD, eg, ep, b1, keyD], .inl rfl, ih⟩
theorem sumK_mem : ∀ (L : List (Str × Int)) (ks : List Str) (x : Str), x ∈ sumK L ks ↔ x ∈ ks ∨ x ∈ L.map (·.1)
  | [], ks, x => by simp [sumK]
  | q :: L, ks, x => by
    show x ∈ sumK L (addK ks q.1) ↔ _
    rw [sumK_mem L, addK_mem, List.map_cons, List.mem_cons, or_assoc]
theorem sumK_nd : ∀ (L : List (Str × Int)) (ks : List Str), ks.Nodup → (sumK L ks).Nodup
  | [], ks, h => h
  | q :: L, ks, h => sumK_nd L _ (addK_nd h)
theorem sumK_len : ∀ (L : List (Str × Int)) (ks : List Str), (sumK L ks).length ≤ ks.length + L.length
  | [], ks => by simp [sumK]
  | q :: L, ks => by
    have h1 := sumK_len L (addK ks q.1)
    have h2 : (addK ks q.1).length ≤ ks.length + 1 := by
      unfold addK
      split <;> simp
    show (sumK L (addK ks q.1)).length ≤ _
    simp only [List.length_cons]
    omega
theorem sumF_app (L M : List (Str × Int)) (f : Str → Int) : sumF (L ++ M) f = sumF M (sumF L f) := by unfold sumF; rw [List.foldl_append]
theorem sumF_none {s : Str} : ∀ (L : List (Str × Int)) (f : Str → Int), s ∉ L.map (·.1) → sumF L f s = f s
  | [], f, _ => rfl
  | q :: L, f, h => by
    rw [List.map_cons, List.mem_cons, not_or] at h
    show sumF L (addF f q.1 q.2) s = _
    rw [sumF_none L _ h.2]
    unfold addF
    rw [if_neg h.1]
theorem sumF_one {s : Str} {c : Str → Int} : ∀ (ks : List Str) (f : Str → Int), ks.Nodup → s ∈ ks → sumF (ks.map fun k => (k, c k)) f s = f s + c s
  | k :: ks, f, nd, h => by
    obtain ⟨h1, h2⟩ := List.nodup_cons.mp nd
    show sumF (ks.map fun k => (k, c k)) (addF f k (c k)) s = _
    by_cases e : s = k
    · subst e
      rw [sumF_none _ _ (by rw [List.map_map]; simpa using h1)]
      unfold addF
      rw [if_pos rfl]
    · have h3 : s ∈ ks := by
        rcases List.mem_cons.mp h with h | h
        · exact absurd h e
        · exact h
      rw [sumF_one ks _ h2 h3]
      unfold addF
      rw [if_neg e]
def cntR (zs : List Str) : List (Str × Int) := (sortS (news zs)).map fun k => (k, ((zs.count k : Nat) : Int))
theorem cntR_eq (zs : List Str) : (cntR zs).map rowD = cntL zs := by
  unfold cntR cntL
  rw [List.map_map]
  rfl
theorem sort_news_nd (zs : List Str) : (sortS (news zs)).Nodup := (List.mergeSort_perm (news zs) leS).nodup_iff.mpr (mem_news zs).2
theorem sort_news_mem {zs : List Str} {s : Str} : s ∈ sortS (news zs) ↔ s ∈ zs := mem_sortS.trans ((mem_news zs).1 s)
theorem sumF_cnt (zs : List Str) (f : Str → Int) (s : Str) : sumF (cntR zs) f s = f s + (zs.count s : Nat) := by
  by_cases h : s ∈ zs
  · exact sumF_one (c := fun k => ((zs.count k : Nat) : Int)) _ f (sort_news_nd zs) (sort_news_mem.mpr h)
  · rw [sumF_none _ _ (by
      unfold cntR
      rw [List.map_map]
      intro hm
      obtain ⟨k, hk, e⟩ := List.mem_map.mp hm
      exact h (sort_news_mem.mp (by rw [← e]; exact hk))), List.count_eq_zero_of_not_mem h]
    simp
theorem cntR_len (zs : List Str) : (cntR zs).length ≤ zs.length := by
  unfold cntR
  rw [List.length_map]
  have := news_len zs
  have h2 : (sortS (news zs)).length = (news zs).length := (List.mergeSort_perm _ _).length_eq
  omega
theorem sum_ok {zs ws : List Str} (hz : ∀ s ∈ zs ++ ws, PyData.strOk s = true) (hl : zs.length + ws.length ≤ 1000) : m__law_sum [.tup (cntL zs), .tup (cntL ws)] = .ok (.tup (cntL (zs ++ ws))) := by
  have l1 := cntR_len zs
  have l2 := cntR_len ws
  obtain ⟨s3, s4, g⟩ := sum_go (s0 := .val (.tup (cntL zs))) (s1 := .val (.tup (cntL ws))) (p := pen0) (cntR zs ++ cntR ws) [] (fun _ => 0) .no .no List.nodup_nil (fun _ _ => rfl) (by simp; omega)
  rw [List.map_append, cntR_eq, cntR_eq] at g
  have e := g.ok
  have z1 : kyS [] = [] := rfl
  have z2 : vlS [] (fun _ => (0 : Int)) = [] := rfl
  rw [z1, z2] at e
  have tot : ∀ s, sumF (cntR zs ++ cntR ws) (fun _ => 0) s = (((zs ++ ws).count s : Nat) : Int) := fun s => by
    rw [sumF_app, sumF_cnt, sumF_cnt, List.count_append]
    omega
  have mem : ∀ s, s ∈ sumK (cntR zs ++ cntR ws) [] ↔ s ∈ zs ++ ws := fun s => by
    rw [sumK_mem, List.map_append, List.mem_append, List.mem_append]
    have q : ∀ us : List Str, s ∈ (cntR us).map (·.1) ↔ s ∈ us := fun us => by
      unfold cntR
      rw [List.map_map, show ((fun x : Str × Int => x.1) ∘ fun k => (k, ((us.count k : Nat) : Int))) = id from rfl, List.map_id, sort_news_mem]
    rw [q, q]
    simp
  have srt : sortS (sumK (cntR zs ++ cntR ws) []) = sortS (news (zs ++ ws)) :=
    sortS_perm ((List.perm_ext_iff_of_nodup (sumK_nd _ _ List.nodup_nil) (mem_news _).2).mpr fun s => by rw [mem, (mem_news _).1])
  have ln := sumK_len (cntR zs ++ cntR ws) []
  simp only [List.length_append, List.length_nil] at ln
  have es := sortL_strs (zs := sumK (cntR zs ++ cntR ws) []) (by omega) (fun z h => hz z ((mem z).mp h))
  rw [srt] at es
  have ek : (kyS (sumK (cntR zs ++ cntR ws) [])).map rdk = (sumK (cntR zs ++ cntR ws) []).map D.str := by
    unfold kyS
    rw [List.map_map]
    rfl
  have el := lcGo_pure (mg := gkN 3) (mt := kYes) (me := kTup (kCons (kVar 3) (kCons (kDIt (kDO 2) (kVar 3)) kNil))) (ρ := [.val (.tup (cntL zs)), .val (.tup (cntL ws)), .ownd (kyS (sumK (cntR zs ++ cntR ws) [])) (vlS (sumK (cntR zs ++ cntR ws) []) (sumF (cntR zs ++ cntR ws) fun _ => 0)), .no, s4]) (p := pen0) (g := D.str) (h := cntD1 (zs ++ ws)) (keep := fun _ => true) (sortS (news (zs ++ ws))) [] (fun s hs => by
    have hm : s ∈ sumK (cntR zs ++ cntR ws) [] := (mem s).mpr (sort_news_mem.mp hs)
    have d := dlk_s (f := sumF (cntR zs ++ cntR ws) fun _ => 0) (s := s) (sumK (cntR zs ++ cntR ws) [])
    rw [if_pos hm, tot] at d
    simp [keyD, d, cntD1]) (by
    have := news_len (zs ++ ws)
    have h2 : (sortS (news (zs ++ ws))).length = (news (zs ++ ws)).length := (List.mergeSort_perm _ _).length_eq
    simp at this ⊢
    omega)
  rw [List.filter_eq_self.mpr (fun _ _ => rfl), List.nil_append] at el
  have lz : (cntL zs).length = (cntR zs).length := by rw [← cntR_eq, List.length_map]
  have lw : (cntL ws).length = (cntR ws).length := by rw [← cntR_eq, List.length_map]
  have b1 : (cntL zs).length + (cntL ws).length ≤ 16777216 := by omega
  simp [m__law_sum, b__law_sum, b1, e, ek, es, el]
  rfl
end K60
end
section
set_option Elab.async false
set_option linter.all false
set_option maxRecDepth 100000
set_option maxHeartbeats 400000
namespace K60
open PySem PySem.Spec L2 Dn
/-! ### two crowds beside each other -/
theorem beside_ok {n m : Nat} {bs cs : List Bk} (h : LogOk n bs) (k : LogOk m cs) : m__law_beside [logD n bs, logD m cs] = .ok (logD (n + m) (bs ++ cs.map (renB (· + n)))) := by
  have hn := h.hi
  have hm := k.hi
  have el := lcGo_pure (mg := gkN 4) (mt := kYes) (me := kOp addD (kVar 4) (kVar 2)) (ρ := [.val (logD n bs), .val (logD m cs), .val (.int n), .no, .no]) (p := pen0) (g := fun i : Nat => .int (i : Int)) (h := fun i : Nat => .int ((i + n : Nat) : Int)) (keep := fun _ => true) (List.range m) [] (fun i hi => by simp) (by simp; omega)
  rw [List.filter_eq_self.mpr (fun _ _ => rfl), List.nil_append] at el
  have e1 : (List.range m).map (fun i : Nat => D.int (i : Int)) = numsD (List.range m) := rfl
  have e2 : (List.range m).map (fun i : Nat => D.int ((i + n : Nat) : Int)) = numsD ((List.range m).map (· + n)) := by
    unfold numsD
    rw [List.map_map]
    rfl
  rw [e1, e2] at el
  have er := rg0 (n := m) (by omega)
  have ho : Ord m (· + n) (.lst (numsD ((List.range m).map (· + n)))) := fun a ha => by
    rw [ixD_lst, Dn.atI_nat]
    unfold numsD
    simp [ha]
  have ei := in_numbers ho (fun x y _ _ e => by simpa using e) (by omega) k.ok (by have := k.few; omega) m
  have s1 : sliceD (logD n bs) (some 1) none = some (.tup (evs bs)) := by unfold logD; simp
  have s2 : ∀ ds, sliceD (logD m ds) (some 1) none = some (.tup (evs ds)) := fun ds => by unfold logD; simp
  have l1 := h.len
  have l2 : (evs (cs.map (renB (· + n)))).length ≤ 2000 := by
    have : ∀ ds : List Bk, (evs (ds.map (renB (· + n)))).length = (evs ds).length := fun ds => by
      induction ds with
      | nil => rfl
      | cons b r ih =>
        show (rows (renB (· + n) b) ++ evs (r.map (renB (· + n)))).length = (rows b ++ evs r).length
        have hb : (rows (renB (· + n) b)).length = (rows b).length := by
          cases b with
          | meet a b s t => rfl
          | shout a l s hs => simp [rows, renB, (srt_perm _).length_eq]
        rw [List.length_append, List.length_append, ih, hb]
    rw [this]
    exact k.len
  have b1 : 1 + (evs bs).length ≤ 16777216 := by omega
  have b2 : (evs bs).length + 1 + (evs (cs.map (renB (· + n)))).length ≤ 16777216 := by omega
  have ee : evs (bs ++ cs.map (renB (· + n))) = evs bs ++ evs (cs.map (renB (· + n))) := by unfold evs; rw [List.flatMap_append]
  simp [m__law_beside, b__law_beside, er, el, ei, s1, s2, b1, b2]
  unfold logD cD
  rw [ee, Int.natCast_add]
end K60
end
section
set_option Elab.async false
set_option linter.all false
set_option maxRecDepth 100000
set_option maxHeartbeats 400000
namespace K60
open PySem PySem.Spec L2 Dn
/-! ### the plain law of other numbers -/
structure Perm' (n : Nat) (o : Nat → Nat) : Prop where
  lt : ∀ a, a < n → o a < n
  inj : ∀ x y, x < n → y < n → o x = o y → x = y
theorem srt_sorted (hs : List (Nat × Str)) : (srt hs).Pairwise fun a b => a.1 ≤ b.1 := by
  have := List.pairwise_mergeSort (le := fun a b : Nat × Str => decide (a.1 ≤ b.1)) (fun a b c h1 h2 => by simp at *; omega) (fun a b => by simp; omega) hs
  exact this.imp fun h => by simpa using h
theorem srt_strict {hs : List (Nat × Str)} (nd : (hs.map (·.1)).Nodup) : ((srt hs).map (·.1)).Pairwise (· < ·) := by
  have nd2 : ((srt hs).map (·.1)).Nodup := ((srt_perm hs).map _).nodup_iff.mpr nd
  rw [List.pairwise_map]
  have h1 := srt_sorted hs
  have h2 := List.pairwise_map.mp nd2
  exact (h1.and h2).imp fun h => by omega
/-- two rows of hears in order, of the same hears, are one -/
theorem hs_one {as bs : List (Nat × Str)} (p : as.Perm bs) (ha : (as.map (·.1)).Pairwise (· < ·)) (hb : (bs.map (·.1)).Pairwise (· < ·)) : as = bs := by
  refine List.Perm.eq_of_pairwise (le := fun a b => a.1 < b.1) (fun a b _ _ h1 h2 => by omega) (List.pairwise_map.mp ha) (List.pairwise_map.mp hb) p
theorem srt_id {hs : List (Nat × Str)} (h : (hs.map (·.1)).Pairwise (· < ·)) : srt hs = hs := hs_one (srt_perm hs) (srt_strict (h.imp fun h => Nat.ne_of_lt h)) h
theorem nd_map {n : Nat} {o : Nat → Nat} (P : Perm' n o) {hs : List (Nat × Str)} (nd : (hs.map (·.1)).Nodup) (hn : ∀ h ∈ hs, h.1 < n) : ((hs.map (rePair o)).map (·.1)).Nodup := by
  rw [List.map_map]
  rw [show ((fun x : Nat × Str => x.1) ∘ rePair o) = o ∘ (·.1) from rfl, ← List.map_map]
  refine List.pairwise_map.mpr (List.Pairwise.imp_of_mem (fun {x y} hx hy hxy e => ?_) nd)
  obtain ⟨x', hx', rfl⟩ := List.mem_map.mp hx
  obtain ⟨y', hy', rfl⟩ := List.mem_map.mp hy
  exact hxy (P.inj _ _ (hn x' hx') (hn y' hy') e)
theorem ren_bk {n m : Nat} {o : Nat → Nat} (lt : ∀ a, a < n → o a < m) (inj : ∀ x y, x < n → y < n → o x = o y → x = y) {B : Bk} (h : BkOk n B) : BkOk m (renB o B) := by
  cases B with
  | meet a b s t =>
    obtain ⟨h1, h2, h3, h4, h5⟩ := h
    exact ⟨lt a h1, lt b h2, fun e => h3 (inj _ _ h1 h2 e), h4, h5⟩
  | shout a l s hs =>
    obtain ⟨h1, h2, h3, h4, h5⟩ := h
    have nd : ((hs.map (rePair o)).map (·.1)).Nodup := by
      rw [List.map_map]
      rw [show ((fun x : Nat × Str => x.1) ∘ rePair o) = o ∘ (·.1) from rfl, ← List.map_map]
      have nd0 : (hs.map (·.1)).Nodup := h4.imp fun h => Nat.ne_of_lt h
      refine List.pairwise_map.mpr (List.Pairwise.imp_of_mem (fun {x y} hx hy hxy e => ?_) nd0)
      obtain ⟨x', hx', rfl⟩ := List.mem_map.mp hx
      obtain ⟨y', hy', rfl⟩ := List.mem_map.mp hy
      exact hxy (inj _ _ (h5 x' hx').1 (h5 y' hy').1 e)
    refine ⟨lt a h1, h2, h3, srt_strict nd, fun g hg => ?_⟩
    have hg := (srt_perm _).mem_iff.mp hg
    obtain ⟨x, hx, rfl⟩ := List.mem_map.mp hg
    obtain ⟨g1, g2, g3⟩ := h5 x hx
    exact ⟨lt _ g1, fun e => g2 (inj _ _ g1 h1 e), g3⟩
theorem ren_log_ok {n : Nat} {o : Nat → Nat} (P : Perm' n o) {bs : List Bk} (h : LogOk n bs) : LogOk n (bs.map (renB o)) :=
  ⟨h.lo, h.hi, fun e => h.ne (List.map_eq_nil_iff.mp e), fun b hb => by
    obtain ⟨c, hc, rfl⟩ := List.mem_map.mp hb
    exact ren_bk P.lt P.inj (h.ok c hc), by rw [List.length_map]; exact h.few⟩
/-- other numbers behind others -/
theorem ren_ren {n : Nat} {o1 o2 o3 : Nat → Nat} (P1 : Perm' n o1) (P2 : Perm' n o2) (e : ∀ a, a < n → o3 a = o2 (o1 a)) {B : Bk} (h : BkOk n B) : renB o2 (renB o1 B) = renB o3 B := by
  cases B with
  | meet a b s t =>
    obtain ⟨h1, h2, _⟩ := h
    simp [renB, e a h1, e b h2]
  | shout a l s hs =>
    obtain ⟨h1, h2, h3, h4, h5⟩ := h
    have nd0 : (hs.map (·.1)).Nodup := h4.imp fun h => Nat.ne_of_lt h
    have hn : ∀ h ∈ hs, h.1 < n := fun g hg => (h5 g hg).1
    have em : hs.map (rePair o3) = (hs.map (rePair o1)).map (rePair o2) := by
      rw [List.map_map]
      exact List.map_congr_left fun g hg => by simp [rePair, e g.1 (hn g hg)]
    have n1 := nd_map P1 nd0 hn
    have hn1 : ∀ h ∈ hs.map (rePair o1), h.1 < n := fun g hg => by
      obtain ⟨x, hx, rfl⟩ := List.mem_map.mp hg
      exact P1.lt _ (hn x hx)
    have n2 := nd_map P2 n1 hn1
    simp only [renB, e a h1]
    congr 1
    refine hs_one ?_ (srt_strict ?_) (srt_strict ?_)
    · rw [em]
      exact (srt_perm _).trans (((srt_perm _).map _).trans (srt_perm _).symm)
    · exact ((((srt_perm (hs.map (rePair o1))).map (rePair o2)).map (·.1)).nodup_iff).mpr n2
    · rw [em]
      exact n2
theorem ren_id {n : Nat} {o : Nat → Nat} (e : ∀ a, a < n → o a = a) {B : Bk} (h : BkOk n B) : renB o B = B := by
  cases B with
  | meet a b s t =>
    obtain ⟨h1, h2, _⟩ := h
    simp [renB, e a h1, e b h2]
  | shout a l s hs =>
    obtain ⟨h1, h2, h3, h4, h5⟩ := h
    have em : hs.map (rePair o) = hs := by
      conv => rhs; rw [← List.map_id hs]
      exact List.map_congr_left fun g hg => by simp [rePair, e g.1 (h5 g hg).1]
    simp only [renB, e a h1, em, srt_id h4]
theorem rows_ren_len (o : Nat → Nat) (b : Bk) : (rows (renB o b)).length = (rows b).length := by
  cases b with
  | meet a b s t => rfl
  | shout a l s hs => simp [rows, renB, (srt_perm _).length_eq]
theorem evs_ren_len (o : Nat → Nat) : ∀ bs : List Bk, (evs (bs.map (renB o))).length = (evs bs).length
  | [] => rfl
  | b :: bs => by
    show (rows (renB o b) ++ evs (bs.map (renB o))).length = (rows b ++ evs bs).length
    rw [List.length_append, List.length_append, rows_ren_len, evs_ren_len]
theorem pre_map (f : Bk → Bk) (bs : List Bk) : pre (bs.map f) = (pre bs).map (List.map f) := by
  unfold pre
  rw [List.length_map, List.map_map]
  exact List.map_congr_left fun j _ => by simp [List.map_take]
theorem posI_ren (o : Nat → Nat) (q : List Bk) : posI (q.map (renB o)) = posI q := by unfold posI; rw [evs_ren_len]
/-! hand by hand -/
def seqH (h : Nat) (cs : List (Nat × Str)) : List Str := (cs.filter fun x => decide (x.1 = h)).map (·.2)
theorem seqH_app (h : Nat) (a b : List (Nat × Str)) : seqH h (a ++ b) = seqH h a ++ seqH h b := by unfold seqH; rw [List.filter_append, List.map_append]
theorem fin_get (h : Nat) : ∀ (cs : List (Nat × Str)) (st : List Str), (fin st cs)[h]? = (st[h]?).map fun s => (seqH h cs).getLast?.getD s
  | [], st => by
    show st[h]? = _
    cases st[h]? <;> rfl
  | c :: cs, st => by
    show (fin (st.set c.1 c.2) cs)[h]? = _
    rw [fin_get h cs, List.getElem?_set]
    by_cases e : c.1 = h
    · have es : seqH h (c :: cs) = c.2 :: seqH h cs := by simp [seqH, e]
      rw [if_pos e, es]
      by_cases hl : c.1 < st.length
      · rw [if_pos hl, ← e, List.getElem?_eq_getElem hl]
        simp [List.getLast?_cons]
      · rw [if_neg hl, ← e, List.getElem?_eq_none (by omega)]
        rfl
    · have es : seqH h (c :: cs) = seqH h cs := by simp [seqH, e]
      rw [if_neg e, es]
theorem chB_ok {n : Nat} {B : Bk} (h : BkOk n B) : ((chB B).map (·.1)).Nodup ∧ ∀ c ∈ chB B, c.1 < n := by
  cases B with
  | meet a b s t =>
    obtain ⟨h1, h2, h3, _⟩ := h
    refine ⟨by simp [chB, h3], fun c hc => ?_⟩
    simp only [chB, List.mem_cons, List.not_mem_nil, or_false] at hc
    rcases hc with rfl | rfl
    · exact h1
    · exact h2
  | shout a l s hs =>
    obtain ⟨h1, h2, h3, h4, h5⟩ := h
    refine ⟨?_, fun c hc => ?_⟩
    · show (a :: hs.map (·.1)).Nodup
      refine List.nodup_cons.mpr ⟨fun hm => ?_, h4.imp fun h => Nat.ne_of_lt h⟩
      obtain ⟨g, hg, e⟩ := List.mem_map.mp hm
      exact (h5 g hg).2.1 e
    · simp only [chB, List.mem_cons] at hc
      rcases hc with rfl | hc
      · exact h1
      · exact (h5 c hc).1
theorem chB_ren (o : Nat → Nat) (B : Bk) : (chB (renB o B)).Perm ((chB B).map (rePair o)) := by
  cases B with
  | meet a b s t => exact .refl _
  | shout a l s hs => exact List.Perm.cons _ (srt_perm _)
theorem filt_one {h : Nat} : ∀ {cs : List (Nat × Str)}, (cs.map (·.1)).Nodup → (cs.filter fun x => decide (x.1 = h)).length ≤ 1
  | [], _ => by simp
  | c :: cs, nd => by
    obtain ⟨h1, h2⟩ := List.nodup_cons.mp nd
    rw [List.filter_cons]
    by_cases e : c.1 = h
    · rw [if_pos (by simpa using e)]
      have : cs.filter (fun x => decide (x.1 = h)) = [] := by
        rw [List.filter_eq_nil_iff]
        intro x hx hxe
        have hxe : x.1 = h := by simpa using hxe
        exact h1 (List.mem_map.mpr ⟨x, hx, hxe.trans e.symm⟩)
      rw [this]
      simp
    · rw [if_neg (by simpa using e)]
      exact filt_one h2
theorem perm_one {α : Type} {a b : List α} (p : a.Perm b) (h : b.length ≤ 1) : a = b := by
  match b, h with
  | [], _ => exact p.eq_nil
  | [x], _ => exact p.eq_singleton
/-- inj is enough here: o need not stay below n -/
theorem seq_ren {n : Nat} {o : Nat → Nat} (inj : ∀ x y, x < n → y < n → o x = o y → x = y) {B : Bk} (ok : BkOk n B) {h : Nat} (hh : h < n) : seqH (o h) (chB (renB o B)) = seqH h (chB B) := by
  obtain ⟨nd, lt⟩ := chB_ok ok
  have e1 : ((chB B).map (rePair o)).filter (fun x => decide (x.1 = o h)) = ((chB B).filter fun x => decide (x.1 = h)).map (rePair o) := by
    rw [List.filter_map]
    congr 1
    refine List.filter_congr fun x hx => ?_
    show decide (o x.1 = o h) = decide (x.1 = h)
    by_cases e : x.1 = h
    · rw [e]; simp
    · rw [decide_eq_false e, decide_eq_false fun z => e (inj _ _ (lt x hx) hh z)]
  have p := (chB_ren o B).filter fun x => decide (x.1 = o h)
  rw [e1] at p
  have l1 : (((chB B).filter fun x => decide (x.1 = h)).map (rePair o)).length ≤ 1 := by rw [List.length_map]; exact filt_one nd
  unfold seqH
  rw [perm_one p l1, List.map_map]
  rfl
theorem seq_rens {n : Nat} {o : Nat → Nat} (inj : ∀ x y, x < n → y < n → o x = o y → x = y) {h : Nat} (hh : h < n) : ∀ {bs : List Bk}, (∀ B ∈ bs, BkOk n B) → seqH (o h) (allCh (bs.map (renB o))) = seqH h (allCh bs)
  | [], _ => rfl
  | b :: bs, ok => by
    show seqH (o h) (chB (renB o b) ++ allCh (bs.map (renB o))) = seqH h (chB b ++ allCh bs)
    rw [seqH_app, seqH_app, seq_ren inj (ok b List.mem_cons_self) hh, seq_rens inj hh fun y hy => ok y (List.mem_cons_of_mem _ hy)]
theorem st_ren {z : Str} {n : Nat} {o : Nat → Nat} (P : Perm' n o) {bs : List Bk} (ok : ∀ B ∈ bs, BkOk n B) {h : Nat} (hh : h < n) : (stOf z n (bs.map (renB o)))[o h]? = (stOf z n bs)[h]? := by
  unfold stOf
  rw [fin_get, fin_get, seq_rens P.inj hh ok, List.getElem?_replicate, List.getElem?_replicate, if_pos (P.lt h hh), if_pos hh]
theorem moved_iff {h : Nat} {cs : List (Nat × Str)} : h ∈ cs.map (·.1) ↔ seqH h cs ≠ [] := by
  unfold seqH
  constructor
  · intro hm e
    obtain ⟨c, hc, rfl⟩ := List.mem_map.mp hm
    have e := List.map_eq_nil_iff.mp e
    have := List.filter_eq_nil_iff.mp e c hc
    simp at this
  · intro hne
    obtain ⟨c, hc⟩ := List.exists_mem_of_ne_nil (cs.filter fun x => decide (x.1 = h)) (fun e => hne (by rw [e]; rfl))
    obtain ⟨h1, h2⟩ := List.mem_filter.mp hc
    exact List.mem_map.mpr ⟨c, h1, by simpa using h2⟩
theorem quiet_iff {n h : Nat} {bs : List Bk} : h ∈ quiet n bs ↔ h < n ∧ seqH h (allCh bs) = [] := by
  unfold quiet
  rw [List.mem_filter, List.mem_range]
  simp only [Bool.not_eq_true', decide_eq_false_iff_not]
  rw [moved_iff]
  simp
theorem quiet_sorted {n : Nat} {bs : List Bk} : (quiet n bs).Pairwise (· < ·) := List.Pairwise.filter _ List.pairwise_lt_range
end K60
end
section
set_option Elab.async false
set_option linter.all false
set_option maxRecDepth 100000
set_option maxHeartbeats 400000
namespace K60
open PySem PySem.Spec L2 Dn
/-! ### an order, and what it does -/
/-- ord tells each hand's other number -/
structure IsOrd (n : Nat) (ord : List Nat) : Prop where
  perm : ord.Perm (List.range n)
section
variable {n : Nat} {ord : List Nat} (I : IsOrd n ord)
include I
theorem IsOrd.len : ord.length = n := by rw [I.perm.length_eq, List.length_range]
theorem IsOrd.nd : ord.Nodup := I.perm.nodup_iff.mpr List.nodup_range
theorem IsOrd.at_ {a : Nat} (h : a < n) : ord[a]? = some (oOf ord a) := by
  have := I.len
  unfold oOf
  rw [List.getD_eq_getElem?_getD, List.getElem?_eq_getElem (by omega)]
  rfl
theorem IsOrd.P : Perm' n (oOf ord) where
  lt := fun a ha => by
    have h1 := List.mem_of_getElem? (I.at_ ha)
    exact List.mem_range.mp (I.perm.mem_iff.mp h1)
  inj := fun x y hx hy e => by
    have := I.len
    have h1 := I.at_ hx
    have h2 := I.at_ hy
    rw [e] at h1
    rw [List.getElem?_eq_getElem (by omega)] at h1 h2
    have h3 := (Option.some.inj h1).trans (Option.some.inj h2).symm
    exact (List.getElem_inj I.nd).mp h3
theorem IsOrd.map : (List.range n).map (oOf ord) = ord := by
  refine List.ext_getElem? fun i => ?_
  rw [List.getElem?_map]
  by_cases h : i < n
  · rw [List.getElem?_range h, I.at_ h]
    rfl
  · have := I.len
    rw [List.getElem?_eq_none (l := List.range n) (by rw [List.length_range]; omega), List.getElem?_eq_none (l := ord) (by omega)]
    rfl
/-- the states are the same, at other places -/
theorem st_perm {z : Str} {bs : List Bk} (ok : ∀ B ∈ bs, BkOk n B) : (stOf z n (bs.map (renB (oOf ord)))).Perm (stOf z n bs) := by
  have e1 : stOf z n bs = ord.map fun x => (stOf z n (bs.map (renB (oOf ord)))).getD x z := by
    refine List.ext_getElem? fun i => ?_
    rw [List.getElem?_map]
    by_cases h : i < n
    · rw [I.at_ h]
      have := st_ren (z := z) I.P ok h
      rw [← this]
      have hl : oOf ord i < (stOf z n (bs.map (renB (oOf ord)))).length := by rw [stOf_len]; exact I.P.lt i h
      rw [List.getElem?_eq_getElem hl]
      simp [List.getD_eq_getElem?_getD, List.getElem?_eq_getElem hl]
    · have := I.len
      rw [List.getElem?_eq_none (by rw [stOf_len]; omega), List.getElem?_eq_none (by omega)]
      rfl
  have e2 : stOf z n (bs.map (renB (oOf ord))) = (List.range n).map fun x => (stOf z n (bs.map (renB (oOf ord)))).getD x z := by
    refine List.ext_getElem? fun i => ?_
    rw [List.getElem?_map]
    by_cases h : i < n
    · rw [List.getElem?_range h]
      have hl : i < (stOf z n (bs.map (renB (oOf ord)))).length := by rw [stOf_len]; exact h
      rw [List.getElem?_eq_getElem hl]
      simp [List.getD_eq_getElem?_getD, List.getElem?_eq_getElem hl]
    · rw [List.getElem?_eq_none (by rw [stOf_len]; omega), List.getElem?_eq_none (by simp; omega)]
      rfl
  rw [e1, e2]
  have := I.perm.symm.map fun x => (stOf z n (bs.map (renB (oOf ord)))).getD x z
  rw [← e2] at this ⊢
  exact this
/-- sorted, as the law tells it -/
theorem sorted_of {xs ys : List Nat} (p : ys.Perm xs) (s : ys.Pairwise (· < ·)) : (xs.map fun i : Nat => (i : Int)).mergeSort (fun a b => decide (a ≤ b)) = ys.map fun i : Nat => (i : Int) := by
  refine List.Perm.eq_of_pairwise (le := fun a b => a ≤ b) (fun a b _ _ h1 h2 => by omega) ?_ ?_ ((List.mergeSort_perm _ _).trans (p.symm.map _))
  · have := List.pairwise_mergeSort (le := fun a b : Int => decide (a ≤ b)) (fun a b c h1 h2 => by simp at *; omega) (fun a b => by simp; omega) (xs.map fun i : Nat => (i : Int))
    exact this.imp fun h => by simpa using h
  · refine List.pairwise_map.mpr (List.Pairwise.imp (fun h => ?_) s)
    omega
theorem quiet_ren {bs : List Bk} (ok : ∀ B ∈ bs, BkOk n B) : (quiet n (bs.map (renB (oOf ord)))).Perm ((quiet n bs).map (oOf ord)) := by
  have nd1 : (quiet n (bs.map (renB (oOf ord)))).Nodup := quiet_sorted.imp fun h => Nat.ne_of_lt h
  have nd2 : ((quiet n bs).map (oOf ord)).Nodup := by
    have nd : (quiet n bs).Nodup := quiet_sorted.imp fun h => Nat.ne_of_lt h
    refine List.pairwise_map.mpr (List.Pairwise.imp_of_mem (fun {x y} hx hy hxy e => ?_) nd)
    exact hxy (I.P.inj _ _ (quiet_iff.mp hx).1 (quiet_iff.mp hy).1 e)
  refine (List.perm_ext_iff_of_nodup nd1 nd2).mpr fun x => ?_
  rw [quiet_iff, List.mem_map]
  constructor
  · rintro ⟨hx, hs⟩
    have hm : x ∈ ord := I.perm.mem_iff.mpr (List.mem_range.mpr hx)
    rw [← I.map] at hm
    obtain ⟨h, hh, rfl⟩ := List.mem_map.mp hm
    have hh := List.mem_range.mp hh
    exact ⟨h, quiet_iff.mpr ⟨hh, by rw [← seq_rens I.P.inj hh ok]; exact hs⟩, rfl⟩
  · rintro ⟨h, hq, rfl⟩
    obtain ⟨hh, hs⟩ := quiet_iff.mp hq
    exact ⟨I.P.lt h hh, by rw [seq_rens I.P.inj hh ok]; exact hs⟩
omit I in
theorem heard_ren {o : Nat → Nat} {a : Nat} {l s : Str} {hs : List (Nat × Str)} (P : Perm' n o) (ok : BkOk n (.shout a l s hs)) : ((srt (hs.map (rePair o))).map (·.1)).Perm ((hs.map (·.1)).map o) ∧ ((srt (hs.map (rePair o))).map (·.1)).Pairwise (· < ·) := by
  obtain ⟨h1, h2, h3, h4, h5⟩ := ok
  refine ⟨?_, srt_strict (nd_map P (h4.imp fun h => Nat.ne_of_lt h) fun h hh => (h5 h hh).1)⟩
  have := (srt_perm (hs.map (rePair o))).map (·.1)
  rw [List.map_map] at this
  rw [List.map_map]
  exact this
theorem way_ren {z : Str} {bs : List Bk} (ok : ∀ B ∈ bs, BkOk n B) {h : Nat} (hh : h < n) : (wayOf z (oOf ord h) (bs.map (renB (oOf ord)))).map (·.2) = (wayOf z h bs).map (·.2) := by
  unfold wayOf
  rw [List.map_cons, List.map_cons, wayR_states, wayR_states, List.flatten_cons, List.flatten_cons, chEvs_flat, chEvs_flat]
  have := seq_rens I.P.inj hh ok
  unfold seqH at this
  rw [List.nil_append, List.nil_append, this]
end
/-! ### a hand more, two crowds -/
theorem wide_ok {n : Nat} {bs : List Bk} (h : LogOk n bs) (hn : n ≤ 29) : LogOk (n + 1) bs := ⟨by omega, by omega, h.ne, fun b hb => by
  have := ren_bk (n := n) (m := n + 1) (o := id) (fun a ha => by show a < n + 1; omega) (fun _ _ _ _ e => e) (h.ok b hb)
  rwa [ren_id (n := n) (o := id) (fun _ _ => rfl) (h.ok b hb)] at this, h.few⟩
theorem seq_out {n h : Nat} {bs : List Bk} (ok : ∀ B ∈ bs, BkOk n B) (hh : n ≤ h) : seqH h (allCh bs) = [] := by
  have : (allCh bs).filter (fun x => decide (x.1 = h)) = [] := by
    rw [List.filter_eq_nil_iff]
    intro c hc e
    have e : c.1 = h := by simpa using e
    have := ch_lt ok c hc
    omega
  unfold seqH
  rw [this]
  rfl
theorem st_wide {z : Str} {n : Nat} {bs : List Bk} (ok : ∀ B ∈ bs, BkOk n B) : stOf z (n + 1) bs = stOf z n bs ++ [z] := by
  refine List.ext_getElem? fun i => ?_
  by_cases h : i < n
  · rw [List.getElem?_append_left (by rw [stOf_len]; exact h)]
    unfold stOf
    rw [fin_get, fin_get, List.getElem?_replicate, List.getElem?_replicate, if_pos (by omega), if_pos h]
  · rw [List.getElem?_append_right (by rw [stOf_len]; omega), stOf_len]
    unfold stOf
    rw [fin_get, seq_out ok (by omega), List.getElem?_replicate]
    by_cases e : i = n
    · subst e
      simp
    · rw [if_neg (by omega), List.getElem?_eq_none (by simp; omega)]
      rfl
theorem quiet_wide {n : Nat} {bs : List Bk} (ok : ∀ B ∈ bs, BkOk n B) : quiet (n + 1) bs = quiet n bs ++ [n] := by
  unfold quiet
  rw [List.range_succ, List.filter_append]
  congr 1
  have : n ∉ (allCh bs).map (·.1) := fun h => by
    obtain ⟨c, hc, e⟩ := List.mem_map.mp h
    have := ch_lt ok c hc
    omega
  simp only [List.filter_cons, decide_eq_false this]
  rfl
theorem way_wide {z : Str} {n : Nat} {bs : List Bk} (ok : ∀ B ∈ bs, BkOk n B) : wayOf z n bs = [(1, z)] := by
  have e : wayR n 0 ([] :: bs.flatMap chRows) = [] := by
    have h1 := wayR_states n ([] :: bs.flatMap chRows) 0
    rw [List.flatten_cons, chEvs_flat, List.nil_append] at h1
    have h2 := seq_out (n := n) (h := n) ok (Nat.le_refl _)
    unfold seqH at h2
    rw [h2] at h1
    exact List.map_eq_nil_iff.mp h1
  unfold wayOf
  rw [e]
theorem both_ok {n m : Nat} {bs cs : List Bk} (h : LogOk n bs) (k : LogOk m cs) (hn : n + m ≤ 30) (hl : bs.length + cs.length ≤ 50) : LogOk (n + m) (bs ++ cs.map (renB (· + n))) := by
  have := h.lo
  refine ⟨by omega, hn, fun e => h.ne (List.append_eq_nil_iff.mp e).1, fun b hb => ?_, by simpa using hl⟩
  rcases List.mem_append.mp hb with hb | hb
  · have := ren_bk (n := n) (m := n + m) (o := id) (fun a ha => by show a < n + m; omega) (fun _ _ _ _ e => e) (h.ok b hb)
    rwa [ren_id (n := n) (o := id) (fun _ _ => rfl) (h.ok b hb)] at this
  · obtain ⟨c, hc, rfl⟩ := List.mem_map.mp hb
    exact ren_bk (n := m) (m := n + m) (o := (· + n)) (fun a ha => by show a + n < n + m; omega) (fun x y _ _ e => by simpa using e) (k.ok c hc)
theorem allCh_app (a b : List Bk) : allCh (a ++ b) = allCh a ++ allCh b := by unfold allCh; rw [List.flatMap_append]
theorem seq_low {n h : Nat} {cs : List Bk} (hh : h < n) : seqH h (allCh (cs.map (renB (· + n)))) = [] := by
  have : ∀ c ∈ allCh (cs.map (renB (· + n))), n ≤ c.1 := fun c hc => by
    obtain ⟨b, hb, hc⟩ := List.mem_flatMap.mp hc
    obtain ⟨d, hd, rfl⟩ := List.mem_map.mp hb
    have hc := (chB_ren (· + n) d).mem_iff.mp hc
    obtain ⟨e, _, rfl⟩ := List.mem_map.mp hc
    show n ≤ e.1 + n
    omega
  have e : (allCh (cs.map (renB (· + n)))).filter (fun x => decide (x.1 = h)) = [] := by
    rw [List.filter_eq_nil_iff]
    intro c hc e
    have e : c.1 = h := by simpa using e
    have := this c hc
    omega
  unfold seqH
  rw [e]
  rfl
theorem st_both {z : Str} {n m : Nat} {bs cs : List Bk} (h : ∀ B ∈ bs, BkOk n B) (k : ∀ B ∈ cs, BkOk m B) : stOf z (n + m) (bs ++ cs.map (renB (· + n))) = stOf z n bs ++ stOf z m cs := by
  refine List.ext_getElem? fun i => ?_
  by_cases hi : i < n
  · rw [List.getElem?_append_left (by rw [stOf_len]; exact hi)]
    unfold stOf
    rw [fin_get, fin_get, allCh_app, seqH_app, seq_low hi, List.append_nil, List.getElem?_replicate, List.getElem?_replicate, if_pos (by omega), if_pos hi]
  · rw [List.getElem?_append_right (by rw [stOf_len]; omega), stOf_len]
    unfold stOf
    rw [fin_get, fin_get, allCh_app, seqH_app, seq_out h (by omega), List.nil_append, List.getElem?_replicate, List.getElem?_replicate]
    by_cases hm : i - n < m
    · have e := seq_rens (n := m) (o := (· + n)) (fun x y _ _ e => by simpa using e) hm k
      rw [show i - n + n = i by omega] at e
      rw [e, if_pos (by omega), if_pos hm]
    · rw [if_neg (by omega), if_neg hm]
      rfl
theorem quiet_both {n m : Nat} {bs cs : List Bk} (h : ∀ B ∈ bs, BkOk n B) (k : ∀ B ∈ cs, BkOk m B) : quiet (n + m) (bs ++ cs.map (renB (· + n))) = quiet n bs ++ (quiet m cs).map (· + n) := by
  have s1 : (quiet n bs ++ (quiet m cs).map (· + n)).Pairwise (· < ·) := by
    refine List.pairwise_append.mpr ⟨quiet_sorted, List.pairwise_map.mpr (quiet_sorted.imp fun h => by omega), fun a ha b hb => ?_⟩
    obtain ⟨c, _, rfl⟩ := List.mem_map.mp hb
    have := (quiet_iff.mp ha).1
    omega
  refine List.Perm.eq_of_pairwise (le := (· < ·)) (fun a b _ _ h1 h2 => by omega) quiet_sorted s1 ?_
  refine (List.perm_ext_iff_of_nodup (quiet_sorted.imp fun h => Nat.ne_of_lt h) (s1.imp fun h => Nat.ne_of_lt h)).mpr fun x => ?_
  rw [quiet_iff, List.mem_append, quiet_iff, List.mem_map, allCh_app, seqH_app]
  by_cases hx : x < n
  · rw [seq_low hx, List.append_nil]
    constructor
    · exact fun h => .inl ⟨hx, h.2⟩
    · rintro (h | ⟨c, _, e⟩)
      · exact ⟨by omega, h.2⟩
      · omega
  · rw [seq_out h (by omega), List.nil_append]
    constructor
    · rintro ⟨h1, h2⟩
      have e := seq_rens (n := m) (o := (· + n)) (fun x y _ _ e => by simpa using e) (show x - n < m by omega) k
      rw [show x - n + n = x by omega] at e
      exact .inr ⟨x - n, quiet_iff.mpr ⟨by omega, by rw [← e]; exact h2⟩, by omega⟩
    · rintro (h | ⟨c, hc, rfl⟩)
      · omega
      · obtain ⟨h1, h2⟩ := quiet_iff.mp hc
        have e := seq_rens (n := m) (o := (· + n)) (fun x y _ _ e => by simpa using e) h1 k
        exact ⟨by omega, by rw [← h2]; exact e⟩
theorem pre_len (bs : List Bk) : (pre bs).length = bs.length + 1 := by unfold pre; simp
end K60
end
section
set_option Elab.async false
set_option linter.all false
set_option maxRecDepth 100000
set_option maxHeartbeats 400000
namespace Dn
open PySem PySem.Spec L2
/-! ### the pen's fields -/
@[simp] theorem pq0 : ((Str.ofString "at") = Str.ofString "digits") = False := eq_false (by decide)
@[simp] theorem pq1 : ((Str.ofString "at") = Str.ofString "count") = False := eq_false (by decide)
@[simp] theorem pq2 : ((Str.ofString "at") = Str.ofString "fold") = False := eq_false (by decide)
@[simp] theorem pq3 : ((Str.ofString "at") = Str.ofString "cells") = False := eq_false (by decide)
@[simp] theorem pq4 : ((Str.ofString "digits") = Str.ofString "at") = False := eq_false (by decide)
@[simp] theorem pq5 : ((Str.ofString "digits") = Str.ofString "count") = False := eq_false (by decide)
@[simp] theorem pq6 : ((Str.ofString "digits") = Str.ofString "fold") = False := eq_false (by decide)
@[simp] theorem pq7 : ((Str.ofString "digits") = Str.ofString "cells") = False := eq_false (by decide)
@[simp] theorem pq8 : ((Str.ofString "count") = Str.ofString "at") = False := eq_false (by decide)
@[simp] theorem pq9 : ((Str.ofString "count") = Str.ofString "digits") = False := eq_false (by decide)
@[simp] theorem pq10 : ((Str.ofString "count") = Str.ofString "fold") = False := eq_false (by decide)
@[simp] theorem pq11 : ((Str.ofString "count") = Str.ofString "cells") = False := eq_false (by decide)
@[simp] theorem pq12 : ((Str.ofString "fold") = Str.ofString "at") = False := eq_false (by decide)
@[simp] theorem pq13 : ((Str.ofString "fold") = Str.ofString "digits") = False := eq_false (by decide)
@[simp] theorem pq14 : ((Str.ofString "fold") = Str.ofString "count") = False := eq_false (by decide)
@[simp] theorem pq15 : ((Str.ofString "fold") = Str.ofString "cells") = False := eq_false (by decide)
@[simp] theorem pq16 : ((Str.ofString "cells") = Str.ofString "at") = False := eq_false (by decide)
@[simp] theorem pq17 : ((Str.ofString "cells") = Str.ofString "digits") = False := eq_false (by decide)
@[simp] theorem pq18 : ((Str.ofString "cells") = Str.ofString "count") = False := eq_false (by decide)
@[simp] theorem pq19 : ((Str.ofString "cells") = Str.ofString "fold") = False := eq_false (by decide)
@[simp] theorem pf1 (cs : List Int) (a d c f : Int) : penF (.pn cs a d c f) (Str.ofString "at") = some (.int a) := by simp [penF]
@[simp] theorem pf2 (cs : List Int) (a d c f : Int) : penF (.pn cs a d c f) (Str.ofString "digits") = some (.int d) := by simp [penF]
@[simp] theorem pf3 (cs : List Int) (a d c f : Int) : penF (.pn cs a d c f) (Str.ofString "count") = some (.int c) := by simp [penF]
@[simp] theorem pf4 (cs : List Int) (a d c f : Int) : penF (.pn cs a d c f) (Str.ofString "fold") = some (.int f) := by simp [penF]
@[simp] theorem pw1 (cs : List Int) (a d c f i : Int) : penW (.pn cs a d c f) (Str.ofString "at") (.int i) = some (.pn cs i d c f) := by simp [penW]
@[simp] theorem pw2 (cs : List Int) (a d c f i : Int) : penW (.pn cs a d c f) (Str.ofString "digits") (.int i) = some (.pn cs a i c f) := by simp [penW]
@[simp] theorem pw3 (cs : List Int) (a d c f i : Int) : penW (.pn cs a d c f) (Str.ofString "count") (.int i) = some (.pn cs a d i f) := by simp [penW]
@[simp] theorem pw4 (cs : List Int) (a d c f i : Int) : penW (.pn cs a d c f) (Str.ofString "fold") (.int i) = some (.pn cs a d c i) := by simp [penW]
/-- a pen that has drawn at most N times -/
def PenIs (N : Nat) (p : Pen) : Prop := ∃ cs a d c f, p = .pn cs a d c f ∧ 0 ≤ a ∧ 0 ≤ d ∧ 0 ≤ c ∧ c ≤ N ∧ 0 ≤ f ∧ f < 2147483648
theorem PenIs.mono {N M : Nat} {p : Pen} (h : PenIs N p) (k : N ≤ M) : PenIs M p := by
  obtain ⟨cs, a, d, c, f, e, h1, h2, h3, h4, h5, h6⟩ := h
  exact ⟨cs, a, d, c, f, e, h1, h2, h3, by omega, h5, h6⟩
theorem cmul_r {i j : Int} (h : -(2 ^ 64) < j) (k : j < 2 ^ 64) : CMul i j := .inr ⟨h, k⟩
theorem cpow_10 : CPow 10 18 := ⟨by decide, by decide, by decide⟩
end Dn
end
section
set_option Elab.async false
set_option linter.all false
set_option maxRecDepth 100000
set_option maxHeartbeats 1000000
namespace K60
open PySem PySem.Spec L2 Dn
/-! ### draws -/
def drawR (f c many : Int) : Int := (f + c * 7937 + 101) ^ 17 % 2305843009213693951 / 128 % many
theorem draw_ok {N : Nat} {many : Int} {p : Pen} (hp : PenIs N p) (hN : N ≤ 1000000000) (h1 : 1 ≤ many) (h2 : many < 1000000) : ∃ r p', m__law_draw [.int many] p = .ok (.int r, p') ∧ 0 ≤ r ∧ r < many ∧ PenIs (N + 1) p' := by
  obtain ⟨cs, a, d, c, f, rfl, a0, d0, c0, cN, f0, fM⟩ := hp
  have m1 : CMul f 70157 := cmul_r (by decide) (by decide)
  have m2 : CMul (c + 1) 7937 := cmul_r (by decide) (by decide)
  have dv : ∀ x, CDiv x many := fun x => ⟨by omega, by omega⟩
  have dw : ∀ x, CDiv x 128 := fun x => ⟨by decide, by decide⟩
  have hm : 0 < many := by omega
  have fin : ∀ (cs' : List Int) (a' f' : Int), 0 ≤ a' → 0 ≤ f' → f' < 2147483648 → CPow (f' + (c + 1) * 7937 + 101) 17 := fun cs' a' f' _ _ _ => by
    refine ⟨by decide, by decide, ?_⟩
    omega
  by_cases hd : d = 0 ∧ a < cs.length
  · obtain ⟨rfl, ha⟩ := hd
    obtain ⟨n, rfl⟩ : ∃ n : Nat, a = n := ⟨a.toNat, by omega⟩
    have hn : n < cs.length := by omega
    have at_ : atI (cs.map D.int) (n : Int) = some (.int cs[n]) := by
      rw [Dn.atI_nat, List.getElem?_map, List.getElem?_eq_getElem hn]
      rfl
    by_cases hc : (1000000000000000000 : Int) ≤ cs[n]
    · by_cases hg : 1000000000000000000 < cs[n]
      · refine ⟨(cs[n] - 1000000000000000000) % many, .pn cs (n + 1) ((cs[n] - 1000000000000000000) / many) (c + 1) f, ?_, Int.emod_nonneg _ (by omega), Int.emod_lt_of_pos _ hm, _, _, _, _, _, rfl, by omega, ?_, by omega, by omega, f0, fM⟩
        · simp [m__law_draw, b__law_draw, at_, ha, hn, hc, cpow_10, hg, hm, dv]
        · exact Int.ediv_nonneg (by omega) (by omega)
      · have e := fin cs (n + 1) f (by omega) f0 fM
        refine ⟨drawR f (c + 1) many, .pn cs (n + 1) (cs[n] - 1000000000000000000) (c + 1) f, ?_, Int.emod_nonneg _ (by omega), Int.emod_lt_of_pos _ hm, _, _, _, _, _, rfl, by omega, by omega, by omega, by omega, f0, fM⟩
        simp [m__law_draw, b__law_draw, at_, ha, hn, hc, cpow_10, hg, hm, m2, e, drawR, dw]
    · have f1 : 0 ≤ (f * 70157 + cs[n]) % 2147482943 := Int.emod_nonneg _ (by decide)
      have f2 : (f * 70157 + cs[n]) % 2147482943 < 2147483648 := by
        have := Int.emod_lt_of_pos (f * 70157 + cs[n]) (show (0 : Int) < 2147482943 by decide)
        omega
      have e := fin cs (n + 1) _ (by omega) f1 f2
      refine ⟨drawR ((f * 70157 + cs[n]) % 2147482943) (c + 1) many, .pn cs (n + 1) 0 (c + 1) ((f * 70157 + cs[n]) % 2147482943), ?_, Int.emod_nonneg _ (by omega), Int.emod_lt_of_pos _ hm, _, _, _, _, _, rfl, by omega, by omega, by omega, by omega, f1, f2⟩
      simp [m__law_draw, b__law_draw, at_, ha, hn, hc, cpow_10, hm, m1, m2, e, drawR, dw]
  · have hd2 : ¬ (d = 0 ∧ a < cs.length) := hd
    have hd3 : d = 0 → ¬ a < cs.length := fun h1 h2 => hd ⟨h1, h2⟩
    by_cases hg : 0 < d
    · have d1 : d ≠ 0 := by omega
      refine ⟨d % many, .pn cs a (d / many) (c + 1) f, ?_, Int.emod_nonneg _ (by omega), Int.emod_lt_of_pos _ hm, _, _, _, _, _, rfl, a0, Int.ediv_nonneg d0 (by omega), by omega, by omega, f0, fM⟩
      simp [m__law_draw, b__law_draw, d1, hg, hm, dv]
    · have d1 : d = 0 := by omega
      subst d1
      have ha := hd3 rfl
      have e := fin cs a f a0 f0 fM
      refine ⟨drawR f (c + 1) many, .pn cs a 0 (c + 1) f, ?_, Int.emod_nonneg _ (by omega), Int.emod_lt_of_pos _ hm, _, _, _, _, _, rfl, a0, by omega, by omega, by omega, f0, fM⟩
      simp [m__law_draw, b__law_draw, ha, hm, m2, e, drawR, dw]
end K60
end
section
set_option Elab.async false
set_option linter.all false
set_option maxRecDepth 100000
set_option maxHeartbeats 1000000
namespace K60
open PySem PySem.Spec L2 Dn
open SX (S)
/-! ### drawn names -/
def alph : List Nat := List.range' 97 26
def figs : List Nat := List.range' 48 10
theorem alph_eq : Str.ofString "abcdefghijklmnopqrstuvwxyz" = S alph := by decide +kernel
theorem figs_eq : Str.ofString "0123456789" = S figs := by decide +kernel
theorem nil_eq : Str.ofString "" = S [] := by decide +kernel
theorem mem_alph {c : Nat} : c ∈ alph ↔ 97 ≤ c ∧ c < 123 := by unfold alph; rw [List.mem_range'_1]
theorem mem_figs {c : Nat} : c ∈ figs ↔ 48 ≤ c ∧ c < 58 := by unfold figs; rw [List.mem_range'_1]
theorem in_S (a : List Nat) (c : Nat) : inD (.str (S [c])) (.str (S a)) = some (.bl (decide (c ∈ a))) := by
  show (some _).map D.bl = _
  rw [← SX.in_one a c]
  rfl
theorem notin_S (a : List Nat) (c : Nat) : notInD (.str (S [c])) (.str (S a)) = some (.bl (!decide (c ∈ a))) := by
  show (some _).map _ = _
  rw [← SX.in_one a c]
  rfl
theorem ix_S {a : List Nat} {i : Nat} (hl : a.length ≤ 1000) (hi : i < a.length) : ixD (.str (S a)) (.int i) = some (.str (S [a[i]])) := by
  show (if (S a).length ≤ sizeLine then (atI (S a).cps.toList (i : Int)).map fun c => D.str ⟨#[c]⟩ else none) = _
  rw [SX.S_len, if_pos (by rw [line_val]; omega), Dn.atI_nat]
  show (a[i]?).map _ = _
  rw [List.getElem?_eq_getElem hi]
  rfl
theorem len_S {a : List Nat} (hl : a.length ≤ 1000) : lenD [.str (S a)] = some (.int a.length) := by
  rw [lenD_str, SX.S_len, if_pos (by rw [line_val]; omega)]
theorem name_ok {a : List Nat} {c : Nat} {r : List Nat} (e : a = c :: r) (hl : a.length ≤ 12) (hc : c ∈ alph) (h : ∀ x ∈ a, x ∈ alph ∨ x ∈ figs) : NameOk (S a) := by
  have ne : a.length ≠ 0 := by rw [e]; simp
  refine ⟨?_, ?_, by rw [SX.S_len]; exact hl, fun x hx => by
    rcases h x (by simpa using hx) with h1 | h1
    · exact .inl (mem_alph.mp h1)
    · exact .inr (mem_figs.mp h1)⟩
  · have e0 : ixD (.str (S a)) (.int 0) = some (.str (S [c])) := by
      have := ix_S (a := a) (i := 0) (by omega) (by omega)
      rw [show ((0 : Nat) : Int) = 0 from rfl] at this
      rw [this]
      simp [e]
    have el := len_S (a := a) (by omega)
    have eg := lcGo_pure (mg := gkN 1) (mt := kYes) (me := kOrV (kOp inD (kVar 1) (kC (.str "abcdefghijklmnopqrstuvwxyz"))) (kOp inD (kVar 1) (kC (.str "0123456789")))) (ρ := [.val (.str (S a)), .no]) (p := pen0) (g := fun c : Nat => D.str (S [c])) (h := fun _ => D.bl true) (keep := fun _ => true) a [] (fun x hx => by
      rw [alph_eq, figs_eq]
      rcases h x hx with h1 | h1
      · simp [in_S, h1]
      · simp [in_S, h1]) (by simp; omega)
    rw [List.filter_eq_self.mpr (fun _ _ => rfl), List.nil_append] at eg
    have es : sgD (S a) = a.map fun c : Nat => D.str (S [c]) := rfl
    have ea : allL (a.map fun _ => D.bl true) = some (.bl true) := by
      have := allL_bls (a.map fun _ => true)
      rw [List.map_map] at this
      rw [show (a.map fun _ => D.bl true) = a.map (D.bl ∘ fun _ => true) from rfl, this]
      simp
    have b1 : (1 : Int) ≤ a.length := by omega
    have b2 : (a.length : Int) ≤ 12 := by omega
    rw [alph_eq, figs_eq] at eg
    simp only [m_is_name, b_is_name, alph_eq, figs_eq]
    simp [el, e0, b1, b2, notin_S, hc, es, eg, ea]
  · show ((S a).cps.all fun x => decide (x < 0x110000)) = true
    rw [Array.all_eq_true']
    intro x hx
    have hx : x ∈ a := by simpa using hx
    rcases h x hx with h1 | h1
    · have := mem_alph.mp h1
      simp
      omega
    · have := mem_figs.mp h1
      simp
      omega
theorem str_dig {i : Nat} (h : i < 10) : strD [.int i] = some (.str (S [48 + i])) := by
  have : i = 0 ∨ i = 1 ∨ i = 2 ∨ i = 3 ∨ i = 4 ∨ i = 5 ∨ i = 6 ∨ i = 7 ∨ i = 8 ∨ i = 9 := by omega
  rcases this with rfl | rfl | rfl | rfl | rfl | rfl | rfl | rfl | rfl | rfl <;> decide +kernel
theorem add_S {a b : List Nat} (h : a.length + b.length ≤ 1000) : addD (.str (S a)) (.str (S b)) = some (.str (S (a ++ b))) := by
  rw [addD_str, SX.S_len, SX.S_len, if_pos (by rw [line_val]; omega), SX.S_cat]
theorem sl_to {a : List Nat} {k : Nat} (h : a.length ≤ 1000) : sliceD (.str (S a)) none (some (k : Int)) = some (.str (S (a.take k))) := by
  show (if (S a).length ≤ sizeLine then _ else _) = _
  rw [SX.S_len, if_pos (by rw [line_val]; omega), SX.slice_to (by omega)]
  rfl
theorem sl_from {a : List Nat} {k : Nat} (h : a.length ≤ 1000) : sliceD (.str (S a)) (some (k : Int)) none = some (.str (S (a.drop k))) := by
  show (if (S a).length ≤ sizeLine then _ else _) = _
  rw [SX.S_len, if_pos (by rw [line_val]; omega), SX.slice_from (by omega)]
  rfl
abbrev nmB : KS := kAsg (kOp addD (kVar 2) (kOp ixD (kC (.str "abcdefghijklmnopqrstuvwxyz")) (kCallM 0 1 m__law_draw [] (kCons (kC (.int 26)) kNil)))) (gkN 2)
theorem name_draw {N i : Nat} {p : Pen} (hp : PenIs N p) (hN : N ≤ 900000000) (hi : i < 10) : ∃ z p', m__law_name [.int i] p = .ok (.str z, p') ∧ NameOk z ∧ PenIs (N + 20) p' := by
  obtain ⟨r, p1, e1, r0, r8, hp1⟩ := draw_ok (many := 8) hp (by omega) (by decide) (by decide)
  obtain ⟨k, rfl⟩ : ∃ k : Nat, r = k := ⟨r.toNat, by omega⟩
  have er := rg0 (n := k + 1) (by omega)
  obtain ⟨ρ', p2, eg, ws, s3, s4, rfl, hl, hw, hp2⟩ := forGo_inv (mg := gkN 3) (b := nmB) (g := fun i : Nat => D.int (i : Int)) (I := fun pre ρ p => ∃ ws s3 s4, ρ = [.pen, .val (.int i), .val (.str (S ws)), s3, s4] ∧ ws.length = pre.length ∧ (∀ c ∈ ws, c ∈ alph) ∧ PenIs (N + 1 + pre.length) p) (List.range (k + 1)) [] [.pen, .val (.int i), .val (.str (S [])), .no, .no] p1 ⟨[], .no, .no, rfl, rfl, (fun _ h => nomatch h), hp1⟩ (fun pre' x post ρ p ha ⟨ws, s3, s4, hρ, hl, hw, hp⟩ => by
    subst hρ
    have hlen : pre'.length < k + 1 := by
      have := congrArg List.length ha
      simp at this
      omega
    obtain ⟨q, p', eq, q0, q26, hp'⟩ := draw_ok (many := 26) hp (by omega) (by decide) (by decide)
    obtain ⟨j, rfl⟩ : ∃ j : Nat, q = j := ⟨q.toNat, by omega⟩
    have hj : j < alph.length := by unfold alph; rw [List.length_range']; omega
    have ei := ix_S (a := alph) (i := j) (by decide) hj
    have ea := add_S (a := ws) (b := [alph[j]]) (by simp; omega)
    refine ⟨.nx, _, p', ?_, .inl rfl, ws ++ [alph[j]], .val (.int x), s4, rfl, by simp [hl], fun c hc => ?_, by
      rw [List.length_append, List.length_singleton, ← Nat.add_assoc]
      exact hp'⟩
    · simp [alph_eq, eq, ei, ea]
    · rcases List.mem_append.mp hc with hc | hc
      · exact hw c hc
      · rw [List.mem_singleton.mp hc]
        exact List.getElem_mem _)
  rw [List.nil_append] at hl hp2
  rw [List.length_range] at hl hp2
  have el := len_S (a := ws) (by omega)
  have h1 : ((ws.length : Nat) : Int) = (k : Int) + 1 := by omega
  obtain ⟨q, p3, eq, q0, ql, hp3⟩ := draw_ok (many := (ws.length : Int)) hp2 (by omega) (by omega) (by omega)
  obtain ⟨j, rfl⟩ : ∃ j : Nat, q = j := ⟨q.toNat, by omega⟩
  have e2 := sl_to (a := ws) (k := j + 1) (by omega)
  have e3 := sl_from (a := ws) (k := j + 1) (by omega)
  have e4 := str_dig hi
  have e5 := add_S (a := ws.take (j + 1)) (b := [48 + i]) (by simp; omega)
  have e6 := add_S (a := ws.take (j + 1) ++ [48 + i]) (b := ws.drop (j + 1)) (by simp; omega)
  have ej : ((j + 1 : Nat) : Int) = 1 + (j : Int) := by omega
  rw [ej] at e2 e3
  refine ⟨S (ws.take (j + 1) ++ [48 + i] ++ ws.drop (j + 1)), p3, ?_, ?_, hp3.mono (by omega)⟩
  · have ek : (1 : Int) + k = ((k + 1 : Nat) : Int) := by omega
    have eg : forGo _ _ (numsD (List.range (k + 1))) _ _ = _ := eg
    simp only [m__law_name, b__law_name, mPn_ap]
    simp [nil_eq, e1]
    rw [ek, er]
    simp [eg, el, eq, e2, e3, e4, e5, e6]
  · obtain ⟨c, r, hr⟩ : ∃ c r, ws = c :: r := by
      cases ws with
      | nil => simp at hl
      | cons c r => exact ⟨c, r, rfl⟩
    refine name_ok (c := c) (r := r.take j ++ [48 + i] ++ ws.drop (j + 1)) (by rw [hr]; simp) (by simp; omega) (hw c (by rw [hr]; simp)) fun x hx => ?_
    rcases List.mem_append.mp hx with hx | hx
    · rcases List.mem_append.mp hx with hx | hx
      · exact .inl (hw x (List.mem_of_mem_take hx))
      · rw [List.mem_singleton.mp hx]
        exact .inr (mem_figs.mpr (by omega))
    · exact .inl (hw x (List.mem_of_mem_drop hx))
end K60
end
section
set_option Elab.async false
set_option linter.all false
set_option maxRecDepth 100000
set_option maxHeartbeats 1000000
namespace K60
open PySem PySem.Spec L2 Dn
open SX (S)
/-! ### picks, shuffles -/
theorem pick_ok {N : Nat} {p : Pen} {ds : List D} {d : D} (hd : d = .lst ds ∨ d = .tup ds) (hp : PenIs N p) (hN : N ≤ 900000000) (h0 : ds ≠ []) (h1 : ds.length ≤ 100000) : ∃ x p', m__law_pick [d] p = .ok (x, p') ∧ x ∈ ds ∧ PenIs (N + 1) p' := by
  have hl : 0 < ds.length := List.length_pos_iff.mpr h0
  obtain ⟨r, p1, e1, r0, rl, hp1⟩ := draw_ok (many := (ds.length : Int)) hp (by omega) (by omega) (by omega)
  obtain ⟨k, rfl⟩ : ∃ k : Nat, r = k := ⟨r.toNat, by omega⟩
  have hk : k < ds.length := by omega
  have ei : atI ds (k : Int) = some ds[k] := by rw [Dn.atI_nat, List.getElem?_eq_getElem hk]
  refine ⟨ds[k], p1, ?_, List.getElem_mem hk, hp1⟩
  rcases hd with rfl | rfl
  · simp [m__law_pick, b__law_pick, e1, ei]
  · simp [m__law_pick, b__law_pick, e1, ei]
theorem erase_perm {α : Type} : ∀ (l : List α) (j : Nat) (h : j < l.length), l.Perm (l[j] :: l.eraseIdx j)
  | x :: l, 0, _ => .refl _
  | x :: l, j + 1, h => by
    have ih := erase_perm l j (by simpa using h)
    exact (List.Perm.cons x ih).trans (List.Perm.swap _ _ _)
abbrev shB : KS := kAppPop 3 2 (kCallM 0 1 m__law_draw [] (kCons (kCa lenL (kOwn 2)) kNil))
theorem shuf_ok {N : Nat} {p : Pen} {ds : List D} (hp : PenIs N p) (hN : N ≤ 900000000) (h1 : ds.length ≤ 10000) : ∃ fs p', m__law_shuffled [.lst ds] p = .ok (.lst fs, p') ∧ fs.Perm ds ∧ PenIs (N + ds.length) p' := by
  have er := rg0 (n := ds.length) (by omega)
  obtain ⟨ρ', p2, eg, lf, fs, s4, rfl, hl, hpm, hp2⟩ := forGo_inv (mg := gkN 4) (b := shB) (g := fun i : Nat => D.int (i : Int)) (I := fun pre ρ p => ∃ lf fs s4, ρ = [.pen, .val (.lst ds), .own lf, .own fs, s4] ∧ fs.length = pre.length ∧ (lf ++ fs).Perm ds ∧ PenIs (N + pre.length) p) (List.range ds.length) [] [.pen, .val (.lst ds), .own ds, .own [], .no] p ⟨ds, [], .no, rfl, rfl, by simp, hp⟩ (fun pre' x post ρ p ha ⟨lf, fs, s4, hρ, hl, hpm, hp⟩ => by
    subst hρ
    have hlen : pre'.length < ds.length := by
      have := congrArg List.length ha
      simp at this
      omega
    have hll : lf.length + fs.length = ds.length := by
      have := hpm.length_eq
      simpa using this
    obtain ⟨q, p', eq, q0, ql, hp'⟩ := draw_ok (many := (lf.length : Int)) hp (by omega) (by omega) (by omega)
    obtain ⟨j, rfl⟩ : ∃ j : Nat, q = j := ⟨q.toNat, by omega⟩
    have hj : j < lf.length := by omega
    have ei : ixN lf.length (j : Int) = some j := by
      unfold ixN
      rw [if_pos (by omega), if_pos (by omega)]
      rfl
    have eg : lf[j]? = some lf[j] := List.getElem?_eq_getElem hj
    have c : (2 : Nat) ≠ 3 := by decide
    have b1 : -(9223372036854775808 : Int) ≤ j := by omega
    have b2 : (j : Int) < 9223372036854775808 := by omega
    have b3 : fs.length < 16777216 := by omega
    refine ⟨.nx, _, p', ?_, .inl rfl, lf.eraseIdx j, fs ++ [lf[j]], .val (.int x), rfl, by simp [hl], ?_, by
      rw [List.length_append, List.length_singleton, ← Nat.add_assoc]
      exact hp'⟩
    · simp [eq, ei, eg, b1, b2, b3]
    · refine List.Perm.trans ?_ hpm
      have h1 : lf.Perm (lf[j] :: lf.eraseIdx j) := erase_perm lf j hj
      refine List.Perm.trans ?_ (h1.append_right fs).symm
      rw [← List.append_assoc]
      exact (List.perm_append_comm (l₁ := lf.eraseIdx j ++ fs) (l₂ := [lf[j]])))
  have hll := hpm.length_eq
  simp only [List.length_append, List.nil_append, List.length_range] at hll hl hp2
  have : lf = [] := List.length_eq_zero_iff.mp (by omega)
  subst this
  refine ⟨fs, p2, ?_, by simpa using hpm, hp2⟩
  have eg : forGo _ _ (numsD (List.range ds.length)) _ _ = _ := eg
  simp [m__law_shuffled, b__law_shuffled, er, eg]
theorem names_ok {N m : Nat} {p : Pen} (hp : PenIs N p) (hN : N ≤ 800000000) (h1 : m ≤ 10) : ∃ (zs : List Str) (p' : Pen), m__law_names [.int m] p = .ok (.lst (zs.map D.str), p') ∧ zs.length = m ∧ (∀ z ∈ zs, NameOk z) ∧ PenIs (N + 1000) p' := by
  have er := rg0 (n := m) (by omega)
  obtain ⟨acc, p2, eg, zs, rfl, hz, hl, hp2⟩ := lcGo_inv (mg := gkN 2) (mt := kYes) (me := kCallM 0 1 m__law_name [] (kCons (kVar 2) kNil)) (ρ := [.pen, .val (.int m), .no]) (g := fun i : Nat => D.int (i : Int)) (I := fun pre acc p => ∃ zs : List Str, acc = zs.map D.str ∧ (∀ z ∈ zs, NameOk z) ∧ zs.length = pre.length ∧ PenIs (N + 20 * pre.length) p) (List.range m) [] [] p ⟨[], rfl, (fun _ h => nomatch h), rfl, hp⟩ (fun pre' x post acc p ha ⟨zs, hacc, hz, hl, hp⟩ => by
    subst hacc
    have hx : x < m := by
      have : x ∈ [] ++ List.range m := by rw [ha]; simp
      simpa using this
    have hlen : pre'.length < m := by
      have := congrArg List.length ha
      simp at this
      omega
    obtain ⟨z, p', e, hzo, hp'⟩ := name_draw (i := x) hp (by omega) (by omega)
    refine ⟨_, true, p, rfl, rfl, (fun h => by cases h), fun _ => ⟨by simp; omega, .str z, p', by simp [e], zs ++ [z], by simp, fun y hy => ?_, by simp [hl], by
      rw [List.length_append, List.length_singleton, Nat.mul_add, ← Nat.add_assoc]
      exact hp'⟩⟩
    rcases List.mem_append.mp hy with hy | hy
    · exact hz y hy
    · rw [List.mem_singleton.mp hy]
      exact hzo)
  simp only [List.nil_append, List.length_range] at hl hp2
  obtain ⟨fs, p3, e3, hf, hp3⟩ := shuf_ok (ds := zs.map D.str) hp2 (by omega) (by simp; omega)
  have eg : lcGo _ _ _ _ (numsD (List.range m)) _ _ = _ := eg
  obtain ⟨ws, hw, hwp⟩ : ∃ ws : List Str, fs = ws.map D.str ∧ ws.Perm zs := by
    have hs : ∀ x ∈ fs, ∃ z, x = D.str z := fun x hx => by
      obtain ⟨z, _, e⟩ := List.mem_map.mp (hf.mem_iff.mp hx)
      exact ⟨z, e.symm⟩
    have : fs = (fs.map fun d => match d with | .str z => z | _ => Str.empty).map D.str := by
      rw [List.map_map]
      conv => lhs; rw [← List.map_id fs]
      exact List.map_congr_left fun x hx => by
        obtain ⟨z, rfl⟩ := hs x hx
        rfl
    refine ⟨_, this, ?_⟩
    have h2 := hf.map fun d => match d with | .str z => z | _ => Str.empty
    rw [List.map_map] at h2
    rw [show ((fun d => match d with | .str z => z | _ => Str.empty) ∘ D.str) = id from rfl, List.map_id] at h2
    exact h2
  subst hw
  refine ⟨ws, p3, ?_, by rw [hwp.length_eq, hl], fun z hz' => hz z (hwp.mem_iff.mp hz'), hp3.mono (by simp; omega)⟩
  simp [m__law_names, b__law_names, er, eg, e3]
end K60
end
section
set_option Elab.async false
set_option linter.all false
set_option maxRecDepth 100000
set_option maxHeartbeats 1000000
namespace K60
open PySem PySem.Spec L2 Dn
/-! ### drawn logs -/
theorem range_at {n : Nat} {pre post : List Nat} {x : Nat} (h : [] ++ List.range n = pre ++ x :: post) : x = pre.length ∧ pre.length < n := by
  have h1 : (List.range n)[pre.length]? = some x := by
    rw [List.nil_append] at h
    rw [h]
    simp
  have h2 : pre.length < n := by
    have := congrArg List.length h
    simp at this
    omega
  rw [List.getElem?_range h2] at h1
  exact ⟨(Option.some.inj h1).symm, h2⟩
theorem pick_name {N : Nat} {p : Pen} {zs : List Str} (hp : PenIs N p) (hN : N ≤ 900000000) (h0 : zs ≠ []) (h1 : zs.length ≤ 1000) (hz : ∀ z ∈ zs, NameOk z) : ∃ s p', m__law_pick [.lst (zs.map D.str)] p = .ok (.str s, p') ∧ NameOk s ∧ PenIs (N + 1) p' := by
  obtain ⟨x, p', e, hx, hp'⟩ := pick_ok (ds := zs.map D.str) (.inl rfl) hp hN (by simpa using h0) (by simpa using (by omega : zs.length ≤ 100000))
  obtain ⟨s, hs, rfl⟩ := List.mem_map.mp hx
  exact ⟨s, p', e, hz s hs, hp'⟩
abbrev dlT : KB := kAndB (kT (kOp neD (kVar 9) (kVar 7))) (kT (kOp eqD (kCallM 0 1 m__law_draw [] (kCons (kC (.int 2)) kNil)) (kC (.int 0))))
abbrev dlE : KE := kTup (kCons (kC (.str "hear")) (kCons (kVar 9) (kCons (kVar 10) (kCons (kCallM 0 1 m__law_pick [] (kCons (kVar 2) kNil)) kNil))))
theorem draw_hears {N n a : Nat} {l : Str} {zs : List Str} {p : Pen} {s1 s3 s4 s5 s6 s8 s11 : Sl} (hp : PenIs N p) (hN : N ≤ 800000000) (hn : n ≤ 30) (h0 : zs ≠ []) (h1 : zs.length ≤ 1000) (hz : ∀ z ∈ zs, NameOk z) :
    ∃ (hs : List (Nat × Str)) (p' : Pen), lcGo (gkN 9) dlT dlE [.pen, s1, .val (.lst (zs.map D.str)), s3, s4, s5, s6, .val (.int a), s8, .no, .val (.str l), s11] (numsD (List.range n)) [] p = .ok (hs.map (hD l), p') ∧ ((hs.map (·.1)).Pairwise (· < ·) ∧ ∀ h ∈ hs, h.1 < n ∧ h.1 ≠ a ∧ NameOk h.2) ∧ PenIs (N + 2 * n) p' := by
  obtain ⟨acc, p2, eg, hs, rfl, ho, hq, hp2⟩ := lcGo_inv (mg := gkN 9) (mt := dlT) (me := dlE) (ρ := [.pen, s1, .val (.lst (zs.map D.str)), s3, s4, s5, s6, .val (.int a), s8, .no, .val (.str l), s11]) (g := fun i : Nat => D.int (i : Int))
    (I := fun pre acc p => ∃ hs : List (Nat × Str), acc = hs.map (hD l) ∧ (hs.map (·.1)).Pairwise (· < ·) ∧ (∀ h ∈ hs, h.1 < pre.length ∧ h.1 ≠ a ∧ NameOk h.2) ∧ PenIs (N + 2 * pre.length) p) (List.range n) [] [] p ⟨[], rfl, List.Pairwise.nil, (fun _ h => nomatch h), hp⟩ (fun pre' x post acc p ha ⟨hs, hacc, hpw, hq, hp⟩ => by
    subst hacc
    obtain ⟨hx, hlt⟩ := range_at ha
    have hsl : hs.length ≤ n := by
      have nd : (hs.map (·.1)).Nodup := hpw.imp fun h => Nat.ne_of_lt h
      have sub : (hs.map (·.1)) ⊆ List.range n := fun y hy => by
        obtain ⟨h, hh, rfl⟩ := List.mem_map.mp hy
        exact List.mem_range.mpr (by have := (hq h hh).1; omega)
      have := nd.length_le_of_subset sub
      simpa using this
    have l1 : (pre' ++ [x]).length = pre'.length + 1 := by simp
    by_cases hxa : x = a
    · refine ⟨_, false, p, rfl, ?_, fun _ => ⟨hs, rfl, hpw, fun h hh => ?_, hp.mono (by omega)⟩, fun h => by cases h⟩
      · simp [hxa]
      · obtain ⟨q1, q2, q3⟩ := hq h hh
        exact ⟨by omega, q2, q3⟩
    · have hxi : ¬ (x : Int) = a := by omega
      obtain ⟨r, p1, e1, r0, r2, hp1⟩ := draw_ok (many := 2) hp (by omega) (by decide) (by decide)
      by_cases hr : r = 0
      · obtain ⟨s, p2, e2, hs2, hp2⟩ := pick_name hp1 (by omega) h0 h1 hz
        refine ⟨_, true, p1, rfl, by simp [hxi, e1, hr], (fun h => by cases h), fun _ => ⟨by simp; omega, hD l (x, s), p2, by simp [e2, hD], hs ++ [(x, s)], by simp, ?_, fun h hh => ?_, hp2.mono (by omega)⟩⟩
        · rw [List.map_append]
          refine List.pairwise_append.mpr ⟨hpw, by simp, fun y hy z hz' => ?_⟩
          obtain ⟨h, hh, rfl⟩ := List.mem_map.mp hy
          have := (hq h hh).1
          simp at hz'
          omega
        · rcases List.mem_append.mp hh with hh | hh
          · obtain ⟨q1, q2, q3⟩ := hq h hh
            exact ⟨by omega, q2, q3⟩
          · rw [List.mem_singleton.mp hh]
            exact ⟨by show x < _; omega, hxa, hs2⟩
      · refine ⟨_, false, p1, rfl, by simp [hxi, e1, hr], fun _ => ⟨hs, rfl, hpw, fun h hh => ?_, hp1.mono (by omega)⟩, fun h => by cases h⟩
        obtain ⟨q1, q2, q3⟩ := hq h hh
        exact ⟨by omega, q2, q3⟩)
  simp only [List.nil_append, List.length_range] at hq hp2
  exact ⟨hs, p2, eg, ⟨ho, hq⟩, hp2⟩
abbrev dlB : KS := kSeq (kAsg (kCallM 0 1 m__law_draw [] (kCons (kVar 1) kNil)) (gkN 7)) (kIfS (kAndB (kT (kOp gtD (kVar 1) (kC (.int 1)))) (kT (kOp eqD (kCallM 0 1 m__law_draw [] (kCons (kC (.int 2)) kNil)) (kC (.int 0))))) (kSeq (kAsg (kCallM 0 1 m__law_pick [] (kCons (kFz (kLc [9] (kRng1 (kVar 1)) (gkN 9) (kT (kOp neD (kVar 9) (kVar 7))) (kVar 9))) kNil)) (gkN 8)) (kAsg (kOp addD (kVar 5) (kTup (kCons (kTup (kCons (kC (.str "meet")) (kCons (kVar 7) (kCons (kVar 8) (kCons (kCallM 0 1 m__law_pick [] (kCons (kVar 2) kNil)) (kCons (kCallM 0 1 m__law_pick [] (kCons (kVar 2) kNil)) kNil)))))) kNil))) (gkN 5))) (kSeq (kAsg (kCallM 0 1 m__law_pick [] (kCons (kVar 3) kNil)) (gkN 10)) (kSeq (kAsgF 11 (kLc [9] (kRng1 (kVar 1)) (gkN 9) dlT dlE)) (kAsg (kOp addD (kOp addD (kVar 5) (kTup (kCons (kTup (kCons (kC (.str "shout")) (kCons (kVar 7) (kCons (kVar 10) (kCons (kCallM 0 1 m__law_pick [] (kCons (kVar 2) kNil)) kNil))))) kNil))) (kCa tupL (kOwn 11))) (gkN 5)))))
theorem add_log {n : Nat} {bs : List Bk} {xs : List D} {B : Bk} (h : rows B = xs) (hl : (evs bs).length + xs.length ≤ 100000) : addD (logD n bs) (.tup xs) = some (logD n (bs ++ [B])) := by
  subst h
  unfold logD
  rw [addD_tup, if_pos (by rw [line_val, List.length_cons]; omega)]
  unfold evs
  rw [List.flatMap_append]
  simp
theorem turn_draw {N n : Nat} {bs : List Bk} {zs ts : List Str} {p : Pen} {s4 s6 s7 s8 s9 s10 s11 : Sl} (hp : PenIs N p) (hN : N ≤ 700000000) (n0 : 1 ≤ n) (hn : n ≤ 30) (hz0 : zs ≠ []) (hz1 : zs.length ≤ 1000) (hz : ∀ z ∈ zs, NameOk z) (ht0 : ts ≠ []) (ht1 : ts.length ≤ 1000) (ht : ∀ z ∈ ts, NameOk z) (hb : (evs bs).length ≤ 50000) :
    ∃ B p' t6 t7 t8 t9 t10 t11, dlB [.pen, .val (.int n), .val (.lst (zs.map D.str)), .val (.lst (ts.map D.str)), s4, .val (logD n bs), s6, s7, s8, s9, s10, s11] p = .ok (.nx, [.pen, .val (.int n), .val (.lst (zs.map D.str)), .val (.lst (ts.map D.str)), s4, .val (logD n (bs ++ [B])), t6, t7, t8, t9, t10, t11], p') ∧ BkOk n B ∧ PenIs (N + 100) p' := by
  obtain ⟨r, p1, e1, r0, rn, hp1⟩ := draw_ok (many := (n : Int)) hp (by omega) (by omega) (by omega)
  obtain ⟨a, rfl⟩ : ∃ a : Nat, r = a := ⟨r.toNat, by omega⟩
  have ha : a < n := by omega
  have er := rg0 (n := n) (by omega)
  have shout : ∀ p2, PenIs (N + 2) p2 → ∃ B p' t10 t11, (kSeq (kAsg (kCallM 0 1 m__law_pick [] (kCons (kVar 3) kNil)) (gkN 10)) (kSeq (kAsgF 11 (kLc [9] (kRng1 (kVar 1)) (gkN 9) dlT dlE)) (kAsg (kOp addD (kOp addD (kVar 5) (kTup (kCons (kTup (kCons (kC (.str "shout")) (kCons (kVar 7) (kCons (kVar 10) (kCons (kCallM 0 1 m__law_pick [] (kCons (kVar 2) kNil)) kNil))))) kNil))) (kCa tupL (kOwn 11))) (gkN 5)))) [.pen, .val (.int n), .val (.lst (zs.map D.str)), .val (.lst (ts.map D.str)), s4, .val (logD n bs), s6, .val (.int a), s8, s9, s10, s11] p2 = .ok (.nx, [.pen, .val (.int n), .val (.lst (zs.map D.str)), .val (.lst (ts.map D.str)), s4, .val (logD n (bs ++ [B])), s6, .val (.int a), s8, s9, t10, t11], p') ∧ BkOk n B ∧ PenIs (N + 100) p' := fun p2 hp2 => by
    obtain ⟨l, p3, e3, hl, hp3⟩ := pick_name hp2 (by omega) ht0 ht1 ht
    obtain ⟨hs, p4, e4, ⟨h1, h2⟩, hp4⟩ := draw_hears (n := n) (a := a) (l := l) (zs := zs) (s1 := .val (.int n)) (s3 := .val (.lst (ts.map D.str))) (s4 := s4) (s5 := .val (logD n bs)) (s6 := s6) (s8 := s8) (s11 := s11) hp3 (by omega) hn hz0 hz1 hz
    obtain ⟨s, p5, e5, hs5, hp5⟩ := pick_name hp4 (by omega) hz0 hz1 hz
    have hB : BkOk n (.shout a l s hs) := ⟨ha, hl, hs5, h1, h2⟩
    have hr := rows_len hB
    have f1 : addD (logD n bs) (.tup [.tup [.str "shout", .int a, .str l, .str s]]) = some (.tup (cD n :: (evs bs ++ [sD a l s]))) := by
      unfold logD
      rw [addD_tup, if_pos (by rw [line_val]; simp; omega)]
      rfl
    have f2 : addD (.tup (cD n :: (evs bs ++ [sD a l s]))) (.tup (hs.map (hD l))) = some (logD n (bs ++ [.shout a l s hs])) := by
      rw [addD_tup, if_pos (by rw [line_val]; simp [rows] at hr ⊢; omega)]
      unfold logD evs
      rw [List.flatMap_append]
      simp [rows]
    refine ⟨_, p5, .val (.str l), .own (hs.map (hD l)), ?_, hB, hp5.mono (by omega)⟩
    simp [e3, er, e4, e5, f1, f2]
  by_cases hn1 : 1 < n
  · have hn1' : (1 : Int) < n := by omega
    obtain ⟨q, p2, e2, q0, q2, hp2⟩ := draw_ok (many := 2) hp1 (by omega) (by decide) (by decide)
    by_cases hq : q = 0
    · have el := lcGo_pure (mg := gkN 9) (mt := kT (kOp neD (kVar 9) (kVar 7))) (me := kVar 9) (ρ := [.pen, .val (.int n), .val (.lst (zs.map D.str)), .val (.lst (ts.map D.str)), s4, .val (logD n bs), s6, .val (.int a), s8, .no, s10, s11]) (p := p2) (g := fun i : Nat => D.int (i : Int)) (h := fun i : Nat => D.int (i : Int)) (keep := fun i => !decide (i = a)) (List.range n) [] (fun i hi => by
        refine ⟨?_, fun _ => by simp⟩
        by_cases e : i = a
        · simp [e]
        · have e' : ¬ (i : Int) = a := by omega
          simp [e, e']) (by simp; omega)
      rw [List.nil_append] at el
      have el : lcGo _ _ _ _ (numsD (List.range n)) [] p2 = .ok (numsD ((List.range n).filter fun i => !decide (i = a)), p2) := el
      have ne : (List.range n).filter (fun i => !decide (i = a)) ≠ [] := fun z => by
        have := List.filter_eq_nil_iff.mp z (if a = 0 then 1 else 0) (List.mem_range.mpr (by split <;> omega))
        by_cases h0 : a = 0
        · rw [if_pos h0] at this
          simp [h0] at this
        · rw [if_neg h0] at this
          simp at this
          omega
      obtain ⟨x, p3, e3, hx, hp3⟩ := pick_ok (ds := numsD ((List.range n).filter fun i => !decide (i = a))) (.inl rfl) hp2 (by omega) (by unfold numsD; simpa using ne) (by
        have := List.length_filter_le (fun i => !decide (i = a)) (List.range n)
        simp at this ⊢
        omega)
      obtain ⟨b, hb', rfl⟩ := List.mem_map.mp hx
      obtain ⟨hb1, hb2⟩ := List.mem_filter.mp hb'
      have hb1 := List.mem_range.mp hb1
      have hb2 : ¬ b = a := by simpa using hb2
      obtain ⟨s, p4, e4, hs4, hp4⟩ := pick_name hp3 (by omega) hz0 hz1 hz
      obtain ⟨t, p5, e5, ht5, hp5⟩ := pick_name hp4 (by omega) hz0 hz1 hz
      have hB : BkOk n (.meet a b s t) := ⟨ha, hb1, fun e => hb2 e.symm, hs4, ht5⟩
      have f := add_log (n := n) (bs := bs) (xs := [.tup [.str "meet", .int a, .int b, .str s, .str t]]) (B := .meet a b s t) rfl (by simp; omega)
      refine ⟨_, p5, s6, .val (.int a), .val (.int b), s9, s10, s11, ?_, hB, hp5.mono (by omega)⟩
      simp [e1, hn1', e2, hq, er, el, e3, e4, e5, f]
    · obtain ⟨B, p', t10, t11, e, hB, hp'⟩ := shout p2 hp2
      refine ⟨B, p', s6, .val (.int a), s8, s9, t10, t11, ?_, hB, hp'⟩
      unfold dlB
      rw [kSeq_ap, kAsg_ap]
      have e1' : kCallM 0 1 m__law_draw [] (kCons (kVar 1) kNil) [.pen, .val (.int n), .val (.lst (zs.map D.str)), .val (.lst (ts.map D.str)), s4, .val (logD n bs), s6, s7, s8, s9, s10, s11] p = .ok (.int a, p1) := by simp [e1]
      simp only [e1', ok_bind, gkN_ap, unx_ok, pure_R]
      rw [kIfS_ap]
      have e2' : (kAndB (kT (kOp gtD (kVar 1) (kC (.int 1)))) (kT (kOp eqD (kCallM 0 1 m__law_draw [] (kCons (kC (.int 2)) kNil)) (kC (.int 0))))) [.pen, .val (.int n), .val (.lst (zs.map D.str)), .val (.lst (ts.map D.str)), s4, .val (logD n bs), s6, .val (.int a), s8, s9, s10, s11] p1 = .ok (false, p2) := by simp [hn1', e2, hq]
      show (kAndB _ _ [.pen, .val (.int n), .val (.lst (zs.map D.str)), .val (.lst (ts.map D.str)), s4, .val (logD n bs), s6, .val (.int a), s8, s9, s10, s11] p1 >>= _) = _
      rw [e2']
      exact e
  · have hn1' : ¬ (1 : Int) < n := by omega
    obtain ⟨B, p', t10, t11, e, hB, hp'⟩ := shout p1 (hp1.mono (by omega))
    refine ⟨B, p', s6, .val (.int a), s8, s9, t10, t11, ?_, hB, hp'⟩
    unfold dlB
    rw [kSeq_ap, kAsg_ap]
    have e1' : kCallM 0 1 m__law_draw [] (kCons (kVar 1) kNil) [.pen, .val (.int n), .val (.lst (zs.map D.str)), .val (.lst (ts.map D.str)), s4, .val (logD n bs), s6, s7, s8, s9, s10, s11] p = .ok (.int a, p1) := by simp [e1]
    simp only [e1', ok_bind, gkN_ap, unx_ok, pure_R]
    rw [kIfS_ap]
    have e2' : (kAndB (kT (kOp gtD (kVar 1) (kC (.int 1)))) (kT (kOp eqD (kCallM 0 1 m__law_draw [] (kCons (kC (.int 2)) kNil)) (kC (.int 0))))) [.pen, .val (.int n), .val (.lst (zs.map D.str)), .val (.lst (ts.map D.str)), s4, .val (logD n bs), s6, .val (.int a), s8, s9, s10, s11] p1 = .ok (false, p1) := by simp [hn1']
    show (kAndB _ _ [.pen, .val (.int n), .val (.lst (zs.map D.str)), .val (.lst (ts.map D.str)), s4, .val (logD n bs), s6, .val (.int a), s8, s9, s10, s11] p1 >>= _) = _
    rw [e2']
    exact e
theorem log_draw {N n k : Nat} {zs ts : List Str} {p : Pen} (hp : PenIs N p) (hN : N ≤ 600000000) (n0 : 1 ≤ n) (hn : n ≤ 30) (k0 : 1 ≤ k) (hk : k ≤ 10) (hz0 : zs ≠ []) (hz1 : zs.length ≤ 1000) (hz : ∀ z ∈ zs, NameOk z) (ht0 : ts ≠ []) (ht1 : ts.length ≤ 1000) (ht : ∀ z ∈ ts, NameOk z) :
    ∃ bs p', m__law_drawn_log [.int n, .lst (zs.map D.str), .lst (ts.map D.str), .int k] p = .ok (logD n bs, p') ∧ LogOk n bs ∧ bs.length ≤ k ∧ PenIs (N + 2000) p' := by
  obtain ⟨r, p1, e1, r0, rk, hp1⟩ := draw_ok (many := (k : Int)) hp (by omega) (by omega) (by omega)
  obtain ⟨j, rfl⟩ : ∃ j : Nat, r = j := ⟨r.toNat, by omega⟩
  have er := rg0 (n := j + 1) (by omega)
  obtain ⟨ρ', p2, eg, bs, s6, s7, s8, s9, s10, s11, rfl, hb, hl, hp2⟩ := forGo_inv (mg := gkN 6) (b := dlB) (g := fun i : Nat => D.int (i : Int)) (I := fun pre ρ p => ∃ bs s6 s7 s8 s9 s10 s11, ρ = [.pen, .val (.int n), .val (.lst (zs.map D.str)), .val (.lst (ts.map D.str)), .val (.int k), .val (logD n bs), s6, s7, s8, s9, s10, s11] ∧ (∀ b ∈ bs, BkOk n b) ∧ bs.length = pre.length ∧ PenIs (N + 1 + 100 * pre.length) p) (List.range (j + 1)) [] [.pen, .val (.int n), .val (.lst (zs.map D.str)), .val (.lst (ts.map D.str)), .val (.int k), .val (logD n []), .no, .no, .no, .no, .no, .no] p1 ⟨[], .no, .no, .no, .no, .no, .no, rfl, (fun _ h => nomatch h), rfl, hp1⟩ (fun pre' x post ρ p ha ⟨bs, s6, s7, s8, s9, s10, s11, hρ, hb, hl, hp⟩ => by
    subst hρ
    obtain ⟨hx, hlt⟩ := range_at ha
    have hev := evs_len hb
    have : bs.length * (n + 1) ≤ 10 * 31 := Nat.mul_le_mul (by omega) (by omega)
    obtain ⟨B, p', t6, t7, t8, t9, t10, t11, e, hB, hp'⟩ := turn_draw (s4 := .val (.int k)) (s6 := .val (.int x)) (s7 := s7) (s8 := s8) (s9 := s9) (s10 := s10) (s11 := s11) (bs := bs) hp (by omega) n0 hn hz0 hz1 hz ht0 ht1 ht (by omega)
    refine ⟨.nx, _, p', e, .inl rfl, bs ++ [B], t6, t7, t8, t9, t10, t11, rfl, fun b hb' => ?_, by simp [hl], hp'.mono (by rw [List.length_append, List.length_singleton]; omega)⟩
    rcases List.mem_append.mp hb' with hb' | hb'
    · exact hb b hb'
    · rw [List.mem_singleton.mp hb']
      exact hB)
  simp only [List.nil_append, List.length_range] at hl hp2
  have ek : (1 : Int) + j = ((j + 1 : Nat) : Int) := by omega
  have eg : forGo _ _ (numsD (List.range (j + 1))) _ _ = _ := eg
  have eL : D.tup [.tup [.str (Str.ofString "crowd"), .int n]] = logD n [] := rfl
  refine ⟨bs, p2, ?_, ⟨n0, hn, fun e => ?_, hb, by omega⟩, by omega, hp2.mono (by omega)⟩
  · simp [m__law_drawn_log, b__law_drawn_log, e1]
    rw [ek, er, eL]
    simp only [ofO_some, ok_bind]
    rw [eg]
    rfl
  · rw [e] at hl
    simp at hl
end K60
end
section
set_option Elab.async false
set_option linter.all false
set_option maxRecDepth 100000
set_option maxHeartbeats 1000000
namespace K60
open PySem PySem.Spec L2 Dn
open SX (S)
/-! ### what repr shows -/
structure Shw (B : Nat) (d : D) : Prop where
  sh : (pd d).showable = true
  ok : PyData.strOk (pd d).shown = true
  len : (pd d).shown.length ≤ B
theorem len_app (a b : Str) : (a ++ b).length = a.length + b.length := strLen_append a b
theorem ok_app {a b : Str} (h : PyData.strOk a = true) (k : PyData.strOk b = true) : PyData.strOk (a ++ b) = true := by
  unfold PyData.strOk at h k ⊢
  show ((a.cps ++ b.cps).all _) = true
  rw [Array.all_append, h, k]
  rfl
theorem shw_nat : ∀ i : Nat, i < 64 → Shw 2 (.int i) := fun i hi => by
  have h : (List.range 64).all (fun i : Nat => decide ((i : Int).natAbs.log2 < 1920) && (PyData.strOk (toString (i : Int) : String) && decide ((Str.ofString (toString (i : Int))).length ≤ 2))) = true := by decide +kernel
  have h := List.all_eq_true.mp h i (List.mem_range.mpr hi)
  simp only [Bool.and_eq_true, decide_eq_true_eq] at h
  obtain ⟨h1, h2, h3⟩ := h
  refine ⟨?_, ?_, ?_⟩
  · simp only [pd, PyData.showable]
    exact decide_eq_true h1
  · simp only [pd, PyData.shown]
    exact h2
  · simp only [pd, PyData.shown]
    exact h3
theorem shw_non : Shw 4 .non := ⟨by simp [pd, PyData.showable], by simp only [pd, PyData.shown]; decide +kernel, by simp only [pd, PyData.shown]; decide +kernel⟩
theorem shw_bl (b : Bool) : Shw 5 (.bl b) := by
  cases b <;> exact ⟨by simp [pd, PyData.showable], by simp only [pd, PyData.shown]; decide +kernel, by simp only [pd, PyData.shown]; decide +kernel⟩
theorem rc_al : ∀ c, (97 ≤ c ∧ c < 123) ∨ (48 ≤ c ∧ c < 58) → Builtin.Str.reprChar 39 c = [c] := fun c hc => by
  have h : (List.range 128).all (fun c => !decide ((97 ≤ c ∧ c < 123) ∨ (48 ≤ c ∧ c < 58)) || decide (Builtin.Str.reprChar 39 c = [c])) = true := by decide +kernel
  have h := List.all_eq_true.mp h c (List.mem_range.mpr (by omega))
  rw [decide_eq_true hc] at h
  simpa using h
theorem fold_al : ∀ (l : List Nat) (acc : Array Nat), (∀ c ∈ l, (97 ≤ c ∧ c < 123) ∨ (48 ≤ c ∧ c < 58)) → l.foldl (fun out c => out ++ (Builtin.Str.reprChar 39 c).toArray) acc = acc ++ l.toArray
  | [], acc, _ => by simp
  | c :: l, acc, h => by
    rw [List.foldl_cons, rc_al c (h c List.mem_cons_self), fold_al l _ fun x hx => h x (List.mem_cons_of_mem _ hx)]
    simp
theorem rt_al {z : Str} (h : ∀ c ∈ z.cps.toList, (97 ≤ c ∧ c < 123) ∨ (48 ≤ c ∧ c < 58)) : reprText z = S (39 :: z.cps.toList ++ [39]) := by
  have q : reprQuote z = 39 := by
    unfold reprQuote
    have : z.cps.contains 39 = false := by
      rw [Bool.eq_false_iff]
      intro e
      have e : 39 ∈ z.cps.toList := by simpa using e
      have := h 39 e
      omega
    rw [this]
    rfl
  unfold reprText
  rw [q]
  congr 1
  rw [← Array.foldl_toList, fold_al _ _ h]
  apply Array.ext'
  simp
theorem shw_al {z : Str} (h : ∀ c ∈ z.cps.toList, (97 ≤ c ∧ c < 123) ∨ (48 ≤ c ∧ c < 58)) (hl : z.length ≤ 12) : Shw 14 (.str z) := by
  refine ⟨by simp [pd, PyData.showable], ?_, ?_⟩
  · simp only [pd, PyData.shown]
    rw [rt_al h]
    show ((S (39 :: z.cps.toList ++ [39])).cps.all fun x => decide (x < 0x110000)) = true
    rw [Array.all_eq_true']
    intro x hx
    have hx : x = 39 ∨ x ∈ z.cps.toList := by
      simp at hx ⊢
      rcases hx with h | h | h
      · exact .inl h
      · exact .inr h
      · exact .inl h
    rcases hx with rfl | hx
    · rfl
    · have := h x hx
      simp
      omega
  · simp only [pd, PyData.shown]
    rw [rt_al h, SX.S_len]
    have : z.cps.toList.length = z.length := by simp [Str.length]
    simp only [List.length_append, List.length_cons, List.length_nil]
    omega
theorem join_shw {B : Nat} : ∀ (ts : List Str), (∀ t ∈ ts, PyData.strOk t = true ∧ t.length ≤ B) → PyData.strOk (Str.join ", " ts) = true ∧ (Str.join ", " ts).length ≤ ts.length * (B + 2)
  | [], _ => ⟨by decide +kernel, by show 0 ≤ _; omega⟩
  | [x], h => by
    obtain ⟨h1, h2⟩ := h x List.mem_cons_self
    refine ⟨h1, ?_⟩
    show x.length ≤ 1 * (B + 2)
    omega
  | x :: y :: r, h => by
    obtain ⟨h1, h2⟩ := h x List.mem_cons_self
    obtain ⟨h3, h4⟩ := join_shw (y :: r) fun t ht => h t (List.mem_cons_of_mem _ ht)
    show PyData.strOk (x ++ ", " ++ Str.join ", " (y :: r)) = true ∧ (x ++ ", " ++ Str.join ", " (y :: r)).length ≤ _
    refine ⟨ok_app (ok_app h1 (by decide +kernel)) h3, ?_⟩
    rw [len_app, len_app]
    have e2 : ((", " : String) : Str).length = 2 := by decide +kernel
    rw [e2, List.length_cons, Nat.succ_mul]
    omega
theorem from_shw {B : Nat} : ∀ (ts : List Str) (k : Nat) (acc : Str), PyData.strOk acc = true → (∀ t ∈ ts, PyData.strOk t = true ∧ t.length ≤ B) → PyData.strOk (textFrom k acc ts) = true ∧ (textFrom k acc ts).length ≤ acc.length + ts.length * (B + 2)
  | [], k, acc, ha, _ => ⟨ha, by show acc.length ≤ _; omega⟩
  | t :: ts, k, acc, ha, h => by
    obtain ⟨h1, h2⟩ := h t List.mem_cons_self
    have hs : PyData.strOk ((if k > 0 then ", " else "" : String) : Str) = true ∧ ((if k > 0 then ", " else "" : String) : Str).length ≤ 2 := by
      by_cases hk : k > 0
      · rw [if_pos hk]
        exact ⟨by decide +kernel, by decide +kernel⟩
      · rw [if_neg hk]
        exact ⟨by decide +kernel, by decide +kernel⟩
    obtain ⟨h3, h4⟩ := from_shw ts (k + 1) (acc ++ (if k > 0 then ", " else "" : String) ++ t) (ok_app (ok_app ha hs.1) h1) fun t ht => h t (List.mem_cons_of_mem _ ht)
    refine ⟨h3, Nat.le_trans h4 ?_⟩
    rw [len_app, len_app, List.length_cons, Nat.succ_mul]
    have := hs.2
    omega
theorem shownAll_eq : ∀ ds : List D, PyData.shownAll (pds ds) = ds.map fun d => (pd d).shown
  | [] => by simp [pds, PyData.shownAll]
  | d :: ds => by simp [pds, PyData.shownAll, shownAll_eq ds]
theorem showableAll_eq : ∀ {ds : List D}, (∀ d ∈ ds, (pd d).showable = true) → PyData.showableAll (pds ds) = true
  | [], _ => by simp [pds, PyData.showableAll]
  | d :: ds, h => by
    simp only [pds, PyData.showableAll, Bool.and_eq_true]
    exact ⟨h d List.mem_cons_self, showableAll_eq fun x hx => h x (List.mem_cons_of_mem _ hx)⟩
theorem shw_tup {B : Nat} {ds : List D} (h : ∀ d ∈ ds, Shw B d) : Shw (ds.length * (B + 2) + 3) (.tup ds) := by
  obtain ⟨h1, h2⟩ := join_shw (B := B) (ds.map fun d => (pd d).shown) fun t ht => by
    obtain ⟨d, hd, rfl⟩ := List.mem_map.mp ht
    exact ⟨(h d hd).ok, (h d hd).len⟩
  rw [List.length_map] at h2
  have hs : ∀ b : Bool, PyData.strOk ((if b then ",)" else ")" : String) : Str) = true ∧ ((if b then ",)" else ")" : String) : Str).length ≤ 2 := fun b => by cases b <;> exact ⟨by decide +kernel, by decide +kernel⟩
  have hb := hs ((ds.map fun d => (pd d).shown).length == 1)
  refine ⟨?_, ?_, ?_⟩
  · simp only [pd, PyData.showable]
    exact showableAll_eq fun d hd => (h d hd).sh
  · simp only [pd, PyData.shown, shownAll_eq]
    unfold tupleText
    exact ok_app (ok_app (by decide +kernel) h1) hb.1
  · simp only [pd, PyData.shown, shownAll_eq]
    unfold tupleText
    rw [len_app, len_app]
    have e : (("(" : String) : Str).length = 1 := by decide +kernel
    have := hb.2
    omega
theorem shw_lst {B : Nat} {ds : List D} (h : ∀ d ∈ ds, Shw B d) : Shw (ds.length * (B + 2) + 3) (.lst ds) := by
  obtain ⟨h1, h2⟩ := from_shw (B := B) (ds.map fun d => (pd d).shown) 0 "[" (by decide +kernel) fun t ht => by
    obtain ⟨d, hd, rfl⟩ := List.mem_map.mp ht
    exact ⟨(h d hd).ok, (h d hd).len⟩
  rw [List.length_map] at h2
  have e : (("[" : String) : Str).length = 1 := by decide +kernel
  have e2 : (("]" : String) : Str).length = 1 := by decide +kernel
  refine ⟨?_, ?_, ?_⟩
  · simp only [pd, PyData.showable]
    exact showableAll_eq fun d hd => (h d hd).sh
  · simp only [pd, PyData.shown, shownAll_eq]
    unfold listText
    exact ok_app h1 (by decide +kernel)
  · simp only [pd, PyData.shown, shownAll_eq]
    unfold listText
    rw [len_app, e2]
    omega
theorem Shw.mono {B C : Nat} {d : D} (h : Shw B d) (k : B ≤ C) : Shw C d := ⟨h.sh, h.ok, Nat.le_trans h.len k⟩
/-- its repr is a text -/
theorem repr_seq {B : Nat} {k : Nat} {d : D} (h : Shw B d) (hB : B ≤ 1000000) (hd : seqLike d = true) (hn : Nice k d) (hk : k ≤ 64) : ∃ z, reprD1 d = some z ∧ PyData.strOk z = true := by
  refine ⟨(pd d).shown, ?_, h.ok⟩
  have hno := PyData.hasDict_of_canLay (pd d) hn.lay.1
  have so : showOk d = true := by
    unfold showOk
    rw [hn.fit hk, h.sh, hno, decide_eq_true (by rw [line_val]; have := h.len; omega)]
    rfl
  cases d with
  | tup ds => exact if_pos ⟨rfl, so⟩
  | lst ds => exact if_pos ⟨rfl, so⟩
  | _ => cases hd
theorem repr_nat {i : Nat} (hi : i < 64) : ∃ z, reprD1 (.int i) = some z ∧ PyData.strOk z = true := by
  have h := shw_nat i hi
  have h1 := h.sh
  simp only [pd, PyData.showable, decide_eq_true_eq] at h1
  refine ⟨Str.ofString (toString (i : Int)), if_pos h1, ?_⟩
  have h2 := h.ok
  simp only [pd, PyData.shown] at h2
  exact h2
theorem repr_non : ∃ z, reprD1 .non = some z ∧ PyData.strOk z = true := ⟨"None", rfl, by decide +kernel⟩
/-- what `_law_why` tells of a BadRow -/
theorem why_row {m : KE} {ρ : List Sl} {cs : List Int} {a d c f : Int} {i : Nat} {bad : D} {w z : Str} (hi : ρ[i]? = some .pen) (hm : m (plainSs ρ) pen0 = .error (.exn 0 [bad, .str w])) (hz : reprD1 bad = some z) : kWhy whyC i m ρ (.pn cs a d c f) = .ok (.tup [.str "row", .str w, .str z], .pn cs a d c f) := by
  unfold kWhy
  rw [hi]
  simp only [hm]
  have h1 : wcOf whyC 0 = some ⟨0, ["row", "what"], "row", [.fld "what", .rep "row"]⟩ := by
    unfold whyC
    simp only [wcOf]
    rfl
  rw [h1]
  have e1 : ((Str.ofString "what") = Str.ofString "row") = False := eq_false (by decide)
  simp [wfs, wf1, e1, hz]
end K60
end
section
set_option Elab.async false
set_option linter.all false
set_option maxRecDepth 100000
set_option maxHeartbeats 1000000
namespace K60
open PySem PySem.Spec L2 Dn
/-! ### the law, statement by statement -/
abbrev a1 : KS := (kPar 3 4 (kXV (kCallM 1 1 m__law_names [] (kCons (kC (.int 4)) kNil))) (kXV (kCallM 1 1 m__law_names [] (kCons (kC (.int 2)) kNil))))
abbrev a2 : KS := (kAsg (kCallM 1 4 m__law_drawn_log [] (kCons (kOp addD (kC (.int 2)) (kCallM 1 1 m__law_draw [] (kCons (kC (.int 5)) kNil))) (kCons (kVar 3) (kCons (kVar 4) (kCons (kC (.int 6)) kNil))))) (gkN 5))
abbrev a3 : KS := (kAsg (kTup (kCons (kOp ixD (kVar 3) (kC (.int 0))) (kCons (kOp ixD (kOp ixD (kVar 5) (kC (.int 0))) (kC (.int 1))) kNil))) (gkTup 2 (gkCons (gkN 6) (gkCons (gkN 7) gkNil))))
abbrev a4 : KS := (kParT 8 9 (kXC (kL (kCallM 1 1 m__law_shuffled [] (kCons (kFz (kLstR (kRng1 (kVar 7)))) kNil)))) (kXC (kL (kCallM 1 1 m__law_shuffled [] (kCons (kFz (kLstR (kRng1 (kVar 7)))) kNil)))))
abbrev a5 : KS := (kAsg (kCall 2 m__law_in_numbers [] (kCons (kVar 5) (kCons (kVar 8) kNil))) (gkN 10))
abbrev a6 : KS := (kAsg (kTup (kCons (kCall 2 m_renumbered_log [] (kCons (kVar 5) (kCons (kVar 8) kNil))) (kCons (kCallM 1 1 m__law_draw [] (kCons (kCa lenD (kCons (kVar 10) kNil)) kNil)) kNil))) (gkTup 2 (gkCons (gkN 11) (gkCons (gkN 12) gkNil))))
abbrev a7 : KS := (kIfS (kOrB (kT (kOp neD (kCa lenD (kCons (kVar 11) kNil)) (kCa lenD (kCons (kVar 10) kNil)))) (kOrB (kNotB (kT (kCall 2 m__law_same [] (kCons (kOp ixD (kVar 11) (kVar 12)) (kCons (kOp ixD (kVar 10) (kVar 12)) kNil))))) (kOrB (kNotB (kT (kCall 2 m__law_same [] (kCons (kVar 11) (kCons (kVar 10) kNil))))) (kT (kOp isNotD (kCall 1 m_is_log [] (kCons (kVar 11) kNil)) (kC (.bl true))))))) (kRet (kC (.bl false))) kNext)
abbrev a8 : KS := (kAsgX 13 (kXC (kLc [14] (kRng1 (kVar 7)) (gkN 14) kYes (kOp ixD (kVar 9) (kOp ixD (kVar 8) (kVar 14))))))
abbrev a9 : KS := (kAsgX 15 (kXC (kLc [14] (kRng1 (kVar 7)) (gkN 14) kYes (kCix 8 (kVar 14)))))
abbrev a10 : KS := (kIfS (kOrB (kT (kOp neD (kCall 2 m_renumbered_log [] (kCons (kVar 11) (kCons (kVar 9) kNil))) (kCall 2 m_renumbered_log [] (kCons (kVar 5) (kCons (kVar 13) kNil))))) (kOrB (kT (kOp neD (kCall 2 m_renumbered_log [] (kCons (kVar 11) (kCons (kVar 15) kNil))) (kVar 5))) (kT (kOp neD (kCall 2 m_renumbered_log [] (kCons (kVar 5) (kCons (kTupR (kRng1 (kVar 7))) kNil))) (kVar 5))))) (kRet (kC (.bl false))) kNext)
abbrev a11 : KS := (kIfS (kOrB (kT (kOp neD (kCall 1 m_stops_of [] (kCons (kVar 11) kNil)) (kCall 1 m_stops_of [] (kCons (kVar 5) kNil)))) (kT (kOp neD (kCall 2 m_counts_along [] (kCons (kVar 6) (kCons (kVar 11) kNil))) (kCall 2 m_counts_along [] (kCons (kVar 6) (kCons (kVar 5) kNil)))))) (kRet (kC (.bl false))) kNext)
abbrev a12 : KS := (kIfS (kT (kOp neD (kFz (kLc [14] (kRng1 (kVar 7)) (gkN 14) (kT (kOp neD (kOp ixD (kCall 2 m_states_behind [] (kCons (kVar 6) (kCons (kVar 11) kNil))) (kOp ixD (kVar 8) (kVar 14))) (kOp ixD (kCall 2 m_states_behind [] (kCons (kVar 6) (kCons (kVar 5) kNil))) (kVar 14)))) (kVar 14))) (kFz (kLst kNil)))) (kRet (kC (.bl false))) kNext)
abbrev a13 : KS := (kIfS (kT (kOp neD (kCall 1 m_quiet_hands [] (kCons (kVar 11) kNil)) (kCa tupL (kCaL sortL (kLc [14] (kSeqI (kCall 1 m_quiet_hands [] (kCons (kVar 5) kNil))) (gkN 14) kYes (kOp ixD (kVar 8) (kVar 14))))))) (kRet (kC (.bl false))) kNext)
abbrev a14 : KS := (kFor (kEnum (kVar 5)) (gkTup 2 (gkCons (gkN 16) (gkCons (gkN 17) gkNil))) (kIfS (kAndB (kT (kOp eqD (kOp ixD (kVar 17) (kC (.int 0))) (kC (.str "shout")))) (kT (kOp neD (kCall 2 m_heard_of [] (kCons (kVar 11) (kCons (kVar 16) kNil))) (kCa tupL (kCaL sortL (kLc [14] (kSeqI (kCall 2 m_heard_of [] (kCons (kVar 5) (kCons (kVar 16) kNil)))) (gkN 14) kYes (kOp ixD (kVar 8) (kVar 14)))))))) (kRet (kC (.bl false))) kNext))
abbrev a15 : KS := (kFor (kRng1 (kVar 7)) (gkN 14) (kIfS (kT (kOp neD (kFz (kLc [18, 19] (kSeqI (kCall 3 m_way_of [] (kCons (kVar 6) (kCons (kVar 11) (kCons (kOp ixD (kVar 8) (kVar 14)) kNil))))) (gkTup 2 (gkCons (gkN 18) (gkCons (gkN 19) gkNil))) kYes (kVar 19))) (kFz (kLc [18, 19] (kSeqI (kCall 3 m_way_of [] (kCons (kVar 6) (kCons (kVar 5) (kCons (kVar 14) kNil))))) (gkTup 2 (gkCons (gkN 18) (gkCons (gkN 19) gkNil))) kYes (kVar 19))))) (kRet (kC (.bl false))) kNext))
abbrev a16 : KS := (kAsg (kOp addD (kTup (kCons (kTup (kCons (kC (.str "crowd")) (kCons (kOp addD (kVar 7) (kC (.int 1))) kNil))) kNil)) (kSl (kVar 5) (kPart (kC (.int 1))) kNone)) (gkN 20))
abbrev a17 : KS := (kIfS (kOrB (kT (kOp neD (kCall 1 m_quiet_hands [] (kCons (kVar 20) kNil)) (kOp addD (kCall 1 m_quiet_hands [] (kCons (kVar 5) kNil)) (kTup (kCons (kVar 7) kNil))))) (kOrB (kT (kOp neD (kCall 2 m_counts_behind [] (kCons (kVar 6) (kCons (kVar 20) kNil))) (kCall 2 m__law_sum [] (kCons (kCall 2 m_counts_behind [] (kCons (kVar 6) (kCons (kVar 5) kNil))) (kCons (kTup (kCons (kTup (kCons (kVar 6) (kCons (kC (.int 1)) kNil))) kNil)) kNil))))) (kT (kOp neD (kCall 1 m_stops_of [] (kCons (kVar 20) kNil)) (kCall 1 m_stops_of [] (kCons (kVar 5) kNil)))))) (kRet (kC (.bl false))) kNext)
abbrev a18 : KS := (kIfS (kOrB (kT (kOp neD (kFz (kLc [14] (kRng1 (kVar 7)) (gkN 14) (kT (kOp neD (kCall 3 m_way_of [] (kCons (kVar 6) (kCons (kVar 20) (kCons (kVar 14) kNil)))) (kCall 3 m_way_of [] (kCons (kVar 6) (kCons (kVar 5) (kCons (kVar 14) kNil)))))) (kVar 14))) (kFz (kLst kNil)))) (kT (kOp neD (kCall 3 m_way_of [] (kCons (kVar 6) (kCons (kVar 20) (kCons (kVar 7) kNil)))) (kTup (kCons (kTup (kCons (kC (.int 1)) (kCons (kVar 6) kNil))) kNil))))) (kRet (kC (.bl false))) kNext)
abbrev a19 : KS := (kAsg (kCallM 1 4 m__law_drawn_log [] (kCons (kOp addD (kC (.int 1)) (kCallM 1 1 m__law_draw [] (kCons (kC (.int 4)) kNil))) (kCons (kVar 3) (kCons (kVar 4) (kCons (kC (.int 4)) kNil))))) (gkN 21))
abbrev a20 : KS := (kAsg (kCall 2 m__law_beside [] (kCons (kVar 5) (kCons (kVar 21) kNil))) (gkN 22))
abbrev a21 : KS := (kIfS (kOrB (kT (kOp isNotD (kCall 1 m_is_log [] (kCons (kVar 22) kNil)) (kC (.bl true)))) (kNotB (kT (kCall 2 m__law_same [] (kCons (kCall 2 m_counts_behind [] (kCons (kVar 6) (kCons (kVar 22) kNil))) (kCons (kCall 2 m__law_sum [] (kCons (kCall 2 m_counts_behind [] (kCons (kVar 6) (kCons (kVar 5) kNil))) (kCons (kCall 2 m_counts_behind [] (kCons (kVar 6) (kCons (kVar 21) kNil))) kNil))) kNil)))))) (kRet (kC (.bl false))) kNext)
abbrev a22 : KS := (kIfS (kOrB (kT (kOp neD (kCall 2 m_states_behind [] (kCons (kVar 6) (kCons (kVar 22) kNil))) (kOp addD (kCall 2 m_states_behind [] (kCons (kVar 6) (kCons (kVar 5) kNil))) (kCall 2 m_states_behind [] (kCons (kVar 6) (kCons (kVar 21) kNil)))))) (kT (kOp neD (kCall 1 m_quiet_hands [] (kCons (kVar 22) kNil)) (kOp addD (kCall 1 m_quiet_hands [] (kCons (kVar 5) kNil)) (kCa tupL (kLc [14] (kSeqI (kCall 1 m_quiet_hands [] (kCons (kVar 21) kNil))) (gkN 14) kYes (kOp addD (kVar 14) (kVar 7)))))))) (kRet (kC (.bl false))) kNext)
abbrev a23 : KS := (kIfS (kT (kOp neD (kCa lenD (kCons (kCall 1 m_stops_of [] (kCons (kVar 22) kNil)) kNil)) (kOp subD (kOp addD (kCa lenD (kCons (kCall 1 m_stops_of [] (kCons (kVar 5) kNil)) kNil)) (kCa lenD (kCons (kCall 1 m_stops_of [] (kCons (kVar 21) kNil)) kNil))) (kC (.int 1))))) (kRet (kC (.bl false))) kNext)
abbrev a24 : KS := (kFor (kSeqI (kFz (kLst (kCons (kC .non) (kCons (kC (.int 5)) (kCons (kSl (kVar 8) kNone (kPart (kUn negD (kC (.int 1))))) (kCons (kOp addD (kVar 8) (kTup (kCons (kVar 7) kNil))) (kCons (kOp repT (kTup (kCons (kC (.int 0)) kNil)) (kVar 7)) (kCons (kFz (kCaL lstD (kCons (kVar 8) kNil))) (kCons (kIf (kT (kOp eqD (kOp ixD (kVar 8) (kC (.int 0))) (kC (.int 1)))) (kOp addD (kTup (kCons (kC (.bl true)) kNil)) (kSl (kVar 8) (kPart (kC (.int 1))) kNone)) (kOp addD (kTup (kCons (kC .non) kNil)) (kSl (kVar 8) (kPart (kC (.int 1))) kNone))) kNil)))))))))) (gkN 23) (kIfS (kT (kOp neD (kWhy whyC 1 (kCall 2 m_renumbered_log [] (kCons (kVar 5) (kCons (kVar 23) kNil)))) (kTup (kCons (kC (.str "row")) (kCons (kC (.str "order")) (kCons (kCa reprD (kCons (kVar 23) kNil)) kNil)))))) (kRet (kC (.bl false))) kNext))
abbrev a25 : KS := (kIfS (kT (kOp neD (kWhy whyC 1 (kCall 2 m_renumbered_log [] (kCons (kSl (kVar 5) (kPart (kC (.int 1))) kNone) (kCons (kC .non) kNil)))) (kTup (kCons (kC (.str "row")) (kCons (kC (.str "log")) (kCons (kCa reprD (kCons (kSl (kVar 5) (kPart (kC (.int 1))) kNone) kNil)) kNil)))))) (kRet (kC (.bl false))) kNext)
abbrev lapB : KS := (kSeq a1 (kSeq a2 (kSeq a3 (kSeq a4 (kSeq a5 (kSeq a6 (kSeq a7 (kSeq a8 (kSeq a9 (kSeq a10 (kSeq a11 (kSeq a12 (kSeq a13 (kSeq a14 (kSeq a15 (kSeq a16 (kSeq a17 (kSeq a18 (kSeq a19 (kSeq a20 (kSeq a21 (kSeq a22 (kSeq a23 (kSeq a24 a25))))))))))))))))))))))))
theorem b_law_eq : b_law = kSeq (kFor (kRng1 (kC (.int 5))) (gkN 2) lapB) (kRet (kC (.bl true))) := rfl
end K60
end
section
set_option Elab.async false
set_option linter.all false
set_option maxRecDepth 100000
set_option maxHeartbeats 1000000
namespace K60
open PySem PySem.Spec L2 Dn
/-! ### told and due -/
def Sm : Nat → D → Prop
  | _, .int _ => True
  | _, .str _ => True
  | k + 1, .tup ds => ds.length ≤ 100000 ∧ ∀ x ∈ ds, Sm k x
  | _, _ => False
theorem same_ok : ∀ (k : Nat) (d : D), Sm k d → r__law_same (k + 1) [d, d] = .ok (.bl true)
  | k, .int i, _ => by
    rw [r__law_same]
    simp [b__law_same]
  | k, .str z, _ => by
    rw [r__law_same]
    simp [b__law_same]
  | k + 1, .tup ds, h => by
    obtain ⟨hl, h⟩ : ds.length ≤ 100000 ∧ ∀ x ∈ ds, Sm k x := h
    rw [r__law_same]
    have ez : zipA (.tup ds) (.tup ds) = some (ds.map fun x => .tup [x, x]) := by
      show some (zipD ds ds) = _
      unfold zipD
      rw [List.zipWith_self]
    have el := lcGo_pure (mg := gkTup 2 (gkCons (gkN 2) (gkCons (gkN 3) gkNil))) (mt := kYes) (me := kCall 2 (r__law_same (k + 1)) [] (kCons (kVar 2) (kCons (kVar 3) kNil))) (ρ := [.val (.tup ds), .val (.tup ds), .no, .no]) (p := pen0) (g := fun x : D => .tup [x, x]) (h := fun _ => .bl true) (keep := fun _ => true) ds [] (fun x hx => by simp [same_ok k x (h x hx)]) (by simp; omega)
    rw [List.filter_eq_self.mpr (fun _ _ => rfl), List.nil_append] at el
    have ea : allL (ds.map fun _ => D.bl true) = some (.bl true) := by
      have := allL_w ds (fun _ => true)
      rw [show (ds.map fun _ => D.bl true) = ds.map (D.bl ∘ fun _ => true) from rfl, this]
      simp
    simp [b__law_same, ez, el, ea]
  | 0, .tup _, h => False.elim h
  | 0, .non, h => False.elim h
  | 0, .bl _, h => False.elim h
  | 0, .lst _, h => False.elim h
  | 0, .dic _ _, h => False.elim h
  | 0, .obj _ _, h => False.elim h
  | _ + 1, .non, h => False.elim h
  | _ + 1, .bl _, h => False.elim h
  | _ + 1, .lst _, h => False.elim h
  | _ + 1, .dic _ _, h => False.elim h
  | _ + 1, .obj _ _, h => False.elim h
theorem Sm.up : ∀ {k : Nat} {d : D}, Sm k d → Sm (k + 1) d
  | 0, .int _, _ => trivial
  | 0, .str _, _ => trivial
  | k + 1, .int _, _ => trivial
  | k + 1, .str _, _ => trivial
  | k + 1, .tup ds, h => ⟨h.1, fun x hx => (h.2 x hx).up⟩
  | 0, .tup _, h => False.elim h
  | 0, .non, h => False.elim h
  | 0, .bl _, h => False.elim h
  | 0, .lst _, h => False.elim h
  | 0, .dic _ _, h => False.elim h
  | 0, .obj _ _, h => False.elim h
  | _ + 1, .non, h => False.elim h
  | _ + 1, .bl _, h => False.elim h
  | _ + 1, .lst _, h => False.elim h
  | _ + 1, .dic _ _, h => False.elim h
  | _ + 1, .obj _ _, h => False.elim h
theorem same2 {d : D} (h : Sm 2 d) : m__law_same [d, d] = .ok (.bl true) := same_ok 7 d h.up.up.up.up.up
theorem same1 {d : D} (h : Sm 1 d) : m__law_same [d, d] = .ok (.bl true) := same2 h.up
theorem sm_row {b : Bk} : ∀ x ∈ rows b, Sm 1 x := by
  intro x hx
  cases b with
  | meet a b s t =>
    rw [List.mem_singleton.mp hx]
    exact ⟨by simp, fun y hy => by
      simp only [List.mem_cons, List.not_mem_nil, or_false] at hy
      rcases hy with rfl | rfl | rfl | rfl | rfl <;> trivial⟩
  | shout a l s hs =>
    rcases List.mem_cons.mp hx with rfl | hx
    · exact ⟨by simp, fun y hy => by
        simp only [List.mem_cons, List.not_mem_nil, or_false] at hy
        rcases hy with rfl | rfl | rfl | rfl <;> trivial⟩
    · obtain ⟨g, _, rfl⟩ := List.mem_map.mp hx
      exact ⟨by simp, fun y hy => by
        simp only [List.mem_cons, List.not_mem_nil, or_false] at hy
        rcases hy with rfl | rfl | rfl | rfl <;> trivial⟩
theorem sm_c {n : Nat} : Sm 1 (cD n) := ⟨by simp, fun y hy => by
  simp only [List.mem_cons, List.not_mem_nil, or_false] at hy
  rcases hy with rfl | rfl <;> trivial⟩
theorem sm_rows {n : Nat} {bs : List Bk} : ∀ x ∈ cD n :: evs bs, Sm 1 x := by
  intro x hx
  rcases List.mem_cons.mp hx with rfl | hx
  · exact sm_c
  · obtain ⟨b, _, hx⟩ := List.mem_flatMap.mp hx
    exact sm_row x hx
theorem sm_log {n : Nat} {bs : List Bk} (h : LogOk n bs) : Sm 2 (logD n bs) := ⟨by have := h.len; simp; omega, sm_rows⟩
theorem cntL_len (zs : List Str) : (cntL zs).length ≤ zs.length := by
  rw [← cntR_eq, List.length_map]
  exact cntR_len zs
theorem sm_cnt {zs : List Str} (h : zs.length ≤ 1000) : Sm 2 (.tup (cntL zs)) := ⟨by have := cntL_len zs; omega, fun x hx => by
  obtain ⟨s, _, rfl⟩ := List.mem_map.mp hx
  exact ⟨by simp, fun y hy => by
    simp only [List.mem_cons, List.not_mem_nil, or_false] at hy
    rcases hy with rfl | rfl <;> trivial⟩⟩
/-! ### what is compared can be -/
theorem fit_log {n : Nat} {bs : List Bk} (h : LogOk n bs) : fit (logD n bs) = true := (nice_log (m := n) h.ok).fit
theorem nice_cnt {zs : List Str} (h : ∀ z ∈ zs, PyData.strOk z = true) : Nice 2 (.tup (cntL zs)) := by
  rw [nice_tup]
  intro x hx
  obtain ⟨s, hs, rfl⟩ := List.mem_map.mp hx
  have := h s (sort_news_mem.mp hs)
  simp [cntD1, this]
theorem nice_nums {is : List Nat} : Nice 1 (.tup (numsD is)) := by
  rw [nice_tup]
  intro x hx
  obtain ⟨i, _, rfl⟩ := List.mem_map.mp hx
  simp
theorem nice_numsL {is : List Nat} : Nice 1 (.lst (numsD is)) := by
  rw [nice_lst]
  intro x hx
  obtain ⟨i, _, rfl⟩ := List.mem_map.mp hx
  simp
theorem nice_along {z : Str} {n : Nat} {bs : List Bk} (hz : NameOk z) (h : ∀ b ∈ bs, BkOk n b) : Nice 4 (.tup ((pre bs).map (alongD z n))) := by
  rw [nice_tup]
  intro x hx
  obtain ⟨q, hq, rfl⟩ := List.mem_map.mp hx
  obtain ⟨r, e⟩ := pre_sub hq
  have okq : ∀ b ∈ q, BkOk n b := fun b hb => h b (by rw [e]; exact List.mem_append_left _ hb)
  unfold alongD
  rw [nice_tup]
  intro y hy
  simp only [List.mem_cons, List.not_mem_nil, or_false] at hy
  rcases hy with rfl | rfl
  · simp
  · exact nice_cnt fun s hs => (st_name hz okq s hs).str
theorem nice_posI {bs : List Bk} : Nice 1 (.tup ((pre bs).map fun q => .int (posI q))) := by
  rw [nice_tup]
  intro x hx
  obtain ⟨q, _, rfl⟩ := List.mem_map.mp hx
  simp
theorem nice_st {zs : List Str} (h : ∀ z ∈ zs, PyData.strOk z = true) : Nice 1 (.tup (zs.map D.str)) := by
  rw [nice_tup]
  intro x hx
  obtain ⟨s, hs, rfl⟩ := List.mem_map.mp hx
  simpa using h s hs
theorem nice_stL {zs : List Str} (h : ∀ z ∈ zs, PyData.strOk z = true) : Nice 1 (.lst (zs.map D.str)) := by
  rw [nice_lst]
  intro x hx
  obtain ⟨s, hs, rfl⟩ := List.mem_map.mp hx
  simpa using h s hs
theorem nice_way {ws : List (Nat × Str)} (h : ∀ w ∈ ws, PyData.strOk w.2 = true) : Nice 2 (.tup (ws.map wayD)) := by
  rw [nice_tup]
  intro x hx
  obtain ⟨w, hw, rfl⟩ := List.mem_map.mp hx
  simp [wayD, h w hw]
theorem wayR_mem {h : Nat} {w : Nat × Str} : ∀ (cs : List (List (Nat × Str))) (k : Nat), w ∈ wayR h k cs → ∃ c ∈ cs.flatten, c.2 = w.2
  | [], k, hw => by cases hw
  | c :: cs, k, hw => by
    rw [wayR] at hw
    rcases List.mem_append.mp hw with hw | hw
    · obtain ⟨x, hx, rfl⟩ := List.mem_map.mp hw
      exact ⟨x, by simp [(List.mem_filter.mp hx).1], rfl⟩
    · obtain ⟨x, hx, e⟩ := wayR_mem cs (k + 1) hw
      exact ⟨x, by rw [List.flatten_cons]; exact List.mem_append_right _ hx, e⟩
theorem way_name {z : Str} {h n : Nat} {bs : List Bk} (hz : NameOk z) (ok : ∀ b ∈ bs, BkOk n b) : ∀ w ∈ wayOf z h bs, NameOk w.2 := by
  intro w hw
  rcases List.mem_cons.mp hw with rfl | hw
  · exact hz
  · obtain ⟨c, hc, e⟩ := wayR_mem _ _ hw
    rw [List.flatten_cons, List.nil_append, chEvs_flat] at hc
    rw [← e]
    exact ch_name ok c hc
theorem seq_nx {a b : KS} {ρ ρ1 : List Sl} {p p1 : Pen} {r : R (Fl × List Sl × Pen)} (h : a ρ p = .ok (.nx, ρ1, p1)) (k : b ρ1 p1 = r) : kSeq a b ρ p = r := by
  rw [kSeq_ap, h]
  exact k
end K60
end
section
set_option Elab.async false
set_option linter.all false
set_option maxRecDepth 100000
set_option maxHeartbeats 1000000
namespace K60
open PySem PySem.Spec L2 Dn
def natOf : D → Nat
  | .int i => i.toNat
  | _ => 0
section
variable {N n at_ : Nat} {p : Pen} {zs ts : List Str} {z : Str} {bs cs : List Bk} {ord lat : List Nat} {s2 s3 s4 s5 s6 s7 s8 s9 s10 s11 s12 s13 s14 s15 s16 s17 s18 s19 s20 s21 s22 s23 : Sl}
theorem st1 (hp : PenIs N p) (hN : N ≤ 100000000) : ∃ (zs ts : List Str) (p' : Pen), a1 [.no, .pen, s2, s3, s4, s5, s6, s7, s8, s9, s10, s11, s12, s13, s14, s15, s16, s17, s18, s19, s20, s21, s22, s23] p = .ok (.nx, [.no, .pen, s2, .val (.lst (zs.map D.str)), .val (.lst (ts.map D.str)), s5, s6, s7, s8, s9, s10, s11, s12, s13, s14, s15, s16, s17, s18, s19, s20, s21, s22, s23], p') ∧ zs.length = 4 ∧ ts.length = 2 ∧ (∀ z ∈ zs, NameOk z) ∧ (∀ z ∈ ts, NameOk z) ∧ PenIs (N + 2000) p' := by
  obtain ⟨zs, p1, e1, l1, o1, hp1⟩ := names_ok (m := 4) hp (by omega) (by decide)
  obtain ⟨ts, p2, e2, l2, o2, hp2⟩ := names_ok (m := 2) hp1 (by omega) (by decide)
  refine ⟨zs, ts, p2, ?_, l1, l2, o1, o2, hp2⟩
  have e1 : m__law_names [.int 4] p = _ := e1
  have e2 : m__law_names [.int 2] p1 = _ := e2
  simp [a1, e1, e2]
theorem st2 (hp : PenIs N p) (hN : N ≤ 100000000) (l1 : zs.length = 4) (l2 : ts.length = 2) (o1 : ∀ z ∈ zs, NameOk z) (o2 : ∀ z ∈ ts, NameOk z) : ∃ n bs p', a2 [.no, .pen, s2, .val (.lst (zs.map D.str)), .val (.lst (ts.map D.str)), s5, s6, s7, s8, s9, s10, s11, s12, s13, s14, s15, s16, s17, s18, s19, s20, s21, s22, s23] p = .ok (.nx, [.no, .pen, s2, .val (.lst (zs.map D.str)), .val (.lst (ts.map D.str)), .val (logD n bs), s6, s7, s8, s9, s10, s11, s12, s13, s14, s15, s16, s17, s18, s19, s20, s21, s22, s23], p') ∧ 2 ≤ n ∧ n ≤ 6 ∧ LogOk n bs ∧ bs.length ≤ 6 ∧ PenIs (N + 2001) p' := by
  obtain ⟨r, p1, e1, r0, r5, hp1⟩ := draw_ok (many := 5) hp (by omega) (by decide) (by decide)
  obtain ⟨j, rfl⟩ : ∃ j : Nat, r = j := ⟨r.toNat, by omega⟩
  obtain ⟨bs, p2, e2, hb, hl, hp2⟩ := log_draw (n := j + 2) (k := 6) (zs := zs) (ts := ts) hp1 (by omega) (by omega) (by omega) (by decide) (by decide) (fun e => by rw [e] at l1; simp at l1) (by omega) o1 (fun e => by rw [e] at l2; simp at l2) (by omega) o2
  have ej : (2 : Int) + j = ((j + 2 : Nat) : Int) := by omega
  refine ⟨j + 2, bs, p2, ?_, by omega, by omega, hb, hl, hp2.mono (by omega)⟩
  have e2 : m__law_drawn_log [.int ((j + 2 : Nat) : Int), .lst (zs.map D.str), .lst (ts.map D.str), .int 6] p1 = _ := e2
  rw [← ej] at e2
  simp [a2, e1, e2]
theorem st3 (l1 : zs = z :: zs.tail) : a3 [.no, .pen, s2, .val (.lst (zs.map D.str)), .val (.lst (ts.map D.str)), .val (logD n bs), s6, s7, s8, s9, s10, s11, s12, s13, s14, s15, s16, s17, s18, s19, s20, s21, s22, s23] p = .ok (.nx, [.no, .pen, s2, .val (.lst (zs.map D.str)), .val (.lst (ts.map D.str)), .val (logD n bs), .val (.str z), .val (.int n), s8, s9, s10, s11, s12, s13, s14, s15, s16, s17, s18, s19, s20, s21, s22, s23], p) := by
  have e : ixD (.lst (zs.map D.str)) (.int 0) = some (.str z) := by
    rw [l1, ixD_lst, atI_0]
    rfl
  simp [a3, e]
theorem shuf_ord (hp : PenIs N p) (hN : N ≤ 200000000) (hn : n ≤ 100) : ∃ ord p', m__law_shuffled [.lst (numsD (List.range n))] p = .ok (.lst (numsD ord), p') ∧ IsOrd n ord ∧ PenIs (N + 100) p' := by
  obtain ⟨fs, p', e, hf, hp'⟩ := shuf_ok (ds := numsD (List.range n)) hp (by omega) (by simp; omega)
  have hs : ∀ x ∈ fs, ∃ i : Nat, x = D.int (i : Int) := fun x hx => by
    obtain ⟨i, _, e⟩ := List.mem_map.mp (hf.mem_iff.mp hx)
    exact ⟨i, e.symm⟩
  have ef : fs = numsD (fs.map natOf) := by
    unfold numsD
    rw [List.map_map]
    conv => lhs; rw [← List.map_id fs]
    exact List.map_congr_left fun x hx => by
      obtain ⟨i, rfl⟩ := hs x hx
      rfl
  refine ⟨fs.map natOf, p', by rw [e, ← ef], ⟨?_⟩, hp'.mono (by simp; omega)⟩
  have h2 := hf.map natOf
  unfold numsD at h2
  rw [List.map_map] at h2
  have h3 : natOf ∘ (fun i : Nat => D.int (i : Int)) = id := by
    funext i
    rfl
  rw [h3, List.map_id] at h2
  exact h2
theorem st4 (hp : PenIs N p) (hN : N ≤ 100000000) (hn : n ≤ 6) : ∃ ord lat p', a4 [.no, .pen, s2, s3, s4, s5, s6, .val (.int n), s8, s9, s10, s11, s12, s13, s14, s15, s16, s17, s18, s19, s20, s21, s22, s23] p = .ok (.nx, [.no, .pen, s2, s3, s4, s5, s6, .val (.int n), .cln (.tup (numsD ord)), .cln (.tup (numsD lat)), s10, s11, s12, s13, s14, s15, s16, s17, s18, s19, s20, s21, s22, s23], p') ∧ IsOrd n ord ∧ IsOrd n lat ∧ PenIs (N + 200) p' := by
  have er := rg0 (n := n) (by omega)
  have b1 : n ≤ 16777216 := by omega
  obtain ⟨ord, p1, e1, o1, hp1⟩ := shuf_ord (n := n) hp (by omega) (by omega)
  obtain ⟨lat, p2, e2, o2, hp2⟩ := shuf_ord (n := n) hp1 (by omega) (by omega)
  refine ⟨ord, lat, p2, ?_, o1, o2, hp2⟩
  simp [a4, er, b1, e1, e2, Sl.isOwn]
theorem st5 (I : IsOrd n ord) (hb : LogOk n bs) : a5 [.no, .pen, s2, s3, s4, .val (logD n bs), s6, s7, .cln (.tup (numsD ord)), s9, s10, s11, s12, s13, s14, s15, s16, s17, s18, s19, s20, s21, s22, s23] p = .ok (.nx, [.no, .pen, s2, s3, s4, .val (logD n bs), s6, s7, .cln (.tup (numsD ord)), s9, .val (logD n (bs.map (renB (oOf ord)))), s11, s12, s13, s14, s15, s16, s17, s18, s19, s20, s21, s22, s23], p) := by
  have ho : Ord n (oOf ord) (.tup (numsD ord)) := by
    have := ord_tup (ord := ord)
    rw [I.len] at this
    exact this
  have e := in_numbers ho I.P.inj (by have := hb.hi; omega) hb.ok (by have := hb.few; omega) n
  simp [a5, e]
theorem st6 (I : IsOrd n ord) (hb : LogOk n bs) (hp : PenIs N p) (hN : N ≤ 100000000) : ∃ (at_ : Nat) (p' : Pen), a6 [.no, .pen, s2, s3, s4, .val (logD n bs), s6, s7, .cln (.tup (numsD ord)), s9, .val (logD n (bs.map (renB (oOf ord)))), s11, s12, s13, s14, s15, s16, s17, s18, s19, s20, s21, s22, s23] p = .ok (.nx, [.no, .pen, s2, s3, s4, .val (logD n bs), s6, s7, .cln (.tup (numsD ord)), s9, .val (logD n (bs.map (renB (oOf ord)))), .val (logD n (bs.map (renB (oOf ord)))), .val (.int at_), s13, s14, s15, s16, s17, s18, s19, s20, s21, s22, s23], p') ∧ at_ < (cD n :: evs (bs.map (renB (oOf ord)))).length ∧ PenIs (N + 1) p' := by
  have e := ren_ok hb I.perm
  have el : lenD [logD n (bs.map (renB (oOf ord)))] = some (.int (cD n :: evs (bs.map (renB (oOf ord)))).length) := (rfl)
  have hl := (ren_log_ok I.P hb).len
  obtain ⟨r, p1, e1, r0, rl, hp1⟩ := draw_ok (many := (((cD n :: evs (bs.map (renB (oOf ord)))).length : Nat) : Int)) hp (by omega) (by simp; omega) (by simp; omega)
  obtain ⟨j, rfl⟩ : ∃ j : Nat, r = j := ⟨r.toNat, by omega⟩
  refine ⟨j, p1, ?_, by omega, hp1⟩
  simp only [a6, kSeq_ap, kAsg_ap]
  generalize (((cD n :: evs (bs.map (renB (oOf ord)))).length : Nat) : Int) = L at el e1
  simp [e, el, e1]
theorem st7 (hb : LogOk n bs) (ha : at_ < (cD n :: evs bs).length) : a7 [.no, .pen, s2, s3, s4, s5, s6, s7, s8, s9, .val (logD n bs), .val (logD n bs), .val (.int at_), s13, s14, s15, s16, s17, s18, s19, s20, s21, s22, s23] p = .ok (.nx, [.no, .pen, s2, s3, s4, s5, s6, s7, s8, s9, .val (logD n bs), .val (logD n bs), .val (.int at_), s13, s14, s15, s16, s17, s18, s19, s20, s21, s22, s23], p) := by
  have el : lenD [logD n bs] = some (.int (cD n :: evs bs).length) := (rfl)
  have ei : ixD (logD n bs) (.int at_) = some ((cD n :: evs bs)[at_]) := by
    unfold logD
    rw [ixD_tup, Dn.atI_nat, List.getElem?_eq_getElem ha]
  have e1 := same1 (sm_rows (n := n) (bs := bs) _ (List.getElem_mem ha))
  have e2 := same2 (sm_log hb)
  have e3 := log_is hb
  generalize (((cD n :: evs bs).length : Nat) : Int) = L at el
  generalize ((cD n :: evs bs)[at_]) = x at ei e1
  simp [a7, el, ei, e1, e2, e3]
theorem st8 (I : IsOrd n ord) (J : IsOrd n lat) (hn : n ≤ 6) : a8 [.no, .pen, s2, s3, s4, s5, s6, .val (.int n), .cln (.tup (numsD ord)), .cln (.tup (numsD lat)), s10, s11, s12, s13, s14, s15, s16, s17, s18, s19, s20, s21, s22, s23] p = .ok (.nx, [.no, .pen, s2, s3, s4, s5, s6, .val (.int n), .cln (.tup (numsD ord)), .cln (.tup (numsD lat)), s10, s11, s12, .cln (.tup (numsD ((List.range n).map fun i => oOf lat (oOf ord i)))), s14, s15, s16, s17, s18, s19, s20, s21, s22, s23], p) := by
  have er := rg0 (n := n) (by omega)
  have el := lcGo_pure (mg := gkN 14) (mt := kYes) (me := kOp ixD (kVar 9) (kOp ixD (kVar 8) (kVar 14))) (ρ := [.no, .pen, s2, s3, s4, s5, s6, .val (.int n), .cln (.tup (numsD ord)), .cln (.tup (numsD lat)), s10, s11, s12, s13, .no, s15, s16, s17, s18, s19, s20, s21, s22, s23]) (p := p) (g := fun i : Nat => D.int (i : Int)) (h := fun i : Nat => .int ((oOf lat (oOf ord i) : Nat) : Int)) (keep := fun _ => true) (List.range n) [] (fun i hi => by
    have hi := List.mem_range.mp hi
    have o1 := ord_tup (ord := ord) i (by rw [I.len]; exact hi)
    have o2 := ord_tup (ord := lat) (oOf ord i) (by rw [J.len]; exact I.P.lt i hi)
    rw [ixD_tup] at o1 o2
    simp [o1, o2]) (by simp; omega)
  rw [List.filter_eq_self.mpr (fun _ _ => rfl), List.nil_append] at el
  have e2 : (List.range n).map (fun i : Nat => D.int ((oOf lat (oOf ord i) : Nat) : Int)) = numsD ((List.range n).map fun i => oOf lat (oOf ord i)) := by
    unfold numsD
    rw [List.map_map]
    rfl
  rw [e2] at el
  have el : lcGo _ _ _ _ (numsD (List.range n)) _ _ = _ := el
  simp [a8, er, el]
/-- where a hand's number stands -/
def backOf (ord : List Nat) (h : Nat) : Nat := (ord.findIdx? fun x => decide (x = h)).getD 0
theorem back_ok (I : IsOrd n ord) {h : Nat} (hh : h < n) : (numsD ord).findIdx? (eqN (.int h)) = some (backOf ord h) ∧ backOf ord h < n ∧ oOf ord (backOf ord h) = h := by
  have e : (numsD ord).findIdx? (eqN (.int h)) = ord.findIdx? fun x => decide (x = h) := by
    unfold numsD
    rw [List.findIdx?_map]
    congr 1
    funext x
    show PyData.eqv (pd (.int x)) (pd (.int h)) = _
    simp only [pd, eqv_int]
    by_cases hx : x = h
    · subst hx; simp
    · rw [decide_eq_false hx, decide_eq_false (by omega)]
  have hm : h ∈ ord := I.perm.mem_iff.mpr (List.mem_range.mpr hh)
  cases hf : ord.findIdx? fun x => decide (x = h) with
  | none =>
    have := List.findIdx?_eq_none_iff.mp hf h hm
    simp at this
  | some j =>
    have hb : backOf ord h = j := by unfold backOf; rw [hf]; rfl
    obtain ⟨hj, h2, _⟩ := List.findIdx?_eq_some_iff_getElem.mp hf
    have h2 : ord[j] = h := by simpa using h2
    have hl := I.len
    have hj2 : j < n := by omega
    refine ⟨by rw [e, hf, hb], by omega, ?_⟩
    have := I.at_ hj2
    rw [List.getElem?_eq_getElem hj] at this
    rw [hb, ← Option.some.inj this, h2]
theorem st9 (I : IsOrd n ord) (hn : n ≤ 6) : a9 [.no, .pen, s2, s3, s4, s5, s6, .val (.int n), .cln (.tup (numsD ord)), s9, s10, s11, s12, s13, s14, s15, s16, s17, s18, s19, s20, s21, s22, s23] p = .ok (.nx, [.no, .pen, s2, s3, s4, s5, s6, .val (.int n), .cln (.tup (numsD ord)), s9, s10, s11, s12, s13, s14, .cln (.tup (numsD ((List.range n).map (backOf ord)))), s16, s17, s18, s19, s20, s21, s22, s23], p) := by
  have er := rg0 (n := n) (by omega)
  have f1 : ∀ i : Nat, fit (.int (i : Int)) = true := fun i => (show Nice 0 (.int (i : Int)) by simp).fit
  have f2 : fit (.lst (numsD ord)) = true := nice_numsL.fit
  have el := lcGo_pure (mg := gkN 14) (mt := kYes) (me := kCix 8 (kVar 14)) (ρ := [.no, .pen, s2, s3, s4, s5, s6, .val (.int n), .cln (.tup (numsD ord)), s9, s10, s11, s12, s13, .no, s15, s16, s17, s18, s19, s20, s21, s22, s23]) (p := p) (g := fun i : Nat => D.int (i : Int)) (h := fun i : Nat => .int ((backOf ord i : Nat) : Int)) (keep := fun _ => true) (List.range n) [] (fun i hi => by
    have hi := List.mem_range.mp hi
    have o1 := (back_ok I hi).1
    simp [f1, f2, o1]) (by simp; omega)
  rw [List.filter_eq_self.mpr (fun _ _ => rfl), List.nil_append] at el
  have e2 : (List.range n).map (fun i : Nat => D.int ((backOf ord i : Nat) : Int)) = numsD ((List.range n).map (backOf ord)) := by
    unfold numsD
    rw [List.map_map]
    rfl
  rw [e2] at el
  have el : lcGo _ _ _ _ (numsD (List.range n)) _ _ = _ := el
  simp [a9, er, el]
end
end K60
end
section
set_option Elab.async false
set_option linter.all false
set_option maxRecDepth 100000
set_option maxHeartbeats 1000000
namespace K60
open PySem PySem.Spec L2 Dn
theorem isOrd_of {n : Nat} {f : Nat → Nat} (P : Perm' n f) : IsOrd n ((List.range n).map f) := by
  have nd : ((List.range n).map f).Nodup := by
    refine List.pairwise_map.mpr (List.Pairwise.imp_of_mem (fun {x y} hx hy hxy e => ?_) (List.nodup_range (n := n)))
    exact hxy (P.inj _ _ (List.mem_range.mp hx) (List.mem_range.mp hy) e)
  have sub : ∀ x ∈ (List.range n).map f, x < n := fun x hx => by
    obtain ⟨i, hi, rfl⟩ := List.mem_map.mp hx
    exact P.lt i (List.mem_range.mp hi)
  refine ⟨(List.perm_ext_iff_of_nodup nd List.nodup_range).mpr fun x => ⟨fun h => List.mem_range.mpr (sub x h), fun h => ?_⟩⟩
  have h := List.mem_range.mp h
  by_cases hx : x ∈ (List.range n).map f
  · exact hx
  · have nd2 : (x :: (List.range n).map f).Nodup := List.nodup_cons.mpr ⟨hx, nd⟩
    have := nd2.length_le_of_subset (l₂ := List.range n) (fun y hy => by
      rcases List.mem_cons.mp hy with rfl | hy
      · exact List.mem_range.mpr h
      · exact List.mem_range.mpr (sub y hy))
    simp at this
    omega
theorem oOf_map {n : Nat} {f : Nat → Nat} {a : Nat} (h : a < n) : oOf ((List.range n).map f) a = f a := by
  unfold oOf
  rw [List.getD_eq_getElem?_getD, List.getElem?_map, List.getElem?_range h]
  rfl
section
variable {N n at_ : Nat} {p : Pen} {zs ts : List Str} {z : Str} {bs cs : List Bk} {ord lat : List Nat} {s2 s3 s4 s5 s6 s7 s8 s9 s10 s11 s12 s13 s14 s15 s16 s17 s18 s19 s20 s21 s22 s23 : Sl}
theorem both_P (I : IsOrd n ord) (J : IsOrd n lat) : Perm' n fun i => oOf lat (oOf ord i) :=
  ⟨fun a ha => J.P.lt _ (I.P.lt a ha), fun x y hx hy e => I.P.inj _ _ hx hy (J.P.inj _ _ (I.P.lt x hx) (I.P.lt y hy) e)⟩
theorem back_P (I : IsOrd n ord) : Perm' n (backOf ord) :=
  ⟨fun a ha => (back_ok I ha).2.1, fun x y hx hy e => by
    have h1 := (back_ok I hx).2.2
    have h2 := (back_ok I hy).2.2
    rw [← h1, ← h2, e]⟩
theorem back_of (I : IsOrd n ord) {a : Nat} (ha : a < n) : backOf ord (oOf ord a) = a := by
  have h := back_ok I (I.P.lt a ha)
  exact I.P.inj _ _ h.2.1 ha h.2.2
theorem st10 (I : IsOrd n ord) (J : IsOrd n lat) (hn : n ≤ 6) (hb : LogOk n bs) : a10 [.no, .pen, s2, s3, s4, .val (logD n bs), s6, .val (.int n), s8, .cln (.tup (numsD lat)), s10, .val (logD n (bs.map (renB (oOf ord)))), s12, .cln (.tup (numsD ((List.range n).map fun i => oOf lat (oOf ord i)))), s14, .cln (.tup (numsD ((List.range n).map (backOf ord)))), s16, s17, s18, s19, s20, s21, s22, s23] p = .ok (.nx, [.no, .pen, s2, s3, s4, .val (logD n bs), s6, .val (.int n), s8, .cln (.tup (numsD lat)), s10, .val (logD n (bs.map (renB (oOf ord)))), s12, .cln (.tup (numsD ((List.range n).map fun i => oOf lat (oOf ord i)))), s14, .cln (.tup (numsD ((List.range n).map (backOf ord)))), s16, s17, s18, s19, s20, s21, s22, s23], p) := by
  have er := rg0 (n := n) (by omega)
  have b1 : n ≤ 16777216 := by omega
  have hb' := ren_log_ok I.P hb
  have K := isOrd_of (both_P I J)
  have L := isOrd_of (back_P I)
  have M := isOrd_of (n := n) (f := id) ⟨fun a h => h, fun _ _ _ _ e => e⟩
  rw [List.map_id] at M
  have e1 := ren_ok hb' J.perm
  have e2 := ren_ok hb K.perm
  have e3 := ren_ok hb' L.perm
  have e4 := ren_ok hb M.perm
  have q1 : (bs.map (renB (oOf ord))).map (renB (oOf lat)) = bs.map (renB (oOf ((List.range n).map fun i => oOf lat (oOf ord i)))) := by
    rw [List.map_map]
    exact List.map_congr_left fun B hB => ren_ren (o3 := oOf ((List.range n).map fun i => oOf lat (oOf ord i))) I.P J.P (fun a ha => oOf_map (f := fun i => oOf lat (oOf ord i)) ha) (hb.ok B hB)
  have q2 : (bs.map (renB (oOf ord))).map (renB (oOf ((List.range n).map (backOf ord)))) = bs := by
    rw [List.map_map]
    conv => rhs; rw [← List.map_id bs]
    exact List.map_congr_left fun B hB => by
      show renB _ (renB _ B) = B
      rw [ren_ren (o3 := id) I.P L.P (fun a ha => by
        rw [oOf_map (I.P.lt a ha), back_of I ha]
        rfl) (hb.ok B hB)]
      exact ren_id (o := id) (fun _ _ => rfl) (hb.ok B hB)
  have q3 : bs.map (renB (oOf (List.range n))) = bs := by
    conv => rhs; rw [← List.map_id bs]
    exact List.map_congr_left fun B hB => ren_id (fun a ha => by
      have := oOf_map (n := n) (f := id) ha
      rw [List.map_id] at this
      exact this) (hb.ok B hB)
  rw [q1] at e1
  rw [q2] at e3
  rw [q3] at e4
  have n1 := neD_refl (fit_log (ren_log_ok K.P hb))
  have n2 := neD_refl (fit_log hb)
  generalize logD n (bs.map (renB (oOf ord))) = t at *
  generalize logD n bs = u at *
  generalize logD n (bs.map (renB (oOf ((List.range n).map fun i => oOf lat (oOf ord i))))) = v at *
  generalize numsD ((List.range n).map fun i => oOf lat (oOf ord i)) = w1 at *
  generalize numsD ((List.range n).map (backOf ord)) = w2 at *
  simp [a10, e1, e2, e3, e4, n1, n2, er, b1]
theorem st11 (I : IsOrd n ord) (hb : LogOk n bs) (hz : NameOk z) : a11 [.no, .pen, s2, s3, s4, .val (logD n bs), .val (.str z), s7, s8, s9, s10, .val (logD n (bs.map (renB (oOf ord)))), s12, s13, s14, s15, s16, s17, s18, s19, s20, s21, s22, s23] p = .ok (.nx, [.no, .pen, s2, s3, s4, .val (logD n bs), .val (.str z), s7, s8, s9, s10, .val (logD n (bs.map (renB (oOf ord)))), s12, s13, s14, s15, s16, s17, s18, s19, s20, s21, s22, s23], p) := by
  have hb' := ren_log_ok I.P hb
  have e1 := stops_of hb'
  have e2 := stops_of hb
  have e3 := counts_along hb' hz
  have e4 := counts_along hb hz
  have q1 : (pre (bs.map (renB (oOf ord)))).map (fun q => D.int (posI q)) = (pre bs).map fun q => .int (posI q) := by
    rw [pre_map, List.map_map]
    exact List.map_congr_left fun q _ => by
      show D.int (posI (q.map (renB (oOf ord)))) = _
      rw [posI_ren]
  have q2 : (pre (bs.map (renB (oOf ord)))).map (alongD z n) = (pre bs).map (alongD z n) := by
    rw [pre_map, List.map_map]
    exact List.map_congr_left fun q hq => by
      obtain ⟨r, e⟩ := pre_sub hq
      have okq : ∀ b ∈ q, BkOk n b := fun b hb' => hb.ok b (by rw [e]; exact List.mem_append_left _ hb')
      show alongD z n (q.map (renB (oOf ord))) = alongD z n q
      unfold alongD
      rw [posI_ren, cntL_perm (st_perm I okq)]
  rw [q1] at e1
  rw [q2] at e3
  have n1 := neD_refl (nice_posI (bs := bs)).fit
  have n2 := neD_refl (nice_along hz hb.ok).fit
  simp [a11, e1, e2, e3, e4, n1, n2]
theorem st12 (I : IsOrd n ord) (hn : n ≤ 6) (hb : LogOk n bs) (hz : NameOk z) : a12 [.no, .pen, s2, s3, s4, .val (logD n bs), .val (.str z), .val (.int n), .cln (.tup (numsD ord)), s9, s10, .val (logD n (bs.map (renB (oOf ord)))), s12, s13, s14, s15, s16, s17, s18, s19, s20, s21, s22, s23] p = .ok (.nx, [.no, .pen, s2, s3, s4, .val (logD n bs), .val (.str z), .val (.int n), .cln (.tup (numsD ord)), s9, s10, .val (logD n (bs.map (renB (oOf ord)))), s12, s13, s14, s15, s16, s17, s18, s19, s20, s21, s22, s23], p) := by
  have hb' := ren_log_ok I.P hb
  have er := rg0 (n := n) (by omega)
  have e1 := states_behind hb' hz
  have e2 := states_behind hb hz
  have el := lcGo_pure (mg := gkN 14) (mt := kT (kOp neD (kOp ixD (kCall 2 m_states_behind [] (kCons (kVar 6) (kCons (kVar 11) kNil))) (kOp ixD (kVar 8) (kVar 14))) (kOp ixD (kCall 2 m_states_behind [] (kCons (kVar 6) (kCons (kVar 5) kNil))) (kVar 14)))) (me := kVar 14) (ρ := [.no, .pen, s2, s3, s4, .val (logD n bs), .val (.str z), .val (.int n), .cln (.tup (numsD ord)), s9, s10, .val (logD n (bs.map (renB (oOf ord)))), s12, s13, .no, s15, s16, s17, s18, s19, s20, s21, s22, s23]) (p := p) (g := fun i : Nat => D.int (i : Int)) (h := fun i : Nat => .int (i : Int)) (keep := fun _ => false) (List.range n) [] (fun i hi => by
    have hi := List.mem_range.mp hi
    have o1 := ord_tup (ord := ord) i (by rw [I.len]; exact hi)
    rw [ixD_tup] at o1
    have hs := st_ren (z := z) I.P hb.ok hi
    obtain ⟨s, hs2⟩ : ∃ s, (stOf z n bs)[i]? = some s := ⟨_, List.getElem?_eq_getElem (by rw [stOf_len]; exact hi)⟩
    rw [hs2] at hs
    have a1 : atI ((stOf z n (bs.map (renB (oOf ord)))).map D.str) (oOf ord i : Int) = some (.str s) := by
      rw [Dn.atI_nat, List.getElem?_map, hs]
      rfl
    have a2 : atI ((stOf z n bs).map D.str) (i : Int) = some (.str s) := by
      rw [Dn.atI_nat, List.getElem?_map, hs2]
      rfl
    exact ⟨by simp [o1, e1, e2, a1, a2], fun h => by cases h⟩) (by simp; omega)
  rw [List.filter_eq_nil_iff.mpr (fun _ _ => by simp)] at el
  have el : lcGo _ _ _ _ (numsD (List.range n)) _ _ = .ok ([], p) := el
  simp [a12, er, el]
theorem st13 (I : IsOrd n ord) (hn : n ≤ 6) (hb : LogOk n bs) : a13 [.no, .pen, s2, s3, s4, .val (logD n bs), s6, s7, .cln (.tup (numsD ord)), s9, s10, .val (logD n (bs.map (renB (oOf ord)))), s12, s13, s14, s15, s16, s17, s18, s19, s20, s21, s22, s23] p = .ok (.nx, [.no, .pen, s2, s3, s4, .val (logD n bs), s6, s7, .cln (.tup (numsD ord)), s9, s10, .val (logD n (bs.map (renB (oOf ord)))), s12, s13, s14, s15, s16, s17, s18, s19, s20, s21, s22, s23], p) := by
  have hb' := ren_log_ok I.P hb
  have e1 := quiet_hands hb'
  have e2 := quiet_hands hb
  have hlq : (quiet n bs).length ≤ n := by
    have := List.length_filter_le (fun h => !decide (h ∈ (allCh bs).map (·.1))) (List.range n)
    simpa [quiet] using this
  have el := lcGo_pure (mg := gkN 14) (mt := kYes) (me := kOp ixD (kVar 8) (kVar 14)) (ρ := [.no, .pen, s2, s3, s4, .val (logD n bs), s6, s7, .cln (.tup (numsD ord)), s9, s10, .val (logD n (bs.map (renB (oOf ord)))), s12, s13, .no, s15, s16, s17, s18, s19, s20, s21, s22, s23]) (p := p) (g := fun i : Nat => D.int (i : Int)) (h := fun i : Nat => .int ((oOf ord i : Nat) : Int)) (keep := fun _ => true) (quiet n bs) [] (fun i hi => by
    have hi := (quiet_iff.mp hi).1
    have o1 := ord_tup (ord := ord) i (by rw [I.len]; exact hi)
    rw [ixD_tup] at o1
    simp [o1]) (by simp; omega)
  rw [List.filter_eq_self.mpr (fun _ _ => rfl), List.nil_append] at el
  have e3 : (quiet n bs).map (fun i : Nat => D.int ((oOf ord i : Nat) : Int)) = numsD ((quiet n bs).map (oOf ord)) := by
    unfold numsD
    rw [List.map_map]
    rfl
  rw [e3] at el
  have el : lcGo _ _ _ _ (numsD (quiet n bs)) _ _ = _ := el
  have es := sortL_ints (is := ((quiet n bs).map (oOf ord)).map fun i : Nat => (i : Int)) (by simp; omega)
  rw [← numsD_eq, sorted_of I (quiet_ren I hb.ok) quiet_sorted, ← numsD_eq] at es
  have n1 := neD_refl (nice_nums (is := quiet n (bs.map (renB (oOf ord))))).fit
  simp [a13, e1, e2, el, es, n1]
theorem word_of {B : Bk} {x : D} (hx : x ∈ rows B) : Row x := row_ev (bs := [B]) x (by simpa [evs] using hx)
abbrev hrE : KS := kIfS (kAndB (kT (kOp eqD (kOp ixD (kVar 17) (kC (.int 0))) (kC (.str "shout")))) (kT (kOp neD (kCall 2 m_heard_of [] (kCons (kVar 11) (kCons (kVar 16) kNil))) (kCa tupL (kCaL sortL (kLc [14] (kSeqI (kCall 2 m_heard_of [] (kCons (kVar 5) (kCons (kVar 16) kNil)))) (gkN 14) kYes (kOp ixD (kVar 8) (kVar 14)))))))) (kRet (kC (.bl false))) kNext
end
end K60
end
section
set_option Elab.async false
set_option linter.all false
set_option maxRecDepth 100000
set_option maxHeartbeats 1000000
namespace K60
open PySem PySem.Spec L2 Dn
theorem enF_app : ∀ (xs ys : List D) (k : Nat), enF k (xs ++ ys) = enF k xs ++ enF (k + xs.length) ys
  | [], ys, k => by simp [enF]
  | x :: xs, ys, k => by
    rw [List.cons_append, enF, enF_app xs ys (k + 1), enF, List.cons_append, List.length_cons]
    congr 3
    omega
abbrev enG : KG := gkTup 2 (gkCons (gkN 16) (gkCons (gkN 17) gkNil))
section
variable {N n at_ : Nat} {p : Pen} {zs ts : List Str} {z : Str} {bs cs : List Bk} {ord lat : List Nat} {s2 s3 s4 s5 s6 s7 s8 s9 s10 s11 s12 s13 s14 s15 s16 s17 s18 s19 s20 s21 s22 s23 : Sl}
theorem idle_go : ∀ (xs : List D) (k : Nat) (s16 s17 : Sl), (∀ x ∈ xs, Row x ∧ wd x ≠ "shout") → ∃ t16 t17, Goes enG hrE (enF k xs) [.no, .pen, s2, s3, s4, s5, s6, s7, s8, s9, s10, s11, s12, s13, s14, s15, s16, s17, s18, s19, s20, s21, s22, s23] p [.no, .pen, s2, s3, s4, s5, s6, s7, s8, s9, s10, s11, s12, s13, s14, s15, t16, t17, s18, s19, s20, s21, s22, s23] p
  | [], k, s16, s17, _ => ⟨s16, s17, rfl, rfl⟩
  | x :: xs, k, s16, s17, h => by
    obtain ⟨h1, h2⟩ := h x List.mem_cons_self
    obtain ⟨t16, t17, ih⟩ := idle_go xs (k + 1) (.val (.int k)) (.val x) fun y hy => h y (List.mem_cons_of_mem _ hy)
    have w := row_wd h1
    exact ⟨t16, t17, .nx, _, _, by simp [w, h2], .inl rfl, ih⟩
theorem hears_idle {l : Str} {hs : List (Nat × Str)} : ∀ x ∈ hs.map (hD l), Row x ∧ wd x ≠ "shout" := fun x hx => by
  obtain ⟨h, _, rfl⟩ := List.mem_map.mp hx
  exact ⟨⟨_, _, rfl⟩, by simp [wd, hD]⟩
theorem heard_go (I : IsOrd n ord) (hn : n ≤ 6) (hb : LogOk n bs) : ∀ (Q P : List Bk), bs = P ++ Q → ∀ (s16 s17 : Sl), ∃ t16 t17, Goes enG hrE (enF (1 + (evs P).length) (evs Q)) [.no, .pen, s2, s3, s4, .val (logD n bs), s6, s7, .cln (.tup (numsD ord)), s9, s10, .val (logD n (bs.map (renB (oOf ord)))), s12, s13, s14, s15, s16, s17, s18, s19, s20, s21, s22, s23] p [.no, .pen, s2, s3, s4, .val (logD n bs), s6, s7, .cln (.tup (numsD ord)), s9, s10, .val (logD n (bs.map (renB (oOf ord)))), s12, s13, s14, s15, t16, t17, s18, s19, s20, s21, s22, s23] p
  | [], P, _, s16, s17 => ⟨s16, s17, rfl, rfl⟩
  | B :: Q, P, e, s16, s17 => by
    have hB : BkOk n B := hb.ok B (by rw [e]; simp)
    have ev : evs (B :: Q) = rows B ++ evs Q := rfl
    have nxt : 1 + (evs P).length + (rows B).length = 1 + (evs (P ++ [B])).length := by
      unfold evs
      rw [List.flatMap_append]
      simp
      omega
    rw [ev, enF_app, nxt]
    have one : ∀ s16 s17, ∃ t16 t17, Goes enG hrE (enF (1 + (evs P).length) (rows B)) [.no, .pen, s2, s3, s4, .val (logD n bs), s6, s7, .cln (.tup (numsD ord)), s9, s10, .val (logD n (bs.map (renB (oOf ord)))), s12, s13, s14, s15, s16, s17, s18, s19, s20, s21, s22, s23] p [.no, .pen, s2, s3, s4, .val (logD n bs), s6, s7, .cln (.tup (numsD ord)), s9, s10, .val (logD n (bs.map (renB (oOf ord)))), s12, s13, s14, s15, t16, t17, s18, s19, s20, s21, s22, s23] p := fun s16 s17 => by
      cases B with
      | meet a b s t =>
        refine idle_go (rows (.meet a b s t)) _ s16 s17 (fun x hx => ?_)
        rw [List.mem_singleton.mp hx]
        exact ⟨⟨_, _, rfl⟩, by simp [wd, mD]⟩
      | shout a l s hs =>
        obtain ⟨t16, t17, g⟩ := idle_go (s2 := s2) (s3 := s3) (s4 := s4) (s5 := .val (logD n bs)) (s6 := s6) (s7 := s7) (s8 := .cln (.tup (numsD ord))) (s9 := s9) (s10 := s10) (s11 := .val (logD n (bs.map (renB (oOf ord))))) (s12 := s12) (s13 := s13) (s14 := s14) (s15 := s15) (s18 := s18) (s19 := s19) (s20 := s20) (s21 := s21) (s22 := s22) (s23 := s23) (p := p) (hs.map (hD l)) (1 + (evs P).length + 1) (.val (.int ((1 + (evs P).length : Nat) : Int))) (.val (sD a l s)) hears_idle
        refine ⟨t16, t17, .nx, _, _, ?_, .inl rfl, g⟩
        have hb' := ren_log_ok I.P hb
        have e1 := heard_of (a := a) (l := l) (s := s) (hs := hs) hb e
        have em : bs.map (renB (oOf ord)) = P.map (renB (oOf ord)) ++ .shout (oOf ord a) l s (srt (hs.map (rePair (oOf ord)))) :: Q.map (renB (oOf ord)) := by
          rw [e, List.map_append, List.map_cons]
          rfl
        have e2 := heard_of hb' em
        rw [evs_ren_len] at e2
        have ek : ((1 + (evs P).length : Nat) : Int) = ((evs P).length : Int) + 1 := by omega
        rw [ek]
        have w : ixD (sD a l s) (.int 0) = some (.str "shout") := by unfold sD; exact word_0 _ _
        obtain ⟨h1, h2, h3, h4, h5⟩ := hB
        have hl : hs.length ≤ n := by
          have := rows_len (n := n) (b := .shout a l s hs) ⟨h1, h2, h3, h4, h5⟩
          simp [rows] at this
          omega
        have el := lcGo_pure (mg := gkN 14) (mt := kYes) (me := kOp ixD (kVar 8) (kVar 14)) (ρ := [.no, .pen, s2, s3, s4, .val (logD n bs), s6, s7, .cln (.tup (numsD ord)), s9, s10, .val (logD n (bs.map (renB (oOf ord)))), s12, s13, .no, s15, .val (.int (((evs P).length : Int) + 1)), .val (sD a l s), s18, s19, s20, s21, s22, s23]) (p := p) (g := fun i : Nat => D.int (i : Int)) (h := fun i : Nat => .int ((oOf ord i : Nat) : Int)) (keep := fun _ => true) (hs.map (·.1)) [] (fun i hi => by
          obtain ⟨g, hg, rfl⟩ := List.mem_map.mp hi
          have o1 := ord_tup (ord := ord) g.1 (by rw [I.len]; exact (h5 g hg).1)
          rw [ixD_tup] at o1
          simp [o1]) (by simp; omega)
        rw [List.filter_eq_self.mpr (fun _ _ => rfl), List.nil_append] at el
        have e3 : (hs.map (·.1)).map (fun i : Nat => D.int ((oOf ord i : Nat) : Int)) = numsD ((hs.map (·.1)).map (oOf ord)) := by
          unfold numsD
          rw [List.map_map (g := fun i : Nat => D.int (i : Int)) (f := oOf ord)]
          rfl
        rw [e3] at el
        have el : lcGo _ _ _ _ (numsD (hs.map (·.1))) _ _ = _ := el
        obtain ⟨q1, q2⟩ := heard_ren (o := oOf ord) I.P ⟨h1, h2, h3, h4, h5⟩
        have es := sortL_ints (is := ((hs.map (·.1)).map (oOf ord)).map fun i : Nat => (i : Int)) (by simp; omega)
        rw [← numsD_eq, sorted_of I q1 q2, ← numsD_eq] at es
        have n1 := neD_refl (nice_nums (is := (srt (hs.map (rePair (oOf ord)))).map (·.1))).fit
        generalize numsD ((srt (hs.map (rePair (oOf ord)))).map (·.1)) = A at *
        generalize numsD (hs.map (·.1)) = C at *
        generalize numsD ((hs.map (·.1)).map (oOf ord)) = E at *
        generalize ((evs P).length : Int) + 1 = kk at *
        simp [w, e1, e2, el, es, n1]
    obtain ⟨t16, t17, g1⟩ := one s16 s17
    obtain ⟨u16, u17, g2⟩ := heard_go I hn hb Q (P ++ [B]) (by rw [e]; simp) t16 t17
    exact ⟨u16, u17, g1.app g2⟩
theorem st14 (I : IsOrd n ord) (hn : n ≤ 6) (hb : LogOk n bs) : ∃ t16 t17, a14 [.no, .pen, s2, s3, s4, .val (logD n bs), s6, s7, .cln (.tup (numsD ord)), s9, s10, .val (logD n (bs.map (renB (oOf ord)))), s12, s13, s14, s15, s16, s17, s18, s19, s20, s21, s22, s23] p = .ok (.nx, [.no, .pen, s2, s3, s4, .val (logD n bs), s6, s7, .cln (.tup (numsD ord)), s9, s10, .val (logD n (bs.map (renB (oOf ord)))), s12, s13, s14, s15, t16, t17, s18, s19, s20, s21, s22, s23], p) := by
  obtain ⟨t16, t17, g1⟩ := idle_go (s2 := s2) (s3 := s3) (s4 := s4) (s5 := .val (logD n bs)) (s6 := s6) (s7 := s7) (s8 := .cln (.tup (numsD ord))) (s9 := s9) (s10 := s10) (s11 := .val (logD n (bs.map (renB (oOf ord))))) (s12 := s12) (s13 := s13) (s14 := s14) (s15 := s15) (s18 := s18) (s19 := s19) (s20 := s20) (s21 := s21) (s22 := s22) (s23 := s23) (p := p) [cD n] 0 s16 s17 (fun x hx => by
    rw [List.mem_singleton.mp hx]
    exact ⟨⟨_, _, rfl⟩, by simp [wd, cD]⟩)
  obtain ⟨u16, u17, g2⟩ := heard_go (s2 := s2) (s3 := s3) (s4 := s4) (s6 := s6) (s7 := s7) (s9 := s9) (s10 := s10) (s12 := s12) (s13 := s13) (s14 := s14) (s15 := s15) (s18 := s18) (s19 := s19) (s20 := s20) (s21 := s21) (s22 := s22) (s23 := s23) (p := p) I hn hb bs [] rfl t16 t17
  have g := (g1.app g2).ok
  have e : enD (cD n :: evs bs) = enF 0 [cD n] ++ enF (1 + (evs []).length) (evs bs) := by
    have := enD_eq (cD n :: evs bs) 0
    rw [show cD n :: evs bs = [cD n] ++ evs bs from rfl, enF_app] at this
    exact this
  rw [← e] at g
  refine ⟨u16, u17, ?_⟩
  have g : forGo _ _ _ _ _ = _ := g
  simp only [a14, kFor_ap, kEnum_ap, kVar_ap]
  simp
  exact g
end
end K60
end
section
set_option Elab.async false
set_option linter.all false
set_option maxRecDepth 100000
set_option maxHeartbeats 1000000
namespace K60
open PySem PySem.Spec L2 Dn
abbrev wyG : KG := gkTup 2 (gkCons (gkN 18) (gkCons (gkN 19) gkNil))
abbrev wyT : KS := kIfS (kT (kOp neD (kFz (kLc [18, 19] (kSeqI (kCall 3 m_way_of [] (kCons (kVar 6) (kCons (kVar 11) (kCons (kOp ixD (kVar 8) (kVar 14)) kNil))))) wyG kYes (kVar 19))) (kFz (kLc [18, 19] (kSeqI (kCall 3 m_way_of [] (kCons (kVar 6) (kCons (kVar 5) (kCons (kVar 14) kNil))))) wyG kYes (kVar 19))))) (kRet (kC (.bl false))) kNext
theorem way_len {z : Str} {h n : Nat} {bs : List Bk} (ok : LogOk n bs) : (wayOf z h bs).length ≤ 5000 := by
  have e := wayR_states h ([] :: bs.flatMap chRows) 0
  have l := congrArg List.length e
  rw [List.flatten_cons, chEvs_flat, List.nil_append] at l
  have h1 := List.length_filter_le (fun x : Nat × Str => decide (x.1 = h)) (allCh bs)
  have h2 := allCh_len ok.ok
  have : bs.length * (n + 1) ≤ 50 * 31 := Nat.mul_le_mul ok.few (by have := ok.hi; omega)
  simp only [List.length_map] at l
  unfold wayOf
  rw [List.length_cons]
  omega
section
variable {N n at_ : Nat} {p : Pen} {zs ts : List Str} {z : Str} {bs cs : List Bk} {ord lat : List Nat} {s2 s3 s4 s5 s6 s7 s8 s9 s10 s11 s12 s13 s14 s15 s16 s17 s18 s19 s20 s21 s22 s23 : Sl}
theorem way_lc {ρ : List Sl} (hρ : 19 < ρ.length) (ws : List (Nat × Str)) (hl : ws.length ≤ 5000) : lcGo wyG kYes (kVar 19) ρ (ws.map wayD) [] p = .ok ((ws.map (·.2)).map D.str, p) := by
  have el := lcGo_pure (mg := wyG) (mt := kYes) (me := kVar 19) (ρ := ρ) (p := p) (g := wayD) (h := fun w : Nat × Str => D.str w.2) (keep := fun _ => true) ws [] (fun w hw => by
    have e1 : unx (wyG (wayD w) ρ) = .ok ((ρ.set 18 (.val (.int w.1))).set 19 (.val (.str w.2))) := by simp [wayD]
    rw [e1]
    refine ⟨rfl, fun _ => ?_⟩
    simp only [ok_bind, kVar_ap]
    rw [List.getElem?_set_self (by rw [List.length_set]; exact hρ)]) (by simp; omega)
  rw [List.filter_eq_self.mpr (fun _ _ => rfl), List.nil_append] at el
  rw [el, List.map_map]
  rfl
theorem st15 (I : IsOrd n ord) (hn : n ≤ 6) (hb : LogOk n bs) (hz : NameOk z) : ∃ t14, a15 [.no, .pen, s2, s3, s4, .val (logD n bs), .val (.str z), .val (.int n), .cln (.tup (numsD ord)), s9, s10, .val (logD n (bs.map (renB (oOf ord)))), s12, s13, s14, s15, s16, s17, s18, s19, s20, s21, s22, s23] p = .ok (.nx, [.no, .pen, s2, s3, s4, .val (logD n bs), .val (.str z), .val (.int n), .cln (.tup (numsD ord)), s9, s10, .val (logD n (bs.map (renB (oOf ord)))), s12, s13, t14, s15, s16, s17, s18, s19, s20, s21, s22, s23], p) := by
  have hb' := ren_log_ok I.P hb
  have er := rg0 (n := n) (by omega)
  obtain ⟨ρ', p', eg, t14, rfl, rfl⟩ := forGo_inv (mg := gkN 14) (b := wyT) (g := fun i : Nat => D.int (i : Int)) (I := fun _ ρ q => ∃ t14, ρ = [.no, .pen, s2, s3, s4, .val (logD n bs), .val (.str z), .val (.int n), .cln (.tup (numsD ord)), s9, s10, .val (logD n (bs.map (renB (oOf ord)))), s12, s13, t14, s15, s16, s17, s18, s19, s20, s21, s22, s23] ∧ q = p) (List.range n) [] [.no, .pen, s2, s3, s4, .val (logD n bs), .val (.str z), .val (.int n), .cln (.tup (numsD ord)), s9, s10, .val (logD n (bs.map (renB (oOf ord)))), s12, s13, s14, s15, s16, s17, s18, s19, s20, s21, s22, s23] p ⟨s14, rfl, rfl⟩ (fun pre' x post ρ q ha ⟨t14, hρ, hq⟩ => by
    subst hρ
    subst hq
    have hx : x < n := by
      have : x ∈ [] ++ List.range n := by rw [ha]; simp
      simpa using this
    have o1 := ord_tup (ord := ord) x (by rw [I.len]; exact hx)
    rw [ixD_tup] at o1
    have e1 := way_of hb' hz (I.P.lt x hx)
    have e2 := way_of hb hz hx
    have c1 := way_lc (p := q) (ρ := [.no, .pen, s2, s3, s4, .val (logD n bs), .val (.str z), .val (.int n), .cln (.tup (numsD ord)), s9, s10, .val (logD n (bs.map (renB (oOf ord)))), s12, s13, .val (.int x), s15, s16, s17, .no, .no, s20, s21, s22, s23]) (by simp) (wayOf z (oOf ord x) (bs.map (renB (oOf ord)))) (way_len hb')
    have c2 := way_lc (p := q) (ρ := [.no, .pen, s2, s3, s4, .val (logD n bs), .val (.str z), .val (.int n), .cln (.tup (numsD ord)), s9, s10, .val (logD n (bs.map (renB (oOf ord)))), s12, s13, .val (.int x), s15, s16, s17, .no, .no, s20, s21, s22, s23]) (by simp) (wayOf z x bs) (way_len hb)
    rw [way_ren I hb.ok hx] at c1
    have n1 := neD_refl (nice_stL (zs := (wayOf z x bs).map (·.2)) (fun s hs => by
      obtain ⟨w, hw, rfl⟩ := List.mem_map.mp hs
      exact (way_name hz hb.ok w hw).str)).fit
    generalize (wayOf z x bs).map (·.2) = W at *
    generalize (wayOf z x bs).map wayD = W1 at *
    generalize (wayOf z (oOf ord x) (bs.map (renB (oOf ord)))).map wayD = W2 at *
    exact ⟨.nx, _, q, by simp [o1, e1, e2, c1, c2, n1], .inl rfl, .val (.int x), rfl, rfl⟩)
  refine ⟨t14, ?_⟩
  have eg : forGo _ _ (numsD (List.range n)) _ _ = _ := eg
  simp [a15, er, eg]
theorem st16 (hb : LogOk n bs) : a16 [.no, .pen, s2, s3, s4, .val (logD n bs), s6, .val (.int n), s8, s9, s10, s11, s12, s13, s14, s15, s16, s17, s18, s19, s20, s21, s22, s23] p = .ok (.nx, [.no, .pen, s2, s3, s4, .val (logD n bs), s6, .val (.int n), s8, s9, s10, s11, s12, s13, s14, s15, s16, s17, s18, s19, .val (logD (n + 1) bs), s21, s22, s23], p) := by
  have s1 : sliceD (logD n bs) (some 1) none = some (.tup (evs bs)) := by unfold logD; simp
  have hl := hb.len
  have ad : addD (.tup [.tup [.str (Str.ofString "crowd"), .int ((n : Int) + 1)]]) (.tup (evs bs)) = some (logD (n + 1) bs) := by
    rw [addD_tup, if_pos (by rw [line_val]; simp; omega)]
    unfold logD cD
    rw [show ((n + 1 : Nat) : Int) = (n : Int) + 1 by omega]
    rfl
  simp only [a16, kAsg_ap]
  generalize logD (n + 1) bs = L at *
  simp [s1, ad]
theorem st17 (hn : n ≤ 6) (hb : LogOk n bs) (hz : NameOk z) : a17 [.no, .pen, s2, s3, s4, .val (logD n bs), .val (.str z), .val (.int n), s8, s9, s10, s11, s12, s13, s14, s15, s16, s17, s18, s19, .val (logD (n + 1) bs), s21, s22, s23] p = .ok (.nx, [.no, .pen, s2, s3, s4, .val (logD n bs), .val (.str z), .val (.int n), s8, s9, s10, s11, s12, s13, s14, s15, s16, s17, s18, s19, .val (logD (n + 1) bs), s21, s22, s23], p) := by
  have hw := wide_ok hb (by omega)
  have e1 := quiet_hands hw
  have e2 := quiet_hands hb
  have e3 := counts_behind hw hz
  have e4 := counts_behind hb hz
  have e5 := stops_of hw
  have e6 := stops_of hb
  have nm : ∀ s ∈ stOf z n bs ++ [z], PyData.strOk s = true := fun s hs => by
    rcases List.mem_append.mp hs with hs | hs
    · exact (st_name hz hb.ok s hs).str
    · rw [List.mem_singleton.mp hs]
      exact hz.str
  have e7 := sum_ok (zs := stOf z n bs) (ws := [z]) nm (by rw [stOf_len]; simp; omega)
  have c1 : cntL [z] = [.tup [.str z, .int 1]] := by
    have h1 : news [z] = [z] := rfl
    have h2 : sortS [z] = [z] := by simp [sortS]
    unfold cntL
    rw [h1, h2]
    simp [cntD1]
  rw [c1, ← st_wide hb.ok] at e7
  have hlq : (quiet n bs).length ≤ n := by
    have := List.length_filter_le (fun h => !decide (h ∈ (allCh bs).map (·.1))) (List.range n)
    simpa [quiet] using this
  have ad : addD (.tup (numsD (quiet n bs))) (.tup [.int n]) = some (.tup (numsD (quiet (n + 1) bs))) := by
    rw [addD_tup, if_pos (by rw [line_val]; simp; omega), quiet_wide hb.ok]
    unfold numsD
    rw [List.map_append]
    rfl
  have n1 := neD_refl (nice_nums (is := quiet (n + 1) bs)).fit
  have n2 := neD_refl (nice_cnt (zs := stOf z (n + 1) bs) (fun s hs => nm s (by rw [← st_wide hb.ok]; exact hs))).fit
  have n3 := neD_refl (nice_posI (bs := bs)).fit
  generalize numsD (quiet (n + 1) bs) = A1 at *
  generalize numsD (quiet n bs) = A2 at *
  generalize cntL (stOf z (n + 1) bs) = A3 at *
  generalize cntL (stOf z n bs) = A4 at *
  generalize logD (n + 1) bs = L1 at *
  generalize logD n bs = L2 at *
  generalize (pre bs).map (fun q => D.int (posI q)) = A5 at *
  simp [a17, e1, e2, e3, e4, e5, e6, e7, ad, n1, n2, n3]
theorem st18 (hn : n ≤ 6) (hb : LogOk n bs) (hz : NameOk z) : a18 [.no, .pen, s2, s3, s4, .val (logD n bs), .val (.str z), .val (.int n), s8, s9, s10, s11, s12, s13, s14, s15, s16, s17, s18, s19, .val (logD (n + 1) bs), s21, s22, s23] p = .ok (.nx, [.no, .pen, s2, s3, s4, .val (logD n bs), .val (.str z), .val (.int n), s8, s9, s10, s11, s12, s13, s14, s15, s16, s17, s18, s19, .val (logD (n + 1) bs), s21, s22, s23], p) := by
  have hw := wide_ok hb (by omega)
  have er := rg0 (n := n) (by omega)
  have el := lcGo_pure (mg := gkN 14) (mt := kT (kOp neD (kCall 3 m_way_of [] (kCons (kVar 6) (kCons (kVar 20) (kCons (kVar 14) kNil)))) (kCall 3 m_way_of [] (kCons (kVar 6) (kCons (kVar 5) (kCons (kVar 14) kNil)))))) (me := kVar 14) (ρ := [.no, .pen, s2, s3, s4, .val (logD n bs), .val (.str z), .val (.int n), s8, s9, s10, s11, s12, s13, .no, s15, s16, s17, s18, s19, .val (logD (n + 1) bs), s21, s22, s23]) (p := p) (g := fun i : Nat => D.int (i : Int)) (h := fun i : Nat => .int (i : Int)) (keep := fun _ => false) (List.range n) [] (fun i hi => by
    have hi := List.mem_range.mp hi
    have e1 := way_of hw hz (h := i) (by omega)
    have e2 := way_of hb hz hi
    have n1 := neD_refl (nice_way (fun w hw' => (way_name hz hb.ok w hw').str) (ws := wayOf z i bs)).fit
    exact ⟨by simp [e1, e2, n1], fun h => by cases h⟩) (by simp; omega)
  rw [List.filter_eq_nil_iff.mpr (fun _ _ => by simp)] at el
  have el : lcGo _ _ _ _ (numsD (List.range n)) _ _ = .ok ([], p) := el
  have e3 := way_of hw hz (h := n) (by omega)
  rw [way_wide hb.ok] at e3
  have e4 : [((1 : Nat), z)].map wayD = [.tup [.int 1, .str z]] := rfl
  rw [e4] at e3
  have n1 := neD_refl (show Nice 2 (.tup [.tup [.int 1, .str z]]) by simp [hz.str]).fit
  simp [a18, er, el, e3, n1]
end
end K60
end
section
set_option Elab.async false
set_option linter.all false
set_option maxRecDepth 100000
set_option maxHeartbeats 1000000
namespace K60
open PySem PySem.Spec L2 Dn
section
variable {N n m at_ : Nat} {p : Pen} {zs ts : List Str} {z : Str} {bs cs : List Bk} {ord lat : List Nat} {s2 s3 s4 s5 s6 s7 s8 s9 s10 s11 s12 s13 s14 s15 s16 s17 s18 s19 s20 s21 s22 s23 : Sl}
theorem st19 (hp : PenIs N p) (hN : N ≤ 100000000) (l1 : zs.length = 4) (l2 : ts.length = 2) (o1 : ∀ z ∈ zs, NameOk z) (o2 : ∀ z ∈ ts, NameOk z) : ∃ m cs p', a19 [.no, .pen, s2, .val (.lst (zs.map D.str)), .val (.lst (ts.map D.str)), s5, s6, s7, s8, s9, s10, s11, s12, s13, s14, s15, s16, s17, s18, s19, s20, s21, s22, s23] p = .ok (.nx, [.no, .pen, s2, .val (.lst (zs.map D.str)), .val (.lst (ts.map D.str)), s5, s6, s7, s8, s9, s10, s11, s12, s13, s14, s15, s16, s17, s18, s19, s20, .val (logD m cs), s22, s23], p') ∧ m ≤ 4 ∧ LogOk m cs ∧ cs.length ≤ 4 ∧ PenIs (N + 2001) p' := by
  obtain ⟨r, p1, e1, r0, r5, hp1⟩ := draw_ok (many := 4) hp (by omega) (by decide) (by decide)
  obtain ⟨j, rfl⟩ : ∃ j : Nat, r = j := ⟨r.toNat, by omega⟩
  obtain ⟨bs, p2, e2, hb, hl, hp2⟩ := log_draw (n := j + 1) (k := 4) (zs := zs) (ts := ts) hp1 (by omega) (by omega) (by omega) (by decide) (by decide) (fun e => by rw [e] at l1; simp at l1) (by omega) o1 (fun e => by rw [e] at l2; simp at l2) (by omega) o2
  have ej : (1 : Int) + j = ((j + 1 : Nat) : Int) := by omega
  refine ⟨j + 1, bs, p2, ?_, by omega, hb, hl, hp2.mono (by omega)⟩
  have e2 : m__law_drawn_log [.int ((j + 1 : Nat) : Int), .lst (zs.map D.str), .lst (ts.map D.str), .int 4] p1 = _ := e2
  rw [← ej] at e2
  simp [a19, e1, e2]
theorem st20 (hb : LogOk n bs) (hc : LogOk m cs) : a20 [.no, .pen, s2, s3, s4, .val (logD n bs), s6, s7, s8, s9, s10, s11, s12, s13, s14, s15, s16, s17, s18, s19, s20, .val (logD m cs), s22, s23] p = .ok (.nx, [.no, .pen, s2, s3, s4, .val (logD n bs), s6, s7, s8, s9, s10, s11, s12, s13, s14, s15, s16, s17, s18, s19, s20, .val (logD m cs), .val (logD (n + m) (bs ++ cs.map (renB (· + n)))), s23], p) := by
  have e := beside_ok hb hc
  generalize logD (n + m) (bs ++ cs.map (renB (· + n))) = L at *
  simp [a20, e]
theorem st21 (hn : n ≤ 6) (hm : m ≤ 4) (hb : LogOk n bs) (hc : LogOk m cs) (hl : bs.length ≤ 6) (hl2 : cs.length ≤ 4) (hz : NameOk z) : a21 [.no, .pen, s2, s3, s4, .val (logD n bs), .val (.str z), s7, s8, s9, s10, s11, s12, s13, s14, s15, s16, s17, s18, s19, s20, .val (logD m cs), .val (logD (n + m) (bs ++ cs.map (renB (· + n)))), s23] p = .ok (.nx, [.no, .pen, s2, s3, s4, .val (logD n bs), .val (.str z), s7, s8, s9, s10, s11, s12, s13, s14, s15, s16, s17, s18, s19, s20, .val (logD m cs), .val (logD (n + m) (bs ++ cs.map (renB (· + n)))), s23], p) := by
  have hw := both_ok hb hc (by omega) (by omega)
  have e1 := log_is hw
  have e2 := counts_behind hw hz
  have e3 := counts_behind hb hz
  have e4 := counts_behind hc hz
  have nm : ∀ s ∈ stOf z n bs ++ stOf z m cs, PyData.strOk s = true := fun s hs => by
    rcases List.mem_append.mp hs with hs | hs
    · exact (st_name hz hb.ok s hs).str
    · exact (st_name hz hc.ok s hs).str
  have e5 := sum_ok (zs := stOf z n bs) (ws := stOf z m cs) nm (by rw [stOf_len, stOf_len]; omega)
  rw [← st_both hb.ok hc.ok] at e5
  have e6 := same2 (sm_cnt (zs := stOf z (n + m) (bs ++ cs.map (renB (· + n)))) (by rw [stOf_len]; omega))
  generalize logD (n + m) (bs ++ cs.map (renB (· + n))) = L at *
  generalize cntL (stOf z (n + m) (bs ++ cs.map (renB (· + n)))) = A1 at *
  generalize cntL (stOf z n bs) = A2 at *
  generalize cntL (stOf z m cs) = A3 at *
  simp [a21, e1, e2, e3, e4, e5, e6]
theorem st22 (hn : n ≤ 6) (hm : m ≤ 4) (hb : LogOk n bs) (hc : LogOk m cs) (hl : bs.length ≤ 6) (hl2 : cs.length ≤ 4) (hz : NameOk z) : a22 [.no, .pen, s2, s3, s4, .val (logD n bs), .val (.str z), .val (.int n), s8, s9, s10, s11, s12, s13, s14, s15, s16, s17, s18, s19, s20, .val (logD m cs), .val (logD (n + m) (bs ++ cs.map (renB (· + n)))), s23] p = .ok (.nx, [.no, .pen, s2, s3, s4, .val (logD n bs), .val (.str z), .val (.int n), s8, s9, s10, s11, s12, s13, s14, s15, s16, s17, s18, s19, s20, .val (logD m cs), .val (logD (n + m) (bs ++ cs.map (renB (· + n)))), s23], p) := by
  have hw := both_ok hb hc (by omega) (by omega)
  have e1 := states_behind hw hz
  have e2 := states_behind hb hz
  have e3 := states_behind hc hz
  have e4 := quiet_hands hw
  have e5 := quiet_hands hb
  have e6 := quiet_hands hc
  have a1 : addD (.tup ((stOf z n bs).map D.str)) (.tup ((stOf z m cs).map D.str)) = some (.tup ((stOf z (n + m) (bs ++ cs.map (renB (· + n)))).map D.str)) := by
    rw [addD_tup, if_pos (by rw [line_val]; simp; omega), st_both hb.ok hc.ok, List.map_append]
  have lq : ∀ (k : Nat) (ds : List Bk), (quiet k ds).length ≤ k := fun k ds => by
    have := List.length_filter_le (fun h => !decide (h ∈ (allCh ds).map (·.1))) (List.range k)
    simpa [quiet] using this
  have l1 := lq n bs
  have l2 := lq m cs
  have a2 : addD (.tup (numsD (quiet n bs))) (.tup (numsD ((quiet m cs).map (· + n)))) = some (.tup (numsD (quiet (n + m) (bs ++ cs.map (renB (· + n)))))) := by
    rw [addD_tup, if_pos (by rw [line_val]; simp; omega), quiet_both hb.ok hc.ok]
    unfold numsD
    rw [List.map_append]
  have el := lcGo_pure (mg := gkN 14) (mt := kYes) (me := kOp addD (kVar 14) (kVar 7)) (ρ := [.no, .pen, s2, s3, s4, .val (logD n bs), .val (.str z), .val (.int n), s8, s9, s10, s11, s12, s13, .no, s15, s16, s17, s18, s19, s20, .val (logD m cs), .val (logD (n + m) (bs ++ cs.map (renB (· + n)))), s23]) (p := p) (g := fun i : Nat => D.int (i : Int)) (h := fun i : Nat => .int ((i + n : Nat) : Int)) (keep := fun _ => true) (quiet m cs) [] (fun i hi => by simp) (by simp; omega)
  rw [List.filter_eq_self.mpr (fun _ _ => rfl), List.nil_append] at el
  have e7 : (quiet m cs).map (fun i : Nat => D.int ((i + n : Nat) : Int)) = numsD ((quiet m cs).map (· + n)) := by
    unfold numsD
    rw [List.map_map]
    rfl
  rw [e7] at el
  have el : lcGo _ _ _ _ (numsD (quiet m cs)) _ _ = _ := el
  have n1 := neD_refl (nice_st (zs := stOf z (n + m) (bs ++ cs.map (renB (· + n)))) (fun s hs => (st_name hz hw.ok s hs).str)).fit
  have n2 := neD_refl (nice_nums (is := quiet (n + m) (bs ++ cs.map (renB (· + n))))).fit
  generalize logD (n + m) (bs ++ cs.map (renB (· + n))) = L at *
  generalize (stOf z (n + m) (bs ++ cs.map (renB (· + n)))).map D.str = A1 at *
  generalize (stOf z n bs).map D.str = A2 at *
  generalize (stOf z m cs).map D.str = A3 at *
  generalize numsD (quiet (n + m) (bs ++ cs.map (renB (· + n)))) = A4 at *
  generalize numsD (quiet n bs) = A5 at *
  generalize numsD (quiet m cs) = A6 at *
  generalize numsD ((quiet m cs).map (· + n)) = A7 at *
  simp [-addD_tup, a22, e1, e2, e3, e4, e5, e6, a1, a2, el, n1, n2]
theorem st23 (hn : n ≤ 6) (hm : m ≤ 4) (hb : LogOk n bs) (hc : LogOk m cs) (hl : bs.length ≤ 6) (hl2 : cs.length ≤ 4) : a23 [.no, .pen, s2, s3, s4, .val (logD n bs), s6, s7, s8, s9, s10, s11, s12, s13, s14, s15, s16, s17, s18, s19, s20, .val (logD m cs), .val (logD (n + m) (bs ++ cs.map (renB (· + n)))), s23] p = .ok (.nx, [.no, .pen, s2, s3, s4, .val (logD n bs), s6, s7, s8, s9, s10, s11, s12, s13, s14, s15, s16, s17, s18, s19, s20, .val (logD m cs), .val (logD (n + m) (bs ++ cs.map (renB (· + n)))), s23], p) := by
  have hw := both_ok hb hc (by omega) (by omega)
  have e1 := stops_of hw
  have e2 := stops_of hb
  have e3 := stops_of hc
  have f : ∀ ds : List Bk, lenD [.tup ((pre ds).map fun q => .int (posI q))] = some (.int ((ds.length : Int) + 1)) := fun ds => by
    rw [lenD_tup, List.length_map, pre_len]
    rfl
  have f1 := f (bs ++ cs.map (renB (· + n)))
  rw [List.length_append, List.length_map] at f1
  have f2 := f bs
  have f3 := f cs
  have g : (((bs.length + cs.length : Nat) : Int) + 1) = (bs.length : Int) + 1 + ((cs.length : Int) + 1) - 1 := by omega
  rw [g] at f1
  generalize logD (n + m) (bs ++ cs.map (renB (· + n))) = L at *
  generalize (pre (bs ++ cs.map (renB (· + n)))).map (fun q => D.int (posI q)) = A1 at *
  generalize (pre bs).map (fun q => D.int (posI q)) = A2 at *
  generalize (pre cs).map (fun q => D.int (posI q)) = A3 at *
  generalize (bs.length : Int) + 1 = x1 at *
  generalize (cs.length : Int) + 1 = x2 at *
  simp [a23, e1, e2, e3, f1, f2, f3]
end
end K60
end
section
set_option Elab.async false
set_option linter.all false
set_option maxRecDepth 100000
set_option maxHeartbeats 1000000
namespace K60
open PySem PySem.Spec L2 Dn
/-! ### what is refused -/
structure Bad (n : Nat) (bs : List Bk) (bad : D) : Prop where
  er : m_renumbered_log [logD n bs, bad] = .error (.exn 0 [bad, .str "order"])
  rp : ∃ z, reprD1 bad = some z ∧ PyData.strOk z = true
abbrev bdB : KS := kIfS (kT (kOp neD (kWhy whyC 1 (kCall 2 m_renumbered_log [] (kCons (kVar 5) (kCons (kVar 23) kNil)))) (kTup (kCons (kC (.str "row")) (kCons (kC (.str "order")) (kCons (kCa reprD (kCons (kVar 23) kNil)) kNil)))))) (kRet (kC (.bl false))) kNext
theorem so_w : PyData.strOk (Str.ofString "row") = true ∧ PyData.strOk (Str.ofString "order") = true ∧ PyData.strOk (Str.ofString "log") = true := by decide +kernel
section
variable {N n m at_ : Nat} {p : Pen} {zs ts : List Str} {z : Str} {bs cs : List Bk} {ord lat : List Nat} {s2 s3 s4 s5 s6 s7 s8 s9 s10 s11 s12 s13 s14 s15 s16 s17 s18 s19 s20 s21 s22 s23 : Sl}
theorem bad_go (hp : PenIs N p) : ∀ (bads : List D) (s23 : Sl), (∀ b ∈ bads, Bad n bs b) → ∃ t23, Goes (gkN 23) bdB bads [.no, .pen, s2, s3, s4, .val (logD n bs), s6, s7, s8, s9, s10, s11, s12, s13, s14, s15, s16, s17, s18, s19, s20, s21, s22, s23] p [.no, .pen, s2, s3, s4, .val (logD n bs), s6, s7, s8, s9, s10, s11, s12, s13, s14, s15, s16, s17, s18, s19, s20, s21, s22, t23] p
  | [], s23, _ => ⟨s23, rfl, rfl⟩
  | b :: bads, s23, h => by
    obtain ⟨t23, ih⟩ := bad_go hp bads (.val b) fun y hy => h y (List.mem_cons_of_mem _ hy)
    obtain ⟨er, zz, hz, oz⟩ := h b List.mem_cons_self
    obtain ⟨cs', a, d, c, f, rfl, _⟩ := hp
    have hw := why_row (ρ := [.no, .pen, s2, s3, s4, .val (logD n bs), s6, s7, s8, s9, s10, s11, s12, s13, s14, s15, s16, s17, s18, s19, s20, s21, s22, .val b]) (i := 1) (m := kCall 2 m_renumbered_log [] (kCons (kVar 5) (kCons (kVar 23) kNil))) (cs := cs') (a := a) (d := d) (c := c) (f := f) (bad := b) (w := "order") (z := zz) rfl (by
      simp [plainSs, plainS, er]) hz
    have hr : reprD [b] = some (.str zz) := by
      show (reprD1 b).map D.str = _
      rw [hz]
      rfl
    have n1 := neD_refl (show Nice 1 (.tup [.str "row", .str "order", .str zz]) by simp [so_w.1, so_w.2.1, oz]).fit
    exact ⟨t23, .nx, _, _, by simp [-kWhy_ap, hw, hr, n1], .inl rfl, ih⟩
theorem ren_nats (h : LogOk n bs) {is : List Nat} (hi : ∀ i ∈ is, i < n) (hl : is.length ≤ 100) (hp : ¬ is.Perm (List.range n)) : Bad n bs (.tup (numsD is)) := by
  refine ⟨ren_unsorted h hi (by omega) fun e => hp ?_, ?_⟩
  · have p1 : ((List.range n).map fun i : Nat => (i : Int)).Perm (is.map fun i : Nat => (i : Int)) := by
      rw [← e]
      exact List.mergeSort_perm _ _
    have p2 := p1.map Int.toNat
    rw [List.map_map, List.map_map] at p2
    have e3 : Int.toNat ∘ (fun i : Nat => (i : Int)) = id := by
      funext i
      simp
    rw [e3, List.map_id, List.map_id] at p2
    exact p2.symm
  · have hn := h.hi
    refine repr_seq (B := is.length * (2 + 2) + 3) (k := 1) ?_ (by omega) rfl nice_nums (by decide)
    have := shw_tup (B := 2) (ds := numsD is) fun d hd => by
      obtain ⟨i, hi', rfl⟩ := List.mem_map.mp hd
      exact shw_nat i (by have := hi i hi'; omega)
    rw [numsD_len] at this
    exact this
theorem bad_tup (h : LogOk n bs) {x : D} {is : List Nat} {w : D → Bool} (hx : Shw 5 x) (nx : Nice 0 x) (hi : ∀ i ∈ is, i ≤ n) (hl : is.length ≤ 100) (a b : List D) (hab : a ++ b = numsD is) (hw : ∀ d ∈ a ++ x :: b, m_is_whole [d, .int 0, .int ((n : Int) - 1)] = .ok (.bl (w d))) (hf : w x = false) : Bad n bs (.tup (a ++ x :: b)) := by
  have hlen : (a ++ b).length = is.length := by rw [hab, numsD_len]
  simp only [List.length_append] at hlen
  refine ⟨ren_unfine h hw (by simp; omega) (by
    rw [List.all_append, List.all_cons, hf]
    simp), ?_⟩
  have hn := h.hi
  have each : ∀ d ∈ a ++ x :: b, Shw 5 d ∧ Nice 0 d := fun d hd => by
    have hd : d = x ∨ d ∈ numsD is := by
      rw [← hab]
      simp only [List.mem_append, List.mem_cons] at hd ⊢
      rcases hd with hd | hd | hd
      · exact .inr (.inl hd)
      · exact .inl hd
      · exact .inr (.inr hd)
    rcases hd with rfl | hd
    · exact ⟨hx, nx⟩
    · obtain ⟨i, hi', rfl⟩ := List.mem_map.mp hd
      exact ⟨(shw_nat i (by have := hi i hi'; omega)).mono (by decide), by simp⟩
  refine repr_seq (B := (a ++ x :: b).length * (5 + 2) + 3) (k := 1) (shw_tup fun d hd => (each d hd).1) (by simp; omega) rfl ?_ (by decide)
  rw [nice_tup]
  exact fun d hd => (each d hd).2
theorem cut_last {α : Type} (xs : List α) : cutA xs none (some (-1)) = xs.dropLast := by
  unfold cutA HT.sIx
  simp only [List.drop_zero, Nat.sub_zero]
  rw [if_pos (by decide), List.dropLast_eq_take]
  congr 1
  omega
theorem st24 (I : IsOrd n ord) (h2 : 2 ≤ n) (hn : n ≤ 6) (hb : LogOk n bs) (hp : PenIs N p) : ∃ t23, a24 [.no, .pen, s2, s3, s4, .val (logD n bs), s6, .val (.int n), .cln (.tup (numsD ord)), s9, s10, s11, s12, s13, s14, s15, s16, s17, s18, s19, s20, s21, s22, s23] p = .ok (.nx, [.no, .pen, s2, s3, s4, .val (logD n bs), s6, .val (.int n), .cln (.tup (numsD ord)), s9, s10, s11, s12, s13, s14, s15, s16, s17, s18, s19, s20, s21, s22, t23], p) := by
  have lo := I.len
  have ltO : ∀ i ∈ ord, i < n := fun i hi => List.mem_range.mp (I.perm.mem_iff.mp hi)
  -- each of them
  have b1 : Bad n bs .non := ⟨ren_notup hb rfl, repr_non⟩
  have b2 : Bad n bs (.int 5) := ⟨ren_notup hb rfl, by exact repr_nat (i := 5) (by decide)⟩
  have b3 : Bad n bs (.tup (numsD ord.dropLast)) := ren_nats hb (fun i hi => ltO i ((List.dropLast_sublist ord).subset hi)) (by rw [List.length_dropLast]; omega) fun hp => by
    have := hp.length_eq
    rw [List.length_dropLast, List.length_range] at this
    omega
  have wh : ∀ d ∈ numsD ord, m_is_whole [d, .int 0, .int ((n : Int) - 1)] = .ok (.bl true) := fun d hd => by
    obtain ⟨i, hi, rfl⟩ := List.mem_map.mp hd
    rw [whole_hand, decide_eq_true (ltO i hi)]
  have b4 : Bad n bs (.tup (numsD ord ++ [.int n])) := by
    refine bad_tup (is := ord) (w := fun d => !decide (d = .int n)) hb ((shw_nat n (by omega)).mono (by decide)) (by simp) (fun i hi => by have := ltO i hi; omega) (by omega) (numsD ord) [] (by simp) (fun d hd => ?_) (by simp)
    rcases List.mem_append.mp hd with hd | hd
    · rw [wh d hd]
      obtain ⟨i, hi, rfl⟩ := List.mem_map.mp hd
      have := ltO i hi
      have h3 : ¬ (i : Int) = n := by omega
      simp [h3]
    · rw [List.mem_singleton.mp hd, whole_hand]
      simp
  have b5 : Bad n bs (.tup (numsD (List.replicate n 0))) := ren_nats hb (fun i hi => by rw [(List.mem_replicate.mp hi).2]; omega) (by simp; omega) fun hp => by
    have nd := hp.nodup_iff.mpr List.nodup_range
    obtain ⟨k, rfl⟩ : ∃ k, n = k + 2 := ⟨n - 2, by omega⟩
    rw [List.replicate_succ, List.replicate_succ] at nd
    simp at nd
  have b6 : Bad n bs (.lst (numsD ord)) := ⟨ren_notup hb rfl, by
    refine repr_seq (B := (numsD ord).length * (2 + 2) + 3) (k := 1) (shw_lst fun d hd => ?_) (by simp; omega) rfl nice_numsL (by decide)
    obtain ⟨i, hi', rfl⟩ := List.mem_map.mp hd
    exact shw_nat i (by have := ltO i hi'; omega)⟩
  have hd1 : (numsD ord).drop 1 = numsD (ord.drop 1) := by unfold numsD; rw [List.map_drop]
  have b7 : ∀ x, (x = .bl true ∨ x = .non) → Bad n bs (.tup (x :: numsD (ord.drop 1))) := fun x hx => by
    have hx1 : Shw 5 x := by
      rcases hx with rfl | rfl
      · exact shw_bl true
      · exact shw_non.mono (by decide)
    refine bad_tup (is := ord.drop 1) (w := fun d => !decide (d = x)) hb hx1 (by rcases hx with rfl | rfl <;> simp) (fun i hi => by have := ltO i (List.mem_of_mem_drop hi); omega) (by simp; omega) [] (numsD (ord.drop 1)) rfl (fun d hd => ?_) (by simp)
    rw [List.nil_append] at hd
    rcases List.mem_cons.mp hd with rfl | hd
    · rcases hx with rfl | rfl
      · rw [whole_bl]; simp
      · rw [whole_non]; simp
    · obtain ⟨i, hi, rfl⟩ := List.mem_map.mp hd
      rw [whole_hand, decide_eq_true (ltO i (List.mem_of_mem_drop hi))]
      rcases hx with rfl | rfl <;> simp
  -- the list
  have e3 : sliceD (.tup (numsD ord)) none (some (-1)) = some (.tup (numsD ord.dropLast)) := by
    rw [sliceD_tup, cut_last]
    unfold numsD
    rw [List.map_dropLast]
  have e4 : addD (.tup (numsD ord)) (.tup [.int n]) = some (.tup (numsD ord ++ [.int n])) := by
    rw [addD_tup, if_pos (by rw [line_val]; simp; omega)]
  have e5 : repT (.tup [.int 0]) (.int n) = some (.tup (numsD (List.replicate n 0))) := by
    show (if 2 ≤ (n : Int) ∧ (n : Int) ≤ 1000 ∧ _ then _ else _) = _
    rw [if_pos ⟨by omega, by omega, by simp, by simp⟩]
    unfold numsD
    simp
  have e6 : sliceD (.tup (numsD ord)) (some 1) none = some (.tup (numsD (ord.drop 1))) := by
    rw [sliceD_tup, cutA_f1, hd1]
  have a7 : ∀ x : D, addD (.tup [x]) (.tup (numsD (ord.drop 1))) = some (.tup (x :: numsD (ord.drop 1))) := fun x => by
    rw [addD_tup, if_pos (by rw [line_val]; simp; omega)]
    rfl
  obtain ⟨i0, h0⟩ : ∃ i0 : Nat, ixD (.tup (numsD ord)) (.int 0) = some (.int i0) := by
    have := ord_tup (ord := ord) 0 (by omega)
    exact ⟨_, this⟩
  have l7 : (7 : Nat) ≤ 16777216 := by decide
  by_cases hq : (i0 : Int) = 1
  · obtain ⟨t23, g⟩ := bad_go (s2 := s2) (s3 := s3) (s4 := s4) (s6 := s6) (s7 := .val (.int n)) (s8 := .cln (.tup (numsD ord))) (s9 := s9) (s10 := s10) (s11 := s11) (s12 := s12) (s13 := s13) (s14 := s14) (s15 := s15) (s16 := s16) (s17 := s17) (s18 := s18) (s19 := s19) (s20 := s20) (s21 := s21) (s22 := s22) hp [.non, .int 5, .tup (numsD ord.dropLast), .tup (numsD ord ++ [.int n]), .tup (numsD (List.replicate n 0)), .lst (numsD ord), .tup (.bl true :: numsD (ord.drop 1))] s23 (fun b hb' => by
      simp only [List.mem_cons, List.not_mem_nil, or_false] at hb'
      rcases hb' with rfl | rfl | rfl | rfl | rfl | rfl | rfl
      · exact b1
      · exact b2
      · exact b3
      · exact b4
      · exact b5
      · exact b6
      · exact b7 _ (.inl rfl))
    have e := g.ok
    refine ⟨t23, ?_⟩
    generalize numsD (ord.drop 1) = OD at *
    simp [-addD_tup, -sliceD_tup, -ixD_tup, a24, e3, e4, e5, e6, a7, h0, hq]
    exact e
  · obtain ⟨t23, g⟩ := bad_go (s2 := s2) (s3 := s3) (s4 := s4) (s6 := s6) (s7 := .val (.int n)) (s8 := .cln (.tup (numsD ord))) (s9 := s9) (s10 := s10) (s11 := s11) (s12 := s12) (s13 := s13) (s14 := s14) (s15 := s15) (s16 := s16) (s17 := s17) (s18 := s18) (s19 := s19) (s20 := s20) (s21 := s21) (s22 := s22) hp [.non, .int 5, .tup (numsD ord.dropLast), .tup (numsD ord ++ [.int n]), .tup (numsD (List.replicate n 0)), .lst (numsD ord), .tup (.non :: numsD (ord.drop 1))] s23 (fun b hb' => by
      simp only [List.mem_cons, List.not_mem_nil, or_false] at hb'
      rcases hb' with rfl | rfl | rfl | rfl | rfl | rfl | rfl
      · exact b1
      · exact b2
      · exact b3
      · exact b4
      · exact b5
      · exact b6
      · exact b7 _ (.inr rfl))
    have e := g.ok
    refine ⟨t23, ?_⟩
    generalize numsD (ord.drop 1) = OD at *
    simp [-addD_tup, -sliceD_tup, -ixD_tup, a24, e3, e4, e5, e6, a7, h0, hq]
    exact e
end
end K60
end
section
set_option Elab.async false
set_option linter.all false
set_option maxRecDepth 100000
set_option maxHeartbeats 1000000
namespace K60
open PySem PySem.Spec L2 Dn
/-! ### the end of the law -/
theorem shw_row {n : Nat} {B : Bk} (h : BkOk n B) (hn : n ≤ 30) : ∀ x ∈ rows B, Shw 83 x := by
  have word : ∀ w : String, (∀ c ∈ (Str.ofString w).cps.toList, (97 ≤ c ∧ c < 123) ∨ (48 ≤ c ∧ c < 58)) → (Str.ofString w).length ≤ 12 → Shw 14 (.str w) := fun w h1 h2 => shw_al h1 h2
  have wm : Shw 14 (.str "meet") := word "meet" (by decide +kernel) (by decide +kernel)
  have ws : Shw 14 (.str "shout") := word "shout" (by decide +kernel) (by decide +kernel)
  have wh : Shw 14 (.str "hear") := word "hear" (by decide +kernel) (by decide +kernel)
  have nat : ∀ i : Nat, i < n → Shw 14 (.int i) := fun i hi => (shw_nat i (by omega)).mono (by decide)
  have nam : ∀ s, NameOk s → Shw 14 (.str s) := fun s hs => shw_al hs.al hs.len
  intro x hx
  cases B with
  | meet a b s t =>
    obtain ⟨h1, h2, h3, h4, h5⟩ := h
    rw [List.mem_singleton.mp hx]
    refine (shw_tup (B := 14) fun d hd => ?_).mono (by simp)
    simp only [List.mem_cons, List.not_mem_nil, or_false] at hd
    rcases hd with rfl | rfl | rfl | rfl | rfl
    · exact wm
    · exact nat a h1
    · exact nat b h2
    · exact nam s h4
    · exact nam t h5
  | shout a l s hs =>
    obtain ⟨h1, h2, h3, h4, h5⟩ := h
    rcases List.mem_cons.mp hx with rfl | hx
    · refine (shw_tup (B := 14) fun d hd => ?_).mono (by simp)
      simp only [List.mem_cons, List.not_mem_nil, or_false] at hd
      rcases hd with rfl | rfl | rfl | rfl
      · exact ws
      · exact nat a h1
      · exact nam l h2
      · exact nam s h3
    · obtain ⟨g, hg, rfl⟩ := List.mem_map.mp hx
      obtain ⟨g1, g2, g3⟩ := h5 g hg
      refine (shw_tup (B := 14) fun d hd => ?_).mono (by simp)
      simp only [List.mem_cons, List.not_mem_nil, or_false] at hd
      rcases hd with rfl | rfl | rfl | rfl
      · exact wh
      · exact nat g.1 g1
      · exact nam l h2
      · exact nam g.2 g3
section
variable {N n m at_ : Nat} {p : Pen} {zs ts : List Str} {z : Str} {bs cs : List Bk} {ord lat : List Nat} {s2 s3 s4 s5 s6 s7 s8 s9 s10 s11 s12 s13 s14 s15 s16 s17 s18 s19 s20 s21 s22 s23 : Sl}
theorem no_head {B : Bk} : ∃ x r, rows B = x :: r ∧ m_is_head [x] = .ok (.bl false) := by
  cases B with
  | meet a b s t => exact ⟨_, _, rfl, by simp [m_is_head, b_is_head, mD]⟩
  | shout a l s hs => exact ⟨_, _, rfl, by simp [m_is_head, b_is_head, sD]⟩
theorem no_log (hb : LogOk n bs) : m_renumbered_log [.tup (evs bs), .non] = .error (.exn 0 [.tup (evs bs), .str "log"]) := by
  obtain ⟨x, r, hx, hh⟩ : ∃ x r, evs bs = x :: r ∧ m_is_head [x] = .ok (.bl false) := by
    cases bs with
    | nil => exact absurd rfl hb.ne
    | cons b bs =>
      obtain ⟨x, r, h1, h2⟩ := no_head (B := b)
      exact ⟨x, r ++ evs bs, by show rows b ++ evs bs = _; rw [h1]; rfl, h2⟩
  have hf : fit (.tup (x :: r)) = true := by
    rw [← hx]
    exact (show Nice 2 (.tup (evs bs)) by rw [nice_tup]; exact nice_evs hb.ok).fit
  have e0 := eqD_cn hf
  rw [hx]
  have e1 : m_is_log [.tup (x :: r)] = .ok (.bl false) := by
    simp [m_is_log, b_is_log, e0, hh]
  simp [m_renumbered_log, b_renumbered_log, m_need_log, b_need_log, e1]
theorem st25 (hb : LogOk n bs) (hp : PenIs N p) : a25 [.no, .pen, s2, s3, s4, .val (logD n bs), s6, s7, s8, s9, s10, s11, s12, s13, s14, s15, s16, s17, s18, s19, s20, s21, s22, s23] p = .ok (.nx, [.no, .pen, s2, s3, s4, .val (logD n bs), s6, s7, s8, s9, s10, s11, s12, s13, s14, s15, s16, s17, s18, s19, s20, s21, s22, s23], p) := by
  have s1 : sliceD (logD n bs) (some 1) none = some (.tup (evs bs)) := by unfold logD; simp
  have er := no_log hb
  have hl := hb.len
  obtain ⟨zz, hz, oz⟩ := repr_seq (B := (evs bs).length * (83 + 2) + 3) (k := 2) (d := .tup (evs bs)) (shw_tup fun d hd => by
    obtain ⟨B, hB, hd⟩ := List.mem_flatMap.mp hd
    exact shw_row (hb.ok B hB) hb.hi d hd) (by omega) rfl (by rw [nice_tup]; exact nice_evs hb.ok) (by decide)
  obtain ⟨cs', a, d, c, f, rfl, _⟩ := hp
  have hw := why_row (ρ := [.no, .pen, s2, s3, s4, .val (logD n bs), s6, s7, s8, s9, s10, s11, s12, s13, s14, s15, s16, s17, s18, s19, s20, s21, s22, s23]) (i := 1) (m := kCall 2 m_renumbered_log [] (kCons (kSl (kVar 5) (kPart (kC (.int 1))) kNone) (kCons (kC .non) kNil))) (cs := cs') (a := a) (d := d) (c := c) (f := f) (bad := .tup (evs bs)) (w := "log") (z := zz) rfl (by
    simp [plainSs, plainS, s1, er]) hz
  have hr : reprD [.tup (evs bs)] = some (.str zz) := by
    show (reprD1 (.tup (evs bs))).map D.str = _
    rw [hz]
    rfl
  have n1 := neD_refl (show Nice 1 (.tup [.str "row", .str "log", .str zz]) by simp [so_w.1, so_w.2.2, oz]).fit
  simp [-kWhy_ap, a25, hw, s1, hr, n1]
theorem lap_ok (hp : PenIs N p) (hN : N ≤ 50000000) : ∃ t3 t4 t5 t6 t7 t8 t9 t10 t11 t12 t13 t14 t15 t16 t17 t18 t19 t20 t21 t22 t23 p', lapB [.no, .pen, s2, s3, s4, s5, s6, s7, s8, s9, s10, s11, s12, s13, s14, s15, s16, s17, s18, s19, s20, s21, s22, s23] p = .ok (.nx, [.no, .pen, s2, t3, t4, t5, t6, t7, t8, t9, t10, t11, t12, t13, t14, t15, t16, t17, t18, t19, t20, t21, t22, t23], p') ∧ PenIs (N + 10000) p' := by
  obtain ⟨zs, ts, p1, e1, l1, l2, o1, o2, hp1⟩ := st1 (s2 := s2) (s3 := s3) (s4 := s4) (s5 := s5) (s6 := s6) (s7 := s7) (s8 := s8) (s9 := s9) (s10 := s10) (s11 := s11) (s12 := s12) (s13 := s13) (s14 := s14) (s15 := s15) (s16 := s16) (s17 := s17) (s18 := s18) (s19 := s19) (s20 := s20) (s21 := s21) (s22 := s22) (s23 := s23) hp (by omega)
  obtain ⟨n, bs, p2, e2, n2, n6, hb, hl, hp2⟩ := st2 (s2 := s2) (s5 := s5) (s6 := s6) (s7 := s7) (s8 := s8) (s9 := s9) (s10 := s10) (s11 := s11) (s12 := s12) (s13 := s13) (s14 := s14) (s15 := s15) (s16 := s16) (s17 := s17) (s18 := s18) (s19 := s19) (s20 := s20) (s21 := s21) (s22 := s22) (s23 := s23) hp1 (by omega) l1 l2 o1 o2
  obtain ⟨z, hz⟩ : ∃ z, zs = z :: zs.tail := by
    cases zs with
    | nil => simp at l1
    | cons z r => exact ⟨z, rfl⟩
  have oz : NameOk z := o1 z (by rw [hz]; simp)
  obtain ⟨ord, lat, p4, e4, I, J, hp4⟩ := st4 (s2 := s2) (s3 := (.val (.lst (zs.map D.str)))) (s4 := (.val (.lst (ts.map D.str)))) (s5 := (.val (logD n bs))) (s6 := (.val (.str z))) (s8 := s8) (s9 := s9) (s10 := s10) (s11 := s11) (s12 := s12) (s13 := s13) (s14 := s14) (s15 := s15) (s16 := s16) (s17 := s17) (s18 := s18) (s19 := s19) (s20 := s20) (s21 := s21) (s22 := s22) (s23 := s23) hp2 (by omega) n6
  obtain ⟨at_, p6, e6, ha, hp6⟩ := st6 (s2 := s2) (s3 := (.val (.lst (zs.map D.str)))) (s4 := (.val (.lst (ts.map D.str)))) (s6 := (.val (.str z))) (s7 := (.val (.int n))) (s9 := (.cln (.tup (numsD lat)))) (s11 := s11) (s12 := s12) (s13 := s13) (s14 := s14) (s15 := s15) (s16 := s16) (s17 := s17) (s18 := s18) (s19 := s19) (s20 := s20) (s21 := s21) (s22 := s22) (s23 := s23) I hb hp4 (by omega)
  have hb' := ren_log_ok I.P hb
  obtain ⟨t16, t17, e14⟩ := st14 (s2 := s2) (s3 := (.val (.lst (zs.map D.str)))) (s4 := (.val (.lst (ts.map D.str)))) (s6 := (.val (.str z))) (s7 := (.val (.int n))) (s9 := (.cln (.tup (numsD lat)))) (s10 := (.val (logD n (bs.map (renB (oOf ord)))))) (s12 := (.val (.int at_))) (s13 := (.cln (.tup (numsD ((List.range n).map fun i => oOf lat (oOf ord i)))))) (s14 := s14) (s15 := (.cln (.tup (numsD ((List.range n).map (backOf ord)))))) (s16 := s16) (s17 := s17) (s18 := s18) (s19 := s19) (s20 := s20) (s21 := s21) (s22 := s22) (s23 := s23) (p := p6) I n6 hb
  obtain ⟨t14, e15⟩ := st15 (s2 := s2) (s3 := (.val (.lst (zs.map D.str)))) (s4 := (.val (.lst (ts.map D.str)))) (s9 := (.cln (.tup (numsD lat)))) (s10 := (.val (logD n (bs.map (renB (oOf ord)))))) (s12 := (.val (.int at_))) (s13 := (.cln (.tup (numsD ((List.range n).map fun i => oOf lat (oOf ord i)))))) (s14 := s14) (s15 := (.cln (.tup (numsD ((List.range n).map (backOf ord)))))) (s16 := t16) (s17 := t17) (s18 := s18) (s19 := s19) (s20 := s20) (s21 := s21) (s22 := s22) (s23 := s23) (p := p6) I n6 hb oz
  obtain ⟨m, cs, p19, e19, m4, hc, lc, hp19⟩ := st19 (s2 := s2) (s5 := (.val (logD n bs))) (s6 := (.val (.str z))) (s7 := (.val (.int n))) (s8 := (.cln (.tup (numsD ord)))) (s9 := (.cln (.tup (numsD lat)))) (s10 := (.val (logD n (bs.map (renB (oOf ord)))))) (s11 := (.val (logD n (bs.map (renB (oOf ord)))))) (s12 := (.val (.int at_))) (s13 := (.cln (.tup (numsD ((List.range n).map fun i => oOf lat (oOf ord i)))))) (s14 := t14) (s15 := (.cln (.tup (numsD ((List.range n).map (backOf ord)))))) (s16 := t16) (s17 := t17) (s18 := s18) (s19 := s19) (s20 := (.val (logD (n + 1) bs))) (s21 := s21) (s22 := s22) (s23 := s23) hp6 (by omega) l1 l2 o1 o2
  obtain ⟨t23, e24⟩ := st24 (s2 := s2) (s3 := (.val (.lst (zs.map D.str)))) (s4 := (.val (.lst (ts.map D.str)))) (s6 := (.val (.str z))) (s9 := (.cln (.tup (numsD lat)))) (s10 := (.val (logD n (bs.map (renB (oOf ord)))))) (s11 := (.val (logD n (bs.map (renB (oOf ord)))))) (s12 := (.val (.int at_))) (s13 := (.cln (.tup (numsD ((List.range n).map fun i => oOf lat (oOf ord i)))))) (s14 := t14) (s15 := (.cln (.tup (numsD ((List.range n).map (backOf ord)))))) (s16 := t16) (s17 := t17) (s18 := s18) (s19 := s19) (s20 := (.val (logD (n + 1) bs))) (s21 := (.val (logD m cs))) (s22 := (.val (logD (n + m) (bs ++ cs.map (renB (· + n)))))) (s23 := s23) (p := p19) I n2 n6 hb hp19
  exact ⟨_, _, _, _, _, _, _, _, _, _, _, _, _, _, _, _, _, _, _, _, _, p19, seq_nx e1 (seq_nx e2 (seq_nx (st3 hz) (seq_nx e4 (seq_nx (st5 I hb) (seq_nx e6 (seq_nx (st7 hb' ha) (seq_nx (st8 I J n6) (seq_nx (st9 I n6) (seq_nx (st10 I J n6 hb) (seq_nx (st11 I hb oz) (seq_nx (st12 I n6 hb oz) (seq_nx (st13 I n6 hb) (seq_nx e14 (seq_nx e15 (seq_nx (st16 hb) (seq_nx (st17 n6 hb oz) (seq_nx (st18 n6 hb oz) (seq_nx e19 (seq_nx (st20 hb hc) (seq_nx (st21 n6 m4 hb hc hl lc oz) (seq_nx (st22 n6 m4 hb hc hl lc oz) (seq_nx (st23 n6 m4 hb hc hl lc) (seq_nx e24 (st25 hb hp19)))))))))))))))))))))))), hp19.mono (by omega)⟩
end
theorem pf_bound (ns : List Int) : 0 ≤ penFold penA0 penB0 penF0 ns ∧ penFold penA0 penB0 penF0 ns < 2147483648 := by
  suffices h : ∀ (ns : List Int) (f : Int), 0 ≤ f → f < 2147483648 → 0 ≤ ns.foldl (penStep penA0 penB0) f ∧ ns.foldl (penStep penA0 penB0) f < 2147483648 from h ns penF0 (by decide) (by decide)
  intro ns
  induction ns with
  | nil => intro f h1 h2; exact ⟨h1, h2⟩
  | cons c ns ih =>
    intro f h1 h2
    have h3 : (0 : Int) < penB0 := by decide
    have h4 := Int.emod_nonneg (f * penA0 + c) (show penB0 ≠ 0 by decide)
    have h5 := Int.emod_lt_of_pos (f * penA0 + c) h3
    have h6 : penB0 < 2147483648 := by decide
    exact ih (penStep penA0 penB0 f c) h4 (by show (f * penA0 + c) % penB0 < _; omega)
theorem law_true (ns : List Int) : ∃ ρ p, b_law ((List.replicate 24 Sl.no).set 1 .pen) (.pn ns 0 0 0 (penFold penA0 penB0 penF0 ns)) = .ok (.ret (.bl true), ρ, p) := by
  obtain ⟨f1, f2⟩ := pf_bound ns
  generalize penFold penA0 penB0 penF0 ns = f at *
  have er : rgI 0 5 = some (numsD (List.range 5)) := rg0 (n := 5) (by decide)
  obtain ⟨ρ', p', eg, _⟩ := forGo_inv (mg := gkN 2) (b := lapB) (g := fun i : Nat => D.int (i : Int)) (I := fun pre ρ p => (∃ s2 s3 s4 s5 s6 s7 s8 s9 s10 s11 s12 s13 s14 s15 s16 s17 s18 s19 s20 s21 s22 s23, ρ = [.no, .pen, s2, s3, s4, s5, s6, s7, s8, s9, s10, s11, s12, s13, s14, s15, s16, s17, s18, s19, s20, s21, s22, s23]) ∧ PenIs (10000 * pre.length) p) (List.range 5) [] ((List.replicate 24 Sl.no).set 1 .pen) (.pn ns 0 0 0 f) ⟨⟨_, _, _, _, _, _, _, _, _, _, _, _, _, _, _, _, _, _, _, _, _, _, rfl⟩, ⟨_, _, _, _, _, rfl, by decide, by decide, by decide, by simp, f1, f2⟩⟩ (fun pre' x post ρ p ha ⟨⟨s2, s3, s4, s5, s6, s7, s8, s9, s10, s11, s12, s13, s14, s15, s16, s17, s18, s19, s20, s21, s22, s23, hρ⟩, hp⟩ => by
    subst hρ
    have hlen : pre'.length < 5 := by
      have := congrArg List.length ha
      simp at this
      omega
    obtain ⟨t3, t4, t5, t6, t7, t8, t9, t10, t11, t12, t13, t14, t15, t16, t17, t18, t19, t20, t21, t22, t23, p', e, hp'⟩ := lap_ok (s2 := .val (.int x)) (s3 := s3) (s4 := s4) (s5 := s5) (s6 := s6) (s7 := s7) (s8 := s8) (s9 := s9) (s10 := s10) (s11 := s11) (s12 := s12) (s13 := s13) (s14 := s14) (s15 := s15) (s16 := s16) (s17 := s17) (s18 := s18) (s19 := s19) (s20 := s20) (s21 := s21) (s22 := s22) (s23 := s23) hp (by omega)
    exact ⟨.nx, _, p', e, .inl rfl, ⟨_, _, _, _, _, _, _, _, _, _, _, _, _, _, _, _, _, _, _, _, _, _, rfl⟩, hp'.mono (by rw [List.length_append, List.length_singleton]; omega)⟩)
  have eg : forGo _ _ (numsD (List.range 5)) _ _ = _ := eg
  rw [b_law_eq]
  refine ⟨ρ', p', seq_nx (ρ1 := ρ') (p1 := p') ?_ rfl⟩
  rw [kFor_ap, kRng1_ap]
  simp only [kC_ap, ok_bind, toI_int, ofO_some, er, pure_R]
  exact eg
end K60
end
theorem PySem.Challenge.cw_howevermany_k60_whole_logs_of_renumbered_holds : PySem.Challenge.rw_howevermany_k60_whole_logs_of_renumbered.Holds := by
  exact K60.law_ends fun ns _ => K60.law_true ns
