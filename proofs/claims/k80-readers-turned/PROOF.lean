import PyProof.Rows.All
import Wide.All
import OpenK.AllK
import Wide.FinOn
import HandS.ForMost
import HandS.FStr
import HandS.TupAny
import KE.KUnpackStar
import HandS.ForExc
import HandS.Wide
import PyProof.Rows.RuleB_pow
import HandS.IsInst
import HandS.Defaults
import PyProof.ReprRoads
import HandS.Ends
import HandS.Dict
import PyProof.ReprLen
import HandS.Head0
import HandS.Head1
import HandS.Head2
import HandS.HeadEnd
import HandS.HeadHook1
import HandS.HeadHook2
import HandS.HeadHook3
import KE.GoesNew
import HandS.Deep
import PySem.Challenge.RW_smallreaders_k80_readers_turned
set_option Elab.async false
set_option linter.all false
set_option maxRecDepth 100000
set_option maxHeartbeats 1000000
namespace L3
open PySem PySem.Spec L2

/-- data, as a law's proof sees it: tuples, and lists and dicts that stand still, by what is in them -/
inductive D where
  | non | bl (b : Bool) | int (i : Int) | str (x : Str) | ty (n : String)
  | tup (xs : List D) | lst (xs : List D) | dct (kvs : List (D × D)) | ref (a : Addr) | kls (xs : List D)

def kD : Key → D
  | .inl i => .int i
  | .inr x => .str x

mutual
def Dt (K : PySem.W.Frag) (G : Hp) : D → V → Prop
  | .non, v => v = .non
  | .bl b, v => v = .bl b
  | .int i, v => v = .int i
  | .str x, v => v = .str x
  | .ty n, v => v = .ty n
  | .tup ds, v => ∃ a vs, v = .ref a ∧ SqT K G a vs ∧ Dts K G ds vs
  | .lst ds, v => ∃ a vs, v = .ref a ∧ Rd G a (.lst vs) ∧ Dts K G ds vs
  | .dct kvs, v => ∃ a, v = .ref a ∧ ((∃ es, G a = some (.dK es) ∧ DkK K G kvs es) ∨ ∃ es, G a = some (.dT es) ∧ DkT K G kvs es)
  | .ref a, v => v = .ref a
  | .kls ds, v => ∃ a vs, v = .ref a ∧ SqL K G a vs ∧ Dts K G ds vs
def Dts (K : PySem.W.Frag) (G : Hp) : List D → List V → Prop
  | [], vs => vs = []
  | d :: ds, vs => ∃ v vr, vs = v :: vr ∧ Dt K G d v ∧ Dts K G ds vr
def DkK (K : PySem.W.Frag) (G : Hp) : List (D × D) → List (Key × V) → Prop
  | [], es => es = []
  | (k, d) :: r, es => ∃ x v er, es = (x, v) :: er ∧ k = kD x ∧ Dt K G d v ∧ DkK K G r er
def DkT (K : PySem.W.Frag) (G : Hp) : List (D × D) → List (List Key × V) → Prop
  | [], es => es = []
  | (k, d) :: r, es => ∃ x v er, es = (x, v) :: er ∧ k = .tup (x.map kD) ∧ Dt K G d v ∧ DkT K G r er
end

def Sub (H H' : Hp) : Prop := ∀ a o, H a = some o → H' a = some o
theorem Sub.refl (H : Hp) : Sub H H := fun _ _ h => h
theorem Sub.trans {H H1 H2 : Hp} (a : Sub H H1) (b : Sub H1 H2) : Sub H H2 := fun x o h => b x o (a x o h)
theorem Sub.new {H : Hp} {p : Addr} {o : HO} (h : H p = none) : Sub H (upd H p o) := fun a u e => by
  rw [upd_ne (ne_of_none e h)]; exact e
theorem Sub.rd {H H' : Hp} {a : Addr} {u : HO} (e : Sub H H') (h : Rd H a u) : Rd H' a u := by
  rcases h with h | ⟨o, h⟩
  · exact .inl (e a _ h)
  · exact .inr ⟨o, e a _ h⟩
theorem Sub.sqL {K : PySem.W.Frag} {H H' : Hp} {a : Addr} {xs : List V} (e : Sub H H') (h : SqL K H a xs) : SqL K H' a xs := by
  rcases h with h | h
  · exact .inl (e.rd h)
  · exact .inr h
theorem Sub.sqT {K : PySem.W.Frag} {H H' : Hp} {a : Addr} {xs : List V} (e : Sub H H') (h : SqT K H a xs) : SqT K H' a xs := by
  rcases h with h | h
  · exact .inl (e.rd h)
  · exact .inr h

section
variable {K : PySem.W.Frag} {G G' : Hp}
mutual
theorem Dt.mono (e : Sub G G') : ∀ {d : D} {v : V}, Dt K G d v → Dt K G' d v
  | .non, _, h => h
  | .bl _, _, h => h
  | .int _, _, h => h
  | .str _, _, h => h
  | .ty _, _, h => h
  | .ref _, _, h => h
  | .tup ds, v, h => by
    unfold Dt at h ⊢
    obtain ⟨a, vs, e1, e2, e3⟩ := h
    exact ⟨a, vs, e1, e.sqT e2, Dts.mono e e3⟩
  | .kls ds, v, h => by
    unfold Dt at h ⊢
    obtain ⟨a, vs, e1, e2, e3⟩ := h
    exact ⟨a, vs, e1, e.sqL e2, Dts.mono e e3⟩
  | .lst ds, v, h => by
    unfold Dt at h ⊢
    obtain ⟨a, vs, e1, e2, e3⟩ := h
    exact ⟨a, vs, e1, e.rd e2, Dts.mono e e3⟩
  | .dct kvs, v, h => by
    unfold Dt at h ⊢
    obtain ⟨a, e1, ⟨es, e2, e3⟩ | ⟨es, e2, e3⟩⟩ := h
    · exact ⟨a, e1, .inl ⟨es, e a _ e2, DkK.mono e e3⟩⟩
    · exact ⟨a, e1, .inr ⟨es, e a _ e2, DkT.mono e e3⟩⟩
theorem Dts.mono (e : Sub G G') : ∀ {ds : List D} {vs : List V}, Dts K G ds vs → Dts K G' ds vs
  | [], _, h => h
  | d :: ds, vs, h => by
    unfold Dts at h ⊢
    obtain ⟨v, vr, e1, e2, e3⟩ := h
    exact ⟨v, vr, e1, Dt.mono e e2, Dts.mono e e3⟩
theorem DkK.mono (e : Sub G G') : ∀ {kvs : List (D × D)} {es : List (Key × V)}, DkK K G kvs es → DkK K G' kvs es
  | [], _, h => h
  | (k, d) :: r, es, h => by
    unfold DkK at h ⊢
    obtain ⟨x, v, er, e1, e2, e3, e4⟩ := h
    exact ⟨x, v, er, e1, e2, Dt.mono e e3, DkK.mono e e4⟩
theorem DkT.mono (e : Sub G G') : ∀ {kvs : List (D × D)} {es : List (List Key × V)}, DkT K G kvs es → DkT K G' kvs es
  | [], _, h => h
  | (k, d) :: r, es, h => by
    unfold DkT at h ⊢
    obtain ⟨x, v, er, e1, e2, e3, e4⟩ := h
    exact ⟨x, v, er, e1, e2, Dt.mono e e3, DkT.mono e e4⟩
end
theorem Dts.nil : Dts K G [] [] := by unfold Dts; rfl
theorem Dts.cons {d : D} {v : V} {ds : List D} {vs : List V} (h : Dt K G d v) (r : Dts K G ds vs) : Dts K G (d :: ds) (v :: vs) := by
  unfold Dts; exact ⟨v, vs, rfl, h, r⟩
theorem Dts.length : ∀ {ds : List D} {vs : List V}, Dts K G ds vs → vs.length = ds.length
  | [], _, h => by unfold Dts at h; subst h; rfl
  | d :: ds, vs, h => by
    unfold Dts at h
    obtain ⟨v, vr, rfl, _, r⟩ := h
    simp [Dts.length r]
theorem Dts.append : ∀ {ds es : List D} {vs ws : List V}, Dts K G ds vs → Dts K G es ws → Dts K G (ds ++ es) (vs ++ ws)
  | [], _, _, _, h, r => by unfold Dts at h; subst h; exact r
  | d :: ds, _, vs, _, h, r => by
    unfold Dts at h
    obtain ⟨v, vr, rfl, h1, h2⟩ := h
    exact .cons h1 (Dts.append h2 r)
theorem Dts.snoc {ds : List D} {vs : List V} {d : D} {v : V} (h : Dts K G ds vs) (r : Dt K G d v) : Dts K G (ds ++ [d]) (vs ++ [v]) := h.append (.cons r .nil)
theorem Dts.get : ∀ {ds : List D} {vs : List V} {i : Nat} {d : D}, Dts K G ds vs → ds[i]? = some d → ∃ v, vs[i]? = some v ∧ Dt K G d v
  | [], _, _, _, _, e => by simp at e
  | d :: ds, vs, i, x, h, e => by
    unfold Dts at h
    obtain ⟨v, vr, rfl, h1, h2⟩ := h
    cases i with
    | zero => simp at e; subst e; exact ⟨v, rfl, h1⟩
    | succ i =>
      obtain ⟨w, e1, e2⟩ := Dts.get (i := i) h2 (by simpa using e)
      exact ⟨w, by simpa using e1, e2⟩
theorem Dts.get' {ds : List D} {vs : List V} {i : Nat} {v : V} (h : Dts K G ds vs) (e : vs[i]? = some v) : ∃ d, ds[i]? = some d ∧ Dt K G d v := by
  have hl := h.length
  have hi : i < vs.length := (List.getElem?_eq_some_iff.mp e).1
  obtain ⟨d, hd⟩ : ∃ d, ds[i]? = some d := ⟨ds[i]'(by omega), by simp [List.getElem?_eq_getElem (show i < ds.length by omega)]⟩
  obtain ⟨w, e1, e2⟩ := h.get hd
  rw [e] at e1; cases e1
  exact ⟨d, hd, e2⟩
theorem Dts.take : ∀ {ds : List D} {vs : List V} (n : Nat), Dts K G ds vs → Dts K G (ds.take n) (vs.take n)
  | _, _, 0, _ => .nil
  | [], _, n + 1, h => by unfold Dts at h; subst h; exact .nil
  | d :: ds, vs, n + 1, h => by
    unfold Dts at h
    obtain ⟨v, vr, rfl, h1, h2⟩ := h
    exact .cons h1 (Dts.take n h2)
theorem Dts.drop : ∀ {ds : List D} {vs : List V} (n : Nat), Dts K G ds vs → Dts K G (ds.drop n) (vs.drop n)
  | _, _, 0, h => h
  | [], _, n + 1, h => by unfold Dts at h; subst h; exact .nil
  | d :: ds, vs, n + 1, h => by
    unfold Dts at h
    obtain ⟨v, vr, rfl, h1, h2⟩ := h
    exact Dts.drop n h2
theorem Dts.set : ∀ {ds : List D} {vs : List V} (n : Nat) {d : D} {v : V}, Dts K G ds vs → Dt K G d v → Dts K G (ds.set n d) (vs.set n v)
  | [], _, _, _, _, h, _ => by unfold Dts at h; subst h; exact .nil
  | d :: ds, vs, 0, _, _, h, r => by
    unfold Dts at h
    obtain ⟨v, vr, rfl, h1, h2⟩ := h
    exact .cons r h2
  | d :: ds, vs, n + 1, _, _, h, r => by
    unfold Dts at h
    obtain ⟨v, vr, rfl, h1, h2⟩ := h
    exact .cons h1 (Dts.set n h2 r)
end

/-- what may change, and is told by its address -/
inductive MO where
  | lst (xs : List D) | dct (kvs : List (D × D)) | ins (C : Addr) (fs : List (Str × D))
abbrev Own := Addr → Option MO
def oset (o : Own) (p : Addr) (m : MO) : Own := fun a => if a = p then some m else o a
theorem oset_same {o : Own} {p : Addr} {m : MO} : oset o p m p = some m := by unfold oset; rw [if_pos rfl]
theorem oset_ne {o : Own} {p q : Addr} {m : MO} (h : q ≠ p) : oset o p m q = o q := by unfold oset; rw [if_neg h]
theorem oset_oset {o : Own} {p : Addr} {m m' : MO} : oset (oset o p m) p m' = oset o p m' := by
  funext a; unfold oset; split <;> rfl

def Dfs (K : PySem.W.Frag) (G : Hp) : List (Str × D) → List (Str × V) → Prop
  | [], vs => vs = []
  | (f, d) :: r, vs => ∃ v vr, vs = (f, v) :: vr ∧ Dt K G d v ∧ Dfs K G r vr
def MoR (K : PySem.W.Frag) (G : Hp) : MO → HO → Prop
  | .lst ds, .lst vs => Dts K G ds vs
  | .dct kvs, .dK es => DkK K G kvs es
  | .dct kvs, .dT es => DkT K G kvs es
  | .ins C fs, .ins C' _ fs' => C = C' ∧ Dfs K G fs fs'
  | _, _ => False
section
variable {K : PySem.W.Frag} {G G' : Hp}
theorem Dfs.mono (e : Sub G G') : ∀ {ds : List (Str × D)} {vs : List (Str × V)}, Dfs K G ds vs → Dfs K G' ds vs
  | [], _, h => h
  | (f, d) :: r, vs, h => by
    unfold Dfs at h ⊢
    obtain ⟨v, vr, e1, e2, e3⟩ := h
    exact ⟨v, vr, e1, e2.mono e, Dfs.mono e e3⟩
theorem MoR.mono (e : Sub G G') {m : MO} {o : HO} (h : MoR K G m o) : MoR K G' m o := by
  cases m <;> cases o <;> first | exact (h : False).elim | skip
  · exact Dts.mono e h
  · exact DkK.mono e h
  · exact DkT.mono e h
  · exact ⟨h.1, Dfs.mono e h.2⟩
end
def SzOk : HO → Prop
  | .lst xs => xs.length ≤ sizeLine
  | .tup xs => xs.length ≤ sizeLine
  | .frz _ u => SzOk u
  | _ => True

/-- a world: what is told by address, what stands still, all that is tracked -/
structure Wd where
  own : Own
  G : Hp
  H : Hp
structure Wd.Ok (K : PySem.W.Frag) (w : Wd) : Prop where
  sub : Sub w.G w.H
  own : ∀ p m, w.own p = some m → w.G p = none ∧ ∃ o, w.H p = some o ∧ MoR K w.G m o
  sz : ∀ a o, w.H a = some o → SzOk o
/-- a later world -/
structure Tr (w w' : Wd) : Prop where
  fr : ∀ a o, w.H a = some o → w.own a = none → w'.H a = some o
  gs : Sub w.G w'.G
  gd : ∀ a, w.G a = none → w.H a ≠ none → w.own a = none → w'.G a = none
  od : ∀ a, w.own a = none → w.H a ≠ none → w'.own a = none
  th : ∀ a, w.H a ≠ none → w'.H a ≠ none
theorem Tr.refl (w : Wd) : Tr w w := ⟨fun _ _ h _ => h, Sub.refl _, fun _ h _ _ => h, fun _ h _ => h, fun _ h => h⟩
theorem Tr.trans {w w1 w2 : Wd} (a : Tr w w1) (b : Tr w1 w2) : Tr w w2 where
  fr := fun x o h n => b.fr x o (a.fr x o h n) (a.od x n (by rw [h]; simp))
  gs := a.gs.trans b.gs
  gd := fun x g h n => b.gd x (a.gd x g h n) (a.th x h) (a.od x n h)
  od := fun x n h => b.od x (a.od x n h) (a.th x h)
  th := fun x h => b.th x (a.th x h)
theorem Tr.fresh {w w' : Wd} (t : Tr w w') {p : Addr} (h : w'.H p = none) : w.H p = none := by
  cases e : w.H p with
  | none => rfl
  | some o => exact absurd h (t.th p (by rw [e]; simp))
section
variable {K : PySem.W.Frag} {w : Wd}
theorem Wd.Ok.noown (ok : w.Ok K) {p : Addr} (h : w.H p = none) : w.own p = none := by
  cases e : w.own p with
  | none => rfl
  | some m =>
    obtain ⟨_, o, e1, _⟩ := ok.own p m e
    rw [h] at e1; cases e1
theorem Wd.Ok.noG (ok : w.Ok K) {p : Addr} (h : w.H p = none) : w.G p = none := by
  cases e : w.G p with
  | none => rfl
  | some o =>
    have := ok.sub p o e
    rw [h] at this; cases this
/-- a new thing that stands still -/
def Wd.frz (w : Wd) (p : Addr) (o : HO) : Wd := ⟨w.own, upd w.G p o, upd w.H p o⟩
theorem Wd.Ok.frz (ok : w.Ok K) {p : Addr} {o : HO} (h : w.H p = none) (hz : SzOk o) : (w.frz p o).Ok K ∧ Tr w (w.frz p o) := by
  have hg := ok.noG h
  refine ⟨⟨fun a u e => ?_, fun q m e => ?_, fun a u e => ?_⟩, ⟨fun a u e _ => (Sub.new h) a u e, Sub.new hg, fun a e1 e2 _ => ?_, fun a e1 _ => e1, fun a e => ?_⟩⟩
  · show upd w.H p o a = some u
    by_cases hp : a = p
    · subst hp
      have e' : upd w.G a o a = some u := e
      rw [upd_same] at e' ⊢; exact e'
    · have e' : upd w.G p o a = some u := e
      rw [upd_ne hp] at e' ⊢; exact ok.sub a u e'
  · obtain ⟨e1, u, e2, e3⟩ := ok.own q m e
    have hq : q ≠ p := ne_of_none e2 h
    refine ⟨?_, u, ?_, e3.mono (Sub.new hg)⟩
    · show upd w.G p o q = none
      rw [upd_ne hq]; exact e1
    · show upd w.H p o q = some u
      rw [upd_ne hq]; exact e2
  · have e' : upd w.H p o a = some u := e
    by_cases hp : a = p
    · subst hp; rw [upd_same] at e'; cases e'; exact hz
    · rw [upd_ne hp] at e'; exact ok.sz a u e'
  · show upd w.G p o a = none
    have hp : a ≠ p := fun z => e2 (z ▸ h)
    rw [upd_ne hp]; exact e1
  · show upd w.H p o a ≠ none
    by_cases hp : a = p
    · subst hp; rw [upd_same]; simp
    · rw [upd_ne hp]; exact e
/-- a new thing of one's own -/
def Wd.mine (w : Wd) (p : Addr) (m : MO) (o : HO) : Wd := ⟨oset w.own p m, w.G, upd w.H p o⟩
theorem Wd.Ok.mine (ok : w.Ok K) {p : Addr} {m : MO} {o : HO} (h : w.H p = none ∨ ∃ m', w.own p = some m') (hz : SzOk o) (r : MoR K w.G m o) : (w.mine p m o).Ok K ∧ Tr w (w.mine p m o) := by
  have hg : w.G p = none := by
    rcases h with h | ⟨m', h⟩
    · exact ok.noG h
    · exact (ok.own p m' h).1
  refine ⟨⟨fun a u e => ?_, fun q m1 e => ?_, fun a u e => ?_⟩, ⟨fun a u e n => ?_, Sub.refl _, fun a e1 e2 _ => e1, fun a e1 e2 => ?_, fun a e => ?_⟩⟩
  · show upd w.H p o a = some u
    have e' : w.G a = some u := e
    rw [upd_ne (fun z => by rw [z, hg] at e'; cases e')]; exact ok.sub a u e'
  · have e' : oset w.own p m q = some m1 := e
    by_cases hq : q = p
    · subst hq
      rw [oset_same] at e'; cases e'
      exact ⟨hg, o, upd_same, r⟩
    · rw [oset_ne hq] at e'
      obtain ⟨e1, u, e2, e3⟩ := ok.own q m1 e'
      exact ⟨e1, u, (upd_ne hq).trans e2, e3⟩
  · have e' : upd w.H p o a = some u := e
    by_cases hp : a = p
    · subst hp; rw [upd_same] at e'; cases e'; exact hz
    · rw [upd_ne hp] at e'; exact ok.sz a u e'
  · show upd w.H p o a = some u
    by_cases hp : a = p
    · subst hp
      rcases h with h | ⟨m', h⟩
      · rw [h] at e; cases e
      · rw [h] at n; cases n
    · rw [upd_ne hp]; exact e
  · show oset w.own p m a = none
    by_cases hp : a = p
    · subst hp
      rcases h with h | ⟨m', h⟩
      · exact absurd h e2
      · rw [h] at e1; cases e1
    · rw [oset_ne hp]; exact e1
  · show upd w.H p o a ≠ none
    by_cases hp : a = p
    · subst hp; rw [upd_same]; simp
    · rw [upd_ne hp]; exact e
/-- an own thing that changes no more -/
theorem Wd.Ok.still (ok : w.Ok K) {own' : Own} (hs : ∀ p m, own' p = some m → w.own p = some m) :
    ∃ G', Sub w.G G' ∧ (∀ p, w.own p ≠ none → own' p = none → G' p = w.H p) ∧ (Wd.mk own' G' w.H).Ok K ∧ ∀ w0, Tr w0 w → Tr w0 ⟨own', G', w.H⟩ := by
  refine ⟨fun p => match w.own p, own' p with | some _, none => w.H p | _, _ => w.G p, fun a u e => ?_, fun p e1 e2 => ?_, ⟨fun a u e => ?_, fun p m e => ?_, ok.sz⟩, fun w0 t => ⟨t.fr, fun a u e => ?_, fun a e1 e2 e3 => ?_, fun a e1 e2 => ?_, t.th⟩⟩
  · show (match w.own a, own' a with | some _, none => w.H a | _, _ => w.G a) = some u
    cases h1 : w.own a with
    | none => exact e
    | some m =>
      have := (ok.own a m h1).1
      rw [e] at this; cases this
  · show (match w.own p, own' p with | some _, none => w.H p | _, _ => w.G p) = w.H p
    cases h1 : w.own p with
    | none => exact absurd h1 e1
    | some m => rw [e2]
  · have e' : (match w.own a, own' a with | some _, none => w.H a | _, _ => w.G a) = some u := e
    cases h1 : w.own a with
    | none => rw [h1] at e'; exact ok.sub a u e'
    | some m =>
      cases h2 : own' a with
      | none => rw [h1, h2] at e'; exact e'
      | some m' => rw [h1, h2] at e'; exact ok.sub a u e'
  · have e' : own' p = some m := e
    obtain ⟨e1, o, e2, e3⟩ := ok.own p m (hs p m e')
    refine ⟨?_, o, e2, e3.mono fun a u e => ?_⟩
    · show (match w.own p, own' p with | some _, none => w.H p | _, _ => w.G p) = none
      rw [hs p m e', e']; exact e1
    · show (match w.own a, own' a with | some _, none => w.H a | _, _ => w.G a) = some u
      cases h1 : w.own a with
      | none => exact e
      | some m =>
        have := (ok.own a m h1).1
        rw [e] at this; cases this
  · show (match w.own a, own' a with | some _, none => w.H a | _, _ => w.G a) = some u
    have g := t.gs a u e
    cases h1 : w.own a with
    | none => exact g
    | some m =>
      have := (ok.own a m h1).1
      rw [g] at this; cases this
  · show (match w.own a, own' a with | some _, none => w.H a | _, _ => w.G a) = none
    rw [t.od a e3 e2]; exact t.gd a e1 e2 e3
  · show own' a = none
    have := t.od a e1 e2
    cases h2 : own' a with
    | none => rfl
    | some m => rw [hs a m h2] at this; cases this
end

/-! ### names -/
abbrev AEnv := List (Option D)
def eg : AEnv → Nat → Option D
  | [], _ => none
  | x :: _, 0 => x
  | _ :: r, n + 1 => eg r n
theorem eg_eq : ∀ {env : AEnv} {i : Nat} {d : D}, eg env i = some d → env[i]? = some (some d)
  | [], _, _, h => by simp [eg] at h
  | x :: r, 0, d, h => by simp [eg] at h; simp [h]
  | x :: r, i + 1, d, h => by simp only [eg] at h; simpa using eg_eq h
theorem eg_of : ∀ {env : AEnv} {i : Nat} {d : D}, env[i]? = some (some d) → eg env i = some d
  | [], _, _, h => by simp at h
  | x :: r, 0, d, h => by simp at h; simp [eg, h]
  | x :: r, i + 1, d, h => by simp only [eg]; exact eg_of (by simpa using h)
def EnvR (K : PySem.W.Frag) (G : Hp) (env : AEnv) (σ : L2.St) : Prop := env.length = σ.length ∧ ∀ i d, eg env i = some d → ∃ v, σ[i]? = some (some v) ∧ Dt K G d v
section
variable {K : PySem.W.Frag} {G G' : Hp} {env : AEnv} {σ : L2.St}
theorem EnvR.mono (e : Sub G G') (h : EnvR K G env σ) : EnvR K G' env σ := ⟨h.1, fun i d q => let ⟨v, a, b⟩ := h.2 i d q; ⟨v, a, b.mono e⟩⟩
theorem EnvR.set (h : EnvR K G env σ) (i : Nat) {d : D} {v : V} (r : Dt K G d v) : EnvR K G (env.set i (some d)) (σ.set i (some v)) := by
  refine ⟨by simpa using h.1, fun j e q => ?_⟩
  have q' := eg_eq q
  by_cases hj : i = j
  · subst hj
    have hi : i < env.length := by
      have := (List.getElem?_eq_some_iff.mp q').1
      simpa using this
    rw [List.getElem?_set_self hi] at q'
    cases q'
    exact ⟨v, List.getElem?_set_self (by rw [← h.1]; exact hi), r⟩
  · rw [List.getElem?_set_ne hj] at q'
    obtain ⟨u, e1, e2⟩ := h.2 j e (eg_of q')
    exact ⟨u, by rw [List.getElem?_set_ne hj]; exact e1, e2⟩
theorem EnvR.unset (h : EnvR K G env σ) (i : Nat) (x : Option V) : EnvR K G (env.set i none) (σ.set i x) := by
  refine ⟨by simpa using h.1, fun j e q => ?_⟩
  have q' := eg_eq q
  by_cases hj : i = j
  · subst hj
    have hi : i < env.length := by
      have := (List.getElem?_eq_some_iff.mp q').1
      simpa using this
    rw [List.getElem?_set_self hi] at q'
    cases q'
  · rw [List.getElem?_set_ne hj] at q'
    obtain ⟨u, e1, e2⟩ := h.2 j e (eg_of q')
    exact ⟨u, by rw [List.getElem?_set_ne hj]; exact e1, e2⟩
end
def wipeA (env : AEnv) : List Nat → AEnv
  | [] => env
  | v :: vs => (wipeA env vs).set v none
theorem EnvR.wipe {K : PySem.W.Frag} {G : Hp} {env : AEnv} {σ : L2.St} (h : EnvR K G env σ) : ∀ vs : List Nat, EnvR K G (wipeA env vs) (L2.wipe σ vs)
  | [] => h
  | v :: vs => (EnvR.wipe h vs).unset v none
end L3

namespace L3
open PySem PySem.Spec L2

/-! ### readings over data -/
abbrev ATE := AEnv → Own → (D → Own → Prop) → Prop
abbrev ATT := AEnv → Own → (Bool → Own → Prop) → Prop
abbrev ATA := AEnv → Own → (List D → Own → Prop) → Prop
/-- a new list -/
abbrev ATN := AEnv → Own → (List D → Own → Prop) → Prop
abbrev ATO := AEnv → Own → (Option Int → Own → Prop) → Prop
structure AEnds where
  nx : AEnv → Own → Prop
  rt : D → Own → Prop
  bk : AEnv → Own → Prop := fun _ _ => False
  ct : AEnv → Own → Prop := fun _ _ => False
abbrev ATS := AEnds → AEnv → Own → Prop
abbrev ATG := D → AEnv → Own → (AEnv → Own → Prop) → Prop
abbrev ATGs := List D → AEnv → Own → (AEnv → Own → Prop) → Prop
abbrev ATI := AEnv → Own → (List D → (Own → Prop) → Own → Prop) → Prop

section
variable (K : PySem.W.Frag) (w0 : Wd)
def At (σ : L2.St) (H : Hp) (φ : AEnv → Wd → Prop) : Prop := ∃ (env : AEnv) (w : Wd), w.H = H ∧ w.Ok K ∧ Tr w0 w ∧ EnvR K w.G env σ ∧ φ env w
def concE (t : ATE) : TE := fun σ H Q => At K w0 σ H fun env w => ∃ P, t env w.own P ∧ ∀ d w' v, P d w'.own → Tr w w' → w'.Ok K → Dt K w'.G d v → Q v w'.H
def concT (t : ATT) : TT := fun σ H Q => At K w0 σ H fun env w => ∃ P, t env w.own P ∧ ∀ b w', P b w'.own → Tr w w' → w'.Ok K → Q b w'.H
def concA (t : ATA) : TA := fun σ H Q => At K w0 σ H fun env w => ∃ P, t env w.own P ∧ ∀ ds w' vs, P ds w'.own → Tr w w' → w'.Ok K → Dts K w'.G ds vs → Q vs w'.H
def concN (t : ATN) : TE := fun σ H Q => At K w0 σ H fun env w => ∃ P, t env w.own P ∧ ∀ ds w' p vs, P ds w'.own → Tr w w' → w'.Ok K → w.H p = none → w'.H p = some (.lst vs) → w'.G p = none → w'.own p = none → Dts K w'.G ds vs → Q (.ref p) w'.H
def concO (t : ATO) : TO := fun σ H Q => At K w0 σ H fun env w => ∃ P, t env w.own P ∧ ∀ o w', P o w'.own → Tr w w' → w'.Ok K → Q o w'.H
def concS (t : ATS) : TS := fun E σ H => At K w0 σ H fun env w => ∃ A : AEnds, t A env w.own ∧
  (∀ env' w' σ', A.nx env' w'.own → Tr w w' → w'.Ok K → EnvR K w'.G env' σ' → E.nx σ' w'.H) ∧
  (∀ d w' v, A.rt d w'.own → Tr w w' → w'.Ok K → Dt K w'.G d v → E.rt v w'.H) ∧
  (∀ env' w' σ', A.bk env' w'.own → Tr w w' → w'.Ok K → EnvR K w'.G env' σ' → E.bk σ' w'.H) ∧
  (∀ env' w' σ', A.ct env' w'.own → Tr w w' → w'.Ok K → EnvR K w'.G env' σ' → E.ct σ' w'.H)
/-- the slots but those at vs stay -/
def Only (vs : List Nat) (σ σ' : L2.St) : Prop := σ'.length = σ.length ∧ ∀ i, i ∉ vs → σ'[i]? = σ[i]?
def concG (vs : List Nat) (g : ATG) : TG := fun x σ H Q => At K w0 σ H fun env w => ∃ d P, Dt K w.G d x ∧ g d env w.own P ∧
  ∀ env' w' σ', P env' w'.own → Tr w w' → w'.Ok K → EnvR K w'.G env' σ' → Only vs σ σ' → Q σ' w'.H
def concGs (vs : List Nat) (g : ATGs) : TGs := fun xs σ H Q => At K w0 σ H fun env w => ∃ ds P, Dts K w.G ds xs ∧ g ds env w.own P ∧
  ∀ env' w' σ', P env' w'.own → Tr w w' → w'.Ok K → EnvR K w'.G env' σ' → Only vs σ σ' → Q σ' w'.H
/-- what is walked: the data ds, as long as gd holds of what is one's own -/
structure Walks (w1 : Wd) (J : It) (ds : List D) (gd : Own → Prop) : Prop where
  len : ds.length ≤ sizeLine
  go : ∀ i (w : Wd), w.Ok K → Sub w1.G w.G → gd w.own → i < ds.length → J.go i w.H
  stop : ∀ (w : Wd), w.Ok K → Sub w1.G w.G → gd w.own → J.stop ds.length w.H
  yld : ∀ i (w : Wd) x H', w.Ok K → Sub w1.G w.G → gd w.own → i < ds.length → J.yld i w.H x H' → ∃ d w', ds[i]? = some d ∧ Wd.H w' = H' ∧ w'.own = w.own ∧ Tr w w' ∧ w'.Ok K ∧ Dt K w'.G d x
def concI (t : ATI) : TI := fun σ H R => At K w0 σ H fun env w => ∃ P, t env w.own P ∧ ∀ ds gd w' J, P ds gd w'.own → Tr w w' → w'.Ok K → Walks K w' J ds gd → R J w'.H
end
section
variable {X : Cx}
theorem pe_of {e : Expr} {t t' : TE} (h : PE X e t) (hc : ∀ σ H Q, t' σ H Q → t σ H Q) : PE X e t' := ⟨fun pins s σ H Q I hw => h.run pins s σ H Q I (hc σ H Q hw)⟩
theorem pt_of {e : Expr} {t t' : TT} (h : PT X e t) (hc : ∀ σ H Q, t' σ H Q → t σ H Q) : PT X e t' := ⟨fun pins s σ H Q I hw => h.run pins s σ H Q I (hc σ H Q hw)⟩
theorem pw_of {e : Expr} {t t' : TT} (h : PW X e t) (hc : ∀ σ H Q, t' σ H Q → t σ H Q) : PW X e t' := ⟨fun wh pins s σ H Q I hw => h.run wh pins s σ H Q I (hc σ H Q hw)⟩
theorem pa_of {e : List Expr} {t t' : TA} (h : PA X e t) (hc : ∀ σ H Q, t' σ H Q → t σ H Q) : PA X e t' := ⟨fun pos pins s σ H Q I hw => h.run pos pins s σ H Q I (hc σ H Q hw)⟩
theorem po_of {e : Option Expr} {t t' : TO} (h : PO X e t) (hc : ∀ σ H Q, t' σ H Q → t σ H Q) : PO X e t' := ⟨fun pins s σ H Q I hw => h.run pins s σ H Q I (hc σ H Q hw)⟩
theorem ps_of {e : Stmt} {t t' : TS} (h : PS X e t) (hc : ∀ E σ H, t' E σ H → t E σ H) : PS X e t' := ⟨fun pins s σ H D I hw => h.run pins s σ H D I (hc D σ H hw)⟩
theorem pss_of {e : List Stmt} {t t' : TS} (h : PSs X e t) (hc : ∀ E σ H, t' E σ H → t E σ H) : PSs X e t' := ⟨fun pins s σ H D I hw => h.run pins s σ H D I (hc D σ H hw)⟩
theorem pg_of {e : Expr} {t t' : TG} (h : PG X e t) (hc : ∀ v σ H Q, t' v σ H Q → t v σ H Q) : PG X e t' := ⟨fun pins s σ H v u Q I r hw => h.run pins s σ H v u Q I r (hc v σ H Q hw)⟩
theorem pgs_of {e : List Expr} {t t' : TGs} (h : PGs X e t) (hc : ∀ v σ H Q, t' v σ H Q → t v σ H Q) : PGs X e t' := ⟨fun pins s σ H v u Q I r hw => h.run pins s σ H v u Q I r (hc v σ H Q hw)⟩
theorem pi_of {tg e : Expr} {t t' : TI} (h : PI X tg e t) (hc : ∀ σ H Q, t' σ H Q → t σ H Q) : PI X tg e t' := ⟨fun pins s σ H Q I hw => h.run pins s σ H Q I (hc σ H Q hw)⟩
theorem pts_of {e : List Expr} {t t' : TT} (h : PTs X e t) (hc : ∀ σ H Q, t' σ H Q → t σ H Q) : PTs X e t' := ⟨fun pins s σ H Q I hw => h.run pins s σ H Q I (hc σ H Q hw)⟩
end

/-- what a thing is, by what is one's own -/
def see (own : Own) : D → D
  | .ref p => match own p with
    | some (.lst ds) => .lst ds
    | some (.dct kvs) => .dct kvs
    | _ => .ref p
  | d => d
/-- a thing as it stands in a world: a list's place -/
def DtV (K : PySem.W.Frag) (w : Wd) : D → V → Prop
  | .lst ds, v => ∃ a vs, v = .ref a ∧ Rd w.H a (.lst vs) ∧ Dts K w.G ds vs
  | .tup ds, v => ∃ a vs, v = .ref a ∧ SqT K w.H a vs ∧ Dts K w.G ds vs
  | .dct kvs, v => ∃ a, v = .ref a ∧ ((∃ es, w.H a = some (.dK es) ∧ DkK K w.G kvs es) ∨ ∃ es, w.H a = some (.dT es) ∧ DkT K w.G kvs es)
  | d, v => Dt K w.G d v
theorem see_ok {K : PySem.W.Frag} {w : Wd} (ok : w.Ok K) {d : D} {v : V} (h : Dt K w.G d v) : DtV K w (see w.own d) v := by
  cases d with
  | ref p =>
    unfold Dt at h; subst h
    have r0 : Dt K w.G (.ref p) (.ref p) := by unfold Dt; rfl
    cases e : w.own p with
    | none =>
      have hs : see w.own (.ref p) = .ref p := by simp only [see, e]
      rw [hs]; exact r0
    | some m =>
      obtain ⟨_, o, e2, e3⟩ := ok.own p m e
      cases m with
      | lst ds =>
        have hs : see w.own (.ref p) = .lst ds := by simp only [see, e]
        rw [hs]
        cases o <;> first | exact (e3 : False).elim | skip
        exact ⟨p, _, rfl, .of e2, e3⟩
      | dct kvs =>
        have hs : see w.own (.ref p) = .dct kvs := by simp only [see, e]
        rw [hs]
        cases o <;> first | exact (e3 : False).elim | skip
        · exact ⟨p, rfl, .inl ⟨_, e2, e3⟩⟩
        · exact ⟨p, rfl, .inr ⟨_, e2, e3⟩⟩
      | ins C fs =>
        have hs : see w.own (.ref p) = .ref p := by simp only [see, e]
        rw [hs]; exact r0
  | lst ds =>
    unfold Dt at h
    obtain ⟨a, vs, e1, e2, e3⟩ := h
    exact ⟨a, vs, e1, ok.sub.rd e2, e3⟩
  | tup ds =>
    unfold Dt at h
    obtain ⟨a, vs, e1, e2, e3⟩ := h
    exact ⟨a, vs, e1, ok.sub.sqT e2, e3⟩
  | dct kvs =>
    unfold Dt at h
    obtain ⟨a, e1, ⟨es, e2, e3⟩ | ⟨es, e2, e3⟩⟩ := h
    · exact ⟨a, e1, .inl ⟨es, ok.sub a _ e2, e3⟩⟩
    · exact ⟨a, e1, .inr ⟨es, ok.sub a _ e2, e3⟩⟩
  | non => exact h
  | bl b => exact h
  | int i => exact h
  | str x => exact h
  | ty n => exact h
  | kls ds => exact h
theorem sqL_sz {K : PySem.W.Frag} {w : Wd} (ok : w.Ok K) {a : Addr} {vs : List V} (h : SqL K w.H a vs) : vs.length ≤ sizeLine := by
  rcases h with (h | ⟨o, h⟩) | ⟨o, its, n, _, _, _, _, hz, r⟩
  · exact ok.sz a _ h
  · exact ok.sz a _ h
  · have := r.length
    simp only [Array.length_toList] at this
    omega
theorem sqT_sz {K : PySem.W.Frag} {w : Wd} (ok : w.Ok K) {a : Addr} {vs : List V} (h : SqT K w.H a vs) : vs.length ≤ sizeLine := by
  rcases h with (h | ⟨o, h⟩) | ⟨o, its, n, _, _, _, hz, r⟩
  · exact ok.sz a _ h
  · exact ok.sz a _ h
  · have := r.length
    simp only [Array.length_toList] at this
    omega

/-! ### expressions -/
def aV (i : Nat) : ATE := fun env own P => match eg env i with
  | some d => P d own
  | none => False
def aC (d : D) : ATE := fun _ own P => P d own
abbrev BinF := Own → D → D → (D → Prop) → Prop
def aBin (f : BinF) (ta tb : ATE) : ATE := fun env own P => ta env own fun d o1 => tb env o1 fun e o2 => f o2 d e fun z => P z o2
abbrev UnF := Own → D → (D → Prop) → Prop
def aUn (f : UnF) (ta : ATE) : ATE := fun env own P => ta env own fun d o1 => f o1 d fun z => P z o1
def OpS (K : PySem.W.Frag) (r : R2) (f : BinF) : Prop := ∀ (w : Wd) (d e : D) (x y : V) (P : D → Prop) (Q : VK), w.Ok K → Dt K w.G d x → Dt K w.G e y → f w.own d e P →
  (∀ z w' v, P z → w'.own = w.own → Tr w w' → w'.Ok K → Dt K w'.G z v → Q v w'.H) → r x y w.H Q
def UnS (K : PySem.W.Frag) (r : V → Hp → VK → Prop) (f : UnF) : Prop := ∀ (w : Wd) (d : D) (x : V) (P : D → Prop) (Q : VK), w.Ok K → Dt K w.G d x → f w.own d P →
  (∀ z w' v, P z → w'.own = w.own → Tr w w' → w'.Ok K → Dt K w'.G z v → Q v w'.H) → r x w.H Q
/-- several values in, one out -/
abbrev CallF := Own → List D → (D → Prop) → Prop
def CallS (K : PySem.W.Frag) (r : List V → Hp → VK → Prop) (f : CallF) : Prop := ∀ (w : Wd) (ds : List D) (xs : List V) (P : D → Prop) (Q : VK), w.Ok K → Dts K w.G ds xs → f w.own ds P →
  (∀ z w' v, P z → w'.own = w.own → Tr w w' → w'.Ok K → Dt K w'.G z v → Q v w'.H) → r xs w.H Q
def aFn (f : CallF) (ta : ATA) : ATE := fun env own P => ta env own fun ds o1 => f o1 ds fun z => P z o1
section
variable {X : Cx} {w0 : Wd}
abbrev AE (X : Cx) (w0 : Wd) (e : Expr) (t : ATE) : Prop := PE X e (concE X.K w0 t)
abbrev AN (X : Cx) (w0 : Wd) (e : Expr) (t : ATN) : Prop := PE X e (concN X.K w0 t)
abbrev AT (X : Cx) (w0 : Wd) (e : Expr) (t : ATT) : Prop := PT X e (concT X.K w0 t)
abbrev AW (X : Cx) (w0 : Wd) (e : Expr) (t : ATT) : Prop := PW X e (concT X.K w0 t)
abbrev AA (X : Cx) (w0 : Wd) (es : List Expr) (t : ATA) : Prop := PA X es (concA X.K w0 t)
abbrev AO (X : Cx) (w0 : Wd) (e : Option Expr) (t : ATO) : Prop := PO X e (concO X.K w0 t)
abbrev AS (X : Cx) (w0 : Wd) (s : Stmt) (t : ATS) : Prop := PS X s (concS X.K w0 t)
abbrev ASs (X : Cx) (w0 : Wd) (s : List Stmt) (t : ATS) : Prop := PSs X s (concS X.K w0 t)
abbrev AG (X : Cx) (w0 : Wd) (vs : List Nat) (e : Expr) (t : ATG) : Prop := PG X e (concG X.K w0 vs t)
abbrev AGs (X : Cx) (w0 : Wd) (vs : List Nat) (e : List Expr) (t : ATGs) : Prop := PGs X e (concGs X.K w0 vs t)
abbrev AI (X : Cx) (w0 : Wd) (tg e : Expr) (t : ATI) : Prop := PI X tg e (concI X.K w0 t)

variable {a b c e : Expr} {ta tb tc : ATE} {pos : Pos}
theorem ae_v (i : Nat) {x : Str} {pos : Pos} (hN : X.N[i]? = some x := by rfl) (hv : Vis X.env.scope x := by first | exact Or.inl rfl | exact Or.inr (Or.inl rfl) | exact Or.inr (Or.inr rfl)) (hd : (x == ("__debug__" : Str)) = false := by decide)
    (hcd : (x == ("__classdict__" : Str)) = false := by decide) : AE X w0 (.Name x pos) (aV i) := pe_of (pe_var hN hv hd hcd) fun σ H Q h => by
  obtain ⟨env, w, rfl, ok, tr0, er, P, h, k⟩ := h
  unfold aV at h
  cases e : eg env i with
  | none => rw [e] at h; exact h.elim
  | some d =>
    rw [e] at h
    obtain ⟨v, e1, e2⟩ := er.2 i d e
    exact ⟨v, e1, k d w v h (Tr.refl w) ok e2⟩
theorem ae_c {d : D} {v : V} (h : PE X e (tC v)) (hd : ∀ G, Dt X.K G d v) : AE X w0 e (aC d) := pe_of h fun σ H Q h => by
  obtain ⟨env, w, rfl, ok, tr0, er, P, h, k⟩ := h
  exact k d w v h (Tr.refl w) ok (hd w.G)
theorem ae_int {i j} : AE X w0 (.Constant (.int i) j pos) (aC (.int i)) := ae_c pe_int fun _ => by unfold Dt; rfl
theorem ae_bl {b j} : AE X w0 (.Constant (.bool b) j pos) (aC (.bl b)) := ae_c pe_bl fun _ => by unfold Dt; rfl
theorem ae_non {j} : AE X w0 (.Constant .none j pos) (aC .non) := ae_c pe_non fun _ => by unfold Dt; rfl
theorem ae_str {x j} : AE X w0 (.Constant (.str x) j pos) (aC (.str x)) := ae_c pe_str fun _ => by unfold Dt; rfl
theorem ae_glob {x : Str} {v : V} {u : Value} {d : D} (hg : Gl X x) (hm : X.mg x = some u) (r : RelV v u) (hd : ∀ G, Dt X.K G d v) (hdb : (x == ("__debug__" : Str)) = false := by decide) : AE X w0 (.Name x pos) (aC d) := ae_c (pe_glob hg hm r hdb) hd
/-- from a rule of two operands -/
theorem bin_of {r : R2} {f : BinF} {σ : L2.St} {H : Hp} {Q : VK} (hs : OpS X.K r f) (h : concE X.K w0 (aBin f ta tb) σ H Q) : tOp r (concE X.K w0 ta) (concE X.K w0 tb) σ H Q := by
  obtain ⟨env, w, rfl, ok, tr0, er, P, h, k⟩ := h
  refine ⟨env, w, rfl, ok, tr0, er, _, h, fun d w1 x h1 t1 ok1 dx => ?_⟩
  refine ⟨env, w1, rfl, ok1, tr0.trans t1, er.mono t1.gs, _, h1, fun e w2 y h2 t2 ok2 dy => ?_⟩
  exact hs w2 d e x y _ Q ok2 (dx.mono t2.gs) dy h2 fun z w3 v pz ho t3 ok3 dz => k z w3 v (by rw [ho]; exact pz) ((t1.trans t2).trans t3) ok3 dz
theorem ae_op {op : Operator} {r : R2} {f : BinF} (ho : OpR X (binaryOp op) r) (hs : OpS X.K r f) (ha : AE X w0 a ta) (hb : AE X w0 b tb) : AE X w0 (.BinOp a op b pos) (aBin f ta tb) := pe_of (pe_op ho ha hb) fun _ _ _ h => bin_of hs h
theorem ae_cmp {op : CmpOp} {r : R2} {f : BinF} (ho : OpR X (compareOp op) r) (hs : OpS X.K r f) (ha : AE X w0 a ta) (hb : AE X w0 b tb) (hm : behindInMarks op b = false) : AE X w0 (.Compare a [op] [b] pos) (aBin f ta tb) := pe_of (pe_cmpR ho ha hb hm) fun _ _ _ h => bin_of hs h
theorem ae_sub {r : R2} {f : BinF} (ho : IxR X r) (hs : OpS X.K r f) (ha : AE X w0 a ta) (hb : AE X w0 b tb) (hp : PlainIx b := by exact fun _ _ => rfl) : AE X w0 (.Subscript a b pos) (aBin f ta tb) := pe_of (pe_ix ho ha hb hp) fun _ _ _ h => bin_of hs h
theorem ae_un {op : UnaryOp} {r : V → Hp → VK → Prop} {f : UnF} (ho : UnR X (unaryOp op) r) (hs : UnS X.K r f) (ha : AE X w0 a ta) : AE X w0 (.UnaryOp op a pos) (aUn f ta) := pe_of (pe_un ho ha) fun σ H Q h => by
  obtain ⟨env, w, rfl, ok, tr0, er, P, h, k⟩ := h
  refine ⟨env, w, rfl, ok, tr0, er, _, h, fun d w1 x h1 t1 ok1 dx => ?_⟩
  exact hs w1 d x _ Q ok1 dx h1 fun z w3 v pz ho t3 ok3 dz => k z w3 v (by rw [ho]; exact pz) (t1.trans t3) ok3 dz
/-! tests -/
def aB (t : ATE) : ATT := fun env own P => t env own fun d o => match d with
  | .bl b => P b o
  | _ => False
theorem atest_of {σ : L2.St} {H : Hp} {Q : Bool → Hp → Prop} (h : concT X.K w0 (aB ta) σ H Q) : tTest (concE X.K w0 ta) σ H Q := by
  obtain ⟨env, w, rfl, ok, tr0, er, P, h, k⟩ := h
  refine ⟨env, w, rfl, ok, tr0, er, _, h, fun d w1 x h1 t1 ok1 dx => ?_⟩
  cases d with
  | bl b => unfold Dt at dx; exact ⟨b, dx, k b w1 h1 t1 ok1⟩
  | _ => exact (h1 : False).elim
theorem at_cmp {op : CmpOp} {r : R2} {f : BinF} (ho : OpR X (compareOp op) r) (hs : OpS X.K r f) (ha : AE X w0 a ta) (hb : AE X w0 b tb) (hm : behindInMarks op b = false) : AT X w0 (.Compare a [op] [b] pos) (aB (aBin f ta tb)) := pt_of (pt_cmpR ho ha hb hm) fun σ H Q h => by
  obtain ⟨env, w, rfl, ok, tr0, er, P, h, k⟩ := h
  refine bin_of hs ⟨env, w, rfl, ok, tr0, er, _, h, fun d w1 x h1 t1 ok1 dx => ?_⟩
  cases d with
  | bl b => unfold Dt at dx; exact ⟨b, dx, k b w1 h1 t1 ok1⟩
  | _ => exact (h1 : False).elim
/-- truth of any value -/
def aTru (t : ATE) : ATT := fun env own P => t env own fun d o => match see o d with
  | .bl b => P b o
  | .non => P false o
  | .int i => P (i != 0) o
  | .str x => x.length ≤ sizeLine ∧ P ((x.length : Int) != 0) o
  | .lst xs => P (!xs.isEmpty) o
  | .tup xs => P (!xs.isEmpty) o
  | _ => False
theorem isEmpty_dts {K : PySem.W.Frag} {G : Hp} {ds : List D} {vs : List V} (h : Dts K G ds vs) : ds.isEmpty = vs.isEmpty := by
  have := h.length
  cases ds <;> cases vs <;> simp at this ⊢
theorem at_tru (ha : AE X w0 a ta) (he : ∀ whole, isTrue a X.env whole = (do let v ← whole; standAt a.pos; holding [v] (truthy v)) := by intro _; rfl) : AT X w0 a (aTru ta) := pt_of (pt_truth ha he) fun σ H Q h => by
  obtain ⟨env, w, rfl, ok, tr0, er, P, h, k⟩ := h
  refine ⟨env, w, rfl, ok, tr0, er, _, h, fun d w1 x h1 t1 ok1 dx => ?_⟩
  have dv := see_ok ok1 dx
  cases e : see w1.own d with
  | non => rw [e] at dv h1; change Dt X.K w1.G .non x at dv; unfold Dt at dv; subst dv; exact ⟨false, rfl, k _ w1 h1 t1 ok1⟩
  | bl b => rw [e] at dv h1; change Dt X.K w1.G (.bl b) x at dv; unfold Dt at dv; subst dv; exact ⟨b, rfl, k _ w1 h1 t1 ok1⟩
  | int i => rw [e] at dv h1; change Dt X.K w1.G (.int i) x at dv; unfold Dt at dv; subst dv; exact ⟨_, rfl, k _ w1 h1 t1 ok1⟩
  | str y => rw [e] at dv h1; change Dt X.K w1.G (.str y) x at dv; unfold Dt at dv; subst dv; exact ⟨_, ⟨h1.1, rfl⟩, k _ w1 h1.2 t1 ok1⟩
  | lst ds =>
    rw [e] at dv h1
    obtain ⟨p, vs, rfl, e2, e3⟩ := dv
    exact ⟨_, .inl ⟨vs, .inl e2, by rw [isEmpty_dts e3]⟩, k _ w1 h1 t1 ok1⟩
  | tup ds =>
    rw [e] at dv h1
    obtain ⟨p, vs, rfl, e2, e3⟩ := dv
    exact ⟨_, .inr (.inl ⟨vs, e2, by rw [isEmpty_dts e3]⟩), k _ w1 h1 t1 ok1⟩
  | dct _ => rw [e] at h1; exact (h1 : False).elim
  | ref _ => rw [e] at h1; exact (h1 : False).elim
  | ty _ => rw [e] at h1; exact (h1 : False).elim
  | kls _ => rw [e] at h1; exact (h1 : False).elim
variable {tA tB : ATT} {rest : List Expr}
def aAnd (t u : ATT) : ATT := fun env own P => t env own fun b o => match b with
  | true => u env o P
  | false => P false o
def aOr (t u : ATT) : ATT := fun env own P => t env own fun b o => match b with
  | true => P true o
  | false => u env o P
def aNot (t : ATT) : ATT := fun env own P => t env own fun b o => P (!b) o
theorem aw_and1 (ha : AT X w0 a tA) : AW X w0 (.BoolOp .And [a] pos) tA := pw_and1 ha
theorem aw_or1 (ha : AT X w0 a tA) : AW X w0 (.BoolOp .Or [a] pos) tA := pw_or1 ha
theorem aw_and (ha : AT X w0 a tA) (hb : AW X w0 (.BoolOp .And (b :: rest) pos) tB) : AW X w0 (.BoolOp .And (a :: b :: rest) pos) (aAnd tA tB) := pw_of (pw_and ha hb) fun σ H Q h => by
  obtain ⟨env, w, rfl, ok, tr0, er, P, h, k⟩ := h
  refine ⟨env, w, rfl, ok, tr0, er, _, h, fun b w1 h1 t1 ok1 => ?_⟩
  cases b with
  | true => rw [if_pos rfl]; exact ⟨env, w1, rfl, ok1, tr0.trans t1, er.mono t1.gs, P, h1, fun b' w2 h2 t2 ok2 => k b' w2 h2 (t1.trans t2) ok2⟩
  | false => rw [if_neg (by decide)]; exact k false w1 h1 t1 ok1
theorem aw_or (ha : AT X w0 a tA) (hb : AW X w0 (.BoolOp .Or (b :: rest) pos) tB) : AW X w0 (.BoolOp .Or (a :: b :: rest) pos) (aOr tA tB) := pw_of (pw_or ha hb) fun σ H Q h => by
  obtain ⟨env, w, rfl, ok, tr0, er, P, h, k⟩ := h
  refine ⟨env, w, rfl, ok, tr0, er, _, h, fun b w1 h1 t1 ok1 => ?_⟩
  cases b with
  | false => rw [if_neg (by decide)]; exact ⟨env, w1, rfl, ok1, tr0.trans t1, er.mono t1.gs, P, h1, fun b' w2 h2 t2 ok2 => k b' w2 h2 (t1.trans t2) ok2⟩
  | true => rw [if_pos rfl]; exact k true w1 h1 t1 ok1
theorem at_w {t : ATT} (h : AW X w0 e t) : AT X w0 e t := h.pt
theorem at_not (ha : AT X w0 a tA) : AT X w0 (.UnaryOp .Not a pos) (aNot tA) := pt_of (pt_not ha) fun σ H Q h => by
  obtain ⟨env, w, rfl, ok, tr0, er, P, h, k⟩ := h
  exact ⟨env, w, rfl, ok, tr0, er, _, h, fun b w1 h1 t1 ok1 => k (!b) w1 h1 t1 ok1⟩
/-- .. as values, all bools -/
def aAndV (t u : ATE) : ATE := fun env own P => t env own fun d o => match d with
  | .bl true => u env o P
  | .bl false => P (.bl false) o
  | _ => False
def aOrV (t u : ATE) : ATE := fun env own P => t env own fun d o => match d with
  | .bl true => P (.bl true) o
  | .bl false => u env o P
  | _ => False
def aNotV (t : ATE) : ATE := fun env own P => t env own fun d o => match d with
  | .bl b => P (.bl (!b)) o
  | _ => False
theorem ae_one {op} (h : AE X w0 a ta) : AE X w0 (.BoolOp op [a] pos) ta := pe_one h
theorem ae_and (ha : AE X w0 a ta) (hb : AE X w0 (.BoolOp .And (b :: rest) pos) tb) : AE X w0 (.BoolOp .And (a :: b :: rest) pos) (aAndV ta tb) := pe_of (pe_and ha hb) fun σ H Q h => by
  obtain ⟨env, w, rfl, ok, tr0, er, P, h, k⟩ := h
  refine ⟨env, w, rfl, ok, tr0, er, _, h, fun d w1 x h1 t1 ok1 dx => ?_⟩
  cases d with
  | bl b =>
    unfold Dt at dx
    refine ⟨b, dx, ?_⟩
    cases b with
    | true => rw [if_pos rfl]; exact ⟨env, w1, rfl, ok1, tr0.trans t1, er.mono t1.gs, P, h1, fun b' w2 v h2 t2 ok2 => k b' w2 v h2 (t1.trans t2) ok2⟩
    | false => rw [if_neg (by decide)]; exact k _ w1 _ h1 t1 ok1 (by unfold Dt; rfl)
  | _ => exact (h1 : False).elim
theorem ae_or (ha : AE X w0 a ta) (hb : AE X w0 (.BoolOp .Or (b :: rest) pos) tb) : AE X w0 (.BoolOp .Or (a :: b :: rest) pos) (aOrV ta tb) := pe_of (pe_or ha hb) fun σ H Q h => by
  obtain ⟨env, w, rfl, ok, tr0, er, P, h, k⟩ := h
  refine ⟨env, w, rfl, ok, tr0, er, _, h, fun d w1 x h1 t1 ok1 dx => ?_⟩
  cases d with
  | bl b =>
    unfold Dt at dx
    refine ⟨b, dx, ?_⟩
    cases b with
    | false => rw [if_neg (by decide)]; exact ⟨env, w1, rfl, ok1, tr0.trans t1, er.mono t1.gs, P, h1, fun b' w2 v h2 t2 ok2 => k b' w2 v h2 (t1.trans t2) ok2⟩
    | true => rw [if_pos rfl]; exact k _ w1 _ h1 t1 ok1 (by unfold Dt; rfl)
  | _ => exact (h1 : False).elim
theorem ae_not (ha : AE X w0 a ta) : AE X w0 (.UnaryOp .Not a pos) (aNotV ta) := pe_of (pe_not ha) fun σ H Q h => by
  obtain ⟨env, w, rfl, ok, tr0, er, P, h, k⟩ := h
  refine ⟨env, w, rfl, ok, tr0, er, _, h, fun d w1 x h1 t1 ok1 dx => ?_⟩
  cases d with
  | bl b => unfold Dt at dx; exact ⟨b, dx, k _ w1 _ h1 t1 ok1 (by unfold Dt; rfl)⟩
  | _ => exact (h1 : False).elim
def aIf (t : ATT) (ta tb : ATE) : ATE := fun env own P => t env own fun b o => match b with
  | true => ta env o P
  | false => tb env o P
theorem ae_if (hc : AT X w0 c tA) (ha : AE X w0 a ta) (hb : AE X w0 b tb) : AE X w0 (.IfExp c a b pos) (aIf tA ta tb) := pe_of (pe_ifExp hc ha hb) fun σ H Q h => by
  obtain ⟨env, w, rfl, ok, tr0, er, P, h, k⟩ := h
  refine ⟨env, w, rfl, ok, tr0, er, _, h, fun b w1 h1 t1 ok1 => ?_⟩
  cases b with
  | true => rw [if_pos rfl]; exact ⟨env, w1, rfl, ok1, tr0.trans t1, er.mono t1.gs, P, h1, fun b' w2 v h2 t2 ok2 => k b' w2 v h2 (t1.trans t2) ok2⟩
  | false => rw [if_neg (by decide)]; exact ⟨env, w1, rfl, ok1, tr0.trans t1, er.mono t1.gs, P, h1, fun b' w2 v h2 t2 ok2 => k b' w2 v h2 (t1.trans t2) ok2⟩
/-! lists of arguments, displays -/
def aNil : ATA := fun _ own P => P [] own
def aCons (t : ATE) (u : ATA) : ATA := fun env own P => t env own fun d o => u env o fun ds o2 => P (d :: ds) o2
variable {es : List Expr} {tr : ATA}
theorem aa_nil : AA X w0 [] aNil := pa_of pa_nil fun σ H Q h => by
  obtain ⟨env, w, rfl, ok, tr0, er, P, h, k⟩ := h
  exact k [] w [] h (Tr.refl w) ok .nil
theorem aa_cons (ha : AE X w0 e ta) (hr : AA X w0 es tr) (hs : starEach (e :: es) X.env = (false, eval e X.env) :: starEach es X.env := by rfl) : AA X w0 (e :: es) (aCons ta tr) := pa_of (pa_cons ha hr hs) fun σ H Q h => by
  obtain ⟨env, w, rfl, ok, tr0, er, P, h, k⟩ := h
  refine ⟨env, w, rfl, ok, tr0, er, _, h, fun d w1 x h1 t1 ok1 dx => ?_⟩
  exact ⟨env, w1, rfl, ok1, tr0.trans t1, er.mono t1.gs, _, h1, fun ds w2 vs h2 t2 ok2 dv => k (d :: ds) w2 (x :: vs) h2 (t1.trans t2) ok2 (.cons (dx.mono t2.gs) dv)⟩
def aTup (t : ATA) : ATE := fun env own P => t env own fun ds o => ds.length ≤ sizeLine ∧ P (.tup ds) o
def aLst (t : ATA) : ATN := fun env own P => t env own fun ds o => ds.length ≤ sizeLine ∧ P ds o
theorem Dt.tupI {K : PySem.W.Frag} {G : Hp} {p : Addr} {ds : List D} {vs : List V} (h : G p = some (.tup vs)) (r : Dts K G ds vs) : Dt K G (.tup ds) (.ref p) := by
  unfold Dt; exact ⟨p, vs, rfl, .of h, r⟩
theorem Dt.lstI {K : PySem.W.Frag} {G : Hp} {p : Addr} {ds : List D} {vs : List V} (h : G p = some (.lst vs)) (r : Dts K G ds vs) : Dt K G (.lst ds) (.ref p) := by
  unfold Dt; exact ⟨p, vs, rfl, .of h, r⟩
/-- a new tuple of known things -/
theorem newTup {K : PySem.W.Frag} {w : Wd} (ok : w.Ok K) {p : Addr} {ds : List D} {vs : List V} (h : w.H p = none) (r : Dts K w.G ds vs) (hz : ds.length ≤ sizeLine) :
    ∃ w', w'.H = upd w.H p (.tup vs) ∧ w'.own = w.own ∧ Tr w w' ∧ w'.Ok K ∧ Dt K w'.G (.tup ds) (.ref p) := by
  obtain ⟨ok', t⟩ := ok.frz (o := .tup vs) h (by show vs.length ≤ sizeLine; rw [r.length]; exact hz)
  exact ⟨w.frz p (.tup vs), rfl, rfl, t, ok', .tupI upd_same (r.mono t.gs)⟩
theorem newLst {K : PySem.W.Frag} {w : Wd} (ok : w.Ok K) {p : Addr} {ds : List D} {vs : List V} (h : w.H p = none) (r : Dts K w.G ds vs) (hz : ds.length ≤ sizeLine) :
    ∃ w', w'.H = upd w.H p (.lst vs) ∧ w'.own = w.own ∧ Tr w w' ∧ w'.Ok K ∧ Dt K w'.G (.lst ds) (.ref p) := by
  obtain ⟨ok', t⟩ := ok.frz (o := .lst vs) h (by show vs.length ≤ sizeLine; rw [r.length]; exact hz)
  exact ⟨w.frz p (.lst vs), rfl, rfl, t, ok', .lstI upd_same (r.mono t.gs)⟩
/-- a thing that is tracked, and of which nothing is said -/
theorem Wd.Ok.bare {K : PySem.W.Frag} {w : Wd} (ok : w.Ok K) {p : Addr} {o : HO} (h : w.H p = none ∨ (w.G p = none ∧ w.own p = none)) (hz : SzOk o) : (Wd.mk w.own w.G (upd w.H p o)).Ok K := by
  have hg : w.G p = none := by rcases h with h | h; exact ok.noG h; exact h.1
  have ho : w.own p = none := by rcases h with h | h; exact ok.noown h; exact h.2
  refine ⟨fun a u e => ?_, fun q m e => ?_, fun a u e => ?_⟩
  · show upd w.H p o a = some u
    have e' : w.G a = some u := e
    rw [upd_ne (fun z => by rw [z, hg] at e'; cases e')]; exact ok.sub a u e'
  · have e' : w.own q = some m := e
    obtain ⟨e1, u, e2, e3⟩ := ok.own q m e'
    exact ⟨e1, u, (upd_ne (fun z => by rw [z, ho] at e'; cases e')).trans e2, e3⟩
  · have e' : upd w.H p o a = some u := e
    by_cases hp : a = p
    · subst hp; rw [upd_same] at e'; cases e'; exact hz
    · rw [upd_ne hp] at e'; exact ok.sz a u e'
/-- .. new since w0 -/
theorem Tr.bare {w0 w : Wd} (t : Tr w0 w) {p : Addr} {o : HO} (h : w0.H p = none) : Tr w0 ⟨w.own, w.G, upd w.H p o⟩ where
  fr := fun a u e n => by
    show upd w.H p o a = some u
    rw [upd_ne (ne_of_none e h)]; exact t.fr a u e n
  gs := t.gs
  gd := t.gd
  od := t.od
  th := fun a e => by
    show upd w.H p o a ≠ none
    by_cases hp : a = p
    · subst hp; rw [upd_same]; simp
    · rw [upd_ne hp]; exact t.th a e
theorem ae_tup {k} (h : AA X w0 es tr) : AE X w0 (.Tuple es k pos) (aTup tr) := pe_of (pe_tup h) fun σ H Q h => by
  obtain ⟨env, w, rfl, ok, tr0, er, P, h, k⟩ := h
  refine ⟨env, w, rfl, ok, tr0, er, _, h, fun ds w1 vs h1 t1 ok1 dv => ⟨by rw [dv.length]; exact h1.1, fun p hp => ?_⟩⟩
  obtain ⟨w2, e1, e2, t2, ok2, d2⟩ := newTup ok1 hp dv h1.1
  rw [← e1]
  exact k _ w2 _ (by rw [e2]; exact h1.2) (t1.trans t2) ok2 d2
theorem an_lst (h : AA X w0 es tr) : AN X w0 (.List es pos) (aLst tr) := pe_of (pe_lst h) fun σ H Q h => by
  obtain ⟨env, w, rfl, ok, tr0, er, P, h, k⟩ := h
  refine ⟨env, w, rfl, ok, tr0, er, _, h, fun ds w1 vs h1 t1 ok1 dv => ⟨by rw [dv.length]; exact h1.1, fun p hp => ?_⟩⟩
  have hz : vs.length ≤ sizeLine := by rw [dv.length]; exact h1.1
  have ok2 := ok1.bare (p := p) (o := .lst vs) (.inl hp) hz
  have t2 : Tr w ⟨w1.own, w1.G, upd w1.H p (.lst vs)⟩ := t1.bare (t1.fresh hp)
  exact k ds ⟨w1.own, w1.G, upd w1.H p (.lst vs)⟩ p vs h1.2 t2 ok2 (t1.fresh hp) upd_same (ok1.noG hp) (ok1.noown hp) dv
/-- a new list that stands still from now on -/
def aFz (t : ATN) : ATE := fun env own P => t env own fun ds o => P (.lst ds) o
/-- a new list of one's own -/
def aOw (t : ATN) : ATE := fun env own P => t env own fun ds o => ∀ p, o p = none → P (.ref p) (oset o p (.lst ds))
theorem frzN {K : PySem.W.Frag} {w w' : Wd} (t : Tr w w') (ok : w'.Ok K) {p : Addr} {ds : List D} {vs : List V} (h0 : w.H p = none) (hp : w'.H p = some (.lst vs)) (hg : w'.G p = none) (ho : w'.own p = none) (r : Dts K w'.G ds vs) :
    ∃ w2, w2.H = w'.H ∧ w2.own = w'.own ∧ Tr w w2 ∧ w2.Ok K ∧ Dt K w2.G (.lst ds) (.ref p) := by
  refine ⟨⟨w'.own, upd w'.G p (.lst vs), w'.H⟩, rfl, rfl, ⟨t.fr, t.gs.trans (Sub.new hg), fun a e1 e2 e3 => ?_, t.od, t.th⟩, ⟨fun a u e => ?_, fun q m e => ?_, ok.sz⟩, .lstI upd_same (r.mono (Sub.new hg))⟩
  · show upd w'.G p (.lst vs) a = none
    rw [upd_ne (fun z => e2 (by rw [z]; exact h0))]; exact t.gd a e1 e2 e3
  · have e' : upd w'.G p (.lst vs) a = some u := e
    by_cases hq : a = p
    · subst hq; rw [upd_same] at e'; cases e'; exact hp
    · rw [upd_ne hq] at e'; exact ok.sub a u e'
  · obtain ⟨e1, u, e2, e3⟩ := ok.own q m e
    refine ⟨?_, u, e2, e3.mono (Sub.new hg)⟩
    show upd w'.G p (.lst vs) q = none
    rw [upd_ne (fun z => by rw [z] at e; rw [ho] at e; cases e)]; exact e1
theorem ownN {K : PySem.W.Frag} {w w' : Wd} (t : Tr w w') (ok : w'.Ok K) {p : Addr} {ds : List D} {vs : List V} (h0 : w.H p = none) (hp : w'.H p = some (.lst vs)) (hg : w'.G p = none) (ho : w'.own p = none) (r : Dts K w'.G ds vs) :
    ∃ w2, w2.H = w'.H ∧ w2.own = oset w'.own p (.lst ds) ∧ Tr w w2 ∧ w2.Ok K ∧ w2.G = w'.G := by
  refine ⟨⟨oset w'.own p (.lst ds), w'.G, w'.H⟩, rfl, rfl, ⟨t.fr, t.gs, t.gd, fun a e1 e2 => ?_, t.th⟩, ⟨ok.sub, fun q m e => ?_, ok.sz⟩, rfl⟩
  · show oset w'.own p (.lst ds) a = none
    rw [oset_ne (fun z => e2 (by rw [z]; exact h0))]; exact t.od a e1 e2
  · have e' : oset w'.own p (.lst ds) q = some m := e
    by_cases hq : q = p
    · subst hq; rw [oset_same] at e'; cases e'
      exact ⟨hg, _, hp, r⟩
    · rw [oset_ne hq] at e'; exact ok.own q m e'
theorem ae_fz {t : ATN} (h : AN X w0 e t) : AE X w0 e (aFz t) := pe_of h fun σ H Q h => by
  obtain ⟨env, w, rfl, ok, tr0, er, P, h, k⟩ := h
  refine ⟨env, w, rfl, ok, tr0, er, _, h, fun ds w1 p vs h1 t1 ok1 e0 e1 e2 e3 dv => ?_⟩
  obtain ⟨w2, a1, a2, t2, ok2, d2⟩ := frzN t1 ok1 e0 e1 e2 e3 dv
  rw [← a1]
  exact k _ w2 _ (by rw [a2]; exact h1) t2 ok2 d2
theorem ae_ow {t : ATN} (h : AN X w0 e t) : AE X w0 e (aOw t) := pe_of h fun σ H Q h => by
  obtain ⟨env, w, rfl, ok, tr0, er, P, h, k⟩ := h
  refine ⟨env, w, rfl, ok, tr0, er, _, h, fun ds w1 p vs h1 t1 ok1 e0 e1 e2 e3 dv => ?_⟩
  obtain ⟨w2, a1, a2, t2, ok2, d2⟩ := ownN t1 ok1 e0 e1 e2 e3 dv
  rw [← a1]
  exact k (.ref p) w2 _ (by rw [a2]; exact h1 p e3) t2 ok2 (by unfold Dt; rfl)
end
end L3

namespace L3
open PySem PySem.Spec L2

/-! ### blocks -/
def aSeq (t u : ATS) : ATS := fun E env own => t { E with nx := u E } env own
def aNext : ATS := fun E env own => E.nx env own
section
variable {X : Cx} {w0 : Wd} {st : Stmt} {rest : List Stmt} {t u : ATS} {e : Expr} {te : ATE} {pos : Pos}
theorem as_nil : ASs X w0 [] aNext := pss_of pss_nil fun E σ H h => by
  obtain ⟨env, w, rfl, ok, tr0, er, A, h, k, _⟩ := h
  exact k env w σ h (Tr.refl w) ok er
theorem as_cons (h1 : AS X w0 st t) (h2 : ASs X w0 rest u) : ASs X w0 (st :: rest) (aSeq t u) := pss_of (pss_cons h1 h2) fun E σ H h => by
  obtain ⟨env, w, rfl, ok, tr0, er, A, h, k1, k2, k3, k4⟩ := h
  refine ⟨env, w, rfl, ok, tr0, er, _, h, fun env1 w1 σ1 h1 t1 ok1 er1 => ?_, k2, k3, k4⟩
  exact ⟨env1, w1, rfl, ok1, tr0.trans t1, er1, A, h1, fun env2 w2 σ2 h2 t2 => k1 env2 w2 σ2 h2 (t1.trans t2), fun d w2 v h2 t2 => k2 d w2 v h2 (t1.trans t2), fun env2 w2 σ2 h2 t2 => k3 env2 w2 σ2 h2 (t1.trans t2), fun env2 w2 σ2 h2 t2 => k4 env2 w2 σ2 h2 (t1.trans t2)⟩
theorem as_one (h1 : AS X w0 st t) : ASs X w0 [st] t := pss_one h1
def aBreak : ATS := fun E env own => E.bk env own
def aCont : ATS := fun E env own => E.ct env own
theorem as_pass : AS X w0 (.Pass pos) aNext := ps_of ps_pass fun E σ H h => by
  obtain ⟨env, w, rfl, ok, tr0, er, A, h, k, _⟩ := h
  exact k env w σ h (Tr.refl w) ok er
theorem as_break : AS X w0 (.Break pos) aBreak := ps_of ps_break fun E σ H h => by
  obtain ⟨env, w, rfl, ok, tr0, er, A, h, _, _, k, _⟩ := h
  exact k env w σ h (Tr.refl w) ok er
theorem as_continue : AS X w0 (.Continue pos) aCont := ps_of ps_continue fun E σ H h => by
  obtain ⟨env, w, rfl, ok, tr0, er, A, h, _, _, _, k⟩ := h
  exact k env w σ h (Tr.refl w) ok er
theorem as_doc {x j pos pos'} : AS X w0 (.Expr (.Constant (.str x) j pos) pos') aNext := ps_of ps_doc fun E σ H h => by
  obtain ⟨env, w, rfl, ok, tr0, er, A, h, k, _⟩ := h
  exact k env w σ h (Tr.refl w) ok er
def aDrop (te : ATE) : ATS := fun E env own => te env own fun _ o => E.nx env o
theorem as_expr (he : AE X w0 e te) (hs : swapsWith e none pos.line X.env = pure false := by rfl) : AS X w0 (.Expr e pos) (aDrop te) := ps_of (ps_expr he hs) fun E σ H h => by
  obtain ⟨env, w, rfl, ok, tr0, er, A, h, k, _⟩ := h
  exact ⟨env, w, rfl, ok, tr0, er, _, h, fun d w1 v h1 t1 ok1 dv => k env w1 σ h1 t1 ok1 (er.mono t1.gs)⟩
def aRet (te : ATE) : ATS := fun E env own => te env own E.rt
theorem as_ret (he : AE X w0 e te) : AS X w0 (.Return (some e) pos) (aRet te) := ps_of (ps_ret he) fun E σ H h => by
  obtain ⟨env, w, rfl, ok, tr0, er, A, h, _, k, _⟩ := h
  exact ⟨env, w, rfl, ok, tr0, er, _, h, k⟩
def aRetN : ATS := fun E env own => E.rt .non own
theorem as_retN : AS X w0 (.Return none pos) aRetN := ps_of ps_retN fun E σ H h => by
  obtain ⟨env, w, rfl, ok, tr0, er, A, h, _, k, _⟩ := h
  exact k .non w _ h (Tr.refl w) ok (by unfold Dt; rfl)
def aIfS (c : ATT) (t u : ATS) : ATS := fun E env own => c env own fun b o => match b with
  | true => t E env o
  | false => u E env o
theorem as_if {c : Expr} {a b : List Stmt} {tc : ATT} (hc : AT X w0 c tc) (ha : ASs X w0 a t) (hb : ASs X w0 b u) : AS X w0 (.If c a b pos) (aIfS tc t u) := ps_of (ps_if hc ha hb) fun E σ H h => by
  obtain ⟨env, w, rfl, ok, tr0, er, A, h, k1, k2, k3, k4⟩ := h
  refine ⟨env, w, rfl, ok, tr0, er, _, h, fun b w1 h1 t1 ok1 => ?_⟩
  have fin : ∀ t : ATS, t A env w1.own → concS X.K w0 t E σ w1.H := fun t h1 => ⟨env, w1, rfl, ok1, tr0.trans t1, er.mono t1.gs, A, h1, fun env2 w2 σ2 h2 t2 => k1 env2 w2 σ2 h2 (t1.trans t2), fun d w2 v h2 t2 => k2 d w2 v h2 (t1.trans t2), fun env2 w2 σ2 h2 t2 => k3 env2 w2 σ2 h2 (t1.trans t2), fun env2 w2 σ2 h2 t2 => k4 env2 w2 σ2 h2 (t1.trans t2)⟩
  cases b with
  | true => exact iteT (fin t h1)
  | false => exact iteF (fin u h1)
def aNever : ATS := fun _ _ _ => False
theorem as_never : AS X w0 st aNever := ps_of ps_never fun E σ H h => by
  obtain ⟨env, w, rfl, ok, tr0, er, A, h, _⟩ := h
  exact h
theorem ass_never {sts : List Stmt} : ASs X w0 sts aNever := pss_of pss_never fun E σ H h => by
  obtain ⟨env, w, rfl, ok, tr0, er, A, h, _⟩ := h
  exact h
end

/-! ### targets -/
def gN (i : Nat) : ATG := fun d env own P => P (env.set i (some d)) own
def gTp (n : Nat) (g : ATGs) : ATG := fun d env own P => match see own d with
  | .tup ds => ds.length = n ∧ g ds env own P
  | .lst ds => ds.length = n ∧ g ds env own P
  | _ => False
def gsNil : ATGs := fun ds env own P => match ds with
  | [] => P env own
  | _ => False
def gsCons (g : ATG) (r : ATGs) : ATGs := fun ds env own P => match ds with
  | d :: ds => g d env own fun env1 o1 => r ds env1 o1 P
  | [] => False
/-- a, *b, c = ..: n targets, the i-th with the star -/
def gSt (n i : Nat) (g : ATGs) : ATG := fun d env own P => match see own d with
  | .tup ds => n ≤ ds.length + 1 ∧ ds.length ≤ 16384 ∧ g (ds.take i ++ [.lst ((ds.drop i).take (ds.length + 1 - n))] ++ (ds.drop i).drop (ds.length + 1 - n)) env own P
  | .lst ds => n ≤ ds.length + 1 ∧ ds.length ≤ 16384 ∧ g (ds.take i ++ [.lst ((ds.drop i).take (ds.length + 1 - n))] ++ (ds.drop i).drop (ds.length + 1 - n)) env own P
  | _ => False
theorem Only.refl (vs : List Nat) (σ : L2.St) : Only vs σ σ := ⟨rfl, fun _ _ => rfl⟩
theorem Only.trans {vs : List Nat} {σ σ1 σ2 : L2.St} (a : Only vs σ σ1) (b : Only vs σ1 σ2) : Only vs σ σ2 := ⟨b.1.trans a.1, fun i h => (b.2 i h).trans (a.2 i h)⟩
theorem Only.set {vs : List Nat} {σ : L2.St} {i : Nat} {x : Option V} (h : i ∈ vs) : Only vs σ (σ.set i x) := ⟨by simp, fun j hj => by
  rw [List.getElem?_set_ne (fun z => hj (by rw [← z]; exact h))]⟩
section
open PyProof.Rows
variable {prog : Program} {w : World} {A : Around} {E : Value → Shared → Prop} {s : Shared}
/-- first, *mids, last = a tuple -/
theorem starT {l : Addr} {items : Array Value} {n i : Nat} {Q : List Value → Shared → Prop} (hl : IsTup s.heap l items) (hh : A.handled = none) (hi : i < n) (hn : n ≤ items.size + 1) (hz : items.size ≤ sizeLine)
    (h : ∀ (h' : Heap) tk, (∀ b o, s.heap.get? b = some o → h'.get? b = some o) → Q (items.toList.take i ++ [.ref h'.objs.size] ++ (items.toList.drop i).drop (items.size + 1 - n)) { s with heap := h'.push { cls := .type "list", data := .seq ((items.toList.drop i).take (items.size + 1 - n)).toArray }, toks := tk }) :
    wpAny (model prog w) A (unpackItems (.ref l) n (some i)) Q E s := by
  have ne : l ≠ s.heap.objs.size := by obtain ⟨o, ho, _⟩ := hl; exact Nat.ne_of_lt (Heap.lt_size ho)
  have len1 : (items.toList.take i).length = i := by rw [List.length_take, Array.length_toList]; omega
  have len2 : (items.toList.drop i).length = items.size - i := by rw [List.length_drop, Array.length_toList]
  unfold unpackItems
  refine wpAny_bind ?_
  unfold notIterableAtAll
  refine wpAny_bind (wpAny_specialOf hl.typeIs slot_tuple_iter.lookup (wpAny_pure ?_))
  rw [if_neg (by decide)]
  refine wpAny_bind (wpAny_holding (iter_tuple hl ?_))
  refine wpAny_bind (wpAny_holding (draw_tuple ne i 0 _ _ ⟨_, Heap.get?_push_size _ rfl, rfl, rfl⟩ (hl.push _) (by omega) fun h1 it1 s1 => ?_))
  have l1 : IsTup h1 l items := (hl.push _).extBut s1.extBut ne
  rw [Nat.zero_add] at it1
  rw [List.drop_zero, if_neg (by rw [len1]; omega)]
  obtain ⟨oi, hoi, _⟩ := id it1
  obtain ⟨ol, hol, _⟩ := id l1
  refine wpAny_bind (wpAny_holding (PySem.W.kun_collect (s := { s with heap := h1 }) (T := "tuple_iterator") (.inr (.inr (.inr rfl))) (PySem.Walks.tuple (A := A.in1) hh s.heap.objs.size l ne items) (fun j u st => st.1.typeIs) (k := i) (by omega) ⟨it1, l1⟩ (Heap.lt_size hoi) (Heap.lt_size hol) (fun h2 tk k2 => ?_) hz))
  show wpAny _ _ (if (items.toList.drop i).length < n - 1 - i then _ else _) _ _ _
  rw [if_neg (by rw [len2]; omega)]
  have em : (items.toList.drop i).length - (n - 1 - i) = items.size + 1 - n := by rw [len2]; omega
  show wpAny _ _ (newList ((items.toList.drop i).take ((items.toList.drop i).length - (n - 1 - i))) >>= fun d => pure (items.toList.take i ++ [d] ++ (items.toList.drop i).drop ((items.toList.drop i).length - (n - 1 - i)))) _ _ _
  rw [em]
  have kp : ∀ b o, s.heap.get? b = some o → h2.get? b = some o := fun b o e => by
    have nb : b ≠ s.heap.objs.size := Nat.ne_of_lt (Heap.lt_size e)
    exact k2 b o nb (s1.extBut b o nb (Heap.get?_push_of_some _ e))
  refine wpAny_bind (wpAny_newObj_type (wpAny_pure (h h2 tk kp)) ?_)
  show ((items.toList.drop i).take (items.size + 1 - n)).toArray.size ≤ sizeLine
  rw [List.size_toArray, List.length_take, len2]; omega
theorem starL {l : Addr} {items : Array Value} {n i : Nat} {Q : List Value → Shared → Prop} (hl : s.heap.IsList l items) (hh : A.handled = none) (hi : i < n) (hn : n ≤ items.size + 1) (hz : items.size ≤ sizeLine)
    (h : ∀ (h' : Heap) tk, (∀ b o, s.heap.get? b = some o → h'.get? b = some o) → Q (items.toList.take i ++ [.ref h'.objs.size] ++ (items.toList.drop i).drop (items.size + 1 - n)) { s with heap := h'.push { cls := .type "list", data := .seq ((items.toList.drop i).take (items.size + 1 - n)).toArray }, toks := tk }) :
    wpAny (model prog w) A (unpackItems (.ref l) n (some i)) Q E s := by
  have ne : l ≠ s.heap.objs.size := by obtain ⟨o, ho, _⟩ := hl; exact Nat.ne_of_lt (Heap.lt_size ho)
  have len1 : (items.toList.take i).length = i := by rw [List.length_take, Array.length_toList]; omega
  have len2 : (items.toList.drop i).length = items.size - i := by rw [List.length_drop, Array.length_toList]
  unfold unpackItems
  refine wpAny_bind ?_
  unfold notIterableAtAll
  refine wpAny_bind (wpAny_specialOf hl.typeIs slot_list_iter.lookup (wpAny_pure ?_))
  rw [if_neg (by decide)]
  refine wpAny_bind (wpAny_holding (wpAny_pyIter_list hl ?_))
  refine wpAny_bind (wpAny_holding (PySem.W.kun_draw ne i 0 _ _ ⟨_, Heap.get?_push_size _ rfl, rfl, rfl⟩ (hl.push _) (by omega) fun h1 it1 s1 => ?_))
  have l1 : h1.IsList l items := (hl.push _).extBut s1.extBut ne
  rw [Nat.zero_add] at it1
  rw [List.drop_zero, if_neg (by rw [len1]; omega)]
  obtain ⟨oi, hoi, _⟩ := id it1
  obtain ⟨ol, hol, _⟩ := id l1
  refine wpAny_bind (wpAny_holding (PySem.W.kun_collect (s := { s with heap := h1 }) (T := "list_iterator") (.inr (.inr (.inl rfl))) (PySem.Walks.list (A := A.in1) hh s.heap.objs.size l ne items) (fun j u st => st.1.typeIs) (k := i) (by omega) ⟨it1, l1⟩ (Heap.lt_size hoi) (Heap.lt_size hol) (fun h2 tk k2 => ?_) hz))
  show wpAny _ _ (if (items.toList.drop i).length < n - 1 - i then _ else _) _ _ _
  rw [if_neg (by rw [len2]; omega)]
  have em : (items.toList.drop i).length - (n - 1 - i) = items.size + 1 - n := by rw [len2]; omega
  show wpAny _ _ (newList ((items.toList.drop i).take ((items.toList.drop i).length - (n - 1 - i))) >>= fun d => pure (items.toList.take i ++ [d] ++ (items.toList.drop i).drop ((items.toList.drop i).length - (n - 1 - i)))) _ _ _
  rw [em]
  have kp : ∀ b o, s.heap.get? b = some o → h2.get? b = some o := fun b o e => by
    have nb : b ≠ s.heap.objs.size := Nat.ne_of_lt (Heap.lt_size e)
    exact k2 b o nb (s1.extBut b o nb (Heap.get?_push_of_some _ e))
  refine wpAny_bind (wpAny_newObj_type (wpAny_pure (h h2 tk kp)) ?_)
  show ((items.toList.drop i).take (items.size + 1 - n)).toArray.size ≤ sizeLine
  rw [List.size_toArray, List.length_take, len2]; omega
end
section
variable {X : Cx} {w0 : Wd} {pos : Pos} {vs : List Nat}
theorem pg_or {e : Expr} {t t' : TG} (h : PG X e t) (h' : PG X e t') : PG X e (fun v σ H Q => t v σ H Q ∨ t' v σ H Q) :=
  ⟨fun pins s σ H v u Q I r hw => hw.elim (h.run pins s σ H v u Q I r) (h'.run pins s σ H v u Q I r)⟩
def gStV (K : PySem.W.Frag) (n i : Nat) (t : TGs) : TG := fun v σ H Q => ∃ a xs, v = .ref a ∧ (SqT K H a xs ∨ SqL K H a xs) ∧ n ≤ xs.length + 1 ∧
  ∀ p, H p = none → t (xs.take i ++ [.ref p] ++ (xs.drop i).drop (xs.length + 1 - n)) σ (upd H p (.lst ((xs.drop i).take (xs.length + 1 - n)))) Q
theorem pg_st {es : List Expr} {k : Nat} {t : TGs} {n i : Nat} (hc : X.calm = true) (h : PGs X es t) (hi : i < n)
    (hn : (assignEach es X.env).length = n := by rfl) (hst : (assignEach es X.env).findIdx? (·.1) = some i := by rfl) : PG X (.Tuple es k pos) (gStV X.K n i t) := by
  refine ⟨fun pins s σ H v u Q I r hw => ?_⟩
  obtain ⟨a, xs, rfl, hq, hl, hw⟩ := hw
  cases r
  rw [PyProof.Rows.assign_Tuple]
  refine wpAny_bind (wpAny_standAt ?_)
  unfold unpack
  rw [hn, hst]
  have go : ∀ its : List Value, Vals xs its → xs.length ≤ sizeLine → ∀ (h' : Heap) tk, (∀ b o, s.heap.get? b = some o → h'.get? b = some o) →
      wpAny (model X.prog X.w) X.A (assignInOrder ((assignEach es X.env).map (·.2)) (its.toArray.toList.take i ++ [.ref h'.objs.size] ++ (its.toArray.toList.drop i).drop (its.toArray.size + 1 - n))) (fun _ s' => ∃ σ' H', Inv X pins σ' H' s' ∧ Q σ' H') X.xe
        { s with heap := h'.push { cls := .type "list", data := .seq ((its.toArray.toList.drop i).take (its.toArray.size + 1 - n)).toArray }, toks := tk } := fun its rv hz h' tk kp => by
    have I1 : Inv X pins σ H { s with heap := h', toks := tk } := I.kept (t' := tk) kp
    have el : its.toArray.size = xs.length := by rw [List.size_toArray, rv.length]
    have I2 := I1.lnew (its := (its.drop i).take (xs.length + 1 - n)) (ys := (xs.drop i).take (xs.length + 1 - n)) (t' := tk) ((rv.drop i).take _) (by rw [List.length_take, List.length_drop]; omega)
    have hf : H h'.objs.size = none := I1.fresh
    rw [el]
    exact h.run pins _ σ _ _ _ Q I2 (((rv.take i).append (.cons (show RelV (.ref h'.objs.size) (.ref h'.objs.size) from rfl) .nil)).append ((rv.drop i).drop _)) (hw _ hf)
  rcases hq with hq | hq
  · obtain ⟨its, rv, ht, hz⟩ := I.tuple hq
    exact wpAny_bind (wpAny_holding (starT ht (I.ok.hd hc) hi (by rw [List.size_toArray, ← rv.length]; exact hl) (by rw [List.size_toArray, ← rv.length]; exact hz) (go its rv hz)))
  · obtain ⟨its, rv, ht, hz⟩ := I.list hq
    exact wpAny_bind (wpAny_holding (starL ht.isList (I.ok.hd hc) hi (by rw [List.size_toArray, ← rv.length]; exact hl) (by rw [List.size_toArray, ← rv.length]; exact hz) (go its rv hz)))
theorem pgs_st {e : Expr} {es : List Expr} {sp : Pos} {t : TG} {u : TGs} (h1 : PG X e t) (h2 : PGs X es u) : PGs X (.Starred e sp :: es) (gCons t u) := by
  refine ⟨fun pins s σ H vs us Q I r h => ?_⟩
  obtain ⟨v, vr, rfl, h⟩ := h
  cases r with
  | cons r rr =>
    show wpAny _ _ (assignInOrder (assign e X.env :: (assignEach es X.env).map (·.2)) _) _ _ _
    refine PyProof.Rows.assignInOrder_cons (thn (h1.run pins s σ H _ _ _ I r h) fun _ s1 ⟨σ1, H1, I1, q1⟩ => ?_)
    exact h2.run pins s1 σ1 H1 _ _ Q I1 rr q1
theorem ag_n (i : Nat) {x : Str} {pos : Pos} (hN : X.N.Nodup) (hv : i ∈ vs) (hi : X.N[i]? = some x := by rfl) (hx : Loc X.env.scope x := by first | exact Or.inl rfl | exact Or.inr rfl) (hf : X.fn x = true ∨ X.env.scope.names.lookup x = some .local := by first | exact .inl rfl | exact .inr rfl | assumption) : AG X w0 vs (.Name x pos) (gN i) :=
  pg_of (pg_name hN hi hx hf) fun v σ H Q h => by
    obtain ⟨env, w, rfl, ok, tr0, er, d, P, dv, h, k⟩ := h
    exact k _ w _ h (Tr.refl w) ok (er.set i dv) (Only.set hv)
theorem ags_nil : AGs X w0 vs [] gsNil := pgs_of pgs_nil fun v σ H Q h => by
  obtain ⟨env, w, rfl, ok, tr0, er, ds, P, dv, h, k⟩ := h
  cases ds with
  | nil => unfold Dts at dv; exact ⟨dv, k _ w _ h (Tr.refl w) ok er (Only.refl _ _)⟩
  | cons _ _ => exact (h : False).elim
variable {e : Expr} {es : List Expr} {g : ATG} {gs : ATGs}
theorem gcons_of {v : List V} {σ : L2.St} {H : Hp} {Q : L2.St → Hp → Prop} (h : concGs X.K w0 vs (gsCons g gs) v σ H Q) : gCons (concG X.K w0 vs g) (concGs X.K w0 vs gs) v σ H Q := by
  obtain ⟨env, w, rfl, ok, tr0, er, ds, P, dv, h, k⟩ := h
  cases ds with
  | nil => exact (h : False).elim
  | cons d ds =>
    unfold Dts at dv
    obtain ⟨x, xr, rfl, dx, dr⟩ := dv
    refine ⟨x, xr, rfl, env, w, rfl, ok, tr0, er, d, _, dx, h, fun env1 w1 σ1 h1 t1 ok1 er1 o1 => ?_⟩
    exact ⟨env1, w1, rfl, ok1, tr0.trans t1, er1, ds, _, dr.mono t1.gs, h1, fun env2 w2 σ2 h2 t2 ok2 er2 o2 => k env2 w2 σ2 h2 (t1.trans t2) ok2 er2 (o1.trans o2)⟩
theorem ags_cons (h1 : AG X w0 vs e g) (h2 : AGs X w0 vs es gs) (hs : (assignEach (e :: es) X.env).map (·.2) = assign e X.env :: (assignEach es X.env).map (·.2) := by rfl) : AGs X w0 vs (e :: es) (gsCons g gs) := pgs_of (pgs_cons h1 h2 hs) fun _ _ _ _ h => gcons_of h
theorem ags_st {sp : Pos} (h1 : AG X w0 vs e g) (h2 : AGs X w0 vs es gs) : AGs X w0 vs (.Starred e sp :: es) (gsCons g gs) := pgs_of (pgs_st h1 h2) fun _ _ _ _ h => gcons_of h
theorem ag_tp {k : Nat} {n : Nat} (hc : X.calm = true) (h : AGs X w0 vs es gs) (hn : (assignEach es X.env).length = n := by rfl) (hst : (assignEach es X.env).findIdx? (·.1) = none := by rfl) : AG X w0 vs (.Tuple es k pos) (gTp n gs) :=
  pg_of (pg_or (pg_tup hc h hn hst) (pg_lst hc h hn hst)) fun v σ H Q h => by
    obtain ⟨env, w, rfl, ok, tr0, er, d, P, dv, h, k⟩ := h
    have sv := see_ok ok dv
    unfold gTp at h
    cases e : see w.own d with
    | tup ds =>
      rw [e] at h sv
      obtain ⟨a, us, rfl, e2, e3⟩ := sv
      exact .inl ⟨a, us, rfl, e2, by rw [e3.length]; exact h.1, env, w, rfl, ok, tr0, er, ds, P, e3, h.2, k⟩
    | lst ds =>
      rw [e] at h sv
      obtain ⟨a, us, rfl, e2, e3⟩ := sv
      exact .inr ⟨a, us, rfl, .inl e2, by rw [e3.length]; exact h.1, env, w, rfl, ok, tr0, er, ds, P, e3, h.2, k⟩
    | non => rw [e] at h; exact h.elim
    | bl _ => rw [e] at h; exact h.elim
    | int _ => rw [e] at h; exact h.elim
    | str _ => rw [e] at h; exact h.elim
    | ty _ => rw [e] at h; exact h.elim
    | kls _ => rw [e] at h; exact h.elim
    | dct _ => rw [e] at h; exact h.elim
    | ref _ => rw [e] at h; exact h.elim
theorem ag_st {k : Nat} {n i : Nat} (hc : X.calm = true) (hi : i < n) (h : AGs X w0 vs es gs) (hn : (assignEach es X.env).length = n := by rfl) (hst : (assignEach es X.env).findIdx? (·.1) = some i := by rfl) : AG X w0 vs (.Tuple es k pos) (gSt n i gs) :=
  pg_of (pg_st hc h hi hn hst) fun v σ H Q h => by
    obtain ⟨env, w, rfl, ok, tr0, er, d, P, dv, h, k⟩ := h
    have sv := see_ok ok dv
    unfold gSt at h
    have fin : ∀ (ds : List D) (us : List V), Dts X.K w.G ds us → (n ≤ ds.length + 1 ∧ ds.length ≤ 16384 ∧ gs (ds.take i ++ [.lst ((ds.drop i).take (ds.length + 1 - n))] ++ (ds.drop i).drop (ds.length + 1 - n)) env w.own P) →
        n ≤ us.length + 1 ∧ ∀ p, w.H p = none → concGs X.K w0 vs gs (us.take i ++ [.ref p] ++ (us.drop i).drop (us.length + 1 - n)) σ (upd w.H p (.lst ((us.drop i).take (us.length + 1 - n)))) Q := fun ds us dr h => by
      have el := dr.length
      refine ⟨by rw [el]; exact h.1, fun p hp => ?_⟩
      rw [el]
      obtain ⟨w1, a1, a2, t1, ok1, d1⟩ := newLst ok hp ((dr.drop i).take (ds.length + 1 - n)) (by
        have h2 := h.2.1
        rw [List.length_take, List.length_drop]
        have : (16384 : Nat) ≤ sizeLine := by decide
        omega)
      rw [← a1]
      exact ⟨env, w1, rfl, ok1, tr0.trans t1, er.mono t1.gs, _, P, (((dr.mono t1.gs).take i).append (.cons d1 .nil)).append (((dr.mono t1.gs).drop i).drop _), by rw [a2]; exact h.2.2, fun env2 w2 σ2 h2 t2 => k env2 w2 σ2 h2 (t1.trans t2)⟩
    cases e : see w.own d with
    | tup ds =>
      rw [e] at h sv
      obtain ⟨a, us, rfl, e2, e3⟩ := sv
      exact ⟨a, us, rfl, .inl e2, fin ds us e3 h⟩
    | lst ds =>
      rw [e] at h sv
      obtain ⟨a, us, rfl, e2, e3⟩ := sv
      exact ⟨a, us, rfl, .inr (.inl e2), fin ds us e3 h⟩
    | non => rw [e] at h; exact h.elim
    | bl _ => rw [e] at h; exact h.elim
    | int _ => rw [e] at h; exact h.elim
    | str _ => rw [e] at h; exact h.elim
    | ty _ => rw [e] at h; exact h.elim
    | kls _ => rw [e] at h; exact h.elim
    | dct _ => rw [e] at h; exact h.elim
    | ref _ => rw [e] at h; exact h.elim
/-! ### assignments -/
def aAsg (te : ATE) (g : ATG) : ATS := fun E env own => te env own fun d o => g d env o E.nx
variable {tg : Expr} {te : ATE}
theorem asg_of {E : Ends} {σ : L2.St} {H : Hp} (h : concS X.K w0 (aAsg te g) E σ H) : tAsg (concE X.K w0 te) (concG X.K w0 vs g) E σ H := by
  obtain ⟨env, w, rfl, ok, tr0, er, A, h, k, _⟩ := h
  refine ⟨env, w, rfl, ok, tr0, er, _, h, fun d w1 v h1 t1 ok1 dv => ?_⟩
  exact ⟨env, w1, rfl, ok1, tr0.trans t1, er.mono t1.gs, d, _, dv, h1, fun env2 w2 σ2 h2 t2 ok2 er2 _ => k env2 w2 σ2 h2 (t1.trans t2) ok2 er2⟩
theorem as_asg (he : AE X w0 e te) (hg : AG X w0 vs tg g) (hs : swapsWithSole [tg] e pos.line X.env = pure false := by rfl) (hw : swappedStores [tg] e X.env = pure none := by rfl)
    (h1 : (assignEach [tg] X.env).map (·.2) = [assign tg X.env] := by rfl) : AS X w0 (.Assign [tg] e pos) (aAsg te g) := ps_of (ps_asg he hg hs hw h1) fun _ _ _ h => asg_of h
/-- name = value -/
theorem as_set (i : Nat) {x : Str} {pos' : Pos} (hN : X.N.Nodup) (he : AE X w0 e te) (hi : X.N[i]? = some x := by rfl) (hx : Loc X.env.scope x := by first | exact Or.inl rfl | exact Or.inr rfl) (hs : swapsWith e (some (.Name x pos')) pos.line X.env = pure false := by rfl) (hf : X.fn x = true ∨ X.env.scope.names.lookup x = some .local := by first | exact .inl rfl | exact .inr rfl | assumption) :
    AS X w0 (.Assign [.Name x pos'] e pos) (aAsg te (gN i)) := ps_of (ps_set hN hi hx he hs hf) fun E σ H h => by
  obtain ⟨env, w, rfl, ok, tr0, er, A, h, k, _⟩ := h
  exact ⟨env, w, rfl, ok, tr0, er, _, h, fun d w1 v h1 t1 ok1 dv => k _ w1 _ h1 t1 ok1 ((er.mono t1.gs).set i dv)⟩
/-- a, b = x, y: two plain local names -/
def aPar (i j : Nat) (ta : ATA) : ATS := fun E env own => ta env own fun ds o => match ds with
  | [d, e] => E.nx ((env.set i (some d)).set j (some e)) o
  | _ => False
theorem as_par (i j : Nat) {x y : Str} {a b : Expr} {ta : ATA} {px py pt : Pos} {kt k2 pt2} (hc : X.calm = true) (hN : X.N.Nodup) (ha : AA X w0 [a, b] ta) (hij : i ≠ j) (hi : X.N[i]? = some x := by rfl) (hj : X.N[j]? = some y := by rfl)
    (hx : X.env.scope.names.lookup x = some .local := by rfl) (hy : X.env.scope.names.lookup y = some .local := by rfl)
    (hw : swappedStores [.Tuple [.Name x px, .Name y py] kt pt] (.Tuple [a, b] k2 pt2) X.env = pure (some [x, y]) := by rfl)
    (hs : swapsWithSole [.Tuple [.Name x px, .Name y py] kt pt] (.Tuple [a, b] k2 pt2) pos.line X.env = pure false := by rfl) :
    AS X w0 (.Assign [.Tuple [.Name x px, .Name y py] kt pt] (.Tuple [a, b] k2 pt2) pos) (aPar i j ta) := ps_of (ps_par hc hN hi hj hij hx hy ha hw hs) fun E σ H h => by
  obtain ⟨env, w, rfl, ok, tr0, er, A, h, k, _⟩ := h
  refine ⟨env, w, rfl, ok, tr0, er, _, h, fun ds w1 us h1 t1 ok1 dv => ?_⟩
  match ds, h1, dv with
  | [d, e], h1, dv =>
    unfold Dts at dv
    obtain ⟨v, vr, rfl, d1, d2⟩ := dv
    unfold Dts at d2
    obtain ⟨u, ur, rfl, d3, d4⟩ := d2
    unfold Dts at d4
    subst d4
    exact ⟨v, u, rfl, k _ w1 _ h1 t1 ok1 (((er.mono t1.gs).set i d1).set j d3)⟩
/-- name op= value -/
def aAug (f : BinF) (i : Nat) (te : ATE) : ATS := fun E env own => match eg env i with
  | some d => te env own fun e o => f o d e fun z => E.nx (env.set i (some z)) o
  | none => False
theorem as_aug (i : Nat) {x : Str} {op : Operator} {ti : TIp} {f : BinF} {pos' : Pos} (ho : PIp X op ti) (hs : OpS X.K ti f) (hN : X.N.Nodup) (he : AE X w0 e te) (hi : X.N[i]? = some x := by rfl) (hx : Loc X.env.scope x := by first | exact Or.inl rfl | exact Or.inr rfl) (hf : X.fn x = true ∨ X.env.scope.names.lookup x = some .local := by first | exact .inl rfl | exact .inr rfl | assumption) :
    AS X w0 (.AugAssign (.Name x pos') op e pos) (aAug f i te) := ps_of (ps_aug hN hi hx he ho hf) fun E σ H h => by
  obtain ⟨env, w, rfl, ok, tr0, er, A, h, k, _⟩ := h
  unfold aAug at h
  cases e1 : eg env i with
  | none => rw [e1] at h; exact h.elim
  | some d =>
    rw [e1] at h
    obtain ⟨v, a1, a2⟩ := er.2 i d e1
    refine ⟨v, a1, env, w, rfl, ok, tr0, er, _, h, fun e2 w1 u h1 t1 ok1 dv => ?_⟩
    exact hs w1 d e2 v u _ _ ok1 (a2.mono t1.gs) dv h1 fun z w2 y hz ho t2 ok2 dz => k _ w2 _ (by rw [ho]; exact hz) (t1.trans t2) ok2 (((er.mono t1.gs).mono t2.gs).set i dz)
end

/-! ### loops -/
/-- the turns of a for -/
def aTurns (g : ATG) (b : ATS) (gd : Own → Prop) (E : AEnds) : List D → AEnv → Own → Prop
  | [], env, own => gd own ∧ E.nx env own
  | d :: ds, env, own => gd own ∧ g d env own fun env1 o1 => b { nx := aTurns g b gd E ds, rt := E.rt, bk := E.nx, ct := aTurns g b gd E ds } env1 o1
def aFor (ti : ATI) (g : ATG) (b : ATS) : ATS := fun E env own => ti env own fun ds gd o => aTurns g b gd E ds env o
def aWhl (t : ATT) (b : ATS) (E : AEnds) : Nat → AEnv → Own → Prop
  | 0, _, _ => False
  | n + 1, env, own => t env own fun c o => match c with
    | true => b { nx := aWhl t b E n, rt := E.rt, bk := E.nx, ct := aWhl t b E n } env o
    | false => E.nx env o
def aWhile (t : ATT) (b : ATS) : ATS := fun E env own => ∃ n, aWhl t b E n env own
section
variable {X : Cx} {w0 : Wd} {pos : Pos} {vs : List Nat}
theorem as_for {tg iter : Expr} {body : List Stmt} {ti : ATI} {g : ATG} {tb : ATS} (hp : PassesOwn (model X.prog X.w) X.A X.env X.xe) (hc : X.calm = true) (hi : AI X w0 tg iter ti) (hg : AG X w0 vs tg g) (hb : ASs X w0 body tb)
    (hs : ∀ x, foldedSetIterable iter X.env x = pure x := by intro _; rfl) : AS X w0 (.For tg iter body [] pos) (aFor ti g tb) := ps_of (ps_for hp hc hi hg hb hs) fun E σ H h => by
  obtain ⟨env, w, rfl, ok, tr0, er, A, h, k1, k2, k3, k4⟩ := h
  refine ⟨env, w, rfl, ok, tr0, er, _, h, fun ds gd w1 J h1 t1 ok1 wk => ?_⟩
  refine ⟨fun i m σ' H' => ∃ (env' : AEnv) (w' : Wd), w'.H = H' ∧ w'.Ok X.K ∧ Tr w1 w' ∧ EnvR X.K w'.G env' σ' ∧ m + i = ds.length ∧ aTurns g tb gd A (ds.drop i) env' w'.own,
    ⟨ds.length, env, w1, rfl, ok1, Tr.refl _, er.mono t1.gs, rfl, h1⟩, fun i m σ' H' hW => ?_⟩
  obtain ⟨env', w', rfl, ok', t', er', hm, hT⟩ := hW
  cases e : ds.drop i with
  | nil =>
    rw [e] at hT
    have hi' : i = ds.length := by
      have := List.drop_eq_nil_iff.mp e
      omega
    subst hi'
    exact .inl ⟨wk.stop w' ok' t'.gs hT.1, k1 env' w' σ' hT.2 (t1.trans t') ok' er'⟩
  | cons d dr =>
    rw [e] at hT
    have hlt : i < ds.length := by
      rcases Nat.lt_or_ge i ds.length with q | q
      · exact q
      · rw [List.drop_eq_nil_of_le q] at e; cases e
    have ed : ds[i]? = some d ∧ ds.drop (i + 1) = dr := by
      rw [List.drop_eq_getElem_cons hlt] at e
      injection e with e1 e2
      exact ⟨by rw [List.getElem?_eq_getElem hlt, e1], e2⟩
    refine .inr ⟨wk.go i w' ok' t'.gs hT.1 hlt, fun σ2 H2 => ∃ (env2 : AEnv) (w2 : Wd), w2.H = H2 ∧ w2.Ok X.K ∧ Tr w1 w2 ∧ EnvR X.K w2.G env2 σ2 ∧ (m - 1) + (i + 1) = ds.length ∧ aTurns g tb gd A (ds.drop (i + 1)) env2 w2.own,
      fun σ2 H2 q => ⟨m - 1, by omega, q⟩, fun x H2 hy => ?_⟩
    obtain ⟨d', w2, a1, rfl, a3, t2, ok2, dx⟩ := wk.yld i w' x H2 ok' t'.gs hT.1 hlt hy
    rw [ed.1] at a1; cases a1
    refine ⟨env', w2, rfl, ok2, ((tr0.trans t1).trans t').trans t2, er'.mono t2.gs, d, _, dx, by rw [a3]; exact hT.2, fun env3 w3 σ3 h3 t3 ok3 er3 _ => ?_⟩
    have T3 : Tr w1 w3 := (t'.trans t2).trans t3
    have fin : ∀ env4 (w4 : Wd) σ4, aTurns g tb gd A dr env4 w4.own → Tr w3 w4 → w4.Ok X.K → EnvR X.K w4.G env4 σ4 → ∃ (env2 : AEnv) (w2 : Wd), w2.H = w4.H ∧ w2.Ok X.K ∧ Tr w1 w2 ∧ EnvR X.K w2.G env2 σ4 ∧ (m - 1) + (i + 1) = ds.length ∧ aTurns g tb gd A (ds.drop (i + 1)) env2 w2.own :=
      fun env4 w4 σ4 h4 t4 ok4 er4 => ⟨env4, w4, rfl, ok4, T3.trans t4, er4, by omega, by rw [ed.2]; exact h4⟩
    exact ⟨env3, w3, rfl, ok3, (tr0.trans t1).trans T3, er3, _, h3, fin, fun d w4 v h4 t4 => k2 d w4 v h4 ((t1.trans T3).trans t4), fun env4 w4 σ4 h4 t4 => k1 env4 w4 σ4 h4 ((t1.trans T3).trans t4), fin⟩
theorem as_while {c : Expr} {body : List Stmt} {tc : ATT} {tb : ATS} (hp : PassesOwn (model X.prog X.w) X.A X.env X.xe) (hc : AT X w0 c tc) (hb : ASs X w0 body tb) : AS X w0 (.While c body [] pos) (aWhile tc tb) := ps_of (ps_while hp hc hb) fun E σ H h => by
  obtain ⟨env, w, rfl, ok, tr0, er, A, ⟨n, h⟩, k1, k2, k3, k4⟩ := h
  refine ⟨fun m σ' H' => ∃ (env' : AEnv) (w' : Wd), w'.H = H' ∧ w'.Ok X.K ∧ Tr w w' ∧ EnvR X.K w'.G env' σ' ∧ aWhl tc tb A m env' w'.own, ⟨n, env, w, rfl, ok, Tr.refl _, er, h⟩, fun m σ' H' hW => ?_⟩
  obtain ⟨env', w', rfl, ok', t', er', hT⟩ := hW
  cases m with
  | zero => exact (hT : False).elim
  | succ m =>
    refine ⟨env', w', rfl, ok', tr0.trans t', er', _, hT, fun b w2 h2 t2 ok2 => ?_⟩
    cases b with
    | false => rw [if_neg (by decide)]; exact k1 env' w2 σ' h2 (t'.trans t2) ok2 (er'.mono t2.gs)
    | true =>
      rw [if_pos rfl]
      refine ⟨fun σ3 H3 => ∃ (env3 : AEnv) (w3 : Wd), w3.H = H3 ∧ w3.Ok X.K ∧ Tr w w3 ∧ EnvR X.K w3.G env3 σ3 ∧ aWhl tc tb A m env3 w3.own, fun σ3 H3 q => ⟨m, Nat.lt_succ_self _, q⟩, ?_⟩
      have T2 := t'.trans t2
      exact ⟨env', w2, rfl, ok2, tr0.trans T2, er'.mono t2.gs, _, h2, fun env4 w4 σ4 h4 t4 ok4 er4 => ⟨env4, w4, rfl, ok4, T2.trans t4, er4, h4⟩, fun d w4 v h4 t4 => k2 d w4 v h4 (T2.trans t4),
        fun env4 w4 σ4 h4 t4 => k1 env4 w4 σ4 h4 (T2.trans t4), fun env4 w4 σ4 h4 t4 ok4 er4 => ⟨env4, w4, rfl, ok4, T2.trans t4, er4, h4⟩⟩
end
end L3

namespace L3
open PySem PySem.Spec PyProof.Rows L2

/-! ### what is walked -/
def signs (x : Str) : List D := x.cps.toList.map fun c => .str ⟨#[c]⟩
/-- a list, a tuple, a text -/
def aIt (te : ATE) : ATI := fun env own P => te env own fun d o => match see o d with
  | .lst ds => P ds (fun o' => see o' d = .lst ds) o
  | .tup ds => P ds (fun _ => True) o
  | .str x => x.cps.size ≤ sizeLine ∧ P (signs x) (fun _ => True) o
  | _ => False
def iSeq (K : PySem.W.Frag) (tl : TE) : TI := fun σ H R => tl σ H fun x H1 => (∃ a, x = .ref a ∧ (∃ xs, SqL K H1 a xs) ∧ R (Itl K a) H1) ∨ (∃ a, x = .ref a ∧ (∃ xs, SqT K H1 a xs) ∧ R (Itt K a) H1) ∨ ∃ y, x = .str y ∧ R (Its y) H1
section
variable {X : Cx} {w0 : Wd} {tg e : Expr} {tl : TE} {te : ATE}
theorem pi_seq (hl : PE X e tl) : PI X tg e (iSeq X.K tl) := by
  refine ⟨fun pins s σ H R I h => ?_⟩
  refine thn (hl.run pins s σ H _ I h) fun v s1 ⟨x, H1, I1, r1, q1⟩ => ?_
  have one : ∀ b ∈ [s1.heap.objs.size], FpOk X pins H1 b := fun b hb => by
    rw [List.mem_singleton.mp hb]; exact I1.fpOk (Nat.le_refl _) (I1.hok.fresh (Nat.le_refl _))
  rcases q1 with ⟨a, rfl, ⟨xs, hq⟩, q⟩ | ⟨a, rfl, ⟨xs, hq⟩, q⟩ | ⟨y, rfl, q⟩
  · cases r1
    obtain ⟨its, rv, p, hz⟩ := I1.list hq
    exact wpAny_pyIter_list p.isList ⟨s1.heap.objs.size, [s1.heap.objs.size], _, _, H1, rfl, I1.kept (t' := s1.toks) fun b o e => Heap.get?_push_of_some _ e, turn_list a _, ⟨_, Heap.get?_push_size _ rfl, rfl, rfl⟩, one, q⟩
  · cases r1
    obtain ⟨its, rv, p, hz⟩ := I1.tuple hq
    exact wpAny_pyIter_tuple (show s1.heap.IsTuple a its.toArray from p) ⟨s1.heap.objs.size, [s1.heap.objs.size], _, _, H1, rfl, I1.kept (t' := s1.toks) fun b o e => Heap.get?_push_of_some _ e, turn_tuple a _, ⟨_, Heap.get?_push_size _ rfl, rfl, rfl⟩, one, q⟩
  · obtain ⟨t, rfl⟩ := r1
    cases ha : y.cps.all (· < 128)
    · exact wpAny_pyIter_wide ha (pi_one (tk := s1.toks) I1 _ (turn_str _ y t "str_iterator" (.inr rfl)) ⟨_, Heap.get?_push_size _ rfl, rfl, rfl⟩ q)
    · exact wpAny_pyIter_ascii ha (pi_one (tk := s1.toks) I1 _ (turn_str _ y t "str_ascii_iterator" (.inl rfl)) ⟨_, Heap.get?_push_size _ rfl, rfl, rfl⟩ q)
theorem walks_lst {K : PySem.W.Frag} {w : Wd} {d : D} {a : Addr} {ds : List D} (ok : w.Ok K) (h : Dt K w.G d (.ref a)) (hs : see w.own d = .lst ds) : Walks K w (Itl K a) ds (fun o' => see o' d = .lst ds) := by
  have at_ : ∀ (w' : Wd), w'.Ok K → Sub w.G w'.G → see w'.own d = .lst ds → ∃ vs, SqL K w'.H a vs ∧ Dts K w'.G ds vs := fun w' ok' sb e => by
    have sv := see_ok ok' (h.mono sb)
    rw [e] at sv
    obtain ⟨b, vs, e1, e2, e3⟩ := sv
    cases e1
    exact ⟨vs, .inl e2, e3⟩
  obtain ⟨vs, q1, q2⟩ := at_ w ok (Sub.refl _) hs
  refine ⟨by rw [← q2.length]; exact sqL_sz ok q1, fun i w' ok' sb e hi => ?_, fun w' ok' sb e => ?_, fun i w' x H' ok' sb e hi hy => ?_⟩
  · obtain ⟨us, a1, a2⟩ := at_ w' ok' sb e
    obtain ⟨x, b1, _⟩ := a2.get (List.getElem?_eq_getElem hi)
    exact ⟨us, x, a1, b1⟩
  · obtain ⟨us, a1, a2⟩ := at_ w' ok' sb e
    exact ⟨us, a1, by rw [a2.length]; exact Nat.le_refl _⟩
  · obtain ⟨us, a1, a2⟩ := at_ w' ok' sb e
    obtain ⟨rfl, hy⟩ := hy
    obtain ⟨d', b1, b2⟩ := a2.get' (hy us a1)
    exact ⟨d', w', b1, rfl, rfl, Tr.refl _, ok', b2⟩
theorem walks_tup {K : PySem.W.Frag} {w : Wd} {d : D} {a : Addr} {ds : List D} (ok : w.Ok K) (h : Dt K w.G d (.ref a)) (hs : see w.own d = .tup ds) : Walks K w (Itt K a) ds (fun _ => True) := by
  have hd : d = .tup ds := by
    cases d with
    | ref p =>
      unfold see at hs
      cases e : w.own p with
      | none => simp only [e] at hs; cases hs
      | some m => cases m <;> simp only [e] at hs <;> cases hs
    | tup xs => exact hs
    | _ => cases hs
  subst hd
  have at_ : ∀ (w' : Wd), w'.Ok K → Sub w.G w'.G → ∃ vs, SqT K w'.H a vs ∧ Dts K w'.G ds vs := fun w' ok' sb => by
    obtain ⟨b, vs, e1, e2, e3⟩ := see_ok ok' (h.mono sb)
    cases e1
    exact ⟨vs, e2, e3⟩
  obtain ⟨vs, q1, q2⟩ := at_ w ok (Sub.refl _)
  refine ⟨by rw [← q2.length]; exact sqT_sz ok q1, fun i w' ok' sb e hi => ?_, fun w' ok' sb e => ?_, fun i w' x H' ok' sb e hi hy => ?_⟩
  · obtain ⟨us, a1, a2⟩ := at_ w' ok' sb
    obtain ⟨x, b1, _⟩ := a2.get (List.getElem?_eq_getElem hi)
    exact ⟨us, x, a1, b1⟩
  · obtain ⟨us, a1, a2⟩ := at_ w' ok' sb
    exact ⟨us, a1, by rw [a2.length]; exact Nat.le_refl _⟩
  · obtain ⟨us, a1, a2⟩ := at_ w' ok' sb
    obtain ⟨rfl, hy⟩ := hy
    obtain ⟨d', b1, b2⟩ := a2.get' (hy us a1)
    exact ⟨d', w', b1, rfl, rfl, Tr.refl _, ok', b2⟩
theorem walks_str {K : PySem.W.Frag} {w : Wd} {x : Str} (hz : x.cps.size ≤ sizeLine) : Walks K w (Its x) (signs x) (fun _ => True) := by
  have hl : (signs x).length = x.cps.size := by simp [signs]
  refine ⟨by rw [hl]; exact hz, fun i w' ok' sb e hi => ?_, fun w' ok' sb e => ?_, fun i w' v H' ok' sb e hi hy => ?_⟩
  · show i < x.cps.size; omega
  · show x.cps.size ≤ (signs x).length; omega
  · obtain ⟨rfl, c, e1, rfl⟩ := hy
    refine ⟨.str ⟨#[c]⟩, w', ?_, rfl, rfl, Tr.refl _, ok', by unfold Dt; rfl⟩
    unfold signs
    rw [List.getElem?_map, Array.getElem?_toList, e1]; rfl
theorem ai_it (he : AE X w0 e te) : AI X w0 tg e (aIt te) := pi_of (pi_seq he) fun σ H R h => by
  obtain ⟨env, w, rfl, ok, tr0, er, P, h, k⟩ := h
  refine ⟨env, w, rfl, ok, tr0, er, _, h, fun d w1 v h1 t1 ok1 dv => ?_⟩
  have sv := see_ok ok1 dv
  cases e : see w1.own d with
  | lst ds =>
    rw [e] at h1 sv
    obtain ⟨a, vs, rfl, e2, e3⟩ := sv
    exact .inl ⟨a, rfl, ⟨vs, .inl e2⟩, k ds _ w1 _ h1 t1 ok1 (walks_lst ok1 dv e)⟩
  | tup ds =>
    rw [e] at h1 sv
    obtain ⟨a, vs, rfl, e2, e3⟩ := sv
    exact .inr (.inl ⟨a, rfl, ⟨vs, e2⟩, k ds _ w1 _ h1 t1 ok1 (walks_tup ok1 dv e)⟩)
  | str x =>
    rw [e] at h1 sv
    change Dt X.K w1.G (.str x) v at sv
    unfold Dt at sv; subst sv
    exact .inr (.inr ⟨x, rfl, k _ _ w1 _ h1.2 t1 ok1 (walks_str h1.1)⟩)
  | non => rw [e] at h1; exact h1.elim
  | bl _ => rw [e] at h1; exact h1.elim
  | int _ => rw [e] at h1; exact h1.elim
  | ty _ => rw [e] at h1; exact h1.elim
  | kls _ => rw [e] at h1; exact h1.elim
  | dct _ => rw [e] at h1; exact h1.elim
  | ref _ => rw [e] at h1; exact h1.elim
/-- range -/
def rng (lo : Int) (n : Nat) : List D := (List.range n).map fun (i : Nat) => D.int (lo + (i : Int))
def aRng1 (ta : ATA) : ATI := fun env own P => ta env own fun ds o => match ds with
  | [.int n] => (-(2 ^ 62) ≤ n ∧ n ≤ 16777216) ∧ P (rng 0 n.toNat) (fun _ => True) o
  | _ => False
def aRng2 (ta : ATA) : ATI := fun env own P => ta env own fun ds o => match ds with
  | [.int a, .int b] => (-(2 ^ 62) ≤ a ∧ a < 2 ^ 62 ∧ -(2 ^ 62) ≤ b ∧ b < 2 ^ 62 ∧ b - a ≤ 16777216) ∧ P (rng a (b - a).toNat) (fun _ => True) o
  | _ => False
theorem walks_rng {K : PySem.W.Frag} {w : Wd} {lo : Int} {n : Nat} (hz : n ≤ sizeLine) : Walks K w (Itr lo n) (rng lo n) (fun _ => True) := by
  have hl : (rng lo n).length = n := by simp [rng]
  refine ⟨by rw [hl]; exact hz, fun i w' ok' sb e hi => ?_, fun w' ok' sb e => ?_, fun i w' v H' ok' sb e hi hy => ?_⟩
  · show i < n; omega
  · show n ≤ (rng lo n).length; omega
  · obtain ⟨rfl, rfl⟩ := hy
    refine ⟨.int (lo + i), w', ?_, rfl, rfl, Tr.refl _, ok', by unfold Dt; rfl⟩
    unfold rng
    rw [List.getElem?_map, List.getElem?_range (by omega)]; rfl
variable {ta : ATA} {p pos : Pos}
theorem ai_rng1 {a : Expr} (hg : Gl X "range") (hm : X.mg "range" = none) (ha : AA X w0 [a] ta) (hs : starEach [a] X.env = [(false, eval a X.env)] := by rfl) : AI X w0 tg (.Call (.Name "range" p) [a] [] pos) (aRng1 ta) := pi_of (pi_range1 hg hm ha hs) fun σ H R h => by
  obtain ⟨env, w, rfl, ok, tr0, er, P, h, k⟩ := h
  refine ⟨env, w, rfl, ok, tr0, er, _, h, fun ds w1 vs h1 t1 ok1 dv => ?_⟩
  match ds, h1, dv with
  | [.int n], h1, dv =>
    unfold Dts at dv
    obtain ⟨v, vr, rfl, d1, d2⟩ := dv
    unfold Dts at d2; unfold Dt at d1
    subst d1 d2
    have hz : n.toNat ≤ sizeLine := by have := h1.1; show n.toNat ≤ 2 ^ 24; omega
    exact ⟨n, rfl, h1.1.1, by have := h1.1; omega, k _ _ w1 _ h1.2 t1 ok1 (walks_rng hz)⟩
theorem ai_rng2 {a b : Expr} (hg : Gl X "range") (hm : X.mg "range" = none) (ha : AA X w0 [a, b] ta) (hs : starEach [a, b] X.env = [(false, eval a X.env), (false, eval b X.env)] := by rfl) (hs2 : starEach [b] X.env = [(false, eval b X.env)] := by rfl) : AI X w0 tg (.Call (.Name "range" p) [a, b] [] pos) (aRng2 ta) := pi_of (pi_range2 hg hm ha hs hs2) fun σ H R h => by
  obtain ⟨env, w, rfl, ok, tr0, er, P, h, k⟩ := h
  refine ⟨env, w, rfl, ok, tr0, er, _, h, fun ds w1 vs h1 t1 ok1 dv => ?_⟩
  match ds, h1, dv with
  | [.int n, .int m], h1, dv =>
    unfold Dts at dv
    obtain ⟨v, vr, rfl, d1, d2⟩ := dv
    unfold Dts at d2
    obtain ⟨u, ur, rfl, d3, d4⟩ := d2
    unfold Dts at d4; unfold Dt at d1 d3
    subst d1 d3 d4
    have hz : (m - n).toNat ≤ sizeLine := by have := h1.1; show (m - n).toNat ≤ 2 ^ 24; omega
    exact ⟨n, m, rfl, ⟨h1.1.1, h1.1.2.1, h1.1.2.2.1, h1.1.2.2.2.1⟩, k _ _ w1 _ h1.2 t1 ok1 (walks_rng hz)⟩
end

/-! ### list comprehensions -/
def aYes : ATT := fun _ own P => P true own
def aLcL (g : ATG) (tt : ATT) (te : ATE) (gd : Own → Prop) (env : AEnv) (P : List D → Own → Prop) : List D → List D → Own → Prop
  | [], acc, own => gd own ∧ P acc own
  | d :: ds, acc, own => gd own ∧ g d env own fun env1 o1 => tt env1 o1 fun b o2 => match b with
    | true => te env1 o2 fun r o3 => aLcL g tt te gd env P ds (acc ++ [r]) o3
    | false => aLcL g tt te gd env P ds acc o2
def aLc (ti : ATI) (g : ATG) (tt : ATT) (te : ATE) (vs : List Nat) : ATN := fun env own P => ti env own fun ds gd o => aLcL g tt te gd (wipeA env vs) P ds [] o
theorem wipe_get (σ : L2.St) : ∀ (vs : List Nat) (i : Nat), (L2.wipe σ vs)[i]? = if i ∈ vs then (if i < σ.length then some none else none) else σ[i]?
  | [], i => by simp [L2.wipe]
  | v :: vs, i => by
    unfold L2.wipe
    by_cases h : v = i
    · subst h
      rw [List.getElem?_set, if_pos rfl, if_pos (List.mem_cons_self ..), L2.wipe_length]
    · rw [List.getElem?_set_ne h, wipe_get σ vs i]
      have e : (i ∈ v :: vs) ↔ i ∈ vs := by
        rw [List.mem_cons]
        exact ⟨fun q => q.elim (fun z => absurd z.symm h) id, Or.inr⟩
      simp only [e]
theorem wipe_only {vs : List Nat} {σ σ' : L2.St} (h : Only vs (L2.wipe σ vs) σ') : L2.wipe σ' vs = L2.wipe σ vs := by
  have hl : σ'.length = σ.length := h.1.trans (L2.wipe_length σ vs)
  apply List.ext_getElem?
  intro i
  rw [wipe_get, wipe_get, hl]
  by_cases hi : i ∈ vs
  · rw [if_pos hi, if_pos hi]
  · rw [if_neg hi, if_neg hi]
    have := h.2 i hi
    rw [wipe_get, if_neg hi] at this
    exact this
section
variable {X : Cx} {w0 : Wd}
abbrev ATs (X : Cx) (w0 : Wd) (ifs : List Expr) (t : ATT) : Prop := PTs X ifs (concT X.K w0 t)
theorem ats_nil : ATs X w0 [] aYes := pts_of pts_nil fun σ H Q h => by
  obtain ⟨env, w, rfl, ok, tr0, er, P, h, k⟩ := h
  exact k true w h (Tr.refl w) ok
theorem ats_one {c : Expr} {t : ATT} (h : AT X w0 c t) : ATs X w0 [c] t := pts_one h
theorem lc_of {ti : ATI} {g : ATG} {tt : ATT} {te : ATE} {vs : List Nat} {σ : L2.St} {H : Hp} {Q : VK} (h : concN X.K w0 (aLc ti g tt te vs) σ H Q) :
    tLc (concI X.K w0 ti) (concG X.K w0 vs g) (concT X.K w0 tt) (concE X.K w0 te) vs σ H Q := by
  obtain ⟨env, w, rfl, ok, tr0, er, P, h, k⟩ := h
  refine ⟨env, w, rfl, ok, tr0, er, _, h, fun ds gd w1 J h1 t1 ok1 wk Dl hD => ?_⟩
  have hD0 : w.H Dl = none := t1.fresh hD
  refine ⟨fun i m H' => ∃ (wc : Wd) (acc : List D) (us : List V), wc.H = H' ∧ wc.Ok X.K ∧ Tr w wc ∧ Sub w1.G wc.G ∧ m + i = ds.length ∧ wc.H Dl = some (.lst us) ∧ wc.G Dl = none ∧ wc.own Dl = none ∧ Dts X.K wc.G acc us ∧ us.length ≤ i ∧
      aLcL g tt te gd (wipeA env vs) P (ds.drop i) acc wc.own, ⟨ds.length, ⟨w1.own, w1.G, upd w1.H Dl (.lst [])⟩, [], [], rfl, ok1.bare (.inl hD) (Nat.zero_le _), t1.bare hD0, Sub.refl _, rfl, upd_same, ok1.noG hD, ok1.noown hD, .nil, Nat.le_refl _, h1⟩, fun i m H' hW => ?_⟩
  obtain ⟨wc, acc, us, rfl, okc, tc, sb, hm, hH, hG, hO, dacc, hul, hL⟩ := hW
  cases e : ds.drop i with
  | nil =>
    rw [e] at hL
    have hi' : i = ds.length := by
      have := List.drop_eq_nil_iff.mp e
      omega
    subst hi'
    exact .inl ⟨wk.stop wc okc sb hL.1, k acc wc Dl us hL.2 tc okc hD0 hH hG hO dacc⟩
  | cons d dr =>
    rw [e] at hL
    have hlt : i < ds.length := by
      rcases Nat.lt_or_ge i ds.length with q | q
      · exact q
      · rw [List.drop_eq_nil_of_le q] at e; cases e
    have ed : ds[i]? = some d ∧ ds.drop (i + 1) = dr := by
      rw [List.drop_eq_getElem_cons hlt] at e
      injection e with e1 e2
      exact ⟨by rw [List.getElem?_eq_getElem hlt, e1], e2⟩
    have hW' : ∀ (w5 : Wd) (acc' : List D) (us' : List V), w5.Ok X.K → Tr wc w5 → w5.H Dl = some (.lst us') → w5.G Dl = none → w5.own Dl = none → Tr w w5 → Dts X.K w5.G acc' us' → us'.length ≤ i + 1 → aLcL g tt te gd (wipeA env vs) P dr acc' w5.own →
        ∃ (wc : Wd) (acc : List D) (us : List V), wc.H = w5.H ∧ wc.Ok X.K ∧ Tr w wc ∧ Sub w1.G wc.G ∧ (m - 1) + (i + 1) = ds.length ∧ wc.H Dl = some (.lst us) ∧ wc.G Dl = none ∧ wc.own Dl = none ∧ Dts X.K wc.G acc us ∧ us.length ≤ i + 1 ∧ aLcL g tt te gd (wipeA env vs) P (ds.drop (i + 1)) acc wc.own :=
      fun w5 acc' us' o5 t5 a1 a2 a3 T5 a4 a5 a6 => ⟨w5, acc', us', rfl, o5, T5, sb.trans t5.gs, by omega, a1, a2, a3, a4, a5, by rw [ed.2]; exact a6⟩
    refine .inr ⟨wk.go i wc okc sb hL.1 hlt, fun H2 => ∃ (wc : Wd) (acc : List D) (us : List V), wc.H = H2 ∧ wc.Ok X.K ∧ Tr w wc ∧ Sub w1.G wc.G ∧ (m - 1) + (i + 1) = ds.length ∧ wc.H Dl = some (.lst us) ∧ wc.G Dl = none ∧ wc.own Dl = none ∧ Dts X.K wc.G acc us ∧ us.length ≤ i + 1 ∧
        aLcL g tt te gd (wipeA env vs) P (ds.drop (i + 1)) acc wc.own, fun H2 q => ⟨m - 1, by omega, q⟩, fun x H2 hy => ?_⟩
    obtain ⟨d', w2, a1, rfl, a3, t2, ok2, dx⟩ := wk.yld i wc x H2 okc sb hL.1 hlt hy
    rw [ed.1] at a1; cases a1
    refine ⟨wipeA env vs, w2, rfl, ok2, (tr0.trans tc).trans t2, ((er.mono (tc.trans t2).gs).wipe vs), d, _, dx, by rw [a3]; exact hL.2, fun env3 w3 σ3 h3 t3 ok3 er3 on3 => ⟨wipe_only on3, ?_⟩⟩
    refine ⟨env3, w3, rfl, ok3, ((tr0.trans tc).trans t2).trans t3, er3, _, h3, fun b w4 h4 t4 ok4 => ?_⟩
    have T4 : Tr wc w4 := (t2.trans t3).trans t4
    have nH : wc.H Dl ≠ none := by rw [hH]; simp
    cases b with
    | false => exact iteF (hW' w4 acc us ok4 T4 (T4.fr Dl _ hH hO) (T4.gd Dl hG nH hO) (T4.od Dl hO nH) (tc.trans T4) (dacc.mono T4.gs) (by omega) h4)
    | true =>
      refine iteT ⟨env3, w4, rfl, ok4, (tr0.trans tc).trans T4, er3.mono t4.gs, _, h4, fun r w5 y h5 t5 ok5 dy => ?_⟩
      have T5 : Tr wc w5 := T4.trans t5
      have b1 := T5.fr Dl _ hH hO
      have b2 := T5.gd Dl hG nH hO
      have b3 := T5.od Dl hO nH
      have hlen := wk.len
      have hz : (us ++ [y]).length ≤ sizeLine := by simp only [List.length_append, List.length_singleton]; omega
      refine ⟨us, b1, by omega, ?_⟩
      have ok6 := ok5.bare (o := .lst (us ++ [y])) (.inr ⟨b2, b3⟩) hz
      have t6 : Tr w ⟨w5.own, w5.G, upd w5.H Dl (.lst (us ++ [y]))⟩ := (tc.trans T5).bare hD0
      exact ⟨⟨w5.own, w5.G, upd w5.H Dl (.lst (us ++ [y]))⟩, acc ++ [r], us ++ [y], rfl, ok6, t6, sb.trans T5.gs, by omega, upd_same, b2, b3, (dacc.mono T5.gs).snoc dy, by simp only [List.length_append, List.length_singleton]; omega, by rw [ed.2]; exact h5⟩
variable {elt tg iter : Expr} {ifs : List Expr} {scope : Scope} {pos : Pos} {ti : ATI} {g : ATG} {tt : ATT} {te : ATE}
theorem an_lc (own : List (Str × Nat)) (hc : X.calm = true) (hN : X.N.Nodup) (hi : AI X w0 tg iter ti) (ok : BlkOk X.N X.env.scope scope own)
    (hg : ∀ (s : Shared) (H : Hp) (C : Addr) (cl : List (Str × Addr)) (fp : List Addr), AG (X.blk s H scope (compEnvC scope cl C X.env) fp) w0 (own.map (·.2)) tg g)
    (ht : ∀ (s : Shared) (H : Hp) (C : Addr) (cl : List (Str × Addr)) (fp : List Addr), ATs (X.blk s H scope (compEnvC scope cl C X.env) fp) w0 ifs tt)
    (he : ∀ (s : Shared) (H : Hp) (C : Addr) (cl : List (Str × Addr)) (fp : List Addr), AE (X.blk s H scope (compEnvC scope cl C X.env) fp) w0 elt te) (hs : ∀ x, foldedSetIterable iter X.env x = pure x := by intro _; rfl) :
    AN X w0 (.ListComp elt [⟨tg, iter, ifs, 0⟩] scope pos) (aLc ti g tt te (own.map (·.2))) := pe_of (pe_lc hc hN hi ok hg ht he hs) fun _ _ _ h => lc_of h
/-- name = [..] -/
theorem as_lc (i : Nat) {y : Str} {py spos : Pos} (own : List (Str × Nat)) (hc : X.calm = true) (hN : X.N.Nodup) (hi : AI X w0 tg iter ti) (ok : BlkOk X.N X.env.scope scope own)
    (hg : ∀ (s : Shared) (H : Hp) (C : Addr) (cl : List (Str × Addr)) (fp : List Addr), AG (X.blk s H scope (compEnvC scope cl C X.env) fp) w0 (own.map (·.2)) tg g)
    (ht : ∀ (s : Shared) (H : Hp) (C : Addr) (cl : List (Str × Addr)) (fp : List Addr), ATs (X.blk s H scope (compEnvC scope cl C X.env) fp) w0 ifs tt)
    (he : ∀ (s : Shared) (H : Hp) (C : Addr) (cl : List (Str × Addr)) (fp : List Addr), AE (X.blk s H scope (compEnvC scope cl C X.env) fp) w0 elt te) (hy : X.N[i]? = some y := by rfl) (hyl : X.env.scope.names.lookup y = some .local := by rfl)
    (hsw : swapsWith (.ListComp elt [⟨tg, iter, ifs, 0⟩] scope pos) (some (.Name y py)) spos.line X.env = pure true := by exact sw_true rfl rfl rfl (by decide +kernel)) (hs : ∀ x, foldedSetIterable iter X.env x = pure x := by intro _; rfl) :
    AS X w0 (.Assign [.Name y py] (.ListComp elt [⟨tg, iter, ifs, 0⟩] scope pos) spos) (aAsg (aFz (aLc ti g tt te (own.map (·.2)))) (gN i)) := ps_of (ps_setLc hc hN hy hyl hsw hi ok hg ht he hs) fun E σ H h => by
  obtain ⟨env, w, rfl, ok, tr0, er, A, h, k, _⟩ := h
  refine lc_of ⟨env, w, rfl, ok, tr0, er, _, h, fun ds w1 p vs h1 t1 ok1 e0 e1 e2 e3 dv => ?_⟩
  obtain ⟨w2, a1, a2, t2, ok2, d2⟩ := frzN t1 ok1 e0 e1 e2 e3 dv
  rw [← a1]
  exact k _ w2 _ (by rw [a2]; exact h1) t2 ok2 ((er.mono t2.gs).set i d2)
/-- .. a list of one's own -/
theorem as_lcO (i : Nat) {y : Str} {py spos : Pos} (own : List (Str × Nat)) (hc : X.calm = true) (hN : X.N.Nodup) (hi : AI X w0 tg iter ti) (ok : BlkOk X.N X.env.scope scope own)
    (hg : ∀ (s : Shared) (H : Hp) (C : Addr) (cl : List (Str × Addr)) (fp : List Addr), AG (X.blk s H scope (compEnvC scope cl C X.env) fp) w0 (own.map (·.2)) tg g)
    (ht : ∀ (s : Shared) (H : Hp) (C : Addr) (cl : List (Str × Addr)) (fp : List Addr), ATs (X.blk s H scope (compEnvC scope cl C X.env) fp) w0 ifs tt)
    (he : ∀ (s : Shared) (H : Hp) (C : Addr) (cl : List (Str × Addr)) (fp : List Addr), AE (X.blk s H scope (compEnvC scope cl C X.env) fp) w0 elt te) (hy : X.N[i]? = some y := by rfl) (hyl : X.env.scope.names.lookup y = some .local := by rfl)
    (hsw : swapsWith (.ListComp elt [⟨tg, iter, ifs, 0⟩] scope pos) (some (.Name y py)) spos.line X.env = pure true := by exact sw_true rfl rfl rfl (by decide +kernel)) (hs : ∀ x, foldedSetIterable iter X.env x = pure x := by intro _; rfl) :
    AS X w0 (.Assign [.Name y py] (.ListComp elt [⟨tg, iter, ifs, 0⟩] scope pos) spos) (aAsg (aOw (aLc ti g tt te (own.map (·.2)))) (gN i)) := ps_of (ps_setLc hc hN hy hyl hsw hi ok hg ht he hs) fun E σ H h => by
  obtain ⟨env, w, rfl, ok, tr0, er, A, h, k, _⟩ := h
  refine lc_of ⟨env, w, rfl, ok, tr0, er, _, h, fun ds w1 p vs h1 t1 ok1 e0 e1 e2 e3 dv => ?_⟩
  obtain ⟨w2, a1, a2, t2, ok2, d2⟩ := ownN t1 ok1 e0 e1 e2 e3 dv
  rw [← a1]
  exact k _ w2 _ (by rw [a2]; exact h1 p e3) t2 ok2 ((er.mono t2.gs).set i (d := .ref p) (by unfold Dt; rfl))
end

/-! ### defs and their calls -/
/-- a def of the text as it stands behind the top, whatever its defaults -/
structure FunX (K : PySem.W.Frag) (x qual : Str) (st : Stmt) (f : Addr) (fd : FuncData) : Prop where
  ex : ∃ (oc : Value) (od : Option Addr) (dV kV doc pm : Value) (an : Option Addr) (cdv ct : Value) (osl : Array (Option Value)),
    fd = PySem.W.fnOf x qual (defArgs st) (defBody st) (defScope st) dV kV doc pm an cdv ct ∧ K.lookup f = some ⟨oc, od, .func fd, osl⟩ ∧ PySem.W.codeIn K cdv qual = true
/-- as FnOk, where no repr is under way -/
structure FnG (P : Program) (w : World) (K : PySem.W.Frag) (mg : Str → Option Value) (base : Heap) (CX : CXT) (k : Nat) (f : Addr) (fd : FuncData) (ps : List Str) (sp : Sp) : Prop where
  len : ∀ vs H Q E, sp vs H Q E → vs.length = ps.length
  run : ∀ (A : Around) (outer : List PySem.Env) (s : Shared) (H : Hp) (args : Args) (us : List Value) (vs : List V) (Q : VK) (E : XK), Room k A → A.guards = some [] → Env0 P w K mg base A outer s H → BindsTo s fd args (ps.zip us) → Vals vs us →
    sp vs H Q E → codeAny (model P w) A (.call (.ref f) args) (CR CX outer P w H s Q E) s
section
variable {P : Program} {w : World} {K : PySem.W.Frag} {mg : Str → Option Value} {base : Heap} {CX : CXT} {k j : Nat} {f : Addr} {fd : FuncData} {ps : List Str} {sp sp' : Sp}
theorem FnG.mono (F : FnG P w K mg base CX j f fd ps sp) (h : j ≤ k) : FnG P w K mg base CX k f fd ps sp :=
  ⟨F.len, fun A outer s H args us vs Q E hr hg => F.run A outer s H args us vs Q E (hr.mono h) hg⟩
theorem FnG.imp (F : FnG P w K mg base CX k f fd ps sp) (h : ∀ vs H Q E, sp' vs H Q E → sp vs H Q E) : FnG P w K mg base CX k f fd ps sp' :=
  ⟨fun vs H Q E q => F.len vs H Q E (h vs H Q E q), fun A outer s H args us vs Q E hr hg e b r q => F.run A outer s H args us vs Q E hr hg e b r (h vs H Q E q)⟩
/-- a def of the text by its body -/
theorem fnG_of {x qual : Str} {st : Stmt} {N : List Str} (F : FunX K x qual st f fd) (S : FnScope N ps (defScope st)) (len : ∀ vs H Q E, sp vs H Q E → vs.length = ps.length)
    (hbody : ∀ (cdv : Value) (A : Around) (outer : List PySem.Env) (s : Shared) (H : Hp) (vs : List V) (Q : VK) (E : XK), Room k (A.deeper (envOfC qual (defScope st) s.heap.objs.size f cdv)) → A.guards = some [] → sp vs H Q E →
      ∃ t, PSs (cxOf CX P w K mg base N qual (defScope st) f cdv A outer s H E) (defBody st) t ∧ t { nx := fun _ H' => Q .non H', rt := Q } (L2.start N vs) H) : FnG P w K mg base CX (k + 1) f fd ps sp := by
  obtain ⟨oc, od, dV, kV, doc, pm, an, cdv, ct, osl, rfl, lk, hcd⟩ := F.ex
  refine ⟨len, fun A outer s H args us vs Q E hr hg e0 hb r hsp => ?_⟩
  have KX : K.In s.heap := e0.mod.kin.keeps fun b o e => (e0.bs b o e).1
  have cells : ∀ y ∈ ps.zip us, (defScope st).names.lookup y.1 = some .local ∨ ((defScope st).names.lookup y.1 = some .cell ∧ ((cellsFrom (s.heap.objs.size + 1) (defScope st).names []).lookup y.1).isSome = true) := fun y hy =>
    (S.par y.1 (List.of_mem_zip hy).1).imp id fun q => ⟨q, PySem.W.cellsFrom_some _ _ _ (.inl q)⟩
  refine codeAny_call_function hr.depth (KX _ _ lk) rfl S.co S.gen rfl (PySem.W.codeRec_of KX hcd) (hb _ _ _ _ (wpAny_newFunctionEnv_cells S.kind cells fun env he s1 x => ?_))
  subst he
  refine ⟨(e0.mod.nolimit.keeps fun b o e => (e0.bs b o e).1).keeps x.toInCall.keep, codeAny_func ?_⟩
  obtain ⟨t, ht, hq⟩ := hbody cdv A outer s H vs Q E (hr.deeper _) hg hsp
  refine wpAny_mono (ht.run [] s1 (L2.start N vs) H _ (inv_start S hr.hd e0 (len _ _ _ _ hsp) r x) hq) (fun fl s' hs => ?_) fun e s' hs => hs
  cases fl with
  | ret u => exact let ⟨v, _, H', J, rv, q⟩ := hs; ⟨v, H', J.os, J.bare, J.base, J.hok, rv, q⟩
  | next => exact let ⟨_, H', J, q⟩ := hs; ⟨.non, H', J.os, J.bare, J.base, J.hok, rfl, q⟩
  | brk => exact let ⟨_, _, _, q⟩ := hs; q.elim
  | cont => exact let ⟨_, _, _, q⟩ := hs; q.elim
end
section
variable {X : Cx} {CX : CXT} {k : Nat} {f : Addr} {fd : FuncData} {ps : List Str} {sp : Sp} {dvs : List V} {ds : List Value} {E : XK} {x : Str} {p pos : Pos} {e : Expr} {es : List Expr} {t : TA}
theorem run_fnG {pins : List (Addr × Obj)} {σ : L2.St} {H : Hp} {s : Shared} {Q : VK} {us : List Value} {vs : List V} (F : FnG X.prog X.w X.K X.mg X.base CX k f fd ps sp) (hr : Room k X.A) (hgd : X.A.guards = some []) (hb : Binds X.K fd ps ds) (hd : Vals dvs ds) (hx : Passes CX X E)
    (I : Inv X pins σ H s) (r : Vals vs us) (h : sp (vs ++ dvs) H Q E) : wpAny (model X.prog X.w) X.A (call (.ref f) us) (EP X pins σ Q) X.xe s := by
  have r2 := r.append hd
  refine wpAny_call (codeAny_mono (F.run X.A X.stack s H ⟨us, []⟩ (us ++ ds) (vs ++ dvs) Q E hr hgd I.env0 (hb s us I.kIn (by rw [← r2.length]; exact F.len _ _ _ _ h)) r2 h) fun r s' hq => ?_)
  match r, hq with
  | .error e, hq => exact hx pins σ H s e s' I hq
  | .ok (.ret u), hq => exact I.after hq
theorem pe_callG (F : FnG X.prog X.w X.K X.mg X.base CX k f fd ps sp) (hr : Room k X.A) (hgd : X.A.guards = some []) (hg : Gl X x) (hm : X.mg x = some (.ref f)) (hk : PySem.W.keepIn X.K (.ref f) = true) (hb : Binds X.K fd ps ds) (hd : Vals dvs ds) (hx : Passes CX X E)
    (ha : PA X (e :: es) t) (hdb : (x == ("__debug__" : Str)) = false) (he : starEach (e :: es) X.env = (false, eval e X.env) :: starEach es X.env) (hpl : (backTo pos (starEach es X.env)).any (·.1) = false) :
    PE X (.Call (.Name x p) (e :: es) [] pos) (tCall sp dvs E t) :=
  ⟨fun pins s σ H Q I h => wpAny_Call_Name_kw (ld_glob I hg hm (PySem.W.callWith_K (h₀ := X.base) I.ok.mod.kin hk (thn (ha.run pos pins s σ H _ I h) fun us s1 ⟨vs, H1, I1, r, q⟩ => ⟨I1.kIn, run_fnG F hr hgd hb hd hx I1 r q⟩) he hpl) hdb)⟩
end
abbrev Spec := List D → Own → (D → Own → Prop) → Prop
def spOf (K : PySem.W.Frag) (S : Spec) : Sp := fun vs H Q _ => ∃ (ds : List D) (w : Wd) (P : D → Own → Prop), w.H = H ∧ w.Ok K ∧ Dts K w.G ds vs ∧ S ds w.own P ∧ ∀ d w' v, P d w'.own → Tr w w' → w'.Ok K → Dt K w'.G d v → Q v w'.H
/-- the def of this name keeps its promise -/
structure Kn (P : Program) (w : World) (K : PySem.W.Frag) (mg : Str → Option Value) (base : Heap) (k : Nat) (x : Str) (ps : List Str) (dvs : List D) (S : Spec) : Prop where
  ex : ∃ (f : Addr) (fd : FuncData) (ds : List Value) (vs : List V), mg x = some (.ref f) ∧ PySem.W.keepIn K (.ref f) = true ∧ Binds K fd ps ds ∧ Vals vs ds ∧ (∀ G, Dts K G dvs vs) ∧ FnG P w K mg base CX0 k f fd ps (spOf K S)
theorem Kn.mono {P : Program} {w : World} {K : PySem.W.Frag} {mg : Str → Option Value} {base : Heap} {k j : Nat} {x : Str} {ps : List Str} {dvs : List D} {S : Spec} (F : Kn P w K mg base j x ps dvs S) (h : j ≤ k) : Kn P w K mg base k x ps dvs S :=
  let ⟨f, fd, ds, vs, a, b, c, d, e, g⟩ := F.ex
  ⟨f, fd, ds, vs, a, b, c, d, e, g.mono h⟩
def aCall (S : Spec) (dvs : List D) (ta : ATA) : ATE := fun env own P => ta env own fun ds o => S (ds ++ dvs) o P
section
variable {X : Cx} {w0 : Wd} {k : Nat} {x : Str} {ps : List Str} {dvs : List D} {S : Spec} {e : Expr} {es : List Expr} {ta : ATA} {p pos : Pos}
theorem call_of {vs : List V} {σ : L2.St} {H : Hp} {Q : VK} (hv : ∀ G, Dts X.K G dvs vs) (h : concE X.K w0 (aCall S dvs ta) σ H Q) : tCall (spOf X.K S) vs E0 (concA X.K w0 ta) σ H Q := by
  obtain ⟨env, w, rfl, ok, tr0, er, P, h, k⟩ := h
  exact ⟨env, w, rfl, ok, tr0, er, _, h, fun ds w1 us h1 t1 ok1 dv => ⟨ds ++ dvs, w1, P, rfl, ok1, dv.append (hv w1.G), h1, fun d w2 v h2 t2 ok2 d2 => k d w2 v h2 (t1.trans t2) ok2 d2⟩⟩
theorem ae_call (F : Kn X.prog X.w X.K X.mg X.base k x ps dvs S) (hr : Room k X.A) (hgd : X.A.guards = some []) (hg : Gl X x) (ha : AA X w0 (e :: es) ta) (hdb : (x == ("__debug__" : Str)) = false := by decide) (he : starEach (e :: es) X.env = (false, eval e X.env) :: starEach es X.env := by rfl) (hpl : (backTo pos (starEach es X.env)).any (·.1) = false := by rfl) :
    AE X w0 (.Call (.Name x p) (e :: es) [] pos) (aCall S dvs ta) := by
  obtain ⟨f, fd, ds, vs, hm, hk, hb, hd, hv, G⟩ := F.ex
  exact pe_of (pe_callG G hr hgd hg hm hk hb hd pass0 ha hdb he hpl) fun _ _ _ h => call_of hv h
end
/-- things put away: own' is what is left of one's own; d' is d as it then stands -/
def Vw (own own' : Own) (d d' : D) : Prop := d = d' ∨ ∃ p, d = .ref p ∧ own' p = none ∧ ((∃ ds, own p = some (.lst ds) ∧ d' = .lst ds) ∨ ∃ kvs, own p = some (.dct kvs) ∧ d' = .dct kvs)
def Cv (own : Own) (d d' : D) (own' : Own) : Prop := (∀ p m, own' p = some m → own p = some m) ∧ Vw own own' d d'
theorem Cv.ok {K : PySem.W.Frag} {w : Wd} (ok : w.Ok K) {d d' : D} {own' : Own} {v : V} (c : Cv w.own d d' own') (h : Dt K w.G d v) :
    ∃ w', w'.H = w.H ∧ w'.own = own' ∧ w'.Ok K ∧ Dt K w'.G d' v ∧ ∀ w0, Tr w0 w → Tr w0 w' := by
  obtain ⟨G', s1, s2, s3, s4⟩ := ok.still c.1
  refine ⟨⟨own', G', w.H⟩, rfl, rfl, s3, ?_, s4⟩
  rcases c.2 with rfl | ⟨p, rfl, n, ⟨ds, e1, rfl⟩ | ⟨kvs, e1, rfl⟩⟩
  · exact h.mono s1
  · obtain ⟨_, o, e2, e3⟩ := ok.own p _ e1
    have hg := s2 p (by rw [e1]; simp) n
    unfold Dt at h; subst h
    cases o <;> first | exact (e3 : False).elim | skip
    exact .lstI (hg.trans e2) (Dts.mono s1 e3)
  · obtain ⟨_, o, e2, e3⟩ := ok.own p _ e1
    have hg := s2 p (by rw [e1]; simp) n
    unfold Dt at h; subst h
    cases o <;> first | exact (e3 : False).elim | skip
    · unfold Dt; exact ⟨p, rfl, .inl ⟨_, hg.trans e2, DkK.mono s1 e3⟩⟩
    · unfold Dt; exact ⟨p, rfl, .inr ⟨_, hg.trans e2, DkT.mono s1 e3⟩⟩
/-- handed back -/
def Rt (P : D → Own → Prop) : D → Own → Prop := fun d o => ∃ d' o', Cv o d d' o' ∧ P d' o'
theorem Rt.mk {P : D → Own → Prop} {d : D} {o : Own} (h : P d o) : Rt P d o := ⟨d, o, ⟨fun _ _ h => h, .inl rfl⟩, h⟩
theorem Rt.drop {P : D → Own → Prop} {d : D} {o o' : Own} (hs : ∀ p m, o' p = some m → o p = some m) (h : P d o') : Rt P d o := ⟨d, o', ⟨hs, .inl rfl⟩, h⟩
theorem Rt.lst {P : D → Own → Prop} {p : Addr} {ds : List D} {o o' : Own} (e : o p = some (.lst ds)) (n : o' p = none) (hs : ∀ p m, o' p = some m → o p = some m) (h : P (.lst ds) o') : Rt P (.ref p) o := ⟨_, o', ⟨hs, .inr ⟨p, rfl, n, .inl ⟨ds, e, rfl⟩⟩⟩, h⟩
theorem Rt.dct {P : D → Own → Prop} {p : Addr} {kvs : List (D × D)} {o o' : Own} (e : o p = some (.dct kvs)) (n : o' p = none) (hs : ∀ p m, o' p = some m → o p = some m) (h : P (.dct kvs) o') : Rt P (.ref p) o := ⟨_, o', ⟨hs, .inr ⟨p, rfl, n, .inr ⟨kvs, e, rfl⟩⟩⟩, h⟩
def astart (N : List Str) (ds : List D) : AEnv := ds.map some ++ List.replicate (N.length - ds.length) none
theorem eg_lt {env : AEnv} {i : Nat} {d : D} (h : eg env i = some d) : i < env.length := (List.getElem?_eq_some_iff.mp (eg_eq h)).1
theorem envR_start {K : PySem.W.Frag} {G : Hp} {N : List Str} {ds : List D} {vs : List V} (h : Dts K G ds vs) : EnvR K G (astart N ds) (L2.start N vs) := by
  have hl := h.length
  refine ⟨by simp [astart, L2.start, hl], fun i d e => ?_⟩
  have e' := eg_eq e
  unfold astart at e'
  rcases Nat.lt_or_ge i ds.length with hi | hi
  · rw [List.getElem?_append_left (by simpa using hi), List.getElem?_map] at e'
    cases e1 : ds[i]? with
    | none => rw [e1] at e'; simp at e'
    | some d' =>
      rw [e1] at e'; simp at e'; subst e'
      obtain ⟨v, a1, a2⟩ := h.get e1
      refine ⟨v, ?_, a2⟩
      unfold L2.start
      rw [List.getElem?_append_left (by simp; omega), List.getElem?_map, a1]; rfl
  · rw [List.getElem?_append_right (by simpa using hi)] at e'
    have := List.mem_of_getElem? e'
    rw [List.mem_replicate] at this
    cases this.2
section
variable {P : Program} {w : World} {K : PySem.W.Frag} {mg : Str → Option Value} {base : Heap}
/-- THE RULE for a def: its body's reading over data -/
theorem def_ok {x qual : Str} {st : Stmt} {f : Addr} {fd : FuncData} {N ps : List Str} {k : Nat} {S : Spec} (F : FunX K x qual st f fd) (sc : FnScope N ps (defScope st)) (len : ∀ ds o Q, S ds o Q → ds.length = ps.length)
    (hbody : ∀ (cdv : Value) (A : Around) (outer : List PySem.Env) (s : Shared) (H : Hp) (E : XK) (w0 : Wd) (ds : List D) (Q : D → Own → Prop), Room k (A.deeper (envOfC qual (defScope st) s.heap.objs.size f cdv)) → A.guards = some [] → S ds w0.own Q →
      ∃ t, ASs (cxOf CX0 P w K mg base N qual (defScope st) f cdv A outer s H E).nox w0 (defBody st) t ∧ t { nx := fun _ o => Rt Q .non o, rt := Rt Q } (astart N ds) w0.own) : FnG P w K mg base CX0 (k + 1) f fd ps (spOf K S) := by
  refine fnG_of F sc (fun vs H Q E h => ?_) fun cdv A outer s H vs Q E hr hg h => ?_
  · obtain ⟨ds, w, P, _, _, dv, hS, _⟩ := h
    rw [dv.length]; exact len ds _ _ hS
  · obtain ⟨ds, w0, P', rfl, ok, dv, hS, kk⟩ := h
    obtain ⟨t, ht, hq⟩ := hbody cdv A outer s w0.H E w0 ds P' hr hg hS
    refine ⟨_, ht.nox, astart N ds, w0, rfl, ok, Tr.refl _, envR_start dv, _, hq, fun env' w' σ' h1 t1 ok1 _ => ?_, fun d w' v h1 t1 ok1 dv1 => ?_, fun _ _ _ h => h.elim, fun _ _ _ h => h.elim⟩
    · obtain ⟨d', o', c, hp⟩ := h1
      obtain ⟨w2, a1, a2, a3, a4, a5⟩ := Cv.ok (v := .non) ok1 c (by unfold Dt; rfl)
      show Q .non w'.H
      rw [← a1]
      exact kk d' w2 .non (by rw [a2]; exact hp) (a5 _ t1) a3 a4
    · obtain ⟨d', o', c, hp⟩ := h1
      obtain ⟨w2, a1, a2, a3, a4, a5⟩ := Cv.ok ok1 c dv1
      show Q v w'.H
      rw [← a1]
      exact kk d' w2 v (by rw [a2]; exact hp) (a5 _ t1) a3 a4
end
end L3

namespace L3
open PySem PySem.Spec PyProof.Rows L2

section
variable {K : PySem.W.Frag} {w : Wd} {v : V}
theorem dt_int {G : Hp} {i : Int} : Dt K G (.int i) v ↔ v = .int i := by unfold Dt; rfl
theorem dt_str {G : Hp} {x : Str} : Dt K G (.str x) v ↔ v = .str x := by unfold Dt; rfl
theorem dt_bl {G : Hp} {b : Bool} : Dt K G (.bl b) v ↔ v = .bl b := by unfold Dt; rfl
theorem dt_non {G : Hp} : Dt K G .non v ↔ v = .non := by unfold Dt; rfl
theorem dt_ty {G : Hp} {n : String} : Dt K G (.ty n) v ↔ v = .ty n := by unfold Dt; rfl
theorem dt_ref {G : Hp} {a : Addr} : Dt K G (.ref a) v ↔ v = .ref a := by unfold Dt; rfl
theorem dv_int {i : Int} : DtV K w (.int i) v ↔ v = .int i := dt_int (K := K) (G := w.G)
theorem dv_str {x : Str} : DtV K w (.str x) v ↔ v = .str x := dt_str (K := K) (G := w.G)
theorem dv_bl {b : Bool} : DtV K w (.bl b) v ↔ v = .bl b := dt_bl (K := K) (G := w.G)
theorem dv_non : DtV K w .non v ↔ v = .non := dt_non (K := K) (G := w.G)
theorem dv_ty {n : String} : DtV K w (.ty n) v ↔ v = .ty n := dt_ty (K := K) (G := w.G)
theorem dv_ref {a : Addr} : DtV K w (.ref a) v ↔ v = .ref a := dt_ref (K := K) (G := w.G)
theorem see_id {own : Own} {d : D} (h : ∀ p, d ≠ .ref p) : see own d = d := by
  cases d <;> first | rfl | exact absurd rfl (h _)
theorem see_int {own : Own} {d : D} {i : Int} (h : see own d = .int i) : d = .int i := by
  cases d with
  | ref p => unfold see at h; cases e : own p with
    | none => simp only [e] at h; cases h
    | some m => cases m <;> simp only [e] at h <;> cases h
  | _ => exact h
theorem see_str {own : Own} {d : D} {i : Str} (h : see own d = .str i) : d = .str i := by
  cases d with
  | ref p => unfold see at h; cases e : own p with
    | none => simp only [e] at h; cases h
    | some m => cases m <;> simp only [e] at h <;> cases h
  | _ => exact h
theorem see_bl {own : Own} {d : D} {i : Bool} (h : see own d = .bl i) : d = .bl i := by
  cases d with
  | ref p => unfold see at h; cases e : own p with
    | none => simp only [e] at h; cases h
    | some m => cases m <;> simp only [e] at h <;> cases h
  | _ => exact h
theorem see_tup {own : Own} {d : D} {ds : List D} (h : see own d = .tup ds) : d = .tup ds := by
  cases d with
  | ref p => unfold see at h; cases e : own p with
    | none => simp only [e] at h; cases h
    | some m => cases m <;> simp only [e] at h <;> cases h
  | _ => exact h
end
/-- a value, and nothing is made -/
theorem ops_val {K : PySem.W.Frag} {w : Wd} (ok : w.Ok K) {P : D → Prop} {Q : VK} (k : ∀ z w' v, P z → w'.own = w.own → Tr w w' → w'.Ok K → Dt K w'.G z v → Q v w'.H) {z : D} {v : V} (h : P z) (d : Dt K w.G z v) : Q v w.H := k z w v h rfl (Tr.refl w) ok d
/-- .. a new tuple, a new list -/
theorem ops_tup {K : PySem.W.Frag} {w : Wd} (ok : w.Ok K) {P : D → Prop} {Q : VK} (k : ∀ z w' v, P z → w'.own = w.own → Tr w w' → w'.Ok K → Dt K w'.G z v → Q v w'.H) {ds : List D} {vs : List V} (h : P (.tup ds)) (r : Dts K w.G ds vs) (hz : ds.length ≤ sizeLine) : ∀ p, w.H p = none → Q (.ref p) (upd w.H p (.tup vs)) := fun p hp => by
  obtain ⟨w1, e1, e2, t1, ok1, d1⟩ := newTup ok hp r hz
  rw [← e1]
  exact k _ w1 _ h e2 t1 ok1 d1
theorem ops_lst {K : PySem.W.Frag} {w : Wd} (ok : w.Ok K) {P : D → Prop} {Q : VK} (k : ∀ z w' v, P z → w'.own = w.own → Tr w w' → w'.Ok K → Dt K w'.G z v → Q v w'.H) {ds : List D} {vs : List V} (h : P (.lst ds)) (r : Dts K w.G ds vs) (hz : ds.length ≤ sizeLine) : ∀ p, w.H p = none → Q (.ref p) (upd w.H p (.lst vs)) := fun p hp => by
  obtain ⟨w1, e1, e2, t1, ok1, d1⟩ := newLst ok hp r hz
  rw [← e1]
  exact k _ w1 _ h e2 t1 ok1 d1

/-! ### + -/
def fAdd0 : D → D → (D → Prop) → Prop
  | .int i, .int j, P => P (.int (i + j))
  | .str x, .str y, P => x.length + y.length ≤ sizeLine ∧ P (.str (x ++ y))
  | .tup xs, .tup ys, P => xs.length + ys.length ≤ sizeLine ∧ P (.tup (xs ++ ys))
  | .lst xs, .lst ys, P => xs.length + ys.length ≤ sizeLine ∧ P (.lst (xs ++ ys))
  | _, _, _ => False
def fAdd : BinF := fun own d e P => fAdd0 (see own d) (see own e) P
def rCatR : R2 := fun x y H Q => ∃ l b xs zs, x = .ref l ∧ y = .ref b ∧ Rd H l (.lst xs) ∧ Rd H b (.lst zs) ∧ xs.length + zs.length ≤ sizeLine ∧ ∀ p, H p = none → Q (.ref p) (upd H p (.lst (xs ++ zs)))
theorem op_catR {X : Cx} : OpR X (binaryOp .Add) rCatR := by
  intro pins s σ H x y v u Q I rx ry h
  obtain ⟨l, b, xs, zs, rfl, rfl, hH, hB, hz, q⟩ := h
  cases rx
  cases ry
  obtain ⟨z, its, n, r, e⟩ := hH.ok I.hok
  obtain ⟨z2, its2, n2, r2, e2⟩ := hB.ok I.hok
  have l1 := r.length
  have l2 := r2.length
  refine PySem.P.add_list e e2 ?_ (by rw [List.size_toArray, List.size_toArray]; omega)
  rw [show its.toArray ++ its2.toArray = (its ++ its2).toArray by simp]
  exact ⟨.ref _, _, I.lnew (t' := s.toks) (r.append r2) (by rw [List.length_append]; omega), rfl, q _ I.fresh⟩
def rAddD (K : PySem.W.Frag) : R2 := fun x y H Q => ((rI0 (fun i j => .int (i + j)) x y H Q ∨ ∃ i j, x = .str i ∧ y = .str j ∧ i.length + j.length ≤ sizeLine ∧ Q (.str (i ++ j)) H) ∨ rCatA K x y H Q) ∨ rCatR x y H Q
theorem op_addD {X : Cx} : OpR X (binaryOp .Add) (rAddD X.K) := ((op_add.or op_add_str).or op_catA).or op_catR
theorem dts_nil_iff {K : PySem.W.Frag} {G : Hp} {ds : List D} {vs : List V} (h : Dts K G ds vs) : vs = [] ↔ ds = [] := by
  have := h.length
  constructor
  · rintro rfl; exact List.eq_nil_of_length_eq_zero (by simpa using this.symm)
  · rintro rfl; exact List.eq_nil_of_length_eq_zero (by simpa using this)
theorem os_add {K : PySem.W.Frag} : OpS K (rAddD K) fAdd := by
  intro w d e x y P Q ok dx dy h k
  have sx := see_ok ok dx
  have sy := see_ok ok dy
  unfold fAdd at h
  generalize hd : see w.own d = d' at h sx
  generalize he : see w.own e = e' at h sy
  match d', e', h, sx, sy, hd, he with
  | .int i, .int j, h, sx, sy, _, _ =>
    exact .inl (.inl (.inl ⟨i, j, dv_int.mp sx, dv_int.mp sy, ops_val ok k h (dt_int.mpr rfl)⟩))
  | .str a, .str b, h, sx, sy, _, _ => exact .inl (.inl (.inr ⟨a, b, dv_str.mp sx, dv_str.mp sy, h.1, ops_val ok k h.2 (dt_str.mpr rfl)⟩))
  | .tup xs, .tup ys, h, sx, sy, hd, he =>
    have ed := see_tup hd
    have ee := see_tup he
    subst ed ee
    obtain ⟨a, us, rfl, e1, e2⟩ := sx
    obtain ⟨b, vs, rfl, e3, e4⟩ := sy
    have l1 := e2.length
    have l2 := e4.length
    refine .inl (.inr ⟨a, b, us, vs, rfl, rfl, e1, e3, by rw [l1, l2]; exact h.1, fun z => ?_, fun z1 z2 => ?_, fun z1 z2 => ops_tup ok k h.2 (e2.append e4) (by rw [List.length_append]; exact h.1)⟩)
    · have : xs = [] := (dts_nil_iff e2).mp z
      subst this
      exact ops_val ok k (z := .tup ys) h.2 dy
    · have : ys = [] := (dts_nil_iff e4).mp z2
      subst this
      exact ops_val ok k (z := .tup xs) (by simpa using h.2) dx
  | .lst xs, .lst ys, h, sx, sy, _, _ =>
    obtain ⟨a, us, rfl, e1, e2⟩ := sx
    obtain ⟨b, vs, rfl, e3, e4⟩ := sy
    have l1 := e2.length
    have l2 := e4.length
    exact .inr ⟨a, b, us, vs, rfl, rfl, e1, e3, by rw [l1, l2]; exact h.1, ops_lst ok k h.2 (e2.append e4) (by rw [List.length_append]; exact h.1)⟩
end L3

namespace L3
open PySem PySem.Spec PyProof.Rows L2
/-! ### whole numbers -/
def fII (C : Int → Int → Prop) (g : Int → Int → D) : BinF := fun own d e P => match see own d, see own e with
  | .int i, .int j => C i j ∧ P (g i j)
  | _, _ => False
theorem os_II {K : PySem.W.Frag} {C : Int → Int → Prop} {g : Int → Int → D} {gv : Int → Int → V} (hg : ∀ G i j, Dt K G (g i j) (gv i j)) : OpS K (rI C gv) (fII C g) := by
  intro w d e x y P Q ok dx dy h k
  have sx := see_ok ok dx
  have sy := see_ok ok dy
  unfold fII at h
  generalize see w.own d = d' at h sx
  generalize see w.own e = e' at h sy
  match d', e', h, sx, sy with
  | .int i, .int j, h, sx, sy => exact ⟨i, j, dv_int.mp sx, dv_int.mp sy, h.1, ops_val ok k h.2 (hg _ i j)⟩
abbrev C0 : Int → Int → Prop := fun _ _ => True
theorem rI_of0 {gv : Int → Int → V} {X : Cx} {f : Value → Value → Sem Value} (h : OpR X f (rI0 gv)) : OpR X f (rI C0 gv) := fun pins s σ H x y v u Q I rx ry ⟨i, j, e1, e2, _, q⟩ => h pins s σ H x y v u Q I rx ry ⟨i, j, e1, e2, q⟩
abbrev gInt (f : Int → Int → Int) : Int → Int → D := fun i j => .int (f i j)
abbrev gBl (f : Int → Int → Bool) : Int → Int → D := fun i j => .bl (f i j)
theorem os_int {K : PySem.W.Frag} {C : Int → Int → Prop} {f : Int → Int → Int} : OpS K (rI C fun i j => .int (f i j)) (fII C (gInt f)) := os_II fun _ _ _ => dt_int.mpr rfl
theorem os_bl {K : PySem.W.Frag} {C : Int → Int → Prop} {f : Int → Int → Bool} : OpS K (rI C fun i j => .bl (f i j)) (fII C (gBl f)) := os_II fun _ _ _ => dt_bl.mpr rfl
/-- i ** j: the power below 2 ^ 27 bits -/
def CPowD (i j : Int) : Prop := 0 ≤ j ∧ j ≤ 100 ∧ i.natAbs < 2 ^ 1000
section
variable {X : Cx} {w0 : Wd} {a b : Expr} {ta tb : ATE} {pos : Pos}
theorem op_powD : OpR X (binaryOp .Pow) (rI CPowD fun i j => .int (i ^ j.toNat)) := opI fun i j _ _ _ _ _ hc q => by
  refine pow_int hc.1 ?_ q
  have h1 : Builtin.Int.intBits i ≤ 1000 := by
    unfold Builtin.Int.intBits
    split
    · omega
    · have := PySem.Flt.log2_lt_of (show 0 < 1000 by decide) hc.2.2
      omega
  have h2 : (Builtin.Int.intBits i : Int) * j ≤ 1000 * 100 := Int.mul_le_mul (by omega) hc.2.1 hc.1 (by decide)
  omega
abbrev fSub : BinF := fII C0 (gInt fun i j => i - j)
abbrev fMod : BinF := fII (fun _ j => 0 < j) (gInt fun i j => i % j)
abbrev fDiv : BinF := fII CDivW (gInt fun i j => i / j)
abbrev fPow : BinF := fII CPowD (gInt fun i j => i ^ j.toNat)
theorem ae_add (ha : AE X w0 a ta) (hb : AE X w0 b tb) : AE X w0 (.BinOp a .Add b pos) (aBin fAdd ta tb) := ae_op op_addD os_add ha hb
theorem ae_subt (ha : AE X w0 a ta) (hb : AE X w0 b tb) : AE X w0 (.BinOp a .Sub b pos) (aBin fSub ta tb) := ae_op (rI_of0 op_sub) os_int ha hb
theorem ae_mod (ha : AE X w0 a ta) (hb : AE X w0 b tb) : AE X w0 (.BinOp a .Mod b pos) (aBin fMod ta tb) := ae_op op_mod os_int ha hb
theorem ae_div (ha : AE X w0 a ta) (hb : AE X w0 b tb) : AE X w0 (.BinOp a .FloorDiv b pos) (aBin fDiv ta tb) := ae_op op_fdivW os_int ha hb
theorem ae_pow (ha : AE X w0 a ta) (hb : AE X w0 b tb) : AE X w0 (.BinOp a .Pow b pos) (aBin fPow ta tb) := ae_op op_powD os_int ha hb
/-! * -/
def rMulS : R2 := fun x y H Q => ∃ z i, x = .str z ∧ y = .int i ∧ (i = 0 ∧ Q (.str Str.empty) H ∨ i = 1 ∧ Q (.str z) H)
theorem op_mulS : OpR X (binaryOp .Mult) rMulS := by
  intro pins s σ H x y v u Q I rx ry h
  obtain ⟨z, i, rfl, rfl, h⟩ := h
  obtain ⟨t, rfl⟩ := rx
  obtain ⟨t', rfl⟩ := ry
  rcases h with ⟨rfl, q⟩ | ⟨rfl, q⟩
  · exact PySem.P.mul_str_none (by decide) (by decide) ⟨.str _, H, I.tok _, ⟨_, rfl⟩, q⟩
  · refine PySem.P.mul_str (by decide) (fun _ e => by simp at e) (fun _ e => by simp at e) ?_
    rw [if_neg (by decide), if_pos (by simp)]
    exact ⟨.str z, H, I, ⟨_, rfl⟩, q⟩
def fMul0 : D → D → (D → Prop) → Prop
  | .int i, .int j, P => CMulW i j ∧ P (.int (i * j))
  | .str z, .int i, P => i = 0 ∧ P (.str Str.empty) ∨ i = 1 ∧ P (.str z)
  | _, _, _ => False
def fMul : BinF := fun own d e P => fMul0 (see own d) (see own e) P
theorem os_mul {K : PySem.W.Frag} : OpS K (fun x y H Q => rI CMulW (fun i j => .int (i * j)) x y H Q ∨ rMulS x y H Q) fMul := by
  intro w d e x y P Q ok dx dy h k
  have sx := see_ok ok dx
  have sy := see_ok ok dy
  unfold fMul at h
  generalize see w.own d = d' at h sx
  generalize see w.own e = e' at h sy
  match d', e', h, sx, sy with
  | .int i, .int j, h, sx, sy => exact .inl ⟨i, j, dv_int.mp sx, dv_int.mp sy, h.1, ops_val ok k h.2 (dt_int.mpr rfl)⟩
  | .str z, .int j, h, sx, sy => exact .inr ⟨z, j, dv_str.mp sx, dv_int.mp sy, h.imp (fun q => ⟨q.1, ops_val ok k q.2 (dt_str.mpr rfl)⟩) fun q => ⟨q.1, ops_val ok k q.2 (dt_str.mpr rfl)⟩⟩
theorem ae_mul (ha : AE X w0 a ta) (hb : AE X w0 b tb) : AE X w0 (.BinOp a .Mult b pos) (aBin fMul ta tb) := ae_op (op_mulW.or op_mulS) os_mul ha hb
def fNeg : UnF := fun own d P => match see own d with
  | .int i => P (.int (-i))
  | _ => False
theorem ae_neg (ha : AE X w0 a ta) : AE X w0 (.UnaryOp .USub a pos) (aUn fNeg ta) := ae_un un_neg (by
  intro w d x P Q ok dx h k
  have sx := see_ok ok dx
  unfold fNeg at h
  generalize see w.own d = d' at h sx
  match d', h, sx with
  | .int i, h, sx => exact ⟨i, dv_int.mp sx, ops_val ok k h (dt_int.mpr rfl)⟩) ha
/-! ### order -/
def strLt (x y : Str) : Bool := decide (x.cps.toList < y.cps.toList)
def fLt0 : D → D → (D → Prop) → Prop
  | .int i, .int j, P => P (.bl (decide (i < j)))
  | .str x, .str y, P => P (.bl (strLt x y))
  | _, _, _ => False
def fLt : BinF := fun own d e P => fLt0 (see own d) (see own e) P
theorem os_lt {K : PySem.W.Frag} : OpS K (fun x y H Q => rI0 (fun i j => .bl (decide (i < j))) x y H Q ∨ ∃ i j, x = .str i ∧ y = .str j ∧ Q (.bl (decide (i.cps.toList < j.cps.toList))) H) fLt := by
  intro w d e x y P Q ok dx dy h k
  have sx := see_ok ok dx
  have sy := see_ok ok dy
  unfold fLt at h
  generalize see w.own d = d' at h sx
  generalize see w.own e = e' at h sy
  match d', e', h, sx, sy with
  | .int i, .int j, h, sx, sy => exact .inl ⟨i, j, dv_int.mp sx, dv_int.mp sy, ops_val ok k h (dt_bl.mpr rfl)⟩
  | .str i, .str j, h, sx, sy => exact .inr ⟨i, j, dv_str.mp sx, dv_str.mp sy, ops_val ok k h (dt_bl.mpr rfl)⟩
abbrev fLe : BinF := fII C0 (gBl fun i j => decide (i ≤ j))
abbrev fGt : BinF := fII C0 (gBl fun i j => decide (j < i))
abbrev fGe : BinF := fII C0 (gBl fun i j => decide (j ≤ i))
theorem ae_lt (ha : AE X w0 a ta) (hb : AE X w0 b tb) : AE X w0 (.Compare a [.Lt] [b] pos) (aBin fLt ta tb) := ae_cmp (op_lt.or op_lt_str) os_lt ha hb (nomark _)
theorem ae_le (ha : AE X w0 a ta) (hb : AE X w0 b tb) : AE X w0 (.Compare a [.LtE] [b] pos) (aBin fLe ta tb) := ae_cmp (rI_of0 op_le) os_bl ha hb (nomark _)
theorem ae_gt (ha : AE X w0 a ta) (hb : AE X w0 b tb) : AE X w0 (.Compare a [.Gt] [b] pos) (aBin fGt ta tb) := ae_cmp (rI_of0 op_gt) os_bl ha hb (nomark _)
theorem ae_ge (ha : AE X w0 a ta) (hb : AE X w0 b tb) : AE X w0 (.Compare a [.GtE] [b] pos) (aBin fGe ta tb) := ae_cmp (rI_of0 op_ge) os_bl ha hb (nomark _)
theorem at_lt (ha : AE X w0 a ta) (hb : AE X w0 b tb) : AT X w0 (.Compare a [.Lt] [b] pos) (aB (aBin fLt ta tb)) := at_cmp (op_lt.or op_lt_str) os_lt ha hb (nomark _)
theorem at_le (ha : AE X w0 a ta) (hb : AE X w0 b tb) : AT X w0 (.Compare a [.LtE] [b] pos) (aB (aBin fLe ta tb)) := at_cmp (rI_of0 op_le) os_bl ha hb (nomark _)
theorem at_gt (ha : AE X w0 a ta) (hb : AE X w0 b tb) : AT X w0 (.Compare a [.Gt] [b] pos) (aB (aBin fGt ta tb)) := at_cmp (rI_of0 op_gt) os_bl ha hb (nomark _)
theorem at_ge (ha : AE X w0 a ta) (hb : AE X w0 b tb) : AT X w0 (.Compare a [.GtE] [b] pos) (aB (aBin fGe ta tb)) := at_cmp (rI_of0 op_ge) os_bl ha hb (nomark _)
end
/-! ### == -/
mutual
def toPy : D → PyData
  | .non => .none
  | .bl b => .bool b
  | .int i => .int i
  | .str x => .str x
  | .tup ds => .tuple (toPys ds)
  | .lst ds => .list (toPys ds)
  | _ => .none
def toPys : List D → List PyData
  | [] => []
  | d :: ds => toPy d :: toPys ds
end
mutual
/-- data of which == may be asked -/
def eqOk : D → Bool
  | .non => true
  | .bl _ => true
  | .int _ => true
  | .str x => PyData.strOk x
  | .tup ds => eqOks ds
  | .lst ds => eqOks ds
  | _ => false
def eqOks : List D → Bool
  | [] => true
  | d :: ds => eqOk d && eqOks ds
end
mutual
theorem dt_dp {K : PySem.W.Frag} {G : Hp} : ∀ {d : D} {v : V}, eqOk d = true → Dt K G d v → Dp K G v (toPy d)
  | .non, v, _, h => by unfold Dt at h; subst h; unfold toPy; exact .non
  | .bl _, v, _, h => by unfold Dt at h; subst h; unfold toPy; exact .bl _
  | .int _, v, _, h => by unfold Dt at h; subst h; unfold toPy; exact .int _
  | .str _, v, _, h => by unfold Dt at h; subst h; unfold toPy; exact .str _
  | .tup ds, v, o, h => by
    unfold Dt at h
    obtain ⟨a, vs, rfl, e1, e2⟩ := h
    unfold toPy
    exact .tup e1 (dts_dp (by unfold eqOk at o; exact o) e2)
  | .lst ds, v, o, h => by
    unfold Dt at h
    obtain ⟨a, vs, rfl, e1, e2⟩ := h
    unfold toPy
    exact .lst (.inl e1) (dts_dp (by unfold eqOk at o; exact o) e2)
  | .ty _, _, o, _ => by unfold eqOk at o; cases o
  | .ref _, _, o, _ => by unfold eqOk at o; cases o
  | .dct _, _, o, _ => by unfold eqOk at o; cases o
theorem dts_dp {K : PySem.W.Frag} {G : Hp} : ∀ {ds : List D} {vs : List V}, eqOks ds = true → Dts K G ds vs → DpAll K G vs (toPys ds)
  | [], vs, _, h => by unfold Dts at h; subst h; unfold toPys; exact .nil
  | d :: ds, vs, o, h => by
    unfold Dts at h
    obtain ⟨v, vr, rfl, e1, e2⟩ := h
    unfold eqOks at o
    rw [Bool.and_eq_true] at o
    unfold toPys
    exact .cons (dt_dp o.1 e1) (dts_dp o.2 e2)
end
mutual
theorem dp_mono {K : PySem.W.Frag} {G G' : Hp} (e : Sub G G') : ∀ {v : V} {d : PyData}, Dp K G v d → Dp K G' v d
  | _, _, .non => .non
  | _, _, .bl _ => .bl _
  | _, _, .int _ => .int _
  | _, _, .str _ => .str _
  | _, _, .lst h r => .lst (e.sqL h) (dps_mono e r)
  | _, _, .tup h r => .tup (e.sqT h) (dps_mono e r)
theorem dps_mono {K : PySem.W.Frag} {G G' : Hp} (e : Sub G G') : ∀ {vs : List V} {ds : List PyData}, DpAll K G vs ds → DpAll K G' vs ds
  | _, _, .nil => .nil
  | _, _, .cons h r => .cons (dp_mono e h) (dps_mono e r)
end
mutual
theorem canLay_of : ∀ {d : D}, eqOk d = true → (toPy d).canLay0 = true
  | .non, _ => by unfold toPy PyData.canLay0; rfl
  | .bl _, _ => by unfold toPy PyData.canLay0; rfl
  | .int _, _ => by unfold toPy PyData.canLay0; rfl
  | .str _, o => by unfold toPy PyData.canLay0; unfold eqOk at o; exact o
  | .tup _, o => by unfold toPy PyData.canLay0; unfold eqOk at o; exact canLays_of o
  | .lst _, o => by unfold toPy PyData.canLay0; unfold eqOk at o; exact canLays_of o
  | .ty _, o => by unfold eqOk at o; cases o
  | .ref _, o => by unfold eqOk at o; cases o
  | .dct _, o => by unfold eqOk at o; cases o
theorem canLays_of : ∀ {ds : List D}, eqOks ds = true → PyData.canLayAll0 (toPys ds) = true
  | [], _ => by unfold toPys PyData.canLayAll0; rfl
  | d :: ds, o => by
    unfold eqOks at o
    rw [Bool.and_eq_true] at o
    unfold toPys PyData.canLayAll0
    rw [canLay_of o.1, canLays_of o.2]; rfl
end
/-- Python's == of data -/
def deq (d e : D) : Bool := PyData.eqv (toPy d) (toPy e)
/-- == of simple things is plain; of others data are asked that may be laid, of at most 64 deep -/
def eqAsk : D → D → Prop
  | .str _, .str _ => True
  | .str _, .non => True
  | .non, .str _ => True
  | .str _, .int _ => True
  | .int _, .str _ => True
  | .str _, .bl _ => True
  | .bl _, .str _ => True
  | d, e => (eqOk d = true ∧ (toPy d).depth ≤ 64) ∧ eqOk e = true ∧ (toPy e).depth ≤ 64
def fEq (neg : Bool) : BinF := fun own d e P => eqAsk (see own d) (see own e) ∧ P (.bl (if neg then !deq (see own d) (see own e) else deq (see own d) (see own e)))
theorem dv_dp {K : PySem.W.Frag} {w : Wd} (ok : w.Ok K) {d : D} {v : V} (o : eqOk d = true) (h : DtV K w d v) : Dp K w.H v (toPy d) := by
  cases d with
  | tup ds =>
    obtain ⟨a, vs, rfl, e1, e2⟩ := h
    unfold toPy
    exact .tup e1 (dps_mono ok.sub (dts_dp (by unfold eqOk at o; exact o) e2))
  | lst ds =>
    obtain ⟨a, vs, rfl, e1, e2⟩ := h
    unfold toPy
    exact .lst (.inl e1) (dps_mono ok.sub (dts_dp (by unfold eqOk at o; exact o) e2))
  | non => exact dp_mono ok.sub (dt_dp o h)
  | bl _ => exact dp_mono ok.sub (dt_dp o h)
  | int _ => exact dp_mono ok.sub (dt_dp o h)
  | str _ => exact dp_mono ok.sub (dt_dp o h)
  | ty _ => unfold eqOk at o; cases o
  | kls _ => unfold eqOk at o; cases o
  | ref _ => unfold eqOk at o; cases o
  | dct _ => unfold eqOk at o; cases o
theorem shaped_of {d : D} (o : eqOk d = true) (h : (toPy d).depth ≤ 64) : SeqAt.shaped (toPy d) = true := by
  unfold SeqAt.shaped
  rw [canLay_of o, decide_eq_true h]; rfl
theorem deq_ss {x y : Str} : deq (.str x) (.str y) = decide (x = y) := by unfold deq toPy; simp only [PyData.eqv]; rfl
theorem os_eq {K : PySem.W.Frag} (neg : Bool) : OpS K (fun x y H Q => (scal x y = true ∧ Q (.bl (if neg then !decide (x = y) else decide (x = y))) H) ∨ ∃ d e, Dp K H x d ∧ Dp K H y e ∧ SeqAt.shaped d = true ∧ SeqAt.shaped e = true ∧ Q (.bl (if neg then !PyData.eqv d e else PyData.eqv d e)) H) (fEq neg) := by
  intro w d e x y P Q ok dx dy h k
  have sx := see_ok ok dx
  have sy := see_ok ok dy
  unfold fEq at h
  generalize see w.own d = d' at h sx
  generalize see w.own e = e' at h sy
  obtain ⟨h1, h2⟩ := h
  have gen : (eqOk d' = true ∧ (toPy d').depth ≤ 64) ∧ eqOk e' = true ∧ (toPy e').depth ≤ 64 → ∃ d e, Dp K w.H x d ∧ Dp K w.H y e ∧ SeqAt.shaped d = true ∧ SeqAt.shaped e = true ∧ Q (.bl (if neg then !PyData.eqv d e else PyData.eqv d e)) w.H := fun q =>
    ⟨toPy d', toPy e', dv_dp ok q.1.1 sx, dv_dp ok q.2.1 sy, shaped_of q.1.1 q.1.2, shaped_of q.2.1 q.2.2, ops_val ok k h2 (dt_bl.mpr rfl)⟩
  have scalar : ∀ vx vy : V, x = vx → y = vy → scal vx vy = true → deq d' e' = decide (vx = vy) → (scal x y = true ∧ Q (.bl (if neg then !decide (x = y) else decide (x = y))) w.H) := fun vx vy e1 e2 e3 e4 => by
    subst e1 e2
    rw [e4] at h2
    exact ⟨e3, ops_val ok k h2 (dt_bl.mpr rfl)⟩
  unfold eqAsk at h1
  split at h1
  · exact .inl (scalar _ _ (dv_str.mp sx) (dv_str.mp sy) rfl (by rw [deq_ss]; simp))
  · exact .inl (scalar _ _ (dv_str.mp sx) (dv_non.mp sy) rfl (by simp [deq, toPy, PyData.eqv]))
  · exact .inl (scalar _ _ (dv_non.mp sx) (dv_str.mp sy) rfl (by simp [deq, toPy, PyData.eqv]))
  · exact .inl (scalar _ _ (dv_str.mp sx) (dv_int.mp sy) rfl (by simp [deq, toPy, PyData.eqv]))
  · exact .inl (scalar _ _ (dv_int.mp sx) (dv_str.mp sy) rfl (by simp [deq, toPy, PyData.eqv]))
  · exact .inl (scalar _ _ (dv_str.mp sx) (dv_bl.mp sy) rfl (by simp [deq, toPy, PyData.eqv]))
  · exact .inl (scalar _ _ (dv_bl.mp sx) (dv_str.mp sy) rfl (by simp [deq, toPy, PyData.eqv]))
  · exact .inr (gen h1)
section
variable {X : Cx} {w0 : Wd} {a b : Expr} {ta tb : ATE} {pos : Pos}
theorem op_eqA (hu : X.A.units + 64 < cLine) : OpR X (compareOp .Eq) (fun x y H Q => (scal x y = true ∧ Q (.bl (if false then !decide (x = y) else decide (x = y))) H) ∨ ∃ d e, Dp X.K H x d ∧ Dp X.K H y e ∧ SeqAt.shaped d = true ∧ SeqAt.shaped e = true ∧ Q (.bl (if false then !PyData.eqv d e else PyData.eqv d e)) H) := op_eq.or (op_eqD hu)
theorem op_neA (hu : X.A.units + 64 < cLine) : OpR X (compareOp .NotEq) (fun x y H Q => (scal x y = true ∧ Q (.bl (if true then !decide (x = y) else decide (x = y))) H) ∨ ∃ d e, Dp X.K H x d ∧ Dp X.K H y e ∧ SeqAt.shaped d = true ∧ SeqAt.shaped e = true ∧ Q (.bl (if true then !PyData.eqv d e else PyData.eqv d e)) H) := op_ne.or (op_neD hu)
theorem ae_eq {k : Nat} (hr : Room k X.A) (ha : AE X w0 a ta) (hb : AE X w0 b tb) : AE X w0 (.Compare a [.Eq] [b] pos) (aBin (fEq false) ta tb) := ae_cmp (op_eqA hr.units) (os_eq false) ha hb (nomark _)
theorem ae_ne {k : Nat} (hr : Room k X.A) (ha : AE X w0 a ta) (hb : AE X w0 b tb) : AE X w0 (.Compare a [.NotEq] [b] pos) (aBin (fEq true) ta tb) := ae_cmp (op_neA hr.units) (os_eq true) ha hb (nomark _)
theorem at_eq {k : Nat} (hr : Room k X.A) (ha : AE X w0 a ta) (hb : AE X w0 b tb) : AT X w0 (.Compare a [.Eq] [b] pos) (aB (aBin (fEq false) ta tb)) := at_cmp (op_eqA hr.units) (os_eq false) ha hb (nomark _)
theorem at_ne {k : Nat} (hr : Room k X.A) (ha : AE X w0 a ta) (hb : AE X w0 b tb) : AT X w0 (.Compare a [.NotEq] [b] pos) (aB (aBin (fEq true) ta tb)) := at_cmp (op_neA hr.units) (os_eq true) ha hb (nomark _)
/-! is None -/
def fIsN (neg : Bool) : BinF := fun own d e P => e = .non ∧ match d with
  | .non => P (.bl (!neg))
  | _ => P (.bl neg)
theorem isnon {K : PySem.W.Frag} {G : Hp} {d : D} {v : V} (h : Dt K G d v) : decide (v = .non) = (match d with | .non => true | _ => false) := by
  cases d <;> unfold Dt at h
  case non => subst h; rfl
  case tup => obtain ⟨a, vs, rfl, _⟩ := h; rfl
  case lst => obtain ⟨a, vs, rfl, _⟩ := h; rfl
  case kls => obtain ⟨a, vs, rfl, _⟩ := h; rfl
  case dct => obtain ⟨a, rfl, _⟩ := h; rfl
  all_goals subst h; rfl
theorem os_isN {K : PySem.W.Frag} (neg : Bool) : OpS K (fun x y H Q => y = .non ∧ Q (.bl (if neg then !decide (x = .non) else decide (x = .non))) H) (fIsN neg) := by
  intro w d e x y P Q ok dx dy h k
  obtain ⟨rfl, h⟩ := h
  refine ⟨dt_non.mp dy, ?_⟩
  rw [isnon dx]
  refine ops_val ok k ?_ (dt_bl.mpr rfl)
  cases d <;> cases neg <;> exact h
theorem ae_isN (ha : AE X w0 a ta) (hb : AE X w0 b tb) : AE X w0 (.Compare a [.Is] [b] pos) (aBin (fIsN false) ta tb) := ae_cmp op_isN (os_isN false) ha hb (nomark _)
theorem ae_notN (ha : AE X w0 a ta) (hb : AE X w0 b tb) : AE X w0 (.Compare a [.IsNot] [b] pos) (aBin (fIsN true) ta tb) := ae_cmp op_notN (os_isN true) ha hb (nomark _)
theorem at_isN (ha : AE X w0 a ta) (hb : AE X w0 b tb) : AT X w0 (.Compare a [.Is] [b] pos) (aB (aBin (fIsN false) ta tb)) := at_cmp op_isN (os_isN false) ha hb (nomark _)
theorem at_notN (ha : AE X w0 a ta) (hb : AE X w0 b tb) : AT X w0 (.Compare a [.IsNot] [b] pos) (aB (aBin (fIsN true) ta tb)) := at_cmp op_notN (os_isN true) ha hb (nomark _)
end
end L3

namespace L3
open PySem PySem.Spec PyProof.Rows L2

/-! ### in -/
def flatD : D → Bool
  | .non => true
  | .bl _ => true
  | .int _ => true
  | .str _ => true
  | _ => false
/-- == of flat things -/
def eqD : D → D → Bool
  | .non, .non => true
  | .bl a, .bl b => a == b
  | .bl a, .int b => (if a then 1 else 0) == b
  | .int a, .bl b => a == (if b then 1 else 0)
  | .int a, .int b => a == b
  | .str a, .str b => a == b
  | _, _ => false
def hasD (d : D) (ds : List D) : Bool := ds.any fun e => eqD e d
def oneIn (x z : Str) : Bool := decide (x.cps.toList.getD 0 0 ∈ z.cps.toList)
def fIn0 (neg : Bool) : D → D → (D → Prop) → Prop
  | d, .lst ds, P => flatD d = true ∧ ds.all flatD = true ∧ P (.bl (if neg then !hasD d ds else hasD d ds))
  | d, .tup ds, P => flatD d = true ∧ ds.all flatD = true ∧ P (.bl (if neg then !hasD d ds else hasD d ds))
  | .str x, .str z, P => x.cps.toList.length = 1 ∧ P (.bl (if neg then !oneIn x z else oneIn x z))
  | _, _, _ => False
def fIn (neg : Bool) : BinF := fun own d e P => fIn0 neg d (see own e) P
theorem flat_v {K : PySem.W.Frag} {G : Hp} {d : D} {v : V} (h : Dt K G d v) (f : flatD d = true) : flatV v = true := by
  cases d <;> first | (unfold Dt at h; subst h; rfl) | cases f
theorem flats_v {K : PySem.W.Frag} {G : Hp} : ∀ {ds : List D} {vs : List V}, Dts K G ds vs → ds.all flatD = true → vs.all flatV = true
  | [], _, h, _ => by unfold Dts at h; subst h; rfl
  | d :: ds, vs, h, f => by
    unfold Dts at h
    obtain ⟨v, vr, rfl, h1, h2⟩ := h
    rw [List.all_cons, Bool.and_eq_true] at f ⊢
    exact ⟨flat_v h1 f.1, flats_v h2 f.2⟩
theorem eq_v {K : PySem.W.Frag} {G : Hp} {d e : D} {v u : V} (h : Dt K G d v) (h' : Dt K G e u) (f : flatD d = true) (f' : flatD e = true) : eqV v u = eqD d e := by
  cases d <;> first | cases f | skip
  all_goals cases e <;> first | cases f' | skip
  all_goals (unfold Dt at h h'; subst h h'; rfl)
theorem has_v {K : PySem.W.Frag} {G : Hp} {d : D} {v : V} (h : Dt K G d v) (f : flatD d = true) : ∀ {ds : List D} {vs : List V}, Dts K G ds vs → ds.all flatD = true → inV v vs = hasD d ds
  | [], _, r, _ => by unfold Dts at r; subst r; rfl
  | e :: ds, vs, r, fs => by
    unfold Dts at r
    obtain ⟨u, ur, rfl, h1, h2⟩ := r
    rw [List.all_cons, Bool.and_eq_true] at fs
    have ih := has_v h f h2 fs.2
    unfold inV hasD at ih ⊢
    rw [List.any_cons, List.any_cons, ih, eq_v h1 h fs.1 f]
theorem one_str {x : Str} (h : x.cps.toList.length = 1) : x = ⟨#[x.cps.toList.getD 0 0]⟩ := by
  obtain ⟨⟨l⟩⟩ := x
  match l, h with
  | [c], _ => rfl
def rInD (K : PySem.W.Frag) (neg : Bool) : R2 := fun x y H Q => rIn K neg x y H Q ∨ ∃ c z, x = .str ⟨#[c]⟩ ∧ y = .str z ∧ Q (.bl (if neg then !decide (c ∈ z.cps.toList) else decide (c ∈ z.cps.toList))) H
theorem os_in {K : PySem.W.Frag} (neg : Bool) : OpS K (rInD K neg) (fIn neg) := by
  intro w d e x y P Q ok dx dy h k
  have sy := see_ok ok dy
  unfold fIn at h
  generalize see w.own e = e' at h sy
  have seq : ∀ (ds : List D) (us : List V), Dts K w.G ds us → (flatD d = true ∧ ds.all flatD = true ∧ P (.bl (if neg then !hasD d ds else hasD d ds))) → flatV x = true ∧ us.all flatV = true ∧ Q (.bl (if neg then !inV x us else inV x us)) w.H := fun ds us r h => by
    refine ⟨flat_v dx h.1, flats_v r h.2.1, ?_⟩
    rw [has_v dx h.1 r h.2.1]
    exact ops_val ok k h.2.2 (dt_bl.mpr rfl)
  cases e' with
  | lst ds =>
    obtain ⟨a, us, rfl, e1, e2⟩ := sy
    exact .inl ⟨a, us, rfl, .inl (.inl e1), seq ds us e2 (by cases d <;> exact h)⟩
  | tup ds =>
    obtain ⟨a, us, rfl, e1, e2⟩ := sy
    exact .inl ⟨a, us, rfl, .inr e1, seq ds us e2 (by cases d <;> exact h)⟩
  | str z =>
    cases d with
    | str s =>
      have hs := one_str h.1
      refine .inr ⟨_, z, (dt_str.mp dx).trans (congrArg V.str hs), dv_str.mp sy, ops_val ok k h.2 (dt_bl.mpr rfl)⟩
    | _ => exact (h : False).elim
  | non => cases d <;> exact (h : False).elim
  | bl _ => cases d <;> exact (h : False).elim
  | int _ => cases d <;> exact (h : False).elim
  | ty _ => cases d <;> exact (h : False).elim
  | kls _ => cases d <;> exact (h : False).elim
  | ref _ => cases d <;> exact (h : False).elim
  | dct _ => cases d <;> exact (h : False).elim
section
variable {X : Cx} {w0 : Wd} {a b : Expr} {ta tb : ATE} {pos : Pos}
theorem op_inD : OpR X (compareOp .In) (rInD X.K false) := op_in_seq.or (fun pins s σ H x y v u Q I rx ry ⟨c, z, e1, e2, q⟩ => op_in_sign pins s σ H x y v u Q I rx ry ⟨c, z, e1, e2, q⟩)
theorem op_notInD : OpR X (compareOp .NotIn) (rInD X.K true) := op_notIn_seq.or (fun pins s σ H x y v u Q I rx ry ⟨c, z, e1, e2, q⟩ => op_notIn_sign pins s σ H x y v u Q I rx ry ⟨c, z, e1, e2, q⟩)
theorem ae_in (ha : AE X w0 a ta) (hb : AE X w0 b tb) (hm : behindInMarks .In b = false := by rfl) : AE X w0 (.Compare a [.In] [b] pos) (aBin (fIn false) ta tb) := ae_cmp op_inD (os_in false) ha hb hm
theorem ae_notin (ha : AE X w0 a ta) (hb : AE X w0 b tb) (hm : behindInMarks .NotIn b = false := by rfl) : AE X w0 (.Compare a [.NotIn] [b] pos) (aBin (fIn true) ta tb) := ae_cmp op_notInD (os_in true) ha hb hm
theorem at_in (ha : AE X w0 a ta) (hb : AE X w0 b tb) (hm : behindInMarks .In b = false := by rfl) : AT X w0 (.Compare a [.In] [b] pos) (aB (aBin (fIn false) ta tb)) := at_cmp op_inD (os_in false) ha hb hm
theorem at_notin (ha : AE X w0 a ta) (hb : AE X w0 b tb) (hm : behindInMarks .NotIn b = false := by rfl) : AT X w0 (.Compare a [.NotIn] [b] pos) (aB (aBin (fIn true) ta tb)) := at_cmp op_notInD (os_in true) ha hb hm
end

/-! ### subscripts -/
/-- there is one, and it is so -/
def oP {α : Type} : Option α → (α → Prop) → Prop
  | some a, P => P a
  | none, _ => False
theorem oP_some {α : Type} {o : Option α} {P : α → Prop} (h : oP o P) : ∃ a, o = some a ∧ P a := by
  cases o with
  | none => exact h.elim
  | some a => exact ⟨a, rfl, h⟩
def fIx0 : D → D → (D → Prop) → Prop
  | .lst ds, .int i, P => oP (atI ds i) P
  | .tup ds, .int i, P => oP (atI ds i) P
  | .str z, .int i, P => z.length ≤ sizeLine ∧ oP (atI z.cps.toList i) fun c => P (.str ⟨#[c]⟩)
  | _, _, _ => False
def fIx : BinF := fun own d e P => fIx0 (see own d) (see own e) P
theorem at_v {K : PySem.W.Frag} {G : Hp} {ds : List D} {vs : List V} (r : Dts K G ds vs) {i : Int} {d : D} (h : atI ds i = some d) : ∃ v, atI vs i = some v ∧ Dt K G d v := by
  unfold atI at h ⊢
  rw [r.length]
  cases e : ixN ds.length i with
  | none => rw [e] at h; cases h
  | some j =>
    rw [e] at h
    exact r.get h
theorem os_ix {K : PySem.W.Frag} : OpS K (rIx K) fIx := by
  intro w d e x y P Q ok dx dy h k
  have sx := see_ok ok dx
  have sy := see_ok ok dy
  unfold fIx at h
  generalize see w.own d = d' at h sx
  generalize see w.own e = e' at h sy
  match d', e', h, sx, sy with
  | .lst ds, .int i, h, sx, sy =>
    obtain ⟨a, us, rfl, e1, e2⟩ := sx
    obtain ⟨z, e3, h⟩ := oP_some (show oP (atI ds i) P from h)
    obtain ⟨v, a1, a2⟩ := at_v e2 e3
    exact .inl ⟨a, us, i, v, rfl, dv_int.mp sy, .inl e1, a1, ops_val ok k h a2⟩
  | .tup ds, .int i, h, sx, sy =>
    obtain ⟨a, us, rfl, e1, e2⟩ := sx
    obtain ⟨z, e3, h⟩ := oP_some (show oP (atI ds i) P from h)
    obtain ⟨v, a1, a2⟩ := at_v e2 e3
    exact .inr (.inl ⟨a, us, i, v, rfl, dv_int.mp sy, e1, a1, ops_val ok k h a2⟩)
  | .str z, .int i, h, sx, sy =>
    obtain ⟨hz, h⟩ := (show z.length ≤ sizeLine ∧ oP (atI z.cps.toList i) (fun c => P (.str ⟨#[c]⟩)) from h)
    obtain ⟨c, e3, h⟩ := oP_some h
    exact .inr (.inr ⟨z, i, c, dv_str.mp sx, dv_int.mp sy, hz, e3, ops_val ok k h (dt_str.mpr rfl)⟩)
section
variable {X : Cx} {w0 : Wd} {a b e o : Expr} {ta tb : ATE} {pos p2 : Pos}
theorem ae_ix (ha : AE X w0 a ta) (hb : AE X w0 b tb) (hp : PlainIx b := by exact fun _ _ => rfl) : AE X w0 (.Subscript a b pos) (aBin fIx ta tb) := ae_sub ix_seq os_ix ha hb hp
/-! slices -/
def cutD (ds : List D) (lo hi : Option Int) : List D := (ds.drop (HT.sIx ds.length 0 lo)).take (HT.sIx ds.length ds.length hi - HT.sIx ds.length 0 lo)
theorem cut_v {K : PySem.W.Frag} {G : Hp} {ds : List D} {vs : List V} (r : Dts K G ds vs) (lo hi : Option Int) : Dts K G (cutD ds lo hi) (cutV vs lo hi) := by
  unfold cutD cutV
  rw [r.length]
  exact (r.drop _).take _
theorem cutD_le (ds : List D) (lo hi : Option Int) : (cutD ds lo hi).length ≤ ds.length := by
  unfold cutD; rw [List.length_take, List.length_drop]; omega
def fSl0 (lo hi : Option Int) : D → (D → Prop) → Prop
  | .lst ds, P => P (.lst (cutD ds lo hi))
  | .tup ds, P => P (.tup (cutD ds lo hi))
  | .kls ds, P => P (.lst (cutD ds lo hi))
  | .str z, P => z.length ≤ sizeLine ∧ P (.str (cutS z lo hi))
  | _, _ => False
def aNo : ATO := fun _ own P => P none own
def aSo (t : ATE) : ATO := fun env own P => t env own fun d o => match d with
  | .int i => P (some i) o
  | _ => False
theorem ao_none : AO X w0 none aNo := po_of po_none fun σ H Q h => by
  obtain ⟨env, w, rfl, ok, tr0, er, P, h, k⟩ := h
  exact k none w h (Tr.refl w) ok
theorem ao_some (h : AE X w0 e ta) : AO X w0 (some e) (aSo ta) := po_of (po_some h) fun σ H Q h => by
  obtain ⟨env, w, rfl, ok, tr0, er, P, h, k⟩ := h
  refine ⟨env, w, rfl, ok, tr0, er, _, h, fun d w1 v h1 t1 ok1 dv => ?_⟩
  cases d with
  | int i => exact ⟨i, dt_int.mp dv, k _ w1 h1 t1 ok1⟩
  | _ => exact (h1 : False).elim
def aSl (t : ATE) (l h : ATO) : ATE := fun env own P => t env own fun d o1 => l env o1 fun lo o2 => h env o2 fun hi o3 => fSl0 lo hi (see o3 d) fun z => P z o3
theorem ae_sl {lo hi : Option Expr} {l h : ATO} (ha : AE X w0 a ta) (hl : AO X w0 lo l) (hh : AO X w0 hi h) : AE X w0 (.Subscript a (.Slice lo hi none p2) pos) (aSl ta l h) :=
  pe_of (pe_slice ((sl_list.or sl_tupA).or sl_str) ha hl hh) fun σ H Q h => by
    obtain ⟨env, w, rfl, ok, tr0, er, P, h, k⟩ := h
    refine ⟨env, w, rfl, ok, tr0, er, _, h, fun d w1 x h1 t1 ok1 dx => ?_⟩
    refine ⟨env, w1, rfl, ok1, tr0.trans t1, er.mono t1.gs, _, h1, fun lo w2 h2 t2 ok2 => ?_⟩
    have T2 := t1.trans t2
    refine ⟨env, w2, rfl, ok2, tr0.trans T2, er.mono T2.gs, _, h2, fun hi w3 h3 t3 ok3 => ?_⟩
    have T3 := T2.trans t3
    have dx3 := dx.mono (t2.trans t3).gs
    have sx := see_ok ok3 dx3
    have kk : ∀ z w' v, P z w3.own → w'.own = w3.own → Tr w3 w' → w'.Ok X.K → Dt X.K w'.G z v → Q v w'.H := fun z w' v h4 ho t4 ok4 d4 => k z w' v (by rw [ho]; exact h4) (T3.trans t4) ok4 d4
    cases e : see w3.own d with
    | lst ds =>
      rw [e] at sx h3
      obtain ⟨p, us, rfl, e1, e2⟩ := sx
      refine .inl (.inl ⟨p, us, rfl, .inl e1, ops_lst ok3 (P := fun z => P z w3.own) kk h3 (cut_v e2 lo hi) ?_⟩)
      exact Nat.le_trans (cutD_le ds lo hi) (by rw [← e2.length]; exact sqL_sz ok3 (.inl e1))
    | tup ds =>
      rw [e] at sx h3
      have ed := see_tup e
      subst ed
      obtain ⟨p, us, rfl, e1, e2⟩ := sx
      refine .inl (.inr ⟨p, us, rfl, e1, fun z => ?_, fun _ => ops_tup ok3 (P := fun z => P z w3.own) kk h3 (cut_v e2 lo hi) (Nat.le_trans (cutD_le ds lo hi) (by rw [← e2.length]; exact sqT_sz ok3 e1))⟩)
      have ec : cutD ds lo hi = ds := by
        unfold cutD
        rw [← e2.length, z.1, z.2, e2.length]
        simp
      have h3' : P (.tup (cutD ds lo hi)) w3.own := h3
      rw [ec] at h3'
      exact ops_val ok3 (P := fun z => P z w3.own) kk h3' dx3
    | str z =>
      rw [e] at sx h3
      exact .inr ⟨z, dv_str.mp sx, h3.1, ops_val ok3 (P := fun z => P z w3.own) kk h3.2 (dt_str.mpr rfl)⟩
    | non => rw [e] at h3; exact (h3 : False).elim
    | bl _ => rw [e] at h3; exact (h3 : False).elim
    | int _ => rw [e] at h3; exact (h3 : False).elim
    | ty _ => rw [e] at h3; exact (h3 : False).elim
    | kls ds =>
      rw [e] at sx h3
      have sx' : Dt X.K w3.G (.kls ds) x := sx
      unfold Dt at sx'
      obtain ⟨p, us, rfl, e1, e2⟩ := sx'
      have e1' := ok3.sub.sqL e1
      refine .inl (.inl ⟨p, us, rfl, e1', ops_lst ok3 (P := fun z => P z w3.own) kk h3 (cut_v e2 lo hi) ?_⟩)
      exact Nat.le_trans (cutD_le ds lo hi) (by rw [← e2.length]; exact sqL_sz ok3 e1')
    | ref _ => rw [e] at h3; exact (h3 : False).elim
    | dct _ => rw [e] at h3; exact (h3 : False).elim
end

/-! ### built-in functions -/
section
variable {X : Cx} {w0 : Wd} {e : Expr} {es : List Expr} {ta : ATA} {x : Str} {p pos : Pos} {id T : String}
theorem ae_callB {r : List V → Hp → VK → Prop} {f : CallF} (hc : CallR X (.builtin id) r) (hs : CallS X.K r f) (hg : Gl X x) (hm : X.mg x = none) (hv : bootBuiltins x = some (.builtin id)) (ha : AA X w0 (e :: es) ta) (hn : x ≠ "__name__" := by decide) (hdb : (x == ("__debug__" : Str)) = false := by decide)
    (he : starEach (e :: es) X.env = (false, eval e X.env) :: starEach es X.env := by rfl) (hpl : (backTo pos (starEach es X.env)).any (·.1) = false := by rfl) : AE X w0 (.Call (.Name x p) (e :: es) [] pos) (aFn f ta) := pe_of (pe_callB hc hg hm hv ha hn hdb he hpl) fun σ H Q h => by
  obtain ⟨env, w, rfl, ok, tr0, er, P, h, k⟩ := h
  exact ⟨env, w, rfl, ok, tr0, er, _, h, fun ds w1 vs h1 t1 ok1 dv => hs w1 ds vs _ Q ok1 dv h1 fun z w2 v hz ho t2 ok2 dz => k z w2 v (by rw [ho]; exact hz) (t1.trans t2) ok2 dz⟩
theorem ae_callT {r : List V → Hp → VK → Prop} {f : CallF} (hc : CallR X (.type T) r) (hs : CallS X.K r f) (hg : Gl X x) (hm : X.mg x = none) (hv : bootBuiltins x = some (.type T)) (ha : AA X w0 (e :: es) ta) (hn : x ≠ "__name__" := by decide) (hdb : (x == ("__debug__" : Str)) = false := by decide)
    (he : starEach (e :: es) X.env = (false, eval e X.env) :: starEach es X.env := by rfl) (hpl : (backTo pos (starEach es X.env)).any (·.1) = false := by rfl) : AE X w0 (.Call (.Name x p) (e :: es) [] pos) (aFn f ta) := pe_of (pe_callTy hc hg hm hv ha hn hdb he hpl) fun σ H Q h => by
  obtain ⟨env, w, rfl, ok, tr0, er, P, h, k⟩ := h
  exact ⟨env, w, rfl, ok, tr0, er, _, h, fun ds w1 vs h1 t1 ok1 dv => hs w1 ds vs _ Q ok1 dv h1 fun z w2 v hz ho t2 ok2 dz => k z w2 v (by rw [ho]; exact hz) (t1.trans t2) ok2 dz⟩
theorem dts_one {K : PySem.W.Frag} {G : Hp} {d : D} {vs : List V} (h : Dts K G [d] vs) : ∃ v, vs = [v] ∧ Dt K G d v := by
  unfold Dts at h
  obtain ⟨v, vr, rfl, h1, h2⟩ := h
  unfold Dts at h2; subst h2
  exact ⟨v, rfl, h1⟩
theorem dts_two {K : PySem.W.Frag} {G : Hp} {d e : D} {vs : List V} (h : Dts K G [d, e] vs) : ∃ v u, vs = [v, u] ∧ Dt K G d v ∧ Dt K G e u := by
  unfold Dts at h
  obtain ⟨v, vr, rfl, h1, h2⟩ := h
  obtain ⟨u, rfl, h3⟩ := dts_one h2
  exact ⟨v, u, rfl, h1, h3⟩
/-- one argument, as it is seen -/
def f1 (g : D → (D → Prop) → Prop) : CallF := fun own ds P => match ds with
  | [d] => g (see own d) P
  | _ => False
theorem cs1 {K : PySem.W.Frag} {r : List V → Hp → VK → Prop} {g : D → (D → Prop) → Prop}
    (hs : ∀ (w : Wd) (d : D) (x : V) (P : D → Prop) (Q : VK), w.Ok K → Dt K w.G d x → DtV K w (see w.own d) x → g (see w.own d) P → (∀ z w' v, P z → w'.own = w.own → Tr w w' → w'.Ok K → Dt K w'.G z v → Q v w'.H) → r [x] w.H Q) : CallS K r (f1 g) := by
  intro w ds xs P Q ok dv h k
  match ds, h, dv with
  | [d], h, dv =>
    obtain ⟨v, rfl, d1⟩ := dts_one dv
    exact hs w d v P Q ok d1 (see_ok ok d1) h k
/-! len -/
def gLen : D → (D → Prop) → Prop
  | .lst ds, P => P (.int ds.length)
  | .tup ds, P => P (.int ds.length)
  | .str z, P => z.length ≤ sizeLine ∧ P (.int z.length)
  | _, _ => False
theorem ae_len (hg : Gl X "len") (hm : X.mg "len" = none) (ha : AA X w0 (e :: es) ta) (he : starEach (e :: es) X.env = (false, eval e X.env) :: starEach es X.env := by rfl) (hpl : (backTo pos (starEach es X.env)).any (·.1) = false := by rfl) : AE X w0 (.Call (.Name "len" p) (e :: es) [] pos) (aFn (f1 gLen) ta) :=
  ae_callB (call_len_seq.or call_len_str) (cs1 fun w d x P Q ok dx sx h k => by
    generalize see w.own d = d' at h sx
    match d', h, sx with
    | .lst ds, h, sx =>
      obtain ⟨a, us, rfl, e1, e2⟩ := sx
      exact .inl ⟨a, us, rfl, .inl (.inl e1), by rw [e2.length]; exact ops_val ok k h (dt_int.mpr rfl)⟩
    | .tup ds, h, sx =>
      obtain ⟨a, us, rfl, e1, e2⟩ := sx
      exact .inl ⟨a, us, rfl, .inr e1, by rw [e2.length]; exact ops_val ok k h (dt_int.mpr rfl)⟩
    | .str z, h, sx => exact .inr ⟨z, by rw [dv_str.mp sx], h.1, ops_val ok k h.2 (dt_int.mpr rfl)⟩) hg hm boot_len ha (by decide) (by decide) he hpl
/-! abs, int -/
def gAbs : D → (D → Prop) → Prop
  | .int i, P => P (.int (if i < 0 then -i else i))
  | _, _ => False
theorem ae_abs (hg : Gl X "abs") (hm : X.mg "abs" = none) (ha : AA X w0 (e :: es) ta) (he : starEach (e :: es) X.env = (false, eval e X.env) :: starEach es X.env := by rfl) (hpl : (backTo pos (starEach es X.env)).any (·.1) = false := by rfl) : AE X w0 (.Call (.Name "abs" p) (e :: es) [] pos) (aFn (f1 gAbs) ta) :=
  ae_callB call_abs (cs1 fun w d x P Q ok dx sx h k => by
    generalize see w.own d = d' at h sx
    match d', h, sx with
    | .int i, h, sx => exact ⟨i, by rw [dv_int.mp sx], ops_val ok k h (dt_int.mpr rfl)⟩) hg hm (by decide +kernel) ha (by decide) (by decide) he hpl
def gInt1 : D → (D → Prop) → Prop
  | .int i, P => P (.int i)
  | .bl b, P => P (.int (if b then 1 else 0))
  | _, _ => False
theorem ae_int1 (hg : Gl X "int") (hm : X.mg "int" = none) (ha : AA X w0 (e :: es) ta) (he : starEach (e :: es) X.env = (false, eval e X.env) :: starEach es X.env := by rfl) (hpl : (backTo pos (starEach es X.env)).any (·.1) = false := by rfl) : AE X w0 (.Call (.Name "int" p) (e :: es) [] pos) (aFn (f1 gInt1) ta) :=
  ae_callT call_int1 (cs1 fun w d x P Q ok dx sx h k => by
    generalize see w.own d = d' at h sx
    match d', h, sx with
    | .int i, h, sx => exact .inl ⟨i, by rw [dv_int.mp sx], ops_val ok k h (dt_int.mpr rfl)⟩
    | .bl b, h, sx => exact .inr ⟨b, by rw [dv_bl.mp sx], ops_val ok k h (dt_int.mpr rfl)⟩) hg hm (by decide +kernel) ha (by decide) (by decide) he hpl
/-! list(x), tuple(x) -/
def gList : D → (D → Prop) → Prop
  | .lst ds, P => P (.lst ds)
  | .tup ds, P => P (.lst ds)
  | _, _ => False
theorem ae_list (hg : Gl X "list") (hm : X.mg "list" = none) (ha : AA X w0 (e :: es) ta) (he : starEach (e :: es) X.env = (false, eval e X.env) :: starEach es X.env := by rfl) (hpl : (backTo pos (starEach es X.env)).any (·.1) = false := by rfl) : AE X w0 (.Call (.Name "list" p) (e :: es) [] pos) (aFn (f1 gList) ta) :=
  ae_callT call_list_of (cs1 fun w d x P Q ok dx sx h k => by
    generalize see w.own d = d' at h sx
    match d', h, sx with
    | .lst ds, h, sx =>
      obtain ⟨a, us, rfl, e1, e2⟩ := sx
      exact ⟨a, us, rfl, .inl (.inl e1), ops_lst ok k h e2 (by rw [← e2.length]; exact sqL_sz ok (.inl e1))⟩
    | .tup ds, h, sx =>
      obtain ⟨a, us, rfl, e1, e2⟩ := sx
      exact ⟨a, us, rfl, .inr e1, ops_lst ok k h e2 (by rw [← e2.length]; exact sqT_sz ok e1)⟩) hg hm (by decide +kernel) ha (by decide) (by decide) he hpl
def gTuple : D → (D → Prop) → Prop
  | .lst ds, P => P (.tup ds)
  | .tup ds, P => P (.tup ds)
  | _, _ => False
theorem ae_tuple (hg : Gl X "tuple") (hm : X.mg "tuple" = none) (ha : AA X w0 (e :: es) ta) (he : starEach (e :: es) X.env = (false, eval e X.env) :: starEach es X.env := by rfl) (hpl : (backTo pos (starEach es X.env)).any (·.1) = false := by rfl) : AE X w0 (.Call (.Name "tuple" p) (e :: es) [] pos) (aFn (f1 gTuple) ta) :=
  ae_callT call_tuple_of (cs1 fun w d x P Q ok dx sx h k => by
    generalize hd : see w.own d = d' at h sx
    match d', h, sx, hd with
    | .lst ds, h, sx, _ =>
      obtain ⟨a, us, rfl, e1, e2⟩ := sx
      exact ⟨a, us, rfl, .inl ⟨.inl e1, ops_tup ok k h e2 (by rw [← e2.length]; exact sqL_sz ok (.inl e1))⟩⟩
    | .tup ds, h, sx, hd =>
      obtain ⟨a, us, rfl, e1, e2⟩ := sx
      have ed := see_tup hd
      subst ed
      exact ⟨a, us, rfl, .inr ⟨e1, ops_val ok k h dx⟩⟩) hg hm (by decide +kernel) ha (by decide) (by decide) he hpl
/-! sum, all, any -/
def intsOf : List D → Option (List Int)
  | [] => some []
  | .int i :: ds => (intsOf ds).map (i :: ·)
  | _ => none
def blsOf : List D → Option (List Bool)
  | [] => some []
  | .bl i :: ds => (blsOf ds).map (i :: ·)
  | _ => none
theorem ints_v {K : PySem.W.Frag} {G : Hp} : ∀ {ds : List D} {vs : List V} {ns : List Int}, Dts K G ds vs → intsOf ds = some ns → vs = ns.map V.int
  | [], _, _, h, e => by unfold Dts at h; unfold intsOf at e; cases e; exact h
  | d :: ds, vs, ns, h, e => by
    unfold Dts at h
    obtain ⟨v, vr, rfl, h1, h2⟩ := h
    cases d <;> first | (unfold intsOf at e; cases e; done) | skip
    unfold intsOf at e
    cases e2 : intsOf ds with
    | none => rw [e2] at e; cases e
    | some ms =>
      rw [e2] at e; cases e
      rw [ints_v h2 e2, dt_int.mp h1]; rfl
theorem bls_v {K : PySem.W.Frag} {G : Hp} : ∀ {ds : List D} {vs : List V} {ns : List Bool}, Dts K G ds vs → blsOf ds = some ns → vs = ns.map V.bl
  | [], _, _, h, e => by unfold Dts at h; unfold blsOf at e; cases e; exact h
  | d :: ds, vs, ns, h, e => by
    unfold Dts at h
    obtain ⟨v, vr, rfl, h1, h2⟩ := h
    cases d <;> first | (unfold blsOf at e; cases e; done) | skip
    unfold blsOf at e
    cases e2 : blsOf ds with
    | none => rw [e2] at e; cases e
    | some ms =>
      rw [e2] at e; cases e
      rw [bls_v h2 e2, dt_bl.mp h1]; rfl
def gSum : D → (D → Prop) → Prop
  | .lst ds, P => oP (intsOf ds) fun ns => P (.int ns.sum)
  | _, _ => False
def gAll : D → (D → Prop) → Prop
  | .lst ds, P => oP (blsOf ds) fun bs => P (.bl (bs.all _root_.id))
  | _, _ => False
def gAny : D → (D → Prop) → Prop
  | .lst ds, P => oP (blsOf ds) fun bs => P (.bl (bs.any _root_.id))
  | _, _ => False
theorem ae_sum (hc : X.calm = true) (hg : Gl X "sum") (hm : X.mg "sum" = none) (ha : AA X w0 (e :: es) ta) (he : starEach (e :: es) X.env = (false, eval e X.env) :: starEach es X.env := by rfl) (hpl : (backTo pos (starEach es X.env)).any (·.1) = false := by rfl) : AE X w0 (.Call (.Name "sum" p) (e :: es) [] pos) (aFn (f1 gSum) ta) :=
  ae_callB (cr_sum hc) (cs1 fun w d x P Q ok dx sx h k => by
    generalize see w.own d = d' at h sx
    match d', h, sx with
    | .lst ds, h, sx =>
      obtain ⟨a, us, rfl, e1, e2⟩ := sx
      obtain ⟨ns, e3, h⟩ := oP_some (show oP (intsOf ds) (fun ns => P (.int ns.sum)) from h)
      rw [ints_v e2 e3] at e1
      exact ⟨a, ns, rfl, .inl e1, ops_val ok k h (dt_int.mpr rfl)⟩) hg hm (by decide +kernel) ha (by decide) (by decide) he hpl
theorem ae_all (hc : X.calm = true) (hg : Gl X "all") (hm : X.mg "all" = none) (ha : AA X w0 (e :: es) ta) (he : starEach (e :: es) X.env = (false, eval e X.env) :: starEach es X.env := by rfl) (hpl : (backTo pos (starEach es X.env)).any (·.1) = false := by rfl) : AE X w0 (.Call (.Name "all" p) (e :: es) [] pos) (aFn (f1 gAll) ta) :=
  ae_callB (cr_all hc) (cs1 fun w d x P Q ok dx sx h k => by
    generalize see w.own d = d' at h sx
    match d', h, sx with
    | .lst ds, h, sx =>
      obtain ⟨a, us, rfl, e1, e2⟩ := sx
      obtain ⟨ns, e3, h⟩ := oP_some (show oP (blsOf ds) (fun bs => P (.bl (bs.all _root_.id))) from h)
      rw [bls_v e2 e3] at e1
      exact ⟨a, ns, rfl, .inl e1, ops_val ok k h (dt_bl.mpr rfl)⟩) hg hm (by decide +kernel) ha (by decide) (by decide) he hpl
theorem ae_any (hc : X.calm = true) (hg : Gl X "any") (hm : X.mg "any" = none) (ha : AA X w0 (e :: es) ta) (he : starEach (e :: es) X.env = (false, eval e X.env) :: starEach es X.env := by rfl) (hpl : (backTo pos (starEach es X.env)).any (·.1) = false := by rfl) : AE X w0 (.Call (.Name "any" p) (e :: es) [] pos) (aFn (f1 gAny) ta) :=
  ae_callB (cr_any hc) (cs1 fun w d x P Q ok dx sx h k => by
    generalize see w.own d = d' at h sx
    match d', h, sx with
    | .lst ds, h, sx =>
      obtain ⟨a, us, rfl, e1, e2⟩ := sx
      obtain ⟨ns, e3, h⟩ := oP_some (show oP (blsOf ds) (fun bs => P (.bl (bs.any _root_.id))) from h)
      rw [bls_v e2 e3] at e1
      exact ⟨a, ns, rfl, .inl e1, ops_val ok k h (dt_bl.mpr rfl)⟩) hg hm (by decide +kernel) ha (by decide) (by decide) he hpl
/-! repr -/
def reprOk (d : D) : Bool := eqOk d && (toPy d).showable && decide ((toPy d).depth ≤ 64) && decide ((toPy d).shown.length ≤ sizeLine)
def reprD (d : D) : Str := (toPy d).shown
def gRepr : D → (D → Prop) → Prop
  | .tup ds, P => reprOk (.tup ds) = true ∧ P (.str (reprD (.tup ds)))
  | .lst ds, P => reprOk (.lst ds) = true ∧ P (.str (reprD (.lst ds)))
  | .non, P => P (.str (reprD .non))
  | .str x, P => reprOk (.str x) = true ∧ P (.str (reprD (.str x)))
  | _, _ => False
def rRepr (K : PySem.W.Frag) : List V → Hp → VK → Prop := fun xs H Q => (xs = [.non] ∧ Q (.str "None") H) ∨ (∃ z, xs = [.str z] ∧ (reprText z).length ≤ sizeLine ∧ Q (.str (reprText z)) H) ∨
  ∃ a d, xs = [.ref a] ∧ Dp K H (.ref a) d ∧ d.showable = true ∧ d.hasDict = false ∧ d.depth ≤ 64 ∧ d.shown.length ≤ sizeLine ∧ Q (.str d.shown) H
theorem call_reprD {k : Nat} (hr : Room k X.A) (hgd : X.A.guards = some []) : CallR X (.builtin "repr") (rRepr X.K) := by
  intro pins s σ H xs us Q I r h
  rcases h with ⟨rfl, q⟩ | ⟨z, rfl, hz, q⟩ | ⟨a, d, rfl, hd, h1, h2, h3, h4, q⟩
  · obtain ⟨u, rfl, rx⟩ := vals1 r
    cases rx
    exact PySem.P.repr_of_none ⟨.str _, H, I.tok _, ⟨_, rfl⟩, q⟩
  · obtain ⟨u, rfl, t, rfl⟩ := vals1 r
    exact PySem.P.repr_of_str ⟨.str _, H, I.tok _, ⟨_, rfl⟩, q⟩ hz
  · obtain ⟨u, rfl, rx⟩ := vals1 r
    cases rx
    obtain ⟨as, rd⟩ := Dp.reads I d _ _ hd rfl
    have hu := hr.units0
    have hu2 := hr.un
    exact repr_of_reads' rd h1 (fun e => by rw [h2] at e; cases e) hgd (by omega) (fun _ _ e => e) (fun h' u tk kp => ⟨.str _, H, I.kept kp, ⟨_, rfl⟩, q⟩) h4
theorem ae_repr {k : Nat} (hr : Room k X.A) (hgd : X.A.guards = some []) (hg : Gl X "repr") (hm : X.mg "repr" = none) (ha : AA X w0 (e :: es) ta) (he : starEach (e :: es) X.env = (false, eval e X.env) :: starEach es X.env := by rfl) (hpl : (backTo pos (starEach es X.env)).any (·.1) = false := by rfl) : AE X w0 (.Call (.Name "repr" p) (e :: es) [] pos) (aFn (f1 gRepr) ta) :=
  ae_callB (call_reprD hr hgd) (cs1 fun w d x P Q ok dx sx h k => by
    generalize see w.own d = d' at h sx
    have gen : ∀ ds : D, reprOk ds = true → DtV X.K w ds x → P (.str (reprD ds)) → Dp X.K w.H x (toPy ds) ∧ (toPy ds).showable = true ∧ (toPy ds).hasDict = false ∧ (toPy ds).depth ≤ 64 ∧ (toPy ds).shown.length ≤ sizeLine ∧ Q (.str (toPy ds).shown) w.H := fun ds o sx h => by
      unfold reprOk at o
      simp only [Bool.and_eq_true, decide_eq_true_eq] at o
      exact ⟨dv_dp ok o.1.1.1 sx, o.1.1.2, PyData.hasDict_of_canLay _ (canLay_of o.1.1.1), o.1.2, o.2, ops_val ok k h (dt_str.mpr rfl)⟩
    match d', h, sx with
    | .non, h, sx => exact .inl ⟨by rw [dv_non.mp sx], ops_val ok k h (dt_str.mpr (by simp only [reprD, toPy, PyData.shown]))⟩
    | .str z, h, sx =>
      have g := gen _ h.1 sx h.2
      refine .inr (.inl ⟨z, by rw [dv_str.mp sx], ?_, ?_⟩)
      · have := g.2.2.2.2.1; simpa only [toPy, PyData.shown] using this
      · have := g.2.2.2.2.2; simpa only [toPy, PyData.shown] using this
    | .tup ds, h, sx =>
      have g := gen _ h.1 sx h.2
      obtain ⟨a, us, rfl, e1, e2⟩ := sx
      exact .inr (.inr ⟨a, _, rfl, g⟩)
    | .lst ds, h, sx =>
      have g := gen _ h.1 sx h.2
      obtain ⟨a, us, rfl, e1, e2⟩ := sx
      exact .inr (.inr ⟨a, _, rfl, g⟩)) hg hm (by decide +kernel) ha (by decide) (by decide) he hpl
end
end L3

namespace L3
open PySem PySem.Spec PyProof.Rows L2

/-! ### texts -/
def strsOf : List D → Option (List Str)
  | [] => some []
  | .str i :: ds => (strsOf ds).map (i :: ·)
  | _ => none
theorem strs_v {K : PySem.W.Frag} {G : Hp} : ∀ {ds : List D} {vs : List V} {ns : List Str}, Dts K G ds vs → strsOf ds = some ns → vs = ns.map V.str
  | [], _, _, h, e => by unfold Dts at h; unfold strsOf at e; cases e; exact h
  | d :: ds, vs, ns, h, e => by
    unfold Dts at h
    obtain ⟨v, vr, rfl, h1, h2⟩ := h
    cases d <;> first | (unfold strsOf at e; cases e; done) | skip
    unfold strsOf at e
    cases e2 : strsOf ds with
    | none => rw [e2] at e; cases e
    | some ms =>
      rw [e2] at e; cases e
      rw [strs_v h2 e2, dt_str.mp h1]; rfl
def gJoin (a : Str) (P : D → Prop) (ys : List Str) : Prop := (ys.map (·.length)).sum + ys.length * a.length ≤ 16777216 ∧ P (.str (Str.join a ys))
def fJoin : BinF := fun own d e P => match d, see own e with
  | .str a, .lst ds => oP (strsOf ds) (gJoin a P)
  | .str a, .tup ds => oP (strsOf ds) (gJoin a P)
  | _, _ => False
/-- o.m(e): a method of a text, one argument -/
def aM1 (f : BinF) (to te : ATE) : ATE := fun env own P => to env own fun d o1 => te env o1 fun e o2 => (∃ a, d = .str a) ∧ f o2 d e fun z => P z o2
section
variable {X : Cx} {w0 : Wd} {o e : Expr} {to te : ATE} {pos apos : Pos}
theorem m1_of {r : V → List V → Hp → VK → Prop} {f : BinF} {σ : L2.St} {H : Hp} {Q : VK} (hs : OpS X.K (fun x y H Q => r x [y] H Q) f) (hstr : ∀ own d e P, f own d e P → ∃ a, d = .str a)
    (h : concE X.K w0 (aBin f to te) σ H Q) (h0 : ∃ a, ∀ env own P, to env own P → P (.str a) own) : True := trivial
def aJoin (to te : ATE) : ATE := fun env own P => to env own fun d o1 => ∃ a, d = .str a ∧ te env o1 fun e o2 => fJoin o2 d e fun z => P z o2
theorem ae_join (ho : AE X w0 o to) (he : AE X w0 e te) (hs : starEach [e] X.env = [(false, eval e X.env)] := by rfl) (hbase : attributeBase o "join" X.env (eval o X.env) = eval o X.env := by rfl) (hline : (apos.endLine == pos.line) = true := by rfl) :
    AE X w0 (.Call (.Attribute o "join" apos) [e] [] pos) (aJoin to te) := pe_of (pe_join ho he hs hbase hline) fun σ H Q h => by
  obtain ⟨env, w, rfl, ok, tr0, er, P, h, k⟩ := h
  refine ⟨env, w, rfl, ok, tr0, er, _, h, fun d w1 x h1 t1 ok1 dx => ?_⟩
  obtain ⟨a, rfl, h1⟩ := h1
  have ex := dt_str.mp dx
  subst ex
  refine ⟨⟨a, rfl⟩, env, w1, rfl, ok1, tr0.trans t1, er.mono t1.gs, _, h1, fun e w2 y h2 t2 ok2 dy => ?_⟩
  have sy := see_ok ok2 dy
  have kk : ∀ z w' v, P z w2.own → w'.own = w2.own → Tr w2 w' → w'.Ok X.K → Dt X.K w'.G z v → Q v w'.H := fun z w' v h4 ho t4 ok4 d4 => k z w' v (by rw [ho]; exact h4) ((t1.trans t2).trans t4) ok4 d4
  cases e3 : see w2.own e with
  | lst ds =>
    unfold fJoin at h2
    simp only [e3] at h2
    rw [e3] at sy
    obtain ⟨ys, e4, h3, h5⟩ := oP_some h2
    obtain ⟨p, us, rfl, e1, e2⟩ := sy
    rw [strs_v e2 e4] at e1
    refine ⟨a, p, ys, rfl, rfl, .inl (.inl e1), h3, ?_⟩
    rw [TL.join_eq]
    exact ops_val ok2 (P := fun z => P z w2.own) kk h5 (dt_str.mpr rfl)
  | tup ds =>
    unfold fJoin at h2
    simp only [e3] at h2
    rw [e3] at sy
    obtain ⟨ys, e4, h3, h5⟩ := oP_some h2
    obtain ⟨p, us, rfl, e1, e2⟩ := sy
    rw [strs_v e2 e4] at e1
    refine ⟨a, p, ys, rfl, rfl, .inr e1, h3, ?_⟩
    rw [TL.join_eq]
    exact ops_val ok2 (P := fun z => P z w2.own) kk h5 (dt_str.mpr rfl)
  | non => unfold fJoin at h2; simp only [e3] at h2
  | bl _ => unfold fJoin at h2; simp only [e3] at h2
  | int _ => unfold fJoin at h2; simp only [e3] at h2
  | str _ => unfold fJoin at h2; simp only [e3] at h2
  | ty _ => unfold fJoin at h2; simp only [e3] at h2
  | kls _ => unfold fJoin at h2; simp only [e3] at h2
  | ref _ => unfold fJoin at h2; simp only [e3] at h2
  | dct _ => unfold fJoin at h2; simp only [e3] at h2
/-! f-strings -/
def aFmt (te : ATE) : ATE := fun env own P => te env own fun d o => match d with
  | .str y => y.length ≤ sizeLine ∧ P (.str y) o
  | .int i => i.natAbs.log2 < 1920 ∧ P (.str (toString i)) o
  | _ => False
theorem ae_fmt (he : AE X w0 e te) : AE X w0 (.FormattedValue e (-1) none pos) (aFmt te) := pe_of (pe_fmt he) fun σ H Q h => by
  obtain ⟨env, w, rfl, ok, tr0, er, P, h, k⟩ := h
  refine ⟨env, w, rfl, ok, tr0, er, _, h, fun d w1 x h1 t1 ok1 dx => ?_⟩
  match d, h1, dx with
  | .str y, h1, dx => exact .inl ⟨y, dt_str.mp dx, h1.1, k _ w1 _ h1.2 t1 ok1 (dt_str.mpr rfl)⟩
  | .int i, h1, dx => exact .inr ⟨i, dt_int.mp dx, h1.1, k _ w1 _ h1.2 t1 ok1 (dt_str.mpr rfl)⟩
def aJs : List ATE → Str → AEnv → Own → (Str → Own → Prop) → Prop
  | [], acc, _, own, P => P acc own
  | t :: ts, acc, env, own, P => t env own fun d o => match d with
    | .str y => (acc ++ y).length ≤ sizeLine ∧ aJs ts (acc ++ y) env o P
    | _ => False
inductive AJ (X : Cx) (w0 : Wd) : List Expr → List ATE → Prop where
  | nil : AJ X w0 [] []
  | cons {e : Expr} {t : ATE} {es : List Expr} {ts : List ATE} (h : AE X w0 e t) (r : AJ X w0 es ts) : AJ X w0 (e :: es) (t :: ts)
theorem AJ.pj : ∀ {es : List Expr} {ts : List ATE}, AJ X w0 es ts → PJ X es (ts.map (concE X.K w0))
  | _, _, .nil => .nil
  | _, _, .cons h r => .cons h r.pj
theorem js_of {Q : Str → Hp → Prop} {env : AEnv} {σ : L2.St} {w : Wd} : ∀ {ts : List ATE} {acc : Str} {w1 : Wd} {P : Str → Own → Prop}, w1.Ok X.K → Tr w w1 → Tr w0 w1 → EnvR X.K w1.G env σ → aJs ts acc env w1.own P →
    (∀ z (w' : Wd), P z w'.own → Tr w w' → w'.Ok X.K → Q z w'.H) → tJs (ts.map (concE X.K w0)) acc σ w1.H Q
  | [], acc, w1, P, ok1, t1, tr, er, h, k => k acc w1 h t1 ok1
  | t :: ts, acc, w1, P, ok1, t1, tr, er, h, k => by
    refine ⟨env, w1, rfl, ok1, tr, er, _, h, fun d w2 x h2 t2 ok2 dx => ?_⟩
    match d, h2, dx with
    | .str y, h2, dx => exact ⟨y, dt_str.mp dx, h2.1, js_of ok2 (t1.trans t2) (tr.trans t2) (er.mono t2.gs) h2.2 k⟩
def aJoined (ts : List ATE) : ATE := fun env own P => aJs ts Str.empty env own fun z o => P (.str z) o
theorem ae_joined {v1 v2 : Expr} {rest : List Expr} {ts : List ATE} (h : AJ X w0 (v1 :: v2 :: rest) ts) : AE X w0 (.JoinedStr (v1 :: v2 :: rest) pos) (aJoined ts) := pe_of (pe_joined h.pj) fun σ H Q h => by
  obtain ⟨env, w, rfl, ok, tr0, er, P, h, k⟩ := h
  exact js_of ok (Tr.refl w) tr0 er h fun z w' hz t' ok' => k (.str z) w' _ hz t' ok' (dt_str.mpr rfl)
theorem ae_joined1 (h : AE X w0 e te) : AE X w0 (.JoinedStr [e] pos) te := pe_joined1 h
end

/-! ### lists of one's own -/
/-- the thing is a list of one's own -/
def ownL (own : Own) (d : D) (k : Addr → List D → Prop) : Prop := ∃ p ds, d = .ref p ∧ own p = some (.lst ds) ∧ k p ds
theorem ownL_ok {K : PySem.W.Frag} {w : Wd} (ok : w.Ok K) {p : Addr} {ds : List D} (h : w.own p = some (.lst ds)) : ∃ vs, w.H p = some (.lst vs) ∧ Dts K w.G ds vs := by
  obtain ⟨_, o, e1, e2⟩ := ok.own p _ h
  cases o <;> first | exact (e2 : False).elim | skip
  exact ⟨_, e1, e2⟩
def aApp (to te : ATE) : ATE := fun env own P => to env own fun d o1 => ownL o1 d fun _ _ => te env o1 fun e o2 => ownL o2 d fun p ds => ds.length < sizeLine ∧ P .non (oset o2 p (.lst (ds ++ [e])))
def aPop (to : ATE) : ATE := fun env own P => to env own fun d o1 => ownL o1 d fun p ds => ∃ x, ds[ds.length - 1]? = some x ∧ P x (oset o1 p (.lst ds.dropLast))
theorem dts_dropLast {K : PySem.W.Frag} {G : Hp} {ds : List D} {vs : List V} (h : Dts K G ds vs) : Dts K G ds.dropLast vs.dropLast := by
  rw [List.dropLast_eq_take, List.dropLast_eq_take, h.length]; exact h.take _
section
variable {X : Cx} {w0 : Wd} {o e : Expr} {to te : ATE} {pos apos : Pos}
theorem ae_append (ho : AE X w0 o to) (he : AE X w0 e te) (hbase : attributeBase o "append" X.env (eval o X.env) = eval o X.env := by rfl)
    (hfew : ((backTo pos (starEach (e :: []) X.env)).all (fun x => !x.1) && (backToKw pos (keywordEach [] X.env)).all (fun x => x.1.isSome)
      && decide ((e :: []).length + ([] : List Keyword).length + (if ([] : List Keyword).isEmpty then 0 else 1) < 30)) = true := by rfl)
    (hline : (apos.endLine == pos.line) = true := by rfl) (hs : starEach (e :: []) X.env = (false, eval e X.env) :: starEach [] X.env := by rfl) (hplain : (backTo pos (starEach [] X.env)).any (·.1) = false := by rfl) :
    AE X w0 (.Call (.Attribute o "append" apos) [e] [] pos) (aApp to te) := pe_of (pe_bm PySem.F.plainAttrs_list PySem.F.slot_list_append PySem.F.type_list_append mt_append ho (pa_cons he pa_nil hs) hbase hfew hline hs hplain) fun σ H Q h => by
  obtain ⟨env, w, rfl, ok, tr0, er, P, h, k⟩ := h
  refine ⟨env, w, rfl, ok, tr0, er, _, h, fun d w1 x h1 t1 ok1 dx => ?_⟩
  obtain ⟨p, ds0, rfl, e1, h1⟩ := h1
  have ex := dt_ref.mp dx
  subst ex
  obtain ⟨us, a1, a2⟩ := ownL_ok ok1 e1
  refine ⟨.inl ⟨rfl, us, .of a1⟩, env, w1, rfl, ok1, tr0.trans t1, er.mono t1.gs, _, h1, fun d2 w2 y h2 t2 ok2 dy => ?_⟩
  obtain ⟨q, ds, e2, e3, hz, h3⟩ := h2
  cases e2
  obtain ⟨vs, b1, b2⟩ := ownL_ok ok2 e3
  refine ⟨p, vs, y, rfl, rfl, b1, by rw [b2.length]; exact hz, ?_⟩
  have r : MoR X.K w2.G (.lst (ds ++ [d2])) (.lst (vs ++ [y])) := b2.snoc dy
  obtain ⟨ok3, t3⟩ := ok2.mine (.inr ⟨_, e3⟩) (show SzOk (.lst (vs ++ [y])) by show (vs ++ [y]).length ≤ sizeLine; rw [List.length_append, b2.length]; exact hz) r
  exact k .non _ .non h3 ((t1.trans t2).trans t3) ok3 (dt_non.mpr rfl)
theorem ae_pop (ho : AE X w0 o to) (hbase : attributeBase o "pop" X.env (eval o X.env) = eval o X.env := by rfl) (hline : (apos.endLine == pos.line) = true := by rfl) :
    AE X w0 (.Call (.Attribute o "pop" apos) [] [] pos) (aPop to) := pe_of (pe_bm0 PySem.F.plainAttrs_list PySem.F.slot_list_pop PySem.F.type_list_pop mt_pop ho hbase hline) fun σ H Q h => by
  obtain ⟨env, w, rfl, ok, tr0, er, P, h, k⟩ := h
  refine ⟨env, w, rfl, ok, tr0, er, _, h, fun d w1 x h1 t1 ok1 dx => ?_⟩
  obtain ⟨p, ds, rfl, e1, z, e2, h1⟩ := h1
  have ex := dt_ref.mp dx
  subst ex
  obtain ⟨us, a1, a2⟩ := ownL_ok ok1 e1
  obtain ⟨v, b1, b2⟩ := a2.get e2
  refine ⟨.inl ⟨rfl, us, .of a1⟩, p, us, v, rfl, rfl, a1, by rw [a2.length]; exact b1, ?_⟩
  have r : MoR X.K w1.G (.lst ds.dropLast) (.lst us.dropLast) := dts_dropLast a2
  have hz := ok1.sz p _ a1
  obtain ⟨ok3, t3⟩ := ok1.mine (.inr ⟨_, e1⟩) (show SzOk (.lst us.dropLast) by show us.dropLast.length ≤ sizeLine; rw [List.length_dropLast]; exact Nat.le_trans (Nat.sub_le _ _) hz) r
  exact k z _ v h1 (t1.trans t3) ok3 (b2.mono t3.gs)
/-- xs[i] = .. -/
def gSubL (to ti : ATE) : ATG := fun d env own P => to env own fun x o1 => ti env o1 fun y o2 => ∃ i, y = .int i ∧ ownL o2 x fun p ds => ∃ j, ixN ds.length i = some j ∧ P env (oset o2 p (.lst (ds.set j d)))
variable {i : Expr} {ti : ATE}
theorem ag_sub {vs : List Nat} (ho : AE X w0 o to) (hi : AE X w0 i ti) (ha : ∀ v, assign (.Subscript o i pos) X.env v = (do
      let ov ← holding [v] (eval o X.env)
      let iv ← holding [v, ov] (eval i X.env)
      standAt pos
      holding [v, ov, iv] (setItem ov iv v)
      release [v, ov, iv] []) := by intro _; rfl) : AG X w0 vs (.Subscript o i pos) (gSubL to ti) := pg_of (pg_sub ho hi set_list ha) fun v σ H Q h => by
  obtain ⟨env, w, rfl, ok, tr0, er, d, P, dv, h, k⟩ := h
  refine ⟨env, w, rfl, ok, tr0, er, _, h, fun x w1 vx h1 t1 ok1 dx => ?_⟩
  refine ⟨env, w1, rfl, ok1, tr0.trans t1, er.mono t1.gs, _, h1, fun y w2 vy h2 t2 ok2 dy => ?_⟩
  obtain ⟨n, rfl, p, ds, rfl, e1, j, e2, h3⟩ := h2
  obtain ⟨us, a1, a2⟩ := ownL_ok ok2 e1
  refine ⟨p, us, n, j, dt_ref.mp dx, dt_int.mp dy, a1, by rw [a2.length]; exact e2, ?_⟩
  have T2 := t1.trans t2
  have r : MoR X.K w2.G (.lst (ds.set j d)) (.lst (us.set j v)) := Dts.set j a2 (dv.mono T2.gs)
  have hz := ok2.sz p _ a1
  obtain ⟨ok3, t3⟩ := ok2.mine (.inr ⟨_, e1⟩) (show SzOk (.lst (us.set j v)) by show (us.set j v).length ≤ sizeLine; rw [List.length_set]; exact hz) r
  exact k env _ σ h3 (T2.trans t3) ok3 ((er.mono T2.gs).mono t3.gs) (Only.refl _ _)
end

/-! ### written dicts with text keys -/
def tabV (K : PySem.W.Frag) : Option D → Option Value → Prop
  | some d, some u => ∃ v, RelV v u ∧ ∀ G, Dt K G d v
  | none, none => True
  | _, _ => False
structure KTab (K : PySem.W.Frag) (w : World) (d : Addr) (tab : Str → Option D) : Prop where
  ex : ∃ (es : Array DictEntry) (n : Nat), K.lookup d = some ⟨.type "dict", none, .dict es n, #[]⟩ ∧ PySem.W.KeysLit w.params es.toList ∧ (d == sysModules) = false ∧ ∀ z, tabV K (tab z) (findBy Value.isStrOf es z)
section
variable {X : Cx} {w0 : Wd} {d : Addr} {tab : Str → Option D}
theorem op_inTab (T : KTab X.K X.w d tab) : OpR X (compareOp .In) (fun x y H Q => ∃ z, x = .str z ∧ y = .ref d ∧ Q (.bl (tab z).isSome) H) := by
  intro pins s σ H x y v u Q I rx ry h
  obtain ⟨z, rfl, rfl, q⟩ := h
  obtain ⟨es, n, e1, e2, e3, e4⟩ := T.ex
  obtain ⟨t, rfl⟩ := rx
  cases ry
  refine wpAny_in_of (PySem.strKind_is X.prog X.w z t) e3 (PySem.W.mapOf_K (prog := X.prog) I.kIn e1 e2) ⟨.bl _, H, I.tok _, ?_, q⟩
  have h4 := e4 z
  cases a : tab z <;> cases b : findBy Value.isStrOf es z <;> rw [a, b] at h4 <;> first | rfl | exact h4.elim
theorem op_notInTab (T : KTab X.K X.w d tab) : OpR X (compareOp .NotIn) (fun x y H Q => ∃ z, x = .str z ∧ y = .ref d ∧ Q (.bl (!(tab z).isSome)) H) := by
  intro pins s σ H x y v u Q I rx ry h
  obtain ⟨z, rfl, rfl, q⟩ := h
  obtain ⟨es, n, e1, e2, e3, e4⟩ := T.ex
  obtain ⟨t, rfl⟩ := rx
  cases ry
  refine wpAny_notIn_of (PySem.strKind_is X.prog X.w z t) e3 (PySem.W.mapOf_K (prog := X.prog) I.kIn e1 e2) ⟨.bl _, H, I.tok _, ?_, q⟩
  have h4 := e4 z
  cases a : tab z <;> cases b : findBy Value.isStrOf es z <;> rw [a, b] at h4 <;> first | rfl | exact h4.elim
theorem ix_tab (T : KTab X.K X.w d tab) : IxR X (fun x y H Q => ∃ z, x = .ref d ∧ y = .str z ∧ oP (tab z) fun r => ∀ v, (∀ G, Dt X.K G r v) → Q v H) := by
  intro value slice pins s σ H x y v u Q I rx ry h hs
  obtain ⟨z, rfl, rfl, h⟩ := h
  obtain ⟨r, er, q⟩ := oP_some h
  obtain ⟨es, n, e1, e2, e3, e4⟩ := T.ex
  obtain rfl : v = Value.ref d := rx
  obtain ⟨t, rfl⟩ := ry
  have hm := PySem.W.mapOf_K (prog := X.prog) (w := X.w) I.kIn e1 e2
  have h4 := e4 z
  rw [er] at h4
  cases b : findBy Value.isStrOf es z with
  | none => rw [b] at h4; exact h4.elim
  | some u0 =>
    rw [b] at h4
    obtain ⟨v0, r0, d0⟩ := h4
    exact tail_any hm.typeIs slot_dict_getitem.lookup (wpAny_getItem_of (PySem.strKind_is X.prog X.w z t) hm b ⟨v0, H, I.tok _, r0, q v0 d0⟩) hs
theorem tab_get (T : KTab X.K X.w d tab) {pins : List (Addr × Obj)} {σ : L2.St} {H : Hp} {s : Shared} {z : Str} {t : Tok} {dv : V} {u : Value} {Q : VK} (I : Inv X pins σ H s) (ru : RelV dv u)
    (q1 : ∀ r, tab z = some r → ∀ v, (∀ G, Dt X.K G r v) → Q v H) (q2 : tab z = none → Q dv H) : wpAny (model X.prog X.w) X.A (call (.builtin "dict.get") [.ref d, .str z t, u]) (EP X pins σ Q) X.xe s := by
  obtain ⟨es, n, e1, e2, e3, e4⟩ := T.ex
  have hm := PySem.W.mapOf_K (prog := X.prog) (w := X.w) I.kIn e1 e2
  refine call_meetsIn PySem.F.slot_dict_get hm.typeIs PySem.F.entry_dict_get (PySem.F.args_dict_get_3 _ _ _) (meets_dict_get_default (strKind X.prog X.w) d (PySem.strKind_is X.prog X.w z t) e3 u) ⟨_, hm, ?_⟩
  have h4 := e4 z
  show EP X pins σ Q ((findBy Value.isStrOf es z).getD u) _
  cases a : tab z with
  | none =>
    rw [a] at h4
    cases b : findBy Value.isStrOf es z with
    | none => exact ⟨dv, H, I.tok _, ru, q2 a⟩
    | some u0 => rw [b] at h4; exact h4.elim
  | some r =>
    rw [a] at h4
    cases b : findBy Value.isStrOf es z with
    | none => rw [b] at h4; exact h4.elim
    | some u0 =>
      rw [b] at h4
      obtain ⟨v0, r0, d0⟩ := h4
      exact ⟨v0, H, I.tok _, r0, q1 r a v0 d0⟩
def fInTab (tab : Str → Option D) (d : Addr) (neg : Bool) : BinF := fun _ x y P => ∃ z, x = .str z ∧ y = .ref d ∧ P (.bl (if neg then !(tab z).isSome else (tab z).isSome))
theorem os_inTab {K : PySem.W.Frag} (neg : Bool) : OpS K (fun x y H Q => ∃ z, x = .str z ∧ y = .ref d ∧ Q (.bl (if neg then !(tab z).isSome else (tab z).isSome)) H) (fInTab tab d neg) := by
  intro w a b x y P Q ok dx dy h k
  obtain ⟨z, rfl, rfl, h⟩ := h
  exact ⟨z, dt_str.mp dx, dt_ref.mp dy, ops_val ok k h (dt_bl.mpr rfl)⟩
variable {a b : Expr} {ta tb : ATE} {pos : Pos}
theorem at_inTab (T : KTab X.K X.w d tab) (ha : AE X w0 a ta) (hb : AE X w0 b tb) (hm : behindInMarks .In b = false := by rfl) : AT X w0 (.Compare a [.In] [b] pos) (aB (aBin (fInTab tab d false) ta tb)) := at_cmp (op_inTab T) (os_inTab false) ha hb hm
theorem at_notinTab (T : KTab X.K X.w d tab) (ha : AE X w0 a ta) (hb : AE X w0 b tb) (hm : behindInMarks .NotIn b = false := by rfl) : AT X w0 (.Compare a [.NotIn] [b] pos) (aB (aBin (fInTab tab d true) ta tb)) := at_cmp (op_notInTab T) (os_inTab true) ha hb hm
def fIxTab (tab : Str → Option D) (d : Addr) : BinF := fun _ x y P => ∃ z, x = .ref d ∧ y = .str z ∧ oP (tab z) P
theorem ae_ixTab (T : KTab X.K X.w d tab) (ha : AE X w0 a ta) (hb : AE X w0 b tb) (hp : PlainIx b := by exact fun _ _ => rfl) : AE X w0 (.Subscript a b pos) (aBin (fIxTab tab d) ta tb) := ae_sub (ix_tab T) (by
  intro w x y vx vy P Q ok dx dy h k
  obtain ⟨z, rfl, rfl, h⟩ := h
  obtain ⟨r, er, h⟩ := oP_some h
  refine ⟨z, dt_ref.mp dx, dt_str.mp dy, ?_⟩
  rw [er]
  exact fun v hv => ops_val ok k h (hv _)) ha hb hp
/-- D.get(x, y) of a written dict -/
def aGetTab (tab : Str → Option D) (te tf : ATE) : ATE := fun env own P => te env own fun x o1 => tf env o1 fun y o2 => ∃ z, x = .str z ∧ P ((tab z).getD y) o2
theorem ae_getTab {x : Str} {e f : Expr} {te tf : ATE} {np apos cpos : Pos} (T : KTab X.K X.w d tab) (hg : Gl X x) (hm : X.mg x = some (.ref d)) (he : AE X w0 e te) (hf : AE X w0 f tf) (m : M2 X (.Name x np) "get" apos e f cpos := by exact ⟨rfl, rfl, rfl, rfl⟩) (hdb : (x == ("__debug__" : Str)) = false := by decide) :
    AE X w0 (.Call (.Attribute (.Name x np) "get" apos) [e, f] [] cpos) (aGetTab tab te tf) := by
  refine ⟨fun pins s σ H Q I h => ?_⟩
  obtain ⟨env, w, rfl, ok, tr0, er, P, h, k⟩ := h
  obtain ⟨es, n, e1, e2, e3, e4⟩ := T.ex
  refine wpAny_Call_method m.base m.few m.line PySem.F.plainAttrs_dict PySem.F.slot_dict_get PySem.F.type_dict_get (ld_glob I hg hm ?_ hdb)
  have hmo := PySem.W.mapOf_K (prog := X.prog) (w := X.w) I.kIn e1 e2
  refine ⟨hmo.typeIs, fun b q => ?_, ?_⟩
  · cases q; exact ⟨_, I.kIn _ _ e1, rfl⟩
  rw [m.trees]
  have A1 := he.run pins s σ w.H (fun vx H1 => ∃ (dx : D) (w1 : Wd), w1.H = H1 ∧ (tf env w1.own fun y o2 => ∃ z, dx = .str z ∧ P ((tab z).getD y) o2) ∧ Tr w w1 ∧ w1.Ok X.K ∧ Dt X.K w1.G dx vx) I
    ⟨env, w, rfl, ok, tr0, er, _, h, fun dx w1 vx h1 t1 ok1 ddx => ⟨dx, w1, rfl, h1, t1, ok1, ddx⟩⟩
  refine Calls.callWith_builtin rfl (Calls.evalArgs_plain (Calls.spliced_cons (thn A1 fun iv s2 ⟨y, H2, I2, ry, dx, w1, e5, h1, t1, ok1, ddx⟩ => ?_)))
  subst e5
  have A2 := hf.run pins s2 σ w1.H (fun vy H2 => ∃ (dy : D) (w2 : Wd), w2.H = H2 ∧ (∃ z, dx = .str z ∧ P ((tab z).getD dy) w2.own) ∧ Tr w1 w2 ∧ w2.Ok X.K ∧ Dt X.K w2.G dy vy) I2
    ⟨env, w1, rfl, ok1, tr0.trans t1, er.mono t1.gs, _, h1, fun dy w2 vy h2 t2 ok2 ddy => ⟨dy, w2, rfl, h2, t2, ok2, ddy⟩⟩
  refine Calls.spliced_cons (thn A2 fun fv s3 ⟨z, H3, I3, rz, dy, w2, e6, h2, t2, ok2, ddy⟩ => Calls.spliced_nil ?_)
  subst e6
  obtain ⟨zz, rfl, h2⟩ := h2
  have ex := dt_str.mp ddx
  subst ex
  obtain ⟨t, rfl⟩ := ry
  refine tab_get T I3 rz (fun r er v hv => ?_) fun er => ?_
  · rw [er] at h2
    exact k r w2 v h2 (t1.trans t2) ok2 (hv _)
  · rw [er] at h2
    exact k dy w2 z h2 (t1.trans t2) ok2 ddy
end
end L3

namespace L3
open PySem PySem.Spec PyProof.Rows L2
/-! ### isinstance -/
def tyN : D → Option String
  | .non => some "NoneType"
  | .bl _ => some "bool"
  | .int _ => some "int"
  | .str _ => some "str"
  | .tup _ => some "tuple"
  | .lst _ => some "list"
  | _ => none
def fIsi : CallF := fun own ds P => match ds with
  | [d, .ty n] => oP (tyN (see own d)) fun m => oP (kitB m n) fun b => P (.bl b)
  | _ => False
theorem tyX_of {K : PySem.W.Frag} {w : Wd} {d : D} {v : V} {m : String} (h : DtV K w d v) (e : tyN d = some m) : TyX K w.H v (.type m) := by
  cases d <;> unfold tyN at e <;> cases e
  case non => have h' : Dt K w.G .non v := h; unfold Dt at h'; subst h'; exact .base .non
  case bl => have h' : Dt K w.G (.bl _) v := h; unfold Dt at h'; subst h'; exact .base (.bl _)
  case int => have h' : Dt K w.G (.int _) v := h; unfold Dt at h'; subst h'; exact .base (.int _)
  case str => have h' : Dt K w.G (.str _) v := h; unfold Dt at h'; subst h'; exact .base (.str _)
  case tup =>
    obtain ⟨a, vs, rfl, e2, _⟩ := h
    rcases e2 with (e2 | ⟨o, e2⟩) | ⟨o, its, n, e1, e2, _⟩
    · exact .base (.tup e2)
    · exact .fTuple e2
    · exact .kTuple e1 e2
  case lst =>
    obtain ⟨a, vs, rfl, e2, _⟩ := h
    rcases e2 with e2 | ⟨o, e2⟩
    · exact .base (.lst e2)
    · exact .base (.frz e2)
theorem cs_isi {K : PySem.W.Frag} : CallS K (rIsi K) fIsi := by
  intro w ds xs P Q ok dv h k
  unfold fIsi at h
  split at h
  · rename_i d n
    obtain ⟨v, u, rfl, d1, d2⟩ := dts_two dv
    obtain ⟨m, e1, h⟩ := oP_some h
    obtain ⟨b, e2, h⟩ := oP_some h
    have d2' := dt_ty.mp d2
    subst d2'
    exact ⟨v, .ty n, .type m, .type n, b, rfl, .ty n, tyX_of (see_ok ok d1) e1, kit_ty e2, k _ w _ h rfl (Tr.refl w) ok (by unfold Dt; rfl)⟩
  · exact h.elim
section
variable {X : Cx} {w0 : Wd} {e : Expr} {es : List Expr} {ta : ATA} {x : Str} {p pos : Pos}
theorem ae_ty (n : String) (hg : Gl X x) (hm : X.mg x = none) (hv : bootBuiltins x = some (.type n)) (hn : x ≠ "__name__" := by decide) (hd : (x == ("__debug__" : Str)) = false := by decide) : AE X w0 (.Name x p) (aC (.ty n)) := pe_of (pe_bltn (v := .ty n) hg hm hv rfl hn hd) fun σ H Q h => by
  obtain ⟨env, w, rfl, ok, tr0, er, P, h, k⟩ := h
  exact k _ w _ h (Tr.refl w) ok (by unfold Dt; rfl)
theorem ae_isi (hg : Gl X "isinstance") (hm : X.mg "isinstance" = none) (ha : AA X w0 (e :: es) ta) (he : starEach (e :: es) X.env = (false, eval e X.env) :: starEach es X.env := by rfl) (hpl : (backTo pos (starEach es X.env)).any (·.1) = false := by rfl) : AE X w0 (.Call (.Name "isinstance" p) (e :: es) [] pos) (aFn fIsi ta) :=
  ae_callB call_isi cs_isi hg hm rfl ha (he := he) (hpl := hpl)
end
/-! ### calls with keywords -/
section
variable {X : Cx} {w0 : Wd} {e : Expr} {kws : List Keyword} {nm : Option Str} {kpos : Pos} {te : ATE} {tr : ATA}
abbrev AK (X : Cx) (w0 : Wd) (kws : List Keyword) (t : ATA) : Prop := PK X kws (concA X.K w0 t)
theorem ak_nil : AK X w0 [] aNil := ⟨fun pos pins s σ H Q I h => pk_nil.run pos pins s σ H Q I (by
  obtain ⟨env, w, rfl, ok, tr0, er, P, h, k⟩ := h
  exact k [] w [] h (Tr.refl w) ok .nil)⟩
theorem ak_cons (ha : AE X w0 e te) (hr : AK X w0 kws tr) : AK X w0 (⟨nm, e, kpos⟩ :: kws) (aCons te tr) := ⟨fun pos pins s σ H Q I h => (pk_cons ha hr).run pos pins s σ H Q I (by
  obtain ⟨env, w, rfl, ok, tr0, er, P, h, k⟩ := h
  refine ⟨env, w, rfl, ok, tr0, er, _, h, fun d w1 x h1 t1 ok1 dx => ?_⟩
  exact ⟨env, w1, rfl, ok1, tr0.trans t1, er.mono t1.gs, _, h1, fun ds w2 vs h2 t2 ok2 dv => k (d :: ds) w2 (x :: vs) h2 (t1.trans t2) ok2 (.cons (dx.mono t2.gs) dv)⟩)⟩
end
/-- the def of this name keeps its promise, called with keywords ks behind n values -/
structure KnK (P : Program) (w : World) (K : PySem.W.Frag) (mg : Str → Option Value) (base : Heap) (k : Nat) (x : Str) (ps : List Str) (n : Nat) (ks : List Str) (S : Spec) : Prop where
  ex : ∃ (f : Addr) (fd : FuncData), mg x = some (.ref f) ∧ PySem.W.keepIn K (.ref f) = true ∧ n + ks.length = ps.length ∧ (∀ (s : Shared) (us ws : List Value), us.length = n → ws.length = ks.length → BindsTo s fd ⟨us, ks.zip ws⟩ (ps.zip (us ++ ws))) ∧ FnG P w K mg base CX0 k f fd ps (spOf K S)
theorem KnK.mono {P : Program} {w : World} {K : PySem.W.Frag} {mg : Str → Option Value} {base : Heap} {k j : Nat} {x : Str} {ps : List Str} {n : Nat} {ks : List Str} {S : Spec} (F : KnK P w K mg base j x ps n ks S) (h : j ≤ k) : KnK P w K mg base k x ps n ks S :=
  let ⟨f, fd, a, b, c, d, g⟩ := F.ex
  ⟨f, fd, a, b, c, d, g.mono h⟩
def aCallK (S : Spec) (n m : Nat) (ta tk : ATA) : ATE := fun env own P => ta env own fun ds o => tk env o fun zs o2 => ds.length = n ∧ zs.length = m ∧ S (ds ++ zs) o2 P
section
variable {X : Cx} {w0 : Wd} {k n m : Nat} {x : Str} {ps ks : List Str} {S : Spec} {e : Expr} {es : List Expr} {kws : List Keyword} {ta tk : ATA} {p pos : Pos}
theorem runK {pins : List (Addr × Obj)} {σ : L2.St} {H : Hp} {s : Shared} {Q : VK} {us ws : List Value} {vs zs : List V} {f : Addr} {fd : FuncData} {sp : Sp} (F : FnG X.prog X.w X.K X.mg X.base CX0 k f fd ps sp) (hr : Room k X.A) (hgd : X.A.guards = some [])
    (hb : BindsTo s fd ⟨us, ks.zip ws⟩ (ps.zip (us ++ ws))) (I : Inv X pins σ H s) (r : Vals vs us) (rz : Vals zs ws) (h : sp (vs ++ zs) H Q E0) : wpAny (model X.prog X.w) X.A (call (.ref f) us (ks.zip ws)) (EP X pins σ Q) X.xe s := by
  refine wpAny_call (codeAny_mono (F.run X.A X.stack s H _ (us ++ ws) (vs ++ zs) Q E0 hr hgd I.env0 hb (r.append rz) h) fun y s' hq => ?_)
  match y, hq with
  | .error e, hq => exact pass0 pins σ H s e s' I hq
  | .ok (.ret u), hq => exact I.after hq
/-- f(e, .., k = v, ..) -/
theorem ae_callK (F : KnK X.prog X.w X.K X.mg X.base k x ps n ks S) (hr : Room k X.A) (hgd : X.A.guards = some []) (hg : Gl X x) (ha : AA X w0 (e :: es) ta) (hkw : AK X w0 kws tk) (hks : (backToKw pos (keywordEach kws X.env)).filterMap (·.1) = ks := by rfl)
    (hall : (backToKw pos (keywordEach kws X.env)).all (·.1.isSome) = true := by rfl) (hm : ks.length = m := by rfl)
    (hdb : (x == ("__debug__" : Str)) = false := by decide) (he : starEach (e :: es) X.env = (false, eval e X.env) :: starEach es X.env := by rfl)
    (hpl : ((backTo pos (starEach (e :: es) X.env)).any (·.1) || (backToKw pos (keywordEach kws X.env)).any (·.1.isNone)) = false := by rfl) :
    AE X w0 (.Call (.Name x p) (e :: es) kws pos) (aCallK S n m ta tk) := by
  subst hm
  obtain ⟨f, fd, hm, hk, hn, hb, G⟩ := F.ex
  refine ⟨fun pins s σ H Q I h => ?_⟩
  obtain ⟨env, w, rfl, ok, tr0, er, P, h, kk⟩ := h
  refine wpAny_Call_Name_kw (ld_glob I hg hm ?_ hdb)
  refine PySem.W.callWith_KW (h₀ := X.base) I.ok.mod.kin hk hall (thn (ha.run pos pins s σ w.H (fun vs H1 => concA X.K w0 tk σ H1 fun zs H2 => vs.length = n ∧ zs.length = ks.length ∧ spOf X.K S (vs ++ zs) H2 Q E0) I ⟨env, w, rfl, ok, tr0, er, _, h, fun ds w1 vs h1 t1 ok1 dv => ?_⟩) fun us s1 ⟨vs, H1, I1, r, q⟩ => ?_) hpl he
  · refine ⟨env, w1, rfl, ok1, tr0.trans t1, er.mono t1.gs, _, h1, fun zs w2 us h2 t2 ok2 dz => ⟨by rw [dv.length]; exact h2.1, by rw [dz.length]; exact h2.2.1, ds ++ zs, w2, P, rfl, ok2, (dv.mono t2.gs).append dz, h2.2.2, fun d w3 v h3 t3 ok3 d3 => kk d w3 v h3 ((t1.trans t2).trans t3) ok3 d3⟩⟩
  · refine thn (hkw.run pos pins s1 σ H1 _ I1 q) fun ws s2 ⟨zs, H2, I2, rz, l1, l2, q2⟩ => ⟨I2.kIn, ?_⟩
    rw [hks]
    exact runK G hr hgd (hb s2 us ws (r.length.symm.trans l1) (rz.length.symm.trans l2)) I2 r rz q2
/-- f(k = v, ..) -/
theorem ae_callK0 (F : KnK X.prog X.w X.K X.mg X.base k x ps 0 ks S) (hr : Room k X.A) (hgd : X.A.guards = some []) (hg : Gl X x) (hkw : AK X w0 kws tk) (hks : (backToKw pos (keywordEach kws X.env)).filterMap (·.1) = ks := by rfl)
    (hall : (backToKw pos (keywordEach kws X.env)).all (·.1.isSome) = true := by rfl)
    (hdb : (x == ("__debug__" : Str)) = false := by decide)
    (hpl : ((backTo pos (starEach [] X.env)).any (·.1) || (backToKw pos (keywordEach kws X.env)).any (·.1.isNone)) = false := by rfl) :
    AE X w0 (.Call (.Name x p) [] kws pos) (aCall S [] tk) := by
  obtain ⟨f, fd, hm, hk, hn, hb, G⟩ := F.ex
  refine ⟨fun pins s σ H Q I h => ?_⟩
  obtain ⟨env, w, rfl, ok, tr0, er, P, h, kk⟩ := h
  refine wpAny_Call_Name_kw (ld_glob I hg hm ?_ hdb)
  refine PySem.W.callWith_KW0 (h₀ := X.base) I.ok.mod.kin hk hall (thn (hkw.run pos pins s σ w.H (fun zs H2 => zs.length = ks.length ∧ spOf X.K S ([] ++ zs) H2 Q E0) I ⟨env, w, rfl, ok, tr0, er, _, h, fun zs w2 us h2 t2 ok2 dz => ?_⟩) fun ws s2 ⟨zs, H2, I2, rz, l2, q2⟩ => ⟨I2.kIn, ?_⟩) hpl
  · have hs : spOf X.K S us w2.H Q E0 := ⟨zs ++ [], w2, P, rfl, ok2, by rw [List.append_nil]; exact dz, h2, fun d w3 v h3 t3 ok3 d3 => kk d w3 v h3 (t2.trans t3) ok3 d3⟩
    refine ⟨?_, hs⟩
    have := G.len _ _ _ _ hs
    omega
  · rw [hks]
    exact runK (us := []) (vs := []) G hr hgd (hb s2 [] ws rfl (rz.length.symm.trans l2)) I2 .nil rz q2
end
/-! ### the law's own head -/
theorem dts_script {K : PySem.W.Frag} {G : Hp} : ∀ (ns : List Int), Dts K G (ns.map D.int) (ns.map V.int)
  | [] => .nil
  | i :: ns => .cons (by unfold Dt; rfl) (dts_script ns)
theorem law_callG {P : Program} {w : World} {K : PySem.W.Frag} {mg mb : Str → Option Value} {k : Nat} {fa a : Addr} {fd : FuncData} {x : Str} {S : Spec} {s₁ : Shared} {vs : List Value} {ns : List Int}
    (KX : K.In s₁.heap) (hns : s₁.heap.Ns mainGlobals mg) (hb : s₁.heap.Ns builtinsNs mb) (hbb : ∀ x : Str, x ≠ "__name__" → mb x = bootBuiltins x) (hlim : s₁.heap.NoLimit) (hg : s₁.gens = #[])
    (ha : s₁.heap.get? a = some { cls := .type "list", data := .seq vs.toArray }) (hi : IntsAre vs ns) (hl : ns.length ≤ sizeLine) (hr : Room k callerA)
    (F : ∀ base : Heap, K.In base → base.Ns mainGlobals mg → FnG P w K mg base CX0 k fa fd [x] (spOf K S)) (hbind : ∀ (s : Shared) (u : Value), BindsTo s fd ⟨[u], []⟩ [(x, u)])
    (hS : S [.kls (ns.map D.int)] (fun _ => none) fun d _ => d = .bl true) :
    codeAny (model P w) callerA (.call (.ref fa) ⟨[.ref a], []⟩) (fun r s' => r = .ok (.ret (.bool true)) ∧ OldK s₁.heap s'.heap ∧ s'.os = s₁.os ∧ AllBare s'.gens) s₁ := by
  have rv := vals_ints hi
  have lenV := hi.length
  have main : ∀ H : Hp, (∀ b u, H b = some u → b = a ∧ K.lookup a = none ∧ u = .frz { cls := .type "list", data := .seq vs.toArray } (.lst (ns.map V.int))) → SqL K H a (ns.map V.int) →
      codeAny (model P w) callerA (.call (.ref fa) ⟨[.ref a], []⟩) (fun r s' => r = .ok (.ret (.bool true)) ∧ OldK s₁.heap s'.heap ∧ s'.os = s₁.os ∧ AllBare s'.gens) s₁ := by
    intro H hH hq
    have hok : HOk P w H s₁.heap := fun b u e => by
      obtain ⟨rfl, _, rfl⟩ := hH b u e
      exact ⟨ha, by rw [List.length_map]; exact hl, vs, _, rv, ha⟩
    have no : ∀ {b : Addr} {o : Obj}, s₁.heap.get? b = some o → (b = a → K.lookup a = none → False) → (hidT s₁.heap H).get? b = some o := fun {b o} e n => hidT_get e (by
      cases q : H b with
      | none => rfl
      | some u => obtain ⟨z1, z2, _⟩ := hH b u q; exact (n z1 z2).elim)
    have nsK : ∀ {b : Addr} {m : Str → Option Value}, s₁.heap.Ns b m → (hidT s₁.heap H).Ns b m := fun {b m} ⟨o, es, ep, e, d, r⟩ => ⟨o, es, ep, no e (fun z _ => by
      subst z; rw [ha] at e; cases e
      have d' : Data.seq vs.toArray _ = Data.dict es ep := d
      cases d'), d, r⟩
    have hKb : K.In (hidT s₁.heap H) := fun b o e => no (KX b o e) fun z z2 => by rw [z, z2] at e; cases e
    have e0 : Env0 P w K mg (hidT s₁.heap H) callerA [] s₁ H := ⟨rfl, ⟨hKb, nsK hns, ⟨mb, nsK hb, hbb⟩, let ⟨mc, h1, h2⟩ := hlim; ⟨mc, nsK h1, h2⟩⟩, fun b o e => of_hidT e, Nat.le_of_eq (hidT_size _ _), trivial, fun b hb => absurd (show b ∈ ([] : List Addr) from hb) (by simp), hok, .of_eq hg⟩
    let W : Wd := ⟨fun _ => none, H, H⟩
    have okW : W.Ok K := ⟨Sub.refl _, fun p m e => (by cases (show (none : Option MO) = some m from e)), fun b u e => by
      obtain ⟨_, _, rfl⟩ := hH b u e
      show (ns.map V.int).length ≤ sizeLine
      rw [List.length_map]; exact hl⟩
    have sp : spOf K S [.ref a] H (fun v _ => v = .bl true) E0 := ⟨[.kls (ns.map D.int)], W, _, rfl, okW, .cons (by unfold Dt; exact ⟨a, _, rfl, hq, dts_script ns⟩) .nil, hS, fun d w' v hd _ _ dv => by subst hd; exact dt_bl.mp dv⟩
    refine codeAny_mono ((F _ hKb (nsK hns)).run callerA [] s₁ H ⟨[.ref a], []⟩ [.ref a] [.ref a] _ _ hr rfl e0 (hbind s₁ (.ref a)) (.cons rfl .nil) sp) fun r s' h => ?_
    match r, h with
    | .error e, h => exact (h : False).elim
    | .ok (.ret u), h =>
      obtain ⟨v, H', os, bare, un, hok', r', q⟩ := h
      have q' : v = .bl true := q
      subst q'
      obtain rfl : u = Value.bool true := r'
      refine ⟨rfl, OldK.of_keep fun b o e => ?_, os, bare⟩
      cases q : H b with
      | none => exact un.keep b o e q (fun z => absurd (show b ∈ ([] : List Addr) from z) (by simp)) (by simp)
      | some u =>
        obtain ⟨rfl, _, rfl⟩ := hH b u q
        have z2 := un.frzs b _ _ q
        obtain ⟨e2, _⟩ := hok' b _ z2
        rw [ha] at e; cases e
        exact e2
  cases hk : K.lookup a with
  | some o =>
    have e := KX a o hk
    rw [ha] at e
    cases e
    exact main (fun _ => none) (fun b u z => (by cases (show (none : Option HO) = some u from z))) (.inr ⟨_, vs.toArray, _, hk, rfl, rfl, rfl, by rw [List.size_toArray, lenV]; exact hl, by simpa using rv⟩)
  | none =>
    refine main (fun b => if b = a then some (.frz { cls := .type "list", data := .seq vs.toArray } (.lst (ns.map V.int))) else none) (fun b u z => ?_) (.inl (.inr ⟨{ cls := .type "list", data := .seq vs.toArray }, if_pos rfl⟩))
    by_cases hb : b = a
    · have z' := (if_pos hb).symm.trans z
      cases z'
      exact ⟨hb, hk, rfl⟩
    · exact absurd ((if_neg hb).symm.trans z) (by simp)
/-- the law's def: it answers True at every script of so many ints -/
def spLaw (n : Nat) : Spec := fun ds own P => ∃ ns : List Int, ds = [.kls (ns.map D.int)] ∧ ns.length ≤ n ∧ own = (fun _ => none) ∧ ∀ d o, d = .bl true → P d o
theorem walkG {l : PySem.W.OpenLaw} {n k : Nat} {q : Program} {loose : List Str} {XP : (Str → Option Value) → Heap → Prop} {YP : World → Heap → Prop} {d : DefRec} {K : Params → PySem.W.Frag} {x : Str}
    (hn : l.most = some n) (hn2 : n ≤ sizeLine) (hdf : d.params.defaults = []) (hr : Room k callerA)
    (hY : ∀ (w : World) (h : Heap), YP w h → (K w.params).In h)
    (F : ∀ (w : World) (mg : Str → Option Value) (fa : Addr) (h : Heap), (K w.params).In h → h.Ns mainGlobals mg → mg d.name = some (.ref fa) →
      ∃ fd : FuncData, (∀ (s : Shared) (u : Value), BindsTo s fd ⟨[u], []⟩ [(x, u)]) ∧
        ∀ base : Heap, (K w.params).In base → base.Ns mainGlobals mg → FnG l.prog w (K w.params) mg base CX0 k fa fd [x] (spOf (K w.params) (spLaw n))) :
    PySem.W.WalkO q loose XP YP l.row.toRowW d [] (fun f vs => PySem.call f vs) := by
  refine Att.attach_call hn hdf fun w s₀ s₁ mg mb fa o pm cd doc a vs ns G Y ho hd hcd hmg hobj hints hlen hg => ?_
  obtain ⟨fd, hb, hF⟩ := F w mg fa _ (hY w _ Y) G.T.g hmg
  exact law_callG (hY w _ Y) G.T.g G.T.b G.T.builtins G.T.nolimit hg hobj hints (Nat.le_trans hlen hn2) hr hF hb ⟨ns, rfl, hlen, rfl, fun _ _ h => h⟩
end L3

namespace L3
open PySem PySem.Spec PyProof.Rows L2
/-! ### a dict that is written down in a def: texts by texts; its items -/
def sTab (kv : List (Str × Str)) : List (Key × V) := kv.map fun p => (.inr p.1, .str p.2)
def dTab (kv : List (Str × Str)) : List (D × D) := kv.map fun p => (.str p.1, .str p.2)
def tTab (kv : List (Str × Str)) : List (TE × TE) := kv.map fun p => (tC (.str p.1), tC (.str p.2))
def lookT : List (Str × Str) → Str → Option Str
  | [], _ => none
  | (k, v) :: r, z => if k = z then some v else lookT r z
theorem tPairs_tab {σ : L2.St} {H : Hp} : ∀ (kv : List (Str × Str)) {Q : List (V × V) → Hp → Prop}, Q (kv.map fun p => (V.str p.1, V.str p.2)) H → tPairs (tTab kv) σ H Q
  | [], _, h => h
  | (k, v) :: r, Q, h => tPairs_tab r (Q := fun ps H3 => Q ((V.str k, V.str v) :: ps) H3) h
theorem dkK_tab {K : PySem.W.Frag} {G : Hp} : ∀ (kv : List (Str × Str)), DkK K G (dTab kv) (sTab kv)
  | [] => by unfold dTab sTab DkK; rfl
  | (k, v) :: r => by
    show DkK K G ((.str k, .str v) :: dTab r) ((.inr k, .str v) :: sTab r)
    unfold DkK
    exact ⟨_, _, _, rfl, rfl, (by unfold Dt; rfl), dkK_tab r⟩
section
variable {X : Cx} {w0 : Wd} {a b : Expr} {ta tb : ATE} {pos : Pos} {keys : List (Option Expr)} {values : List Expr}
theorem ae_dlit (kv : List (Str × Str)) (h : PPs X pos keys values (tTab kv)) (hm : mergeK [] (sTab kv) = sTab kv := by rfl) (hall : keys.all (·.isSome) = true := by rfl) (hl : keys.length = values.length := by rfl) (h0 : keys ≠ [] := by exact fun z => nomatch z)
    (h15 : keys.length ≤ 15 := by decide) (hk : kv.length ≤ 15 := by decide) : AE X w0 (.Dict keys values pos) (aC (.dct (dTab kv))) := pe_of (pe_disp h hall hl h0 h15) fun σ H Q h => by
  obtain ⟨env, w, rfl, ok, tr0, er, P, h, k⟩ := h
  intro p hp
  refine tPairs_tab kv ⟨upd_same, sTab kv, ?_, by unfold sTab; rw [List.length_map]; exact hk, ?_⟩
  · unfold sTab; rw [List.map_map]; rfl
  · rw [hm]
    obtain ⟨ok', t⟩ := ok.frz (o := .dK (sTab kv)) hp True.intro
    have e : upd (upd w.H p (.dK [])) p (.dK (sTab kv)) = (w.frz p (.dK (sTab kv))).H := by
      funext q
      show upd (upd w.H p (.dK [])) p (.dK (sTab kv)) q = upd w.H p (.dK (sTab kv)) q
      by_cases z : q = p
      · subst z; rw [upd_same, upd_same]
      · rw [upd_ne z, upd_ne z, upd_ne z]
    rw [e]
    exact k _ _ _ h t ok' (by unfold Dt; exact ⟨p, rfl, .inl ⟨_, upd_same, dkK_tab kv⟩⟩)
def fIxD (kv : List (Str × Str)) : BinF := fun own d e P => d = .dct (dTab kv) ∧ ∃ z, e = .str z ∧ oP (lookT kv z) fun r => P (.str r)
theorem valV_tab {z r : Str} : ∀ {kv : List (Str × Str)} {es : List (Key × V)} {K : PySem.W.Frag} {G : Hp}, DkK K G (dTab kv) es → lookT kv z = some r → valV es (.inr z : Key) = some (.str r)
  | [], _, _, _, _, h => by unfold lookT at h; cases h
  | (k, v) :: t, es, K, G, d, h => by
    have d' : DkK K G ((.str k, .str v) :: dTab t) es := d
    unfold DkK at d'
    obtain ⟨x, u, er, rfl, e1, e2, e3⟩ := d'
    have ex : x = .inr k := by
      cases x with
      | inl i => cases e1
      | inr y => cases e1; rfl
    subst ex
    unfold Dt at e2; subst e2
    unfold lookT at h
    by_cases q : k = z
    · subst q; rw [if_pos rfl] at h; cases h; exact valV_pos rfl
    · rw [if_neg q] at h
      rw [valV_neg (fun z' => q (by cases z'; rfl))]
      exact valV_tab e3 h
theorem ae_ixD {k : Nat} (kv : List (Str × Str)) (hr : Room k X.A) (ha : AE X w0 a ta) (hb : AE X w0 b tb) (hs : NoSl b := by exact fun _ _ => rfl) : AE X w0 (.Subscript a b pos) (aBin (fIxD kv) ta tb) := pe_of (pe_dget (by have := hr.units; omega) ha hb hs) fun σ H Q h => by
  obtain ⟨env, w, rfl, ok, tr0, er, P, h, kk⟩ := h
  refine ⟨env, w, rfl, ok, tr0, er, _, h, fun d w1 x h1 t1 ok1 dx => ?_⟩
  refine ⟨env, w1, rfl, ok1, tr0.trans t1, er.mono t1.gs, _, h1, fun e w2 y h2 t2 ok2 dy => ?_⟩
  obtain ⟨rfl, z, rfl, h2⟩ := h2
  obtain ⟨r, e1, h2⟩ := oP_some h2
  have dx' := dx.mono t2.gs
  unfold Dt at dx'
  have dy' := dt_str.mp dy
  subst dy'
  obtain ⟨p, rfl, ⟨es, g, dk⟩ | ⟨es, g, dk⟩⟩ := dx'
  · refine ⟨p, .str r, rfl, ?_, kk _ w2 _ h2 (t1.trans t2) ok2 (by unfold Dt; rfl)⟩
    have := DGet.k (H := w2.H) (k := (.inr z : Key)) (ok2.sub p _ g)
    rw [valV_tab dk e1] at this
    exact this
  · cases kv with
    | nil => unfold lookT at e1; cases e1
    | cons q t =>
      have dk' : DkT X.K w2.G ((.str q.1, .str q.2) :: dTab t) es := dk
      unfold DkT at dk'
      obtain ⟨x, u, er, _, e1, _⟩ := dk'
      cases e1
end
end L3

namespace L3
open PySem PySem.Spec PyProof.Rows L2
/-! ### the readings, as simp takes them apart -/
section
variable {env : AEnv} {own : Own} {E : AEnds} {t u tl th : ATE} {ta : ATA} {i j n : Nat} {P : D → Own → Prop} {c c2 : ATT} {s1 s2 : ATS}
@[simp] theorem x_eg0 {x : Option D} {r : AEnv} : eg (x :: r) 0 = x := (rfl)
@[simp] theorem x_egS {x : Option D} {r : AEnv} : eg (x :: r) (i + 1) = eg r i := (rfl)
@[simp] theorem x_v : aV i env own P = (match eg env i with | some d => P d own | none => False) := (rfl)
@[simp] theorem x_c {d : D} : aC d env own P = P d own := (rfl)
@[simp] theorem x_bin {f : BinF} : aBin f t u env own P = t env own fun d o1 => u env o1 fun e o2 => f o2 d e fun z => P z o2 := (rfl)
@[simp] theorem x_un {f : UnF} : aUn f t env own P = t env own fun d o1 => f o1 d fun z => P z o1 := (rfl)
@[simp] theorem x_fn {f : CallF} : aFn f ta env own P = ta env own fun ds o1 => f o1 ds fun z => P z o1 := (rfl)
@[simp] theorem x_B {Q : Bool → Own → Prop} : aB t env own Q = t env own fun d o => match d with | .bl b => Q b o | _ => False := (rfl)
@[simp] theorem x_nil {Q : List D → Own → Prop} : aNil env own Q = Q [] own := (rfl)
@[simp] theorem x_cons {Q : List D → Own → Prop} : aCons t ta env own Q = t env own fun d o => ta env o fun ds o2 => Q (d :: ds) o2 := (rfl)
@[simp] theorem x_tup : aTup ta env own P = ta env own fun ds o => ds.length ≤ sizeLine ∧ P (.tup ds) o := (rfl)
@[simp] theorem x_lst {Q : List D → Own → Prop} : aLst ta env own Q = ta env own fun ds o => ds.length ≤ sizeLine ∧ Q ds o := (rfl)
@[simp] theorem x_fz {tn : ATN} : aFz tn env own P = tn env own fun ds o => P (.lst ds) o := (rfl)
@[simp] theorem x_ow {tn : ATN} : aOw tn env own P = tn env own fun ds o => ∀ p, o p = none → P (.ref p) (oset o p (.lst ds)) := (rfl)
@[simp] theorem x_if : aIf c t u env own P = c env own fun b o => match b with | true => t env o P | false => u env o P := (rfl)
@[simp] theorem x_ifS : aIfS c s1 s2 E env own = c env own fun b o => match b with | true => s1 E env o | false => s2 E env o := (rfl)
@[simp] theorem x_seq : aSeq s1 s2 E env own = s1 { E with nx := s2 E } env own := (rfl)
@[simp] theorem x_next : aNext E env own = E.nx env own := (rfl)
@[simp] theorem x_brk : aBreak E env own = E.bk env own := (rfl)
@[simp] theorem x_cont : aCont E env own = E.ct env own := (rfl)
@[simp] theorem x_drop : aDrop t E env own = t env own fun _ o => E.nx env o := (rfl)
@[simp] theorem x_ret : aRet t E env own = t env own E.rt := (rfl)
@[simp] theorem x_retN : aRetN E env own = E.rt .non own := (rfl)
@[simp] theorem x_asg {g : ATG} : aAsg t g E env own = t env own fun d o => g d env o E.nx := (rfl)
@[simp] theorem x_gN {d : D} {Q : AEnv → Own → Prop} : gN i d env own Q = Q (env.set i (some d)) own := (rfl)
@[simp] theorem x_and {Q : Bool → Own → Prop} : aAnd c c2 env own Q = c env own fun b o => match b with | true => c2 env o Q | false => Q false o := (rfl)
@[simp] theorem x_or {Q : Bool → Own → Prop} : aOr c c2 env own Q = c env own fun b o => match b with | true => Q true o | false => c2 env o Q := (rfl)
@[simp] theorem x_not {Q : Bool → Own → Prop} : aNot c env own Q = c env own fun b o => Q (!b) o := (rfl)
@[simp] theorem x_call {S : L3.Spec} {dvs : List D} : aCall S dvs ta env own P = ta env own fun ds o => S (ds ++ dvs) o P := (rfl)
@[simp] theorem x_callK {S : L3.Spec} {tk : ATA} : aCallK S n i ta tk env own P = ta env own fun ds o => tk env o fun zs o2 => ds.length = n ∧ zs.length = i ∧ S (ds ++ zs) o2 P := (rfl)
@[simp] theorem x_no {Q : Option Int → Own → Prop} : aNo env own Q = Q none own := (rfl)
@[simp] theorem x_so {Q : Option Int → Own → Prop} : aSo t env own Q = t env own fun d o => match d with | .int i => Q (some i) o | _ => False := (rfl)
@[simp] theorem x_sl {l h : ATO} : aSl t l h env own P = t env own fun d o1 => l env o1 fun lo o2 => h env o2 fun hi o3 => fSl0 lo hi (see o3 d) fun z => P z o3 := (rfl)
@[simp] theorem x_fmt : aFmt t env own P = t env own fun d o => match d with | .str y => y.length ≤ sizeLine ∧ P (.str y) o | .int i => i.natAbs.log2 < 1920 ∧ P (.str (toString i)) o | _ => False := (rfl)
@[simp] theorem x_seeI {i : Int} : see own (.int i) = .int i := (rfl)
@[simp] theorem x_seeS {x : Str} : see own (.str x) = .str x := (rfl)
@[simp] theorem x_seeT {x : List D} : see own (.tup x) = .tup x := (rfl)
@[simp] theorem x_seeL {x : List D} : see own (.lst x) = .lst x := (rfl)
@[simp] theorem x_seeK {x : List D} : see own (.kls x) = .kls x := (rfl)
@[simp] theorem x_seeB {x : Bool} : see own (.bl x) = .bl x := (rfl)
@[simp] theorem x_seeN : see own .non = .non := (rfl)
theorem x_seeR {p : Addr} {ds : List D} (h : own p = some (.lst ds)) : see own (.ref p) = .lst ds := by simp only [see, h]
@[simp] theorem x_II {C : Int → Int → Prop} {g : Int → Int → D} {i j : Int} {Q : D → Prop} : fII C g own (.int i) (.int j) Q = (C i j ∧ Q (g i j)) := (rfl)
@[simp] theorem x_ix {d e : D} {Q : D → Prop} : fIx own d e Q = fIx0 (see own d) (see own e) Q := (rfl)
@[simp] theorem x_ixL {ds : List D} {i : Int} {Q : D → Prop} : fIx0 (.lst ds) (.int i) Q = oP (atI ds i) Q := (rfl)
@[simp] theorem x_ixT {ds : List D} {i : Int} {Q : D → Prop} : fIx0 (.tup ds) (.int i) Q = oP (atI ds i) Q := (rfl)
@[simp] theorem x_ixS {z : Str} {i : Int} {Q : D → Prop} : fIx0 (.str z) (.int i) Q = (z.length ≤ sizeLine ∧ oP (atI z.cps.toList i) fun c => Q (.str ⟨#[c]⟩)) := (rfl)
@[simp] theorem x_at0 {α : Type} {a : α} {l : List α} : atI (a :: l) 0 = some a := by simp [atI, ixN]
@[simp] theorem x_at1 {α : Type} {a b : α} {l : List α} : atI (a :: b :: l) 1 = some b := by
  have : (1 : Int) < (l.length : Int) + 1 + 1 := by omega
  simp [atI, ixN, this]
@[simp] theorem x_at2 {α : Type} {a b c : α} {l : List α} : atI (a :: b :: c :: l) 2 = some c := by
  have : (2 : Int) < (l.length : Int) + 1 + 1 + 1 := by omega
  simp [atI, ixN, this]
theorem x_atN {α : Type} {l : List α} {i : Int} (h0 : 0 ≤ i) (h : i < l.length) : ∃ d, atI l i = some d ∧ d ∈ l := by
  have h1 : i.toNat < l.length := by omega
  refine ⟨l[i.toNat], ?_, List.getElem_mem _⟩
  simp [atI, ixN, h0, h, h1]
@[simp] theorem x_oP {α : Type} {a : α} {Q : α → Prop} : oP (some a) Q = Q a := (rfl)
@[simp] theorem x_f1 {g : D → (D → Prop) → Prop} {d : D} {Q : D → Prop} : f1 g own [d] Q = g (see own d) Q := (rfl)
@[simp] theorem x_len {ds : List D} {Q : D → Prop} : gLen (.lst ds) Q = Q (.int ds.length) := (rfl)
@[simp] theorem x_lenT {ds : List D} {Q : D → Prop} : gLen (.tup ds) Q = Q (.int ds.length) := (rfl)
@[simp] theorem x_lenS {z : Str} {Q : D → Prop} : gLen (.str z) Q = (z.length ≤ sizeLine ∧ Q (.int z.length)) := (rfl)
@[simp] theorem x_abs {i : Int} {Q : D → Prop} : gAbs (.int i) Q = Q (.int (if i < 0 then -i else i)) := (rfl)
@[simp] theorem x_int1b {b : Bool} {Q : D → Prop} : gInt1 (.bl b) Q = Q (.int (if b then 1 else 0)) := (rfl)
@[simp] theorem x_list {ds : List D} {Q : D → Prop} : gList (.lst ds) Q = Q (.lst ds) := (rfl)
@[simp] theorem x_listT {ds : List D} {Q : D → Prop} : gList (.tup ds) Q = Q (.lst ds) := (rfl)
@[simp] theorem x_tupleL {ds : List D} {Q : D → Prop} : gTuple (.lst ds) Q = Q (.tup ds) := (rfl)
@[simp] theorem x_add {d e : D} {Q : D → Prop} : fAdd own d e Q = fAdd0 (see own d) (see own e) Q := (rfl)
@[simp] theorem x_addI {i j : Int} {Q : D → Prop} : fAdd0 (.int i) (.int j) Q = Q (.int (i + j)) := (rfl)
@[simp] theorem x_addS {i j : Str} {Q : D → Prop} : fAdd0 (.str i) (.str j) Q = (i.length + j.length ≤ sizeLine ∧ Q (.str (i ++ j))) := (rfl)
@[simp] theorem x_addL {i j : List D} {Q : D → Prop} : fAdd0 (.lst i) (.lst j) Q = (i.length + j.length ≤ sizeLine ∧ Q (.lst (i ++ j))) := (rfl)
@[simp] theorem x_addT {i j : List D} {Q : D → Prop} : fAdd0 (.tup i) (.tup j) Q = (i.length + j.length ≤ sizeLine ∧ Q (.tup (i ++ j))) := (rfl)
@[simp] theorem x_mul {d e : D} {Q : D → Prop} : fMul own d e Q = fMul0 (see own d) (see own e) Q := (rfl)
@[simp] theorem x_mulI {i j : Int} {Q : D → Prop} : fMul0 (.int i) (.int j) Q = (CMulW i j ∧ Q (.int (i * j))) := (rfl)
@[simp] theorem x_mulS {i : Str} {j : Int} {Q : D → Prop} : fMul0 (.str i) (.int j) Q = (j = 0 ∧ Q (.str Str.empty) ∨ j = 1 ∧ Q (.str i)) := (rfl)
@[simp] theorem x_lt {d e : D} {Q : D → Prop} : fLt own d e Q = fLt0 (see own d) (see own e) Q := (rfl)
@[simp] theorem x_ltI {i j : Int} {Q : D → Prop} : fLt0 (.int i) (.int j) Q = Q (.bl (decide (i < j))) := (rfl)
@[simp] theorem x_eq {b : Bool} {d e : D} {Q : D → Prop} : fEq b own d e Q = (eqAsk (see own d) (see own e) ∧ Q (.bl (if b then !deq (see own d) (see own e) else deq (see own d) (see own e)))) := (rfl)
@[simp] theorem x_askS {x y : Str} : eqAsk (.str x) (.str y) = True := (rfl)
@[simp] theorem x_deqS {x y : Str} : deq (.str x) (.str y) = (x == y) := by unfold deq toPy; rfl
@[simp] theorem x_deqI {x y : Int} : deq (.int x) (.int y) = (x == y) := by unfold deq toPy; rfl
@[simp] theorem x_askI {x y : Int} : eqAsk (.int x) (.int y) = True := by simp [eqAsk, eqOk, toPy, PyData.depth]
@[simp] theorem x_in {b : Bool} {d e : D} {Q : D → Prop} : fIn b own d e Q = fIn0 b d (see own e) Q := (rfl)
@[simp] theorem x_inL {b : Bool} {d : D} {ds : List D} {Q : D → Prop} : fIn0 b d (.lst ds) Q = (flatD d = true ∧ ds.all flatD = true ∧ Q (.bl (if b then !hasD d ds else hasD d ds))) := by cases d <;> rfl
@[simp] theorem x_inT {b : Bool} {d : D} {ds : List D} {Q : D → Prop} : fIn0 b d (.tup ds) Q = (flatD d = true ∧ ds.all flatD = true ∧ Q (.bl (if b then !hasD d ds else hasD d ds))) := by cases d <;> rfl
@[simp] theorem x_inS {b : Bool} {x z : Str} {Q : D → Prop} : fIn0 b (.str x) (.str z) Q = (x.cps.toList.length = 1 ∧ Q (.bl (if b then !oneIn x z else oneIn x z))) := (rfl)
@[simp] theorem x_flatS {x : Str} : flatD (.str x) = true := (rfl)
@[simp] theorem x_flatI {x : Int} : flatD (.int x) = true := (rfl)
@[simp] theorem x_subL {to ti : ATE} {d : D} {Q : AEnv → Own → Prop} : gSubL to ti d env own Q = to env own fun x o1 => ti env o1 fun y o2 => ∃ i, y = .int i ∧ ownL o2 x fun p ds => ∃ j, ixN ds.length i = some j ∧ Q env (oset o2 p (.lst (ds.set j d))) := (rfl)
theorem x_ownL {p : Addr} {ds : List D} {k : Addr → List D → Prop} (h : own p = some (.lst ds)) : ownL own (.ref p) k = k p ds := by
  apply propext
  constructor
  · rintro ⟨q, es, e1, e2, e3⟩
    cases e1; rw [h] at e2; cases e2; exact e3
  · exact fun q => ⟨p, ds, rfl, h, q⟩
@[simp] theorem x_ix30 {n : Nat} : ixN (n + 1) 0 = some 0 := by simp [ixN]
@[simp] theorem x_ix32 {n : Nat} : ixN (n + 1 + 1 + 1) 2 = some 2 := by
  have : (2 : Int) < (n : Int) + 1 + 1 + 1 := by omega
  simp [ixN, this]
end
@[simp] theorem x_neg {own : Own} {i : Int} {Q : D → Prop} : fNeg own (.int i) Q = Q (.int (-i)) := (rfl)
/-! ### pens -/
@[simp] theorem deq_nil {ds : List D} : deq (.lst ds) (.lst []) = ds.isEmpty := by
  unfold deq toPy
  cases ds with
  | nil => unfold toPys; rfl
  | cons d t => unfold toPys; rfl
theorem eqOks_ints : ∀ ns : List Int, eqOks (ns.map D.int) = true
  | [] => by unfold eqOks; rfl
  | i :: ns => by
    show eqOks (.int i :: ns.map D.int) = true
    unfold eqOks
    rw [eqOks_ints ns]; unfold eqOk; rfl
theorem depths_ints : ∀ ns : List Int, PyData.depthAll (toPys (ns.map D.int)) ≤ 1
  | [] => by unfold toPys PyData.depthAll; decide
  | i :: ns => by
    show PyData.depthAll (toPys (.int i :: ns.map D.int)) ≤ 1
    have := depths_ints ns
    unfold toPys PyData.depthAll
    unfold toPy PyData.depth
    omega
/-- what a pen holds: at least b more draws may be made -/
def Pn (b : Nat) (pen : List D) : Prop := ∃ (g : Int) (ns : List Int) (d : Int), pen = [.int g, .lst (ns.map .int), .int d] ∧ 0 ≤ g ∧ g + b ≤ 2 ^ 60 ∧ ns.length ≤ 63 ∧ 0 ≤ d
theorem Pn.mono {b c : Nat} {pen : List D} (h : Pn b pen) (e : c ≤ b) : Pn c pen := by
  obtain ⟨g, ns, d, rfl, h1, h2, h3, h4⟩ := h
  exact ⟨g, ns, d, rfl, h1, by omega, h3, h4⟩
@[simp] theorem x_gInt {f : Int → Int → Int} {i j : Int} : gInt f i j = .int (f i j) := (rfl)
@[simp] theorem x_gBl {f : Int → Int → Bool} {i j : Int} : gBl f i j = .bl (f i j) := (rfl)
/-! ### how long ints are -/
def Sm (n : Nat) (i : Int) : Prop := i.natAbs < 2 ^ n
theorem Sm.mul {a b : Nat} {i j : Int} (h : Sm a i) (g : Sm b j) : Sm (a + b) (i * j) := by
  unfold Sm at *
  rw [Int.natAbs_mul, Nat.pow_add]
  exact Nat.mul_lt_mul'' h g
theorem Sm.mono {a b : Nat} {i : Int} (h : Sm a i) (e : a ≤ b) : Sm b i := Nat.lt_of_lt_of_le h (Nat.pow_le_pow_right (by decide) e)
theorem Sm.add {a : Nat} {i j : Int} (h : Sm a i) (g : Sm a j) : Sm (a + 1) (i + j) := by
  unfold Sm at *
  have := Int.natAbs_add_le i j
  rw [Nat.pow_succ]; omega
theorem Sm.mod {a : Nat} {i j : Int} (h : 0 < j) (g : Sm a j) : Sm a (i % j) := by
  unfold Sm at *
  have h1 := Int.emod_nonneg i (Int.ne_of_gt h)
  have h2 := Int.emod_lt_of_pos i h
  omega
theorem Sm.ofLt {a : Nat} {i : Int} (h0 : 0 ≤ i) (h : i < 2 ^ a) : Sm a i := by
  unfold Sm
  have : ((2 ^ a : Nat) : Int) = (2 : Int) ^ a := by norm_cast
  omega
theorem Sm.cmul {a b : Nat} {i j : Int} (h : Sm a i) (g : Sm b j) (e : a + b ≤ 900000 := by decide) : CMulW i j := by
  unfold CMulW Sm at *
  have l1 : i.natAbs.log2 ≤ a := by
    by_cases z : i.natAbs = 0
    · rw [z]; simp
    · exact Nat.le_of_lt ((Nat.log2_lt z).mpr h)
  have l2 : j.natAbs.log2 ≤ b := by
    by_cases z : j.natAbs = 0
    · rw [z]; simp
    · exact Nat.le_of_lt ((Nat.log2_lt z).mpr g)
  omega
theorem Sm.cdiv {a : Nat} {i j : Int} (h0 : 0 < j) (h : Sm a j) (e : a < 9000 := by decide) : CDivW i j := by
  refine ⟨h0, ?_⟩
  have z : j.natAbs ≠ 0 := by omega
  have := (Nat.log2_lt z).mpr h
  omega
theorem Sm.cpow {a : Nat} {i j : Int} (h : Sm a i) (h0 : 0 ≤ j) (h1 : j ≤ 100) (e : a ≤ 1000 := by decide) : CPowD i j := ⟨h0, h1, Nat.lt_of_lt_of_le h (Nat.pow_le_pow_right (by decide) e)⟩
@[simp] theorem ask_ints {ns : List Int} : eqAsk (.lst (ns.map D.int)) (.lst []) := by
  refine ⟨⟨?_, ?_⟩, ?_, ?_⟩
  · unfold eqOk; exact eqOks_ints ns
  · unfold toPy PyData.depth; have := depths_ints ns; omega
  · unfold eqOk eqOks; rfl
  · unfold toPy toPys PyData.depth PyData.depthAll; decide
/-! ### a pen: every draw -/
theorem Rt.mk' {P : D → Own → Prop} {d : D} {o : Own} (h : P d o) : Rt P d o := Rt.mk h
@[simp] theorem x_sz : sizeLine = 16777216 := by rw [sizeLine_eq]
@[simp] theorem x_slK {ds : List D} {lo hi : Option Int} {Q : D → Prop} : fSl0 lo hi (.kls ds) Q = Q (.lst (cutD ds lo hi)) := (rfl)
@[simp] theorem x_slL {ds : List D} {lo hi : Option Int} {Q : D → Prop} : fSl0 lo hi (.lst ds) Q = Q (.lst (cutD ds lo hi)) := (rfl)
@[simp] theorem x_slT {ds : List D} {lo hi : Option Int} {Q : D → Prop} : fSl0 lo hi (.tup ds) Q = Q (.tup (cutD ds lo hi)) := (rfl)
theorem cut_map {α : Type} (f : α → D) (l : List α) (lo hi : Option Int) : ∃ l' : List α, cutD (l.map f) lo hi = l'.map f ∧ l'.length ≤ l.length := by
  refine ⟨(l.drop (HT.sIx l.length 0 lo)).take (HT.sIx l.length l.length hi - HT.sIx l.length 0 lo), ?_, ?_⟩
  · unfold cutD; rw [List.length_map, ← List.map_drop, ← List.map_take]
  · simp only [List.length_take, List.length_drop]; omega
end L3

namespace L3
open PySem PySem.Spec PyProof.Rows L2
/-! ### texts -/
theorem chars_inj : ∀ {a b : List Char}, a.map Char.toNat = b.map Char.toNat → a = b
  | [], [], _ => rfl
  | [], _ :: _, h => by simp at h
  | _ :: _, [], h => by simp at h
  | x :: a, y :: b, h => by
    simp only [List.map_cons, List.cons.injEq] at h
    obtain ⟨h1, h2⟩ := h
    rw [chars_inj h2, show x = y from Char.ext (UInt32.toNat_inj.mp h1)]
@[simp] theorem ofS_inj {a b : String} : (Str.ofString a = Str.ofString b) = (a = b) := by
  apply propext
  constructor
  · intro h
    rw [Str.ofString_eq_toList, Str.ofString_eq_toList] at h
    injection h with h
    have h2 := congrArg Array.toList h
    simp only [] at h2
    exact String.toList_inj.mp (chars_inj h2)
  · rintro rfl; rfl
@[simp] theorem ofS_beq {a b : String} : (Str.ofString a == Str.ofString b) = (a == b) := by
  by_cases h : a = b
  · subst h; simp
  · have h' : ¬ Str.ofString a = Str.ofString b := by rw [ofS_inj]; exact h
    rw [beq_eq_false_iff_ne.mpr h', beq_eq_false_iff_ne.mpr h]
theorem Str.ext' {x y : Str} (h : x.cps.toList = y.cps.toList) : x = y := by
  cases x; cases y; simp only at h; congr; exact Array.toList_inj.mp h
@[simp] theorem cs_app {x y : Str} : (x ++ y).cps.toList = x.cps.toList ++ y.cps.toList := by
  show (x.cps ++ y.cps).toList = _
  simp
@[simp] theorem len_app {x y : Str} : (x ++ y).length = x.length + y.length := by
  show (x.cps ++ y.cps).size = _
  simp [Str.length]
theorem len_cs (x : Str) : x.length = x.cps.toList.length := by simp [Str.length]
@[simp] theorem app_assoc {x y z : Str} : x ++ y ++ z = x ++ (y ++ z) := Str.ext' (by simp)
@[simp] theorem emp_app {x : Str} : Str.empty ++ x = x := Str.ext' (by simp [Str.empty])
@[simp] theorem app_emp {x : Str} : x ++ Str.empty = x := Str.ext' (by simp [Str.empty])
@[simp] theorem ofS_emp : Str.ofString "" = Str.empty := by decide +kernel
@[simp] theorem len_emp : Str.empty.length = 0 := (rfl)
theorem len_ofS (s : String) : (Str.ofString s).length = s.length := by
  rw [Str.ofString_eq_toList]; simp [Str.length, String.length_toList]
@[simp] theorem beqS {x : Str} : (x == x) = true := by simp
/-! joins -/
@[simp] theorem strs_map : ∀ (l : List Str), strsOf (l.map D.str) = some l
  | [] => rfl
  | x :: l => by simp only [List.map_cons, strsOf, strs_map l, Option.map_some]
theorem len_join (a : Str) : ∀ l : List Str, (Str.join a l).length ≤ (l.map (·.length)).sum + l.length * a.length
  | [] => by simp [Str.join, Str.empty, Str.length]
  | [x] => by simp [Str.join]
  | x :: y :: l => by
    have := len_join a (y :: l)
    simp only [Str.join, len_app, List.map_cons, List.sum_cons, List.length_cons] at *
    rw [Nat.add_mul, Nat.one_mul]
    omega
theorem x_join {a : Str} {l : List Str} {own : Own} {P : D → Prop} : fJoin own (.str a) (.lst (l.map D.str)) P = ((l.map (·.length)).sum + l.length * a.length ≤ 16777216 ∧ P (.str (Str.join a l))) := by
  simp [fJoin, gJoin]
@[simp] theorem x_joinE {t u : ATE} {env : AEnv} {own : Own} {P : D → Own → Prop} : aJoin t u env own P = t env own fun d o1 => ∃ a, d = .str a ∧ u env o1 fun e o2 => fJoin o2 d e fun z => P z o2 := (rfl)
theorem join_emp : ∀ l : List Str, (Str.join Str.empty l).cps.toList = (l.map (·.cps.toList)).flatten
  | [] => rfl
  | [x] => by simp [Str.join]
  | x :: y :: l => by
    have := join_emp (y :: l)
    simp only [Str.join, app_emp, cs_app, this, List.map_cons, List.flatten_cons]
/-! ### comprehensions -/
section
variable {g : ATG} {tt : ATT} {te : ATE} {gd : Own → Prop} {env : AEnv} {P : List D → Own → Prop} {own : Own} {acc : List D} {d : D} {ds : List D} {ti : ATI} {vs : List Nat}
@[simp] theorem x_lc : aLc ti g tt te vs env own P = ti env own fun ds gd o => aLcL g tt te gd (wipeA env vs) P ds [] o := (rfl)
theorem x_lcN : aLcL g tt te gd env P [] acc own = (gd own ∧ P acc own) := rfl
theorem x_lcC : aLcL g tt te gd env P (d :: ds) acc own = (gd own ∧ g d env own fun env1 o1 => tt env1 o1 fun b o2 => match b with
    | true => te env1 o2 fun r o3 => aLcL g tt te gd env P ds (acc ++ [r]) o3
    | false => aLcL g tt te gd env P ds acc o2) := rfl
/-- every item gives one, and nothing else happens -/
theorem lc_pure {α : Type} (f : α → D) (h : α → D) : ∀ {l : List α} {acc : List D}, gd own → (∀ a ∈ l, ∀ Q : D → Own → Prop, Q (h a) own → g (f a) env own fun env1 o1 => te env1 o1 Q) → P (acc ++ l.map h) own → aLcL g aYes te gd env P (l.map f) acc own
  | [], acc, hg, _, hp => ⟨hg, by simpa using hp⟩
  | a :: l, acc, hg, hh, hp => ⟨hg, hh a (List.mem_cons_self ..) _ (lc_pure f h hg (fun b hb => hh b (List.mem_cons_of_mem _ hb)) (by simpa using hp))⟩
@[simp] theorem x_yes {Q : Bool → Own → Prop} : aYes env own Q = Q true own := (rfl)
@[simp] theorem x_it {te : ATE} {Q : List D → (Own → Prop) → Own → Prop} : aIt te env own Q = te env own fun d o => match see o d with
  | .lst ds => Q ds (fun o' => see o' d = .lst ds) o
  | .tup ds => Q ds (fun _ => True) o
  | .str x => x.cps.size ≤ sizeLine ∧ Q (signs x) (fun _ => True) o
  | _ => False := (rfl)
@[simp] theorem x_rng1 {ta : ATA} {Q : List D → (Own → Prop) → Own → Prop} : aRng1 ta env own Q = ta env own fun ds o => match ds with
  | [.int n] => (-(2 ^ 62) ≤ n ∧ n ≤ 16777216) ∧ Q (rng 0 n.toNat) (fun _ => True) o
  | _ => False := (rfl)
@[simp] theorem x_gst {n i : Nat} {gs : ATGs} {Q : AEnv → Own → Prop} : gSt n i gs (.tup ds) env own Q = (n ≤ ds.length + 1 ∧ ds.length ≤ 16384 ∧ gs (ds.take i ++ [.lst ((ds.drop i).take (ds.length + 1 - n))] ++ (ds.drop i).drop (ds.length + 1 - n)) env own Q) := (rfl)
@[simp] theorem x_gstL {n i : Nat} {gs : ATGs} {Q : AEnv → Own → Prop} : gSt n i gs (.lst ds) env own Q = (n ≤ ds.length + 1 ∧ ds.length ≤ 16384 ∧ gs (ds.take i ++ [.lst ((ds.drop i).take (ds.length + 1 - n))] ++ (ds.drop i).drop (ds.length + 1 - n)) env own Q) := (rfl)
@[simp] theorem x_gsN {Q : AEnv → Own → Prop} : gsNil [] env own Q = Q env own := (rfl)
@[simp] theorem x_gsC {gs : ATGs} {Q : AEnv → Own → Prop} : gsCons g gs (d :: ds) env own Q = g d env own fun env1 o1 => gs ds env1 o1 Q := (rfl)
@[simp] theorem x_gtp {n : Nat} {gs : ATGs} {Q : AEnv → Own → Prop} : gTp n gs (.tup ds) env own Q = (ds.length = n ∧ gs ds env own Q) := (rfl)
end
section
variable {env : AEnv} {own : Own} {t u : ATE} {ts : List ATE} {P : D → Own → Prop}
@[simp] theorem x_joined : aJoined ts env own P = aJs ts Str.empty env own fun z o => P (.str z) o := (rfl)
@[simp] theorem x_jsN {acc : Str} {Q : Str → Own → Prop} : aJs [] acc env own Q = Q acc own := (rfl)
@[simp] theorem x_jsC {acc : Str} {Q : Str → Own → Prop} : aJs (t :: ts) acc env own Q = t env own fun d o => match d with
    | .str y => (acc ++ y).length ≤ sizeLine ∧ aJs ts (acc ++ y) env o Q
    | _ => False := (rfl)
@[simp] theorem x_tru {Q : Bool → Own → Prop} : aTru t env own Q = t env own fun d o => match see o d with
  | .bl b => Q b o
  | .non => Q false o
  | .int i => Q (i != 0) o
  | .str x => x.length ≤ sizeLine ∧ Q ((x.length : Int) != 0) o
  | .lst xs => Q (!xs.isEmpty) o
  | .tup xs => Q (!xs.isEmpty) o
  | _ => False := (rfl)
@[simp] theorem x_getTab {tab : Str → Option D} : aGetTab tab t u env own P = t env own fun x o1 => u env o1 fun y o2 => ∃ z, x = .str z ∧ P ((tab z).getD y) o2 := (rfl)
@[simp] theorem x_ixTab {tab : Str → Option D} {a : Addr} {d e : D} {Q : D → Prop} : fIxTab tab a own d e Q = fIxTab tab a own d e Q := (rfl)
theorem x_wipe : wipeA env [] = env := rfl
end
section
variable {i : Int} {ds : List D} {x : Str}
@[simp] theorem has_nil {d : D} : hasD d [] = false := (rfl)
@[simp] theorem has_cons {d e : D} : hasD d (e :: ds) = (eqD e d || hasD d ds) := (rfl)
@[simp] theorem eqD_str {x y : Str} : eqD (.str x) (.str y) = (x == y) := (rfl)
end
/-! some of a short list of things -/
theorem at2 {α : Type} {a b : α} {k : Int} (h0 : 0 ≤ k) (h1 : k < 2) {P : α → Prop} (ha : P a) (hb : P b) : oP (atI [a, b] k) P := by
  have : k = 0 ∨ k = 1 := by omega
  rcases this with rfl | rfl
  · exact ha
  · exact hb
theorem at3 {α : Type} {a b c : α} {k : Int} (h0 : 0 ≤ k) (h1 : k < 3) {P : α → Prop} (ha : P a) (hb : P b) (hc : P c) : oP (atI [a, b, c] k) P := by
  have : k = 0 ∨ k = 1 ∨ k = 2 := by omega
  rcases this with rfl | rfl | rfl
  · exact ha
  · exact hb
  · exact hc
theorem at4 {α : Type} {a b c d : α} {k : Int} (h0 : 0 ≤ k) (h1 : k < 4) {P : α → Prop} (ha : P a) (hb : P b) (hc : P c) (hd : P d) : oP (atI [a, b, c, d] k) P := by
  have : k = 0 ∨ k = 1 ∨ k = 2 ∨ k = 3 := by omega
  rcases this with rfl | rfl | rfl | rfl
  · exact ha
  · exact hb
  · exact hc
  · exact hd
/-- any one of a list -/
theorem atA {α : Type} {l : List α} {k : Int} (h0 : 0 ≤ k) (h1 : k < l.length) {P : α → Prop} (h : ∀ a ∈ l, P a) : oP (atI l k) P := by
  obtain ⟨d, e, m⟩ := x_atN h0 h1
  rw [e]; exact h d m
@[simp] theorem ints_map {α : Type} (f : α → Int) : ∀ l : List α, intsOf (l.map fun a => D.int (f a)) = some (l.map f)
  | [] => rfl
  | a :: l => by simp only [List.map_cons, intsOf, ints_map f l, Option.map_some]
@[simp] theorem x_sum {ds : List D} {Q : D → Prop} : gSum (.lst ds) Q = oP (intsOf ds) fun ns => Q (.int ns.sum) := (rfl)
section
variable {env : AEnv} {own : Own} {t u : ATE} {P : D → Own → Prop} {E : AEnds} {g : ATG} {b : ATS} {gd : Own → Prop} {ds : List D} {d : D} {ti : ATI}
@[simp] theorem x_app : aApp t u env own P = t env own fun d o1 => ownL o1 d fun _ _ => u env o1 fun e o2 => ownL o2 d fun p ds => ds.length < sizeLine ∧ P .non (oset o2 p (.lst (ds ++ [e]))) := (rfl)
@[simp] theorem x_for : aFor ti g b E env own = ti env own fun ds gd o => aTurns g b gd E ds env o := (rfl)
theorem x_turN : aTurns g b gd E [] env own = (gd own ∧ E.nx env own) := rfl
theorem x_turC : aTurns g b gd E (d :: ds) env own = (gd own ∧ g d env own fun env1 o1 => b { nx := aTurns g b gd E ds, rt := E.rt, bk := E.nx, ct := aTurns g b gd E ds } env1 o1) := rfl
theorem flat_strs : ∀ l : List Str, (l.map D.str).all flatD = true
  | [] => rfl
  | x :: l => by simp [flatD]
end
end L3

namespace L3
open PySem PySem.Spec PyProof.Rows L2
/-! ### what may be asked of by == and repr: bounds of depth and weight -/
structure PyOk (d : D) (dep wt : Nat) : Prop where
  eq : eqOk d = true
  sh : (toPy d).showable = true
  lv : (toPy d).leavesShort 13 = true
  dp : (toPy d).depth ≤ dep
  wt : (toPy d).weight ≤ wt
structure PysOk (ds : List D) (dep wt : Nat) : Prop where
  eq : eqOks ds = true
  sh : PyData.showableAll (toPys ds) = true
  lv : PyData.leavesShortAll 13 (toPys ds) = true
  dp : PyData.depthAll (toPys ds) ≤ dep
  wt : PyData.weightAll (toPys ds) ≤ wt
theorem PyOk.mono {d : D} {a b a' b' : Nat} (h : PyOk d a b) (h1 : a ≤ a') (h2 : b ≤ b') : PyOk d a' b' := ⟨h.eq, h.sh, h.lv, Nat.le_trans h.dp h1, Nat.le_trans h.wt h2⟩
theorem PysOk.mono {d : List D} {a b a' b' : Nat} (h : PysOk d a b) (h1 : a ≤ a') (h2 : b ≤ b') : PysOk d a' b' := ⟨h.eq, h.sh, h.lv, Nat.le_trans h.dp h1, Nat.le_trans h.wt h2⟩
theorem strOk_all {x : Str} : PyData.strOk x = x.cps.toList.all fun c => decide (c < 0x110000) := by unfold PyData.strOk; rw [Array.all_toList]
theorem PyOk.str {x : Str} (h : PyData.strOk x = true) {a b : Nat} (hl : x.length ≤ b) : PyOk (.str x) a b := by
  refine ⟨by unfold eqOk; exact h, by unfold toPy PyData.showable; rfl, ?_, by unfold toPy PyData.depth; omega, by unfold toPy PyData.weight; exact hl⟩
  rw [strOk_all] at h
  unfold toPy PyData.leavesShort
  simp only [List.all_eq_true, decide_eq_true_eq] at h ⊢
  intro c hc
  have := h c hc
  have e : (16 : Nat) ^ 8 = 4294967296 := by decide
  omega
theorem PyOk.non {a b : Nat} : PyOk .non a b := by
  refine ⟨by unfold eqOk; rfl, by unfold toPy PyData.showable; rfl, by unfold toPy PyData.leavesShort; rfl, by unfold toPy PyData.depth; omega, by unfold toPy PyData.weight; omega⟩
theorem PyOk.bl {x : Bool} {a b : Nat} : PyOk (.bl x) a b := by
  refine ⟨by unfold eqOk; rfl, by unfold toPy PyData.showable; rfl, by unfold toPy PyData.leavesShort; rfl, by unfold toPy PyData.depth; omega, by unfold toPy PyData.weight; omega⟩
theorem PyOk.int {i : Int} (h : i.natAbs < 10 ^ 12) {a b : Nat} (hb : 40 ≤ b) : PyOk (.int i) a b := by
  have hl : i.natAbs.log2 < 40 := by
    by_cases z : i.natAbs = 0
    · rw [z]; decide
    · exact (Nat.log2_lt z).mpr (Nat.lt_of_lt_of_le h (by decide))
  refine ⟨by unfold eqOk; rfl, ?_, ?_, by unfold toPy PyData.depth; omega, ?_⟩
  · unfold toPy PyData.showable; simp only [decide_eq_true_eq]; omega
  · unfold toPy PyData.leavesShort; simp only [decide_eq_true_eq]; exact PyData.shown_int_le h
  · unfold toPy PyData.weight; split <;> omega
theorem PyOk.tup {ds : List D} {a b : Nat} (h : PysOk ds a b) : PyOk (.tup ds) (a + 1) b := by
  refine ⟨by unfold eqOk; exact h.eq, by unfold toPy PyData.showable; exact h.sh, by unfold toPy PyData.leavesShort; exact h.lv, ?_, by unfold toPy PyData.weight; exact h.wt⟩
  unfold toPy PyData.depth; exact Nat.succ_le_succ h.dp
theorem PyOk.lst {ds : List D} {a b : Nat} (h : PysOk ds a b) : PyOk (.lst ds) (a + 1) b := by
  refine ⟨by unfold eqOk; exact h.eq, by unfold toPy PyData.showable; exact h.sh, by unfold toPy PyData.leavesShort; exact h.lv, ?_, by unfold toPy PyData.weight; exact h.wt⟩
  unfold toPy PyData.depth; exact Nat.succ_le_succ h.dp
theorem PysOk.nil {a b : Nat} : PysOk [] a b := by
  refine ⟨by unfold eqOks; rfl, by unfold toPys PyData.showableAll; rfl, by unfold toPys PyData.leavesShortAll; rfl, by unfold toPys PyData.depthAll; omega, by unfold toPys PyData.weightAll; omega⟩
theorem PysOk.cons {d : D} {ds : List D} {a b c : Nat} (h : PyOk d a b) (r : PysOk ds a c) : PysOk (d :: ds) a (b + 1 + c) := by
  refine ⟨by unfold eqOks; rw [h.eq, r.eq]; rfl, by unfold toPys PyData.showableAll; rw [h.sh, r.sh]; rfl, by unfold toPys PyData.leavesShortAll; rw [h.lv, r.lv]; rfl, ?_, ?_⟩
  · unfold toPys PyData.depthAll; exact Nat.max_le.mpr ⟨h.dp, r.dp⟩
  · unfold toPys PyData.weightAll; have := h.wt; have := r.wt; omega
theorem PyOk.repr {d : D} {a b : Nat} (h : PyOk d a b) (h1 : a ≤ 64) (h2 : b ≤ 1048576) : reprOk d = true := by
  unfold reprOk
  simp only [Bool.and_eq_true, decide_eq_true_eq]
  exact ⟨⟨⟨h.eq, h.sh⟩, Nat.le_trans h.dp h1⟩, PyData.shown_fits (B := 13) (by decide) (by decide) h.lv (Nat.le_trans h.wt (Nat.le_trans h2 (by decide)))⟩
@[simp] theorem x_reprT {ds : List D} {Q : D → Prop} : gRepr (.tup ds) Q = (reprOk (.tup ds) = true ∧ Q (.str (reprD (.tup ds)))) := (rfl)
@[simp] theorem x_reprL {ds : List D} {Q : D → Prop} : gRepr (.lst ds) Q = (reprOk (.lst ds) = true ∧ Q (.str (reprD (.lst ds)))) := (rfl)
theorem kit_str : kitB "str" "str" = some true := by decide +kernel
@[simp] theorem x_isiS {own : Own} {x : Str} {Q : D → Prop} : fIsi own [.str x, .ty "str"] Q = Q (.bl true) := by
  show oP (kitB "str" "str") (fun b => Q (.bl b)) = _
  rw [kit_str]; rfl
end L3

namespace L3
open PySem PySem.Spec PyProof.Rows L2
/-! ### the end: what the top has left, read by a Hook -/
abbrev FnP (K : PySem.W.Frag) (x : Str) (st : Stmt) (dvs : List V) (kws : List (Str × V)) (f : Addr) (fd : FuncData) : Prop := FunD K x x (defArgs st) (defBody st) (defScope st) dvs kws f fd
theorem funX {K : PySem.W.Frag} {x qual : Str} {st : Stmt} {dvs : List V} {kws : List (Str × V)} {f : Addr} {fd : FuncData} (F : FunD K x qual (defArgs st) (defBody st) (defScope st) dvs kws f fd) : FunX K x qual st f fd :=
  let ⟨oc, od, dV, kV, doc, pm, an, cdv, ct, osl, e, lk, hcd, _, _⟩ := F.ex
  ⟨oc, od, dV, kV, doc, pm, an, cdv, ct, osl, e, lk, hcd⟩
/-! data of the top -/
mutual
def dtB (K : PySem.W.Frag) : D → Value → Bool
  | .non, .none => true
  | .bl b, .bool c => decide (b = c)
  | .int i, .int j _ => decide (i = j)
  | .str x, .str y _ => decide (x = y)
  | .ty n, .type m => decide (n = m)
  | .tup ds, .ref a => (match K.lookup a with
    | some ⟨.type c, _, .seq its _, _⟩ => decide (c = "tuple") && (decide (its.size ≤ sizeLine) && dtsB K ds its.toList)
    | _ => false)
  | _, _ => false
def dtsB (K : PySem.W.Frag) : List D → List Value → Bool
  | [], [] => true
  | d :: ds, u :: us => dtB K d u && dtsB K ds us
  | _, _ => false
end
mutual
theorem dtB_ok {K : PySem.W.Frag} : ∀ {d : D} {u : Value}, dtB K d u = true → ∃ v, RelV v u ∧ ∀ G, Dt K G d v
  | .non, u, h => by
    cases u <;> first | (unfold dtB at h; cases h; done) | skip
    exact ⟨.non, rfl, fun G => by unfold Dt; rfl⟩
  | .bl b, u, h => by
    cases u <;> first | (unfold dtB at h; cases h; done) | skip
    rename_i c
    unfold dtB at h
    obtain rfl := of_decide_eq_true h
    exact ⟨.bl b, rfl, fun G => by unfold Dt; rfl⟩
  | .int i, u, h => by
    cases u <;> first | (unfold dtB at h; cases h; done) | skip
    rename_i j t
    unfold dtB at h
    obtain rfl := of_decide_eq_true h
    exact ⟨.int i, ⟨t, rfl⟩, fun G => by unfold Dt; rfl⟩
  | .str x, u, h => by
    cases u <;> first | (unfold dtB at h; cases h; done) | skip
    rename_i y t
    unfold dtB at h
    obtain rfl := of_decide_eq_true h
    exact ⟨.str x, ⟨t, rfl⟩, fun G => by unfold Dt; rfl⟩
  | .ty n, u, h => by
    cases u <;> first | (unfold dtB at h; cases h; done) | skip
    rename_i m
    unfold dtB at h
    obtain rfl := of_decide_eq_true h
    exact ⟨.ty n, rfl, fun G => by unfold Dt; rfl⟩
  | .tup ds, u, h => by
    cases u <;> first | (unfold dtB at h; cases h; done) | skip
    rename_i a
    unfold dtB at h
    cases q : K.lookup a with
    | none => rw [q] at h; cases h
    | some o =>
      obtain ⟨oc, od, dt, osl⟩ := o
      rw [q] at h
      cases oc with
      | type c =>
        cases dt with
        | seq its n =>
          obtain ⟨h1, h2⟩ := He.ba (show (decide (c = "tuple") && (decide (its.size ≤ sizeLine) && dtsB K ds its.toList)) = true from h)
          obtain ⟨h3, h4⟩ := He.ba h2
          obtain ⟨vs, r1, r2⟩ := dtsB_ok h4
          refine ⟨.ref a, rfl, fun G => ?_⟩
          unfold Dt
          exact ⟨a, vs, rfl, .inr ⟨_, its, n, q, congrArg Value.type (of_decide_eq_true h1), rfl, of_decide_eq_true h3, r1⟩, r2 G⟩
        | _ => cases h
      | _ => cases dt <;> cases h
  | .lst _, u, h => by cases u <;> (unfold dtB at h; cases h)
  | .dct _, u, h => by cases u <;> (unfold dtB at h; cases h)
  | .ref _, u, h => by cases u <;> (unfold dtB at h; cases h)
  | .kls _, u, h => by cases u <;> (unfold dtB at h; cases h)
theorem dtsB_ok {K : PySem.W.Frag} : ∀ {ds : List D} {us : List Value}, dtsB K ds us = true → ∃ vs, Vals vs us ∧ ∀ G, Dts K G ds vs
  | [], [], _ => ⟨[], .nil, fun G => by unfold Dts; rfl⟩
  | [], _ :: _, h => by unfold dtsB at h; cases h
  | _ :: _, [], h => by unfold dtsB at h; cases h
  | d :: ds, u :: us, h => by
    unfold dtsB at h
    obtain ⟨h1, h2⟩ := He.ba h
    obtain ⟨v, r1, r2⟩ := dtB_ok h1
    obtain ⟨vs, r3, r4⟩ := dtsB_ok h2
    exact ⟨v :: vs, .cons r1 r3, fun G => by unfold Dts; exact ⟨v, vs, rfl, r2 G, r4 G⟩⟩
end
/-- a global that is a piece of data -/
def gloB (K : PySem.W.Frag) (x : Str) (d : D) : Bool := match PySem.W.nsIn K mainGlobals x with
  | some (some u) => dtB K d u
  | _ => false
theorem gloB_ok {K : PySem.W.Frag} {h : Heap} {mg : Str → Option Value} (X : K.In h) (G : h.Ns mainGlobals mg) {x : Str} {ds : List D} (c : gloB K x (.tup ds) = true) : ∃ u : Addr, mg x = some (.ref u) ∧ ∀ G, Dt K G (.tup ds) (.ref u) := by
  unfold gloB at c
  cases e : PySem.W.nsIn K mainGlobals x with
  | none => rw [e] at c; cases c
  | some r =>
    rw [e] at c
    cases r with
    | none => cases c
    | some u =>
      obtain ⟨v, r1, r2⟩ := dtB_ok (show dtB K (.tup ds) u = true from c)
      have h1 := PySem.W.mg_of X G e
      obtain ⟨a, vs, e1, _⟩ := (show ∃ a vs, v = .ref a ∧ SqT K (fun _ => none) a vs ∧ Dts K (fun _ => none) ds vs from by have := r2 (fun _ => none); unfold Dt at this; exact this)
      subst e1
      have e2 : u = Value.ref a := r1
      subst e2
      exact ⟨a, h1, r2⟩
/-! tables -/
def lookD : List (Str × D) → Str → Option D
  | [], _ => none
  | (k, v) :: r, z => if z = k then some v else lookD r z
def tabL (K : PySem.W.Frag) : List (Str × D) → List DictEntry → Bool
  | [], [] => true
  | (k, d) :: r, e :: es => (match e.key with
    | .str x _ => decide (x = k) && (dtB K d e.val && tabL K r es)
    | _ => false)
  | _, _ => false
def tabB (K : PySem.W.Frag) (a : Addr) (kv : List (Str × D)) : Bool := match K.lookup a with
  | some ⟨_, _, .dict es _, _⟩ => tabL K kv es.toList
  | _ => false
theorem tabL_ok {K : PySem.W.Frag} {z : Str} : ∀ {kv : List (Str × D)} {l : List DictEntry}, tabL K kv l = true → tabV K (lookD kv z) ((l.find? fun e => Value.isStrOf z e.key).map (·.val))
  | [], [], _ => trivial
  | [], _ :: _, h => by unfold tabL at h; cases h
  | _ :: _, [], h => by unfold tabL at h; cases h
  | (k, d) :: r, e :: es, h => by
    unfold tabL at h
    obtain ⟨hash, key, val⟩ := e
    cases key <;> first | (cases h; done) | skip
    rename_i x t
    obtain ⟨h1, h2⟩ := He.ba (show (decide (x = k) && (dtB K d val && tabL K r es)) = true from h)
    obtain ⟨h3, h4⟩ := He.ba h2
    obtain rfl := of_decide_eq_true h1
    unfold lookD
    by_cases q : z = x
    · subst q
      rw [if_pos rfl]
      have e1 : Value.isStrOf z (Value.str z t) = true := by unfold Value.isStrOf; simp
      rw [List.find?_cons_of_pos (p := fun e : DictEntry => Value.isStrOf z e.key) e1]
      exact dtB_ok h3
    · rw [if_neg q]
      have e1 : ¬ Value.isStrOf z (Value.str x t) = true := by unfold Value.isStrOf; simp; exact fun y => q y.symm
      rw [List.find?_cons_of_neg (p := fun e : DictEntry => Value.isStrOf z e.key) e1]
      exact tabL_ok h4
theorem kTab_of {K : PySem.W.Frag} {w : World} {a : Addr} {kv : List (Str × D)} (h : ∃ es n, KDict K w a es n) (c : tabB K a kv = true) : KTab K w a (lookD kv) := by
  obtain ⟨es, n, e1, e2, e3⟩ := h
  refine ⟨es, n, e1, e2, e3, fun z => ?_⟩
  unfold tabB at c
  rw [e1] at c
  obtain ⟨l⟩ := es
  unfold findBy
  rw [List.find?_toArray]
  exact tabL_ok c
/-! the Hook: facts, defs, tables, a look of one's own -/
abbrev AlX : Type := He.AlT × Bool
def obsX (fa : List He.Fa) (fn : List He.DefD) (ts : List He.Tab) (ck : PySem.W.Frag → Bool) (K : PySem.W.Frag) : AlX := (He.obsT fa fn ts K, ck K)
def obsXG (n : Nat) (fa : List He.Fa) (fn : List He.DefD) (ts : List He.Tab) (ck : PySem.W.Frag → Bool) (g : Addr → Option Obj) : AlX := obsX fa fn ts ck (He.frG g (He.asD g n))
structure SaysX (fa : List He.Fa) (fn : List He.DefD) (ts : List He.Tab) (ck : PySem.W.Frag → Bool) (w : World) (K : PySem.W.Frag) : Prop where
  t : He.SaysT fa fn ts w K
  ck : ck K = true
def hookX (n : Nat) (fa : List He.Fa) (fn : List He.DefD) (ts : List He.Tab) (ck : PySem.W.Frag → Bool) : PySem.W.Hook where
  α := AlX
  obs := fun s => obsXG n fa fn ts ck s.heap.get?
  val := fun w => (He.valT fn ts w, true)
  says := fun w h => ∃ K : PySem.W.Frag, K.In h ∧ SaysX fa fn ts ck w K
  of := fun _ _ e => ⟨_, He.frG_in, ⟨congrArg (fun z : AlX => z.1) e, congrArg (fun z : AlX => z.2) e⟩⟩
  keeps := fun _ _ _ ⟨K, hK, c⟩ k => ⟨K, PySem.W.Frag.In.keeps hK k, c⟩
theorem obsXG_eq {n : Nat} {fa : List He.Fa} {fn : List He.DefD} {ts : List He.Tab} {ck : PySem.W.Frag → Bool} {g : Addr → Option Obj} {s : Shared} (h : ∀ a, g a = s.heap.get? a) : obsXG n fa fn ts ck g = (hookX n fa fn ts ck).obs s := by
  have e : g = s.heap.get? := funext h
  rw [e] <;> rfl
/-! defs by name -/
def Has (K : PySem.W.Frag) (mg : Str → Option Value) (x : Str) (st : Stmt) : Prop := ∃ f fd, FnP K x st [] [] f fd ∧ mg x = some (.ref f)
/-- how a def without defaults binds its values -/
def Bd (x : Str) (st : Stmt) (ps : List Str) : Prop := ∀ (kV doc pm : Value) (an : Option Addr) (cdv ct : Value) (us : List Value), us.length = ps.length → bindArgs (PySem.W.fnOf x x (defArgs st) (defBody st) (defScope st) .none kV doc pm an cdv ct) ⟨us, []⟩ = pure (ps.zip us)
def BdK (x : Str) (st : Stmt) (ps : List Str) (n : Nat) (ks : List Str) : Prop := ∀ (kV doc pm : Value) (an : Option Addr) (cdv ct : Value) (us ws : List Value), us.length = n → ws.length = ks.length → bindArgs (PySem.W.fnOf x x (defArgs st) (defBody st) (defScope st) .none kV doc pm an cdv ct) ⟨us, ks.zip ws⟩ = pure (ps.zip (us ++ ws))
section
variable {P : Program} {w : World} {K : PySem.W.Frag} {mg : Str → Option Value} {base : Heap} {x : Str} {st : Stmt} {N ps : List Str} {k n : Nat} {ks : List Str} {S : Spec}
/-- the def's body does as its promise says -/
def Bod (P : Program) (w : World) (K : PySem.W.Frag) (mg : Str → Option Value) (base : Heap) (x : Str) (st : Stmt) (N : List Str) (k : Nat) (S : Spec) : Prop :=
  ∀ (f : Addr) (cdv : Value) (A : Around) (outer : List PySem.Env) (s : Shared) (H : Hp) (E : XK) (w0 : Wd) (ds : List D) (Q : D → Own → Prop), Room k (A.deeper (envOfC x (defScope st) s.heap.objs.size f cdv)) → A.guards = some [] → S ds w0.own Q →
    ∃ t, ASs (cxOf CX0 P w K mg base N x (defScope st) f cdv A outer s H E).nox w0 (defBody st) t ∧ t { nx := fun _ o => Rt Q .non o, rt := Rt Q } (astart N ds) w0.own
theorem kn_def (F : Has K mg x st) (sc : FnScope N ps (defScope st)) (hb : Bd x st ps) (len : ∀ ds o Q, S ds o Q → ds.length = ps.length) (b : Bod P w K mg base x st N k S) : Kn P w K mg base (k + 1) x ps [] S := by
  obtain ⟨f, fd, F, hm⟩ := F
  exact ⟨f, fd, [], [], hm, F.kp, F.bindsN hb, .nil, fun _ => by unfold Dts; rfl, def_ok (funX F) sc len (b f)⟩
theorem knK_def (F : Has K mg x st) (sc : FnScope N ps (defScope st)) (hn : n + ks.length = ps.length) (hb : BdK x st ps n ks) (len : ∀ ds o Q, S ds o Q → ds.length = ps.length) (b : Bod P w K mg base x st N k S) : KnK P w K mg base (k + 1) x ps n ks S := by
  obtain ⟨f, fd, F, hm⟩ := F
  refine ⟨f, fd, hm, F.kp, hn, fun s us ws h1 h2 => ?_, def_ok (funX F) sc len (b f)⟩
  obtain ⟨oc, od, dV, kV, doc, pm, an, cdv, ct, osl, rfl, lk, hcd, hD, hK⟩ := F.ex
  rcases hD with ⟨_, rfl⟩ | ⟨e, _⟩
  · exact .of_eq (hb kV doc pm an cdv ct us ws h1 h2)
  · exact absurd rfl e
theorem bindsOf {f : Addr} {fd : FuncData} (F : FnP K x st [] [] f fd) (hb : Bd x st ps) (s : Shared) (us : List Value) (hl : us.length = ps.length) : BindsTo s fd ⟨us, []⟩ (ps.zip us) := FunD.bindsA F hb s us hl
variable {h : Heap} {fa : List He.Fa} {fn : List He.DefD} {ts : List He.Tab} {ck : PySem.W.Frag → Bool}
theorem has_of (X : K.In h) (G : h.Ns mainGlobals mg) (c : SaysX fa fn ts ck w K) (i j : Nat) (h1 : fa[i]? = some (.glo x) := by rfl) (h2 : fn[j]? = some ⟨(x, none), x, x, defArgs st, defBody st, defScope st, [], []⟩ := by rfl) : Has K mg x st := by
  obtain ⟨fd, F⟩ := c.t.d.def_ j h2
  exact ⟨_, fd, F, He.glo_ok X G (c.t.d.fact i h1)⟩
end
theorem walkGE {l : PySem.W.OpenLaw} {n k : Nat} {q : Program} {loose : List Str} {XP : (Str → Option Value) → Heap → Prop} {YP : World → Heap → Prop} {d : DefRec} {x : Str}
    (hn : l.most = some n) (hn2 : n ≤ sizeLine) (hdf : d.params.defaults = []) (hr : Room k callerA)
    (F : ∀ (w : World) (mg : Str → Option Value) (fa : Addr) (h : Heap), YP w h → h.Ns mainGlobals mg → mg d.name = some (.ref fa) →
      ∃ (K : PySem.W.Frag) (fd : FuncData), K.In h ∧ (∀ (s : Shared) (u : Value), BindsTo s fd ⟨[u], []⟩ [(x, u)]) ∧
        ∀ base : Heap, K.In base → base.Ns mainGlobals mg → FnG l.prog w K mg base CX0 k fa fd [x] (spOf K (spLaw n))) :
    PySem.W.WalkO q loose XP YP l.row.toRowW d [] (fun f vs => PySem.call f vs) := by
  refine Att.attach_call hn hdf fun w s₀ s₁ mg mb fa o pm cd doc a vs ns G Y ho hd hcd hmg hobj hints hlen hg => ?_
  obtain ⟨K, fd, KX, hb, hF⟩ := F w mg fa _ Y G.T.g hmg
  exact law_callG KX G.T.g G.T.b G.T.builtins G.T.nolimit hg hobj hints (Nat.le_trans hlen hn2) hr hF hb ⟨ns, rfl, hlen, rfl, fun _ _ h => h⟩
end L3

namespace L3
open PySem PySem.Spec PyProof.Rows L2
/-! ### zip and enumerate over lists, tuples, texts -/
/-- one side of a zip -/
inductive Hf where | l (a : Addr) | t (a : Addr) | s (x : Str)
namespace Hf
def kn (it : Addr) (i : Nat) (h : Heap) : Hf → Prop
  | .l a => h.IsListIter it a i
  | .t a => h.IsTupleIter it a i
  | .s x => ∃ t, h.IsStrIter it (strIterType x) x t i
def dt : Hf → List Addr
  | .l a => [a]
  | .t a => [a]
  | .s _ => []
def go (K : PySem.W.Frag) (i : Nat) (H : Hp) : Hf → Prop
  | .l a => ∃ xs x, SqL K H a xs ∧ xs[i]? = some x
  | .t a => ∃ xs x, SqT K H a xs ∧ xs[i]? = some x
  | .s x => i < x.cps.size
def at_ (K : PySem.W.Frag) (i : Nat) (H : Hp) (v : V) : Hf → Prop
  | .l a => ∀ xs, SqL K H a xs → xs[i]? = some v
  | .t a => ∀ xs, SqT K H a xs → xs[i]? = some v
  | .s x => ∃ c, x.cps[i]? = some c ∧ v = .str ⟨#[c]⟩
def stop (K : PySem.W.Frag) (i : Nat) (H : Hp) : Hf → Prop
  | .l a => ∃ xs, SqL K H a xs ∧ xs.length ≤ i
  | .t a => ∃ xs, SqT K H a xs ∧ xs.length ≤ i
  | .s x => x.cps.size ≤ i
theorem keep {f : Hf} {it : Addr} {i : Nat} {h h' : Heap} (k : f.kn it i h) (e : ∀ o, h.get? it = some o → h'.get? it = some o) : f.kn it i h' := by
  cases f with
  | l a => exact Heap.IsListIter.at k e
  | t a => exact Heap.IsTupleIter.at k e
  | s x => obtain ⟨t, o, ho, r⟩ := k; exact ⟨t, o, e o ho, r⟩
theorem obj {f : Hf} {it : Addr} {i : Nat} {h : Heap} (k : f.kn it i h) : ∃ o, h.get? it = some o ∧ ∀ v, o.data ≠ .cell v := by
  cases f with
  | l a => obtain ⟨o, e, c, d⟩ := k; exact ⟨o, e, fun v z => by rw [d] at z; cases z⟩
  | t a => obtain ⟨o, e, c, d⟩ := k; exact ⟨o, e, fun v z => by rw [d] at z; cases z⟩
  | s x => obtain ⟨t, o, e, c, d⟩ := k; exact ⟨o, e, fun v z => by rw [d] at z; cases z⟩
end Hf
section
variable {X : Cx} {pins : List (Addr × Obj)} {σ : L2.St} {H : Hp} {s : Shared} {it : Addr} {i : Nat}
theorem half_go (hc : X.calm = true) (I : Inv X pins σ H s) {f : Hf} (hne : it ∉ f.dt) (k : f.kn it i s.heap) (g : f.go X.K i H) :
    ∃ (n : Nat) (P : Nat → Value → Prop) (St : Nat → Heap → Prop), Draws X.prog X.w X.A.in1 it (it :: f.dt) n P St ∧ St i s.heap ∧ i < n ∧ (∀ j h, St j h → f.kn it j h) ∧ ∀ u, P i u → ∃ x, RelV x u ∧ f.at_ X.K i H x := by
  have hh : X.A.in1.handled = none := I.ok.hd hc
  cases f with
  | l a =>
    obtain ⟨xs, x, hq, hx⟩ := g
    obtain ⟨its, rv, p, _⟩ := I.list hq
    have hl := rv.length
    have hi : i < xs.length := (List.getElem?_eq_some_iff.mp hx).1
    refine ⟨_, _, _, Draws.list hh it a (fun z => hne (by simp [Hf.dt, z])) its.toArray, ⟨k, p.isList⟩, by simp; omega, fun j h st => st.1, fun u hu => ?_⟩
    obtain ⟨u', hu', ru⟩ := rv.get hx
    have : u = u' := by simp at hu; rw [hu] at hu'; exact Option.some.inj hu'
    subst this
    exact ⟨x, ru, fun ys hy => by rw [I.list_inj hy hq]; exact hx⟩
  | t a =>
    obtain ⟨xs, x, hq, hx⟩ := g
    obtain ⟨its, rv, p, _⟩ := I.tuple hq
    have hl := rv.length
    have hi : i < xs.length := (List.getElem?_eq_some_iff.mp hx).1
    refine ⟨_, _, _, Draws.tuple hh it a (fun z => hne (by simp [Hf.dt, z])) its.toArray, ⟨k, p⟩, by simp; omega, fun j h st => st.1, fun u hu => ?_⟩
    obtain ⟨u', hu', ru⟩ := rv.get hx
    have : u = u' := by simp at hu; rw [hu] at hu'; exact Option.some.inj hu'
    subst this
    exact ⟨x, ru, fun ys hy => by rw [I.tuple_inj hy hq]; exact hx⟩
  | s x =>
    obtain ⟨t, k⟩ := k
    exact ⟨_, _, _, Draws.text hh it x t, k, g, fun j h st => ⟨t, st⟩, fun u ⟨c, tk, h1, h2⟩ => ⟨.str ⟨#[c]⟩, ⟨tk, h2⟩, c, h1, rfl⟩⟩
theorem half_stop (hc : X.calm = true) (I : Inv X pins σ H s) {f : Hf} (k : f.kn it i s.heap) (g : f.stop X.K i H) :
    ∃ (P : Nat → Value → Prop) (St : Nat → Heap → Prop), Draws X.prog X.w X.A.in1 it (it :: f.dt) i P St ∧ St i s.heap := by
  have hh : X.A.in1.handled = none := I.ok.hd hc
  cases f with
  | l a =>
    obtain ⟨xs, hq, hx⟩ := g
    obtain ⟨its, rv, p, _⟩ := I.list hq
    have hl := rv.length
    refine ⟨fun _ _ => True, fun j h => (h.IsListIter it a j ∧ h.IsList a its.toArray) ∧ i ≤ j, ⟨fun _ _ st => let ⟨o, ho, _⟩ := st.1.1; ⟨o, ho⟩, fun _ _ _ st hk => ⟨⟨st.1.1.at fun o e => hk it (by simp) o e, st.1.2.at fun o e => hk a (by simp [Hf.dt]) o e⟩, st.2⟩,
      fun j s Q E hj st _ => absurd st.2 (by omega), fun s Q E st hE => wpAny_nextOf_list_end hh st.1.1 st.1.2 (by simp; omega) hE⟩, ⟨k, p.isList⟩, Nat.le_refl _⟩
  | t a =>
    obtain ⟨xs, hq, hx⟩ := g
    obtain ⟨its, rv, p, _⟩ := I.tuple hq
    have hl := rv.length
    refine ⟨fun _ _ => True, fun j h => (h.IsTupleIter it a j ∧ h.IsTuple a its.toArray) ∧ i ≤ j, ⟨fun _ _ st => let ⟨o, ho, _⟩ := st.1.1; ⟨o, ho⟩, fun _ _ _ st hk => ⟨⟨st.1.1.at fun o e => hk it (by simp) o e, st.1.2.at fun o e => hk a (by simp [Hf.dt]) o e⟩, st.2⟩,
      fun j s Q E hj st _ => absurd st.2 (by omega), fun s Q E st hE => wpAny_nextOf_tuple_end hh st.1.1 st.1.2 (by simp; omega) hE⟩, ⟨k, p⟩, Nat.le_refl _⟩
  | s x =>
    obtain ⟨t, k⟩ := k
    have g' : x.cps.size ≤ i := g
    refine ⟨fun _ _ => True, fun j h => h.IsStrIter it (strIterType x) x t j ∧ i ≤ j, ⟨fun _ _ st => let ⟨o, ho, _⟩ := st.1; ⟨o, ho⟩, fun _ _ _ st hk => ⟨let ⟨o, ho, r⟩ := st.1; ⟨o, hk it (by simp) o ho, r⟩, st.2⟩,
      fun j s Q E hj st _ => absurd st.2 (by omega), fun s Q E st hE => ?_⟩, k, Nat.le_refl _⟩
    have st1 := st.1
    cases ha : x.cps.all (· < 128)
    · simp only [strIterType, ha, Bool.false_eq_true, if_false] at st1
      exact wpAny_nextOf_wide_end hh st1 (by simp; omega) hE
    · simp only [strIterType, ha, if_true] at st1
      exact wpAny_nextOf_ascii_end hh st1 (by simp; omega) hE
end
def Itz2 (K : PySem.W.Frag) (f g : Hf) : It :=
  ⟨fun i H => f.go K i H ∧ g.go K i H, fun i H v H' => ∃ T x y, v = .ref T ∧ H T = none ∧ H' = upd H T (.tup [x, y]) ∧ f.at_ K i H x ∧ g.at_ K i H y,
    fun i H => (f.go K i H ∨ f.stop K i H) ∧ (g.go K i H ∨ g.stop K i H) ∧ (f.stop K i H ∨ g.stop K i H)⟩
theorem turn_zip2 {P : Program} {w : World} {K : PySem.W.Frag} {elts : List Expr} {kk : Nat} {tpos : Pos} {f g : Hf} {z TI TO i1 i2 : Addr} (D : ZipSep2 z TI TO i1 i2 (i1 :: f.dt) (i2 :: g.dt)) (d1 : i1 ∉ f.dt) (d2 : i2 ∉ g.dt) :
    Turn P w K (.Tuple elts kk tpos) (Itz2 K f g) [z, TI, TO, i1, i2] z (fun i h => IsZip h z TI TO .none ∧ IsTupOf2 h TI (.ref i1) (.ref i2) ∧ (∃ x y, IsTupOf2 h TO x y) ∧ f.kn i1 i h ∧ g.kn i2 i h) where
  mem := by simp
  obj := fun i h st c hc => by
    obtain ⟨hz, hTI, ⟨x, y, hTO⟩, k1, k2⟩ := st
    have e' : c = z ∨ c = TI ∨ c = TO ∨ c = i1 ∨ c = i2 := by simpa using hc
    rcases e' with q | q | q | q | q
    · rw [q]; exact ⟨_, hz, fun v q => nomatch q⟩
    · rw [q]; exact ⟨_, hTI, fun v q => nomatch q⟩
    · rw [q]; exact ⟨_, hTO, fun v q => nomatch q⟩
    · rw [q]; exact Hf.obj k1
    · rw [q]; exact Hf.obj k2
  keep := fun i h h' st k => by
    obtain ⟨hz, hTI, ⟨x, y, hTO⟩, h1, h2⟩ := st
    exact ⟨k z (by simp) _ hz, k TI (by simp) _ hTI, ⟨x, y, k TO (by simp) _ hTO⟩, Hf.keep h1 fun o q => k i1 (by simp) o q, Hf.keep h2 fun o q => k i2 (by simp) o q⟩
  item := by
    intro X hP hw hK hc i pins s σ H E I hf st hg
    subst hP hw hK
    obtain ⟨hz, hTI, ⟨x0, y0, hTO⟩, h1, h2⟩ := st
    obtain ⟨g1, g2⟩ := hg
    obtain ⟨n1, P1, S1, D1, s1, l1, b1, c1⟩ := half_go hc I d1 h1 g1
    obtain ⟨n2, P2, S2, D2, s2, l2, b2, c2⟩ := half_go hc I d2 h2 g2
    have hzl : z < s.heap.objs.size := Heap.lt_size hz
    refine wpAny_pyNext_zipD2_item D D1 D2 hz hTI hTO s1 s2 l1 l2 fun u u2 h' tk p1 p2 z' TO' h1' h2' hT hsz hk => ?_
    obtain ⟨x, ru, hx⟩ := c1 u p1
    obtain ⟨y, ru2, hy⟩ := c2 u2 p2
    refine ⟨_, rfl, wpAny_letOwnedTupleGo_zip (s := { s with heap := h', toks := tk }) z' fun h'' z'' sb => ?_⟩
    have hT2 : h''.get? s.heap.objs.size = some { cls := .type "tuple", data := .seq #[u, u2] } := (sb.2 _ (Nat.ne_of_gt hzl)).trans hT
    have new : ObjOk X.prog X.w (upd H s.heap.objs.size (.tup [x, y])) h'' s.heap.objs.size (.tup [x, y]) :=
      ⟨by show 2 ≤ sizeLine; decide, [u, u2], .cons ru (.cons ru2 .nil), ⟨_, hT2, rfl, _, rfl⟩⟩
    have I1 : Inv X pins σ (upd H s.heap.objs.size (.tup [x, y])) { s with heap := h'', toks := tk } :=
      I.turnedNew (t' := tk) (ch := [z, TI, TO, i1, i2]) (fun c o hb q => (sb.2 c (fun q' => hb (by simp [q']))).trans (hk c o (fun q' => hb (by simp [q'])) (fun q' => hb (by simp [q'])) (fun q' => hb (by simp [q'])) (fun q' => hb (by simp [q'])) q)) hf (Nat.le_refl _) new
    refine ⟨.ref s.heap.objs.size, _, I1, rfl, ⟨_, x, y, rfl, I.hok.fresh (Nat.le_refl _), rfl, hx, hy⟩, ⟨z'', ?_, ⟨u, u2, ?_⟩, ?_, ?_⟩, fun c hcm => ?_⟩
    · exact (sb.2 _ D.TIz).trans (hk _ _ D.TIz D.TITO D.TIi1 D.TIi2 hTI)
    · exact (sb.2 _ D.TOz).trans TO'
    · exact Hf.keep (b1 _ _ h1') fun o q => (sb.2 _ (Ne.symm D.zi1)).trans q
    · exact Hf.keep (b2 _ _ h2') fun o q => (sb.2 _ (Ne.symm D.zi2)).trans q
    · have hlt : c < s.heap.objs.size := by
        have e' : c = z ∨ c = TI ∨ c = TO ∨ c = i1 ∨ c = i2 := by simpa using hcm
        rcases e' with q | q | q | q | q
        · rw [q]; exact hzl
        · rw [q]; exact Heap.lt_size hTI
        · rw [q]; exact Heap.lt_size hTO
        · rw [q]; obtain ⟨_, e1, _⟩ := Hf.obj h1; exact Heap.lt_size e1
        · rw [q]; obtain ⟨_, e1, _⟩ := Hf.obj h2; exact Heap.lt_size e1
      rw [upd_ne (Nat.ne_of_lt hlt)]
      exact (hf c hcm).1
  done := by
    intro X hP hw hK hc i pins s σ H E I hf st hg
    subst hP hw hK
    obtain ⟨hz, hTI, ⟨x0, y0, hTO⟩, h1, h2⟩ := st
    obtain ⟨g1, g2, hend⟩ := hg
    have fin : ∀ h' tk, (∀ c o, c ≠ z → c ≠ TO → c ≠ i1 → c ≠ i2 → s.heap.get? c = some o → h'.get? c = some o) → (none : Option Value) = none ∧ Inv X pins σ H { s with heap := h', toks := tk } := fun h' tk hk =>
      ⟨rfl, I.turnedL (t' := tk) (ch := [z, TI, TO, i1, i2]) (fun c o hb q => hk c o (fun q' => hb (by simp [q'])) (fun q' => hb (by simp [q'])) (fun q' => hb (by simp [q'])) (fun q' => hb (by simp [q'])) q) hf⟩
    have lv : ∀ {it : Addr} {e : Hf}, it ∉ e.dt → e.kn it i s.heap → (e.go X.K i H ∨ e.stop X.K i H) → ∃ (n : Nat) (P : Nat → Value → Prop) (St : Nat → Heap → Prop), Draws X.prog X.w X.A.in1 it (it :: e.dt) n P St ∧ St i s.heap ∧ i ≤ n := fun {it e} d k q => by
      rcases q with q | q
      · obtain ⟨n, P, S, D, s', l, _⟩ := half_go hc I d k q
        exact ⟨n, P, S, D, s', Nat.le_of_lt l⟩
      · obtain ⟨P, S, D, s'⟩ := half_stop hc I k q
        exact ⟨i, P, S, D, s', Nat.le_refl _⟩
    rcases hend with q | q
    · obtain ⟨P1, S1, D1, s1⟩ := half_stop hc I h1 q
      obtain ⟨n2, P2, S2, D2, s2, l2⟩ := lv d2 h2 g2
      exact wpAny_pyNext_zipD2_end D D1 D2 hz hTI hTO s1 s2 (Nat.le_refl _) l2 (.inl rfl) fin
    · obtain ⟨n1, P1, S1, D1, s1, l1⟩ := lv d1 h1 g1
      obtain ⟨P2, S2, D2, s2⟩ := half_stop hc I h2 q
      exact wpAny_pyNext_zipD2_end D D1 D2 hz hTI hTO s1 s2 l1 (Nat.le_refl _) (.inr rfl) fin
  self := fun A i s Q E st h => wpAny_pyIter_zip st.1 h
/-- what is walked on one side -/
def Src (K : PySem.W.Frag) (H : Hp) (x : V) : Hf → Prop
  | .l a => x = .ref a ∧ ∃ xs, SqL K H a xs
  | .t a => x = .ref a ∧ ∃ xs, SqT K H a xs
  | .s y => x = .str y
def iZip2 (K : PySem.W.Frag) (ta : TA) : TI := fun σ H R => ta σ H fun vs H1 => ∃ x y f g, vs = [x, y] ∧ Src K H1 x f ∧ Src K H1 y g ∧ R (Itz2 K f g) H1
theorem src_begins {X : Cx} {pins : List (Addr × Obj)} {σ : L2.St} {H : Hp} {s : Shared} (I : Inv X pins σ H s) {x : V} {u : Value} {f : Hf} (h : Src X.K H x f) (r : RelV x u) :
    ∃ (o : Obj) (Q : Heap → Prop), Begins u o Q ∧ Q s.heap ∧ (∀ h' it, h'.get? it = some o → f.kn it 0 h') ∧ ∀ a ∈ f.dt, a < s.heap.objs.size := by
  cases f with
  | l a =>
    obtain ⟨rfl, xs, hq⟩ := h
    obtain rfl : u = Value.ref a := r
    obtain ⟨its, rv, p, _⟩ := I.list hq
    exact ⟨_, _, begins_list a its.toArray, p.isList, fun h' it e => ⟨_, e, rfl, rfl⟩, fun b hb => by
      have : b = a := by simpa [Hf.dt] using hb
      subst this; exact p.lt⟩
  | t a =>
    obtain ⟨rfl, xs, hq⟩ := h
    obtain rfl : u = Value.ref a := r
    obtain ⟨its, rv, p, _⟩ := I.tuple hq
    exact ⟨_, _, begins_tuple a its.toArray, p, fun h' it e => ⟨_, e, rfl, rfl⟩, fun b hb => by
      have : b = a := by simpa [Hf.dt] using hb
      subst this; obtain ⟨_, e, _⟩ := p; exact Heap.lt_size e⟩
  | s y =>
    obtain rfl : x = .str y := h
    obtain ⟨t, rfl⟩ := r
    exact ⟨_, _, begins_text y t, trivial, fun h' it e => ⟨t, _, e, rfl, rfl⟩, fun b hb => by simp [Hf.dt] at hb⟩
theorem pi_zip2 {X : Cx} {e e2 : Expr} {ta : TA} {p pos tpos : Pos} {elts : List Expr} {kk : Nat} (hg : Gl X "zip") (hm : X.mg "zip" = none) (ha : PA X [e, e2] ta)
    (hs : starEach [e, e2] X.env = (false, eval e X.env) :: starEach [e2] X.env := by rfl) (hpl : (backTo pos (starEach [e2] X.env)).any (·.1) = false := by rfl) :
    PI X (.Tuple elts kk tpos) (.Call (.Name "zip" p) [e, e2] [] pos) (iZip2 X.K ta) := by
  refine ⟨fun pins s σ H R I h => ?_⟩
  refine Call_ (ld_blt I hg hm PyProof.Rows.boot_zip (PyProof.Rows.callWith_type1 (thn (ha.run pos pins s σ H _ I h) fun us s1 ⟨vs, H1, I1, r1, q1⟩ => ?_) hs hpl))
  obtain ⟨x, y, f, g, ex, sx, sy, q⟩ := q1
  subst ex
  cases r1 with
  | cons r rr =>
    cases rr with
    | cons r' rr =>
      cases rr
      obtain ⟨o1, Q1, B1, q1, k1, l1⟩ := src_begins I1 sx r
      obtain ⟨o2, Q2, B2, q2, k2, l2⟩ := src_begins I1 sy r'
      refine zip_begins2 B1 B2 q1 q2 fun h' hz hTI hTO e1 e2 hsz hk => wpAny_pyIter_zip hz ?_
      have I2 : Inv X pins σ H1 { s1 with heap := h' } := I1.kept (t' := s1.toks) hk
      refine ⟨s1.heap.objs.size + 4, [s1.heap.objs.size + 4, s1.heap.objs.size + 2, s1.heap.objs.size + 3, s1.heap.objs.size, s1.heap.objs.size + 1], _, _, H1, rfl, I2, turn_zip2 (zip_sep2 l1 l2) (fun z => Nat.lt_irrefl _ (l1 _ z)) (fun z => absurd (l2 _ z) (Nat.not_lt.mpr (Nat.le_succ _))), ⟨hz, hTI, ⟨_, _, hTO⟩, k1 _ _ e1, k2 _ _ e2⟩, fun c hcm => ?_, q⟩
      have e' : c = s1.heap.objs.size + 4 ∨ c = s1.heap.objs.size + 2 ∨ c = s1.heap.objs.size + 3 ∨ c = s1.heap.objs.size ∨ c = s1.heap.objs.size + 1 := by simpa using hcm
      have hle : s1.heap.objs.size ≤ c := by
        rcases e' with z | z | z | z | z
        · rw [z]; exact Nat.le_add_right _ _
        · rw [z]; exact Nat.le_add_right _ _
        · rw [z]; exact Nat.le_add_right _ _
        · rw [z]; exact Nat.le_refl _
        · rw [z]; exact Nat.le_add_right _ _
      exact I1.fpOk hle (I1.hok.fresh hle)
/-! over data -/
/-- the items of what is walked, and what must stay so -/
def itemsOf (own : Own) (d : D) : Option (List D × (Own → Prop)) := match see own d with
  | .lst ds => some (ds, fun o' => see o' d = .lst ds)
  | .tup ds => some (ds, fun _ => True)
  | .str x => if x.cps.size ≤ sizeLine then some (signs x, fun _ => True) else none
  | _ => none
structure HalfOk (K : PySem.W.Frag) (w1 : Wd) (f : Hf) (ds : List D) (gd : Own → Prop) : Prop where
  len : ds.length ≤ sizeLine
  at_ : ∀ i (w : Wd), w.Ok K → Sub w1.G w.G → gd w.own → (i < ds.length → f.go K i w.H) ∧ (ds.length ≤ i → f.stop K i w.H)
  yld : ∀ i (w : Wd) x, w.Ok K → Sub w1.G w.G → gd w.own → i < ds.length → f.at_ K i w.H x → ∃ d, ds[i]? = some d ∧ Dt K w.G d x
theorem half_of {K : PySem.W.Frag} {w : Wd} {d : D} {v : V} {ds : List D} {gd : Own → Prop} (ok : w.Ok K) (h : Dt K w.G d v) (e : itemsOf w.own d = some (ds, gd)) : ∃ f, Src K w.H v f ∧ HalfOk K w f ds gd := by
  unfold itemsOf at e
  have sv := see_ok ok h
  cases hs : see w.own d with
  | lst es =>
    rw [hs] at e sv
    cases e
    obtain ⟨a, vs, rfl, e2, e3⟩ := sv
    have at_ : ∀ (w' : Wd), w'.Ok K → Sub w.G w'.G → see w'.own d = .lst ds → ∃ vs, SqL K w'.H a vs ∧ Dts K w'.G ds vs := fun w' ok' sb e => by
      have sv := see_ok ok' (h.mono sb)
      rw [e] at sv
      obtain ⟨b, vs, e1, e2, e3⟩ := sv
      cases e1
      exact ⟨vs, .inl e2, e3⟩
    refine ⟨.l a, ⟨rfl, vs, .inl e2⟩, ⟨by rw [← (at_ w ok (Sub.refl _) hs).choose_spec.2.length]; exact sqL_sz ok (at_ w ok (Sub.refl _) hs).choose_spec.1, fun i w' ok' sb e => ?_, fun i w' x ok' sb e hi hy => ?_⟩⟩
    · obtain ⟨us, a1, a2⟩ := at_ w' ok' sb e
      refine ⟨fun hi => ?_, fun hi => ⟨us, a1, by rw [a2.length]; exact hi⟩⟩
      obtain ⟨x, b1, _⟩ := a2.get (List.getElem?_eq_getElem hi)
      exact ⟨us, x, a1, b1⟩
    · obtain ⟨us, a1, a2⟩ := at_ w' ok' sb e
      exact a2.get' (hy us a1)
  | tup es =>
    rw [hs] at e
    cases e
    have hd : d = .tup ds := see_tup hs
    subst hd
    have at_ : ∀ (w' : Wd), w'.Ok K → Sub w.G w'.G → ∃ a vs, v = .ref a ∧ SqT K w'.H a vs ∧ Dts K w'.G ds vs := fun w' ok' sb => see_ok ok' (h.mono sb)
    obtain ⟨a, vs, rfl, e2, e3⟩ := at_ w ok (Sub.refl _)
    refine ⟨.t a, ⟨rfl, vs, e2⟩, ⟨by rw [← e3.length]; exact sqT_sz ok e2, fun i w' ok' sb e => ?_, fun i w' x ok' sb e hi hy => ?_⟩⟩
    · obtain ⟨b, us, eb, a1, a2⟩ := at_ w' ok' sb
      cases eb
      refine ⟨fun hi => ?_, fun hi => ⟨us, a1, by rw [a2.length]; exact hi⟩⟩
      obtain ⟨x, b1, _⟩ := a2.get (List.getElem?_eq_getElem hi)
      exact ⟨us, x, a1, b1⟩
    · obtain ⟨b, us, eb, a1, a2⟩ := at_ w' ok' sb
      cases eb
      exact a2.get' (hy us a1)
  | str x =>
    rw [hs] at e sv
    change Dt K w.G (.str x) v at sv
    unfold Dt at sv; subst sv
    by_cases hz : x.cps.size ≤ sizeLine
    · simp only [hz, if_true] at e
      cases e
      have hl : (signs x).length = x.cps.size := by simp [signs]
      refine ⟨.s x, rfl, ⟨by rw [hl]; exact hz, fun i w' ok' sb e => ⟨fun hi => by show i < x.cps.size; omega, fun hi => by show x.cps.size ≤ i; omega⟩, fun i w' v ok' sb e hi hy => ?_⟩⟩
      obtain ⟨c, e1, rfl⟩ := hy
      refine ⟨.str ⟨#[c]⟩, ?_, by unfold Dt; rfl⟩
      unfold signs
      rw [List.getElem?_map, Array.getElem?_toList, e1]; rfl
    · simp only [hz, if_false] at e; cases e
  | non => rw [hs] at e; cases e
  | bl _ => rw [hs] at e; cases e
  | int _ => rw [hs] at e; cases e
  | ty _ => rw [hs] at e; cases e
  | kls _ => rw [hs] at e; cases e
  | dct _ => rw [hs] at e; cases e
  | ref _ => rw [hs] at e; cases e
def zipD (as bs : List D) : List D := List.zipWith (fun a b => .tup [a, b]) as bs
def aZip (ta : ATA) : ATI := fun env own P => ta env own fun ds o => match ds with
  | [d, e] => ∃ as ga bs gb, itemsOf o d = some (as, ga) ∧ itemsOf o e = some (bs, gb) ∧ P (zipD as bs) (fun o' => ga o' ∧ gb o') o
  | _ => False
theorem walks_zip {K : PySem.W.Frag} {w : Wd} {f g : Hf} {as bs : List D} {ga gb : Own → Prop} (h1 : HalfOk K w f as ga) (h2 : HalfOk K w g bs gb) : Walks K w (Itz2 K f g) (zipD as bs) (fun o => ga o ∧ gb o) := by
  have hl : (zipD as bs).length = min as.length bs.length := by simp [zipD]
  refine ⟨by rw [hl]; have := h1.len; omega, fun i w' ok' sb e hi => ⟨(h1.at_ i w' ok' sb e.1).1 (by omega), (h2.at_ i w' ok' sb e.2).1 (by omega)⟩, fun w' ok' sb e => ?_, fun i w' x H' ok' sb e hi hy => ?_⟩
  · rw [hl]
    have q1 := h1.at_ (min as.length bs.length) w' ok' sb e.1
    have q2 := h2.at_ (min as.length bs.length) w' ok' sb e.2
    refine ⟨?_, ?_, ?_⟩
    · by_cases z : as.length ≤ min as.length bs.length
      · exact .inr (q1.2 z)
      · exact .inl (q1.1 (by omega))
    · by_cases z : bs.length ≤ min as.length bs.length
      · exact .inr (q2.2 z)
      · exact .inl (q2.1 (by omega))
    · by_cases z : as.length ≤ min as.length bs.length
      · exact .inl (q1.2 z)
      · exact .inr (q2.2 (by omega))
  · obtain ⟨T, a, b, rfl, hT, rfl, ya, yb⟩ := hy
    obtain ⟨da, e1, r1⟩ := h1.yld i w' a ok' sb e.1 (by omega) ya
    obtain ⟨db, e2, r2⟩ := h2.yld i w' b ok' sb e.2 (by omega) yb
    obtain ⟨w2, a1, a2, a3, a4, a5⟩ := newTup (ds := [da, db]) (vs := [a, b]) ok' hT (.cons r1 (.cons r2 .nil)) (by show 2 ≤ sizeLine; decide)
    exact ⟨.tup [da, db], w2, by simp [zipD, List.getElem?_zipWith, e1, e2], a1, a2, a3, a4, a5⟩
section
variable {X : Cx} {w0 : Wd} {ta : ATA} {p pos tpos : Pos} {e e2 : Expr} {elts : List Expr} {kk : Nat}
theorem ai_zip (hg : Gl X "zip") (hm : X.mg "zip" = none) (ha : AA X w0 [e, e2] ta)
    (hs : starEach [e, e2] X.env = (false, eval e X.env) :: starEach [e2] X.env := by rfl) (hpl : (backTo pos (starEach [e2] X.env)).any (·.1) = false := by rfl) :
    AI X w0 (.Tuple elts kk tpos) (.Call (.Name "zip" p) [e, e2] [] pos) (aZip ta) := pi_of (pi_zip2 hg hm ha hs hpl) fun σ H R h => by
  obtain ⟨env, w, rfl, ok, tr0, er, P, h, k⟩ := h
  refine ⟨env, w, rfl, ok, tr0, er, _, h, fun ds w1 vs h1 t1 ok1 dv => ?_⟩
  match ds, h1, dv with
  | [d, e], h1, dv =>
    obtain ⟨v, u, rfl, d1, d2⟩ := dts_two dv
    obtain ⟨as, ga, bs, gb, i1, i2, h2⟩ := h1
    obtain ⟨f, s1, o1⟩ := half_of ok1 d1 i1
    obtain ⟨g, s2, o2⟩ := half_of ok1 d2 i2
    exact ⟨v, u, f, g, rfl, s1, s2, k _ _ w1 _ h2 t1 ok1 (walks_zip o1 o2)⟩
end
end L3

namespace L3
open PySem PySem.Spec PyProof.Rows L2
/-! ### x in xs, whatever they hold -/
def askD (d : D) : Prop := eqOk d = true ∧ (toPy d).depth ≤ 64
def memD (d : D) (ds : List D) : Bool := ds.any fun z => deq z d
def fInD (neg : Bool) : BinF := fun own d e P => match see own e with
  | .lst ds => askD (see own d) ∧ askD (.lst ds) ∧ P (.bl (if neg then !memD (see own d) ds else memD (see own d) ds))
  | .tup ds => askD (see own d) ∧ askD (.tup ds) ∧ P (.bl (if neg then !memD (see own d) ds else memD (see own d) ds))
  | _ => False
def rInDD (K : PySem.W.Frag) (neg : Bool) : R2 := fun x y H Q => ∃ d ds e, Dp K H x d ∧ Dp K H y e ∧ (e = .list ds ∨ e = .tuple ds) ∧ SeqAt.shaped d = true ∧ SeqAt.shaped e = true ∧ Q (.bl (if neg then !(ds.any fun z => PyData.eqv z d) else ds.any fun z => PyData.eqv z d)) H
theorem memD_py (d : D) : ∀ ds : List D, (toPys ds).any (fun z => PyData.eqv z (toPy d)) = memD d ds
  | [] => by unfold toPys memD; rfl
  | e :: ds => by
    have := memD_py d ds
    unfold toPys
    unfold memD at this ⊢
    rw [List.any_cons, List.any_cons, this]; rfl
theorem os_inD {K : PySem.W.Frag} (neg : Bool) : OpS K (rInDD K neg) (fInD neg) := by
  intro w d e x y P Q ok dx dy h k
  have sx := see_ok ok dx
  have sy := see_ok ok dy
  unfold fInD at h
  generalize see w.own d = d' at h sx
  generalize see w.own e = e' at h sy
  cases e' with
  | lst ds =>
    refine ⟨toPy d', toPys ds, .list (toPys ds), dv_dp ok h.1.1 sx, ?_, .inl rfl, shaped_of h.1.1 h.1.2, ?_, ?_⟩
    · have := dv_dp ok h.2.1.1 sy; unfold toPy at this; exact this
    · have := shaped_of h.2.1.1 h.2.1.2; unfold toPy at this; exact this
    · rw [memD_py]; exact ops_val ok k h.2.2 (dt_bl.mpr rfl)
  | tup ds =>
    refine ⟨toPy d', toPys ds, .tuple (toPys ds), dv_dp ok h.1.1 sx, ?_, .inr rfl, shaped_of h.1.1 h.1.2, ?_, ?_⟩
    · have := dv_dp ok h.2.1.1 sy; unfold toPy at this; exact this
    · have := shaped_of h.2.1.1 h.2.1.2; unfold toPy at this; exact this
    · rw [memD_py]; exact ops_val ok k h.2.2 (dt_bl.mpr rfl)
  | _ => exact (h : False).elim
section
variable {X : Cx} {w0 : Wd} {a b c : Expr} {ta tb tc : ATE} {pos : Pos} {k : Nat}
theorem op_inDD (hr : Room k X.A) : OpR X (compareOp .In) (rInDD X.K false) := by
  intro pins s σ H x y v u Q I rx ry h
  obtain ⟨d, ds, e, hd, he, z, sd, se, q⟩ := h
  have hu : X.A.units + 65 < cLine := by have h1 := hr.units; have h2 := hr.un; omega
  rcases z with rfl | rfl
  · exact L2.op_inD hu pins s σ H x y v u Q I rx ry ⟨d, ds, hd, he, sd, se, q⟩
  · obtain ⟨as, r1⟩ := Dp.reads I d x v hd rx
    obtain ⟨bs, r2⟩ := Dp.reads I (.tuple ds) y u he ry
    exact SeqAt.in_tuple_reads r2 r1 (SeqAt.canLay_of_shaped se) (SeqAt.canLay_of_shaped sd) (room_in_shaped sd hu) ⟨.bl _, H, I, rfl, q⟩
theorem op_notInDD (hr : Room k X.A) : OpR X (compareOp .NotIn) (rInDD X.K true) := by
  intro pins s σ H x y v u Q I rx ry h
  obtain ⟨d, ds, e, hd, he, z, sd, se, q⟩ := h
  have hu : X.A.units + 65 < cLine := by have h1 := hr.units; have h2 := hr.un; omega
  rcases z with rfl | rfl
  · exact L2.op_notInD hu pins s σ H x y v u Q I rx ry ⟨d, ds, hd, he, sd, se, q⟩
  · obtain ⟨as, r1⟩ := Dp.reads I d x v hd rx
    obtain ⟨bs, r2⟩ := Dp.reads I (.tuple ds) y u he ry
    exact SeqAt.notIn_tuple_reads r2 r1 (SeqAt.canLay_of_shaped se) (SeqAt.canLay_of_shaped sd) (room_in_shaped sd hu) ⟨.bl _, H, I, rfl, q⟩
theorem ae_inD (hr : Room k X.A) (ha : AE X w0 a ta) (hb : AE X w0 b tb) (hm : behindInMarks .In b = false := by rfl) : AE X w0 (.Compare a [.In] [b] pos) (aBin (fInD false) ta tb) := ae_cmp (op_inDD hr) (os_inD false) ha hb hm
theorem ae_notinD (hr : Room k X.A) (ha : AE X w0 a ta) (hb : AE X w0 b tb) (hm : behindInMarks .NotIn b = false := by rfl) : AE X w0 (.Compare a [.NotIn] [b] pos) (aBin (fInD true) ta tb) := ae_cmp (op_notInDD hr) (os_inD true) ha hb hm
theorem at_inD (hr : Room k X.A) (ha : AE X w0 a ta) (hb : AE X w0 b tb) (hm : behindInMarks .In b = false := by rfl) : AT X w0 (.Compare a [.In] [b] pos) (aB (aBin (fInD false) ta tb)) := at_cmp (op_inDD hr) (os_inD false) ha hb hm
theorem at_notinD (hr : Room k X.A) (ha : AE X w0 a ta) (hb : AE X w0 b tb) (hm : behindInMarks .NotIn b = false := by rfl) : AT X w0 (.Compare a [.NotIn] [b] pos) (aB (aBin (fInD true) ta tb)) := at_cmp (op_notInDD hr) (os_inD true) ha hb hm
/-! ### a op b op c -/
def aChain (f g : BinF) (ta tb tc : ATE) : ATE := fun env own P => ta env own fun x o1 => tb env o1 fun y o2 => f o2 x y fun z => match z with
  | .bl true => tc env o2 fun v o3 => g o3 y v fun r => P r o3
  | .bl false => P (.bl false) o2
  | _ => False
theorem chain_of {r r' : R2} {f g : BinF} {σ : L2.St} {H : Hp} {Q : VK} (hf : OpS X.K r f) (hg : OpS X.K r' g) (h : concE X.K w0 (aChain f g ta tb tc) σ H Q) : tChain r r' (concE X.K w0 ta) (concE X.K w0 tb) (concE X.K w0 tc) σ H Q := by
  obtain ⟨env, w, rfl, ok, tr0, er, P, h, k⟩ := h
  refine ⟨env, w, rfl, ok, tr0, er, _, h, fun d w1 x h1 t1 ok1 dx => ?_⟩
  refine ⟨env, w1, rfl, ok1, tr0.trans t1, er.mono t1.gs, _, h1, fun e w2 y h2 t2 ok2 dy => ?_⟩
  refine hf w2 d e x y _ _ ok2 (dx.mono t2.gs) dy h2 fun z w3 v pz ho t3 ok3 dz => ?_
  match z, pz, dz with
  | .bl false, pz, dz =>
    refine ⟨false, dt_bl.mp dz, ?_⟩
    rw [if_neg (by simp)]
    exact k (.bl false) w3 _ (by rw [ho]; exact pz) ((t1.trans t2).trans t3) ok3 (dt_bl.mpr rfl)
  | .bl true, pz, dz =>
    refine ⟨true, dt_bl.mp dz, ?_⟩
    rw [if_pos rfl]
    refine ⟨env, w3, rfl, ok3, ((tr0.trans t1).trans t2).trans t3, ((er.mono t1.gs).mono t2.gs).mono t3.gs, _, by rw [ho]; exact pz, fun v' w4 z' h4 t4 ok4 dz' => ?_⟩
    exact hg w4 e v' y z' _ Q ok4 ((dy.mono t3.gs).mono t4.gs) dz' h4 fun z w5 v pz ho t5 ok5 dz => k z w5 v (by rw [ho]; exact pz) ((((t1.trans t2).trans t3).trans t4).trans t5) ok5 dz
theorem ae_chain {op op' : CmpOp} {r r' : R2} {f g : BinF} (ho : OpR X (compareOp op) r) (ho' : OpR X (compareOp op') r') (hf : OpS X.K r f) (hg : OpS X.K r' g) (ha : AE X w0 a ta) (hb : AE X w0 b tb) (hc : AE X w0 c tc)
    (hm : lastMarks [op, op'] [b, c] = false := by with_unfolding_all rfl) : AE X w0 (.Compare a [op, op'] [b, c] pos) (aChain f g ta tb tc) := pe_of (pe_chain ho ho' ha hb hc hm) fun _ _ _ h => chain_of hf hg h
theorem at_chain {op op' : CmpOp} {r r' : R2} {f g : BinF} (ho : OpR X (compareOp op) r) (ho' : OpR X (compareOp op') r') (hf : OpS X.K r f) (hg : OpS X.K r' g) (ha : AE X w0 a ta) (hb : AE X w0 b tb) (hc : AE X w0 c tc)
    (hm : lastMarks [op, op'] [b, c] = false := by with_unfolding_all rfl) : AT X w0 (.Compare a [op, op'] [b, c] pos) (aB (aChain f g ta tb tc)) := pt_of (pt_chain ho ho' ha hb hc hm) fun σ H Q h => by
  obtain ⟨env, w, rfl, ok, tr0, er, P, h, k⟩ := h
  refine chain_of hf hg ⟨env, w, rfl, ok, tr0, er, _, h, fun d w1 x h1 t1 ok1 dx => ?_⟩
  cases d with
  | bl b => unfold Dt at dx; exact ⟨b, dx, k b w1 h1 t1 ok1⟩
  | _ => exact (h1 : False).elim
@[simp] theorem x_chain {f g : BinF} {env : AEnv} {own : Own} {P : D → Own → Prop} : aChain f g ta tb tc env own P = ta env own fun x o1 => tb env o1 fun y o2 => f o2 x y fun z => match z with
  | .bl true => tc env o2 fun v o3 => g o3 y v fun r => P r o3
  | .bl false => P (.bl false) o2
  | _ => False := (rfl)
theorem op_leI {X : Cx} : OpR X (compareOp .LtE) (rI C0 fun i j => .bl (decide (i ≤ j))) := rI_of0 op_le
end
/-! ### max, min of two -/
def fMax2 : CallF := fun own ds P => match ds with
  | [.int i, .int j] => P (.int (if j > i then j else i))
  | _ => False
def fMin2 : CallF := fun own ds P => match ds with
  | [.int i, .int j] => P (.int (if j < i then j else i))
  | _ => False
section
variable {X : Cx} {w0 : Wd} {e : Expr} {es : List Expr} {ta : ATA} {p pos : Pos}
theorem ae_max2 (hc : X.calm = true) (hg : Gl X "max") (hm : X.mg "max" = none) (ha : AA X w0 (e :: es) ta) (he : starEach (e :: es) X.env = (false, eval e X.env) :: starEach es X.env := by rfl) (hpl : (backTo pos (starEach es X.env)).any (·.1) = false := by rfl) : AE X w0 (.Call (.Name "max" p) (e :: es) [] pos) (aFn fMax2 ta) :=
  ae_callB (call_max2 hc) (fun w ds xs P Q ok dv h k => by
    unfold fMax2 at h
    split at h
    · obtain ⟨v, u, rfl, d1, d2⟩ := dts_two dv
      exact ⟨_, _, by rw [dt_int.mp d1, dt_int.mp d2], ops_val ok k h (dt_int.mpr rfl)⟩
    · exact h.elim) hg hm (by decide +kernel) ha (by decide) (by decide) he hpl
theorem ae_min2 (hc : X.calm = true) (hg : Gl X "min") (hm : X.mg "min" = none) (ha : AA X w0 (e :: es) ta) (he : starEach (e :: es) X.env = (false, eval e X.env) :: starEach es X.env := by rfl) (hpl : (backTo pos (starEach es X.env)).any (·.1) = false := by rfl) : AE X w0 (.Call (.Name "min" p) (e :: es) [] pos) (aFn fMin2 ta) :=
  ae_callB (call_min2 hc) (fun w ds xs P Q ok dv h k => by
    unfold fMin2 at h
    split at h
    · obtain ⟨v, u, rfl, d1, d2⟩ := dts_two dv
      exact ⟨_, _, by rw [dt_int.mp d1, dt_int.mp d2], ops_val ok k h (dt_int.mpr rfl)⟩
    · exact h.elim) hg hm (by decide +kernel) ha (by decide) (by decide) he hpl
end
@[simp] theorem x_max2 {own : Own} {i j : Int} {Q : D → Prop} : fMax2 own [.int i, .int j] Q = Q (.int (if j > i then j else i)) := (rfl)
@[simp] theorem x_min2 {own : Own} {i j : Int} {Q : D → Prop} : fMin2 own [.int i, .int j] Q = Q (.int (if j < i then j else i)) := (rfl)
/-! ### the module's constants -/
structure GloD (K : PySem.W.Frag) (mg : Str → Option Value) (x : Str) (d : D) : Prop where
  ex : ∃ u v, mg x = some u ∧ RelV v u ∧ ∀ G, Dt K G d v
theorem ae_gloD {X : Cx} {w0 : Wd} {x : Str} {d : D} {pos : Pos} (hg : Gl X x) (h : GloD X.K X.mg x d) (hdb : (x == ("__debug__" : Str)) = false := by decide) : AE X w0 (.Name x pos) (aC d) :=
  let ⟨_, _, h1, h2, h3⟩ := h.ex
  ae_glob hg h1 h2 h3 hdb
theorem gloD_ok {K : PySem.W.Frag} {h : Heap} {mg : Str → Option Value} (X : K.In h) (G : h.Ns mainGlobals mg) {x : Str} {d : D} (c : gloB K x d = true) : GloD K mg x d := by
  unfold gloB at c
  cases e : PySem.W.nsIn K mainGlobals x with
  | none => rw [e] at c; cases c
  | some r =>
    rw [e] at c
    cases r with
    | none => cases c
    | some u =>
      obtain ⟨v, r1, r2⟩ := dtB_ok (show dtB K d u = true from c)
      exact ⟨u, v, PySem.W.mg_of X G e, r1, r2⟩
/-! ### keywords in any order, defaults that fill up -/
def arr {α : Type} (pm : List Nat) (l : List α) : List α := pm.filterMap (l[·]?)
theorem arr_rel {pm : List Nat} {vs : List V} {us : List Value} (r : Vals vs us) : Vals (arr pm vs) (arr pm us) := by
  unfold arr
  induction pm with
  | nil => exact .nil
  | cons i pm ih =>
    rw [List.filterMap_cons, List.filterMap_cons]
    have hl := r.length
    cases e : vs[i]? with
    | none =>
      have : us[i]? = none := by rw [List.getElem?_eq_none_iff] at e ⊢; omega
      rw [this]; exact ih
    | some v =>
      obtain ⟨u, e2, r2⟩ := r.get e
      rw [e2]; exact .cons r2 ih
theorem arr_dts {K : PySem.W.Frag} {G : Hp} {pm : List Nat} {ds : List D} {vs : List V} (r : Dts K G ds vs) : Dts K G (arr pm ds) (arr pm vs) := by
  unfold arr
  induction pm with
  | nil => unfold Dts; rfl
  | cons i pm ih =>
    rw [List.filterMap_cons, List.filterMap_cons]
    have hl := r.length
    cases e : ds[i]? with
    | none =>
      have : vs[i]? = none := by rw [List.getElem?_eq_none_iff] at e ⊢; omega
      rw [this]; exact ih
    | some v =>
      obtain ⟨u, e2, r2⟩ := r.get e
      rw [e2]; exact .cons r2 ih
/-- the def of this name keeps its promise, called with n values and keywords ks; dvs: the defaults that fill up; pm: which goes where -/
structure KnP (P : Program) (w : World) (K : PySem.W.Frag) (mg : Str → Option Value) (base : Heap) (k : Nat) (x : Str) (ps : List Str) (n : Nat) (ks : List Str) (dvs : List D) (pm : List Nat) (S : Spec) : Prop where
  ex : ∃ (f : Addr) (fd : FuncData) (dus : List Value) (dv : List V), mg x = some (.ref f) ∧ PySem.W.keepIn K (.ref f) = true ∧ Vals dv dus ∧ (∀ G, Dts K G dvs dv) ∧ (∀ (s : Shared) (us ws : List Value), K.In s.heap → us.length = n → ws.length = ks.length → BindsTo s fd ⟨us, ks.zip ws⟩ (ps.zip (arr pm (us ++ (ws ++ dus))))) ∧ FnG P w K mg base CX0 k f fd ps (spOf K S)
theorem KnP.mono {P : Program} {w : World} {K : PySem.W.Frag} {mg : Str → Option Value} {base : Heap} {k j : Nat} {x : Str} {ps : List Str} {n : Nat} {ks : List Str} {dvs : List D} {pm : List Nat} {S : Spec} (F : KnP P w K mg base j x ps n ks dvs pm S) (h : j ≤ k) : KnP P w K mg base k x ps n ks dvs pm S :=
  let ⟨f, fd, du, dv, a, b, c, d, e, g⟩ := F.ex
  ⟨f, fd, du, dv, a, b, c, d, e, g.mono h⟩
def aCallP (S : Spec) (n m : Nat) (dvs : List D) (pm : List Nat) (ta tk : ATA) : ATE := fun env own P => ta env own fun ds o => tk env o fun zs o2 => ds.length = n ∧ zs.length = m ∧ S (arr pm (ds ++ (zs ++ dvs))) o2 P
@[simp] theorem x_callP {S : Spec} {n m : Nat} {dvs : List D} {pm : List Nat} {ta tk : ATA} {env : AEnv} {own : Own} {P : D → Own → Prop} : aCallP S n m dvs pm ta tk env own P = ta env own fun ds o => tk env o fun zs o2 => ds.length = n ∧ zs.length = m ∧ S (arr pm (ds ++ (zs ++ dvs))) o2 P := (rfl)
section
variable {X : Cx} {w0 : Wd} {k n m : Nat} {x : Str} {ps ks : List Str} {dvs : List D} {pm : List Nat} {S : Spec} {e : Expr} {es : List Expr} {kws : List Keyword} {ta tk : ATA} {p pos : Pos}
theorem runP {pins : List (Addr × Obj)} {σ : L2.St} {H : Hp} {s : Shared} {Q : VK} {us ws dus : List Value} {vs zs dv : List V} {f : Addr} {fd : FuncData} {sp : Sp} (F : FnG X.prog X.w X.K X.mg X.base CX0 k f fd ps sp) (hr : Room k X.A) (hgd : X.A.guards = some [])
    (hb : BindsTo s fd ⟨us, ks.zip ws⟩ (ps.zip (arr pm (us ++ (ws ++ dus))))) (I : Inv X pins σ H s) (r : Vals vs us) (rz : Vals zs ws) (rd : Vals dv dus) (h : sp (arr pm (vs ++ (zs ++ dv))) H Q E0) : wpAny (model X.prog X.w) X.A (call (.ref f) us (ks.zip ws)) (EP X pins σ Q) X.xe s := by
  refine wpAny_call (codeAny_mono (F.run X.A X.stack s H _ (arr pm (us ++ (ws ++ dus))) (arr pm (vs ++ (zs ++ dv))) Q E0 hr hgd I.env0 hb (arr_rel (r.append (rz.append rd))) h) fun y s' hq => ?_)
  match y, hq with
  | .error e, hq => exact pass0 pins σ H s e s' I hq
  | .ok (.ret u), hq => exact I.after hq
theorem ae_callP (F : KnP X.prog X.w X.K X.mg X.base k x ps n ks dvs pm S) (hr : Room k X.A) (hgd : X.A.guards = some []) (hg : Gl X x) (ha : AA X w0 (e :: es) ta) (hkw : AK X w0 kws tk) (hks : (backToKw pos (keywordEach kws X.env)).filterMap (·.1) = ks := by rfl)
    (hall : (backToKw pos (keywordEach kws X.env)).all (·.1.isSome) = true := by rfl) (hm : ks.length = m := by rfl)
    (hdb : (x == ("__debug__" : Str)) = false := by decide) (he : starEach (e :: es) X.env = (false, eval e X.env) :: starEach es X.env := by rfl)
    (hpl : ((backTo pos (starEach (e :: es) X.env)).any (·.1) || (backToKw pos (keywordEach kws X.env)).any (·.1.isNone)) = false := by rfl) :
    AE X w0 (.Call (.Name x p) (e :: es) kws pos) (aCallP S n m dvs pm ta tk) := by
  subst hm
  obtain ⟨f, fd, dus, dvv, hm, hk, rd, hdv, hb, G⟩ := F.ex
  refine ⟨fun pins s σ H Q I h => ?_⟩
  obtain ⟨env, w, rfl, ok, tr0, er, P, h, kk⟩ := h
  refine wpAny_Call_Name_kw (ld_glob I hg hm ?_ hdb)
  refine PySem.W.callWith_KW (h₀ := X.base) I.ok.mod.kin hk hall (thn (ha.run pos pins s σ w.H (fun vs H1 => concA X.K w0 tk σ H1 fun zs H2 => vs.length = n ∧ zs.length = ks.length ∧ spOf X.K S (arr pm (vs ++ (zs ++ dvv))) H2 Q E0) I ⟨env, w, rfl, ok, tr0, er, _, h, fun ds w1 vs h1 t1 ok1 dv => ?_⟩) fun us s1 ⟨vs, H1, I1, r, q⟩ => ?_) hpl he
  · refine ⟨env, w1, rfl, ok1, tr0.trans t1, er.mono t1.gs, _, h1, fun zs w2 us h2 t2 ok2 dz => ⟨by rw [dv.length]; exact h2.1, by rw [dz.length]; exact h2.2.1, arr pm (ds ++ (zs ++ dvs)), w2, P, rfl, ok2, arr_dts ((dv.mono t2.gs).append (dz.append (hdv _))), h2.2.2, fun d w3 v h3 t3 ok3 d3 => kk d w3 v h3 ((t1.trans t2).trans t3) ok3 d3⟩⟩
  · refine thn (hkw.run pos pins s1 σ H1 _ I1 q) fun ws s2 ⟨zs, H2, I2, rz, l1, l2, q2⟩ => ⟨I2.kIn, ?_⟩
    rw [hks]
    exact runP G hr hgd (hb s2 us ws I2.kIn (r.length.symm.trans l1) (rz.length.symm.trans l2)) I2 r rz rd q2
theorem ae_callP0 (F : KnP X.prog X.w X.K X.mg X.base k x ps 0 ks dvs pm S) (hr : Room k X.A) (hgd : X.A.guards = some []) (hg : Gl X x) (hkw : AK X w0 kws tk) (hks : (backToKw pos (keywordEach kws X.env)).filterMap (·.1) = ks := by rfl)
    (hall : (backToKw pos (keywordEach kws X.env)).all (·.1.isSome) = true := by rfl) (hm : ks.length = m := by rfl)
    (hdb : (x == ("__debug__" : Str)) = false := by decide)
    (hpl : ((backTo pos (starEach [] X.env)).any (·.1) || (backToKw pos (keywordEach kws X.env)).any (·.1.isNone)) = false := by rfl) :
    AE X w0 (.Call (.Name x p) [] kws pos) (aCallP S 0 m dvs pm aNil tk) := by
  subst hm
  obtain ⟨f, fd, dus, dvv, hm, hk, rd, hdv, hb, G⟩ := F.ex
  refine ⟨fun pins s σ H Q I h => ?_⟩
  obtain ⟨env, w, rfl, ok, tr0, er, P, h, kk⟩ := h
  refine wpAny_Call_Name_kw (ld_glob I hg hm ?_ hdb)
  refine PySem.W.callWith_KW0 (h₀ := X.base) I.ok.mod.kin hk hall (thn (hkw.run pos pins s σ w.H (fun zs H2 => zs.length = ks.length ∧ spOf X.K S (arr pm ([] ++ (zs ++ dvv))) H2 Q E0) I ⟨env, w, rfl, ok, tr0, er, _, h, fun zs w2 us h2 t2 ok2 dz => ?_⟩) fun ws s2 ⟨zs, H2, I2, rz, l2, q2⟩ => ⟨I2.kIn, ?_⟩) hpl
  · exact ⟨by rw [dz.length]; exact h2.2.1, arr pm ([] ++ (zs ++ dvs)), w2, P, rfl, ok2, arr_dts (dz.append (hdv _)), h2.2.2, fun d w3 v h3 t3 ok3 d3 => kk d w3 v h3 (t2.trans t3) ok3 d3⟩
  · rw [hks]
    exact runP (us := []) (vs := []) G hr hgd (hb s2 [] ws I2.kIn rfl (rz.length.symm.trans l2)) I2 .nil rz rd q2
end
/-! ### a def as a value, and its call -/
/-- the def at f keeps its promise -/
structure KnA (P : Program) (w : World) (K : PySem.W.Frag) (mg : Str → Option Value) (base : Heap) (k : Nat) (f : Addr) (ps : List Str) (S : Spec) : Prop where
  ex : ∃ (fd : FuncData), PySem.W.keepIn K (.ref f) = true ∧ Binds K fd ps [] ∧ FnG P w K mg base CX0 k f fd ps (spOf K S)
theorem KnA.mono {P : Program} {w : World} {K : PySem.W.Frag} {mg : Str → Option Value} {base : Heap} {k j : Nat} {f : Addr} {ps : List Str} {S : Spec} (F : KnA P w K mg base j f ps S) (h : j ≤ k) : KnA P w K mg base k f ps S :=
  let ⟨fd, a, b, g⟩ := F.ex
  ⟨fd, a, b, g.mono h⟩
def aCallV (tab : List (Addr × Spec)) (tf : ATE) (ta : ATA) : ATE := fun env own P => tf env own fun d o => ∃ f S, d = .ref f ∧ (f, S) ∈ tab ∧ ta env o fun ds o2 => S ds o2 P
@[simp] theorem x_callV {tab : List (Addr × Spec)} {tf : ATE} {ta : ATA} {env : AEnv} {own : Own} {P : D → Own → Prop} : aCallV tab tf ta env own P = tf env own fun d o => ∃ f S, d = .ref f ∧ (f, S) ∈ tab ∧ ta env o fun ds o2 => S ds o2 P := (rfl)
theorem ae_callV {X : Cx} {w0 : Wd} {k : Nat} {tab : List (Addr × Spec)} {fe e : Expr} {es : List Expr} {tf : ATE} {ta : ATA} {pos : Pos} (F : ∀ q ∈ tab, ∃ ps, KnA X.prog X.w X.K X.mg X.base k q.1 ps q.2) (hr : Room k X.A) (hgd : X.A.guards = some []) (hf : AE X w0 fe tf) (ha : AA X w0 (e :: es) ta)
    (hc : eval (.Call fe (e :: es) [] pos) X.env = (do callWith pos (← eval fe X.env) [] (backTo pos (starEach (e :: es) X.env)) (backToKw pos (keywordEach [] X.env))) := by rfl) (he : starEach (e :: es) X.env = (false, eval e X.env) :: starEach es X.env := by rfl) (hpl : (backTo pos (starEach es X.env)).any (·.1) = false := by rfl) :
    AE X w0 (.Call fe (e :: es) [] pos) (aCallV tab tf ta) := by
  refine ⟨fun pins s σ H Q I h => ?_⟩
  obtain ⟨env, w, rfl, ok, tr0, er, P, h, k⟩ := h
  refine Call_ ?_ hc
  refine thn (hf.run pins s σ w.H (fun v H1 => ∃ (f : Addr) (S : Spec), v = .ref f ∧ (f, S) ∈ tab ∧ concA X.K w0 ta σ H1 fun vs H2 => spOf X.K S vs H2 Q E0) I ⟨env, w, rfl, ok, tr0, er, _, h, fun d w1 v h1 t1 ok1 dv => ?_⟩) fun v s1 ⟨x, H1, I1, rx, f, S, ev, hS, h1⟩ => ?_
  · obtain ⟨f, S, rfl, hS, h2⟩ := h1
    exact ⟨f, S, dt_ref.mp dv, hS, env, w1, rfl, ok1, tr0.trans t1, er.mono t1.gs, _, h2, fun ds w2 vs h3 t2 ok2 dvs => ⟨ds, w2, P, rfl, ok2, dvs, h3, fun d w3 v h4 t3 ok3 d3 => k d w3 v h4 ((t1.trans t2).trans t3) ok3 d3⟩⟩
  · subst ev
    obtain rfl : v = Value.ref f := rx
    obtain ⟨ps, fd, hk, hb, G⟩ := F _ hS
    refine PySem.W.callWith_K (h₀ := X.base) I1.ok.mod.kin hk (thn (ha.run pos pins s1 σ H1 _ I1 h1) fun us s2 ⟨vs, H2, I2, r, q⟩ => ⟨I2.kIn, ?_⟩) he hpl
    have := run_fnG (ds := []) (dvs := []) G hr hgd hb .nil pass0 I2 r (by rw [List.append_nil]; exact q)
    exact this
theorem ae_fn {X : Cx} {w0 : Wd} {x : Str} {f : Addr} {pos : Pos} (hg : Gl X x) (hm : X.mg x = some (.ref f)) (hdb : (x == ("__debug__" : Str)) = false := by decide) : AE X w0 (.Name x pos) (aC (.ref f)) :=
  ae_glob (v := .ref f) hg hm rfl (fun _ => by unfold Dt; rfl) hdb
/-! ### a dict that is written down, texts by values that are known -/
def dKV (kv : List (Str × D)) : List (D × D) := kv.map fun p => (.str p.1, p.2)
def lookKV : List (Str × D) → Str → Option D
  | [], _ => none
  | (k, v) :: r, z => if k = z then some v else lookKV r z
def sD : D → Bool
  | .str _ => true
  | .int _ => true
  | .bl _ => true
  | .ref _ => true
  | _ => false
def vOf : D → V
  | .str x => .str x
  | .int i => .int i
  | .bl b => .bl b
  | .ref a => .ref a
  | _ => .non
theorem vOf_dt {K : PySem.W.Frag} {G : Hp} {d : D} (h : sD d = true) : Dt K G d (vOf d) := by
  cases d <;> first | (cases h; done) | (unfold Dt; rfl)
def kTab (kv : List (Str × D)) : List (Key × V) := kv.map fun p => (.inr p.1, vOf p.2)
def pTab (kv : List (Str × D)) : List (TE × TE) := kv.map fun p => (tC (.str p.1), tC (vOf p.2))
theorem tPairs_kv {σ : L2.St} {H : Hp} : ∀ (kv : List (Str × D)) {Q : List (V × V) → Hp → Prop}, Q (kv.map fun p => (V.str p.1, vOf p.2)) H → tPairs (pTab kv) σ H Q
  | [], _, h => h
  | (k, v) :: r, Q, h => tPairs_kv r (Q := fun ps H3 => Q ((V.str k, vOf v) :: ps) H3) h
theorem dkK_kv {K : PySem.W.Frag} {G : Hp} : ∀ (kv : List (Str × D)), kv.all (fun p => sD p.2) = true → DkK K G (dKV kv) (kTab kv)
  | [], _ => by unfold dKV kTab DkK; rfl
  | (k, v) :: r, h => by
    rw [List.all_cons, Bool.and_eq_true] at h
    show DkK K G ((.str k, v) :: dKV r) ((.inr k, vOf v) :: kTab r)
    unfold DkK
    exact ⟨_, _, _, rfl, rfl, vOf_dt h.1, dkK_kv r h.2⟩
section
variable {X : Cx} {w0 : Wd} {a b : Expr} {ta tb : ATE} {pos : Pos} {keys : List (Option Expr)} {values : List Expr}
theorem ae_dlitV (kv : List (Str × D)) (h : PPs X pos keys values (pTab kv)) (hs : kv.all (fun p => sD p.2) = true := by rfl) (hm : mergeK [] (kTab kv) = kTab kv := by rfl) (hall : keys.all (·.isSome) = true := by rfl) (hl : keys.length = values.length := by rfl) (h0 : keys ≠ [] := by exact fun z => nomatch z)
    (h15 : keys.length ≤ 15 := by decide) (hk : kv.length ≤ 15 := by exact Nat.le_of_ble_eq_true rfl) : AE X w0 (.Dict keys values pos) (aC (.dct (dKV kv))) := pe_of (pe_disp h hall hl h0 h15) fun σ H Q h => by
  obtain ⟨env, w, rfl, ok, tr0, er, P, h, k⟩ := h
  intro p hp
  refine tPairs_kv kv ⟨upd_same, kTab kv, ?_, by unfold kTab; rw [List.length_map]; exact hk, ?_⟩
  · unfold kTab; rw [List.map_map]; rfl
  · rw [hm]
    obtain ⟨ok', t⟩ := ok.frz (o := .dK (kTab kv)) hp True.intro
    have e : upd (upd w.H p (.dK [])) p (.dK (kTab kv)) = (w.frz p (.dK (kTab kv))).H := by
      funext q
      show upd (upd w.H p (.dK [])) p (.dK (kTab kv)) q = upd w.H p (.dK (kTab kv)) q
      by_cases z : q = p
      · subst z; rw [upd_same, upd_same]
      · rw [upd_ne z, upd_ne z, upd_ne z]
    rw [e]
    exact k _ _ _ h t ok' (by unfold Dt; exact ⟨p, rfl, .inl ⟨_, upd_same, dkK_kv kv hs⟩⟩)
/-- an item of such a dict -/
def fIxKV (kv : List (Str × D)) : BinF := fun own d e P => d = .dct (dKV kv) ∧ ∃ z, e = .str z ∧ oP (lookKV kv z) P
theorem valV_kv {z : Str} {r : D} {K : PySem.W.Frag} {G : Hp} : ∀ {kv : List (Str × D)} {es : List (Key × V)}, DkK K G (dKV kv) es → lookKV kv z = some r → ∃ v, valV es (.inr z : Key) = some v ∧ Dt K G r v
  | [], _, _, h => by unfold lookKV at h; cases h
  | (k, v) :: t, es, d, h => by
    have d' : DkK K G ((.str k, v) :: dKV t) es := d
    unfold DkK at d'
    obtain ⟨x, u, er, rfl, e1, e2, e3⟩ := d'
    have ex : x = .inr k := by
      cases x with
      | inl i => cases e1
      | inr y => cases e1; rfl
    subst ex
    unfold lookKV at h
    by_cases q : k = z
    · subst q; rw [if_pos rfl] at h; cases h; exact ⟨u, valV_pos rfl, e2⟩
    · rw [if_neg q] at h
      rw [valV_neg (fun z' => q (by cases z'; rfl))]
      exact valV_kv e3 h
theorem ae_ixKV {k : Nat} (kv : List (Str × D)) (hr : Room k X.A) (ha : AE X w0 a ta) (hb : AE X w0 b tb) (hs : NoSl b := by exact fun _ _ => rfl) : AE X w0 (.Subscript a b pos) (aBin (fIxKV kv) ta tb) := pe_of (pe_dget (by have := hr.units; omega) ha hb hs) fun σ H Q h => by
  obtain ⟨env, w, rfl, ok, tr0, er, P, h, kk⟩ := h
  refine ⟨env, w, rfl, ok, tr0, er, _, h, fun d w1 x h1 t1 ok1 dx => ?_⟩
  refine ⟨env, w1, rfl, ok1, tr0.trans t1, er.mono t1.gs, _, h1, fun e w2 y h2 t2 ok2 dy => ?_⟩
  obtain ⟨rfl, z, rfl, h2⟩ := h2
  obtain ⟨r, e1, h2⟩ := oP_some h2
  have dx' := dx.mono t2.gs
  unfold Dt at dx'
  have dy' := dt_str.mp dy
  subst dy'
  obtain ⟨p, rfl, ⟨es, g, dk⟩ | ⟨es, g, dk⟩⟩ := dx'
  · obtain ⟨v, q1, q2⟩ := valV_kv dk e1
    refine ⟨p, v, rfl, ?_, kk _ w2 _ h2 (t1.trans t2) ok2 q2⟩
    have := DGet.k (H := w2.H) (k := (.inr z : Key)) (ok2.sub p _ g)
    rw [q1] at this
    exact this
  · cases kv with
    | nil => unfold lookKV at e1; cases e1
    | cons q t =>
      have dk' : DkT X.K w2.G ((.str q.1, q.2) :: dKV t) es := dk
      unfold DkT at dk'
      obtain ⟨x, u, er, _, e1, _⟩ := dk'
      cases e1
end
end L3

namespace L3
open PySem PySem.Spec PyProof.Rows L2
/-! ### xs + ys as a list that is not yet told -/
def aCat (ta tb : ATE) : ATN := fun env own P => ta env own fun d o1 => tb env o1 fun e o2 => match see o2 d, see o2 e with
  | .lst xs, .lst ys => xs.length + ys.length ≤ sizeLine ∧ P (xs ++ ys) o2
  | _, _ => False
section
variable {X : Cx} {w0 : Wd} {a b : Expr} {ta tb : ATE} {pos : Pos}
theorem an_cat (ha : AE X w0 a ta) (hb : AE X w0 b tb) : AN X w0 (.BinOp a .Add b pos) (aCat ta tb) := pe_of (pe_op op_catR ha hb) fun σ H Q h => by
  obtain ⟨env, w, rfl, ok, tr0, er, P, h, k⟩ := h
  refine ⟨env, w, rfl, ok, tr0, er, _, h, fun d w1 x h1 t1 ok1 dx => ?_⟩
  refine ⟨env, w1, rfl, ok1, tr0.trans t1, er.mono t1.gs, _, h1, fun e w2 y h2 t2 ok2 dy => ?_⟩
  have sx := see_ok ok2 (dx.mono t2.gs)
  have sy := see_ok ok2 dy
  generalize see w2.own d = d' at h2 sx
  generalize see w2.own e = e' at h2 sy
  match d', e', h2, sx, sy with
  | .lst xs, .lst ys, h2, sx, sy =>
    obtain ⟨p, us, rfl, e1, e2⟩ := sx
    obtain ⟨q, vs, rfl, e3, e4⟩ := sy
    have l1 := e2.length
    have l2 := e4.length
    refine ⟨p, q, us, vs, rfl, rfl, e1, e3, by rw [l1, l2]; exact h2.1, fun r hr => ?_⟩
    have hz : (us ++ vs).length ≤ sizeLine := by rw [List.length_append, l1, l2]; exact h2.1
    have ok3 := ok2.bare (p := r) (o := .lst (us ++ vs)) (.inl hr) hz
    have t3 := t1.trans t2
    exact k (xs ++ ys) ⟨w2.own, w2.G, upd w2.H r (.lst (us ++ vs))⟩ r (us ++ vs) h2.2 (t3.bare (t3.fresh hr)) ok3 (t3.fresh hr) upd_same (ok2.noG hr) (ok2.noown hr) (e2.append e4)
end
@[simp] theorem x_cat {ta tb : ATE} {env : AEnv} {own : Own} {P : List D → Own → Prop} : aCat ta tb env own P = ta env own fun d o1 => tb env o1 fun e o2 => match see o2 d, see o2 e with
  | .lst xs, .lst ys => xs.length + ys.length ≤ sizeLine ∧ P (xs ++ ys) o2
  | _, _ => False := (rfl)
/-! ### more of what simp takes apart -/
section
variable {own : Own} {d e : D} {ds es : List D} {Q : D → Prop} {b : Bool} {x : Str}
@[simp] theorem x_inB {neg : Bool} : flatD (.bl b) = true := (rfl)
@[simp] theorem eqD_bl {b c : Bool} : eqD (.bl b) (.bl c) = (b == c) := (rfl)
@[simp] theorem eqD_int {i j : Int} : eqD (.int i) (.int j) = (i == j) := (rfl)
@[simp] theorem x_isN {neg : Bool} : fIsN neg own .non .non Q = Q (.bl (!neg)) := by simp [fIsN]
@[simp] theorem x_isNT {neg : Bool} : fIsN neg own (.tup ds) .non Q = Q (.bl neg) := by simp [fIsN]
@[simp] theorem x_isNS {neg : Bool} : fIsN neg own (.str x) .non Q = Q (.bl neg) := by simp [fIsN]
theorem kit_tup : kitB "tuple" "tuple" = some true := by decide +kernel
@[simp] theorem x_isiT : fIsi own [.tup ds, .ty "tuple"] Q = Q (.bl true) := by
  show oP (kitB "tuple" "tuple") (fun b => Q (.bl b)) = _
  rw [kit_tup]; rfl
@[simp] theorem x_all : gAll (.lst ds) Q = oP (blsOf ds) fun bs => Q (.bl (bs.all _root_.id)) := (rfl)
@[simp] theorem bls_map {α : Type} (f : α → Bool) : ∀ l : List α, blsOf (l.map fun a => D.bl (f a)) = some (l.map f)
  | [] => rfl
  | a :: l => by simp only [List.map_cons, blsOf, bls_map f l, Option.map_some]
@[simp] theorem x_zip {ta : ATA} {env : AEnv} {P : List D → (Own → Prop) → Own → Prop} : aZip ta env own P = ta env own fun ds o => match ds with
  | [d, e] => ∃ as ga bs gb, itemsOf o d = some (as, ga) ∧ itemsOf o e = some (bs, gb) ∧ P (zipD as bs) (fun o' => ga o' ∧ gb o') o
  | _ => False := (rfl)
@[simp] theorem x_reprN : gRepr .non Q = Q (.str (reprD .non)) := (rfl)
@[simp] theorem x_slS {z : Str} {lo hi : Option Int} : fSl0 lo hi (.str z) Q = (z.length ≤ sizeLine ∧ Q (.str (cutS z lo hi))) := (rfl)
@[simp] theorem x_wipe0 {env : AEnv} : wipeA env [] = env := (rfl)
@[simp] theorem x_wipeC {env : AEnv} {v : Nat} {vs : List Nat} : wipeA env (v :: vs) = (wipeA env vs).set v none := (rfl)
theorem zip_pure {α β : Type} (f : α → D) (g : β → D) : ∀ (l : List α) (m : List β), zipD (l.map f) (m.map g) = (l.zip m).map fun q => .tup [f q.1, g q.2]
  | [], _ => by simp [zipD]
  | _ :: _, [] => by simp [zipD]
  | a :: l, b :: m => by
    have := zip_pure f g l m
    simp only [zipD, List.map_cons, List.zipWith_cons_cons, List.zip_cons_cons] at this ⊢
    rw [this]
end
/-- the signs that can be written, and the line's end ahead of them; without 37 -/
def printable : Str := ⟨(10 :: ((List.range 95).map (· + 32)).filter (fun c => c != 37)).toArray⟩
end L3

namespace L3
open PySem PySem.Spec PyProof.Rows L2
/-! ### the end: defs with keyword-only defaults, keywords in any order, defs by address -/
def HasK (K : PySem.W.Frag) (mg : Str → Option Value) (x : Str) (st : Stmt) (kws : List (Str × V)) : Prop := ∃ f fd, FnP K x st [] kws f fd ∧ mg x = some (.ref f)
def HasA (K : PySem.W.Frag) (x : Str) (st : Stmt) (f : Addr) : Prop := ∃ fd, FnP K x st [] [] f fd
def BdD (x : Str) (st : Stmt) (ps : List Str) (n : Nat) (ms : List Str) : Prop := ∀ (D : Addr) (doc pm : Value) (an : Option Addr) (cdv ct : Value) (us ks : List Value), us.length = n → ks.length = ms.length →
  KwChain D (ms.zip ks) (bindArgs (PySem.W.fnOf x x (defArgs st) (defBody st) (defScope st) .none (.ref D) doc pm an cdv ct) ⟨us, []⟩) (ps.zip (us ++ ks))
def BdP (x : Str) (st : Stmt) (ps : List Str) (n : Nat) (ks : List Str) (pm : List Nat) : Prop := ∀ (kV doc pm' : Value) (an : Option Addr) (cdv ct : Value) (us ws : List Value), us.length = n → ws.length = ks.length → bindArgs (PySem.W.fnOf x x (defArgs st) (defBody st) (defScope st) .none kV doc pm' an cdv ct) ⟨us, ks.zip ws⟩ = pure (ps.zip (arr pm (us ++ (ws ++ []))))
section
variable {P : Program} {w : World} {K : PySem.W.Frag} {mg : Str → Option Value} {base : Heap} {x : Str} {st : Stmt} {N ps : List Str} {k n : Nat} {ks : List Str} {S : Spec} {kws : List (Str × V)} {pm : List Nat}
/-- called with the keyword-only ones left out -/
theorem kn_defD (F : HasK K mg x st kws) (sc : FnScope N ps (defScope st)) (hk : kws ≠ []) (hn : n + kws.length = ps.length) (hb : BdD x st ps n (kws.map (·.1))) {dvs : List D} (hdv : ∀ G, Dts K G dvs (kws.map (·.2))) (len : ∀ ds o Q, S ds o Q → ds.length = ps.length) (b : Bod P w K mg base x st N k S) : Kn P w K mg base (k + 1) x ps dvs S := by
  obtain ⟨f, fd, F, hm⟩ := F
  obtain ⟨ds, r, bs⟩ := FunD.binds0 (ps := ps) F n hk hn fun D doc pm an cdv ct us ks h1 h2 => hb D doc pm an cdv ct us ks h1 (by rw [List.length_map]; exact h2)
  exact ⟨f, fd, ds, kws.map (·.2), hm, F.kp, bs, r, hdv, def_ok (funX F) sc len (b f)⟩
theorem knP_def (F : HasK K mg x st kws) (sc : FnScope N ps (defScope st)) (hb : BdP x st ps n ks pm) (len : ∀ ds o Q, S ds o Q → ds.length = ps.length) (b : Bod P w K mg base x st N k S) : KnP P w K mg base (k + 1) x ps n ks [] pm S := by
  obtain ⟨f, fd, F, hm⟩ := F
  refine ⟨f, fd, [], [], hm, F.kp, .nil, fun _ => by unfold Dts; rfl, fun s us ws _ h1 h2 => ?_, def_ok (funX F) sc len (b f)⟩
  obtain ⟨oc, od, dV, kV, doc, pm', an, cdv, ct, osl, rfl, lk, hcd, hD, hK⟩ := F.ex
  rcases hD with ⟨_, rfl⟩ | ⟨e, _⟩
  · exact .of_eq (hb kV doc pm' an cdv ct us ws h1 h2)
  · exact absurd rfl e
theorem knA_def {f : Addr} (F : HasA K x st f) (sc : FnScope N ps (defScope st)) (hb : Bd x st ps) (len : ∀ ds o Q, S ds o Q → ds.length = ps.length) (b : Bod P w K mg base x st N k S) : KnA P w K mg base (k + 1) f ps S := by
  obtain ⟨fd, F⟩ := F
  exact ⟨fd, F.kp, F.bindsN hb, def_ok (funX F) sc len (b f)⟩
theorem hasK_nil (F : Has K mg x st) : HasK K mg x st [] := F
variable {h : Heap} {fa : List He.Fa} {fn : List He.DefD} {ts : List He.Tab} {ck : PySem.W.Frag → Bool}
theorem hasK_of (X : K.In h) (G : h.Ns mainGlobals mg) (c : SaysX fa fn ts ck w K) (i j : Nat) (kwd : List (Str × He.Dv)) (h1 : fa[i]? = some (.glo x) := by rfl) (h2 : fn[j]? = some ⟨(x, none), x, x, defArgs st, defBody st, defScope st, [], kwd⟩ := by rfl) : HasK K mg x st (kwd.map fun q => (q.1, q.2.v K)) := by
  obtain ⟨fd, F⟩ := c.t.d.def_ j h2
  exact ⟨_, fd, F, He.glo_ok X G (c.t.d.fact i h1)⟩
theorem hasA_of (c : SaysX fa fn ts ck w K) (j : Nat) (h2 : fn[j]? = some ⟨(x, none), x, x, defArgs st, defBody st, defScope st, [], []⟩ := by rfl) : HasA K x st (He.ga K x) := c.t.d.def_ j h2
end
end L3

/-! printed by gen.py from the row's text -/
namespace R80
open PySem PySem.Spec PyProof.Rows L2 L3
def top (i : Nat) : Stmt := PySem.Challenge.pw_smallreaders_k80_readers_turned.main.body.getD i (.Pass ⟨0, 0, 0, 0⟩)
def d_SIGNS : D := .str L3.printable
def d_LETTERS : D := (.str "abcdefghijklmnopqrstuvwxyz")
def d_MOST_LETTERS : D := (.int 8)
def d_MOST_SIGNS : D := (.int 94)
def d_MOST_DEEP : D := (.int 8)
def d_LEAST_PARTS : D := (.int 2)
def d_MOST_PARTS_readers : D := (.int 6)
def d_MAKES : D := (.tup [(.str "text"), (.str "drop"), (.str "count"), (.str "number")])
def tab_FORMS : Str → Option D := fun z => if z = "nothing" then some (.str "") else if z = "never" then some (.str "") else if z = "sign" then some (.str "s") else if z = "but" then some (.str "b") else if z = "row" then some (.str "p") else if z = "choice" then some (.str "p") else if z = "many" then some (.str "r") else if z = "maybe" then some (.str "r") else if z = "ahead" then some (.str "r") else if z = "not" then some (.str "r") else if z = "name" then some (.str "n") else if z = "hold" then some (.str "nr") else if z = "again" then some (.str "n") else if z = "tag" then some (.str "nr") else if z = "make" then some (.str "wr") else none
def d_RULES : D := (.tup [(.str "choice"), (.str "row"), (.str "nothing"), (.str "never"), (.str "twice"), (.str "maybe"), (.str "many"), (.str "same")])
def d_NOTHING : D := (.tup [(.str "nothing")])
def d_NEVER : D := (.tup [(.str "never")])
abbrev s_is_text : Stmt := top 6
abbrev N_is_text : List Str := ["thing", "most", "sign"]
abbrev P_is_text : List Str := ["thing", "most"]
abbrev s_is_signs : Stmt := top 7
abbrev N_is_signs : List Str := ["thing", "least", "sign", "later"]
abbrev P_is_signs : List Str := ["thing", "least"]
abbrev s_is_name : Stmt := top 8
abbrev N_is_name : List Str := ["thing", "sign"]
abbrev P_is_name : List Str := ["thing"]
abbrev s_is_piece : Stmt := top 15
abbrev N_is_piece : List Str := ["form", "thing", "left", "part"]
abbrev P_is_piece : List Str := ["form", "thing", "left"]
abbrev s_is_formed : Stmt := top 16
abbrev N_is_formed : List Str := ["thing", "left", "word", "pieces", "form", "piece"]
abbrev P_is_formed : List Str := ["thing", "left"]
abbrev s_is_reader : Stmt := top 17
abbrev N_is_reader : List Str := ["thing"]
abbrev P_is_reader : List Str := ["thing"]
abbrev s_joined : Stmt := top 24
abbrev N_joined : List Str := ["word", "reader", "first", "rest"]
abbrev P_joined : List Str := ["word", "reader"]
abbrev s_without : Stmt := top 25
abbrev N_without : List Str := ["word", "plain", "reader", "one", "other"]
abbrev P_without : List Str := ["word", "plain", "reader"]
abbrev s_not_twice : Stmt := top 26
abbrev N_not_twice : List Str := ["reader"]
abbrev P_not_twice : List Str := ["reader"]
abbrev s_as_choice : Stmt := top 27
abbrev N_as_choice : List Str := ["reader"]
abbrev P_as_choice : List Str := ["reader"]
abbrev s_once_more : Stmt := top 28
abbrev N_once_more : List Str := ["reader"]
abbrev P_once_more : List Str := ["reader"]
abbrev s_alike : Stmt := top 29
abbrev N_alike : List Str := ["reader"]
abbrev P_alike : List Str := ["reader"]
abbrev s_by_rule : Stmt := top 30
abbrev N_by_rule : List Str := ["reader", "rule", "turns"]
abbrev P_by_rule : List Str := ["reader", "rule"]
abbrev s_turned : Stmt := top 31
abbrev N_turned : List Str := ["reader", "rule", "found"]
abbrev P_turned : List Str := ["reader", "rule"]
abbrev s_law_pen : Stmt := top 42
abbrev N_law_pen : List Str := ["_law_script"]
abbrev P_law_pen : List Str := ["_law_script"]
abbrev s_law_draw : Stmt := top 43
abbrev N_law_draw : List Str := ["_law_pen_here", "_law_many", "_law_at", "_law_cell", "_law_number", "_law_digit"]
abbrev P_law_draw : List Str := ["_law_pen_here", "_law_many"]
abbrev s_law_names : Stmt := top 44
abbrev N_law_names : List Str := ["_law_pen_here", "_law_many", "_law_letters", "_law_words", "_law_first", "_law_base", "_law_spot", "_law_k"]
abbrev P_law_names : List Str := ["_law_pen_here", "_law_many"]
abbrev s_law_leaf : Stmt := top 45
abbrev N_law_leaf : List Str := ["_law_pen_here", "_law_some_here"]
abbrev P_law_leaf : List Str := ["_law_pen_here"]
abbrev s_law_taking : Stmt := top 46
abbrev N_law_taking : List Str := ["_law_pen_here", "_law_titles", "_law_later", "_law_deep", "_law_room", "_law_parts", "_law_k"]
abbrev P_law_taking : List Str := ["_law_pen_here", "_law_titles", "_law_later", "_law_deep", "_law_room"]
abbrev s_law_some : Stmt := top 47
abbrev N_law_some : List Str := ["_law_pen_here", "_law_titles", "_law_later", "_law_deep", "_law_room", "_law_many", "_law_k"]
abbrev P_law_some : List Str := ["_law_pen_here", "_law_titles", "_law_later", "_law_deep", "_law_room", "_law_many"]
abbrev s_law_part : Stmt := top 48
abbrev N_law_part : List Str := ["_law_pen_here", "_law_titles", "_law_later", "_law_deep", "_law_room", "_law_way", "_law_word", "_law_inner", "_law_many"]
abbrev P_law_part : List Str := ["_law_pen_here", "_law_titles", "_law_later", "_law_deep", "_law_room"]
abbrev s_law_form : Stmt := top 49
abbrev N_law_form : List Str := ["_law_pen_here", "_law_titles", "_law_later", "_law_deep", "_law_room", "_law_one", "_law_two", "_law_leaf_here", "_law_some_here"]
abbrev P_law_form : List Str := ["_law_pen_here", "_law_titles", "_law_later", "_law_deep", "_law_room"]
abbrev s_law_within : Stmt := top 52
abbrev N_law_within : List Str := ["_law_one"]
abbrev P_law_within : List Str := ["_law_one"]
abbrev s_law_bound : Stmt := top 53
abbrev N_law_bound : List Str := ["_law_pen_here", "_law_part_here", "_law_inner", "_law_one"]
abbrev P_law_bound : List Str := ["_law_pen_here", "_law_part_here"]
abbrev s_law_joined : Stmt := top 54
abbrev N_law_joined : List Str := ["_law_word", "_law_part_here"]
abbrev P_law_joined : List Str := ["_law_word", "_law_part_here"]
abbrev s_law_other : Stmt := top 55
abbrev N_law_other : List Str := ["_law_word", "_law_plain", "_law_part_here"]
abbrev P_law_other : List Str := ["_law_word", "_law_plain", "_law_part_here"]
abbrev s_law_due : Stmt := top 56
abbrev N_law_due : List Str := ["_law_part_here", "_law_word"]
abbrev P_law_due : List Str := ["_law_part_here", "_law_word"]
abbrev s_law_deeper : Stmt := top 57
abbrev N_law_deeper : List Str := ["_law_pen_here", "_law_part_here", "_law_many", "_law_k", "_law_some_here"]
abbrev P_law_deeper : List Str := ["_law_pen_here", "_law_part_here", "_law_many"]
abbrev s_law_wide : Stmt := top 58
abbrev N_law_wide : List Str := ["_law_pen_here", "_law_word", "_law_first", "_law_k"]
abbrev P_law_wide : List Str := ["_law_pen_here"]
abbrev s_law_right : Stmt := top 59
abbrev N_law_right : List Str := ["_law_part_here", "_law_shown", "_law_word", "_law_due_here", "_law_turn"]
abbrev P_law_right : List Str := ["_law_part_here"]
abbrev s_law : Stmt := top 60
abbrev N_law : List Str := ["_law_script", "_law_pen_here", "_law_titles", "_law_turn", "_law_some_here", "_law_plain", "_law_part_here"]
abbrev P_law : List Str := ["_law_script"]
theorem sc_is_text : FnScope N_is_text P_is_text (defScope s_is_text) := ⟨rfl, rfl, rfl, by decide +kernel, rfl, by decide +kernel, by decide +kernel⟩
def T_is_text : ATS :=
  (aRet (aAndV (aFn fIsi (aCons (aV 0) (aCons (aC (.ty "str")) aNil))) (aAndV (aBin fLe (aFn (f1 gLen) (aCons (aV 0) aNil)) (aV 1)) (aFn (f1 gAll) (aCons (aFz (aLc (aIt (aV 0)) (gN 2) aYes (aBin (fIn false) (aV 2) (aC d_SIGNS)) [2])) aNil)))))
theorem w_is_text {P : Program} {w : World} {K : PySem.W.Frag} {mg : Str → Option Value} {base : Heap} {k : Nat}
    (t_SIGNS : GloD K mg "SIGNS" d_SIGNS) (b_str : mg "str" = none) (b_isinstance : mg "isinstance" = none) (b_len : mg "len" = none) (b_all : mg "all" = none)
    {f : Addr} {cdv : Value} {A : Around} {outer : List PySem.Env} {s : Shared} {H : Hp} {E : XK} {w0 : Wd} (hr : Room k (A.deeper (envOfC "is_text" (defScope s_is_text) s.heap.objs.size f cdv))) (hgd : A.guards = some []) :
    ASs (cxOf CX0 P w K mg base N_is_text "is_text" (defScope s_is_text) f cdv A outer s H E).nox w0 (defBody s_is_text) (T_is_text) :=
  have hN : (N_is_text : List Str).Nodup := sc_is_text.nd
  (as_one (as_ret (ae_and (ae_isi rfl b_isinstance (aa_cons (ae_v 0) (aa_cons (ae_ty "str" rfl b_str rfl) aa_nil))) (ae_and (ae_le (ae_len rfl b_len (aa_cons (ae_v 0) aa_nil)) (ae_v 1)) (ae_one (ae_all rfl rfl b_all (aa_cons (ae_fz (an_lc [("sign", 2)] rfl hN (ai_it (ae_v 0)) (blkOk_by (N := N_is_text) (sc := defScope s_is_text) (by decide +kernel)) (fun s H C cl fp => (ag_n 2 hN (by decide))) (fun s H C cl fp => ats_nil) (fun s H C cl fp => (ae_in (ae_v 2) (ae_gloD rfl t_SIGNS))))) aa_nil)))))))
theorem sc_is_signs : FnScope N_is_signs P_is_signs (defScope s_is_signs) := ⟨rfl, rfl, rfl, by decide +kernel, rfl, by decide +kernel, by decide +kernel⟩
def T_is_signs (S_is_text : L3.Spec) : ATS :=
  (aSeq (aIfS (aOr (aNot (aTru (aCallP S_is_text 1 1 [] [0, 1] (aCons (aV 0) aNil) (aCons (aC d_MOST_SIGNS) aNil)))) (aB (aBin fLt (aFn (f1 gLen) (aCons (aV 0) aNil)) (aV 1)))) (aRet (aC (.bl false))) aNext)
  (aRet (aFn (f1 gAll) (aCons (aFz (aLc (aZip (aCons (aV 0) (aCons (aSl (aV 0) (aSo (aC (.int 1))) aNo) aNil))) (gTp 2 (gsCons (gN 2) (gsCons (gN 3) gsNil))) aYes (aBin fLt (aV 2) (aV 3)) [2, 3])) aNil))))
theorem w_is_signs {P : Program} {w : World} {K : PySem.W.Frag} {mg : Str → Option Value} {base : Heap} {k : Nat} {S_is_text : L3.Spec}
    (F_is_text_k1_most : KnP P w K mg base k "is_text" P_is_text 1 ["most"] [] [0, 1] S_is_text) (t_MOST_SIGNS : GloD K mg "MOST_SIGNS" d_MOST_SIGNS) (b_len : mg "len" = none) (b_zip : mg "zip" = none) (b_all : mg "all" = none)
    {f : Addr} {cdv : Value} {A : Around} {outer : List PySem.Env} {s : Shared} {H : Hp} {E : XK} {w0 : Wd} (hr : Room k (A.deeper (envOfC "is_signs" (defScope s_is_signs) s.heap.objs.size f cdv))) (hgd : A.guards = some []) :
    ASs (cxOf CX0 P w K mg base N_is_signs "is_signs" (defScope s_is_signs) f cdv A outer s H E).nox w0 (defBody s_is_signs) (T_is_signs S_is_text) :=
  have hN : (N_is_signs : List Str).Nodup := sc_is_signs.nd
  (as_cons (as_if (at_w (aw_or (at_not (at_tru (ae_callP F_is_text_k1_most hr hgd rfl (aa_cons (ae_v 0) aa_nil) (ak_cons (ae_gloD rfl t_MOST_SIGNS) ak_nil)))) (aw_or1 (at_lt (ae_len rfl b_len (aa_cons (ae_v 0) aa_nil)) (ae_v 1))))) (as_one (as_ret ae_bl)) as_nil)
    (as_one (as_ret (ae_all rfl rfl b_all (aa_cons (ae_fz (an_lc [("sign", 2), ("later", 3)] rfl hN (ai_zip rfl b_zip (aa_cons (ae_v 0) (aa_cons (ae_sl (ae_v 0) (ao_some ae_int) ao_none) aa_nil))) (blkOk_by (N := N_is_signs) (sc := defScope s_is_signs) (by decide +kernel)) (fun s H C cl fp => (ag_tp (n := 2) rfl (ags_cons (ag_n 2 hN (by decide)) (ags_cons (ag_n 3 hN (by decide)) ags_nil)))) (fun s H C cl fp => ats_nil) (fun s H C cl fp => (ae_lt (ae_v 2) (ae_v 3))))) aa_nil)))))
theorem sc_is_name : FnScope N_is_name P_is_name (defScope s_is_name) := ⟨rfl, rfl, rfl, by decide +kernel, rfl, by decide +kernel, by decide +kernel⟩
def T_is_name : ATS :=
  (aSeq (aIfS (aOr (aNot (aTru (aFn fIsi (aCons (aV 0) (aCons (aC (.ty "str")) aNil))))) (aNot (aB (aChain fLe fLe (aC (.int 1)) (aFn (f1 gLen) (aCons (aV 0) aNil)) (aC d_MOST_LETTERS))))) (aRet (aC (.bl false))) aNext)
  (aRet (aFn (f1 gAll) (aCons (aFz (aLc (aIt (aV 0)) (gN 1) aYes (aBin (fIn false) (aV 1) (aC d_LETTERS)) [1])) aNil))))
theorem w_is_name {P : Program} {w : World} {K : PySem.W.Frag} {mg : Str → Option Value} {base : Heap} {k : Nat}
    (t_MOST_LETTERS : GloD K mg "MOST_LETTERS" d_MOST_LETTERS) (t_LETTERS : GloD K mg "LETTERS" d_LETTERS) (b_str : mg "str" = none) (b_isinstance : mg "isinstance" = none) (b_len : mg "len" = none) (b_all : mg "all" = none)
    {f : Addr} {cdv : Value} {A : Around} {outer : List PySem.Env} {s : Shared} {H : Hp} {E : XK} {w0 : Wd} (hr : Room k (A.deeper (envOfC "is_name" (defScope s_is_name) s.heap.objs.size f cdv))) (hgd : A.guards = some []) :
    ASs (cxOf CX0 P w K mg base N_is_name "is_name" (defScope s_is_name) f cdv A outer s H E).nox w0 (defBody s_is_name) (T_is_name) :=
  have hN : (N_is_name : List Str).Nodup := sc_is_name.nd
  (as_cons (as_if (at_w (aw_or (at_not (at_tru (ae_isi rfl b_isinstance (aa_cons (ae_v 0) (aa_cons (ae_ty "str" rfl b_str rfl) aa_nil))))) (aw_or1 (at_not (at_chain (rI_of0 op_le) (rI_of0 op_le) os_bl os_bl ae_int (ae_len rfl b_len (aa_cons (ae_v 0) aa_nil)) (ae_gloD rfl t_MOST_LETTERS)))))) (as_one (as_ret ae_bl)) as_nil)
    (as_one (as_ret (ae_all rfl rfl b_all (aa_cons (ae_fz (an_lc [("sign", 1)] rfl hN (ai_it (ae_v 0)) (blkOk_by (N := N_is_name) (sc := defScope s_is_name) (by decide +kernel)) (fun s H C cl fp => (ag_n 1 hN (by decide))) (fun s H C cl fp => ats_nil) (fun s H C cl fp => (ae_in (ae_v 1) (ae_gloD rfl t_LETTERS))))) aa_nil)))))
theorem sc_is_piece : FnScope N_is_piece P_is_piece (defScope s_is_piece) := ⟨rfl, rfl, rfl, by decide +kernel, rfl, by decide +kernel, by decide +kernel⟩
def T_is_piece (S_is_signs : L3.Spec) (S_is_name : L3.Spec) (S_is_formed : L3.Spec) : ATS :=
  (aSeq (aIfS (aB (aBin (fEq false) (aV 0) (aC (.str "s")))) (aRet (aCallP S_is_signs 1 1 [] [0, 1] (aCons (aV 1) aNil) (aCons (aC (.int 1)) aNil))) aNext)
  (aSeq (aIfS (aB (aBin (fEq false) (aV 0) (aC (.str "b")))) (aRet (aCall S_is_signs [(.int 0)] (aCons (aV 1) aNil))) aNext)
  (aSeq (aIfS (aB (aBin (fEq false) (aV 0) (aC (.str "n")))) (aRet (aCall S_is_name [] (aCons (aV 1) aNil))) aNext)
  (aSeq (aIfS (aB (aBin (fEq false) (aV 0) (aC (.str "w")))) (aRet (aAndV (aFn fIsi (aCons (aV 1) (aCons (aC (.ty "str")) aNil))) (aBin (fIn false) (aV 1) (aC d_MAKES)))) aNext)
  (aSeq (aIfS (aB (aBin (fEq false) (aV 0) (aC (.str "r")))) (aRet (aCall S_is_formed [] (aCons (aV 1) (aCons (aV 2) aNil)))) aNext)
  (aSeq (aIfS (aOr (aNot (aTru (aFn fIsi (aCons (aV 1) (aCons (aC (.ty "tuple")) aNil))))) (aNot (aB (aChain fLe fLe (aC d_LEAST_PARTS) (aFn (f1 gLen) (aCons (aV 1) aNil)) (aC d_MOST_PARTS_readers))))) (aRet (aC (.bl false))) aNext)
  (aRet (aFn (f1 gAll) (aCons (aFz (aLc (aIt (aV 1)) (gN 3) aYes (aCall S_is_formed [] (aCons (aV 3) (aCons (aV 2) aNil))) [3])) aNil)))))))))
theorem w_is_piece {P : Program} {w : World} {K : PySem.W.Frag} {mg : Str → Option Value} {base : Heap} {k : Nat} {S_is_signs : L3.Spec} {S_is_name : L3.Spec} {S_is_formed : L3.Spec}
    (F_is_signs_k1_least : KnP P w K mg base k "is_signs" P_is_signs 1 ["least"] [] [0, 1] S_is_signs) (F_is_signs_d : Kn P w K mg base k "is_signs" P_is_signs [(.int 0)] S_is_signs) (F_is_name : Kn P w K mg base k "is_name" P_is_name [] S_is_name) (F_is_formed : Kn P w K mg base k "is_formed" P_is_formed [] S_is_formed) (t_MAKES : GloD K mg "MAKES" d_MAKES) (t_LEAST_PARTS : GloD K mg "LEAST_PARTS" d_LEAST_PARTS) (t_MOST_PARTS_readers : GloD K mg "MOST_PARTS_readers" d_MOST_PARTS_readers) (b_str : mg "str" = none) (b_isinstance : mg "isinstance" = none) (b_tuple : mg "tuple" = none) (b_len : mg "len" = none) (b_all : mg "all" = none)
    {f : Addr} {cdv : Value} {A : Around} {outer : List PySem.Env} {s : Shared} {H : Hp} {E : XK} {w0 : Wd} (hr : Room k (A.deeper (envOfC "is_piece" (defScope s_is_piece) s.heap.objs.size f cdv))) (hgd : A.guards = some []) :
    ASs (cxOf CX0 P w K mg base N_is_piece "is_piece" (defScope s_is_piece) f cdv A outer s H E).nox w0 (defBody s_is_piece) (T_is_piece S_is_signs S_is_name S_is_formed) :=
  have hN : (N_is_piece : List Str).Nodup := sc_is_piece.nd
  (as_cons (as_if (at_eq hr (ae_v 0) ae_str) (as_one (as_ret (ae_callP F_is_signs_k1_least hr hgd rfl (aa_cons (ae_v 1) aa_nil) (ak_cons ae_int ak_nil)))) as_nil)
    (as_cons (as_if (at_eq hr (ae_v 0) ae_str) (as_one (as_ret (ae_call F_is_signs_d hr hgd rfl (aa_cons (ae_v 1) aa_nil)))) as_nil)
    (as_cons (as_if (at_eq hr (ae_v 0) ae_str) (as_one (as_ret (ae_call F_is_name hr hgd rfl (aa_cons (ae_v 1) aa_nil)))) as_nil)
    (as_cons (as_if (at_eq hr (ae_v 0) ae_str) (as_one (as_ret (ae_and (ae_isi rfl b_isinstance (aa_cons (ae_v 1) (aa_cons (ae_ty "str" rfl b_str rfl) aa_nil))) (ae_one (ae_in (ae_v 1) (ae_gloD rfl t_MAKES)))))) as_nil)
    (as_cons (as_if (at_eq hr (ae_v 0) ae_str) (as_one (as_ret (ae_call F_is_formed hr hgd rfl (aa_cons (ae_v 1) (aa_cons (ae_v 2) aa_nil))))) as_nil)
    (as_cons (as_if (at_w (aw_or (at_not (at_tru (ae_isi rfl b_isinstance (aa_cons (ae_v 1) (aa_cons (ae_ty "tuple" rfl b_tuple rfl) aa_nil))))) (aw_or1 (at_not (at_chain (rI_of0 op_le) (rI_of0 op_le) os_bl os_bl (ae_gloD rfl t_LEAST_PARTS) (ae_len rfl b_len (aa_cons (ae_v 1) aa_nil)) (ae_gloD rfl t_MOST_PARTS_readers)))))) (as_one (as_ret ae_bl)) as_nil)
    (as_one (as_ret (ae_all rfl rfl b_all (aa_cons (ae_fz (an_lc [("part", 3)] rfl hN (ai_it (ae_v 1)) (blkOk_by (N := N_is_piece) (sc := defScope s_is_piece) (by decide +kernel)) (fun s H C cl fp => (ag_n 3 hN (by decide))) (fun s H C cl fp => ats_nil) (fun s H C cl fp => (ae_call F_is_formed hr hgd rfl (aa_cons (ae_v 3) (aa_cons (ae_v 2) aa_nil)))))) aa_nil))))))))))
theorem sc_is_formed : FnScope N_is_formed P_is_formed (defScope s_is_formed) := ⟨rfl, rfl, rfl, by decide +kernel, rfl, by decide +kernel, by decide +kernel⟩
def T_is_formed (S_is_piece : L3.Spec) (a_FORMS : Addr) : ATS :=
  (aSeq (aIfS (aOr (aB (aBin (fEq false) (aV 1) (aC (.int 0)))) (aOr (aNot (aTru (aFn fIsi (aCons (aV 0) (aCons (aC (.ty "tuple")) aNil))))) (aOr (aB (aBin (fEq false) (aV 0) (aTup aNil))) (aNot (aTru (aFn fIsi (aCons (aBin fIx (aV 0) (aC (.int 0))) (aCons (aC (.ty "str")) aNil)))))))) (aRet (aC (.bl false))) aNext)
  (aSeq (aAsg (aV 0) (gSt 2 1 (gsCons (gN 2) (gsCons (gN 3) gsNil))))
  (aSeq (aIfS (aOr (aB (aBin (fInTab tab_FORMS a_FORMS true) (aV 2) (aC (.ref a_FORMS)))) (aB (aBin (fEq true) (aFn (f1 gLen) (aCons (aV 3) aNil)) (aFn (f1 gLen) (aCons (aBin (fIxTab tab_FORMS a_FORMS) (aC (.ref a_FORMS)) (aV 2)) aNil))))) (aRet (aC (.bl false))) aNext)
  (aRet (aFn (f1 gAll) (aCons (aFz (aLc (aZip (aCons (aBin (fIxTab tab_FORMS a_FORMS) (aC (.ref a_FORMS)) (aV 2)) (aCons (aV 3) aNil))) (gTp 2 (gsCons (gN 4) (gsCons (gN 5) gsNil))) aYes (aCall S_is_piece [] (aCons (aV 4) (aCons (aV 5) (aCons (aBin fSub (aV 1) (aC (.int 1))) aNil)))) [4, 5])) aNil))))))
theorem w_is_formed {P : Program} {w : World} {K : PySem.W.Frag} {mg : Str → Option Value} {base : Heap} {k : Nat} {S_is_piece : L3.Spec} {a_FORMS : Addr}
    (F_is_piece : Kn P w K mg base k "is_piece" P_is_piece [] S_is_piece) (g_FORMS : mg "FORMS" = some (.ref a_FORMS)) (k_FORMS : KTab K w a_FORMS tab_FORMS) (b_tuple : mg "tuple" = none) (b_isinstance : mg "isinstance" = none) (b_str : mg "str" = none) (b_len : mg "len" = none) (b_zip : mg "zip" = none) (b_all : mg "all" = none)
    {f : Addr} {cdv : Value} {A : Around} {outer : List PySem.Env} {s : Shared} {H : Hp} {E : XK} {w0 : Wd} (hr : Room k (A.deeper (envOfC "is_formed" (defScope s_is_formed) s.heap.objs.size f cdv))) (hgd : A.guards = some []) :
    ASs (cxOf CX0 P w K mg base N_is_formed "is_formed" (defScope s_is_formed) f cdv A outer s H E).nox w0 (defBody s_is_formed) (T_is_formed S_is_piece a_FORMS) :=
  have hN : (N_is_formed : List Str).Nodup := sc_is_formed.nd
  (as_cons (as_if (at_w (aw_or (at_eq hr (ae_v 1) ae_int) (aw_or (at_not (at_tru (ae_isi rfl b_isinstance (aa_cons (ae_v 0) (aa_cons (ae_ty "tuple" rfl b_tuple rfl) aa_nil))))) (aw_or (at_eq hr (ae_v 0) (ae_tup aa_nil)) (aw_or1 (at_not (at_tru (ae_isi rfl b_isinstance (aa_cons (ae_ix (ae_v 0) ae_int) (aa_cons (ae_ty "str" rfl b_str rfl) aa_nil)))))))))) (as_one (as_ret ae_bl)) as_nil)
    (as_cons (as_asg (vs := [2, 3]) (ae_v 0) (ag_st (n := 2) (i := 1) rfl (by decide) (ags_cons (ag_n 2 hN (by decide)) (ags_st (ag_n 3 hN (by decide)) ags_nil))))
    (as_cons (as_if (at_w (aw_or (at_notinTab k_FORMS (ae_v 2) (ae_glob (v := .ref a_FORMS) rfl g_FORMS rfl (fun _ => by unfold Dt; rfl))) (aw_or1 (at_ne hr (ae_len rfl b_len (aa_cons (ae_v 3) aa_nil)) (ae_len rfl b_len (aa_cons (ae_ixTab k_FORMS (ae_glob (v := .ref a_FORMS) rfl g_FORMS rfl (fun _ => by unfold Dt; rfl)) (ae_v 2)) aa_nil)))))) (as_one (as_ret ae_bl)) as_nil)
    (as_one (as_ret (ae_all rfl rfl b_all (aa_cons (ae_fz (an_lc [("form", 4), ("piece", 5)] rfl hN (ai_zip rfl b_zip (aa_cons (ae_ixTab k_FORMS (ae_glob (v := .ref a_FORMS) rfl g_FORMS rfl (fun _ => by unfold Dt; rfl)) (ae_v 2)) (aa_cons (ae_v 3) aa_nil))) (blkOk_by (N := N_is_formed) (sc := defScope s_is_formed) (by decide +kernel)) (fun s H C cl fp => (ag_tp (n := 2) rfl (ags_cons (ag_n 4 hN (by decide)) (ags_cons (ag_n 5 hN (by decide)) ags_nil)))) (fun s H C cl fp => ats_nil) (fun s H C cl fp => (ae_call F_is_piece hr hgd rfl (aa_cons (ae_v 4) (aa_cons (ae_v 5) (aa_cons (ae_subt (ae_v 1) ae_int) aa_nil))))))) aa_nil)))))))
theorem sc_is_reader : FnScope N_is_reader P_is_reader (defScope s_is_reader) := ⟨rfl, rfl, rfl, by decide +kernel, rfl, by decide +kernel, by decide +kernel⟩
def T_is_reader (S_is_formed : L3.Spec) : ATS :=
  (aRet (aCall S_is_formed [] (aCons (aV 0) (aCons (aC d_MOST_DEEP) aNil))))
theorem w_is_reader {P : Program} {w : World} {K : PySem.W.Frag} {mg : Str → Option Value} {base : Heap} {k : Nat} {S_is_formed : L3.Spec}
    (F_is_formed : Kn P w K mg base k "is_formed" P_is_formed [] S_is_formed) (t_MOST_DEEP : GloD K mg "MOST_DEEP" d_MOST_DEEP)
    {f : Addr} {cdv : Value} {A : Around} {outer : List PySem.Env} {s : Shared} {H : Hp} {E : XK} {w0 : Wd} (hr : Room k (A.deeper (envOfC "is_reader" (defScope s_is_reader) s.heap.objs.size f cdv))) (hgd : A.guards = some []) :
    ASs (cxOf CX0 P w K mg base N_is_reader "is_reader" (defScope s_is_reader) f cdv A outer s H E).nox w0 (defBody s_is_reader) (T_is_reader S_is_formed) :=
  have hN : (N_is_reader : List Str).Nodup := sc_is_reader.nd
  (as_one (as_ret (ae_call F_is_formed hr hgd rfl (aa_cons (ae_v 0) (aa_cons (ae_gloD rfl t_MOST_DEEP) aa_nil)))))
theorem sc_joined : FnScope N_joined P_joined (defScope s_joined) := ⟨rfl, rfl, rfl, by decide +kernel, rfl, by decide +kernel, by decide +kernel⟩
def T_joined : ATS :=
  (aSeq (aIfS (aOr (aB (aBin (fEq true) (aBin fIx (aV 1) (aC (.int 0))) (aV 0))) (aB (aBin (fEq true) (aBin fIx (aBin fIx (aBin fIx (aV 1) (aC (.int 1))) (aC (.int 0))) (aC (.int 0))) (aV 0)))) (aRet (aC .non)) aNext)
  (aSeq (aAsg (aBin fIx (aV 1) (aC (.int 1))) (gSt 2 1 (gsCons (gN 2) (gsCons (gN 3) gsNil))))
  (aRet (aTup (aCons (aV 0) (aCons (aBin fAdd (aBin fIx (aV 2) (aC (.int 1))) (aFn (f1 gTuple) (aCons (aV 3) aNil))) aNil))))))
theorem w_joined {P : Program} {w : World} {K : PySem.W.Frag} {mg : Str → Option Value} {base : Heap} {k : Nat}
    (b_tuple : mg "tuple" = none)
    {f : Addr} {cdv : Value} {A : Around} {outer : List PySem.Env} {s : Shared} {H : Hp} {E : XK} {w0 : Wd} (hr : Room k (A.deeper (envOfC "joined" (defScope s_joined) s.heap.objs.size f cdv))) (hgd : A.guards = some []) :
    ASs (cxOf CX0 P w K mg base N_joined "joined" (defScope s_joined) f cdv A outer s H E).nox w0 (defBody s_joined) (T_joined) :=
  have hN : (N_joined : List Str).Nodup := sc_joined.nd
  (as_cons (as_if (at_w (aw_or (at_ne hr (ae_ix (ae_v 1) ae_int) (ae_v 0)) (aw_or1 (at_ne hr (ae_ix (ae_ix (ae_ix (ae_v 1) ae_int) ae_int) ae_int) (ae_v 0))))) (as_one (as_ret ae_non)) as_nil)
    (as_cons (as_asg (vs := [2, 3]) (ae_ix (ae_v 1) ae_int) (ag_st (n := 2) (i := 1) rfl (by decide) (ags_cons (ag_n 2 hN (by decide)) (ags_st (ag_n 3 hN (by decide)) ags_nil))))
    (as_one (as_ret (ae_tup (aa_cons (ae_v 0) (aa_cons (ae_add (ae_ix (ae_v 2) ae_int) (ae_tuple rfl b_tuple (aa_cons (ae_v 3) aa_nil))) aa_nil)))))))
theorem sc_without : FnScope N_without P_without (defScope s_without) := ⟨rfl, rfl, rfl, by decide +kernel, rfl, by decide +kernel, by decide +kernel⟩
def T_without : ATS :=
  (aSeq (aIfS (aOr (aB (aBin (fEq true) (aBin fIx (aV 2) (aC (.int 0))) (aV 0))) (aOr (aB (aBin (fEq true) (aFn (f1 gLen) (aCons (aBin fIx (aV 2) (aC (.int 1))) aNil)) (aC (.int 2)))) (aB (aBin (fInD true) (aV 1) (aBin fIx (aV 2) (aC (.int 1))))))) (aRet (aC .non)) aNext)
  (aSeq (aAsg (aBin fIx (aV 2) (aC (.int 1))) (gTp 2 (gsCons (gN 3) (gsCons (gN 4) gsNil))))
  (aRet (aIf (aB (aBin (fEq false) (aV 3) (aV 1))) (aV 4) (aV 3)))))
theorem w_without {P : Program} {w : World} {K : PySem.W.Frag} {mg : Str → Option Value} {base : Heap} {k : Nat}
    (b_len : mg "len" = none)
    {f : Addr} {cdv : Value} {A : Around} {outer : List PySem.Env} {s : Shared} {H : Hp} {E : XK} {w0 : Wd} (hr : Room k (A.deeper (envOfC "without" (defScope s_without) s.heap.objs.size f cdv))) (hgd : A.guards = some []) :
    ASs (cxOf CX0 P w K mg base N_without "without" (defScope s_without) f cdv A outer s H E).nox w0 (defBody s_without) (T_without) :=
  have hN : (N_without : List Str).Nodup := sc_without.nd
  (as_cons (as_if (at_w (aw_or (at_ne hr (ae_ix (ae_v 2) ae_int) (ae_v 0)) (aw_or (at_ne hr (ae_len rfl b_len (aa_cons (ae_ix (ae_v 2) ae_int) aa_nil)) ae_int) (aw_or1 (at_notinD hr (ae_v 1) (ae_ix (ae_v 2) ae_int)))))) (as_one (as_ret ae_non)) as_nil)
    (as_cons (as_asg (vs := [3, 4]) (ae_ix (ae_v 2) ae_int) (ag_tp (n := 2) rfl (ags_cons (ag_n 3 hN (by decide)) (ags_cons (ag_n 4 hN (by decide)) ags_nil))))
    (as_one (as_ret (ae_if (at_eq hr (ae_v 3) (ae_v 1)) (ae_v 4) (ae_v 3))))))
theorem sc_not_twice : FnScope N_not_twice P_not_twice (defScope s_not_twice) := ⟨rfl, rfl, rfl, by decide +kernel, rfl, by decide +kernel, by decide +kernel⟩
def T_not_twice : ATS :=
  (aSeq (aIfS (aOr (aB (aBin (fEq true) (aBin fIx (aV 0) (aC (.int 0))) (aC (.str "not")))) (aB (aBin (fEq true) (aBin fIx (aBin fIx (aV 0) (aC (.int 1))) (aC (.int 0))) (aC (.str "not"))))) (aRet (aC .non)) aNext)
  (aRet (aTup (aCons (aC (.str "ahead")) (aCons (aBin fIx (aBin fIx (aV 0) (aC (.int 1))) (aC (.int 1))) aNil)))))
theorem w_not_twice {P : Program} {w : World} {K : PySem.W.Frag} {mg : Str → Option Value} {base : Heap} {k : Nat}
    
    {f : Addr} {cdv : Value} {A : Around} {outer : List PySem.Env} {s : Shared} {H : Hp} {E : XK} {w0 : Wd} (hr : Room k (A.deeper (envOfC "not_twice" (defScope s_not_twice) s.heap.objs.size f cdv))) (hgd : A.guards = some []) :
    ASs (cxOf CX0 P w K mg base N_not_twice "not_twice" (defScope s_not_twice) f cdv A outer s H E).nox w0 (defBody s_not_twice) (T_not_twice) :=
  have hN : (N_not_twice : List Str).Nodup := sc_not_twice.nd
  (as_cons (as_if (at_w (aw_or (at_ne hr (ae_ix (ae_v 0) ae_int) ae_str) (aw_or1 (at_ne hr (ae_ix (ae_ix (ae_v 0) ae_int) ae_int) ae_str)))) (as_one (as_ret ae_non)) as_nil)
    (as_one (as_ret (ae_tup (aa_cons ae_str (aa_cons (ae_ix (ae_ix (ae_v 0) ae_int) ae_int) aa_nil))))))
theorem sc_as_choice : FnScope N_as_choice P_as_choice (defScope s_as_choice) := ⟨rfl, rfl, rfl, by decide +kernel, rfl, by decide +kernel, by decide +kernel⟩
def T_as_choice : ATS :=
  (aSeq (aIfS (aB (aBin (fEq true) (aBin fIx (aV 0) (aC (.int 0))) (aC (.str "maybe")))) (aRet (aC .non)) aNext)
  (aRet (aTup (aCons (aC (.str "choice")) (aCons (aTup (aCons (aBin fIx (aV 0) (aC (.int 1))) (aCons (aC d_NOTHING) aNil))) aNil)))))
theorem w_as_choice {P : Program} {w : World} {K : PySem.W.Frag} {mg : Str → Option Value} {base : Heap} {k : Nat}
    (t_NOTHING : GloD K mg "NOTHING" d_NOTHING)
    {f : Addr} {cdv : Value} {A : Around} {outer : List PySem.Env} {s : Shared} {H : Hp} {E : XK} {w0 : Wd} (hr : Room k (A.deeper (envOfC "as_choice" (defScope s_as_choice) s.heap.objs.size f cdv))) (hgd : A.guards = some []) :
    ASs (cxOf CX0 P w K mg base N_as_choice "as_choice" (defScope s_as_choice) f cdv A outer s H E).nox w0 (defBody s_as_choice) (T_as_choice) :=
  have hN : (N_as_choice : List Str).Nodup := sc_as_choice.nd
  (as_cons (as_if (at_ne hr (ae_ix (ae_v 0) ae_int) ae_str) (as_one (as_ret ae_non)) as_nil)
    (as_one (as_ret (ae_tup (aa_cons ae_str (aa_cons (ae_tup (aa_cons (ae_ix (ae_v 0) ae_int) (aa_cons (ae_gloD rfl t_NOTHING) aa_nil))) aa_nil))))))
theorem sc_once_more : FnScope N_once_more P_once_more (defScope s_once_more) := ⟨rfl, rfl, rfl, by decide +kernel, rfl, by decide +kernel, by decide +kernel⟩
def T_once_more : ATS :=
  (aSeq (aIfS (aB (aBin (fEq true) (aBin fIx (aV 0) (aC (.int 0))) (aC (.str "many")))) (aRet (aC .non)) aNext)
  (aRet (aTup (aCons (aC (.str "choice")) (aCons (aTup (aCons (aTup (aCons (aC (.str "row")) (aCons (aTup (aCons (aBin fIx (aV 0) (aC (.int 1))) (aCons (aV 0) aNil))) aNil))) (aCons (aC d_NOTHING) aNil))) aNil)))))
theorem w_once_more {P : Program} {w : World} {K : PySem.W.Frag} {mg : Str → Option Value} {base : Heap} {k : Nat}
    (t_NOTHING : GloD K mg "NOTHING" d_NOTHING)
    {f : Addr} {cdv : Value} {A : Around} {outer : List PySem.Env} {s : Shared} {H : Hp} {E : XK} {w0 : Wd} (hr : Room k (A.deeper (envOfC "once_more" (defScope s_once_more) s.heap.objs.size f cdv))) (hgd : A.guards = some []) :
    ASs (cxOf CX0 P w K mg base N_once_more "once_more" (defScope s_once_more) f cdv A outer s H E).nox w0 (defBody s_once_more) (T_once_more) :=
  have hN : (N_once_more : List Str).Nodup := sc_once_more.nd
  (as_cons (as_if (at_ne hr (ae_ix (ae_v 0) ae_int) ae_str) (as_one (as_ret ae_non)) as_nil)
    (as_one (as_ret (ae_tup (aa_cons ae_str (aa_cons (ae_tup (aa_cons (ae_tup (aa_cons ae_str (aa_cons (ae_tup (aa_cons (ae_ix (ae_v 0) ae_int) (aa_cons (ae_v 0) aa_nil))) aa_nil))) (aa_cons (ae_gloD rfl t_NOTHING) aa_nil))) aa_nil))))))
theorem sc_alike : FnScope N_alike P_alike (defScope s_alike) := ⟨rfl, rfl, rfl, by decide +kernel, rfl, by decide +kernel, by decide +kernel⟩
def T_alike : ATS :=
  (aSeq (aIfS (aOr (aB (aBin (fEq true) (aBin fIx (aV 0) (aC (.int 0))) (aC (.str "choice")))) (aOr (aB (aBin (fEq true) (aFn (f1 gLen) (aCons (aBin fIx (aV 0) (aC (.int 1))) aNil)) (aC (.int 2)))) (aB (aBin (fEq true) (aBin fIx (aBin fIx (aV 0) (aC (.int 1))) (aC (.int 0))) (aBin fIx (aBin fIx (aV 0) (aC (.int 1))) (aC (.int 1))))))) (aRet (aC .non)) aNext)
  (aRet (aBin fIx (aBin fIx (aV 0) (aC (.int 1))) (aC (.int 0)))))
theorem w_alike {P : Program} {w : World} {K : PySem.W.Frag} {mg : Str → Option Value} {base : Heap} {k : Nat}
    (b_len : mg "len" = none)
    {f : Addr} {cdv : Value} {A : Around} {outer : List PySem.Env} {s : Shared} {H : Hp} {E : XK} {w0 : Wd} (hr : Room k (A.deeper (envOfC "alike" (defScope s_alike) s.heap.objs.size f cdv))) (hgd : A.guards = some []) :
    ASs (cxOf CX0 P w K mg base N_alike "alike" (defScope s_alike) f cdv A outer s H E).nox w0 (defBody s_alike) (T_alike) :=
  have hN : (N_alike : List Str).Nodup := sc_alike.nd
  (as_cons (as_if (at_w (aw_or (at_ne hr (ae_ix (ae_v 0) ae_int) ae_str) (aw_or (at_ne hr (ae_len rfl b_len (aa_cons (ae_ix (ae_v 0) ae_int) aa_nil)) ae_int) (aw_or1 (at_ne hr (ae_ix (ae_ix (ae_v 0) ae_int) ae_int) (ae_ix (ae_ix (ae_v 0) ae_int) ae_int)))))) (as_one (as_ret ae_non)) as_nil)
    (as_one (as_ret (ae_ix (ae_ix (ae_v 0) ae_int) ae_int))))
theorem sc_by_rule : FnScope N_by_rule P_by_rule (defScope s_by_rule) := ⟨rfl, rfl, rfl, by decide +kernel, rfl, by decide +kernel, by decide +kernel⟩
def T_by_rule (S_joined : L3.Spec) (S_without : L3.Spec) (S_not_twice : L3.Spec) (S_as_choice : L3.Spec) (S_once_more : L3.Spec) (S_alike : L3.Spec) (a_alike : Addr) (a_once_more : Addr) (a_as_choice : Addr) (a_not_twice : Addr) : ATS :=
  (aSeq (aIfS (aB (aBin (fIn false) (aV 1) (aTup (aCons (aC (.str "choice")) (aCons (aC (.str "row")) aNil))))) (aRet (aCall S_joined [] (aCons (aV 1) (aCons (aV 0) aNil)))) aNext)
  (aSeq (aIfS (aB (aBin (fEq false) (aV 1) (aC (.str "nothing")))) (aRet (aCall S_without [] (aCons (aC (.str "row")) (aCons (aC d_NOTHING) (aCons (aV 0) aNil))))) aNext)
  (aSeq (aIfS (aB (aBin (fEq false) (aV 1) (aC (.str "never")))) (aRet (aCall S_without [] (aCons (aC (.str "choice")) (aCons (aC d_NEVER) (aCons (aV 0) aNil))))) aNext)
  (aSeq (aAsg (aC (.dct (dKV [("twice", .ref a_not_twice), ("maybe", .ref a_as_choice), ("many", .ref a_once_more), ("same", .ref a_alike)]))) (gN 2))
  (aRet (aCallV [(a_not_twice, S_not_twice), (a_as_choice, S_as_choice), (a_once_more, S_once_more), (a_alike, S_alike)] (aBin (fIxKV [("twice", .ref a_not_twice), ("maybe", .ref a_as_choice), ("many", .ref a_once_more), ("same", .ref a_alike)]) (aV 2) (aV 1)) (aCons (aV 0) aNil)))))))
theorem w_by_rule {P : Program} {w : World} {K : PySem.W.Frag} {mg : Str → Option Value} {base : Heap} {k : Nat} {S_joined : L3.Spec} {S_without : L3.Spec} {S_not_twice : L3.Spec} {S_as_choice : L3.Spec} {S_once_more : L3.Spec} {S_alike : L3.Spec} {a_alike : Addr} {a_once_more : Addr} {a_as_choice : Addr} {a_not_twice : Addr}
    (F_joined : Kn P w K mg base k "joined" P_joined [] S_joined) (F_without : Kn P w K mg base k "without" P_without [] S_without) (A_not_twice : KnA P w K mg base k a_not_twice P_not_twice S_not_twice) (A_as_choice : KnA P w K mg base k a_as_choice P_as_choice S_as_choice) (A_once_more : KnA P w K mg base k a_once_more P_once_more S_once_more) (A_alike : KnA P w K mg base k a_alike P_alike S_alike) (t_NOTHING : GloD K mg "NOTHING" d_NOTHING) (t_NEVER : GloD K mg "NEVER" d_NEVER) (m_alike : mg "alike" = some (.ref a_alike)) (m_once_more : mg "once_more" = some (.ref a_once_more)) (m_as_choice : mg "as_choice" = some (.ref a_as_choice)) (m_not_twice : mg "not_twice" = some (.ref a_not_twice))
    {f : Addr} {cdv : Value} {A : Around} {outer : List PySem.Env} {s : Shared} {H : Hp} {E : XK} {w0 : Wd} (hr : Room k (A.deeper (envOfC "by_rule" (defScope s_by_rule) s.heap.objs.size f cdv))) (hgd : A.guards = some []) :
    ASs (cxOf CX0 P w K mg base N_by_rule "by_rule" (defScope s_by_rule) f cdv A outer s H E).nox w0 (defBody s_by_rule) (T_by_rule S_joined S_without S_not_twice S_as_choice S_once_more S_alike a_alike a_once_more a_as_choice a_not_twice) :=
  have hN : (N_by_rule : List Str).Nodup := sc_by_rule.nd
  (as_cons (as_if (at_in (ae_v 1) (ae_tup (aa_cons ae_str (aa_cons ae_str aa_nil)))) (as_one (as_ret (ae_call F_joined hr hgd rfl (aa_cons (ae_v 1) (aa_cons (ae_v 0) aa_nil))))) as_nil)
    (as_cons (as_if (at_eq hr (ae_v 1) ae_str) (as_one (as_ret (ae_call F_without hr hgd rfl (aa_cons ae_str (aa_cons (ae_gloD rfl t_NOTHING) (aa_cons (ae_v 0) aa_nil)))))) as_nil)
    (as_cons (as_if (at_eq hr (ae_v 1) ae_str) (as_one (as_ret (ae_call F_without hr hgd rfl (aa_cons ae_str (aa_cons (ae_gloD rfl t_NEVER) (aa_cons (ae_v 0) aa_nil)))))) as_nil)
    (as_cons (as_set 2 hN (ae_dlitV [("twice", .ref a_not_twice), ("maybe", .ref a_as_choice), ("many", .ref a_once_more), ("same", .ref a_alike)] (pps_cons pe_str (pe_glob rfl m_not_twice rfl) (pps_cons pe_str (pe_glob rfl m_as_choice rfl) (pps_cons pe_str (pe_glob rfl m_once_more rfl) (pps_cons pe_str (pe_glob rfl m_alike rfl) pps_nil))))))
    (as_one (as_ret (ae_callV (by intro q hq; simp only [List.mem_cons, List.not_mem_nil, or_false] at hq; rcases hq with rfl | rfl | rfl | rfl; exact ⟨_, A_not_twice⟩; exact ⟨_, A_as_choice⟩; exact ⟨_, A_once_more⟩; exact ⟨_, A_alike⟩) hr hgd (ae_ixKV [("twice", .ref a_not_twice), ("maybe", .ref a_as_choice), ("many", .ref a_once_more), ("same", .ref a_alike)] hr (ae_v 2) (ae_v 1)) (aa_cons (ae_v 0) aa_nil))))))))
theorem sc_turned : FnScope N_turned P_turned (defScope s_turned) := ⟨rfl, rfl, rfl, by decide +kernel, rfl, by decide +kernel, by decide +kernel⟩
def T_turned (S_by_rule : L3.Spec) (S_is_reader : L3.Spec) : ATS :=
  (aSeq (aAsg (aCall S_by_rule [] (aCons (aV 0) (aCons (aV 1) aNil))) (gN 2))
  (aRet (aIf (aAnd (aB (aBin (fIsN true) (aV 2) (aC .non))) (aTru (aCall S_is_reader [] (aCons (aV 2) aNil)))) (aV 2) (aC .non))))
theorem w_turned {P : Program} {w : World} {K : PySem.W.Frag} {mg : Str → Option Value} {base : Heap} {k : Nat} {S_by_rule : L3.Spec} {S_is_reader : L3.Spec}
    (F_by_rule : Kn P w K mg base k "by_rule" P_by_rule [] S_by_rule) (F_is_reader : Kn P w K mg base k "is_reader" P_is_reader [] S_is_reader)
    {f : Addr} {cdv : Value} {A : Around} {outer : List PySem.Env} {s : Shared} {H : Hp} {E : XK} {w0 : Wd} (hr : Room k (A.deeper (envOfC "turned" (defScope s_turned) s.heap.objs.size f cdv))) (hgd : A.guards = some []) :
    ASs (cxOf CX0 P w K mg base N_turned "turned" (defScope s_turned) f cdv A outer s H E).nox w0 (defBody s_turned) (T_turned S_by_rule S_is_reader) :=
  have hN : (N_turned : List Str).Nodup := sc_turned.nd
  (as_cons (as_set 2 hN (ae_call F_by_rule hr hgd rfl (aa_cons (ae_v 0) (aa_cons (ae_v 1) aa_nil))))
    (as_one (as_ret (ae_if (at_w (aw_and (at_notN (ae_v 2) ae_non) (aw_and1 (at_tru (ae_call F_is_reader hr hgd rfl (aa_cons (ae_v 2) aa_nil)))))) (ae_v 2) ae_non))))
theorem sc_law_pen : FnScope N_law_pen P_law_pen (defScope s_law_pen) := ⟨rfl, rfl, rfl, by decide +kernel, rfl, by decide +kernel, by decide +kernel⟩
def T_law_pen : ATS :=
  (aRet (aOw (aLst (aCons (aFn (f1 gList) (aCons (aSl (aV 0) aNo (aSo (aC (.int 63)))) aNil)) (aCons (aC (.int 0)) (aCons (aC (.int 0)) aNil))))))
theorem w_law_pen {P : Program} {w : World} {K : PySem.W.Frag} {mg : Str → Option Value} {base : Heap} {k : Nat}
    (b_list : mg "list" = none)
    {f : Addr} {cdv : Value} {A : Around} {outer : List PySem.Env} {s : Shared} {H : Hp} {E : XK} {w0 : Wd} (hr : Room k (A.deeper (envOfC "_law_pen" (defScope s_law_pen) s.heap.objs.size f cdv))) (hgd : A.guards = some []) :
    ASs (cxOf CX0 P w K mg base N_law_pen "_law_pen" (defScope s_law_pen) f cdv A outer s H E).nox w0 (defBody s_law_pen) (T_law_pen) :=
  have hN : (N_law_pen : List Str).Nodup := sc_law_pen.nd
  (as_one (as_ret (ae_ow (an_lst (aa_cons (ae_list rfl b_list (aa_cons (ae_sl (ae_v 0) ao_none (ao_some ae_int)) aa_nil)) (aa_cons ae_int (aa_cons ae_int aa_nil)))))))
theorem sc_law_draw : FnScope N_law_draw P_law_draw (defScope s_law_draw) := ⟨rfl, rfl, rfl, by decide +kernel, rfl, by decide +kernel, by decide +kernel⟩
def T_law_draw : ATS :=
  (aSeq (aIfS (aB (aBin fGt (aBin fIx (aV 0) (aC (.int 2))) (aC (.int 0)))) (aSeq (aAsg (aBin fMod (aBin fIx (aV 0) (aC (.int 2))) (aV 1)) (gN 5))
  (aSeq (aAsg (aBin fDiv (aBin fIx (aV 0) (aC (.int 2))) (aV 1)) (gSubL (aV 0) (aC (.int 2))))
  (aRet (aV 5)))) aNext)
  (aSeq (aAsg (aBin fIx (aV 0) (aC (.int 1))) (gN 2))
  (aSeq (aAsg (aBin fAdd (aV 2) (aC (.int 1))) (gSubL (aV 0) (aC (.int 1))))
  (aSeq (aAsg (aBin fAdd (aBin fMul (aC (.int 7919)) (aV 2)) (aC (.int 71))) (gN 3))
  (aSeq (aIfS (aB (aBin fGt (aFn (f1 gLen) (aCons (aBin fIx (aV 0) (aC (.int 0))) aNil)) (aC (.int 0)))) (aAsg (aBin fIx (aBin fIx (aV 0) (aC (.int 0))) (aBin fMod (aV 2) (aFn (f1 gLen) (aCons (aBin fIx (aV 0) (aC (.int 0))) aNil)))) (gN 3)) aNext)
  (aSeq (aIfS (aAnd (aB (aBin fLt (aV 2) (aFn (f1 gLen) (aCons (aBin fIx (aV 0) (aC (.int 0))) aNil)))) (aB (aBin fGe (aFn (f1 gAbs) (aCons (aV 3) aNil)) (aBin fPow (aC (.int 10)) (aC (.int 18)))))) (aSeq (aAsg (aBin fDiv (aFn (f1 gAbs) (aCons (aV 3) aNil)) (aV 1)) (gSubL (aV 0) (aC (.int 2))))
  (aRet (aBin fMod (aFn (f1 gAbs) (aCons (aV 3) aNil)) (aV 1)))) aNext)
  (aSeq (aAsg (aBin fMod (aBin fPow (aBin fAdd (aBin fAdd (aBin fAdd (aBin fMod (aV 3) (aC (.int 2147483563))) (aBin fMul (aBin fMul (aC (.int 50021)) (aV 2)) (aV 2))) (aBin fMul (aC (.int 31013)) (aV 2))) (aC (.int 41))) (aC (.int 5))) (aC (.int 2147483579))) (gN 4))
  (aSeq (aAsg (aBin fMod (aBin fPow (aBin fAdd (aBin fMul (aV 4) (aBin fAdd (aBin fMul (aC (.int 2)) (aV 2)) (aC (.int 3)))) (aC (.int 60013))) (aC (.int 3))) (aC (.int 2147483543))) (gN 4))
  (aRet (aBin fMod (aBin fDiv (aV 4) (aC (.int 32))) (aV 1)))))))))))
theorem w_law_draw {P : Program} {w : World} {K : PySem.W.Frag} {mg : Str → Option Value} {base : Heap} {k : Nat}
    (b_len : mg "len" = none) (b_abs : mg "abs" = none)
    {f : Addr} {cdv : Value} {A : Around} {outer : List PySem.Env} {s : Shared} {H : Hp} {E : XK} {w0 : Wd} (hr : Room k (A.deeper (envOfC "_law_draw" (defScope s_law_draw) s.heap.objs.size f cdv))) (hgd : A.guards = some []) :
    ASs (cxOf CX0 P w K mg base N_law_draw "_law_draw" (defScope s_law_draw) f cdv A outer s H E).nox w0 (defBody s_law_draw) (T_law_draw) :=
  have hN : (N_law_draw : List Str).Nodup := sc_law_draw.nd
  (as_cons (as_if (at_gt (ae_ix (ae_v 0) ae_int) ae_int) (as_cons (as_set 5 hN (ae_mod (ae_ix (ae_v 0) ae_int) (ae_v 1)))
    (as_cons (as_asg (vs := []) (ae_div (ae_ix (ae_v 0) ae_int) (ae_v 1)) (ag_sub (ae_v 0) ae_int))
    (as_one (as_ret (ae_v 5))))) as_nil)
    (as_cons (as_set 2 hN (ae_ix (ae_v 0) ae_int))
    (as_cons (as_asg (vs := []) (ae_add (ae_v 2) ae_int) (ag_sub (ae_v 0) ae_int))
    (as_cons (as_set 3 hN (ae_add (ae_mul ae_int (ae_v 2)) ae_int))
    (as_cons (as_if (at_gt (ae_len rfl b_len (aa_cons (ae_ix (ae_v 0) ae_int) aa_nil)) ae_int) (as_one (as_set 3 hN (ae_ix (ae_ix (ae_v 0) ae_int) (ae_mod (ae_v 2) (ae_len rfl b_len (aa_cons (ae_ix (ae_v 0) ae_int) aa_nil)))))) as_nil)
    (as_cons (as_if (at_w (aw_and (at_lt (ae_v 2) (ae_len rfl b_len (aa_cons (ae_ix (ae_v 0) ae_int) aa_nil))) (aw_and1 (at_ge (ae_abs rfl b_abs (aa_cons (ae_v 3) aa_nil)) (ae_pow ae_int ae_int))))) (as_cons (as_asg (vs := []) (ae_div (ae_abs rfl b_abs (aa_cons (ae_v 3) aa_nil)) (ae_v 1)) (ag_sub (ae_v 0) ae_int))
    (as_one (as_ret (ae_mod (ae_abs rfl b_abs (aa_cons (ae_v 3) aa_nil)) (ae_v 1))))) as_nil)
    (as_cons (as_set 4 hN (ae_mod (ae_pow (ae_add (ae_add (ae_add (ae_mod (ae_v 3) ae_int) (ae_mul (ae_mul ae_int (ae_v 2)) (ae_v 2))) (ae_mul ae_int (ae_v 2))) ae_int) ae_int) ae_int))
    (as_cons (as_set 4 hN (ae_mod (ae_pow (ae_add (ae_mul (ae_v 4) (ae_add (ae_mul ae_int (ae_v 2)) ae_int)) ae_int) ae_int) ae_int))
    (as_one (as_ret (ae_mod (ae_div (ae_v 4) ae_int) (ae_v 1))))))))))))
theorem sc_law_names : FnScope N_law_names P_law_names (defScope s_law_names) := ⟨rfl, rfl, rfl, by decide +kernel, rfl, by decide +kernel, by decide +kernel⟩
def T_law_names (S_law_draw : L3.Spec) : ATS :=
  (aSeq (aAsg (aC (.str "abcdefghijklmnopqrstuvwxyz")) (gN 2))
  (aSeq (aAsg (aFz (aLst (aCons (aC (.str "row")) (aCons (aC (.str "choice")) (aCons (aC (.str "many")) (aCons (aC (.str "name")) (aCons (aC (.str "sign")) (aCons (aC (.str "tag")) (aCons (aC (.str "hold")) (aCons (aC (.str "nothing")) aNil)))))))))) (gN 3))
  (aSeq (aAsg (aCall S_law_draw [] (aCons (aV 0) (aCons (aC (.int 26)) aNil))) (gN 4))
  (aSeq (aIfS (aB (aBin (fEq false) (aCall S_law_draw [] (aCons (aV 0) (aCons (aC (.int 4)) aNil))) (aC (.int 0)))) (aRet (aFz (aLc (aRng1 (aCons (aV 1) aNil)) (gN 7) aYes (aBin fIx (aV 3) (aBin fMod (aBin fAdd (aV 4) (aBin fMul (aC (.int 3)) (aV 7))) (aC (.int 8)))) [7]))) aNext)
  (aSeq (aAsg (aJoin (aC (.str "")) (aFz (aLc (aRng1 (aCons (aBin fIx (aFz (aLst (aCons (aC (.int 0)) (aCons (aC (.int 2)) (aCons (aC (.int 7)) aNil))))) (aCall S_law_draw [] (aCons (aV 0) (aCons (aC (.int 3)) aNil)))) aNil)) (gN 7) aYes (aBin fIx (aV 2) (aCall S_law_draw [] (aCons (aV 0) (aCons (aC (.int 26)) aNil)))) [7]))) (gN 5))
  (aSeq (aAsg (aCall S_law_draw [] (aCons (aV 0) (aCons (aBin fAdd (aFn (f1 gLen) (aCons (aV 5) aNil)) (aC (.int 1))) aNil))) (gN 6))
  (aRet (aFz (aLc (aRng1 (aCons (aV 1) aNil)) (gN 7) aYes (aBin fAdd (aBin fAdd (aSl (aV 5) aNo (aSo (aV 6))) (aBin fIx (aV 2) (aBin fMod (aBin fAdd (aV 4) (aBin fMul (aC (.int 11)) (aV 7))) (aC (.int 26))))) (aSl (aV 5) (aSo (aV 6)) aNo)) [7])))))))))
theorem w_law_names {P : Program} {w : World} {K : PySem.W.Frag} {mg : Str → Option Value} {base : Heap} {k : Nat} {S_law_draw : L3.Spec}
    (F_law_draw : Kn P w K mg base k "_law_draw" P_law_draw [] S_law_draw) (b_range : mg "range" = none) (b_len : mg "len" = none)
    {f : Addr} {cdv : Value} {A : Around} {outer : List PySem.Env} {s : Shared} {H : Hp} {E : XK} {w0 : Wd} (hr : Room k (A.deeper (envOfC "_law_names" (defScope s_law_names) s.heap.objs.size f cdv))) (hgd : A.guards = some []) :
    ASs (cxOf CX0 P w K mg base N_law_names "_law_names" (defScope s_law_names) f cdv A outer s H E).nox w0 (defBody s_law_names) (T_law_names S_law_draw) :=
  have hN : (N_law_names : List Str).Nodup := sc_law_names.nd
  (as_cons (as_set 2 hN ae_str)
    (as_cons (as_set 3 hN (ae_fz (an_lst (aa_cons ae_str (aa_cons ae_str (aa_cons ae_str (aa_cons ae_str (aa_cons ae_str (aa_cons ae_str (aa_cons ae_str (aa_cons ae_str aa_nil)))))))))))
    (as_cons (as_set 4 hN (ae_call F_law_draw hr hgd rfl (aa_cons (ae_v 0) (aa_cons ae_int aa_nil))))
    (as_cons (as_if (at_eq hr (ae_call F_law_draw hr hgd rfl (aa_cons (ae_v 0) (aa_cons ae_int aa_nil))) ae_int) (as_one (as_ret (ae_fz (an_lc [("_law_k", 7)] rfl hN (ai_rng1 rfl b_range (aa_cons (ae_v 1) aa_nil)) (blkOk_by (N := N_law_names) (sc := defScope s_law_names) (by decide +kernel)) (fun s H C cl fp => (ag_n 7 hN (by decide))) (fun s H C cl fp => ats_nil) (fun s H C cl fp => (ae_ix (ae_v 3) (ae_mod (ae_add (ae_v 4) (ae_mul ae_int (ae_v 7))) ae_int))))))) as_nil)
    (as_cons (as_set 5 hN (ae_join ae_str (ae_fz (an_lc [("_law_k", 7)] rfl hN (ai_rng1 rfl b_range (aa_cons (ae_ix (ae_fz (an_lst (aa_cons ae_int (aa_cons ae_int (aa_cons ae_int aa_nil))))) (ae_call F_law_draw hr hgd rfl (aa_cons (ae_v 0) (aa_cons ae_int aa_nil)))) aa_nil)) (blkOk_by (N := N_law_names) (sc := defScope s_law_names) (by decide +kernel)) (fun s H C cl fp => (ag_n 7 hN (by decide))) (fun s H C cl fp => ats_nil) (fun s H C cl fp => (ae_ix (ae_v 2) (ae_call F_law_draw hr hgd rfl (aa_cons (ae_v 0) (aa_cons ae_int aa_nil)))))))))
    (as_cons (as_set 6 hN (ae_call F_law_draw hr hgd rfl (aa_cons (ae_v 0) (aa_cons (ae_add (ae_len rfl b_len (aa_cons (ae_v 5) aa_nil)) ae_int) aa_nil))))
    (as_one (as_ret (ae_fz (an_lc [("_law_k", 7)] rfl hN (ai_rng1 rfl b_range (aa_cons (ae_v 1) aa_nil)) (blkOk_by (N := N_law_names) (sc := defScope s_law_names) (by decide +kernel)) (fun s H C cl fp => (ag_n 7 hN (by decide))) (fun s H C cl fp => ats_nil) (fun s H C cl fp => (ae_add (ae_add (ae_sl (ae_v 5) ao_none (ao_some (ae_v 6))) (ae_ix (ae_v 2) (ae_mod (ae_add (ae_v 4) (ae_mul ae_int (ae_v 7))) ae_int))) (ae_sl (ae_v 5) (ao_some (ae_v 6)) ao_none)))))))))))))
theorem sc_law_leaf : FnScope N_law_leaf P_law_leaf (defScope s_law_leaf) := ⟨rfl, rfl, rfl, by decide +kernel, rfl, by decide +kernel, by decide +kernel⟩
def T_law_leaf (S_law_draw : L3.Spec) : ATS :=
  (aSeq (aAsg (aBin fIx (aFz (aLst (aCons (aC (.str "+")) (aCons (aC (.str "a")) (aCons (aC (.str "b")) (aCons (aC (.str "ab")) (aCons (aC (.str " ")) (aCons (aC (.str "+a")) (aCons (aC (.str "\n")) (aCons (aC (.str "a")) aNil)))))))))) (aCall S_law_draw [] (aCons (aV 0) (aCons (aC (.int 8)) aNil)))) (gN 1))
  (aRet (aBin fIx (aFz (aLst (aCons (aTup (aCons (aC (.str "sign")) (aCons (aV 1) aNil))) (aCons (aTup (aCons (aC (.str "sign")) (aCons (aV 1) aNil))) (aCons (aTup (aCons (aC (.str "sign")) (aCons (aV 1) aNil))) (aCons (aTup (aCons (aC (.str "but")) (aCons (aV 1) aNil))) aNil)))))) (aCall S_law_draw [] (aCons (aV 0) (aCons (aC (.int 4)) aNil))))))
theorem w_law_leaf {P : Program} {w : World} {K : PySem.W.Frag} {mg : Str → Option Value} {base : Heap} {k : Nat} {S_law_draw : L3.Spec}
    (F_law_draw : Kn P w K mg base k "_law_draw" P_law_draw [] S_law_draw)
    {f : Addr} {cdv : Value} {A : Around} {outer : List PySem.Env} {s : Shared} {H : Hp} {E : XK} {w0 : Wd} (hr : Room k (A.deeper (envOfC "_law_leaf" (defScope s_law_leaf) s.heap.objs.size f cdv))) (hgd : A.guards = some []) :
    ASs (cxOf CX0 P w K mg base N_law_leaf "_law_leaf" (defScope s_law_leaf) f cdv A outer s H E).nox w0 (defBody s_law_leaf) (T_law_leaf S_law_draw) :=
  have hN : (N_law_leaf : List Str).Nodup := sc_law_leaf.nd
  (as_cons (as_set 1 hN (ae_ix (ae_fz (an_lst (aa_cons ae_str (aa_cons ae_str (aa_cons ae_str (aa_cons ae_str (aa_cons ae_str (aa_cons ae_str (aa_cons ae_str (aa_cons ae_str aa_nil)))))))))) (ae_call F_law_draw hr hgd rfl (aa_cons (ae_v 0) (aa_cons ae_int aa_nil)))))
    (as_one (as_ret (ae_ix (ae_fz (an_lst (aa_cons (ae_tup (aa_cons ae_str (aa_cons (ae_v 1) aa_nil))) (aa_cons (ae_tup (aa_cons ae_str (aa_cons (ae_v 1) aa_nil))) (aa_cons (ae_tup (aa_cons ae_str (aa_cons (ae_v 1) aa_nil))) (aa_cons (ae_tup (aa_cons ae_str (aa_cons (ae_v 1) aa_nil))) aa_nil)))))) (ae_call F_law_draw hr hgd rfl (aa_cons (ae_v 0) (aa_cons ae_int aa_nil)))))))
theorem sc_law_taking : FnScope N_law_taking P_law_taking (defScope s_law_taking) := ⟨rfl, rfl, rfl, by decide +kernel, rfl, by decide +kernel, by decide +kernel⟩
def T_law_taking (S_law_draw : L3.Spec) (S_law_leaf : L3.Spec) (S_law_part : L3.Spec) : ATS :=
  (aSeq (aIfS (aOr (aB (aBin fLt (aV 3) (aC (.int 2)))) (aOr (aB (aBin fLt (aV 4) (aC (.int 3)))) (aB (aBin (fEq false) (aCall S_law_draw [] (aCons (aV 0) (aCons (aC (.int 3)) aNil))) (aC (.int 0)))))) (aRet (aCall S_law_leaf [] (aCons (aV 0) aNil))) aNext)
  (aSeq (aAsg (aOw (aLst (aCons (aCall S_law_leaf [] (aCons (aV 0) aNil)) aNil))) (gN 5))
  (aSeq (aFor (aRng1 (aCons (aBin fAdd (aC (.int 1)) (aCall S_law_draw [] (aCons (aV 0) (aCons (aC (.int 2)) aNil)))) aNil)) (gN 6) (aIfS (aB (aBin (fEq false) (aCall S_law_draw [] (aCons (aV 0) (aCons (aC (.int 3)) aNil))) (aC (.int 0)))) (aDrop (aApp (aV 5) (aTup (aCons (aC (.str "name")) (aCons (aBin fIx (aV 1) (aCall S_law_draw [] (aCons (aV 0) (aCons (aFn (f1 gLen) (aCons (aV 1) aNil)) aNil)))) aNil))))) (aDrop (aApp (aV 5) (aCall S_law_part [] (aCons (aV 0) (aCons (aV 1) (aCons (aV 2) (aCons (aBin fSub (aV 3) (aC (.int 1))) (aCons (aBin fDiv (aBin fSub (aV 4) (aC (.int 2))) (aC (.int 2))) aNil))))))))))
  (aRet (aTup (aCons (aC (.str "row")) (aCons (aFn (f1 gTuple) (aCons (aV 5) aNil)) aNil)))))))
theorem w_law_taking {P : Program} {w : World} {K : PySem.W.Frag} {mg : Str → Option Value} {base : Heap} {k : Nat} {S_law_draw : L3.Spec} {S_law_leaf : L3.Spec} {S_law_part : L3.Spec}
    (F_law_draw : Kn P w K mg base k "_law_draw" P_law_draw [] S_law_draw) (F_law_leaf : Kn P w K mg base k "_law_leaf" P_law_leaf [] S_law_leaf) (F_law_part : Kn P w K mg base k "_law_part" P_law_part [] S_law_part) (b_range : mg "range" = none) (b_len : mg "len" = none) (b_tuple : mg "tuple" = none)
    {f : Addr} {cdv : Value} {A : Around} {outer : List PySem.Env} {s : Shared} {H : Hp} {E : XK} {w0 : Wd} (hr : Room k (A.deeper (envOfC "_law_taking" (defScope s_law_taking) s.heap.objs.size f cdv))) (hgd : A.guards = some []) :
    ASs (cxOf CX0 P w K mg base N_law_taking "_law_taking" (defScope s_law_taking) f cdv A outer s H E).nox w0 (defBody s_law_taking) (T_law_taking S_law_draw S_law_leaf S_law_part) :=
  have hN : (N_law_taking : List Str).Nodup := sc_law_taking.nd
  (as_cons (as_if (at_w (aw_or (at_lt (ae_v 3) ae_int) (aw_or (at_lt (ae_v 4) ae_int) (aw_or1 (at_eq hr (ae_call F_law_draw hr hgd rfl (aa_cons (ae_v 0) (aa_cons ae_int aa_nil))) ae_int))))) (as_one (as_ret (ae_call F_law_leaf hr hgd rfl (aa_cons (ae_v 0) aa_nil)))) as_nil)
    (as_cons (as_set 5 hN (ae_ow (an_lst (aa_cons (ae_call F_law_leaf hr hgd rfl (aa_cons (ae_v 0) aa_nil)) aa_nil))))
    (as_cons (as_for (vs := [6]) PassesOwn.never rfl (ai_rng1 rfl b_range (aa_cons (ae_add ae_int (ae_call F_law_draw hr hgd rfl (aa_cons (ae_v 0) (aa_cons ae_int aa_nil)))) aa_nil)) (ag_n 6 hN (by decide)) (as_one (as_if (at_eq hr (ae_call F_law_draw hr hgd rfl (aa_cons (ae_v 0) (aa_cons ae_int aa_nil))) ae_int) (as_one (as_expr (ae_append (ae_v 5) (ae_tup (aa_cons ae_str (aa_cons (ae_ix (ae_v 1) (ae_call F_law_draw hr hgd rfl (aa_cons (ae_v 0) (aa_cons (ae_len rfl b_len (aa_cons (ae_v 1) aa_nil)) aa_nil)))) aa_nil)))))) (as_one (as_expr (ae_append (ae_v 5) (ae_call F_law_part hr hgd rfl (aa_cons (ae_v 0) (aa_cons (ae_v 1) (aa_cons (ae_v 2) (aa_cons (ae_subt (ae_v 3) ae_int) (aa_cons (ae_div (ae_subt (ae_v 4) ae_int) ae_int) aa_nil))))))))))))
    (as_one (as_ret (ae_tup (aa_cons ae_str (aa_cons (ae_tuple rfl b_tuple (aa_cons (ae_v 5) aa_nil)) aa_nil))))))))
theorem sc_law_some : FnScope N_law_some P_law_some (defScope s_law_some) := ⟨rfl, rfl, rfl, by decide +kernel, rfl, by decide +kernel, by decide +kernel⟩
def T_law_some (S_law_part : L3.Spec) : ATS :=
  (aRet (aFn (f1 gTuple) (aCons (aFz (aLc (aRng1 (aCons (aV 5) aNil)) (gN 6) aYes (aCall S_law_part [] (aCons (aV 0) (aCons (aV 1) (aCons (aV 2) (aCons (aBin fSub (aV 3) (aC (.int 1))) (aCons (aBin fDiv (aBin fSub (aV 4) (aC (.int 1))) (aV 5)) aNil)))))) [6])) aNil)))
theorem w_law_some {P : Program} {w : World} {K : PySem.W.Frag} {mg : Str → Option Value} {base : Heap} {k : Nat} {S_law_part : L3.Spec}
    (F_law_part : Kn P w K mg base k "_law_part" P_law_part [] S_law_part) (b_range : mg "range" = none) (b_tuple : mg "tuple" = none)
    {f : Addr} {cdv : Value} {A : Around} {outer : List PySem.Env} {s : Shared} {H : Hp} {E : XK} {w0 : Wd} (hr : Room k (A.deeper (envOfC "_law_some" (defScope s_law_some) s.heap.objs.size f cdv))) (hgd : A.guards = some []) :
    ASs (cxOf CX0 P w K mg base N_law_some "_law_some" (defScope s_law_some) f cdv A outer s H E).nox w0 (defBody s_law_some) (T_law_some S_law_part) :=
  have hN : (N_law_some : List Str).Nodup := sc_law_some.nd
  (as_one (as_ret (ae_tuple rfl b_tuple (aa_cons (ae_fz (an_lc [("_law_k", 6)] rfl hN (ai_rng1 rfl b_range (aa_cons (ae_v 5) aa_nil)) (blkOk_by (N := N_law_some) (sc := defScope s_law_some) (by decide +kernel)) (fun s H C cl fp => (ag_n 6 hN (by decide))) (fun s H C cl fp => ats_nil) (fun s H C cl fp => (ae_call F_law_part hr hgd rfl (aa_cons (ae_v 0) (aa_cons (ae_v 1) (aa_cons (ae_v 2) (aa_cons (ae_subt (ae_v 3) ae_int) (aa_cons (ae_div (ae_subt (ae_v 4) ae_int) (ae_v 5)) aa_nil))))))))) aa_nil))))
theorem sc_law_part : FnScope N_law_part P_law_part (defScope s_law_part) := ⟨rfl, rfl, rfl, by decide +kernel, rfl, by decide +kernel, by decide +kernel⟩
def T_law_part (S_law_draw : L3.Spec) (S_law_leaf : L3.Spec) (S_law_taking : L3.Spec) (S_law_some : L3.Spec) (S_law_form : L3.Spec) : ATS :=
  (aSeq (aAsg (aCall S_law_draw [] (aCons (aV 0) (aCons (aC (.int 13)) aNil))) (gN 5))
  (aSeq (aIfS (aAnd (aB (aBin (fEq false) (aV 5) (aC (.int 0)))) (aB (aBin (fEq true) (aV 2) (aFz (aLst aNil))))) (aRet (aTup (aCons (aC (.str "name")) (aCons (aBin fIx (aV 2) (aCall S_law_draw [] (aCons (aV 0) (aCons (aFn (f1 gLen) (aCons (aV 2) aNil)) aNil)))) aNil)))) aNext)
  (aSeq (aIfS (aOr (aB (aBin fLt (aV 3) (aC (.int 2)))) (aOr (aB (aBin fLt (aV 4) (aC (.int 3)))) (aB (aBin fLt (aV 5) (aC (.int 3)))))) (aRet (aBin fIx (aFz (aLst (aCons (aCall S_law_leaf [] (aCons (aV 0) aNil)) (aCons (aCall S_law_leaf [] (aCons (aV 0) aNil)) (aCons (aTup (aCons (aC (.str "nothing")) aNil)) (aCons (aTup (aCons (aC (.str "never")) aNil)) (aCons (aCall S_law_leaf [] (aCons (aV 0) aNil)) aNil))))))) (aCall S_law_draw [] (aCons (aV 0) (aCons (aC (.int 5)) aNil))))) aNext)
  (aSeq (aIfS (aB (aBin (fEq false) (aV 5) (aC (.int 3)))) (aRet (aTup (aCons (aC (.str "many")) (aCons (aCall S_law_taking [] (aCons (aV 0) (aCons (aV 1) (aCons (aV 2) (aCons (aBin fSub (aV 3) (aC (.int 1))) (aCons (aBin fSub (aV 4) (aC (.int 1))) aNil)))))) aNil)))) aNext)
  (aSeq (aIfS (aB (aBin (fEq false) (aV 5) (aC (.int 4)))) (aSeq (aAsg (aBin fIx (aFz (aLst (aCons (aC (.str "text")) (aCons (aC (.str "drop")) (aCons (aC (.str "count")) (aCons (aC (.str "number")) aNil)))))) (aCall S_law_draw [] (aCons (aV 0) (aCons (aC (.int 4)) aNil)))) (gN 6))
  (aSeq (aAsg (aCall S_law_some [] (aCons (aV 0) (aCons (aV 1) (aCons (aV 2) (aCons (aV 3) (aCons (aV 4) (aCons (aC (.int 1)) aNil))))))) (gN 7))
  (aRet (aBin fIx (aFz (aLst (aCons (aBin fAdd (aTup (aCons (aC (.str "tag")) (aCons (aC (.str "t")) aNil))) (aV 7)) (aCons (aBin fAdd (aTup (aCons (aC (.str "make")) (aCons (aV 6) aNil))) (aV 7)) (aCons (aBin fAdd (aTup (aCons (aC (.str "hold")) (aCons (aC (.str "h")) aNil))) (aV 7)) aNil))))) (aCall S_law_draw [] (aCons (aV 0) (aCons (aC (.int 3)) aNil))))))) aNext)
  (aSeq (aIfS (aB (aBin fLt (aV 5) (aC (.int 8)))) (aRet (aBin fAdd (aTup (aCons (aBin fIx (aFz (aLst (aCons (aC (.str "maybe")) (aCons (aC (.str "ahead")) (aCons (aC (.str "not")) aNil))))) (aBin fSub (aV 5) (aC (.int 5)))) aNil)) (aCall S_law_some [] (aCons (aV 0) (aCons (aV 1) (aCons (aV 2) (aCons (aV 3) (aCons (aV 4) (aCons (aC (.int 1)) aNil))))))))) aNext)
  (aSeq (aIfS (aB (aBin fLt (aV 5) (aC (.int 11)))) (aSeq (aAsg (aBin fAdd (aC (.int 2)) (aCall S_law_draw [] (aCons (aV 0) (aCons (aC (.int 2)) aNil)))) (gN 8))
  (aRet (aTup (aCons (aBin fIx (aFz (aLst (aCons (aC (.str "choice")) (aCons (aC (.str "row")) (aCons (aC (.str "choice")) aNil))))) (aBin fSub (aV 5) (aC (.int 8)))) (aCons (aCall S_law_some [] (aCons (aV 0) (aCons (aV 1) (aCons (aV 2) (aCons (aV 3) (aCons (aV 4) (aCons (aV 8) aNil))))))) aNil))))) aNext)
  (aSeq (aIfS (aB (aBin (fEq false) (aV 5) (aC (.int 11)))) (aRet (aCall S_law_form [] (aCons (aV 0) (aCons (aV 1) (aCons (aV 2) (aCons (aV 3) (aCons (aV 4) aNil))))))) aNext)
  (aRet (aCall S_law_taking [] (aCons (aV 0) (aCons (aV 1) (aCons (aV 2) (aCons (aV 3) (aCons (aV 4) aNil)))))))))))))))
theorem w_law_part {P : Program} {w : World} {K : PySem.W.Frag} {mg : Str → Option Value} {base : Heap} {k : Nat} {S_law_draw : L3.Spec} {S_law_leaf : L3.Spec} {S_law_taking : L3.Spec} {S_law_some : L3.Spec} {S_law_form : L3.Spec}
    (F_law_draw : Kn P w K mg base k "_law_draw" P_law_draw [] S_law_draw) (F_law_leaf : Kn P w K mg base k "_law_leaf" P_law_leaf [] S_law_leaf) (F_law_taking : Kn P w K mg base k "_law_taking" P_law_taking [] S_law_taking) (F_law_some : Kn P w K mg base k "_law_some" P_law_some [] S_law_some) (F_law_form : Kn P w K mg base k "_law_form" P_law_form [] S_law_form) (b_len : mg "len" = none)
    {f : Addr} {cdv : Value} {A : Around} {outer : List PySem.Env} {s : Shared} {H : Hp} {E : XK} {w0 : Wd} (hr : Room k (A.deeper (envOfC "_law_part" (defScope s_law_part) s.heap.objs.size f cdv))) (hgd : A.guards = some []) :
    ASs (cxOf CX0 P w K mg base N_law_part "_law_part" (defScope s_law_part) f cdv A outer s H E).nox w0 (defBody s_law_part) (T_law_part S_law_draw S_law_leaf S_law_taking S_law_some S_law_form) :=
  have hN : (N_law_part : List Str).Nodup := sc_law_part.nd
  (as_cons (as_set 5 hN (ae_call F_law_draw hr hgd rfl (aa_cons (ae_v 0) (aa_cons ae_int aa_nil))))
    (as_cons (as_if (at_w (aw_and (at_eq hr (ae_v 5) ae_int) (aw_and1 (at_ne hr (ae_v 2) (ae_fz (an_lst aa_nil)))))) (as_one (as_ret (ae_tup (aa_cons ae_str (aa_cons (ae_ix (ae_v 2) (ae_call F_law_draw hr hgd rfl (aa_cons (ae_v 0) (aa_cons (ae_len rfl b_len (aa_cons (ae_v 2) aa_nil)) aa_nil)))) aa_nil))))) as_nil)
    (as_cons (as_if (at_w (aw_or (at_lt (ae_v 3) ae_int) (aw_or (at_lt (ae_v 4) ae_int) (aw_or1 (at_lt (ae_v 5) ae_int))))) (as_one (as_ret (ae_ix (ae_fz (an_lst (aa_cons (ae_call F_law_leaf hr hgd rfl (aa_cons (ae_v 0) aa_nil)) (aa_cons (ae_call F_law_leaf hr hgd rfl (aa_cons (ae_v 0) aa_nil)) (aa_cons (ae_tup (aa_cons ae_str aa_nil)) (aa_cons (ae_tup (aa_cons ae_str aa_nil)) (aa_cons (ae_call F_law_leaf hr hgd rfl (aa_cons (ae_v 0) aa_nil)) aa_nil))))))) (ae_call F_law_draw hr hgd rfl (aa_cons (ae_v 0) (aa_cons ae_int aa_nil)))))) as_nil)
    (as_cons (as_if (at_eq hr (ae_v 5) ae_int) (as_one (as_ret (ae_tup (aa_cons ae_str (aa_cons (ae_call F_law_taking hr hgd rfl (aa_cons (ae_v 0) (aa_cons (ae_v 1) (aa_cons (ae_v 2) (aa_cons (ae_subt (ae_v 3) ae_int) (aa_cons (ae_subt (ae_v 4) ae_int) aa_nil)))))) aa_nil))))) as_nil)
    (as_cons (as_if (at_eq hr (ae_v 5) ae_int) (as_cons (as_set 6 hN (ae_ix (ae_fz (an_lst (aa_cons ae_str (aa_cons ae_str (aa_cons ae_str (aa_cons ae_str aa_nil)))))) (ae_call F_law_draw hr hgd rfl (aa_cons (ae_v 0) (aa_cons ae_int aa_nil)))))
    (as_cons (as_set 7 hN (ae_call F_law_some hr hgd rfl (aa_cons (ae_v 0) (aa_cons (ae_v 1) (aa_cons (ae_v 2) (aa_cons (ae_v 3) (aa_cons (ae_v 4) (aa_cons ae_int aa_nil))))))))
    (as_one (as_ret (ae_ix (ae_fz (an_lst (aa_cons (ae_add (ae_tup (aa_cons ae_str (aa_cons ae_str aa_nil))) (ae_v 7)) (aa_cons (ae_add (ae_tup (aa_cons ae_str (aa_cons (ae_v 6) aa_nil))) (ae_v 7)) (aa_cons (ae_add (ae_tup (aa_cons ae_str (aa_cons ae_str aa_nil))) (ae_v 7)) aa_nil))))) (ae_call F_law_draw hr hgd rfl (aa_cons (ae_v 0) (aa_cons ae_int aa_nil)))))))) as_nil)
    (as_cons (as_if (at_lt (ae_v 5) ae_int) (as_one (as_ret (ae_add (ae_tup (aa_cons (ae_ix (ae_fz (an_lst (aa_cons ae_str (aa_cons ae_str (aa_cons ae_str aa_nil))))) (ae_subt (ae_v 5) ae_int)) aa_nil)) (ae_call F_law_some hr hgd rfl (aa_cons (ae_v 0) (aa_cons (ae_v 1) (aa_cons (ae_v 2) (aa_cons (ae_v 3) (aa_cons (ae_v 4) (aa_cons ae_int aa_nil)))))))))) as_nil)
    (as_cons (as_if (at_lt (ae_v 5) ae_int) (as_cons (as_set 8 hN (ae_add ae_int (ae_call F_law_draw hr hgd rfl (aa_cons (ae_v 0) (aa_cons ae_int aa_nil)))))
    (as_one (as_ret (ae_tup (aa_cons (ae_ix (ae_fz (an_lst (aa_cons ae_str (aa_cons ae_str (aa_cons ae_str aa_nil))))) (ae_subt (ae_v 5) ae_int)) (aa_cons (ae_call F_law_some hr hgd rfl (aa_cons (ae_v 0) (aa_cons (ae_v 1) (aa_cons (ae_v 2) (aa_cons (ae_v 3) (aa_cons (ae_v 4) (aa_cons (ae_v 8) aa_nil))))))) aa_nil)))))) as_nil)
    (as_cons (as_if (at_eq hr (ae_v 5) ae_int) (as_one (as_ret (ae_call F_law_form hr hgd rfl (aa_cons (ae_v 0) (aa_cons (ae_v 1) (aa_cons (ae_v 2) (aa_cons (ae_v 3) (aa_cons (ae_v 4) aa_nil)))))))) as_nil)
    (as_one (as_ret (ae_call F_law_taking hr hgd rfl (aa_cons (ae_v 0) (aa_cons (ae_v 1) (aa_cons (ae_v 2) (aa_cons (ae_v 3) (aa_cons (ae_v 4) aa_nil))))))))))))))))
theorem sc_law_form : FnScope N_law_form P_law_form (defScope s_law_form) := ⟨rfl, rfl, rfl, by decide +kernel, rfl, by decide +kernel, by decide +kernel⟩
def T_law_form (S_law_some : L3.Spec) (S_law_taking : L3.Spec) (S_law_draw : L3.Spec) : ATS :=
  (aSeq (aAsg (aCall S_law_some [] (aCons (aV 0) (aCons (aV 1) (aCons (aV 2) (aCons (aFn fMax2 (aCons (aC (.int 2)) (aCons (aBin fSub (aV 3) (aC (.int 1))) aNil))) (aCons (aV 4) (aCons (aC (.int 2)) aNil))))))) (gTp 2 (gsCons (gN 5) (gsCons (gN 6) gsNil))))
  (aSeq (aAsg (aCall S_law_taking [] (aCons (aV 0) (aCons (aV 1) (aCons (aV 2) (aCons (aBin fSub (aV 3) (aC (.int 1))) (aCons (aBin fDiv (aV 4) (aC (.int 2))) aNil)))))) (gN 7))
  (aSeq (aAsg (aOw (aLst (aCons (aTup (aCons (aC (.str "choice")) (aCons (aTup (aCons (aTup (aCons (aC (.str "choice")) (aCons (aTup (aCons (aV 5) (aCons (aV 6) aNil))) aNil))) (aCons (aV 7) aNil))) aNil))) (aCons (aTup (aCons (aC (.str "row")) (aCons (aTup (aCons (aTup (aCons (aC (.str "row")) (aCons (aTup (aCons (aV 5) (aCons (aV 7) aNil))) aNil))) (aCons (aV 6) aNil))) aNil))) aNil)))) (gN 8))
  (aSeq (aAsg (aOw (aCat (aV 8) (aFz (aLst (aCons (aTup (aCons (aC (.str "not")) (aCons (aTup (aCons (aC (.str "not")) (aCons (aV 5) aNil))) aNil))) (aCons (aTup (aCons (aC (.str "row")) (aCons (aTup (aCons (aTup (aCons (aC (.str "nothing")) aNil)) (aCons (aV 5) aNil))) aNil))) (aCons (aTup (aCons (aC (.str "row")) (aCons (aTup (aCons (aV 5) (aCons (aTup (aCons (aC (.str "nothing")) aNil)) aNil))) aNil))) aNil))))))) (gN 8))
  (aSeq (aDrop (aApp (aV 8) (aTup (aCons (aC (.str "choice")) (aCons (aTup (aCons (aTup (aCons (aC (.str "never")) aNil)) (aCons (aV 5) aNil))) aNil)))))
  (aSeq (aAsg (aOw (aCat (aV 8) (aFz (aLst (aCons (aTup (aCons (aC (.str "choice")) (aCons (aTup (aCons (aV 5) (aCons (aTup (aCons (aC (.str "never")) aNil)) aNil))) aNil))) (aCons (aTup (aCons (aC (.str "choice")) (aCons (aTup (aCons (aV 5) (aCons (aV 5) aNil))) aNil))) (aCons (aTup (aCons (aC (.str "maybe")) (aCons (aV 5) aNil))) (aCons (aTup (aCons (aC (.str "many")) (aCons (aV 7) aNil))) aNil)))))))) (gN 8))
  (aRet (aBin fIx (aV 8) (aCall S_law_draw [] (aCons (aV 0) (aCons (aC (.int 10)) aNil)))))))))))
theorem w_law_form {P : Program} {w : World} {K : PySem.W.Frag} {mg : Str → Option Value} {base : Heap} {k : Nat} {S_law_some : L3.Spec} {S_law_taking : L3.Spec} {S_law_draw : L3.Spec}
    (F_law_some : Kn P w K mg base k "_law_some" P_law_some [] S_law_some) (F_law_taking : Kn P w K mg base k "_law_taking" P_law_taking [] S_law_taking) (F_law_draw : Kn P w K mg base k "_law_draw" P_law_draw [] S_law_draw) (b_max : mg "max" = none)
    {f : Addr} {cdv : Value} {A : Around} {outer : List PySem.Env} {s : Shared} {H : Hp} {E : XK} {w0 : Wd} (hr : Room k (A.deeper (envOfC "_law_form" (defScope s_law_form) s.heap.objs.size f cdv))) (hgd : A.guards = some []) :
    ASs (cxOf CX0 P w K mg base N_law_form "_law_form" (defScope s_law_form) f cdv A outer s H E).nox w0 (defBody s_law_form) (T_law_form S_law_some S_law_taking S_law_draw) :=
  have hN : (N_law_form : List Str).Nodup := sc_law_form.nd
  (as_cons (as_asg (vs := [5, 6]) (ae_call F_law_some hr hgd rfl (aa_cons (ae_v 0) (aa_cons (ae_v 1) (aa_cons (ae_v 2) (aa_cons (ae_max2 rfl rfl b_max (aa_cons ae_int (aa_cons (ae_subt (ae_v 3) ae_int) aa_nil))) (aa_cons (ae_v 4) (aa_cons ae_int aa_nil))))))) (ag_tp (n := 2) rfl (ags_cons (ag_n 5 hN (by decide)) (ags_cons (ag_n 6 hN (by decide)) ags_nil))))
    (as_cons (as_set 7 hN (ae_call F_law_taking hr hgd rfl (aa_cons (ae_v 0) (aa_cons (ae_v 1) (aa_cons (ae_v 2) (aa_cons (ae_subt (ae_v 3) ae_int) (aa_cons (ae_div (ae_v 4) ae_int) aa_nil)))))))
    (as_cons (as_set 8 hN (ae_ow (an_lst (aa_cons (ae_tup (aa_cons ae_str (aa_cons (ae_tup (aa_cons (ae_tup (aa_cons ae_str (aa_cons (ae_tup (aa_cons (ae_v 5) (aa_cons (ae_v 6) aa_nil))) aa_nil))) (aa_cons (ae_v 7) aa_nil))) aa_nil))) (aa_cons (ae_tup (aa_cons ae_str (aa_cons (ae_tup (aa_cons (ae_tup (aa_cons ae_str (aa_cons (ae_tup (aa_cons (ae_v 5) (aa_cons (ae_v 7) aa_nil))) aa_nil))) (aa_cons (ae_v 6) aa_nil))) aa_nil))) aa_nil)))))
    (as_cons (as_set 8 hN (ae_ow (an_cat (ae_v 8) (ae_fz (an_lst (aa_cons (ae_tup (aa_cons ae_str (aa_cons (ae_tup (aa_cons ae_str (aa_cons (ae_v 5) aa_nil))) aa_nil))) (aa_cons (ae_tup (aa_cons ae_str (aa_cons (ae_tup (aa_cons (ae_tup (aa_cons ae_str aa_nil)) (aa_cons (ae_v 5) aa_nil))) aa_nil))) (aa_cons (ae_tup (aa_cons ae_str (aa_cons (ae_tup (aa_cons (ae_v 5) (aa_cons (ae_tup (aa_cons ae_str aa_nil)) aa_nil))) aa_nil))) aa_nil))))))))
    (as_cons (as_expr (ae_append (ae_v 8) (ae_tup (aa_cons ae_str (aa_cons (ae_tup (aa_cons (ae_tup (aa_cons ae_str aa_nil)) (aa_cons (ae_v 5) aa_nil))) aa_nil)))))
    (as_cons (as_set 8 hN (ae_ow (an_cat (ae_v 8) (ae_fz (an_lst (aa_cons (ae_tup (aa_cons ae_str (aa_cons (ae_tup (aa_cons (ae_v 5) (aa_cons (ae_tup (aa_cons ae_str aa_nil)) aa_nil))) aa_nil))) (aa_cons (ae_tup (aa_cons ae_str (aa_cons (ae_tup (aa_cons (ae_v 5) (aa_cons (ae_v 5) aa_nil))) aa_nil))) (aa_cons (ae_tup (aa_cons ae_str (aa_cons (ae_v 5) aa_nil))) (aa_cons (ae_tup (aa_cons ae_str (aa_cons (ae_v 7) aa_nil))) aa_nil)))))))))
    (as_one (as_ret (ae_ix (ae_v 8) (ae_call F_law_draw hr hgd rfl (aa_cons (ae_v 0) (aa_cons ae_int aa_nil))))))))))))
theorem sc_law_within : FnScope N_law_within P_law_within (defScope s_law_within) := ⟨rfl, rfl, rfl, by decide +kernel, rfl, by decide +kernel, by decide +kernel⟩
def T_law_within : ATS :=
  (aSeq (aIfS (aB (aBin (fIn false) (aBin fIx (aV 0) (aC (.int 0))) (aTup (aCons (aC (.str "row")) (aCons (aC (.str "choice")) aNil))))) (aRet (aFn (f1 gList) (aCons (aBin fIx (aV 0) (aC (.int 1))) aNil))) aNext)
  (aSeq (aIfS (aB (aBin (fIn false) (aBin fIx (aV 0) (aC (.int 0))) (aTup (aCons (aC (.str "many")) (aCons (aC (.str "maybe")) (aCons (aC (.str "ahead")) (aCons (aC (.str "not")) aNil))))))) (aRet (aFz (aLst (aCons (aBin fIx (aV 0) (aC (.int 1))) aNil)))) aNext)
  (aSeq (aIfS (aB (aBin (fIn false) (aBin fIx (aV 0) (aC (.int 0))) (aTup (aCons (aC (.str "hold")) (aCons (aC (.str "tag")) (aCons (aC (.str "make")) aNil)))))) (aRet (aFz (aLst (aCons (aBin fIx (aV 0) (aC (.int 2))) aNil)))) aNext)
  (aRet (aFz (aLst aNil))))))
theorem w_law_within {P : Program} {w : World} {K : PySem.W.Frag} {mg : Str → Option Value} {base : Heap} {k : Nat}
    (b_list : mg "list" = none)
    {f : Addr} {cdv : Value} {A : Around} {outer : List PySem.Env} {s : Shared} {H : Hp} {E : XK} {w0 : Wd} (hr : Room k (A.deeper (envOfC "_law_within" (defScope s_law_within) s.heap.objs.size f cdv))) (hgd : A.guards = some []) :
    ASs (cxOf CX0 P w K mg base N_law_within "_law_within" (defScope s_law_within) f cdv A outer s H E).nox w0 (defBody s_law_within) (T_law_within) :=
  have hN : (N_law_within : List Str).Nodup := sc_law_within.nd
  (as_cons (as_if (at_in (ae_ix (ae_v 0) ae_int) (ae_tup (aa_cons ae_str (aa_cons ae_str aa_nil)))) (as_one (as_ret (ae_list rfl b_list (aa_cons (ae_ix (ae_v 0) ae_int) aa_nil)))) as_nil)
    (as_cons (as_if (at_in (ae_ix (ae_v 0) ae_int) (ae_tup (aa_cons ae_str (aa_cons ae_str (aa_cons ae_str (aa_cons ae_str aa_nil)))))) (as_one (as_ret (ae_fz (an_lst (aa_cons (ae_ix (ae_v 0) ae_int) aa_nil))))) as_nil)
    (as_cons (as_if (at_in (ae_ix (ae_v 0) ae_int) (ae_tup (aa_cons ae_str (aa_cons ae_str (aa_cons ae_str aa_nil))))) (as_one (as_ret (ae_fz (an_lst (aa_cons (ae_ix (ae_v 0) ae_int) aa_nil))))) as_nil)
    (as_one (as_ret (ae_fz (an_lst aa_nil)))))))
theorem sc_law_bound : FnScope N_law_bound P_law_bound (defScope s_law_bound) := ⟨rfl, rfl, rfl, by decide +kernel, rfl, by decide +kernel, by decide +kernel⟩
def T_law_bound (S_law_draw : L3.Spec) (S_law_within : L3.Spec) (S_law_bound : L3.Spec) : ATS :=
  (aSeq (aIfS (aB (aBin (fEq false) (aV 1) (aTup (aCons (aC (.str "nothing")) aNil)))) (aRet (aBin fIx (aFz (aLst (aCons (aTup (aCons (aC (.str "again")) (aCons (aC (.str "h")) aNil))) (aCons (aV 1) aNil)))) (aCall S_law_draw [] (aCons (aV 0) (aCons (aC (.int 2)) aNil))))) aNext)
  (aSeq (aIfS (aAnd (aB (aBin (fEq false) (aBin fIx (aV 1) (aC (.int 0))) (aC (.str "sign")))) (aB (aBin (fEq false) (aCall S_law_draw [] (aCons (aV 0) (aCons (aC (.int 3)) aNil))) (aC (.int 0))))) (aRet (aTup (aCons (aC (.str "row")) (aCons (aTup (aCons (aTup (aCons (aC (.str "hold")) (aCons (aC (.str "h")) (aCons (aV 1) aNil)))) (aCons (aTup (aCons (aC (.str "again")) (aCons (aC (.str "h")) aNil))) aNil))) aNil)))) aNext)
  (aSeq (aAsg (aFz (aLc (aIt (aCall S_law_within [] (aCons (aV 1) aNil))) (gN 3) aYes (aCall S_law_bound [] (aCons (aV 0) (aCons (aV 3) aNil))) [3])) (gN 2))
  (aSeq (aIfS (aB (aBin (fIn false) (aBin fIx (aV 1) (aC (.int 0))) (aTup (aCons (aC (.str "row")) (aCons (aC (.str "choice")) aNil))))) (aRet (aTup (aCons (aBin fIx (aV 1) (aC (.int 0))) (aCons (aFn (f1 gTuple) (aCons (aV 2) aNil)) aNil)))) aNext)
  (aRet (aIf (aB (aBin (fEq true) (aV 2) (aFz (aLst aNil)))) (aBin fAdd (aSl (aV 1) aNo (aSo (aUn fNeg (aC (.int 1))))) (aFn (f1 gTuple) (aCons (aV 2) aNil))) (aV 1)))))))
theorem w_law_bound {P : Program} {w : World} {K : PySem.W.Frag} {mg : Str → Option Value} {base : Heap} {k : Nat} {S_law_draw : L3.Spec} {S_law_within : L3.Spec} {S_law_bound : L3.Spec}
    (F_law_draw : Kn P w K mg base k "_law_draw" P_law_draw [] S_law_draw) (F_law_within : Kn P w K mg base k "_law_within" P_law_within [] S_law_within) (F_law_bound : Kn P w K mg base k "_law_bound" P_law_bound [] S_law_bound) (b_tuple : mg "tuple" = none)
    {f : Addr} {cdv : Value} {A : Around} {outer : List PySem.Env} {s : Shared} {H : Hp} {E : XK} {w0 : Wd} (hr : Room k (A.deeper (envOfC "_law_bound" (defScope s_law_bound) s.heap.objs.size f cdv))) (hgd : A.guards = some []) :
    ASs (cxOf CX0 P w K mg base N_law_bound "_law_bound" (defScope s_law_bound) f cdv A outer s H E).nox w0 (defBody s_law_bound) (T_law_bound S_law_draw S_law_within S_law_bound) :=
  have hN : (N_law_bound : List Str).Nodup := sc_law_bound.nd
  (as_cons (as_if (at_eq hr (ae_v 1) (ae_tup (aa_cons ae_str aa_nil))) (as_one (as_ret (ae_ix (ae_fz (an_lst (aa_cons (ae_tup (aa_cons ae_str (aa_cons ae_str aa_nil))) (aa_cons (ae_v 1) aa_nil)))) (ae_call F_law_draw hr hgd rfl (aa_cons (ae_v 0) (aa_cons ae_int aa_nil)))))) as_nil)
    (as_cons (as_if (at_w (aw_and (at_eq hr (ae_ix (ae_v 1) ae_int) ae_str) (aw_and1 (at_eq hr (ae_call F_law_draw hr hgd rfl (aa_cons (ae_v 0) (aa_cons ae_int aa_nil))) ae_int)))) (as_one (as_ret (ae_tup (aa_cons ae_str (aa_cons (ae_tup (aa_cons (ae_tup (aa_cons ae_str (aa_cons ae_str (aa_cons (ae_v 1) aa_nil)))) (aa_cons (ae_tup (aa_cons ae_str (aa_cons ae_str aa_nil))) aa_nil))) aa_nil))))) as_nil)
    (as_cons (as_lc 2 [("_law_one", 3)] rfl hN (ai_it (ae_call F_law_within hr hgd rfl (aa_cons (ae_v 1) aa_nil))) (blkOk_by (N := N_law_bound) (sc := defScope s_law_bound) (by decide +kernel)) (fun s H C cl fp => (ag_n 3 hN (by decide))) (fun s H C cl fp => ats_nil) (fun s H C cl fp => (ae_call F_law_bound hr hgd rfl (aa_cons (ae_v 0) (aa_cons (ae_v 3) aa_nil)))))
    (as_cons (as_if (at_in (ae_ix (ae_v 1) ae_int) (ae_tup (aa_cons ae_str (aa_cons ae_str aa_nil)))) (as_one (as_ret (ae_tup (aa_cons (ae_ix (ae_v 1) ae_int) (aa_cons (ae_tuple rfl b_tuple (aa_cons (ae_v 2) aa_nil)) aa_nil))))) as_nil)
    (as_one (as_ret (ae_if (at_ne hr (ae_v 2) (ae_fz (an_lst aa_nil))) (ae_add (ae_sl (ae_v 1) ao_none (ao_some (ae_neg ae_int))) (ae_tuple rfl b_tuple (aa_cons (ae_v 2) aa_nil))) (ae_v 1))))))))
theorem sc_law_joined : FnScope N_law_joined P_law_joined (defScope s_law_joined) := ⟨rfl, rfl, rfl, by decide +kernel, rfl, by decide +kernel, by decide +kernel⟩
def T_law_joined : ATS :=
  (aSeq (aIfS (aOr (aB (aBin (fEq true) (aBin fIx (aV 1) (aC (.int 0))) (aV 0))) (aB (aBin (fEq true) (aBin fIx (aBin fIx (aBin fIx (aV 1) (aC (.int 1))) (aC (.int 0))) (aC (.int 0))) (aV 0)))) (aRet (aC .non)) aNext)
  (aRet (aTup (aCons (aV 0) (aCons (aBin fAdd (aBin fIx (aBin fIx (aBin fIx (aV 1) (aC (.int 1))) (aC (.int 0))) (aC (.int 1))) (aSl (aBin fIx (aV 1) (aC (.int 1))) (aSo (aC (.int 1))) aNo)) aNil)))))
theorem w_law_joined {P : Program} {w : World} {K : PySem.W.Frag} {mg : Str → Option Value} {base : Heap} {k : Nat}
    
    {f : Addr} {cdv : Value} {A : Around} {outer : List PySem.Env} {s : Shared} {H : Hp} {E : XK} {w0 : Wd} (hr : Room k (A.deeper (envOfC "_law_joined" (defScope s_law_joined) s.heap.objs.size f cdv))) (hgd : A.guards = some []) :
    ASs (cxOf CX0 P w K mg base N_law_joined "_law_joined" (defScope s_law_joined) f cdv A outer s H E).nox w0 (defBody s_law_joined) (T_law_joined) :=
  have hN : (N_law_joined : List Str).Nodup := sc_law_joined.nd
  (as_cons (as_if (at_w (aw_or (at_ne hr (ae_ix (ae_v 1) ae_int) (ae_v 0)) (aw_or1 (at_ne hr (ae_ix (ae_ix (ae_ix (ae_v 1) ae_int) ae_int) ae_int) (ae_v 0))))) (as_one (as_ret ae_non)) as_nil)
    (as_one (as_ret (ae_tup (aa_cons (ae_v 0) (aa_cons (ae_add (ae_ix (ae_ix (ae_ix (ae_v 1) ae_int) ae_int) ae_int) (ae_sl (ae_ix (ae_v 1) ae_int) (ao_some ae_int) ao_none)) aa_nil))))))
theorem sc_law_other : FnScope N_law_other P_law_other (defScope s_law_other) := ⟨rfl, rfl, rfl, by decide +kernel, rfl, by decide +kernel, by decide +kernel⟩
def T_law_other : ATS :=
  (aSeq (aIfS (aOr (aB (aBin (fEq true) (aBin fIx (aV 2) (aC (.int 0))) (aV 0))) (aOr (aB (aBin (fEq true) (aFn (f1 gLen) (aCons (aBin fIx (aV 2) (aC (.int 1))) aNil)) (aC (.int 2)))) (aB (aBin (fInD true) (aV 1) (aBin fIx (aV 2) (aC (.int 1))))))) (aRet (aC .non)) aNext)
  (aRet (aBin fIx (aBin fIx (aV 2) (aC (.int 1))) (aFn (f1 gInt1) (aCons (aBin (fEq false) (aBin fIx (aBin fIx (aV 2) (aC (.int 1))) (aC (.int 0))) (aV 1)) aNil)))))
theorem w_law_other {P : Program} {w : World} {K : PySem.W.Frag} {mg : Str → Option Value} {base : Heap} {k : Nat}
    (b_len : mg "len" = none) (b_int : mg "int" = none)
    {f : Addr} {cdv : Value} {A : Around} {outer : List PySem.Env} {s : Shared} {H : Hp} {E : XK} {w0 : Wd} (hr : Room k (A.deeper (envOfC "_law_other" (defScope s_law_other) s.heap.objs.size f cdv))) (hgd : A.guards = some []) :
    ASs (cxOf CX0 P w K mg base N_law_other "_law_other" (defScope s_law_other) f cdv A outer s H E).nox w0 (defBody s_law_other) (T_law_other) :=
  have hN : (N_law_other : List Str).Nodup := sc_law_other.nd
  (as_cons (as_if (at_w (aw_or (at_ne hr (ae_ix (ae_v 2) ae_int) (ae_v 0)) (aw_or (at_ne hr (ae_len rfl b_len (aa_cons (ae_ix (ae_v 2) ae_int) aa_nil)) ae_int) (aw_or1 (at_notinD hr (ae_v 1) (ae_ix (ae_v 2) ae_int)))))) (as_one (as_ret ae_non)) as_nil)
    (as_one (as_ret (ae_ix (ae_ix (ae_v 2) ae_int) (ae_int1 rfl b_int (aa_cons (ae_eq hr (ae_ix (ae_ix (ae_v 2) ae_int) ae_int) (ae_v 1)) aa_nil))))))
theorem sc_law_due : FnScope N_law_due P_law_due (defScope s_law_due) := ⟨rfl, rfl, rfl, by decide +kernel, rfl, by decide +kernel, by decide +kernel⟩
def T_law_due (S_law_joined : L3.Spec) (S_law_other : L3.Spec) : ATS :=
  (aSeq (aIfS (aB (aBin (fIn false) (aV 1) (aTup (aCons (aC (.str "choice")) (aCons (aC (.str "row")) aNil))))) (aRet (aCall S_law_joined [] (aCons (aV 1) (aCons (aV 0) aNil)))) aNext)
  (aSeq (aIfS (aB (aBin (fEq false) (aV 1) (aC (.str "nothing")))) (aRet (aCall S_law_other [] (aCons (aC (.str "row")) (aCons (aTup (aCons (aC (.str "nothing")) aNil)) (aCons (aV 0) aNil))))) aNext)
  (aSeq (aIfS (aB (aBin (fEq false) (aV 1) (aC (.str "never")))) (aRet (aCall S_law_other [] (aCons (aC (.str "choice")) (aCons (aTup (aCons (aC (.str "never")) aNil)) (aCons (aV 0) aNil))))) aNext)
  (aSeq (aIfS (aAnd (aB (aBin (fEq false) (aV 1) (aC (.str "twice")))) (aAnd (aB (aBin (fEq false) (aBin fIx (aV 0) (aC (.int 0))) (aC (.str "not")))) (aB (aBin (fEq false) (aBin fIx (aBin fIx (aV 0) (aC (.int 1))) (aC (.int 0))) (aC (.str "not")))))) (aRet (aTup (aCons (aC (.str "ahead")) (aCons (aBin fIx (aBin fIx (aV 0) (aC (.int 1))) (aC (.int 1))) aNil)))) aNext)
  (aSeq (aIfS (aAnd (aB (aBin (fEq false) (aV 1) (aC (.str "maybe")))) (aB (aBin (fEq false) (aBin fIx (aV 0) (aC (.int 0))) (aC (.str "maybe"))))) (aRet (aTup (aCons (aC (.str "choice")) (aCons (aTup (aCons (aBin fIx (aV 0) (aC (.int 1))) (aCons (aTup (aCons (aC (.str "nothing")) aNil)) aNil))) aNil)))) aNext)
  (aSeq (aIfS (aAnd (aB (aBin (fEq false) (aV 1) (aC (.str "many")))) (aB (aBin (fEq false) (aBin fIx (aV 0) (aC (.int 0))) (aC (.str "many"))))) (aRet (aTup (aCons (aC (.str "choice")) (aCons (aTup (aCons (aTup (aCons (aC (.str "row")) (aCons (aTup (aCons (aBin fIx (aV 0) (aC (.int 1))) (aCons (aV 0) aNil))) aNil))) (aCons (aTup (aCons (aC (.str "nothing")) aNil)) aNil))) aNil)))) aNext)
  (aSeq (aIfS (aAnd (aB (aBin (fEq false) (aV 1) (aC (.str "same")))) (aAnd (aB (aBin (fEq false) (aBin fIx (aV 0) (aC (.int 0))) (aC (.str "choice")))) (aAnd (aB (aBin (fEq false) (aFn (f1 gLen) (aCons (aBin fIx (aV 0) (aC (.int 1))) aNil)) (aC (.int 2)))) (aB (aBin (fEq false) (aBin fIx (aBin fIx (aV 0) (aC (.int 1))) (aC (.int 0))) (aBin fIx (aBin fIx (aV 0) (aC (.int 1))) (aC (.int 1)))))))) (aRet (aBin fIx (aBin fIx (aV 0) (aC (.int 1))) (aC (.int 0)))) aNext)
  (aRet (aC .non)))))))))
theorem w_law_due {P : Program} {w : World} {K : PySem.W.Frag} {mg : Str → Option Value} {base : Heap} {k : Nat} {S_law_joined : L3.Spec} {S_law_other : L3.Spec}
    (F_law_joined : Kn P w K mg base k "_law_joined" P_law_joined [] S_law_joined) (F_law_other : Kn P w K mg base k "_law_other" P_law_other [] S_law_other) (b_len : mg "len" = none)
    {f : Addr} {cdv : Value} {A : Around} {outer : List PySem.Env} {s : Shared} {H : Hp} {E : XK} {w0 : Wd} (hr : Room k (A.deeper (envOfC "_law_due" (defScope s_law_due) s.heap.objs.size f cdv))) (hgd : A.guards = some []) :
    ASs (cxOf CX0 P w K mg base N_law_due "_law_due" (defScope s_law_due) f cdv A outer s H E).nox w0 (defBody s_law_due) (T_law_due S_law_joined S_law_other) :=
  have hN : (N_law_due : List Str).Nodup := sc_law_due.nd
  (as_cons (as_if (at_in (ae_v 1) (ae_tup (aa_cons ae_str (aa_cons ae_str aa_nil)))) (as_one (as_ret (ae_call F_law_joined hr hgd rfl (aa_cons (ae_v 1) (aa_cons (ae_v 0) aa_nil))))) as_nil)
    (as_cons (as_if (at_eq hr (ae_v 1) ae_str) (as_one (as_ret (ae_call F_law_other hr hgd rfl (aa_cons ae_str (aa_cons (ae_tup (aa_cons ae_str aa_nil)) (aa_cons (ae_v 0) aa_nil)))))) as_nil)
    (as_cons (as_if (at_eq hr (ae_v 1) ae_str) (as_one (as_ret (ae_call F_law_other hr hgd rfl (aa_cons ae_str (aa_cons (ae_tup (aa_cons ae_str aa_nil)) (aa_cons (ae_v 0) aa_nil)))))) as_nil)
    (as_cons (as_if (at_w (aw_and (at_eq hr (ae_v 1) ae_str) (aw_and (at_eq hr (ae_ix (ae_v 0) ae_int) ae_str) (aw_and1 (at_eq hr (ae_ix (ae_ix (ae_v 0) ae_int) ae_int) ae_str))))) (as_one (as_ret (ae_tup (aa_cons ae_str (aa_cons (ae_ix (ae_ix (ae_v 0) ae_int) ae_int) aa_nil))))) as_nil)
    (as_cons (as_if (at_w (aw_and (at_eq hr (ae_v 1) ae_str) (aw_and1 (at_eq hr (ae_ix (ae_v 0) ae_int) ae_str)))) (as_one (as_ret (ae_tup (aa_cons ae_str (aa_cons (ae_tup (aa_cons (ae_ix (ae_v 0) ae_int) (aa_cons (ae_tup (aa_cons ae_str aa_nil)) aa_nil))) aa_nil))))) as_nil)
    (as_cons (as_if (at_w (aw_and (at_eq hr (ae_v 1) ae_str) (aw_and1 (at_eq hr (ae_ix (ae_v 0) ae_int) ae_str)))) (as_one (as_ret (ae_tup (aa_cons ae_str (aa_cons (ae_tup (aa_cons (ae_tup (aa_cons ae_str (aa_cons (ae_tup (aa_cons (ae_ix (ae_v 0) ae_int) (aa_cons (ae_v 0) aa_nil))) aa_nil))) (aa_cons (ae_tup (aa_cons ae_str aa_nil)) aa_nil))) aa_nil))))) as_nil)
    (as_cons (as_if (at_w (aw_and (at_eq hr (ae_v 1) ae_str) (aw_and (at_eq hr (ae_ix (ae_v 0) ae_int) ae_str) (aw_and (at_eq hr (ae_len rfl b_len (aa_cons (ae_ix (ae_v 0) ae_int) aa_nil)) ae_int) (aw_and1 (at_eq hr (ae_ix (ae_ix (ae_v 0) ae_int) ae_int) (ae_ix (ae_ix (ae_v 0) ae_int) ae_int))))))) (as_one (as_ret (ae_ix (ae_ix (ae_v 0) ae_int) ae_int))) as_nil)
    (as_one (as_ret ae_non)))))))))
theorem sc_law_deeper : FnScope N_law_deeper P_law_deeper (defScope s_law_deeper) := ⟨rfl, rfl, rfl, by decide +kernel, rfl, by decide +kernel, by decide +kernel⟩
def T_law_deeper (S_law_draw : L3.Spec) : ATS :=
  (aSeq (aFor (aRng1 (aCons (aV 2) aNil)) (gN 3) (aSeq (aAsg (aFz (aLst (aCons (aTup (aCons (aC (.str "tag")) (aCons (aC (.str "t")) (aCons (aV 1) aNil)))) (aCons (aTup (aCons (aC (.str "ahead")) (aCons (aV 1) aNil))) (aCons (aTup (aCons (aC (.str "not")) (aCons (aV 1) aNil))) (aCons (aTup (aCons (aC (.str "maybe")) (aCons (aV 1) aNil))) (aCons (aTup (aCons (aC (.str "many")) (aCons (aV 1) aNil))) aNil))))))) (gN 4))
  (aAsg (aBin fIx (aV 4) (aCall S_law_draw [] (aCons (aV 0) (aCons (aC (.int 5)) aNil)))) (gN 1))))
  (aRet (aV 1)))
theorem w_law_deeper {P : Program} {w : World} {K : PySem.W.Frag} {mg : Str → Option Value} {base : Heap} {k : Nat} {S_law_draw : L3.Spec}
    (F_law_draw : Kn P w K mg base k "_law_draw" P_law_draw [] S_law_draw) (b_range : mg "range" = none)
    {f : Addr} {cdv : Value} {A : Around} {outer : List PySem.Env} {s : Shared} {H : Hp} {E : XK} {w0 : Wd} (hr : Room k (A.deeper (envOfC "_law_deeper" (defScope s_law_deeper) s.heap.objs.size f cdv))) (hgd : A.guards = some []) :
    ASs (cxOf CX0 P w K mg base N_law_deeper "_law_deeper" (defScope s_law_deeper) f cdv A outer s H E).nox w0 (defBody s_law_deeper) (T_law_deeper S_law_draw) :=
  have hN : (N_law_deeper : List Str).Nodup := sc_law_deeper.nd
  (as_cons (as_for (vs := [3]) PassesOwn.never rfl (ai_rng1 rfl b_range (aa_cons (ae_v 2) aa_nil)) (ag_n 3 hN (by decide)) (as_cons (as_set 4 hN (ae_fz (an_lst (aa_cons (ae_tup (aa_cons ae_str (aa_cons ae_str (aa_cons (ae_v 1) aa_nil)))) (aa_cons (ae_tup (aa_cons ae_str (aa_cons (ae_v 1) aa_nil))) (aa_cons (ae_tup (aa_cons ae_str (aa_cons (ae_v 1) aa_nil))) (aa_cons (ae_tup (aa_cons ae_str (aa_cons (ae_v 1) aa_nil))) (aa_cons (ae_tup (aa_cons ae_str (aa_cons (ae_v 1) aa_nil))) aa_nil))))))))
    (as_one (as_set 1 hN (ae_ix (ae_v 4) (ae_call F_law_draw hr hgd rfl (aa_cons (ae_v 0) (aa_cons ae_int aa_nil))))))))
    (as_one (as_ret (ae_v 1))))
theorem sc_law_wide : FnScope N_law_wide P_law_wide (defScope s_law_wide) := ⟨rfl, rfl, rfl, by decide +kernel, rfl, by decide +kernel, by decide +kernel⟩
def T_law_wide (S_law_draw : L3.Spec) (S_law_leaf : L3.Spec) : ATS :=
  (aSeq (aAsg (aBin fIx (aFz (aLst (aCons (aC (.str "choice")) (aCons (aC (.str "row")) aNil)))) (aCall S_law_draw [] (aCons (aV 0) (aCons (aC (.int 2)) aNil)))) (gN 1))
  (aSeq (aAsg (aTup (aCons (aV 1) (aCons (aFn (f1 gTuple) (aCons (aFz (aLc (aRng1 (aCons (aBin fAdd (aC (.int 2)) (aCall S_law_draw [] (aCons (aV 0) (aCons (aC (.int 5)) aNil)))) aNil)) (gN 3) aYes (aCall S_law_leaf [] (aCons (aV 0) aNil)) [3])) aNil)) aNil))) (gN 2))
  (aRet (aTup (aCons (aV 1) (aCons (aBin fAdd (aTup (aCons (aV 2) aNil)) (aFn (f1 gTuple) (aCons (aFz (aLc (aRng1 (aCons (aBin fAdd (aC (.int 1)) (aCall S_law_draw [] (aCons (aV 0) (aCons (aC (.int 5)) aNil)))) aNil)) (gN 3) aYes (aCall S_law_leaf [] (aCons (aV 0) aNil)) [3])) aNil))) aNil))))))
theorem w_law_wide {P : Program} {w : World} {K : PySem.W.Frag} {mg : Str → Option Value} {base : Heap} {k : Nat} {S_law_draw : L3.Spec} {S_law_leaf : L3.Spec}
    (F_law_draw : Kn P w K mg base k "_law_draw" P_law_draw [] S_law_draw) (F_law_leaf : Kn P w K mg base k "_law_leaf" P_law_leaf [] S_law_leaf) (b_range : mg "range" = none) (b_tuple : mg "tuple" = none)
    {f : Addr} {cdv : Value} {A : Around} {outer : List PySem.Env} {s : Shared} {H : Hp} {E : XK} {w0 : Wd} (hr : Room k (A.deeper (envOfC "_law_wide" (defScope s_law_wide) s.heap.objs.size f cdv))) (hgd : A.guards = some []) :
    ASs (cxOf CX0 P w K mg base N_law_wide "_law_wide" (defScope s_law_wide) f cdv A outer s H E).nox w0 (defBody s_law_wide) (T_law_wide S_law_draw S_law_leaf) :=
  have hN : (N_law_wide : List Str).Nodup := sc_law_wide.nd
  (as_cons (as_set 1 hN (ae_ix (ae_fz (an_lst (aa_cons ae_str (aa_cons ae_str aa_nil)))) (ae_call F_law_draw hr hgd rfl (aa_cons (ae_v 0) (aa_cons ae_int aa_nil)))))
    (as_cons (as_set 2 hN (ae_tup (aa_cons (ae_v 1) (aa_cons (ae_tuple rfl b_tuple (aa_cons (ae_fz (an_lc [("_law_k", 3)] rfl hN (ai_rng1 rfl b_range (aa_cons (ae_add ae_int (ae_call F_law_draw hr hgd rfl (aa_cons (ae_v 0) (aa_cons ae_int aa_nil)))) aa_nil)) (blkOk_by (N := N_law_wide) (sc := defScope s_law_wide) (by decide +kernel)) (fun s H C cl fp => (ag_n 3 hN (by decide))) (fun s H C cl fp => ats_nil) (fun s H C cl fp => (ae_call F_law_leaf hr hgd rfl (aa_cons (ae_v 0) aa_nil))))) aa_nil)) aa_nil))))
    (as_one (as_ret (ae_tup (aa_cons (ae_v 1) (aa_cons (ae_add (ae_tup (aa_cons (ae_v 2) aa_nil)) (ae_tuple rfl b_tuple (aa_cons (ae_fz (an_lc [("_law_k", 3)] rfl hN (ai_rng1 rfl b_range (aa_cons (ae_add ae_int (ae_call F_law_draw hr hgd rfl (aa_cons (ae_v 0) (aa_cons ae_int aa_nil)))) aa_nil)) (blkOk_by (N := N_law_wide) (sc := defScope s_law_wide) (by decide +kernel)) (fun s H C cl fp => (ag_n 3 hN (by decide))) (fun s H C cl fp => ats_nil) (fun s H C cl fp => (ae_call F_law_leaf hr hgd rfl (aa_cons (ae_v 0) aa_nil))))) aa_nil))) aa_nil)))))))
theorem sc_law_right : FnScope N_law_right P_law_right (defScope s_law_right) := ⟨rfl, rfl, rfl, by decide +kernel, rfl, by decide +kernel, by decide +kernel⟩
def T_law_right (S_law_due : L3.Spec) (S_is_reader : L3.Spec) (S_turned : L3.Spec) : ATS :=
  (aSeq (aAsg (aFn (f1 gRepr) (aCons (aV 0) aNil)) (gN 1))
  (aSeq (aFor (aIt (aTup (aCons (aC (.str "choice")) (aCons (aC (.str "row")) (aCons (aC (.str "nothing")) (aCons (aC (.str "never")) (aCons (aC (.str "twice")) (aCons (aC (.str "maybe")) (aCons (aC (.str "many")) (aCons (aC (.str "same")) aNil)))))))))) (gN 2) (aSeq (aAsg (aCall S_law_due [] (aCons (aV 0) (aCons (aV 2) aNil))) (gN 3))
  (aSeq (aIfS (aAnd (aB (aBin (fIsN true) (aV 3) (aC .non))) (aNot (aTru (aCall S_is_reader [] (aCons (aV 3) aNil))))) (aAsg (aC .non) (gN 3)) aNext)
  (aSeq (aFor (aRng1 (aCons (aC (.int 2)) aNil)) (gN 4) (aIfS (aB (aBin (fEq true) (aFn (f1 gRepr) (aCons (aCall S_turned [] (aCons (aV 0) (aCons (aV 2) aNil))) aNil)) (aFn (f1 gRepr) (aCons (aV 3) aNil)))) (aRet (aC (.bl false))) aNext))
  (aIfS (aOr (aB (aBin (fEq true) (aFn (f1 gRepr) (aCons (aCallP S_turned 0 2 [] [1, 0] aNil (aCons (aV 2) (aCons (aV 0) aNil))) aNil)) (aFn (f1 gRepr) (aCons (aV 3) aNil)))) (aB (aBin (fEq true) (aFn (f1 gRepr) (aCons (aV 0) aNil)) (aV 1)))) (aRet (aC (.bl false))) aNext)))))
  (aRet (aC (.bl true)))))
theorem w_law_right {P : Program} {w : World} {K : PySem.W.Frag} {mg : Str → Option Value} {base : Heap} {k : Nat} {S_law_due : L3.Spec} {S_is_reader : L3.Spec} {S_turned : L3.Spec}
    (F_law_due : Kn P w K mg base k "_law_due" P_law_due [] S_law_due) (F_is_reader : Kn P w K mg base k "is_reader" P_is_reader [] S_is_reader) (F_turned : Kn P w K mg base k "turned" P_turned [] S_turned) (F_turned_k0_rule_reader : KnP P w K mg base k "turned" P_turned 0 ["rule", "reader"] [] [1, 0] S_turned) (b_repr : mg "repr" = none) (b_range : mg "range" = none)
    {f : Addr} {cdv : Value} {A : Around} {outer : List PySem.Env} {s : Shared} {H : Hp} {E : XK} {w0 : Wd} (hr : Room k (A.deeper (envOfC "_law_right" (defScope s_law_right) s.heap.objs.size f cdv))) (hgd : A.guards = some []) :
    ASs (cxOf CX0 P w K mg base N_law_right "_law_right" (defScope s_law_right) f cdv A outer s H E).nox w0 (defBody s_law_right) (T_law_right S_law_due S_is_reader S_turned) :=
  have hN : (N_law_right : List Str).Nodup := sc_law_right.nd
  (as_cons (as_set 1 hN (ae_repr hr hgd rfl b_repr (aa_cons (ae_v 0) aa_nil)))
    (as_cons (as_for (vs := [2]) PassesOwn.never rfl (ai_it (ae_tup (aa_cons ae_str (aa_cons ae_str (aa_cons ae_str (aa_cons ae_str (aa_cons ae_str (aa_cons ae_str (aa_cons ae_str (aa_cons ae_str aa_nil)))))))))) (ag_n 2 hN (by decide)) (as_cons (as_set 3 hN (ae_call F_law_due hr hgd rfl (aa_cons (ae_v 0) (aa_cons (ae_v 2) aa_nil))))
    (as_cons (as_if (at_w (aw_and (at_notN (ae_v 3) ae_non) (aw_and1 (at_not (at_tru (ae_call F_is_reader hr hgd rfl (aa_cons (ae_v 3) aa_nil))))))) (as_one (as_set 3 hN ae_non)) as_nil)
    (as_cons (as_for (vs := [4]) PassesOwn.never rfl (ai_rng1 rfl b_range (aa_cons ae_int aa_nil)) (ag_n 4 hN (by decide)) (as_one (as_if (at_ne hr (ae_repr hr hgd rfl b_repr (aa_cons (ae_call F_turned hr hgd rfl (aa_cons (ae_v 0) (aa_cons (ae_v 2) aa_nil))) aa_nil)) (ae_repr hr hgd rfl b_repr (aa_cons (ae_v 3) aa_nil))) (as_one (as_ret ae_bl)) as_nil)))
    (as_one (as_if (at_w (aw_or (at_ne hr (ae_repr hr hgd rfl b_repr (aa_cons (ae_callP0 F_turned_k0_rule_reader hr hgd rfl (ak_cons (ae_v 2) (ak_cons (ae_v 0) ak_nil))) aa_nil)) (ae_repr hr hgd rfl b_repr (aa_cons (ae_v 3) aa_nil))) (aw_or1 (at_ne hr (ae_repr hr hgd rfl b_repr (aa_cons (ae_v 0) aa_nil)) (ae_v 1))))) (as_one (as_ret ae_bl)) as_nil))))))
    (as_one (as_ret ae_bl))))
theorem sc_law : FnScope N_law P_law (defScope s_law) := ⟨rfl, rfl, rfl, by decide +kernel, rfl, by decide +kernel, by decide +kernel⟩
def T_law (S_law_pen : L3.Spec) (S_law_names : L3.Spec) (S_law_part : L3.Spec) (S_law_wide : L3.Spec) (S_law_form : L3.Spec) (S_law_bound : L3.Spec) (S_law_draw : L3.Spec) (S_law_leaf : L3.Spec) (S_law_deeper : L3.Spec) (S_law_right : L3.Spec) : ATS :=
  (aSeq (aAsg (aCall S_law_pen [] (aCons (aV 0) aNil)) (gN 1))
  (aSeq (aIfS (aB (aBin (fEq true) (aC d_RULES) (aTup (aCons (aC (.str "choice")) (aCons (aC (.str "row")) (aCons (aC (.str "nothing")) (aCons (aC (.str "never")) (aCons (aC (.str "twice")) (aCons (aC (.str "maybe")) (aCons (aC (.str "many")) (aCons (aC (.str "same")) aNil))))))))))) (aRet (aC (.bl false))) aNext)
  (aSeq (aAsg (aCall S_law_names [] (aCons (aV 1) (aCons (aC (.int 2)) aNil))) (gN 2))
  (aSeq (aFor (aRng1 (aCons (aC (.int 6)) aNil)) (gN 3) (aSeq (aAsg (aOw (aLst (aCons (aCall S_law_form [] (aCons (aV 1) (aCons (aV 2) (aCons (aV 2) (aCons (aC (.int 4)) (aCons (aC (.int 8)) aNil)))))) (aCons (aCall S_law_wide [] (aCons (aV 1) aNil)) (aCons (aCall S_law_part [] (aCons (aV 1) (aCons (aV 2) (aCons (aV 2) (aCons (aC (.int 4)) (aCons (aC (.int 8)) aNil)))))) aNil))))) (gN 4))
  (aSeq (aDrop (aApp (aV 4) (aTup (aCons (aC (.str "nothing")) aNil))))
  (aSeq (aDrop (aApp (aV 4) (aCall S_law_bound [] (aCons (aV 1) (aCons (aCall S_law_form [] (aCons (aV 1) (aCons (aV 2) (aCons (aV 2) (aCons (aC (.int 3)) (aCons (aC (.int 8)) aNil)))))) aNil)))))
  (aSeq (aDrop (aApp (aV 4) (aCall S_law_deeper [] (aCons (aV 1) (aCons (aCall S_law_leaf [] (aCons (aV 1) aNil)) (aCons (aCall S_law_draw [] (aCons (aV 1) (aCons (aC (.int 8)) aNil))) aNil))))))
  (aSeq (aAsg (aBin fIx (aFz (aLst (aCons (aTup (aCons (aC (.str "nothing")) aNil)) (aCons (aTup (aCons (aC (.str "never")) aNil)) aNil)))) (aCall S_law_draw [] (aCons (aV 1) (aCons (aC (.int 2)) aNil)))) (gN 5))
  (aSeq (aDrop (aApp (aV 4) (aTup (aCons (aBin fIx (aFz (aLst (aCons (aC (.str "row")) (aCons (aC (.str "choice")) aNil)))) (aCall S_law_draw [] (aCons (aV 1) (aCons (aC (.int 2)) aNil)))) (aCons (aTup (aCons (aV 5) (aCons (aV 5) aNil))) aNil)))))
  (aIfS (aB (aBin (fIn false) (aC (.bl false)) (aFz (aLc (aIt (aV 4)) (gN 6) aYes (aCall S_law_right [] (aCons (aV 6) aNil)) [6])))) (aRet (aC (.bl false))) aNext))))))))
  (aRet (aC (.bl true)))))))
theorem w_law {P : Program} {w : World} {K : PySem.W.Frag} {mg : Str → Option Value} {base : Heap} {k : Nat} {S_law_pen : L3.Spec} {S_law_names : L3.Spec} {S_law_part : L3.Spec} {S_law_wide : L3.Spec} {S_law_form : L3.Spec} {S_law_bound : L3.Spec} {S_law_draw : L3.Spec} {S_law_leaf : L3.Spec} {S_law_deeper : L3.Spec} {S_law_right : L3.Spec}
    (F_law_pen : Kn P w K mg base k "_law_pen" P_law_pen [] S_law_pen) (F_law_names : Kn P w K mg base k "_law_names" P_law_names [] S_law_names) (F_law_part : Kn P w K mg base k "_law_part" P_law_part [] S_law_part) (F_law_wide : Kn P w K mg base k "_law_wide" P_law_wide [] S_law_wide) (F_law_form : Kn P w K mg base k "_law_form" P_law_form [] S_law_form) (F_law_bound : Kn P w K mg base k "_law_bound" P_law_bound [] S_law_bound) (F_law_draw : Kn P w K mg base k "_law_draw" P_law_draw [] S_law_draw) (F_law_leaf : Kn P w K mg base k "_law_leaf" P_law_leaf [] S_law_leaf) (F_law_deeper : Kn P w K mg base k "_law_deeper" P_law_deeper [] S_law_deeper) (F_law_right : Kn P w K mg base k "_law_right" P_law_right [] S_law_right) (t_RULES : GloD K mg "RULES" d_RULES) (b_range : mg "range" = none)
    {f : Addr} {cdv : Value} {A : Around} {outer : List PySem.Env} {s : Shared} {H : Hp} {E : XK} {w0 : Wd} (hr : Room k (A.deeper (envOfC "law" (defScope s_law) s.heap.objs.size f cdv))) (hgd : A.guards = some []) :
    ASs (cxOf CX0 P w K mg base N_law "law" (defScope s_law) f cdv A outer s H E).nox w0 (defBody s_law) (T_law S_law_pen S_law_names S_law_part S_law_wide S_law_form S_law_bound S_law_draw S_law_leaf S_law_deeper S_law_right) :=
  have hN : (N_law : List Str).Nodup := sc_law.nd
  (as_cons (as_set 1 hN (ae_call F_law_pen hr hgd rfl (aa_cons (ae_v 0) aa_nil)))
    (as_cons (as_if (at_ne hr (ae_gloD rfl t_RULES) (ae_tup (aa_cons ae_str (aa_cons ae_str (aa_cons ae_str (aa_cons ae_str (aa_cons ae_str (aa_cons ae_str (aa_cons ae_str (aa_cons ae_str aa_nil)))))))))) (as_one (as_ret ae_bl)) as_nil)
    (as_cons (as_set 2 hN (ae_call F_law_names hr hgd rfl (aa_cons (ae_v 1) (aa_cons ae_int aa_nil))))
    (as_cons (as_for (vs := [3]) PassesOwn.never rfl (ai_rng1 rfl b_range (aa_cons ae_int aa_nil)) (ag_n 3 hN (by decide)) (as_cons (as_set 4 hN (ae_ow (an_lst (aa_cons (ae_call F_law_form hr hgd rfl (aa_cons (ae_v 1) (aa_cons (ae_v 2) (aa_cons (ae_v 2) (aa_cons ae_int (aa_cons ae_int aa_nil)))))) (aa_cons (ae_call F_law_wide hr hgd rfl (aa_cons (ae_v 1) aa_nil)) (aa_cons (ae_call F_law_part hr hgd rfl (aa_cons (ae_v 1) (aa_cons (ae_v 2) (aa_cons (ae_v 2) (aa_cons ae_int (aa_cons ae_int aa_nil)))))) aa_nil))))))
    (as_cons (as_expr (ae_append (ae_v 4) (ae_tup (aa_cons ae_str aa_nil))))
    (as_cons (as_expr (ae_append (ae_v 4) (ae_call F_law_bound hr hgd rfl (aa_cons (ae_v 1) (aa_cons (ae_call F_law_form hr hgd rfl (aa_cons (ae_v 1) (aa_cons (ae_v 2) (aa_cons (ae_v 2) (aa_cons ae_int (aa_cons ae_int aa_nil)))))) aa_nil)))))
    (as_cons (as_expr (ae_append (ae_v 4) (ae_call F_law_deeper hr hgd rfl (aa_cons (ae_v 1) (aa_cons (ae_call F_law_leaf hr hgd rfl (aa_cons (ae_v 1) aa_nil)) (aa_cons (ae_call F_law_draw hr hgd rfl (aa_cons (ae_v 1) (aa_cons ae_int aa_nil))) aa_nil))))))
    (as_cons (as_set 5 hN (ae_ix (ae_fz (an_lst (aa_cons (ae_tup (aa_cons ae_str aa_nil)) (aa_cons (ae_tup (aa_cons ae_str aa_nil)) aa_nil)))) (ae_call F_law_draw hr hgd rfl (aa_cons (ae_v 1) (aa_cons ae_int aa_nil)))))
    (as_cons (as_expr (ae_append (ae_v 4) (ae_tup (aa_cons (ae_ix (ae_fz (an_lst (aa_cons ae_str (aa_cons ae_str aa_nil)))) (ae_call F_law_draw hr hgd rfl (aa_cons (ae_v 1) (aa_cons ae_int aa_nil)))) (aa_cons (ae_tup (aa_cons (ae_v 5) (aa_cons (ae_v 5) aa_nil))) aa_nil)))))
    (as_one (as_if (at_in ae_bl (ae_fz (an_lc [("_law_part_here", 6)] rfl hN (ai_it (ae_v 4)) (blkOk_by (N := N_law) (sc := defScope s_law) (by decide +kernel)) (fun s H C cl fp => (ag_n 6 hN (by decide))) (fun s H C cl fp => ats_nil) (fun s H C cl fp => (ae_call F_law_right hr hgd rfl (aa_cons (ae_v 6) aa_nil)))))) (as_one (as_ret ae_bl)) as_nil)))))))))
    (as_one (as_ret ae_bl))))))
end R80

namespace R80
open PySem PySem.Spec PyProof.Rows L2 L3
/-! ### the pen: start and draw -/
/-- what a pen holds: at least b more draws may be made -/
def Pn (b : Nat) (pen : List D) : Prop := ∃ (g : Int) (ns : List Int) (d : Int), pen = [.lst (ns.map .int), .int g, .int d] ∧ 0 ≤ g ∧ g + b ≤ 2 ^ 60 ∧ ns.length ≤ 63 ∧ 0 ≤ d
theorem Pn.mono {b c : Nat} {pen : List D} (h : Pn b pen) (e : c ≤ b) : Pn c pen := by
  obtain ⟨g, ns, d, rfl, h1, h2, h3, h4⟩ := h
  exact ⟨g, ns, d, rfl, h1, by omega, h3, h4⟩
def S_start : L3.Spec := fun ds own P => ∃ ns : List Int, ds = [.kls (ns.map D.int)] ∧ ns.length ≤ 63 ∧ ∀ p pen, own p = none → Pn (2 ^ 59) pen → P (.ref p) (oset own p (.lst pen))
def S_draw : L3.Spec := fun ds own P => ∃ p pen many b, ds = [.ref p, .int many] ∧ own p = some (.lst pen) ∧ Pn (b + 1) pen ∧ 0 < many ∧ many < 2 ^ 40 ∧ ∀ k pen', 0 ≤ k → k < many → Pn b pen' → P (.int k) (oset own p (.lst pen'))
@[simp] theorem x_ix31 {n : Nat} : ixN (n + 1 + 1) 1 = some 1 := by
  have : (1 : Int) < (n : Int) + 1 + 1 := by omega
  simp [ixN, this]
theorem p_draw {ds : List D} {own : Own} {Q : D → Own → Prop} (h : S_draw ds own Q) : T_law_draw { nx := fun _ o => Rt Q .non o, rt := Rt Q } (astart N_law_draw ds) own := by
  obtain ⟨p, pen, many, b, rfl, ho, ⟨g, ns, d, rfl, g0, g1, hn, d0⟩, m0, m1, k⟩ := h
  have gs : Sm 61 g := .ofLt g0 (by omega)
  have c : ∀ {n : Nat}, n < 2 ^ 40 → Sm 40 (n : Int) := fun h => .ofLt (by omega) (by omega)
  have f1 : CMulW 7919 g := Sm.cmul (c (n := 7919) (by decide)) gs
  have f4 : CPowD 10 18 := by refine ⟨by decide, by decide, by decide⟩
  have f5 : ∀ i, CDivW i many := fun i => Sm.cdiv m0 (.ofLt (Int.le_of_lt m0) (by omega) : Sm 40 many)
  have f6 : CMulW 50021 g := Sm.cmul (c (n := 50021) (by decide)) gs
  have f7 : CMulW (50021 * g) g := ((c (n := 50021) (by decide)).mul gs).cmul gs
  have f8 : CMulW 31013 g := Sm.cmul (c (n := 31013) (by decide)) gs
  have f9 : ∀ x : Int, CPowD (x % 2147483563 + 50021 * g * g + 31013 * g + 41) 5 := fun x => by
    have h1 : Sm 162 (x % 2147483563) := (Sm.mod (by decide) (c (n := 2147483563) (by decide))).mono (by decide)
    have h2 : Sm 162 (50021 * g * g) := ((c (n := 50021) (by decide)).mul gs).mul gs
    have h3 : Sm 163 (31013 * g) := ((c (n := 31013) (by decide)).mul gs).mono (by decide)
    have h4 : Sm 164 (41 : Int) := (c (n := 41) (by decide)).mono (by decide)
    exact (((h1.add h2).add h3).add h4).cpow (by decide) (by decide)
  have f10 : CMulW 2 g := Sm.cmul (c (n := 2) (by decide)) gs
  have h23 : Sm 102 (2 * g + 3) := ((c (n := 2) (by decide)).mul gs).add ((c (n := 3) (by decide)).mono (by decide))
  have f11 : ∀ x : Int, CMulW (x % 2147483579) (2 * g + 3) := fun x => (Sm.mod (by decide) (c (n := 2147483579) (by decide))).cmul h23
  have f12 : ∀ x : Int, CPowD (x % 2147483579 * (2 * g + 3) + 60013) 3 := fun x =>
    (((Sm.mod (by decide) (c (n := 2147483579) (by decide))).mul h23).add ((c (n := 60013) (by decide)).mono (by decide))).cpow (by decide) (by decide)
  have f13 : ∀ x : Int, CDivW x 32 := fun i => Sm.cdiv (by decide) (c (n := 32) (by decide))
  have fin : ∀ (x : Int) (g' d' : Int), 0 ≤ g' → g' ≤ g + 1 → 0 ≤ d' → Rt Q (.int (x % many)) (oset own p (.lst [.lst (ns.map .int), .int g', .int d'])) := fun x g' d' h1 h2 h3 =>
    Rt.mk (k _ _ (Int.emod_nonneg _ (Int.ne_of_gt m0)) (Int.emod_lt_of_pos _ m0) ⟨g', ns, d', rfl, h1, by omega, hn, h3⟩)
  simp only [T_law_draw, astart, N_law_draw, List.length_cons, List.length_nil]
  by_cases dp : 0 < d
  · simp [x_seeR ho, x_ownL ho, dp, m0, f5]
    exact fin _ _ _ g0 (by omega) (Int.ediv_nonneg d0 (Int.le_of_lt m0))
  · have ng : ¬ g < 0 := by omega
    by_cases ne : ns = []
    · subst ne
      simp [x_seeR ho, x_ownL ho, dp, m0, f1, f4, f5, f6, f7, f8, f9, f10, f11, f12, f13, oset_oset, oset_same, x_seeR oset_same, x_ownL oset_same, ng]
      exact fin _ _ _ (by omega) (by omega) d0
    · have l0 : 0 < ns.length := List.length_pos_iff.mpr ne
      have l1 : (0 : Int) < (ns.length : Int) := by omega
      have f14 : ∀ i : Int, CDivW i (ns.length : Int) := fun i => Sm.cdiv l1 (.ofLt (by omega) (by omega) : Sm 40 (ns.length : Int))
      obtain ⟨z, hz, hm⟩ := x_atN (l := ns.map D.int) (i := g % (ns.length : Int)) (Int.emod_nonneg _ (Int.ne_of_gt l1)) (by rw [List.length_map]; exact Int.emod_lt_of_pos _ l1)
      obtain ⟨i, _, rfl⟩ := List.mem_map.mp hm
      simp [x_seeR ho, x_ownL ho, dp, m0, f1, f4, f5, f6, f7, f8, f9, f10, f11, f12, f13, f14, oset_oset, oset_same, x_seeR oset_same, x_ownL oset_same, ne, l0, hz]
      have ab : (0 : Int) ≤ if i < 0 then -i else i := by split <;> omega
      by_cases q1 : g < (ns.length : Int)
      · by_cases q2 : (1000000000000000000 : Int) ≤ if i < 0 then -i else i
        · simp [q1, q2]; exact fin _ _ _ (by omega) (by omega) (Int.ediv_nonneg ab (Int.le_of_lt m0))
        · simp [q1, q2]; exact fin _ _ _ (by omega) (by omega) d0
      · simp [q1]; exact fin _ _ _ (by omega) (by omega) d0
theorem p_start {ds : List D} {own : Own} {Q : D → Own → Prop} (h : S_start ds own Q) : T_law_pen { nx := fun _ o => Rt Q .non o, rt := Rt Q } (astart N_law_pen ds) own := by
  obtain ⟨ns, rfl, hn, k⟩ := h
  obtain ⟨l', e1, e2⟩ := cut_map D.int ns none (some 63)
  simp [T_law_pen, astart, N_law_pen, e1]
  intro p hp
  exact Rt.mk (k p _ hp ⟨0, l', 0, rfl, by decide, by decide, by omega, by decide⟩)
/-- what a caller may use of draw -/
def UDraw (S : L3.Spec) : Prop := ∀ (own : Own) (P : D → Own → Prop) (p : Addr) (pen : List D) (many : Int) (b : Nat), own p = some (.lst pen) → Pn (b + 1) pen → 0 < many → many < 1000000 → (∀ k pen', 0 ≤ k → k < many → Pn b pen' → P (.int k) (oset own p (.lst pen'))) → S [.ref p, .int many] own P
theorem uDraw : UDraw S_draw := fun own P p pen many b ho hp h0 h1 h => ⟨p, pen, many, b, rfl, ho, hp, h0, by omega, h⟩

/-! ### readers as data -/
def Lab (x : Str) : Prop := x.length ≤ 8 ∧ PyData.strOk x = true
inductive Rdr where
  | leaf (w : Str)
  | sg (w x : Str)
  | nm (w l : Str)
  | seq (w : Str) (ps : List Rdr)
  | one (w : Str) (p : Rdr)
  | two (w l : Str) (p : Rdr)
namespace Rdr
mutual
def toD : Rdr → D
  | .leaf w => .tup [.str w]
  | .sg w x => .tup [.str w, .str x]
  | .nm w l => .tup [.str w, .str l]
  | .seq w ps => .tup [.str w, .tup (toDs ps)]
  | .one w p => .tup [.str w, toD p]
  | .two w l p => .tup [.str w, .str l, toD p]
def toDs : List Rdr → List D
  | [] => []
  | r :: rs => toD r :: toDs rs
end
mutual
def size : Rdr → Nat
  | .leaf _ => 1
  | .sg _ _ => 1
  | .nm _ _ => 1
  | .seq _ ps => 1 + sizes ps
  | .one _ p => 1 + size p
  | .two _ _ p => 1 + size p
def sizes : List Rdr → Nat
  | [] => 0
  | r :: rs => size r + sizes rs
end
mutual
/-- how deep -/
def hgt : Rdr → Nat
  | .leaf _ => 1
  | .sg _ _ => 1
  | .nm _ _ => 1
  | .seq _ ps => 1 + hgts ps
  | .one _ p => 1 + hgt p
  | .two _ _ p => 1 + hgt p
def hgts : List Rdr → Nat
  | [] => 0
  | r :: rs => max (hgt r) (hgts rs)
end
mutual
def Ok (k : Nat) : Rdr → Prop
  | .leaf w => w = "nothing" ∨ w = "never"
  | .sg w x => (w = "sign" ∨ w = "but") ∧ x.length ≤ 30 ∧ PyData.strOk x = true
  | .nm w l => (w = "again" ∨ w = "name") ∧ Lab l
  | .seq w ps => (w = "row" ∨ w = "choice") ∧ ps ≠ [] ∧ ps.length ≤ k ∧ Oks k ps
  | .one w p => (w = "many" ∨ w = "maybe" ∨ w = "ahead" ∨ w = "not") ∧ Ok k p
  | .two w l p => (w = "hold" ∨ w = "tag" ∨ w = "make") ∧ Lab l ∧ Ok k p
def Oks (k : Nat) : List Rdr → Prop
  | [] => True
  | r :: rs => Ok k r ∧ Oks k rs
end
theorem toDs_map : ∀ rs : List Rdr, toDs rs = rs.map toD
  | [] => by unfold toDs; rfl
  | r :: rs => by unfold toDs; rw [toDs_map rs]; rfl
theorem oks_iff {k : Nat} : ∀ {rs : List Rdr}, Oks k rs ↔ ∀ r ∈ rs, Ok k r
  | [] => by unfold Oks; simp
  | r :: rs => by unfold Oks; rw [oks_iff (rs := rs)]; simp
theorem hgts_le : ∀ {rs : List Rdr} {n : Nat}, (∀ r ∈ rs, hgt r ≤ n) → hgts rs ≤ n
  | [], n, _ => by unfold hgts; omega
  | r :: rs, n, h => by
    unfold hgts
    have h1 := h r (List.mem_cons_self ..)
    have h2 := hgts_le (rs := rs) fun s hs => h s (List.mem_cons_of_mem _ hs)
    omega
theorem le_hgts : ∀ {rs : List Rdr} {r : Rdr}, r ∈ rs → hgt r ≤ hgts rs
  | s :: rs, r, h => by
    unfold hgts
    rcases List.mem_cons.mp h with rfl | h
    · omega
    · have := le_hgts h; omega
theorem le_sizes : ∀ {rs : List Rdr} {r : Rdr}, r ∈ rs → size r ≤ sizes rs
  | s :: rs, r, h => by
    unfold sizes
    rcases List.mem_cons.mp h with rfl | h
    · omega
    · have := le_sizes h; omega
end Rdr
namespace Rdr
def word : Rdr → Str
  | .leaf w => w
  | .sg w _ => w
  | .nm w _ => w
  | .seq w _ => w
  | .one w _ => w
  | .two w _ _ => w
theorem toD_word (r : Rdr) : ∃ rest, r.toD = .tup (.str r.word :: rest) := by
  cases r <;> unfold toD word <;> exact ⟨_, rfl⟩
theorem hgt_pos (r : Rdr) : 1 ≤ r.hgt := by cases r <;> unfold Rdr.hgt <;> omega
theorem size_pos (r : Rdr) : 1 ≤ r.size := by cases r <;> unfold Rdr.size <;> omega
end Rdr
theorem word_ok : ∀ {w : Str}, (w = "nothing" ∨ w = "never" ∨ w = "sign" ∨ w = "but" ∨ w = "again" ∨ w = "name" ∨ w = "row" ∨ w = "choice" ∨ w = "many" ∨ w = "maybe" ∨ w = "ahead" ∨ w = "not" ∨ w = "hold" ∨ w = "tag" ∨ w = "make") → ∀ {a : Nat}, PyOk (.str w) a 8 := by
  intro w h a
  rcases h with rfl | rfl | rfl | rfl | rfl | rfl | rfl | rfl | rfl | rfl | rfl | rfl | rfl | rfl | rfl <;> exact .str (by decide +kernel) (by decide +kernel)
mutual
theorem rdr_py {k : Nat} : ∀ r : Rdr, r.Ok k → PyOk r.toD (2 * r.hgt) (80 * r.size - 1)
  | .leaf w, ok => by
    unfold Rdr.toD Rdr.hgt Rdr.size
    exact (PyOk.tup (a := 1) (.cons (word_ok (by rcases ok with h | h <;> simp [h])) (.nil (b := 0)))).mono (by omega) (by omega)
  | .sg w x, ok => by
    unfold Rdr.toD Rdr.hgt Rdr.size
    exact (PyOk.tup (a := 1) (.cons (word_ok (by rcases ok.1 with h | h <;> simp [h])) (.cons (.str ok.2.2 ok.2.1) (.nil (b := 0))))).mono (by omega) (by omega)
  | .nm w x, ok => by
    unfold Rdr.toD Rdr.hgt Rdr.size
    exact (PyOk.tup (a := 1) (.cons (word_ok (by rcases ok.1 with h | h <;> simp [h])) (.cons (.str ok.2.2 ok.2.1) (.nil (b := 0))))).mono (by omega) (by omega)
  | .seq w ps, ok => by
    unfold Rdr.toD Rdr.hgt Rdr.size
    have h := rdrs_py ps ok.2.2.2
    exact (PyOk.tup (.cons (word_ok (by rcases ok.1 with h | h <;> simp [h])) (.cons (.tup h) (.nil (b := 0))))).mono (by omega) (by omega)
  | .one w p, ok => by
    unfold Rdr.toD Rdr.hgt Rdr.size
    have h := rdr_py p ok.2
    exact (PyOk.tup (.cons (word_ok (by rcases ok.1 with h | h | h | h <;> simp [h])) (.cons h (.nil (b := 0))))).mono (by omega) (by omega)
  | .two w l p, ok => by
    unfold Rdr.toD Rdr.hgt Rdr.size
    have h := rdr_py p ok.2.2
    exact (PyOk.tup (.cons (word_ok (by rcases ok.1 with h | h | h <;> simp [h])) (.cons (.str ok.2.1.2 ok.2.1.1) (.cons h (.nil (b := 0)))))).mono (by omega) (by omega)
theorem rdrs_py {k : Nat} : ∀ ps : List Rdr, Rdr.Oks k ps → PysOk (Rdr.toDs ps) (2 * Rdr.hgts ps) (80 * Rdr.sizes ps)
  | [], _ => by unfold Rdr.toDs; exact .nil
  | r :: ps, ok => by
    unfold Rdr.toDs Rdr.hgts Rdr.sizes
    have h1 := rdr_py r ok.1
    have h2 := rdrs_py ps ok.2
    have h3 : 0 < r.size := by cases r <;> unfold Rdr.size <;> omega
    exact (PysOk.cons (h1.mono (a' := 2 * max r.hgt (Rdr.hgts ps)) (by omega) (Nat.le_refl _)) (h2.mono (by omega) (Nat.le_refl _))).mono (by omega) (by omega)
end
namespace Rdr
mutual
theorem Ok.mono {k j : Nat} (e : k ≤ j) : ∀ {r : Rdr}, r.Ok k → r.Ok j
  | .leaf _, h => h
  | .sg _ _, h => h
  | .nm _ _, h => h
  | .seq _ ps, h => ⟨h.1, h.2.1, Nat.le_trans h.2.2.1 e, Oks.mono e h.2.2.2⟩
  | .one _ p, h => ⟨h.1, Ok.mono e h.2⟩
  | .two _ _ p, h => ⟨h.1, h.2.1, Ok.mono e h.2.2⟩
theorem Oks.mono {k j : Nat} (e : k ≤ j) : ∀ {rs : List Rdr}, Oks k rs → Oks j rs
  | [], h => h
  | _ :: _, h => ⟨Ok.mono e h.1, Oks.mono e h.2⟩
end
end Rdr
namespace Rdr
theorem toD_leaf {w : Str} : (leaf w).toD = .tup [.str w] := by unfold toD; rfl
theorem toD_sg {w x : Str} : (sg w x).toD = .tup [.str w, .str x] := by unfold toD; rfl
theorem toD_nm {w x : Str} : (nm w x).toD = .tup [.str w, .str x] := by unfold toD; rfl
theorem toD_seq {w : Str} {ps : List Rdr} : (seq w ps).toD = .tup [.str w, .tup (ps.map toD)] := by unfold toD; rw [toDs_map]
theorem toD_one {w : Str} {p : Rdr} : (one w p).toD = .tup [.str w, p.toD] := by rw [toD]
theorem toD_two {w l : Str} {p : Rdr} : (two w l p).toD = .tup [.str w, .str l, p.toD] := by rw [toD]
end Rdr

/-! ### signs -/
theorem items_str {own : Own} {x : Str} (h : x.length ≤ 16777216) : itemsOf own (.str x) = some (L3.signs x, fun _ => True) := by
  have h' : x.cps.size ≤ sizeLine := by rw [x_sz]; exact h
  unfold itemsOf
  simp [see, h']
  exact h
theorem items_lst {own : Own} {ds : List D} : itemsOf own (.lst ds) = some (ds, fun o' => see o' (.lst ds) = .lst ds) := rfl
theorem items_tup {own : Own} {ds : List D} : itemsOf own (.tup ds) = some (ds, fun _ => True) := rfl
def sigS : Str := printable
theorem d_sig : d_SIGNS = .str sigS := rfl
def isText (most : Int) (x : Str) : Bool := decide ((x.length : Int) ≤ most) && (x.cps.toList.map fun c => oneIn ⟨#[c]⟩ sigS).all _root_.id
def isSg (least : Int) (x : Str) : Bool := (isText 94 x && !decide ((x.length : Int) < least)) && ((x.cps.toList.zip (cutS x (some 1) none).cps.toList).map fun q => strLt ⟨#[q.1]⟩ ⟨#[q.2]⟩).all _root_.id
def letS : Str := "abcdefghijklmnopqrstuvwxyz"
def isNm (x : Str) : Bool := (decide ((1 : Int) ≤ x.length) && decide ((x.length : Int) ≤ 8)) && (x.cps.toList.map fun c => oneIn ⟨#[c]⟩ letS).all _root_.id
def S_text : L3.Spec := fun ds own P => ∃ (x : Str) (most : Int), ds = [.str x, .int most] ∧ x.length ≤ 1000000 ∧ P (.bl (isText most x)) own
def UText (S : L3.Spec) : Prop := ∀ (own : Own) (P : D → Own → Prop) (x : Str) (most : Int), x.length ≤ 1000000 → P (.bl (isText most x)) own → S [.str x, .int most] own P
theorem uText : UText S_text := fun own P x most h1 h2 => ⟨x, most, rfl, h1, h2⟩
def S_sg : L3.Spec := fun ds own P => ∃ (x : Str) (least : Int), ds = [.str x, .int least] ∧ x.length ≤ 1000000 ∧ P (.bl (isSg least x)) own
def USg (S : L3.Spec) : Prop := ∀ (own : Own) (P : D → Own → Prop) (x : Str) (least : Int), x.length ≤ 1000000 → P (.bl (isSg least x)) own → S [.str x, .int least] own P
theorem uSg : USg S_sg := fun own P x most h1 h2 => ⟨x, most, rfl, h1, h2⟩
def S_nm : L3.Spec := fun ds own P => ∃ (x : Str), ds = [.str x] ∧ x.length ≤ 1000000 ∧ P (.bl (isNm x)) own
def UNm (S : L3.Spec) : Prop := ∀ (own : Own) (P : D → Own → Prop) (x : Str), x.length ≤ 1000000 → P (.bl (isNm x)) own → S [.str x] own P
theorem uNm : UNm S_nm := fun own P x h1 h2 => ⟨x, rfl, h1, h2⟩
theorem p_text {ds : List D} {own : Own} {Q : D → Own → Prop} (h : S_text ds own Q) : T_is_text { nx := fun _ o => Rt Q .non o, rt := Rt Q } (astart N_is_text ds) own := by
  obtain ⟨x, most, rfl, hx, h⟩ := h
  have h := Rt.mk h
  have xs : x.cps.size ≤ 16777216 := by have : x.cps.size = x.length := rfl; omega
  have xl : x.length ≤ 16777216 := xs
  unfold isText at h
  simp [T_is_text, astart, N_is_text, aAndV, xl]
  by_cases q : (x.length : Int) ≤ most
  · simp only [q, decide_true, Bool.true_and] at h ⊢
    simp [xs, L3.signs]
    refine lc_pure (fun c : Nat => D.str ⟨#[c]⟩) (fun c => D.bl (oneIn ⟨#[c]⟩ sigS)) trivial (fun c _ Q' hq => ?_) ?_
    · rw [d_sig]; simp; exact hq
    · simp at h ⊢; exact h
  · simp only [q, decide_false, Bool.false_and] at h ⊢; exact h
theorem p_signs' {S : L3.Spec} (ht : UText S) {ds : List D} {own : Own} {Q : D → Own → Prop} (h : S_sg ds own Q) : T_is_signs S { nx := fun _ o => Rt Q .non o, rt := Rt Q } (astart N_is_signs ds) own := by
  obtain ⟨x, least, rfl, hx, h⟩ := h
  have h := Rt.mk h
  have xl : x.length ≤ 16777216 := by omega
  have dm : d_MOST_SIGNS = .int 94 := rfl
  unfold isSg at h
  simp [T_is_signs, astart, N_is_signs, arr, dm]
  refine ht _ _ x 94 hx ?_
  by_cases q : isText 94 x = true
  · by_cases q2 : (x.length : Int) < least
    · simp [q, q2, xl] at h ⊢; exact h
    · have cl : (cutS x (some 1) none).length ≤ 16777216 := by
        have : (cutS x (some 1) none).length ≤ x.length := by unfold cutS; simp [Str.length]; omega
        omega
      simp [q, q2, xl] at h ⊢
      refine ⟨_, _, items_str xl, _, _, items_str cl, ?_⟩
      unfold L3.signs
      rw [zip_pure]
      refine lc_pure (fun q : Nat × Nat => D.tup [.str ⟨#[q.1]⟩, .str ⟨#[q.2]⟩]) (fun q => D.bl (strLt ⟨#[q.1]⟩ ⟨#[q.2]⟩)) ⟨trivial, trivial⟩ (fun c _ Q' hq => ?_) ?_
      · simp; exact hq
      · simp; exact h
  · simp [q] at h ⊢; exact h
theorem p_name {ds : List D} {own : Own} {Q : D → Own → Prop} (h : S_nm ds own Q) : T_is_name { nx := fun _ o => Rt Q .non o, rt := Rt Q } (astart N_is_name ds) own := by
  obtain ⟨x, rfl, hx, h⟩ := h
  have h := Rt.mk h
  have xs : x.cps.size ≤ 16777216 := by have : x.cps.size = x.length := rfl; omega
  have xl : x.length ≤ 16777216 := xs
  have dl : d_LETTERS = .str letS := rfl
  have dm : d_MOST_LETTERS = .int 8 := rfl
  unfold isNm at h
  simp [T_is_name, astart, N_is_name, xl, dm, C0]
  by_cases q : (1 : Int) ≤ (x.length : Int)
  · by_cases q2 : (x.length : Int) ≤ 8
    · simp [q, q2, xs, L3.signs] at h ⊢
      refine lc_pure (fun c : Nat => D.str ⟨#[c]⟩) (fun c => D.bl (oneIn ⟨#[c]⟩ letS)) trivial (fun c _ Q' hq => ?_) ?_
      · rw [dl]; simp; exact hq
      · simp at h ⊢; exact h
    · simp [q, q2] at h ⊢; exact h
  · simp [q] at h ⊢; exact h

/-! ### what is a reader -/
def isMk (x : Str) : Bool := hasD (.str x) [.str "text", .str "drop", .str "count", .str "number"]
namespace Rdr
mutual
def rd : Rdr → Nat → Bool
  | .leaf _, n => match n with | 0 => false | _ + 1 => true
  | .sg w x, n => match n with | 0 => false | _ + 1 => if w = "sign" then isSg 1 x else isSg 0 x
  | .nm _ l, n => match n with | 0 => false | _ + 1 => isNm l
  | .seq _ ps, n => match n with | 0 => false | n + 1 => (decide ((2 : Int) ≤ ps.length) && decide ((ps.length : Int) ≤ 6)) && rds ps n
  | .one _ p, n => match n with | 0 => false | n + 1 => rd p n
  | .two w l p, n => match n with | 0 => false | n + 1 => (if w = "make" then isMk l else isNm l) && rd p n
def rds : List Rdr → Nat → Bool
  | [], _ => true
  | r :: rs, n => rd r n && rds rs n
end
theorem rds_all : ∀ (rs : List Rdr) (n : Nat), rds rs n = (rs.map fun r => rd r n).all _root_.id
  | [], n => by unfold rds; rfl
  | r :: rs, n => by unfold rds; rw [rds_all rs n]; rfl
theorem rd_zero : ∀ r : Rdr, rd r 0 = false := fun r => by cases r <;> unfold rd <;> rfl
end Rdr
/-- a reader, of whatever size -/
def Big (r : Rdr) : Prop := r.Ok 40 ∧ r.hgt ≤ 30
inductive Pc where | s (x : Str) | b (x : Str) | n (x : Str) | w (x : Str) | rr (r : Rdr) | pp (ps : List Rdr)
namespace Pc
def form : Pc → Str
  | .s _ => "s"
  | .b _ => "b"
  | .n _ => "n"
  | .w _ => "w"
  | .rr _ => "r"
  | .pp _ => "p"
def d : Pc → D
  | .s x => .str x
  | .b x => .str x
  | .n x => .str x
  | .w x => .str x
  | .rr r => r.toD
  | .pp ps => .tup (ps.map Rdr.toD)
def ok : Pc → Prop
  | .s x => x.length ≤ 1000000
  | .b x => x.length ≤ 1000000
  | .n x => x.length ≤ 1000000
  | .w x => x.length ≤ 1000000
  | .rr r => Big r
  | .pp ps => ∀ r ∈ ps, Big r
def val (n : Nat) : Pc → Bool
  | .s x => isSg 1 x
  | .b x => isSg 0 x
  | .n x => isNm x
  | .w x => isMk x
  | .rr r => r.rd n
  | .pp ps => (decide ((2 : Int) ≤ ps.length) && decide ((ps.length : Int) ≤ 6)) && (ps.map fun r => r.rd n).all _root_.id
end Pc
def S_piece (n : Nat) : L3.Spec := fun ds own P => ∃ (c : Pc) (left : Nat), ds = [.str c.form, c.d, .int left] ∧ c.ok ∧ left ≤ n ∧ P (.bl (c.val left)) own
def UPiece (n : Nat) (S : L3.Spec) : Prop := ∀ (own : Own) (P : D → Own → Prop) (c : Pc) (left : Nat), c.ok → left ≤ n → P (.bl (c.val left)) own → S [.str c.form, c.d, .int left] own P
theorem uPiece (n : Nat) : UPiece n (S_piece n) := fun own P c l h1 h2 h3 => ⟨c, l, rfl, h1, h2, h3⟩
def S_formed (n : Nat) : L3.Spec := fun ds own P => ∃ (r : Rdr) (left : Nat), ds = [r.toD, .int left] ∧ Big r ∧ left ≤ n ∧ P (.bl (r.rd left)) own
def UFormed (n : Nat) (S : L3.Spec) : Prop := ∀ (own : Own) (P : D → Own → Prop) (r : Rdr) (left : Nat), Big r → left ≤ n → P (.bl (r.rd left)) own → S [r.toD, .int left] own P
theorem uFormed (n : Nat) : UFormed n (S_formed n) := fun own P c l h1 h2 h3 => ⟨c, l, rfl, h1, h2, h3⟩
def S_reader : L3.Spec := fun ds own P => ∃ (r : Rdr), ds = [r.toD] ∧ Big r ∧ P (.bl (r.rd 8)) own
def UReader (S : L3.Spec) : Prop := ∀ (own : Own) (P : D → Own → Prop) (r : Rdr), Big r → P (.bl (r.rd 8)) own → S [r.toD] own P
theorem uReader : UReader S_reader := fun own P c h1 h2 => ⟨c, rfl, h1, h2⟩
theorem p_piece {n : Nat} {S_g S_n S_f : L3.Spec} (hg : USg S_g) (hn : UNm S_n) (hf : UFormed n S_f) {ds : List D} {own : Own} {Q : D → Own → Prop} (h : S_piece n ds own Q) : T_is_piece S_g S_n S_f { nx := fun _ o => Rt Q .non o, rt := Rt Q } (astart N_is_piece ds) own := by
  obtain ⟨c, left, rfl, ok, hl, h⟩ := h
  replace h := Rt.mk h
  cases c with
  | s x => simp [T_is_piece, astart, N_is_piece, Pc.form, Pc.d, arr]; exact hg _ _ x 1 (show x.length ≤ _ from ok) h
  | b x => simp [T_is_piece, astart, N_is_piece, Pc.form, Pc.d, arr]; exact hg _ _ x 0 (show x.length ≤ _ from ok) h
  | n x => simp [T_is_piece, astart, N_is_piece, Pc.form, Pc.d, arr]; exact hn _ _ x (show x.length ≤ _ from ok) h
  | w x =>
    simp [T_is_piece, astart, N_is_piece, Pc.form, Pc.d, Pc.val, isMk, aAndV, d_MAKES] at h ⊢
    exact h
  | rr r => simp [T_is_piece, astart, N_is_piece, Pc.form, Pc.d]; exact hf _ _ r left (show Big r from ok) hl h
  | pp ps =>
    have d1 : d_LEAST_PARTS = .int 2 := rfl
    have d2 : d_MOST_PARTS_readers = .int 6 := rfl
    simp [T_is_piece, astart, N_is_piece, Pc.form, Pc.d, Pc.val, d1, d2, C0] at h ⊢
    by_cases q : (2 : Int) ≤ (ps.length : Int)
    · by_cases q2 : (ps.length : Int) ≤ 6
      · simp [q, q2] at h ⊢
        refine lc_pure Rdr.toD (fun r => D.bl (r.rd left)) trivial (fun r hr Q' hq => ?_) ?_
        · simp; exact hf _ _ r left (ok r hr) hl hq
        · simp; exact h
      · simp [q, q2] at h ⊢; exact h
    · simp [q] at h ⊢; exact h
theorem deq_tupnil {d : D} {ds : List D} : deq (.tup (d :: ds)) (.tup []) = false := by
  unfold deq toPy toPys toPys
  simp [PyData.eqv, PyData.eqvAll]
theorem ask_tupnil {r : Rdr} (h : Big r) : eqAsk r.toD (.tup []) := by
  have p := rdr_py r h.1
  have hd := p.dp
  have h30 := h.2
  obtain ⟨rest, e⟩ := r.toD_word
  rw [e] at p hd ⊢
  exact ⟨⟨p.eq, by omega⟩, by unfold eqOk eqOks; rfl, by unfold toPy toPys PyData.depth PyData.depthAll; decide⟩
theorem sgn1 {s : String} {c : Nat} (h : Str.ofString s = ⟨#[c]⟩) : L3.signs (Str.ofString s) = [.str (Str.ofString s)] := by
  unfold L3.signs; rw [h]; rfl
theorem sgn2 {s a b : String} {c d : Nat} (h : Str.ofString s = ⟨#[c, d]⟩) (ha : Str.ofString a = ⟨#[c]⟩) (hb : Str.ofString b = ⟨#[d]⟩) : L3.signs (Str.ofString s) = [.str (Str.ofString a), .str (Str.ofString b)] := by
  unfold L3.signs; rw [h, ha, hb]; rfl
theorem sgn0 : L3.signs Str.empty = [] := by decide +kernel
theorem sg_s : L3.signs (Str.ofString "s") = [.str (Str.ofString "s")] := sgn1 (c := 115) (by decide +kernel)
theorem sg_b : L3.signs (Str.ofString "b") = [.str (Str.ofString "b")] := sgn1 (c := 98) (by decide +kernel)
theorem sg_n : L3.signs (Str.ofString "n") = [.str (Str.ofString "n")] := sgn1 (c := 110) (by decide +kernel)
theorem sg_r : L3.signs (Str.ofString "r") = [.str (Str.ofString "r")] := sgn1 (c := 114) (by decide +kernel)
theorem sg_p : L3.signs (Str.ofString "p") = [.str (Str.ofString "p")] := sgn1 (c := 112) (by decide +kernel)
theorem sg_nr : L3.signs (Str.ofString "nr") = [.str (Str.ofString "n"), .str (Str.ofString "r")] := sgn2 (c := 110) (d := 114) (by decide +kernel) (by decide +kernel) (by decide +kernel)
theorem sg_wr : L3.signs (Str.ofString "wr") = [.str (Str.ofString "w"), .str (Str.ofString "r")] := sgn2 (c := 119) (d := 114) (by decide +kernel) (by decide +kernel) (by decide +kernel)
theorem ln_s : (Str.ofString "s").length = 1 := by decide +kernel
theorem ln_b : (Str.ofString "b").length = 1 := by decide +kernel
theorem ln_n : (Str.ofString "n").length = 1 := by decide +kernel
theorem ln_r : (Str.ofString "r").length = 1 := by decide +kernel
theorem ln_p : (Str.ofString "p").length = 1 := by decide +kernel
theorem ln_nr : (Str.ofString "nr").length = 2 := by decide +kernel
theorem ln_wr : (Str.ofString "wr").length = 2 := by decide +kernel
theorem fin_pieces {n m : Nat} {S_p : L3.Spec} (hp : UPiece n S_p) (ml : m ≤ n) {own : Own} {P : List D → Own → Prop} {gd : Own → Prop} {e0 e2 e3 e4 e5 : Option D} (cs : List Pc) (hok : ∀ c ∈ cs, c.ok) (hg : gd own) (h : P (cs.map fun c => D.bl (c.val m)) own) :
    aLcL (gTp 2 (gsCons (gN 4) (gsCons (gN 5) gsNil))) aYes (aCall S_p [] (aCons (aV 4) (aCons (aV 5) (aCons (aBin fSub (aV 1) (aC (.int 1))) aNil)))) gd [e0, some (.int ((m : Int) + 1)), e2, e3, e4, e5] P (cs.map fun c => D.tup [.str c.form, c.d]) [] own := by
  have le : ((m : Int) + 1) - 1 = (m : Int) := by omega
  refine lc_pure (fun c : Pc => D.tup [.str c.form, c.d]) (fun c => D.bl (c.val m)) hg (fun c hc Q' hq => ?_) (by simpa using h)
  simp [C0, le]
  exact hp _ _ c m (hok c hc) ml hq
theorem p_formed {n : Nat} {a : Addr} {S_p : L3.Spec} (hp : ∀ m, n = m + 1 → UPiece m S_p) {ds : List D} {own : Own} {Q : D → Own → Prop} (h : S_formed n ds own Q) : T_is_formed S_p a { nx := fun _ o => Rt Q .non o, rt := Rt Q } (astart N_is_formed ds) own := by
  obtain ⟨r, left, rfl, ok, hl, h⟩ := h
  replace h := Rt.mk h
  have ask := ask_tupnil ok
  obtain ⟨ok, hh⟩ := ok
  by_cases l0 : left = 0
  · subst l0
    rw [Rdr.rd_zero] at h
    simp [T_is_formed, astart, N_is_formed]
    exact h
  obtain ⟨m, rfl⟩ : ∃ m, left = m + 1 := ⟨left - 1, by omega⟩
  obtain ⟨n, rfl⟩ : ∃ k, n = k + 1 := ⟨n - 1, by omega⟩
  have hp := hp n rfl
  have lf : ¬ ((m : Int) + 1 = 0) := by omega
  have lb : (((m : Int) + 1) == 0) = false := by simpa using lf
  have le : ((m : Int) + 1) - 1 = (m : Int) := by omega
  have ml : m ≤ n := by omega
  cases r with
  | leaf w =>
    unfold Rdr.rd at h
    unfold Rdr.toD at ask ⊢
    rcases ok with rfl | rfl <;> simp [T_is_formed, astart, N_is_formed, lb, ask, deq_tupnil, fInTab, tab_FORMS, fIxTab]
    all_goals
      refine ⟨_, _, items_str (by decide), _, _, items_lst, ?_⟩
      rw [sgn0]
      exact fin_pieces hp ml [] (by simp) ⟨trivial, rfl⟩ (by simpa [blsOf] using h)
  | sg w x =>
    unfold Rdr.rd at h
    unfold Rdr.toD at ask ⊢
    have hx : x.length ≤ 1000000 := by have := ok.2.1; omega
    rcases ok.1 with rfl | rfl <;> simp [T_is_formed, astart, N_is_formed, lb, ask, deq_tupnil, fInTab, tab_FORMS, fIxTab, ln_s, ln_b] at h ⊢
    · refine ⟨_, _, items_str (by rw [ln_s]; decide), _, _, items_lst, ?_⟩
      rw [sg_s]
      exact fin_pieces hp ml [.s x] (by simpa [Pc.ok] using hx) ⟨trivial, rfl⟩ (by simpa [blsOf, Pc.val] using h)
    · refine ⟨_, _, items_str (by rw [ln_b]; decide), _, _, items_lst, ?_⟩
      rw [sg_b]
      exact fin_pieces hp ml [.b x] (by simpa [Pc.ok] using hx) ⟨trivial, rfl⟩ (by simpa [blsOf, Pc.val] using h)
  | nm w x =>
    unfold Rdr.rd at h
    unfold Rdr.toD at ask ⊢
    have hx : x.length ≤ 1000000 := by have := ok.2.1; omega
    rcases ok.1 with rfl | rfl <;> simp [T_is_formed, astart, N_is_formed, lb, ask, deq_tupnil, fInTab, tab_FORMS, fIxTab, ln_n] at h ⊢
    all_goals
      refine ⟨_, _, items_str (by rw [ln_n]; decide), _, _, items_lst, ?_⟩
      rw [sg_n]
      exact fin_pieces hp ml [.n x] (by simpa [Pc.ok] using hx) ⟨trivial, rfl⟩ (by simpa [blsOf, Pc.val] using h)
  | seq w ps =>
    unfold Rdr.rd at h
    unfold Rdr.toD at ask ⊢
    unfold Rdr.hgt at hh
    simp only [Rdr.rds_all] at h
    have hx : ∀ r ∈ ps, Big r := fun r hr => ⟨Rdr.oks_iff.mp ok.2.2.2 r hr, by have := Rdr.le_hgts hr; omega⟩
    rw [Rdr.toDs_map] at ask ⊢
    rcases ok.1 with rfl | rfl <;> simp [T_is_formed, astart, N_is_formed, lb, ask, deq_tupnil, fInTab, tab_FORMS, fIxTab, ln_p] at h ⊢
    all_goals
      refine ⟨_, _, items_str (by rw [ln_p]; decide), _, _, items_lst, ?_⟩
      rw [sg_p]
      exact fin_pieces hp ml [.pp ps] (by simpa [Pc.ok] using hx) ⟨trivial, rfl⟩ (by simpa [blsOf, Pc.val] using h)
  | one w p =>
    unfold Rdr.rd at h
    unfold Rdr.toD at ask ⊢
    unfold Rdr.hgt at hh
    have hx : Big p := ⟨ok.2, by omega⟩
    rcases ok.1 with rfl | rfl | rfl | rfl <;> simp [T_is_formed, astart, N_is_formed, lb, ask, deq_tupnil, fInTab, tab_FORMS, fIxTab, ln_r] at h ⊢
    all_goals
      refine ⟨_, _, items_str (by rw [ln_r]; decide), _, _, items_lst, ?_⟩
      rw [sg_r]
      exact fin_pieces hp ml [.rr p] (by simpa [Pc.ok] using hx) ⟨trivial, rfl⟩ (by simpa [blsOf, Pc.val] using h)
  | two w l p =>
    unfold Rdr.rd at h
    unfold Rdr.toD at ask ⊢
    unfold Rdr.hgt at hh
    have hx : Big p := ⟨ok.2.2, by omega⟩
    have hl : l.length ≤ 1000000 := by have := ok.2.1.1; omega
    rcases ok.1 with rfl | rfl | rfl <;> simp [T_is_formed, astart, N_is_formed, lb, ask, deq_tupnil, fInTab, tab_FORMS, fIxTab, ln_nr, ln_wr] at h ⊢
    · refine ⟨_, _, items_str (by rw [ln_nr]; decide), _, _, items_lst, ?_⟩
      rw [sg_nr]
      exact fin_pieces hp ml [.n l, .rr p] (by simp [Pc.ok]; exact ⟨hl, hx⟩) ⟨trivial, rfl⟩ (by simpa [blsOf, Pc.val] using h)
    · refine ⟨_, _, items_str (by rw [ln_nr]; decide), _, _, items_lst, ?_⟩
      rw [sg_nr]
      exact fin_pieces hp ml [.n l, .rr p] (by simp [Pc.ok]; exact ⟨hl, hx⟩) ⟨trivial, rfl⟩ (by simpa [blsOf, Pc.val] using h)
    · refine ⟨_, _, items_str (by rw [ln_wr]; decide), _, _, items_lst, ?_⟩
      rw [sg_wr]
      exact fin_pieces hp ml [.w l, .rr p] (by simp [Pc.ok]; exact ⟨hl, hx⟩) ⟨trivial, rfl⟩ (by simpa [blsOf, Pc.val] using h)
theorem p_is_reader {S : L3.Spec} (hf : UFormed 8 S) {ds : List D} {own : Own} {Q : D → Own → Prop} (h : S_reader ds own Q) : T_is_reader S { nx := fun _ o => Rt Q .non o, rt := Rt Q } (astart N_is_reader ds) own := by
  obtain ⟨r, rfl, ok, h⟩ := h
  replace h := Rt.mk h
  have d1 : d_MOST_DEEP = .int 8 := rfl
  simp [T_is_reader, astart, N_is_reader, d1]
  exact hf _ _ r 8 ok (Nat.le_refl _) h

/-! ### readers turned -/
def optD : Option Rdr → D
  | none => .non
  | some r => r.toD
/-- what is turned -/
def In (r : Rdr) : Prop := r.Ok 6 ∧ r.hgt ≤ 20 ∧ r.size ≤ 2500
def Out (r : Rdr) : Prop := r.Ok 40 ∧ r.hgt ≤ 23 ∧ r.size ≤ 7600
theorem Out.big {r : Rdr} (h : Out r) : Big r := ⟨h.1, Nat.le_trans h.2.1 (by decide)⟩
theorem In.out {r : Rdr} (h : In r) : Out r := ⟨h.1.mono (by decide), Nat.le_trans h.2.1 (by decide), Nat.le_trans h.2.2 (by decide)⟩
theorem Out.repr {r : Rdr} (h : Out r) : reprOk r.toD = true := (rdr_py r h.1).repr (by have := h.2.1; omega) (by have := h.2.2; omega)
theorem Out.ask {r : Rdr} (h : Out r) : askD r.toD := ⟨(rdr_py r h.1).eq, Nat.le_trans (rdr_py r h.1).dp (by have := h.2.1; omega)⟩
theorem py_ask {d : D} {a b : Nat} (h : PyOk d a b) (h1 : a ≤ 64) : askD d := ⟨h.eq, Nat.le_trans h.dp h1⟩
theorem ask_tt {xs ys : List D} (h1 : askD (.tup xs)) (h2 : askD (.tup ys)) : eqAsk (.tup xs) (.tup ys) := ⟨⟨h1.1, h1.2⟩, h2.1, h2.2⟩
def joinR (w : Str) : Rdr → Option Rdr
  | .seq w' (.seq w2 qs :: rest) => if w' = w ∧ w2 = w then some (.seq w (qs ++ rest)) else none
  | _ => none
def nothing : Rdr := .leaf "nothing"
def never : Rdr := .leaf "never"
def otherR (w : Str) (pl : Rdr) : Rdr → Option Rdr
  | .seq w' [a, b] => if w' = w ∧ (deq a.toD pl.toD || deq b.toD pl.toD) = true then some (if deq a.toD pl.toD then b else a) else none
  | _ => none
def twiceR : Rdr → Option Rdr
  | .one w (.one w2 p) => if w = "not" ∧ w2 = "not" then some (.one "ahead" p) else none
  | _ => none
def maybeR : Rdr → Option Rdr
  | .one w p => if w = "maybe" then some (.seq "choice" [p, nothing]) else none
  | _ => none
def manyR : Rdr → Option Rdr
  | .one w p => if w = "many" then some (.seq "choice" [.seq "row" [p, .one w p], nothing]) else none
  | _ => none
def sameR : Rdr → Option Rdr
  | .seq w [a, b] => if w = "choice" ∧ deq a.toD b.toD = true then some a else none
  | _ => none
def ruleR (r : Rdr) (rule : Str) : Option Rdr :=
  if rule = "choice" ∨ rule = "row" then joinR rule r else if rule = "nothing" then otherR "row" nothing r else if rule = "never" then otherR "choice" never r
  else if rule = "twice" then twiceR r else if rule = "maybe" then maybeR r else if rule = "many" then manyR r else sameR r
def S_join : L3.Spec := fun ds own P => ∃ w r, ds = [.str w, r.toD] ∧ (w = "choice" ∨ w = "row") ∧ In r ∧ P (optD (joinR w r)) own
def UJoin (S : L3.Spec) : Prop := ∀ (own : Own) (P : D → Own → Prop) (w : Str) (r : Rdr), (w = "choice" ∨ w = "row") → In r → P (optD (joinR w r)) own → S [.str w, r.toD] own P
theorem uJoin : UJoin S_join := fun own P w r h1 h2 h3 => ⟨w, r, rfl, h1, h2, h3⟩
def S_other : L3.Spec := fun ds own P => ∃ w pl r, ds = [.str w, pl.toD, r.toD] ∧ (w = "choice" ∨ w = "row") ∧ (pl = nothing ∨ pl = never) ∧ In r ∧ P (optD (otherR w pl r)) own
def UOther (S : L3.Spec) : Prop := ∀ (own : Own) (P : D → Own → Prop) (w : Str) (pl r : Rdr), (w = "choice" ∨ w = "row") → (pl = nothing ∨ pl = never) → In r → P (optD (otherR w pl r)) own → S [.str w, pl.toD, r.toD] own P
theorem uOther : UOther S_other := fun own P w pl r h1 h2 h3 h4 => ⟨w, pl, r, rfl, h1, h2, h3, h4⟩
def S_one (f : Rdr → Option Rdr) : L3.Spec := fun ds own P => ∃ r, ds = [r.toD] ∧ In r ∧ P (optD (f r)) own
def UOne (f : Rdr → Option Rdr) (S : L3.Spec) : Prop := ∀ (own : Own) (P : D → Own → Prop) (r : Rdr), In r → P (optD (f r)) own → S [r.toD] own P
theorem uOne (f : Rdr → Option Rdr) : UOne f (S_one f) := fun own P r h1 h2 => ⟨r, rfl, h1, h2⟩
/-- a reader of this word is a choice or row -/
theorem seq_of {r : Rdr} {k : Nat} (ok : r.Ok k) {w : Str} (hw : w = "choice" ∨ w = "row") (e : r.word = w) : ∃ a ps, r = .seq w (a :: ps) := by
  cases r with
  | leaf w' => rcases ok with rfl | rfl <;> rcases hw with rfl | rfl <;> simp [Rdr.word] at e
  | sg w' x => rcases ok.1 with rfl | rfl <;> rcases hw with rfl | rfl <;> simp [Rdr.word] at e
  | nm w' x => rcases ok.1 with rfl | rfl <;> rcases hw with rfl | rfl <;> simp [Rdr.word] at e
  | one w' x => rcases ok.1 with rfl | rfl | rfl | rfl <;> rcases hw with rfl | rfl <;> simp [Rdr.word] at e
  | two w' l x => rcases ok.1 with rfl | rfl | rfl <;> rcases hw with rfl | rfl <;> simp [Rdr.word] at e
  | seq w' ps =>
    simp only [Rdr.word] at e
    subst e
    cases ps with
    | nil => exact absurd rfl ok.2.1
    | cons a ps => exact ⟨a, ps, rfl⟩
theorem join_no {w : Str} {r : Rdr} (h : ¬ r.word = w) : joinR w r = none := by
  unfold joinR
  split
  · rw [if_neg]; rintro ⟨rfl, _⟩; exact h rfl
  · rfl
theorem join_no2 {w : Str} {a : Rdr} {ps : List Rdr} (h : ¬ a.word = w) : joinR w (.seq w (a :: ps)) = none := by
  unfold joinR
  split
  · rename_i e
    injection e with e1 e2
    injection e2 with e3 e4
    subst e3
    rw [if_neg]; rintro ⟨_, rfl⟩; exact h rfl
  · rfl
theorem neS {x y : Str} (h : ¬ x = y) : (x == y) = false := by simpa using h
theorem p_joined {ds : List D} {own : Own} {Q : D → Own → Prop} (h : S_join ds own Q) : T_joined { nx := fun _ o => Rt Q .non o, rt := Rt Q } (astart N_joined ds) own := by
  obtain ⟨w, r, rfl, hw, hr, h⟩ := h
  replace h := Rt.mk h
  simp [T_joined, astart, N_joined]
  by_cases q : r.word = w
  · obtain ⟨a, ps, rfl⟩ := seq_of hr.1 hw q
    have l6 : ps.length + 1 ≤ 6 := by have := hr.1.2.2.1; simpa using this
    have oka := hr.1.2.2.2.1
    rw [Rdr.toD_seq, List.map_cons]
    by_cases q2 : a.word = w
    · obtain ⟨b, qs, rfl⟩ := seq_of oka hw q2
      have m6 : qs.length + 1 ≤ 6 := by have := oka.2.2.1; simpa using this
      have e : joinR w (.seq w (.seq w (b :: qs) :: ps)) = some (.seq w ((b :: qs) ++ ps)) := by unfold joinR; simp
      rw [e] at h
      simp only [optD] at h
      rw [Rdr.toD_seq] at h ⊢
      have e2 : List.take ps.length (List.map Rdr.toD ps) = List.map Rdr.toD ps := List.take_of_length_le (by simp)
      have e3 : List.drop ps.length (List.map Rdr.toD ps) = [] := List.drop_of_length_le (by simp)
      have b1 : qs.length + 1 + ps.length ≤ 16777216 := by omega
      have b2 : ps.length ≤ 16383 := by omega
      simp [e2, e3, b1, b2] at h ⊢
      exact h
    · rw [join_no2 q2] at h
      obtain ⟨rest, ea⟩ := a.toD_word
      rw [ea]
      simp [neS q2]; exact h
  · rw [join_no q] at h
    obtain ⟨rest, e⟩ := r.toD_word
    rw [e]
    simp [neS q]; exact h
theorem p_law_joined {ds : List D} {own : Own} {Q : D → Own → Prop} (h : S_join ds own Q) : T_law_joined { nx := fun _ o => Rt Q .non o, rt := Rt Q } (astart N_law_joined ds) own := by
  obtain ⟨w, r, rfl, hw, hr, h⟩ := h
  replace h := Rt.mk h
  simp [T_law_joined, astart, N_law_joined]
  by_cases q : r.word = w
  · obtain ⟨a, ps, rfl⟩ := seq_of hr.1 hw q
    have l6 : ps.length + 1 ≤ 6 := by have := hr.1.2.2.1; simpa using this
    have oka := hr.1.2.2.2.1
    rw [Rdr.toD_seq, List.map_cons]
    by_cases q2 : a.word = w
    · obtain ⟨b, qs, rfl⟩ := seq_of oka hw q2
      have m6 : qs.length + 1 ≤ 6 := by have := oka.2.2.1; simpa using this
      have e : joinR w (.seq w (.seq w (b :: qs) :: ps)) = some (.seq w ((b :: qs) ++ ps)) := by unfold joinR; simp
      rw [e] at h
      simp only [optD] at h
      rw [Rdr.toD_seq] at h ⊢
      have b1 : qs.length + 1 + ps.length ≤ 16777216 := by omega
      have b2 : ps.length ≤ 16383 := by omega
      have ec : L3.cutD (D.tup [.str w, .tup ((b :: qs).map Rdr.toD)] :: ps.map Rdr.toD) (some 1) none = ps.map Rdr.toD := by
        simp [L3.cutD, HT.sIx]
        exact List.take_of_length_le (by simp)
      simp at ec
      simp [ec, b1, b2] at h ⊢
      exact h
    · rw [join_no2 q2] at h
      obtain ⟨rest, ea⟩ := a.toD_word
      rw [ea]
      simp [neS q2]; exact h
  · rw [join_no q] at h
    obtain ⟨rest, e⟩ := r.toD_word
    rw [e]
    simp [neS q]; exact h
/-- the other one of two -/
theorem other_no {w : Str} {pl r : Rdr} (h : ¬ r.word = w) : otherR w pl r = none := by
  unfold otherR
  split
  · rw [if_neg]; rintro ⟨rfl, _⟩; exact h rfl
  · rfl
theorem other_no2 {w : Str} {pl : Rdr} {ps : List Rdr} (h : ¬ ps.length = 2) : otherR w pl (.seq w ps) = none := by
  unfold otherR
  split
  · rename_i e
    injection e with e1 e2
    subst e2
    exact absurd rfl h
  · rfl
theorem In.at_ {w : Str} {ps : List Rdr} (h : In (.seq w ps)) {r : Rdr} (hr : r ∈ ps) : In r := by
  obtain ⟨h1, h2, h3⟩ := h
  unfold Rdr.hgt at h2
  unfold Rdr.size at h3
  have a1 := Rdr.le_hgts hr
  have a2 := Rdr.le_sizes hr
  exact ⟨Rdr.oks_iff.mp h1.2.2.2 r hr, by omega, by omega⟩
theorem plain_ask {pl : Rdr} (h : pl = nothing ∨ pl = never) : askD pl.toD := by
  rcases h with rfl | rfl
  · exact py_ask (rdr_py (k := 1) nothing (.inl rfl)) (by decide +kernel)
  · exact py_ask (rdr_py (k := 1) never (.inr rfl)) (by decide +kernel)
theorem r_tup (r : Rdr) : ∃ ds, r.toD = .tup ds := let ⟨rest, e⟩ := r.toD_word; ⟨_, e⟩
theorem ask_rr {a b : Rdr} (h1 : askD a.toD) (h2 : askD b.toD) : eqAsk a.toD b.toD := by
  obtain ⟨x, e1⟩ := r_tup a
  obtain ⟨y, e2⟩ := r_tup b
  rw [e1] at h1 ⊢
  rw [e2] at h2 ⊢
  exact ask_tt h1 h2
theorem see_r {own : Own} (r : Rdr) : see own r.toD = r.toD := by
  obtain ⟨x, e1⟩ := r_tup r
  rw [e1]; rfl
theorem ask_two {a b : Rdr} (h : In (.seq "row" [a, b])) : askD (.tup [a.toD, b.toD]) := by
  have h1 := rdr_py a h.1.2.2.2.1
  have h2 := rdr_py b h.1.2.2.2.2.1
  have b1 := (h.at_ (r := a) (by simp)).2.1
  have b2 := (h.at_ (r := b) (by simp)).2.1
  exact py_ask (a := 41) (PyOk.tup (.cons (h1.mono (a' := 40) (by omega) (Nat.le_refl _)) (.cons (h2.mono (by omega) (Nat.le_refl _)) (.nil (b := 0))))) (by decide)
theorem in_any {w w' : Str} {ps : List Rdr} (h : In (.seq w ps)) (hw : w' = "row" ∨ w' = "choice") : In (.seq w' ps) := ⟨⟨hw, h.1.2⟩, by have := h.2.1; unfold Rdr.hgt at this ⊢; exact this, by have := h.2.2; unfold Rdr.size at this ⊢; exact this⟩
theorem p_without {ds : List D} {own : Own} {Q : D → Own → Prop} (h : S_other ds own Q) : T_without { nx := fun _ o => Rt Q .non o, rt := Rt Q } (astart N_without ds) own := by
  obtain ⟨w, pl, r, rfl, hw, hpl, hr, h⟩ := h
  replace h := Rt.mk h
  have pa := plain_ask hpl
  simp [T_without, astart, N_without]
  by_cases q : r.word = w
  · obtain ⟨a, ps, rfl⟩ := seq_of hr.1 hw q
    rw [Rdr.toD_seq]
    by_cases q2 : (a :: ps).length = 2
    · obtain ⟨b, rfl⟩ : ∃ b, ps = [b] := by
        match ps, q2 with
        | [b], _ => exact ⟨b, rfl⟩
      have ia := (hr.at_ (r := a) (by simp)).out.ask
      have ib := (hr.at_ (r := b) (by simp)).out.ask
      have ab := ask_two (in_any hr (.inl rfl))
      unfold otherR at h
      simp [fInD, see_r, memD, pa, ab] at h ⊢
      by_cases q3 : deq a.toD pl.toD = true
      · simp [q3, ask_rr ia pa, see_r] at h ⊢; exact h
      · by_cases q4 : deq b.toD pl.toD = true
        · simp [q3, q4, ask_rr ia pa, see_r] at h ⊢; exact h
        · simp [q3, q4] at h ⊢; exact h
    · rw [other_no2 q2] at h
      have q3 : ((((ps.length : Int)) + 1) == 2) = false := by
        have : ¬ (((ps.length : Int)) + 1) = 2 := by simp at q2; omega
        simpa using this
      simp [q3]; exact h
  · rw [other_no q] at h
    obtain ⟨rest, e⟩ := r.toD_word
    rw [e]
    simp [neS q]; exact h
theorem p_law_other {ds : List D} {own : Own} {Q : D → Own → Prop} (h : S_other ds own Q) : T_law_other { nx := fun _ o => Rt Q .non o, rt := Rt Q } (astart N_law_other ds) own := by
  obtain ⟨w, pl, r, rfl, hw, hpl, hr, h⟩ := h
  replace h := Rt.mk h
  have pa := plain_ask hpl
  simp [T_law_other, astart, N_law_other]
  by_cases q : r.word = w
  · obtain ⟨a, ps, rfl⟩ := seq_of hr.1 hw q
    rw [Rdr.toD_seq]
    by_cases q2 : (a :: ps).length = 2
    · obtain ⟨b, rfl⟩ : ∃ b, ps = [b] := by
        match ps, q2 with
        | [b], _ => exact ⟨b, rfl⟩
      have ia := (hr.at_ (r := a) (by simp)).out.ask
      have ib := (hr.at_ (r := b) (by simp)).out.ask
      have ab := ask_two (in_any hr (.inl rfl))
      unfold otherR at h
      simp [fInD, see_r, memD, pa, ab] at h ⊢
      by_cases q3 : deq a.toD pl.toD = true
      · simp [q3, ask_rr ia pa, see_r] at h ⊢; exact h
      · by_cases q4 : deq b.toD pl.toD = true
        · simp [q3, q4, ask_rr ia pa, see_r] at h ⊢; exact h
        · simp [q3, q4] at h ⊢; exact h
    · rw [other_no2 q2] at h
      have q3 : ((((ps.length : Int)) + 1) == 2) = false := by
        have : ¬ (((ps.length : Int)) + 1) = 2 := by simp at q2; omega
        simpa using this
      simp [q3]; exact h
  · rw [other_no q] at h
    obtain ⟨rest, e⟩ := r.toD_word
    rw [e]
    simp [neS q]; exact h
theorem one_of {r : Rdr} {k : Nat} (ok : r.Ok k) {w : Str} (hw : w = "many" ∨ w = "maybe" ∨ w = "not") (e : r.word = w) : ∃ p, r = .one w p := by
  cases r with
  | leaf w' => rcases ok with rfl | rfl <;> rcases hw with rfl | rfl | rfl <;> simp [Rdr.word] at e
  | sg w' x => rcases ok.1 with rfl | rfl <;> rcases hw with rfl | rfl | rfl <;> simp [Rdr.word] at e
  | nm w' x => rcases ok.1 with rfl | rfl <;> rcases hw with rfl | rfl | rfl <;> simp [Rdr.word] at e
  | seq w' x => rcases ok.1 with rfl | rfl <;> rcases hw with rfl | rfl | rfl <;> simp [Rdr.word] at e
  | two w' l x => rcases ok.1 with rfl | rfl | rfl <;> rcases hw with rfl | rfl | rfl <;> simp [Rdr.word] at e
  | one w' p =>
    simp only [Rdr.word] at e
    subst e
    exact ⟨p, rfl⟩
theorem twice_no {r : Rdr} (h : ¬ r.word = "not") : twiceR r = none := by
  unfold twiceR
  split
  · rw [if_neg]; rintro ⟨rfl, _⟩; exact h rfl
  · rfl
theorem twice_no2 {p : Rdr} (h : ¬ p.word = "not") : twiceR (.one "not" p) = none := by
  unfold twiceR
  split
  · rename_i e
    injection e with e1 e2
    subst e2
    rw [if_neg]; rintro ⟨_, rfl⟩; exact h rfl
  · rfl
theorem maybe_no {r : Rdr} (h : ¬ r.word = "maybe") : maybeR r = none := by
  unfold maybeR
  split
  · rw [if_neg]; rintro rfl; exact h rfl
  · rfl
theorem many_no {r : Rdr} (h : ¬ r.word = "many") : manyR r = none := by
  unfold manyR
  split
  · rw [if_neg]; rintro rfl; exact h rfl
  · rfl
theorem same_no {r : Rdr} (h : ¬ r.word = "choice") : sameR r = none := by
  unfold sameR
  split
  · rw [if_neg]; rintro ⟨rfl, _⟩; exact h rfl
  · rfl
theorem same_no2 {w : Str} {ps : List Rdr} (h : ¬ ps.length = 2) : sameR (.seq w ps) = none := by
  unfold sameR
  split
  · rename_i e
    injection e with e1 e2
    subst e2
    exact absurd rfl h
  · rfl
theorem p_not_twice {ds : List D} {own : Own} {Q : D → Own → Prop} (h : S_one twiceR ds own Q) : T_not_twice { nx := fun _ o => Rt Q .non o, rt := Rt Q } (astart N_not_twice ds) own := by
  obtain ⟨r, rfl, hr, h⟩ := h
  replace h := Rt.mk h
  simp [T_not_twice, astart, N_not_twice]
  by_cases q : r.word = "not"
  · obtain ⟨p, rfl⟩ := one_of hr.1 (.inr (.inr rfl)) q
    rw [Rdr.toD_one]
    by_cases q2 : p.word = "not"
    · obtain ⟨p2, rfl⟩ := one_of hr.1.2 (.inr (.inr rfl)) q2
      unfold twiceR at h
      simp [optD, Rdr.toD_one] at h ⊢; exact h
    · rw [twice_no2 q2] at h
      obtain ⟨rest, e⟩ := p.toD_word
      rw [e]
      simp [neS q2]; exact h
  · rw [twice_no q] at h
    obtain ⟨rest, e⟩ := r.toD_word
    rw [e]
    simp [neS q]; exact h
theorem p_as_choice {ds : List D} {own : Own} {Q : D → Own → Prop} (h : S_one maybeR ds own Q) : T_as_choice { nx := fun _ o => Rt Q .non o, rt := Rt Q } (astart N_as_choice ds) own := by
  obtain ⟨r, rfl, hr, h⟩ := h
  replace h := Rt.mk h
  simp [T_as_choice, astart, N_as_choice]
  by_cases q : r.word = "maybe"
  · obtain ⟨p, rfl⟩ := one_of hr.1 (.inr (.inl rfl)) q
    unfold maybeR at h
    simp [optD, Rdr.toD_one, Rdr.toD_seq, nothing, Rdr.toD_leaf, d_NOTHING] at h ⊢; exact h
  · rw [maybe_no q] at h
    obtain ⟨rest, e⟩ := r.toD_word
    rw [e]
    simp [neS q]; exact h
theorem p_once_more {ds : List D} {own : Own} {Q : D → Own → Prop} (h : S_one manyR ds own Q) : T_once_more { nx := fun _ o => Rt Q .non o, rt := Rt Q } (astart N_once_more ds) own := by
  obtain ⟨r, rfl, hr, h⟩ := h
  replace h := Rt.mk h
  simp [T_once_more, astart, N_once_more]
  by_cases q : r.word = "many"
  · obtain ⟨p, rfl⟩ := one_of hr.1 (.inl rfl) q
    unfold manyR at h
    simp [optD, Rdr.toD_one, Rdr.toD_seq, nothing, Rdr.toD_leaf, d_NOTHING] at h ⊢; exact h
  · rw [many_no q] at h
    obtain ⟨rest, e⟩ := r.toD_word
    rw [e]
    simp [neS q]; exact h
theorem p_alike {ds : List D} {own : Own} {Q : D → Own → Prop} (h : S_one sameR ds own Q) : T_alike { nx := fun _ o => Rt Q .non o, rt := Rt Q } (astart N_alike ds) own := by
  obtain ⟨r, rfl, hr, h⟩ := h
  replace h := Rt.mk h
  simp [T_alike, astart, N_alike]
  by_cases q : r.word = "choice"
  · obtain ⟨a, ps, rfl⟩ := seq_of hr.1 (.inl rfl) q
    rw [Rdr.toD_seq]
    by_cases q2 : (a :: ps).length = 2
    · obtain ⟨b, rfl⟩ : ∃ b, ps = [b] := by
        match ps, q2 with
        | [b], _ => exact ⟨b, rfl⟩
      have ia := (hr.at_ (r := a) (by simp)).out.ask
      have ib := (hr.at_ (r := b) (by simp)).out.ask
      unfold sameR at h
      simp [see_r, ask_rr ia ib] at h ⊢
      by_cases q3 : deq a.toD b.toD = true
      · simp [q3] at h ⊢; exact h
      · simp [q3] at h ⊢; exact h
    · rw [same_no2 q2] at h
      have q3 : ((((ps.length : Int)) + 1) == 2) = false := by
        have : ¬ (((ps.length : Int)) + 1) = 2 := by simp at q2; omega
        simpa using this
      simp [q3]; exact h
  · rw [same_no q] at h
    obtain ⟨rest, e⟩ := r.toD_word
    rw [e]
    simp [neS q]; exact h

/-! ### by rule, turned, due -/
theorem In.p1 {w : Str} {p : Rdr} (h : In (.one w p)) : p.Ok 6 ∧ p.hgt ≤ 19 ∧ p.size ≤ 2499 := by
  obtain ⟨h1, h2, h3⟩ := h
  unfold Rdr.hgt at h2
  unfold Rdr.size at h3
  exact ⟨h1.2, by omega, by omega⟩
theorem oks_app {k : Nat} {a b : List Rdr} (h1 : Rdr.Oks k a) (h2 : Rdr.Oks k b) : Rdr.Oks k (a ++ b) := Rdr.oks_iff.mpr fun r hr => by
  rcases List.mem_append.mp hr with q | q
  · exact Rdr.oks_iff.mp h1 r q
  · exact Rdr.oks_iff.mp h2 r q
theorem sizes_app : ∀ {a b : List Rdr}, Rdr.sizes (a ++ b) = Rdr.sizes a + Rdr.sizes b
  | [], b => by simp [Rdr.sizes]
  | r :: a, b => by
    have := sizes_app (a := a) (b := b)
    simp only [List.cons_append, Rdr.sizes, this]; omega
theorem join_out {w : Str} {r r' : Rdr} (hr : In r) (h : joinR w r = some r') : Out r' := by
  unfold joinR at h
  split at h
  · rename_i w' w2 qs rest
    split at h
    · rename_i e
      cases h
      obtain ⟨rfl, rfl⟩ := e
      obtain ⟨h1, h2, h3⟩ := hr
      have o1 := h1.2.2.2.1
      have o2 := h1.2.2.2.2
      have l1 := h1.2.2.1
      have l2 := o1.2.2.1
      simp only [List.length_cons] at l1
      unfold Rdr.hgt Rdr.hgts Rdr.hgt at h2
      unfold Rdr.size Rdr.sizes Rdr.size at h3
      refine ⟨⟨h1.1, ?_, ?_, ?_⟩, ?_, ?_⟩
      · intro z
        have := List.append_eq_nil_iff.mp z
        exact o1.2.1 this.1
      · simp only [List.length_append]; omega
      · exact Rdr.Oks.mono (by decide) (oks_app o1.2.2.2 o2)
      · unfold Rdr.hgt
        have : Rdr.hgts (qs ++ rest) ≤ 20 := Rdr.hgts_le fun r hr => by
          rcases List.mem_append.mp hr with q | q
          · have := Rdr.le_hgts q; omega
          · have := Rdr.le_hgts q; omega
        omega
      · unfold Rdr.size
        rw [sizes_app]; omega
    · cases h
  · cases h
theorem other_out {w : Str} {pl r r' : Rdr} (hr : In r) (h : otherR w pl r = some r') : Out r' := by
  unfold otherR at h
  split at h
  · rename_i w' a b
    split at h
    · split at h
      · cases h; exact (hr.at_ (by simp)).out
      · cases h; exact (hr.at_ (by simp)).out
    · cases h
  · cases h
theorem same_out {r r' : Rdr} (hr : In r) (h : sameR r = some r') : Out r' := by
  unfold sameR at h
  split at h
  · split at h
    · cases h; exact (hr.at_ (by simp)).out
    · cases h
  · cases h
theorem twice_out {r r' : Rdr} (hr : In r) (h : twiceR r = some r') : Out r' := by
  unfold twiceR at h
  split at h
  · rename_i w w2 p
    split at h
    · cases h
      obtain ⟨h1, h2, h3⟩ := hr
      have o := h1.2.2
      unfold Rdr.hgt Rdr.hgt at h2
      unfold Rdr.size Rdr.size at h3
      exact ⟨⟨by simp, o.mono (by decide)⟩, by unfold Rdr.hgt; omega, by unfold Rdr.size; omega⟩
    · cases h
  · cases h
theorem maybe_out {r r' : Rdr} (hr : In r) (h : maybeR r = some r') : Out r' := by
  unfold maybeR at h
  split at h
  · rename_i w p
    split at h
    · cases h
      obtain ⟨o, h2, h3⟩ := hr.p1
      exact ⟨⟨.inr rfl, by simp, by simp, o.mono (by decide), .inl rfl, trivial⟩, by simp only [Rdr.hgt, Rdr.hgts, nothing]; omega, by simp only [Rdr.size, Rdr.sizes, nothing]; omega⟩
    · cases h
  · cases h
theorem many_out {r r' : Rdr} (hr : In r) (h : manyR r = some r') : Out r' := by
  unfold manyR at h
  split at h
  · rename_i w p
    split at h
    · cases h
      obtain ⟨o, h2, h3⟩ := hr.p1
      have o' := o.mono (j := 40) (by decide)
      refine ⟨⟨.inr rfl, by simp, by simp, ⟨.inl rfl, by simp, by simp, o', ⟨hr.1.1, o'⟩, trivial⟩, .inl rfl, trivial⟩, ?_, ?_⟩
      · simp only [Rdr.hgt, Rdr.hgts, nothing]; omega
      · simp only [Rdr.size, Rdr.sizes, nothing]; omega
    · cases h
  · cases h
theorem rule_out {r r' : Rdr} {rule : Str} (hr : In r) (h : ruleR r rule = some r') : Out r' := by
  unfold ruleR at h
  split at h
  · exact join_out hr h
  split at h
  · exact other_out hr h
  split at h
  · exact other_out hr h
  split at h
  · exact twice_out hr h
  split at h
  · exact maybe_out hr h
  split at h
  · exact many_out hr h
  · exact same_out hr h
def Rule (x : Str) : Prop := x = "choice" ∨ x = "row" ∨ x = "nothing" ∨ x = "never" ∨ x = "twice" ∨ x = "maybe" ∨ x = "many" ∨ x = "same"
def S_rule : L3.Spec := fun ds own P => ∃ r rule, ds = [r.toD, .str rule] ∧ In r ∧ Rule rule ∧ P (optD (ruleR r rule)) own
def URule (S : L3.Spec) : Prop := ∀ (own : Own) (P : D → Own → Prop) (r : Rdr) (rule : Str), In r → Rule rule → P (optD (ruleR r rule)) own → S [r.toD, .str rule] own P
theorem uRule : URule S_rule := fun own P r w h1 h2 h3 => ⟨r, w, rfl, h1, h2, h3⟩
def turnR (r : Rdr) (rule : Str) : Option Rdr := (ruleR r rule).filter fun r => r.rd 8
def S_turn : L3.Spec := fun ds own P => ∃ r rule, ds = [r.toD, .str rule] ∧ In r ∧ Rule rule ∧ P (optD (turnR r rule)) own
def UTurn (S : L3.Spec) : Prop := ∀ (own : Own) (P : D → Own → Prop) (r : Rdr) (rule : Str), In r → Rule rule → P (optD (turnR r rule)) own → S [r.toD, .str rule] own P
theorem uTurn : UTurn S_turn := fun own P r w h1 h2 h3 => ⟨r, w, rfl, h1, h2, h3⟩
theorem p_by_rule {S_j S_o S_t S_m S_y S_s : L3.Spec} {a1 a2 a3 a4 : Addr} (hj : UJoin S_j) (ho : UOther S_o) (ht : UOne twiceR S_t) (hm : UOne maybeR S_m) (hy : UOne manyR S_y) (hs : UOne sameR S_s) {ds : List D} {own : Own} {Q : D → Own → Prop} (h : S_rule ds own Q) :
    T_by_rule S_j S_o S_t S_m S_y S_s a1 a2 a3 a4 { nx := fun _ o => Rt Q .non o, rt := Rt Q } (astart N_by_rule ds) own := by
  obtain ⟨r, rule, rfl, hr, hrule, h⟩ := h
  replace h := Rt.mk h
  have dn : d_NOTHING = nothing.toD := by unfold nothing; rw [Rdr.toD_leaf]; rfl
  have dv : d_NEVER = never.toD := by unfold never; rw [Rdr.toD_leaf]; rfl
  unfold ruleR at h
  rcases hrule with rfl | rfl | rfl | rfl | rfl | rfl | rfl | rfl <;> simp [T_by_rule, astart, N_by_rule, fIxKV, lookKV] at h ⊢
  · exact hj _ _ _ r (.inl rfl) hr h
  · exact hj _ _ _ r (.inr rfl) hr h
  · rw [dn]; exact ho _ _ _ _ r (.inr rfl) (.inl rfl) hr h
  · rw [dv]; exact ho _ _ _ _ r (.inl rfl) (.inr rfl) hr h
  · exact .inl (ht _ _ r hr h)
  · exact ⟨_, .inr (.inl rfl), hm _ _ r hr h⟩
  · exact ⟨_, .inr (.inr (.inl rfl)), hy _ _ r hr h⟩
  · exact ⟨_, .inr (.inr (.inr rfl)), hs _ _ r hr h⟩
theorem p_turned {S_b S_r : L3.Spec} (hb : URule S_b) (hrd : UReader S_r) {ds : List D} {own : Own} {Q : D → Own → Prop} (h : S_turn ds own Q) : T_turned S_b S_r { nx := fun _ o => Rt Q .non o, rt := Rt Q } (astart N_turned ds) own := by
  obtain ⟨r, rule, rfl, hr, hrule, h⟩ := h
  replace h := Rt.mk h
  simp [T_turned, astart, N_turned]
  refine hb _ _ r rule hr hrule ?_
  unfold turnR at h
  cases e : ruleR r rule with
  | none => rw [e] at h; simp [optD] at h ⊢; exact h
  | some r' =>
    rw [e] at h
    have ho := rule_out hr e
    obtain ⟨xs, ex⟩ := r_tup r'
    simp only [optD]
    have is : ∀ Q : D → Prop, fIsN true own r'.toD .non Q = Q (.bl true) := fun Q => by rw [ex]; simp
    simp [is]
    refine hrd _ _ r' ho.big ?_
    by_cases q : r'.rd 8 = true
    · simp [q, Option.filter, optD] at h ⊢; exact h
    · simp [q, Option.filter, optD] at h ⊢; exact h
theorem p_law_due {S_j S_o : L3.Spec} (hj : UJoin S_j) (ho : UOther S_o) {ds : List D} {own : Own} {Q : D → Own → Prop} (h : S_rule ds own Q) : T_law_due S_j S_o { nx := fun _ o => Rt Q .non o, rt := Rt Q } (astart N_law_due ds) own := by
  obtain ⟨r, rule, rfl, hr, hrule, h⟩ := h
  replace h := Rt.mk h
  have dn : D.tup [.str "nothing"] = nothing.toD := by unfold nothing; rw [Rdr.toD_leaf]
  have dv : D.tup [.str "never"] = never.toD := by unfold never; rw [Rdr.toD_leaf]
  unfold ruleR at h
  rcases hrule with rfl | rfl | rfl | rfl | rfl | rfl | rfl | rfl <;> simp [T_law_due, astart, N_law_due] at h ⊢
  · exact hj _ _ _ r (.inl rfl) hr h
  · exact hj _ _ _ r (.inr rfl) hr h
  · rw [dn]; exact ho _ _ _ _ r (.inr rfl) (.inl rfl) hr h
  · rw [dv]; exact ho _ _ _ _ r (.inl rfl) (.inr rfl) hr h
  · by_cases q : r.word = "not"
    · obtain ⟨p, rfl⟩ := one_of hr.1 (.inr (.inr rfl)) q
      rw [Rdr.toD_one]
      by_cases q2 : p.word = "not"
      · obtain ⟨p2, rfl⟩ := one_of hr.1.2 (.inr (.inr rfl)) q2
        unfold twiceR at h
        simp [optD, Rdr.toD_one] at h ⊢; exact h
      · rw [twice_no2 q2] at h
        obtain ⟨rest, e⟩ := p.toD_word
        rw [e]
        simp [neS q2]; exact h
    · rw [twice_no q] at h
      obtain ⟨rest, e⟩ := r.toD_word
      rw [e]
      simp [neS q]; exact h
  · by_cases q : r.word = "maybe"
    · obtain ⟨p, rfl⟩ := one_of hr.1 (.inr (.inl rfl)) q
      unfold maybeR at h
      simp [optD, Rdr.toD_one, Rdr.toD_seq, nothing, Rdr.toD_leaf] at h ⊢; exact h
    · rw [maybe_no q] at h
      obtain ⟨rest, e⟩ := r.toD_word
      rw [e]
      simp [neS q]; exact h
  · by_cases q : r.word = "many"
    · obtain ⟨p, rfl⟩ := one_of hr.1 (.inl rfl) q
      unfold manyR at h
      simp [optD, Rdr.toD_one, Rdr.toD_seq, nothing, Rdr.toD_leaf] at h ⊢; exact h
    · rw [many_no q] at h
      obtain ⟨rest, e⟩ := r.toD_word
      rw [e]
      simp [neS q]; exact h
  · by_cases q : r.word = "choice"
    · obtain ⟨a, ps, rfl⟩ := seq_of hr.1 (.inl rfl) q
      rw [Rdr.toD_seq]
      by_cases q2 : (a :: ps).length = 2
      · obtain ⟨b, rfl⟩ : ∃ b, ps = [b] := by
          match ps, q2 with
          | [b], _ => exact ⟨b, rfl⟩
        have ia := (hr.at_ (r := a) (by simp)).out.ask
        have ib := (hr.at_ (r := b) (by simp)).out.ask
        unfold sameR at h
        simp [see_r, ask_rr ia ib] at h ⊢
        by_cases q3 : deq a.toD b.toD = true
        · simp [q3] at h ⊢; exact h
        · simp [q3] at h ⊢; exact h
      · rw [same_no2 q2] at h
        have q3 : ((((ps.length : Int)) + 1) == 2) = false := by
          have : ¬ (((ps.length : Int)) + 1) = 2 := by simp at q2; omega
          simpa using this
        simp [q3]; exact h
    · rw [same_no q] at h
      obtain ⟨rest, e⟩ := r.toD_word
      rw [e]
      simp [neS q]; exact h
/-! ### right -/
theorem turn_out {r r' : Rdr} {rule : Str} (hr : In r) (h : turnR r rule = some r') : Out r' := by
  unfold turnR at h
  exact rule_out hr (Option.mem_filter_iff.mp h).1
def fine (o : Option Rdr) : Prop := ∀ r, o = some r → Out r
theorem x_reprO {own : Own} {o : Option Rdr} (h : fine o) {P : D → Prop} : gRepr (see own (optD o)) P = P (.str (reprD (optD o))) := by
  cases o with
  | none => simp [optD]
  | some r =>
    obtain ⟨xs, ex⟩ := r_tup r
    have hr := (h r rfl).repr
    simp only [optD]
    rw [ex] at hr ⊢
    simp [hr]
theorem x_reprI {own : Own} {r : Rdr} (h : In r) {P : D → Prop} : gRepr (see own r.toD) P = P (.str (reprD r.toD)) := x_reprO (o := some r) (fun r' e => by cases e; exact h.out)
def S_right : L3.Spec := fun ds own P => ∃ r, ds = [r.toD] ∧ In r ∧ P (.bl true) own
def URight (S : L3.Spec) : Prop := ∀ (own : Own) (P : D → Own → Prop) (r : Rdr), In r → P (.bl true) own → S [r.toD] own P
theorem uRight : URight S_right := fun own P r h1 h2 => ⟨r, rfl, h1, h2⟩
def r_two (S_t : L3.Spec) : ATS := aIfS (aB (aBin (fEq true) (aFn (f1 gRepr) (aCons (aCall S_t [] (aCons (aV 0) (aCons (aV 2) aNil))) aNil)) (aFn (f1 gRepr) (aCons (aV 3) aNil)))) (aRet (aC (.bl false))) aNext
def r_end (S_t : L3.Spec) : ATS := aIfS (aOr (aB (aBin (fEq true) (aFn (f1 gRepr) (aCons (aCallP S_t 0 2 [] [1, 0] aNil (aCons (aV 2) (aCons (aV 0) aNil))) aNil)) (aFn (f1 gRepr) (aCons (aV 3) aNil)))) (aB (aBin (fEq true) (aFn (f1 gRepr) (aCons (aV 0) aNil)) (aV 1)))) (aRet (aC (.bl false))) aNext
def r_body (S_d S_r S_t : L3.Spec) : ATS := aSeq (aAsg (aCall S_d [] (aCons (aV 0) (aCons (aV 2) aNil))) (gN 3))
  (aSeq (aIfS (aAnd (aB (aBin (fIsN true) (aV 3) (aC .non))) (aNot (aTru (aCall S_r [] (aCons (aV 3) aNil))))) (aAsg (aC .non) (gN 3)) aNext)
  (aSeq (aFor (aRng1 (aCons (aC (.int 2)) aNil)) (gN 4) (r_two S_t)) (r_end S_t)))
theorem two {S_t : L3.Spec} (ht : UTurn S_t) {own : Own} {r : Rdr} (hr : In r) {x : Str} (hx : Rule x) {E' : AEnds} {e1 : Option D} (hE' : ∀ e4, E'.nx [some r.toD, e1, some (.str x), some (optD (turnR r x)), e4] own) :
    ∀ (l : List D) (e4 : Option D), aTurns (gN 4) (r_two S_t) (fun _ => True) E' l [some r.toD, e1, some (.str x), some (optD (turnR r x)), e4] own
  | [], _ => ⟨trivial, hE' _⟩
  | d :: l, e4 => by
    rw [x_turC]
    refine ⟨trivial, ?_⟩
    unfold r_two
    simp
    refine ht _ _ r x hr hx ?_
    have hf : fine (turnR r x) := fun r' e => turn_out hr e
    simp only [x_reprO hf]
    simp
    exact two ht hr hx hE' l _
theorem fin {S_t : L3.Spec} (ht : UTurn S_t) {own : Own} {r : Rdr} (hr : In r) {x : Str} (hx : Rule x) {E' : AEnds} (_ : True = True) (hE' : ∀ e4, E'.nx [some r.toD, some (.str (reprD r.toD)), some (.str x), some (optD (turnR r x)), e4] own) (l : List D) (e4 : Option D) :
    aTurns (gN 4) (r_two S_t) (fun _ => True) { E' with nx := r_end S_t E' } l [some r.toD, some (.str (reprD r.toD)), some (.str x), some (optD (turnR r x)), e4] own := by
  refine two ht hr hx (fun e4 => ?_) l e4
  have hf : fine (turnR r x) := fun r' e => turn_out hr e
  unfold r_end
  simp [arr]
  refine ht _ _ r x hr hx ?_
  simp only [x_reprO hf, x_reprI hr]
  simp [x_reprI hr]
  exact hE' _
theorem go {S_d S_r S_t : L3.Spec} (hd : URule S_d) (hrd : UReader S_r) (ht : UTurn S_t) {own : Own} {r : Rdr} (hr : In r) {E : AEnds} (hE : ∀ env, E.nx env own) : ∀ (l : List Str) (e2 e3 e4 : Option D), (∀ x ∈ l, Rule x) →
    aTurns (gN 2) (r_body S_d S_r S_t) (fun _ => True) E (l.map .str) [some r.toD, some (.str (reprD r.toD)), e2, e3, e4] own
  | [], _, _, _, _ => ⟨trivial, hE _⟩
  | x :: l, e2, e3, e4, hl => by
    have hx := hl x (by simp)
    have ih := fun e2 e3 e4 => go hd hrd ht hr hE l e2 e3 e4 fun y hy => hl y (by simp [hy])
    rw [List.map_cons, x_turC]
    refine ⟨trivial, ?_⟩
    unfold r_body
    simp
    refine hd _ _ r x hr hx ?_
    cases e : ruleR r x with
    | none =>
      have et : turnR r x = none := by unfold turnR; rw [e]; rfl
      simp [optD]
      have := fin ht (own := own) hr hx (E' := { nx := aTurns (gN 2) (r_body S_d S_r S_t) (fun _ => True) E (l.map .str), rt := E.rt, bk := E.nx, ct := aTurns (gN 2) (r_body S_d S_r S_t) (fun _ => True) E (l.map .str) }) rfl (fun e4 => ih _ _ _) (rng 0 2) e4
      rw [et] at this
      exact this
    | some r' =>
      have ho := rule_out hr e
      obtain ⟨xs, ex⟩ := r_tup r'
      have is : ∀ Q : D → Prop, fIsN true own r'.toD .non Q = Q (.bl true) := fun Q => by rw [ex]; simp
      simp [optD, is]
      refine hrd _ _ r' ho.big ?_
      by_cases q : r'.rd 8 = true
      · have et : turnR r x = some r' := by unfold turnR; rw [e]; simp [Option.filter, q]
        simp [q]
        have := fin ht (own := own) hr hx (E' := { nx := aTurns (gN 2) (r_body S_d S_r S_t) (fun _ => True) E (l.map .str), rt := E.rt, bk := E.nx, ct := aTurns (gN 2) (r_body S_d S_r S_t) (fun _ => True) E (l.map .str) }) rfl (fun e4 => ih _ _ _) (rng 0 2) e4
        rw [et] at this
        exact this
      · have et : turnR r x = none := by unfold turnR; rw [e]; simp [Option.filter, q]
        simp [q]
        have := fin ht (own := own) hr hx (E' := { nx := aTurns (gN 2) (r_body S_d S_r S_t) (fun _ => True) E (l.map .str), rt := E.rt, bk := E.nx, ct := aTurns (gN 2) (r_body S_d S_r S_t) (fun _ => True) E (l.map .str) }) rfl (fun e4 => ih _ _ _) (rng 0 2) e4
        rw [et] at this
        exact this
theorem p_right {S_d S_r S_t : L3.Spec} (hd : URule S_d) (hrd : UReader S_r) (ht : UTurn S_t) {ds : List D} {own : Own} {Q : D → Own → Prop} (h : S_right ds own Q) : T_law_right S_d S_r S_t { nx := fun _ o => Rt Q .non o, rt := Rt Q } (astart N_law_right ds) own := by
  obtain ⟨r, rfl, hr, h⟩ := h
  replace h := Rt.mk h
  simp [T_law_right, astart, N_law_right, x_reprI hr]
  generalize hE : AEnds.mk (aRet (aC (.bl true)) _) _ _ _ = E
  have hEn : ∀ env, E.nx env own := fun env => by subst hE; simp; exact h
  clear hE
  exact go hd hrd ht hr hEn ["choice", "row", "nothing", "never", "twice", "maybe", "many", "same"] none none none (by unfold Rule; simp)

/-! ### what is drawn: names, leaves -/
theorem strOk_all {x : Str} : PyData.strOk x = x.cps.toList.all fun c => decide (c < 0x110000) := by unfold PyData.strOk; rw [Array.all_toList]
theorem strOk_mem {x : Str} : PyData.strOk x = true ↔ ∀ c ∈ x.cps.toList, c < 0x110000 := by rw [strOk_all, List.all_eq_true]; simp only [decide_eq_true_eq]
theorem strOk_app {x y : Str} (h1 : PyData.strOk x = true) (h2 : PyData.strOk y = true) : PyData.strOk (x ++ y) = true := by
  rw [strOk_mem] at *
  intro c hc
  rw [cs_app] at hc
  rcases List.mem_append.mp hc with q | q
  · exact h1 c q
  · exact h2 c q
theorem cutS_cs {x : Str} {lo hi : Option Int} : (cutS x lo hi).cps.toList = (x.cps.toList.drop (HT.sIx x.length 0 lo)).take (HT.sIx x.length x.length hi - HT.sIx x.length 0 lo) := by
  unfold cutS; simp
theorem strOk_cut {x : Str} (h : PyData.strOk x = true) {lo hi : Option Int} : PyData.strOk (cutS x lo hi) = true := by
  rw [strOk_mem] at *
  intro c hc
  rw [cutS_cs] at hc
  exact h c (List.mem_of_mem_drop (List.mem_of_mem_take hc))
theorem len_cut (x : Str) (k : Int) (h0 : 0 ≤ k) (h1 : k ≤ x.length) : (cutS x none (some k)).length + (cutS x (some k) none).length ≤ x.length := by
  have e1 : HT.sIx x.length x.length (some k) = k.toNat := by show (if k < 0 then (k + (x.length : Int)).toNat else min k.toNat x.length) = k.toNat; rw [if_neg (by omega)]; omega
  have e2 : HT.sIx x.length 0 (some k) = k.toNat := by show (if k < 0 then (k + (x.length : Int)).toNat else min k.toNat x.length) = k.toNat; rw [if_neg (by omega)]; omega
  have e3 : HT.sIx x.length 0 none = 0 := rfl
  have e4 : HT.sIx x.length x.length none = x.length := rfl
  rw [len_cs, len_cs (cutS x (some k) none), cutS_cs, cutS_cs, e1, e2, e3, e4]
  simp only [List.length_take, List.length_drop, ← len_cs]
  omega
def Tit (ls : List Str) : Prop := ls ≠ [] ∧ ls.length ≤ 8 ∧ ∀ l ∈ ls, Lab l
theorem sum_one : ∀ {l : List Str}, (∀ y ∈ l, y.length = 1 ∧ PyData.strOk y = true) → (l.map (·.length)).sum = l.length
  | [], _ => rfl
  | x :: l, h => by
    have := sum_one (l := l) fun y hy => h y (List.mem_cons_of_mem _ hy)
    simp only [List.map_cons, List.sum_cons, List.length_cons, this, (h x (List.mem_cons_self ..)).1]; omega
theorem join_ok : ∀ {l : List Str}, (∀ y ∈ l, y.length = 1 ∧ PyData.strOk y = true) → (Str.join Str.empty l).length = l.length ∧ PyData.strOk (Str.join Str.empty l) = true := by
  intro l h
  have e := join_emp l
  constructor
  · rw [len_cs, e, List.length_flatten, ← sum_one h, show (l.map (·.cps.toList)).map List.length = l.map (·.length) from by rw [List.map_map]; apply List.map_congr_left; intro a _; exact (len_cs a).symm]
  · rw [strOk_mem, e]
    simp only [List.mem_flatten, List.mem_map]
    rintro c ⟨_, ⟨y, hy, rfl⟩, hc⟩
    exact (strOk_mem.mp (h y hy).2) c hc
theorem rng_nat (n : Nat) : rng 0 n = (List.range' 0 n).map fun (i : Nat) => D.int (0 + (i : Int)) := by simp [rng, List.range_eq_range']
def alpha : Str := "abcdefghijklmnopqrstuvwxyz"
theorem alpha_len : alpha.length = 26 := by decide +kernel
theorem alpha_ok : PyData.strOk alpha = true := by decide +kernel
theorem one_ok {al : Str} (hb : PyData.strOk al = true) {c : Nat} (hm : c ∈ al.cps.toList) : (⟨#[c]⟩ : Str).length = 1 ∧ PyData.strOk ⟨#[c]⟩ = true := ⟨rfl, by
  rw [strOk_mem] at hb ⊢
  intro d hd; simp only [List.mem_singleton] at hd; subst hd; exact hb _ hm⟩
def S_names : L3.Spec := fun ds own P => ∃ (p : Addr) (pen : List D) (many : Int) (b : Nat), ds = [.ref p, .int many] ∧ own p = some (.lst pen) ∧ 1 ≤ many ∧ many ≤ 8 ∧ Pn (b + 20) pen ∧ ∀ ls pen', Tit ls → Pn b pen' → P (.lst (ls.map .str)) (oset own p (.lst pen'))
def UNames (S : L3.Spec) : Prop := ∀ (own : Own) (P : D → Own → Prop) (p : Addr) (pen : List D) (many : Int) (b : Nat), own p = some (.lst pen) → 1 ≤ many → many ≤ 8 → Pn (b + 20) pen → (∀ ls pen', Tit ls → Pn b pen' → P (.lst (ls.map .str)) (oset own p (.lst pen'))) → S [.ref p, .int many] own P
theorem uNames : UNames S_names := fun own P p pen many b h1 h2 h3 h4 h5 => ⟨p, pen, many, b, rfl, h1, h2, h3, h4, h5⟩
theorem lc_names {S_draw : L3.Spec} (hd : UDraw S_draw) {own : Own} {p : Addr} {e1 e3 e4 e5 e6 e7 : Option D} {P : List D → Own → Prop} : ∀ (n j : Nat) (acc : List Str) (pen : List D) (b : Nat), Pn (b + n) pen → (∀ y ∈ acc, y.length = 1 ∧ PyData.strOk y = true) →
    (∀ (l : List Str) pen', l.length = acc.length + n → (∀ y ∈ l, y.length = 1 ∧ PyData.strOk y = true) → Pn b pen' → P (l.map .str) (oset own p (.lst pen'))) →
    aLcL (gN 7) aYes (aBin fIx (aV 2) (aCall S_draw [] (aCons (aV 0) (aCons (aC (.int 26)) aNil)))) (fun _ => True) [some (.ref p), e1, some (.str alpha), e3, e4, e5, e6, e7] P ((List.range' j n).map fun (i : Nat) => D.int (0 + (i : Int))) (acc.map .str) (oset own p (.lst pen))
  | 0, j, acc, pen, b, hp, hc, h => ⟨trivial, h acc pen (by simp) hc hp⟩
  | n + 1, j, acc, pen, b, hp, hc, h => by
    rw [List.range'_succ, List.map_cons, x_lcC]
    refine ⟨trivial, ?_⟩
    simp
    refine hd _ _ _ _ _ (b + n) oset_same hp (by decide) (by decide) fun k pen' k0 k1 hp' => ?_
    simp [oset_oset, alpha_len]
    refine atA k0 (by rw [← len_cs, alpha_len]; exact k1) fun c hm => ?_
    have := lc_names hd (e1 := e1) (e3 := e3) (e4 := e4) (e5 := e5) (e6 := e6) (e7 := e7) (own := own) (p := p) (P := P) n (j + 1) (acc ++ [⟨#[c]⟩]) pen' b hp' (fun y hy => by rcases List.mem_append.mp hy with hy | hy; exact hc y hy; rw [List.mem_singleton.mp hy]; exact one_ok alpha_ok hm) (fun l pen2 hl => h l pen2 (by simp at hl ⊢; omega))
    simpa using this
/-- every item gives one of some sort, and nothing else happens -/
theorem lc_some {g : ATG} {te : ATE} {gd : Own → Prop} {env : AEnv} {P : List D → Own → Prop} {own : Own} (R : Str → Prop) (hg : gd own) : ∀ {l : List D} {acc : List Str}, (∀ d ∈ l, ∀ Q : D → Own → Prop, (∀ x, R x → Q (.str x) own) → g d env own fun env1 o1 => te env1 o1 Q) → (∀ x ∈ acc, R x) →
    (∀ ls : List Str, ls.length = acc.length + l.length → (∀ x ∈ ls, R x) → P (ls.map .str) own) → aLcL g aYes te gd env P l (acc.map .str) own
  | [], acc, _, ha, hp => ⟨hg, hp acc (by simp) ha⟩
  | d :: l, acc, hh, ha, hp => ⟨hg, hh d (List.mem_cons_self ..) _ fun x hx => by
      have := lc_some R hg (l := l) (acc := acc ++ [x]) (te := te) (P := P) (env := env) (g := g) (fun b hb => hh b (List.mem_cons_of_mem _ hb)) (fun y hy => by rcases List.mem_append.mp hy with q | q; exact ha y q; rw [List.mem_singleton.mp q]; exact hx) (fun ls hl => hp ls (by simp at hl ⊢; omega))
      simpa using this⟩
theorem p_names {S_draw : L3.Spec} (hd : UDraw S_draw) {ds : List D} {own : Own} {Q : D → Own → Prop} (h : S_names ds own Q) : T_law_names S_draw { nx := fun _ o => Rt Q .non o, rt := Rt Q } (astart N_law_names ds) own := by
  obtain ⟨p, pen, many, b, rfl, ho, m1, m8, hp, k⟩ := h
  have cm : ∀ {a : Nat} {i : Int}, a < 2 ^ 40 → 0 ≤ i → i < 1000 → CMulW (a : Int) i := fun h0 h1 h2 => Sm.cmul (.ofLt (by omega) (by omega) : Sm 40 _) (.ofLt h1 (by omega) : Sm 40 _)
  simp [T_law_names, astart, N_law_names]
  refine hd _ _ _ _ _ (b + 19) ho hp (by decide) (by decide) fun f pen1 a1 a2 hp1 => ?_
  try simp
  refine hd _ _ _ _ _ (b + 18) oset_same hp1 (by decide) (by decide) fun k2 pen2 b1 b2 hp2 => ?_
  simp [oset_oset]
  have mb : -4611686018427387904 ≤ many ∧ many ≤ 16777216 := by omega
  have tit : ∀ ls : List Str, ls.length = many.toNat → (∀ x ∈ ls, Lab x) → Tit ls := fun ls hl hx => ⟨by intro z; rw [z] at hl; simp at hl; omega, by omega, hx⟩
  have lr : (rng 0 many.toNat).length = many.toNat := by simp [rng]
  have inr : ∀ d ∈ rng 0 many.toNat, ∃ i : Nat, d = .int (i : Int) ∧ (i : Int) < 8 := fun d hd => by
    unfold rng at hd
    obtain ⟨i, hi, rfl⟩ := List.mem_map.mp hd
    rw [List.mem_range] at hi
    exact ⟨i, by simp, by omega⟩
  by_cases q : k2 = 0
  · simp [q, mb]
    refine lc_some Lab trivial (acc := []) (fun d hd' Q' hq => ?_) (by simp) (fun ls hl hx => Rt.mk (k ls pen2 (tit ls (by rw [hl, lr]; simp) hx) (hp2.mono (by omega))))
    obtain ⟨i, rfl, hi⟩ := inr d hd'
    have c1 : CMulW 3 (i : Int) := cm (a := 3) (by decide) (by omega) (by omega)
    simp [c1]
    refine atA (Int.emod_nonneg _ (by decide)) (by simpa using Int.emod_lt_of_pos _ (by decide)) fun d hm => ?_
    simp at hm
    rcases hm with rfl | rfl | rfl | rfl | rfl | rfl | rfl | rfl <;> exact hq _ ⟨by decide +kernel, by decide +kernel⟩
  · have q' : (k2 == 0) = false := by simpa using q
    simp only [q']
    try simp
    refine hd _ _ _ _ _ (b + 17) oset_same hp2 (by decide) (by decide) fun k3 pen3 c1 c2 hp3 => ?_
    simp [oset_oset]
    generalize hP : (fun (ds : List D) (o : Own) => fJoin o (D.str Str.empty) (D.lst ds) _) = PP
    have rest : ∀ n : Nat, n ≤ 7 → ∀ z : Int, z = n → (-4611686018427387904 ≤ z ∧ z ≤ 16777216) ∧ aLcL (gN 7) aYes (aBin fIx (aV 2) (aCall S_draw [] (aCons (aV 0) (aCons (aC (.int 26)) aNil)))) (fun _ => True) [some (.ref p), some (.int many), some (.str alpha), some (.lst [.str "row", .str "choice", .str "many", .str "name", .str "sign", .str "tag", .str "hold", .str "nothing"]), some (.int f), none, none, none] PP (rng 0 z.toNat) [] (oset own p (.lst pen3)) := by
      intro n hn z hz
      subst hz
      refine ⟨by omega, ?_⟩
      have e : rng 0 ((n : Int)).toNat = (List.range' 0 n).map fun (i : Nat) => D.int (0 + (i : Int)) := rng_nat n
      rw [e]
      refine lc_names hd (own := own) (p := p) n 0 [] pen3 (b + 10) (hp3.mono (by omega)) (by simp) (fun l pen' hl hok hp' => ?_)
      subst hP
      have hs := sum_one hok
      have hj := join_ok hok
      simp at hl
      show fJoin _ _ _ _
      rw [x_join]
      refine ⟨by rw [hs]; simp; omega, ?_⟩
      generalize hbase : Str.join Str.empty l = base at hj
      simp
      have bl : base.length ≤ 16777216 := by omega
      refine ⟨bl, ?_⟩
      refine hd _ _ _ _ _ (b + 9) oset_same hp' (by omega) (by omega) fun k4 pen4 d1 d2 hp4 => ?_
      simp [oset_oset, mb]
      refine lc_some Lab trivial (acc := []) (fun d hd' Q' hq => ?_) (by simp) (fun ls hl hx => Rt.mk (k ls pen4 (tit ls (by rw [hl, lr]; simp) hx) (hp4.mono (by omega))))
      obtain ⟨i, rfl, hi⟩ := inr d hd'
      have c1 : CMulW 11 (i : Int) := cm (a := 11) (by decide) (by omega) (by omega)
      have lc := len_cut base k4 d1 (by omega)
      have al : (Str.ofString "abcdefghijklmnopqrstuvwxyz").length ≤ 16777216 := by decide +kernel
      simp [c1, bl, al]
      refine atA (Int.emod_nonneg _ (by decide)) (by rw [← len_cs]; have : (Str.ofString "abcdefghijklmnopqrstuvwxyz").length = 26 := by decide +kernel
                                                     rw [this]; exact Int.emod_lt_of_pos _ (by decide)) fun c hm => ?_
      have o1 := one_ok alpha_ok hm
      simp [o1.1]
      exact ⟨by omega, by omega, hq _ ⟨by simp [o1.1]; omega, strOk_app (strOk_cut hj.2) (strOk_app o1.2 (strOk_cut hj.2))⟩⟩
    exact at3 c1 c2 (rest 0 (by decide) _ rfl) (rest 2 (by decide) _ rfl) (rest 7 (by decide) _ rfl)

/-! ### readers drawn -/
def Lat (la : List Str) : Prop := la.length ≤ 8 ∧ ∀ l ∈ la, Lab l
def S_leaf : L3.Spec := fun ds own P => ∃ (p : Addr) (pen : List D) (b : Nat), ds = [.ref p] ∧ own p = some (.lst pen) ∧ Pn (b + 2) pen ∧ ∀ (r : Rdr) pen', r.Ok 6 → r.size = 1 → r.hgt = 1 → Pn b pen' → P r.toD (oset own p (.lst pen'))
def ULeaf (S : L3.Spec) : Prop := ∀ (own : Own) (P : D → Own → Prop) (p : Addr) (pen : List D) (b : Nat), own p = some (.lst pen) → Pn (b + 2) pen → (∀ (r : Rdr) pen', r.Ok 6 → r.size = 1 → r.hgt = 1 → Pn b pen' → P r.toD (oset own p (.lst pen'))) → S [.ref p] own P
theorem uLeaf : ULeaf S_leaf := fun own P p pen b h1 h2 h3 => ⟨p, pen, b, rfl, h1, h2, h3⟩
theorem p_leaf {S_draw : L3.Spec} (hd : UDraw S_draw) {ds : List D} {own : Own} {Q : D → Own → Prop} (h : S_leaf ds own Q) : T_law_leaf S_draw { nx := fun _ o => Rt Q .non o, rt := Rt Q } (astart N_law_leaf ds) own := by
  obtain ⟨p, pen, b, rfl, ho, hp, k⟩ := h
  simp [T_law_leaf, astart, N_law_leaf]
  refine hd _ _ _ _ _ (b + 1) ho hp (by decide) (by decide) fun k1 pen1 a1 a2 hp1 => ?_
  try simp
  refine atA a1 (by simpa using a2) fun d hm => ?_
  have hs : ∃ x : Str, d = .str x ∧ x.length ≤ 30 ∧ PyData.strOk x = true := by
    simp at hm
    rcases hm with rfl | rfl | rfl | rfl | rfl | rfl | rfl | rfl <;> exact ⟨_, rfl, by decide +kernel, by decide +kernel⟩
  obtain ⟨x, rfl, x1, x2⟩ := hs
  try simp
  refine hd _ _ _ _ _ b oset_same hp1 (by decide) (by decide) fun k2 pen2 b1 b2 hp2 => ?_
  simp [oset_oset]
  have mk : ∀ w : Str, (w = "sign" ∨ w = "but") → Rt Q (.tup [.str w, .str x]) (oset own p (.lst pen2)) := fun w hw => by
    rw [← Rdr.toD_sg]
    exact Rt.mk (k (.sg w x) pen2 ⟨hw, x1, x2⟩ (by unfold Rdr.size; rfl) (by unfold Rdr.hgt; rfl) hp2)
  exact at4 b1 b2 (mk _ (.inl rfl)) (mk _ (.inl rfl)) (mk _ (.inl rfl)) (mk _ (.inr rfl))
/-- how many draws, how great -/
def cg0 : Nat → Nat
  | 0 => 0
  | n + 1 => 100 + 10 * cg0 n
@[irreducible] def cg (n : Nat) : Nat := cg0 n
theorem cg_s (n : Nat) : cg (n + 1) = 100 + 10 * cg n := by unfold cg; rfl
def az0 : Nat → Nat
  | 0 => 1
  | n + 1 => 4 * az0 n + 4
@[irreducible] def az (n : Nat) : Nat := az0 n
theorem az_s (n : Nat) : az (n + 1) = 4 * az n + 4 := by unfold az; rfl
theorem az_pos (n : Nat) : 1 ≤ az n := by
  cases n with
  | zero => unfold az; decide
  | succ n => rw [az_s]; omega
def Rg (n : Nat) (r : Rdr) : Prop := r.Ok 6 ∧ r.size ≤ az n ∧ r.hgt ≤ 1 + 3 * n
theorem Rg.leaf {r : Rdr} {n : Nat} (h1 : r.Ok 6) (h2 : r.size = 1) (h3 : r.hgt = 1) : Rg n r := ⟨h1, by have := az_pos n; omega, by omega⟩
def Rt2 (n : Nat) (r : Rdr) : Prop := r.Ok 6 ∧ r.size ≤ 2 * az n + 2 ∧ r.hgt ≤ 2 + 3 * n
def GArgs (p : Addr) (ls la : List Str) (deep room : Int) : List D := [.ref p, .lst (ls.map .str), .lst (la.map .str), .int deep, .int room]
def S_part (n : Nat) : L3.Spec := fun ds own P => ∃ (p : Addr) (pen : List D) (ls la : List Str) (deep room : Int) (b : Nat), ds = GArgs p ls la deep room ∧ own p = some (.lst pen) ∧ Tit ls ∧ Lat la ∧ 1 ≤ deep ∧ deep ≤ n ∧ Pn (b + cg n) pen ∧ ∀ (r : Rdr) pen', Rg n r → Pn b pen' → P r.toD (oset own p (.lst pen'))
def UPart (n : Nat) (S : L3.Spec) : Prop := ∀ (own : Own) (P : D → Own → Prop) (p : Addr) (pen : List D) (ls la : List Str) (deep room : Int) (b : Nat), own p = some (.lst pen) → Tit ls → Lat la → 1 ≤ deep → deep ≤ n → Pn (b + cg n) pen → (∀ (r : Rdr) pen', Rg n r → Pn b pen' → P r.toD (oset own p (.lst pen'))) → S (GArgs p ls la deep room) own P
theorem uPart (n : Nat) : UPart n (S_part n) := fun own P p pen ls la deep room b h1 h2 h3 h4 h5 h6 h7 => ⟨p, pen, ls, la, deep, room, b, rfl, h1, h2, h3, h4, h5, h6, h7⟩
def S_taking (n : Nat) : L3.Spec := fun ds own P => ∃ (p : Addr) (pen : List D) (ls la : List Str) (deep room : Int) (b : Nat), ds = GArgs p ls la deep room ∧ own p = some (.lst pen) ∧ Tit ls ∧ Lat la ∧ deep ≤ n + 1 ∧ Pn (b + (10 + 2 * cg n)) pen ∧ ∀ (r : Rdr) pen', Rt2 n r → Pn b pen' → P r.toD (oset own p (.lst pen'))
def UTaking (n : Nat) (S : L3.Spec) : Prop := ∀ (own : Own) (P : D → Own → Prop) (p : Addr) (pen : List D) (ls la : List Str) (deep room : Int) (b : Nat), own p = some (.lst pen) → Tit ls → Lat la → deep ≤ n + 1 → Pn (b + (10 + 2 * cg n)) pen → (∀ (r : Rdr) pen', Rt2 n r → Pn b pen' → P r.toD (oset own p (.lst pen'))) → S (GArgs p ls la deep room) own P
theorem uTaking (n : Nat) : UTaking n (S_taking n) := fun own P p pen ls la deep room b h1 h2 h3 h5 h6 h7 => ⟨p, pen, ls, la, deep, room, b, rfl, h1, h2, h3, h5, h6, h7⟩
def S_some (n : Nat) : L3.Spec := fun ds own P => ∃ (p : Addr) (pen : List D) (ls la : List Str) (deep room : Int) (many b : Nat), ds = GArgs p ls la deep room ++ [.int many] ∧ own p = some (.lst pen) ∧ Tit ls ∧ Lat la ∧ 2 ≤ deep ∧ deep ≤ n + 1 ∧ 1 ≤ many ∧ many ≤ 3 ∧ Pn (b + many * cg n) pen ∧ ∀ (l : List Rdr) pen', l.length = many → (∀ r ∈ l, Rg n r) → Pn b pen' → P (.tup (l.map Rdr.toD)) (oset own p (.lst pen'))
def USome (n : Nat) (S : L3.Spec) : Prop := ∀ (own : Own) (P : D → Own → Prop) (p : Addr) (pen : List D) (ls la : List Str) (deep room : Int) (many b : Nat), own p = some (.lst pen) → Tit ls → Lat la → 2 ≤ deep → deep ≤ n + 1 → 1 ≤ many → many ≤ 3 → Pn (b + many * cg n) pen → (∀ (l : List Rdr) pen', l.length = many → (∀ r ∈ l, Rg n r) → Pn b pen' → P (.tup (l.map Rdr.toD)) (oset own p (.lst pen'))) → S (GArgs p ls la deep room ++ [.int many]) own P
theorem uSome (n : Nat) : USome n (S_some n) := fun own P p pen ls la deep room many b h1 h2 h3 h4 h5 h6 h7 h8 h9 => ⟨p, pen, ls, la, deep, room, many, b, rfl, h1, h2, h3, h4, h5, h6, h7, h8, h9⟩
def S_form (n : Nat) : L3.Spec := fun ds own P => ∃ (p : Addr) (pen : List D) (ls la : List Str) (deep room : Int) (b : Nat), ds = GArgs p ls la deep room ∧ own p = some (.lst pen) ∧ Tit ls ∧ Lat la ∧ 2 ≤ deep ∧ deep ≤ n + 1 ∧ Pn (b + (20 + 4 * cg n)) pen ∧ ∀ (r : Rdr) pen', Rg (n + 1) r → Pn b pen' → P r.toD (oset own p (.lst pen'))
def UForm (n : Nat) (S : L3.Spec) : Prop := ∀ (own : Own) (P : D → Own → Prop) (p : Addr) (pen : List D) (ls la : List Str) (deep room : Int) (b : Nat), own p = some (.lst pen) → Tit ls → Lat la → 2 ≤ deep → deep ≤ n + 1 → Pn (b + (20 + 4 * cg n)) pen → (∀ (r : Rdr) pen', Rg (n + 1) r → Pn b pen' → P r.toD (oset own p (.lst pen'))) → S (GArgs p ls la deep room) own P
theorem uForm (n : Nat) : UForm n (S_form n) := fun own P p pen ls la deep room b h1 h2 h3 h4 h5 h6 h7 => ⟨p, pen, ls, la, deep, room, b, rfl, h1, h2, h3, h4, h5, h6, h7⟩
/-- so many readers -/
theorem lc_part {n : Nat} {S : L3.Spec} (hs : UPart n S) {own : Own} {p : Addr} {ls la : List Str} {deep room : Int} {many : Nat} {e6 : Option D} (hl : Tit ls) (ha : Lat la) (d1 : 1 ≤ deep - 1) (d2 : deep - 1 ≤ n) (hm : CDivW (room - 1) many) {P : List D → Own → Prop} : ∀ (c j : Nat) (acc : List Rdr) (pen : List D) (b : Nat), Pn (b + c * cg n) pen → (∀ r ∈ acc, Rg n r) →
    (∀ (l : List Rdr) pen', l.length = acc.length + c → (∀ r ∈ l, Rg n r) → Pn b pen' → P (l.map Rdr.toD) (oset own p (.lst pen'))) →
    aLcL (gN 6) aYes (aCall S [] (aCons (aV 0) (aCons (aV 1) (aCons (aV 2) (aCons (aBin fSub (aV 3) (aC (.int 1))) (aCons (aBin fDiv (aBin fSub (aV 4) (aC (.int 1))) (aV 5)) aNil)))))) (fun _ => True) [some (.ref p), some (.lst (ls.map .str)), some (.lst (la.map .str)), some (.int deep), some (.int room), some (.int many), e6] P ((List.range' j c).map fun (i : Nat) => D.int (0 + (i : Int))) (acc.map Rdr.toD) (oset own p (.lst pen))
  | 0, j, acc, pen, b, hp, hc, h => ⟨trivial, h acc pen (by simp) hc (hp.mono (by omega))⟩
  | c + 1, j, acc, pen, b, hp, hc, h => by
    rw [List.range'_succ, List.map_cons, x_lcC]
    refine ⟨trivial, ?_⟩
    simp [C0, hm]
    refine hs _ _ p pen ls la (deep - 1) ((room - 1) / many) (b + c * cg n) oset_same hl ha d1 d2 (by rw [Nat.add_mul, Nat.one_mul, ← Nat.add_assoc] at hp; exact hp) fun r pen' hr hp' => ?_
    have := lc_part hs (e6 := e6) (own := own) (p := p) hl ha d1 d2 hm (P := P) c (j + 1) (acc ++ [r]) pen' b hp' (fun s hs => by rcases List.mem_append.mp hs with hs | hs; exact hc s hs; rw [List.mem_singleton.mp hs]; exact hr) (fun l pen2 hl => h l pen2 (by simp at hl ⊢; omega))
    simpa [oset_oset] using this
theorem p_some {n : Nat} {S : L3.Spec} (hs : UPart n S) {ds : List D} {own : Own} {Q : D → Own → Prop} (h : S_some n ds own Q) : T_law_some S { nx := fun _ o => Rt Q .non o, rt := Rt Q } (astart N_law_some ds) own := by
  obtain ⟨p, pen, ls, la, deep, room, many, b, rfl, ho, hl, ha, d1, d2, m1, m3, hp, k⟩ := h
  have hm : CDivW (room - 1) (many : Int) := ⟨by omega, by
    have : (many : Int).natAbs = many := by simp
    rw [this]
    have h : many.log2 ≤ many := Nat.log2_le_self many
    omega⟩
  simp [T_law_some, astart, N_law_some, GArgs]
  refine ⟨by omega, ?_⟩
  have e : rng 0 many = (List.range' 0 many).map fun (i : Nat) => D.int (0 + (i : Int)) := rng_nat many
  rw [e]
  have := lc_part hs (e6 := none) (own := own) (p := p) hl ha (by omega : 1 ≤ deep - 1) (by omega) hm (P := fun ds o => Rt Q (.tup ds) o) many 0 [] pen b hp (by simp) (fun l pen' hl' hr hp' => Rt.mk (k l pen' (by simpa using hl') hr hp'))
  have e0 : oset own p (.lst pen) = own := by
    funext a; unfold oset
    by_cases h1 : a = p
    · rw [if_pos h1, h1, ho]
    · rw [if_neg h1]
  rw [e0] at this
  exact this

/-! ### taking, form, part -/
theorem Rg.in6 {n : Nat} {r : Rdr} (h : Rg n r) : r.Ok 6 := h.1
theorem sizes_le {k : Nat} : ∀ {l : List Rdr}, (∀ r ∈ l, r.size ≤ k) → Rdr.sizes l ≤ l.length * k
  | [], _ => by unfold Rdr.sizes; omega
  | r :: l, h => by
    have h1 := h r (by simp)
    have h2 := sizes_le (l := l) fun s hs => h s (by simp [hs])
    unfold Rdr.sizes
    rw [List.length_cons, Nat.add_mul]; omega
theorem take_turns {n : Nat} {S_draw S_part : L3.Spec} (hd : UDraw S_draw) (hs : UPart n S_part) {base : Own} {p q : Addr} (qp : q ≠ p) {ls la : List Str} {deep room : Int} (hl : Tit ls) (ha : Lat la) (d1 : 1 ≤ deep - 1) (d2 : deep - 1 ≤ n) {r0 : Rdr} {E : AEnds} {b m : Nat}
    (h : ∀ (own : Own) (fl : List Rdr) pen e6, own p = some (.lst pen) → own q = some (.lst ((r0 :: fl).map Rdr.toD)) → (∀ a, a ≠ p → a ≠ q → own a = base a) → fl.length = m → (∀ r ∈ fl, Rg n r) → Pn b pen → E.nx [some (.ref p), some (.lst (ls.map .str)), some (.lst (la.map .str)), some (.int deep), some (.int room), some (.ref q), e6] own) :
    ∀ (ds : List D) (own : Own) (fl : List Rdr) (pen : List D) (e6 : Option D), own p = some (.lst pen) → own q = some (.lst ((r0 :: fl).map Rdr.toD)) → (∀ a, a ≠ p → a ≠ q → own a = base a) → fl.length + ds.length = m → m ≤ 6 → (∀ r ∈ fl, Rg n r) → Pn (b + ds.length * (2 + cg n)) pen →
      aTurns (gN 6) (aIfS (aB (aBin (fEq false) (aCall S_draw [] (aCons (aV 0) (aCons (aC (.int 3)) aNil))) (aC (.int 0)))) (aDrop (aApp (aV 5) (aTup (aCons (aC (.str "name")) (aCons (aBin fIx (aV 1) (aCall S_draw [] (aCons (aV 0) (aCons (aFn (f1 gLen) (aCons (aV 1) aNil)) aNil)))) aNil))))) (aDrop (aApp (aV 5) (aCall S_part [] (aCons (aV 0) (aCons (aV 1) (aCons (aV 2) (aCons (aBin fSub (aV 3) (aC (.int 1))) (aCons (aBin fDiv (aBin fSub (aV 4) (aC (.int 2))) (aC (.int 2))) aNil)))))))))
       (fun _ => True) E ds [some (.ref p), some (.lst (ls.map .str)), some (.lst (la.map .str)), some (.int deep), some (.int room), some (.ref q), e6] own
  | [], own, fl, pen, e6, h1, h2, h3, h4, h5, h6, h7 => ⟨trivial, h own fl pen e6 h1 h2 h3 (by simpa using h4) h6 (h7.mono (by simp))⟩
  | d :: ds, own, fl, pen, e6, h1, h2, h3, h4, h5, h6, h7 => by
    rw [x_turC]
    refine ⟨trivial, ?_⟩
    simp at h4 h7
    simp
    refine hd _ _ _ _ _ (b + ds.length * (2 + cg n) + 1 + cg n) h1 (h7.mono (by rw [Nat.add_mul]; omega)) (by decide) (by decide) fun k pen1 k0 k1 hp1 => ?_
    have go : ∀ (own' : Own) (r : Rdr) pen', Rg n r → own' p = some (.lst pen') → own' q = some (.lst ((r0 :: fl).map Rdr.toD)) → (∀ a, a ≠ p → a ≠ q → own' a = base a) → Pn (b + ds.length * (2 + cg n)) pen' → (((r0 :: fl).map Rdr.toD).length < 16777216) ∧
        aTurns (gN 6) (aIfS (aB (aBin (fEq false) (aCall S_draw [] (aCons (aV 0) (aCons (aC (.int 3)) aNil))) (aC (.int 0)))) (aDrop (aApp (aV 5) (aTup (aCons (aC (.str "name")) (aCons (aBin fIx (aV 1) (aCall S_draw [] (aCons (aV 0) (aCons (aFn (f1 gLen) (aCons (aV 1) aNil)) aNil)))) aNil))))) (aDrop (aApp (aV 5) (aCall S_part [] (aCons (aV 0) (aCons (aV 1) (aCons (aV 2) (aCons (aBin fSub (aV 3) (aC (.int 1))) (aCons (aBin fDiv (aBin fSub (aV 4) (aC (.int 2))) (aC (.int 2))) aNil)))))))))
       (fun _ => True) E ds [some (.ref p), some (.lst (ls.map .str)), some (.lst (la.map .str)), some (.int deep), some (.int room), some (.ref q), some d] (oset own' q (.lst ((r0 :: fl).map Rdr.toD ++ [r.toD]))) := fun own' r pen' hr g1 g2 g3 g4 => by
      refine ⟨by simp; omega, ?_⟩
      have := take_turns hd hs qp hl ha d1 d2 h ds (oset own' q (.lst ((r0 :: fl).map Rdr.toD ++ [r.toD]))) (fl ++ [r]) pen' (some d) (by rw [oset_ne (Ne.symm qp)]; exact g1) (by rw [oset_same]; simp) (fun a a1 a2 => by rw [oset_ne a2]; exact g3 a a1 a2) (by simp; omega) h5 (fun s hs => by rcases List.mem_append.mp hs with hs | hs; exact h6 s hs; rw [List.mem_singleton.mp hs]; exact hr) g4
      exact this
    have o1 : oset own p (.lst pen1) q = some (.lst ((r0 :: fl).map Rdr.toD)) := by rw [oset_ne qp]; exact h2
    by_cases z : k = 0
    · simp [z, x_ownL o1]
      have l0 : 0 < ls.length := List.length_pos_iff.mpr hl.1
      refine hd _ _ _ _ _ (b + ds.length * (2 + cg n) + cg n) oset_same (hp1.mono (by omega)) (by omega) (by have := hl.2.1; omega) fun k2 pen2 b1 b2 hp2 => ?_
      simp
      refine atA b1 (by simpa using b2) fun d' hm => ?_
      obtain ⟨l, hl1, rfl⟩ := List.mem_map.mp hm
      have o2 : oset (oset own p (.lst pen1)) p (.lst pen2) q = some (.lst ((r0 :: fl).map Rdr.toD)) := by rw [oset_ne qp]; exact o1
      rw [x_ownL o2]
      have := go (oset (oset own p (.lst pen1)) p (.lst pen2)) (.nm "name" l) pen2 (Rg.leaf ⟨.inr rfl, hl.2.2 l hl1⟩ (by unfold Rdr.size; rfl) (by unfold Rdr.hgt; rfl)) oset_same o2 (fun a a1 a2 => by rw [oset_ne a1, oset_ne a1]; exact h3 a a1 a2) (hp2.mono (by omega))
      rw [Rdr.toD_nm] at this
      exact this
    · have c2 : CDivW (room - 2) 2 := ⟨by decide, by decide⟩
      have zf : (k == 0) = false := by simpa using z
      simp [zf, x_ownL o1, C0, c2]
      refine hs _ _ p pen1 ls la (deep - 1) ((room - 2) / 2) (b + ds.length * (2 + cg n)) oset_same hl ha d1 d2 (hp1.mono (by omega)) fun r pen2 hr hp2 => ?_
      have o2 : oset (oset own p (.lst pen1)) p (.lst pen2) q = some (.lst ((r0 :: fl).map Rdr.toD)) := by rw [oset_ne qp]; exact o1
      rw [x_ownL o2]
      have := go (oset (oset own p (.lst pen1)) p (.lst pen2)) r pen2 hr oset_same o2 (fun a a1 a2 => by rw [oset_ne a1, oset_ne a1]; exact h3 a a1 a2) hp2
      exact this
theorem p_taking {n : Nat} {S_draw S_leaf S_part : L3.Spec} (hd : UDraw S_draw) (hf : ULeaf S_leaf) (hs : UPart n S_part) {ds : List D} {own : Own} {Q : D → Own → Prop} (h : S_taking n ds own Q) : T_law_taking S_draw S_leaf S_part { nx := fun _ o => Rt Q .non o, rt := Rt Q } (astart N_law_taking ds) own := by
  obtain ⟨p, pen, ls, la, deep, room, b, rfl, ho, hl, ha, d2, hp, k⟩ := h
  have az1 := az_pos n
  have leaf : ∀ pen' b', Pn (b + b' + 2) pen' → S_leaf [.ref p] (oset own p (.lst pen')) (Rt Q) := fun pen' b' hp' => hf _ _ _ _ (b + b') oset_same hp' fun r pen2 r1 r2 r3 hp2 => by
    rw [oset_oset]; exact Rt.mk (k r pen2 ⟨r1, by omega, by omega⟩ (hp2.mono (by omega)))
  have e0 : oset own p (.lst pen) = own := by
    funext a; unfold oset
    by_cases h1 : a = p
    · rw [if_pos h1, h1, ho]
    · rw [if_neg h1]
  have leaf0 := leaf pen (8 + 2 * cg n) (hp.mono (by omega))
  rw [e0] at leaf0
  simp [T_law_taking, astart, N_law_taking, GArgs]
  by_cases q1 : deep < 2
  · simp [q1]; exact leaf0
  by_cases q2 : room < 3
  · simp [q1, q2]; exact leaf0
  simp [q1, q2]
  refine hd _ _ _ _ _ (b + 9 + 2 * cg n) ho (hp.mono (by omega)) (by decide) (by decide) fun k1 pen1 a1 a2 hp1 => ?_
  by_cases q3 : k1 = 0
  · simp [q3]; exact leaf pen1 (7 + 2 * cg n) (hp1.mono (by omega))
  have q3' : (k1 == 0) = false := by simpa using q3
  simp [q3']
  refine hf _ _ _ _ (b + 7 + 2 * cg n) oset_same (hp1.mono (by omega)) fun r0 pen2 r1 r2 r3 hp2 => ?_
  intro q hq
  rw [oset_oset] at hq ⊢
  have qp : q ≠ p := by rintro rfl; rw [oset_same] at hq; cases hq
  rw [oset_ne qp] at hq
  refine hd _ _ _ _ _ (b + 6 + 2 * cg n) (by rw [oset_ne (Ne.symm qp)]; exact oset_same) (hp2.mono (by omega)) (by decide) (by decide) fun k2 pen3 b1 b2 hp3 => ?_
  simp
  refine ⟨by omega, ?_⟩
  obtain ⟨c, hc, hc3⟩ : ∃ c : Nat, (1 + k2).toNat = c ∧ (c = 1 ∨ c = 2) := ⟨(1 + k2).toNat, rfl, by omega⟩
  rw [hc]
  have lr : (rng 0 c).length = c := by simp [rng]
  refine take_turns hd hs qp hl ha (by omega) (by omega) (base := own) (b := b + 1) (m := c) (fun own1 fl pen4 e6 g1 g2 g3 g4 g5 g6 => ?_) (r0 := r0) (rng 0 c) _ [] pen3 none oset_same (by rw [oset_ne qp, oset_same]; rfl) (fun a a1 a2 => by rw [oset_ne a1, oset_ne a2, oset_ne a1]) (by rw [lr]; simp) (by omega) (by simp) (hp3.mono (by
      rw [lr]
      rcases hc3 with rfl | rfl
      · omega
      · omega))
  simp [x_seeR g2]
  have okl : Rdr.Oks 6 (r0 :: fl) := ⟨r1, Rdr.oks_iff.mpr fun r hr => (g5 r hr).1⟩
  have sz : Rdr.sizes (r0 :: fl) ≤ 2 * az n + 1 := by
    have := sizes_le (k := az n) (l := fl) fun r hr => (g5 r hr).2.1
    have l2 : fl.length * az n ≤ 2 * az n := Nat.mul_le_mul_right _ (by omega)
    unfold Rdr.sizes; omega
  have hh : Rdr.hgts (r0 :: fl) ≤ 1 + 3 * n := Rdr.hgts_le fun r hr => by
    rcases List.mem_cons.mp hr with rfl | hr
    · omega
    · exact (g5 r hr).2.2
  have := k (.seq "row" (r0 :: fl)) pen4 ⟨⟨.inl rfl, by simp, by simp; omega, okl⟩, by unfold Rdr.size; omega, by unfold Rdr.hgt; omega⟩ (g6.mono (by omega))
  rw [Rdr.toD_seq] at this
  refine Rt.drop (o' := oset own p (.lst pen4)) (fun a mo e => ?_) this
  by_cases ap : a = p
  · subst ap; rw [oset_same] at e; rw [g1]; exact e
  · rw [oset_ne ap] at e
    have aq : a ≠ q := by rintro rfl; rw [hq] at e; cases e
    rw [g3 a ap aq]; exact e

theorem p_form {n : Nat} {S_some S_taking S_draw : L3.Spec} (hs : USome n S_some) (ht : UTaking n S_taking) (hd : UDraw S_draw) {ds : List D} {own : Own} {Q : D → Own → Prop} (h : S_form n ds own Q) : T_law_form S_some S_taking S_draw { nx := fun _ o => Rt Q .non o, rt := Rt Q } (astart N_law_form ds) own := by
  obtain ⟨p, pen, ls, la, deep, room, b, rfl, ho, hl, ha, d1, d2, hp, k⟩ := h
  have az1 := az_pos n
  have azs := az_s n
  simp [T_law_form, astart, N_law_form, GArgs, C0]
  have c2 : CDivW room 2 := ⟨by decide, by decide⟩
  refine hs _ _ p pen ls la (if 2 < deep - 1 then deep - 1 else 2) room 2 (b + 20 + 2 * cg n) ho hl ha (by split <;> omega) (by split <;> omega) (by decide) (by decide) (hp.mono (by omega)) fun l pen1 l2 hr hp1 => ?_
  obtain ⟨one, two, rfl⟩ : ∃ a b, l = [a, b] := by
    match l, l2 with
    | [a, b], _ => exact ⟨a, b, rfl⟩
  have r1 := hr one (by simp)
  have r2 := hr two (by simp)
  simp [c2]
  refine ht _ _ p pen1 ls la (deep - 1) (room / 2) (b + 10) oset_same hl ha (by omega) (hp1.mono (by omega)) fun r3 pen2 r3h hp2 => ?_
  simp [oset_oset]
  intro q1 hq1
  have q1p : q1 ≠ p := by rintro rfl; rw [oset_same] at hq1; cases hq1
  simp [x_seeR oset_same]
  intro q2 hq2
  have q21 : q2 ≠ q1 := by rintro rfl; rw [oset_same] at hq2; cases hq2
  rw [oset_ne q21] at hq2
  have q2p : q2 ≠ p := by rintro rfl; rw [oset_same] at hq2; cases hq2
  simp [x_ownL oset_same, x_seeR oset_same]
  intro q3 hq3
  have q3a : q3 ≠ q2 := by rintro rfl; rw [oset_same] at hq3; cases hq3
  rw [oset_ne q3a, oset_ne q3a] at hq3
  have q3b : q3 ≠ q1 := by rintro rfl; rw [oset_same] at hq3; cases hq3
  rw [oset_ne q3b] at hq3
  have q3p : q3 ≠ p := by rintro rfl; rw [oset_same] at hq3; cases hq3
  refine hd _ _ _ pen2 _ (b + 9) (by rw [oset_ne (Ne.symm q3p), oset_ne (Ne.symm q2p), oset_ne (Ne.symm q2p), oset_ne (Ne.symm q1p), oset_same]) (hp2.mono (by omega)) (by decide) (by decide) fun k2 pen3 k0 k1 hp3 => ?_
  have fin : ∀ (r : Rdr), Rg (n + 1) r → ∀ (o : Own), o p = some (.lst pen3) → (∀ a, a ≠ p → a ≠ q1 → a ≠ q2 → a ≠ q3 → o a = own a) → Rt Q r.toD o := fun r hr o g1 g2 => by
    refine Rt.drop (o' := oset own p (.lst pen3)) (fun a mo e => ?_) (k r pen3 hr (hp3.mono (by omega)))
    by_cases ap : a = p
    · subst ap; rw [oset_same] at e; rw [g1]; exact e
    · rw [oset_ne ap] at e
      rw [oset_ne q1p] at hq1
      rw [oset_ne q2p] at hq2
      rw [oset_ne q3p] at hq3
      rw [g2 a ap (by rintro rfl; rw [hq1] at e; cases e) (by rintro rfl; rw [hq2] at e; cases e) (by rintro rfl; rw [hq3] at e; cases e)]; exact e
  generalize hL : [D.tup [D.str (Str.ofString "choice"), D.tup [D.tup [D.str (Str.ofString "choice"), D.tup [one.toD, two.toD]], r3.toD]], _, _, _, _, _, _, _, _, _] = L
  rw [x_seeR (p := q3) (ds := L) (by rw [oset_ne q3p, oset_same])]
  simp only [x_seeI, x_ixL]
  subst hL
  refine atA k0 (by simpa using k1) fun d hm => ?_
  have hr' : ∃ r, Rg (n + 1) r ∧ d = r.toD := by
    have o1 := r1.1
    have o2 := r2.1
    have o3 := r3h.1
    have a1 := r1.2
    have a2 := r2.2
    have a3 := r3h.2
    have s1 : ∀ (w : Str) (x y : Rdr), (w = "row" ∨ w = "choice") → x.Ok 6 → y.Ok 6 → x.size + y.size ≤ 4 * az n + 3 → x.hgt ≤ 3 + 3 * n → y.hgt ≤ 3 + 3 * n → Rg (n + 1) (.seq w [x, y]) := fun w x y hw hx hy hz h1 h2 =>
      ⟨⟨hw, by simp, by simp, hx, hy, trivial⟩, by simp only [Rdr.size, Rdr.sizes]; omega, by simp only [Rdr.hgt, Rdr.hgts]; omega⟩
    have i1 : ∀ (w : Str) (x y : Rdr), (w = "row" ∨ w = "choice") → x.Ok 6 → y.Ok 6 → Rdr.Ok 6 (.seq w [x, y]) := fun w x y hw hx hy => ⟨hw, by simp, by simp, hx, hy, trivial⟩
    simp only [List.mem_cons, List.not_mem_nil, or_false] at hm
    rcases hm with rfl | rfl | rfl | rfl | rfl | rfl | rfl | rfl | rfl | rfl
    · exact ⟨.seq "choice" [.seq "choice" [one, two], r3], s1 _ _ _ (.inr rfl) (i1 _ _ _ (.inr rfl) o1 o2) o3 (by simp only [Rdr.size, Rdr.sizes]; omega) (by simp only [Rdr.hgt, Rdr.hgts]; omega) (by omega), by simp [Rdr.toD_seq]⟩
    · exact ⟨.seq "row" [.seq "row" [one, r3], two], s1 _ _ _ (.inl rfl) (i1 _ _ _ (.inl rfl) o1 o3) o2 (by simp only [Rdr.size, Rdr.sizes]; omega) (by simp only [Rdr.hgt, Rdr.hgts]; omega) (by omega), by simp [Rdr.toD_seq]⟩
    · exact ⟨.one "not" (.one "not" one), ⟨⟨by simp, by simp, o1⟩, by simp only [Rdr.size]; omega, by simp only [Rdr.hgt]; omega⟩, by simp [Rdr.toD_one]⟩
    · exact ⟨.seq "row" [.leaf "nothing", one], s1 _ _ _ (.inl rfl) (.inl rfl) o1 (by simp only [Rdr.size]; omega) (by simp only [Rdr.hgt]; omega) (by omega), by simp [Rdr.toD_seq, Rdr.toD_leaf]⟩
    · exact ⟨.seq "row" [one, .leaf "nothing"], s1 _ _ _ (.inl rfl) o1 (.inl rfl) (by simp only [Rdr.size]; omega) (by omega) (by simp only [Rdr.hgt]; omega), by simp [Rdr.toD_seq, Rdr.toD_leaf]⟩
    · exact ⟨.seq "choice" [.leaf "never", one], s1 _ _ _ (.inr rfl) (.inr rfl) o1 (by simp only [Rdr.size]; omega) (by simp only [Rdr.hgt]; omega) (by omega), by simp [Rdr.toD_seq, Rdr.toD_leaf]⟩
    · exact ⟨.seq "choice" [one, .leaf "never"], s1 _ _ _ (.inr rfl) o1 (.inr rfl) (by simp only [Rdr.size]; omega) (by omega) (by simp only [Rdr.hgt]; omega), by simp [Rdr.toD_seq, Rdr.toD_leaf]⟩
    · exact ⟨.seq "choice" [one, one], s1 _ _ _ (.inr rfl) o1 o1 (by omega) (by omega) (by omega), by simp [Rdr.toD_seq]⟩
    · exact ⟨.one "maybe" one, ⟨⟨by simp, o1⟩, by simp only [Rdr.size]; omega, by simp only [Rdr.hgt]; omega⟩, by simp [Rdr.toD_one]⟩
    · exact ⟨.one "many" r3, ⟨⟨by simp, o3⟩, by simp only [Rdr.size]; omega, by simp only [Rdr.hgt]; omega⟩, by simp [Rdr.toD_one]⟩
  obtain ⟨r, hr, rfl⟩ := hr'
  exact fin r hr _ oset_same fun a a1 a2 a3 a4 => by rw [oset_ne a1, oset_ne a4, oset_ne a3, oset_ne a3, oset_ne a2, oset_ne a1]

theorem strs_py {k : Nat} : ∀ {la : List Str}, (∀ l ∈ la, l.length ≤ k ∧ PyData.strOk l = true) → ∀ a, PysOk (la.map D.str) a (la.length * (k + 1))
  | [], _, _ => .nil
  | l :: la, h, a => by
    have h1 := h l (by simp)
    have h2 := strs_py (la := la) (fun x hx => h x (by simp [hx])) a
    rw [List.map_cons, List.length_cons]
    exact (PysOk.cons (.str h1.2 h1.1) h2).mono (Nat.le_refl _) (by rw [Nat.add_mul]; omega)
theorem lat_ask {la : List Str} (h : Lat la) : eqAsk (.lst (la.map .str)) (.lst []) := by
  have p := PyOk.lst (strs_py (k := 8) h.2 0)
  exact ⟨⟨p.eq, Nat.le_trans p.dp (by decide)⟩, by unfold eqOk eqOks; rfl, by unfold toPy toPys PyData.depth PyData.depthAll; decide⟩
theorem oset_self {own : Own} {p : Addr} {m : MO} (h : own p = some m) : oset own p m = own := by
  funext a; unfold oset
  by_cases h1 : a = p
  · rw [if_pos h1, h1, h]
  · rw [if_neg h1]
theorem p_part {n : Nat} {S_draw S_leaf S_taking S_some S_form : L3.Spec} (hd : UDraw S_draw) (hf : ULeaf S_leaf) (ht : UTaking n S_taking) (hs : USome n S_some) (hfm : UForm n S_form) {ds : List D} {own : Own} {Q : D → Own → Prop} (h : S_part (n + 1) ds own Q) : T_law_part S_draw S_leaf S_taking S_some S_form { nx := fun _ o => Rt Q .non o, rt := Rt Q } (astart N_law_part ds) own := by
  obtain ⟨p, pen, ls, la, deep, room, b, rfl, ho, hl, ha, d1, d2, hp, k⟩ := h
  have azs := az_s n
  have az1 := az_pos n
  have ask := lat_ask ha
  rw [cg_s] at hp
  simp [T_law_part, astart, N_law_part, GArgs, ask]
  refine hd _ _ p pen _ (b + 99 + 10 * cg n) ho (hp.mono (by omega)) (by decide) (by decide) fun way pen1 w0 w1 hp1 => ?_
  have fin : ∀ (r : Rdr) pen', Rg (n + 1) r → Pn b pen' → Rt Q r.toD (oset own p (.lst pen')) := fun r pen' hr hp' => Rt.mk (k r pen' hr hp')
  have l1 : Rdr.hgt (.leaf "nothing") = 1 := by unfold Rdr.hgt; rfl
  have l2 : Rdr.size (.leaf "nothing") = 1 := by unfold Rdr.size; rfl
  have small : S_leaf [.ref p] (oset own p (.lst pen1)) fun d o => S_leaf [.ref p] o fun d_1 o => S_leaf [.ref p] o fun d_2 o2 => S_draw [.ref p, .int 5] o2 fun e o2 => fIx0 (.lst [d, d_1, .tup [.str "nothing"], .tup [.str "never"], d_2]) (see o2 e) fun z => Rt Q z o2 := by
    refine hf _ _ p pen1 (b + 97 + 10 * cg n) oset_same (hp1.mono (by omega)) fun r1 pen2 a1 a2 a3 hp2 => ?_
    refine hf _ _ p pen2 (b + 95 + 10 * cg n) oset_same (hp2.mono (by omega)) fun r2 pen3 b1 b2 b3 hp3 => ?_
    refine hf _ _ p pen3 (b + 93 + 10 * cg n) oset_same (hp3.mono (by omega)) fun r3 pen4 c1 c2 c3 hp4 => ?_
    refine hd _ _ p pen4 _ (b + 92 + 10 * cg n) oset_same (hp4.mono (by omega)) (by decide) (by decide) fun k5 pen5 e1 e2 hp5 => ?_
    simp only [oset_oset, x_seeI, x_ixL]
    refine atA e1 (by simpa using e2) fun d hm => ?_
    simp only [List.mem_cons, List.not_mem_nil, or_false] at hm
    have g := fun r hr => fin r pen5 hr (hp5.mono (by omega))
    rcases hm with rfl | rfl | rfl | rfl | rfl
    · exact g _ (Rg.leaf a1 a2 a3)
    · exact g _ (Rg.leaf b1 b2 b3)
    · have := g (.leaf "nothing") (Rg.leaf (.inl rfl) (by unfold Rdr.size; rfl) (by unfold Rdr.hgt; rfl)); rw [Rdr.toD_leaf] at this; exact this
    · have := g (.leaf "never") (Rg.leaf (.inr rfl) (by unfold Rdr.size; rfl) (by unfold Rdr.hgt; rfl)); rw [Rdr.toD_leaf] at this; exact this
    · exact g _ (Rg.leaf c1 c2 c3)
  by_cases z0 : way = 0
  · cases hla : la.isEmpty with
    | false =>
      have l0 : 0 < la.length := by
        cases la with
        | nil => cases hla
        | cons _ _ => simp
      simp [z0, hla]
      refine hd _ _ p pen1 _ (b + 98 + 10 * cg n) oset_same (hp1.mono (by omega)) (by omega) (by have := ha.1; omega) fun k2 pen2 b1 b2 hp2 => ?_
      simp [oset_oset]
      refine atA b1 (by simpa using b2) fun d' hm => ?_
      obtain ⟨l, hl1, rfl⟩ := List.mem_map.mp hm
      have := fin (.nm "name" l) pen2 (Rg.leaf ⟨.inr rfl, ha.2 l hl1⟩ (by unfold Rdr.size; rfl) (by unfold Rdr.hgt; rfl)) (hp2.mono (by omega))
      rw [Rdr.toD_nm] at this
      exact this
    | true =>
      simp [z0, hla]
      by_cases q1 : deep < 2
      · simp [q1]; exact small
      by_cases q2 : room < 3
      · simp [q1, q2]; exact small
      simp [q1, q2]; exact small
  have z0' : (way == 0) = false := by simpa using z0
  simp [z0']
  by_cases q1 : deep < 2
  · simp [q1]; exact small
  by_cases q2 : room < 3
  · simp [q1, q2]; exact small
  by_cases q3 : way < 3
  · simp [q1, q2, q3]; exact small
  simp [q1, q2, q3]
  by_cases z3 : way = 3
  · simp [z3]
    refine ht _ _ p pen1 ls la (deep - 1) (room - 1) (b + 80 + 8 * cg n) oset_same hl ha (by omega) (hp1.mono (by omega)) fun r pen2 hr hp2 => ?_
    rw [oset_oset]
    have := fin (.one "many" r) pen2 ⟨⟨by simp, hr.1⟩, by have := hr.2; simp only [Rdr.size]; omega, by have := hr.2; simp only [Rdr.hgt]; omega⟩ (hp2.mono (by omega))
    rw [Rdr.toD_one] at this
    exact this
  have z3' : (way == 3) = false := by simpa using z3
  simp only [z3']
  by_cases z4 : way = 4
  · simp [z4]
    refine hd _ _ p pen1 _ (b + 98 + 10 * cg n) oset_same (hp1.mono (by omega)) (by decide) (by decide) fun k2 pen2 b1 b2 hp2 => ?_
    simp [oset_oset]
    refine atA b1 (by simpa using b2) fun d' hm => ?_
    have hw : ∃ w : Str, d' = .str w ∧ Lab w := by
      simp only [List.mem_cons, List.not_mem_nil, or_false] at hm
      rcases hm with rfl | rfl | rfl | rfl <;> exact ⟨_, rfl, by decide +kernel, by decide +kernel⟩
    obtain ⟨w, rfl, hw⟩ := hw
    refine hs _ _ p pen2 ls la deep room 1 (b + 90) oset_same hl ha (by omega) (by omega) (by decide) (by decide) (hp2.mono (by omega)) fun l pen3 hl1 hr hp3 => ?_
    obtain ⟨r, rfl⟩ : ∃ r, l = [r] := by
      match l, hl1 with
      | [r], _ => exact ⟨r, rfl⟩
    have r1 := hr r (by simp)
    simp [oset_oset]
    refine hd _ _ p pen3 _ (b + 89) oset_same (hp3.mono (by omega)) (by decide) (by decide) fun k4 pen4 c1 c2 hp4 => ?_
    simp [oset_oset]
    have g : ∀ (w x : Str), (w = "hold" ∨ w = "tag" ∨ w = "make") → Lab x → Rt Q (.tup [.str w, .str x, r.toD]) (oset own p (.lst pen4)) := fun w x hw hx => by
      have := fin (.two w x r) pen4 ⟨⟨hw, hx, r1.1⟩, by have := r1.2; simp only [Rdr.size]; omega, by have := r1.2; simp only [Rdr.hgt]; omega⟩ (hp4.mono (by omega))
      rw [Rdr.toD_two] at this
      exact this
    exact at3 c1 c2 (g _ _ (.inr (.inl rfl)) ⟨by decide +kernel, by decide +kernel⟩) (g _ _ (.inr (.inr rfl)) hw) (g _ _ (.inl rfl) ⟨by decide +kernel, by decide +kernel⟩)
  have z4' : (way == 4) = false := by simpa using z4
  simp only [z4']
  by_cases q8 : way < 8
  · simp [q8, C0]
    refine at3 (k := way - 5) (by omega) (by omega) ?_ ?_ ?_
    all_goals
      refine hs _ _ p pen1 ls la deep room 1 (b + 90) oset_same hl ha (by omega) (by omega) (by decide) (by decide) (hp1.mono (by omega)) fun l pen3 hl1 hr hp3 => ?_
      obtain ⟨r, rfl⟩ : ∃ r, l = [r] := by
        match l, hl1 with
        | [r], _ => exact ⟨r, rfl⟩
      have r1 := hr r (by simp)
      simp [oset_oset]
      have g : ∀ (w : Str), (w = "many" ∨ w = "maybe" ∨ w = "ahead" ∨ w = "not") → Rt Q (.tup [.str w, r.toD]) (oset own p (.lst pen3)) := fun w hw => by
        have := fin (.one w r) pen3 ⟨⟨hw, r1.1⟩, by have := r1.2; simp only [Rdr.size]; omega, by have := r1.2; simp only [Rdr.hgt]; omega⟩ (hp3.mono (by omega))
        rw [Rdr.toD_one] at this
        exact this
      exact g _ (by simp)
  simp [q8]
  by_cases q11 : way < 11
  · simp [q11, C0]
    refine hd _ _ p pen1 _ (b + 98 + 10 * cg n) oset_same (hp1.mono (by omega)) (by decide) (by decide) fun k2 pen2 b1 b2 hp2 => ?_
    simp [oset_oset]
    obtain ⟨c, hc, hc3⟩ : ∃ c : Nat, 2 + k2 = (c : Int) ∧ (c = 2 ∨ c = 3) := ⟨(2 + k2).toNat, by omega, by omega⟩
    rw [hc]
    have hcc : c * cg n ≤ 3 * cg n := Nat.mul_le_mul_right _ (by omega)
    have g : ∀ (w : Str), (w = "row" ∨ w = "choice") → S_some [.ref p, .lst (ls.map .str), .lst (la.map .str), .int deep, .int room, .int c] (oset own p (.lst pen2)) fun d o => Rt Q (.tup [.str w, d]) o := fun w hw => by
      refine hs _ _ p pen2 ls la deep room c (b + 90) oset_same hl ha (by omega) (by omega) (by omega) (by omega) (hp2.mono (by omega)) fun l pen3 hl1 hr hp3 => ?_
      rw [oset_oset]
      have sz := sizes_le (k := az n) (l := l) fun r h => (hr r h).2.1
      have sz2 : l.length * az n ≤ 3 * az n := Nat.mul_le_mul_right _ (by omega)
      have hh : Rdr.hgts l ≤ 1 + 3 * n := Rdr.hgts_le fun r h => (hr r h).2.2
      have := fin (.seq w l) pen3 ⟨⟨hw, by intro z; rw [z] at hl1; simp at hl1; omega, by omega, Rdr.oks_iff.mpr fun r h => (hr r h).1⟩, by unfold Rdr.size; omega, by unfold Rdr.hgt; omega⟩ (hp3.mono (by omega))
      rw [Rdr.toD_seq] at this
      exact this
    exact at3 (k := way - 8) (by omega) (by omega) (g _ (.inr rfl)) (g _ (.inl rfl)) (g _ (.inr rfl))
  simp [q11]
  by_cases z11 : way = 11
  · simp [z11]
    refine hfm _ _ p pen1 ls la deep room (b + 70) oset_same hl ha (by omega) (by omega) (hp1.mono (by omega)) fun r pen2 hr hp2 => ?_
    rw [oset_oset]
    exact fin r pen2 hr (hp2.mono (by omega))
  have z11' : (way == 11) = false := by simpa using z11
  simp only [z11']
  refine ht _ _ p pen1 ls la deep room (b + 70) oset_same hl ha (by omega) (hp1.mono (by omega)) fun r pen2 hr hp2 => ?_
  rw [oset_oset]
  exact fin r pen2 ⟨hr.1, by have := hr.2; omega, by have := hr.2; omega⟩ (hp2.mono (by omega))

/-! ### within, bound, deeper, wide -/
def kids : Rdr → List Rdr
  | .seq _ ps => ps
  | .one _ p => [p]
  | .two _ _ p => [p]
  | _ => []
def S_within : L3.Spec := fun ds own P => ∃ r : Rdr, ds = [r.toD] ∧ r.Ok 6 ∧ P (.lst ((kids r).map Rdr.toD)) own
def UWithin (S : L3.Spec) : Prop := ∀ (own : Own) (P : D → Own → Prop) (r : Rdr), r.Ok 6 → P (.lst ((kids r).map Rdr.toD)) own → S [r.toD] own P
theorem uWithin : UWithin S_within := fun own P r h1 h2 => ⟨r, rfl, h1, h2⟩
theorem p_within {ds : List D} {own : Own} {Q : D → Own → Prop} (h : S_within ds own Q) : T_law_within { nx := fun _ o => Rt Q .non o, rt := Rt Q } (astart N_law_within ds) own := by
  obtain ⟨r, rfl, ok, h⟩ := h
  replace h := Rt.mk h
  cases r with
  | leaf w => rw [Rdr.toD_leaf]; rcases ok with rfl | rfl <;> simp [T_law_within, astart, N_law_within, kids] at h ⊢ <;> exact h
  | sg w x => rw [Rdr.toD_sg]; rcases ok.1 with rfl | rfl <;> simp [T_law_within, astart, N_law_within, kids] at h ⊢ <;> exact h
  | nm w x => rw [Rdr.toD_nm]; rcases ok.1 with rfl | rfl <;> simp [T_law_within, astart, N_law_within, kids] at h ⊢ <;> exact h
  | seq w ps => rw [Rdr.toD_seq]; rcases ok.1 with rfl | rfl <;> simp [T_law_within, astart, N_law_within, kids] at h ⊢ <;> exact h
  | one w p => rw [Rdr.toD_one]; rcases ok.1 with rfl | rfl | rfl | rfl <;> simp [T_law_within, astart, N_law_within, kids] at h ⊢ <;> exact h
  | two w l p => rw [Rdr.toD_two]; rcases ok.1 with rfl | rfl | rfl <;> simp [T_law_within, astart, N_law_within, kids] at h ⊢ <;> exact h
def Bd2 (r r' : Rdr) : Prop := r'.Ok 6 ∧ r'.size ≤ 4 * r.size ∧ r'.hgt ≤ r.hgt + 2
def S_bound (n : Nat) : L3.Spec := fun ds own P => ∃ (p : Addr) (pen : List D) (r : Rdr) (b : Nat), ds = [.ref p, r.toD] ∧ own p = some (.lst pen) ∧ r.Ok 6 ∧ r.hgt ≤ n ∧ n ≤ 20 ∧ Pn (b + r.size) pen ∧ ∀ (r' : Rdr) pen', Bd2 r r' → Pn b pen' → P r'.toD (oset own p (.lst pen'))
def UBound (n : Nat) (S : L3.Spec) : Prop := ∀ (own : Own) (P : D → Own → Prop) (p : Addr) (pen : List D) (r : Rdr) (b : Nat), own p = some (.lst pen) → r.Ok 6 → r.hgt ≤ n → n ≤ 20 → Pn (b + r.size) pen → (∀ (r' : Rdr) pen', Bd2 r r' → Pn b pen' → P r'.toD (oset own p (.lst pen'))) → S [.ref p, r.toD] own P
theorem uBound (n : Nat) : UBound n (S_bound n) := fun own P p pen r b h1 h2 h3 h4 h5 h6 => ⟨p, pen, r, b, rfl, h1, h2, h3, h4, h5, h6⟩
/-- readers bound, one by one -/
def Bds (rs rs' : List Rdr) : Prop := rs'.length = rs.length ∧ Rdr.Oks 6 rs' ∧ Rdr.sizes rs' ≤ 4 * Rdr.sizes rs ∧ Rdr.hgts rs' ≤ Rdr.hgts rs + 2
theorem Bds.nil : Bds [] [] := ⟨rfl, trivial, by unfold Rdr.sizes; omega, by unfold Rdr.hgts; omega⟩
theorem Bds.cons {r r' : Rdr} {rs rs' : List Rdr} (h : Bd2 r r') (t : Bds rs rs') : Bds (r :: rs) (r' :: rs') := by
  obtain ⟨a1, a2, a3⟩ := h
  obtain ⟨b1, b2, b3, b4⟩ := t
  exact ⟨by simp [b1], ⟨a1, b2⟩, by simp only [Rdr.sizes]; omega, by simp only [Rdr.hgts]; omega⟩
theorem lc_bound {n : Nat} {S : L3.Spec} (hs : UBound n S) (n20 : n ≤ 20) {own : Own} {p : Addr} {e1 e2 e3 : Option D} {gd : Own → Prop} (hg : ∀ o, gd o) {P : List D → Own → Prop} : ∀ (ps acc : List Rdr) (pen : List D) (b : Nat), (∀ r ∈ ps, r.Ok 6 ∧ r.hgt ≤ n) → Pn (b + Rdr.sizes ps) pen →
    (∀ (l : List Rdr) pen', Bds ps l → Pn b pen' → P ((acc ++ l).map Rdr.toD) (oset own p (.lst pen'))) →
    aLcL (gN 3) aYes (aCall S [] (aCons (aV 0) (aCons (aV 3) aNil))) gd [some (.ref p), e1, e2, e3] P (ps.map Rdr.toD) (acc.map Rdr.toD) (oset own p (.lst pen))
  | [], acc, pen, b, _, hp, h => ⟨hg _, by have := h [] pen .nil (hp.mono (by omega)); simpa using this⟩
  | r :: ps, acc, pen, b, hr, hp, h => by
    rw [List.map_cons, x_lcC]
    refine ⟨hg _, ?_⟩
    simp
    have h1 := hr r (by simp)
    unfold Rdr.sizes at hp
    refine hs _ _ p pen r (b + Rdr.sizes ps) oset_same h1.1 h1.2 n20 (hp.mono (by omega)) fun r' pen' hb hp' => ?_
    have := lc_bound hs n20 (own := own) (p := p) (e1 := e1) (e2 := e2) (e3 := e3) hg (P := P) ps (acc ++ [r']) pen' b (fun s hs => hr s (by simp [hs])) hp' (fun l pen2 hl hp2 => by have := h (r' :: l) pen2 (.cons hb hl) hp2; simpa using this)
    simpa [oset_oset] using this
theorem kids_ok {r : Rdr} {n : Nat} (ok : r.Ok 6) (h : r.hgt ≤ n + 1) : ∀ s ∈ kids r, s.Ok 6 ∧ s.hgt ≤ n := by
  intro s hs
  cases r with
  | leaf w => simp [kids] at hs
  | sg w x => simp [kids] at hs
  | nm w x => simp [kids] at hs
  | seq w ps => simp only [kids] at hs; unfold Rdr.hgt at h; exact ⟨Rdr.oks_iff.mp ok.2.2.2 s hs, by have := Rdr.le_hgts hs; omega⟩
  | one w p => simp [kids] at hs; subst hs; unfold Rdr.hgt at h; exact ⟨ok.2, by omega⟩
  | two w l p => simp [kids] at hs; subst hs; unfold Rdr.hgt at h; exact ⟨ok.2.2, by omega⟩
theorem kids_sz (r : Rdr) : Rdr.sizes (kids r) + 1 = r.size := by
  cases r <;> simp only [kids, Rdr.size, Rdr.sizes] <;> omega
theorem rd_ask {r : Rdr} {k : Nat} (ok : r.Ok k) (h : r.hgt ≤ 30) : askD r.toD := py_ask (rdr_py r ok) (by omega)
theorem list_ask {l : List Rdr} {k : Nat} (ok : Rdr.Oks k l) (h : Rdr.hgts l ≤ 30) : eqAsk (.lst (l.map Rdr.toD)) (.lst []) := by
  have p := PyOk.lst (rdrs_py l ok)
  rw [Rdr.toDs_map] at p
  exact ⟨⟨p.eq, Nat.le_trans p.dp (by omega)⟩, by unfold eqOk eqOks; rfl, by unfold toPy toPys PyData.depth PyData.depthAll; decide⟩
theorem fin_bound {r : Rdr} (ok : r.Ok 6) (hh : r.hgt ≤ 20) {rest : List D} (er : r.toD = .tup (.str r.word :: rest)) {R : D → Prop} (h : ∀ r', Bd2 r r' → R r'.toD) {l : List Rdr} (hl : Bds (kids r) l) :
    match (Str.ofString "row" == r.word || Str.ofString "choice" == r.word) with
    | true => R (.tup [.str r.word, .tup (l.map Rdr.toD)])
    | false => eqAsk (.lst (l.map Rdr.toD)) (.lst []) ∧ match !(l.map Rdr.toD).isEmpty with
      | true => (L3.cutD (D.str r.word :: rest) none (some (-1))).length + (l.map Rdr.toD).length ≤ 16777216 ∧ R (.tup (L3.cutD (D.str r.word :: rest) none (some (-1)) ++ l.map Rdr.toD))
      | false => R (.tup (.str r.word :: rest)) := by
  obtain ⟨l1, l2, l3, l4⟩ := hl
  have sp := r.size_pos
  have self : Bd2 r r := ⟨ok, by omega, by omega⟩
  have hk : Rdr.hgts (kids r) ≤ 20 := Rdr.hgts_le fun s hs => by have := (kids_ok (n := 20) ok (by omega) s hs).2; omega
  have la := list_ask l2 (by omega)
  cases r with
  | leaf w =>
    have e : l = [] := List.eq_nil_of_length_eq_zero (by simpa [kids] using l1)
    subst e
    have g := h _ self
    rw [er] at g
    simp at la
    simp only [Rdr.word] at g ⊢
    rcases ok with rfl | rfl <;> simp [la] <;> exact g
  | sg w x =>
    have e : l = [] := List.eq_nil_of_length_eq_zero (by simpa [kids] using l1)
    subst e
    have g := h _ self
    rw [er] at g
    simp at la
    simp only [Rdr.word] at g ⊢
    rcases ok.1 with rfl | rfl <;> simp [la] <;> exact g
  | nm w x =>
    have e : l = [] := List.eq_nil_of_length_eq_zero (by simpa [kids] using l1)
    subst e
    have g := h _ self
    rw [er] at g
    simp at la
    simp only [Rdr.word] at g ⊢
    rcases ok.1 with rfl | rfl <;> simp [la] <;> exact g
  | seq w ps =>
    have hkk : kids (.seq w ps) = ps := rfl
    rw [hkk] at l1 l3 l4
    have g := h (.seq w l) ⟨⟨ok.1, by intro z; rw [z] at l1; exact ok.2.1 (List.eq_nil_of_length_eq_zero (by simpa using l1.symm)), by rw [l1]; exact ok.2.2.1, l2⟩, by simp only [Rdr.size]; omega, by simp only [Rdr.hgt]; omega⟩
    rw [Rdr.toD_seq] at g
    simp only [Rdr.word]
    rcases ok.1 with rfl | rfl <;> simp <;> exact g
  | one w p' =>
    obtain ⟨s, rfl⟩ : ∃ s, l = [s] := by
      match l, l1 with
      | [s], _ => exact ⟨s, rfl⟩
    simp only [kids, Rdr.sizes, Rdr.hgts] at l3 l4
    have g := h (.one w s) ⟨⟨ok.1, l2.1⟩, by simp only [Rdr.size]; omega, by simp only [Rdr.hgt]; omega⟩
    rw [Rdr.toD_one] at g er
    have ec : ∀ a c : D, L3.cutD [a, c] none (some (-1)) = [a] := fun _ _ => rfl
    simp at la
    simp only [Rdr.word] at er ⊢
    cases er
    rcases ok.1 with rfl | rfl | rfl | rfl <;> simp [la, ec] <;> exact g
  | two w x p' =>
    obtain ⟨s, rfl⟩ : ∃ s, l = [s] := by
      match l, l1 with
      | [s], _ => exact ⟨s, rfl⟩
    simp only [kids, Rdr.sizes, Rdr.hgts] at l3 l4
    have g := h (.two w x s) ⟨⟨ok.1, ok.2.1, l2.1⟩, by simp only [Rdr.size]; omega, by simp only [Rdr.hgt]; omega⟩
    rw [Rdr.toD_two] at g er
    have ec : ∀ a c d : D, L3.cutD [a, c, d] none (some (-1)) = [a, c] := fun _ _ _ => rfl
    simp at la
    simp only [Rdr.word] at er ⊢
    cases er
    rcases ok.1 with rfl | rfl | rfl <;> simp [la, ec] <;> exact g
theorem sign_of {r : Rdr} {k : Nat} (ok : r.Ok k) (q : r.word = "sign") : ∃ x, r = .sg "sign" x := by
  cases r with
  | leaf w => rcases ok with rfl | rfl <;> simp [Rdr.word] at q
  | sg w x => simp only [Rdr.word] at q; subst q; exact ⟨x, rfl⟩
  | nm w x => rcases ok.1 with rfl | rfl <;> simp [Rdr.word] at q
  | seq w x => rcases ok.1 with rfl | rfl <;> simp [Rdr.word] at q
  | one w x => rcases ok.1 with rfl | rfl | rfl | rfl <;> simp [Rdr.word] at q
  | two w l x => rcases ok.1 with rfl | rfl | rfl <;> simp [Rdr.word] at q
theorem p_bound {n : Nat} {S_draw S_within S_bound' : L3.Spec} (hd : UDraw S_draw) (hw : UWithin S_within) (hb : UBound n S_bound') {ds : List D} {own : Own} {Q : D → Own → Prop} (h : S_bound (n + 1) ds own Q) : T_law_bound S_draw S_within S_bound' { nx := fun _ o => Rt Q .non o, rt := Rt Q } (astart N_law_bound ds) own := by
  obtain ⟨p, pen, r, b, rfl, ho, ok, hh, n20, hp, k⟩ := h
  have sp := r.size_pos
  have ks := kids_sz r
  have fin : ∀ (r' : Rdr) pen', Bd2 r r' → Pn b pen' → Rt Q r'.toD (oset own p (.lst pen')) := fun r' pen' h1 h2 => Rt.mk (k r' pen' h1 h2)
  have ra := rd_ask ok (by omega)
  have na : askD (.tup [.str "nothing"]) := by have := plain_ask (.inl rfl : nothing = nothing ∨ nothing = never); unfold nothing at this; rw [Rdr.toD_leaf] at this; exact this
  obtain ⟨rest, er⟩ := r.toD_word
  have ask : eqAsk r.toD (.tup [.str "nothing"]) := by rw [er] at ra ⊢; exact ask_tt ra na
  have self : Bd2 r r := ⟨ok, by omega, by omega⟩
  simp [T_law_bound, astart, N_law_bound, see_r, ask]
  cases hq : deq r.toD (.tup [.str "nothing"]) with
  | true =>
    simp
    refine hd _ _ p pen _ (b + (r.size - 1)) ho (hp.mono (by omega)) (by decide) (by decide) fun k2 pen2 b1 b2 hp2 => ?_
    simp
    have ha : Bd2 r (.nm "again" "h") := ⟨⟨.inl rfl, by decide +kernel, by decide +kernel⟩, by simp only [Rdr.size]; omega, by simp only [Rdr.hgt]; omega⟩
    have g1 := fin _ pen2 ha (hp2.mono (by omega))
    rw [Rdr.toD_nm] at g1
    exact at2 b1 b2 g1 (fin r pen2 self (hp2.mono (by omega)))
  | false =>
    simp
    have cont : ∀ pen1, Pn (b + Rdr.sizes (kids r)) pen1 → ∀ (P' : List D → Own → Prop), (∀ l pen2, Bds (kids r) l → Pn b pen2 → P' (l.map Rdr.toD) (oset own p (.lst pen2))) →
        aLcL (gN 3) aYes (aCall S_bound' [] (aCons (aV 0) (aCons (aV 3) aNil))) (fun _ => True) [some (.ref p), some (.tup (.str r.word :: rest)), none, none] P' ((kids r).map Rdr.toD) [] (oset own p (.lst pen1)) := fun pen1 hp1 P' hP' =>
      lc_bound hb (by omega) (own := own) (e1 := some (.tup (.str r.word :: rest))) (e2 := none) (e3 := none) (fun o => trivial) (kids r) [] pen1 b (kids_ok ok hh) hp1 fun l pen2 hl hp2 => hP' l pen2 hl hp2
    have fb : ∀ {l : List Rdr} {pen2 : List D}, Bds (kids r) l → Pn b pen2 → _ := fun {l pen2} hl hp2 => fin_bound ok (by omega) er (R := fun d => Rt Q d (oset own p (.lst pen2))) (fun r' hb => fin r' pen2 hb hp2) hl
    have hw' : ∀ (own : Own) (P : D → Own → Prop), P (.lst ((kids r).map Rdr.toD)) own → S_within [.tup (.str r.word :: rest)] own P := fun own P h => by
      have := hw own P r ok h
      rw [er] at this; exact this
    rw [er]
    by_cases q : r.word = "sign"
    · simp [q]
      refine hd _ _ p pen _ (b + (r.size - 1)) ho (hp.mono (by omega)) (by decide) (by decide) fun k2 pen2 b1 b2 hp2 => ?_
      by_cases z : k2 = 0
      · simp [z]
        obtain ⟨x, rfl⟩ := sign_of ok q
        have g := fin (.seq "row" [.two "hold" "h" (.sg "sign" x), .nm "again" "h"]) pen2 ⟨⟨.inl rfl, by simp, by simp, ⟨by simp, ⟨by decide +kernel, by decide +kernel⟩, ok⟩, ⟨by simp, by decide +kernel, by decide +kernel⟩, trivial⟩, by simp only [Rdr.size, Rdr.sizes]; omega, by simp only [Rdr.hgt, Rdr.hgts]; omega⟩ (hp2.mono (by omega))
        rw [Rdr.toD_seq, List.map_cons, List.map_cons, List.map_nil, Rdr.toD_two, er, Rdr.toD_nm] at g
        simpa [q] using g
      · have z' : (k2 == 0) = false := by simpa using z
        simp [z']
        rw [q] at hw' cont
        refine hw' _ _ ?_
        simp
        refine cont pen2 (hp2.mono (by omega)) _ fun l pen3 hl hp3 => ?_
        have g := fb hl hp3
        simp [q] at g
        simp
        exact g
    · simp [neS q]
      refine hw' _ _ ?_
      simp
      have c0 := cont pen (hp.mono (by omega))
      rw [oset_self ho] at c0
      refine c0 _ fun l pen3 hl hp3 => ?_
      have g := fb hl hp3
      simp at g ⊢
      exact g
theorem S_bound_lt : ∀ ds o Q, ¬ S_bound 0 ds o Q := by
  rintro ds o Q ⟨p, pen, r, b, _, _, _, h, _⟩
  have := r.hgt_pos
  omega

/-! ### deeper, wide -/
def S_deeper : L3.Spec := fun ds own P => ∃ (p : Addr) (pen : List D) (r : Rdr) (many b : Nat), ds = [.ref p, r.toD, .int many] ∧ own p = some (.lst pen) ∧ r.Ok 6 ∧ many ≤ 7 ∧ Pn (b + many) pen ∧ ∀ (r' : Rdr) pen', r'.Ok 6 → r'.size ≤ r.size + many → r'.hgt ≤ r.hgt + many → Pn b pen' → P r'.toD (oset own p (.lst pen'))
def UDeeper (S : L3.Spec) : Prop := ∀ (own : Own) (P : D → Own → Prop) (p : Addr) (pen : List D) (r : Rdr) (many b : Nat), own p = some (.lst pen) → r.Ok 6 → many ≤ 7 → Pn (b + many) pen → (∀ (r' : Rdr) pen', r'.Ok 6 → r'.size ≤ r.size + many → r'.hgt ≤ r.hgt + many → Pn b pen' → P r'.toD (oset own p (.lst pen'))) → S [.ref p, r.toD, .int many] own P
theorem uDeeper : UDeeper S_deeper := fun own P p pen r many b h1 h2 h3 h4 h5 => ⟨p, pen, r, many, b, rfl, h1, h2, h3, h4, h5⟩
theorem deeper_turns {S_draw : L3.Spec} (hd : UDraw S_draw) {base : Own} {p : Addr} {E : AEnds} {b : Nat} {e2 : Option D} :
    ∀ (ds : List D) (pen : List D) (r : Rdr) (e3 e4 : Option D), Pn (b + ds.length) pen → r.Ok 6 → (∀ (r' : Rdr) pen' e3 e4, r'.Ok 6 → r'.size ≤ r.size + ds.length → r'.hgt ≤ r.hgt + ds.length → Pn b pen' → E.nx [some (.ref p), some r'.toD, e2, e3, e4] (oset base p (.lst pen'))) →
      aTurns (gN 3) (aSeq (aAsg (aFz (aLst (aCons (aTup (aCons (aC (.str "tag")) (aCons (aC (.str "t")) (aCons (aV 1) aNil)))) (aCons (aTup (aCons (aC (.str "ahead")) (aCons (aV 1) aNil))) (aCons (aTup (aCons (aC (.str "not")) (aCons (aV 1) aNil))) (aCons (aTup (aCons (aC (.str "maybe")) (aCons (aV 1) aNil))) (aCons (aTup (aCons (aC (.str "many")) (aCons (aV 1) aNil))) aNil))))))) (gN 4))
  (aAsg (aBin fIx (aV 4) (aCall S_draw [] (aCons (aV 0) (aCons (aC (.int 5)) aNil)))) (gN 1))) (fun _ => True) E ds [some (.ref p), some r.toD, e2, e3, e4] (oset base p (.lst pen))
  | [], pen, r, e3, e4, hp, ok, h => ⟨trivial, h r pen e3 e4 ok (by omega) (by omega) (hp.mono (by simp))⟩
  | d :: ds, pen, r, e3, e4, hp, ok, h => by
    rw [x_turC]
    refine ⟨trivial, ?_⟩
    simp at hp
    simp
    refine hd _ _ p pen _ (b + ds.length) oset_same (hp.mono (by omega)) (by decide) (by decide) fun k pen1 k0 k1 hp1 => ?_
    simp [oset_oset]
    refine atA k0 (by simpa using k1) fun d' hm => ?_
    have hr : ∃ r' : Rdr, d' = r'.toD ∧ r'.Ok 6 ∧ r'.size = r.size + 1 ∧ r'.hgt = r.hgt + 1 := by
      simp only [List.mem_cons, List.not_mem_nil, or_false] at hm
      rcases hm with rfl | rfl | rfl | rfl | rfl
      · exact ⟨.two "tag" "t" r, by rw [Rdr.toD_two], ⟨by simp, ⟨by decide +kernel, by decide +kernel⟩, ok⟩, by simp only [Rdr.size]; omega, by simp only [Rdr.hgt]; omega⟩
      · exact ⟨.one "ahead" r, by rw [Rdr.toD_one], ⟨by simp, ok⟩, by simp only [Rdr.size]; omega, by simp only [Rdr.hgt]; omega⟩
      · exact ⟨.one "not" r, by rw [Rdr.toD_one], ⟨by simp, ok⟩, by simp only [Rdr.size]; omega, by simp only [Rdr.hgt]; omega⟩
      · exact ⟨.one "maybe" r, by rw [Rdr.toD_one], ⟨by simp, ok⟩, by simp only [Rdr.size]; omega, by simp only [Rdr.hgt]; omega⟩
      · exact ⟨.one "many" r, by rw [Rdr.toD_one], ⟨by simp, ok⟩, by simp only [Rdr.size]; omega, by simp only [Rdr.hgt]; omega⟩
    obtain ⟨r', rfl, ok', h1, h2⟩ := hr
    exact deeper_turns hd ds pen1 r' _ _ hp1 ok' fun r2 pen2 f3 f4 g1 g2 g3 g4 => h r2 pen2 f3 f4 g1 (by simp; omega) (by simp; omega) g4
theorem p_deeper {S_draw : L3.Spec} (hd : UDraw S_draw) {ds : List D} {own : Own} {Q : D → Own → Prop} (h : S_deeper ds own Q) : T_law_deeper S_draw { nx := fun _ o => Rt Q .non o, rt := Rt Q } (astart N_law_deeper ds) own := by
  obtain ⟨p, pen, r, many, b, rfl, ho, ok, m7, hp, k⟩ := h
  simp [T_law_deeper, astart, N_law_deeper]
  refine ⟨by omega, ?_⟩
  have lr : (rng 0 many).length = many := by simp [rng]
  have := deeper_turns hd (base := own) (p := p) (E := { nx := fun env o => aRet (aV 1) { nx := fun _ o => Rt Q .non o, rt := Rt Q } env o, rt := Rt Q }) (b := b) (e2 := some (.int many)) (rng 0 many) pen r none none (hp.mono (by rw [lr]; omega)) ok (fun r' pen' e3 e4 g1 g2 g3 g4 => by simp; rw [lr] at g2 g3; exact Rt.mk (k r' pen' g1 g2 g3 g4))
  rw [oset_self ho] at this
  exact this
def S_wide : L3.Spec := fun ds own P => ∃ (p : Addr) (pen : List D) (b : Nat), ds = [.ref p] ∧ own p = some (.lst pen) ∧ Pn (b + 40) pen ∧ ∀ (r : Rdr) pen', In r → Pn b pen' → P r.toD (oset own p (.lst pen'))
def UWide (S : L3.Spec) : Prop := ∀ (own : Own) (P : D → Own → Prop) (p : Addr) (pen : List D) (b : Nat), own p = some (.lst pen) → Pn (b + 40) pen → (∀ (r : Rdr) pen', In r → Pn b pen' → P r.toD (oset own p (.lst pen'))) → S [.ref p] own P
theorem uWide : UWide S_wide := fun own P p pen b h1 h2 h3 => ⟨p, pen, b, rfl, h1, h2, h3⟩
def Lf (r : Rdr) : Prop := r.Ok 6 ∧ r.size = 1 ∧ r.hgt = 1
theorem lc_leaf {S : L3.Spec} (hf : ULeaf S) {own : Own} {p : Addr} {e1 e2 e3 : Option D} {P : List D → Own → Prop} : ∀ (c j : Nat) (acc : List Rdr) (pen : List D) (b : Nat), Pn (b + c * 2) pen → (∀ r ∈ acc, Lf r) →
    (∀ (l : List Rdr) pen', l.length = acc.length + c → (∀ r ∈ l, Lf r) → Pn b pen' → P (l.map Rdr.toD) (oset own p (.lst pen'))) →
    aLcL (gN 3) aYes (aCall S [] (aCons (aV 0) aNil)) (fun _ => True) [some (.ref p), e1, e2, e3] P ((List.range' j c).map fun (i : Nat) => D.int (0 + (i : Int))) (acc.map Rdr.toD) (oset own p (.lst pen))
  | 0, j, acc, pen, b, hp, hc, h => ⟨trivial, h acc pen (by simp) hc (hp.mono (by omega))⟩
  | c + 1, j, acc, pen, b, hp, hc, h => by
    rw [List.range'_succ, List.map_cons, x_lcC]
    refine ⟨trivial, ?_⟩
    simp
    refine hf _ _ p pen (b + c * 2) oset_same (hp.mono (by omega)) fun r pen' r1 r2 r3 hp' => ?_
    have := lc_leaf hf (e1 := e1) (e2 := e2) (e3 := e3) (own := own) (p := p) (P := P) c (j + 1) (acc ++ [r]) pen' b hp' (fun s hs => by rcases List.mem_append.mp hs with hs | hs; exact hc s hs; rw [List.mem_singleton.mp hs]; exact ⟨r1, r2, r3⟩) (fun l pen2 hl => h l pen2 (by simp at hl ⊢; omega))
    simpa [oset_oset] using this
theorem lf_sizes {l : List Rdr} (h : ∀ r ∈ l, Lf r) : Rdr.sizes l ≤ l.length ∧ Rdr.hgts l ≤ 1 ∧ Rdr.Oks 6 l :=
  ⟨by have := sizes_le (k := 1) (l := l) fun r hr => Nat.le_of_eq (h r hr).2.1; omega, Rdr.hgts_le fun r hr => Nat.le_of_eq (h r hr).2.2, Rdr.oks_iff.mpr fun r hr => (h r hr).1⟩
theorem p_wide {S_draw S_leaf : L3.Spec} (hd : UDraw S_draw) (hf : ULeaf S_leaf) {ds : List D} {own : Own} {Q : D → Own → Prop} (h : S_wide ds own Q) : T_law_wide S_draw S_leaf { nx := fun _ o => Rt Q .non o, rt := Rt Q } (astart N_law_wide ds) own := by
  obtain ⟨p, pen, b, rfl, ho, hp, k⟩ := h
  simp [T_law_wide, astart, N_law_wide]
  refine hd _ _ p pen _ (b + 39) ho (hp.mono (by omega)) (by decide) (by decide) fun k1 pen1 a1 a2 hp1 => ?_
  try simp
  have go : ∀ w : Str, (w = "row" ∨ w = "choice") → S_draw [.ref p, .int 5] (oset own p (.lst pen1)) fun e o2 => fAdd0 (.int 2) (see o2 e) fun z => match [z] with
      | [.int n] => (-4611686018427387904 ≤ n ∧ n ≤ 16777216) ∧ aLcL (gN 3) aYes (aCall S_leaf [] (aCons (aV 0) aNil)) (fun _ => True) [some (.ref p), some (.str w), none, none]
          (fun ds o => S_draw [.ref p, .int 5] o fun e o2 => fAdd0 (.int 1) (see o2 e) fun z => match [z] with
            | [.int n] => (-4611686018427387904 ≤ n ∧ n ≤ 16777216) ∧ aLcL (gN 3) aYes (aCall S_leaf [] (aCons (aV 0) aNil)) (fun _ => True) [some (.ref p), some (.str w), some (.tup [.str w, .tup ds]), none]
                (fun ds2 o => 1 + ds2.length ≤ 16777216 ∧ Rt Q (.tup [.str w, .tup ((.tup [.str w, .tup ds]) :: ds2)]) o) (rng 0 n.toNat) [] o2
            | _ => False) (rng 0 n.toNat) [] o2
      | _ => False := fun w hw => by
    refine hd _ _ p pen1 _ (b + 38) oset_same (hp1.mono (by omega)) (by decide) (by decide) fun k2 pen2 b1 b2 hp2 => ?_
    simp [oset_oset]
    refine ⟨by omega, ?_⟩
    obtain ⟨c, hc, hc2, hc6⟩ : ∃ c : Nat, (2 + k2).toNat = c ∧ 2 ≤ c ∧ c ≤ 6 := ⟨_, rfl, by omega, by omega⟩
    rw [hc, rng_nat]
    refine lc_leaf hf (own := own) c 0 [] pen2 (b + 20) (hp2.mono (by omega)) (by simp) fun l pen3 hl hlf hp3 => ?_
    refine hd _ _ p pen3 _ (b + 19) oset_same (hp3.mono (by omega)) (by decide) (by decide) fun k3 pen4 c1 c2 hp4 => ?_
    simp [oset_oset]
    refine ⟨by omega, ?_⟩
    obtain ⟨d, hd', hd1, hd5⟩ : ∃ c : Nat, (1 + k3).toNat = c ∧ 1 ≤ c ∧ c ≤ 5 := ⟨_, rfl, by omega, by omega⟩
    rw [hd', rng_nat]
    refine lc_leaf hf (own := own) d 0 [] pen4 b (hp4.mono (by omega)) (by simp) fun l2 pen5 hl2 hlf2 hp5 => ?_
    simp at hl hl2
    refine ⟨by simp; omega, ?_⟩
    obtain ⟨s1, s2, s3⟩ := lf_sizes hlf
    obtain ⟨t1, t2, t3⟩ := lf_sizes hlf2
    have g := Rt.mk (k (.seq w (.seq w l :: l2)) pen5 ⟨⟨hw, by simp, by simp; omega, ⟨hw, by intro z; rw [z] at hl; simp at hl; omega, by omega, s3⟩, t3⟩, by simp only [Rdr.hgt, Rdr.hgts]; omega, by simp only [Rdr.size, Rdr.sizes]; omega⟩ hp5)
    rw [Rdr.toD_seq, List.map_cons, Rdr.toD_seq] at g
    exact g
  refine at2 a1 a2 ?_ ?_
  · exact go "choice" (.inr rfl)
  · exact go "row" (.inl rfl)

/-! ### the law -/
def UStart (S : L3.Spec) : Prop := ∀ (own : Own) (P : D → Own → Prop) (ns : List Int), ns.length ≤ 63 → (∀ p pen, own p = none → Pn (2 ^ 59) pen → P (.ref p) (oset own p (.lst pen))) → S [.kls (ns.map D.int)] own P
theorem uStart : UStart S_start := fun own P ns h1 h2 => ⟨ns, rfl, h1, h2⟩
def costT : Nat := 4000 + 20 * cg 4
theorem cost_le : costT ≤ 2 ^ 40 := by
  unfold costT cg; decide +kernel
theorem az4 : az 4 = 596 := by unfold az; decide +kernel
theorem in_rg {r : Rdr} (h : Rg 4 r) : In r := ⟨h.1, by have := h.2.2; omega, by have := h.2.1; rw [az4] at this; omega⟩
theorem in_bd {r r' : Rdr} (h : Rg 4 r) (h2 : Bd2 r r') : In r' := ⟨h2.1, by have := h.2.2; have := h2.2.2; omega, by have := h.2.1; rw [az4] at this; have := h2.2.1; omega⟩
theorem rules_eq {own : Own} {P : D → Prop} (h : P (.bl false)) : fEq true own d_RULES (.tup [.str "choice", .str "row", .str "nothing", .str "never", .str "twice", .str "maybe", .str "many", .str "same"]) P := by
  have e : d_RULES = .tup [.str "choice", .str "row", .str "nothing", .str "never", .str "twice", .str "maybe", .str "many", .str "same"] := rfl
  rw [e]
  have p : PyOk (.tup [.str "choice", .str "row", .str "nothing", .str "never", .str "twice", .str "maybe", .str "many", .str "same"]) 1 80 := by
    have w : ∀ {x : Str} {a : Nat}, PyData.strOk x = true → x.length ≤ 9 → PyOk (.str x) a 9 := fun h1 h2 => .str h1 h2
    exact (PyOk.tup (.cons (w (by decide +kernel) (by decide +kernel)) (.cons (w (by decide +kernel) (by decide +kernel)) (.cons (w (by decide +kernel) (by decide +kernel)) (.cons (w (by decide +kernel) (by decide +kernel)) (.cons (w (by decide +kernel) (by decide +kernel)) (.cons (w (by decide +kernel) (by decide +kernel)) (.cons (w (by decide +kernel) (by decide +kernel)) (.cons (w (by decide +kernel) (by decide +kernel)) (.nil (b := 0))))))))))).mono (Nat.le_refl _) (by decide)
  refine ⟨ask_tt (py_ask p (by decide)) (py_ask p (by decide)), ?_⟩
  have d : deq (.tup [.str "choice", .str "row", .str "nothing", .str "never", .str "twice", .str "maybe", .str "many", .str "same"]) (.tup [.str "choice", .str "row", .str "nothing", .str "never", .str "twice", .str "maybe", .str "many", .str "same"]) = true := by
    decide +kernel
  simp only [x_seeT, d]
  exact h
theorem lit4 : ((4 : Nat) : Int) = 4 := rfl
theorem law_turns {S_pt S_w S_f S_b S_draw S_lf S_dp S_r : L3.Spec} (hpt : UPart 4 S_pt) (hw : UWide S_w) (hf : UForm 3 S_f) (hb : UBound 20 S_b) (hd : UDraw S_draw) (hl : ULeaf S_lf) (hdp : UDeeper S_dp) (hr : URight S_r) {E : AEnds} {p : Addr} {e0 : Option D} {ls : List Str} (tl : Tit ls) (hE : ∀ env own, E.nx env own) :
    ∀ (ds : List D) (own : Own) (pen : List D) (e3 e4 e5 e6 : Option D), own p = some (.lst pen) → Pn (ds.length * costT) pen →
    aTurns (gN 3) (aSeq (aAsg (aOw (aLst (aCons (aCall S_f [] (aCons (aV 1) (aCons (aV 2) (aCons (aV 2) (aCons (aC (.int 4)) (aCons (aC (.int 8)) aNil)))))) (aCons (aCall S_w [] (aCons (aV 1) aNil)) (aCons (aCall S_pt [] (aCons (aV 1) (aCons (aV 2) (aCons (aV 2) (aCons (aC (.int 4)) (aCons (aC (.int 8)) aNil)))))) aNil))))) (gN 4))
  (aSeq (aDrop (aApp (aV 4) (aTup (aCons (aC (.str "nothing")) aNil))))
  (aSeq (aDrop (aApp (aV 4) (aCall S_b [] (aCons (aV 1) (aCons (aCall S_f [] (aCons (aV 1) (aCons (aV 2) (aCons (aV 2) (aCons (aC (.int 3)) (aCons (aC (.int 8)) aNil)))))) aNil)))))
  (aSeq (aDrop (aApp (aV 4) (aCall S_dp [] (aCons (aV 1) (aCons (aCall S_lf [] (aCons (aV 1) aNil)) (aCons (aCall S_draw [] (aCons (aV 1) (aCons (aC (.int 8)) aNil))) aNil))))))
  (aSeq (aAsg (aBin fIx (aFz (aLst (aCons (aTup (aCons (aC (.str "nothing")) aNil)) (aCons (aTup (aCons (aC (.str "never")) aNil)) aNil)))) (aCall S_draw [] (aCons (aV 1) (aCons (aC (.int 2)) aNil)))) (gN 5))
  (aSeq (aDrop (aApp (aV 4) (aTup (aCons (aBin fIx (aFz (aLst (aCons (aC (.str "row")) (aCons (aC (.str "choice")) aNil)))) (aCall S_draw [] (aCons (aV 1) (aCons (aC (.int 2)) aNil)))) (aCons (aTup (aCons (aV 5) (aCons (aV 5) aNil))) aNil)))))
  (aIfS (aB (aBin (fIn false) (aC (.bl false)) (aFz (aLc (aIt (aV 4)) (gN 6) aYes (aCall S_r [] (aCons (aV 6) aNil)) [6])))) (aRet (aC (.bl false))) aNext))))))) (fun _ => True) E ds [e0, some (.ref p), some (.lst (ls.map .str)), e3, e4, e5, e6] own
  | [], own, pen, _, _, _, _, _, _ => ⟨trivial, hE _ _⟩
  | d :: ds, own, pen, e3, e4, e5, e6, ho, hpn => by
    rw [x_turC]
    refine ⟨trivial, ?_⟩
    have la : Lat ls := ⟨tl.2.1, tl.2.2⟩
    have c4 : cg 4 = 100 + 10 * cg 3 := cg_s 3
    have hp : Pn (ds.length * costT + (4000 + 20 * cg 4)) pen := hpn.mono (by rw [List.length_cons, Nat.add_mul]; unfold costT; omega)
    generalize hB : ds.length * costT = B at hp
    simp
    refine hf _ _ p pen ls ls 4 8 (B + 3000 + 10 * cg 4) ho tl la (by decide) (by decide) (hp.mono (by omega)) fun r1 pen1 i1 hp1 => ?_
    refine hw _ _ p pen1 (B + 2900 + 10 * cg 4) oset_same (hp1.mono (by omega)) fun r2 pen2 i2 hp2 => ?_
    simp only [oset_oset]
    refine hpt _ _ p pen2 ls ls 4 8 (B + 2800 + 5 * cg 4) oset_same tl la (by decide) (by decide) (hp2.mono (by omega)) fun r3 pen3 i3 hp3 => ?_
    simp only [oset_oset]
    intro q hq
    have qp : q ≠ p := by rintro rfl; rw [oset_same] at hq; cases hq
    have pq := Ne.symm qp
    simp [x_ownL oset_same, oset_oset]
    refine hf _ _ p pen3 ls ls 3 8 (B + 2700 + 2 * cg 4) (by rw [oset_ne pq, oset_same]) tl la (by decide) (by decide) (hp3.mono (by omega)) fun r5 pen5 i5 hp5 => ?_
    have sz5 : r5.size ≤ 596 := by have := i5.2.1; rw [az4] at this; exact this
    refine hb _ _ p pen5 r5 (B + 2000 + 2 * cg 4) oset_same i5.1 (by have := i5.2.2; omega) (by decide) (hp5.mono (by omega)) fun r5' pen6 j5 hp6 => ?_
    generalize hO : oset (oset (oset (oset own p (.lst pen3)) q _) p _) p _ = O1
    have O1p : O1 p = some (.lst pen6) := by rw [← hO]; exact oset_same
    have O1q : O1 q = some (.lst [r1.toD, r2.toD, r3.toD, .tup [.str "nothing"]]) := by rw [← hO, oset_ne qp, oset_ne qp, oset_same]
    clear hO
    simp [x_ownL O1q, x_ownL oset_same]

    refine hl _ _ p pen6 (B + 1900 + 2 * cg 4) (by rw [oset_ne pq]; exact O1p) (hp6.mono (by omega)) fun r6 pen7 a1 a2 a3 hp7 => ?_
    refine hd _ _ p pen7 _ (B + 1800 + 2 * cg 4) oset_same (hp7.mono (by omega)) (by decide) (by decide) fun k7 pen8 b1 b2 hp8 => ?_
    obtain ⟨m, rfl, m7⟩ : ∃ m : Nat, k7 = (m : Int) ∧ m ≤ 7 := ⟨k7.toNat, by omega, by omega⟩
    refine hdp _ _ p pen8 r6 m (B + 1700 + 2 * cg 4) oset_same a1 m7 (hp8.mono (by omega)) fun r6' pen9 c1 c2 c3 hp9 => ?_
    generalize hO : oset (oset (oset (oset O1 q _) p _) p _) p _ = O2
    have O2p : O2 p = some (.lst pen9) := by rw [← hO]; exact oset_same
    have O2q : O2 q = some (.lst [r1.toD, r2.toD, r3.toD, .tup [.str "nothing"], r5'.toD]) := by rw [← hO, oset_ne qp, oset_ne qp, oset_ne qp, oset_same]
    clear hO
    simp [x_ownL O2q, x_ownL oset_same]
    refine hd _ _ p pen9 _ (B + 1600 + 2 * cg 4) (by rw [oset_ne pq]; exact O2p) (hp9.mono (by omega)) (by decide) (by decide) fun k8 pen10 d1 d2 hp10 => ?_
    simp
    refine atA d1 (by simpa using d2) fun pl hm => ?_
    have hpl : ∃ r : Rdr, pl = r.toD ∧ Lf r := by
      simp only [List.mem_cons, List.not_mem_nil, or_false] at hm
      rcases hm with rfl | rfl
      · exact ⟨.leaf "nothing", by rw [Rdr.toD_leaf], .inl rfl, by unfold Rdr.size; rfl, by unfold Rdr.hgt; rfl⟩
      · exact ⟨.leaf "never", by rw [Rdr.toD_leaf], .inr rfl, by unfold Rdr.size; rfl, by unfold Rdr.hgt; rfl⟩
    obtain ⟨r7, rfl, l7⟩ := hpl
    generalize hO : oset (oset O2 q _) p _ = O3
    have O3p : O3 p = some (.lst pen10) := by rw [← hO]; exact oset_same
    have O3q : O3 q = some (.lst [r1.toD, r2.toD, r3.toD, .tup [.str "nothing"], r5'.toD, r6'.toD]) := by rw [← hO, oset_ne qp, oset_same]
    clear hO
    simp [x_ownL O3q, x_ownL oset_same]
    refine hd _ _ p pen10 _ (B + 1500 + 2 * cg 4) O3p (hp10.mono (by omega)) (by decide) (by decide) fun k9 pen11 f1 f2 hp11 => ?_
    simp
    refine atA f1 (by simpa using f2) fun wd hm2 => ?_
    have hwd : ∃ w : Str, wd = .str w ∧ (w = "row" ∨ w = "choice") := by
      simp only [List.mem_cons, List.not_mem_nil, or_false] at hm2
      rcases hm2 with rfl | rfl
      · exact ⟨_, rfl, .inl rfl⟩
      · exact ⟨_, rfl, .inr rfl⟩
    obtain ⟨w, rfl, hw7⟩ := hwd
    have O4q : oset O3 p (.lst pen11) q = some (.lst [r1.toD, r2.toD, r3.toD, .tup [.str "nothing"], r5'.toD, r6'.toD]) := by rw [oset_ne qp]; exact O3q
    simp [x_ownL O4q]
    have e7 : (.tup [.str w, .tup [r7.toD, r7.toD]] : D) = (Rdr.seq w [r7, r7]).toD := by rw [Rdr.toD_seq]; rfl
    have en : (.tup [.str "nothing"] : D) = (Rdr.leaf "nothing").toD := by rw [Rdr.toD_leaf]
    have eL : ([r1.toD, r2.toD, r3.toD, .tup [.str "nothing"], r5'.toD, r6'.toD, .tup [.str w, .tup [r7.toD, r7.toD]]] : List D) = [r1, r2, r3, .leaf "nothing", r5', r6', .seq w [r7, r7]].map Rdr.toD := by rw [e7, en]; rfl
    rw [eL]
    have inAll : ∀ r ∈ ([r1, r2, r3, .leaf "nothing", r5', r6', .seq w [r7, r7]] : List Rdr), In r := by
      intro r hr
      simp only [List.mem_cons, List.not_mem_nil, or_false] at hr
      rcases hr with rfl | rfl | rfl | rfl | rfl | rfl | rfl
      · exact in_rg i1
      · exact i2
      · exact in_rg i3
      · exact ⟨.inl rfl, by unfold Rdr.hgt; decide, by unfold Rdr.size; decide⟩
      · exact in_bd i5 j5
      · exact ⟨c1, by omega, by omega⟩
      · exact ⟨⟨hw7, by simp, by simp, l7.1, l7.1, trivial⟩, by have := l7.2.2; simp only [Rdr.hgt, Rdr.hgts]; omega, by have := l7.2.1; simp only [Rdr.size, Rdr.sizes]; omega⟩
    generalize ([r1, r2, r3, .leaf "nothing", r5', r6', .seq w [r7, r7]] : List Rdr) = L at inAll
    rw [x_seeR (p := q) (ds := L.map Rdr.toD) oset_same]
    simp only []
    refine lc_pure Rdr.toD (fun _ => D.bl true) (x_seeR oset_same) (fun r hr' Q' hq' => ?_) ?_
    · simp
      exact hr _ _ r (inAll r hr') hq'
    · have hh : ∀ l : List Rdr, (l.map fun _ => D.bl true).all flatD = true ∧ hasD (.bl false) (l.map fun _ => D.bl true) = false := fun l => by
        induction l with
        | nil => exact ⟨rfl, rfl⟩
        | cons a l ih => exact ⟨by rw [List.map_cons, List.all_cons, ih.1]; rfl, by simp [ih.2]⟩
      have h1 := (hh L).1
      have h2 := (hh L).2
      rw [List.nil_append]
      simp only [x_in, x_seeL, x_inL, h1, h2]
      refine ⟨rfl, fun x hx => ?_, ?_⟩
      · obtain ⟨_, _, rfl⟩ := List.mem_map.mp hx; rfl
      · exact law_turns hpt hw hf hb hd hl hdp hr tl hE ds _ pen11 _ _ _ _ (by rw [oset_ne pq]; exact oset_same) (hp11.mono (by omega))
theorem p_law {S_st S_n S_pt S_w S_f S_b S_draw S_lf S_dp S_r : L3.Spec} (h0 : UStart S_st) (hn : UNames S_n) (hpt : UPart 4 S_pt) (hw : UWide S_w) (hf : UForm 3 S_f) (hb : UBound 20 S_b) (hd : UDraw S_draw) (hl : ULeaf S_lf) (hdp : UDeeper S_dp) (hr : URight S_r) {ds : List D} {own : Own} {Q : D → Own → Prop} (h : spLaw 63 ds own Q) :
    T_law S_st S_n S_pt S_w S_f S_b S_draw S_lf S_dp S_r { nx := fun _ o => Rt Q .non o, rt := Rt Q } (astart N_law ds) own := by
  obtain ⟨ns, rfl, hns, rfl, k⟩ := h
  simp only [T_law, astart, N_law, x_seq, x_asg, x_call, x_cons, x_nil, x_v, x_eg0, x_egS, List.map_cons, List.map_nil, List.length_cons, List.length_nil, List.cons_append, List.nil_append]
  refine h0 _ _ ns hns fun p pen hp0 hpn => ?_
  have hc := cost_le
  simp only [x_gN, x_ifS, x_B, x_bin, x_c, x_cons, x_nil, x_tup, List.length_cons, List.length_nil]
  refine ⟨by rw [x_sz]; decide, ?_⟩
  refine rules_eq ?_
  simp
  refine hn _ _ p pen 2 (2 ^ 59 - 20) oset_same (by decide) (by decide) (hpn.mono (by omega)) fun ls pen1 tl hp1 => ?_
  simp only [oset_oset]
  have l6 : (rng 0 6).length = 6 := rfl
  exact law_turns hpt hw hf hb hd hl hdp hr (E := { nx := fun _ o => Rt Q (.bl true) o, rt := Rt Q }) tl (fun env own => Rt.mk (k _ _ rfl)) (rng 0 6) _ pen1 _ _ _ _ oset_same (hp1.mono (by rw [l6]; omega))

/-! the end: printed by join.py -/
def kv_FORMS : List (Str × D) := [("nothing", (.str "")), ("never", (.str "")), ("sign", (.str "s")), ("but", (.str "b")), ("row", (.str "p")), ("choice", (.str "p")), ("many", (.str "r")), ("maybe", (.str "r")), ("ahead", (.str "r")), ("not", (.str "r")), ("name", (.str "n")), ("hold", (.str "nr")), ("again", (.str "n")), ("tag", (.str "nr")), ("make", (.str "wr"))]
def fn : List He.DefD := [⟨("is_text", none), "is_text", "is_text", defArgs s_is_text, defBody s_is_text, defScope s_is_text, [], [("most", .int 60)]⟩, ⟨("is_signs", none), "is_signs", "is_signs", defArgs s_is_signs, defBody s_is_signs, defScope s_is_signs, [], [("least", .int 0)]⟩, ⟨("is_name", none), "is_name", "is_name", defArgs s_is_name, defBody s_is_name, defScope s_is_name, [], []⟩, ⟨("is_piece", none), "is_piece", "is_piece", defArgs s_is_piece, defBody s_is_piece, defScope s_is_piece, [], []⟩, ⟨("is_formed", none), "is_formed", "is_formed", defArgs s_is_formed, defBody s_is_formed, defScope s_is_formed, [], []⟩, ⟨("is_reader", none), "is_reader", "is_reader", defArgs s_is_reader, defBody s_is_reader, defScope s_is_reader, [], []⟩, ⟨("joined", none), "joined", "joined", defArgs s_joined, defBody s_joined, defScope s_joined, [], []⟩, ⟨("without", none), "without", "without", defArgs s_without, defBody s_without, defScope s_without, [], []⟩, ⟨("not_twice", none), "not_twice", "not_twice", defArgs s_not_twice, defBody s_not_twice, defScope s_not_twice, [], []⟩, ⟨("as_choice", none), "as_choice", "as_choice", defArgs s_as_choice, defBody s_as_choice, defScope s_as_choice, [], []⟩, ⟨("once_more", none), "once_more", "once_more", defArgs s_once_more, defBody s_once_more, defScope s_once_more, [], []⟩, ⟨("alike", none), "alike", "alike", defArgs s_alike, defBody s_alike, defScope s_alike, [], []⟩, ⟨("by_rule", none), "by_rule", "by_rule", defArgs s_by_rule, defBody s_by_rule, defScope s_by_rule, [], []⟩, ⟨("turned", none), "turned", "turned", defArgs s_turned, defBody s_turned, defScope s_turned, [], []⟩, ⟨("_law_pen", none), "_law_pen", "_law_pen", defArgs s_law_pen, defBody s_law_pen, defScope s_law_pen, [], []⟩, ⟨("_law_draw", none), "_law_draw", "_law_draw", defArgs s_law_draw, defBody s_law_draw, defScope s_law_draw, [], []⟩, ⟨("_law_names", none), "_law_names", "_law_names", defArgs s_law_names, defBody s_law_names, defScope s_law_names, [], []⟩, ⟨("_law_leaf", none), "_law_leaf", "_law_leaf", defArgs s_law_leaf, defBody s_law_leaf, defScope s_law_leaf, [], []⟩, ⟨("_law_taking", none), "_law_taking", "_law_taking", defArgs s_law_taking, defBody s_law_taking, defScope s_law_taking, [], []⟩, ⟨("_law_some", none), "_law_some", "_law_some", defArgs s_law_some, defBody s_law_some, defScope s_law_some, [], []⟩, ⟨("_law_part", none), "_law_part", "_law_part", defArgs s_law_part, defBody s_law_part, defScope s_law_part, [], []⟩, ⟨("_law_form", none), "_law_form", "_law_form", defArgs s_law_form, defBody s_law_form, defScope s_law_form, [], []⟩, ⟨("_law_within", none), "_law_within", "_law_within", defArgs s_law_within, defBody s_law_within, defScope s_law_within, [], []⟩, ⟨("_law_bound", none), "_law_bound", "_law_bound", defArgs s_law_bound, defBody s_law_bound, defScope s_law_bound, [], []⟩, ⟨("_law_joined", none), "_law_joined", "_law_joined", defArgs s_law_joined, defBody s_law_joined, defScope s_law_joined, [], []⟩, ⟨("_law_other", none), "_law_other", "_law_other", defArgs s_law_other, defBody s_law_other, defScope s_law_other, [], []⟩, ⟨("_law_due", none), "_law_due", "_law_due", defArgs s_law_due, defBody s_law_due, defScope s_law_due, [], []⟩, ⟨("_law_deeper", none), "_law_deeper", "_law_deeper", defArgs s_law_deeper, defBody s_law_deeper, defScope s_law_deeper, [], []⟩, ⟨("_law_wide", none), "_law_wide", "_law_wide", defArgs s_law_wide, defBody s_law_wide, defScope s_law_wide, [], []⟩, ⟨("_law_right", none), "_law_right", "_law_right", defArgs s_law_right, defBody s_law_right, defScope s_law_right, [], []⟩, ⟨("law", none), "law", "law", defArgs s_law, defBody s_law, defScope s_law, [], []⟩]
def fa0 : List He.Fa := [.glo "is_text", .glo "is_signs", .glo "is_name", .glo "is_piece", .glo "is_formed", .glo "is_reader", .glo "joined", .glo "without", .glo "not_twice", .glo "as_choice", .glo "once_more", .glo "alike", .glo "by_rule", .glo "turned", .glo "_law_pen", .glo "_law_draw", .glo "_law_names", .glo "_law_leaf", .glo "_law_taking", .glo "_law_some", .glo "_law_part", .glo "_law_form", .glo "_law_within", .glo "_law_bound", .glo "_law_joined", .glo "_law_other", .glo "_law_due", .glo "_law_deeper", .glo "_law_wide", .glo "_law_right", .glo "law", .glo "FORMS", .free "str", .free "isinstance", .free "len", .free "all", .free "zip", .free "tuple", .free "list", .free "abs"]
def fa1 : List He.Fa := [.free "range", .free "max", .free "int", .free "repr"]
def fa : List He.Fa := fa0 ++ fa1
def ts : List He.Tab := [(fun K => He.ga K "FORMS", ["nothing", "never", "sign", "but", "row", "choice", "many", "maybe", "ahead", "not", "name", "hold", "again", "tag", "make"])]
def ck (K : PySem.W.Frag) : Bool := (gloB K "SIGNS" d_SIGNS && (gloB K "MOST_SIGNS" d_MOST_SIGNS && (gloB K "MOST_LETTERS" d_MOST_LETTERS && (gloB K "LETTERS" d_LETTERS && (gloB K "MAKES" d_MAKES && (gloB K "LEAST_PARTS" d_LEAST_PARTS && (gloB K "MOST_PARTS_readers" d_MOST_PARTS_readers && (gloB K "MOST_DEEP" d_MOST_DEEP && (gloB K "NOTHING" d_NOTHING && (gloB K "NEVER" d_NEVER && (gloB K "RULES" d_RULES && (tabB K (He.ga K "FORMS") kv_FORMS && true))))))))))))
section
variable {P : Program} {w : World} {K : PySem.W.Frag} {h : Heap} {mg : Str → Option Value}
theorem h_is_text (X : K.In h) (G : h.Ns mainGlobals mg) (c : SaysX fa fn ts ck w K) : HasK K mg "is_text" s_is_text [("most", .int 60)] := hasK_of X G c 0 0 [("most", .int 60)]
theorem h_is_signs (X : K.In h) (G : h.Ns mainGlobals mg) (c : SaysX fa fn ts ck w K) : HasK K mg "is_signs" s_is_signs [("least", .int 0)] := hasK_of X G c 1 1 [("least", .int 0)]
theorem h_is_name (X : K.In h) (G : h.Ns mainGlobals mg) (c : SaysX fa fn ts ck w K) : Has K mg "is_name" s_is_name := has_of X G c 2 2
theorem h_is_piece (X : K.In h) (G : h.Ns mainGlobals mg) (c : SaysX fa fn ts ck w K) : Has K mg "is_piece" s_is_piece := has_of X G c 3 3
theorem h_is_formed (X : K.In h) (G : h.Ns mainGlobals mg) (c : SaysX fa fn ts ck w K) : Has K mg "is_formed" s_is_formed := has_of X G c 4 4
theorem h_is_reader (X : K.In h) (G : h.Ns mainGlobals mg) (c : SaysX fa fn ts ck w K) : Has K mg "is_reader" s_is_reader := has_of X G c 5 5
theorem h_joined (X : K.In h) (G : h.Ns mainGlobals mg) (c : SaysX fa fn ts ck w K) : Has K mg "joined" s_joined := has_of X G c 6 6
theorem h_without (X : K.In h) (G : h.Ns mainGlobals mg) (c : SaysX fa fn ts ck w K) : Has K mg "without" s_without := has_of X G c 7 7
theorem h_not_twice (X : K.In h) (G : h.Ns mainGlobals mg) (c : SaysX fa fn ts ck w K) : Has K mg "not_twice" s_not_twice := has_of X G c 8 8
theorem ha_not_twice (c : SaysX fa fn ts ck w K) : HasA K "not_twice" s_not_twice (He.ga K "not_twice") := hasA_of c 8
theorem hm_not_twice (X : K.In h) (G : h.Ns mainGlobals mg) (c : SaysX fa fn ts ck w K) : mg "not_twice" = some (.ref (He.ga K "not_twice")) := He.glo_ok X G (c.t.d.fact 8 rfl)
theorem h_as_choice (X : K.In h) (G : h.Ns mainGlobals mg) (c : SaysX fa fn ts ck w K) : Has K mg "as_choice" s_as_choice := has_of X G c 9 9
theorem ha_as_choice (c : SaysX fa fn ts ck w K) : HasA K "as_choice" s_as_choice (He.ga K "as_choice") := hasA_of c 9
theorem hm_as_choice (X : K.In h) (G : h.Ns mainGlobals mg) (c : SaysX fa fn ts ck w K) : mg "as_choice" = some (.ref (He.ga K "as_choice")) := He.glo_ok X G (c.t.d.fact 9 rfl)
theorem h_once_more (X : K.In h) (G : h.Ns mainGlobals mg) (c : SaysX fa fn ts ck w K) : Has K mg "once_more" s_once_more := has_of X G c 10 10
theorem ha_once_more (c : SaysX fa fn ts ck w K) : HasA K "once_more" s_once_more (He.ga K "once_more") := hasA_of c 10
theorem hm_once_more (X : K.In h) (G : h.Ns mainGlobals mg) (c : SaysX fa fn ts ck w K) : mg "once_more" = some (.ref (He.ga K "once_more")) := He.glo_ok X G (c.t.d.fact 10 rfl)
theorem h_alike (X : K.In h) (G : h.Ns mainGlobals mg) (c : SaysX fa fn ts ck w K) : Has K mg "alike" s_alike := has_of X G c 11 11
theorem ha_alike (c : SaysX fa fn ts ck w K) : HasA K "alike" s_alike (He.ga K "alike") := hasA_of c 11
theorem hm_alike (X : K.In h) (G : h.Ns mainGlobals mg) (c : SaysX fa fn ts ck w K) : mg "alike" = some (.ref (He.ga K "alike")) := He.glo_ok X G (c.t.d.fact 11 rfl)
theorem h_by_rule (X : K.In h) (G : h.Ns mainGlobals mg) (c : SaysX fa fn ts ck w K) : Has K mg "by_rule" s_by_rule := has_of X G c 12 12
theorem h_turned (X : K.In h) (G : h.Ns mainGlobals mg) (c : SaysX fa fn ts ck w K) : Has K mg "turned" s_turned := has_of X G c 13 13
theorem h_law_pen (X : K.In h) (G : h.Ns mainGlobals mg) (c : SaysX fa fn ts ck w K) : Has K mg "_law_pen" s_law_pen := has_of X G c 14 14
theorem h_law_draw (X : K.In h) (G : h.Ns mainGlobals mg) (c : SaysX fa fn ts ck w K) : Has K mg "_law_draw" s_law_draw := has_of X G c 15 15
theorem h_law_names (X : K.In h) (G : h.Ns mainGlobals mg) (c : SaysX fa fn ts ck w K) : Has K mg "_law_names" s_law_names := has_of X G c 16 16
theorem h_law_leaf (X : K.In h) (G : h.Ns mainGlobals mg) (c : SaysX fa fn ts ck w K) : Has K mg "_law_leaf" s_law_leaf := has_of X G c 17 17
theorem h_law_taking (X : K.In h) (G : h.Ns mainGlobals mg) (c : SaysX fa fn ts ck w K) : Has K mg "_law_taking" s_law_taking := has_of X G c 18 18
theorem h_law_some (X : K.In h) (G : h.Ns mainGlobals mg) (c : SaysX fa fn ts ck w K) : Has K mg "_law_some" s_law_some := has_of X G c 19 19
theorem h_law_part (X : K.In h) (G : h.Ns mainGlobals mg) (c : SaysX fa fn ts ck w K) : Has K mg "_law_part" s_law_part := has_of X G c 20 20
theorem h_law_form (X : K.In h) (G : h.Ns mainGlobals mg) (c : SaysX fa fn ts ck w K) : Has K mg "_law_form" s_law_form := has_of X G c 21 21
theorem h_law_within (X : K.In h) (G : h.Ns mainGlobals mg) (c : SaysX fa fn ts ck w K) : Has K mg "_law_within" s_law_within := has_of X G c 22 22
theorem h_law_bound (X : K.In h) (G : h.Ns mainGlobals mg) (c : SaysX fa fn ts ck w K) : Has K mg "_law_bound" s_law_bound := has_of X G c 23 23
theorem h_law_joined (X : K.In h) (G : h.Ns mainGlobals mg) (c : SaysX fa fn ts ck w K) : Has K mg "_law_joined" s_law_joined := has_of X G c 24 24
theorem h_law_other (X : K.In h) (G : h.Ns mainGlobals mg) (c : SaysX fa fn ts ck w K) : Has K mg "_law_other" s_law_other := has_of X G c 25 25
theorem h_law_due (X : K.In h) (G : h.Ns mainGlobals mg) (c : SaysX fa fn ts ck w K) : Has K mg "_law_due" s_law_due := has_of X G c 26 26
theorem h_law_deeper (X : K.In h) (G : h.Ns mainGlobals mg) (c : SaysX fa fn ts ck w K) : Has K mg "_law_deeper" s_law_deeper := has_of X G c 27 27
theorem h_law_wide (X : K.In h) (G : h.Ns mainGlobals mg) (c : SaysX fa fn ts ck w K) : Has K mg "_law_wide" s_law_wide := has_of X G c 28 28
theorem h_law_right (X : K.In h) (G : h.Ns mainGlobals mg) (c : SaysX fa fn ts ck w K) : Has K mg "_law_right" s_law_right := has_of X G c 29 29
theorem h_law (X : K.In h) (G : h.Ns mainGlobals mg) (c : SaysX fa fn ts ck w K) : Has K mg "law" s_law := has_of X G c 30 30
theorem hg_FORMS (X : K.In h) (G : h.Ns mainGlobals mg) (c : SaysX fa fn ts ck w K) : mg "FORMS" = some (.ref (He.ga K "FORMS")) := He.glo_ok X G (c.t.d.fact 31 rfl)
theorem hb_str (X : K.In h) (G : h.Ns mainGlobals mg) (c : SaysX fa fn ts ck w K) : mg "str" = none := He.free_ok X G (c.t.d.fact 32 rfl)
theorem hb_isinstance (X : K.In h) (G : h.Ns mainGlobals mg) (c : SaysX fa fn ts ck w K) : mg "isinstance" = none := He.free_ok X G (c.t.d.fact 33 rfl)
theorem hb_len (X : K.In h) (G : h.Ns mainGlobals mg) (c : SaysX fa fn ts ck w K) : mg "len" = none := He.free_ok X G (c.t.d.fact 34 rfl)
theorem hb_all (X : K.In h) (G : h.Ns mainGlobals mg) (c : SaysX fa fn ts ck w K) : mg "all" = none := He.free_ok X G (c.t.d.fact 35 rfl)
theorem hb_zip (X : K.In h) (G : h.Ns mainGlobals mg) (c : SaysX fa fn ts ck w K) : mg "zip" = none := He.free_ok X G (c.t.d.fact 36 rfl)
theorem hb_tuple (X : K.In h) (G : h.Ns mainGlobals mg) (c : SaysX fa fn ts ck w K) : mg "tuple" = none := He.free_ok X G (c.t.d.fact 37 rfl)
theorem hb_list (X : K.In h) (G : h.Ns mainGlobals mg) (c : SaysX fa fn ts ck w K) : mg "list" = none := He.free_ok X G (c.t.d.fact 38 rfl)
theorem hb_abs (X : K.In h) (G : h.Ns mainGlobals mg) (c : SaysX fa fn ts ck w K) : mg "abs" = none := He.free_ok X G (c.t.d.fact 39 rfl)
theorem hb_range (X : K.In h) (G : h.Ns mainGlobals mg) (c : SaysX fa fn ts ck w K) : mg "range" = none := He.free_ok X G (c.t.d.fact 40 rfl)
theorem hb_max (X : K.In h) (G : h.Ns mainGlobals mg) (c : SaysX fa fn ts ck w K) : mg "max" = none := He.free_ok X G (c.t.d.fact 41 rfl)
theorem hb_int (X : K.In h) (G : h.Ns mainGlobals mg) (c : SaysX fa fn ts ck w K) : mg "int" = none := He.free_ok X G (c.t.d.fact 42 rfl)
theorem hb_repr (X : K.In h) (G : h.Ns mainGlobals mg) (c : SaysX fa fn ts ck w K) : mg "repr" = none := He.free_ok X G (c.t.d.fact 43 rfl)
theorem ht_SIGNS (X : K.In h) (G : h.Ns mainGlobals mg) (c : SaysX fa fn ts ck w K) : GloD K mg "SIGNS" d_SIGNS := gloD_ok X G (He.ba c.ck).1
theorem ht_MOST_SIGNS (X : K.In h) (G : h.Ns mainGlobals mg) (c : SaysX fa fn ts ck w K) : GloD K mg "MOST_SIGNS" d_MOST_SIGNS := gloD_ok X G (He.ba (He.ba c.ck).2).1
theorem ht_MOST_LETTERS (X : K.In h) (G : h.Ns mainGlobals mg) (c : SaysX fa fn ts ck w K) : GloD K mg "MOST_LETTERS" d_MOST_LETTERS := gloD_ok X G (He.ba (He.ba (He.ba c.ck).2).2).1
theorem ht_LETTERS (X : K.In h) (G : h.Ns mainGlobals mg) (c : SaysX fa fn ts ck w K) : GloD K mg "LETTERS" d_LETTERS := gloD_ok X G (He.ba (He.ba (He.ba (He.ba c.ck).2).2).2).1
theorem ht_MAKES (X : K.In h) (G : h.Ns mainGlobals mg) (c : SaysX fa fn ts ck w K) : GloD K mg "MAKES" d_MAKES := gloD_ok X G (He.ba (He.ba (He.ba (He.ba (He.ba c.ck).2).2).2).2).1
theorem ht_LEAST_PARTS (X : K.In h) (G : h.Ns mainGlobals mg) (c : SaysX fa fn ts ck w K) : GloD K mg "LEAST_PARTS" d_LEAST_PARTS := gloD_ok X G (He.ba (He.ba (He.ba (He.ba (He.ba (He.ba c.ck).2).2).2).2).2).1
theorem ht_MOST_PARTS_readers (X : K.In h) (G : h.Ns mainGlobals mg) (c : SaysX fa fn ts ck w K) : GloD K mg "MOST_PARTS_readers" d_MOST_PARTS_readers := gloD_ok X G (He.ba (He.ba (He.ba (He.ba (He.ba (He.ba (He.ba c.ck).2).2).2).2).2).2).1
theorem ht_MOST_DEEP (X : K.In h) (G : h.Ns mainGlobals mg) (c : SaysX fa fn ts ck w K) : GloD K mg "MOST_DEEP" d_MOST_DEEP := gloD_ok X G (He.ba (He.ba (He.ba (He.ba (He.ba (He.ba (He.ba (He.ba c.ck).2).2).2).2).2).2).2).1
theorem ht_NOTHING (X : K.In h) (G : h.Ns mainGlobals mg) (c : SaysX fa fn ts ck w K) : GloD K mg "NOTHING" d_NOTHING := gloD_ok X G (He.ba (He.ba (He.ba (He.ba (He.ba (He.ba (He.ba (He.ba (He.ba c.ck).2).2).2).2).2).2).2).2).1
theorem ht_NEVER (X : K.In h) (G : h.Ns mainGlobals mg) (c : SaysX fa fn ts ck w K) : GloD K mg "NEVER" d_NEVER := gloD_ok X G (He.ba (He.ba (He.ba (He.ba (He.ba (He.ba (He.ba (He.ba (He.ba (He.ba c.ck).2).2).2).2).2).2).2).2).2).1
theorem ht_RULES (X : K.In h) (G : h.Ns mainGlobals mg) (c : SaysX fa fn ts ck w K) : GloD K mg "RULES" d_RULES := gloD_ok X G (He.ba (He.ba (He.ba (He.ba (He.ba (He.ba (He.ba (He.ba (He.ba (He.ba (He.ba c.ck).2).2).2).2).2).2).2).2).2).2).1
theorem hk_FORMS (c : SaysX fa fn ts ck w K) : KTab K w (He.ga K "FORMS") tab_FORMS := kTab_of (kv := kv_FORMS) (c.t.tab 0 rfl) (He.ba (He.ba (He.ba (He.ba (He.ba (He.ba (He.ba (He.ba (He.ba (He.ba (He.ba (He.ba c.ck).2).2).2).2).2).2).2).2).2).2).2).1
end
theorem bd_is_name : Bd "is_name" s_is_name P_is_name := fun _ _ _ _ _ _ us hl => match us, hl with | [_], _ => rfl
theorem bd_is_piece : Bd "is_piece" s_is_piece P_is_piece := fun _ _ _ _ _ _ us hl => match us, hl with | [_, _, _], _ => rfl
theorem bd_is_formed : Bd "is_formed" s_is_formed P_is_formed := fun _ _ _ _ _ _ us hl => match us, hl with | [_, _], _ => rfl
theorem bd_is_reader : Bd "is_reader" s_is_reader P_is_reader := fun _ _ _ _ _ _ us hl => match us, hl with | [_], _ => rfl
theorem bd_joined : Bd "joined" s_joined P_joined := fun _ _ _ _ _ _ us hl => match us, hl with | [_, _], _ => rfl
theorem bd_without : Bd "without" s_without P_without := fun _ _ _ _ _ _ us hl => match us, hl with | [_, _, _], _ => rfl
theorem bd_not_twice : Bd "not_twice" s_not_twice P_not_twice := fun _ _ _ _ _ _ us hl => match us, hl with | [_], _ => rfl
theorem bd_as_choice : Bd "as_choice" s_as_choice P_as_choice := fun _ _ _ _ _ _ us hl => match us, hl with | [_], _ => rfl
theorem bd_once_more : Bd "once_more" s_once_more P_once_more := fun _ _ _ _ _ _ us hl => match us, hl with | [_], _ => rfl
theorem bd_alike : Bd "alike" s_alike P_alike := fun _ _ _ _ _ _ us hl => match us, hl with | [_], _ => rfl
theorem bd_by_rule : Bd "by_rule" s_by_rule P_by_rule := fun _ _ _ _ _ _ us hl => match us, hl with | [_, _], _ => rfl
theorem bd_turned : Bd "turned" s_turned P_turned := fun _ _ _ _ _ _ us hl => match us, hl with | [_, _], _ => rfl
theorem bd_law_pen : Bd "_law_pen" s_law_pen P_law_pen := fun _ _ _ _ _ _ us hl => match us, hl with | [_], _ => rfl
theorem bd_law_draw : Bd "_law_draw" s_law_draw P_law_draw := fun _ _ _ _ _ _ us hl => match us, hl with | [_, _], _ => rfl
theorem bd_law_names : Bd "_law_names" s_law_names P_law_names := fun _ _ _ _ _ _ us hl => match us, hl with | [_, _], _ => rfl
theorem bd_law_leaf : Bd "_law_leaf" s_law_leaf P_law_leaf := fun _ _ _ _ _ _ us hl => match us, hl with | [_], _ => rfl
theorem bd_law_taking : Bd "_law_taking" s_law_taking P_law_taking := fun _ _ _ _ _ _ us hl => match us, hl with | [_, _, _, _, _], _ => rfl
theorem bd_law_some : Bd "_law_some" s_law_some P_law_some := fun _ _ _ _ _ _ us hl => match us, hl with | [_, _, _, _, _, _], _ => rfl
theorem bd_law_part : Bd "_law_part" s_law_part P_law_part := fun _ _ _ _ _ _ us hl => match us, hl with | [_, _, _, _, _], _ => rfl
theorem bd_law_form : Bd "_law_form" s_law_form P_law_form := fun _ _ _ _ _ _ us hl => match us, hl with | [_, _, _, _, _], _ => rfl
theorem bd_law_within : Bd "_law_within" s_law_within P_law_within := fun _ _ _ _ _ _ us hl => match us, hl with | [_], _ => rfl
theorem bd_law_bound : Bd "_law_bound" s_law_bound P_law_bound := fun _ _ _ _ _ _ us hl => match us, hl with | [_, _], _ => rfl
theorem bd_law_joined : Bd "_law_joined" s_law_joined P_law_joined := fun _ _ _ _ _ _ us hl => match us, hl with | [_, _], _ => rfl
theorem bd_law_other : Bd "_law_other" s_law_other P_law_other := fun _ _ _ _ _ _ us hl => match us, hl with | [_, _, _], _ => rfl
theorem bd_law_due : Bd "_law_due" s_law_due P_law_due := fun _ _ _ _ _ _ us hl => match us, hl with | [_, _], _ => rfl
theorem bd_law_deeper : Bd "_law_deeper" s_law_deeper P_law_deeper := fun _ _ _ _ _ _ us hl => match us, hl with | [_, _, _], _ => rfl
theorem bd_law_wide : Bd "_law_wide" s_law_wide P_law_wide := fun _ _ _ _ _ _ us hl => match us, hl with | [_], _ => rfl
theorem bd_law_right : Bd "_law_right" s_law_right P_law_right := fun _ _ _ _ _ _ us hl => match us, hl with | [_], _ => rfl
theorem bd_law : Bd "law" s_law P_law := fun _ _ _ _ _ _ us hl => match us, hl with | [_], _ => rfl
theorem bdp_is_text_k1_most : BdP "is_text" s_is_text P_is_text 1 ["most"] [0, 1] := fun _ _ _ _ _ _ us ws h1 h2 => match us, ws, h1, h2 with | [_], [_], _, _ => rfl
theorem bdp_is_signs_k1_least : BdP "is_signs" s_is_signs P_is_signs 1 ["least"] [0, 1] := fun _ _ _ _ _ _ us ws h1 h2 => match us, ws, h1, h2 with | [_], [_], _, _ => rfl
theorem bdp_turned_k0_rule_reader : BdP "turned" s_turned P_turned 0 ["rule", "reader"] [1, 0] := fun _ _ _ _ _ _ us ws h1 h2 => match us, ws, h1, h2 with | [], [_, _], _, _ => rfl
theorem bdd_is_signs : BdD "is_signs" s_is_signs P_is_signs 1 ["least"] := fun _ _ _ _ _ _ us ks h1 h2 => match us, ks, h1, h2 with | [_], [_], _, _ => ⟨_, _, _, _, _, _, rfl, rfl, rfl⟩
section
variable {P : Program} {w : World} {K : PySem.W.Frag} {h : Heap} {mg : Str → Option Value} {base : Heap}
theorem bod_is_text {k : Nat} {S : L3.Spec} (X : K.In h) (G : h.Ns mainGlobals mg) (c : SaysX fa fn ts ck w K) 
    (p : ∀ ds own Q, S ds own Q → T_is_text { nx := fun _ o => Rt Q .non o, rt := Rt Q } (astart N_is_text ds) own) : Bod P w K mg base "is_text" s_is_text N_is_text k S :=
  fun f cdv A outer s H E w0 ds Q hr hg hS => ⟨_, w_is_text (ht_SIGNS X G c) (hb_str X G c) (hb_isinstance X G c) (hb_len X G c) (hb_all X G c) hr hg, p ds w0.own Q hS⟩
theorem bod_is_signs {k : Nat} {S : L3.Spec} {S_is_text : L3.Spec} (X : K.In h) (G : h.Ns mainGlobals mg) (c : SaysX fa fn ts ck w K) (F_is_text_k1_most : KnP P w K mg base k "is_text" P_is_text 1 ["most"] [] [0, 1] S_is_text)
    (p : ∀ ds own Q, S ds own Q → T_is_signs S_is_text { nx := fun _ o => Rt Q .non o, rt := Rt Q } (astart N_is_signs ds) own) : Bod P w K mg base "is_signs" s_is_signs N_is_signs k S :=
  fun f cdv A outer s H E w0 ds Q hr hg hS => ⟨_, w_is_signs F_is_text_k1_most (ht_MOST_SIGNS X G c) (hb_len X G c) (hb_zip X G c) (hb_all X G c) hr hg, p ds w0.own Q hS⟩
theorem bod_is_name {k : Nat} {S : L3.Spec} (X : K.In h) (G : h.Ns mainGlobals mg) (c : SaysX fa fn ts ck w K) 
    (p : ∀ ds own Q, S ds own Q → T_is_name { nx := fun _ o => Rt Q .non o, rt := Rt Q } (astart N_is_name ds) own) : Bod P w K mg base "is_name" s_is_name N_is_name k S :=
  fun f cdv A outer s H E w0 ds Q hr hg hS => ⟨_, w_is_name (ht_MOST_LETTERS X G c) (ht_LETTERS X G c) (hb_str X G c) (hb_isinstance X G c) (hb_len X G c) (hb_all X G c) hr hg, p ds w0.own Q hS⟩
theorem bod_is_piece {k : Nat} {S : L3.Spec} {S_is_signs : L3.Spec} {S_is_name : L3.Spec} {S_is_formed : L3.Spec} (X : K.In h) (G : h.Ns mainGlobals mg) (c : SaysX fa fn ts ck w K) (F_is_signs_k1_least : KnP P w K mg base k "is_signs" P_is_signs 1 ["least"] [] [0, 1] S_is_signs) (F_is_signs_d : Kn P w K mg base k "is_signs" P_is_signs [(.int 0)] S_is_signs) (F_is_name : Kn P w K mg base k "is_name" P_is_name [] S_is_name) (F_is_formed : Kn P w K mg base k "is_formed" P_is_formed [] S_is_formed)
    (p : ∀ ds own Q, S ds own Q → T_is_piece S_is_signs S_is_name S_is_formed { nx := fun _ o => Rt Q .non o, rt := Rt Q } (astart N_is_piece ds) own) : Bod P w K mg base "is_piece" s_is_piece N_is_piece k S :=
  fun f cdv A outer s H E w0 ds Q hr hg hS => ⟨_, w_is_piece F_is_signs_k1_least F_is_signs_d F_is_name F_is_formed (ht_MAKES X G c) (ht_LEAST_PARTS X G c) (ht_MOST_PARTS_readers X G c) (hb_str X G c) (hb_isinstance X G c) (hb_tuple X G c) (hb_len X G c) (hb_all X G c) hr hg, p ds w0.own Q hS⟩
theorem bod_is_formed {k : Nat} {S : L3.Spec} {S_is_piece : L3.Spec} (X : K.In h) (G : h.Ns mainGlobals mg) (c : SaysX fa fn ts ck w K) (F_is_piece : Kn P w K mg base k "is_piece" P_is_piece [] S_is_piece)
    (p : ∀ ds own Q, S ds own Q → T_is_formed S_is_piece (He.ga K "FORMS") { nx := fun _ o => Rt Q .non o, rt := Rt Q } (astart N_is_formed ds) own) : Bod P w K mg base "is_formed" s_is_formed N_is_formed k S :=
  fun f cdv A outer s H E w0 ds Q hr hg hS => ⟨_, w_is_formed F_is_piece (hg_FORMS X G c) (hk_FORMS c) (hb_tuple X G c) (hb_isinstance X G c) (hb_str X G c) (hb_len X G c) (hb_zip X G c) (hb_all X G c) hr hg, p ds w0.own Q hS⟩
theorem bod_is_reader {k : Nat} {S : L3.Spec} {S_is_formed : L3.Spec} (X : K.In h) (G : h.Ns mainGlobals mg) (c : SaysX fa fn ts ck w K) (F_is_formed : Kn P w K mg base k "is_formed" P_is_formed [] S_is_formed)
    (p : ∀ ds own Q, S ds own Q → T_is_reader S_is_formed { nx := fun _ o => Rt Q .non o, rt := Rt Q } (astart N_is_reader ds) own) : Bod P w K mg base "is_reader" s_is_reader N_is_reader k S :=
  fun f cdv A outer s H E w0 ds Q hr hg hS => ⟨_, w_is_reader F_is_formed (ht_MOST_DEEP X G c) hr hg, p ds w0.own Q hS⟩
theorem bod_joined {k : Nat} {S : L3.Spec} (X : K.In h) (G : h.Ns mainGlobals mg) (c : SaysX fa fn ts ck w K) 
    (p : ∀ ds own Q, S ds own Q → T_joined { nx := fun _ o => Rt Q .non o, rt := Rt Q } (astart N_joined ds) own) : Bod P w K mg base "joined" s_joined N_joined k S :=
  fun f cdv A outer s H E w0 ds Q hr hg hS => ⟨_, w_joined (hb_tuple X G c) hr hg, p ds w0.own Q hS⟩
theorem bod_without {k : Nat} {S : L3.Spec} (X : K.In h) (G : h.Ns mainGlobals mg) (c : SaysX fa fn ts ck w K) 
    (p : ∀ ds own Q, S ds own Q → T_without { nx := fun _ o => Rt Q .non o, rt := Rt Q } (astart N_without ds) own) : Bod P w K mg base "without" s_without N_without k S :=
  fun f cdv A outer s H E w0 ds Q hr hg hS => ⟨_, w_without (hb_len X G c) hr hg, p ds w0.own Q hS⟩
theorem bod_not_twice {k : Nat} {S : L3.Spec} (X : K.In h) (G : h.Ns mainGlobals mg) (c : SaysX fa fn ts ck w K) 
    (p : ∀ ds own Q, S ds own Q → T_not_twice { nx := fun _ o => Rt Q .non o, rt := Rt Q } (astart N_not_twice ds) own) : Bod P w K mg base "not_twice" s_not_twice N_not_twice k S :=
  fun f cdv A outer s H E w0 ds Q hr hg hS => ⟨_, w_not_twice hr hg, p ds w0.own Q hS⟩
theorem bod_as_choice {k : Nat} {S : L3.Spec} (X : K.In h) (G : h.Ns mainGlobals mg) (c : SaysX fa fn ts ck w K) 
    (p : ∀ ds own Q, S ds own Q → T_as_choice { nx := fun _ o => Rt Q .non o, rt := Rt Q } (astart N_as_choice ds) own) : Bod P w K mg base "as_choice" s_as_choice N_as_choice k S :=
  fun f cdv A outer s H E w0 ds Q hr hg hS => ⟨_, w_as_choice (ht_NOTHING X G c) hr hg, p ds w0.own Q hS⟩
theorem bod_once_more {k : Nat} {S : L3.Spec} (X : K.In h) (G : h.Ns mainGlobals mg) (c : SaysX fa fn ts ck w K) 
    (p : ∀ ds own Q, S ds own Q → T_once_more { nx := fun _ o => Rt Q .non o, rt := Rt Q } (astart N_once_more ds) own) : Bod P w K mg base "once_more" s_once_more N_once_more k S :=
  fun f cdv A outer s H E w0 ds Q hr hg hS => ⟨_, w_once_more (ht_NOTHING X G c) hr hg, p ds w0.own Q hS⟩
theorem bod_alike {k : Nat} {S : L3.Spec} (X : K.In h) (G : h.Ns mainGlobals mg) (c : SaysX fa fn ts ck w K) 
    (p : ∀ ds own Q, S ds own Q → T_alike { nx := fun _ o => Rt Q .non o, rt := Rt Q } (astart N_alike ds) own) : Bod P w K mg base "alike" s_alike N_alike k S :=
  fun f cdv A outer s H E w0 ds Q hr hg hS => ⟨_, w_alike (hb_len X G c) hr hg, p ds w0.own Q hS⟩
theorem bod_by_rule {k : Nat} {S : L3.Spec} {S_joined : L3.Spec} {S_without : L3.Spec} {S_not_twice : L3.Spec} {S_as_choice : L3.Spec} {S_once_more : L3.Spec} {S_alike : L3.Spec} (X : K.In h) (G : h.Ns mainGlobals mg) (c : SaysX fa fn ts ck w K) (F_joined : Kn P w K mg base k "joined" P_joined [] S_joined) (F_without : Kn P w K mg base k "without" P_without [] S_without) (A_not_twice : KnA P w K mg base k (He.ga K "not_twice") P_not_twice S_not_twice) (A_as_choice : KnA P w K mg base k (He.ga K "as_choice") P_as_choice S_as_choice) (A_once_more : KnA P w K mg base k (He.ga K "once_more") P_once_more S_once_more) (A_alike : KnA P w K mg base k (He.ga K "alike") P_alike S_alike)
    (p : ∀ ds own Q, S ds own Q → T_by_rule S_joined S_without S_not_twice S_as_choice S_once_more S_alike (He.ga K "alike") (He.ga K "once_more") (He.ga K "as_choice") (He.ga K "not_twice") { nx := fun _ o => Rt Q .non o, rt := Rt Q } (astart N_by_rule ds) own) : Bod P w K mg base "by_rule" s_by_rule N_by_rule k S :=
  fun f cdv A outer s H E w0 ds Q hr hg hS => ⟨_, w_by_rule F_joined F_without A_not_twice A_as_choice A_once_more A_alike (ht_NOTHING X G c) (ht_NEVER X G c) (hm_alike X G c) (hm_once_more X G c) (hm_as_choice X G c) (hm_not_twice X G c) hr hg, p ds w0.own Q hS⟩
theorem bod_turned {k : Nat} {S : L3.Spec} {S_by_rule : L3.Spec} {S_is_reader : L3.Spec} (X : K.In h) (G : h.Ns mainGlobals mg) (c : SaysX fa fn ts ck w K) (F_by_rule : Kn P w K mg base k "by_rule" P_by_rule [] S_by_rule) (F_is_reader : Kn P w K mg base k "is_reader" P_is_reader [] S_is_reader)
    (p : ∀ ds own Q, S ds own Q → T_turned S_by_rule S_is_reader { nx := fun _ o => Rt Q .non o, rt := Rt Q } (astart N_turned ds) own) : Bod P w K mg base "turned" s_turned N_turned k S :=
  fun f cdv A outer s H E w0 ds Q hr hg hS => ⟨_, w_turned F_by_rule F_is_reader hr hg, p ds w0.own Q hS⟩
theorem bod_law_pen {k : Nat} {S : L3.Spec} (X : K.In h) (G : h.Ns mainGlobals mg) (c : SaysX fa fn ts ck w K) 
    (p : ∀ ds own Q, S ds own Q → T_law_pen { nx := fun _ o => Rt Q .non o, rt := Rt Q } (astart N_law_pen ds) own) : Bod P w K mg base "_law_pen" s_law_pen N_law_pen k S :=
  fun f cdv A outer s H E w0 ds Q hr hg hS => ⟨_, w_law_pen (hb_list X G c) hr hg, p ds w0.own Q hS⟩
theorem bod_law_draw {k : Nat} {S : L3.Spec} (X : K.In h) (G : h.Ns mainGlobals mg) (c : SaysX fa fn ts ck w K) 
    (p : ∀ ds own Q, S ds own Q → T_law_draw { nx := fun _ o => Rt Q .non o, rt := Rt Q } (astart N_law_draw ds) own) : Bod P w K mg base "_law_draw" s_law_draw N_law_draw k S :=
  fun f cdv A outer s H E w0 ds Q hr hg hS => ⟨_, w_law_draw (hb_len X G c) (hb_abs X G c) hr hg, p ds w0.own Q hS⟩
theorem bod_law_names {k : Nat} {S : L3.Spec} {S_law_draw : L3.Spec} (X : K.In h) (G : h.Ns mainGlobals mg) (c : SaysX fa fn ts ck w K) (F_law_draw : Kn P w K mg base k "_law_draw" P_law_draw [] S_law_draw)
    (p : ∀ ds own Q, S ds own Q → T_law_names S_law_draw { nx := fun _ o => Rt Q .non o, rt := Rt Q } (astart N_law_names ds) own) : Bod P w K mg base "_law_names" s_law_names N_law_names k S :=
  fun f cdv A outer s H E w0 ds Q hr hg hS => ⟨_, w_law_names F_law_draw (hb_range X G c) (hb_len X G c) hr hg, p ds w0.own Q hS⟩
theorem bod_law_leaf {k : Nat} {S : L3.Spec} {S_law_draw : L3.Spec} (X : K.In h) (G : h.Ns mainGlobals mg) (c : SaysX fa fn ts ck w K) (F_law_draw : Kn P w K mg base k "_law_draw" P_law_draw [] S_law_draw)
    (p : ∀ ds own Q, S ds own Q → T_law_leaf S_law_draw { nx := fun _ o => Rt Q .non o, rt := Rt Q } (astart N_law_leaf ds) own) : Bod P w K mg base "_law_leaf" s_law_leaf N_law_leaf k S :=
  fun f cdv A outer s H E w0 ds Q hr hg hS => ⟨_, w_law_leaf F_law_draw hr hg, p ds w0.own Q hS⟩
theorem bod_law_taking {k : Nat} {S : L3.Spec} {S_law_draw : L3.Spec} {S_law_leaf : L3.Spec} {S_law_part : L3.Spec} (X : K.In h) (G : h.Ns mainGlobals mg) (c : SaysX fa fn ts ck w K) (F_law_draw : Kn P w K mg base k "_law_draw" P_law_draw [] S_law_draw) (F_law_leaf : Kn P w K mg base k "_law_leaf" P_law_leaf [] S_law_leaf) (F_law_part : Kn P w K mg base k "_law_part" P_law_part [] S_law_part)
    (p : ∀ ds own Q, S ds own Q → T_law_taking S_law_draw S_law_leaf S_law_part { nx := fun _ o => Rt Q .non o, rt := Rt Q } (astart N_law_taking ds) own) : Bod P w K mg base "_law_taking" s_law_taking N_law_taking k S :=
  fun f cdv A outer s H E w0 ds Q hr hg hS => ⟨_, w_law_taking F_law_draw F_law_leaf F_law_part (hb_range X G c) (hb_len X G c) (hb_tuple X G c) hr hg, p ds w0.own Q hS⟩
theorem bod_law_some {k : Nat} {S : L3.Spec} {S_law_part : L3.Spec} (X : K.In h) (G : h.Ns mainGlobals mg) (c : SaysX fa fn ts ck w K) (F_law_part : Kn P w K mg base k "_law_part" P_law_part [] S_law_part)
    (p : ∀ ds own Q, S ds own Q → T_law_some S_law_part { nx := fun _ o => Rt Q .non o, rt := Rt Q } (astart N_law_some ds) own) : Bod P w K mg base "_law_some" s_law_some N_law_some k S :=
  fun f cdv A outer s H E w0 ds Q hr hg hS => ⟨_, w_law_some F_law_part (hb_range X G c) (hb_tuple X G c) hr hg, p ds w0.own Q hS⟩
theorem bod_law_part {k : Nat} {S : L3.Spec} {S_law_draw : L3.Spec} {S_law_leaf : L3.Spec} {S_law_taking : L3.Spec} {S_law_some : L3.Spec} {S_law_form : L3.Spec} (X : K.In h) (G : h.Ns mainGlobals mg) (c : SaysX fa fn ts ck w K) (F_law_draw : Kn P w K mg base k "_law_draw" P_law_draw [] S_law_draw) (F_law_leaf : Kn P w K mg base k "_law_leaf" P_law_leaf [] S_law_leaf) (F_law_taking : Kn P w K mg base k "_law_taking" P_law_taking [] S_law_taking) (F_law_some : Kn P w K mg base k "_law_some" P_law_some [] S_law_some) (F_law_form : Kn P w K mg base k "_law_form" P_law_form [] S_law_form)
    (p : ∀ ds own Q, S ds own Q → T_law_part S_law_draw S_law_leaf S_law_taking S_law_some S_law_form { nx := fun _ o => Rt Q .non o, rt := Rt Q } (astart N_law_part ds) own) : Bod P w K mg base "_law_part" s_law_part N_law_part k S :=
  fun f cdv A outer s H E w0 ds Q hr hg hS => ⟨_, w_law_part F_law_draw F_law_leaf F_law_taking F_law_some F_law_form (hb_len X G c) hr hg, p ds w0.own Q hS⟩
theorem bod_law_form {k : Nat} {S : L3.Spec} {S_law_some : L3.Spec} {S_law_taking : L3.Spec} {S_law_draw : L3.Spec} (X : K.In h) (G : h.Ns mainGlobals mg) (c : SaysX fa fn ts ck w K) (F_law_some : Kn P w K mg base k "_law_some" P_law_some [] S_law_some) (F_law_taking : Kn P w K mg base k "_law_taking" P_law_taking [] S_law_taking) (F_law_draw : Kn P w K mg base k "_law_draw" P_law_draw [] S_law_draw)
    (p : ∀ ds own Q, S ds own Q → T_law_form S_law_some S_law_taking S_law_draw { nx := fun _ o => Rt Q .non o, rt := Rt Q } (astart N_law_form ds) own) : Bod P w K mg base "_law_form" s_law_form N_law_form k S :=
  fun f cdv A outer s H E w0 ds Q hr hg hS => ⟨_, w_law_form F_law_some F_law_taking F_law_draw (hb_max X G c) hr hg, p ds w0.own Q hS⟩
theorem bod_law_within {k : Nat} {S : L3.Spec} (X : K.In h) (G : h.Ns mainGlobals mg) (c : SaysX fa fn ts ck w K) 
    (p : ∀ ds own Q, S ds own Q → T_law_within { nx := fun _ o => Rt Q .non o, rt := Rt Q } (astart N_law_within ds) own) : Bod P w K mg base "_law_within" s_law_within N_law_within k S :=
  fun f cdv A outer s H E w0 ds Q hr hg hS => ⟨_, w_law_within (hb_list X G c) hr hg, p ds w0.own Q hS⟩
theorem bod_law_bound {k : Nat} {S : L3.Spec} {S_law_draw : L3.Spec} {S_law_within : L3.Spec} {S_law_bound : L3.Spec} (X : K.In h) (G : h.Ns mainGlobals mg) (c : SaysX fa fn ts ck w K) (F_law_draw : Kn P w K mg base k "_law_draw" P_law_draw [] S_law_draw) (F_law_within : Kn P w K mg base k "_law_within" P_law_within [] S_law_within) (F_law_bound : Kn P w K mg base k "_law_bound" P_law_bound [] S_law_bound)
    (p : ∀ ds own Q, S ds own Q → T_law_bound S_law_draw S_law_within S_law_bound { nx := fun _ o => Rt Q .non o, rt := Rt Q } (astart N_law_bound ds) own) : Bod P w K mg base "_law_bound" s_law_bound N_law_bound k S :=
  fun f cdv A outer s H E w0 ds Q hr hg hS => ⟨_, w_law_bound F_law_draw F_law_within F_law_bound (hb_tuple X G c) hr hg, p ds w0.own Q hS⟩
theorem bod_law_joined {k : Nat} {S : L3.Spec} (X : K.In h) (G : h.Ns mainGlobals mg) (c : SaysX fa fn ts ck w K) 
    (p : ∀ ds own Q, S ds own Q → T_law_joined { nx := fun _ o => Rt Q .non o, rt := Rt Q } (astart N_law_joined ds) own) : Bod P w K mg base "_law_joined" s_law_joined N_law_joined k S :=
  fun f cdv A outer s H E w0 ds Q hr hg hS => ⟨_, w_law_joined hr hg, p ds w0.own Q hS⟩
theorem bod_law_other {k : Nat} {S : L3.Spec} (X : K.In h) (G : h.Ns mainGlobals mg) (c : SaysX fa fn ts ck w K) 
    (p : ∀ ds own Q, S ds own Q → T_law_other { nx := fun _ o => Rt Q .non o, rt := Rt Q } (astart N_law_other ds) own) : Bod P w K mg base "_law_other" s_law_other N_law_other k S :=
  fun f cdv A outer s H E w0 ds Q hr hg hS => ⟨_, w_law_other (hb_len X G c) (hb_int X G c) hr hg, p ds w0.own Q hS⟩
theorem bod_law_due {k : Nat} {S : L3.Spec} {S_law_joined : L3.Spec} {S_law_other : L3.Spec} (X : K.In h) (G : h.Ns mainGlobals mg) (c : SaysX fa fn ts ck w K) (F_law_joined : Kn P w K mg base k "_law_joined" P_law_joined [] S_law_joined) (F_law_other : Kn P w K mg base k "_law_other" P_law_other [] S_law_other)
    (p : ∀ ds own Q, S ds own Q → T_law_due S_law_joined S_law_other { nx := fun _ o => Rt Q .non o, rt := Rt Q } (astart N_law_due ds) own) : Bod P w K mg base "_law_due" s_law_due N_law_due k S :=
  fun f cdv A outer s H E w0 ds Q hr hg hS => ⟨_, w_law_due F_law_joined F_law_other (hb_len X G c) hr hg, p ds w0.own Q hS⟩
theorem bod_law_deeper {k : Nat} {S : L3.Spec} {S_law_draw : L3.Spec} (X : K.In h) (G : h.Ns mainGlobals mg) (c : SaysX fa fn ts ck w K) (F_law_draw : Kn P w K mg base k "_law_draw" P_law_draw [] S_law_draw)
    (p : ∀ ds own Q, S ds own Q → T_law_deeper S_law_draw { nx := fun _ o => Rt Q .non o, rt := Rt Q } (astart N_law_deeper ds) own) : Bod P w K mg base "_law_deeper" s_law_deeper N_law_deeper k S :=
  fun f cdv A outer s H E w0 ds Q hr hg hS => ⟨_, w_law_deeper F_law_draw (hb_range X G c) hr hg, p ds w0.own Q hS⟩
theorem bod_law_wide {k : Nat} {S : L3.Spec} {S_law_draw : L3.Spec} {S_law_leaf : L3.Spec} (X : K.In h) (G : h.Ns mainGlobals mg) (c : SaysX fa fn ts ck w K) (F_law_draw : Kn P w K mg base k "_law_draw" P_law_draw [] S_law_draw) (F_law_leaf : Kn P w K mg base k "_law_leaf" P_law_leaf [] S_law_leaf)
    (p : ∀ ds own Q, S ds own Q → T_law_wide S_law_draw S_law_leaf { nx := fun _ o => Rt Q .non o, rt := Rt Q } (astart N_law_wide ds) own) : Bod P w K mg base "_law_wide" s_law_wide N_law_wide k S :=
  fun f cdv A outer s H E w0 ds Q hr hg hS => ⟨_, w_law_wide F_law_draw F_law_leaf (hb_range X G c) (hb_tuple X G c) hr hg, p ds w0.own Q hS⟩
theorem bod_law_right {k : Nat} {S : L3.Spec} {S_law_due : L3.Spec} {S_is_reader : L3.Spec} {S_turned : L3.Spec} (X : K.In h) (G : h.Ns mainGlobals mg) (c : SaysX fa fn ts ck w K) (F_law_due : Kn P w K mg base k "_law_due" P_law_due [] S_law_due) (F_is_reader : Kn P w K mg base k "is_reader" P_is_reader [] S_is_reader) (F_turned : Kn P w K mg base k "turned" P_turned [] S_turned) (F_turned_k0_rule_reader : KnP P w K mg base k "turned" P_turned 0 ["rule", "reader"] [] [1, 0] S_turned)
    (p : ∀ ds own Q, S ds own Q → T_law_right S_law_due S_is_reader S_turned { nx := fun _ o => Rt Q .non o, rt := Rt Q } (astart N_law_right ds) own) : Bod P w K mg base "_law_right" s_law_right N_law_right k S :=
  fun f cdv A outer s H E w0 ds Q hr hg hS => ⟨_, w_law_right F_law_due F_is_reader F_turned F_turned_k0_rule_reader (hb_repr X G c) (hb_range X G c) hr hg, p ds w0.own Q hS⟩
theorem bod_law {k : Nat} {S : L3.Spec} {S_law_pen : L3.Spec} {S_law_names : L3.Spec} {S_law_part : L3.Spec} {S_law_wide : L3.Spec} {S_law_form : L3.Spec} {S_law_bound : L3.Spec} {S_law_draw : L3.Spec} {S_law_leaf : L3.Spec} {S_law_deeper : L3.Spec} {S_law_right : L3.Spec} (X : K.In h) (G : h.Ns mainGlobals mg) (c : SaysX fa fn ts ck w K) (F_law_pen : Kn P w K mg base k "_law_pen" P_law_pen [] S_law_pen) (F_law_names : Kn P w K mg base k "_law_names" P_law_names [] S_law_names) (F_law_part : Kn P w K mg base k "_law_part" P_law_part [] S_law_part) (F_law_wide : Kn P w K mg base k "_law_wide" P_law_wide [] S_law_wide) (F_law_form : Kn P w K mg base k "_law_form" P_law_form [] S_law_form) (F_law_bound : Kn P w K mg base k "_law_bound" P_law_bound [] S_law_bound) (F_law_draw : Kn P w K mg base k "_law_draw" P_law_draw [] S_law_draw) (F_law_leaf : Kn P w K mg base k "_law_leaf" P_law_leaf [] S_law_leaf) (F_law_deeper : Kn P w K mg base k "_law_deeper" P_law_deeper [] S_law_deeper) (F_law_right : Kn P w K mg base k "_law_right" P_law_right [] S_law_right)
    (p : ∀ ds own Q, S ds own Q → T_law S_law_pen S_law_names S_law_part S_law_wide S_law_form S_law_bound S_law_draw S_law_leaf S_law_deeper S_law_right { nx := fun _ o => Rt Q .non o, rt := Rt Q } (astart N_law ds) own) : Bod P w K mg base "law" s_law N_law k S :=
  fun f cdv A outer s H E w0 ds Q hr hg hS => ⟨_, w_law F_law_pen F_law_names F_law_part F_law_wide F_law_form F_law_bound F_law_draw F_law_leaf F_law_deeper F_law_right (ht_RULES X G c) (hb_range X G c) hr hg, p ds w0.own Q hS⟩
end

/-! ### the chain: each def keeps its promise -/
theorem bod_no {P : Program} {w : World} {K : PySem.W.Frag} {mg : Str → Option Value} {base : Heap} {x : Str} {st : Stmt} {N : List Str} {k : Nat} {S : L3.Spec} (h : ∀ ds o Q, ¬ S ds o Q) : Bod P w K mg base x st N k S := fun _ _ _ _ _ _ _ _ _ _ _ _ hS => absurd hS (h _ _ _)
def S_none : L3.Spec := fun _ _ _ => False
section
variable {P : Program} {w : World} {K : PySem.W.Frag} {h : Heap} {mg : Str → Option Value} {base : Heap} (X : K.In h) (G : h.Ns mainGlobals mg) (c : SaysX fa fn ts ck w K)
include X G c
theorem q_start : Kn P w K mg base 1 "_law_pen" P_law_pen [] S_start := kn_def (h_law_pen X G c) sc_law_pen bd_law_pen (fun _ _ _ ⟨_, e, _⟩ => by rw [e]; rfl) (bod_law_pen X G c fun _ _ _ h => p_start h)
theorem q_draw : Kn P w K mg base 1 "_law_draw" P_law_draw [] S_draw := kn_def (h_law_draw X G c) sc_law_draw bd_law_draw (fun _ _ _ ⟨_, _, _, _, e, _⟩ => by rw [e]; rfl) (bod_law_draw X G c fun _ _ _ h => p_draw h)
theorem q_names : Kn P w K mg base 2 "_law_names" P_law_names [] S_names := kn_def (h_law_names X G c) sc_law_names bd_law_names (fun _ _ _ ⟨_, _, _, _, e, _⟩ => by rw [e]; rfl) (bod_law_names X G c (q_draw X G c) fun _ _ _ h => p_names uDraw h)
theorem q_leaf : Kn P w K mg base 2 "_law_leaf" P_law_leaf [] S_leaf := kn_def (h_law_leaf X G c) sc_law_leaf bd_law_leaf (fun _ _ _ ⟨_, _, _, e, _⟩ => by rw [e]; rfl) (bod_law_leaf X G c (q_draw X G c) fun _ _ _ h => p_leaf uDraw h)
theorem q_taking' {n k : Nat} (hk : 2 ≤ k) (q : Kn P w K mg base k "_law_part" P_law_part [] (S_part n)) : Kn P w K mg base (k + 1) "_law_taking" P_law_taking [] (S_taking n) :=
  kn_def (h_law_taking X G c) sc_law_taking bd_law_taking (fun _ _ _ ⟨_, _, _, _, _, _, _, e, _⟩ => by rw [e]; rfl) (bod_law_taking X G c ((q_draw X G c).mono (by omega)) ((q_leaf X G c).mono hk) q fun _ _ _ h => p_taking uDraw uLeaf (uPart n) h)
theorem q_some' {n k : Nat} (q : Kn P w K mg base k "_law_part" P_law_part [] (S_part n)) : Kn P w K mg base (k + 1) "_law_some" P_law_some [] (S_some n) :=
  kn_def (h_law_some X G c) sc_law_some bd_law_some (fun _ _ _ ⟨_, _, _, _, _, _, _, _, e, _⟩ => by rw [e]; rfl) (bod_law_some X G c q fun _ _ _ h => p_some (uPart n) h)
theorem q_form' {n k : Nat} (hk : 2 ≤ k) (q : Kn P w K mg base k "_law_part" P_law_part [] (S_part n)) : Kn P w K mg base (k + 2) "_law_form" P_law_form [] (S_form n) :=
  kn_def (k := k + 1) (h_law_form X G c) sc_law_form bd_law_form (fun _ _ _ ⟨_, _, _, _, _, _, _, e, _⟩ => by rw [e]; rfl) (bod_law_form X G c (q_some' X G c q) (q_taking' X G c hk q) ((q_draw X G c).mono (by omega)) fun _ _ _ h => p_form (uSome n) (uTaking n) uDraw h)
theorem q_part : ∀ n, Kn P w K mg base (3 + 3 * n) "_law_part" P_law_part [] (S_part n)
  | 0 => kn_def (h_law_part X G c) sc_law_part bd_law_part (fun _ _ _ ⟨_, _, _, _, _, _, _, e, _⟩ => by rw [e]; rfl) (bod_no (by rintro ds o Q ⟨_, _, _, _, _, _, _, _, _, _, _, h1, h2, _⟩; omega))
  | n + 1 => kn_def (k := 3 + 3 * n + 2) (h_law_part X G c) sc_law_part bd_law_part (fun _ _ _ ⟨_, _, _, _, _, _, _, e, _⟩ => by rw [e]; rfl)
      (bod_law_part X G c ((q_draw X G c).mono (by omega)) ((q_leaf X G c).mono (by omega)) ((q_taking' X G c (by omega) (q_part n)).mono (by omega)) ((q_some' X G c (q_part n)).mono (by omega)) (q_form' X G c (by omega) (q_part n)) fun _ _ _ h => p_part uDraw uLeaf (uTaking n) (uSome n) (uForm n) h)
theorem q_within : Kn P w K mg base 1 "_law_within" P_law_within [] S_within := kn_def (h_law_within X G c) sc_law_within bd_law_within (fun _ _ _ ⟨_, e, _⟩ => by rw [e]; rfl) (bod_law_within X G c fun _ _ _ h => p_within h)
theorem q_bound : ∀ n, Kn P w K mg base (2 + n) "_law_bound" P_law_bound [] (S_bound n)
  | 0 => kn_def (h_law_bound X G c) sc_law_bound bd_law_bound (fun _ _ _ ⟨_, _, _, _, e, _⟩ => by rw [e]; rfl) (bod_no S_bound_lt)
  | n + 1 => kn_def (k := 2 + n) (h_law_bound X G c) sc_law_bound bd_law_bound (fun _ _ _ ⟨_, _, _, _, e, _⟩ => by rw [e]; rfl) (bod_law_bound X G c ((q_draw X G c).mono (by omega)) ((q_within X G c).mono (by omega)) (q_bound n) fun _ _ _ h => p_bound uDraw uWithin (uBound n) h)
theorem q_deeper : Kn P w K mg base 2 "_law_deeper" P_law_deeper [] S_deeper := kn_def (h_law_deeper X G c) sc_law_deeper bd_law_deeper (fun _ _ _ ⟨_, _, _, _, _, e, _⟩ => by rw [e]; rfl) (bod_law_deeper X G c (q_draw X G c) fun _ _ _ h => p_deeper uDraw h)
theorem q_wide : Kn P w K mg base 3 "_law_wide" P_law_wide [] S_wide := kn_def (h_law_wide X G c) sc_law_wide bd_law_wide (fun _ _ _ ⟨_, _, _, e, _⟩ => by rw [e]; rfl) (bod_law_wide X G c ((q_draw X G c).mono (by omega)) (q_leaf X G c) fun _ _ _ h => p_wide uDraw uLeaf h)
theorem q_text : KnP P w K mg base 1 "is_text" P_is_text 1 ["most"] [] [0, 1] S_text := knP_def (h_is_text X G c) sc_is_text bdp_is_text_k1_most (fun _ _ _ ⟨_, _, e, _⟩ => by rw [e]; rfl) (bod_is_text X G c fun _ _ _ h => p_text h)
theorem q_sg : Bod P w K mg base "is_signs" s_is_signs N_is_signs 1 S_sg := bod_is_signs X G c (q_text X G c) fun _ _ _ h => p_signs' uText h
theorem q_sgP : KnP P w K mg base 2 "is_signs" P_is_signs 1 ["least"] [] [0, 1] S_sg := knP_def (h_is_signs X G c) sc_is_signs bdp_is_signs_k1_least (fun _ _ _ ⟨_, _, e, _⟩ => by rw [e]; rfl) (q_sg X G c)
theorem q_sgD : Kn P w K mg base 2 "is_signs" P_is_signs [.int 0] S_sg := kn_defD (n := 1) (h_is_signs X G c) sc_is_signs (by simp) rfl bdd_is_signs (fun G => by unfold Dts; exact ⟨_, _, rfl, by unfold Dt; rfl, by unfold Dts; rfl⟩) (fun _ _ _ ⟨_, _, e, _⟩ => by rw [e]; rfl) (q_sg X G c)
theorem q_nm : Kn P w K mg base 1 "is_name" P_is_name [] S_nm := kn_def (h_is_name X G c) sc_is_name bd_is_name (fun _ _ _ ⟨_, e, _⟩ => by rw [e]; rfl) (bod_is_name X G c fun _ _ _ h => p_name h)
theorem q_piece' {n k : Nat} (hk : 2 ≤ k) (q : Kn P w K mg base k "is_formed" P_is_formed [] (S_formed n)) : Kn P w K mg base (k + 1) "is_piece" P_is_piece [] (S_piece n) :=
  kn_def (h_is_piece X G c) sc_is_piece bd_is_piece (fun _ _ _ ⟨_, _, e, _⟩ => by rw [e]; rfl) (bod_is_piece X G c ((q_sgP X G c).mono hk) ((q_sgD X G c).mono hk) ((q_nm X G c).mono (by omega)) q fun _ _ _ h => p_piece uSg uNm (uFormed n) h)
theorem q_formed : ∀ n, Kn P w K mg base (3 + 2 * n) "is_formed" P_is_formed [] (S_formed n)
  | 0 =>
    have q : Kn P w K mg base 2 "is_piece" P_is_piece [] S_none := kn_def (h_is_piece X G c) sc_is_piece bd_is_piece (fun _ _ _ h => h.elim) (bod_no fun _ _ _ h => h)
    kn_def (h_is_formed X G c) sc_is_formed bd_is_formed (fun _ _ _ ⟨_, _, e, _⟩ => by rw [e]; rfl) (bod_is_formed X G c q fun _ _ _ h => p_formed (fun m e => absurd e (by omega)) h)
  | n + 1 => kn_def (k := 3 + 2 * n + 1) (h_is_formed X G c) sc_is_formed bd_is_formed (fun _ _ _ ⟨_, _, e, _⟩ => by rw [e]; rfl) (bod_is_formed X G c (q_piece' X G c (by omega) (q_formed n)) fun _ _ _ h => p_formed (fun m e => by cases e; exact uPiece n) h)
theorem q_reader : Kn P w K mg base 20 "is_reader" P_is_reader [] S_reader := kn_def (h_is_reader X G c) sc_is_reader bd_is_reader (fun _ _ _ ⟨_, e, _⟩ => by rw [e]; rfl) (bod_is_reader X G c (q_formed X G c 8) fun _ _ _ h => p_is_reader (uFormed 8) h)
theorem q_joined : Kn P w K mg base 1 "joined" P_joined [] S_join := kn_def (h_joined X G c) sc_joined bd_joined (fun _ _ _ ⟨_, _, e, _⟩ => by rw [e]; rfl) (bod_joined X G c fun _ _ _ h => p_joined h)
theorem q_without : Kn P w K mg base 1 "without" P_without [] S_other := kn_def (h_without X G c) sc_without bd_without (fun _ _ _ ⟨_, _, _, e, _⟩ => by rw [e]; rfl) (bod_without X G c fun _ _ _ h => p_without h)
theorem q_by_rule : Kn P w K mg base 2 "by_rule" P_by_rule [] S_rule :=
  kn_def (h_by_rule X G c) sc_by_rule bd_by_rule (fun _ _ _ ⟨_, _, e, _⟩ => by rw [e]; rfl) (bod_by_rule X G c (q_joined X G c) (q_without X G c)
    (knA_def (ha_not_twice c) sc_not_twice bd_not_twice (fun _ _ _ ⟨_, e, _⟩ => by rw [e]; rfl) (bod_not_twice X G c fun _ _ _ h => p_not_twice h))
    (knA_def (ha_as_choice c) sc_as_choice bd_as_choice (fun _ _ _ ⟨_, e, _⟩ => by rw [e]; rfl) (bod_as_choice X G c fun _ _ _ h => p_as_choice h))
    (knA_def (ha_once_more c) sc_once_more bd_once_more (fun _ _ _ ⟨_, e, _⟩ => by rw [e]; rfl) (bod_once_more X G c fun _ _ _ h => p_once_more h))
    (knA_def (ha_alike c) sc_alike bd_alike (fun _ _ _ ⟨_, e, _⟩ => by rw [e]; rfl) (bod_alike X G c fun _ _ _ h => p_alike h))
    fun _ _ _ h => p_by_rule uJoin uOther (uOne twiceR) (uOne maybeR) (uOne manyR) (uOne sameR) h)
theorem q_turnB : Bod P w K mg base "turned" s_turned N_turned 20 S_turn := bod_turned X G c ((q_by_rule X G c).mono (by omega)) (q_reader X G c) fun _ _ _ h => p_turned uRule uReader h
theorem q_turned : Kn P w K mg base 21 "turned" P_turned [] S_turn := kn_def (h_turned X G c) sc_turned bd_turned (fun _ _ _ ⟨_, _, e, _⟩ => by rw [e]; rfl) (q_turnB X G c)
theorem q_turnedP : KnP P w K mg base 21 "turned" P_turned 0 ["rule", "reader"] [] [1, 0] S_turn := knP_def (hasK_nil (h_turned X G c)) sc_turned bdp_turned_k0_rule_reader (fun _ _ _ ⟨_, _, e, _⟩ => by rw [e]; rfl) (q_turnB X G c)
theorem q_law_joined : Kn P w K mg base 1 "_law_joined" P_law_joined [] S_join := kn_def (h_law_joined X G c) sc_law_joined bd_law_joined (fun _ _ _ ⟨_, _, e, _⟩ => by rw [e]; rfl) (bod_law_joined X G c fun _ _ _ h => p_law_joined h)
theorem q_law_other : Kn P w K mg base 1 "_law_other" P_law_other [] S_other := kn_def (h_law_other X G c) sc_law_other bd_law_other (fun _ _ _ ⟨_, _, _, e, _⟩ => by rw [e]; rfl) (bod_law_other X G c fun _ _ _ h => p_law_other h)
theorem q_due : Kn P w K mg base 2 "_law_due" P_law_due [] S_rule := kn_def (h_law_due X G c) sc_law_due bd_law_due (fun _ _ _ ⟨_, _, e, _⟩ => by rw [e]; rfl) (bod_law_due X G c (q_law_joined X G c) (q_law_other X G c) fun _ _ _ h => p_law_due uJoin uOther h)
theorem q_right : Kn P w K mg base 22 "_law_right" P_law_right [] S_right := kn_def (h_law_right X G c) sc_law_right bd_law_right (fun _ _ _ ⟨_, e, _⟩ => by rw [e]; rfl) (bod_law_right X G c ((q_due X G c).mono (by omega)) ((q_reader X G c).mono (by omega)) (q_turned X G c) (q_turnedP X G c) fun _ _ _ h => p_right uRule uReader uTurn h)
theorem q_law : Bod P w K mg base "law" s_law N_law 22 (spLaw 63) :=
  bod_law (k := 22) X G c ((q_start X G c).mono (by omega)) ((q_names X G c).mono (by omega)) (q_part X G c 4 |>.mono (by omega)) ((q_wide X G c).mono (by omega)) ((q_form' X G c (k := 3 + 3 * 3) (by omega) (q_part X G c 3)).mono (by omega)) ((q_bound X G c 20).mono (by omega)) ((q_draw X G c).mono (by omega)) ((q_leaf X G c).mono (by omega)) ((q_deeper X G c).mono (by omega)) (q_right X G c)
    fun _ _ _ h => p_law uStart uNames (uPart 4) uWide (uForm 3) (uBound 20) uDraw uLeaf uDeeper uRight h
end
theorem facts {P : Program} {w : World} {K : PySem.W.Frag} {h : Heap} {mg : Str → Option Value} {fa' : Addr} (X : K.In h) (G : h.Ns mainGlobals mg) (hmg : mg "law" = some (.ref fa')) (c : SaysX fa fn ts ck w K) :
    ∃ fd : FuncData, (∀ (s : Shared) (u : Value), BindsTo s fd ⟨[u], []⟩ [("_law_script", u)]) ∧ ∀ base : Heap, K.In base → base.Ns mainGlobals mg → FnG P w K mg base CX0 23 fa' fd ["_law_script"] (spOf K (spLaw 63)) := by
  obtain ⟨f, fd, F, hm⟩ := h_law X G c
  have e := hmg.symm.trans hm
  cases e
  exact ⟨fd, fun s u => bindsOf F bd_law s [u] rfl, fun base _ _ => def_ok (funX F) sc_law (fun _ _ _ ⟨_, e, _⟩ => by rw [e]; rfl) (q_law X G c fa')⟩

end R80
open PySem PySem.W PyProof.Rows
set_option maxRecDepth 100000 in
set_option maxHeartbeats 0 in
theorem PySem.Challenge.cw_smallreaders_k80_readers_turned_holds : PySem.Challenge.rw_smallreaders_k80_readers_turned.Holds := by
  w_on; o_law; k_head; (case hw => w_witness2)
  k_fill
  refine L3.walkG (n := 63) (l := PySem.Challenge.rw_smallreaders_k80_readers_turned) (k := 23) (x := "_law_script") rfl (by decide) rfl ⟨rfl, by decide, by decide⟩ (fun w h Y => PySem.W.kIn_of Y) ?F
  case F =>
    intro w mg fa h KX G hmg
    have hmg : mg ("law" : Str) = some (.ref fa) := hmg
    refine R80.facts KX G hmg ⟨?c1, ?c2⟩
    case c1 =>
      show He.obsT _ _ _ _ = He.valT _ _ _
      kernel_rfl
    case c2 => kernel_rfl
#print axioms PySem.Challenge.cw_smallreaders_k80_readers_turned_holds
