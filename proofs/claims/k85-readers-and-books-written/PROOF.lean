import PyProof.Rows.All
import Wide.All
import OpenK.AllK
import Wide.FinOn
import HandS.ForMost
import HandS.FStr
import HandS.TupAny
import KE.KUnpackStar
import HandS.ForExc
import HandS.Wide
import PyProof.Rows.RuleB_pow
import HandS.IsInst
import HandS.Defaults
import PyProof.ReprRoads
import HandS.Ends
import HandS.Dict
import PyProof.ReprLen
import HandS.Head0
import HandS.Head1
import HandS.Head2
import HandS.HeadEnd
import HandS.HeadHook1
import HandS.HeadHook2
import HandS.HeadHook3
import PySem.Challenge.RW_smallreaders_k85_readers_and_books_writt
set_option Elab.async false
set_option linter.all false
set_option maxRecDepth 100000
set_option maxHeartbeats 1000000
namespace L3
open PySem PySem.Spec L2

/-- data, as a law's proof sees it: tuples, and lists and dicts that stand still, by what is in them -/
inductive D where
  | non | bl (b : Bool) | int (i : Int) | str (x : Str) | ty (n : String)
  | tup (xs : List D) | lst (xs : List D) | dct (kvs : List (D × D)) | ref (a : Addr) | kls (xs : List D)

def kD : Key → D
  | .inl i => .int i
  | .inr x => .str x

mutual
def Dt (K : PySem.W.Frag) (G : Hp) : D → V → Prop
  | .non, v => v = .non
  | .bl b, v => v = .bl b
  | .int i, v => v = .int i
  | .str x, v => v = .str x
  | .ty n, v => v = .ty n
  | .tup ds, v => ∃ a vs, v = .ref a ∧ SqT K G a vs ∧ Dts K G ds vs
  | .lst ds, v => ∃ a vs, v = .ref a ∧ Rd G a (.lst vs) ∧ Dts K G ds vs
  | .dct kvs, v => ∃ a, v = .ref a ∧ ((∃ es, G a = some (.dK es) ∧ DkK K G kvs es) ∨ ∃ es, G a = some (.dT es) ∧ DkT K G kvs es)
  | .ref a, v => v = .ref a
  | .kls ds, v => ∃ a vs, v = .ref a ∧ SqL K G a vs ∧ Dts K G ds vs
def Dts (K : PySem.W.Frag) (G : Hp) : List D → List V → Prop
  | [], vs => vs = []
  | d :: ds, vs => ∃ v vr, vs = v :: vr ∧ Dt K G d v ∧ Dts K G ds vr
def DkK (K : PySem.W.Frag) (G : Hp) : List (D × D) → List (Key × V) → Prop
  | [], es => es = []
  | (k, d) :: r, es => ∃ x v er, es = (x, v) :: er ∧ k = kD x ∧ Dt K G d v ∧ DkK K G r er
def DkT (K : PySem.W.Frag) (G : Hp) : List (D × D) → List (List Key × V) → Prop
  | [], es => es = []
  | (k, d) :: r, es => ∃ x v er, es = (x, v) :: er ∧ k = .tup (x.map kD) ∧ Dt K G d v ∧ DkT K G r er
end

def Sub (H H' : Hp) : Prop := ∀ a o, H a = some o → H' a = some o
theorem Sub.refl (H : Hp) : Sub H H := fun _ _ h => h
theorem Sub.trans {H H1 H2 : Hp} (a : Sub H H1) (b : Sub H1 H2) : Sub H H2 := fun x o h => b x o (a x o h)
theorem Sub.new {H : Hp} {p : Addr} {o : HO} (h : H p = none) : Sub H (upd H p o) := fun a u e => by
  rw [upd_ne (ne_of_none e h)]; exact e
theorem Sub.rd {H H' : Hp} {a : Addr} {u : HO} (e : Sub H H') (h : Rd H a u) : Rd H' a u := by
  rcases h with h | ⟨o, h⟩
  · exact .inl (e a _ h)
  · exact .inr ⟨o, e a _ h⟩
theorem Sub.sqL {K : PySem.W.Frag} {H H' : Hp} {a : Addr} {xs : List V} (e : Sub H H') (h : SqL K H a xs) : SqL K H' a xs := by
  rcases h with h | h
  · exact .inl (e.rd h)
  · exact .inr h
theorem Sub.sqT {K : PySem.W.Frag} {H H' : Hp} {a : Addr} {xs : List V} (e : Sub H H') (h : SqT K H a xs) : SqT K H' a xs := by
  rcases h with h | h
  · exact .inl (e.rd h)
  · exact .inr h

section
variable {K : PySem.W.Frag} {G G' : Hp}
mutual
theorem Dt.mono (e : Sub G G') : ∀ {d : D} {v : V}, Dt K G d v → Dt K G' d v
  | .non, _, h => h
  | .bl _, _, h => h
  | .int _, _, h => h
  | .str _, _, h => h
  | .ty _, _, h => h
  | .ref _, _, h => h
  | .tup ds, v, h => by
    unfold Dt at h ⊢
    obtain ⟨a, vs, e1, e2, e3⟩ := h
    exact ⟨a, vs, e1, e.sqT e2, Dts.mono e e3⟩
  | .kls ds, v, h => by
    unfold Dt at h ⊢
    obtain ⟨a, vs, e1, e2, e3⟩ := h
    exact ⟨a, vs, e1, e.sqL e2, Dts.mono e e3⟩
  | .lst ds, v, h => by
    unfold Dt at h ⊢
    obtain ⟨a, vs, e1, e2, e3⟩ := h
    exact ⟨a, vs, e1, e.rd e2, Dts.mono e e3⟩
  | .dct kvs, v, h => by
    unfold Dt at h ⊢
    obtain ⟨a, e1, ⟨es, e2, e3⟩ | ⟨es, e2, e3⟩⟩ := h
    · exact ⟨a, e1, .inl ⟨es, e a _ e2, DkK.mono e e3⟩⟩
    · exact ⟨a, e1, .inr ⟨es, e a _ e2, DkT.mono e e3⟩⟩
theorem Dts.mono (e : Sub G G') : ∀ {ds : List D} {vs : List V}, Dts K G ds vs → Dts K G' ds vs
  | [], _, h => h
  | d :: ds, vs, h => by
    unfold Dts at h ⊢
    obtain ⟨v, vr, e1, e2, e3⟩ := h
    exact ⟨v, vr, e1, Dt.mono e e2, Dts.mono e e3⟩
theorem DkK.mono (e : Sub G G') : ∀ {kvs : List (D × D)} {es : List (Key × V)}, DkK K G kvs es → DkK K G' kvs es
  | [], _, h => h
  | (k, d) :: r, es, h => by
    unfold DkK at h ⊢
    obtain ⟨x, v, er, e1, e2, e3, e4⟩ := h
    exact ⟨x, v, er, e1, e2, Dt.mono e e3, DkK.mono e e4⟩
theorem DkT.mono (e : Sub G G') : ∀ {kvs : List (D × D)} {es : List (List Key × V)}, DkT K G kvs es → DkT K G' kvs es
  | [], _, h => h
  | (k, d) :: r, es, h => by
    unfold DkT at h ⊢
    obtain ⟨x, v, er, e1, e2, e3, e4⟩ := h
    exact ⟨x, v, er, e1, e2, Dt.mono e e3, DkT.mono e e4⟩
end
theorem Dts.nil : Dts K G [] [] := by unfold Dts; rfl
theorem Dts.cons {d : D} {v : V} {ds : List D} {vs : List V} (h : Dt K G d v) (r : Dts K G ds vs) : Dts K G (d :: ds) (v :: vs) := by
  unfold Dts; exact ⟨v, vs, rfl, h, r⟩
theorem Dts.length : ∀ {ds : List D} {vs : List V}, Dts K G ds vs → vs.length = ds.length
  | [], _, h => by unfold Dts at h; subst h; rfl
  | d :: ds, vs, h => by
    unfold Dts at h
    obtain ⟨v, vr, rfl, _, r⟩ := h
    simp [Dts.length r]
theorem Dts.append : ∀ {ds es : List D} {vs ws : List V}, Dts K G ds vs → Dts K G es ws → Dts K G (ds ++ es) (vs ++ ws)
  | [], _, _, _, h, r => by unfold Dts at h; subst h; exact r
  | d :: ds, _, vs, _, h, r => by
    unfold Dts at h
    obtain ⟨v, vr, rfl, h1, h2⟩ := h
    exact .cons h1 (Dts.append h2 r)
theorem Dts.snoc {ds : List D} {vs : List V} {d : D} {v : V} (h : Dts K G ds vs) (r : Dt K G d v) : Dts K G (ds ++ [d]) (vs ++ [v]) := h.append (.cons r .nil)
theorem Dts.get : ∀ {ds : List D} {vs : List V} {i : Nat} {d : D}, Dts K G ds vs → ds[i]? = some d → ∃ v, vs[i]? = some v ∧ Dt K G d v
  | [], _, _, _, _, e => by simp at e
  | d :: ds, vs, i, x, h, e => by
    unfold Dts at h
    obtain ⟨v, vr, rfl, h1, h2⟩ := h
    cases i with
    | zero => simp at e; subst e; exact ⟨v, rfl, h1⟩
    | succ i =>
      obtain ⟨w, e1, e2⟩ := Dts.get (i := i) h2 (by simpa using e)
      exact ⟨w, by simpa using e1, e2⟩
theorem Dts.get' {ds : List D} {vs : List V} {i : Nat} {v : V} (h : Dts K G ds vs) (e : vs[i]? = some v) : ∃ d, ds[i]? = some d ∧ Dt K G d v := by
  have hl := h.length
  have hi : i < vs.length := (List.getElem?_eq_some_iff.mp e).1
  obtain ⟨d, hd⟩ : ∃ d, ds[i]? = some d := ⟨ds[i]'(by omega), by simp [List.getElem?_eq_getElem (show i < ds.length by omega)]⟩
  obtain ⟨w, e1, e2⟩ := h.get hd
  rw [e] at e1; cases e1
  exact ⟨d, hd, e2⟩
theorem Dts.take : ∀ {ds : List D} {vs : List V} (n : Nat), Dts K G ds vs → Dts K G (ds.take n) (vs.take n)
  | _, _, 0, _ => .nil
  | [], _, n + 1, h => by unfold Dts at h; subst h; exact .nil
  | d :: ds, vs, n + 1, h => by
    unfold Dts at h
    obtain ⟨v, vr, rfl, h1, h2⟩ := h
    exact .cons h1 (Dts.take n h2)
theorem Dts.drop : ∀ {ds : List D} {vs : List V} (n : Nat), Dts K G ds vs → Dts K G (ds.drop n) (vs.drop n)
  | _, _, 0, h => h
  | [], _, n + 1, h => by unfold Dts at h; subst h; exact .nil
  | d :: ds, vs, n + 1, h => by
    unfold Dts at h
    obtain ⟨v, vr, rfl, h1, h2⟩ := h
    exact Dts.drop n h2
theorem Dts.set : ∀ {ds : List D} {vs : List V} (n : Nat) {d : D} {v : V}, Dts K G ds vs → Dt K G d v → Dts K G (ds.set n d) (vs.set n v)
  | [], _, _, _, _, h, _ => by unfold Dts at h; subst h; exact .nil
  | d :: ds, vs, 0, _, _, h, r => by
    unfold Dts at h
    obtain ⟨v, vr, rfl, h1, h2⟩ := h
    exact .cons r h2
  | d :: ds, vs, n + 1, _, _, h, r => by
    unfold Dts at h
    obtain ⟨v, vr, rfl, h1, h2⟩ := h
    exact .cons h1 (Dts.set n h2 r)
end

/-- what may change, and is told by its address -/
inductive MO where
  | lst (xs : List D) | dct (kvs : List (D × D)) | ins (C : Addr) (fs : List (Str × D))
abbrev Own := Addr → Option MO
def oset (o : Own) (p : Addr) (m : MO) : Own := fun a => if a = p then some m else o a
theorem oset_same {o : Own} {p : Addr} {m : MO} : oset o p m p = some m := by unfold oset; rw [if_pos rfl]
theorem oset_ne {o : Own} {p q : Addr} {m : MO} (h : q ≠ p) : oset o p m q = o q := by unfold oset; rw [if_neg h]
theorem oset_oset {o : Own} {p : Addr} {m m' : MO} : oset (oset o p m) p m' = oset o p m' := by
  funext a; unfold oset; split <;> rfl

def Dfs (K : PySem.W.Frag) (G : Hp) : List (Str × D) → List (Str × V) → Prop
  | [], vs => vs = []
  | (f, d) :: r, vs => ∃ v vr, vs = (f, v) :: vr ∧ Dt K G d v ∧ Dfs K G r vr
def MoR (K : PySem.W.Frag) (G : Hp) : MO → HO → Prop
  | .lst ds, .lst vs => Dts K G ds vs
  | .dct kvs, .dK es => DkK K G kvs es
  | .dct kvs, .dT es => DkT K G kvs es
  | .ins C fs, .ins C' _ fs' => C = C' ∧ Dfs K G fs fs'
  | _, _ => False
section
variable {K : PySem.W.Frag} {G G' : Hp}
theorem Dfs.mono (e : Sub G G') : ∀ {ds : List (Str × D)} {vs : List (Str × V)}, Dfs K G ds vs → Dfs K G' ds vs
  | [], _, h => h
  | (f, d) :: r, vs, h => by
    unfold Dfs at h ⊢
    obtain ⟨v, vr, e1, e2, e3⟩ := h
    exact ⟨v, vr, e1, e2.mono e, Dfs.mono e e3⟩
theorem MoR.mono (e : Sub G G') {m : MO} {o : HO} (h : MoR K G m o) : MoR K G' m o := by
  cases m <;> cases o <;> first | exact (h : False).elim | skip
  · exact Dts.mono e h
  · exact DkK.mono e h
  · exact DkT.mono e h
  · exact ⟨h.1, Dfs.mono e h.2⟩
end
def SzOk : HO → Prop
  | .lst xs => xs.length ≤ sizeLine
  | .tup xs => xs.length ≤ sizeLine
  | .frz _ u => SzOk u
  | _ => True

/-- a world: what is told by address, what stands still, all that is tracked -/
structure Wd where
  own : Own
  G : Hp
  H : Hp
structure Wd.Ok (K : PySem.W.Frag) (w : Wd) : Prop where
  sub : Sub w.G w.H
  own : ∀ p m, w.own p = some m → w.G p = none ∧ ∃ o, w.H p = some o ∧ MoR K w.G m o
  sz : ∀ a o, w.H a = some o → SzOk o
/-- a later world -/
structure Tr (w w' : Wd) : Prop where
  fr : ∀ a o, w.H a = some o → w.own a = none → w'.H a = some o
  gs : Sub w.G w'.G
  gd : ∀ a, w.G a = none → w.H a ≠ none → w.own a = none → w'.G a = none
  od : ∀ a, w.own a = none → w.H a ≠ none → w'.own a = none
  th : ∀ a, w.H a ≠ none → w'.H a ≠ none
theorem Tr.refl (w : Wd) : Tr w w := ⟨fun _ _ h _ => h, Sub.refl _, fun _ h _ _ => h, fun _ h _ => h, fun _ h => h⟩
theorem Tr.trans {w w1 w2 : Wd} (a : Tr w w1) (b : Tr w1 w2) : Tr w w2 where
  fr := fun x o h n => b.fr x o (a.fr x o h n) (a.od x n (by rw [h]; simp))
  gs := a.gs.trans b.gs
  gd := fun x g h n => b.gd x (a.gd x g h n) (a.th x h) (a.od x n h)
  od := fun x n h => b.od x (a.od x n h) (a.th x h)
  th := fun x h => b.th x (a.th x h)
theorem Tr.fresh {w w' : Wd} (t : Tr w w') {p : Addr} (h : w'.H p = none) : w.H p = none := by
  cases e : w.H p with
  | none => rfl
  | some o => exact absurd h (t.th p (by rw [e]; simp))
section
variable {K : PySem.W.Frag} {w : Wd}
theorem Wd.Ok.noown (ok : w.Ok K) {p : Addr} (h : w.H p = none) : w.own p = none := by
  cases e : w.own p with
  | none => rfl
  | some m =>
    obtain ⟨_, o, e1, _⟩ := ok.own p m e
    rw [h] at e1; cases e1
theorem Wd.Ok.noG (ok : w.Ok K) {p : Addr} (h : w.H p = none) : w.G p = none := by
  cases e : w.G p with
  | none => rfl
  | some o =>
    have := ok.sub p o e
    rw [h] at this; cases this
/-- a new thing that stands still -/
def Wd.frz (w : Wd) (p : Addr) (o : HO) : Wd := ⟨w.own, upd w.G p o, upd w.H p o⟩
theorem Wd.Ok.frz (ok : w.Ok K) {p : Addr} {o : HO} (h : w.H p = none) (hz : SzOk o) : (w.frz p o).Ok K ∧ Tr w (w.frz p o) := by
  have hg := ok.noG h
  refine ⟨⟨fun a u e => ?_, fun q m e => ?_, fun a u e => ?_⟩, ⟨fun a u e _ => (Sub.new h) a u e, Sub.new hg, fun a e1 e2 _ => ?_, fun a e1 _ => e1, fun a e => ?_⟩⟩
  · show upd w.H p o a = some u
    by_cases hp : a = p
    · subst hp
      have e' : upd w.G a o a = some u := e
      rw [upd_same] at e' ⊢; exact e'
    · have e' : upd w.G p o a = some u := e
      rw [upd_ne hp] at e' ⊢; exact ok.sub a u e'
  · obtain ⟨e1, u, e2, e3⟩ := ok.own q m e
    have hq : q ≠ p := ne_of_none e2 h
    refine ⟨?_, u, ?_, e3.mono (Sub.new hg)⟩
    · show upd w.G p o q = none
      rw [upd_ne hq]; exact e1
    · show upd w.H p o q = some u
      rw [upd_ne hq]; exact e2
  · have e' : upd w.H p o a = some u := e
    by_cases hp : a = p
    · subst hp; rw [upd_same] at e'; cases e'; exact hz
    · rw [upd_ne hp] at e'; exact ok.sz a u e'
  · show upd w.G p o a = none
    have hp : a ≠ p := fun z => e2 (z ▸ h)
    rw [upd_ne hp]; exact e1
  · show upd w.H p o a ≠ none
    by_cases hp : a = p
    · subst hp; rw [upd_same]; simp
    · rw [upd_ne hp]; exact e
/-- a new thing of one's own -/
def Wd.mine (w : Wd) (p : Addr) (m : MO) (o : HO) : Wd := ⟨oset w.own p m, w.G, upd w.H p o⟩
theorem Wd.Ok.mine (ok : w.Ok K) {p : Addr} {m : MO} {o : HO} (h : w.H p = none ∨ ∃ m', w.own p = some m') (hz : SzOk o) (r : MoR K w.G m o) : (w.mine p m o).Ok K ∧ Tr w (w.mine p m o) := by
  have hg : w.G p = none := by
    rcases h with h | ⟨m', h⟩
    · exact ok.noG h
    · exact (ok.own p m' h).1
  refine ⟨⟨fun a u e => ?_, fun q m1 e => ?_, fun a u e => ?_⟩, ⟨fun a u e n => ?_, Sub.refl _, fun a e1 e2 _ => e1, fun a e1 e2 => ?_, fun a e => ?_⟩⟩
  · show upd w.H p o a = some u
    have e' : w.G a = some u := e
    rw [upd_ne (fun z => by rw [z, hg] at e'; cases e')]; exact ok.sub a u e'
  · have e' : oset w.own p m q = some m1 := e
    by_cases hq : q = p
    · subst hq
      rw [oset_same] at e'; cases e'
      exact ⟨hg, o, upd_same, r⟩
    · rw [oset_ne hq] at e'
      obtain ⟨e1, u, e2, e3⟩ := ok.own q m1 e'
      exact ⟨e1, u, (upd_ne hq).trans e2, e3⟩
  · have e' : upd w.H p o a = some u := e
    by_cases hp : a = p
    · subst hp; rw [upd_same] at e'; cases e'; exact hz
    · rw [upd_ne hp] at e'; exact ok.sz a u e'
  · show upd w.H p o a = some u
    by_cases hp : a = p
    · subst hp
      rcases h with h | ⟨m', h⟩
      · rw [h] at e; cases e
      · rw [h] at n; cases n
    · rw [upd_ne hp]; exact e
  · show oset w.own p m a = none
    by_cases hp : a = p
    · subst hp
      rcases h with h | ⟨m', h⟩
      · exact absurd h e2
      · rw [h] at e1; cases e1
    · rw [oset_ne hp]; exact e1
  · show upd w.H p o a ≠ none
    by_cases hp : a = p
    · subst hp; rw [upd_same]; simp
    · rw [upd_ne hp]; exact e
/-- an own thing that changes no more -/
theorem Wd.Ok.still (ok : w.Ok K) {own' : Own} (hs : ∀ p m, own' p = some m → w.own p = some m) :
    ∃ G', Sub w.G G' ∧ (∀ p, w.own p ≠ none → own' p = none → G' p = w.H p) ∧ (Wd.mk own' G' w.H).Ok K ∧ ∀ w0, Tr w0 w → Tr w0 ⟨own', G', w.H⟩ := by
  refine ⟨fun p => match w.own p, own' p with | some _, none => w.H p | _, _ => w.G p, fun a u e => ?_, fun p e1 e2 => ?_, ⟨fun a u e => ?_, fun p m e => ?_, ok.sz⟩, fun w0 t => ⟨t.fr, fun a u e => ?_, fun a e1 e2 e3 => ?_, fun a e1 e2 => ?_, t.th⟩⟩
  · show (match w.own a, own' a with | some _, none => w.H a | _, _ => w.G a) = some u
    cases h1 : w.own a with
    | none => exact e
    | some m =>
      have := (ok.own a m h1).1
      rw [e] at this; cases this
  · show (match w.own p, own' p with | some _, none => w.H p | _, _ => w.G p) = w.H p
    cases h1 : w.own p with
    | none => exact absurd h1 e1
    | some m => rw [e2]
  · have e' : (match w.own a, own' a with | some _, none => w.H a | _, _ => w.G a) = some u := e
    cases h1 : w.own a with
    | none => rw [h1] at e'; exact ok.sub a u e'
    | some m =>
      cases h2 : own' a with
      | none => rw [h1, h2] at e'; exact e'
      | some m' => rw [h1, h2] at e'; exact ok.sub a u e'
  · have e' : own' p = some m := e
    obtain ⟨e1, o, e2, e3⟩ := ok.own p m (hs p m e')
    refine ⟨?_, o, e2, e3.mono fun a u e => ?_⟩
    · show (match w.own p, own' p with | some _, none => w.H p | _, _ => w.G p) = none
      rw [hs p m e', e']; exact e1
    · show (match w.own a, own' a with | some _, none => w.H a | _, _ => w.G a) = some u
      cases h1 : w.own a with
      | none => exact e
      | some m =>
        have := (ok.own a m h1).1
        rw [e] at this; cases this
  · show (match w.own a, own' a with | some _, none => w.H a | _, _ => w.G a) = some u
    have g := t.gs a u e
    cases h1 : w.own a with
    | none => exact g
    | some m =>
      have := (ok.own a m h1).1
      rw [g] at this; cases this
  · show (match w.own a, own' a with | some _, none => w.H a | _, _ => w.G a) = none
    rw [t.od a e3 e2]; exact t.gd a e1 e2 e3
  · show own' a = none
    have := t.od a e1 e2
    cases h2 : own' a with
    | none => rfl
    | some m => rw [hs a m h2] at this; cases this
end

/-! ### names -/
abbrev AEnv := List (Option D)
def eg : AEnv → Nat → Option D
  | [], _ => none
  | x :: _, 0 => x
  | _ :: r, n + 1 => eg r n
theorem eg_eq : ∀ {env : AEnv} {i : Nat} {d : D}, eg env i = some d → env[i]? = some (some d)
  | [], _, _, h => by simp [eg] at h
  | x :: r, 0, d, h => by simp [eg] at h; simp [h]
  | x :: r, i + 1, d, h => by simp only [eg] at h; simpa using eg_eq h
theorem eg_of : ∀ {env : AEnv} {i : Nat} {d : D}, env[i]? = some (some d) → eg env i = some d
  | [], _, _, h => by simp at h
  | x :: r, 0, d, h => by simp at h; simp [eg, h]
  | x :: r, i + 1, d, h => by simp only [eg]; exact eg_of (by simpa using h)
def EnvR (K : PySem.W.Frag) (G : Hp) (env : AEnv) (σ : L2.St) : Prop := env.length = σ.length ∧ ∀ i d, eg env i = some d → ∃ v, σ[i]? = some (some v) ∧ Dt K G d v
section
variable {K : PySem.W.Frag} {G G' : Hp} {env : AEnv} {σ : L2.St}
theorem EnvR.mono (e : Sub G G') (h : EnvR K G env σ) : EnvR K G' env σ := ⟨h.1, fun i d q => let ⟨v, a, b⟩ := h.2 i d q; ⟨v, a, b.mono e⟩⟩
theorem EnvR.set (h : EnvR K G env σ) (i : Nat) {d : D} {v : V} (r : Dt K G d v) : EnvR K G (env.set i (some d)) (σ.set i (some v)) := by
  refine ⟨by simpa using h.1, fun j e q => ?_⟩
  have q' := eg_eq q
  by_cases hj : i = j
  · subst hj
    have hi : i < env.length := by
      have := (List.getElem?_eq_some_iff.mp q').1
      simpa using this
    rw [List.getElem?_set_self hi] at q'
    cases q'
    exact ⟨v, List.getElem?_set_self (by rw [← h.1]; exact hi), r⟩
  · rw [List.getElem?_set_ne hj] at q'
    obtain ⟨u, e1, e2⟩ := h.2 j e (eg_of q')
    exact ⟨u, by rw [List.getElem?_set_ne hj]; exact e1, e2⟩
theorem EnvR.unset (h : EnvR K G env σ) (i : Nat) (x : Option V) : EnvR K G (env.set i none) (σ.set i x) := by
  refine ⟨by simpa using h.1, fun j e q => ?_⟩
  have q' := eg_eq q
  by_cases hj : i = j
  · subst hj
    have hi : i < env.length := by
      have := (List.getElem?_eq_some_iff.mp q').1
      simpa using this
    rw [List.getElem?_set_self hi] at q'
    cases q'
  · rw [List.getElem?_set_ne hj] at q'
    obtain ⟨u, e1, e2⟩ := h.2 j e (eg_of q')
    exact ⟨u, by rw [List.getElem?_set_ne hj]; exact e1, e2⟩
end
def wipeA (env : AEnv) : List Nat → AEnv
  | [] => env
  | v :: vs => (wipeA env vs).set v none
theorem EnvR.wipe {K : PySem.W.Frag} {G : Hp} {env : AEnv} {σ : L2.St} (h : EnvR K G env σ) : ∀ vs : List Nat, EnvR K G (wipeA env vs) (L2.wipe σ vs)
  | [] => h
  | v :: vs => (EnvR.wipe h vs).unset v none
end L3

namespace L3
open PySem PySem.Spec L2

/-! ### readings over data -/
abbrev ATE := AEnv → Own → (D → Own → Prop) → Prop
abbrev ATT := AEnv → Own → (Bool → Own → Prop) → Prop
abbrev ATA := AEnv → Own → (List D → Own → Prop) → Prop
/-- a new list -/
abbrev ATN := AEnv → Own → (List D → Own → Prop) → Prop
abbrev ATO := AEnv → Own → (Option Int → Own → Prop) → Prop
structure AEnds where
  nx : AEnv → Own → Prop
  rt : D → Own → Prop
  bk : AEnv → Own → Prop := fun _ _ => False
  ct : AEnv → Own → Prop := fun _ _ => False
abbrev ATS := AEnds → AEnv → Own → Prop
abbrev ATG := D → AEnv → Own → (AEnv → Own → Prop) → Prop
abbrev ATGs := List D → AEnv → Own → (AEnv → Own → Prop) → Prop
abbrev ATI := AEnv → Own → (List D → (Own → Prop) → Own → Prop) → Prop

section
variable (K : PySem.W.Frag) (w0 : Wd)
def At (σ : L2.St) (H : Hp) (φ : AEnv → Wd → Prop) : Prop := ∃ (env : AEnv) (w : Wd), w.H = H ∧ w.Ok K ∧ Tr w0 w ∧ EnvR K w.G env σ ∧ φ env w
def concE (t : ATE) : TE := fun σ H Q => At K w0 σ H fun env w => ∃ P, t env w.own P ∧ ∀ d w' v, P d w'.own → Tr w w' → w'.Ok K → Dt K w'.G d v → Q v w'.H
def concT (t : ATT) : TT := fun σ H Q => At K w0 σ H fun env w => ∃ P, t env w.own P ∧ ∀ b w', P b w'.own → Tr w w' → w'.Ok K → Q b w'.H
def concA (t : ATA) : TA := fun σ H Q => At K w0 σ H fun env w => ∃ P, t env w.own P ∧ ∀ ds w' vs, P ds w'.own → Tr w w' → w'.Ok K → Dts K w'.G ds vs → Q vs w'.H
def concN (t : ATN) : TE := fun σ H Q => At K w0 σ H fun env w => ∃ P, t env w.own P ∧ ∀ ds w' p vs, P ds w'.own → Tr w w' → w'.Ok K → w.H p = none → w'.H p = some (.lst vs) → w'.G p = none → w'.own p = none → Dts K w'.G ds vs → Q (.ref p) w'.H
def concO (t : ATO) : TO := fun σ H Q => At K w0 σ H fun env w => ∃ P, t env w.own P ∧ ∀ o w', P o w'.own → Tr w w' → w'.Ok K → Q o w'.H
def concS (t : ATS) : TS := fun E σ H => At K w0 σ H fun env w => ∃ A : AEnds, t A env w.own ∧
  (∀ env' w' σ', A.nx env' w'.own → Tr w w' → w'.Ok K → EnvR K w'.G env' σ' → E.nx σ' w'.H) ∧
  (∀ d w' v, A.rt d w'.own → Tr w w' → w'.Ok K → Dt K w'.G d v → E.rt v w'.H) ∧
  (∀ env' w' σ', A.bk env' w'.own → Tr w w' → w'.Ok K → EnvR K w'.G env' σ' → E.bk σ' w'.H) ∧
  (∀ env' w' σ', A.ct env' w'.own → Tr w w' → w'.Ok K → EnvR K w'.G env' σ' → E.ct σ' w'.H)
/-- the slots but those at vs stay -/
def Only (vs : List Nat) (σ σ' : L2.St) : Prop := σ'.length = σ.length ∧ ∀ i, i ∉ vs → σ'[i]? = σ[i]?
def concG (vs : List Nat) (g : ATG) : TG := fun x σ H Q => At K w0 σ H fun env w => ∃ d P, Dt K w.G d x ∧ g d env w.own P ∧
  ∀ env' w' σ', P env' w'.own → Tr w w' → w'.Ok K → EnvR K w'.G env' σ' → Only vs σ σ' → Q σ' w'.H
def concGs (vs : List Nat) (g : ATGs) : TGs := fun xs σ H Q => At K w0 σ H fun env w => ∃ ds P, Dts K w.G ds xs ∧ g ds env w.own P ∧
  ∀ env' w' σ', P env' w'.own → Tr w w' → w'.Ok K → EnvR K w'.G env' σ' → Only vs σ σ' → Q σ' w'.H
/-- what is walked: the data ds, as long as gd holds of what is one's own -/
structure Walks (w1 : Wd) (J : It) (ds : List D) (gd : Own → Prop) : Prop where
  len : ds.length ≤ sizeLine
  go : ∀ i (w : Wd), w.Ok K → Sub w1.G w.G → gd w.own → i < ds.length → J.go i w.H
  stop : ∀ (w : Wd), w.Ok K → Sub w1.G w.G → gd w.own → J.stop ds.length w.H
  yld : ∀ i (w : Wd) x H', w.Ok K → Sub w1.G w.G → gd w.own → i < ds.length → J.yld i w.H x H' → ∃ d w', ds[i]? = some d ∧ Wd.H w' = H' ∧ w'.own = w.own ∧ Tr w w' ∧ w'.Ok K ∧ Dt K w'.G d x
def concI (t : ATI) : TI := fun σ H R => At K w0 σ H fun env w => ∃ P, t env w.own P ∧ ∀ ds gd w' J, P ds gd w'.own → Tr w w' → w'.Ok K → Walks K w' J ds gd → R J w'.H
end
section
variable {X : Cx}
theorem pe_of {e : Expr} {t t' : TE} (h : PE X e t) (hc : ∀ σ H Q, t' σ H Q → t σ H Q) : PE X e t' := ⟨fun pins s σ H Q I hw => h.run pins s σ H Q I (hc σ H Q hw)⟩
theorem pt_of {e : Expr} {t t' : TT} (h : PT X e t) (hc : ∀ σ H Q, t' σ H Q → t σ H Q) : PT X e t' := ⟨fun pins s σ H Q I hw => h.run pins s σ H Q I (hc σ H Q hw)⟩
theorem pw_of {e : Expr} {t t' : TT} (h : PW X e t) (hc : ∀ σ H Q, t' σ H Q → t σ H Q) : PW X e t' := ⟨fun wh pins s σ H Q I hw => h.run wh pins s σ H Q I (hc σ H Q hw)⟩
theorem pa_of {e : List Expr} {t t' : TA} (h : PA X e t) (hc : ∀ σ H Q, t' σ H Q → t σ H Q) : PA X e t' := ⟨fun pos pins s σ H Q I hw => h.run pos pins s σ H Q I (hc σ H Q hw)⟩
theorem po_of {e : Option Expr} {t t' : TO} (h : PO X e t) (hc : ∀ σ H Q, t' σ H Q → t σ H Q) : PO X e t' := ⟨fun pins s σ H Q I hw => h.run pins s σ H Q I (hc σ H Q hw)⟩
theorem ps_of {e : Stmt} {t t' : TS} (h : PS X e t) (hc : ∀ E σ H, t' E σ H → t E σ H) : PS X e t' := ⟨fun pins s σ H D I hw => h.run pins s σ H D I (hc D σ H hw)⟩
theorem pss_of {e : List Stmt} {t t' : TS} (h : PSs X e t) (hc : ∀ E σ H, t' E σ H → t E σ H) : PSs X e t' := ⟨fun pins s σ H D I hw => h.run pins s σ H D I (hc D σ H hw)⟩
theorem pg_of {e : Expr} {t t' : TG} (h : PG X e t) (hc : ∀ v σ H Q, t' v σ H Q → t v σ H Q) : PG X e t' := ⟨fun pins s σ H v u Q I r hw => h.run pins s σ H v u Q I r (hc v σ H Q hw)⟩
theorem pgs_of {e : List Expr} {t t' : TGs} (h : PGs X e t) (hc : ∀ v σ H Q, t' v σ H Q → t v σ H Q) : PGs X e t' := ⟨fun pins s σ H v u Q I r hw => h.run pins s σ H v u Q I r (hc v σ H Q hw)⟩
theorem pi_of {tg e : Expr} {t t' : TI} (h : PI X tg e t) (hc : ∀ σ H Q, t' σ H Q → t σ H Q) : PI X tg e t' := ⟨fun pins s σ H Q I hw => h.run pins s σ H Q I (hc σ H Q hw)⟩
theorem pts_of {e : List Expr} {t t' : TT} (h : PTs X e t) (hc : ∀ σ H Q, t' σ H Q → t σ H Q) : PTs X e t' := ⟨fun pins s σ H Q I hw => h.run pins s σ H Q I (hc σ H Q hw)⟩
end

/-- what a thing is, by what is one's own -/
def see (own : Own) : D → D
  | .ref p => match own p with
    | some (.lst ds) => .lst ds
    | some (.dct kvs) => .dct kvs
    | _ => .ref p
  | d => d
/-- a thing as it stands in a world: a list's place -/
def DtV (K : PySem.W.Frag) (w : Wd) : D → V → Prop
  | .lst ds, v => ∃ a vs, v = .ref a ∧ Rd w.H a (.lst vs) ∧ Dts K w.G ds vs
  | .tup ds, v => ∃ a vs, v = .ref a ∧ SqT K w.H a vs ∧ Dts K w.G ds vs
  | .dct kvs, v => ∃ a, v = .ref a ∧ ((∃ es, w.H a = some (.dK es) ∧ DkK K w.G kvs es) ∨ ∃ es, w.H a = some (.dT es) ∧ DkT K w.G kvs es)
  | d, v => Dt K w.G d v
theorem see_ok {K : PySem.W.Frag} {w : Wd} (ok : w.Ok K) {d : D} {v : V} (h : Dt K w.G d v) : DtV K w (see w.own d) v := by
  cases d with
  | ref p =>
    unfold Dt at h; subst h
    have r0 : Dt K w.G (.ref p) (.ref p) := by unfold Dt; rfl
    cases e : w.own p with
    | none =>
      have hs : see w.own (.ref p) = .ref p := by simp only [see, e]
      rw [hs]; exact r0
    | some m =>
      obtain ⟨_, o, e2, e3⟩ := ok.own p m e
      cases m with
      | lst ds =>
        have hs : see w.own (.ref p) = .lst ds := by simp only [see, e]
        rw [hs]
        cases o <;> first | exact (e3 : False).elim | skip
        exact ⟨p, _, rfl, .of e2, e3⟩
      | dct kvs =>
        have hs : see w.own (.ref p) = .dct kvs := by simp only [see, e]
        rw [hs]
        cases o <;> first | exact (e3 : False).elim | skip
        · exact ⟨p, rfl, .inl ⟨_, e2, e3⟩⟩
        · exact ⟨p, rfl, .inr ⟨_, e2, e3⟩⟩
      | ins C fs =>
        have hs : see w.own (.ref p) = .ref p := by simp only [see, e]
        rw [hs]; exact r0
  | lst ds =>
    unfold Dt at h
    obtain ⟨a, vs, e1, e2, e3⟩ := h
    exact ⟨a, vs, e1, ok.sub.rd e2, e3⟩
  | tup ds =>
    unfold Dt at h
    obtain ⟨a, vs, e1, e2, e3⟩ := h
    exact ⟨a, vs, e1, ok.sub.sqT e2, e3⟩
  | dct kvs =>
    unfold Dt at h
    obtain ⟨a, e1, ⟨es, e2, e3⟩ | ⟨es, e2, e3⟩⟩ := h
    · exact ⟨a, e1, .inl ⟨es, ok.sub a _ e2, e3⟩⟩
    · exact ⟨a, e1, .inr ⟨es, ok.sub a _ e2, e3⟩⟩
  | non => exact h
  | bl b => exact h
  | int i => exact h
  | str x => exact h
  | ty n => exact h
  | kls ds => exact h
theorem sqL_sz {K : PySem.W.Frag} {w : Wd} (ok : w.Ok K) {a : Addr} {vs : List V} (h : SqL K w.H a vs) : vs.length ≤ sizeLine := by
  rcases h with (h | ⟨o, h⟩) | ⟨o, its, n, _, _, _, _, hz, r⟩
  · exact ok.sz a _ h
  · exact ok.sz a _ h
  · have := r.length
    simp only [Array.length_toList] at this
    omega
theorem sqT_sz {K : PySem.W.Frag} {w : Wd} (ok : w.Ok K) {a : Addr} {vs : List V} (h : SqT K w.H a vs) : vs.length ≤ sizeLine := by
  rcases h with (h | ⟨o, h⟩) | ⟨o, its, n, _, _, _, hz, r⟩
  · exact ok.sz a _ h
  · exact ok.sz a _ h
  · have := r.length
    simp only [Array.length_toList] at this
    omega

/-! ### expressions -/
def aV (i : Nat) : ATE := fun env own P => match eg env i with
  | some d => P d own
  | none => False
def aC (d : D) : ATE := fun _ own P => P d own
abbrev BinF := Own → D → D → (D → Prop) → Prop
def aBin (f : BinF) (ta tb : ATE) : ATE := fun env own P => ta env own fun d o1 => tb env o1 fun e o2 => f o2 d e fun z => P z o2
abbrev UnF := Own → D → (D → Prop) → Prop
def aUn (f : UnF) (ta : ATE) : ATE := fun env own P => ta env own fun d o1 => f o1 d fun z => P z o1
def OpS (K : PySem.W.Frag) (r : R2) (f : BinF) : Prop := ∀ (w : Wd) (d e : D) (x y : V) (P : D → Prop) (Q : VK), w.Ok K → Dt K w.G d x → Dt K w.G e y → f w.own d e P →
  (∀ z w' v, P z → w'.own = w.own → Tr w w' → w'.Ok K → Dt K w'.G z v → Q v w'.H) → r x y w.H Q
def UnS (K : PySem.W.Frag) (r : V → Hp → VK → Prop) (f : UnF) : Prop := ∀ (w : Wd) (d : D) (x : V) (P : D → Prop) (Q : VK), w.Ok K → Dt K w.G d x → f w.own d P →
  (∀ z w' v, P z → w'.own = w.own → Tr w w' → w'.Ok K → Dt K w'.G z v → Q v w'.H) → r x w.H Q
/-- several values in, one out -/
abbrev CallF := Own → List D → (D → Prop) → Prop
def CallS (K : PySem.W.Frag) (r : List V → Hp → VK → Prop) (f : CallF) : Prop := ∀ (w : Wd) (ds : List D) (xs : List V) (P : D → Prop) (Q : VK), w.Ok K → Dts K w.G ds xs → f w.own ds P →
  (∀ z w' v, P z → w'.own = w.own → Tr w w' → w'.Ok K → Dt K w'.G z v → Q v w'.H) → r xs w.H Q
def aFn (f : CallF) (ta : ATA) : ATE := fun env own P => ta env own fun ds o1 => f o1 ds fun z => P z o1
section
variable {X : Cx} {w0 : Wd}
abbrev AE (X : Cx) (w0 : Wd) (e : Expr) (t : ATE) : Prop := PE X e (concE X.K w0 t)
abbrev AN (X : Cx) (w0 : Wd) (e : Expr) (t : ATN) : Prop := PE X e (concN X.K w0 t)
abbrev AT (X : Cx) (w0 : Wd) (e : Expr) (t : ATT) : Prop := PT X e (concT X.K w0 t)
abbrev AW (X : Cx) (w0 : Wd) (e : Expr) (t : ATT) : Prop := PW X e (concT X.K w0 t)
abbrev AA (X : Cx) (w0 : Wd) (es : List Expr) (t : ATA) : Prop := PA X es (concA X.K w0 t)
abbrev AO (X : Cx) (w0 : Wd) (e : Option Expr) (t : ATO) : Prop := PO X e (concO X.K w0 t)
abbrev AS (X : Cx) (w0 : Wd) (s : Stmt) (t : ATS) : Prop := PS X s (concS X.K w0 t)
abbrev ASs (X : Cx) (w0 : Wd) (s : List Stmt) (t : ATS) : Prop := PSs X s (concS X.K w0 t)
abbrev AG (X : Cx) (w0 : Wd) (vs : List Nat) (e : Expr) (t : ATG) : Prop := PG X e (concG X.K w0 vs t)
abbrev AGs (X : Cx) (w0 : Wd) (vs : List Nat) (e : List Expr) (t : ATGs) : Prop := PGs X e (concGs X.K w0 vs t)
abbrev AI (X : Cx) (w0 : Wd) (tg e : Expr) (t : ATI) : Prop := PI X tg e (concI X.K w0 t)

variable {a b c e : Expr} {ta tb tc : ATE} {pos : Pos}
theorem ae_v (i : Nat) {x : Str} {pos : Pos} (hN : X.N[i]? = some x := by rfl) (hv : Vis X.env.scope x := by first | exact Or.inl rfl | exact Or.inr (Or.inl rfl) | exact Or.inr (Or.inr rfl)) (hd : (x == ("__debug__" : Str)) = false := by decide)
    (hcd : (x == ("__classdict__" : Str)) = false := by decide) : AE X w0 (.Name x pos) (aV i) := pe_of (pe_var hN hv hd hcd) fun σ H Q h => by
  obtain ⟨env, w, rfl, ok, tr0, er, P, h, k⟩ := h
  unfold aV at h
  cases e : eg env i with
  | none => rw [e] at h; exact h.elim
  | some d =>
    rw [e] at h
    obtain ⟨v, e1, e2⟩ := er.2 i d e
    exact ⟨v, e1, k d w v h (Tr.refl w) ok e2⟩
theorem ae_c {d : D} {v : V} (h : PE X e (tC v)) (hd : ∀ G, Dt X.K G d v) : AE X w0 e (aC d) := pe_of h fun σ H Q h => by
  obtain ⟨env, w, rfl, ok, tr0, er, P, h, k⟩ := h
  exact k d w v h (Tr.refl w) ok (hd w.G)
theorem ae_int {i j} : AE X w0 (.Constant (.int i) j pos) (aC (.int i)) := ae_c pe_int fun _ => by unfold Dt; rfl
theorem ae_bl {b j} : AE X w0 (.Constant (.bool b) j pos) (aC (.bl b)) := ae_c pe_bl fun _ => by unfold Dt; rfl
theorem ae_non {j} : AE X w0 (.Constant .none j pos) (aC .non) := ae_c pe_non fun _ => by unfold Dt; rfl
theorem ae_str {x j} : AE X w0 (.Constant (.str x) j pos) (aC (.str x)) := ae_c pe_str fun _ => by unfold Dt; rfl
theorem ae_glob {x : Str} {v : V} {u : Value} {d : D} (hg : Gl X x) (hm : X.mg x = some u) (r : RelV v u) (hd : ∀ G, Dt X.K G d v) (hdb : (x == ("__debug__" : Str)) = false := by decide) : AE X w0 (.Name x pos) (aC d) := ae_c (pe_glob hg hm r hdb) hd
/-- from a rule of two operands -/
theorem bin_of {r : R2} {f : BinF} {σ : L2.St} {H : Hp} {Q : VK} (hs : OpS X.K r f) (h : concE X.K w0 (aBin f ta tb) σ H Q) : tOp r (concE X.K w0 ta) (concE X.K w0 tb) σ H Q := by
  obtain ⟨env, w, rfl, ok, tr0, er, P, h, k⟩ := h
  refine ⟨env, w, rfl, ok, tr0, er, _, h, fun d w1 x h1 t1 ok1 dx => ?_⟩
  refine ⟨env, w1, rfl, ok1, tr0.trans t1, er.mono t1.gs, _, h1, fun e w2 y h2 t2 ok2 dy => ?_⟩
  exact hs w2 d e x y _ Q ok2 (dx.mono t2.gs) dy h2 fun z w3 v pz ho t3 ok3 dz => k z w3 v (by rw [ho]; exact pz) ((t1.trans t2).trans t3) ok3 dz
theorem ae_op {op : Operator} {r : R2} {f : BinF} (ho : OpR X (binaryOp op) r) (hs : OpS X.K r f) (ha : AE X w0 a ta) (hb : AE X w0 b tb) : AE X w0 (.BinOp a op b pos) (aBin f ta tb) := pe_of (pe_op ho ha hb) fun _ _ _ h => bin_of hs h
theorem ae_cmp {op : CmpOp} {r : R2} {f : BinF} (ho : OpR X (compareOp op) r) (hs : OpS X.K r f) (ha : AE X w0 a ta) (hb : AE X w0 b tb) (hm : behindInMarks op b = false) : AE X w0 (.Compare a [op] [b] pos) (aBin f ta tb) := pe_of (pe_cmpR ho ha hb hm) fun _ _ _ h => bin_of hs h
theorem ae_sub {r : R2} {f : BinF} (ho : IxR X r) (hs : OpS X.K r f) (ha : AE X w0 a ta) (hb : AE X w0 b tb) (hp : PlainIx b := by exact fun _ _ => rfl) : AE X w0 (.Subscript a b pos) (aBin f ta tb) := pe_of (pe_ix ho ha hb hp) fun _ _ _ h => bin_of hs h
theorem ae_un {op : UnaryOp} {r : V → Hp → VK → Prop} {f : UnF} (ho : UnR X (unaryOp op) r) (hs : UnS X.K r f) (ha : AE X w0 a ta) : AE X w0 (.UnaryOp op a pos) (aUn f ta) := pe_of (pe_un ho ha) fun σ H Q h => by
  obtain ⟨env, w, rfl, ok, tr0, er, P, h, k⟩ := h
  refine ⟨env, w, rfl, ok, tr0, er, _, h, fun d w1 x h1 t1 ok1 dx => ?_⟩
  exact hs w1 d x _ Q ok1 dx h1 fun z w3 v pz ho t3 ok3 dz => k z w3 v (by rw [ho]; exact pz) (t1.trans t3) ok3 dz
/-! tests -/
def aB (t : ATE) : ATT := fun env own P => t env own fun d o => match d with
  | .bl b => P b o
  | _ => False
theorem atest_of {σ : L2.St} {H : Hp} {Q : Bool → Hp → Prop} (h : concT X.K w0 (aB ta) σ H Q) : tTest (concE X.K w0 ta) σ H Q := by
  obtain ⟨env, w, rfl, ok, tr0, er, P, h, k⟩ := h
  refine ⟨env, w, rfl, ok, tr0, er, _, h, fun d w1 x h1 t1 ok1 dx => ?_⟩
  cases d with
  | bl b => unfold Dt at dx; exact ⟨b, dx, k b w1 h1 t1 ok1⟩
  | _ => exact (h1 : False).elim
theorem at_cmp {op : CmpOp} {r : R2} {f : BinF} (ho : OpR X (compareOp op) r) (hs : OpS X.K r f) (ha : AE X w0 a ta) (hb : AE X w0 b tb) (hm : behindInMarks op b = false) : AT X w0 (.Compare a [op] [b] pos) (aB (aBin f ta tb)) := pt_of (pt_cmpR ho ha hb hm) fun σ H Q h => by
  obtain ⟨env, w, rfl, ok, tr0, er, P, h, k⟩ := h
  refine bin_of hs ⟨env, w, rfl, ok, tr0, er, _, h, fun d w1 x h1 t1 ok1 dx => ?_⟩
  cases d with
  | bl b => unfold Dt at dx; exact ⟨b, dx, k b w1 h1 t1 ok1⟩
  | _ => exact (h1 : False).elim
/-- truth of any value -/
def aTru (t : ATE) : ATT := fun env own P => t env own fun d o => match see o d with
  | .bl b => P b o
  | .non => P false o
  | .int i => P (i != 0) o
  | .str x => x.length ≤ sizeLine ∧ P ((x.length : Int) != 0) o
  | .lst xs => P (!xs.isEmpty) o
  | .tup xs => P (!xs.isEmpty) o
  | _ => False
theorem isEmpty_dts {K : PySem.W.Frag} {G : Hp} {ds : List D} {vs : List V} (h : Dts K G ds vs) : ds.isEmpty = vs.isEmpty := by
  have := h.length
  cases ds <;> cases vs <;> simp at this ⊢
theorem at_tru (ha : AE X w0 a ta) (he : ∀ whole, isTrue a X.env whole = (do let v ← whole; standAt a.pos; holding [v] (truthy v)) := by intro _; rfl) : AT X w0 a (aTru ta) := pt_of (pt_truth ha he) fun σ H Q h => by
  obtain ⟨env, w, rfl, ok, tr0, er, P, h, k⟩ := h
  refine ⟨env, w, rfl, ok, tr0, er, _, h, fun d w1 x h1 t1 ok1 dx => ?_⟩
  have dv := see_ok ok1 dx
  cases e : see w1.own d with
  | non => rw [e] at dv h1; change Dt X.K w1.G .non x at dv; unfold Dt at dv; subst dv; exact ⟨false, rfl, k _ w1 h1 t1 ok1⟩
  | bl b => rw [e] at dv h1; change Dt X.K w1.G (.bl b) x at dv; unfold Dt at dv; subst dv; exact ⟨b, rfl, k _ w1 h1 t1 ok1⟩
  | int i => rw [e] at dv h1; change Dt X.K w1.G (.int i) x at dv; unfold Dt at dv; subst dv; exact ⟨_, rfl, k _ w1 h1 t1 ok1⟩
  | str y => rw [e] at dv h1; change Dt X.K w1.G (.str y) x at dv; unfold Dt at dv; subst dv; exact ⟨_, ⟨h1.1, rfl⟩, k _ w1 h1.2 t1 ok1⟩
  | lst ds =>
    rw [e] at dv h1
    obtain ⟨p, vs, rfl, e2, e3⟩ := dv
    exact ⟨_, .inl ⟨vs, .inl e2, by rw [isEmpty_dts e3]⟩, k _ w1 h1 t1 ok1⟩
  | tup ds =>
    rw [e] at dv h1
    obtain ⟨p, vs, rfl, e2, e3⟩ := dv
    exact ⟨_, .inr (.inl ⟨vs, e2, by rw [isEmpty_dts e3]⟩), k _ w1 h1 t1 ok1⟩
  | dct _ => rw [e] at h1; exact (h1 : False).elim
  | ref _ => rw [e] at h1; exact (h1 : False).elim
  | ty _ => rw [e] at h1; exact (h1 : False).elim
  | kls _ => rw [e] at h1; exact (h1 : False).elim
variable {tA tB : ATT} {rest : List Expr}
def aAnd (t u : ATT) : ATT := fun env own P => t env own fun b o => match b with
  | true => u env o P
  | false => P false o
def aOr (t u : ATT) : ATT := fun env own P => t env own fun b o => match b with
  | true => P true o
  | false => u env o P
def aNot (t : ATT) : ATT := fun env own P => t env own fun b o => P (!b) o
theorem aw_and1 (ha : AT X w0 a tA) : AW X w0 (.BoolOp .And [a] pos) tA := pw_and1 ha
theorem aw_or1 (ha : AT X w0 a tA) : AW X w0 (.BoolOp .Or [a] pos) tA := pw_or1 ha
theorem aw_and (ha : AT X w0 a tA) (hb : AW X w0 (.BoolOp .And (b :: rest) pos) tB) : AW X w0 (.BoolOp .And (a :: b :: rest) pos) (aAnd tA tB) := pw_of (pw_and ha hb) fun σ H Q h => by
  obtain ⟨env, w, rfl, ok, tr0, er, P, h, k⟩ := h
  refine ⟨env, w, rfl, ok, tr0, er, _, h, fun b w1 h1 t1 ok1 => ?_⟩
  cases b with
  | true => rw [if_pos rfl]; exact ⟨env, w1, rfl, ok1, tr0.trans t1, er.mono t1.gs, P, h1, fun b' w2 h2 t2 ok2 => k b' w2 h2 (t1.trans t2) ok2⟩
  | false => rw [if_neg (by decide)]; exact k false w1 h1 t1 ok1
theorem aw_or (ha : AT X w0 a tA) (hb : AW X w0 (.BoolOp .Or (b :: rest) pos) tB) : AW X w0 (.BoolOp .Or (a :: b :: rest) pos) (aOr tA tB) := pw_of (pw_or ha hb) fun σ H Q h => by
  obtain ⟨env, w, rfl, ok, tr0, er, P, h, k⟩ := h
  refine ⟨env, w, rfl, ok, tr0, er, _, h, fun b w1 h1 t1 ok1 => ?_⟩
  cases b with
  | false => rw [if_neg (by decide)]; exact ⟨env, w1, rfl, ok1, tr0.trans t1, er.mono t1.gs, P, h1, fun b' w2 h2 t2 ok2 => k b' w2 h2 (t1.trans t2) ok2⟩
  | true => rw [if_pos rfl]; exact k true w1 h1 t1 ok1
theorem at_w {t : ATT} (h : AW X w0 e t) : AT X w0 e t := h.pt
theorem at_not (ha : AT X w0 a tA) : AT X w0 (.UnaryOp .Not a pos) (aNot tA) := pt_of (pt_not ha) fun σ H Q h => by
  obtain ⟨env, w, rfl, ok, tr0, er, P, h, k⟩ := h
  exact ⟨env, w, rfl, ok, tr0, er, _, h, fun b w1 h1 t1 ok1 => k (!b) w1 h1 t1 ok1⟩
/-- .. as values, all bools -/
def aAndV (t u : ATE) : ATE := fun env own P => t env own fun d o => match d with
  | .bl true => u env o P
  | .bl false => P (.bl false) o
  | _ => False
def aOrV (t u : ATE) : ATE := fun env own P => t env own fun d o => match d with
  | .bl true => P (.bl true) o
  | .bl false => u env o P
  | _ => False
def aNotV (t : ATE) : ATE := fun env own P => t env own fun d o => match d with
  | .bl b => P (.bl (!b)) o
  | _ => False
theorem ae_one {op} (h : AE X w0 a ta) : AE X w0 (.BoolOp op [a] pos) ta := pe_one h
theorem ae_and (ha : AE X w0 a ta) (hb : AE X w0 (.BoolOp .And (b :: rest) pos) tb) : AE X w0 (.BoolOp .And (a :: b :: rest) pos) (aAndV ta tb) := pe_of (pe_and ha hb) fun σ H Q h => by
  obtain ⟨env, w, rfl, ok, tr0, er, P, h, k⟩ := h
  refine ⟨env, w, rfl, ok, tr0, er, _, h, fun d w1 x h1 t1 ok1 dx => ?_⟩
  cases d with
  | bl b =>
    unfold Dt at dx
    refine ⟨b, dx, ?_⟩
    cases b with
    | true => rw [if_pos rfl]; exact ⟨env, w1, rfl, ok1, tr0.trans t1, er.mono t1.gs, P, h1, fun b' w2 v h2 t2 ok2 => k b' w2 v h2 (t1.trans t2) ok2⟩
    | false => rw [if_neg (by decide)]; exact k _ w1 _ h1 t1 ok1 (by unfold Dt; rfl)
  | _ => exact (h1 : False).elim
theorem ae_or (ha : AE X w0 a ta) (hb : AE X w0 (.BoolOp .Or (b :: rest) pos) tb) : AE X w0 (.BoolOp .Or (a :: b :: rest) pos) (aOrV ta tb) := pe_of (pe_or ha hb) fun σ H Q h => by
  obtain ⟨env, w, rfl, ok, tr0, er, P, h, k⟩ := h
  refine ⟨env, w, rfl, ok, tr0, er, _, h, fun d w1 x h1 t1 ok1 dx => ?_⟩
  cases d with
  | bl b =>
    unfold Dt at dx
    refine ⟨b, dx, ?_⟩
    cases b with
    | false => rw [if_neg (by decide)]; exact ⟨env, w1, rfl, ok1, tr0.trans t1, er.mono t1.gs, P, h1, fun b' w2 v h2 t2 ok2 => k b' w2 v h2 (t1.trans t2) ok2⟩
    | true => rw [if_pos rfl]; exact k _ w1 _ h1 t1 ok1 (by unfold Dt; rfl)
  | _ => exact (h1 : False).elim
theorem ae_not (ha : AE X w0 a ta) : AE X w0 (.UnaryOp .Not a pos) (aNotV ta) := pe_of (pe_not ha) fun σ H Q h => by
  obtain ⟨env, w, rfl, ok, tr0, er, P, h, k⟩ := h
  refine ⟨env, w, rfl, ok, tr0, er, _, h, fun d w1 x h1 t1 ok1 dx => ?_⟩
  cases d with
  | bl b => unfold Dt at dx; exact ⟨b, dx, k _ w1 _ h1 t1 ok1 (by unfold Dt; rfl)⟩
  | _ => exact (h1 : False).elim
def aIf (t : ATT) (ta tb : ATE) : ATE := fun env own P => t env own fun b o => match b with
  | true => ta env o P
  | false => tb env o P
theorem ae_if (hc : AT X w0 c tA) (ha : AE X w0 a ta) (hb : AE X w0 b tb) : AE X w0 (.IfExp c a b pos) (aIf tA ta tb) := pe_of (pe_ifExp hc ha hb) fun σ H Q h => by
  obtain ⟨env, w, rfl, ok, tr0, er, P, h, k⟩ := h
  refine ⟨env, w, rfl, ok, tr0, er, _, h, fun b w1 h1 t1 ok1 => ?_⟩
  cases b with
  | true => rw [if_pos rfl]; exact ⟨env, w1, rfl, ok1, tr0.trans t1, er.mono t1.gs, P, h1, fun b' w2 v h2 t2 ok2 => k b' w2 v h2 (t1.trans t2) ok2⟩
  | false => rw [if_neg (by decide)]; exact ⟨env, w1, rfl, ok1, tr0.trans t1, er.mono t1.gs, P, h1, fun b' w2 v h2 t2 ok2 => k b' w2 v h2 (t1.trans t2) ok2⟩
/-! lists of arguments, displays -/
def aNil : ATA := fun _ own P => P [] own
def aCons (t : ATE) (u : ATA) : ATA := fun env own P => t env own fun d o => u env o fun ds o2 => P (d :: ds) o2
variable {es : List Expr} {tr : ATA}
theorem aa_nil : AA X w0 [] aNil := pa_of pa_nil fun σ H Q h => by
  obtain ⟨env, w, rfl, ok, tr0, er, P, h, k⟩ := h
  exact k [] w [] h (Tr.refl w) ok .nil
theorem aa_cons (ha : AE X w0 e ta) (hr : AA X w0 es tr) (hs : starEach (e :: es) X.env = (false, eval e X.env) :: starEach es X.env := by rfl) : AA X w0 (e :: es) (aCons ta tr) := pa_of (pa_cons ha hr hs) fun σ H Q h => by
  obtain ⟨env, w, rfl, ok, tr0, er, P, h, k⟩ := h
  refine ⟨env, w, rfl, ok, tr0, er, _, h, fun d w1 x h1 t1 ok1 dx => ?_⟩
  exact ⟨env, w1, rfl, ok1, tr0.trans t1, er.mono t1.gs, _, h1, fun ds w2 vs h2 t2 ok2 dv => k (d :: ds) w2 (x :: vs) h2 (t1.trans t2) ok2 (.cons (dx.mono t2.gs) dv)⟩
def aTup (t : ATA) : ATE := fun env own P => t env own fun ds o => ds.length ≤ sizeLine ∧ P (.tup ds) o
def aLst (t : ATA) : ATN := fun env own P => t env own fun ds o => ds.length ≤ sizeLine ∧ P ds o
theorem Dt.tupI {K : PySem.W.Frag} {G : Hp} {p : Addr} {ds : List D} {vs : List V} (h : G p = some (.tup vs)) (r : Dts K G ds vs) : Dt K G (.tup ds) (.ref p) := by
  unfold Dt; exact ⟨p, vs, rfl, .of h, r⟩
theorem Dt.lstI {K : PySem.W.Frag} {G : Hp} {p : Addr} {ds : List D} {vs : List V} (h : G p = some (.lst vs)) (r : Dts K G ds vs) : Dt K G (.lst ds) (.ref p) := by
  unfold Dt; exact ⟨p, vs, rfl, .of h, r⟩
/-- a new tuple of known things -/
theorem newTup {K : PySem.W.Frag} {w : Wd} (ok : w.Ok K) {p : Addr} {ds : List D} {vs : List V} (h : w.H p = none) (r : Dts K w.G ds vs) (hz : ds.length ≤ sizeLine) :
    ∃ w', w'.H = upd w.H p (.tup vs) ∧ w'.own = w.own ∧ Tr w w' ∧ w'.Ok K ∧ Dt K w'.G (.tup ds) (.ref p) := by
  obtain ⟨ok', t⟩ := ok.frz (o := .tup vs) h (by show vs.length ≤ sizeLine; rw [r.length]; exact hz)
  exact ⟨w.frz p (.tup vs), rfl, rfl, t, ok', .tupI upd_same (r.mono t.gs)⟩
theorem newLst {K : PySem.W.Frag} {w : Wd} (ok : w.Ok K) {p : Addr} {ds : List D} {vs : List V} (h : w.H p = none) (r : Dts K w.G ds vs) (hz : ds.length ≤ sizeLine) :
    ∃ w', w'.H = upd w.H p (.lst vs) ∧ w'.own = w.own ∧ Tr w w' ∧ w'.Ok K ∧ Dt K w'.G (.lst ds) (.ref p) := by
  obtain ⟨ok', t⟩ := ok.frz (o := .lst vs) h (by show vs.length ≤ sizeLine; rw [r.length]; exact hz)
  exact ⟨w.frz p (.lst vs), rfl, rfl, t, ok', .lstI upd_same (r.mono t.gs)⟩
/-- a thing that is tracked, and of which nothing is said -/
theorem Wd.Ok.bare {K : PySem.W.Frag} {w : Wd} (ok : w.Ok K) {p : Addr} {o : HO} (h : w.H p = none ∨ (w.G p = none ∧ w.own p = none)) (hz : SzOk o) : (Wd.mk w.own w.G (upd w.H p o)).Ok K := by
  have hg : w.G p = none := by rcases h with h | h; exact ok.noG h; exact h.1
  have ho : w.own p = none := by rcases h with h | h; exact ok.noown h; exact h.2
  refine ⟨fun a u e => ?_, fun q m e => ?_, fun a u e => ?_⟩
  · show upd w.H p o a = some u
    have e' : w.G a = some u := e
    rw [upd_ne (fun z => by rw [z, hg] at e'; cases e')]; exact ok.sub a u e'
  · have e' : w.own q = some m := e
    obtain ⟨e1, u, e2, e3⟩ := ok.own q m e'
    exact ⟨e1, u, (upd_ne (fun z => by rw [z, ho] at e'; cases e')).trans e2, e3⟩
  · have e' : upd w.H p o a = some u := e
    by_cases hp : a = p
    · subst hp; rw [upd_same] at e'; cases e'; exact hz
    · rw [upd_ne hp] at e'; exact ok.sz a u e'
/-- .. new since w0 -/
theorem Tr.bare {w0 w : Wd} (t : Tr w0 w) {p : Addr} {o : HO} (h : w0.H p = none) : Tr w0 ⟨w.own, w.G, upd w.H p o⟩ where
  fr := fun a u e n => by
    show upd w.H p o a = some u
    rw [upd_ne (ne_of_none e h)]; exact t.fr a u e n
  gs := t.gs
  gd := t.gd
  od := t.od
  th := fun a e => by
    show upd w.H p o a ≠ none
    by_cases hp : a = p
    · subst hp; rw [upd_same]; simp
    · rw [upd_ne hp]; exact t.th a e
theorem ae_tup {k} (h : AA X w0 es tr) : AE X w0 (.Tuple es k pos) (aTup tr) := pe_of (pe_tup h) fun σ H Q h => by
  obtain ⟨env, w, rfl, ok, tr0, er, P, h, k⟩ := h
  refine ⟨env, w, rfl, ok, tr0, er, _, h, fun ds w1 vs h1 t1 ok1 dv => ⟨by rw [dv.length]; exact h1.1, fun p hp => ?_⟩⟩
  obtain ⟨w2, e1, e2, t2, ok2, d2⟩ := newTup ok1 hp dv h1.1
  rw [← e1]
  exact k _ w2 _ (by rw [e2]; exact h1.2) (t1.trans t2) ok2 d2
theorem an_lst (h : AA X w0 es tr) : AN X w0 (.List es pos) (aLst tr) := pe_of (pe_lst h) fun σ H Q h => by
  obtain ⟨env, w, rfl, ok, tr0, er, P, h, k⟩ := h
  refine ⟨env, w, rfl, ok, tr0, er, _, h, fun ds w1 vs h1 t1 ok1 dv => ⟨by rw [dv.length]; exact h1.1, fun p hp => ?_⟩⟩
  have hz : vs.length ≤ sizeLine := by rw [dv.length]; exact h1.1
  have ok2 := ok1.bare (p := p) (o := .lst vs) (.inl hp) hz
  have t2 : Tr w ⟨w1.own, w1.G, upd w1.H p (.lst vs)⟩ := t1.bare (t1.fresh hp)
  exact k ds ⟨w1.own, w1.G, upd w1.H p (.lst vs)⟩ p vs h1.2 t2 ok2 (t1.fresh hp) upd_same (ok1.noG hp) (ok1.noown hp) dv
/-- a new list that stands still from now on -/
def aFz (t : ATN) : ATE := fun env own P => t env own fun ds o => P (.lst ds) o
/-- a new list of one's own -/
def aOw (t : ATN) : ATE := fun env own P => t env own fun ds o => ∀ p, o p = none → P (.ref p) (oset o p (.lst ds))
theorem frzN {K : PySem.W.Frag} {w w' : Wd} (t : Tr w w') (ok : w'.Ok K) {p : Addr} {ds : List D} {vs : List V} (h0 : w.H p = none) (hp : w'.H p = some (.lst vs)) (hg : w'.G p = none) (ho : w'.own p = none) (r : Dts K w'.G ds vs) :
    ∃ w2, w2.H = w'.H ∧ w2.own = w'.own ∧ Tr w w2 ∧ w2.Ok K ∧ Dt K w2.G (.lst ds) (.ref p) := by
  refine ⟨⟨w'.own, upd w'.G p (.lst vs), w'.H⟩, rfl, rfl, ⟨t.fr, t.gs.trans (Sub.new hg), fun a e1 e2 e3 => ?_, t.od, t.th⟩, ⟨fun a u e => ?_, fun q m e => ?_, ok.sz⟩, .lstI upd_same (r.mono (Sub.new hg))⟩
  · show upd w'.G p (.lst vs) a = none
    rw [upd_ne (fun z => e2 (by rw [z]; exact h0))]; exact t.gd a e1 e2 e3
  · have e' : upd w'.G p (.lst vs) a = some u := e
    by_cases hq : a = p
    · subst hq; rw [upd_same] at e'; cases e'; exact hp
    · rw [upd_ne hq] at e'; exact ok.sub a u e'
  · obtain ⟨e1, u, e2, e3⟩ := ok.own q m e
    refine ⟨?_, u, e2, e3.mono (Sub.new hg)⟩
    show upd w'.G p (.lst vs) q = none
    rw [upd_ne (fun z => by rw [z] at e; rw [ho] at e; cases e)]; exact e1
theorem ownN {K : PySem.W.Frag} {w w' : Wd} (t : Tr w w') (ok : w'.Ok K) {p : Addr} {ds : List D} {vs : List V} (h0 : w.H p = none) (hp : w'.H p = some (.lst vs)) (hg : w'.G p = none) (ho : w'.own p = none) (r : Dts K w'.G ds vs) :
    ∃ w2, w2.H = w'.H ∧ w2.own = oset w'.own p (.lst ds) ∧ Tr w w2 ∧ w2.Ok K ∧ w2.G = w'.G := by
  refine ⟨⟨oset w'.own p (.lst ds), w'.G, w'.H⟩, rfl, rfl, ⟨t.fr, t.gs, t.gd, fun a e1 e2 => ?_, t.th⟩, ⟨ok.sub, fun q m e => ?_, ok.sz⟩, rfl⟩
  · show oset w'.own p (.lst ds) a = none
    rw [oset_ne (fun z => e2 (by rw [z]; exact h0))]; exact t.od a e1 e2
  · have e' : oset w'.own p (.lst ds) q = some m := e
    by_cases hq : q = p
    · subst hq; rw [oset_same] at e'; cases e'
      exact ⟨hg, _, hp, r⟩
    · rw [oset_ne hq] at e'; exact ok.own q m e'
theorem ae_fz {t : ATN} (h : AN X w0 e t) : AE X w0 e (aFz t) := pe_of h fun σ H Q h => by
  obtain ⟨env, w, rfl, ok, tr0, er, P, h, k⟩ := h
  refine ⟨env, w, rfl, ok, tr0, er, _, h, fun ds w1 p vs h1 t1 ok1 e0 e1 e2 e3 dv => ?_⟩
  obtain ⟨w2, a1, a2, t2, ok2, d2⟩ := frzN t1 ok1 e0 e1 e2 e3 dv
  rw [← a1]
  exact k _ w2 _ (by rw [a2]; exact h1) t2 ok2 d2
theorem ae_ow {t : ATN} (h : AN X w0 e t) : AE X w0 e (aOw t) := pe_of h fun σ H Q h => by
  obtain ⟨env, w, rfl, ok, tr0, er, P, h, k⟩ := h
  refine ⟨env, w, rfl, ok, tr0, er, _, h, fun ds w1 p vs h1 t1 ok1 e0 e1 e2 e3 dv => ?_⟩
  obtain ⟨w2, a1, a2, t2, ok2, d2⟩ := ownN t1 ok1 e0 e1 e2 e3 dv
  rw [← a1]
  exact k (.ref p) w2 _ (by rw [a2]; exact h1 p e3) t2 ok2 (by unfold Dt; rfl)
end
end L3

namespace L3
open PySem PySem.Spec L2

/-! ### blocks -/
def aSeq (t u : ATS) : ATS := fun E env own => t { E with nx := u E } env own
def aNext : ATS := fun E env own => E.nx env own
section
variable {X : Cx} {w0 : Wd} {st : Stmt} {rest : List Stmt} {t u : ATS} {e : Expr} {te : ATE} {pos : Pos}
theorem as_nil : ASs X w0 [] aNext := pss_of pss_nil fun E σ H h => by
  obtain ⟨env, w, rfl, ok, tr0, er, A, h, k, _⟩ := h
  exact k env w σ h (Tr.refl w) ok er
theorem as_cons (h1 : AS X w0 st t) (h2 : ASs X w0 rest u) : ASs X w0 (st :: rest) (aSeq t u) := pss_of (pss_cons h1 h2) fun E σ H h => by
  obtain ⟨env, w, rfl, ok, tr0, er, A, h, k1, k2, k3, k4⟩ := h
  refine ⟨env, w, rfl, ok, tr0, er, _, h, fun env1 w1 σ1 h1 t1 ok1 er1 => ?_, k2, k3, k4⟩
  exact ⟨env1, w1, rfl, ok1, tr0.trans t1, er1, A, h1, fun env2 w2 σ2 h2 t2 => k1 env2 w2 σ2 h2 (t1.trans t2), fun d w2 v h2 t2 => k2 d w2 v h2 (t1.trans t2), fun env2 w2 σ2 h2 t2 => k3 env2 w2 σ2 h2 (t1.trans t2), fun env2 w2 σ2 h2 t2 => k4 env2 w2 σ2 h2 (t1.trans t2)⟩
theorem as_one (h1 : AS X w0 st t) : ASs X w0 [st] t := pss_one h1
def aBreak : ATS := fun E env own => E.bk env own
def aCont : ATS := fun E env own => E.ct env own
theorem as_pass : AS X w0 (.Pass pos) aNext := ps_of ps_pass fun E σ H h => by
  obtain ⟨env, w, rfl, ok, tr0, er, A, h, k, _⟩ := h
  exact k env w σ h (Tr.refl w) ok er
theorem as_break : AS X w0 (.Break pos) aBreak := ps_of ps_break fun E σ H h => by
  obtain ⟨env, w, rfl, ok, tr0, er, A, h, _, _, k, _⟩ := h
  exact k env w σ h (Tr.refl w) ok er
theorem as_continue : AS X w0 (.Continue pos) aCont := ps_of ps_continue fun E σ H h => by
  obtain ⟨env, w, rfl, ok, tr0, er, A, h, _, _, _, k⟩ := h
  exact k env w σ h (Tr.refl w) ok er
theorem as_doc {x j pos pos'} : AS X w0 (.Expr (.Constant (.str x) j pos) pos') aNext := ps_of ps_doc fun E σ H h => by
  obtain ⟨env, w, rfl, ok, tr0, er, A, h, k, _⟩ := h
  exact k env w σ h (Tr.refl w) ok er
def aDrop (te : ATE) : ATS := fun E env own => te env own fun _ o => E.nx env o
theorem as_expr (he : AE X w0 e te) (hs : swapsWith e none pos.line X.env = pure false := by rfl) : AS X w0 (.Expr e pos) (aDrop te) := ps_of (ps_expr he hs) fun E σ H h => by
  obtain ⟨env, w, rfl, ok, tr0, er, A, h, k, _⟩ := h
  exact ⟨env, w, rfl, ok, tr0, er, _, h, fun d w1 v h1 t1 ok1 dv => k env w1 σ h1 t1 ok1 (er.mono t1.gs)⟩
def aRet (te : ATE) : ATS := fun E env own => te env own E.rt
theorem as_ret (he : AE X w0 e te) : AS X w0 (.Return (some e) pos) (aRet te) := ps_of (ps_ret he) fun E σ H h => by
  obtain ⟨env, w, rfl, ok, tr0, er, A, h, _, k, _⟩ := h
  exact ⟨env, w, rfl, ok, tr0, er, _, h, k⟩
def aRetN : ATS := fun E env own => E.rt .non own
theorem as_retN : AS X w0 (.Return none pos) aRetN := ps_of ps_retN fun E σ H h => by
  obtain ⟨env, w, rfl, ok, tr0, er, A, h, _, k, _⟩ := h
  exact k .non w _ h (Tr.refl w) ok (by unfold Dt; rfl)
def aIfS (c : ATT) (t u : ATS) : ATS := fun E env own => c env own fun b o => match b with
  | true => t E env o
  | false => u E env o
theorem as_if {c : Expr} {a b : List Stmt} {tc : ATT} (hc : AT X w0 c tc) (ha : ASs X w0 a t) (hb : ASs X w0 b u) : AS X w0 (.If c a b pos) (aIfS tc t u) := ps_of (ps_if hc ha hb) fun E σ H h => by
  obtain ⟨env, w, rfl, ok, tr0, er, A, h, k1, k2, k3, k4⟩ := h
  refine ⟨env, w, rfl, ok, tr0, er, _, h, fun b w1 h1 t1 ok1 => ?_⟩
  have fin : ∀ t : ATS, t A env w1.own → concS X.K w0 t E σ w1.H := fun t h1 => ⟨env, w1, rfl, ok1, tr0.trans t1, er.mono t1.gs, A, h1, fun env2 w2 σ2 h2 t2 => k1 env2 w2 σ2 h2 (t1.trans t2), fun d w2 v h2 t2 => k2 d w2 v h2 (t1.trans t2), fun env2 w2 σ2 h2 t2 => k3 env2 w2 σ2 h2 (t1.trans t2), fun env2 w2 σ2 h2 t2 => k4 env2 w2 σ2 h2 (t1.trans t2)⟩
  cases b with
  | true => exact iteT (fin t h1)
  | false => exact iteF (fin u h1)
def aNever : ATS := fun _ _ _ => False
theorem as_never : AS X w0 st aNever := ps_of ps_never fun E σ H h => by
  obtain ⟨env, w, rfl, ok, tr0, er, A, h, _⟩ := h
  exact h
theorem ass_never {sts : List Stmt} : ASs X w0 sts aNever := pss_of pss_never fun E σ H h => by
  obtain ⟨env, w, rfl, ok, tr0, er, A, h, _⟩ := h
  exact h
end

/-! ### targets -/
def gN (i : Nat) : ATG := fun d env own P => P (env.set i (some d)) own
def gTp (n : Nat) (g : ATGs) : ATG := fun d env own P => match see own d with
  | .tup ds => ds.length = n ∧ g ds env own P
  | .lst ds => ds.length = n ∧ g ds env own P
  | _ => False
def gsNil : ATGs := fun ds env own P => match ds with
  | [] => P env own
  | _ => False
def gsCons (g : ATG) (r : ATGs) : ATGs := fun ds env own P => match ds with
  | d :: ds => g d env own fun env1 o1 => r ds env1 o1 P
  | [] => False
/-- a, *b, c = ..: n targets, the i-th with the star -/
def gSt (n i : Nat) (g : ATGs) : ATG := fun d env own P => match see own d with
  | .tup ds => n ≤ ds.length + 1 ∧ ds.length ≤ 16384 ∧ g (ds.take i ++ [.lst ((ds.drop i).take (ds.length + 1 - n))] ++ (ds.drop i).drop (ds.length + 1 - n)) env own P
  | .lst ds => n ≤ ds.length + 1 ∧ ds.length ≤ 16384 ∧ g (ds.take i ++ [.lst ((ds.drop i).take (ds.length + 1 - n))] ++ (ds.drop i).drop (ds.length + 1 - n)) env own P
  | _ => False
theorem Only.refl (vs : List Nat) (σ : L2.St) : Only vs σ σ := ⟨rfl, fun _ _ => rfl⟩
theorem Only.trans {vs : List Nat} {σ σ1 σ2 : L2.St} (a : Only vs σ σ1) (b : Only vs σ1 σ2) : Only vs σ σ2 := ⟨b.1.trans a.1, fun i h => (b.2 i h).trans (a.2 i h)⟩
theorem Only.set {vs : List Nat} {σ : L2.St} {i : Nat} {x : Option V} (h : i ∈ vs) : Only vs σ (σ.set i x) := ⟨by simp, fun j hj => by
  rw [List.getElem?_set_ne (fun z => hj (by rw [← z]; exact h))]⟩
section
open PyProof.Rows
variable {prog : Program} {w : World} {A : Around} {E : Value → Shared → Prop} {s : Shared}
/-- first, *mids, last = a tuple -/
theorem starT {l : Addr} {items : Array Value} {n i : Nat} {Q : List Value → Shared → Prop} (hl : IsTup s.heap l items) (hh : A.handled = none) (hi : i < n) (hn : n ≤ items.size + 1) (hz : items.size ≤ sizeLine)
    (h : ∀ (h' : Heap) tk, (∀ b o, s.heap.get? b = some o → h'.get? b = some o) → Q (items.toList.take i ++ [.ref h'.objs.size] ++ (items.toList.drop i).drop (items.size + 1 - n)) { s with heap := h'.push { cls := .type "list", data := .seq ((items.toList.drop i).take (items.size + 1 - n)).toArray }, toks := tk }) :
    wpAny (model prog w) A (unpackItems (.ref l) n (some i)) Q E s := by
  have ne : l ≠ s.heap.objs.size := by obtain ⟨o, ho, _⟩ := hl; exact Nat.ne_of_lt (Heap.lt_size ho)
  have len1 : (items.toList.take i).length = i := by rw [List.length_take, Array.length_toList]; omega
  have len2 : (items.toList.drop i).length = items.size - i := by rw [List.length_drop, Array.length_toList]
  unfold unpackItems
  refine wpAny_bind ?_
  unfold notIterableAtAll
  refine wpAny_bind (wpAny_specialOf hl.typeIs slot_tuple_iter.lookup (wpAny_pure ?_))
  rw [if_neg (by decide)]
  refine wpAny_bind (wpAny_holding (iter_tuple hl ?_))
  refine wpAny_bind (wpAny_holding (draw_tuple ne i 0 _ _ ⟨_, Heap.get?_push_size _ rfl, rfl, rfl⟩ (hl.push _) (by omega) fun h1 it1 s1 => ?_))
  have l1 : IsTup h1 l items := (hl.push _).extBut s1.extBut ne
  rw [Nat.zero_add] at it1
  rw [List.drop_zero, if_neg (by rw [len1]; omega)]
  obtain ⟨oi, hoi, _⟩ := id it1
  obtain ⟨ol, hol, _⟩ := id l1
  refine wpAny_bind (wpAny_holding (PySem.W.kun_collect (s := { s with heap := h1 }) (T := "tuple_iterator") (.inr (.inr (.inr rfl))) (PySem.Walks.tuple (A := A.in1) hh s.heap.objs.size l ne items) (fun j u st => st.1.typeIs) (k := i) (by omega) ⟨it1, l1⟩ (Heap.lt_size hoi) (Heap.lt_size hol) (fun h2 tk k2 => ?_) hz))
  show wpAny _ _ (if (items.toList.drop i).length < n - 1 - i then _ else _) _ _ _
  rw [if_neg (by rw [len2]; omega)]
  have em : (items.toList.drop i).length - (n - 1 - i) = items.size + 1 - n := by rw [len2]; omega
  show wpAny _ _ (newList ((items.toList.drop i).take ((items.toList.drop i).length - (n - 1 - i))) >>= fun d => pure (items.toList.take i ++ [d] ++ (items.toList.drop i).drop ((items.toList.drop i).length - (n - 1 - i)))) _ _ _
  rw [em]
  have kp : ∀ b o, s.heap.get? b = some o → h2.get? b = some o := fun b o e => by
    have nb : b ≠ s.heap.objs.size := Nat.ne_of_lt (Heap.lt_size e)
    exact k2 b o nb (s1.extBut b o nb (Heap.get?_push_of_some _ e))
  refine wpAny_bind (wpAny_newObj_type (wpAny_pure (h h2 tk kp)) ?_)
  show ((items.toList.drop i).take (items.size + 1 - n)).toArray.size ≤ sizeLine
  rw [List.size_toArray, List.length_take, len2]; omega
theorem starL {l : Addr} {items : Array Value} {n i : Nat} {Q : List Value → Shared → Prop} (hl : s.heap.IsList l items) (hh : A.handled = none) (hi : i < n) (hn : n ≤ items.size + 1) (hz : items.size ≤ sizeLine)
    (h : ∀ (h' : Heap) tk, (∀ b o, s.heap.get? b = some o → h'.get? b = some o) → Q (items.toList.take i ++ [.ref h'.objs.size] ++ (items.toList.drop i).drop (items.size + 1 - n)) { s with heap := h'.push { cls := .type "list", data := .seq ((items.toList.drop i).take (items.size + 1 - n)).toArray }, toks := tk }) :
    wpAny (model prog w) A (unpackItems (.ref l) n (some i)) Q E s := by
  have ne : l ≠ s.heap.objs.size := by obtain ⟨o, ho, _⟩ := hl; exact Nat.ne_of_lt (Heap.lt_size ho)
  have len1 : (items.toList.take i).length = i := by rw [List.length_take, Array.length_toList]; omega
  have len2 : (items.toList.drop i).length = items.size - i := by rw [List.length_drop, Array.length_toList]
  unfold unpackItems
  refine wpAny_bind ?_
  unfold notIterableAtAll
  refine wpAny_bind (wpAny_specialOf hl.typeIs slot_list_iter.lookup (wpAny_pure ?_))
  rw [if_neg (by decide)]
  refine wpAny_bind (wpAny_holding (wpAny_pyIter_list hl ?_))
  refine wpAny_bind (wpAny_holding (PySem.W.kun_draw ne i 0 _ _ ⟨_, Heap.get?_push_size _ rfl, rfl, rfl⟩ (hl.push _) (by omega) fun h1 it1 s1 => ?_))
  have l1 : h1.IsList l items := (hl.push _).extBut s1.extBut ne
  rw [Nat.zero_add] at it1
  rw [List.drop_zero, if_neg (by rw [len1]; omega)]
  obtain ⟨oi, hoi, _⟩ := id it1
  obtain ⟨ol, hol, _⟩ := id l1
  refine wpAny_bind (wpAny_holding (PySem.W.kun_collect (s := { s with heap := h1 }) (T := "list_iterator") (.inr (.inr (.inl rfl))) (PySem.Walks.list (A := A.in1) hh s.heap.objs.size l ne items) (fun j u st => st.1.typeIs) (k := i) (by omega) ⟨it1, l1⟩ (Heap.lt_size hoi) (Heap.lt_size hol) (fun h2 tk k2 => ?_) hz))
  show wpAny _ _ (if (items.toList.drop i).length < n - 1 - i then _ else _) _ _ _
  rw [if_neg (by rw [len2]; omega)]
  have em : (items.toList.drop i).length - (n - 1 - i) = items.size + 1 - n := by rw [len2]; omega
  show wpAny _ _ (newList ((items.toList.drop i).take ((items.toList.drop i).length - (n - 1 - i))) >>= fun d => pure (items.toList.take i ++ [d] ++ (items.toList.drop i).drop ((items.toList.drop i).length - (n - 1 - i)))) _ _ _
  rw [em]
  have kp : ∀ b o, s.heap.get? b = some o → h2.get? b = some o := fun b o e => by
    have nb : b ≠ s.heap.objs.size := Nat.ne_of_lt (Heap.lt_size e)
    exact k2 b o nb (s1.extBut b o nb (Heap.get?_push_of_some _ e))
  refine wpAny_bind (wpAny_newObj_type (wpAny_pure (h h2 tk kp)) ?_)
  show ((items.toList.drop i).take (items.size + 1 - n)).toArray.size ≤ sizeLine
  rw [List.size_toArray, List.length_take, len2]; omega
end
section
variable {X : Cx} {w0 : Wd} {pos : Pos} {vs : List Nat}
theorem pg_or {e : Expr} {t t' : TG} (h : PG X e t) (h' : PG X e t') : PG X e (fun v σ H Q => t v σ H Q ∨ t' v σ H Q) :=
  ⟨fun pins s σ H v u Q I r hw => hw.elim (h.run pins s σ H v u Q I r) (h'.run pins s σ H v u Q I r)⟩
def gStV (K : PySem.W.Frag) (n i : Nat) (t : TGs) : TG := fun v σ H Q => ∃ a xs, v = .ref a ∧ (SqT K H a xs ∨ SqL K H a xs) ∧ n ≤ xs.length + 1 ∧
  ∀ p, H p = none → t (xs.take i ++ [.ref p] ++ (xs.drop i).drop (xs.length + 1 - n)) σ (upd H p (.lst ((xs.drop i).take (xs.length + 1 - n)))) Q
theorem pg_st {es : List Expr} {k : Nat} {t : TGs} {n i : Nat} (hc : X.calm = true) (h : PGs X es t) (hi : i < n)
    (hn : (assignEach es X.env).length = n := by rfl) (hst : (assignEach es X.env).findIdx? (·.1) = some i := by rfl) : PG X (.Tuple es k pos) (gStV X.K n i t) := by
  refine ⟨fun pins s σ H v u Q I r hw => ?_⟩
  obtain ⟨a, xs, rfl, hq, hl, hw⟩ := hw
  cases r
  rw [PyProof.Rows.assign_Tuple]
  refine wpAny_bind (wpAny_standAt ?_)
  unfold unpack
  rw [hn, hst]
  have go : ∀ its : List Value, Vals xs its → xs.length ≤ sizeLine → ∀ (h' : Heap) tk, (∀ b o, s.heap.get? b = some o → h'.get? b = some o) →
      wpAny (model X.prog X.w) X.A (assignInOrder ((assignEach es X.env).map (·.2)) (its.toArray.toList.take i ++ [.ref h'.objs.size] ++ (its.toArray.toList.drop i).drop (its.toArray.size + 1 - n))) (fun _ s' => ∃ σ' H', Inv X pins σ' H' s' ∧ Q σ' H') X.xe
        { s with heap := h'.push { cls := .type "list", data := .seq ((its.toArray.toList.drop i).take (its.toArray.size + 1 - n)).toArray }, toks := tk } := fun its rv hz h' tk kp => by
    have I1 : Inv X pins σ H { s with heap := h', toks := tk } := I.kept (t' := tk) kp
    have el : its.toArray.size = xs.length := by rw [List.size_toArray, rv.length]
    have I2 := I1.lnew (its := (its.drop i).take (xs.length + 1 - n)) (ys := (xs.drop i).take (xs.length + 1 - n)) (t' := tk) ((rv.drop i).take _) (by rw [List.length_take, List.length_drop]; omega)
    have hf : H h'.objs.size = none := I1.fresh
    rw [el]
    exact h.run pins _ σ _ _ _ Q I2 (((rv.take i).append (.cons (show RelV (.ref h'.objs.size) (.ref h'.objs.size) from rfl) .nil)).append ((rv.drop i).drop _)) (hw _ hf)
  rcases hq with hq | hq
  · obtain ⟨its, rv, ht, hz⟩ := I.tuple hq
    exact wpAny_bind (wpAny_holding (starT ht (I.ok.hd hc) hi (by rw [List.size_toArray, ← rv.length]; exact hl) (by rw [List.size_toArray, ← rv.length]; exact hz) (go its rv hz)))
  · obtain ⟨its, rv, ht, hz⟩ := I.list hq
    exact wpAny_bind (wpAny_holding (starL ht.isList (I.ok.hd hc) hi (by rw [List.size_toArray, ← rv.length]; exact hl) (by rw [List.size_toArray, ← rv.length]; exact hz) (go its rv hz)))
theorem pgs_st {e : Expr} {es : List Expr} {sp : Pos} {t : TG} {u : TGs} (h1 : PG X e t) (h2 : PGs X es u) : PGs X (.Starred e sp :: es) (gCons t u) := by
  refine ⟨fun pins s σ H vs us Q I r h => ?_⟩
  obtain ⟨v, vr, rfl, h⟩ := h
  cases r with
  | cons r rr =>
    show wpAny _ _ (assignInOrder (assign e X.env :: (assignEach es X.env).map (·.2)) _) _ _ _
    refine PyProof.Rows.assignInOrder_cons (thn (h1.run pins s σ H _ _ _ I r h) fun _ s1 ⟨σ1, H1, I1, q1⟩ => ?_)
    exact h2.run pins s1 σ1 H1 _ _ Q I1 rr q1
theorem ag_n (i : Nat) {x : Str} {pos : Pos} (hN : X.N.Nodup) (hv : i ∈ vs) (hi : X.N[i]? = some x := by rfl) (hx : Loc X.env.scope x := by first | exact Or.inl rfl | exact Or.inr rfl) (hf : X.fn x = true ∨ X.env.scope.names.lookup x = some .local := by first | exact .inl rfl | exact .inr rfl | assumption) : AG X w0 vs (.Name x pos) (gN i) :=
  pg_of (pg_name hN hi hx hf) fun v σ H Q h => by
    obtain ⟨env, w, rfl, ok, tr0, er, d, P, dv, h, k⟩ := h
    exact k _ w _ h (Tr.refl w) ok (er.set i dv) (Only.set hv)
theorem ags_nil : AGs X w0 vs [] gsNil := pgs_of pgs_nil fun v σ H Q h => by
  obtain ⟨env, w, rfl, ok, tr0, er, ds, P, dv, h, k⟩ := h
  cases ds with
  | nil => unfold Dts at dv; exact ⟨dv, k _ w _ h (Tr.refl w) ok er (Only.refl _ _)⟩
  | cons _ _ => exact (h : False).elim
variable {e : Expr} {es : List Expr} {g : ATG} {gs : ATGs}
theorem gcons_of {v : List V} {σ : L2.St} {H : Hp} {Q : L2.St → Hp → Prop} (h : concGs X.K w0 vs (gsCons g gs) v σ H Q) : gCons (concG X.K w0 vs g) (concGs X.K w0 vs gs) v σ H Q := by
  obtain ⟨env, w, rfl, ok, tr0, er, ds, P, dv, h, k⟩ := h
  cases ds with
  | nil => exact (h : False).elim
  | cons d ds =>
    unfold Dts at dv
    obtain ⟨x, xr, rfl, dx, dr⟩ := dv
    refine ⟨x, xr, rfl, env, w, rfl, ok, tr0, er, d, _, dx, h, fun env1 w1 σ1 h1 t1 ok1 er1 o1 => ?_⟩
    exact ⟨env1, w1, rfl, ok1, tr0.trans t1, er1, ds, _, dr.mono t1.gs, h1, fun env2 w2 σ2 h2 t2 ok2 er2 o2 => k env2 w2 σ2 h2 (t1.trans t2) ok2 er2 (o1.trans o2)⟩
theorem ags_cons (h1 : AG X w0 vs e g) (h2 : AGs X w0 vs es gs) (hs : (assignEach (e :: es) X.env).map (·.2) = assign e X.env :: (assignEach es X.env).map (·.2) := by rfl) : AGs X w0 vs (e :: es) (gsCons g gs) := pgs_of (pgs_cons h1 h2 hs) fun _ _ _ _ h => gcons_of h
theorem ags_st {sp : Pos} (h1 : AG X w0 vs e g) (h2 : AGs X w0 vs es gs) : AGs X w0 vs (.Starred e sp :: es) (gsCons g gs) := pgs_of (pgs_st h1 h2) fun _ _ _ _ h => gcons_of h
theorem ag_tp {k : Nat} {n : Nat} (hc : X.calm = true) (h : AGs X w0 vs es gs) (hn : (assignEach es X.env).length = n := by rfl) (hst : (assignEach es X.env).findIdx? (·.1) = none := by rfl) : AG X w0 vs (.Tuple es k pos) (gTp n gs) :=
  pg_of (pg_or (pg_tup hc h hn hst) (pg_lst hc h hn hst)) fun v σ H Q h => by
    obtain ⟨env, w, rfl, ok, tr0, er, d, P, dv, h, k⟩ := h
    have sv := see_ok ok dv
    unfold gTp at h
    cases e : see w.own d with
    | tup ds =>
      rw [e] at h sv
      obtain ⟨a, us, rfl, e2, e3⟩ := sv
      exact .inl ⟨a, us, rfl, e2, by rw [e3.length]; exact h.1, env, w, rfl, ok, tr0, er, ds, P, e3, h.2, k⟩
    | lst ds =>
      rw [e] at h sv
      obtain ⟨a, us, rfl, e2, e3⟩ := sv
      exact .inr ⟨a, us, rfl, .inl e2, by rw [e3.length]; exact h.1, env, w, rfl, ok, tr0, er, ds, P, e3, h.2, k⟩
    | non => rw [e] at h; exact h.elim
    | bl _ => rw [e] at h; exact h.elim
    | int _ => rw [e] at h; exact h.elim
    | str _ => rw [e] at h; exact h.elim
    | ty _ => rw [e] at h; exact h.elim
    | kls _ => rw [e] at h; exact h.elim
    | dct _ => rw [e] at h; exact h.elim
    | ref _ => rw [e] at h; exact h.elim
theorem ag_st {k : Nat} {n i : Nat} (hc : X.calm = true) (hi : i < n) (h : AGs X w0 vs es gs) (hn : (assignEach es X.env).length = n := by rfl) (hst : (assignEach es X.env).findIdx? (·.1) = some i := by rfl) : AG X w0 vs (.Tuple es k pos) (gSt n i gs) :=
  pg_of (pg_st hc h hi hn hst) fun v σ H Q h => by
    obtain ⟨env, w, rfl, ok, tr0, er, d, P, dv, h, k⟩ := h
    have sv := see_ok ok dv
    unfold gSt at h
    have fin : ∀ (ds : List D) (us : List V), Dts X.K w.G ds us → (n ≤ ds.length + 1 ∧ ds.length ≤ 16384 ∧ gs (ds.take i ++ [.lst ((ds.drop i).take (ds.length + 1 - n))] ++ (ds.drop i).drop (ds.length + 1 - n)) env w.own P) →
        n ≤ us.length + 1 ∧ ∀ p, w.H p = none → concGs X.K w0 vs gs (us.take i ++ [.ref p] ++ (us.drop i).drop (us.length + 1 - n)) σ (upd w.H p (.lst ((us.drop i).take (us.length + 1 - n)))) Q := fun ds us dr h => by
      have el := dr.length
      refine ⟨by rw [el]; exact h.1, fun p hp => ?_⟩
      rw [el]
      obtain ⟨w1, a1, a2, t1, ok1, d1⟩ := newLst ok hp ((dr.drop i).take (ds.length + 1 - n)) (by
        have h2 := h.2.1
        rw [List.length_take, List.length_drop]
        have : (16384 : Nat) ≤ sizeLine := by decide
        omega)
      rw [← a1]
      exact ⟨env, w1, rfl, ok1, tr0.trans t1, er.mono t1.gs, _, P, (((dr.mono t1.gs).take i).append (.cons d1 .nil)).append (((dr.mono t1.gs).drop i).drop _), by rw [a2]; exact h.2.2, fun env2 w2 σ2 h2 t2 => k env2 w2 σ2 h2 (t1.trans t2)⟩
    cases e : see w.own d with
    | tup ds =>
      rw [e] at h sv
      obtain ⟨a, us, rfl, e2, e3⟩ := sv
      exact ⟨a, us, rfl, .inl e2, fin ds us e3 h⟩
    | lst ds =>
      rw [e] at h sv
      obtain ⟨a, us, rfl, e2, e3⟩ := sv
      exact ⟨a, us, rfl, .inr (.inl e2), fin ds us e3 h⟩
    | non => rw [e] at h; exact h.elim
    | bl _ => rw [e] at h; exact h.elim
    | int _ => rw [e] at h; exact h.elim
    | str _ => rw [e] at h; exact h.elim
    | ty _ => rw [e] at h; exact h.elim
    | kls _ => rw [e] at h; exact h.elim
    | dct _ => rw [e] at h; exact h.elim
    | ref _ => rw [e] at h; exact h.elim
/-! ### assignments -/
def aAsg (te : ATE) (g : ATG) : ATS := fun E env own => te env own fun d o => g d env o E.nx
variable {tg : Expr} {te : ATE}
theorem asg_of {E : Ends} {σ : L2.St} {H : Hp} (h : concS X.K w0 (aAsg te g) E σ H) : tAsg (concE X.K w0 te) (concG X.K w0 vs g) E σ H := by
  obtain ⟨env, w, rfl, ok, tr0, er, A, h, k, _⟩ := h
  refine ⟨env, w, rfl, ok, tr0, er, _, h, fun d w1 v h1 t1 ok1 dv => ?_⟩
  exact ⟨env, w1, rfl, ok1, tr0.trans t1, er.mono t1.gs, d, _, dv, h1, fun env2 w2 σ2 h2 t2 ok2 er2 _ => k env2 w2 σ2 h2 (t1.trans t2) ok2 er2⟩
theorem as_asg (he : AE X w0 e te) (hg : AG X w0 vs tg g) (hs : swapsWithSole [tg] e pos.line X.env = pure false := by rfl) (hw : swappedStores [tg] e X.env = pure none := by rfl)
    (h1 : (assignEach [tg] X.env).map (·.2) = [assign tg X.env] := by rfl) : AS X w0 (.Assign [tg] e pos) (aAsg te g) := ps_of (ps_asg he hg hs hw h1) fun _ _ _ h => asg_of h
/-- name = value -/
theorem as_set (i : Nat) {x : Str} {pos' : Pos} (hN : X.N.Nodup) (he : AE X w0 e te) (hi : X.N[i]? = some x := by rfl) (hx : Loc X.env.scope x := by first | exact Or.inl rfl | exact Or.inr rfl) (hs : swapsWith e (some (.Name x pos')) pos.line X.env = pure false := by rfl) (hf : X.fn x = true ∨ X.env.scope.names.lookup x = some .local := by first | exact .inl rfl | exact .inr rfl | assumption) :
    AS X w0 (.Assign [.Name x pos'] e pos) (aAsg te (gN i)) := ps_of (ps_set hN hi hx he hs hf) fun E σ H h => by
  obtain ⟨env, w, rfl, ok, tr0, er, A, h, k, _⟩ := h
  exact ⟨env, w, rfl, ok, tr0, er, _, h, fun d w1 v h1 t1 ok1 dv => k _ w1 _ h1 t1 ok1 ((er.mono t1.gs).set i dv)⟩
/-- a, b = x, y: two plain local names -/
def aPar (i j : Nat) (ta : ATA) : ATS := fun E env own => ta env own fun ds o => match ds with
  | [d, e] => E.nx ((env.set i (some d)).set j (some e)) o
  | _ => False
theorem as_par (i j : Nat) {x y : Str} {a b : Expr} {ta : ATA} {px py pt : Pos} {kt k2 pt2} (hc : X.calm = true) (hN : X.N.Nodup) (ha : AA X w0 [a, b] ta) (hij : i ≠ j) (hi : X.N[i]? = some x := by rfl) (hj : X.N[j]? = some y := by rfl)
    (hx : X.env.scope.names.lookup x = some .local := by rfl) (hy : X.env.scope.names.lookup y = some .local := by rfl)
    (hw : swappedStores [.Tuple [.Name x px, .Name y py] kt pt] (.Tuple [a, b] k2 pt2) X.env = pure (some [x, y]) := by rfl)
    (hs : swapsWithSole [.Tuple [.Name x px, .Name y py] kt pt] (.Tuple [a, b] k2 pt2) pos.line X.env = pure false := by rfl) :
    AS X w0 (.Assign [.Tuple [.Name x px, .Name y py] kt pt] (.Tuple [a, b] k2 pt2) pos) (aPar i j ta) := ps_of (ps_par hc hN hi hj hij hx hy ha hw hs) fun E σ H h => by
  obtain ⟨env, w, rfl, ok, tr0, er, A, h, k, _⟩ := h
  refine ⟨env, w, rfl, ok, tr0, er, _, h, fun ds w1 us h1 t1 ok1 dv => ?_⟩
  match ds, h1, dv with
  | [d, e], h1, dv =>
    unfold Dts at dv
    obtain ⟨v, vr, rfl, d1, d2⟩ := dv
    unfold Dts at d2
    obtain ⟨u, ur, rfl, d3, d4⟩ := d2
    unfold Dts at d4
    subst d4
    exact ⟨v, u, rfl, k _ w1 _ h1 t1 ok1 (((er.mono t1.gs).set i d1).set j d3)⟩
/-- name op= value -/
def aAug (f : BinF) (i : Nat) (te : ATE) : ATS := fun E env own => match eg env i with
  | some d => te env own fun e o => f o d e fun z => E.nx (env.set i (some z)) o
  | none => False
theorem as_aug (i : Nat) {x : Str} {op : Operator} {ti : TIp} {f : BinF} {pos' : Pos} (ho : PIp X op ti) (hs : OpS X.K ti f) (hN : X.N.Nodup) (he : AE X w0 e te) (hi : X.N[i]? = some x := by rfl) (hx : Loc X.env.scope x := by first | exact Or.inl rfl | exact Or.inr rfl) (hf : X.fn x = true ∨ X.env.scope.names.lookup x = some .local := by first | exact .inl rfl | exact .inr rfl | assumption) :
    AS X w0 (.AugAssign (.Name x pos') op e pos) (aAug f i te) := ps_of (ps_aug hN hi hx he ho hf) fun E σ H h => by
  obtain ⟨env, w, rfl, ok, tr0, er, A, h, k, _⟩ := h
  unfold aAug at h
  cases e1 : eg env i with
  | none => rw [e1] at h; exact h.elim
  | some d =>
    rw [e1] at h
    obtain ⟨v, a1, a2⟩ := er.2 i d e1
    refine ⟨v, a1, env, w, rfl, ok, tr0, er, _, h, fun e2 w1 u h1 t1 ok1 dv => ?_⟩
    exact hs w1 d e2 v u _ _ ok1 (a2.mono t1.gs) dv h1 fun z w2 y hz ho t2 ok2 dz => k _ w2 _ (by rw [ho]; exact hz) (t1.trans t2) ok2 (((er.mono t1.gs).mono t2.gs).set i dz)
end

/-! ### loops -/
/-- the turns of a for -/
def aTurns (g : ATG) (b : ATS) (gd : Own → Prop) (E : AEnds) : List D → AEnv → Own → Prop
  | [], env, own => gd own ∧ E.nx env own
  | d :: ds, env, own => gd own ∧ g d env own fun env1 o1 => b { nx := aTurns g b gd E ds, rt := E.rt, bk := E.nx, ct := aTurns g b gd E ds } env1 o1
def aFor (ti : ATI) (g : ATG) (b : ATS) : ATS := fun E env own => ti env own fun ds gd o => aTurns g b gd E ds env o
def aWhl (t : ATT) (b : ATS) (E : AEnds) : Nat → AEnv → Own → Prop
  | 0, _, _ => False
  | n + 1, env, own => t env own fun c o => match c with
    | true => b { nx := aWhl t b E n, rt := E.rt, bk := E.nx, ct := aWhl t b E n } env o
    | false => E.nx env o
def aWhile (t : ATT) (b : ATS) : ATS := fun E env own => ∃ n, aWhl t b E n env own
section
variable {X : Cx} {w0 : Wd} {pos : Pos} {vs : List Nat}
theorem as_for {tg iter : Expr} {body : List Stmt} {ti : ATI} {g : ATG} {tb : ATS} (hp : PassesOwn (model X.prog X.w) X.A X.env X.xe) (hc : X.calm = true) (hi : AI X w0 tg iter ti) (hg : AG X w0 vs tg g) (hb : ASs X w0 body tb)
    (hs : ∀ x, foldedSetIterable iter X.env x = pure x := by intro _; rfl) : AS X w0 (.For tg iter body [] pos) (aFor ti g tb) := ps_of (ps_for hp hc hi hg hb hs) fun E σ H h => by
  obtain ⟨env, w, rfl, ok, tr0, er, A, h, k1, k2, k3, k4⟩ := h
  refine ⟨env, w, rfl, ok, tr0, er, _, h, fun ds gd w1 J h1 t1 ok1 wk => ?_⟩
  refine ⟨fun i m σ' H' => ∃ (env' : AEnv) (w' : Wd), w'.H = H' ∧ w'.Ok X.K ∧ Tr w1 w' ∧ EnvR X.K w'.G env' σ' ∧ m + i = ds.length ∧ aTurns g tb gd A (ds.drop i) env' w'.own,
    ⟨ds.length, env, w1, rfl, ok1, Tr.refl _, er.mono t1.gs, rfl, h1⟩, fun i m σ' H' hW => ?_⟩
  obtain ⟨env', w', rfl, ok', t', er', hm, hT⟩ := hW
  cases e : ds.drop i with
  | nil =>
    rw [e] at hT
    have hi' : i = ds.length := by
      have := List.drop_eq_nil_iff.mp e
      omega
    subst hi'
    exact .inl ⟨wk.stop w' ok' t'.gs hT.1, k1 env' w' σ' hT.2 (t1.trans t') ok' er'⟩
  | cons d dr =>
    rw [e] at hT
    have hlt : i < ds.length := by
      rcases Nat.lt_or_ge i ds.length with q | q
      · exact q
      · rw [List.drop_eq_nil_of_le q] at e; cases e
    have ed : ds[i]? = some d ∧ ds.drop (i + 1) = dr := by
      rw [List.drop_eq_getElem_cons hlt] at e
      injection e with e1 e2
      exact ⟨by rw [List.getElem?_eq_getElem hlt, e1], e2⟩
    refine .inr ⟨wk.go i w' ok' t'.gs hT.1 hlt, fun σ2 H2 => ∃ (env2 : AEnv) (w2 : Wd), w2.H = H2 ∧ w2.Ok X.K ∧ Tr w1 w2 ∧ EnvR X.K w2.G env2 σ2 ∧ (m - 1) + (i + 1) = ds.length ∧ aTurns g tb gd A (ds.drop (i + 1)) env2 w2.own,
      fun σ2 H2 q => ⟨m - 1, by omega, q⟩, fun x H2 hy => ?_⟩
    obtain ⟨d', w2, a1, rfl, a3, t2, ok2, dx⟩ := wk.yld i w' x H2 ok' t'.gs hT.1 hlt hy
    rw [ed.1] at a1; cases a1
    refine ⟨env', w2, rfl, ok2, ((tr0.trans t1).trans t').trans t2, er'.mono t2.gs, d, _, dx, by rw [a3]; exact hT.2, fun env3 w3 σ3 h3 t3 ok3 er3 _ => ?_⟩
    have T3 : Tr w1 w3 := (t'.trans t2).trans t3
    have fin : ∀ env4 (w4 : Wd) σ4, aTurns g tb gd A dr env4 w4.own → Tr w3 w4 → w4.Ok X.K → EnvR X.K w4.G env4 σ4 → ∃ (env2 : AEnv) (w2 : Wd), w2.H = w4.H ∧ w2.Ok X.K ∧ Tr w1 w2 ∧ EnvR X.K w2.G env2 σ4 ∧ (m - 1) + (i + 1) = ds.length ∧ aTurns g tb gd A (ds.drop (i + 1)) env2 w2.own :=
      fun env4 w4 σ4 h4 t4 ok4 er4 => ⟨env4, w4, rfl, ok4, T3.trans t4, er4, by omega, by rw [ed.2]; exact h4⟩
    exact ⟨env3, w3, rfl, ok3, (tr0.trans t1).trans T3, er3, _, h3, fin, fun d w4 v h4 t4 => k2 d w4 v h4 ((t1.trans T3).trans t4), fun env4 w4 σ4 h4 t4 => k1 env4 w4 σ4 h4 ((t1.trans T3).trans t4), fin⟩
theorem as_while {c : Expr} {body : List Stmt} {tc : ATT} {tb : ATS} (hp : PassesOwn (model X.prog X.w) X.A X.env X.xe) (hc : AT X w0 c tc) (hb : ASs X w0 body tb) : AS X w0 (.While c body [] pos) (aWhile tc tb) := ps_of (ps_while hp hc hb) fun E σ H h => by
  obtain ⟨env, w, rfl, ok, tr0, er, A, ⟨n, h⟩, k1, k2, k3, k4⟩ := h
  refine ⟨fun m σ' H' => ∃ (env' : AEnv) (w' : Wd), w'.H = H' ∧ w'.Ok X.K ∧ Tr w w' ∧ EnvR X.K w'.G env' σ' ∧ aWhl tc tb A m env' w'.own, ⟨n, env, w, rfl, ok, Tr.refl _, er, h⟩, fun m σ' H' hW => ?_⟩
  obtain ⟨env', w', rfl, ok', t', er', hT⟩ := hW
  cases m with
  | zero => exact (hT : False).elim
  | succ m =>
    refine ⟨env', w', rfl, ok', tr0.trans t', er', _, hT, fun b w2 h2 t2 ok2 => ?_⟩
    cases b with
    | false => rw [if_neg (by decide)]; exact k1 env' w2 σ' h2 (t'.trans t2) ok2 (er'.mono t2.gs)
    | true =>
      rw [if_pos rfl]
      refine ⟨fun σ3 H3 => ∃ (env3 : AEnv) (w3 : Wd), w3.H = H3 ∧ w3.Ok X.K ∧ Tr w w3 ∧ EnvR X.K w3.G env3 σ3 ∧ aWhl tc tb A m env3 w3.own, fun σ3 H3 q => ⟨m, Nat.lt_succ_self _, q⟩, ?_⟩
      have T2 := t'.trans t2
      exact ⟨env', w2, rfl, ok2, tr0.trans T2, er'.mono t2.gs, _, h2, fun env4 w4 σ4 h4 t4 ok4 er4 => ⟨env4, w4, rfl, ok4, T2.trans t4, er4, h4⟩, fun d w4 v h4 t4 => k2 d w4 v h4 (T2.trans t4),
        fun env4 w4 σ4 h4 t4 => k1 env4 w4 σ4 h4 (T2.trans t4), fun env4 w4 σ4 h4 t4 ok4 er4 => ⟨env4, w4, rfl, ok4, T2.trans t4, er4, h4⟩⟩
end
end L3

namespace L3
open PySem PySem.Spec PyProof.Rows L2

/-! ### what is walked -/
def signs (x : Str) : List D := x.cps.toList.map fun c => .str ⟨#[c]⟩
/-- a list, a tuple, a text -/
def aIt (te : ATE) : ATI := fun env own P => te env own fun d o => match see o d with
  | .lst ds => P ds (fun o' => see o' d = .lst ds) o
  | .tup ds => P ds (fun _ => True) o
  | .str x => x.cps.size ≤ sizeLine ∧ P (signs x) (fun _ => True) o
  | _ => False
def iSeq (K : PySem.W.Frag) (tl : TE) : TI := fun σ H R => tl σ H fun x H1 => (∃ a, x = .ref a ∧ (∃ xs, SqL K H1 a xs) ∧ R (Itl K a) H1) ∨ (∃ a, x = .ref a ∧ (∃ xs, SqT K H1 a xs) ∧ R (Itt K a) H1) ∨ ∃ y, x = .str y ∧ R (Its y) H1
section
variable {X : Cx} {w0 : Wd} {tg e : Expr} {tl : TE} {te : ATE}
theorem pi_seq (hl : PE X e tl) : PI X tg e (iSeq X.K tl) := by
  refine ⟨fun pins s σ H R I h => ?_⟩
  refine thn (hl.run pins s σ H _ I h) fun v s1 ⟨x, H1, I1, r1, q1⟩ => ?_
  have one : ∀ b ∈ [s1.heap.objs.size], FpOk X pins H1 b := fun b hb => by
    rw [List.mem_singleton.mp hb]; exact I1.fpOk (Nat.le_refl _) (I1.hok.fresh (Nat.le_refl _))
  rcases q1 with ⟨a, rfl, ⟨xs, hq⟩, q⟩ | ⟨a, rfl, ⟨xs, hq⟩, q⟩ | ⟨y, rfl, q⟩
  · cases r1
    obtain ⟨its, rv, p, hz⟩ := I1.list hq
    exact wpAny_pyIter_list p.isList ⟨s1.heap.objs.size, [s1.heap.objs.size], _, _, H1, rfl, I1.kept (t' := s1.toks) fun b o e => Heap.get?_push_of_some _ e, turn_list a _, ⟨_, Heap.get?_push_size _ rfl, rfl, rfl⟩, one, q⟩
  · cases r1
    obtain ⟨its, rv, p, hz⟩ := I1.tuple hq
    exact wpAny_pyIter_tuple (show s1.heap.IsTuple a its.toArray from p) ⟨s1.heap.objs.size, [s1.heap.objs.size], _, _, H1, rfl, I1.kept (t' := s1.toks) fun b o e => Heap.get?_push_of_some _ e, turn_tuple a _, ⟨_, Heap.get?_push_size _ rfl, rfl, rfl⟩, one, q⟩
  · obtain ⟨t, rfl⟩ := r1
    cases ha : y.cps.all (· < 128)
    · exact wpAny_pyIter_wide ha (pi_one (tk := s1.toks) I1 _ (turn_str _ y t "str_iterator" (.inr rfl)) ⟨_, Heap.get?_push_size _ rfl, rfl, rfl⟩ q)
    · exact wpAny_pyIter_ascii ha (pi_one (tk := s1.toks) I1 _ (turn_str _ y t "str_ascii_iterator" (.inl rfl)) ⟨_, Heap.get?_push_size _ rfl, rfl, rfl⟩ q)
theorem walks_lst {K : PySem.W.Frag} {w : Wd} {d : D} {a : Addr} {ds : List D} (ok : w.Ok K) (h : Dt K w.G d (.ref a)) (hs : see w.own d = .lst ds) : Walks K w (Itl K a) ds (fun o' => see o' d = .lst ds) := by
  have at_ : ∀ (w' : Wd), w'.Ok K → Sub w.G w'.G → see w'.own d = .lst ds → ∃ vs, SqL K w'.H a vs ∧ Dts K w'.G ds vs := fun w' ok' sb e => by
    have sv := see_ok ok' (h.mono sb)
    rw [e] at sv
    obtain ⟨b, vs, e1, e2, e3⟩ := sv
    cases e1
    exact ⟨vs, .inl e2, e3⟩
  obtain ⟨vs, q1, q2⟩ := at_ w ok (Sub.refl _) hs
  refine ⟨by rw [← q2.length]; exact sqL_sz ok q1, fun i w' ok' sb e hi => ?_, fun w' ok' sb e => ?_, fun i w' x H' ok' sb e hi hy => ?_⟩
  · obtain ⟨us, a1, a2⟩ := at_ w' ok' sb e
    obtain ⟨x, b1, _⟩ := a2.get (List.getElem?_eq_getElem hi)
    exact ⟨us, x, a1, b1⟩
  · obtain ⟨us, a1, a2⟩ := at_ w' ok' sb e
    exact ⟨us, a1, by rw [a2.length]; exact Nat.le_refl _⟩
  · obtain ⟨us, a1, a2⟩ := at_ w' ok' sb e
    obtain ⟨rfl, hy⟩ := hy
    obtain ⟨d', b1, b2⟩ := a2.get' (hy us a1)
    exact ⟨d', w', b1, rfl, rfl, Tr.refl _, ok', b2⟩
theorem walks_tup {K : PySem.W.Frag} {w : Wd} {d : D} {a : Addr} {ds : List D} (ok : w.Ok K) (h : Dt K w.G d (.ref a)) (hs : see w.own d = .tup ds) : Walks K w (Itt K a) ds (fun _ => True) := by
  have hd : d = .tup ds := by
    cases d with
    | ref p =>
      unfold see at hs
      cases e : w.own p with
      | none => simp only [e] at hs; cases hs
      | some m => cases m <;> simp only [e] at hs <;> cases hs
    | tup xs => exact hs
    | _ => cases hs
  subst hd
  have at_ : ∀ (w' : Wd), w'.Ok K → Sub w.G w'.G → ∃ vs, SqT K w'.H a vs ∧ Dts K w'.G ds vs := fun w' ok' sb => by
    obtain ⟨b, vs, e1, e2, e3⟩ := see_ok ok' (h.mono sb)
    cases e1
    exact ⟨vs, e2, e3⟩
  obtain ⟨vs, q1, q2⟩ := at_ w ok (Sub.refl _)
  refine ⟨by rw [← q2.length]; exact sqT_sz ok q1, fun i w' ok' sb e hi => ?_, fun w' ok' sb e => ?_, fun i w' x H' ok' sb e hi hy => ?_⟩
  · obtain ⟨us, a1, a2⟩ := at_ w' ok' sb
    obtain ⟨x, b1, _⟩ := a2.get (List.getElem?_eq_getElem hi)
    exact ⟨us, x, a1, b1⟩
  · obtain ⟨us, a1, a2⟩ := at_ w' ok' sb
    exact ⟨us, a1, by rw [a2.length]; exact Nat.le_refl _⟩
  · obtain ⟨us, a1, a2⟩ := at_ w' ok' sb
    obtain ⟨rfl, hy⟩ := hy
    obtain ⟨d', b1, b2⟩ := a2.get' (hy us a1)
    exact ⟨d', w', b1, rfl, rfl, Tr.refl _, ok', b2⟩
theorem walks_str {K : PySem.W.Frag} {w : Wd} {x : Str} (hz : x.cps.size ≤ sizeLine) : Walks K w (Its x) (signs x) (fun _ => True) := by
  have hl : (signs x).length = x.cps.size := by simp [signs]
  refine ⟨by rw [hl]; exact hz, fun i w' ok' sb e hi => ?_, fun w' ok' sb e => ?_, fun i w' v H' ok' sb e hi hy => ?_⟩
  · show i < x.cps.size; omega
  · show x.cps.size ≤ (signs x).length; omega
  · obtain ⟨rfl, c, e1, rfl⟩ := hy
    refine ⟨.str ⟨#[c]⟩, w', ?_, rfl, rfl, Tr.refl _, ok', by unfold Dt; rfl⟩
    unfold signs
    rw [List.getElem?_map, Array.getElem?_toList, e1]; rfl
theorem ai_it (he : AE X w0 e te) : AI X w0 tg e (aIt te) := pi_of (pi_seq he) fun σ H R h => by
  obtain ⟨env, w, rfl, ok, tr0, er, P, h, k⟩ := h
  refine ⟨env, w, rfl, ok, tr0, er, _, h, fun d w1 v h1 t1 ok1 dv => ?_⟩
  have sv := see_ok ok1 dv
  cases e : see w1.own d with
  | lst ds =>
    rw [e] at h1 sv
    obtain ⟨a, vs, rfl, e2, e3⟩ := sv
    exact .inl ⟨a, rfl, ⟨vs, .inl e2⟩, k ds _ w1 _ h1 t1 ok1 (walks_lst ok1 dv e)⟩
  | tup ds =>
    rw [e] at h1 sv
    obtain ⟨a, vs, rfl, e2, e3⟩ := sv
    exact .inr (.inl ⟨a, rfl, ⟨vs, e2⟩, k ds _ w1 _ h1 t1 ok1 (walks_tup ok1 dv e)⟩)
  | str x =>
    rw [e] at h1 sv
    change Dt X.K w1.G (.str x) v at sv
    unfold Dt at sv; subst sv
    exact .inr (.inr ⟨x, rfl, k _ _ w1 _ h1.2 t1 ok1 (walks_str h1.1)⟩)
  | non => rw [e] at h1; exact h1.elim
  | bl _ => rw [e] at h1; exact h1.elim
  | int _ => rw [e] at h1; exact h1.elim
  | ty _ => rw [e] at h1; exact h1.elim
  | kls _ => rw [e] at h1; exact h1.elim
  | dct _ => rw [e] at h1; exact h1.elim
  | ref _ => rw [e] at h1; exact h1.elim
/-- range -/
def rng (lo : Int) (n : Nat) : List D := (List.range n).map fun (i : Nat) => D.int (lo + (i : Int))
def aRng1 (ta : ATA) : ATI := fun env own P => ta env own fun ds o => match ds with
  | [.int n] => (-(2 ^ 62) ≤ n ∧ n ≤ 16777216) ∧ P (rng 0 n.toNat) (fun _ => True) o
  | _ => False
def aRng2 (ta : ATA) : ATI := fun env own P => ta env own fun ds o => match ds with
  | [.int a, .int b] => (-(2 ^ 62) ≤ a ∧ a < 2 ^ 62 ∧ -(2 ^ 62) ≤ b ∧ b < 2 ^ 62 ∧ b - a ≤ 16777216) ∧ P (rng a (b - a).toNat) (fun _ => True) o
  | _ => False
theorem walks_rng {K : PySem.W.Frag} {w : Wd} {lo : Int} {n : Nat} (hz : n ≤ sizeLine) : Walks K w (Itr lo n) (rng lo n) (fun _ => True) := by
  have hl : (rng lo n).length = n := by simp [rng]
  refine ⟨by rw [hl]; exact hz, fun i w' ok' sb e hi => ?_, fun w' ok' sb e => ?_, fun i w' v H' ok' sb e hi hy => ?_⟩
  · show i < n; omega
  · show n ≤ (rng lo n).length; omega
  · obtain ⟨rfl, rfl⟩ := hy
    refine ⟨.int (lo + i), w', ?_, rfl, rfl, Tr.refl _, ok', by unfold Dt; rfl⟩
    unfold rng
    rw [List.getElem?_map, List.getElem?_range (by omega)]; rfl
variable {ta : ATA} {p pos : Pos}
theorem ai_rng1 {a : Expr} (hg : Gl X "range") (hm : X.mg "range" = none) (ha : AA X w0 [a] ta) (hs : starEach [a] X.env = [(false, eval a X.env)] := by rfl) : AI X w0 tg (.Call (.Name "range" p) [a] [] pos) (aRng1 ta) := pi_of (pi_range1 hg hm ha hs) fun σ H R h => by
  obtain ⟨env, w, rfl, ok, tr0, er, P, h, k⟩ := h
  refine ⟨env, w, rfl, ok, tr0, er, _, h, fun ds w1 vs h1 t1 ok1 dv => ?_⟩
  match ds, h1, dv with
  | [.int n], h1, dv =>
    unfold Dts at dv
    obtain ⟨v, vr, rfl, d1, d2⟩ := dv
    unfold Dts at d2; unfold Dt at d1
    subst d1 d2
    have hz : n.toNat ≤ sizeLine := by have := h1.1; show n.toNat ≤ 2 ^ 24; omega
    exact ⟨n, rfl, h1.1.1, by have := h1.1; omega, k _ _ w1 _ h1.2 t1 ok1 (walks_rng hz)⟩
theorem ai_rng2 {a b : Expr} (hg : Gl X "range") (hm : X.mg "range" = none) (ha : AA X w0 [a, b] ta) (hs : starEach [a, b] X.env = [(false, eval a X.env), (false, eval b X.env)] := by rfl) (hs2 : starEach [b] X.env = [(false, eval b X.env)] := by rfl) : AI X w0 tg (.Call (.Name "range" p) [a, b] [] pos) (aRng2 ta) := pi_of (pi_range2 hg hm ha hs hs2) fun σ H R h => by
  obtain ⟨env, w, rfl, ok, tr0, er, P, h, k⟩ := h
  refine ⟨env, w, rfl, ok, tr0, er, _, h, fun ds w1 vs h1 t1 ok1 dv => ?_⟩
  match ds, h1, dv with
  | [.int n, .int m], h1, dv =>
    unfold Dts at dv
    obtain ⟨v, vr, rfl, d1, d2⟩ := dv
    unfold Dts at d2
    obtain ⟨u, ur, rfl, d3, d4⟩ := d2
    unfold Dts at d4; unfold Dt at d1 d3
    subst d1 d3 d4
    have hz : (m - n).toNat ≤ sizeLine := by have := h1.1; show (m - n).toNat ≤ 2 ^ 24; omega
    exact ⟨n, m, rfl, ⟨h1.1.1, h1.1.2.1, h1.1.2.2.1, h1.1.2.2.2.1⟩, k _ _ w1 _ h1.2 t1 ok1 (walks_rng hz)⟩
end

/-! ### list comprehensions -/
def aYes : ATT := fun _ own P => P true own
def aLcL (g : ATG) (tt : ATT) (te : ATE) (gd : Own → Prop) (env : AEnv) (P : List D → Own → Prop) : List D → List D → Own → Prop
  | [], acc, own => gd own ∧ P acc own
  | d :: ds, acc, own => gd own ∧ g d env own fun env1 o1 => tt env1 o1 fun b o2 => match b with
    | true => te env1 o2 fun r o3 => aLcL g tt te gd env P ds (acc ++ [r]) o3
    | false => aLcL g tt te gd env P ds acc o2
def aLc (ti : ATI) (g : ATG) (tt : ATT) (te : ATE) (vs : List Nat) : ATN := fun env own P => ti env own fun ds gd o => aLcL g tt te gd (wipeA env vs) P ds [] o
theorem wipe_get (σ : L2.St) : ∀ (vs : List Nat) (i : Nat), (L2.wipe σ vs)[i]? = if i ∈ vs then (if i < σ.length then some none else none) else σ[i]?
  | [], i => by simp [L2.wipe]
  | v :: vs, i => by
    unfold L2.wipe
    by_cases h : v = i
    · subst h
      rw [List.getElem?_set, if_pos rfl, if_pos (List.mem_cons_self ..), L2.wipe_length]
    · rw [List.getElem?_set_ne h, wipe_get σ vs i]
      have e : (i ∈ v :: vs) ↔ i ∈ vs := by
        rw [List.mem_cons]
        exact ⟨fun q => q.elim (fun z => absurd z.symm h) id, Or.inr⟩
      simp only [e]
theorem wipe_only {vs : List Nat} {σ σ' : L2.St} (h : Only vs (L2.wipe σ vs) σ') : L2.wipe σ' vs = L2.wipe σ vs := by
  have hl : σ'.length = σ.length := h.1.trans (L2.wipe_length σ vs)
  apply List.ext_getElem?
  intro i
  rw [wipe_get, wipe_get, hl]
  by_cases hi : i ∈ vs
  · rw [if_pos hi, if_pos hi]
  · rw [if_neg hi, if_neg hi]
    have := h.2 i hi
    rw [wipe_get, if_neg hi] at this
    exact this
section
variable {X : Cx} {w0 : Wd}
abbrev ATs (X : Cx) (w0 : Wd) (ifs : List Expr) (t : ATT) : Prop := PTs X ifs (concT X.K w0 t)
theorem ats_nil : ATs X w0 [] aYes := pts_of pts_nil fun σ H Q h => by
  obtain ⟨env, w, rfl, ok, tr0, er, P, h, k⟩ := h
  exact k true w h (Tr.refl w) ok
theorem ats_one {c : Expr} {t : ATT} (h : AT X w0 c t) : ATs X w0 [c] t := pts_one h
theorem lc_of {ti : ATI} {g : ATG} {tt : ATT} {te : ATE} {vs : List Nat} {σ : L2.St} {H : Hp} {Q : VK} (h : concN X.K w0 (aLc ti g tt te vs) σ H Q) :
    tLc (concI X.K w0 ti) (concG X.K w0 vs g) (concT X.K w0 tt) (concE X.K w0 te) vs σ H Q := by
  obtain ⟨env, w, rfl, ok, tr0, er, P, h, k⟩ := h
  refine ⟨env, w, rfl, ok, tr0, er, _, h, fun ds gd w1 J h1 t1 ok1 wk Dl hD => ?_⟩
  have hD0 : w.H Dl = none := t1.fresh hD
  refine ⟨fun i m H' => ∃ (wc : Wd) (acc : List D) (us : List V), wc.H = H' ∧ wc.Ok X.K ∧ Tr w wc ∧ Sub w1.G wc.G ∧ m + i = ds.length ∧ wc.H Dl = some (.lst us) ∧ wc.G Dl = none ∧ wc.own Dl = none ∧ Dts X.K wc.G acc us ∧ us.length ≤ i ∧
      aLcL g tt te gd (wipeA env vs) P (ds.drop i) acc wc.own, ⟨ds.length, ⟨w1.own, w1.G, upd w1.H Dl (.lst [])⟩, [], [], rfl, ok1.bare (.inl hD) (Nat.zero_le _), t1.bare hD0, Sub.refl _, rfl, upd_same, ok1.noG hD, ok1.noown hD, .nil, Nat.le_refl _, h1⟩, fun i m H' hW => ?_⟩
  obtain ⟨wc, acc, us, rfl, okc, tc, sb, hm, hH, hG, hO, dacc, hul, hL⟩ := hW
  cases e : ds.drop i with
  | nil =>
    rw [e] at hL
    have hi' : i = ds.length := by
      have := List.drop_eq_nil_iff.mp e
      omega
    subst hi'
    exact .inl ⟨wk.stop wc okc sb hL.1, k acc wc Dl us hL.2 tc okc hD0 hH hG hO dacc⟩
  | cons d dr =>
    rw [e] at hL
    have hlt : i < ds.length := by
      rcases Nat.lt_or_ge i ds.length with q | q
      · exact q
      · rw [List.drop_eq_nil_of_le q] at e; cases e
    have ed : ds[i]? = some d ∧ ds.drop (i + 1) = dr := by
      rw [List.drop_eq_getElem_cons hlt] at e
      injection e with e1 e2
      exact ⟨by rw [List.getElem?_eq_getElem hlt, e1], e2⟩
    have hW' : ∀ (w5 : Wd) (acc' : List D) (us' : List V), w5.Ok X.K → Tr wc w5 → w5.H Dl = some (.lst us') → w5.G Dl = none → w5.own Dl = none → Tr w w5 → Dts X.K w5.G acc' us' → us'.length ≤ i + 1 → aLcL g tt te gd (wipeA env vs) P dr acc' w5.own →
        ∃ (wc : Wd) (acc : List D) (us : List V), wc.H = w5.H ∧ wc.Ok X.K ∧ Tr w wc ∧ Sub w1.G wc.G ∧ (m - 1) + (i + 1) = ds.length ∧ wc.H Dl = some (.lst us) ∧ wc.G Dl = none ∧ wc.own Dl = none ∧ Dts X.K wc.G acc us ∧ us.length ≤ i + 1 ∧ aLcL g tt te gd (wipeA env vs) P (ds.drop (i + 1)) acc wc.own :=
      fun w5 acc' us' o5 t5 a1 a2 a3 T5 a4 a5 a6 => ⟨w5, acc', us', rfl, o5, T5, sb.trans t5.gs, by omega, a1, a2, a3, a4, a5, by rw [ed.2]; exact a6⟩
    refine .inr ⟨wk.go i wc okc sb hL.1 hlt, fun H2 => ∃ (wc : Wd) (acc : List D) (us : List V), wc.H = H2 ∧ wc.Ok X.K ∧ Tr w wc ∧ Sub w1.G wc.G ∧ (m - 1) + (i + 1) = ds.length ∧ wc.H Dl = some (.lst us) ∧ wc.G Dl = none ∧ wc.own Dl = none ∧ Dts X.K wc.G acc us ∧ us.length ≤ i + 1 ∧
        aLcL g tt te gd (wipeA env vs) P (ds.drop (i + 1)) acc wc.own, fun H2 q => ⟨m - 1, by omega, q⟩, fun x H2 hy => ?_⟩
    obtain ⟨d', w2, a1, rfl, a3, t2, ok2, dx⟩ := wk.yld i wc x H2 okc sb hL.1 hlt hy
    rw [ed.1] at a1; cases a1
    refine ⟨wipeA env vs, w2, rfl, ok2, (tr0.trans tc).trans t2, ((er.mono (tc.trans t2).gs).wipe vs), d, _, dx, by rw [a3]; exact hL.2, fun env3 w3 σ3 h3 t3 ok3 er3 on3 => ⟨wipe_only on3, ?_⟩⟩
    refine ⟨env3, w3, rfl, ok3, ((tr0.trans tc).trans t2).trans t3, er3, _, h3, fun b w4 h4 t4 ok4 => ?_⟩
    have T4 : Tr wc w4 := (t2.trans t3).trans t4
    have nH : wc.H Dl ≠ none := by rw [hH]; simp
    cases b with
    | false => exact iteF (hW' w4 acc us ok4 T4 (T4.fr Dl _ hH hO) (T4.gd Dl hG nH hO) (T4.od Dl hO nH) (tc.trans T4) (dacc.mono T4.gs) (by omega) h4)
    | true =>
      refine iteT ⟨env3, w4, rfl, ok4, (tr0.trans tc).trans T4, er3.mono t4.gs, _, h4, fun r w5 y h5 t5 ok5 dy => ?_⟩
      have T5 : Tr wc w5 := T4.trans t5
      have b1 := T5.fr Dl _ hH hO
      have b2 := T5.gd Dl hG nH hO
      have b3 := T5.od Dl hO nH
      have hlen := wk.len
      have hz : (us ++ [y]).length ≤ sizeLine := by simp only [List.length_append, List.length_singleton]; omega
      refine ⟨us, b1, by omega, ?_⟩
      have ok6 := ok5.bare (o := .lst (us ++ [y])) (.inr ⟨b2, b3⟩) hz
      have t6 : Tr w ⟨w5.own, w5.G, upd w5.H Dl (.lst (us ++ [y]))⟩ := (tc.trans T5).bare hD0
      exact ⟨⟨w5.own, w5.G, upd w5.H Dl (.lst (us ++ [y]))⟩, acc ++ [r], us ++ [y], rfl, ok6, t6, sb.trans T5.gs, by omega, upd_same, b2, b3, (dacc.mono T5.gs).snoc dy, by simp only [List.length_append, List.length_singleton]; omega, by rw [ed.2]; exact h5⟩
variable {elt tg iter : Expr} {ifs : List Expr} {scope : Scope} {pos : Pos} {ti : ATI} {g : ATG} {tt : ATT} {te : ATE}
theorem an_lc (own : List (Str × Nat)) (hc : X.calm = true) (hN : X.N.Nodup) (hi : AI X w0 tg iter ti) (ok : BlkOk X.N X.env.scope scope own)
    (hg : ∀ (s : Shared) (H : Hp) (C : Addr) (cl : List (Str × Addr)) (fp : List Addr), AG (X.blk s H scope (compEnvC scope cl C X.env) fp) w0 (own.map (·.2)) tg g)
    (ht : ∀ (s : Shared) (H : Hp) (C : Addr) (cl : List (Str × Addr)) (fp : List Addr), ATs (X.blk s H scope (compEnvC scope cl C X.env) fp) w0 ifs tt)
    (he : ∀ (s : Shared) (H : Hp) (C : Addr) (cl : List (Str × Addr)) (fp : List Addr), AE (X.blk s H scope (compEnvC scope cl C X.env) fp) w0 elt te) (hs : ∀ x, foldedSetIterable iter X.env x = pure x := by intro _; rfl) :
    AN X w0 (.ListComp elt [⟨tg, iter, ifs, 0⟩] scope pos) (aLc ti g tt te (own.map (·.2))) := pe_of (pe_lc hc hN hi ok hg ht he hs) fun _ _ _ h => lc_of h
/-- name = [..] -/
theorem as_lc (i : Nat) {y : Str} {py spos : Pos} (own : List (Str × Nat)) (hc : X.calm = true) (hN : X.N.Nodup) (hi : AI X w0 tg iter ti) (ok : BlkOk X.N X.env.scope scope own)
    (hg : ∀ (s : Shared) (H : Hp) (C : Addr) (cl : List (Str × Addr)) (fp : List Addr), AG (X.blk s H scope (compEnvC scope cl C X.env) fp) w0 (own.map (·.2)) tg g)
    (ht : ∀ (s : Shared) (H : Hp) (C : Addr) (cl : List (Str × Addr)) (fp : List Addr), ATs (X.blk s H scope (compEnvC scope cl C X.env) fp) w0 ifs tt)
    (he : ∀ (s : Shared) (H : Hp) (C : Addr) (cl : List (Str × Addr)) (fp : List Addr), AE (X.blk s H scope (compEnvC scope cl C X.env) fp) w0 elt te) (hy : X.N[i]? = some y := by rfl) (hyl : X.env.scope.names.lookup y = some .local := by rfl)
    (hsw : swapsWith (.ListComp elt [⟨tg, iter, ifs, 0⟩] scope pos) (some (.Name y py)) spos.line X.env = pure true := by exact sw_true rfl rfl rfl (by decide +kernel)) (hs : ∀ x, foldedSetIterable iter X.env x = pure x := by intro _; rfl) :
    AS X w0 (.Assign [.Name y py] (.ListComp elt [⟨tg, iter, ifs, 0⟩] scope pos) spos) (aAsg (aFz (aLc ti g tt te (own.map (·.2)))) (gN i)) := ps_of (ps_setLc hc hN hy hyl hsw hi ok hg ht he hs) fun E σ H h => by
  obtain ⟨env, w, rfl, ok, tr0, er, A, h, k, _⟩ := h
  refine lc_of ⟨env, w, rfl, ok, tr0, er, _, h, fun ds w1 p vs h1 t1 ok1 e0 e1 e2 e3 dv => ?_⟩
  obtain ⟨w2, a1, a2, t2, ok2, d2⟩ := frzN t1 ok1 e0 e1 e2 e3 dv
  rw [← a1]
  exact k _ w2 _ (by rw [a2]; exact h1) t2 ok2 ((er.mono t2.gs).set i d2)
/-- .. a list of one's own -/
theorem as_lcO (i : Nat) {y : Str} {py spos : Pos} (own : List (Str × Nat)) (hc : X.calm = true) (hN : X.N.Nodup) (hi : AI X w0 tg iter ti) (ok : BlkOk X.N X.env.scope scope own)
    (hg : ∀ (s : Shared) (H : Hp) (C : Addr) (cl : List (Str × Addr)) (fp : List Addr), AG (X.blk s H scope (compEnvC scope cl C X.env) fp) w0 (own.map (·.2)) tg g)
    (ht : ∀ (s : Shared) (H : Hp) (C : Addr) (cl : List (Str × Addr)) (fp : List Addr), ATs (X.blk s H scope (compEnvC scope cl C X.env) fp) w0 ifs tt)
    (he : ∀ (s : Shared) (H : Hp) (C : Addr) (cl : List (Str × Addr)) (fp : List Addr), AE (X.blk s H scope (compEnvC scope cl C X.env) fp) w0 elt te) (hy : X.N[i]? = some y := by rfl) (hyl : X.env.scope.names.lookup y = some .local := by rfl)
    (hsw : swapsWith (.ListComp elt [⟨tg, iter, ifs, 0⟩] scope pos) (some (.Name y py)) spos.line X.env = pure true := by exact sw_true rfl rfl rfl (by decide +kernel)) (hs : ∀ x, foldedSetIterable iter X.env x = pure x := by intro _; rfl) :
    AS X w0 (.Assign [.Name y py] (.ListComp elt [⟨tg, iter, ifs, 0⟩] scope pos) spos) (aAsg (aOw (aLc ti g tt te (own.map (·.2)))) (gN i)) := ps_of (ps_setLc hc hN hy hyl hsw hi ok hg ht he hs) fun E σ H h => by
  obtain ⟨env, w, rfl, ok, tr0, er, A, h, k, _⟩ := h
  refine lc_of ⟨env, w, rfl, ok, tr0, er, _, h, fun ds w1 p vs h1 t1 ok1 e0 e1 e2 e3 dv => ?_⟩
  obtain ⟨w2, a1, a2, t2, ok2, d2⟩ := ownN t1 ok1 e0 e1 e2 e3 dv
  rw [← a1]
  exact k _ w2 _ (by rw [a2]; exact h1 p e3) t2 ok2 ((er.mono t2.gs).set i (d := .ref p) (by unfold Dt; rfl))
end

/-! ### defs and their calls -/
/-- a def of the text as it stands behind the top, whatever its defaults -/
structure FunX (K : PySem.W.Frag) (x qual : Str) (st : Stmt) (f : Addr) (fd : FuncData) : Prop where
  ex : ∃ (oc : Value) (od : Option Addr) (dV kV doc pm : Value) (an : Option Addr) (cdv ct : Value) (osl : Array (Option Value)),
    fd = PySem.W.fnOf x qual (defArgs st) (defBody st) (defScope st) dV kV doc pm an cdv ct ∧ K.lookup f = some ⟨oc, od, .func fd, osl⟩ ∧ PySem.W.codeIn K cdv qual = true
/-- as FnOk, where no repr is under way -/
structure FnG (P : Program) (w : World) (K : PySem.W.Frag) (mg : Str → Option Value) (base : Heap) (CX : CXT) (k : Nat) (f : Addr) (fd : FuncData) (ps : List Str) (sp : Sp) : Prop where
  len : ∀ vs H Q E, sp vs H Q E → vs.length = ps.length
  run : ∀ (A : Around) (outer : List PySem.Env) (s : Shared) (H : Hp) (args : Args) (us : List Value) (vs : List V) (Q : VK) (E : XK), Room k A → A.guards = some [] → Env0 P w K mg base A outer s H → BindsTo s fd args (ps.zip us) → Vals vs us →
    sp vs H Q E → codeAny (model P w) A (.call (.ref f) args) (CR CX outer P w H s Q E) s
section
variable {P : Program} {w : World} {K : PySem.W.Frag} {mg : Str → Option Value} {base : Heap} {CX : CXT} {k j : Nat} {f : Addr} {fd : FuncData} {ps : List Str} {sp sp' : Sp}
theorem FnG.mono (F : FnG P w K mg base CX j f fd ps sp) (h : j ≤ k) : FnG P w K mg base CX k f fd ps sp :=
  ⟨F.len, fun A outer s H args us vs Q E hr hg => F.run A outer s H args us vs Q E (hr.mono h) hg⟩
theorem FnG.imp (F : FnG P w K mg base CX k f fd ps sp) (h : ∀ vs H Q E, sp' vs H Q E → sp vs H Q E) : FnG P w K mg base CX k f fd ps sp' :=
  ⟨fun vs H Q E q => F.len vs H Q E (h vs H Q E q), fun A outer s H args us vs Q E hr hg e b r q => F.run A outer s H args us vs Q E hr hg e b r (h vs H Q E q)⟩
/-- a def of the text by its body -/
theorem fnG_of {x qual : Str} {st : Stmt} {N : List Str} (F : FunX K x qual st f fd) (S : FnScope N ps (defScope st)) (len : ∀ vs H Q E, sp vs H Q E → vs.length = ps.length)
    (hbody : ∀ (cdv : Value) (A : Around) (outer : List PySem.Env) (s : Shared) (H : Hp) (vs : List V) (Q : VK) (E : XK), Room k (A.deeper (envOfC qual (defScope st) s.heap.objs.size f cdv)) → A.guards = some [] → sp vs H Q E →
      ∃ t, PSs (cxOf CX P w K mg base N qual (defScope st) f cdv A outer s H E) (defBody st) t ∧ t { nx := fun _ H' => Q .non H', rt := Q } (L2.start N vs) H) : FnG P w K mg base CX (k + 1) f fd ps sp := by
  obtain ⟨oc, od, dV, kV, doc, pm, an, cdv, ct, osl, rfl, lk, hcd⟩ := F.ex
  refine ⟨len, fun A outer s H args us vs Q E hr hg e0 hb r hsp => ?_⟩
  have KX : K.In s.heap := e0.mod.kin.keeps fun b o e => (e0.bs b o e).1
  have cells : ∀ y ∈ ps.zip us, (defScope st).names.lookup y.1 = some .local ∨ ((defScope st).names.lookup y.1 = some .cell ∧ ((cellsFrom (s.heap.objs.size + 1) (defScope st).names []).lookup y.1).isSome = true) := fun y hy =>
    (S.par y.1 (List.of_mem_zip hy).1).imp id fun q => ⟨q, PySem.W.cellsFrom_some _ _ _ (.inl q)⟩
  refine codeAny_call_function hr.depth (KX _ _ lk) rfl S.co S.gen rfl (PySem.W.codeRec_of KX hcd) (hb _ _ _ _ (wpAny_newFunctionEnv_cells S.kind cells fun env he s1 x => ?_))
  subst he
  refine ⟨(e0.mod.nolimit.keeps fun b o e => (e0.bs b o e).1).keeps x.toInCall.keep, codeAny_func ?_⟩
  obtain ⟨t, ht, hq⟩ := hbody cdv A outer s H vs Q E (hr.deeper _) hg hsp
  refine wpAny_mono (ht.run [] s1 (L2.start N vs) H _ (inv_start S hr.hd e0 (len _ _ _ _ hsp) r x) hq) (fun fl s' hs => ?_) fun e s' hs => hs
  cases fl with
  | ret u => exact let ⟨v, _, H', J, rv, q⟩ := hs; ⟨v, H', J.os, J.bare, J.base, J.hok, rv, q⟩
  | next => exact let ⟨_, H', J, q⟩ := hs; ⟨.non, H', J.os, J.bare, J.base, J.hok, rfl, q⟩
  | brk => exact let ⟨_, _, _, q⟩ := hs; q.elim
  | cont => exact let ⟨_, _, _, q⟩ := hs; q.elim
end
section
variable {X : Cx} {CX : CXT} {k : Nat} {f : Addr} {fd : FuncData} {ps : List Str} {sp : Sp} {dvs : List V} {ds : List Value} {E : XK} {x : Str} {p pos : Pos} {e : Expr} {es : List Expr} {t : TA}
theorem run_fnG {pins : List (Addr × Obj)} {σ : L2.St} {H : Hp} {s : Shared} {Q : VK} {us : List Value} {vs : List V} (F : FnG X.prog X.w X.K X.mg X.base CX k f fd ps sp) (hr : Room k X.A) (hgd : X.A.guards = some []) (hb : Binds X.K fd ps ds) (hd : Vals dvs ds) (hx : Passes CX X E)
    (I : Inv X pins σ H s) (r : Vals vs us) (h : sp (vs ++ dvs) H Q E) : wpAny (model X.prog X.w) X.A (call (.ref f) us) (EP X pins σ Q) X.xe s := by
  have r2 := r.append hd
  refine wpAny_call (codeAny_mono (F.run X.A X.stack s H ⟨us, []⟩ (us ++ ds) (vs ++ dvs) Q E hr hgd I.env0 (hb s us I.kIn (by rw [← r2.length]; exact F.len _ _ _ _ h)) r2 h) fun r s' hq => ?_)
  match r, hq with
  | .error e, hq => exact hx pins σ H s e s' I hq
  | .ok (.ret u), hq => exact I.after hq
theorem pe_callG (F : FnG X.prog X.w X.K X.mg X.base CX k f fd ps sp) (hr : Room k X.A) (hgd : X.A.guards = some []) (hg : Gl X x) (hm : X.mg x = some (.ref f)) (hk : PySem.W.keepIn X.K (.ref f) = true) (hb : Binds X.K fd ps ds) (hd : Vals dvs ds) (hx : Passes CX X E)
    (ha : PA X (e :: es) t) (hdb : (x == ("__debug__" : Str)) = false) (he : starEach (e :: es) X.env = (false, eval e X.env) :: starEach es X.env) (hpl : (backTo pos (starEach es X.env)).any (·.1) = false) :
    PE X (.Call (.Name x p) (e :: es) [] pos) (tCall sp dvs E t) :=
  ⟨fun pins s σ H Q I h => wpAny_Call_Name_kw (ld_glob I hg hm (PySem.W.callWith_K (h₀ := X.base) I.ok.mod.kin hk (thn (ha.run pos pins s σ H _ I h) fun us s1 ⟨vs, H1, I1, r, q⟩ => ⟨I1.kIn, run_fnG F hr hgd hb hd hx I1 r q⟩) he hpl) hdb)⟩
end
abbrev Spec := List D → Own → (D → Own → Prop) → Prop
def spOf (K : PySem.W.Frag) (S : Spec) : Sp := fun vs H Q _ => ∃ (ds : List D) (w : Wd) (P : D → Own → Prop), w.H = H ∧ w.Ok K ∧ Dts K w.G ds vs ∧ S ds w.own P ∧ ∀ d w' v, P d w'.own → Tr w w' → w'.Ok K → Dt K w'.G d v → Q v w'.H
/-- the def of this name keeps its promise -/
structure Kn (P : Program) (w : World) (K : PySem.W.Frag) (mg : Str → Option Value) (base : Heap) (k : Nat) (x : Str) (ps : List Str) (dvs : List D) (S : Spec) : Prop where
  ex : ∃ (f : Addr) (fd : FuncData) (ds : List Value) (vs : List V), mg x = some (.ref f) ∧ PySem.W.keepIn K (.ref f) = true ∧ Binds K fd ps ds ∧ Vals vs ds ∧ (∀ G, Dts K G dvs vs) ∧ FnG P w K mg base CX0 k f fd ps (spOf K S)
theorem Kn.mono {P : Program} {w : World} {K : PySem.W.Frag} {mg : Str → Option Value} {base : Heap} {k j : Nat} {x : Str} {ps : List Str} {dvs : List D} {S : Spec} (F : Kn P w K mg base j x ps dvs S) (h : j ≤ k) : Kn P w K mg base k x ps dvs S :=
  let ⟨f, fd, ds, vs, a, b, c, d, e, g⟩ := F.ex
  ⟨f, fd, ds, vs, a, b, c, d, e, g.mono h⟩
def aCall (S : Spec) (dvs : List D) (ta : ATA) : ATE := fun env own P => ta env own fun ds o => S (ds ++ dvs) o P
section
variable {X : Cx} {w0 : Wd} {k : Nat} {x : Str} {ps : List Str} {dvs : List D} {S : Spec} {e : Expr} {es : List Expr} {ta : ATA} {p pos : Pos}
theorem call_of {vs : List V} {σ : L2.St} {H : Hp} {Q : VK} (hv : ∀ G, Dts X.K G dvs vs) (h : concE X.K w0 (aCall S dvs ta) σ H Q) : tCall (spOf X.K S) vs E0 (concA X.K w0 ta) σ H Q := by
  obtain ⟨env, w, rfl, ok, tr0, er, P, h, k⟩ := h
  exact ⟨env, w, rfl, ok, tr0, er, _, h, fun ds w1 us h1 t1 ok1 dv => ⟨ds ++ dvs, w1, P, rfl, ok1, dv.append (hv w1.G), h1, fun d w2 v h2 t2 ok2 d2 => k d w2 v h2 (t1.trans t2) ok2 d2⟩⟩
theorem ae_call (F : Kn X.prog X.w X.K X.mg X.base k x ps dvs S) (hr : Room k X.A) (hgd : X.A.guards = some []) (hg : Gl X x) (ha : AA X w0 (e :: es) ta) (hdb : (x == ("__debug__" : Str)) = false := by decide) (he : starEach (e :: es) X.env = (false, eval e X.env) :: starEach es X.env := by rfl) (hpl : (backTo pos (starEach es X.env)).any (·.1) = false := by rfl) :
    AE X w0 (.Call (.Name x p) (e :: es) [] pos) (aCall S dvs ta) := by
  obtain ⟨f, fd, ds, vs, hm, hk, hb, hd, hv, G⟩ := F.ex
  exact pe_of (pe_callG G hr hgd hg hm hk hb hd pass0 ha hdb he hpl) fun _ _ _ h => call_of hv h
end
/-- things put away: own' is what is left of one's own; d' is d as it then stands -/
def Vw (own own' : Own) (d d' : D) : Prop := d = d' ∨ ∃ p, d = .ref p ∧ own' p = none ∧ ((∃ ds, own p = some (.lst ds) ∧ d' = .lst ds) ∨ ∃ kvs, own p = some (.dct kvs) ∧ d' = .dct kvs)
def Cv (own : Own) (d d' : D) (own' : Own) : Prop := (∀ p m, own' p = some m → own p = some m) ∧ Vw own own' d d'
theorem Cv.ok {K : PySem.W.Frag} {w : Wd} (ok : w.Ok K) {d d' : D} {own' : Own} {v : V} (c : Cv w.own d d' own') (h : Dt K w.G d v) :
    ∃ w', w'.H = w.H ∧ w'.own = own' ∧ w'.Ok K ∧ Dt K w'.G d' v ∧ ∀ w0, Tr w0 w → Tr w0 w' := by
  obtain ⟨G', s1, s2, s3, s4⟩ := ok.still c.1
  refine ⟨⟨own', G', w.H⟩, rfl, rfl, s3, ?_, s4⟩
  rcases c.2 with rfl | ⟨p, rfl, n, ⟨ds, e1, rfl⟩ | ⟨kvs, e1, rfl⟩⟩
  · exact h.mono s1
  · obtain ⟨_, o, e2, e3⟩ := ok.own p _ e1
    have hg := s2 p (by rw [e1]; simp) n
    unfold Dt at h; subst h
    cases o <;> first | exact (e3 : False).elim | skip
    exact .lstI (hg.trans e2) (Dts.mono s1 e3)
  · obtain ⟨_, o, e2, e3⟩ := ok.own p _ e1
    have hg := s2 p (by rw [e1]; simp) n
    unfold Dt at h; subst h
    cases o <;> first | exact (e3 : False).elim | skip
    · unfold Dt; exact ⟨p, rfl, .inl ⟨_, hg.trans e2, DkK.mono s1 e3⟩⟩
    · unfold Dt; exact ⟨p, rfl, .inr ⟨_, hg.trans e2, DkT.mono s1 e3⟩⟩
/-- handed back -/
def Rt (P : D → Own → Prop) : D → Own → Prop := fun d o => ∃ d' o', Cv o d d' o' ∧ P d' o'
theorem Rt.mk {P : D → Own → Prop} {d : D} {o : Own} (h : P d o) : Rt P d o := ⟨d, o, ⟨fun _ _ h => h, .inl rfl⟩, h⟩
theorem Rt.drop {P : D → Own → Prop} {d : D} {o o' : Own} (hs : ∀ p m, o' p = some m → o p = some m) (h : P d o') : Rt P d o := ⟨d, o', ⟨hs, .inl rfl⟩, h⟩
theorem Rt.lst {P : D → Own → Prop} {p : Addr} {ds : List D} {o o' : Own} (e : o p = some (.lst ds)) (n : o' p = none) (hs : ∀ p m, o' p = some m → o p = some m) (h : P (.lst ds) o') : Rt P (.ref p) o := ⟨_, o', ⟨hs, .inr ⟨p, rfl, n, .inl ⟨ds, e, rfl⟩⟩⟩, h⟩
theorem Rt.dct {P : D → Own → Prop} {p : Addr} {kvs : List (D × D)} {o o' : Own} (e : o p = some (.dct kvs)) (n : o' p = none) (hs : ∀ p m, o' p = some m → o p = some m) (h : P (.dct kvs) o') : Rt P (.ref p) o := ⟨_, o', ⟨hs, .inr ⟨p, rfl, n, .inr ⟨kvs, e, rfl⟩⟩⟩, h⟩
def astart (N : List Str) (ds : List D) : AEnv := ds.map some ++ List.replicate (N.length - ds.length) none
theorem eg_lt {env : AEnv} {i : Nat} {d : D} (h : eg env i = some d) : i < env.length := (List.getElem?_eq_some_iff.mp (eg_eq h)).1
theorem envR_start {K : PySem.W.Frag} {G : Hp} {N : List Str} {ds : List D} {vs : List V} (h : Dts K G ds vs) : EnvR K G (astart N ds) (L2.start N vs) := by
  have hl := h.length
  refine ⟨by simp [astart, L2.start, hl], fun i d e => ?_⟩
  have e' := eg_eq e
  unfold astart at e'
  rcases Nat.lt_or_ge i ds.length with hi | hi
  · rw [List.getElem?_append_left (by simpa using hi), List.getElem?_map] at e'
    cases e1 : ds[i]? with
    | none => rw [e1] at e'; simp at e'
    | some d' =>
      rw [e1] at e'; simp at e'; subst e'
      obtain ⟨v, a1, a2⟩ := h.get e1
      refine ⟨v, ?_, a2⟩
      unfold L2.start
      rw [List.getElem?_append_left (by simp; omega), List.getElem?_map, a1]; rfl
  · rw [List.getElem?_append_right (by simpa using hi)] at e'
    have := List.mem_of_getElem? e'
    rw [List.mem_replicate] at this
    cases this.2
section
variable {P : Program} {w : World} {K : PySem.W.Frag} {mg : Str → Option Value} {base : Heap}
/-- THE RULE for a def: its body's reading over data -/
theorem def_ok {x qual : Str} {st : Stmt} {f : Addr} {fd : FuncData} {N ps : List Str} {k : Nat} {S : Spec} (F : FunX K x qual st f fd) (sc : FnScope N ps (defScope st)) (len : ∀ ds o Q, S ds o Q → ds.length = ps.length)
    (hbody : ∀ (cdv : Value) (A : Around) (outer : List PySem.Env) (s : Shared) (H : Hp) (E : XK) (w0 : Wd) (ds : List D) (Q : D → Own → Prop), Room k (A.deeper (envOfC qual (defScope st) s.heap.objs.size f cdv)) → A.guards = some [] → S ds w0.own Q →
      ∃ t, ASs (cxOf CX0 P w K mg base N qual (defScope st) f cdv A outer s H E).nox w0 (defBody st) t ∧ t { nx := fun _ o => Rt Q .non o, rt := Rt Q } (astart N ds) w0.own) : FnG P w K mg base CX0 (k + 1) f fd ps (spOf K S) := by
  refine fnG_of F sc (fun vs H Q E h => ?_) fun cdv A outer s H vs Q E hr hg h => ?_
  · obtain ⟨ds, w, P, _, _, dv, hS, _⟩ := h
    rw [dv.length]; exact len ds _ _ hS
  · obtain ⟨ds, w0, P', rfl, ok, dv, hS, kk⟩ := h
    obtain ⟨t, ht, hq⟩ := hbody cdv A outer s w0.H E w0 ds P' hr hg hS
    refine ⟨_, ht.nox, astart N ds, w0, rfl, ok, Tr.refl _, envR_start dv, _, hq, fun env' w' σ' h1 t1 ok1 _ => ?_, fun d w' v h1 t1 ok1 dv1 => ?_, fun _ _ _ h => h.elim, fun _ _ _ h => h.elim⟩
    · obtain ⟨d', o', c, hp⟩ := h1
      obtain ⟨w2, a1, a2, a3, a4, a5⟩ := Cv.ok (v := .non) ok1 c (by unfold Dt; rfl)
      show Q .non w'.H
      rw [← a1]
      exact kk d' w2 .non (by rw [a2]; exact hp) (a5 _ t1) a3 a4
    · obtain ⟨d', o', c, hp⟩ := h1
      obtain ⟨w2, a1, a2, a3, a4, a5⟩ := Cv.ok ok1 c dv1
      show Q v w'.H
      rw [← a1]
      exact kk d' w2 v (by rw [a2]; exact hp) (a5 _ t1) a3 a4
end
end L3

namespace L3
open PySem PySem.Spec PyProof.Rows L2

section
variable {K : PySem.W.Frag} {w : Wd} {v : V}
theorem dt_int {G : Hp} {i : Int} : Dt K G (.int i) v ↔ v = .int i := by unfold Dt; rfl
theorem dt_str {G : Hp} {x : Str} : Dt K G (.str x) v ↔ v = .str x := by unfold Dt; rfl
theorem dt_bl {G : Hp} {b : Bool} : Dt K G (.bl b) v ↔ v = .bl b := by unfold Dt; rfl
theorem dt_non {G : Hp} : Dt K G .non v ↔ v = .non := by unfold Dt; rfl
theorem dt_ty {G : Hp} {n : String} : Dt K G (.ty n) v ↔ v = .ty n := by unfold Dt; rfl
theorem dt_ref {G : Hp} {a : Addr} : Dt K G (.ref a) v ↔ v = .ref a := by unfold Dt; rfl
theorem dv_int {i : Int} : DtV K w (.int i) v ↔ v = .int i := dt_int (K := K) (G := w.G)
theorem dv_str {x : Str} : DtV K w (.str x) v ↔ v = .str x := dt_str (K := K) (G := w.G)
theorem dv_bl {b : Bool} : DtV K w (.bl b) v ↔ v = .bl b := dt_bl (K := K) (G := w.G)
theorem dv_non : DtV K w .non v ↔ v = .non := dt_non (K := K) (G := w.G)
theorem dv_ty {n : String} : DtV K w (.ty n) v ↔ v = .ty n := dt_ty (K := K) (G := w.G)
theorem dv_ref {a : Addr} : DtV K w (.ref a) v ↔ v = .ref a := dt_ref (K := K) (G := w.G)
theorem see_id {own : Own} {d : D} (h : ∀ p, d ≠ .ref p) : see own d = d := by
  cases d <;> first | rfl | exact absurd rfl (h _)
theorem see_int {own : Own} {d : D} {i : Int} (h : see own d = .int i) : d = .int i := by
  cases d with
  | ref p => unfold see at h; cases e : own p with
    | none => simp only [e] at h; cases h
    | some m => cases m <;> simp only [e] at h <;> cases h
  | _ => exact h
theorem see_str {own : Own} {d : D} {i : Str} (h : see own d = .str i) : d = .str i := by
  cases d with
  | ref p => unfold see at h; cases e : own p with
    | none => simp only [e] at h; cases h
    | some m => cases m <;> simp only [e] at h <;> cases h
  | _ => exact h
theorem see_bl {own : Own} {d : D} {i : Bool} (h : see own d = .bl i) : d = .bl i := by
  cases d with
  | ref p => unfold see at h; cases e : own p with
    | none => simp only [e] at h; cases h
    | some m => cases m <;> simp only [e] at h <;> cases h
  | _ => exact h
theorem see_tup {own : Own} {d : D} {ds : List D} (h : see own d = .tup ds) : d = .tup ds := by
  cases d with
  | ref p => unfold see at h; cases e : own p with
    | none => simp only [e] at h; cases h
    | some m => cases m <;> simp only [e] at h <;> cases h
  | _ => exact h
end
/-- a value, and nothing is made -/
theorem ops_val {K : PySem.W.Frag} {w : Wd} (ok : w.Ok K) {P : D → Prop} {Q : VK} (k : ∀ z w' v, P z → w'.own = w.own → Tr w w' → w'.Ok K → Dt K w'.G z v → Q v w'.H) {z : D} {v : V} (h : P z) (d : Dt K w.G z v) : Q v w.H := k z w v h rfl (Tr.refl w) ok d
/-- .. a new tuple, a new list -/
theorem ops_tup {K : PySem.W.Frag} {w : Wd} (ok : w.Ok K) {P : D → Prop} {Q : VK} (k : ∀ z w' v, P z → w'.own = w.own → Tr w w' → w'.Ok K → Dt K w'.G z v → Q v w'.H) {ds : List D} {vs : List V} (h : P (.tup ds)) (r : Dts K w.G ds vs) (hz : ds.length ≤ sizeLine) : ∀ p, w.H p = none → Q (.ref p) (upd w.H p (.tup vs)) := fun p hp => by
  obtain ⟨w1, e1, e2, t1, ok1, d1⟩ := newTup ok hp r hz
  rw [← e1]
  exact k _ w1 _ h e2 t1 ok1 d1
theorem ops_lst {K : PySem.W.Frag} {w : Wd} (ok : w.Ok K) {P : D → Prop} {Q : VK} (k : ∀ z w' v, P z → w'.own = w.own → Tr w w' → w'.Ok K → Dt K w'.G z v → Q v w'.H) {ds : List D} {vs : List V} (h : P (.lst ds)) (r : Dts K w.G ds vs) (hz : ds.length ≤ sizeLine) : ∀ p, w.H p = none → Q (.ref p) (upd w.H p (.lst vs)) := fun p hp => by
  obtain ⟨w1, e1, e2, t1, ok1, d1⟩ := newLst ok hp r hz
  rw [← e1]
  exact k _ w1 _ h e2 t1 ok1 d1

/-! ### + -/
def fAdd0 : D → D → (D → Prop) → Prop
  | .int i, .int j, P => P (.int (i + j))
  | .str x, .str y, P => x.length + y.length ≤ sizeLine ∧ P (.str (x ++ y))
  | .tup xs, .tup ys, P => xs.length + ys.length ≤ sizeLine ∧ P (.tup (xs ++ ys))
  | .lst xs, .lst ys, P => xs.length + ys.length ≤ sizeLine ∧ P (.lst (xs ++ ys))
  | _, _, _ => False
def fAdd : BinF := fun own d e P => fAdd0 (see own d) (see own e) P
def rCatR : R2 := fun x y H Q => ∃ l b xs zs, x = .ref l ∧ y = .ref b ∧ Rd H l (.lst xs) ∧ Rd H b (.lst zs) ∧ xs.length + zs.length ≤ sizeLine ∧ ∀ p, H p = none → Q (.ref p) (upd H p (.lst (xs ++ zs)))
theorem op_catR {X : Cx} : OpR X (binaryOp .Add) rCatR := by
  intro pins s σ H x y v u Q I rx ry h
  obtain ⟨l, b, xs, zs, rfl, rfl, hH, hB, hz, q⟩ := h
  cases rx
  cases ry
  obtain ⟨z, its, n, r, e⟩ := hH.ok I.hok
  obtain ⟨z2, its2, n2, r2, e2⟩ := hB.ok I.hok
  have l1 := r.length
  have l2 := r2.length
  refine PySem.P.add_list e e2 ?_ (by rw [List.size_toArray, List.size_toArray]; omega)
  rw [show its.toArray ++ its2.toArray = (its ++ its2).toArray by simp]
  exact ⟨.ref _, _, I.lnew (t' := s.toks) (r.append r2) (by rw [List.length_append]; omega), rfl, q _ I.fresh⟩
def rAddD (K : PySem.W.Frag) : R2 := fun x y H Q => ((rI0 (fun i j => .int (i + j)) x y H Q ∨ ∃ i j, x = .str i ∧ y = .str j ∧ i.length + j.length ≤ sizeLine ∧ Q (.str (i ++ j)) H) ∨ rCatA K x y H Q) ∨ rCatR x y H Q
theorem op_addD {X : Cx} : OpR X (binaryOp .Add) (rAddD X.K) := ((op_add.or op_add_str).or op_catA).or op_catR
theorem dts_nil_iff {K : PySem.W.Frag} {G : Hp} {ds : List D} {vs : List V} (h : Dts K G ds vs) : vs = [] ↔ ds = [] := by
  have := h.length
  constructor
  · rintro rfl; exact List.eq_nil_of_length_eq_zero (by simpa using this.symm)
  · rintro rfl; exact List.eq_nil_of_length_eq_zero (by simpa using this)
theorem os_add {K : PySem.W.Frag} : OpS K (rAddD K) fAdd := by
  intro w d e x y P Q ok dx dy h k
  have sx := see_ok ok dx
  have sy := see_ok ok dy
  unfold fAdd at h
  generalize hd : see w.own d = d' at h sx
  generalize he : see w.own e = e' at h sy
  match d', e', h, sx, sy, hd, he with
  | .int i, .int j, h, sx, sy, _, _ =>
    exact .inl (.inl (.inl ⟨i, j, dv_int.mp sx, dv_int.mp sy, ops_val ok k h (dt_int.mpr rfl)⟩))
  | .str a, .str b, h, sx, sy, _, _ => exact .inl (.inl (.inr ⟨a, b, dv_str.mp sx, dv_str.mp sy, h.1, ops_val ok k h.2 (dt_str.mpr rfl)⟩))
  | .tup xs, .tup ys, h, sx, sy, hd, he =>
    have ed := see_tup hd
    have ee := see_tup he
    subst ed ee
    obtain ⟨a, us, rfl, e1, e2⟩ := sx
    obtain ⟨b, vs, rfl, e3, e4⟩ := sy
    have l1 := e2.length
    have l2 := e4.length
    refine .inl (.inr ⟨a, b, us, vs, rfl, rfl, e1, e3, by rw [l1, l2]; exact h.1, fun z => ?_, fun z1 z2 => ?_, fun z1 z2 => ops_tup ok k h.2 (e2.append e4) (by rw [List.length_append]; exact h.1)⟩)
    · have : xs = [] := (dts_nil_iff e2).mp z
      subst this
      exact ops_val ok k (z := .tup ys) h.2 dy
    · have : ys = [] := (dts_nil_iff e4).mp z2
      subst this
      exact ops_val ok k (z := .tup xs) (by simpa using h.2) dx
  | .lst xs, .lst ys, h, sx, sy, _, _ =>
    obtain ⟨a, us, rfl, e1, e2⟩ := sx
    obtain ⟨b, vs, rfl, e3, e4⟩ := sy
    have l1 := e2.length
    have l2 := e4.length
    exact .inr ⟨a, b, us, vs, rfl, rfl, e1, e3, by rw [l1, l2]; exact h.1, ops_lst ok k h.2 (e2.append e4) (by rw [List.length_append]; exact h.1)⟩
end L3

namespace L3
open PySem PySem.Spec PyProof.Rows L2
/-! ### whole numbers -/
def fII (C : Int → Int → Prop) (g : Int → Int → D) : BinF := fun own d e P => match see own d, see own e with
  | .int i, .int j => C i j ∧ P (g i j)
  | _, _ => False
theorem os_II {K : PySem.W.Frag} {C : Int → Int → Prop} {g : Int → Int → D} {gv : Int → Int → V} (hg : ∀ G i j, Dt K G (g i j) (gv i j)) : OpS K (rI C gv) (fII C g) := by
  intro w d e x y P Q ok dx dy h k
  have sx := see_ok ok dx
  have sy := see_ok ok dy
  unfold fII at h
  generalize see w.own d = d' at h sx
  generalize see w.own e = e' at h sy
  match d', e', h, sx, sy with
  | .int i, .int j, h, sx, sy => exact ⟨i, j, dv_int.mp sx, dv_int.mp sy, h.1, ops_val ok k h.2 (hg _ i j)⟩
abbrev C0 : Int → Int → Prop := fun _ _ => True
theorem rI_of0 {gv : Int → Int → V} {X : Cx} {f : Value → Value → Sem Value} (h : OpR X f (rI0 gv)) : OpR X f (rI C0 gv) := fun pins s σ H x y v u Q I rx ry ⟨i, j, e1, e2, _, q⟩ => h pins s σ H x y v u Q I rx ry ⟨i, j, e1, e2, q⟩
abbrev gInt (f : Int → Int → Int) : Int → Int → D := fun i j => .int (f i j)
abbrev gBl (f : Int → Int → Bool) : Int → Int → D := fun i j => .bl (f i j)
theorem os_int {K : PySem.W.Frag} {C : Int → Int → Prop} {f : Int → Int → Int} : OpS K (rI C fun i j => .int (f i j)) (fII C (gInt f)) := os_II fun _ _ _ => dt_int.mpr rfl
theorem os_bl {K : PySem.W.Frag} {C : Int → Int → Prop} {f : Int → Int → Bool} : OpS K (rI C fun i j => .bl (f i j)) (fII C (gBl f)) := os_II fun _ _ _ => dt_bl.mpr rfl
/-- i ** j: the power below 2 ^ 27 bits -/
def CPowD (i j : Int) : Prop := 0 ≤ j ∧ j ≤ 100 ∧ i.natAbs < 2 ^ 1000
section
variable {X : Cx} {w0 : Wd} {a b : Expr} {ta tb : ATE} {pos : Pos}
theorem op_powD : OpR X (binaryOp .Pow) (rI CPowD fun i j => .int (i ^ j.toNat)) := opI fun i j _ _ _ _ _ hc q => by
  refine pow_int hc.1 ?_ q
  have h1 : Builtin.Int.intBits i ≤ 1000 := by
    unfold Builtin.Int.intBits
    split
    · omega
    · have := PySem.Flt.log2_lt_of (show 0 < 1000 by decide) hc.2.2
      omega
  have h2 : (Builtin.Int.intBits i : Int) * j ≤ 1000 * 100 := Int.mul_le_mul (by omega) hc.2.1 hc.1 (by decide)
  omega
abbrev fSub : BinF := fII C0 (gInt fun i j => i - j)
abbrev fMod : BinF := fII (fun _ j => 0 < j) (gInt fun i j => i % j)
abbrev fDiv : BinF := fII CDivW (gInt fun i j => i / j)
abbrev fPow : BinF := fII CPowD (gInt fun i j => i ^ j.toNat)
theorem ae_add (ha : AE X w0 a ta) (hb : AE X w0 b tb) : AE X w0 (.BinOp a .Add b pos) (aBin fAdd ta tb) := ae_op op_addD os_add ha hb
theorem ae_subt (ha : AE X w0 a ta) (hb : AE X w0 b tb) : AE X w0 (.BinOp a .Sub b pos) (aBin fSub ta tb) := ae_op (rI_of0 op_sub) os_int ha hb
theorem ae_mod (ha : AE X w0 a ta) (hb : AE X w0 b tb) : AE X w0 (.BinOp a .Mod b pos) (aBin fMod ta tb) := ae_op op_mod os_int ha hb
theorem ae_div (ha : AE X w0 a ta) (hb : AE X w0 b tb) : AE X w0 (.BinOp a .FloorDiv b pos) (aBin fDiv ta tb) := ae_op op_fdivW os_int ha hb
theorem ae_pow (ha : AE X w0 a ta) (hb : AE X w0 b tb) : AE X w0 (.BinOp a .Pow b pos) (aBin fPow ta tb) := ae_op op_powD os_int ha hb
/-! * -/
def rMulS : R2 := fun x y H Q => ∃ z i, x = .str z ∧ y = .int i ∧ (i = 0 ∧ Q (.str Str.empty) H ∨ i = 1 ∧ Q (.str z) H)
theorem op_mulS : OpR X (binaryOp .Mult) rMulS := by
  intro pins s σ H x y v u Q I rx ry h
  obtain ⟨z, i, rfl, rfl, h⟩ := h
  obtain ⟨t, rfl⟩ := rx
  obtain ⟨t', rfl⟩ := ry
  rcases h with ⟨rfl, q⟩ | ⟨rfl, q⟩
  · exact PySem.P.mul_str_none (by decide) (by decide) ⟨.str _, H, I.tok _, ⟨_, rfl⟩, q⟩
  · refine PySem.P.mul_str (by decide) (fun _ e => by simp at e) (fun _ e => by simp at e) ?_
    rw [if_neg (by decide), if_pos (by simp)]
    exact ⟨.str z, H, I, ⟨_, rfl⟩, q⟩
def fMul0 : D → D → (D → Prop) → Prop
  | .int i, .int j, P => CMulW i j ∧ P (.int (i * j))
  | .str z, .int i, P => i = 0 ∧ P (.str Str.empty) ∨ i = 1 ∧ P (.str z)
  | _, _, _ => False
def fMul : BinF := fun own d e P => fMul0 (see own d) (see own e) P
theorem os_mul {K : PySem.W.Frag} : OpS K (fun x y H Q => rI CMulW (fun i j => .int (i * j)) x y H Q ∨ rMulS x y H Q) fMul := by
  intro w d e x y P Q ok dx dy h k
  have sx := see_ok ok dx
  have sy := see_ok ok dy
  unfold fMul at h
  generalize see w.own d = d' at h sx
  generalize see w.own e = e' at h sy
  match d', e', h, sx, sy with
  | .int i, .int j, h, sx, sy => exact .inl ⟨i, j, dv_int.mp sx, dv_int.mp sy, h.1, ops_val ok k h.2 (dt_int.mpr rfl)⟩
  | .str z, .int j, h, sx, sy => exact .inr ⟨z, j, dv_str.mp sx, dv_int.mp sy, h.imp (fun q => ⟨q.1, ops_val ok k q.2 (dt_str.mpr rfl)⟩) fun q => ⟨q.1, ops_val ok k q.2 (dt_str.mpr rfl)⟩⟩
theorem ae_mul (ha : AE X w0 a ta) (hb : AE X w0 b tb) : AE X w0 (.BinOp a .Mult b pos) (aBin fMul ta tb) := ae_op (op_mulW.or op_mulS) os_mul ha hb
def fNeg : UnF := fun own d P => match see own d with
  | .int i => P (.int (-i))
  | _ => False
theorem ae_neg (ha : AE X w0 a ta) : AE X w0 (.UnaryOp .USub a pos) (aUn fNeg ta) := ae_un un_neg (by
  intro w d x P Q ok dx h k
  have sx := see_ok ok dx
  unfold fNeg at h
  generalize see w.own d = d' at h sx
  match d', h, sx with
  | .int i, h, sx => exact ⟨i, dv_int.mp sx, ops_val ok k h (dt_int.mpr rfl)⟩) ha
/-! ### order -/
def strLt (x y : Str) : Bool := decide (x.cps.toList < y.cps.toList)
def fLt0 : D → D → (D → Prop) → Prop
  | .int i, .int j, P => P (.bl (decide (i < j)))
  | .str x, .str y, P => P (.bl (strLt x y))
  | _, _, _ => False
def fLt : BinF := fun own d e P => fLt0 (see own d) (see own e) P
theorem os_lt {K : PySem.W.Frag} : OpS K (fun x y H Q => rI0 (fun i j => .bl (decide (i < j))) x y H Q ∨ ∃ i j, x = .str i ∧ y = .str j ∧ Q (.bl (decide (i.cps.toList < j.cps.toList))) H) fLt := by
  intro w d e x y P Q ok dx dy h k
  have sx := see_ok ok dx
  have sy := see_ok ok dy
  unfold fLt at h
  generalize see w.own d = d' at h sx
  generalize see w.own e = e' at h sy
  match d', e', h, sx, sy with
  | .int i, .int j, h, sx, sy => exact .inl ⟨i, j, dv_int.mp sx, dv_int.mp sy, ops_val ok k h (dt_bl.mpr rfl)⟩
  | .str i, .str j, h, sx, sy => exact .inr ⟨i, j, dv_str.mp sx, dv_str.mp sy, ops_val ok k h (dt_bl.mpr rfl)⟩
abbrev fLe : BinF := fII C0 (gBl fun i j => decide (i ≤ j))
abbrev fGt : BinF := fII C0 (gBl fun i j => decide (j < i))
abbrev fGe : BinF := fII C0 (gBl fun i j => decide (j ≤ i))
theorem ae_lt (ha : AE X w0 a ta) (hb : AE X w0 b tb) : AE X w0 (.Compare a [.Lt] [b] pos) (aBin fLt ta tb) := ae_cmp (op_lt.or op_lt_str) os_lt ha hb (nomark _)
theorem ae_le (ha : AE X w0 a ta) (hb : AE X w0 b tb) : AE X w0 (.Compare a [.LtE] [b] pos) (aBin fLe ta tb) := ae_cmp (rI_of0 op_le) os_bl ha hb (nomark _)
theorem ae_gt (ha : AE X w0 a ta) (hb : AE X w0 b tb) : AE X w0 (.Compare a [.Gt] [b] pos) (aBin fGt ta tb) := ae_cmp (rI_of0 op_gt) os_bl ha hb (nomark _)
theorem ae_ge (ha : AE X w0 a ta) (hb : AE X w0 b tb) : AE X w0 (.Compare a [.GtE] [b] pos) (aBin fGe ta tb) := ae_cmp (rI_of0 op_ge) os_bl ha hb (nomark _)
theorem at_lt (ha : AE X w0 a ta) (hb : AE X w0 b tb) : AT X w0 (.Compare a [.Lt] [b] pos) (aB (aBin fLt ta tb)) := at_cmp (op_lt.or op_lt_str) os_lt ha hb (nomark _)
theorem at_le (ha : AE X w0 a ta) (hb : AE X w0 b tb) : AT X w0 (.Compare a [.LtE] [b] pos) (aB (aBin fLe ta tb)) := at_cmp (rI_of0 op_le) os_bl ha hb (nomark _)
theorem at_gt (ha : AE X w0 a ta) (hb : AE X w0 b tb) : AT X w0 (.Compare a [.Gt] [b] pos) (aB (aBin fGt ta tb)) := at_cmp (rI_of0 op_gt) os_bl ha hb (nomark _)
theorem at_ge (ha : AE X w0 a ta) (hb : AE X w0 b tb) : AT X w0 (.Compare a [.GtE] [b] pos) (aB (aBin fGe ta tb)) := at_cmp (rI_of0 op_ge) os_bl ha hb (nomark _)
end
/-! ### == -/
mutual
def toPy : D → PyData
  | .non => .none
  | .bl b => .bool b
  | .int i => .int i
  | .str x => .str x
  | .tup ds => .tuple (toPys ds)
  | .lst ds => .list (toPys ds)
  | _ => .none
def toPys : List D → List PyData
  | [] => []
  | d :: ds => toPy d :: toPys ds
end
mutual
/-- data of which == may be asked -/
def eqOk : D → Bool
  | .non => true
  | .bl _ => true
  | .int _ => true
  | .str x => PyData.strOk x
  | .tup ds => eqOks ds
  | .lst ds => eqOks ds
  | _ => false
def eqOks : List D → Bool
  | [] => true
  | d :: ds => eqOk d && eqOks ds
end
mutual
theorem dt_dp {K : PySem.W.Frag} {G : Hp} : ∀ {d : D} {v : V}, eqOk d = true → Dt K G d v → Dp K G v (toPy d)
  | .non, v, _, h => by unfold Dt at h; subst h; unfold toPy; exact .non
  | .bl _, v, _, h => by unfold Dt at h; subst h; unfold toPy; exact .bl _
  | .int _, v, _, h => by unfold Dt at h; subst h; unfold toPy; exact .int _
  | .str _, v, _, h => by unfold Dt at h; subst h; unfold toPy; exact .str _
  | .tup ds, v, o, h => by
    unfold Dt at h
    obtain ⟨a, vs, rfl, e1, e2⟩ := h
    unfold toPy
    exact .tup e1 (dts_dp (by unfold eqOk at o; exact o) e2)
  | .lst ds, v, o, h => by
    unfold Dt at h
    obtain ⟨a, vs, rfl, e1, e2⟩ := h
    unfold toPy
    exact .lst (.inl e1) (dts_dp (by unfold eqOk at o; exact o) e2)
  | .ty _, _, o, _ => by unfold eqOk at o; cases o
  | .ref _, _, o, _ => by unfold eqOk at o; cases o
  | .dct _, _, o, _ => by unfold eqOk at o; cases o
theorem dts_dp {K : PySem.W.Frag} {G : Hp} : ∀ {ds : List D} {vs : List V}, eqOks ds = true → Dts K G ds vs → DpAll K G vs (toPys ds)
  | [], vs, _, h => by unfold Dts at h; subst h; unfold toPys; exact .nil
  | d :: ds, vs, o, h => by
    unfold Dts at h
    obtain ⟨v, vr, rfl, e1, e2⟩ := h
    unfold eqOks at o
    rw [Bool.and_eq_true] at o
    unfold toPys
    exact .cons (dt_dp o.1 e1) (dts_dp o.2 e2)
end
mutual
theorem dp_mono {K : PySem.W.Frag} {G G' : Hp} (e : Sub G G') : ∀ {v : V} {d : PyData}, Dp K G v d → Dp K G' v d
  | _, _, .non => .non
  | _, _, .bl _ => .bl _
  | _, _, .int _ => .int _
  | _, _, .str _ => .str _
  | _, _, .lst h r => .lst (e.sqL h) (dps_mono e r)
  | _, _, .tup h r => .tup (e.sqT h) (dps_mono e r)
theorem dps_mono {K : PySem.W.Frag} {G G' : Hp} (e : Sub G G') : ∀ {vs : List V} {ds : List PyData}, DpAll K G vs ds → DpAll K G' vs ds
  | _, _, .nil => .nil
  | _, _, .cons h r => .cons (dp_mono e h) (dps_mono e r)
end
mutual
theorem canLay_of : ∀ {d : D}, eqOk d = true → (toPy d).canLay0 = true
  | .non, _ => by unfold toPy PyData.canLay0; rfl
  | .bl _, _ => by unfold toPy PyData.canLay0; rfl
  | .int _, _ => by unfold toPy PyData.canLay0; rfl
  | .str _, o => by unfold toPy PyData.canLay0; unfold eqOk at o; exact o
  | .tup _, o => by unfold toPy PyData.canLay0; unfold eqOk at o; exact canLays_of o
  | .lst _, o => by unfold toPy PyData.canLay0; unfold eqOk at o; exact canLays_of o
  | .ty _, o => by unfold eqOk at o; cases o
  | .ref _, o => by unfold eqOk at o; cases o
  | .dct _, o => by unfold eqOk at o; cases o
theorem canLays_of : ∀ {ds : List D}, eqOks ds = true → PyData.canLayAll0 (toPys ds) = true
  | [], _ => by unfold toPys PyData.canLayAll0; rfl
  | d :: ds, o => by
    unfold eqOks at o
    rw [Bool.and_eq_true] at o
    unfold toPys PyData.canLayAll0
    rw [canLay_of o.1, canLays_of o.2]; rfl
end
/-- Python's == of data -/
def deq (d e : D) : Bool := PyData.eqv (toPy d) (toPy e)
/-- == of simple things is plain; of others data are asked that may be laid, of at most 64 deep -/
def eqAsk : D → D → Prop
  | .str _, .str _ => True
  | .str _, .non => True
  | .non, .str _ => True
  | .str _, .int _ => True
  | .int _, .str _ => True
  | .str _, .bl _ => True
  | .bl _, .str _ => True
  | d, e => (eqOk d = true ∧ (toPy d).depth ≤ 64) ∧ eqOk e = true ∧ (toPy e).depth ≤ 64
def fEq (neg : Bool) : BinF := fun own d e P => eqAsk (see own d) (see own e) ∧ P (.bl (if neg then !deq (see own d) (see own e) else deq (see own d) (see own e)))
theorem dv_dp {K : PySem.W.Frag} {w : Wd} (ok : w.Ok K) {d : D} {v : V} (o : eqOk d = true) (h : DtV K w d v) : Dp K w.H v (toPy d) := by
  cases d with
  | tup ds =>
    obtain ⟨a, vs, rfl, e1, e2⟩ := h
    unfold toPy
    exact .tup e1 (dps_mono ok.sub (dts_dp (by unfold eqOk at o; exact o) e2))
  | lst ds =>
    obtain ⟨a, vs, rfl, e1, e2⟩ := h
    unfold toPy
    exact .lst (.inl e1) (dps_mono ok.sub (dts_dp (by unfold eqOk at o; exact o) e2))
  | non => exact dp_mono ok.sub (dt_dp o h)
  | bl _ => exact dp_mono ok.sub (dt_dp o h)
  | int _ => exact dp_mono ok.sub (dt_dp o h)
  | str _ => exact dp_mono ok.sub (dt_dp o h)
  | ty _ => unfold eqOk at o; cases o
  | kls _ => unfold eqOk at o; cases o
  | ref _ => unfold eqOk at o; cases o
  | dct _ => unfold eqOk at o; cases o
theorem shaped_of {d : D} (o : eqOk d = true) (h : (toPy d).depth ≤ 64) : SeqAt.shaped (toPy d) = true := by
  unfold SeqAt.shaped
  rw [canLay_of o, decide_eq_true h]; rfl
theorem deq_ss {x y : Str} : deq (.str x) (.str y) = decide (x = y) := by unfold deq toPy; simp only [PyData.eqv]; rfl
theorem os_eq {K : PySem.W.Frag} (neg : Bool) : OpS K (fun x y H Q => (scal x y = true ∧ Q (.bl (if neg then !decide (x = y) else decide (x = y))) H) ∨ ∃ d e, Dp K H x d ∧ Dp K H y e ∧ SeqAt.shaped d = true ∧ SeqAt.shaped e = true ∧ Q (.bl (if neg then !PyData.eqv d e else PyData.eqv d e)) H) (fEq neg) := by
  intro w d e x y P Q ok dx dy h k
  have sx := see_ok ok dx
  have sy := see_ok ok dy
  unfold fEq at h
  generalize see w.own d = d' at h sx
  generalize see w.own e = e' at h sy
  obtain ⟨h1, h2⟩ := h
  have gen : (eqOk d' = true ∧ (toPy d').depth ≤ 64) ∧ eqOk e' = true ∧ (toPy e').depth ≤ 64 → ∃ d e, Dp K w.H x d ∧ Dp K w.H y e ∧ SeqAt.shaped d = true ∧ SeqAt.shaped e = true ∧ Q (.bl (if neg then !PyData.eqv d e else PyData.eqv d e)) w.H := fun q =>
    ⟨toPy d', toPy e', dv_dp ok q.1.1 sx, dv_dp ok q.2.1 sy, shaped_of q.1.1 q.1.2, shaped_of q.2.1 q.2.2, ops_val ok k h2 (dt_bl.mpr rfl)⟩
  have scalar : ∀ vx vy : V, x = vx → y = vy → scal vx vy = true → deq d' e' = decide (vx = vy) → (scal x y = true ∧ Q (.bl (if neg then !decide (x = y) else decide (x = y))) w.H) := fun vx vy e1 e2 e3 e4 => by
    subst e1 e2
    rw [e4] at h2
    exact ⟨e3, ops_val ok k h2 (dt_bl.mpr rfl)⟩
  unfold eqAsk at h1
  split at h1
  · exact .inl (scalar _ _ (dv_str.mp sx) (dv_str.mp sy) rfl (by rw [deq_ss]; simp))
  · exact .inl (scalar _ _ (dv_str.mp sx) (dv_non.mp sy) rfl (by simp [deq, toPy, PyData.eqv]))
  · exact .inl (scalar _ _ (dv_non.mp sx) (dv_str.mp sy) rfl (by simp [deq, toPy, PyData.eqv]))
  · exact .inl (scalar _ _ (dv_str.mp sx) (dv_int.mp sy) rfl (by simp [deq, toPy, PyData.eqv]))
  · exact .inl (scalar _ _ (dv_int.mp sx) (dv_str.mp sy) rfl (by simp [deq, toPy, PyData.eqv]))
  · exact .inl (scalar _ _ (dv_str.mp sx) (dv_bl.mp sy) rfl (by simp [deq, toPy, PyData.eqv]))
  · exact .inl (scalar _ _ (dv_bl.mp sx) (dv_str.mp sy) rfl (by simp [deq, toPy, PyData.eqv]))
  · exact .inr (gen h1)
section
variable {X : Cx} {w0 : Wd} {a b : Expr} {ta tb : ATE} {pos : Pos}
theorem op_eqA (hu : X.A.units + 64 < cLine) : OpR X (compareOp .Eq) (fun x y H Q => (scal x y = true ∧ Q (.bl (if false then !decide (x = y) else decide (x = y))) H) ∨ ∃ d e, Dp X.K H x d ∧ Dp X.K H y e ∧ SeqAt.shaped d = true ∧ SeqAt.shaped e = true ∧ Q (.bl (if false then !PyData.eqv d e else PyData.eqv d e)) H) := op_eq.or (op_eqD hu)
theorem op_neA (hu : X.A.units + 64 < cLine) : OpR X (compareOp .NotEq) (fun x y H Q => (scal x y = true ∧ Q (.bl (if true then !decide (x = y) else decide (x = y))) H) ∨ ∃ d e, Dp X.K H x d ∧ Dp X.K H y e ∧ SeqAt.shaped d = true ∧ SeqAt.shaped e = true ∧ Q (.bl (if true then !PyData.eqv d e else PyData.eqv d e)) H) := op_ne.or (op_neD hu)
theorem ae_eq {k : Nat} (hr : Room k X.A) (ha : AE X w0 a ta) (hb : AE X w0 b tb) : AE X w0 (.Compare a [.Eq] [b] pos) (aBin (fEq false) ta tb) := ae_cmp (op_eqA hr.units) (os_eq false) ha hb (nomark _)
theorem ae_ne {k : Nat} (hr : Room k X.A) (ha : AE X w0 a ta) (hb : AE X w0 b tb) : AE X w0 (.Compare a [.NotEq] [b] pos) (aBin (fEq true) ta tb) := ae_cmp (op_neA hr.units) (os_eq true) ha hb (nomark _)
theorem at_eq {k : Nat} (hr : Room k X.A) (ha : AE X w0 a ta) (hb : AE X w0 b tb) : AT X w0 (.Compare a [.Eq] [b] pos) (aB (aBin (fEq false) ta tb)) := at_cmp (op_eqA hr.units) (os_eq false) ha hb (nomark _)
theorem at_ne {k : Nat} (hr : Room k X.A) (ha : AE X w0 a ta) (hb : AE X w0 b tb) : AT X w0 (.Compare a [.NotEq] [b] pos) (aB (aBin (fEq true) ta tb)) := at_cmp (op_neA hr.units) (os_eq true) ha hb (nomark _)
/-! is None -/
def fIsN (neg : Bool) : BinF := fun own d e P => e = .non ∧ match d with
  | .non => P (.bl (!neg))
  | _ => P (.bl neg)
theorem isnon {K : PySem.W.Frag} {G : Hp} {d : D} {v : V} (h : Dt K G d v) : decide (v = .non) = (match d with | .non => true | _ => false) := by
  cases d <;> unfold Dt at h
  case non => subst h; rfl
  case tup => obtain ⟨a, vs, rfl, _⟩ := h; rfl
  case lst => obtain ⟨a, vs, rfl, _⟩ := h; rfl
  case kls => obtain ⟨a, vs, rfl, _⟩ := h; rfl
  case dct => obtain ⟨a, rfl, _⟩ := h; rfl
  all_goals subst h; rfl
theorem os_isN {K : PySem.W.Frag} (neg : Bool) : OpS K (fun x y H Q => y = .non ∧ Q (.bl (if neg then !decide (x = .non) else decide (x = .non))) H) (fIsN neg) := by
  intro w d e x y P Q ok dx dy h k
  obtain ⟨rfl, h⟩ := h
  refine ⟨dt_non.mp dy, ?_⟩
  rw [isnon dx]
  refine ops_val ok k ?_ (dt_bl.mpr rfl)
  cases d <;> cases neg <;> exact h
theorem ae_isN (ha : AE X w0 a ta) (hb : AE X w0 b tb) : AE X w0 (.Compare a [.Is] [b] pos) (aBin (fIsN false) ta tb) := ae_cmp op_isN (os_isN false) ha hb (nomark _)
theorem ae_notN (ha : AE X w0 a ta) (hb : AE X w0 b tb) : AE X w0 (.Compare a [.IsNot] [b] pos) (aBin (fIsN true) ta tb) := ae_cmp op_notN (os_isN true) ha hb (nomark _)
theorem at_isN (ha : AE X w0 a ta) (hb : AE X w0 b tb) : AT X w0 (.Compare a [.Is] [b] pos) (aB (aBin (fIsN false) ta tb)) := at_cmp op_isN (os_isN false) ha hb (nomark _)
theorem at_notN (ha : AE X w0 a ta) (hb : AE X w0 b tb) : AT X w0 (.Compare a [.IsNot] [b] pos) (aB (aBin (fIsN true) ta tb)) := at_cmp op_notN (os_isN true) ha hb (nomark _)
end
end L3

namespace L3
open PySem PySem.Spec PyProof.Rows L2

/-! ### in -/
def flatD : D → Bool
  | .non => true
  | .bl _ => true
  | .int _ => true
  | .str _ => true
  | _ => false
/-- == of flat things -/
def eqD : D → D → Bool
  | .non, .non => true
  | .bl a, .bl b => a == b
  | .bl a, .int b => (if a then 1 else 0) == b
  | .int a, .bl b => a == (if b then 1 else 0)
  | .int a, .int b => a == b
  | .str a, .str b => a == b
  | _, _ => false
def hasD (d : D) (ds : List D) : Bool := ds.any fun e => eqD e d
def oneIn (x z : Str) : Bool := decide (x.cps.toList.getD 0 0 ∈ z.cps.toList)
def fIn0 (neg : Bool) : D → D → (D → Prop) → Prop
  | d, .lst ds, P => flatD d = true ∧ ds.all flatD = true ∧ P (.bl (if neg then !hasD d ds else hasD d ds))
  | d, .tup ds, P => flatD d = true ∧ ds.all flatD = true ∧ P (.bl (if neg then !hasD d ds else hasD d ds))
  | .str x, .str z, P => x.cps.toList.length = 1 ∧ P (.bl (if neg then !oneIn x z else oneIn x z))
  | _, _, _ => False
def fIn (neg : Bool) : BinF := fun own d e P => fIn0 neg d (see own e) P
theorem flat_v {K : PySem.W.Frag} {G : Hp} {d : D} {v : V} (h : Dt K G d v) (f : flatD d = true) : flatV v = true := by
  cases d <;> first | (unfold Dt at h; subst h; rfl) | cases f
theorem flats_v {K : PySem.W.Frag} {G : Hp} : ∀ {ds : List D} {vs : List V}, Dts K G ds vs → ds.all flatD = true → vs.all flatV = true
  | [], _, h, _ => by unfold Dts at h; subst h; rfl
  | d :: ds, vs, h, f => by
    unfold Dts at h
    obtain ⟨v, vr, rfl, h1, h2⟩ := h
    rw [List.all_cons, Bool.and_eq_true] at f ⊢
    exact ⟨flat_v h1 f.1, flats_v h2 f.2⟩
theorem eq_v {K : PySem.W.Frag} {G : Hp} {d e : D} {v u : V} (h : Dt K G d v) (h' : Dt K G e u) (f : flatD d = true) (f' : flatD e = true) : eqV v u = eqD d e := by
  cases d <;> first | cases f | skip
  all_goals cases e <;> first | cases f' | skip
  all_goals (unfold Dt at h h'; subst h h'; rfl)
theorem has_v {K : PySem.W.Frag} {G : Hp} {d : D} {v : V} (h : Dt K G d v) (f : flatD d = true) : ∀ {ds : List D} {vs : List V}, Dts K G ds vs → ds.all flatD = true → inV v vs = hasD d ds
  | [], _, r, _ => by unfold Dts at r; subst r; rfl
  | e :: ds, vs, r, fs => by
    unfold Dts at r
    obtain ⟨u, ur, rfl, h1, h2⟩ := r
    rw [List.all_cons, Bool.and_eq_true] at fs
    have ih := has_v h f h2 fs.2
    unfold inV hasD at ih ⊢
    rw [List.any_cons, List.any_cons, ih, eq_v h1 h fs.1 f]
theorem one_str {x : Str} (h : x.cps.toList.length = 1) : x = ⟨#[x.cps.toList.getD 0 0]⟩ := by
  obtain ⟨⟨l⟩⟩ := x
  match l, h with
  | [c], _ => rfl
def rInD (K : PySem.W.Frag) (neg : Bool) : R2 := fun x y H Q => rIn K neg x y H Q ∨ ∃ c z, x = .str ⟨#[c]⟩ ∧ y = .str z ∧ Q (.bl (if neg then !decide (c ∈ z.cps.toList) else decide (c ∈ z.cps.toList))) H
theorem os_in {K : PySem.W.Frag} (neg : Bool) : OpS K (rInD K neg) (fIn neg) := by
  intro w d e x y P Q ok dx dy h k
  have sy := see_ok ok dy
  unfold fIn at h
  generalize see w.own e = e' at h sy
  have seq : ∀ (ds : List D) (us : List V), Dts K w.G ds us → (flatD d = true ∧ ds.all flatD = true ∧ P (.bl (if neg then !hasD d ds else hasD d ds))) → flatV x = true ∧ us.all flatV = true ∧ Q (.bl (if neg then !inV x us else inV x us)) w.H := fun ds us r h => by
    refine ⟨flat_v dx h.1, flats_v r h.2.1, ?_⟩
    rw [has_v dx h.1 r h.2.1]
    exact ops_val ok k h.2.2 (dt_bl.mpr rfl)
  cases e' with
  | lst ds =>
    obtain ⟨a, us, rfl, e1, e2⟩ := sy
    exact .inl ⟨a, us, rfl, .inl (.inl e1), seq ds us e2 (by cases d <;> exact h)⟩
  | tup ds =>
    obtain ⟨a, us, rfl, e1, e2⟩ := sy
    exact .inl ⟨a, us, rfl, .inr e1, seq ds us e2 (by cases d <;> exact h)⟩
  | str z =>
    cases d with
    | str s =>
      have hs := one_str h.1
      refine .inr ⟨_, z, (dt_str.mp dx).trans (congrArg V.str hs), dv_str.mp sy, ops_val ok k h.2 (dt_bl.mpr rfl)⟩
    | _ => exact (h : False).elim
  | non => cases d <;> exact (h : False).elim
  | bl _ => cases d <;> exact (h : False).elim
  | int _ => cases d <;> exact (h : False).elim
  | ty _ => cases d <;> exact (h : False).elim
  | kls _ => cases d <;> exact (h : False).elim
  | ref _ => cases d <;> exact (h : False).elim
  | dct _ => cases d <;> exact (h : False).elim
section
variable {X : Cx} {w0 : Wd} {a b : Expr} {ta tb : ATE} {pos : Pos}
theorem op_inD : OpR X (compareOp .In) (rInD X.K false) := op_in_seq.or (fun pins s σ H x y v u Q I rx ry ⟨c, z, e1, e2, q⟩ => op_in_sign pins s σ H x y v u Q I rx ry ⟨c, z, e1, e2, q⟩)
theorem op_notInD : OpR X (compareOp .NotIn) (rInD X.K true) := op_notIn_seq.or (fun pins s σ H x y v u Q I rx ry ⟨c, z, e1, e2, q⟩ => op_notIn_sign pins s σ H x y v u Q I rx ry ⟨c, z, e1, e2, q⟩)
theorem ae_in (ha : AE X w0 a ta) (hb : AE X w0 b tb) (hm : behindInMarks .In b = false := by rfl) : AE X w0 (.Compare a [.In] [b] pos) (aBin (fIn false) ta tb) := ae_cmp op_inD (os_in false) ha hb hm
theorem ae_notin (ha : AE X w0 a ta) (hb : AE X w0 b tb) (hm : behindInMarks .NotIn b = false := by rfl) : AE X w0 (.Compare a [.NotIn] [b] pos) (aBin (fIn true) ta tb) := ae_cmp op_notInD (os_in true) ha hb hm
theorem at_in (ha : AE X w0 a ta) (hb : AE X w0 b tb) (hm : behindInMarks .In b = false := by rfl) : AT X w0 (.Compare a [.In] [b] pos) (aB (aBin (fIn false) ta tb)) := at_cmp op_inD (os_in false) ha hb hm
theorem at_notin (ha : AE X w0 a ta) (hb : AE X w0 b tb) (hm : behindInMarks .NotIn b = false := by rfl) : AT X w0 (.Compare a [.NotIn] [b] pos) (aB (aBin (fIn true) ta tb)) := at_cmp op_notInD (os_in true) ha hb hm
end

/-! ### subscripts -/
/-- there is one, and it is so -/
def oP {α : Type} : Option α → (α → Prop) → Prop
  | some a, P => P a
  | none, _ => False
theorem oP_some {α : Type} {o : Option α} {P : α → Prop} (h : oP o P) : ∃ a, o = some a ∧ P a := by
  cases o with
  | none => exact h.elim
  | some a => exact ⟨a, rfl, h⟩
def fIx0 : D → D → (D → Prop) → Prop
  | .lst ds, .int i, P => oP (atI ds i) P
  | .tup ds, .int i, P => oP (atI ds i) P
  | .str z, .int i, P => z.length ≤ sizeLine ∧ oP (atI z.cps.toList i) fun c => P (.str ⟨#[c]⟩)
  | _, _, _ => False
def fIx : BinF := fun own d e P => fIx0 (see own d) (see own e) P
theorem at_v {K : PySem.W.Frag} {G : Hp} {ds : List D} {vs : List V} (r : Dts K G ds vs) {i : Int} {d : D} (h : atI ds i = some d) : ∃ v, atI vs i = some v ∧ Dt K G d v := by
  unfold atI at h ⊢
  rw [r.length]
  cases e : ixN ds.length i with
  | none => rw [e] at h; cases h
  | some j =>
    rw [e] at h
    exact r.get h
theorem os_ix {K : PySem.W.Frag} : OpS K (rIx K) fIx := by
  intro w d e x y P Q ok dx dy h k
  have sx := see_ok ok dx
  have sy := see_ok ok dy
  unfold fIx at h
  generalize see w.own d = d' at h sx
  generalize see w.own e = e' at h sy
  match d', e', h, sx, sy with
  | .lst ds, .int i, h, sx, sy =>
    obtain ⟨a, us, rfl, e1, e2⟩ := sx
    obtain ⟨z, e3, h⟩ := oP_some (show oP (atI ds i) P from h)
    obtain ⟨v, a1, a2⟩ := at_v e2 e3
    exact .inl ⟨a, us, i, v, rfl, dv_int.mp sy, .inl e1, a1, ops_val ok k h a2⟩
  | .tup ds, .int i, h, sx, sy =>
    obtain ⟨a, us, rfl, e1, e2⟩ := sx
    obtain ⟨z, e3, h⟩ := oP_some (show oP (atI ds i) P from h)
    obtain ⟨v, a1, a2⟩ := at_v e2 e3
    exact .inr (.inl ⟨a, us, i, v, rfl, dv_int.mp sy, e1, a1, ops_val ok k h a2⟩)
  | .str z, .int i, h, sx, sy =>
    obtain ⟨hz, h⟩ := (show z.length ≤ sizeLine ∧ oP (atI z.cps.toList i) (fun c => P (.str ⟨#[c]⟩)) from h)
    obtain ⟨c, e3, h⟩ := oP_some h
    exact .inr (.inr ⟨z, i, c, dv_str.mp sx, dv_int.mp sy, hz, e3, ops_val ok k h (dt_str.mpr rfl)⟩)
section
variable {X : Cx} {w0 : Wd} {a b e o : Expr} {ta tb : ATE} {pos p2 : Pos}
theorem ae_ix (ha : AE X w0 a ta) (hb : AE X w0 b tb) (hp : PlainIx b := by exact fun _ _ => rfl) : AE X w0 (.Subscript a b pos) (aBin fIx ta tb) := ae_sub ix_seq os_ix ha hb hp
/-! slices -/
def cutD (ds : List D) (lo hi : Option Int) : List D := (ds.drop (HT.sIx ds.length 0 lo)).take (HT.sIx ds.length ds.length hi - HT.sIx ds.length 0 lo)
theorem cut_v {K : PySem.W.Frag} {G : Hp} {ds : List D} {vs : List V} (r : Dts K G ds vs) (lo hi : Option Int) : Dts K G (cutD ds lo hi) (cutV vs lo hi) := by
  unfold cutD cutV
  rw [r.length]
  exact (r.drop _).take _
theorem cutD_le (ds : List D) (lo hi : Option Int) : (cutD ds lo hi).length ≤ ds.length := by
  unfold cutD; rw [List.length_take, List.length_drop]; omega
def fSl0 (lo hi : Option Int) : D → (D → Prop) → Prop
  | .lst ds, P => P (.lst (cutD ds lo hi))
  | .tup ds, P => P (.tup (cutD ds lo hi))
  | .kls ds, P => P (.lst (cutD ds lo hi))
  | .str z, P => z.length ≤ sizeLine ∧ P (.str (cutS z lo hi))
  | _, _ => False
def aNo : ATO := fun _ own P => P none own
def aSo (t : ATE) : ATO := fun env own P => t env own fun d o => match d with
  | .int i => P (some i) o
  | _ => False
theorem ao_none : AO X w0 none aNo := po_of po_none fun σ H Q h => by
  obtain ⟨env, w, rfl, ok, tr0, er, P, h, k⟩ := h
  exact k none w h (Tr.refl w) ok
theorem ao_some (h : AE X w0 e ta) : AO X w0 (some e) (aSo ta) := po_of (po_some h) fun σ H Q h => by
  obtain ⟨env, w, rfl, ok, tr0, er, P, h, k⟩ := h
  refine ⟨env, w, rfl, ok, tr0, er, _, h, fun d w1 v h1 t1 ok1 dv => ?_⟩
  cases d with
  | int i => exact ⟨i, dt_int.mp dv, k _ w1 h1 t1 ok1⟩
  | _ => exact (h1 : False).elim
def aSl (t : ATE) (l h : ATO) : ATE := fun env own P => t env own fun d o1 => l env o1 fun lo o2 => h env o2 fun hi o3 => fSl0 lo hi (see o3 d) fun z => P z o3
theorem ae_sl {lo hi : Option Expr} {l h : ATO} (ha : AE X w0 a ta) (hl : AO X w0 lo l) (hh : AO X w0 hi h) : AE X w0 (.Subscript a (.Slice lo hi none p2) pos) (aSl ta l h) :=
  pe_of (pe_slice ((sl_list.or sl_tupA).or sl_str) ha hl hh) fun σ H Q h => by
    obtain ⟨env, w, rfl, ok, tr0, er, P, h, k⟩ := h
    refine ⟨env, w, rfl, ok, tr0, er, _, h, fun d w1 x h1 t1 ok1 dx => ?_⟩
    refine ⟨env, w1, rfl, ok1, tr0.trans t1, er.mono t1.gs, _, h1, fun lo w2 h2 t2 ok2 => ?_⟩
    have T2 := t1.trans t2
    refine ⟨env, w2, rfl, ok2, tr0.trans T2, er.mono T2.gs, _, h2, fun hi w3 h3 t3 ok3 => ?_⟩
    have T3 := T2.trans t3
    have dx3 := dx.mono (t2.trans t3).gs
    have sx := see_ok ok3 dx3
    have kk : ∀ z w' v, P z w3.own → w'.own = w3.own → Tr w3 w' → w'.Ok X.K → Dt X.K w'.G z v → Q v w'.H := fun z w' v h4 ho t4 ok4 d4 => k z w' v (by rw [ho]; exact h4) (T3.trans t4) ok4 d4
    cases e : see w3.own d with
    | lst ds =>
      rw [e] at sx h3
      obtain ⟨p, us, rfl, e1, e2⟩ := sx
      refine .inl (.inl ⟨p, us, rfl, .inl e1, ops_lst ok3 (P := fun z => P z w3.own) kk h3 (cut_v e2 lo hi) ?_⟩)
      exact Nat.le_trans (cutD_le ds lo hi) (by rw [← e2.length]; exact sqL_sz ok3 (.inl e1))
    | tup ds =>
      rw [e] at sx h3
      have ed := see_tup e
      subst ed
      obtain ⟨p, us, rfl, e1, e2⟩ := sx
      refine .inl (.inr ⟨p, us, rfl, e1, fun z => ?_, fun _ => ops_tup ok3 (P := fun z => P z w3.own) kk h3 (cut_v e2 lo hi) (Nat.le_trans (cutD_le ds lo hi) (by rw [← e2.length]; exact sqT_sz ok3 e1))⟩)
      have ec : cutD ds lo hi = ds := by
        unfold cutD
        rw [← e2.length, z.1, z.2, e2.length]
        simp
      have h3' : P (.tup (cutD ds lo hi)) w3.own := h3
      rw [ec] at h3'
      exact ops_val ok3 (P := fun z => P z w3.own) kk h3' dx3
    | str z =>
      rw [e] at sx h3
      exact .inr ⟨z, dv_str.mp sx, h3.1, ops_val ok3 (P := fun z => P z w3.own) kk h3.2 (dt_str.mpr rfl)⟩
    | non => rw [e] at h3; exact (h3 : False).elim
    | bl _ => rw [e] at h3; exact (h3 : False).elim
    | int _ => rw [e] at h3; exact (h3 : False).elim
    | ty _ => rw [e] at h3; exact (h3 : False).elim
    | kls ds =>
      rw [e] at sx h3
      have sx' : Dt X.K w3.G (.kls ds) x := sx
      unfold Dt at sx'
      obtain ⟨p, us, rfl, e1, e2⟩ := sx'
      have e1' := ok3.sub.sqL e1
      refine .inl (.inl ⟨p, us, rfl, e1', ops_lst ok3 (P := fun z => P z w3.own) kk h3 (cut_v e2 lo hi) ?_⟩)
      exact Nat.le_trans (cutD_le ds lo hi) (by rw [← e2.length]; exact sqL_sz ok3 e1')
    | ref _ => rw [e] at h3; exact (h3 : False).elim
    | dct _ => rw [e] at h3; exact (h3 : False).elim
end

/-! ### built-in functions -/
section
variable {X : Cx} {w0 : Wd} {e : Expr} {es : List Expr} {ta : ATA} {x : Str} {p pos : Pos} {id T : String}
theorem ae_callB {r : List V → Hp → VK → Prop} {f : CallF} (hc : CallR X (.builtin id) r) (hs : CallS X.K r f) (hg : Gl X x) (hm : X.mg x = none) (hv : bootBuiltins x = some (.builtin id)) (ha : AA X w0 (e :: es) ta) (hn : x ≠ "__name__" := by decide) (hdb : (x == ("__debug__" : Str)) = false := by decide)
    (he : starEach (e :: es) X.env = (false, eval e X.env) :: starEach es X.env := by rfl) (hpl : (backTo pos (starEach es X.env)).any (·.1) = false := by rfl) : AE X w0 (.Call (.Name x p) (e :: es) [] pos) (aFn f ta) := pe_of (pe_callB hc hg hm hv ha hn hdb he hpl) fun σ H Q h => by
  obtain ⟨env, w, rfl, ok, tr0, er, P, h, k⟩ := h
  exact ⟨env, w, rfl, ok, tr0, er, _, h, fun ds w1 vs h1 t1 ok1 dv => hs w1 ds vs _ Q ok1 dv h1 fun z w2 v hz ho t2 ok2 dz => k z w2 v (by rw [ho]; exact hz) (t1.trans t2) ok2 dz⟩
theorem ae_callT {r : List V → Hp → VK → Prop} {f : CallF} (hc : CallR X (.type T) r) (hs : CallS X.K r f) (hg : Gl X x) (hm : X.mg x = none) (hv : bootBuiltins x = some (.type T)) (ha : AA X w0 (e :: es) ta) (hn : x ≠ "__name__" := by decide) (hdb : (x == ("__debug__" : Str)) = false := by decide)
    (he : starEach (e :: es) X.env = (false, eval e X.env) :: starEach es X.env := by rfl) (hpl : (backTo pos (starEach es X.env)).any (·.1) = false := by rfl) : AE X w0 (.Call (.Name x p) (e :: es) [] pos) (aFn f ta) := pe_of (pe_callTy hc hg hm hv ha hn hdb he hpl) fun σ H Q h => by
  obtain ⟨env, w, rfl, ok, tr0, er, P, h, k⟩ := h
  exact ⟨env, w, rfl, ok, tr0, er, _, h, fun ds w1 vs h1 t1 ok1 dv => hs w1 ds vs _ Q ok1 dv h1 fun z w2 v hz ho t2 ok2 dz => k z w2 v (by rw [ho]; exact hz) (t1.trans t2) ok2 dz⟩
theorem dts_one {K : PySem.W.Frag} {G : Hp} {d : D} {vs : List V} (h : Dts K G [d] vs) : ∃ v, vs = [v] ∧ Dt K G d v := by
  unfold Dts at h
  obtain ⟨v, vr, rfl, h1, h2⟩ := h
  unfold Dts at h2; subst h2
  exact ⟨v, rfl, h1⟩
theorem dts_two {K : PySem.W.Frag} {G : Hp} {d e : D} {vs : List V} (h : Dts K G [d, e] vs) : ∃ v u, vs = [v, u] ∧ Dt K G d v ∧ Dt K G e u := by
  unfold Dts at h
  obtain ⟨v, vr, rfl, h1, h2⟩ := h
  obtain ⟨u, rfl, h3⟩ := dts_one h2
  exact ⟨v, u, rfl, h1, h3⟩
/-- one argument, as it is seen -/
def f1 (g : D → (D → Prop) → Prop) : CallF := fun own ds P => match ds with
  | [d] => g (see own d) P
  | _ => False
theorem cs1 {K : PySem.W.Frag} {r : List V → Hp → VK → Prop} {g : D → (D → Prop) → Prop}
    (hs : ∀ (w : Wd) (d : D) (x : V) (P : D → Prop) (Q : VK), w.Ok K → Dt K w.G d x → DtV K w (see w.own d) x → g (see w.own d) P → (∀ z w' v, P z → w'.own = w.own → Tr w w' → w'.Ok K → Dt K w'.G z v → Q v w'.H) → r [x] w.H Q) : CallS K r (f1 g) := by
  intro w ds xs P Q ok dv h k
  match ds, h, dv with
  | [d], h, dv =>
    obtain ⟨v, rfl, d1⟩ := dts_one dv
    exact hs w d v P Q ok d1 (see_ok ok d1) h k
/-! len -/
def gLen : D → (D → Prop) → Prop
  | .lst ds, P => P (.int ds.length)
  | .tup ds, P => P (.int ds.length)
  | .str z, P => z.length ≤ sizeLine ∧ P (.int z.length)
  | _, _ => False
theorem ae_len (hg : Gl X "len") (hm : X.mg "len" = none) (ha : AA X w0 (e :: es) ta) (he : starEach (e :: es) X.env = (false, eval e X.env) :: starEach es X.env := by rfl) (hpl : (backTo pos (starEach es X.env)).any (·.1) = false := by rfl) : AE X w0 (.Call (.Name "len" p) (e :: es) [] pos) (aFn (f1 gLen) ta) :=
  ae_callB (call_len_seq.or call_len_str) (cs1 fun w d x P Q ok dx sx h k => by
    generalize see w.own d = d' at h sx
    match d', h, sx with
    | .lst ds, h, sx =>
      obtain ⟨a, us, rfl, e1, e2⟩ := sx
      exact .inl ⟨a, us, rfl, .inl (.inl e1), by rw [e2.length]; exact ops_val ok k h (dt_int.mpr rfl)⟩
    | .tup ds, h, sx =>
      obtain ⟨a, us, rfl, e1, e2⟩ := sx
      exact .inl ⟨a, us, rfl, .inr e1, by rw [e2.length]; exact ops_val ok k h (dt_int.mpr rfl)⟩
    | .str z, h, sx => exact .inr ⟨z, by rw [dv_str.mp sx], h.1, ops_val ok k h.2 (dt_int.mpr rfl)⟩) hg hm boot_len ha (by decide) (by decide) he hpl
/-! abs, int -/
def gAbs : D → (D → Prop) → Prop
  | .int i, P => P (.int (if i < 0 then -i else i))
  | _, _ => False
theorem ae_abs (hg : Gl X "abs") (hm : X.mg "abs" = none) (ha : AA X w0 (e :: es) ta) (he : starEach (e :: es) X.env = (false, eval e X.env) :: starEach es X.env := by rfl) (hpl : (backTo pos (starEach es X.env)).any (·.1) = false := by rfl) : AE X w0 (.Call (.Name "abs" p) (e :: es) [] pos) (aFn (f1 gAbs) ta) :=
  ae_callB call_abs (cs1 fun w d x P Q ok dx sx h k => by
    generalize see w.own d = d' at h sx
    match d', h, sx with
    | .int i, h, sx => exact ⟨i, by rw [dv_int.mp sx], ops_val ok k h (dt_int.mpr rfl)⟩) hg hm (by decide +kernel) ha (by decide) (by decide) he hpl
def gInt1 : D → (D → Prop) → Prop
  | .int i, P => P (.int i)
  | .bl b, P => P (.int (if b then 1 else 0))
  | _, _ => False
theorem ae_int1 (hg : Gl X "int") (hm : X.mg "int" = none) (ha : AA X w0 (e :: es) ta) (he : starEach (e :: es) X.env = (false, eval e X.env) :: starEach es X.env := by rfl) (hpl : (backTo pos (starEach es X.env)).any (·.1) = false := by rfl) : AE X w0 (.Call (.Name "int" p) (e :: es) [] pos) (aFn (f1 gInt1) ta) :=
  ae_callT call_int1 (cs1 fun w d x P Q ok dx sx h k => by
    generalize see w.own d = d' at h sx
    match d', h, sx with
    | .int i, h, sx => exact .inl ⟨i, by rw [dv_int.mp sx], ops_val ok k h (dt_int.mpr rfl)⟩
    | .bl b, h, sx => exact .inr ⟨b, by rw [dv_bl.mp sx], ops_val ok k h (dt_int.mpr rfl)⟩) hg hm (by decide +kernel) ha (by decide) (by decide) he hpl
/-! list(x), tuple(x) -/
def gList : D → (D → Prop) → Prop
  | .lst ds, P => P (.lst ds)
  | .tup ds, P => P (.lst ds)
  | _, _ => False
theorem ae_list (hg : Gl X "list") (hm : X.mg "list" = none) (ha : AA X w0 (e :: es) ta) (he : starEach (e :: es) X.env = (false, eval e X.env) :: starEach es X.env := by rfl) (hpl : (backTo pos (starEach es X.env)).any (·.1) = false := by rfl) : AE X w0 (.Call (.Name "list" p) (e :: es) [] pos) (aFn (f1 gList) ta) :=
  ae_callT call_list_of (cs1 fun w d x P Q ok dx sx h k => by
    generalize see w.own d = d' at h sx
    match d', h, sx with
    | .lst ds, h, sx =>
      obtain ⟨a, us, rfl, e1, e2⟩ := sx
      exact ⟨a, us, rfl, .inl (.inl e1), ops_lst ok k h e2 (by rw [← e2.length]; exact sqL_sz ok (.inl e1))⟩
    | .tup ds, h, sx =>
      obtain ⟨a, us, rfl, e1, e2⟩ := sx
      exact ⟨a, us, rfl, .inr e1, ops_lst ok k h e2 (by rw [← e2.length]; exact sqT_sz ok e1)⟩) hg hm (by decide +kernel) ha (by decide) (by decide) he hpl
def gTuple : D → (D → Prop) → Prop
  | .lst ds, P => P (.tup ds)
  | .tup ds, P => P (.tup ds)
  | _, _ => False
theorem ae_tuple (hg : Gl X "tuple") (hm : X.mg "tuple" = none) (ha : AA X w0 (e :: es) ta) (he : starEach (e :: es) X.env = (false, eval e X.env) :: starEach es X.env := by rfl) (hpl : (backTo pos (starEach es X.env)).any (·.1) = false := by rfl) : AE X w0 (.Call (.Name "tuple" p) (e :: es) [] pos) (aFn (f1 gTuple) ta) :=
  ae_callT call_tuple_of (cs1 fun w d x P Q ok dx sx h k => by
    generalize hd : see w.own d = d' at h sx
    match d', h, sx, hd with
    | .lst ds, h, sx, _ =>
      obtain ⟨a, us, rfl, e1, e2⟩ := sx
      exact ⟨a, us, rfl, .inl ⟨.inl e1, ops_tup ok k h e2 (by rw [← e2.length]; exact sqL_sz ok (.inl e1))⟩⟩
    | .tup ds, h, sx, hd =>
      obtain ⟨a, us, rfl, e1, e2⟩ := sx
      have ed := see_tup hd
      subst ed
      exact ⟨a, us, rfl, .inr ⟨e1, ops_val ok k h dx⟩⟩) hg hm (by decide +kernel) ha (by decide) (by decide) he hpl
/-! sum, all, any -/
def intsOf : List D → Option (List Int)
  | [] => some []
  | .int i :: ds => (intsOf ds).map (i :: ·)
  | _ => none
def blsOf : List D → Option (List Bool)
  | [] => some []
  | .bl i :: ds => (blsOf ds).map (i :: ·)
  | _ => none
theorem ints_v {K : PySem.W.Frag} {G : Hp} : ∀ {ds : List D} {vs : List V} {ns : List Int}, Dts K G ds vs → intsOf ds = some ns → vs = ns.map V.int
  | [], _, _, h, e => by unfold Dts at h; unfold intsOf at e; cases e; exact h
  | d :: ds, vs, ns, h, e => by
    unfold Dts at h
    obtain ⟨v, vr, rfl, h1, h2⟩ := h
    cases d <;> first | (unfold intsOf at e; cases e; done) | skip
    unfold intsOf at e
    cases e2 : intsOf ds with
    | none => rw [e2] at e; cases e
    | some ms =>
      rw [e2] at e; cases e
      rw [ints_v h2 e2, dt_int.mp h1]; rfl
theorem bls_v {K : PySem.W.Frag} {G : Hp} : ∀ {ds : List D} {vs : List V} {ns : List Bool}, Dts K G ds vs → blsOf ds = some ns → vs = ns.map V.bl
  | [], _, _, h, e => by unfold Dts at h; unfold blsOf at e; cases e; exact h
  | d :: ds, vs, ns, h, e => by
    unfold Dts at h
    obtain ⟨v, vr, rfl, h1, h2⟩ := h
    cases d <;> first | (unfold blsOf at e; cases e; done) | skip
    unfold blsOf at e
    cases e2 : blsOf ds with
    | none => rw [e2] at e; cases e
    | some ms =>
      rw [e2] at e; cases e
      rw [bls_v h2 e2, dt_bl.mp h1]; rfl
def gSum : D → (D → Prop) → Prop
  | .lst ds, P => oP (intsOf ds) fun ns => P (.int ns.sum)
  | _, _ => False
def gAll : D → (D → Prop) → Prop
  | .lst ds, P => oP (blsOf ds) fun bs => P (.bl (bs.all _root_.id))
  | _, _ => False
def gAny : D → (D → Prop) → Prop
  | .lst ds, P => oP (blsOf ds) fun bs => P (.bl (bs.any _root_.id))
  | _, _ => False
theorem ae_sum (hc : X.calm = true) (hg : Gl X "sum") (hm : X.mg "sum" = none) (ha : AA X w0 (e :: es) ta) (he : starEach (e :: es) X.env = (false, eval e X.env) :: starEach es X.env := by rfl) (hpl : (backTo pos (starEach es X.env)).any (·.1) = false := by rfl) : AE X w0 (.Call (.Name "sum" p) (e :: es) [] pos) (aFn (f1 gSum) ta) :=
  ae_callB (cr_sum hc) (cs1 fun w d x P Q ok dx sx h k => by
    generalize see w.own d = d' at h sx
    match d', h, sx with
    | .lst ds, h, sx =>
      obtain ⟨a, us, rfl, e1, e2⟩ := sx
      obtain ⟨ns, e3, h⟩ := oP_some (show oP (intsOf ds) (fun ns => P (.int ns.sum)) from h)
      rw [ints_v e2 e3] at e1
      exact ⟨a, ns, rfl, .inl e1, ops_val ok k h (dt_int.mpr rfl)⟩) hg hm (by decide +kernel) ha (by decide) (by decide) he hpl
theorem ae_all (hc : X.calm = true) (hg : Gl X "all") (hm : X.mg "all" = none) (ha : AA X w0 (e :: es) ta) (he : starEach (e :: es) X.env = (false, eval e X.env) :: starEach es X.env := by rfl) (hpl : (backTo pos (starEach es X.env)).any (·.1) = false := by rfl) : AE X w0 (.Call (.Name "all" p) (e :: es) [] pos) (aFn (f1 gAll) ta) :=
  ae_callB (cr_all hc) (cs1 fun w d x P Q ok dx sx h k => by
    generalize see w.own d = d' at h sx
    match d', h, sx with
    | .lst ds, h, sx =>
      obtain ⟨a, us, rfl, e1, e2⟩ := sx
      obtain ⟨ns, e3, h⟩ := oP_some (show oP (blsOf ds) (fun bs => P (.bl (bs.all _root_.id))) from h)
      rw [bls_v e2 e3] at e1
      exact ⟨a, ns, rfl, .inl e1, ops_val ok k h (dt_bl.mpr rfl)⟩) hg hm (by decide +kernel) ha (by decide) (by decide) he hpl
theorem ae_any (hc : X.calm = true) (hg : Gl X "any") (hm : X.mg "any" = none) (ha : AA X w0 (e :: es) ta) (he : starEach (e :: es) X.env = (false, eval e X.env) :: starEach es X.env := by rfl) (hpl : (backTo pos (starEach es X.env)).any (·.1) = false := by rfl) : AE X w0 (.Call (.Name "any" p) (e :: es) [] pos) (aFn (f1 gAny) ta) :=
  ae_callB (cr_any hc) (cs1 fun w d x P Q ok dx sx h k => by
    generalize see w.own d = d' at h sx
    match d', h, sx with
    | .lst ds, h, sx =>
      obtain ⟨a, us, rfl, e1, e2⟩ := sx
      obtain ⟨ns, e3, h⟩ := oP_some (show oP (blsOf ds) (fun bs => P (.bl (bs.any _root_.id))) from h)
      rw [bls_v e2 e3] at e1
      exact ⟨a, ns, rfl, .inl e1, ops_val ok k h (dt_bl.mpr rfl)⟩) hg hm (by decide +kernel) ha (by decide) (by decide) he hpl
/-! repr -/
def reprOk (d : D) : Bool := eqOk d && (toPy d).showable && decide ((toPy d).depth ≤ 64) && decide ((toPy d).shown.length ≤ sizeLine)
def reprD (d : D) : Str := (toPy d).shown
def gRepr : D → (D → Prop) → Prop
  | .tup ds, P => reprOk (.tup ds) = true ∧ P (.str (reprD (.tup ds)))
  | .lst ds, P => reprOk (.lst ds) = true ∧ P (.str (reprD (.lst ds)))
  | .non, P => P (.str (reprD .non))
  | .str x, P => reprOk (.str x) = true ∧ P (.str (reprD (.str x)))
  | _, _ => False
def rRepr (K : PySem.W.Frag) : List V → Hp → VK → Prop := fun xs H Q => (xs = [.non] ∧ Q (.str "None") H) ∨ (∃ z, xs = [.str z] ∧ (reprText z).length ≤ sizeLine ∧ Q (.str (reprText z)) H) ∨
  ∃ a d, xs = [.ref a] ∧ Dp K H (.ref a) d ∧ d.showable = true ∧ d.hasDict = false ∧ d.depth ≤ 64 ∧ d.shown.length ≤ sizeLine ∧ Q (.str d.shown) H
theorem call_reprD {k : Nat} (hr : Room k X.A) (hgd : X.A.guards = some []) : CallR X (.builtin "repr") (rRepr X.K) := by
  intro pins s σ H xs us Q I r h
  rcases h with ⟨rfl, q⟩ | ⟨z, rfl, hz, q⟩ | ⟨a, d, rfl, hd, h1, h2, h3, h4, q⟩
  · obtain ⟨u, rfl, rx⟩ := vals1 r
    cases rx
    exact PySem.P.repr_of_none ⟨.str _, H, I.tok _, ⟨_, rfl⟩, q⟩
  · obtain ⟨u, rfl, t, rfl⟩ := vals1 r
    exact PySem.P.repr_of_str ⟨.str _, H, I.tok _, ⟨_, rfl⟩, q⟩ hz
  · obtain ⟨u, rfl, rx⟩ := vals1 r
    cases rx
    obtain ⟨as, rd⟩ := Dp.reads I d _ _ hd rfl
    have hu := hr.units0
    have hu2 := hr.un
    exact repr_of_reads' rd h1 (fun e => by rw [h2] at e; cases e) hgd (by omega) (fun _ _ e => e) (fun h' u tk kp => ⟨.str _, H, I.kept kp, ⟨_, rfl⟩, q⟩) h4
theorem ae_repr {k : Nat} (hr : Room k X.A) (hgd : X.A.guards = some []) (hg : Gl X "repr") (hm : X.mg "repr" = none) (ha : AA X w0 (e :: es) ta) (he : starEach (e :: es) X.env = (false, eval e X.env) :: starEach es X.env := by rfl) (hpl : (backTo pos (starEach es X.env)).any (·.1) = false := by rfl) : AE X w0 (.Call (.Name "repr" p) (e :: es) [] pos) (aFn (f1 gRepr) ta) :=
  ae_callB (call_reprD hr hgd) (cs1 fun w d x P Q ok dx sx h k => by
    generalize see w.own d = d' at h sx
    have gen : ∀ ds : D, reprOk ds = true → DtV X.K w ds x → P (.str (reprD ds)) → Dp X.K w.H x (toPy ds) ∧ (toPy ds).showable = true ∧ (toPy ds).hasDict = false ∧ (toPy ds).depth ≤ 64 ∧ (toPy ds).shown.length ≤ sizeLine ∧ Q (.str (toPy ds).shown) w.H := fun ds o sx h => by
      unfold reprOk at o
      simp only [Bool.and_eq_true, decide_eq_true_eq] at o
      exact ⟨dv_dp ok o.1.1.1 sx, o.1.1.2, PyData.hasDict_of_canLay _ (canLay_of o.1.1.1), o.1.2, o.2, ops_val ok k h (dt_str.mpr rfl)⟩
    match d', h, sx with
    | .non, h, sx => exact .inl ⟨by rw [dv_non.mp sx], ops_val ok k h (dt_str.mpr (by simp only [reprD, toPy, PyData.shown]))⟩
    | .str z, h, sx =>
      have g := gen _ h.1 sx h.2
      refine .inr (.inl ⟨z, by rw [dv_str.mp sx], ?_, ?_⟩)
      · have := g.2.2.2.2.1; simpa only [toPy, PyData.shown] using this
      · have := g.2.2.2.2.2; simpa only [toPy, PyData.shown] using this
    | .tup ds, h, sx =>
      have g := gen _ h.1 sx h.2
      obtain ⟨a, us, rfl, e1, e2⟩ := sx
      exact .inr (.inr ⟨a, _, rfl, g⟩)
    | .lst ds, h, sx =>
      have g := gen _ h.1 sx h.2
      obtain ⟨a, us, rfl, e1, e2⟩ := sx
      exact .inr (.inr ⟨a, _, rfl, g⟩)) hg hm (by decide +kernel) ha (by decide) (by decide) he hpl
end
end L3

namespace L3
open PySem PySem.Spec PyProof.Rows L2

/-! ### texts -/
def strsOf : List D → Option (List Str)
  | [] => some []
  | .str i :: ds => (strsOf ds).map (i :: ·)
  | _ => none
theorem strs_v {K : PySem.W.Frag} {G : Hp} : ∀ {ds : List D} {vs : List V} {ns : List Str}, Dts K G ds vs → strsOf ds = some ns → vs = ns.map V.str
  | [], _, _, h, e => by unfold Dts at h; unfold strsOf at e; cases e; exact h
  | d :: ds, vs, ns, h, e => by
    unfold Dts at h
    obtain ⟨v, vr, rfl, h1, h2⟩ := h
    cases d <;> first | (unfold strsOf at e; cases e; done) | skip
    unfold strsOf at e
    cases e2 : strsOf ds with
    | none => rw [e2] at e; cases e
    | some ms =>
      rw [e2] at e; cases e
      rw [strs_v h2 e2, dt_str.mp h1]; rfl
def gJoin (a : Str) (P : D → Prop) (ys : List Str) : Prop := (ys.map (·.length)).sum + ys.length * a.length ≤ 16777216 ∧ P (.str (Str.join a ys))
def fJoin : BinF := fun own d e P => match d, see own e with
  | .str a, .lst ds => oP (strsOf ds) (gJoin a P)
  | .str a, .tup ds => oP (strsOf ds) (gJoin a P)
  | _, _ => False
/-- o.m(e): a method of a text, one argument -/
def aM1 (f : BinF) (to te : ATE) : ATE := fun env own P => to env own fun d o1 => te env o1 fun e o2 => (∃ a, d = .str a) ∧ f o2 d e fun z => P z o2
section
variable {X : Cx} {w0 : Wd} {o e : Expr} {to te : ATE} {pos apos : Pos}
theorem m1_of {r : V → List V → Hp → VK → Prop} {f : BinF} {σ : L2.St} {H : Hp} {Q : VK} (hs : OpS X.K (fun x y H Q => r x [y] H Q) f) (hstr : ∀ own d e P, f own d e P → ∃ a, d = .str a)
    (h : concE X.K w0 (aBin f to te) σ H Q) (h0 : ∃ a, ∀ env own P, to env own P → P (.str a) own) : True := trivial
def aJoin (to te : ATE) : ATE := fun env own P => to env own fun d o1 => ∃ a, d = .str a ∧ te env o1 fun e o2 => fJoin o2 d e fun z => P z o2
theorem ae_join (ho : AE X w0 o to) (he : AE X w0 e te) (hs : starEach [e] X.env = [(false, eval e X.env)] := by rfl) (hbase : attributeBase o "join" X.env (eval o X.env) = eval o X.env := by rfl) (hline : (apos.endLine == pos.line) = true := by rfl) :
    AE X w0 (.Call (.Attribute o "join" apos) [e] [] pos) (aJoin to te) := pe_of (pe_join ho he hs hbase hline) fun σ H Q h => by
  obtain ⟨env, w, rfl, ok, tr0, er, P, h, k⟩ := h
  refine ⟨env, w, rfl, ok, tr0, er, _, h, fun d w1 x h1 t1 ok1 dx => ?_⟩
  obtain ⟨a, rfl, h1⟩ := h1
  have ex := dt_str.mp dx
  subst ex
  refine ⟨⟨a, rfl⟩, env, w1, rfl, ok1, tr0.trans t1, er.mono t1.gs, _, h1, fun e w2 y h2 t2 ok2 dy => ?_⟩
  have sy := see_ok ok2 dy
  have kk : ∀ z w' v, P z w2.own → w'.own = w2.own → Tr w2 w' → w'.Ok X.K → Dt X.K w'.G z v → Q v w'.H := fun z w' v h4 ho t4 ok4 d4 => k z w' v (by rw [ho]; exact h4) ((t1.trans t2).trans t4) ok4 d4
  cases e3 : see w2.own e with
  | lst ds =>
    unfold fJoin at h2
    simp only [e3] at h2
    rw [e3] at sy
    obtain ⟨ys, e4, h3, h5⟩ := oP_some h2
    obtain ⟨p, us, rfl, e1, e2⟩ := sy
    rw [strs_v e2 e4] at e1
    refine ⟨a, p, ys, rfl, rfl, .inl (.inl e1), h3, ?_⟩
    rw [TL.join_eq]
    exact ops_val ok2 (P := fun z => P z w2.own) kk h5 (dt_str.mpr rfl)
  | tup ds =>
    unfold fJoin at h2
    simp only [e3] at h2
    rw [e3] at sy
    obtain ⟨ys, e4, h3, h5⟩ := oP_some h2
    obtain ⟨p, us, rfl, e1, e2⟩ := sy
    rw [strs_v e2 e4] at e1
    refine ⟨a, p, ys, rfl, rfl, .inr e1, h3, ?_⟩
    rw [TL.join_eq]
    exact ops_val ok2 (P := fun z => P z w2.own) kk h5 (dt_str.mpr rfl)
  | non => unfold fJoin at h2; simp only [e3] at h2
  | bl _ => unfold fJoin at h2; simp only [e3] at h2
  | int _ => unfold fJoin at h2; simp only [e3] at h2
  | str _ => unfold fJoin at h2; simp only [e3] at h2
  | ty _ => unfold fJoin at h2; simp only [e3] at h2
  | kls _ => unfold fJoin at h2; simp only [e3] at h2
  | ref _ => unfold fJoin at h2; simp only [e3] at h2
  | dct _ => unfold fJoin at h2; simp only [e3] at h2
/-! f-strings -/
def aFmt (te : ATE) : ATE := fun env own P => te env own fun d o => match d with
  | .str y => y.length ≤ sizeLine ∧ P (.str y) o
  | .int i => i.natAbs.log2 < 1920 ∧ P (.str (toString i)) o
  | _ => False
theorem ae_fmt (he : AE X w0 e te) : AE X w0 (.FormattedValue e (-1) none pos) (aFmt te) := pe_of (pe_fmt he) fun σ H Q h => by
  obtain ⟨env, w, rfl, ok, tr0, er, P, h, k⟩ := h
  refine ⟨env, w, rfl, ok, tr0, er, _, h, fun d w1 x h1 t1 ok1 dx => ?_⟩
  match d, h1, dx with
  | .str y, h1, dx => exact .inl ⟨y, dt_str.mp dx, h1.1, k _ w1 _ h1.2 t1 ok1 (dt_str.mpr rfl)⟩
  | .int i, h1, dx => exact .inr ⟨i, dt_int.mp dx, h1.1, k _ w1 _ h1.2 t1 ok1 (dt_str.mpr rfl)⟩
def aJs : List ATE → Str → AEnv → Own → (Str → Own → Prop) → Prop
  | [], acc, _, own, P => P acc own
  | t :: ts, acc, env, own, P => t env own fun d o => match d with
    | .str y => (acc ++ y).length ≤ sizeLine ∧ aJs ts (acc ++ y) env o P
    | _ => False
inductive AJ (X : Cx) (w0 : Wd) : List Expr → List ATE → Prop where
  | nil : AJ X w0 [] []
  | cons {e : Expr} {t : ATE} {es : List Expr} {ts : List ATE} (h : AE X w0 e t) (r : AJ X w0 es ts) : AJ X w0 (e :: es) (t :: ts)
theorem AJ.pj : ∀ {es : List Expr} {ts : List ATE}, AJ X w0 es ts → PJ X es (ts.map (concE X.K w0))
  | _, _, .nil => .nil
  | _, _, .cons h r => .cons h r.pj
theorem js_of {Q : Str → Hp → Prop} {env : AEnv} {σ : L2.St} {w : Wd} : ∀ {ts : List ATE} {acc : Str} {w1 : Wd} {P : Str → Own → Prop}, w1.Ok X.K → Tr w w1 → Tr w0 w1 → EnvR X.K w1.G env σ → aJs ts acc env w1.own P →
    (∀ z (w' : Wd), P z w'.own → Tr w w' → w'.Ok X.K → Q z w'.H) → tJs (ts.map (concE X.K w0)) acc σ w1.H Q
  | [], acc, w1, P, ok1, t1, tr, er, h, k => k acc w1 h t1 ok1
  | t :: ts, acc, w1, P, ok1, t1, tr, er, h, k => by
    refine ⟨env, w1, rfl, ok1, tr, er, _, h, fun d w2 x h2 t2 ok2 dx => ?_⟩
    match d, h2, dx with
    | .str y, h2, dx => exact ⟨y, dt_str.mp dx, h2.1, js_of ok2 (t1.trans t2) (tr.trans t2) (er.mono t2.gs) h2.2 k⟩
def aJoined (ts : List ATE) : ATE := fun env own P => aJs ts Str.empty env own fun z o => P (.str z) o
theorem ae_joined {v1 v2 : Expr} {rest : List Expr} {ts : List ATE} (h : AJ X w0 (v1 :: v2 :: rest) ts) : AE X w0 (.JoinedStr (v1 :: v2 :: rest) pos) (aJoined ts) := pe_of (pe_joined h.pj) fun σ H Q h => by
  obtain ⟨env, w, rfl, ok, tr0, er, P, h, k⟩ := h
  exact js_of ok (Tr.refl w) tr0 er h fun z w' hz t' ok' => k (.str z) w' _ hz t' ok' (dt_str.mpr rfl)
theorem ae_joined1 (h : AE X w0 e te) : AE X w0 (.JoinedStr [e] pos) te := pe_joined1 h
end

/-! ### lists of one's own -/
/-- the thing is a list of one's own -/
def ownL (own : Own) (d : D) (k : Addr → List D → Prop) : Prop := ∃ p ds, d = .ref p ∧ own p = some (.lst ds) ∧ k p ds
theorem ownL_ok {K : PySem.W.Frag} {w : Wd} (ok : w.Ok K) {p : Addr} {ds : List D} (h : w.own p = some (.lst ds)) : ∃ vs, w.H p = some (.lst vs) ∧ Dts K w.G ds vs := by
  obtain ⟨_, o, e1, e2⟩ := ok.own p _ h
  cases o <;> first | exact (e2 : False).elim | skip
  exact ⟨_, e1, e2⟩
def aApp (to te : ATE) : ATE := fun env own P => to env own fun d o1 => ownL o1 d fun _ _ => te env o1 fun e o2 => ownL o2 d fun p ds => ds.length < sizeLine ∧ P .non (oset o2 p (.lst (ds ++ [e])))
def aPop (to : ATE) : ATE := fun env own P => to env own fun d o1 => ownL o1 d fun p ds => ∃ x, ds[ds.length - 1]? = some x ∧ P x (oset o1 p (.lst ds.dropLast))
theorem dts_dropLast {K : PySem.W.Frag} {G : Hp} {ds : List D} {vs : List V} (h : Dts K G ds vs) : Dts K G ds.dropLast vs.dropLast := by
  rw [List.dropLast_eq_take, List.dropLast_eq_take, h.length]; exact h.take _
section
variable {X : Cx} {w0 : Wd} {o e : Expr} {to te : ATE} {pos apos : Pos}
theorem ae_append (ho : AE X w0 o to) (he : AE X w0 e te) (hbase : attributeBase o "append" X.env (eval o X.env) = eval o X.env := by rfl)
    (hfew : ((backTo pos (starEach (e :: []) X.env)).all (fun x => !x.1) && (backToKw pos (keywordEach [] X.env)).all (fun x => x.1.isSome)
      && decide ((e :: []).length + ([] : List Keyword).length + (if ([] : List Keyword).isEmpty then 0 else 1) < 30)) = true := by rfl)
    (hline : (apos.endLine == pos.line) = true := by rfl) (hs : starEach (e :: []) X.env = (false, eval e X.env) :: starEach [] X.env := by rfl) (hplain : (backTo pos (starEach [] X.env)).any (·.1) = false := by rfl) :
    AE X w0 (.Call (.Attribute o "append" apos) [e] [] pos) (aApp to te) := pe_of (pe_bm PySem.F.plainAttrs_list PySem.F.slot_list_append PySem.F.type_list_append mt_append ho (pa_cons he pa_nil hs) hbase hfew hline hs hplain) fun σ H Q h => by
  obtain ⟨env, w, rfl, ok, tr0, er, P, h, k⟩ := h
  refine ⟨env, w, rfl, ok, tr0, er, _, h, fun d w1 x h1 t1 ok1 dx => ?_⟩
  obtain ⟨p, ds0, rfl, e1, h1⟩ := h1
  have ex := dt_ref.mp dx
  subst ex
  obtain ⟨us, a1, a2⟩ := ownL_ok ok1 e1
  refine ⟨.inl ⟨rfl, us, .of a1⟩, env, w1, rfl, ok1, tr0.trans t1, er.mono t1.gs, _, h1, fun d2 w2 y h2 t2 ok2 dy => ?_⟩
  obtain ⟨q, ds, e2, e3, hz, h3⟩ := h2
  cases e2
  obtain ⟨vs, b1, b2⟩ := ownL_ok ok2 e3
  refine ⟨p, vs, y, rfl, rfl, b1, by rw [b2.length]; exact hz, ?_⟩
  have r : MoR X.K w2.G (.lst (ds ++ [d2])) (.lst (vs ++ [y])) := b2.snoc dy
  obtain ⟨ok3, t3⟩ := ok2.mine (.inr ⟨_, e3⟩) (show SzOk (.lst (vs ++ [y])) by show (vs ++ [y]).length ≤ sizeLine; rw [List.length_append, b2.length]; exact hz) r
  exact k .non _ .non h3 ((t1.trans t2).trans t3) ok3 (dt_non.mpr rfl)
theorem ae_pop (ho : AE X w0 o to) (hbase : attributeBase o "pop" X.env (eval o X.env) = eval o X.env := by rfl) (hline : (apos.endLine == pos.line) = true := by rfl) :
    AE X w0 (.Call (.Attribute o "pop" apos) [] [] pos) (aPop to) := pe_of (pe_bm0 PySem.F.plainAttrs_list PySem.F.slot_list_pop PySem.F.type_list_pop mt_pop ho hbase hline) fun σ H Q h => by
  obtain ⟨env, w, rfl, ok, tr0, er, P, h, k⟩ := h
  refine ⟨env, w, rfl, ok, tr0, er, _, h, fun d w1 x h1 t1 ok1 dx => ?_⟩
  obtain ⟨p, ds, rfl, e1, z, e2, h1⟩ := h1
  have ex := dt_ref.mp dx
  subst ex
  obtain ⟨us, a1, a2⟩ := ownL_ok ok1 e1
  obtain ⟨v, b1, b2⟩ := a2.get e2
  refine ⟨.inl ⟨rfl, us, .of a1⟩, p, us, v, rfl, rfl, a1, by rw [a2.length]; exact b1, ?_⟩
  have r : MoR X.K w1.G (.lst ds.dropLast) (.lst us.dropLast) := dts_dropLast a2
  have hz := ok1.sz p _ a1
  obtain ⟨ok3, t3⟩ := ok1.mine (.inr ⟨_, e1⟩) (show SzOk (.lst us.dropLast) by show us.dropLast.length ≤ sizeLine; rw [List.length_dropLast]; exact Nat.le_trans (Nat.sub_le _ _) hz) r
  exact k z _ v h1 (t1.trans t3) ok3 (b2.mono t3.gs)
/-- xs[i] = .. -/
def gSubL (to ti : ATE) : ATG := fun d env own P => to env own fun x o1 => ti env o1 fun y o2 => ∃ i, y = .int i ∧ ownL o2 x fun p ds => ∃ j, ixN ds.length i = some j ∧ P env (oset o2 p (.lst (ds.set j d)))
variable {i : Expr} {ti : ATE}
theorem ag_sub {vs : List Nat} (ho : AE X w0 o to) (hi : AE X w0 i ti) (ha : ∀ v, assign (.Subscript o i pos) X.env v = (do
      let ov ← holding [v] (eval o X.env)
      let iv ← holding [v, ov] (eval i X.env)
      standAt pos
      holding [v, ov, iv] (setItem ov iv v)
      release [v, ov, iv] []) := by intro _; rfl) : AG X w0 vs (.Subscript o i pos) (gSubL to ti) := pg_of (pg_sub ho hi set_list ha) fun v σ H Q h => by
  obtain ⟨env, w, rfl, ok, tr0, er, d, P, dv, h, k⟩ := h
  refine ⟨env, w, rfl, ok, tr0, er, _, h, fun x w1 vx h1 t1 ok1 dx => ?_⟩
  refine ⟨env, w1, rfl, ok1, tr0.trans t1, er.mono t1.gs, _, h1, fun y w2 vy h2 t2 ok2 dy => ?_⟩
  obtain ⟨n, rfl, p, ds, rfl, e1, j, e2, h3⟩ := h2
  obtain ⟨us, a1, a2⟩ := ownL_ok ok2 e1
  refine ⟨p, us, n, j, dt_ref.mp dx, dt_int.mp dy, a1, by rw [a2.length]; exact e2, ?_⟩
  have T2 := t1.trans t2
  have r : MoR X.K w2.G (.lst (ds.set j d)) (.lst (us.set j v)) := Dts.set j a2 (dv.mono T2.gs)
  have hz := ok2.sz p _ a1
  obtain ⟨ok3, t3⟩ := ok2.mine (.inr ⟨_, e1⟩) (show SzOk (.lst (us.set j v)) by show (us.set j v).length ≤ sizeLine; rw [List.length_set]; exact hz) r
  exact k env _ σ h3 (T2.trans t3) ok3 ((er.mono T2.gs).mono t3.gs) (Only.refl _ _)
end

/-! ### written dicts with text keys -/
def tabV (K : PySem.W.Frag) : Option D → Option Value → Prop
  | some d, some u => ∃ v, RelV v u ∧ ∀ G, Dt K G d v
  | none, none => True
  | _, _ => False
structure KTab (K : PySem.W.Frag) (w : World) (d : Addr) (tab : Str → Option D) : Prop where
  ex : ∃ (es : Array DictEntry) (n : Nat), K.lookup d = some ⟨.type "dict", none, .dict es n, #[]⟩ ∧ PySem.W.KeysLit w.params es.toList ∧ (d == sysModules) = false ∧ ∀ z, tabV K (tab z) (findBy Value.isStrOf es z)
section
variable {X : Cx} {w0 : Wd} {d : Addr} {tab : Str → Option D}
theorem op_inTab (T : KTab X.K X.w d tab) : OpR X (compareOp .In) (fun x y H Q => ∃ z, x = .str z ∧ y = .ref d ∧ Q (.bl (tab z).isSome) H) := by
  intro pins s σ H x y v u Q I rx ry h
  obtain ⟨z, rfl, rfl, q⟩ := h
  obtain ⟨es, n, e1, e2, e3, e4⟩ := T.ex
  obtain ⟨t, rfl⟩ := rx
  cases ry
  refine wpAny_in_of (PySem.strKind_is X.prog X.w z t) e3 (PySem.W.mapOf_K (prog := X.prog) I.kIn e1 e2) ⟨.bl _, H, I.tok _, ?_, q⟩
  have h4 := e4 z
  cases a : tab z <;> cases b : findBy Value.isStrOf es z <;> rw [a, b] at h4 <;> first | rfl | exact h4.elim
theorem op_notInTab (T : KTab X.K X.w d tab) : OpR X (compareOp .NotIn) (fun x y H Q => ∃ z, x = .str z ∧ y = .ref d ∧ Q (.bl (!(tab z).isSome)) H) := by
  intro pins s σ H x y v u Q I rx ry h
  obtain ⟨z, rfl, rfl, q⟩ := h
  obtain ⟨es, n, e1, e2, e3, e4⟩ := T.ex
  obtain ⟨t, rfl⟩ := rx
  cases ry
  refine wpAny_notIn_of (PySem.strKind_is X.prog X.w z t) e3 (PySem.W.mapOf_K (prog := X.prog) I.kIn e1 e2) ⟨.bl _, H, I.tok _, ?_, q⟩
  have h4 := e4 z
  cases a : tab z <;> cases b : findBy Value.isStrOf es z <;> rw [a, b] at h4 <;> first | rfl | exact h4.elim
theorem ix_tab (T : KTab X.K X.w d tab) : IxR X (fun x y H Q => ∃ z, x = .ref d ∧ y = .str z ∧ oP (tab z) fun r => ∀ v, (∀ G, Dt X.K G r v) → Q v H) := by
  intro value slice pins s σ H x y v u Q I rx ry h hs
  obtain ⟨z, rfl, rfl, h⟩ := h
  obtain ⟨r, er, q⟩ := oP_some h
  obtain ⟨es, n, e1, e2, e3, e4⟩ := T.ex
  obtain rfl : v = Value.ref d := rx
  obtain ⟨t, rfl⟩ := ry
  have hm := PySem.W.mapOf_K (prog := X.prog) (w := X.w) I.kIn e1 e2
  have h4 := e4 z
  rw [er] at h4
  cases b : findBy Value.isStrOf es z with
  | none => rw [b] at h4; exact h4.elim
  | some u0 =>
    rw [b] at h4
    obtain ⟨v0, r0, d0⟩ := h4
    exact tail_any hm.typeIs slot_dict_getitem.lookup (wpAny_getItem_of (PySem.strKind_is X.prog X.w z t) hm b ⟨v0, H, I.tok _, r0, q v0 d0⟩) hs
theorem tab_get (T : KTab X.K X.w d tab) {pins : List (Addr × Obj)} {σ : L2.St} {H : Hp} {s : Shared} {z : Str} {t : Tok} {dv : V} {u : Value} {Q : VK} (I : Inv X pins σ H s) (ru : RelV dv u)
    (q1 : ∀ r, tab z = some r → ∀ v, (∀ G, Dt X.K G r v) → Q v H) (q2 : tab z = none → Q dv H) : wpAny (model X.prog X.w) X.A (call (.builtin "dict.get") [.ref d, .str z t, u]) (EP X pins σ Q) X.xe s := by
  obtain ⟨es, n, e1, e2, e3, e4⟩ := T.ex
  have hm := PySem.W.mapOf_K (prog := X.prog) (w := X.w) I.kIn e1 e2
  refine call_meetsIn PySem.F.slot_dict_get hm.typeIs PySem.F.entry_dict_get (PySem.F.args_dict_get_3 _ _ _) (meets_dict_get_default (strKind X.prog X.w) d (PySem.strKind_is X.prog X.w z t) e3 u) ⟨_, hm, ?_⟩
  have h4 := e4 z
  show EP X pins σ Q ((findBy Value.isStrOf es z).getD u) _
  cases a : tab z with
  | none =>
    rw [a] at h4
    cases b : findBy Value.isStrOf es z with
    | none => exact ⟨dv, H, I.tok _, ru, q2 a⟩
    | some u0 => rw [b] at h4; exact h4.elim
  | some r =>
    rw [a] at h4
    cases b : findBy Value.isStrOf es z with
    | none => rw [b] at h4; exact h4.elim
    | some u0 =>
      rw [b] at h4
      obtain ⟨v0, r0, d0⟩ := h4
      exact ⟨v0, H, I.tok _, r0, q1 r a v0 d0⟩
def fInTab (tab : Str → Option D) (d : Addr) (neg : Bool) : BinF := fun _ x y P => ∃ z, x = .str z ∧ y = .ref d ∧ P (.bl (if neg then !(tab z).isSome else (tab z).isSome))
theorem os_inTab {K : PySem.W.Frag} (neg : Bool) : OpS K (fun x y H Q => ∃ z, x = .str z ∧ y = .ref d ∧ Q (.bl (if neg then !(tab z).isSome else (tab z).isSome)) H) (fInTab tab d neg) := by
  intro w a b x y P Q ok dx dy h k
  obtain ⟨z, rfl, rfl, h⟩ := h
  exact ⟨z, dt_str.mp dx, dt_ref.mp dy, ops_val ok k h (dt_bl.mpr rfl)⟩
variable {a b : Expr} {ta tb : ATE} {pos : Pos}
theorem at_inTab (T : KTab X.K X.w d tab) (ha : AE X w0 a ta) (hb : AE X w0 b tb) (hm : behindInMarks .In b = false := by rfl) : AT X w0 (.Compare a [.In] [b] pos) (aB (aBin (fInTab tab d false) ta tb)) := at_cmp (op_inTab T) (os_inTab false) ha hb hm
theorem at_notinTab (T : KTab X.K X.w d tab) (ha : AE X w0 a ta) (hb : AE X w0 b tb) (hm : behindInMarks .NotIn b = false := by rfl) : AT X w0 (.Compare a [.NotIn] [b] pos) (aB (aBin (fInTab tab d true) ta tb)) := at_cmp (op_notInTab T) (os_inTab true) ha hb hm
def fIxTab (tab : Str → Option D) (d : Addr) : BinF := fun _ x y P => ∃ z, x = .ref d ∧ y = .str z ∧ oP (tab z) P
theorem ae_ixTab (T : KTab X.K X.w d tab) (ha : AE X w0 a ta) (hb : AE X w0 b tb) (hp : PlainIx b := by exact fun _ _ => rfl) : AE X w0 (.Subscript a b pos) (aBin (fIxTab tab d) ta tb) := ae_sub (ix_tab T) (by
  intro w x y vx vy P Q ok dx dy h k
  obtain ⟨z, rfl, rfl, h⟩ := h
  obtain ⟨r, er, h⟩ := oP_some h
  refine ⟨z, dt_ref.mp dx, dt_str.mp dy, ?_⟩
  rw [er]
  exact fun v hv => ops_val ok k h (hv _)) ha hb hp
/-- D.get(x, y) of a written dict -/
def aGetTab (tab : Str → Option D) (te tf : ATE) : ATE := fun env own P => te env own fun x o1 => tf env o1 fun y o2 => ∃ z, x = .str z ∧ P ((tab z).getD y) o2
theorem ae_getTab {x : Str} {e f : Expr} {te tf : ATE} {np apos cpos : Pos} (T : KTab X.K X.w d tab) (hg : Gl X x) (hm : X.mg x = some (.ref d)) (he : AE X w0 e te) (hf : AE X w0 f tf) (m : M2 X (.Name x np) "get" apos e f cpos := by exact ⟨rfl, rfl, rfl, rfl⟩) (hdb : (x == ("__debug__" : Str)) = false := by decide) :
    AE X w0 (.Call (.Attribute (.Name x np) "get" apos) [e, f] [] cpos) (aGetTab tab te tf) := by
  refine ⟨fun pins s σ H Q I h => ?_⟩
  obtain ⟨env, w, rfl, ok, tr0, er, P, h, k⟩ := h
  obtain ⟨es, n, e1, e2, e3, e4⟩ := T.ex
  refine wpAny_Call_method m.base m.few m.line PySem.F.plainAttrs_dict PySem.F.slot_dict_get PySem.F.type_dict_get (ld_glob I hg hm ?_ hdb)
  have hmo := PySem.W.mapOf_K (prog := X.prog) (w := X.w) I.kIn e1 e2
  refine ⟨hmo.typeIs, fun b q => ?_, ?_⟩
  · cases q; exact ⟨_, I.kIn _ _ e1, rfl⟩
  rw [m.trees]
  have A1 := he.run pins s σ w.H (fun vx H1 => ∃ (dx : D) (w1 : Wd), w1.H = H1 ∧ (tf env w1.own fun y o2 => ∃ z, dx = .str z ∧ P ((tab z).getD y) o2) ∧ Tr w w1 ∧ w1.Ok X.K ∧ Dt X.K w1.G dx vx) I
    ⟨env, w, rfl, ok, tr0, er, _, h, fun dx w1 vx h1 t1 ok1 ddx => ⟨dx, w1, rfl, h1, t1, ok1, ddx⟩⟩
  refine Calls.callWith_builtin rfl (Calls.evalArgs_plain (Calls.spliced_cons (thn A1 fun iv s2 ⟨y, H2, I2, ry, dx, w1, e5, h1, t1, ok1, ddx⟩ => ?_)))
  subst e5
  have A2 := hf.run pins s2 σ w1.H (fun vy H2 => ∃ (dy : D) (w2 : Wd), w2.H = H2 ∧ (∃ z, dx = .str z ∧ P ((tab z).getD dy) w2.own) ∧ Tr w1 w2 ∧ w2.Ok X.K ∧ Dt X.K w2.G dy vy) I2
    ⟨env, w1, rfl, ok1, tr0.trans t1, er.mono t1.gs, _, h1, fun dy w2 vy h2 t2 ok2 ddy => ⟨dy, w2, rfl, h2, t2, ok2, ddy⟩⟩
  refine Calls.spliced_cons (thn A2 fun fv s3 ⟨z, H3, I3, rz, dy, w2, e6, h2, t2, ok2, ddy⟩ => Calls.spliced_nil ?_)
  subst e6
  obtain ⟨zz, rfl, h2⟩ := h2
  have ex := dt_str.mp ddx
  subst ex
  obtain ⟨t, rfl⟩ := ry
  refine tab_get T I3 rz (fun r er v hv => ?_) fun er => ?_
  · rw [er] at h2
    exact k r w2 v h2 (t1.trans t2) ok2 (hv _)
  · rw [er] at h2
    exact k dy w2 z h2 (t1.trans t2) ok2 ddy
end
end L3

namespace L3
open PySem PySem.Spec PyProof.Rows L2
/-! ### isinstance -/
def tyN : D → Option String
  | .non => some "NoneType"
  | .bl _ => some "bool"
  | .int _ => some "int"
  | .str _ => some "str"
  | .tup _ => some "tuple"
  | .lst _ => some "list"
  | _ => none
def fIsi : CallF := fun own ds P => match ds with
  | [d, .ty n] => oP (tyN (see own d)) fun m => oP (kitB m n) fun b => P (.bl b)
  | _ => False
theorem tyX_of {K : PySem.W.Frag} {w : Wd} {d : D} {v : V} {m : String} (h : DtV K w d v) (e : tyN d = some m) : TyX K w.H v (.type m) := by
  cases d <;> unfold tyN at e <;> cases e
  case non => have h' : Dt K w.G .non v := h; unfold Dt at h'; subst h'; exact .base .non
  case bl => have h' : Dt K w.G (.bl _) v := h; unfold Dt at h'; subst h'; exact .base (.bl _)
  case int => have h' : Dt K w.G (.int _) v := h; unfold Dt at h'; subst h'; exact .base (.int _)
  case str => have h' : Dt K w.G (.str _) v := h; unfold Dt at h'; subst h'; exact .base (.str _)
  case tup =>
    obtain ⟨a, vs, rfl, e2, _⟩ := h
    rcases e2 with (e2 | ⟨o, e2⟩) | ⟨o, its, n, e1, e2, _⟩
    · exact .base (.tup e2)
    · exact .fTuple e2
    · exact .kTuple e1 e2
  case lst =>
    obtain ⟨a, vs, rfl, e2, _⟩ := h
    rcases e2 with e2 | ⟨o, e2⟩
    · exact .base (.lst e2)
    · exact .base (.frz e2)
theorem cs_isi {K : PySem.W.Frag} : CallS K (rIsi K) fIsi := by
  intro w ds xs P Q ok dv h k
  unfold fIsi at h
  split at h
  · rename_i d n
    obtain ⟨v, u, rfl, d1, d2⟩ := dts_two dv
    obtain ⟨m, e1, h⟩ := oP_some h
    obtain ⟨b, e2, h⟩ := oP_some h
    have d2' := dt_ty.mp d2
    subst d2'
    exact ⟨v, .ty n, .type m, .type n, b, rfl, .ty n, tyX_of (see_ok ok d1) e1, kit_ty e2, k _ w _ h rfl (Tr.refl w) ok (by unfold Dt; rfl)⟩
  · exact h.elim
section
variable {X : Cx} {w0 : Wd} {e : Expr} {es : List Expr} {ta : ATA} {x : Str} {p pos : Pos}
theorem ae_ty (n : String) (hg : Gl X x) (hm : X.mg x = none) (hv : bootBuiltins x = some (.type n)) (hn : x ≠ "__name__" := by decide) (hd : (x == ("__debug__" : Str)) = false := by decide) : AE X w0 (.Name x p) (aC (.ty n)) := pe_of (pe_bltn (v := .ty n) hg hm hv rfl hn hd) fun σ H Q h => by
  obtain ⟨env, w, rfl, ok, tr0, er, P, h, k⟩ := h
  exact k _ w _ h (Tr.refl w) ok (by unfold Dt; rfl)
theorem ae_isi (hg : Gl X "isinstance") (hm : X.mg "isinstance" = none) (ha : AA X w0 (e :: es) ta) (he : starEach (e :: es) X.env = (false, eval e X.env) :: starEach es X.env := by rfl) (hpl : (backTo pos (starEach es X.env)).any (·.1) = false := by rfl) : AE X w0 (.Call (.Name "isinstance" p) (e :: es) [] pos) (aFn fIsi ta) :=
  ae_callB call_isi cs_isi hg hm rfl ha (he := he) (hpl := hpl)
end
/-! ### calls with keywords -/
section
variable {X : Cx} {w0 : Wd} {e : Expr} {kws : List Keyword} {nm : Option Str} {kpos : Pos} {te : ATE} {tr : ATA}
abbrev AK (X : Cx) (w0 : Wd) (kws : List Keyword) (t : ATA) : Prop := PK X kws (concA X.K w0 t)
theorem ak_nil : AK X w0 [] aNil := ⟨fun pos pins s σ H Q I h => pk_nil.run pos pins s σ H Q I (by
  obtain ⟨env, w, rfl, ok, tr0, er, P, h, k⟩ := h
  exact k [] w [] h (Tr.refl w) ok .nil)⟩
theorem ak_cons (ha : AE X w0 e te) (hr : AK X w0 kws tr) : AK X w0 (⟨nm, e, kpos⟩ :: kws) (aCons te tr) := ⟨fun pos pins s σ H Q I h => (pk_cons ha hr).run pos pins s σ H Q I (by
  obtain ⟨env, w, rfl, ok, tr0, er, P, h, k⟩ := h
  refine ⟨env, w, rfl, ok, tr0, er, _, h, fun d w1 x h1 t1 ok1 dx => ?_⟩
  exact ⟨env, w1, rfl, ok1, tr0.trans t1, er.mono t1.gs, _, h1, fun ds w2 vs h2 t2 ok2 dv => k (d :: ds) w2 (x :: vs) h2 (t1.trans t2) ok2 (.cons (dx.mono t2.gs) dv)⟩)⟩
end
/-- the def of this name keeps its promise, called with keywords ks behind n values -/
structure KnK (P : Program) (w : World) (K : PySem.W.Frag) (mg : Str → Option Value) (base : Heap) (k : Nat) (x : Str) (ps : List Str) (n : Nat) (ks : List Str) (S : Spec) : Prop where
  ex : ∃ (f : Addr) (fd : FuncData), mg x = some (.ref f) ∧ PySem.W.keepIn K (.ref f) = true ∧ n + ks.length = ps.length ∧ (∀ (s : Shared) (us ws : List Value), us.length = n → ws.length = ks.length → BindsTo s fd ⟨us, ks.zip ws⟩ (ps.zip (us ++ ws))) ∧ FnG P w K mg base CX0 k f fd ps (spOf K S)
theorem KnK.mono {P : Program} {w : World} {K : PySem.W.Frag} {mg : Str → Option Value} {base : Heap} {k j : Nat} {x : Str} {ps : List Str} {n : Nat} {ks : List Str} {S : Spec} (F : KnK P w K mg base j x ps n ks S) (h : j ≤ k) : KnK P w K mg base k x ps n ks S :=
  let ⟨f, fd, a, b, c, d, g⟩ := F.ex
  ⟨f, fd, a, b, c, d, g.mono h⟩
def aCallK (S : Spec) (n m : Nat) (ta tk : ATA) : ATE := fun env own P => ta env own fun ds o => tk env o fun zs o2 => ds.length = n ∧ zs.length = m ∧ S (ds ++ zs) o2 P
section
variable {X : Cx} {w0 : Wd} {k n m : Nat} {x : Str} {ps ks : List Str} {S : Spec} {e : Expr} {es : List Expr} {kws : List Keyword} {ta tk : ATA} {p pos : Pos}
theorem runK {pins : List (Addr × Obj)} {σ : L2.St} {H : Hp} {s : Shared} {Q : VK} {us ws : List Value} {vs zs : List V} {f : Addr} {fd : FuncData} {sp : Sp} (F : FnG X.prog X.w X.K X.mg X.base CX0 k f fd ps sp) (hr : Room k X.A) (hgd : X.A.guards = some [])
    (hb : BindsTo s fd ⟨us, ks.zip ws⟩ (ps.zip (us ++ ws))) (I : Inv X pins σ H s) (r : Vals vs us) (rz : Vals zs ws) (h : sp (vs ++ zs) H Q E0) : wpAny (model X.prog X.w) X.A (call (.ref f) us (ks.zip ws)) (EP X pins σ Q) X.xe s := by
  refine wpAny_call (codeAny_mono (F.run X.A X.stack s H _ (us ++ ws) (vs ++ zs) Q E0 hr hgd I.env0 hb (r.append rz) h) fun y s' hq => ?_)
  match y, hq with
  | .error e, hq => exact pass0 pins σ H s e s' I hq
  | .ok (.ret u), hq => exact I.after hq
/-- f(e, .., k = v, ..) -/
theorem ae_callK (F : KnK X.prog X.w X.K X.mg X.base k x ps n ks S) (hr : Room k X.A) (hgd : X.A.guards = some []) (hg : Gl X x) (ha : AA X w0 (e :: es) ta) (hkw : AK X w0 kws tk) (hks : (backToKw pos (keywordEach kws X.env)).filterMap (·.1) = ks := by rfl)
    (hall : (backToKw pos (keywordEach kws X.env)).all (·.1.isSome) = true := by rfl) (hm : ks.length = m := by rfl)
    (hdb : (x == ("__debug__" : Str)) = false := by decide) (he : starEach (e :: es) X.env = (false, eval e X.env) :: starEach es X.env := by rfl)
    (hpl : ((backTo pos (starEach (e :: es) X.env)).any (·.1) || (backToKw pos (keywordEach kws X.env)).any (·.1.isNone)) = false := by rfl) :
    AE X w0 (.Call (.Name x p) (e :: es) kws pos) (aCallK S n m ta tk) := by
  subst hm
  obtain ⟨f, fd, hm, hk, hn, hb, G⟩ := F.ex
  refine ⟨fun pins s σ H Q I h => ?_⟩
  obtain ⟨env, w, rfl, ok, tr0, er, P, h, kk⟩ := h
  refine wpAny_Call_Name_kw (ld_glob I hg hm ?_ hdb)
  refine PySem.W.callWith_KW (h₀ := X.base) I.ok.mod.kin hk hall (thn (ha.run pos pins s σ w.H (fun vs H1 => concA X.K w0 tk σ H1 fun zs H2 => vs.length = n ∧ zs.length = ks.length ∧ spOf X.K S (vs ++ zs) H2 Q E0) I ⟨env, w, rfl, ok, tr0, er, _, h, fun ds w1 vs h1 t1 ok1 dv => ?_⟩) fun us s1 ⟨vs, H1, I1, r, q⟩ => ?_) hpl he
  · refine ⟨env, w1, rfl, ok1, tr0.trans t1, er.mono t1.gs, _, h1, fun zs w2 us h2 t2 ok2 dz => ⟨by rw [dv.length]; exact h2.1, by rw [dz.length]; exact h2.2.1, ds ++ zs, w2, P, rfl, ok2, (dv.mono t2.gs).append dz, h2.2.2, fun d w3 v h3 t3 ok3 d3 => kk d w3 v h3 ((t1.trans t2).trans t3) ok3 d3⟩⟩
  · refine thn (hkw.run pos pins s1 σ H1 _ I1 q) fun ws s2 ⟨zs, H2, I2, rz, l1, l2, q2⟩ => ⟨I2.kIn, ?_⟩
    rw [hks]
    exact runK G hr hgd (hb s2 us ws (r.length.symm.trans l1) (rz.length.symm.trans l2)) I2 r rz q2
/-- f(k = v, ..) -/
theorem ae_callK0 (F : KnK X.prog X.w X.K X.mg X.base k x ps 0 ks S) (hr : Room k X.A) (hgd : X.A.guards = some []) (hg : Gl X x) (hkw : AK X w0 kws tk) (hks : (backToKw pos (keywordEach kws X.env)).filterMap (·.1) = ks := by rfl)
    (hall : (backToKw pos (keywordEach kws X.env)).all (·.1.isSome) = true := by rfl)
    (hdb : (x == ("__debug__" : Str)) = false := by decide)
    (hpl : ((backTo pos (starEach [] X.env)).any (·.1) || (backToKw pos (keywordEach kws X.env)).any (·.1.isNone)) = false := by rfl) :
    AE X w0 (.Call (.Name x p) [] kws pos) (aCall S [] tk) := by
  obtain ⟨f, fd, hm, hk, hn, hb, G⟩ := F.ex
  refine ⟨fun pins s σ H Q I h => ?_⟩
  obtain ⟨env, w, rfl, ok, tr0, er, P, h, kk⟩ := h
  refine wpAny_Call_Name_kw (ld_glob I hg hm ?_ hdb)
  refine PySem.W.callWith_KW0 (h₀ := X.base) I.ok.mod.kin hk hall (thn (hkw.run pos pins s σ w.H (fun zs H2 => zs.length = ks.length ∧ spOf X.K S ([] ++ zs) H2 Q E0) I ⟨env, w, rfl, ok, tr0, er, _, h, fun zs w2 us h2 t2 ok2 dz => ?_⟩) fun ws s2 ⟨zs, H2, I2, rz, l2, q2⟩ => ⟨I2.kIn, ?_⟩) hpl
  · have hs : spOf X.K S us w2.H Q E0 := ⟨zs ++ [], w2, P, rfl, ok2, by rw [List.append_nil]; exact dz, h2, fun d w3 v h3 t3 ok3 d3 => kk d w3 v h3 (t2.trans t3) ok3 d3⟩
    refine ⟨?_, hs⟩
    have := G.len _ _ _ _ hs
    omega
  · rw [hks]
    exact runK (us := []) (vs := []) G hr hgd (hb s2 [] ws rfl (rz.length.symm.trans l2)) I2 .nil rz q2
end
/-! ### the law's own head -/
theorem dts_script {K : PySem.W.Frag} {G : Hp} : ∀ (ns : List Int), Dts K G (ns.map D.int) (ns.map V.int)
  | [] => .nil
  | i :: ns => .cons (by unfold Dt; rfl) (dts_script ns)
theorem law_callG {P : Program} {w : World} {K : PySem.W.Frag} {mg mb : Str → Option Value} {k : Nat} {fa a : Addr} {fd : FuncData} {x : Str} {S : Spec} {s₁ : Shared} {vs : List Value} {ns : List Int}
    (KX : K.In s₁.heap) (hns : s₁.heap.Ns mainGlobals mg) (hb : s₁.heap.Ns builtinsNs mb) (hbb : ∀ x : Str, x ≠ "__name__" → mb x = bootBuiltins x) (hlim : s₁.heap.NoLimit) (hg : s₁.gens = #[])
    (ha : s₁.heap.get? a = some { cls := .type "list", data := .seq vs.toArray }) (hi : IntsAre vs ns) (hl : ns.length ≤ sizeLine) (hr : Room k callerA)
    (F : ∀ base : Heap, K.In base → base.Ns mainGlobals mg → FnG P w K mg base CX0 k fa fd [x] (spOf K S)) (hbind : ∀ (s : Shared) (u : Value), BindsTo s fd ⟨[u], []⟩ [(x, u)])
    (hS : S [.kls (ns.map D.int)] (fun _ => none) fun d _ => d = .bl true) :
    codeAny (model P w) callerA (.call (.ref fa) ⟨[.ref a], []⟩) (fun r s' => r = .ok (.ret (.bool true)) ∧ OldK s₁.heap s'.heap ∧ s'.os = s₁.os ∧ AllBare s'.gens) s₁ := by
  have rv := vals_ints hi
  have lenV := hi.length
  have main : ∀ H : Hp, (∀ b u, H b = some u → b = a ∧ K.lookup a = none ∧ u = .frz { cls := .type "list", data := .seq vs.toArray } (.lst (ns.map V.int))) → SqL K H a (ns.map V.int) →
      codeAny (model P w) callerA (.call (.ref fa) ⟨[.ref a], []⟩) (fun r s' => r = .ok (.ret (.bool true)) ∧ OldK s₁.heap s'.heap ∧ s'.os = s₁.os ∧ AllBare s'.gens) s₁ := by
    intro H hH hq
    have hok : HOk P w H s₁.heap := fun b u e => by
      obtain ⟨rfl, _, rfl⟩ := hH b u e
      exact ⟨ha, by rw [List.length_map]; exact hl, vs, _, rv, ha⟩
    have no : ∀ {b : Addr} {o : Obj}, s₁.heap.get? b = some o → (b = a → K.lookup a = none → False) → (hidT s₁.heap H).get? b = some o := fun {b o} e n => hidT_get e (by
      cases q : H b with
      | none => rfl
      | some u => obtain ⟨z1, z2, _⟩ := hH b u q; exact (n z1 z2).elim)
    have nsK : ∀ {b : Addr} {m : Str → Option Value}, s₁.heap.Ns b m → (hidT s₁.heap H).Ns b m := fun {b m} ⟨o, es, ep, e, d, r⟩ => ⟨o, es, ep, no e (fun z _ => by
      subst z; rw [ha] at e; cases e
      have d' : Data.seq vs.toArray _ = Data.dict es ep := d
      cases d'), d, r⟩
    have hKb : K.In (hidT s₁.heap H) := fun b o e => no (KX b o e) fun z z2 => by rw [z, z2] at e; cases e
    have e0 : Env0 P w K mg (hidT s₁.heap H) callerA [] s₁ H := ⟨rfl, ⟨hKb, nsK hns, ⟨mb, nsK hb, hbb⟩, let ⟨mc, h1, h2⟩ := hlim; ⟨mc, nsK h1, h2⟩⟩, fun b o e => of_hidT e, Nat.le_of_eq (hidT_size _ _), trivial, fun b hb => absurd (show b ∈ ([] : List Addr) from hb) (by simp), hok, .of_eq hg⟩
    let W : Wd := ⟨fun _ => none, H, H⟩
    have okW : W.Ok K := ⟨Sub.refl _, fun p m e => (by cases (show (none : Option MO) = some m from e)), fun b u e => by
      obtain ⟨_, _, rfl⟩ := hH b u e
      show (ns.map V.int).length ≤ sizeLine
      rw [List.length_map]; exact hl⟩
    have sp : spOf K S [.ref a] H (fun v _ => v = .bl true) E0 := ⟨[.kls (ns.map D.int)], W, _, rfl, okW, .cons (by unfold Dt; exact ⟨a, _, rfl, hq, dts_script ns⟩) .nil, hS, fun d w' v hd _ _ dv => by subst hd; exact dt_bl.mp dv⟩
    refine codeAny_mono ((F _ hKb (nsK hns)).run callerA [] s₁ H ⟨[.ref a], []⟩ [.ref a] [.ref a] _ _ hr rfl e0 (hbind s₁ (.ref a)) (.cons rfl .nil) sp) fun r s' h => ?_
    match r, h with
    | .error e, h => exact (h : False).elim
    | .ok (.ret u), h =>
      obtain ⟨v, H', os, bare, un, hok', r', q⟩ := h
      have q' : v = .bl true := q
      subst q'
      obtain rfl : u = Value.bool true := r'
      refine ⟨rfl, OldK.of_keep fun b o e => ?_, os, bare⟩
      cases q : H b with
      | none => exact un.keep b o e q (fun z => absurd (show b ∈ ([] : List Addr) from z) (by simp)) (by simp)
      | some u =>
        obtain ⟨rfl, _, rfl⟩ := hH b u q
        have z2 := un.frzs b _ _ q
        obtain ⟨e2, _⟩ := hok' b _ z2
        rw [ha] at e; cases e
        exact e2
  cases hk : K.lookup a with
  | some o =>
    have e := KX a o hk
    rw [ha] at e
    cases e
    exact main (fun _ => none) (fun b u z => (by cases (show (none : Option HO) = some u from z))) (.inr ⟨_, vs.toArray, _, hk, rfl, rfl, rfl, by rw [List.size_toArray, lenV]; exact hl, by simpa using rv⟩)
  | none =>
    refine main (fun b => if b = a then some (.frz { cls := .type "list", data := .seq vs.toArray } (.lst (ns.map V.int))) else none) (fun b u z => ?_) (.inl (.inr ⟨{ cls := .type "list", data := .seq vs.toArray }, if_pos rfl⟩))
    by_cases hb : b = a
    · have z' := (if_pos hb).symm.trans z
      cases z'
      exact ⟨hb, hk, rfl⟩
    · exact absurd ((if_neg hb).symm.trans z) (by simp)
/-- the law's def: it answers True at every script of so many ints -/
def spLaw (n : Nat) : Spec := fun ds own P => ∃ ns : List Int, ds = [.kls (ns.map D.int)] ∧ ns.length ≤ n ∧ own = (fun _ => none) ∧ ∀ d o, d = .bl true → P d o
theorem walkG {l : PySem.W.OpenLaw} {n k : Nat} {q : Program} {loose : List Str} {XP : (Str → Option Value) → Heap → Prop} {YP : World → Heap → Prop} {d : DefRec} {K : Params → PySem.W.Frag} {x : Str}
    (hn : l.most = some n) (hn2 : n ≤ sizeLine) (hdf : d.params.defaults = []) (hr : Room k callerA)
    (hY : ∀ (w : World) (h : Heap), YP w h → (K w.params).In h)
    (F : ∀ (w : World) (mg : Str → Option Value) (fa : Addr) (h : Heap), (K w.params).In h → h.Ns mainGlobals mg → mg d.name = some (.ref fa) →
      ∃ fd : FuncData, (∀ (s : Shared) (u : Value), BindsTo s fd ⟨[u], []⟩ [(x, u)]) ∧
        ∀ base : Heap, (K w.params).In base → base.Ns mainGlobals mg → FnG l.prog w (K w.params) mg base CX0 k fa fd [x] (spOf (K w.params) (spLaw n))) :
    PySem.W.WalkO q loose XP YP l.row.toRowW d [] (fun f vs => PySem.call f vs) := by
  refine Att.attach_call hn hdf fun w s₀ s₁ mg mb fa o pm cd doc a vs ns G Y ho hd hcd hmg hobj hints hlen hg => ?_
  obtain ⟨fd, hb, hF⟩ := F w mg fa _ (hY w _ Y) G.T.g hmg
  exact law_callG (hY w _ Y) G.T.g G.T.b G.T.builtins G.T.nolimit hg hobj hints (Nat.le_trans hlen hn2) hr hF hb ⟨ns, rfl, hlen, rfl, fun _ _ h => h⟩
end L3

namespace L3
open PySem PySem.Spec PyProof.Rows L2
/-! ### a dict that is written down in a def: texts by texts; its items -/
def sTab (kv : List (Str × Str)) : List (Key × V) := kv.map fun p => (.inr p.1, .str p.2)
def dTab (kv : List (Str × Str)) : List (D × D) := kv.map fun p => (.str p.1, .str p.2)
def tTab (kv : List (Str × Str)) : List (TE × TE) := kv.map fun p => (tC (.str p.1), tC (.str p.2))
def lookT : List (Str × Str) → Str → Option Str
  | [], _ => none
  | (k, v) :: r, z => if k = z then some v else lookT r z
theorem tPairs_tab {σ : L2.St} {H : Hp} : ∀ (kv : List (Str × Str)) {Q : List (V × V) → Hp → Prop}, Q (kv.map fun p => (V.str p.1, V.str p.2)) H → tPairs (tTab kv) σ H Q
  | [], _, h => h
  | (k, v) :: r, Q, h => tPairs_tab r (Q := fun ps H3 => Q ((V.str k, V.str v) :: ps) H3) h
theorem dkK_tab {K : PySem.W.Frag} {G : Hp} : ∀ (kv : List (Str × Str)), DkK K G (dTab kv) (sTab kv)
  | [] => by unfold dTab sTab DkK; rfl
  | (k, v) :: r => by
    show DkK K G ((.str k, .str v) :: dTab r) ((.inr k, .str v) :: sTab r)
    unfold DkK
    exact ⟨_, _, _, rfl, rfl, (by unfold Dt; rfl), dkK_tab r⟩
section
variable {X : Cx} {w0 : Wd} {a b : Expr} {ta tb : ATE} {pos : Pos} {keys : List (Option Expr)} {values : List Expr}
theorem ae_dlit (kv : List (Str × Str)) (h : PPs X pos keys values (tTab kv)) (hm : mergeK [] (sTab kv) = sTab kv := by rfl) (hall : keys.all (·.isSome) = true := by rfl) (hl : keys.length = values.length := by rfl) (h0 : keys ≠ [] := by exact fun z => nomatch z)
    (h15 : keys.length ≤ 15 := by decide) (hk : kv.length ≤ 15 := by decide) : AE X w0 (.Dict keys values pos) (aC (.dct (dTab kv))) := pe_of (pe_disp h hall hl h0 h15) fun σ H Q h => by
  obtain ⟨env, w, rfl, ok, tr0, er, P, h, k⟩ := h
  intro p hp
  refine tPairs_tab kv ⟨upd_same, sTab kv, ?_, by unfold sTab; rw [List.length_map]; exact hk, ?_⟩
  · unfold sTab; rw [List.map_map]; rfl
  · rw [hm]
    obtain ⟨ok', t⟩ := ok.frz (o := .dK (sTab kv)) hp True.intro
    have e : upd (upd w.H p (.dK [])) p (.dK (sTab kv)) = (w.frz p (.dK (sTab kv))).H := by
      funext q
      show upd (upd w.H p (.dK [])) p (.dK (sTab kv)) q = upd w.H p (.dK (sTab kv)) q
      by_cases z : q = p
      · subst z; rw [upd_same, upd_same]
      · rw [upd_ne z, upd_ne z, upd_ne z]
    rw [e]
    exact k _ _ _ h t ok' (by unfold Dt; exact ⟨p, rfl, .inl ⟨_, upd_same, dkK_tab kv⟩⟩)
def fIxD (kv : List (Str × Str)) : BinF := fun own d e P => d = .dct (dTab kv) ∧ ∃ z, e = .str z ∧ oP (lookT kv z) fun r => P (.str r)
theorem valV_tab {z r : Str} : ∀ {kv : List (Str × Str)} {es : List (Key × V)} {K : PySem.W.Frag} {G : Hp}, DkK K G (dTab kv) es → lookT kv z = some r → valV es (.inr z : Key) = some (.str r)
  | [], _, _, _, _, h => by unfold lookT at h; cases h
  | (k, v) :: t, es, K, G, d, h => by
    have d' : DkK K G ((.str k, .str v) :: dTab t) es := d
    unfold DkK at d'
    obtain ⟨x, u, er, rfl, e1, e2, e3⟩ := d'
    have ex : x = .inr k := by
      cases x with
      | inl i => cases e1
      | inr y => cases e1; rfl
    subst ex
    unfold Dt at e2; subst e2
    unfold lookT at h
    by_cases q : k = z
    · subst q; rw [if_pos rfl] at h; cases h; exact valV_pos rfl
    · rw [if_neg q] at h
      rw [valV_neg (fun z' => q (by cases z'; rfl))]
      exact valV_tab e3 h
theorem ae_ixD {k : Nat} (kv : List (Str × Str)) (hr : Room k X.A) (ha : AE X w0 a ta) (hb : AE X w0 b tb) (hs : NoSl b := by exact fun _ _ => rfl) : AE X w0 (.Subscript a b pos) (aBin (fIxD kv) ta tb) := pe_of (pe_dget (by have := hr.units; omega) ha hb hs) fun σ H Q h => by
  obtain ⟨env, w, rfl, ok, tr0, er, P, h, kk⟩ := h
  refine ⟨env, w, rfl, ok, tr0, er, _, h, fun d w1 x h1 t1 ok1 dx => ?_⟩
  refine ⟨env, w1, rfl, ok1, tr0.trans t1, er.mono t1.gs, _, h1, fun e w2 y h2 t2 ok2 dy => ?_⟩
  obtain ⟨rfl, z, rfl, h2⟩ := h2
  obtain ⟨r, e1, h2⟩ := oP_some h2
  have dx' := dx.mono t2.gs
  unfold Dt at dx'
  have dy' := dt_str.mp dy
  subst dy'
  obtain ⟨p, rfl, ⟨es, g, dk⟩ | ⟨es, g, dk⟩⟩ := dx'
  · refine ⟨p, .str r, rfl, ?_, kk _ w2 _ h2 (t1.trans t2) ok2 (by unfold Dt; rfl)⟩
    have := DGet.k (H := w2.H) (k := (.inr z : Key)) (ok2.sub p _ g)
    rw [valV_tab dk e1] at this
    exact this
  · cases kv with
    | nil => unfold lookT at e1; cases e1
    | cons q t =>
      have dk' : DkT X.K w2.G ((.str q.1, .str q.2) :: dTab t) es := dk
      unfold DkT at dk'
      obtain ⟨x, u, er, _, e1, _⟩ := dk'
      cases e1
end
end L3

namespace L3
open PySem PySem.Spec PyProof.Rows L2
/-! ### the readings, as simp takes them apart -/
section
variable {env : AEnv} {own : Own} {E : AEnds} {t u tl th : ATE} {ta : ATA} {i j n : Nat} {P : D → Own → Prop} {c c2 : ATT} {s1 s2 : ATS}
@[simp] theorem x_eg0 {x : Option D} {r : AEnv} : eg (x :: r) 0 = x := (rfl)
@[simp] theorem x_egS {x : Option D} {r : AEnv} : eg (x :: r) (i + 1) = eg r i := (rfl)
@[simp] theorem x_v : aV i env own P = (match eg env i with | some d => P d own | none => False) := (rfl)
@[simp] theorem x_c {d : D} : aC d env own P = P d own := (rfl)
@[simp] theorem x_bin {f : BinF} : aBin f t u env own P = t env own fun d o1 => u env o1 fun e o2 => f o2 d e fun z => P z o2 := (rfl)
@[simp] theorem x_un {f : UnF} : aUn f t env own P = t env own fun d o1 => f o1 d fun z => P z o1 := (rfl)
@[simp] theorem x_fn {f : CallF} : aFn f ta env own P = ta env own fun ds o1 => f o1 ds fun z => P z o1 := (rfl)
@[simp] theorem x_B {Q : Bool → Own → Prop} : aB t env own Q = t env own fun d o => match d with | .bl b => Q b o | _ => False := (rfl)
@[simp] theorem x_nil {Q : List D → Own → Prop} : aNil env own Q = Q [] own := (rfl)
@[simp] theorem x_cons {Q : List D → Own → Prop} : aCons t ta env own Q = t env own fun d o => ta env o fun ds o2 => Q (d :: ds) o2 := (rfl)
@[simp] theorem x_tup : aTup ta env own P = ta env own fun ds o => ds.length ≤ sizeLine ∧ P (.tup ds) o := (rfl)
@[simp] theorem x_lst {Q : List D → Own → Prop} : aLst ta env own Q = ta env own fun ds o => ds.length ≤ sizeLine ∧ Q ds o := (rfl)
@[simp] theorem x_fz {tn : ATN} : aFz tn env own P = tn env own fun ds o => P (.lst ds) o := (rfl)
@[simp] theorem x_ow {tn : ATN} : aOw tn env own P = tn env own fun ds o => ∀ p, o p = none → P (.ref p) (oset o p (.lst ds)) := (rfl)
@[simp] theorem x_if : aIf c t u env own P = c env own fun b o => match b with | true => t env o P | false => u env o P := (rfl)
@[simp] theorem x_ifS : aIfS c s1 s2 E env own = c env own fun b o => match b with | true => s1 E env o | false => s2 E env o := (rfl)
@[simp] theorem x_seq : aSeq s1 s2 E env own = s1 { E with nx := s2 E } env own := (rfl)
@[simp] theorem x_next : aNext E env own = E.nx env own := (rfl)
@[simp] theorem x_brk : aBreak E env own = E.bk env own := (rfl)
@[simp] theorem x_cont : aCont E env own = E.ct env own := (rfl)
@[simp] theorem x_drop : aDrop t E env own = t env own fun _ o => E.nx env o := (rfl)
@[simp] theorem x_ret : aRet t E env own = t env own E.rt := (rfl)
@[simp] theorem x_retN : aRetN E env own = E.rt .non own := (rfl)
@[simp] theorem x_asg {g : ATG} : aAsg t g E env own = t env own fun d o => g d env o E.nx := (rfl)
@[simp] theorem x_gN {d : D} {Q : AEnv → Own → Prop} : gN i d env own Q = Q (env.set i (some d)) own := (rfl)
@[simp] theorem x_and {Q : Bool → Own → Prop} : aAnd c c2 env own Q = c env own fun b o => match b with | true => c2 env o Q | false => Q false o := (rfl)
@[simp] theorem x_or {Q : Bool → Own → Prop} : aOr c c2 env own Q = c env own fun b o => match b with | true => Q true o | false => c2 env o Q := (rfl)
@[simp] theorem x_not {Q : Bool → Own → Prop} : aNot c env own Q = c env own fun b o => Q (!b) o := (rfl)
@[simp] theorem x_call {S : L3.Spec} {dvs : List D} : aCall S dvs ta env own P = ta env own fun ds o => S (ds ++ dvs) o P := (rfl)
@[simp] theorem x_callK {S : L3.Spec} {tk : ATA} : aCallK S n i ta tk env own P = ta env own fun ds o => tk env o fun zs o2 => ds.length = n ∧ zs.length = i ∧ S (ds ++ zs) o2 P := (rfl)
@[simp] theorem x_no {Q : Option Int → Own → Prop} : aNo env own Q = Q none own := (rfl)
@[simp] theorem x_so {Q : Option Int → Own → Prop} : aSo t env own Q = t env own fun d o => match d with | .int i => Q (some i) o | _ => False := (rfl)
@[simp] theorem x_sl {l h : ATO} : aSl t l h env own P = t env own fun d o1 => l env o1 fun lo o2 => h env o2 fun hi o3 => fSl0 lo hi (see o3 d) fun z => P z o3 := (rfl)
@[simp] theorem x_fmt : aFmt t env own P = t env own fun d o => match d with | .str y => y.length ≤ sizeLine ∧ P (.str y) o | .int i => i.natAbs.log2 < 1920 ∧ P (.str (toString i)) o | _ => False := (rfl)
@[simp] theorem x_seeI {i : Int} : see own (.int i) = .int i := (rfl)
@[simp] theorem x_seeS {x : Str} : see own (.str x) = .str x := (rfl)
@[simp] theorem x_seeT {x : List D} : see own (.tup x) = .tup x := (rfl)
@[simp] theorem x_seeL {x : List D} : see own (.lst x) = .lst x := (rfl)
@[simp] theorem x_seeK {x : List D} : see own (.kls x) = .kls x := (rfl)
@[simp] theorem x_seeB {x : Bool} : see own (.bl x) = .bl x := (rfl)
@[simp] theorem x_seeN : see own .non = .non := (rfl)
theorem x_seeR {p : Addr} {ds : List D} (h : own p = some (.lst ds)) : see own (.ref p) = .lst ds := by simp only [see, h]
@[simp] theorem x_II {C : Int → Int → Prop} {g : Int → Int → D} {i j : Int} {Q : D → Prop} : fII C g own (.int i) (.int j) Q = (C i j ∧ Q (g i j)) := (rfl)
@[simp] theorem x_ix {d e : D} {Q : D → Prop} : fIx own d e Q = fIx0 (see own d) (see own e) Q := (rfl)
@[simp] theorem x_ixL {ds : List D} {i : Int} {Q : D → Prop} : fIx0 (.lst ds) (.int i) Q = oP (atI ds i) Q := (rfl)
@[simp] theorem x_ixT {ds : List D} {i : Int} {Q : D → Prop} : fIx0 (.tup ds) (.int i) Q = oP (atI ds i) Q := (rfl)
@[simp] theorem x_ixS {z : Str} {i : Int} {Q : D → Prop} : fIx0 (.str z) (.int i) Q = (z.length ≤ sizeLine ∧ oP (atI z.cps.toList i) fun c => Q (.str ⟨#[c]⟩)) := (rfl)
@[simp] theorem x_at0 {α : Type} {a : α} {l : List α} : atI (a :: l) 0 = some a := by simp [atI, ixN]
@[simp] theorem x_at1 {α : Type} {a b : α} {l : List α} : atI (a :: b :: l) 1 = some b := by
  have : (1 : Int) < (l.length : Int) + 1 + 1 := by omega
  simp [atI, ixN, this]
@[simp] theorem x_at2 {α : Type} {a b c : α} {l : List α} : atI (a :: b :: c :: l) 2 = some c := by
  have : (2 : Int) < (l.length : Int) + 1 + 1 + 1 := by omega
  simp [atI, ixN, this]
theorem x_atN {α : Type} {l : List α} {i : Int} (h0 : 0 ≤ i) (h : i < l.length) : ∃ d, atI l i = some d ∧ d ∈ l := by
  have h1 : i.toNat < l.length := by omega
  refine ⟨l[i.toNat], ?_, List.getElem_mem _⟩
  simp [atI, ixN, h0, h, h1]
@[simp] theorem x_oP {α : Type} {a : α} {Q : α → Prop} : oP (some a) Q = Q a := (rfl)
@[simp] theorem x_f1 {g : D → (D → Prop) → Prop} {d : D} {Q : D → Prop} : f1 g own [d] Q = g (see own d) Q := (rfl)
@[simp] theorem x_len {ds : List D} {Q : D → Prop} : gLen (.lst ds) Q = Q (.int ds.length) := (rfl)
@[simp] theorem x_lenT {ds : List D} {Q : D → Prop} : gLen (.tup ds) Q = Q (.int ds.length) := (rfl)
@[simp] theorem x_lenS {z : Str} {Q : D → Prop} : gLen (.str z) Q = (z.length ≤ sizeLine ∧ Q (.int z.length)) := (rfl)
@[simp] theorem x_abs {i : Int} {Q : D → Prop} : gAbs (.int i) Q = Q (.int (if i < 0 then -i else i)) := (rfl)
@[simp] theorem x_int1b {b : Bool} {Q : D → Prop} : gInt1 (.bl b) Q = Q (.int (if b then 1 else 0)) := (rfl)
@[simp] theorem x_list {ds : List D} {Q : D → Prop} : gList (.lst ds) Q = Q (.lst ds) := (rfl)
@[simp] theorem x_listT {ds : List D} {Q : D → Prop} : gList (.tup ds) Q = Q (.lst ds) := (rfl)
@[simp] theorem x_tupleL {ds : List D} {Q : D → Prop} : gTuple (.lst ds) Q = Q (.tup ds) := (rfl)
@[simp] theorem x_add {d e : D} {Q : D → Prop} : fAdd own d e Q = fAdd0 (see own d) (see own e) Q := (rfl)
@[simp] theorem x_addI {i j : Int} {Q : D → Prop} : fAdd0 (.int i) (.int j) Q = Q (.int (i + j)) := (rfl)
@[simp] theorem x_addS {i j : Str} {Q : D → Prop} : fAdd0 (.str i) (.str j) Q = (i.length + j.length ≤ sizeLine ∧ Q (.str (i ++ j))) := (rfl)
@[simp] theorem x_addL {i j : List D} {Q : D → Prop} : fAdd0 (.lst i) (.lst j) Q = (i.length + j.length ≤ sizeLine ∧ Q (.lst (i ++ j))) := (rfl)
@[simp] theorem x_addT {i j : List D} {Q : D → Prop} : fAdd0 (.tup i) (.tup j) Q = (i.length + j.length ≤ sizeLine ∧ Q (.tup (i ++ j))) := (rfl)
@[simp] theorem x_mul {d e : D} {Q : D → Prop} : fMul own d e Q = fMul0 (see own d) (see own e) Q := (rfl)
@[simp] theorem x_mulI {i j : Int} {Q : D → Prop} : fMul0 (.int i) (.int j) Q = (CMulW i j ∧ Q (.int (i * j))) := (rfl)
@[simp] theorem x_mulS {i : Str} {j : Int} {Q : D → Prop} : fMul0 (.str i) (.int j) Q = (j = 0 ∧ Q (.str Str.empty) ∨ j = 1 ∧ Q (.str i)) := (rfl)
@[simp] theorem x_lt {d e : D} {Q : D → Prop} : fLt own d e Q = fLt0 (see own d) (see own e) Q := (rfl)
@[simp] theorem x_ltI {i j : Int} {Q : D → Prop} : fLt0 (.int i) (.int j) Q = Q (.bl (decide (i < j))) := (rfl)
@[simp] theorem x_eq {b : Bool} {d e : D} {Q : D → Prop} : fEq b own d e Q = (eqAsk (see own d) (see own e) ∧ Q (.bl (if b then !deq (see own d) (see own e) else deq (see own d) (see own e)))) := (rfl)
@[simp] theorem x_askS {x y : Str} : eqAsk (.str x) (.str y) = True := (rfl)
@[simp] theorem x_deqS {x y : Str} : deq (.str x) (.str y) = (x == y) := by unfold deq toPy; rfl
@[simp] theorem x_deqI {x y : Int} : deq (.int x) (.int y) = (x == y) := by unfold deq toPy; rfl
@[simp] theorem x_askI {x y : Int} : eqAsk (.int x) (.int y) = True := by simp [eqAsk, eqOk, toPy, PyData.depth]
@[simp] theorem x_in {b : Bool} {d e : D} {Q : D → Prop} : fIn b own d e Q = fIn0 b d (see own e) Q := (rfl)
@[simp] theorem x_inL {b : Bool} {d : D} {ds : List D} {Q : D → Prop} : fIn0 b d (.lst ds) Q = (flatD d = true ∧ ds.all flatD = true ∧ Q (.bl (if b then !hasD d ds else hasD d ds))) := by cases d <;> rfl
@[simp] theorem x_inT {b : Bool} {d : D} {ds : List D} {Q : D → Prop} : fIn0 b d (.tup ds) Q = (flatD d = true ∧ ds.all flatD = true ∧ Q (.bl (if b then !hasD d ds else hasD d ds))) := by cases d <;> rfl
@[simp] theorem x_inS {b : Bool} {x z : Str} {Q : D → Prop} : fIn0 b (.str x) (.str z) Q = (x.cps.toList.length = 1 ∧ Q (.bl (if b then !oneIn x z else oneIn x z))) := (rfl)
@[simp] theorem x_flatS {x : Str} : flatD (.str x) = true := (rfl)
@[simp] theorem x_flatI {x : Int} : flatD (.int x) = true := (rfl)
@[simp] theorem x_subL {to ti : ATE} {d : D} {Q : AEnv → Own → Prop} : gSubL to ti d env own Q = to env own fun x o1 => ti env o1 fun y o2 => ∃ i, y = .int i ∧ ownL o2 x fun p ds => ∃ j, ixN ds.length i = some j ∧ Q env (oset o2 p (.lst (ds.set j d))) := (rfl)
theorem x_ownL {p : Addr} {ds : List D} {k : Addr → List D → Prop} (h : own p = some (.lst ds)) : ownL own (.ref p) k = k p ds := by
  apply propext
  constructor
  · rintro ⟨q, es, e1, e2, e3⟩
    cases e1; rw [h] at e2; cases e2; exact e3
  · exact fun q => ⟨p, ds, rfl, h, q⟩
@[simp] theorem x_ix30 {n : Nat} : ixN (n + 1) 0 = some 0 := by simp [ixN]
@[simp] theorem x_ix32 {n : Nat} : ixN (n + 1 + 1 + 1) 2 = some 2 := by
  have : (2 : Int) < (n : Int) + 1 + 1 + 1 := by omega
  simp [ixN, this]
end
@[simp] theorem x_neg {own : Own} {i : Int} {Q : D → Prop} : fNeg own (.int i) Q = Q (.int (-i)) := (rfl)
/-! ### pens -/
@[simp] theorem deq_nil {ds : List D} : deq (.lst ds) (.lst []) = ds.isEmpty := by
  unfold deq toPy
  cases ds with
  | nil => unfold toPys; rfl
  | cons d t => unfold toPys; rfl
theorem eqOks_ints : ∀ ns : List Int, eqOks (ns.map D.int) = true
  | [] => by unfold eqOks; rfl
  | i :: ns => by
    show eqOks (.int i :: ns.map D.int) = true
    unfold eqOks
    rw [eqOks_ints ns]; unfold eqOk; rfl
theorem depths_ints : ∀ ns : List Int, PyData.depthAll (toPys (ns.map D.int)) ≤ 1
  | [] => by unfold toPys PyData.depthAll; decide
  | i :: ns => by
    show PyData.depthAll (toPys (.int i :: ns.map D.int)) ≤ 1
    have := depths_ints ns
    unfold toPys PyData.depthAll
    unfold toPy PyData.depth
    omega
/-- what a pen holds: at least b more draws may be made -/
def Pn (b : Nat) (pen : List D) : Prop := ∃ (g : Int) (ns : List Int) (d : Int), pen = [.int g, .lst (ns.map .int), .int d] ∧ 0 ≤ g ∧ g + b ≤ 2 ^ 60 ∧ ns.length ≤ 63 ∧ 0 ≤ d
theorem Pn.mono {b c : Nat} {pen : List D} (h : Pn b pen) (e : c ≤ b) : Pn c pen := by
  obtain ⟨g, ns, d, rfl, h1, h2, h3, h4⟩ := h
  exact ⟨g, ns, d, rfl, h1, by omega, h3, h4⟩
@[simp] theorem x_gInt {f : Int → Int → Int} {i j : Int} : gInt f i j = .int (f i j) := (rfl)
@[simp] theorem x_gBl {f : Int → Int → Bool} {i j : Int} : gBl f i j = .bl (f i j) := (rfl)
/-! ### how long ints are -/
def Sm (n : Nat) (i : Int) : Prop := i.natAbs < 2 ^ n
theorem Sm.mul {a b : Nat} {i j : Int} (h : Sm a i) (g : Sm b j) : Sm (a + b) (i * j) := by
  unfold Sm at *
  rw [Int.natAbs_mul, Nat.pow_add]
  exact Nat.mul_lt_mul'' h g
theorem Sm.mono {a b : Nat} {i : Int} (h : Sm a i) (e : a ≤ b) : Sm b i := Nat.lt_of_lt_of_le h (Nat.pow_le_pow_right (by decide) e)
theorem Sm.add {a : Nat} {i j : Int} (h : Sm a i) (g : Sm a j) : Sm (a + 1) (i + j) := by
  unfold Sm at *
  have := Int.natAbs_add_le i j
  rw [Nat.pow_succ]; omega
theorem Sm.mod {a : Nat} {i j : Int} (h : 0 < j) (g : Sm a j) : Sm a (i % j) := by
  unfold Sm at *
  have h1 := Int.emod_nonneg i (Int.ne_of_gt h)
  have h2 := Int.emod_lt_of_pos i h
  omega
theorem Sm.ofLt {a : Nat} {i : Int} (h0 : 0 ≤ i) (h : i < 2 ^ a) : Sm a i := by
  unfold Sm
  have : ((2 ^ a : Nat) : Int) = (2 : Int) ^ a := by norm_cast
  omega
theorem Sm.cmul {a b : Nat} {i j : Int} (h : Sm a i) (g : Sm b j) (e : a + b ≤ 900000 := by decide) : CMulW i j := by
  unfold CMulW Sm at *
  have l1 : i.natAbs.log2 ≤ a := by
    by_cases z : i.natAbs = 0
    · rw [z]; simp
    · exact Nat.le_of_lt ((Nat.log2_lt z).mpr h)
  have l2 : j.natAbs.log2 ≤ b := by
    by_cases z : j.natAbs = 0
    · rw [z]; simp
    · exact Nat.le_of_lt ((Nat.log2_lt z).mpr g)
  omega
theorem Sm.cdiv {a : Nat} {i j : Int} (h0 : 0 < j) (h : Sm a j) (e : a < 9000 := by decide) : CDivW i j := by
  refine ⟨h0, ?_⟩
  have z : j.natAbs ≠ 0 := by omega
  have := (Nat.log2_lt z).mpr h
  omega
theorem Sm.cpow {a : Nat} {i j : Int} (h : Sm a i) (h0 : 0 ≤ j) (h1 : j ≤ 100) (e : a ≤ 1000 := by decide) : CPowD i j := ⟨h0, h1, Nat.lt_of_lt_of_le h (Nat.pow_le_pow_right (by decide) e)⟩
@[simp] theorem ask_ints {ns : List Int} : eqAsk (.lst (ns.map D.int)) (.lst []) := by
  refine ⟨⟨?_, ?_⟩, ?_, ?_⟩
  · unfold eqOk; exact eqOks_ints ns
  · unfold toPy PyData.depth; have := depths_ints ns; omega
  · unfold eqOk eqOks; rfl
  · unfold toPy toPys PyData.depth PyData.depthAll; decide
/-! ### a pen: every draw -/
theorem Rt.mk' {P : D → Own → Prop} {d : D} {o : Own} (h : P d o) : Rt P d o := Rt.mk h
@[simp] theorem x_sz : sizeLine = 16777216 := by rw [sizeLine_eq]
@[simp] theorem x_slK {ds : List D} {lo hi : Option Int} {Q : D → Prop} : fSl0 lo hi (.kls ds) Q = Q (.lst (cutD ds lo hi)) := (rfl)
@[simp] theorem x_slL {ds : List D} {lo hi : Option Int} {Q : D → Prop} : fSl0 lo hi (.lst ds) Q = Q (.lst (cutD ds lo hi)) := (rfl)
@[simp] theorem x_slT {ds : List D} {lo hi : Option Int} {Q : D → Prop} : fSl0 lo hi (.tup ds) Q = Q (.tup (cutD ds lo hi)) := (rfl)
theorem cut_map {α : Type} (f : α → D) (l : List α) (lo hi : Option Int) : ∃ l' : List α, cutD (l.map f) lo hi = l'.map f ∧ l'.length ≤ l.length := by
  refine ⟨(l.drop (HT.sIx l.length 0 lo)).take (HT.sIx l.length l.length hi - HT.sIx l.length 0 lo), ?_, ?_⟩
  · unfold cutD; rw [List.length_map, ← List.map_drop, ← List.map_take]
  · simp only [List.length_take, List.length_drop]; omega
end L3

namespace L3
open PySem PySem.Spec PyProof.Rows L2
/-! ### texts -/
theorem chars_inj : ∀ {a b : List Char}, a.map Char.toNat = b.map Char.toNat → a = b
  | [], [], _ => rfl
  | [], _ :: _, h => by simp at h
  | _ :: _, [], h => by simp at h
  | x :: a, y :: b, h => by
    simp only [List.map_cons, List.cons.injEq] at h
    obtain ⟨h1, h2⟩ := h
    rw [chars_inj h2, show x = y from Char.ext (UInt32.toNat_inj.mp h1)]
@[simp] theorem ofS_inj {a b : String} : (Str.ofString a = Str.ofString b) = (a = b) := by
  apply propext
  constructor
  · intro h
    rw [Str.ofString_eq_toList, Str.ofString_eq_toList] at h
    injection h with h
    have h2 := congrArg Array.toList h
    simp only [] at h2
    exact String.toList_inj.mp (chars_inj h2)
  · rintro rfl; rfl
@[simp] theorem ofS_beq {a b : String} : (Str.ofString a == Str.ofString b) = (a == b) := by
  by_cases h : a = b
  · subst h; simp
  · have h' : ¬ Str.ofString a = Str.ofString b := by rw [ofS_inj]; exact h
    rw [beq_eq_false_iff_ne.mpr h', beq_eq_false_iff_ne.mpr h]
theorem Str.ext' {x y : Str} (h : x.cps.toList = y.cps.toList) : x = y := by
  cases x; cases y; simp only at h; congr; exact Array.toList_inj.mp h
@[simp] theorem cs_app {x y : Str} : (x ++ y).cps.toList = x.cps.toList ++ y.cps.toList := by
  show (x.cps ++ y.cps).toList = _
  simp
@[simp] theorem len_app {x y : Str} : (x ++ y).length = x.length + y.length := by
  show (x.cps ++ y.cps).size = _
  simp [Str.length]
theorem len_cs (x : Str) : x.length = x.cps.toList.length := by simp [Str.length]
@[simp] theorem app_assoc {x y z : Str} : x ++ y ++ z = x ++ (y ++ z) := Str.ext' (by simp)
@[simp] theorem emp_app {x : Str} : Str.empty ++ x = x := Str.ext' (by simp [Str.empty])
@[simp] theorem app_emp {x : Str} : x ++ Str.empty = x := Str.ext' (by simp [Str.empty])
@[simp] theorem ofS_emp : Str.ofString "" = Str.empty := by decide +kernel
@[simp] theorem len_emp : Str.empty.length = 0 := (rfl)
theorem len_ofS (s : String) : (Str.ofString s).length = s.length := by
  rw [Str.ofString_eq_toList]; simp [Str.length, String.length_toList]
@[simp] theorem beqS {x : Str} : (x == x) = true := by simp
/-! joins -/
@[simp] theorem strs_map : ∀ (l : List Str), strsOf (l.map D.str) = some l
  | [] => rfl
  | x :: l => by simp only [List.map_cons, strsOf, strs_map l, Option.map_some]
theorem len_join (a : Str) : ∀ l : List Str, (Str.join a l).length ≤ (l.map (·.length)).sum + l.length * a.length
  | [] => by simp [Str.join, Str.empty, Str.length]
  | [x] => by simp [Str.join]
  | x :: y :: l => by
    have := len_join a (y :: l)
    simp only [Str.join, len_app, List.map_cons, List.sum_cons, List.length_cons] at *
    rw [Nat.add_mul, Nat.one_mul]
    omega
theorem x_join {a : Str} {l : List Str} {own : Own} {P : D → Prop} : fJoin own (.str a) (.lst (l.map D.str)) P = ((l.map (·.length)).sum + l.length * a.length ≤ 16777216 ∧ P (.str (Str.join a l))) := by
  simp [fJoin, gJoin]
@[simp] theorem x_joinE {t u : ATE} {env : AEnv} {own : Own} {P : D → Own → Prop} : aJoin t u env own P = t env own fun d o1 => ∃ a, d = .str a ∧ u env o1 fun e o2 => fJoin o2 d e fun z => P z o2 := (rfl)
theorem join_emp : ∀ l : List Str, (Str.join Str.empty l).cps.toList = (l.map (·.cps.toList)).flatten
  | [] => rfl
  | [x] => by simp [Str.join]
  | x :: y :: l => by
    have := join_emp (y :: l)
    simp only [Str.join, app_emp, cs_app, this, List.map_cons, List.flatten_cons]
/-! ### comprehensions -/
section
variable {g : ATG} {tt : ATT} {te : ATE} {gd : Own → Prop} {env : AEnv} {P : List D → Own → Prop} {own : Own} {acc : List D} {d : D} {ds : List D} {ti : ATI} {vs : List Nat}
@[simp] theorem x_lc : aLc ti g tt te vs env own P = ti env own fun ds gd o => aLcL g tt te gd (wipeA env vs) P ds [] o := (rfl)
theorem x_lcN : aLcL g tt te gd env P [] acc own = (gd own ∧ P acc own) := rfl
theorem x_lcC : aLcL g tt te gd env P (d :: ds) acc own = (gd own ∧ g d env own fun env1 o1 => tt env1 o1 fun b o2 => match b with
    | true => te env1 o2 fun r o3 => aLcL g tt te gd env P ds (acc ++ [r]) o3
    | false => aLcL g tt te gd env P ds acc o2) := rfl
/-- every item gives one, and nothing else happens -/
theorem lc_pure {α : Type} (f : α → D) (h : α → D) : ∀ {l : List α} {acc : List D}, gd own → (∀ a ∈ l, ∀ Q : D → Own → Prop, Q (h a) own → g (f a) env own fun env1 o1 => te env1 o1 Q) → P (acc ++ l.map h) own → aLcL g aYes te gd env P (l.map f) acc own
  | [], acc, hg, _, hp => ⟨hg, by simpa using hp⟩
  | a :: l, acc, hg, hh, hp => ⟨hg, hh a (List.mem_cons_self ..) _ (lc_pure f h hg (fun b hb => hh b (List.mem_cons_of_mem _ hb)) (by simpa using hp))⟩
@[simp] theorem x_yes {Q : Bool → Own → Prop} : aYes env own Q = Q true own := (rfl)
@[simp] theorem x_it {te : ATE} {Q : List D → (Own → Prop) → Own → Prop} : aIt te env own Q = te env own fun d o => match see o d with
  | .lst ds => Q ds (fun o' => see o' d = .lst ds) o
  | .tup ds => Q ds (fun _ => True) o
  | .str x => x.cps.size ≤ sizeLine ∧ Q (signs x) (fun _ => True) o
  | _ => False := (rfl)
@[simp] theorem x_rng1 {ta : ATA} {Q : List D → (Own → Prop) → Own → Prop} : aRng1 ta env own Q = ta env own fun ds o => match ds with
  | [.int n] => (-(2 ^ 62) ≤ n ∧ n ≤ 16777216) ∧ Q (rng 0 n.toNat) (fun _ => True) o
  | _ => False := (rfl)
@[simp] theorem x_gst {n i : Nat} {gs : ATGs} {Q : AEnv → Own → Prop} : gSt n i gs (.tup ds) env own Q = (n ≤ ds.length + 1 ∧ ds.length ≤ 16384 ∧ gs (ds.take i ++ [.lst ((ds.drop i).take (ds.length + 1 - n))] ++ (ds.drop i).drop (ds.length + 1 - n)) env own Q) := (rfl)
@[simp] theorem x_gstL {n i : Nat} {gs : ATGs} {Q : AEnv → Own → Prop} : gSt n i gs (.lst ds) env own Q = (n ≤ ds.length + 1 ∧ ds.length ≤ 16384 ∧ gs (ds.take i ++ [.lst ((ds.drop i).take (ds.length + 1 - n))] ++ (ds.drop i).drop (ds.length + 1 - n)) env own Q) := (rfl)
@[simp] theorem x_gsN {Q : AEnv → Own → Prop} : gsNil [] env own Q = Q env own := (rfl)
@[simp] theorem x_gsC {gs : ATGs} {Q : AEnv → Own → Prop} : gsCons g gs (d :: ds) env own Q = g d env own fun env1 o1 => gs ds env1 o1 Q := (rfl)
@[simp] theorem x_gtp {n : Nat} {gs : ATGs} {Q : AEnv → Own → Prop} : gTp n gs (.tup ds) env own Q = (ds.length = n ∧ gs ds env own Q) := (rfl)
end
section
variable {env : AEnv} {own : Own} {t u : ATE} {ts : List ATE} {P : D → Own → Prop}
@[simp] theorem x_joined : aJoined ts env own P = aJs ts Str.empty env own fun z o => P (.str z) o := (rfl)
@[simp] theorem x_jsN {acc : Str} {Q : Str → Own → Prop} : aJs [] acc env own Q = Q acc own := (rfl)
@[simp] theorem x_jsC {acc : Str} {Q : Str → Own → Prop} : aJs (t :: ts) acc env own Q = t env own fun d o => match d with
    | .str y => (acc ++ y).length ≤ sizeLine ∧ aJs ts (acc ++ y) env o Q
    | _ => False := (rfl)
@[simp] theorem x_tru {Q : Bool → Own → Prop} : aTru t env own Q = t env own fun d o => match see o d with
  | .bl b => Q b o
  | .non => Q false o
  | .int i => Q (i != 0) o
  | .str x => x.length ≤ sizeLine ∧ Q ((x.length : Int) != 0) o
  | .lst xs => Q (!xs.isEmpty) o
  | .tup xs => Q (!xs.isEmpty) o
  | _ => False := (rfl)
@[simp] theorem x_getTab {tab : Str → Option D} : aGetTab tab t u env own P = t env own fun x o1 => u env o1 fun y o2 => ∃ z, x = .str z ∧ P ((tab z).getD y) o2 := (rfl)
@[simp] theorem x_ixTab {tab : Str → Option D} {a : Addr} {d e : D} {Q : D → Prop} : fIxTab tab a own d e Q = fIxTab tab a own d e Q := (rfl)
theorem x_wipe : wipeA env [] = env := rfl
end
section
variable {i : Int} {ds : List D} {x : Str}
@[simp] theorem has_nil {d : D} : hasD d [] = false := (rfl)
@[simp] theorem has_cons {d e : D} : hasD d (e :: ds) = (eqD e d || hasD d ds) := (rfl)
@[simp] theorem eqD_str {x y : Str} : eqD (.str x) (.str y) = (x == y) := (rfl)
end
/-! some of a short list of things -/
theorem at2 {α : Type} {a b : α} {k : Int} (h0 : 0 ≤ k) (h1 : k < 2) {P : α → Prop} (ha : P a) (hb : P b) : oP (atI [a, b] k) P := by
  have : k = 0 ∨ k = 1 := by omega
  rcases this with rfl | rfl
  · exact ha
  · exact hb
theorem at3 {α : Type} {a b c : α} {k : Int} (h0 : 0 ≤ k) (h1 : k < 3) {P : α → Prop} (ha : P a) (hb : P b) (hc : P c) : oP (atI [a, b, c] k) P := by
  have : k = 0 ∨ k = 1 ∨ k = 2 := by omega
  rcases this with rfl | rfl | rfl
  · exact ha
  · exact hb
  · exact hc
theorem at4 {α : Type} {a b c d : α} {k : Int} (h0 : 0 ≤ k) (h1 : k < 4) {P : α → Prop} (ha : P a) (hb : P b) (hc : P c) (hd : P d) : oP (atI [a, b, c, d] k) P := by
  have : k = 0 ∨ k = 1 ∨ k = 2 ∨ k = 3 := by omega
  rcases this with rfl | rfl | rfl | rfl
  · exact ha
  · exact hb
  · exact hc
  · exact hd
/-- any one of a list -/
theorem atA {α : Type} {l : List α} {k : Int} (h0 : 0 ≤ k) (h1 : k < l.length) {P : α → Prop} (h : ∀ a ∈ l, P a) : oP (atI l k) P := by
  obtain ⟨d, e, m⟩ := x_atN h0 h1
  rw [e]; exact h d m
@[simp] theorem ints_map {α : Type} (f : α → Int) : ∀ l : List α, intsOf (l.map fun a => D.int (f a)) = some (l.map f)
  | [] => rfl
  | a :: l => by simp only [List.map_cons, intsOf, ints_map f l, Option.map_some]
@[simp] theorem x_sum {ds : List D} {Q : D → Prop} : gSum (.lst ds) Q = oP (intsOf ds) fun ns => Q (.int ns.sum) := (rfl)
section
variable {env : AEnv} {own : Own} {t u : ATE} {P : D → Own → Prop} {E : AEnds} {g : ATG} {b : ATS} {gd : Own → Prop} {ds : List D} {d : D} {ti : ATI}
@[simp] theorem x_app : aApp t u env own P = t env own fun d o1 => ownL o1 d fun _ _ => u env o1 fun e o2 => ownL o2 d fun p ds => ds.length < sizeLine ∧ P .non (oset o2 p (.lst (ds ++ [e]))) := (rfl)
@[simp] theorem x_for : aFor ti g b E env own = ti env own fun ds gd o => aTurns g b gd E ds env o := (rfl)
theorem x_turN : aTurns g b gd E [] env own = (gd own ∧ E.nx env own) := rfl
theorem x_turC : aTurns g b gd E (d :: ds) env own = (gd own ∧ g d env own fun env1 o1 => b { nx := aTurns g b gd E ds, rt := E.rt, bk := E.nx, ct := aTurns g b gd E ds } env1 o1) := rfl
theorem flat_strs : ∀ l : List Str, (l.map D.str).all flatD = true
  | [] => rfl
  | x :: l => by simp [flatD]
end
end L3

namespace L3
open PySem PySem.Spec PyProof.Rows L2
/-! ### what may be asked of by == and repr: bounds of depth and weight -/
structure PyOk (d : D) (dep wt : Nat) : Prop where
  eq : eqOk d = true
  sh : (toPy d).showable = true
  lv : (toPy d).leavesShort 13 = true
  dp : (toPy d).depth ≤ dep
  wt : (toPy d).weight ≤ wt
structure PysOk (ds : List D) (dep wt : Nat) : Prop where
  eq : eqOks ds = true
  sh : PyData.showableAll (toPys ds) = true
  lv : PyData.leavesShortAll 13 (toPys ds) = true
  dp : PyData.depthAll (toPys ds) ≤ dep
  wt : PyData.weightAll (toPys ds) ≤ wt
theorem PyOk.mono {d : D} {a b a' b' : Nat} (h : PyOk d a b) (h1 : a ≤ a') (h2 : b ≤ b') : PyOk d a' b' := ⟨h.eq, h.sh, h.lv, Nat.le_trans h.dp h1, Nat.le_trans h.wt h2⟩
theorem PysOk.mono {d : List D} {a b a' b' : Nat} (h : PysOk d a b) (h1 : a ≤ a') (h2 : b ≤ b') : PysOk d a' b' := ⟨h.eq, h.sh, h.lv, Nat.le_trans h.dp h1, Nat.le_trans h.wt h2⟩
theorem strOk_all {x : Str} : PyData.strOk x = x.cps.toList.all fun c => decide (c < 0x110000) := by unfold PyData.strOk; rw [Array.all_toList]
theorem PyOk.str {x : Str} (h : PyData.strOk x = true) {a b : Nat} (hl : x.length ≤ b) : PyOk (.str x) a b := by
  refine ⟨by unfold eqOk; exact h, by unfold toPy PyData.showable; rfl, ?_, by unfold toPy PyData.depth; omega, by unfold toPy PyData.weight; exact hl⟩
  rw [strOk_all] at h
  unfold toPy PyData.leavesShort
  simp only [List.all_eq_true, decide_eq_true_eq] at h ⊢
  intro c hc
  have := h c hc
  have e : (16 : Nat) ^ 8 = 4294967296 := by decide
  omega
theorem PyOk.non {a b : Nat} : PyOk .non a b := by
  refine ⟨by unfold eqOk; rfl, by unfold toPy PyData.showable; rfl, by unfold toPy PyData.leavesShort; rfl, by unfold toPy PyData.depth; omega, by unfold toPy PyData.weight; omega⟩
theorem PyOk.bl {x : Bool} {a b : Nat} : PyOk (.bl x) a b := by
  refine ⟨by unfold eqOk; rfl, by unfold toPy PyData.showable; rfl, by unfold toPy PyData.leavesShort; rfl, by unfold toPy PyData.depth; omega, by unfold toPy PyData.weight; omega⟩
theorem PyOk.int {i : Int} (h : i.natAbs < 10 ^ 12) {a b : Nat} (hb : 40 ≤ b) : PyOk (.int i) a b := by
  have hl : i.natAbs.log2 < 40 := by
    by_cases z : i.natAbs = 0
    · rw [z]; decide
    · exact (Nat.log2_lt z).mpr (Nat.lt_of_lt_of_le h (by decide))
  refine ⟨by unfold eqOk; rfl, ?_, ?_, by unfold toPy PyData.depth; omega, ?_⟩
  · unfold toPy PyData.showable; simp only [decide_eq_true_eq]; omega
  · unfold toPy PyData.leavesShort; simp only [decide_eq_true_eq]; exact PyData.shown_int_le h
  · unfold toPy PyData.weight; split <;> omega
theorem PyOk.tup {ds : List D} {a b : Nat} (h : PysOk ds a b) : PyOk (.tup ds) (a + 1) b := by
  refine ⟨by unfold eqOk; exact h.eq, by unfold toPy PyData.showable; exact h.sh, by unfold toPy PyData.leavesShort; exact h.lv, ?_, by unfold toPy PyData.weight; exact h.wt⟩
  unfold toPy PyData.depth; exact Nat.succ_le_succ h.dp
theorem PyOk.lst {ds : List D} {a b : Nat} (h : PysOk ds a b) : PyOk (.lst ds) (a + 1) b := by
  refine ⟨by unfold eqOk; exact h.eq, by unfold toPy PyData.showable; exact h.sh, by unfold toPy PyData.leavesShort; exact h.lv, ?_, by unfold toPy PyData.weight; exact h.wt⟩
  unfold toPy PyData.depth; exact Nat.succ_le_succ h.dp
theorem PysOk.nil {a b : Nat} : PysOk [] a b := by
  refine ⟨by unfold eqOks; rfl, by unfold toPys PyData.showableAll; rfl, by unfold toPys PyData.leavesShortAll; rfl, by unfold toPys PyData.depthAll; omega, by unfold toPys PyData.weightAll; omega⟩
theorem PysOk.cons {d : D} {ds : List D} {a b c : Nat} (h : PyOk d a b) (r : PysOk ds a c) : PysOk (d :: ds) a (b + 1 + c) := by
  refine ⟨by unfold eqOks; rw [h.eq, r.eq]; rfl, by unfold toPys PyData.showableAll; rw [h.sh, r.sh]; rfl, by unfold toPys PyData.leavesShortAll; rw [h.lv, r.lv]; rfl, ?_, ?_⟩
  · unfold toPys PyData.depthAll; exact Nat.max_le.mpr ⟨h.dp, r.dp⟩
  · unfold toPys PyData.weightAll; have := h.wt; have := r.wt; omega
theorem PyOk.repr {d : D} {a b : Nat} (h : PyOk d a b) (h1 : a ≤ 64) (h2 : b ≤ 1048576) : reprOk d = true := by
  unfold reprOk
  simp only [Bool.and_eq_true, decide_eq_true_eq]
  exact ⟨⟨⟨h.eq, h.sh⟩, Nat.le_trans h.dp h1⟩, PyData.shown_fits (B := 13) (by decide) (by decide) h.lv (Nat.le_trans h.wt (Nat.le_trans h2 (by decide)))⟩
@[simp] theorem x_reprT {ds : List D} {Q : D → Prop} : gRepr (.tup ds) Q = (reprOk (.tup ds) = true ∧ Q (.str (reprD (.tup ds)))) := (rfl)
@[simp] theorem x_reprL {ds : List D} {Q : D → Prop} : gRepr (.lst ds) Q = (reprOk (.lst ds) = true ∧ Q (.str (reprD (.lst ds)))) := (rfl)
theorem kit_str : kitB "str" "str" = some true := by decide +kernel
@[simp] theorem x_isiS {own : Own} {x : Str} {Q : D → Prop} : fIsi own [.str x, .ty "str"] Q = Q (.bl true) := by
  show oP (kitB "str" "str") (fun b => Q (.bl b)) = _
  rw [kit_str]; rfl
end L3

namespace L3
open PySem PySem.Spec PyProof.Rows L2
/-! ### the end: what the top has left, read by a Hook -/
abbrev FnP (K : PySem.W.Frag) (x : Str) (st : Stmt) (dvs : List V) (kws : List (Str × V)) (f : Addr) (fd : FuncData) : Prop := FunD K x x (defArgs st) (defBody st) (defScope st) dvs kws f fd
theorem funX {K : PySem.W.Frag} {x qual : Str} {st : Stmt} {dvs : List V} {kws : List (Str × V)} {f : Addr} {fd : FuncData} (F : FunD K x qual (defArgs st) (defBody st) (defScope st) dvs kws f fd) : FunX K x qual st f fd :=
  let ⟨oc, od, dV, kV, doc, pm, an, cdv, ct, osl, e, lk, hcd, _, _⟩ := F.ex
  ⟨oc, od, dV, kV, doc, pm, an, cdv, ct, osl, e, lk, hcd⟩
/-! data of the top -/
mutual
def dtB (K : PySem.W.Frag) : D → Value → Bool
  | .non, .none => true
  | .bl b, .bool c => decide (b = c)
  | .int i, .int j _ => decide (i = j)
  | .str x, .str y _ => decide (x = y)
  | .ty n, .type m => decide (n = m)
  | .tup ds, .ref a => (match K.lookup a with
    | some ⟨.type c, _, .seq its _, _⟩ => decide (c = "tuple") && (decide (its.size ≤ sizeLine) && dtsB K ds its.toList)
    | _ => false)
  | _, _ => false
def dtsB (K : PySem.W.Frag) : List D → List Value → Bool
  | [], [] => true
  | d :: ds, u :: us => dtB K d u && dtsB K ds us
  | _, _ => false
end
mutual
theorem dtB_ok {K : PySem.W.Frag} : ∀ {d : D} {u : Value}, dtB K d u = true → ∃ v, RelV v u ∧ ∀ G, Dt K G d v
  | .non, u, h => by
    cases u <;> first | (unfold dtB at h; cases h; done) | skip
    exact ⟨.non, rfl, fun G => by unfold Dt; rfl⟩
  | .bl b, u, h => by
    cases u <;> first | (unfold dtB at h; cases h; done) | skip
    rename_i c
    unfold dtB at h
    obtain rfl := of_decide_eq_true h
    exact ⟨.bl b, rfl, fun G => by unfold Dt; rfl⟩
  | .int i, u, h => by
    cases u <;> first | (unfold dtB at h; cases h; done) | skip
    rename_i j t
    unfold dtB at h
    obtain rfl := of_decide_eq_true h
    exact ⟨.int i, ⟨t, rfl⟩, fun G => by unfold Dt; rfl⟩
  | .str x, u, h => by
    cases u <;> first | (unfold dtB at h; cases h; done) | skip
    rename_i y t
    unfold dtB at h
    obtain rfl := of_decide_eq_true h
    exact ⟨.str x, ⟨t, rfl⟩, fun G => by unfold Dt; rfl⟩
  | .ty n, u, h => by
    cases u <;> first | (unfold dtB at h; cases h; done) | skip
    rename_i m
    unfold dtB at h
    obtain rfl := of_decide_eq_true h
    exact ⟨.ty n, rfl, fun G => by unfold Dt; rfl⟩
  | .tup ds, u, h => by
    cases u <;> first | (unfold dtB at h; cases h; done) | skip
    rename_i a
    unfold dtB at h
    cases q : K.lookup a with
    | none => rw [q] at h; cases h
    | some o =>
      obtain ⟨oc, od, dt, osl⟩ := o
      rw [q] at h
      cases oc with
      | type c =>
        cases dt with
        | seq its n =>
          obtain ⟨h1, h2⟩ := He.ba (show (decide (c = "tuple") && (decide (its.size ≤ sizeLine) && dtsB K ds its.toList)) = true from h)
          obtain ⟨h3, h4⟩ := He.ba h2
          obtain ⟨vs, r1, r2⟩ := dtsB_ok h4
          refine ⟨.ref a, rfl, fun G => ?_⟩
          unfold Dt
          exact ⟨a, vs, rfl, .inr ⟨_, its, n, q, congrArg Value.type (of_decide_eq_true h1), rfl, of_decide_eq_true h3, r1⟩, r2 G⟩
        | _ => cases h
      | _ => cases dt <;> cases h
  | .lst _, u, h => by cases u <;> (unfold dtB at h; cases h)
  | .dct _, u, h => by cases u <;> (unfold dtB at h; cases h)
  | .ref _, u, h => by cases u <;> (unfold dtB at h; cases h)
  | .kls _, u, h => by cases u <;> (unfold dtB at h; cases h)
theorem dtsB_ok {K : PySem.W.Frag} : ∀ {ds : List D} {us : List Value}, dtsB K ds us = true → ∃ vs, Vals vs us ∧ ∀ G, Dts K G ds vs
  | [], [], _ => ⟨[], .nil, fun G => by unfold Dts; rfl⟩
  | [], _ :: _, h => by unfold dtsB at h; cases h
  | _ :: _, [], h => by unfold dtsB at h; cases h
  | d :: ds, u :: us, h => by
    unfold dtsB at h
    obtain ⟨h1, h2⟩ := He.ba h
    obtain ⟨v, r1, r2⟩ := dtB_ok h1
    obtain ⟨vs, r3, r4⟩ := dtsB_ok h2
    exact ⟨v :: vs, .cons r1 r3, fun G => by unfold Dts; exact ⟨v, vs, rfl, r2 G, r4 G⟩⟩
end
/-- a global that is a piece of data -/
def gloB (K : PySem.W.Frag) (x : Str) (d : D) : Bool := match PySem.W.nsIn K mainGlobals x with
  | some (some u) => dtB K d u
  | _ => false
theorem gloB_ok {K : PySem.W.Frag} {h : Heap} {mg : Str → Option Value} (X : K.In h) (G : h.Ns mainGlobals mg) {x : Str} {ds : List D} (c : gloB K x (.tup ds) = true) : ∃ u : Addr, mg x = some (.ref u) ∧ ∀ G, Dt K G (.tup ds) (.ref u) := by
  unfold gloB at c
  cases e : PySem.W.nsIn K mainGlobals x with
  | none => rw [e] at c; cases c
  | some r =>
    rw [e] at c
    cases r with
    | none => cases c
    | some u =>
      obtain ⟨v, r1, r2⟩ := dtB_ok (show dtB K (.tup ds) u = true from c)
      have h1 := PySem.W.mg_of X G e
      obtain ⟨a, vs, e1, _⟩ := (show ∃ a vs, v = .ref a ∧ SqT K (fun _ => none) a vs ∧ Dts K (fun _ => none) ds vs from by have := r2 (fun _ => none); unfold Dt at this; exact this)
      subst e1
      have e2 : u = Value.ref a := r1
      subst e2
      exact ⟨a, h1, r2⟩
/-! tables -/
def lookD : List (Str × D) → Str → Option D
  | [], _ => none
  | (k, v) :: r, z => if z = k then some v else lookD r z
def tabL (K : PySem.W.Frag) : List (Str × D) → List DictEntry → Bool
  | [], [] => true
  | (k, d) :: r, e :: es => (match e.key with
    | .str x _ => decide (x = k) && (dtB K d e.val && tabL K r es)
    | _ => false)
  | _, _ => false
def tabB (K : PySem.W.Frag) (a : Addr) (kv : List (Str × D)) : Bool := match K.lookup a with
  | some ⟨_, _, .dict es _, _⟩ => tabL K kv es.toList
  | _ => false
theorem tabL_ok {K : PySem.W.Frag} {z : Str} : ∀ {kv : List (Str × D)} {l : List DictEntry}, tabL K kv l = true → tabV K (lookD kv z) ((l.find? fun e => Value.isStrOf z e.key).map (·.val))
  | [], [], _ => trivial
  | [], _ :: _, h => by unfold tabL at h; cases h
  | _ :: _, [], h => by unfold tabL at h; cases h
  | (k, d) :: r, e :: es, h => by
    unfold tabL at h
    obtain ⟨hash, key, val⟩ := e
    cases key <;> first | (cases h; done) | skip
    rename_i x t
    obtain ⟨h1, h2⟩ := He.ba (show (decide (x = k) && (dtB K d val && tabL K r es)) = true from h)
    obtain ⟨h3, h4⟩ := He.ba h2
    obtain rfl := of_decide_eq_true h1
    unfold lookD
    by_cases q : z = x
    · subst q
      rw [if_pos rfl]
      have e1 : Value.isStrOf z (Value.str z t) = true := by unfold Value.isStrOf; simp
      rw [List.find?_cons_of_pos (p := fun e : DictEntry => Value.isStrOf z e.key) e1]
      exact dtB_ok h3
    · rw [if_neg q]
      have e1 : ¬ Value.isStrOf z (Value.str x t) = true := by unfold Value.isStrOf; simp; exact fun y => q y.symm
      rw [List.find?_cons_of_neg (p := fun e : DictEntry => Value.isStrOf z e.key) e1]
      exact tabL_ok h4
theorem kTab_of {K : PySem.W.Frag} {w : World} {a : Addr} {kv : List (Str × D)} (h : ∃ es n, KDict K w a es n) (c : tabB K a kv = true) : KTab K w a (lookD kv) := by
  obtain ⟨es, n, e1, e2, e3⟩ := h
  refine ⟨es, n, e1, e2, e3, fun z => ?_⟩
  unfold tabB at c
  rw [e1] at c
  obtain ⟨l⟩ := es
  unfold findBy
  rw [List.find?_toArray]
  exact tabL_ok c
/-! the Hook: facts, defs, tables, a look of one's own -/
abbrev AlX : Type := He.AlT × Bool
def obsX (fa : List He.Fa) (fn : List He.DefD) (ts : List He.Tab) (ck : PySem.W.Frag → Bool) (K : PySem.W.Frag) : AlX := (He.obsT fa fn ts K, ck K)
def obsXG (n : Nat) (fa : List He.Fa) (fn : List He.DefD) (ts : List He.Tab) (ck : PySem.W.Frag → Bool) (g : Addr → Option Obj) : AlX := obsX fa fn ts ck (He.frG g (He.asD g n))
structure SaysX (fa : List He.Fa) (fn : List He.DefD) (ts : List He.Tab) (ck : PySem.W.Frag → Bool) (w : World) (K : PySem.W.Frag) : Prop where
  t : He.SaysT fa fn ts w K
  ck : ck K = true
def hookX (n : Nat) (fa : List He.Fa) (fn : List He.DefD) (ts : List He.Tab) (ck : PySem.W.Frag → Bool) : PySem.W.Hook where
  α := AlX
  obs := fun s => obsXG n fa fn ts ck s.heap.get?
  val := fun w => (He.valT fn ts w, true)
  says := fun w h => ∃ K : PySem.W.Frag, K.In h ∧ SaysX fa fn ts ck w K
  of := fun _ _ e => ⟨_, He.frG_in, ⟨congrArg (fun z : AlX => z.1) e, congrArg (fun z : AlX => z.2) e⟩⟩
  keeps := fun _ _ _ ⟨K, hK, c⟩ k => ⟨K, PySem.W.Frag.In.keeps hK k, c⟩
theorem obsXG_eq {n : Nat} {fa : List He.Fa} {fn : List He.DefD} {ts : List He.Tab} {ck : PySem.W.Frag → Bool} {g : Addr → Option Obj} {s : Shared} (h : ∀ a, g a = s.heap.get? a) : obsXG n fa fn ts ck g = (hookX n fa fn ts ck).obs s := by
  have e : g = s.heap.get? := funext h
  rw [e] <;> rfl
/-! defs by name -/
def Has (K : PySem.W.Frag) (mg : Str → Option Value) (x : Str) (st : Stmt) : Prop := ∃ f fd, FnP K x st [] [] f fd ∧ mg x = some (.ref f)
/-- how a def without defaults binds its values -/
def Bd (x : Str) (st : Stmt) (ps : List Str) : Prop := ∀ (kV doc pm : Value) (an : Option Addr) (cdv ct : Value) (us : List Value), us.length = ps.length → bindArgs (PySem.W.fnOf x x (defArgs st) (defBody st) (defScope st) .none kV doc pm an cdv ct) ⟨us, []⟩ = pure (ps.zip us)
def BdK (x : Str) (st : Stmt) (ps : List Str) (n : Nat) (ks : List Str) : Prop := ∀ (kV doc pm : Value) (an : Option Addr) (cdv ct : Value) (us ws : List Value), us.length = n → ws.length = ks.length → bindArgs (PySem.W.fnOf x x (defArgs st) (defBody st) (defScope st) .none kV doc pm an cdv ct) ⟨us, ks.zip ws⟩ = pure (ps.zip (us ++ ws))
section
variable {P : Program} {w : World} {K : PySem.W.Frag} {mg : Str → Option Value} {base : Heap} {x : Str} {st : Stmt} {N ps : List Str} {k n : Nat} {ks : List Str} {S : Spec}
/-- the def's body does as its promise says -/
def Bod (P : Program) (w : World) (K : PySem.W.Frag) (mg : Str → Option Value) (base : Heap) (x : Str) (st : Stmt) (N : List Str) (k : Nat) (S : Spec) : Prop :=
  ∀ (f : Addr) (cdv : Value) (A : Around) (outer : List PySem.Env) (s : Shared) (H : Hp) (E : XK) (w0 : Wd) (ds : List D) (Q : D → Own → Prop), Room k (A.deeper (envOfC x (defScope st) s.heap.objs.size f cdv)) → A.guards = some [] → S ds w0.own Q →
    ∃ t, ASs (cxOf CX0 P w K mg base N x (defScope st) f cdv A outer s H E).nox w0 (defBody st) t ∧ t { nx := fun _ o => Rt Q .non o, rt := Rt Q } (astart N ds) w0.own
theorem kn_def (F : Has K mg x st) (sc : FnScope N ps (defScope st)) (hb : Bd x st ps) (len : ∀ ds o Q, S ds o Q → ds.length = ps.length) (b : Bod P w K mg base x st N k S) : Kn P w K mg base (k + 1) x ps [] S := by
  obtain ⟨f, fd, F, hm⟩ := F
  exact ⟨f, fd, [], [], hm, F.kp, F.bindsN hb, .nil, fun _ => by unfold Dts; rfl, def_ok (funX F) sc len (b f)⟩
theorem knK_def (F : Has K mg x st) (sc : FnScope N ps (defScope st)) (hn : n + ks.length = ps.length) (hb : BdK x st ps n ks) (len : ∀ ds o Q, S ds o Q → ds.length = ps.length) (b : Bod P w K mg base x st N k S) : KnK P w K mg base (k + 1) x ps n ks S := by
  obtain ⟨f, fd, F, hm⟩ := F
  refine ⟨f, fd, hm, F.kp, hn, fun s us ws h1 h2 => ?_, def_ok (funX F) sc len (b f)⟩
  obtain ⟨oc, od, dV, kV, doc, pm, an, cdv, ct, osl, rfl, lk, hcd, hD, hK⟩ := F.ex
  rcases hD with ⟨_, rfl⟩ | ⟨e, _⟩
  · exact .of_eq (hb kV doc pm an cdv ct us ws h1 h2)
  · exact absurd rfl e
theorem bindsOf {f : Addr} {fd : FuncData} (F : FnP K x st [] [] f fd) (hb : Bd x st ps) (s : Shared) (us : List Value) (hl : us.length = ps.length) : BindsTo s fd ⟨us, []⟩ (ps.zip us) := FunD.bindsA F hb s us hl
variable {h : Heap} {fa : List He.Fa} {fn : List He.DefD} {ts : List He.Tab} {ck : PySem.W.Frag → Bool}
theorem has_of (X : K.In h) (G : h.Ns mainGlobals mg) (c : SaysX fa fn ts ck w K) (i j : Nat) (h1 : fa[i]? = some (.glo x) := by rfl) (h2 : fn[j]? = some ⟨(x, none), x, x, defArgs st, defBody st, defScope st, [], []⟩ := by rfl) : Has K mg x st := by
  obtain ⟨fd, F⟩ := c.t.d.def_ j h2
  exact ⟨_, fd, F, He.glo_ok X G (c.t.d.fact i h1)⟩
end
theorem walkGE {l : PySem.W.OpenLaw} {n k : Nat} {q : Program} {loose : List Str} {XP : (Str → Option Value) → Heap → Prop} {YP : World → Heap → Prop} {d : DefRec} {x : Str}
    (hn : l.most = some n) (hn2 : n ≤ sizeLine) (hdf : d.params.defaults = []) (hr : Room k callerA)
    (F : ∀ (w : World) (mg : Str → Option Value) (fa : Addr) (h : Heap), YP w h → h.Ns mainGlobals mg → mg d.name = some (.ref fa) →
      ∃ (K : PySem.W.Frag) (fd : FuncData), K.In h ∧ (∀ (s : Shared) (u : Value), BindsTo s fd ⟨[u], []⟩ [(x, u)]) ∧
        ∀ base : Heap, K.In base → base.Ns mainGlobals mg → FnG l.prog w K mg base CX0 k fa fd [x] (spOf K (spLaw n))) :
    PySem.W.WalkO q loose XP YP l.row.toRowW d [] (fun f vs => PySem.call f vs) := by
  refine Att.attach_call hn hdf fun w s₀ s₁ mg mb fa o pm cd doc a vs ns G Y ho hd hcd hmg hobj hints hlen hg => ?_
  obtain ⟨K, fd, KX, hb, hF⟩ := F w mg fa _ Y G.T.g hmg
  exact law_callG KX G.T.g G.T.b G.T.builtins G.T.nolimit hg hobj hints (Nat.le_trans hlen hn2) hr hF hb ⟨ns, rfl, hlen, rfl, fun _ _ h => h⟩
end L3

/-! printed by gen.py from the row's text -/
namespace R85
open PySem PySem.Spec PyProof.Rows L2 L3
def top (i : Nat) : Stmt := PySem.Challenge.pw_smallreaders_k85_readers_and_books_writt.main.body.getD i (.Pass ⟨0, 0, 0, 0⟩)
def tab_ESCAPED : Str → Option D := fun z => if z = "\n" then some (.str "\\n") else if z = "]" then some (.str "\\]") else if z = "^" then some (.str "\\^") else if z = "\\" then some (.str "\\\\") else none
def d_TIGHT : D := (.tup [(.str "many"), (.str "maybe"), (.str "ahead"), (.str "not"), (.str "hold"), (.str "tag"), (.str "make")])
def tab_MARKS : Str → Option D := fun z => if z = "hold" then some (.str ":") else if z = "tag" then some (.str "@") else if z = "make" then some (.str "#") else none
abbrev s_show_signs : Stmt := top 4
abbrev N_show_signs : List Str := ["signs", "sign"]
abbrev P_show_signs : List Str := ["signs"]
abbrev s_show_within : Stmt := top 5
abbrev N_show_within : List Str := ["reader", "but"]
abbrev P_show_within : List Str := ["reader", "but"]
abbrev s_show_plain : Stmt := top 6
abbrev N_show_plain : List Str := ["word", "pieces"]
abbrev P_show_plain : List Str := ["word", "pieces"]
abbrev s_show_reader : Stmt := top 7
abbrev N_show_reader : List Str := ["reader", "word", "pieces", "names", "part", "shown"]
abbrev P_show_reader : List Str := ["reader"]
abbrev s_show_book : Stmt := top 8
abbrev N_show_book : List Str := ["book", "name", "reader"]
abbrev P_show_book : List Str := ["book"]
abbrev s_law_start : Stmt := top 10
abbrev N_law_start : List Str := ["_law_script"]
abbrev P_law_start : List Str := ["_law_script"]
abbrev s_law_draw : Stmt := top 11
abbrev N_law_draw : List Str := ["_law_pen", "_law_many", "_law_gone", "_law_cell", "_law_low", "_law_high", "_law_digit"]
abbrev P_law_draw : List Str := ["_law_pen", "_law_many"]
abbrev s_law_label : Stmt := top 12
abbrev N_law_label : List Str := ["_law_pen", "_law_letters", "_law_known", "_law_size_here", "_law_spelt", "_law_pick", "_law_k"]
abbrev P_law_label : List Str := ["_law_pen"]
abbrev s_law_signs : Stmt := top 13
abbrev N_law_signs : List Str := ["_law_pen", "_law_least", "_law_every", "_law_share", "_law_some", "_law_sign"]
abbrev P_law_signs : List Str := ["_law_pen", "_law_least"]
abbrev s_law_bare : Stmt := top 14
abbrev N_law_bare : List Str := ["_law_pen", "_law_labels", "_law_way", "_law_some"]
abbrev P_law_bare : List Str := ["_law_pen", "_law_labels"]
abbrev s_law_any : Stmt := top 15
abbrev N_law_any : List Str := ["_law_pen", "_law_deep", "_law_purse", "_law_labels", "_law_way", "_law_part", "_law_many", "_law_parts", "_law_k"]
abbrev P_law_any : List Str := ["_law_pen", "_law_deep", "_law_purse", "_law_labels"]
abbrev s_law_size : Stmt := top 16
abbrev N_law_size : List Str := ["_law_piece", "_law_part"]
abbrev P_law_size : List Str := ["_law_piece"]
abbrev s_law_pages : Stmt := top 17
abbrev N_law_pages : List Str := ["_law_pen", "_law_labels", "_law_k", "_law_purse", "_law_found", "_law_label_here", "_law_piece"]
abbrev P_law_pages : List Str := ["_law_pen"]
abbrev s_law_mark : Stmt := top 18
abbrev N_law_mark : List Str := ["_law_sign"]
abbrev P_law_mark : List Str := ["_law_sign"]
abbrev s_law_shown_in : Stmt := top 19
abbrev N_law_shown_in : List Str := ["_law_piece", "_law_words"]
abbrev P_law_shown_in : List Str := ["_law_piece", "_law_words"]
abbrev s_law_shown : Stmt := top 20
abbrev N_law_shown : List Str := ["_law_piece", "_law_tight", "_law_marks", "_law_word", "_law_part", "_law_sign"]
abbrev P_law_shown : List Str := ["_law_piece"]
abbrev s_law : Stmt := top 21
abbrev N_law : List Str := ["_law_script", "_law_pen", "_law_turn", "_law_pages_here", "_law_kept", "_law_lines", "_law_label_here", "_law_whole", "_law_due"]
abbrev P_law : List Str := ["_law_script"]
theorem sc_show_signs : FnScope N_show_signs P_show_signs (defScope s_show_signs) := ⟨rfl, rfl, rfl, by decide +kernel, rfl, by decide +kernel, by decide +kernel⟩
def T_show_signs (a_ESCAPED : Addr) : ATS :=
  (aRet (aJoin (aC (.str "")) (aFz (aLc (aIt (aV 0)) (gN 1) aYes (aGetTab tab_ESCAPED (aV 1) (aV 1)) [1]))))
theorem w_show_signs {P : Program} {w : World} {K : PySem.W.Frag} {mg : Str → Option Value} {base : Heap} {k : Nat} {a_ESCAPED : Addr}
    (g_ESCAPED : mg "ESCAPED" = some (.ref a_ESCAPED)) (k_ESCAPED : KTab K w a_ESCAPED tab_ESCAPED)
    {f : Addr} {cdv : Value} {A : Around} {outer : List PySem.Env} {s : Shared} {H : Hp} {E : XK} {w0 : Wd} (hr : Room k (A.deeper (envOfC "show_signs" (defScope s_show_signs) s.heap.objs.size f cdv))) (hgd : A.guards = some []) :
    ASs (cxOf CX0 P w K mg base N_show_signs "show_signs" (defScope s_show_signs) f cdv A outer s H E).nox w0 (defBody s_show_signs) (T_show_signs a_ESCAPED) :=
  have hN : (N_show_signs : List Str).Nodup := sc_show_signs.nd
  (as_one (as_ret (ae_join ae_str (ae_fz (an_lc [("sign", 1)] rfl hN (ai_it (ae_v 0)) (blkOk_by (N := N_show_signs) (sc := defScope s_show_signs) (by decide +kernel)) (fun s H C cl fp => (ag_n 1 hN (by decide))) (fun s H C cl fp => ats_nil) (fun s H C cl fp => (ae_getTab k_ESCAPED rfl g_ESCAPED (ae_v 1) (ae_v 1))))))))
theorem sc_show_within : FnScope N_show_within P_show_within (defScope s_show_within) := ⟨rfl, rfl, rfl, by decide +kernel, rfl, by decide +kernel, by decide +kernel⟩
def T_show_within (S_show_reader : L3.Spec) : ATS :=
  (aSeq (aIfS (aB (aBin (fIn false) (aBin fIx (aV 0) (aC (.int 0))) (aV 1))) (aRet (aJoined [(aC (.str "(")), (aFmt (aCall S_show_reader [] (aCons (aV 0) aNil))), (aC (.str ")"))])) aNext)
  (aRet (aCall S_show_reader [] (aCons (aV 0) aNil))))
theorem w_show_within {P : Program} {w : World} {K : PySem.W.Frag} {mg : Str → Option Value} {base : Heap} {k : Nat} {S_show_reader : L3.Spec}
    (F_show_reader : Kn P w K mg base k "show_reader" P_show_reader [] S_show_reader)
    {f : Addr} {cdv : Value} {A : Around} {outer : List PySem.Env} {s : Shared} {H : Hp} {E : XK} {w0 : Wd} (hr : Room k (A.deeper (envOfC "show_within" (defScope s_show_within) s.heap.objs.size f cdv))) (hgd : A.guards = some []) :
    ASs (cxOf CX0 P w K mg base N_show_within "show_within" (defScope s_show_within) f cdv A outer s H E).nox w0 (defBody s_show_within) (T_show_within S_show_reader) :=
  have hN : (N_show_within : List Str).Nodup := sc_show_within.nd
  (as_cons (as_if (at_in (ae_ix (ae_v 0) ae_int) (ae_v 1)) (as_one (as_ret (ae_joined (.cons ae_str (.cons (ae_fmt (ae_call F_show_reader hr hgd rfl (aa_cons (ae_v 0) aa_nil))) (.cons ae_str .nil)))))) as_nil)
    (as_one (as_ret (ae_call F_show_reader hr hgd rfl (aa_cons (ae_v 0) aa_nil)))))
theorem sc_show_plain : FnScope N_show_plain P_show_plain (defScope s_show_plain) := ⟨rfl, rfl, rfl, by decide +kernel, rfl, by decide +kernel, by decide +kernel⟩
def T_show_plain (S_show_signs : L3.Spec) : ATS :=
  (aSeq (aIfS (aB (aBin (fIn false) (aV 0) (aTup (aCons (aC (.str "nothing")) (aCons (aC (.str "never")) aNil))))) (aRet (aIf (aB (aBin (fEq false) (aV 0) (aC (.str "nothing")))) (aC (.str "()")) (aC (.str "~")))) aNext)
  (aSeq (aIfS (aB (aBin (fEq false) (aV 0) (aC (.str "sign")))) (aRet (aJoined [(aC (.str "[")), (aFmt (aCall S_show_signs [] (aCons (aBin fIx (aV 1) (aC (.int 0))) aNil))), (aC (.str "]"))])) aNext)
  (aSeq (aIfS (aB (aBin (fEq false) (aV 0) (aC (.str "but")))) (aRet (aJoined [(aC (.str "[^")), (aFmt (aCall S_show_signs [] (aCons (aBin fIx (aV 1) (aC (.int 0))) aNil))), (aC (.str "]"))])) aNext)
  (aRet (aIf (aB (aBin (fEq false) (aV 0) (aC (.str "name")))) (aBin fIx (aV 1) (aC (.int 0))) (aJoined [(aC (.str "=")), (aFmt (aBin fIx (aV 1) (aC (.int 0))))]))))))
theorem w_show_plain {P : Program} {w : World} {K : PySem.W.Frag} {mg : Str → Option Value} {base : Heap} {k : Nat} {S_show_signs : L3.Spec}
    (F_show_signs : Kn P w K mg base k "show_signs" P_show_signs [] S_show_signs)
    {f : Addr} {cdv : Value} {A : Around} {outer : List PySem.Env} {s : Shared} {H : Hp} {E : XK} {w0 : Wd} (hr : Room k (A.deeper (envOfC "show_plain" (defScope s_show_plain) s.heap.objs.size f cdv))) (hgd : A.guards = some []) :
    ASs (cxOf CX0 P w K mg base N_show_plain "show_plain" (defScope s_show_plain) f cdv A outer s H E).nox w0 (defBody s_show_plain) (T_show_plain S_show_signs) :=
  have hN : (N_show_plain : List Str).Nodup := sc_show_plain.nd
  (as_cons (as_if (at_in (ae_v 0) (ae_tup (aa_cons ae_str (aa_cons ae_str aa_nil)))) (as_one (as_ret (ae_if (at_eq hr (ae_v 0) ae_str) ae_str ae_str))) as_nil)
    (as_cons (as_if (at_eq hr (ae_v 0) ae_str) (as_one (as_ret (ae_joined (.cons ae_str (.cons (ae_fmt (ae_call F_show_signs hr hgd rfl (aa_cons (ae_ix (ae_v 1) ae_int) aa_nil))) (.cons ae_str .nil)))))) as_nil)
    (as_cons (as_if (at_eq hr (ae_v 0) ae_str) (as_one (as_ret (ae_joined (.cons ae_str (.cons (ae_fmt (ae_call F_show_signs hr hgd rfl (aa_cons (ae_ix (ae_v 1) ae_int) aa_nil))) (.cons ae_str .nil)))))) as_nil)
    (as_one (as_ret (ae_if (at_eq hr (ae_v 0) ae_str) (ae_ix (ae_v 1) ae_int) (ae_joined (.cons ae_str (.cons (ae_fmt (ae_ix (ae_v 1) ae_int)) .nil)))))))))
theorem sc_show_reader : FnScope N_show_reader P_show_reader (defScope s_show_reader) := ⟨rfl, rfl, rfl, by decide +kernel, rfl, by decide +kernel, by decide +kernel⟩
def T_show_reader (S_show_within : L3.Spec) (S_show_plain : L3.Spec) (a_MARKS : Addr) : ATS :=
  (aSeq (aAsg (aV 0) (gSt 2 1 (gsCons (gN 1) (gsCons (gN 2) gsNil))))
  (aSeq (aIfS (aB (aBin (fEq false) (aV 1) (aC (.str "choice")))) (aRet (aJoin (aC (.str " / ")) (aFz (aLc (aIt (aBin fIx (aV 2) (aC (.int 0)))) (gN 4) aYes (aCallK S_show_within 1 1 (aCons (aV 4) aNil) (aCons (aTup (aCons (aC (.str "choice")) aNil)) aNil)) [4])))) aNext)
  (aSeq (aIfS (aB (aBin (fEq false) (aV 1) (aC (.str "row")))) (aRet (aJoin (aC (.str " ")) (aFz (aLc (aIt (aBin fIx (aV 2) (aC (.int 0)))) (gN 4) aYes (aCallK S_show_within 1 1 (aCons (aV 4) aNil) (aCons (aTup (aCons (aC (.str "choice")) (aCons (aC (.str "row")) aNil))) aNil)) [4])))) aNext)
  (aSeq (aIfS (aB (aBin (fIn true) (aV 1) (aC d_TIGHT))) (aRet (aCall S_show_plain [] (aCons (aV 1) (aCons (aV 2) aNil)))) aNext)
  (aSeq (aAsg (aV 2) (gSt 2 0 (gsCons (gN 3) (gsCons (gN 4) gsNil))))
  (aSeq (aAsg (aCallK S_show_within 1 1 (aCons (aV 4) aNil) (aCons (aBin fAdd (aTup (aCons (aC (.str "choice")) (aCons (aC (.str "row")) aNil))) (aC d_TIGHT)) aNil)) (gN 5))
  (aSeq (aIfS (aB (aBin (fInTab tab_MARKS a_MARKS false) (aV 1) (aC (.ref a_MARKS)))) (aRet (aJoined [(aFmt (aBin fIx (aV 3) (aC (.int 0)))), (aFmt (aBin (fIxTab tab_MARKS a_MARKS) (aC (.ref a_MARKS)) (aV 1))), (aFmt (aV 5))])) aNext)
  (aSeq (aIfS (aB (aBin (fIn false) (aV 1) (aTup (aCons (aC (.str "ahead")) (aCons (aC (.str "not")) aNil))))) (aRet (aBin fAdd (aIf (aB (aBin (fEq false) (aV 1) (aC (.str "ahead")))) (aC (.str "&")) (aC (.str "!"))) (aV 5))) aNext)
  (aRet (aBin fAdd (aV 5) (aIf (aB (aBin (fEq false) (aV 1) (aC (.str "many")))) (aC (.str "*")) (aC (.str "?")))))))))))))
theorem w_show_reader {P : Program} {w : World} {K : PySem.W.Frag} {mg : Str → Option Value} {base : Heap} {k : Nat} {S_show_within : L3.Spec} {S_show_plain : L3.Spec} {a_MARKS : Addr}
    (F_show_within_k1 : KnK P w K mg base k "show_within" P_show_within 1 ["but"] S_show_within)
    (F_show_plain : Kn P w K mg base k "show_plain" P_show_plain [] S_show_plain)
    {u_TIGHT : Addr} (g_TIGHT : mg "TIGHT" = some (.ref u_TIGHT)) (t_TIGHT : ∀ G, Dt K G d_TIGHT (.ref u_TIGHT))
    (g_MARKS : mg "MARKS" = some (.ref a_MARKS)) (k_MARKS : KTab K w a_MARKS tab_MARKS)
    {f : Addr} {cdv : Value} {A : Around} {outer : List PySem.Env} {s : Shared} {H : Hp} {E : XK} {w0 : Wd} (hr : Room k (A.deeper (envOfC "show_reader" (defScope s_show_reader) s.heap.objs.size f cdv))) (hgd : A.guards = some []) :
    ASs (cxOf CX0 P w K mg base N_show_reader "show_reader" (defScope s_show_reader) f cdv A outer s H E).nox w0 (defBody s_show_reader) (T_show_reader S_show_within S_show_plain a_MARKS) :=
  have hN : (N_show_reader : List Str).Nodup := sc_show_reader.nd
  (as_cons (as_asg (vs := [1, 2]) (ae_v 0) (ag_st (n := 2) (i := 1) rfl (by decide) (ags_cons (ag_n 1 hN (by decide)) (ags_st (ag_n 2 hN (by decide)) ags_nil))))
    (as_cons (as_if (at_eq hr (ae_v 1) ae_str) (as_one (as_ret (ae_join ae_str (ae_fz (an_lc [("part", 4)] rfl hN (ai_it (ae_ix (ae_v 2) ae_int)) (blkOk_by (N := N_show_reader) (sc := defScope s_show_reader) (by decide +kernel)) (fun s H C cl fp => (ag_n 4 hN (by decide))) (fun s H C cl fp => ats_nil) (fun s H C cl fp => (ae_callK F_show_within_k1 hr hgd rfl (aa_cons (ae_v 4) aa_nil) (ak_cons (ae_tup (aa_cons ae_str aa_nil)) ak_nil)))))))) as_nil)
    (as_cons (as_if (at_eq hr (ae_v 1) ae_str) (as_one (as_ret (ae_join ae_str (ae_fz (an_lc [("part", 4)] rfl hN (ai_it (ae_ix (ae_v 2) ae_int)) (blkOk_by (N := N_show_reader) (sc := defScope s_show_reader) (by decide +kernel)) (fun s H C cl fp => (ag_n 4 hN (by decide))) (fun s H C cl fp => ats_nil) (fun s H C cl fp => (ae_callK F_show_within_k1 hr hgd rfl (aa_cons (ae_v 4) aa_nil) (ak_cons (ae_tup (aa_cons ae_str (aa_cons ae_str aa_nil))) ak_nil)))))))) as_nil)
    (as_cons (as_if (at_notin (ae_v 1) (ae_glob (v := .ref u_TIGHT) rfl g_TIGHT rfl t_TIGHT)) (as_one (as_ret (ae_call F_show_plain hr hgd rfl (aa_cons (ae_v 1) (aa_cons (ae_v 2) aa_nil))))) as_nil)
    (as_cons (as_asg (vs := [3, 4]) (ae_v 2) (ag_st (n := 2) (i := 0) rfl (by decide) (ags_st (ag_n 3 hN (by decide)) (ags_cons (ag_n 4 hN (by decide)) ags_nil))))
    (as_cons (as_set 5 hN (ae_callK F_show_within_k1 hr hgd rfl (aa_cons (ae_v 4) aa_nil) (ak_cons (ae_add (ae_tup (aa_cons ae_str (aa_cons ae_str aa_nil))) (ae_glob (v := .ref u_TIGHT) rfl g_TIGHT rfl t_TIGHT)) ak_nil)))
    (as_cons (as_if (at_inTab k_MARKS (ae_v 1) (ae_glob (v := .ref a_MARKS) rfl g_MARKS rfl (fun _ => by unfold Dt; rfl))) (as_one (as_ret (ae_joined (.cons (ae_fmt (ae_ix (ae_v 3) ae_int)) (.cons (ae_fmt (ae_ixTab k_MARKS (ae_glob (v := .ref a_MARKS) rfl g_MARKS rfl (fun _ => by unfold Dt; rfl)) (ae_v 1))) (.cons (ae_fmt (ae_v 5)) .nil)))))) as_nil)
    (as_cons (as_if (at_in (ae_v 1) (ae_tup (aa_cons ae_str (aa_cons ae_str aa_nil)))) (as_one (as_ret (ae_add (ae_if (at_eq hr (ae_v 1) ae_str) ae_str ae_str) (ae_v 5)))) as_nil)
    (as_one (as_ret (ae_add (ae_v 5) (ae_if (at_eq hr (ae_v 1) ae_str) ae_str ae_str))))))))))))
theorem sc_show_book : FnScope N_show_book P_show_book (defScope s_show_book) := ⟨rfl, rfl, rfl, by decide +kernel, rfl, by decide +kernel, by decide +kernel⟩
def T_show_book (S_show_reader : L3.Spec) : ATS :=
  (aRet (aJoin (aC (.str "")) (aFz (aLc (aIt (aV 0)) (gTp 2 (gsCons (gN 1) (gsCons (gN 2) gsNil))) aYes (aJoined [(aFmt (aV 1)), (aC (.str " = ")), (aFmt (aCall S_show_reader [] (aCons (aV 2) aNil))), (aC (.str ";\n"))]) [1, 2]))))
theorem w_show_book {P : Program} {w : World} {K : PySem.W.Frag} {mg : Str → Option Value} {base : Heap} {k : Nat} {S_show_reader : L3.Spec}
    (F_show_reader : Kn P w K mg base k "show_reader" P_show_reader [] S_show_reader)
    {f : Addr} {cdv : Value} {A : Around} {outer : List PySem.Env} {s : Shared} {H : Hp} {E : XK} {w0 : Wd} (hr : Room k (A.deeper (envOfC "show_book" (defScope s_show_book) s.heap.objs.size f cdv))) (hgd : A.guards = some []) :
    ASs (cxOf CX0 P w K mg base N_show_book "show_book" (defScope s_show_book) f cdv A outer s H E).nox w0 (defBody s_show_book) (T_show_book S_show_reader) :=
  have hN : (N_show_book : List Str).Nodup := sc_show_book.nd
  (as_one (as_ret (ae_join ae_str (ae_fz (an_lc [("name", 1), ("reader", 2)] rfl hN (ai_it (ae_v 0)) (blkOk_by (N := N_show_book) (sc := defScope s_show_book) (by decide +kernel)) (fun s H C cl fp => (ag_tp (n := 2) rfl (ags_cons (ag_n 1 hN (by decide)) (ags_cons (ag_n 2 hN (by decide)) ags_nil)))) (fun s H C cl fp => ats_nil) (fun s H C cl fp => (ae_joined (.cons (ae_fmt (ae_v 1)) (.cons ae_str (.cons (ae_fmt (ae_call F_show_reader hr hgd rfl (aa_cons (ae_v 2) aa_nil))) (.cons ae_str .nil)))))))))))
theorem sc_law_start : FnScope N_law_start P_law_start (defScope s_law_start) := ⟨rfl, rfl, rfl, by decide +kernel, rfl, by decide +kernel, by decide +kernel⟩
def T_law_start : ATS :=
  (aRet (aOw (aLst (aCons (aC (.int 0)) (aCons (aFn (f1 gList) (aCons (aSl (aV 0) aNo (aSo (aC (.int 63)))) aNil)) (aCons (aC (.int 0)) aNil))))))
theorem w_law_start {P : Program} {w : World} {K : PySem.W.Frag} {mg : Str → Option Value} {base : Heap} {k : Nat} (b_list : mg "list" = none)
    {f : Addr} {cdv : Value} {A : Around} {outer : List PySem.Env} {s : Shared} {H : Hp} {E : XK} {w0 : Wd} (hr : Room k (A.deeper (envOfC "_law_start" (defScope s_law_start) s.heap.objs.size f cdv))) (hgd : A.guards = some []) :
    ASs (cxOf CX0 P w K mg base N_law_start "_law_start" (defScope s_law_start) f cdv A outer s H E).nox w0 (defBody s_law_start) (T_law_start) :=
  have hN : (N_law_start : List Str).Nodup := sc_law_start.nd
  (as_one (as_ret (ae_ow (an_lst (aa_cons ae_int (aa_cons (ae_list rfl b_list (aa_cons (ae_sl (ae_v 0) ao_none (ao_some ae_int)) aa_nil)) (aa_cons ae_int aa_nil)))))))
theorem sc_law_draw : FnScope N_law_draw P_law_draw (defScope s_law_draw) := ⟨rfl, rfl, rfl, by decide +kernel, rfl, by decide +kernel, by decide +kernel⟩
def T_law_draw : ATS :=
  (aSeq (aIfS (aB (aBin fGt (aBin fIx (aV 0) (aC (.int 2))) (aC (.int 0)))) (aSeq (aAsg (aBin fMod (aBin fIx (aV 0) (aC (.int 2))) (aV 1)) (gN 6))
  (aSeq (aAsg (aBin fDiv (aBin fIx (aV 0) (aC (.int 2))) (aV 1)) (gSubL (aV 0) (aC (.int 2))))
  (aRet (aV 6)))) aNext)
  (aSeq (aAsg (aBin fIx (aV 0) (aC (.int 0))) (gN 2))
  (aSeq (aAsg (aBin fAdd (aV 2) (aC (.int 1))) (gSubL (aV 0) (aC (.int 0))))
  (aSeq (aAsg (aBin fAdd (aBin fAdd (aBin fMul (aBin fMul (aC (.int 61151)) (aV 2)) (aV 2)) (aBin fMul (aC (.int 907)) (aV 2))) (aC (.int 31))) (gN 3))
  (aSeq (aIfS (aB (aBin (fEq true) (aBin fIx (aV 0) (aC (.int 1))) (aFz (aLst aNil)))) (aAsg (aBin fIx (aBin fIx (aV 0) (aC (.int 1))) (aBin fMod (aV 2) (aFn (f1 gLen) (aCons (aBin fIx (aV 0) (aC (.int 1))) aNil)))) (gN 3)) aNext)
  (aSeq (aIfS (aAnd (aB (aBin fLt (aV 2) (aFn (f1 gLen) (aCons (aBin fIx (aV 0) (aC (.int 1))) aNil)))) (aB (aBin fGe (aFn (f1 gAbs) (aCons (aV 3) aNil)) (aBin fPow (aC (.int 10)) (aC (.int 18)))))) (aSeq (aAsg (aBin fDiv (aFn (f1 gAbs) (aCons (aV 3) aNil)) (aV 1)) (gSubL (aV 0) (aC (.int 2))))
  (aRet (aBin fMod (aFn (f1 gAbs) (aCons (aV 3) aNil)) (aV 1)))) aNext)
  (aSeq (aAsg (aBin fMod (aBin fPow (aBin fAdd (aBin fAdd (aBin fMod (aV 3) (aC (.int 2147483549))) (aBin fMul (aC (.int 50021)) (aV 2))) (aC (.int 317))) (aC (.int 5))) (aC (.int 2147483629))) (gN 4))
  (aSeq (aAsg (aBin fMod (aBin fPow (aBin fAdd (aBin fAdd (aBin fMul (aV 4) (aBin fAdd (aV 2) (aC (.int 5)))) (aBin fMul (aBin fMul (aC (.int 70111)) (aV 2)) (aV 2))) (aC (.int 23))) (aC (.int 3))) (aC (.int 2147483579))) (gN 5))
  (aRet (aBin fMod (aBin fDiv (aBin fMod (aBin fAdd (aV 5) (aBin fMul (aBin fMod (aV 4) (aC (.int 40009))) (aC (.int 32771)))) (aC (.int 2147483489))) (aC (.int 64))) (aV 1)))))))))))
theorem w_law_draw {P : Program} {w : World} {K : PySem.W.Frag} {mg : Str → Option Value} {base : Heap} {k : Nat} (b_len : mg "len" = none) (b_abs : mg "abs" = none)
    {f : Addr} {cdv : Value} {A : Around} {outer : List PySem.Env} {s : Shared} {H : Hp} {E : XK} {w0 : Wd} (hr : Room k (A.deeper (envOfC "_law_draw" (defScope s_law_draw) s.heap.objs.size f cdv))) (hgd : A.guards = some []) :
    ASs (cxOf CX0 P w K mg base N_law_draw "_law_draw" (defScope s_law_draw) f cdv A outer s H E).nox w0 (defBody s_law_draw) (T_law_draw) :=
  have hN : (N_law_draw : List Str).Nodup := sc_law_draw.nd
  (as_cons (as_if (at_gt (ae_ix (ae_v 0) ae_int) ae_int) (as_cons (as_set 6 hN (ae_mod (ae_ix (ae_v 0) ae_int) (ae_v 1)))
    (as_cons (as_asg (vs := []) (ae_div (ae_ix (ae_v 0) ae_int) (ae_v 1)) (ag_sub (ae_v 0) ae_int))
    (as_one (as_ret (ae_v 6))))) as_nil)
    (as_cons (as_set 2 hN (ae_ix (ae_v 0) ae_int))
    (as_cons (as_asg (vs := []) (ae_add (ae_v 2) ae_int) (ag_sub (ae_v 0) ae_int))
    (as_cons (as_set 3 hN (ae_add (ae_add (ae_mul (ae_mul ae_int (ae_v 2)) (ae_v 2)) (ae_mul ae_int (ae_v 2))) ae_int))
    (as_cons (as_if (at_ne hr (ae_ix (ae_v 0) ae_int) (ae_fz (an_lst aa_nil))) (as_one (as_set 3 hN (ae_ix (ae_ix (ae_v 0) ae_int) (ae_mod (ae_v 2) (ae_len rfl b_len (aa_cons (ae_ix (ae_v 0) ae_int) aa_nil)))))) as_nil)
    (as_cons (as_if (at_w (aw_and (at_lt (ae_v 2) (ae_len rfl b_len (aa_cons (ae_ix (ae_v 0) ae_int) aa_nil))) (aw_and1 (at_ge (ae_abs rfl b_abs (aa_cons (ae_v 3) aa_nil)) (ae_pow ae_int ae_int))))) (as_cons (as_asg (vs := []) (ae_div (ae_abs rfl b_abs (aa_cons (ae_v 3) aa_nil)) (ae_v 1)) (ag_sub (ae_v 0) ae_int))
    (as_one (as_ret (ae_mod (ae_abs rfl b_abs (aa_cons (ae_v 3) aa_nil)) (ae_v 1))))) as_nil)
    (as_cons (as_set 4 hN (ae_mod (ae_pow (ae_add (ae_add (ae_mod (ae_v 3) ae_int) (ae_mul ae_int (ae_v 2))) ae_int) ae_int) ae_int))
    (as_cons (as_set 5 hN (ae_mod (ae_pow (ae_add (ae_add (ae_mul (ae_v 4) (ae_add (ae_v 2) ae_int)) (ae_mul (ae_mul ae_int (ae_v 2)) (ae_v 2))) ae_int) ae_int) ae_int))
    (as_one (as_ret (ae_mod (ae_div (ae_mod (ae_add (ae_v 5) (ae_mul (ae_mod (ae_v 4) ae_int) ae_int)) ae_int) ae_int) (ae_v 1))))))))))))
theorem sc_law_label : FnScope N_law_label P_law_label (defScope s_law_label) := ⟨rfl, rfl, rfl, by decide +kernel, rfl, by decide +kernel, by decide +kernel⟩
def T_law_label (S_law_draw : L3.Spec) : ATS :=
  (aSeq (aAsg (aC (.str "abcdefghijklmnopqrstuvwxyz")) (gN 1))
  (aSeq (aAsg (aFz (aLst (aCons (aC (.str "text")) (aCons (aC (.str "drop")) (aCons (aC (.str "count")) (aCons (aC (.str "number")) (aCons (aC (.str "name")) (aCons (aC (.str "row")) (aCons (aC (.str "many")) (aCons (aC (.str "not")) (aCons (aC (.str "n")) aNil))))))))))) (gN 2))
  (aSeq (aAsg (aBin fIx (aFz (aLst (aCons (aC (.int 1)) (aCons (aC (.int 8)) (aCons (aBin fAdd (aC (.int 1)) (aCall S_law_draw [] (aCons (aV 0) (aCons (aC (.int 8)) aNil)))) (aCons (aC (.int 2)) aNil)))))) (aCall S_law_draw [] (aCons (aV 0) (aCons (aC (.int 4)) aNil)))) (gN 3))
  (aSeq (aAsg (aJoin (aC (.str "")) (aFz (aLc (aRng1 (aCons (aV 3) aNil)) (gN 6) aYes (aBin fIx (aV 1) (aCall S_law_draw [] (aCons (aV 0) (aCons (aC (.int 26)) aNil)))) [6]))) (gN 4))
  (aSeq (aAsg (aCall S_law_draw [] (aCons (aV 0) (aCons (aC (.int 9)) aNil))) (gN 5))
  (aRet (aBin fIx (aFz (aLst (aCons (aV 4) (aCons (aBin fIx (aV 2) (aV 5)) aNil)))) (aFn (f1 gInt1) (aCons (aBin (fEq false) (aCall S_law_draw [] (aCons (aV 0) (aCons (aC (.int 4)) aNil))) (aC (.int 0))) aNil)))))))))
theorem w_law_label {P : Program} {w : World} {K : PySem.W.Frag} {mg : Str → Option Value} {base : Heap} {k : Nat} {S_law_draw : L3.Spec}
    (F_law_draw : Kn P w K mg base k "_law_draw" P_law_draw [] S_law_draw) (b_range : mg "range" = none) (b_int : mg "int" = none)
    {f : Addr} {cdv : Value} {A : Around} {outer : List PySem.Env} {s : Shared} {H : Hp} {E : XK} {w0 : Wd} (hr : Room k (A.deeper (envOfC "_law_label" (defScope s_law_label) s.heap.objs.size f cdv))) (hgd : A.guards = some []) :
    ASs (cxOf CX0 P w K mg base N_law_label "_law_label" (defScope s_law_label) f cdv A outer s H E).nox w0 (defBody s_law_label) (T_law_label S_law_draw) :=
  have hN : (N_law_label : List Str).Nodup := sc_law_label.nd
  (as_cons (as_set 1 hN ae_str)
    (as_cons (as_set 2 hN (ae_fz (an_lst (aa_cons ae_str (aa_cons ae_str (aa_cons ae_str (aa_cons ae_str (aa_cons ae_str (aa_cons ae_str (aa_cons ae_str (aa_cons ae_str (aa_cons ae_str aa_nil))))))))))))
    (as_cons (as_set 3 hN (ae_ix (ae_fz (an_lst (aa_cons ae_int (aa_cons ae_int (aa_cons (ae_add ae_int (ae_call F_law_draw hr hgd rfl (aa_cons (ae_v 0) (aa_cons ae_int aa_nil)))) (aa_cons ae_int aa_nil)))))) (ae_call F_law_draw hr hgd rfl (aa_cons (ae_v 0) (aa_cons ae_int aa_nil)))))
    (as_cons (as_set 4 hN (ae_join ae_str (ae_fz (an_lc [("_law_k", 6)] rfl hN (ai_rng1 rfl b_range (aa_cons (ae_v 3) aa_nil)) (blkOk_by (N := N_law_label) (sc := defScope s_law_label) (by decide +kernel)) (fun s H C cl fp => (ag_n 6 hN (by decide))) (fun s H C cl fp => ats_nil) (fun s H C cl fp => (ae_ix (ae_v 1) (ae_call F_law_draw hr hgd rfl (aa_cons (ae_v 0) (aa_cons ae_int aa_nil)))))))))
    (as_cons (as_set 5 hN (ae_call F_law_draw hr hgd rfl (aa_cons (ae_v 0) (aa_cons ae_int aa_nil))))
    (as_one (as_ret (ae_ix (ae_fz (an_lst (aa_cons (ae_v 4) (aa_cons (ae_ix (ae_v 2) (ae_v 5)) aa_nil)))) (ae_int1 rfl b_int (aa_cons (ae_eq hr (ae_call F_law_draw hr hgd rfl (aa_cons (ae_v 0) (aa_cons ae_int aa_nil))) ae_int) aa_nil))))))))))
theorem sc_law_signs : FnScope N_law_signs P_law_signs (defScope s_law_signs) := ⟨rfl, rfl, rfl, by decide +kernel, rfl, by decide +kernel, by decide +kernel⟩
def T_law_signs (S_law_draw : L3.Spec) : ATS :=
  (aSeq (aAsg (aC (.str "\n !\"#$&'()*+,-./0129:;<=>?@AZ[\\]^_`abnz{|}~")) (gN 2))
  (aSeq (aAsg (aBin fIx (aFz (aLst (aCons (aC (.int 2)) (aCons (aC (.int 9)) (aCons (aC (.int 24)) (aCons (aC (.int 60)) aNil)))))) (aCall S_law_draw [] (aCons (aV 0) (aCons (aC (.int 4)) aNil)))) (gN 3))
  (aSeq (aAsg (aFz (aLc (aIt (aV 2)) (gN 5) (aB (aBin (fEq false) (aCall S_law_draw [] (aCons (aV 0) (aCons (aV 3) aNil))) (aC (.int 0)))) (aV 5) [5])) (gN 4))
  (aSeq (aIfS (aB (aBin fLt (aFn (f1 gLen) (aCons (aV 4) aNil)) (aV 1))) (aAsg (aFz (aLst (aCons (aBin fIx (aV 2) (aCall S_law_draw [] (aCons (aV 0) (aCons (aFn (f1 gLen) (aCons (aV 2) aNil)) aNil)))) aNil))) (gN 4)) aNext)
  (aRet (aJoin (aC (.str "")) (aSl (aV 4) aNo (aSo (aC (.int 30))))))))))
theorem w_law_signs {P : Program} {w : World} {K : PySem.W.Frag} {mg : Str → Option Value} {base : Heap} {k : Nat} {S_law_draw : L3.Spec}
    (F_law_draw : Kn P w K mg base k "_law_draw" P_law_draw [] S_law_draw) (b_len : mg "len" = none)
    {f : Addr} {cdv : Value} {A : Around} {outer : List PySem.Env} {s : Shared} {H : Hp} {E : XK} {w0 : Wd} (hr : Room k (A.deeper (envOfC "_law_signs" (defScope s_law_signs) s.heap.objs.size f cdv))) (hgd : A.guards = some []) :
    ASs (cxOf CX0 P w K mg base N_law_signs "_law_signs" (defScope s_law_signs) f cdv A outer s H E).nox w0 (defBody s_law_signs) (T_law_signs S_law_draw) :=
  have hN : (N_law_signs : List Str).Nodup := sc_law_signs.nd
  (as_cons (as_set 2 hN ae_str)
    (as_cons (as_set 3 hN (ae_ix (ae_fz (an_lst (aa_cons ae_int (aa_cons ae_int (aa_cons ae_int (aa_cons ae_int aa_nil)))))) (ae_call F_law_draw hr hgd rfl (aa_cons (ae_v 0) (aa_cons ae_int aa_nil)))))
    (as_cons (as_lc 4 [("_law_sign", 5)] rfl hN (ai_it (ae_v 2)) (blkOk_by (N := N_law_signs) (sc := defScope s_law_signs) (by decide +kernel)) (fun s H C cl fp => (ag_n 5 hN (by decide))) (fun s H C cl fp => ats_one (at_eq hr (ae_call F_law_draw hr hgd rfl (aa_cons (ae_v 0) (aa_cons (ae_v 3) aa_nil))) ae_int)) (fun s H C cl fp => (ae_v 5)))
    (as_cons (as_if (at_lt (ae_len rfl b_len (aa_cons (ae_v 4) aa_nil)) (ae_v 1)) (as_one (as_set 4 hN (ae_fz (an_lst (aa_cons (ae_ix (ae_v 2) (ae_call F_law_draw hr hgd rfl (aa_cons (ae_v 0) (aa_cons (ae_len rfl b_len (aa_cons (ae_v 2) aa_nil)) aa_nil)))) aa_nil))))) as_nil)
    (as_one (as_ret (ae_join ae_str (ae_sl (ae_v 4) ao_none (ao_some ae_int)))))))))
theorem sc_law_bare : FnScope N_law_bare P_law_bare (defScope s_law_bare) := ⟨rfl, rfl, rfl, by decide +kernel, rfl, by decide +kernel, by decide +kernel⟩
def T_law_bare (S_law_draw : L3.Spec) (S_law_signs : L3.Spec) (S_law_label : L3.Spec) : ATS :=
  (aSeq (aAsg (aCall S_law_draw [] (aCons (aV 0) (aCons (aC (.int 7)) aNil))) (gN 2))
  (aSeq (aAsg (aFz (aLst (aCons (aTup (aCons (aC (.str "sign")) (aCons (aCall S_law_signs [] (aCons (aV 0) (aCons (aC (.int 1)) aNil))) aNil))) (aCons (aTup (aCons (aC (.str "but")) (aCons (aCall S_law_signs [] (aCons (aV 0) (aCons (aC (.int 0)) aNil))) aNil))) (aCons (aTup (aCons (aC (.str "nothing")) aNil)) (aCons (aTup (aCons (aC (.str "never")) aNil)) aNil)))))) (gN 3))
  (aSeq (aAsg (aBin fAdd (aV 3) (aFz (aLst (aCons (aTup (aCons (aC (.str "again")) (aCons (aCall S_law_label [] (aCons (aV 0) aNil)) aNil))) (aCons (aTup (aCons (aC (.str "name")) (aCons (aBin fIx (aV 1) (aCall S_law_draw [] (aCons (aV 0) (aCons (aFn (f1 gLen) (aCons (aV 1) aNil)) aNil)))) aNil))) aNil))))) (gN 3))
  (aRet (aBin fIx (aBin fAdd (aV 3) (aSl (aV 3) (aSo (aUn fNeg (aC (.int 1)))) aNo)) (aV 2))))))
theorem w_law_bare {P : Program} {w : World} {K : PySem.W.Frag} {mg : Str → Option Value} {base : Heap} {k : Nat} {S_law_draw : L3.Spec} {S_law_signs : L3.Spec} {S_law_label : L3.Spec}
    (F_law_draw : Kn P w K mg base k "_law_draw" P_law_draw [] S_law_draw)
    (F_law_signs : Kn P w K mg base k "_law_signs" P_law_signs [] S_law_signs)
    (F_law_label : Kn P w K mg base k "_law_label" P_law_label [] S_law_label) (b_len : mg "len" = none)
    {f : Addr} {cdv : Value} {A : Around} {outer : List PySem.Env} {s : Shared} {H : Hp} {E : XK} {w0 : Wd} (hr : Room k (A.deeper (envOfC "_law_bare" (defScope s_law_bare) s.heap.objs.size f cdv))) (hgd : A.guards = some []) :
    ASs (cxOf CX0 P w K mg base N_law_bare "_law_bare" (defScope s_law_bare) f cdv A outer s H E).nox w0 (defBody s_law_bare) (T_law_bare S_law_draw S_law_signs S_law_label) :=
  have hN : (N_law_bare : List Str).Nodup := sc_law_bare.nd
  (as_cons (as_set 2 hN (ae_call F_law_draw hr hgd rfl (aa_cons (ae_v 0) (aa_cons ae_int aa_nil))))
    (as_cons (as_set 3 hN (ae_fz (an_lst (aa_cons (ae_tup (aa_cons ae_str (aa_cons (ae_call F_law_signs hr hgd rfl (aa_cons (ae_v 0) (aa_cons ae_int aa_nil))) aa_nil))) (aa_cons (ae_tup (aa_cons ae_str (aa_cons (ae_call F_law_signs hr hgd rfl (aa_cons (ae_v 0) (aa_cons ae_int aa_nil))) aa_nil))) (aa_cons (ae_tup (aa_cons ae_str aa_nil)) (aa_cons (ae_tup (aa_cons ae_str aa_nil)) aa_nil)))))))
    (as_cons (as_set 3 hN (ae_add (ae_v 3) (ae_fz (an_lst (aa_cons (ae_tup (aa_cons ae_str (aa_cons (ae_call F_law_label hr hgd rfl (aa_cons (ae_v 0) aa_nil)) aa_nil))) (aa_cons (ae_tup (aa_cons ae_str (aa_cons (ae_ix (ae_v 1) (ae_call F_law_draw hr hgd rfl (aa_cons (ae_v 0) (aa_cons (ae_len rfl b_len (aa_cons (ae_v 1) aa_nil)) aa_nil)))) aa_nil))) aa_nil))))))
    (as_one (as_ret (ae_ix (ae_add (ae_v 3) (ae_sl (ae_v 3) (ao_some (ae_neg ae_int)) ao_none)) (ae_v 2)))))))
theorem sc_law_any : FnScope N_law_any P_law_any (defScope s_law_any) := ⟨rfl, rfl, rfl, by decide +kernel, rfl, by decide +kernel, by decide +kernel⟩
def T_law_any (S_law_draw : L3.Spec) (S_law_bare : L3.Spec) (S_law_any : L3.Spec) (S_law_label : L3.Spec) : ATS :=
  (aSeq (aAsg (aBin fSub (aBin fIx (aV 2) (aC (.int 0))) (aC (.int 1))) (gSubL (aV 2) (aC (.int 0))))
  (aSeq (aAsg (aCall S_law_draw [] (aCons (aV 0) (aCons (aC (.int 12)) aNil))) (gN 4))
  (aSeq (aIfS (aOr (aB (aBin (fEq false) (aV 1) (aC (.int 1)))) (aOr (aB (aBin fLt (aBin fIx (aV 2) (aC (.int 0))) (aC (.int 7)))) (aB (aBin fLt (aV 4) (aC (.int 3)))))) (aRet (aCall S_law_bare [] (aCons (aV 0) (aCons (aV 3) aNil)))) aNext)
  (aSeq (aIfS (aB (aBin fLt (aV 4) (aC (.int 7)))) (aSeq (aAsg (aBin fIx (aFz (aLst (aCons (aC (.int 2)) (aCons (aC (.int 3)) (aCons (aC (.int 6)) aNil))))) (aBin fDiv (aCall S_law_draw [] (aCons (aV 0) (aCons (aC (.int 8)) aNil))) (aC (.int 3)))) (gN 6))
  (aSeq (aAsg (aFz (aLc (aRng1 (aCons (aV 6) aNil)) (gN 8) aYes (aCall S_law_any [] (aCons (aV 0) (aCons (aBin fSub (aV 1) (aC (.int 1))) (aCons (aV 2) (aCons (aV 3) aNil))))) [8])) (gN 7))
  (aRet (aTup (aCons (aBin fIx (aFz (aLst (aCons (aC (.str "row")) (aCons (aC (.str "choice")) aNil)))) (aBin fMod (aV 4) (aC (.int 2)))) (aCons (aFn (f1 gTuple) (aCons (aV 7) aNil)) aNil)))))) aNext)
  (aSeq (aAsg (aCall S_law_any [] (aCons (aV 0) (aCons (aBin fSub (aV 1) (aC (.int 1))) (aCons (aV 2) (aCons (aV 3) aNil))))) (gN 5))
  (aSeq (aIfS (aB (aBin fLt (aV 4) (aC (.int 10)))) (aRet (aTup (aCons (aBin fIx (aFz (aLst (aCons (aC (.str "many")) (aCons (aC (.str "maybe")) (aCons (aC (.str "ahead")) (aCons (aC (.str "not")) aNil)))))) (aCall S_law_draw [] (aCons (aV 0) (aCons (aC (.int 4)) aNil)))) (aCons (aV 5) aNil)))) aNext)
  (aSeq (aIfS (aB (aBin (fEq false) (aV 4) (aC (.int 10)))) (aRet (aTup (aCons (aC (.str "make")) (aCons (aBin fIx (aFz (aLst (aCons (aC (.str "text")) (aCons (aC (.str "drop")) (aCons (aC (.str "count")) (aCons (aC (.str "number")) aNil)))))) (aCall S_law_draw [] (aCons (aV 0) (aCons (aC (.int 4)) aNil)))) (aCons (aV 5) aNil))))) aNext)
  (aRet (aTup (aCons (aBin fIx (aFz (aLst (aCons (aC (.str "hold")) (aCons (aC (.str "tag")) aNil)))) (aCall S_law_draw [] (aCons (aV 0) (aCons (aC (.int 2)) aNil)))) (aCons (aCall S_law_label [] (aCons (aV 0) aNil)) (aCons (aV 5) aNil))))))))))))
theorem w_law_any {P : Program} {w : World} {K : PySem.W.Frag} {mg : Str → Option Value} {base : Heap} {k : Nat} {S_law_draw : L3.Spec} {S_law_bare : L3.Spec} {S_law_any : L3.Spec} {S_law_label : L3.Spec}
    (F_law_draw : Kn P w K mg base k "_law_draw" P_law_draw [] S_law_draw)
    (F_law_bare : Kn P w K mg base k "_law_bare" P_law_bare [] S_law_bare)
    (F_law_any : Kn P w K mg base k "_law_any" P_law_any [] S_law_any)
    (F_law_label : Kn P w K mg base k "_law_label" P_law_label [] S_law_label) (b_range : mg "range" = none) (b_tuple : mg "tuple" = none)
    {f : Addr} {cdv : Value} {A : Around} {outer : List PySem.Env} {s : Shared} {H : Hp} {E : XK} {w0 : Wd} (hr : Room k (A.deeper (envOfC "_law_any" (defScope s_law_any) s.heap.objs.size f cdv))) (hgd : A.guards = some []) :
    ASs (cxOf CX0 P w K mg base N_law_any "_law_any" (defScope s_law_any) f cdv A outer s H E).nox w0 (defBody s_law_any) (T_law_any S_law_draw S_law_bare S_law_any S_law_label) :=
  have hN : (N_law_any : List Str).Nodup := sc_law_any.nd
  (as_cons (as_asg (vs := []) (ae_subt (ae_ix (ae_v 2) ae_int) ae_int) (ag_sub (ae_v 2) ae_int))
    (as_cons (as_set 4 hN (ae_call F_law_draw hr hgd rfl (aa_cons (ae_v 0) (aa_cons ae_int aa_nil))))
    (as_cons (as_if (at_w (aw_or (at_eq hr (ae_v 1) ae_int) (aw_or (at_lt (ae_ix (ae_v 2) ae_int) ae_int) (aw_or1 (at_lt (ae_v 4) ae_int))))) (as_one (as_ret (ae_call F_law_bare hr hgd rfl (aa_cons (ae_v 0) (aa_cons (ae_v 3) aa_nil))))) as_nil)
    (as_cons (as_if (at_lt (ae_v 4) ae_int) (as_cons (as_set 6 hN (ae_ix (ae_fz (an_lst (aa_cons ae_int (aa_cons ae_int (aa_cons ae_int aa_nil))))) (ae_div (ae_call F_law_draw hr hgd rfl (aa_cons (ae_v 0) (aa_cons ae_int aa_nil))) ae_int)))
    (as_cons (as_lc 7 [("_law_k", 8)] rfl hN (ai_rng1 rfl b_range (aa_cons (ae_v 6) aa_nil)) (blkOk_by (N := N_law_any) (sc := defScope s_law_any) (by decide +kernel)) (fun s H C cl fp => (ag_n 8 hN (by decide))) (fun s H C cl fp => ats_nil) (fun s H C cl fp => (ae_call F_law_any hr hgd rfl (aa_cons (ae_v 0) (aa_cons (ae_subt (ae_v 1) ae_int) (aa_cons (ae_v 2) (aa_cons (ae_v 3) aa_nil)))))))
    (as_one (as_ret (ae_tup (aa_cons (ae_ix (ae_fz (an_lst (aa_cons ae_str (aa_cons ae_str aa_nil)))) (ae_mod (ae_v 4) ae_int)) (aa_cons (ae_tuple rfl b_tuple (aa_cons (ae_v 7) aa_nil)) aa_nil))))))) as_nil)
    (as_cons (as_set 5 hN (ae_call F_law_any hr hgd rfl (aa_cons (ae_v 0) (aa_cons (ae_subt (ae_v 1) ae_int) (aa_cons (ae_v 2) (aa_cons (ae_v 3) aa_nil))))))
    (as_cons (as_if (at_lt (ae_v 4) ae_int) (as_one (as_ret (ae_tup (aa_cons (ae_ix (ae_fz (an_lst (aa_cons ae_str (aa_cons ae_str (aa_cons ae_str (aa_cons ae_str aa_nil)))))) (ae_call F_law_draw hr hgd rfl (aa_cons (ae_v 0) (aa_cons ae_int aa_nil)))) (aa_cons (ae_v 5) aa_nil))))) as_nil)
    (as_cons (as_if (at_eq hr (ae_v 4) ae_int) (as_one (as_ret (ae_tup (aa_cons ae_str (aa_cons (ae_ix (ae_fz (an_lst (aa_cons ae_str (aa_cons ae_str (aa_cons ae_str (aa_cons ae_str aa_nil)))))) (ae_call F_law_draw hr hgd rfl (aa_cons (ae_v 0) (aa_cons ae_int aa_nil)))) (aa_cons (ae_v 5) aa_nil)))))) as_nil)
    (as_one (as_ret (ae_tup (aa_cons (ae_ix (ae_fz (an_lst (aa_cons ae_str (aa_cons ae_str aa_nil)))) (ae_call F_law_draw hr hgd rfl (aa_cons (ae_v 0) (aa_cons ae_int aa_nil)))) (aa_cons (ae_call F_law_label hr hgd rfl (aa_cons (ae_v 0) aa_nil)) (aa_cons (ae_v 5) aa_nil)))))))))))))
theorem sc_law_size : FnScope N_law_size P_law_size (defScope s_law_size) := ⟨rfl, rfl, rfl, by decide +kernel, rfl, by decide +kernel, by decide +kernel⟩
def T_law_size (S_law_size : L3.Spec) : ATS :=
  (aSeq (aIfS (aB (aBin (fIn false) (aBin fIx (aV 0) (aC (.int 0))) (aTup (aCons (aC (.str "row")) (aCons (aC (.str "choice")) aNil))))) (aRet (aBin fAdd (aC (.int 1)) (aFn (f1 gSum) (aCons (aFz (aLc (aIt (aBin fIx (aV 0) (aC (.int 1)))) (gN 1) aYes (aCall S_law_size [] (aCons (aV 1) aNil)) [1])) aNil)))) aNext)
  (aSeq (aIfS (aB (aBin (fIn false) (aBin fIx (aV 0) (aC (.int 0))) (aTup (aCons (aC (.str "many")) (aCons (aC (.str "maybe")) (aCons (aC (.str "ahead")) (aCons (aC (.str "not")) aNil))))))) (aRet (aBin fAdd (aC (.int 1)) (aCall S_law_size [] (aCons (aBin fIx (aV 0) (aC (.int 1))) aNil)))) aNext)
  (aSeq (aIfS (aB (aBin (fIn false) (aBin fIx (aV 0) (aC (.int 0))) (aTup (aCons (aC (.str "hold")) (aCons (aC (.str "tag")) (aCons (aC (.str "make")) aNil)))))) (aRet (aBin fAdd (aC (.int 1)) (aCall S_law_size [] (aCons (aBin fIx (aV 0) (aC (.int 2))) aNil)))) aNext)
  (aRet (aC (.int 1))))))
theorem w_law_size {P : Program} {w : World} {K : PySem.W.Frag} {mg : Str → Option Value} {base : Heap} {k : Nat} {S_law_size : L3.Spec}
    (F_law_size : Kn P w K mg base k "_law_size" P_law_size [] S_law_size) (b_sum : mg "sum" = none)
    {f : Addr} {cdv : Value} {A : Around} {outer : List PySem.Env} {s : Shared} {H : Hp} {E : XK} {w0 : Wd} (hr : Room k (A.deeper (envOfC "_law_size" (defScope s_law_size) s.heap.objs.size f cdv))) (hgd : A.guards = some []) :
    ASs (cxOf CX0 P w K mg base N_law_size "_law_size" (defScope s_law_size) f cdv A outer s H E).nox w0 (defBody s_law_size) (T_law_size S_law_size) :=
  have hN : (N_law_size : List Str).Nodup := sc_law_size.nd
  (as_cons (as_if (at_in (ae_ix (ae_v 0) ae_int) (ae_tup (aa_cons ae_str (aa_cons ae_str aa_nil)))) (as_one (as_ret (ae_add ae_int (ae_sum rfl rfl b_sum (aa_cons (ae_fz (an_lc [("_law_part", 1)] rfl hN (ai_it (ae_ix (ae_v 0) ae_int)) (blkOk_by (N := N_law_size) (sc := defScope s_law_size) (by decide +kernel)) (fun s H C cl fp => (ag_n 1 hN (by decide))) (fun s H C cl fp => ats_nil) (fun s H C cl fp => (ae_call F_law_size hr hgd rfl (aa_cons (ae_v 1) aa_nil))))) aa_nil))))) as_nil)
    (as_cons (as_if (at_in (ae_ix (ae_v 0) ae_int) (ae_tup (aa_cons ae_str (aa_cons ae_str (aa_cons ae_str (aa_cons ae_str aa_nil)))))) (as_one (as_ret (ae_add ae_int (ae_call F_law_size hr hgd rfl (aa_cons (ae_ix (ae_v 0) ae_int) aa_nil))))) as_nil)
    (as_cons (as_if (at_in (ae_ix (ae_v 0) ae_int) (ae_tup (aa_cons ae_str (aa_cons ae_str (aa_cons ae_str aa_nil))))) (as_one (as_ret (ae_add ae_int (ae_call F_law_size hr hgd rfl (aa_cons (ae_ix (ae_v 0) ae_int) aa_nil))))) as_nil)
    (as_one (as_ret ae_int)))))
theorem sc_law_pages : FnScope N_law_pages P_law_pages (defScope s_law_pages) := ⟨rfl, rfl, rfl, by decide +kernel, rfl, by decide +kernel, by decide +kernel⟩
def T_law_pages (S_law_draw : L3.Spec) (S_law_label : L3.Spec) (S_law_any : L3.Spec) (S_law_size : L3.Spec) (S_law_bare : L3.Spec) : ATS :=
  (aSeq (aAsg (aOw (aLst aNil)) (gN 1))
  (aSeq (aFor (aRng1 (aCons (aBin fIx (aFz (aLst (aCons (aC (.int 1)) (aCons (aC (.int 2)) (aCons (aBin fAdd (aC (.int 1)) (aCall S_law_draw [] (aCons (aV 0) (aCons (aC (.int 8)) aNil)))) (aCons (aC (.int 8)) aNil)))))) (aCall S_law_draw [] (aCons (aV 0) (aCons (aC (.int 4)) aNil)))) aNil)) (gN 2) (aSeq (aAsg (aCall S_law_label [] (aCons (aV 0) aNil)) (gN 5))
  (aIfS (aB (aBin (fIn true) (aV 5) (aV 1))) (aDrop (aApp (aV 1) (aV 5))) aNext)))
  (aSeq (aAsg (aOw (aLst (aCons (aC (.int 0)) aNil))) (gN 3))
  (aSeq (aAsg (aOw (aLst aNil)) (gN 4))
  (aSeq (aFor (aIt (aV 1)) (gN 5) (aSeq (aAsg (aBin fDiv (aC (.int 56)) (aFn (f1 gLen) (aCons (aV 1) aNil))) (gSubL (aV 3) (aC (.int 0))))
  (aSeq (aAsg (aCall S_law_any [] (aCons (aV 0) (aCons (aBin fAdd (aC (.int 1)) (aCall S_law_draw [] (aCons (aV 0) (aCons (aC (.int 8)) aNil)))) (aCons (aV 3) (aCons (aV 1) aNil))))) (gN 6))
  (aSeq (aIfS (aB (aBin fGt (aCall S_law_size [] (aCons (aV 6) aNil)) (aBin fDiv (aC (.int 72)) (aFn (f1 gLen) (aCons (aV 1) aNil))))) (aAsg (aCall S_law_bare [] (aCons (aV 0) (aCons (aV 1) aNil))) (gN 6)) aNext)
  (aDrop (aApp (aV 4) (aTup (aCons (aV 5) (aCons (aV 6) aNil)))))))))
  (aRet (aFn (f1 gTuple) (aCons (aV 4) aNil))))))))
theorem w_law_pages {P : Program} {w : World} {K : PySem.W.Frag} {mg : Str → Option Value} {base : Heap} {k : Nat} {S_law_draw : L3.Spec} {S_law_label : L3.Spec} {S_law_any : L3.Spec} {S_law_size : L3.Spec} {S_law_bare : L3.Spec}
    (F_law_draw : Kn P w K mg base k "_law_draw" P_law_draw [] S_law_draw)
    (F_law_label : Kn P w K mg base k "_law_label" P_law_label [] S_law_label)
    (F_law_any : Kn P w K mg base k "_law_any" P_law_any [] S_law_any)
    (F_law_size : Kn P w K mg base k "_law_size" P_law_size [] S_law_size)
    (F_law_bare : Kn P w K mg base k "_law_bare" P_law_bare [] S_law_bare) (b_range : mg "range" = none) (b_len : mg "len" = none) (b_tuple : mg "tuple" = none)
    {f : Addr} {cdv : Value} {A : Around} {outer : List PySem.Env} {s : Shared} {H : Hp} {E : XK} {w0 : Wd} (hr : Room k (A.deeper (envOfC "_law_pages" (defScope s_law_pages) s.heap.objs.size f cdv))) (hgd : A.guards = some []) :
    ASs (cxOf CX0 P w K mg base N_law_pages "_law_pages" (defScope s_law_pages) f cdv A outer s H E).nox w0 (defBody s_law_pages) (T_law_pages S_law_draw S_law_label S_law_any S_law_size S_law_bare) :=
  have hN : (N_law_pages : List Str).Nodup := sc_law_pages.nd
  (as_cons (as_set 1 hN (ae_ow (an_lst aa_nil)))
    (as_cons (as_for (vs := [2]) PassesOwn.never rfl (ai_rng1 rfl b_range (aa_cons (ae_ix (ae_fz (an_lst (aa_cons ae_int (aa_cons ae_int (aa_cons (ae_add ae_int (ae_call F_law_draw hr hgd rfl (aa_cons (ae_v 0) (aa_cons ae_int aa_nil)))) (aa_cons ae_int aa_nil)))))) (ae_call F_law_draw hr hgd rfl (aa_cons (ae_v 0) (aa_cons ae_int aa_nil)))) aa_nil)) (ag_n 2 hN (by decide)) (as_cons (as_set 5 hN (ae_call F_law_label hr hgd rfl (aa_cons (ae_v 0) aa_nil)))
    (as_one (as_if (at_notin (ae_v 5) (ae_v 1)) (as_one (as_expr (ae_append (ae_v 1) (ae_v 5)))) as_nil))))
    (as_cons (as_set 3 hN (ae_ow (an_lst (aa_cons ae_int aa_nil))))
    (as_cons (as_set 4 hN (ae_ow (an_lst aa_nil)))
    (as_cons (as_for (vs := [5]) PassesOwn.never rfl (ai_it (ae_v 1)) (ag_n 5 hN (by decide)) (as_cons (as_asg (vs := []) (ae_div ae_int (ae_len rfl b_len (aa_cons (ae_v 1) aa_nil))) (ag_sub (ae_v 3) ae_int))
    (as_cons (as_set 6 hN (ae_call F_law_any hr hgd rfl (aa_cons (ae_v 0) (aa_cons (ae_add ae_int (ae_call F_law_draw hr hgd rfl (aa_cons (ae_v 0) (aa_cons ae_int aa_nil)))) (aa_cons (ae_v 3) (aa_cons (ae_v 1) aa_nil))))))
    (as_cons (as_if (at_gt (ae_call F_law_size hr hgd rfl (aa_cons (ae_v 6) aa_nil)) (ae_div ae_int (ae_len rfl b_len (aa_cons (ae_v 1) aa_nil)))) (as_one (as_set 6 hN (ae_call F_law_bare hr hgd rfl (aa_cons (ae_v 0) (aa_cons (ae_v 1) aa_nil))))) as_nil)
    (as_one (as_expr (ae_append (ae_v 4) (ae_tup (aa_cons (ae_v 5) (aa_cons (ae_v 6) aa_nil))))))))))
    (as_one (as_ret (ae_tuple rfl b_tuple (aa_cons (ae_v 4) aa_nil)))))))))
theorem sc_law_mark : FnScope N_law_mark P_law_mark (defScope s_law_mark) := ⟨rfl, rfl, rfl, by decide +kernel, rfl, by decide +kernel, by decide +kernel⟩
def T_law_mark : ATS :=
  (aSeq (aIfS (aB (aBin (fEq false) (aV 0) (aC (.str "\n")))) (aRet (aC (.str "\\n"))) aNext)
  (aSeq (aIfS (aB (aBin (fIn false) (aV 0) (aC (.str "]^\\")))) (aRet (aBin fAdd (aC (.str "\\")) (aV 0))) aNext)
  (aRet (aV 0))))
theorem w_law_mark {P : Program} {w : World} {K : PySem.W.Frag} {mg : Str → Option Value} {base : Heap} {k : Nat}
    {f : Addr} {cdv : Value} {A : Around} {outer : List PySem.Env} {s : Shared} {H : Hp} {E : XK} {w0 : Wd} (hr : Room k (A.deeper (envOfC "_law_mark" (defScope s_law_mark) s.heap.objs.size f cdv))) (hgd : A.guards = some []) :
    ASs (cxOf CX0 P w K mg base N_law_mark "_law_mark" (defScope s_law_mark) f cdv A outer s H E).nox w0 (defBody s_law_mark) (T_law_mark) :=
  have hN : (N_law_mark : List Str).Nodup := sc_law_mark.nd
  (as_cons (as_if (at_eq hr (ae_v 0) ae_str) (as_one (as_ret ae_str)) as_nil)
    (as_cons (as_if (at_in (ae_v 0) ae_str) (as_one (as_ret (ae_add ae_str (ae_v 0)))) as_nil)
    (as_one (as_ret (ae_v 0)))))
theorem sc_law_shown_in : FnScope N_law_shown_in P_law_shown_in (defScope s_law_shown_in) := ⟨rfl, rfl, rfl, by decide +kernel, rfl, by decide +kernel, by decide +kernel⟩
def T_law_shown_in (S_law_shown : L3.Spec) : ATS :=
  (aSeq (aIfS (aB (aBin (fIn false) (aBin fIx (aV 0) (aC (.int 0))) (aV 1))) (aRet (aBin fAdd (aBin fAdd (aC (.str "(")) (aCall S_law_shown [] (aCons (aV 0) aNil))) (aC (.str ")")))) aNext)
  (aRet (aCall S_law_shown [] (aCons (aV 0) aNil))))
theorem w_law_shown_in {P : Program} {w : World} {K : PySem.W.Frag} {mg : Str → Option Value} {base : Heap} {k : Nat} {S_law_shown : L3.Spec}
    (F_law_shown : Kn P w K mg base k "_law_shown" P_law_shown [] S_law_shown)
    {f : Addr} {cdv : Value} {A : Around} {outer : List PySem.Env} {s : Shared} {H : Hp} {E : XK} {w0 : Wd} (hr : Room k (A.deeper (envOfC "_law_shown_in" (defScope s_law_shown_in) s.heap.objs.size f cdv))) (hgd : A.guards = some []) :
    ASs (cxOf CX0 P w K mg base N_law_shown_in "_law_shown_in" (defScope s_law_shown_in) f cdv A outer s H E).nox w0 (defBody s_law_shown_in) (T_law_shown_in S_law_shown) :=
  have hN : (N_law_shown_in : List Str).Nodup := sc_law_shown_in.nd
  (as_cons (as_if (at_in (ae_ix (ae_v 0) ae_int) (ae_v 1)) (as_one (as_ret (ae_add (ae_add ae_str (ae_call F_law_shown hr hgd rfl (aa_cons (ae_v 0) aa_nil))) ae_str))) as_nil)
    (as_one (as_ret (ae_call F_law_shown hr hgd rfl (aa_cons (ae_v 0) aa_nil)))))
theorem sc_law_shown : FnScope N_law_shown P_law_shown (defScope s_law_shown) := ⟨rfl, rfl, rfl, by decide +kernel, rfl, by decide +kernel, by decide +kernel⟩
def T_law_shown (S_law_mark : L3.Spec) (S_law_shown_in : L3.Spec) : ATS :=
  (aSeq (aAsg (aFz (aLst (aCons (aC (.str "choice")) (aCons (aC (.str "row")) (aCons (aC (.str "hold")) (aCons (aC (.str "tag")) (aCons (aC (.str "make")) (aCons (aC (.str "ahead")) (aCons (aC (.str "not")) (aCons (aC (.str "many")) (aCons (aC (.str "maybe")) aNil))))))))))) (gN 1))
  (aSeq (aAsg (aC (.dct (dTab [("hold", ":"), ("tag", "@"), ("make", "#"), ("ahead", "&"), ("not", "!"), ("many", "*"), ("maybe", "?")]))) (gN 2))
  (aSeq (aAsg (aBin fIx (aV 0) (aC (.int 0))) (gN 3))
  (aSeq (aIfS (aB (aBin (fIn false) (aV 3) (aTup (aCons (aC (.str "nothing")) (aCons (aC (.str "never")) aNil))))) (aRet (aBin fIx (aFz (aLst (aCons (aC (.str "()")) (aCons (aC (.str "~")) aNil)))) (aFn (f1 gInt1) (aCons (aBin (fEq false) (aV 3) (aC (.str "never"))) aNil)))) aNext)
  (aSeq (aIfS (aB (aBin (fIn false) (aV 3) (aTup (aCons (aC (.str "sign")) (aCons (aC (.str "but")) aNil))))) (aRet (aBin fAdd (aBin fAdd (aBin fAdd (aC (.str "[")) (aBin fMul (aC (.str "^")) (aFn (f1 gInt1) (aCons (aBin (fEq false) (aV 3) (aC (.str "but"))) aNil)))) (aJoin (aC (.str "")) (aFz (aLc (aIt (aBin fIx (aV 0) (aC (.int 1)))) (gN 5) aYes (aCall S_law_mark [] (aCons (aV 5) aNil)) [5])))) (aC (.str "]")))) aNext)
  (aSeq (aIfS (aB (aBin (fIn false) (aV 3) (aTup (aCons (aC (.str "name")) (aCons (aC (.str "again")) aNil))))) (aRet (aBin fAdd (aBin fMul (aC (.str "=")) (aFn (f1 gInt1) (aCons (aBin (fEq false) (aV 3) (aC (.str "again"))) aNil))) (aBin fIx (aV 0) (aC (.int 1))))) aNext)
  (aSeq (aIfS (aB (aBin (fEq false) (aV 3) (aC (.str "row")))) (aRet (aJoin (aC (.str " ")) (aFz (aLc (aIt (aBin fIx (aV 0) (aC (.int 1)))) (gN 4) aYes (aCall S_law_shown_in [] (aCons (aV 4) (aCons (aFz (aLst (aCons (aC (.str "choice")) (aCons (aC (.str "row")) aNil)))) aNil))) [4])))) aNext)
  (aSeq (aIfS (aB (aBin (fEq false) (aV 3) (aC (.str "choice")))) (aRet (aJoin (aC (.str " / ")) (aFz (aLc (aIt (aBin fIx (aV 0) (aC (.int 1)))) (gN 4) aYes (aCall S_law_shown_in [] (aCons (aV 4) (aCons (aFz (aLst (aCons (aC (.str "choice")) aNil))) aNil))) [4])))) aNext)
  (aSeq (aAsg (aCall S_law_shown_in [] (aCons (aBin fIx (aV 0) (aUn fNeg (aC (.int 1)))) (aCons (aV 1) aNil))) (gN 4))
  (aSeq (aIfS (aB (aBin (fIn false) (aV 3) (aTup (aCons (aC (.str "many")) (aCons (aC (.str "maybe")) aNil))))) (aRet (aBin fAdd (aV 4) (aBin (fIxD [("hold", ":"), ("tag", "@"), ("make", "#"), ("ahead", "&"), ("not", "!"), ("many", "*"), ("maybe", "?")]) (aV 2) (aV 3)))) aNext)
  (aRet (aBin fAdd (aBin fAdd (aJoin (aC (.str "")) (aFn (f1 gList) (aCons (aSl (aV 0) (aSo (aC (.int 1))) (aSo (aUn fNeg (aC (.int 1))))) aNil))) (aBin (fIxD [("hold", ":"), ("tag", "@"), ("make", "#"), ("ahead", "&"), ("not", "!"), ("many", "*"), ("maybe", "?")]) (aV 2) (aV 3))) (aV 4)))))))))))))
theorem w_law_shown {P : Program} {w : World} {K : PySem.W.Frag} {mg : Str → Option Value} {base : Heap} {k : Nat} {S_law_mark : L3.Spec} {S_law_shown_in : L3.Spec}
    (F_law_mark : Kn P w K mg base k "_law_mark" P_law_mark [] S_law_mark)
    (F_law_shown_in : Kn P w K mg base k "_law_shown_in" P_law_shown_in [] S_law_shown_in) (b_int : mg "int" = none) (b_list : mg "list" = none)
    {f : Addr} {cdv : Value} {A : Around} {outer : List PySem.Env} {s : Shared} {H : Hp} {E : XK} {w0 : Wd} (hr : Room k (A.deeper (envOfC "_law_shown" (defScope s_law_shown) s.heap.objs.size f cdv))) (hgd : A.guards = some []) :
    ASs (cxOf CX0 P w K mg base N_law_shown "_law_shown" (defScope s_law_shown) f cdv A outer s H E).nox w0 (defBody s_law_shown) (T_law_shown S_law_mark S_law_shown_in) :=
  have hN : (N_law_shown : List Str).Nodup := sc_law_shown.nd
  (as_cons (as_set 1 hN (ae_fz (an_lst (aa_cons ae_str (aa_cons ae_str (aa_cons ae_str (aa_cons ae_str (aa_cons ae_str (aa_cons ae_str (aa_cons ae_str (aa_cons ae_str (aa_cons ae_str aa_nil))))))))))))
    (as_cons (as_set 2 hN (ae_dlit [("hold", ":"), ("tag", "@"), ("make", "#"), ("ahead", "&"), ("not", "!"), ("many", "*"), ("maybe", "?")] (pps_cons pe_str pe_str (pps_cons pe_str pe_str (pps_cons pe_str pe_str (pps_cons pe_str pe_str (pps_cons pe_str pe_str (pps_cons pe_str pe_str (pps_cons pe_str pe_str pps_nil)))))))))
    (as_cons (as_set 3 hN (ae_ix (ae_v 0) ae_int))
    (as_cons (as_if (at_in (ae_v 3) (ae_tup (aa_cons ae_str (aa_cons ae_str aa_nil)))) (as_one (as_ret (ae_ix (ae_fz (an_lst (aa_cons ae_str (aa_cons ae_str aa_nil)))) (ae_int1 rfl b_int (aa_cons (ae_eq hr (ae_v 3) ae_str) aa_nil))))) as_nil)
    (as_cons (as_if (at_in (ae_v 3) (ae_tup (aa_cons ae_str (aa_cons ae_str aa_nil)))) (as_one (as_ret (ae_add (ae_add (ae_add ae_str (ae_mul ae_str (ae_int1 rfl b_int (aa_cons (ae_eq hr (ae_v 3) ae_str) aa_nil)))) (ae_join ae_str (ae_fz (an_lc [("_law_sign", 5)] rfl hN (ai_it (ae_ix (ae_v 0) ae_int)) (blkOk_by (N := N_law_shown) (sc := defScope s_law_shown) (by decide +kernel)) (fun s H C cl fp => (ag_n 5 hN (by decide))) (fun s H C cl fp => ats_nil) (fun s H C cl fp => (ae_call F_law_mark hr hgd rfl (aa_cons (ae_v 5) aa_nil))))))) ae_str))) as_nil)
    (as_cons (as_if (at_in (ae_v 3) (ae_tup (aa_cons ae_str (aa_cons ae_str aa_nil)))) (as_one (as_ret (ae_add (ae_mul ae_str (ae_int1 rfl b_int (aa_cons (ae_eq hr (ae_v 3) ae_str) aa_nil))) (ae_ix (ae_v 0) ae_int)))) as_nil)
    (as_cons (as_if (at_eq hr (ae_v 3) ae_str) (as_one (as_ret (ae_join ae_str (ae_fz (an_lc [("_law_part", 4)] rfl hN (ai_it (ae_ix (ae_v 0) ae_int)) (blkOk_by (N := N_law_shown) (sc := defScope s_law_shown) (by decide +kernel)) (fun s H C cl fp => (ag_n 4 hN (by decide))) (fun s H C cl fp => ats_nil) (fun s H C cl fp => (ae_call F_law_shown_in hr hgd rfl (aa_cons (ae_v 4) (aa_cons (ae_fz (an_lst (aa_cons ae_str (aa_cons ae_str aa_nil)))) aa_nil))))))))) as_nil)
    (as_cons (as_if (at_eq hr (ae_v 3) ae_str) (as_one (as_ret (ae_join ae_str (ae_fz (an_lc [("_law_part", 4)] rfl hN (ai_it (ae_ix (ae_v 0) ae_int)) (blkOk_by (N := N_law_shown) (sc := defScope s_law_shown) (by decide +kernel)) (fun s H C cl fp => (ag_n 4 hN (by decide))) (fun s H C cl fp => ats_nil) (fun s H C cl fp => (ae_call F_law_shown_in hr hgd rfl (aa_cons (ae_v 4) (aa_cons (ae_fz (an_lst (aa_cons ae_str aa_nil))) aa_nil))))))))) as_nil)
    (as_cons (as_set 4 hN (ae_call F_law_shown_in hr hgd rfl (aa_cons (ae_ix (ae_v 0) (ae_neg ae_int)) (aa_cons (ae_v 1) aa_nil))))
    (as_cons (as_if (at_in (ae_v 3) (ae_tup (aa_cons ae_str (aa_cons ae_str aa_nil)))) (as_one (as_ret (ae_add (ae_v 4) (ae_ixD [("hold", ":"), ("tag", "@"), ("make", "#"), ("ahead", "&"), ("not", "!"), ("many", "*"), ("maybe", "?")] hr (ae_v 2) (ae_v 3))))) as_nil)
    (as_one (as_ret (ae_add (ae_add (ae_join ae_str (ae_list rfl b_list (aa_cons (ae_sl (ae_v 0) (ao_some ae_int) (ao_some (ae_neg ae_int))) aa_nil))) (ae_ixD [("hold", ":"), ("tag", "@"), ("make", "#"), ("ahead", "&"), ("not", "!"), ("many", "*"), ("maybe", "?")] hr (ae_v 2) (ae_v 3))) (ae_v 4))))))))))))))
theorem sc_law : FnScope N_law P_law (defScope s_law) := ⟨rfl, rfl, rfl, by decide +kernel, rfl, by decide +kernel, by decide +kernel⟩
def T_law (S_law_start : L3.Spec) (S_law_pages : L3.Spec) (S_law_shown : L3.Spec) (S_show_reader : L3.Spec) (S_show_book : L3.Spec) : ATS :=
  (aSeq (aAsg (aCall S_law_start [] (aCons (aV 0) aNil)) (gN 1))
  (aSeq (aFor (aRng1 (aCons (aC (.int 4)) aNil)) (gN 2) (aSeq (aAsg (aCall S_law_pages [] (aCons (aV 1) aNil)) (gN 3))
  (aSeq (aAsg (aFn (f1 gRepr) (aCons (aV 3) aNil)) (gN 4))
  (aSeq (aAsg (aOw (aLst aNil)) (gN 5))
  (aSeq (aFor (aIt (aV 3)) (gTp 2 (gsCons (gN 6) (gsCons (gN 7) gsNil))) (aSeq (aAsg (aCall S_law_shown [] (aCons (aV 7) aNil)) (gN 8))
  (aSeq (aDrop (aApp (aV 5) (aBin fAdd (aBin fAdd (aBin fAdd (aV 6) (aC (.str " = "))) (aV 8)) (aC (.str ";\n")))))
  (aIfS (aOr (aNot (aTru (aFn fIsi (aCons (aCall S_show_reader [] (aCons (aV 7) aNil)) (aCons (aC (.ty "str")) aNil))))) (aOr (aB (aBin (fEq true) (aCall S_show_reader [] (aCons (aV 7) aNil)) (aV 8))) (aB (aBin (fEq true) (aCall S_show_reader [] (aCons (aV 7) aNil)) (aV 8))))) (aRet (aC (.bl false))) aNext))))
  (aIfS (aOr (aB (aBin (fEq true) (aCall S_show_book [] (aCons (aV 3) aNil)) (aJoin (aC (.str "")) (aV 5)))) (aOr (aB (aBin (fEq true) (aCall S_show_book [] (aCons (aV 3) aNil)) (aJoin (aC (.str "")) (aV 5)))) (aB (aBin (fEq true) (aFn (f1 gRepr) (aCons (aV 3) aNil)) (aV 4))))) (aRet (aC (.bl false))) aNext))))))
  (aRet (aC (.bl true)))))
theorem w_law {P : Program} {w : World} {K : PySem.W.Frag} {mg : Str → Option Value} {base : Heap} {k : Nat} {S_law_start : L3.Spec} {S_law_pages : L3.Spec} {S_law_shown : L3.Spec} {S_show_reader : L3.Spec} {S_show_book : L3.Spec}
    (F_law_start : Kn P w K mg base k "_law_start" P_law_start [] S_law_start)
    (F_law_pages : Kn P w K mg base k "_law_pages" P_law_pages [] S_law_pages)
    (F_law_shown : Kn P w K mg base k "_law_shown" P_law_shown [] S_law_shown)
    (F_show_reader : Kn P w K mg base k "show_reader" P_show_reader [] S_show_reader)
    (F_show_reader_k0 : KnK P w K mg base k "show_reader" P_show_reader 0 ["reader"] S_show_reader)
    (F_show_book : Kn P w K mg base k "show_book" P_show_book [] S_show_book)
    (F_show_book_k0 : KnK P w K mg base k "show_book" P_show_book 0 ["book"] S_show_book) (b_range : mg "range" = none) (b_repr : mg "repr" = none) (b_str : mg "str" = none) (b_isinstance : mg "isinstance" = none)
    {f : Addr} {cdv : Value} {A : Around} {outer : List PySem.Env} {s : Shared} {H : Hp} {E : XK} {w0 : Wd} (hr : Room k (A.deeper (envOfC "law" (defScope s_law) s.heap.objs.size f cdv))) (hgd : A.guards = some []) :
    ASs (cxOf CX0 P w K mg base N_law "law" (defScope s_law) f cdv A outer s H E).nox w0 (defBody s_law) (T_law S_law_start S_law_pages S_law_shown S_show_reader S_show_book) :=
  have hN : (N_law : List Str).Nodup := sc_law.nd
  (as_cons (as_set 1 hN (ae_call F_law_start hr hgd rfl (aa_cons (ae_v 0) aa_nil)))
    (as_cons (as_for (vs := [2]) PassesOwn.never rfl (ai_rng1 rfl b_range (aa_cons ae_int aa_nil)) (ag_n 2 hN (by decide)) (as_cons (as_set 3 hN (ae_call F_law_pages hr hgd rfl (aa_cons (ae_v 1) aa_nil)))
    (as_cons (as_set 4 hN (ae_repr hr hgd rfl b_repr (aa_cons (ae_v 3) aa_nil)))
    (as_cons (as_set 5 hN (ae_ow (an_lst aa_nil)))
    (as_cons (as_for (vs := [6, 7]) PassesOwn.never rfl (ai_it (ae_v 3)) (ag_tp (n := 2) rfl (ags_cons (ag_n 6 hN (by decide)) (ags_cons (ag_n 7 hN (by decide)) ags_nil))) (as_cons (as_set 8 hN (ae_call F_law_shown hr hgd rfl (aa_cons (ae_v 7) aa_nil)))
    (as_cons (as_expr (ae_append (ae_v 5) (ae_add (ae_add (ae_add (ae_v 6) ae_str) (ae_v 8)) ae_str)))
    (as_one (as_if (at_w (aw_or (at_not (at_tru (ae_isi rfl b_isinstance (aa_cons (ae_call F_show_reader hr hgd rfl (aa_cons (ae_v 7) aa_nil)) (aa_cons (ae_ty "str" rfl b_str rfl) aa_nil))))) (aw_or (at_ne hr (ae_call F_show_reader hr hgd rfl (aa_cons (ae_v 7) aa_nil)) (ae_v 8)) (aw_or1 (at_ne hr (ae_callK0 F_show_reader_k0 hr hgd rfl (ak_cons (ae_v 7) ak_nil)) (ae_v 8)))))) (as_one (as_ret ae_bl)) as_nil)))))
    (as_one (as_if (at_w (aw_or (at_ne hr (ae_call F_show_book hr hgd rfl (aa_cons (ae_v 3) aa_nil)) (ae_join ae_str (ae_v 5))) (aw_or (at_ne hr (ae_callK0 F_show_book_k0 hr hgd rfl (ak_cons (ae_v 3) ak_nil)) (ae_join ae_str (ae_v 5))) (aw_or1 (at_ne hr (ae_repr hr hgd rfl b_repr (aa_cons (ae_v 3) aa_nil)) (ae_v 4)))))) (as_one (as_ret ae_bl)) as_nil)))))))
    (as_one (as_ret ae_bl))))
end R85

namespace R85
open PySem PySem.Spec PyProof.Rows L2 L3
/-! ### the pen: start and draw -/
def S_start : L3.Spec := fun ds own P => ∃ ns : List Int, ds = [.kls (ns.map D.int)] ∧ ns.length ≤ 63 ∧ ∀ p pen, own p = none → Pn (2 ^ 59) pen → P (.ref p) (oset own p (.lst pen))
def S_draw : L3.Spec := fun ds own P => ∃ p pen many b, ds = [.ref p, .int many] ∧ own p = some (.lst pen) ∧ Pn (b + 1) pen ∧ 0 < many ∧ many < 2 ^ 40 ∧ ∀ k pen', 0 ≤ k → k < many → Pn b pen' → P (.int k) (oset own p (.lst pen'))
theorem p_draw {ds : List D} {own : Own} {Q : D → Own → Prop} (h : S_draw ds own Q) : T_law_draw { nx := fun _ o => Rt Q .non o, rt := Rt Q } (astart N_law_draw ds) own := by
  obtain ⟨p, pen, many, b, rfl, ho, ⟨g, ns, d, rfl, g0, g1, hn, d0⟩, m0, m1, k⟩ := h
  have gs : Sm 61 g := .ofLt g0 (by omega)
  have c : ∀ {n : Nat}, n < 2 ^ 40 → Sm 40 (n : Int) := fun h => .ofLt (by omega) (by omega)
  have f1 : CMulW 61151 g := Sm.cmul (c (n := 61151) (by decide)) gs
  have f2 : CMulW (61151 * g) g := ((c (n := 61151) (by decide)).mul gs).cmul gs
  have f3 : CMulW 907 g := Sm.cmul (c (n := 907) (by decide)) gs
  have f4 : CPowD 10 18 := by refine ⟨by decide, by decide, by decide⟩
  have f5 : ∀ i, CDivW i many := fun i => Sm.cdiv m0 (.ofLt (Int.le_of_lt m0) (by omega) : Sm 40 many)
  have f6 : CMulW 50021 g := Sm.cmul (c (n := 50021) (by decide)) gs
  have f7 : ∀ x : Int, CPowD (x % 2147483549 + 50021 * g + 317) 5 := fun x =>
    (((Sm.mod (by decide) (c (n := 2147483549) (by decide))).mono (by decide : 40 ≤ 101)).add ((c (n := 50021) (by decide)).mul gs) |>.add ((c (n := 317) (by decide)).mono (by decide))).cpow (by decide) (by decide)
  have f8 : ∀ x : Int, CMulW (x % 2147483629) (g + 5) := fun x => (Sm.mod (by decide) (c (n := 2147483629) (by decide))).cmul (gs.add ((c (n := 5) (by decide)).mono (by decide)))
  have f9 : CMulW 70111 g := Sm.cmul (c (n := 70111) (by decide)) gs
  have f10 : CMulW (70111 * g) g := ((c (n := 70111) (by decide)).mul gs).cmul gs
  have f11 : ∀ x : Int, CPowD (x % 2147483629 * (g + 5) + 70111 * g * g + 23) 3 := fun x =>
    ((((Sm.mod (by decide) (c (n := 2147483629) (by decide))).mul (gs.add ((c (n := 5) (by decide)).mono (by decide)))).mono (by decide : 40 + 62 ≤ 162)).add (((c (n := 70111) (by decide)).mul gs).mul gs) |>.add ((c (n := 23) (by decide)).mono (by decide))).cpow (by decide) (by decide)
  have f12 : ∀ x : Int, CMulW (x % 40009) 32771 := fun x => (Sm.mod (by decide) (c (n := 40009) (by decide))).cmul (c (n := 32771) (by decide))
  have f13 : ∀ x : Int, CDivW x 64 := fun i => Sm.cdiv (by decide) (c (n := 64) (by decide))
  have fin : ∀ (x : Int) (g' d' : Int), 0 ≤ g' → g' ≤ g + 1 → 0 ≤ d' → Rt Q (.int (x % many)) (oset own p (.lst [.int g', .lst (ns.map .int), .int d'])) := fun x g' d' h1 h2 h3 =>
    Rt.mk (k _ _ (Int.emod_nonneg _ (Int.ne_of_gt m0)) (Int.emod_lt_of_pos _ m0) ⟨g', ns, d', rfl, h1, by omega, hn, h3⟩)
  simp only [T_law_draw, astart, N_law_draw, List.length_cons, List.length_nil]
  by_cases dp : 0 < d
  · simp [x_seeR ho, x_ownL ho, dp, m0, f5]
    exact fin _ _ _ g0 (by omega) (Int.ediv_nonneg d0 (Int.le_of_lt m0))
  · have ng : ¬ g < 0 := by omega
    by_cases ne : ns = []
    · subst ne
      have a0 : eqAsk (.lst []) (.lst []) := ask_ints (ns := [])
      simp [x_seeR ho, x_ownL ho, dp, m0, f1, f2, f3, f4, f5, f6, f7, f8, f9, f10, f11, f12, f13, oset_oset, oset_same, x_seeR oset_same, x_ownL oset_same, ng, a0]
      exact fin _ _ _ (by omega) (by omega) d0
    · have l0 : 0 < ns.length := List.length_pos_iff.mpr ne
      have l1 : (0 : Int) < (ns.length : Int) := by omega
      obtain ⟨z, hz, hm⟩ := x_atN (l := ns.map D.int) (i := g % (ns.length : Int)) (Int.emod_nonneg _ (Int.ne_of_gt l1)) (by rw [List.length_map]; exact Int.emod_lt_of_pos _ l1)
      obtain ⟨i, _, rfl⟩ := List.mem_map.mp hm
      simp [x_seeR ho, x_ownL ho, dp, m0, f1, f2, f3, f4, f5, f6, f7, f8, f9, f10, f11, f12, f13, oset_oset, oset_same, x_seeR oset_same, x_ownL oset_same, ne, l0, hz]
      have ie : ns.isEmpty = false := by simpa using ne
      have ab : (0 : Int) ≤ if i < 0 then -i else i := by split <;> omega
      by_cases q1 : g < (ns.length : Int)
      · by_cases q2 : (1000000000000000000 : Int) ≤ if i < 0 then -i else i
        · simp [q1, q2, ie]; exact fin _ _ _ (by omega) (by omega) (Int.ediv_nonneg ab (Int.le_of_lt m0))
        · simp [q1, q2, ie]; exact fin _ _ _ (by omega) (by omega) d0
      · simp [q1, ie]; exact fin _ _ _ (by omega) (by omega) d0
theorem p_start {ds : List D} {own : Own} {Q : D → Own → Prop} (h : S_start ds own Q) : T_law_start { nx := fun _ o => Rt Q .non o, rt := Rt Q } (astart N_law_start ds) own := by
  obtain ⟨ns, rfl, hn, k⟩ := h
  obtain ⟨l', e1, e2⟩ := cut_map D.int ns none (some 63)
  simp [T_law_start, astart, N_law_start, e1]
  intro p hp
  exact Rt.mk (k p _ hp ⟨0, l', 0, rfl, by decide, by decide, by omega, by decide⟩)

/-- what a caller may use of draw -/
def UDraw (S : L3.Spec) : Prop := ∀ (own : Own) (P : D → Own → Prop) (p : Addr) (pen : List D) (many : Int) (b : Nat), own p = some (.lst pen) → Pn (b + 1) pen → 0 < many → many < 1000000 → (∀ k pen', 0 ≤ k → k < many → Pn b pen' → P (.int k) (oset own p (.lst pen'))) → S [.ref p, .int many] own P
theorem uDraw : UDraw S_draw := fun own P p pen many b ho hp h0 h1 h => ⟨p, pen, many, b, rfl, ho, hp, h0, by omega, h⟩
/-- a label -/
def Lab (x : Str) : Prop := x.length ≤ 8 ∧ PyData.strOk x = true
def S_label : L3.Spec := fun ds own P => ∃ p pen b, ds = [.ref p] ∧ own p = some (.lst pen) ∧ Pn (b + 20) pen ∧ ∀ x pen', Lab x → Pn b pen' → P (.str x) (oset own p (.lst pen'))
theorem strOk_all {x : Str} : PyData.strOk x = x.cps.toList.all fun c => decide (c < 0x110000) := by unfold PyData.strOk; rw [Array.all_toList]
theorem lc_label {S_draw : L3.Spec} (hd : UDraw S_draw) {own : Own} {p : Addr} {al : Str} {e1 e2 e3 e4 e5 e6 : Option D} (ha : al.length = 26) (hb : PyData.strOk al = true) {P : List D → Own → Prop} : ∀ (n j : Nat) (acc : List Str) (pen : List D) (b : Nat), Pn (b + n) pen → (∀ y ∈ acc, y.length = 1 ∧ PyData.strOk y = true) →
    (∀ (l : List Str) pen', l.length = acc.length + n → (∀ y ∈ l, y.length = 1 ∧ PyData.strOk y = true) → Pn b pen' → P (l.map .str) (oset own p (.lst pen'))) →
    aLcL (gN 6) aYes (aBin fIx (aV 1) (aCall S_draw [] (aCons (aV 0) (aCons (aC (.int 26)) aNil)))) (fun _ => True) [some (.ref p), some (.str al), e2, e3, e4, e5, e6] P ((List.range' j n).map fun (i : Nat) => D.int (0 + (i : Int))) (acc.map .str) (oset own p (.lst pen))
  | 0, j, acc, pen, b, hp, hc, h => by
    refine ⟨trivial, ?_⟩
    exact h acc pen (by simp) hc hp
  | n + 1, j, acc, pen, b, hp, hc, h => by
    rw [List.range'_succ, List.map_cons, x_lcC]
    refine ⟨trivial, ?_⟩
    simp
    refine hd _ _ _ _ _ (b + n) oset_same hp (by decide) (by decide) fun k pen' k0 k1 hp' => ?_
    simp [oset_oset, ha]
    refine atA k0 (by rw [← len_cs, ha]; exact k1) fun c hm => ?_
    have hk : (⟨#[c]⟩ : Str).length = 1 ∧ PyData.strOk ⟨#[c]⟩ = true := ⟨rfl, by
      rw [strOk_all] at hb ⊢
      simp only [List.all_eq_true] at hb ⊢
      intro d hd; simp only [List.mem_singleton] at hd; subst hd; exact hb _ hm⟩
    have := lc_label hd (e1 := e1) (e2 := e2) (e3 := e3) (e4 := e4) (e5 := e5) (e6 := e6) (own := own) (p := p) ha hb (P := P) n (j + 1) (acc ++ [⟨#[c]⟩]) pen' b hp' (fun y hy => by rcases List.mem_append.mp hy with hy | hy; exact hc y hy; rw [List.mem_singleton.mp hy]; exact hk) (fun l pen2 hl => h l pen2 (by simp at hl ⊢; omega))
    simpa using this
theorem sum_one : ∀ {l : List Str}, (∀ y ∈ l, y.length = 1 ∧ PyData.strOk y = true) → (l.map (·.length)).sum = l.length
  | [], _ => rfl
  | x :: l, h => by
    have := sum_one (l := l) fun y hy => h y (List.mem_cons_of_mem _ hy)
    simp only [List.map_cons, List.sum_cons, List.length_cons, this, (h x (List.mem_cons_self ..)).1]; omega
theorem join_ok : ∀ {l : List Str}, (∀ y ∈ l, y.length = 1 ∧ PyData.strOk y = true) → (Str.join Str.empty l).length = l.length ∧ PyData.strOk (Str.join Str.empty l) = true := by
  intro l h
  have e := join_emp l
  constructor
  · rw [len_cs, e, List.length_flatten, ← sum_one h, show (l.map (·.cps.toList)).map List.length = l.map (·.length) from by rw [List.map_map]; apply List.map_congr_left; intro a _; exact (len_cs a).symm]

  · rw [strOk_all, e]
    simp only [List.all_eq_true, List.mem_flatten, List.mem_map]
    rintro c ⟨_, ⟨y, hy, rfl⟩, hc⟩
    have := (h y hy).2
    rw [strOk_all, List.all_eq_true] at this
    exact this c hc
theorem p_label {S_draw : L3.Spec} (hd : UDraw S_draw) {ds : List D} {own : Own} {Q : D → Own → Prop} (h : S_label ds own Q) : T_law_label S_draw { nx := fun _ o => Rt Q .non o, rt := Rt Q } (astart N_law_label ds) own := by
  obtain ⟨p, pen, b, rfl, ho, hp, k⟩ := h
  simp [T_law_label, astart, N_law_label]
  refine hd _ _ _ _ _ (b + 19) ho hp (by decide) (by decide) fun k1 pen1 a1 a2 hp1 => ?_
  simp
  refine hd _ _ _ _ _ (b + 18) oset_same hp1 (by decide) (by decide) fun k2 pen2 b1 b2 hp2 => ?_
  simp [oset_oset]
  have rest : ∀ n : Nat, n ≤ 8 → ∀ z : Int, z = n → (-4611686018427387904 ≤ z ∧ z ≤ 16777216) ∧ aLcL (gN 6) aYes (aBin fIx (aV 1) (aCall S_draw [] (aCons (aV 0) (aCons (aC (.int 26)) aNil)))) (fun _ => True) (wipeA [some (.ref p), some (.str "abcdefghijklmnopqrstuvwxyz"), some (.lst [.str "text", .str "drop", .str "count", .str "number", .str "name", .str "row", .str "many", .str "not", .str "n"]), some (.int z), none, none, none] [6])
      (fun ds o => fJoin o (D.str Str.empty) (D.lst ds) fun z =>
              S_draw [D.ref p, D.int 9] o fun d o =>
                fIx0
                  (D.lst
                    [D.str (Str.ofString "text"), D.str (Str.ofString "drop"), D.str (Str.ofString "count"),
                      D.str (Str.ofString "number"), D.str (Str.ofString "name"), D.str (Str.ofString "row"),
                      D.str (Str.ofString "many"), D.str (Str.ofString "not"), D.str (Str.ofString "n")])
                  (see o d) fun z_1 =>
                  S_draw [D.ref p, D.int 4] o fun d o1 =>
                    eqAsk (see o1 d) (D.int 0) ∧
                      oP (atI [z, z_1] (if deq (see o1 d) (D.int 0) = true then 1 else 0)) fun z => Rt Q z o1) (rng 0 z.toNat) [] (oset own p (.lst pen2)) := by
    intro n hn z hz
    subst hz
    refine ⟨by omega, ?_⟩
    have := lc_label hd (own := own) (p := p) (al := "abcdefghijklmnopqrstuvwxyz") (e1 := none) (e2 := some (.lst [.str "text", .str "drop", .str "count", .str "number", .str "name", .str "row", .str "many", .str "not", .str "n"])) (e3 := some (.int n)) (e4 := none) (e5 := none) (e6 := none) (by decide +kernel) (by decide +kernel)
      (P := fun ds o => fJoin o (D.str Str.empty) (D.lst ds) fun z =>
              S_draw [D.ref p, D.int 9] o fun d o =>
                fIx0
                  (D.lst
                    [D.str (Str.ofString "text"), D.str (Str.ofString "drop"), D.str (Str.ofString "count"),
                      D.str (Str.ofString "number"), D.str (Str.ofString "name"), D.str (Str.ofString "row"),
                      D.str (Str.ofString "many"), D.str (Str.ofString "not"), D.str (Str.ofString "n")])
                  (see o d) fun z_1 =>
                  S_draw [D.ref p, D.int 4] o fun d o1 =>
                    eqAsk (see o1 d) (D.int 0) ∧
                      oP (atI [z, z_1] (if deq (see o1 d) (D.int 0) = true then 1 else 0)) fun z => Rt Q z o1) n 0 [] pen2 (b + 10) (hp2.mono (by omega)) (by simp) (fun l pen' hl hok hp' => by
        rw [x_join]
        have hs := sum_one hok
        have hj := join_ok hok
        simp at hl
        refine ⟨by rw [hs]; simp; omega, ?_⟩
        refine hd _ _ _ _ _ (b + 9) oset_same hp' (by decide) (by decide) fun k3 pen3 c1 c2 hp3 => ?_
        simp [oset_oset]
        refine atA c1 (by simpa using c2) fun d hm => ?_
        have hlab : ∃ y : Str, d = .str y ∧ Lab y := by
          simp at hm
          rcases hm with rfl | rfl | rfl | rfl | rfl | rfl | rfl | rfl | rfl <;> exact ⟨_, rfl, by decide +kernel, by decide +kernel⟩
        obtain ⟨y, rfl, hy⟩ := hlab
        refine hd _ _ _ _ _ (b + 8) oset_same hp3 (by decide) (by decide) fun k4 pen4 d1 d2 hp4 => ?_
        simp [oset_oset]
        by_cases q : k4 = 0
        · simp [q]; exact Rt.mk (k _ _ hy (hp4.mono (by omega)))
        · simp [q]; exact Rt.mk (k _ _ ⟨by rw [hj.1]; omega, hj.2⟩ (hp4.mono (by omega))))
    have e : rng 0 ((n : Int)).toNat = (List.range' 0 n).map fun (i : Nat) => D.int (0 + (i : Int)) := by simp [rng, List.range_eq_range']
    rw [e]; exact this
  refine at4 b1 b2 ?_ ?_ ?_ ?_
  · exact rest 1 (by decide) _ rfl
  · exact rest 8 (by decide) _ rfl
  · exact rest (1 + k1).toNat (by omega) _ (by omega)
  · exact rest 2 (by decide) _ rfl

/-- signs -/
def S_signs : L3.Spec := fun ds own P => ∃ p pen least b, ds = [.ref p, .int least] ∧ own p = some (.lst pen) ∧ Pn (b + 60) pen ∧ ∀ x pen', x.length ≤ 30 → PyData.strOk x = true → Pn b pen' → P (.str x) (oset own p (.lst pen'))
def One (y : Str) : Prop := y.length = 1 ∧ PyData.strOk y = true
theorem one_sign {c : Nat} (h : c < 0x110000) : One ⟨#[c]⟩ := ⟨rfl, by rw [strOk_all]; simpa using h⟩
theorem lc_signs {S_draw : L3.Spec} (hd : UDraw S_draw) {own : Own} {p : Addr} {e1 e2 e4 e5 : Option D} {sh : Int} (h0 : 0 < sh) (h1 : sh < 1000000) {P : List D → Own → Prop} : ∀ (cs : List Nat) (acc : List Str) (pen : List D) (b : Nat), (∀ c ∈ cs, c < 0x110000) → Pn (b + cs.length) pen → (∀ y ∈ acc, One y) →
    (∀ (l : List Str) pen', (∀ y ∈ l, One y) → l.length ≤ acc.length + cs.length → Pn b pen' → P (l.map .str) (oset own p (.lst pen'))) →
    aLcL (gN 5) (aB (aBin (fEq false) (aCall S_draw [] (aCons (aV 0) (aCons (aV 3) aNil))) (aC (.int 0)))) (aV 5) (fun _ => True) [some (.ref p), e1, e2, some (.int sh), e4, e5] P (cs.map fun c => .str ⟨#[c]⟩) (acc.map .str) (oset own p (.lst pen))
  | [], acc, pen, b, hb, hp, hc, h => ⟨trivial, h acc pen hc (by simp) hp⟩
  | c :: cs, acc, pen, b, hb, hp, hc, h => by
    rw [List.map_cons, x_lcC]
    refine ⟨trivial, ?_⟩
    simp
    refine hd _ _ _ _ _ (b + cs.length) oset_same hp h0 h1 fun k pen' k0 k1 hp' => ?_
    simp [oset_oset]
    have hb' : ∀ d ∈ cs, d < 0x110000 := fun d hm => hb d (List.mem_cons_of_mem _ hm)
    by_cases q : k = 0
    · simp [q]
      have := lc_signs hd (own := own) (p := p) (e1 := e1) (e2 := e2) (e4 := e4) (e5 := e5) h0 h1 (P := P) cs (acc ++ [⟨#[c]⟩]) pen' b hb' hp' (fun y hy => by rcases List.mem_append.mp hy with hy | hy; exact hc y hy; rw [List.mem_singleton.mp hy]; exact one_sign (hb c (List.mem_cons_self ..))) (fun l pen2 hl hn => h l pen2 hl (by simp at hn ⊢; omega))
      simpa using this
    · have q' : (k == 0) = false := by simpa using q
      simp only [q']
      exact lc_signs hd h0 h1 cs acc pen' b hb' hp' hc fun l pen2 hl hn => h l pen2 hl (by simp at hn ⊢; omega)
def everyS : Str := ("\n !\"#$&'()*+,-./0129:;<=>?@AZ[\\]^_`abnz{|}~" : Str)
theorem p_signs {S_draw : L3.Spec} (hd : UDraw S_draw) {ds : List D} {own : Own} {Q : D → Own → Prop} (h : S_signs ds own Q) : T_law_signs S_draw { nx := fun _ o => Rt Q .non o, rt := Rt Q } (astart N_law_signs ds) own := by
  obtain ⟨p, pen, least, b, rfl, ho, hp, k⟩ := h
  have el : everyS.cps.toList.length = 43 := by decide +kernel
  have ek : ∀ c ∈ everyS.cps.toList, c < 0x110000 := by decide +kernel
  have es : everyS.cps.size ≤ 16777216 := by decide +kernel
  have es2 : everyS.length ≤ 16777216 := by decide +kernel
  have en : everyS.length = 43 := by decide +kernel
  have ee : (Str.ofString "\n !\"#$&'()*+,-./0129:;<=>?@AZ[\\]^_`abnz{|}~") = everyS := rfl
  simp only [T_law_signs, ee]
  generalize everyS = ev at *
  simp [astart, N_law_signs]
  refine hd _ _ _ _ _ (b + 59) ho hp (by decide) (by decide) fun k1 pen1 a1 a2 hp1 => ?_
  simp [es]
  have rest : ∀ (l : List Str), (∀ y ∈ l, One y) → l.length ≤ 43 → ∀ pen', Pn b pen' → ∀ o, o = oset own p (.lst pen') → fJoin o (D.str Str.empty) (.lst (L3.cutD (l.map .str) none (some 30))) fun z => Rt Q z o := by
    intro l hl hn pen' hp' o eo
    subst eo
    obtain ⟨l', e1, e2⟩ := cut_map D.str l none (some 30)
    have e3 : l' = (l.take 30) := by
      unfold L3.cutD at e1
      have : HT.sIx (l.map D.str).length 0 none = 0 := rfl
      have h30 : HT.sIx (l.map D.str).length (l.map D.str).length (some 30) = min 30 l.length := by
        rw [List.length_map]; exact HT.sIx_nat _ _ 30
      rw [this, h30, List.drop_zero, Nat.sub_zero, ← List.map_take] at e1
      have := List.map_inj_right (f := D.str) (by intro a b h; cases h; rfl) |>.mp e1
      rw [← this]
      rw [List.take_eq_take_iff]; omega
    subst e3
    have ht : ∀ y ∈ l.take 30, One y := fun y hy => hl y (List.mem_of_mem_take hy)
    have hs := sum_one ht
    have hj := join_ok ht
    have hlen : (l.take 30).length ≤ 30 := by simp; omega
    rw [e1, x_join]
    refine ⟨by rw [hs]; simp at hlen ⊢; omega, Rt.mk (k _ _ (by rw [hj.1]; exact hlen) hj.2 hp')⟩
  have go : ∀ sh : Int, 0 < sh → sh < 1000000 → aLcL (gN 5) (aB (aBin (fEq false) (aCall S_draw [] (aCons (aV 0) (aCons (aV 3) aNil))) (aC (D.int 0)))) (aV 5)
      (fun x => True) (wipeA [some (D.ref p), some (D.int least), some (D.str ev), some (.int sh), none, none] [5])
      (fun ds o =>
        match decide ((ds.length : Int) < least) with
        | true =>
          ev.length ≤ 16777216 ∧
            S_draw [D.ref p, D.int ev.length] o fun e o2 =>
              fIx0 (D.str ev) (see o2 e) fun z =>
                fJoin o2 (D.str Str.empty) (D.lst (L3.cutD [z] none (some 30))) fun z => Rt Q z o2
        | false => fJoin o (D.str Str.empty) (D.lst (L3.cutD ds none (some 30))) fun z => Rt Q z o)
      (L3.signs ev) [] (oset own p (MO.lst pen1)) := by
    intro sh s0 s1
    refine lc_signs hd (own := own) (p := p) s0 s1 ev.cps.toList [] pen1 (b + 5) ek (hp1.mono (by omega)) (by simp) fun l pen' hl hn hp' => ?_
    simp only [List.length_nil, Nat.zero_add] at hn
    by_cases q : ((l.map D.str).length : Int) < least
    · simp only [q, decide_true]
      refine ⟨es2, ?_⟩
      refine hd _ _ _ _ _ (b + 4) oset_same hp' (by omega) (by omega) fun k2 pen2 b1 b2 hp2 => ?_
      simp [oset_oset, es2]
      refine atA b1 (by omega) fun c hm => ?_
      exact rest [⟨#[c]⟩] (by simpa using one_sign (ek c hm)) (by simp) pen2 (hp2.mono (by omega)) _ rfl
    · simp only [q, decide_false]
      exact rest l hl (by rw [el] at hn; exact hn) pen' (hp'.mono (by omega)) _ rfl
  refine at4 a1 a2 (go _ ?_ ?_) (go _ ?_ ?_) (go _ ?_ ?_) (go _ ?_ ?_) <;> decide

/-! ### readers as data -/
inductive Rdr where
  | leaf (w : Str)
  | sg (w x : Str)
  | nm (w l : Str)
  | seq (w : Str) (ps : List Rdr)
  | one (w : Str) (p : Rdr)
  | two (w l : Str) (p : Rdr)
namespace Rdr
mutual
def toD : Rdr → D
  | .leaf w => .tup [.str w]
  | .sg w x => .tup [.str w, .str x]
  | .nm w l => .tup [.str w, .str l]
  | .seq w ps => .tup [.str w, .tup (toDs ps)]
  | .one w p => .tup [.str w, toD p]
  | .two w l p => .tup [.str w, .str l, toD p]
def toDs : List Rdr → List D
  | [] => []
  | r :: rs => toD r :: toDs rs
end
mutual
def size : Rdr → Nat
  | .leaf _ => 1
  | .sg _ _ => 1
  | .nm _ _ => 1
  | .seq _ ps => 1 + sizes ps
  | .one _ p => 1 + size p
  | .two _ _ p => 1 + size p
def sizes : List Rdr → Nat
  | [] => 0
  | r :: rs => size r + sizes rs
end
mutual
/-- how deep -/
def hgt : Rdr → Nat
  | .leaf _ => 1
  | .sg _ _ => 1
  | .nm _ _ => 1
  | .seq _ ps => 1 + hgts ps
  | .one _ p => 1 + hgt p
  | .two _ _ p => 1 + hgt p
def hgts : List Rdr → Nat
  | [] => 0
  | r :: rs => max (hgt r) (hgts rs)
end
mutual
def Ok : Rdr → Prop
  | .leaf w => w = "nothing" ∨ w = "never"
  | .sg w x => (w = "sign" ∨ w = "but") ∧ x.length ≤ 30 ∧ PyData.strOk x = true
  | .nm w l => (w = "again" ∨ w = "name") ∧ Lab l
  | .seq w ps => (w = "row" ∨ w = "choice") ∧ ps ≠ [] ∧ ps.length ≤ 6 ∧ Oks ps
  | .one w p => (w = "many" ∨ w = "maybe" ∨ w = "ahead" ∨ w = "not") ∧ Ok p
  | .two w l p => (w = "hold" ∨ w = "tag" ∨ w = "make") ∧ Lab l ∧ Ok p
def Oks : List Rdr → Prop
  | [] => True
  | r :: rs => Ok r ∧ Oks rs
end
theorem toDs_map : ∀ rs : List Rdr, toDs rs = rs.map toD
  | [] => by unfold toDs; rfl
  | r :: rs => by unfold toDs; rw [toDs_map rs]; rfl
theorem oks_iff : ∀ {rs : List Rdr}, Oks rs ↔ ∀ r ∈ rs, Ok r
  | [] => by unfold Oks; simp
  | r :: rs => by unfold Oks; rw [oks_iff (rs := rs)]; simp
theorem hgts_le : ∀ {rs : List Rdr} {n : Nat}, (∀ r ∈ rs, hgt r ≤ n) → hgts rs ≤ n
  | [], n, _ => by unfold hgts; omega
  | r :: rs, n, h => by
    unfold hgts
    have h1 := h r (List.mem_cons_self ..)
    have h2 := hgts_le (rs := rs) fun s hs => h s (List.mem_cons_of_mem _ hs)
    omega
theorem le_hgts : ∀ {rs : List Rdr} {r : Rdr}, r ∈ rs → hgt r ≤ hgts rs
  | s :: rs, r, h => by
    unfold hgts
    rcases List.mem_cons.mp h with rfl | h
    · omega
    · have := le_hgts h; omega
theorem le_sizes : ∀ {rs : List Rdr} {r : Rdr}, r ∈ rs → size r ≤ sizes rs
  | s :: rs, r, h => by
    unfold sizes
    rcases List.mem_cons.mp h with rfl | h
    · omega
    · have := le_sizes h; omega
end Rdr
/-- labels at hand -/
def Labs (own : Own) (p m : Addr) (ls : List Str) : Prop := own m = some (.lst (ls.map .str)) ∧ m ≠ p ∧ ls ≠ [] ∧ ls.length ≤ 8 ∧ ∀ l ∈ ls, Lab l
def USigns (S : L3.Spec) : Prop := ∀ (own : Own) (P : D → Own → Prop) (p : Addr) (pen : List D) (least : Int) (b : Nat), own p = some (.lst pen) → Pn (b + 60) pen → (∀ x pen', x.length ≤ 30 → PyData.strOk x = true → Pn b pen' → P (.str x) (oset own p (.lst pen'))) → S [.ref p, .int least] own P
theorem uSigns : USigns S_signs := fun own P p pen many b ho hp h => ⟨p, pen, many, b, rfl, ho, hp, h⟩
def ULabel (S : L3.Spec) : Prop := ∀ (own : Own) (P : D → Own → Prop) (p : Addr) (pen : List D) (b : Nat), own p = some (.lst pen) → Pn (b + 20) pen → (∀ x pen', Lab x → Pn b pen' → P (.str x) (oset own p (.lst pen'))) → S [.ref p] own P
theorem uLabel : ULabel S_label := fun own P p pen b ho hp h => ⟨p, pen, b, rfl, ho, hp, h⟩
def S_bare : L3.Spec := fun ds own P => ∃ p pen m ls b, ds = [.ref p, .ref m] ∧ own p = some (.lst pen) ∧ Labs own p m ls ∧ Pn (b + 200) pen ∧ ∀ (r : Rdr) pen', r.Ok → r.size = 1 → r.hgt = 1 → Pn b pen' → P r.toD (oset own p (.lst pen'))
def UBare (S : L3.Spec) : Prop := ∀ (own : Own) (P : D → Own → Prop) (p : Addr) (pen : List D) (m : Addr) (ls : List Str) (b : Nat), own p = some (.lst pen) → Labs own p m ls → Pn (b + 200) pen → (∀ (r : Rdr) pen', r.Ok → r.size = 1 → r.hgt = 1 → Pn b pen' → P r.toD (oset own p (.lst pen'))) → S [.ref p, .ref m] own P
theorem uBare : UBare S_bare := fun own P p pen m ls b ho hl hp h => ⟨p, pen, m, ls, b, rfl, ho, hl, hp, h⟩
theorem p_bare {S_draw S_signs S_label : L3.Spec} (hd : UDraw S_draw) (hs : USigns S_signs) (hl : ULabel S_label) {ds : List D} {own : Own} {Q : D → Own → Prop} (h : S_bare ds own Q) : T_law_bare S_draw S_signs S_label { nx := fun _ o => Rt Q .non o, rt := Rt Q } (astart N_law_bare ds) own := by
  obtain ⟨p, pen, m, ls, b, rfl, ho, ⟨hm, mp, ln, l8, lo⟩, hp, k⟩ := h
  simp [T_law_bare, astart, N_law_bare]
  refine hd _ _ _ _ _ (b + 199) ho hp (by decide) (by decide) fun k1 pen1 a1 a2 hp1 => ?_
  simp
  refine hs _ _ _ _ _ (b + 139) oset_same hp1 fun x pen2 x1 x2 hp2 => ?_
  simp [oset_oset]
  refine hs _ _ _ _ _ (b + 79) oset_same hp2 fun y pen3 y1 y2 hp3 => ?_
  simp [oset_oset]
  refine hl _ _ _ _ (b + 59) oset_same hp3 fun z pen4 z1 hp4 => ?_
  have sm : ∀ q, see (oset own p (.lst q)) (.ref m) = .lst (ls.map .str) := fun q => x_seeR (by rw [oset_ne mp]; exact hm)
  simp [oset_oset, sm]
  have l0 : 0 < ls.length := List.length_pos_iff.mpr ln
  refine hd _ _ _ _ _ (b + 58) oset_same hp4 (by omega) (by omega) fun k2 pen5 b1 b2 hp5 => ?_
  simp [oset_oset, sm]
  refine atA b1 (by simpa using b2) fun d hdm => ?_
  obtain ⟨l, hl1, rfl⟩ := List.mem_map.mp hdm
  have fin : ∀ r : Rdr, r.Ok → r.size = 1 → r.hgt = 1 → Rt Q r.toD (oset own p (.lst pen5)) := fun r r1 r2 r3 => Rt.mk (k r pen5 r1 r2 r3 (hp5.mono (by omega)))
  have ec : ∀ a b c d e f : D, L3.cutD [a, b, c, d, e, f] (some (-1)) none = [f] := fun _ _ _ _ _ _ => rfl
  simp [ec]
  refine atA a1 (by simpa using a2) fun d hdm => ?_
  simp at hdm
  rcases hdm with rfl | rfl | rfl | rfl | rfl | rfl
  · exact fin (.sg "sign" x) ⟨.inl rfl, x1, x2⟩ rfl rfl
  · exact fin (.sg "but" y) ⟨.inr rfl, y1, y2⟩ rfl rfl
  · exact fin (.leaf "nothing") (.inl rfl) rfl rfl
  · exact fin (.leaf "never") (.inr rfl) rfl rfl
  · exact fin (.nm "again" z) ⟨.inl rfl, z1⟩ rfl rfl
  · exact fin (.nm "name" l) ⟨.inr rfl, lo l hl1⟩ rfl rfl

/-! ### any -/
def O2 (base : Own) (p q : Addr) (pen : List D) (z : Int) : Own := oset (oset base p (.lst pen)) q (.lst [.int z])
section
variable {base : Own} {p q m : Addr} {pen pen' : List D} {z z' : Int}
theorem o2_q : O2 base p q pen z q = some (.lst [.int z]) := oset_same
theorem o2_p (h : q ≠ p) : O2 base p q pen z p = some (.lst pen) := by unfold O2; rw [oset_ne (Ne.symm h), oset_same]
theorem o2_m (h : m ≠ p) (h' : m ≠ q) : O2 base p q pen z m = base m := by unfold O2; rw [oset_ne h', oset_ne h]
theorem o2_sq : oset (O2 base p q pen z) q (.lst [.int z']) = O2 base p q pen z' := oset_oset
theorem oset_comm {o : Own} {m m' : MO} (h : q ≠ p) : oset (oset o q m) p m' = oset (oset o p m') q m := by
  funext a; unfold oset
  by_cases h1 : a = p
  · by_cases h2 : a = q
    · exact absurd (h2.symm.trans h1) h
    · rw [if_pos h1, if_neg h2, if_pos h1]
  · by_cases h2 : a = q
    · rw [if_neg h1, if_pos h2, if_pos h2]
    · rw [if_neg h1, if_neg h2, if_neg h2, if_neg h1]
theorem o2_sp (h : q ≠ p) : oset (O2 base p q pen z) p (.lst pen') = O2 base p q pen' z := by
  unfold O2; rw [oset_comm h, oset_oset]
theorem oset_id {o : Own} {m : MO} (h : o p = some m) : oset o p m = o := by
  funext a; unfold oset
  by_cases h1 : a = p
  · rw [if_pos h1, h1, h]
  · rw [if_neg h1]
theorem o2_id {own : Own} (h1 : own p = some (.lst pen)) (h2 : own q = some (.lst [.int z])) : O2 own p q pen z = own := by
  unfold O2; rw [oset_id h1, oset_id h2]
theorem o2_eq (h : q ≠ p) {own : Own} : O2 own p q pen z = oset (oset own p (.lst pen)) q (.lst [.int z]) := rfl
theorem labs_o2 {ls : List Str} (h : Labs base p m ls) (h' : m ≠ q) : Labs (O2 base p q pen z) p m ls := ⟨by rw [o2_m h.2.1 h']; exact h.1, h.2⟩
end
def cost0 : Nat → Nat
  | 0 => 0
  | n + 1 => 300 + 6 * cost0 n
@[irreducible] def cost (n : Nat) : Nat := cost0 n
theorem cost_s (n : Nat) : cost (n + 1) = 300 + 6 * cost n := by unfold cost; rfl
def S_any (n : Nat) : L3.Spec := fun ds own P => ∃ base p pen q z m ls b deep, ds = [.ref p, .int deep, .ref q, .ref m] ∧ own = O2 base p q pen z ∧ q ≠ p ∧ m ≠ q ∧ Labs base p m ls ∧ 1 ≤ deep ∧ deep ≤ n ∧ Pn (b + cost n) pen ∧
  ∀ (r : Rdr) pen' z', r.Ok → (r.hgt : Int) ≤ deep → Pn b pen' → P r.toD (O2 base p q pen' z')
def UAny (n : Nat) (S : L3.Spec) : Prop := ∀ (base : Own) (P : D → Own → Prop) (p : Addr) (pen : List D) (q : Addr) (z : Int) (m : Addr) (ls : List Str) (b : Nat) (deep : Int), q ≠ p → m ≠ q → Labs base p m ls → 1 ≤ deep → deep ≤ n → Pn (b + cost n) pen →
  (∀ (r : Rdr) pen' z', r.Ok → (r.hgt : Int) ≤ deep → Pn b pen' → P r.toD (O2 base p q pen' z')) → S [.ref p, .int deep, .ref q, .ref m] (O2 base p q pen z) P
theorem uAny (n : Nat) : UAny n (S_any n) := fun base P p pen q z m ls b deep h1 h2 h3 h4 h5 h6 h7 => ⟨base, p, pen, q, z, m, ls, b, deep, rfl, rfl, h1, h2, h3, h4, h5, h6, h7⟩
theorem lc_any {n : Nat} {S_any : L3.Spec} (ha : UAny n S_any) {base : Own} {p q m : Addr} {ls : List Str} {deep : Int} {e4 e5 e6 e7 e8 : Option D} (qp : q ≠ p) (mq : m ≠ q) (hl : Labs base p m ls) (h1 : 1 ≤ deep - 1) (h2 : deep - 1 ≤ n) {P : List D → Own → Prop} : ∀ (c j : Nat) (acc : List Rdr) (pen : List D) (z : Int) (b : Nat), Pn (b + c * cost n) pen → (∀ r ∈ acc, r.Ok ∧ (r.hgt : Int) ≤ deep - 1) →
    (∀ (l : List Rdr) pen' z', l.length = acc.length + c → (∀ r ∈ l, r.Ok ∧ (r.hgt : Int) ≤ deep - 1) → Pn b pen' → P (l.map Rdr.toD) (O2 base p q pen' z')) →
    aLcL (gN 8) aYes (aCall S_any [] (aCons (aV 0) (aCons (aBin fSub (aV 1) (aC (.int 1))) (aCons (aV 2) (aCons (aV 3) aNil))))) (fun _ => True) [some (.ref p), some (.int deep), some (.ref q), some (.ref m), e4, e5, e6, e7, e8] P ((List.range' j c).map fun (i : Nat) => D.int (0 + (i : Int))) (acc.map Rdr.toD) (O2 base p q pen z)
  | 0, j, acc, pen, z, b, hp, hc, h => ⟨trivial, h acc pen z (by simp) hc (hp.mono (by omega))⟩
  | c + 1, j, acc, pen, z, b, hp, hc, h => by
    rw [List.range'_succ, List.map_cons, x_lcC]
    refine ⟨trivial, ?_⟩
    simp
    refine ha _ _ _ _ _ _ _ _ (b + c * cost n) _ qp mq hl h1 h2 (by rw [Nat.add_mul, Nat.one_mul, ← Nat.add_assoc] at hp; exact hp) fun r pen' z' r1 r2 hp' => ?_
    have := lc_any ha (e4 := e4) (e5 := e5) (e6 := e6) (e7 := e7) (e8 := e8) qp mq hl h1 h2 (P := P) c (j + 1) (acc ++ [r]) pen' z' b hp' (fun s hs => by rcases List.mem_append.mp hs with hs | hs; exact hc s hs; rw [List.mem_singleton.mp hs]; exact ⟨r1, r2⟩) (fun l pen2 z2 hl => h l pen2 z2 (by simp at hl ⊢; omega))
    simpa using this
theorem p_any {n : Nat} {S_draw S_bare S_any' S_label : L3.Spec} (hd : UDraw S_draw) (hb : UBare S_bare) (ha : UAny n S_any') (hl : ULabel S_label) {ds : List D} {own : Own} {Q : D → Own → Prop} (h : S_any (n + 1) ds own Q) : T_law_any S_draw S_bare S_any' S_label { nx := fun _ o => Rt Q .non o, rt := Rt Q } (astart N_law_any ds) own := by
  obtain ⟨base, p, pen, q, z, m, ls, b, deep, rfl, rfl, qp, mq, hL, d1, d2, hp, k⟩ := h
  have hc := cost_s n
  rw [hc] at hp
  have sq : ∀ pen z, see (O2 base p q pen z) (.ref q) = .lst [.int z] := fun _ _ => x_seeR o2_q
  have kq : ∀ pen z k, ownL (O2 base p q pen z) (.ref q) k = k q [.int z] := fun _ _ _ => x_ownL o2_q
  have sp : ∀ pen pen' z, oset (O2 base p q pen z) p (.lst pen') = O2 base p q pen' z := fun _ _ _ => o2_sp qp
  have ss : ∀ pen z z', oset (O2 base p q pen z) q (.lst [.int z']) = O2 base p q pen z' := fun _ _ _ => o2_sq
  simp [T_law_any, astart, N_law_any, sq, kq, ss]
  refine hd _ _ _ _ _ (b + 299 + 6 * cost n) (o2_p qp) (hp.mono (by omega)) (by decide) (by decide) fun way pen1 w0 w1 hp1 => ?_
  simp [sp, sq]
  have bare : ∀ z', S_bare [D.ref p, D.ref m] (O2 base p q pen1 z') (Rt Q) := fun z' => hb _ _ _ _ _ _ (b + 99 + 6 * cost n) (o2_p qp) (labs_o2 hL mq) (hp1.mono (by omega)) fun r pen' r1 _ r3 hp' => by
    rw [sp]; exact Rt.mk (k r pen' z' r1 (by rw [r3]; exact d1) (hp'.mono (by omega)))
  by_cases q1 : deep = 1
  · have : (deep == 1) = true := by simpa using q1
    simp only [this]; exact bare _
  have e1 : (deep == 1) = false := by simpa using q1
  simp only [e1]
  by_cases q2 : z - 1 < 7
  · simp only [q2, decide_true]; exact bare _
  simp only [q2, decide_false]
  by_cases q3 : way < 3
  · simp only [q3, decide_true]; exact bare _
  simp only [q3, decide_false]
  have dn1 : 1 ≤ deep - 1 := by omega
  have dn2 : deep - 1 ≤ n := by omega
  by_cases q4 : way < 7
  · simp only [q4, decide_true]
    refine hd _ _ _ _ _ (b + 298 + 6 * cost n) (o2_p qp) (hp1.mono (by omega)) (by decide) (by decide) fun k2 pen2 b1 b2 hp2 => ?_
    have c3 : CDivW k2 3 := ⟨by decide, by decide⟩
    simp [sp, c3]
    have rest : ∀ (c : Nat) (z' : Int), z' = c → c ≤ 6 → 0 < c → (-4611686018427387904 ≤ z' ∧ z' ≤ 16777216) ∧
                    aLcL (gN 8) aYes
                      (aCall S_any' []
                        (aCons (aV 0) (aCons (aBin fSub (aV 1) (aC (D.int 1))) (aCons (aV 2) (aCons (aV 3) aNil)))))
                      (fun x => True)
                      (wipeA
                        [some (D.ref p), some (D.int deep), some (D.ref q), some (D.ref m), some (D.int way), none,
                          some (.int z'), none, none]
                        [8])
                      (fun ds o =>
                        oP (atI [D.str (Str.ofString "row"), D.str (Str.ofString "choice")] (way % 2)) fun z =>
                          Rt Q (D.tup [z, D.tup ds]) o)
                      (rng 0 z'.toNat) [] (O2 base p q pen2 (z - 1)) := by
      intro c z' ez hc6 hc0
      subst ez
      refine ⟨by omega, ?_⟩
      have e : rng 0 ((c : Int)).toNat = (List.range' 0 c).map fun (i : Nat) => D.int (0 + (i : Int)) := by simp [rng, List.range_eq_range']
      rw [e]
      have hcc : c * cost n ≤ 6 * cost n := Nat.mul_le_mul_right _ hc6
      refine lc_any ha qp mq hL dn1 dn2 c 0 [] pen2 (z - 1) b (hp2.mono (by omega)) (by simp) fun l pen' z' hl' hok hp' => ?_
      simp at hl'
      have h0 : 0 ≤ way % 2 := Int.emod_nonneg _ (by decide)
      have h2 : way % 2 < 2 := Int.emod_lt_of_pos _ (by decide)
      have mk : ∀ w : Str, (w = "row" ∨ w = "choice") → Rt Q (.tup [.str w, .tup (l.map Rdr.toD)]) (O2 base p q pen' z') := fun w hw => by
        refine Rt.mk ?_
        have := k (.seq w l) pen' z' ⟨hw, by intro z; rw [z] at hl'; simp at hl'; omega, by omega, Rdr.oks_iff.mpr fun r hr => (hok r hr).1⟩ (by
          have : Rdr.hgts l ≤ (deep - 1).toNat := Rdr.hgts_le fun r hr => by have := (hok r hr).2; omega
          unfold Rdr.hgt; omega) (hp'.mono (by omega))
        unfold Rdr.toD at this
        rw [Rdr.toDs_map] at this
        exact this
      refine at2 h0 h2 (mk _ (.inl rfl)) (mk _ (.inr rfl))
    refine at3 (Int.ediv_nonneg b1 (by decide)) (by omega) (rest 2 _ rfl (by decide) (by decide)) (rest 3 _ rfl (by decide) (by decide)) (rest 6 _ rfl (by decide) (by decide))
  simp only [q4, decide_false]
  refine ha _ _ _ _ _ _ _ _ (b + 99) _ qp mq hL dn1 dn2 (hp1.mono (by omega)) fun r pen2 z2 r1 r2 hp2 => ?_
  have hh : ((1 + r.hgt : Nat) : Int) ≤ deep := by omega
  by_cases q5 : way < 10
  · simp only [q5, decide_true]
    refine hd _ _ _ _ _ (b + 98) (o2_p qp) (hp2.mono (by omega)) (by decide) (by decide) fun k3 pen3 c1 c2 hp3 => ?_
    simp [sp]
    have mk : ∀ w : Str, (w = "many" ∨ w = "maybe" ∨ w = "ahead" ∨ w = "not") → Rt Q (.tup [.str w, r.toD]) (O2 base p q pen3 z2) := fun w hw => Rt.mk (k (.one w r) pen3 z2 ⟨hw, r1⟩ hh (hp3.mono (by omega)))
    exact at4 c1 c2 (mk _ (.inl rfl)) (mk _ (.inr (.inl rfl))) (mk _ (.inr (.inr (.inl rfl)))) (mk _ (.inr (.inr (.inr rfl))))
  simp only [q5, decide_false]
  by_cases q6 : way = 10
  · have : (way == 10) = true := by simpa using q6
    simp only [this]
    refine hd _ _ _ _ _ (b + 98) (o2_p qp) (hp2.mono (by omega)) (by decide) (by decide) fun k3 pen3 c1 c2 hp3 => ?_
    simp [sp]
    have mk : ∀ l : Str, Lab l → Rt Q (.tup [.str "make", .str l, r.toD]) (O2 base p q pen3 z2) := fun l hl => Rt.mk (k (.two "make" l r) pen3 z2 ⟨.inr (.inr rfl), hl, r1⟩ hh (hp3.mono (by omega)))
    exact at4 c1 c2 (mk _ ⟨by decide +kernel, by decide +kernel⟩) (mk _ ⟨by decide +kernel, by decide +kernel⟩) (mk _ ⟨by decide +kernel, by decide +kernel⟩) (mk _ ⟨by decide +kernel, by decide +kernel⟩)
  have e6 : (way == 10) = false := by simpa using q6
  simp only [e6]
  refine hd _ _ _ _ _ (b + 98) (o2_p qp) (hp2.mono (by omega)) (by decide) (by decide) fun k3 pen3 c1 c2 hp3 => ?_
  simp [sp]
  have mk : ∀ w : Str, (w = "hold" ∨ w = "tag" ∨ w = "make") → S_label [D.ref p] (O2 base p q pen3 z2) fun d_1 o => Rt Q (.tup [.str w, d_1, r.toD]) o := fun w hw => hl _ _ _ _ (b + 78) (o2_p qp) (hp3.mono (by omega)) fun x pen4 hx hp4 => by
    rw [sp]; exact Rt.mk (k (.two w x r) pen4 z2 ⟨hw, hx, r1⟩ hh (hp4.mono (by omega)))
  exact at2 c1 c2 (mk _ (.inl rfl)) (mk _ (.inr (.inl rfl)))

/-! ### size -/
def S_size (n : Nat) : L3.Spec := fun ds own P => ∃ r : Rdr, ds = [r.toD] ∧ r.Ok ∧ r.hgt ≤ n ∧ P (.int r.size) own
def USize (n : Nat) (S : L3.Spec) : Prop := ∀ (own : Own) (P : D → Own → Prop) (r : Rdr), r.Ok → r.hgt ≤ n → P (.int r.size) own → S [r.toD] own P
theorem uSize (n : Nat) : USize n (S_size n) := fun own P r h1 h2 h3 => ⟨r, rfl, h1, h2, h3⟩
theorem sizes_sum : ∀ l : List Rdr, (l.map fun r => (r.size : Int)).sum = (Rdr.sizes l : Int)
  | [] => rfl
  | r :: l => by unfold Rdr.sizes; simp only [List.map_cons, List.sum_cons, sizes_sum l]; omega
theorem p_size {n : Nat} {S : L3.Spec} (hs : USize n S) {ds : List D} {own : Own} {Q : D → Own → Prop} (h : S_size (n + 1) ds own Q) : T_law_size S { nx := fun _ o => Rt Q .non o, rt := Rt Q } (astart N_law_size ds) own := by
  obtain ⟨r, rfl, ok, hh, k⟩ := h
  have k' := Rt.mk k
  clear k
  cases r with
  | leaf w =>
    unfold Rdr.size at k'
    unfold Rdr.toD
    rcases ok with rfl | rfl <;> simp [T_law_size, astart, N_law_size] <;> exact k'
  | sg w x =>
    unfold Rdr.size at k'
    unfold Rdr.toD
    rcases ok.1 with rfl | rfl <;> simp [T_law_size, astart, N_law_size] <;> exact k'
  | nm w x =>
    unfold Rdr.size at k'
    unfold Rdr.toD
    rcases ok.1 with rfl | rfl <;> simp [T_law_size, astart, N_law_size] <;> exact k'
  | one w p =>
    unfold Rdr.size at k'
    unfold Rdr.hgt at hh
    unfold Rdr.toD
    have g : S [p.toD] own fun d o => fAdd0 (.int 1) (see o d) fun z => Rt Q z o := hs _ _ p ok.2 (by omega) (by simpa using k')
    rcases ok.1 with rfl | rfl | rfl | rfl <;> simp [T_law_size, astart, N_law_size] <;> exact g
  | two w l p =>
    unfold Rdr.size at k'
    unfold Rdr.hgt at hh
    unfold Rdr.toD
    have g : S [p.toD] own fun d o => fAdd0 (.int 1) (see o d) fun z => Rt Q z o := hs _ _ p ok.2.2 (by omega) (by simpa using k')
    rcases ok.1 with rfl | rfl | rfl <;> simp [T_law_size, astart, N_law_size] <;> exact g
  | seq w l =>
    unfold Rdr.size at k'
    unfold Rdr.hgt at hh
    unfold Rdr.toD
    rw [Rdr.toDs_map]
    have ok' := Rdr.oks_iff.mp ok.2.2.2
    rcases ok.1 with rfl | rfl <;> simp [T_law_size, astart, N_law_size]
    all_goals
      refine lc_pure Rdr.toD (fun r => D.int r.size) trivial (fun r hr Q' hq => ?_) ?_
      · simp
        exact hs _ _ r (ok' r hr) (by have := Rdr.le_hgts hr; omega) hq
      · simp [sizes_sum]
        simpa using k'

/-! ### pages -/
def pg (x : Str × Rdr) : D := .tup [.str x.1, x.2.toD]
def PgOk (x : Str × Rdr) : Prop := Lab x.1 ∧ x.2.Ok ∧ x.2.hgt ≤ 8 ∧ x.2.size ≤ 72
def costP : Nat := 2000 + 8 * (300 + cost 8)
def S_pages : L3.Spec := fun ds own P => ∃ p pen b, ds = [.ref p] ∧ own p = some (.lst pen) ∧ Pn (b + costP) pen ∧ ∀ (l : List (Str × Rdr)) pen', l.length ≤ 8 → (∀ x ∈ l, PgOk x) → Pn b pen' → P (.tup (l.map pg)) (oset own p (.lst pen'))
theorem turns1 {S_label : L3.Spec} (hl : ULabel S_label) {base : Own} {p m : Addr} (mp : m ≠ p) {E : AEnds} {e3 e4 e6 : Option D} {b : Nat}
    (h : ∀ (own : Own) (ls : List Str) pen e2 e5, own p = some (.lst pen) → own m = some (.lst (ls.map .str)) → (∀ a, a ≠ p → a ≠ m → own a = base a) → (∀ l ∈ ls, Lab l) → ls ≠ [] → ls.length ≤ 8 → Pn b pen → E.nx [some (.ref p), some (.ref m), e2, e3, e4, e5, e6] own) :
    ∀ (ds : List D) (own : Own) (ls : List Str) (pen : List D) (e2 e5 : Option D), own p = some (.lst pen) → own m = some (.lst (ls.map .str)) → (∀ a, a ≠ p → a ≠ m → own a = base a) → (∀ l ∈ ls, Lab l) → (ls ≠ [] ∨ ds ≠ []) → ls.length + ds.length ≤ 8 → Pn (b + ds.length * 20) pen →
      aTurns (gN 2) (aSeq (aAsg (aCall S_label [] (aCons (aV 0) aNil)) (gN 5)) (aIfS (aB (aBin (fIn true) (aV 5) (aV 1))) (aDrop (aApp (aV 1) (aV 5))) aNext)) (fun _ => True) E ds [some (.ref p), some (.ref m), e2, e3, e4, e5, e6] own
  | [], own, ls, pen, e2, e5, h1, h2, h3, h4, h5, h6, h7 => ⟨trivial, h own ls pen e2 e5 h1 h2 h3 h4 (by simpa using h5) (by simpa using h6) (h7.mono (by simp))⟩
  | d :: ds, own, ls, pen, e2, e5, h1, h2, h3, h4, h5, h6, h7 => by
    rw [x_turC]
    refine ⟨trivial, ?_⟩
    simp
    simp at h6 h7
    refine hl _ _ _ _ (b + ds.length * 20) h1 (h7.mono (by omega)) fun x pen' hx hp' => ?_
    have m2 : oset own p (.lst pen') m = some (.lst (ls.map .str)) := by rw [oset_ne mp]; exact h2
    simp [x_seeR m2, x_ownL m2]
    cases hb : hasD (.str x) (ls.map D.str) with
    | true =>
      simp
      have ne : ls ≠ [] := by rintro rfl; simp at hb
      exact turns1 hl mp h ds _ ls pen' (some d) (some (.str x)) oset_same m2 (fun a a1 a2 => by rw [oset_ne a1]; exact h3 a a1 a2) h4 (.inl ne) (by omega) hp'
    | false =>
      simp
      refine ⟨by omega, ?_⟩
      exact turns1 hl mp h ds _ (ls ++ [x]) pen' (some d) (some (.str x)) (by rw [oset_ne (Ne.symm mp)]; exact oset_same) (by rw [oset_same]; simp) (fun a a1 a2 => by rw [oset_ne a2, oset_ne a1]; exact h3 a a1 a2)
        (fun l hl => by rcases List.mem_append.mp hl with hl | hl; exact h4 l hl; rw [List.mem_singleton.mp hl]; exact hx) (.inl (by simp)) (by simp; omega) hp'
theorem any_at {n : Nat} {S : L3.Spec} (ha : UAny n S) {own : Own} {P : D → Own → Prop} {p : Addr} {pen : List D} {q : Addr} {z : Int} {m : Addr} {ls : List Str} {b : Nat} {deep : Int} (h1 : own p = some (.lst pen)) (h2 : own q = some (.lst [.int z])) (qp : q ≠ p) (mq : m ≠ q) (hl : Labs own p m ls) (d1 : 1 ≤ deep) (d2 : deep ≤ n) (hp : Pn (b + cost n) pen)
    (h : ∀ (r : Rdr) pen' z', r.Ok → (r.hgt : Int) ≤ deep → Pn b pen' → P r.toD (oset (oset own p (.lst pen')) q (.lst [.int z']))) : S [.ref p, .int deep, .ref q, .ref m] own P := by
  have := ha own P p pen q z m ls b deep qp mq hl d1 d2 hp fun r pen' z' r1 r2 r3 => h r pen' z' r1 r2 r3
  rw [o2_id h1 h2] at this
  exact this
theorem turns2 {S_draw S_any S_size S_bare : L3.Spec} (hd : UDraw S_draw) (ha : UAny 8 S_any) (hz : USize 8 S_size) (hb : UBare S_bare) {base : Own} {p m q f : Addr} {ls : List Str} (mp : m ≠ p) (qp : q ≠ p) (mq : m ≠ q) (fp : f ≠ p) (fm : f ≠ m) (fq : f ≠ q) (hls : ∀ l ∈ ls, Lab l) (l0 : ls ≠ []) (l8 : ls.length ≤ 8) {E : AEnds} {e2 : Option D} {b : Nat}
    (h : ∀ (own : Own) (fl : List (Str × Rdr)) pen z e5 e6, own p = some (.lst pen) → own m = some (.lst (ls.map .str)) → own q = some (.lst [.int z]) → own f = some (.lst (fl.map pg)) → (∀ a, a ≠ p → a ≠ m → a ≠ q → a ≠ f → own a = base a) → (∀ x ∈ fl, PgOk x) → fl.length ≤ 8 → Pn b pen → E.nx [some (.ref p), some (.ref m), e2, some (.ref q), some (.ref f), e5, e6] own) :
    ∀ (xs : List Str) (own : Own) (fl : List (Str × Rdr)) (pen : List D) (z : Int) (e5 e6 : Option D), own p = some (.lst pen) → own m = some (.lst (ls.map .str)) → own q = some (.lst [.int z]) → own f = some (.lst (fl.map pg)) → (∀ a, a ≠ p → a ≠ m → a ≠ q → a ≠ f → own a = base a) → (∀ x ∈ fl, PgOk x) → (∀ x ∈ xs, Lab x) → fl.length + xs.length ≤ 8 → Pn (b + xs.length * (300 + cost 8)) pen →
      aTurns (gN 5) (aSeq (aAsg (aBin fDiv (aC (.int 56)) (aFn (f1 gLen) (aCons (aV 1) aNil))) (gSubL (aV 3) (aC (.int 0))))
  (aSeq (aAsg (aCall S_any [] (aCons (aV 0) (aCons (aBin fAdd (aC (.int 1)) (aCall S_draw [] (aCons (aV 0) (aCons (aC (.int 8)) aNil)))) (aCons (aV 3) (aCons (aV 1) aNil))))) (gN 6))
  (aSeq (aIfS (aB (aBin fGt (aCall S_size [] (aCons (aV 6) aNil)) (aBin fDiv (aC (.int 72)) (aFn (f1 gLen) (aCons (aV 1) aNil))))) (aAsg (aCall S_bare [] (aCons (aV 0) (aCons (aV 1) aNil))) (gN 6)) aNext)
  (aDrop (aApp (aV 4) (aTup (aCons (aV 5) (aCons (aV 6) aNil)))))))) (fun o' => see o' (.ref m) = .lst (ls.map .str)) E (xs.map .str) [some (.ref p), some (.ref m), e2, some (.ref q), some (.ref f), e5, e6] own
  | [], own, fl, pen, z, e5, e6, h1, h2, h3, h4, h5, h6, h7, h8, h9 => ⟨x_seeR h2, h own fl pen z e5 e6 h1 h2 h3 h4 h5 h6 (by simpa using h8) (h9.mono (by simp))⟩
  | x :: xs, own, fl, pen, z, e5, e6, h1, h2, h3, h4, h5, h6, h7, h8, h9 => by
    rw [List.map_cons, x_turC]
    refine ⟨x_seeR h2, ?_⟩
    simp at h8 h9
    have len0 : (0 : Int) < (ls.length : Int) := by have := List.length_pos_iff.mpr l0; omega
    have dv : ∀ i : Int, CDivW i (ls.length : Int) := fun i => Sm.cdiv len0 (.ofLt (by omega) (by omega) : Sm 40 (ls.length : Int))
    have m2 : ∀ v, oset own q v m = some (.lst (ls.map .str)) := fun v => by rw [oset_ne mq]; exact h2
    simp [x_seeR h2, dv, x_ownL h3]
    generalize hz0 : (56 : Int) / (ls.length : Int) = z0
    have p3 : oset own q (.lst [.int z0]) p = some (.lst pen) := by rw [oset_ne (Ne.symm qp)]; exact h1
    refine hd _ _ _ _ _ (b + xs.length * (300 + cost 8) + 299 + cost 8) p3 (h9.mono (by rw [Nat.add_mul]; omega)) (by decide) (by decide) fun k pen1 k0 k1 hp1 => ?_
    simp
    refine any_at ha (z := z0) (b := b + xs.length * (300 + cost 8) + 299) oset_same (by rw [oset_ne qp]; exact oset_same) qp mq ⟨by rw [oset_ne mp, oset_ne mq]; exact h2, mp, l0, l8, hls⟩ (by omega) (by omega) (hp1.mono (by omega)) fun r pen2 z2 r1 r2 hp2 => ?_
    refine hz _ _ r r1 (by omega) ?_
    generalize ho : oset (oset (oset (oset own q (.lst [.int z0])) p (.lst pen1)) p (.lst pen2)) q (.lst [.int z2]) = o2
    have q1 : o2 p = some (.lst pen2) := by rw [← ho, oset_ne (Ne.symm qp), oset_same]
    have q2 : o2 m = some (.lst (ls.map .str)) := by rw [← ho, oset_ne mq, oset_ne mp, oset_ne mp, oset_ne mq]; exact h2
    have q3 : o2 q = some (.lst [.int z2]) := by rw [← ho]; exact oset_same
    have q4 : o2 f = some (.lst (fl.map pg)) := by rw [← ho, oset_ne fq, oset_ne fp, oset_ne fp, oset_ne fq]; exact h4
    have q5 : ∀ a, a ≠ p → a ≠ m → a ≠ q → a ≠ f → o2 a = base a := fun a a1 a2 a3 a4 => by rw [← ho, oset_ne a3, oset_ne a1, oset_ne a1, oset_ne a3]; exact h5 a a1 a2 a3 a4
    clear ho
    simp [x_seeR q2, dv]
    have hx := h7 x (List.mem_cons_self ..)
    have h7' : ∀ y ∈ xs, Lab y := fun y hy => h7 y (List.mem_cons_of_mem _ hy)
    by_cases big : (72 : Int) / (ls.length : Int) < (r.size : Int)
    · simp only [big, decide_true]
      refine hb _ _ _ _ _ _ (b + xs.length * (300 + cost 8)) q1 ⟨q2, mp, l0, l8, hls⟩ (hp2.mono (by omega)) fun r' pen3 s1 s2 s3 hp3 => ?_
      have t4 : oset o2 p (.lst pen3) f = some (.lst (fl.map pg)) := by rw [oset_ne fp]; exact q4
      have t2 : oset o2 p (.lst pen3) m = some (.lst (ls.map .str)) := by rw [oset_ne mp]; exact q2
      have t3 : oset o2 p (.lst pen3) q = some (.lst [.int z2]) := by rw [oset_ne qp]; exact q3
      have t5 : ∀ a, a ≠ p → a ≠ m → a ≠ q → a ≠ f → oset o2 p (.lst pen3) a = base a := fun a a1 a2 a3 a4 => by rw [oset_ne a1]; exact q5 a a1 a2 a3 a4
      have pk : PgOk (x, r') := ⟨hx, s1, by show r'.hgt ≤ 8; omega, by show r'.size ≤ 72; omega⟩
      rw [x_ownL t4, x_ownL t4]
      refine ⟨by simp; omega, ?_⟩
      rw [show fl.map pg ++ [D.tup [.str x, Rdr.toD r']] = (fl ++ [(x, r')]).map pg from by simp [pg]]
      exact turns2 hd ha hz hb mp qp mq fp fm fq hls l0 l8 h xs _ (fl ++ [(x, r')]) pen3 z2 _ _ (by rw [oset_ne (Ne.symm fp)]; exact oset_same) (by rw [oset_ne (Ne.symm fm)]; exact t2) (by rw [oset_ne (Ne.symm fq)]; exact t3) oset_same (fun a a1 a2 a3 a4 => by rw [oset_ne a4]; exact t5 a a1 a2 a3 a4)
        (fun y hy => by rcases List.mem_append.mp hy with hy | hy; exact h6 y hy; rw [List.mem_singleton.mp hy]; exact pk) h7' (by simp; omega) hp3
    · simp only [big, decide_false]
      have pk : PgOk (x, r) := ⟨hx, r1, by show r.hgt ≤ 8; omega, by
        show r.size ≤ 72
        have : (72 : Int) / (ls.length : Int) ≤ 72 := Int.ediv_le_self _ (by decide)
        omega⟩
      rw [x_ownL q4, x_ownL q4]
      refine ⟨by simp; omega, ?_⟩
      rw [show fl.map pg ++ [D.tup [.str x, Rdr.toD r]] = (fl ++ [(x, r)]).map pg from by simp [pg]]
      exact turns2 hd ha hz hb mp qp mq fp fm fq hls l0 l8 h xs _ (fl ++ [(x, r)]) pen2 z2 _ _ (by rw [oset_ne (Ne.symm fp)]; exact q1) (by rw [oset_ne (Ne.symm fm)]; exact q2) (by rw [oset_ne (Ne.symm fq)]; exact q3) oset_same (fun a a1 a2 a3 a4 => by rw [oset_ne a4]; exact q5 a a1 a2 a3 a4)
        (fun y hy => by rcases List.mem_append.mp hy with hy | hy; exact h6 y hy; rw [List.mem_singleton.mp hy]; exact pk) h7' (by simp; omega) (hp2.mono (by omega))
theorem p_pages {S_draw S_label S_any S_size S_bare : L3.Spec} (hd : UDraw S_draw) (hl : ULabel S_label) (ha : UAny 8 S_any) (hz : USize 8 S_size) (hb : UBare S_bare) {ds : List D} {own : Own} {Q : D → Own → Prop} (h : S_pages ds own Q) : T_law_pages S_draw S_label S_any S_size S_bare { nx := fun _ o => Rt Q .non o, rt := Rt Q } (astart N_law_pages ds) own := by
  obtain ⟨p, pen, b, rfl, ho, hp, k⟩ := h
  unfold costP at hp
  simp [T_law_pages, astart, N_law_pages]
  intro m hm
  have mp : m ≠ p := by rintro rfl; rw [hm] at ho; cases ho
  refine hd _ _ _ _ _ (b + 1999 + 8 * (300 + cost 8)) (by rw [oset_ne (Ne.symm mp)]; exact ho) (hp.mono (by omega)) (by decide) (by decide) fun k1 pen1 a1 a2 hp1 => ?_
  simp
  refine hd _ _ _ _ _ (b + 1998 + 8 * (300 + cost 8)) oset_same (hp1.mono (by omega)) (by decide) (by decide) fun k2 pen2 b1 b2 hp2 => ?_
  simp [oset_oset]
  generalize hE : AEnds.mk (aSeq _ _ _) _ _ _ = E
  have tail : ∀ (own1 : Own) (ls : List Str) pen e2 e5, own1 p = some (.lst pen) → own1 m = some (.lst (ls.map .str)) → (∀ a, a ≠ p → a ≠ m → own1 a = own a) → (∀ l ∈ ls, Lab l) → ls ≠ [] → ls.length ≤ 8 → Pn (b + 1000 + 8 * (300 + cost 8)) pen → E.nx [some (.ref p), some (.ref m), e2, none, none, e5, none] own1 := by
    intro own1 ls pen3 e2 e5 h1 h2 h3 h4 h5 h6 h7
    subst hE
    simp
    intro q hq f hf
    have qp : q ≠ p := by rintro rfl; rw [hq] at h1; cases h1
    have qm : q ≠ m := by rintro rfl; rw [hq] at h2; cases h2
    have fq : f ≠ q := by rintro rfl; rw [oset_same] at hf; cases hf
    rw [oset_ne fq] at hf
    have fp : f ≠ p := by rintro rfl; rw [hf] at h1; cases h1
    have fm : f ≠ m := by rintro rfl; rw [hf] at h2; cases h2
    have gm : oset (oset own1 q (.lst [.int 0])) f (.lst []) m = some (.lst (ls.map .str)) := by rw [oset_ne (Ne.symm fm), oset_ne (Ne.symm qm)]; exact h2
    simp [x_seeR gm]
    refine turns2 hd ha hz hb (base := own1) mp qp (Ne.symm qm) fp fm fq h4 h5 h6 (b := b) (fun own2 fl pen4 z e5 e6 t1 t2 t3 t4 t5 t6 t7 t8 => ?_) ls _ [] pen3 0 _ _ (by rw [oset_ne (Ne.symm fp), oset_ne (Ne.symm qp)]; exact h1) gm (by rw [oset_ne (Ne.symm fq)]; exact oset_same) oset_same (fun a a1 a2 a3 a4 => by rw [oset_ne a4, oset_ne a3]) (by simp) h4 (by simpa using h6) (h7.mono (by have := Nat.mul_le_mul_right (300 + cost 8) h6; omega))
    simp [x_seeR t4]
    refine Rt.drop (o' := oset own p (.lst pen4)) (fun a mo e => ?_) (k fl pen4 t7 t6 t8)
    by_cases ap : a = p
    · subst ap; rw [oset_same] at e; rw [t1]; exact e
    · rw [oset_ne ap] at e
      have am : a ≠ m := by rintro rfl; rw [hm] at e; cases e
      have aq : a ≠ q := by rintro rfl; rw [← h3 _ ap am, hq] at e; cases e
      have af : a ≠ f := by rintro rfl; rw [← h3 _ ap am, hf] at e; cases e
      rw [t5 a ap am aq af, h3 a ap am]; exact e
  clear hE
  have go : ∀ (n : Nat) (z : Int), z = n → 0 < n → n ≤ 8 → (-4611686018427387904 ≤ z ∧ z ≤ 16777216) ∧
        aTurns (gN 2)
          (aSeq (aAsg (aCall S_label [] (aCons (aV 0) aNil)) (gN 5))
            (aIfS (aB (aBin (fIn true) (aV 5) (aV 1))) (aDrop (aApp (aV 1) (aV 5))) aNext))
          (fun x => True) E (rng 0 z.toNat) [some (D.ref p), some (D.ref m), none, none, none, none, none]
          (oset (oset own m (MO.lst [])) p (MO.lst pen2)) := by
    intro n z ez n0 n8
    subst ez
    refine ⟨by omega, ?_⟩
    have lr : (rng 0 ((n : Int)).toNat).length = n := by simp [rng]
    exact turns1 hl (base := own) mp (b := b + 1000 + 8 * (300 + cost 8)) (fun own1 ls pen e2 e5 h1 h2 h3 h4 h5 h6 h7 => tail own1 ls pen e2 e5 h1 h2 h3 h4 h5 h6 h7) (rng 0 ((n : Int)).toNat) _ [] pen2 none none oset_same (by rw [oset_ne mp]; exact oset_same) (fun a a1 a2 => by rw [oset_ne a1, oset_ne a2]) (by simp) (.inr (by intro z; rw [z] at lr; simp at lr; omega)) (by rw [lr]; simpa using n8) (hp2.mono (by rw [lr]; omega))
  refine at4 b1 b2 (go 1 _ rfl (by decide) (by decide)) (go 2 _ rfl (by decide) (by decide)) (go (1 + k1).toNat _ (by omega) (by omega) (by omega)) (go 8 _ rfl (by decide) (by decide))

/-! ### what is shown -/
def mk1 (c : Nat) : Str := if c = 10 then "\\n" else if c = 93 then "\\]" else if c = 94 then "\\^" else if c = 92 then "\\\\" else ⟨#[c]⟩
def marks (x : Str) : Str := Str.join Str.empty (x.cps.toList.map mk1)
namespace Rdr
def word : Rdr → Str
  | .leaf w => w
  | .sg w _ => w
  | .nm w _ => w
  | .seq w _ => w
  | .one w _ => w
  | .two w _ _ => w
def parK : Nat → Rdr → Bool
  | 0, .seq w _ => w == "choice"
  | 1, .seq _ _ => true
  | 2, .seq _ _ => true
  | 2, .one _ _ => true
  | 2, .two _ _ _ => true
  | _, _ => false
def par (k : Nat) (r : Rdr) (s : Str) : Str := if parK k r then "(" ++ (s ++ ")") else s
mutual
def shown : Rdr → Str
  | .leaf w => if w = "never" then "~" else "()"
  | .sg w x => if w = "but" then "[^" ++ (marks x ++ "]") else "[" ++ (marks x ++ "]")
  | .nm w l => if w = "again" then "=" ++ l else l
  | .seq w ps => if w = "row" then Str.join " " (shownP 1 ps) else Str.join " / " (shownP 0 ps)
  | .one w p => if w = "many" then par 2 p (shown p) ++ "*" else if w = "maybe" then par 2 p (shown p) ++ "?" else if w = "ahead" then "&" ++ par 2 p (shown p) else "!" ++ par 2 p (shown p)
  | .two w l p => l ++ ((if w = "hold" then (":" : Str) else if w = "tag" then ("@" : Str) else ("#" : Str)) ++ par 2 p (shown p))
def shownP (k : Nat) : List Rdr → List Str
  | [] => []
  | r :: rs => par k r (shown r) :: shownP k rs
end
theorem shownP_map (k : Nat) : ∀ rs : List Rdr, shownP k rs = rs.map fun r => par k r (shown r)
  | [] => by unfold shownP; rfl
  | r :: rs => by unfold shownP; rw [shownP_map k rs]; rfl
theorem len_par (k : Nat) (r : Rdr) (s : Str) : (par k r s).length ≤ s.length + 2 := by
  unfold par; split
  · have h1 : (Str.ofString "(").length = 1 := by decide +kernel
    have h2 : (Str.ofString ")").length = 1 := by decide +kernel
    simp only [len_app, h1, h2]; omega
  · omega
end Rdr
theorem len_mk1 (c : Nat) : (mk1 c).length ≤ 2 := by
  unfold mk1
  split; decide +kernel
  split; decide +kernel
  split; decide +kernel
  split; decide +kernel
  exact Nat.le_succ 1
theorem sum_le {n : Nat} : ∀ {l : List Str}, (∀ y ∈ l, y.length ≤ n) → (l.map (·.length)).sum ≤ n * l.length
  | [], _ => by simp
  | x :: l, h => by
    have := sum_le (l := l) fun y hy => h y (List.mem_cons_of_mem _ hy)
    have hx := h x (List.mem_cons_self ..)
    simp only [List.map_cons, List.sum_cons, List.length_cons, Nat.mul_add, Nat.mul_one]; omega
theorem marks_sum (x : Str) : ((x.cps.toList.map mk1).map (·.length)).sum ≤ 2 * x.length := by
  have := sum_le (n := 2) (l := x.cps.toList.map mk1) (fun y hy => by obtain ⟨c, _, rfl⟩ := List.mem_map.mp hy; exact len_mk1 c)
  rw [List.length_map, ← len_cs] at this; exact this
theorem len_marks (x : Str) : (marks x).length ≤ 2 * x.length := by
  have h := len_join Str.empty (x.cps.toList.map mk1)
  have h2 := marks_sum x
  have h3 : Str.empty.length = 0 := rfl
  rw [h3, Nat.mul_zero] at h
  unfold marks; omega
namespace Rdr
mutual
theorem len_shown : ∀ r : Rdr, r.Ok → (shown r).length + 8 ≤ 80 * r.size
  | .leaf w, ok => by
    unfold shown size
    rcases ok with rfl | rfl <;> decide +kernel
  | .sg w x, ok => by
    unfold shown size
    have h1 := len_marks x
    have h2 := ok.2.1
    have e1 : (Str.ofString "[^").length = 2 := by decide +kernel
    have e2 : (Str.ofString "[").length = 1 := by decide +kernel
    have e3 : (Str.ofString "]").length = 1 := by decide +kernel
    split <;> simp only [len_app, e1, e2, e3] <;> omega
  | .nm w l, ok => by
    unfold shown size
    have h := ok.2.1
    have e1 : (Str.ofString "=").length = 1 := by decide +kernel
    split
    · simp only [len_app, e1]; omega
    · omega
  | .seq w ps, ok => by
    unfold shown size
    have h := ok.2.2.1
    have h1 := len_shownP 1 ps ok.2.2.2
    have h0 := len_shownP 0 ps ok.2.2.2
    have j1 := len_join " " (shownP 1 ps)
    have j0 := len_join " / " (shownP 0 ps)
    have e1 : (Str.ofString " ").length = 1 := by decide +kernel
    have e0 : (Str.ofString " / ").length = 3 := by decide +kernel
    rw [e1] at j1
    rw [e0] at j0
    have l1 : (shownP 1 ps).length = ps.length := by rw [shownP_map, List.length_map]
    have l0 : (shownP 0 ps).length = ps.length := by rw [shownP_map, List.length_map]
    split <;> omega
  | .one w p, ok => by
    unfold shown size
    have h := len_shown p ok.2
    have h2 := len_par 2 p (shown p)
    have e1 : (Str.ofString "*").length = 1 := by decide +kernel
    have e2 : (Str.ofString "?").length = 1 := by decide +kernel
    have e3 : (Str.ofString "&").length = 1 := by decide +kernel
    have e4 : (Str.ofString "!").length = 1 := by decide +kernel
    split
    · simp only [len_app, e1]; omega
    split
    · simp only [len_app, e2]; omega
    split
    · simp only [len_app, e3]; omega
    · simp only [len_app, e4]; omega
  | .two w l p, ok => by
    unfold shown size
    have h := len_shown p ok.2.2
    have h2 := len_par 2 p (shown p)
    have h3 := ok.2.1.1
    have e1 : (Str.ofString ":").length = 1 := by decide +kernel
    have e2 : (Str.ofString "@").length = 1 := by decide +kernel
    have e3 : (Str.ofString "#").length = 1 := by decide +kernel
    split
    · simp only [len_app, e1]; omega
    split
    · simp only [len_app, e2]; omega
    · simp only [len_app, e3]; omega
theorem len_shownP (k : Nat) : ∀ ps : List Rdr, Oks ps → ((shownP k ps).map (·.length)).sum + 6 * ps.length ≤ 80 * sizes ps
  | [], _ => by unfold shownP sizes; simp
  | r :: ps, ok => by
    unfold shownP sizes
    have h1 := len_shown r ok.1
    have h2 := len_shownP k ps ok.2
    have h3 := len_par k r (shown r)
    simp only [List.map_cons, List.sum_cons, List.length_cons]; omega
end
theorem has_par (k : Nat) {ws : List D} (h : (k = 0 ∧ ws = [.str "choice"]) ∨ (k = 1 ∧ ws = [.str "choice", .str "row"]) ∨ (k = 2 ∧ ws = [.str "choice", .str "row", .str "hold", .str "tag", .str "make", .str "ahead", .str "not", .str "many", .str "maybe"]) ∨
    (k = 2 ∧ ws = [.str "choice", .str "row", .str "many", .str "maybe", .str "ahead", .str "not", .str "hold", .str "tag", .str "make"])) : ∀ {r : Rdr}, r.Ok → hasD (.str r.word) ws = parK k r := by
  intro r ok
  cases r with
  | leaf w => rcases ok with rfl | rfl <;> rcases h with ⟨rfl, rfl⟩ | ⟨rfl, rfl⟩ | ⟨rfl, rfl⟩ | ⟨rfl, rfl⟩ <;> simp [word, parK]
  | sg w x => rcases ok.1 with rfl | rfl <;> rcases h with ⟨rfl, rfl⟩ | ⟨rfl, rfl⟩ | ⟨rfl, rfl⟩ | ⟨rfl, rfl⟩ <;> simp [word, parK]
  | nm w x => rcases ok.1 with rfl | rfl <;> rcases h with ⟨rfl, rfl⟩ | ⟨rfl, rfl⟩ | ⟨rfl, rfl⟩ | ⟨rfl, rfl⟩ <;> simp [word, parK]
  | seq w x => rcases ok.1 with rfl | rfl <;> rcases h with ⟨rfl, rfl⟩ | ⟨rfl, rfl⟩ | ⟨rfl, rfl⟩ | ⟨rfl, rfl⟩ <;> simp [word, parK]
  | one w x => rcases ok.1 with rfl | rfl | rfl | rfl <;> rcases h with ⟨rfl, rfl⟩ | ⟨rfl, rfl⟩ | ⟨rfl, rfl⟩ | ⟨rfl, rfl⟩ <;> simp [word, parK]
  | two w l x => rcases ok.1 with rfl | rfl | rfl <;> rcases h with ⟨rfl, rfl⟩ | ⟨rfl, rfl⟩ | ⟨rfl, rfl⟩ | ⟨rfl, rfl⟩ <;> simp [word, parK]
theorem toD_word (r : Rdr) : ∃ rest, r.toD = .tup (.str r.word :: rest) := by
  cases r <;> unfold toD word <;> exact ⟨_, rfl⟩
end Rdr
def Ws (k : Nat) (ws : List D) : Prop := ws.all flatD = true ∧ ∀ r : Rdr, r.Ok → hasD (.str r.word) ws = r.parK k
def S_mark : L3.Spec := fun ds own P => ∃ c : Nat, ds = [.str ⟨#[c]⟩] ∧ P (.str (mk1 c)) own
def UMark (S : L3.Spec) : Prop := ∀ (own : Own) (P : D → Own → Prop) (c : Nat), P (.str (mk1 c)) own → S [.str ⟨#[c]⟩] own P
theorem uMark : UMark S_mark := fun own P c h => ⟨c, rfl, h⟩
def S_shown (n : Nat) : L3.Spec := fun ds own P => ∃ r : Rdr, ds = [r.toD] ∧ r.Ok ∧ r.hgt ≤ n ∧ r.size ≤ 72 ∧ P (.str r.shown) own
def UShown (n : Nat) (S : L3.Spec) : Prop := ∀ (own : Own) (P : D → Own → Prop) (r : Rdr), r.Ok → r.hgt ≤ n → r.size ≤ 72 → P (.str r.shown) own → S [r.toD] own P
theorem uShown (n : Nat) : UShown n (S_shown n) := fun own P r h1 h2 h3 h4 => ⟨r, rfl, h1, h2, h3, h4⟩
def S_in (tp : Bool) (n : Nat) : L3.Spec := fun ds own P => ∃ (r : Rdr) (k : Nat) (ws : List D), ds = [r.toD, if tp then .tup ws else .lst ws] ∧ Ws k ws ∧ r.Ok ∧ r.hgt ≤ n ∧ r.size ≤ 72 ∧ P (.str (r.par k r.shown)) own
def UIn (tp : Bool) (n : Nat) (S : L3.Spec) : Prop := ∀ (own : Own) (P : D → Own → Prop) (r : Rdr) (k : Nat) (ws : List D), Ws k ws → r.Ok → r.hgt ≤ n → r.size ≤ 72 → P (.str (r.par k r.shown)) own → S [r.toD, if tp then .tup ws else .lst ws] own P
theorem uIn (tp : Bool) (n : Nat) : UIn tp n (S_in tp n) := fun own P r k ws h1 h2 h3 h4 h5 => ⟨r, k, ws, rfl, h1, h2, h3, h4, h5⟩
theorem p_mark {ds : List D} {own : Own} {Q : D → Own → Prop} (h : S_mark ds own Q) : T_law_mark { nx := fun _ o => Rt Q .non o, rt := Rt Q } (astart N_law_mark ds) own := by
  obtain ⟨c, rfl, h⟩ := h
  have h := Rt.mk h
  have e1 : (⟨#[c]⟩ : Str) = Str.ofString "\n" ↔ c = 10 := by rw [show Str.ofString "\n" = ⟨#[10]⟩ from by decide +kernel]; simp
  have e2 : (Str.ofString "]^\\").cps.toList = [93, 94, 92] := by decide +kernel
  simp [T_law_mark, astart, N_law_mark]
  by_cases c1 : c = 10
  · have : ((⟨#[c]⟩ : Str) == Str.ofString "\n") = true := by simpa using e1.mpr c1
    simp [this]; subst c1; exact h
  have q1 : ((⟨#[c]⟩ : Str) == Str.ofString "\n") = false := by simpa using fun z => c1 (e1.mp z)
  simp only [q1]
  simp [oneIn, e2]
  have l1 : (Str.ofString "\\").length + (⟨#[c]⟩ : Str).length ≤ 16777216 := by
    have : (Str.ofString "\\").length = 1 := by decide +kernel
    rw [this]; show 1 + 1 ≤ _; decide
  unfold mk1 at h
  rw [if_neg c1] at h
  by_cases c2 : c = 93
  · subst c2; simp [l1]; exact h
  by_cases c3 : c = 94
  · subst c3; simp [l1]; exact h
  by_cases c4 : c = 92
  · subst c4; simp [l1]; exact h
  · simp [c2, c3, c4] at h ⊢; exact h
theorem p_shown_in {n : Nat} {S : L3.Spec} (hs : UShown n S) {ds : List D} {own : Own} {Q : D → Own → Prop} (h : S_in false n ds own Q) : T_law_shown_in S { nx := fun _ o => Rt Q .non o, rt := Rt Q } (astart N_law_shown_in ds) own := by
  obtain ⟨r, k, ws, rfl, hw, ok, hh, hz, h⟩ := h
  have h := Rt.mk h
  obtain ⟨rest, e⟩ := r.toD_word
  have hl := r.len_shown ok
  have e1 : (Str.ofString "(").length = 1 := by decide +kernel
  have e2 : (Str.ofString ")").length = 1 := by decide +kernel
  have fl := hw.1
  simp only [List.all_eq_true] at fl
  simp [T_law_shown_in, astart, N_law_shown_in]
  rw [e]
  simp [hw.2 r ok]
  refine ⟨fl, ?_⟩
  rw [← e]
  unfold Rdr.par at h
  cases hp : r.parK k with
  | true =>
    simp [hp] at h ⊢
    refine hs _ _ r ok hh hz ?_
    simp [e1, e2]
    exact ⟨by omega, by omega, h⟩
  | false =>
    simp [hp] at h ⊢
    exact hs _ _ r ok hh hz h

theorem ws0 : Ws 0 [.str "choice"] := ⟨rfl, fun r ok => Rdr.has_par 0 (.inl ⟨rfl, rfl⟩) ok⟩
theorem ws1 : Ws 1 [.str "choice", .str "row"] := ⟨rfl, fun r ok => Rdr.has_par 1 (.inr (.inl ⟨rfl, rfl⟩)) ok⟩
theorem ws2 : Ws 2 [.str "choice", .str "row", .str "hold", .str "tag", .str "make", .str "ahead", .str "not", .str "many", .str "maybe"] := ⟨rfl, fun r ok => Rdr.has_par 2 (.inr (.inr (.inl ⟨rfl, rfl⟩))) ok⟩
theorem ws3 : Ws 2 [.str "choice", .str "row", .str "many", .str "maybe", .str "ahead", .str "not", .str "hold", .str "tag", .str "make"] := ⟨rfl, fun r ok => Rdr.has_par 2 (.inr (.inr (.inr ⟨rfl, rfl⟩))) ok⟩
theorem cut2 (a b : D) : L3.cutD [a, b] (some 1) (some (-1)) = [] := rfl
theorem cut3 (a b c : D) : L3.cutD [a, b, c] (some 1) (some (-1)) = [b] := rfl
theorem join0 {own : Own} {P : D → Prop} : fJoin own (.str Str.empty) (.lst []) P = P (.str Str.empty) := by
  have := x_join (a := Str.empty) (l := []) (own := own) (P := P)
  simp [Str.join] at this; exact propext this
theorem join1 {own : Own} {P : D → Prop} {x : Str} : fJoin own (.str Str.empty) (.lst [.str x]) P = (x.length ≤ 16777216 ∧ P (.str x)) := by
  have := x_join (a := Str.empty) (l := [x]) (own := own) (P := P)
  simp [Str.join] at this; exact propext this
theorem p_shown {n : Nat} {S_mark S_in' : L3.Spec} (hm : UMark S_mark) (hi : UIn false n S_in') {ds : List D} {own : Own} {Q : D → Own → Prop} (h : S_shown (n + 1) ds own Q) : T_law_shown S_mark S_in' { nx := fun _ o => Rt Q .non o, rt := Rt Q } (astart N_law_shown ds) own := by
  obtain ⟨r, rfl, ok, hh, hz, h⟩ := h
  have h := Rt.mk h
  have hlen := r.len_shown ok
  cases r with
  | leaf w =>
    unfold Rdr.shown at h
    unfold Rdr.toD
    rcases ok with rfl | rfl <;> simp [T_law_shown, astart, N_law_shown] <;> simpa using h
  | sg w x =>
    unfold Rdr.shown at h
    unfold Rdr.toD
    have hx := ok.2.1
    have hml := len_marks x
    have hms := marks_sum x
    have l1 : (Str.ofString "[").length = 1 := by decide +kernel
    have l2 : (Str.ofString "]").length = 1 := by decide +kernel
    have l3 : (Str.ofString "^").length = 1 := by decide +kernel
    have l4 : Str.ofString "[^" = Str.ofString "[" ++ Str.ofString "^" := by decide +kernel
    have xs : x.cps.size ≤ 16777216 := by have : x.cps.size = x.length := rfl; omega
    rcases ok.1 with rfl | rfl <;> simp [T_law_shown, astart, N_law_shown, xs, L3.signs, l1, l2, l3]
    all_goals
      refine lc_pure (fun c : Nat => D.str ⟨#[c]⟩) (fun c => D.str (mk1 c)) trivial (fun c _ Q' hq => ?_) ?_
      · simp; exact hm _ _ c hq
      · have e : (x.cps.toList.map fun c => D.str (mk1 c)) = (x.cps.toList.map mk1).map D.str := by rw [List.map_map]; rfl
        rw [List.nil_append, e, x_join]
        refine ⟨by rw [len_emp, Nat.mul_zero]; omega, ?_⟩
        have e2 : Str.join Str.empty (x.cps.toList.map mk1) = marks x := rfl
        rw [e2]
        simp [l1, l2, l3] at h ⊢
        try simp [l4] at h
        exact ⟨by omega, by omega, h⟩
  | nm w x =>
    unfold Rdr.shown at h
    unfold Rdr.toD
    have hx := ok.2.1
    have l1 : (Str.ofString "=").length = 1 := by decide +kernel
    rcases ok.1 with rfl | rfl <;> simp [T_law_shown, astart, N_law_shown, l1] at h ⊢
    · exact ⟨by omega, h⟩
    · exact ⟨by omega, h⟩
  | seq w l =>
    unfold Rdr.shown at h
    unfold Rdr.toD
    rw [Rdr.toDs_map]
    unfold Rdr.hgt at hh
    unfold Rdr.size at hz
    have ok' := Rdr.oks_iff.mp ok.2.2.2
    have h1 := Rdr.len_shownP 1 l ok.2.2.2
    have h0 := Rdr.len_shownP 0 l ok.2.2.2
    have h6 := ok.2.2.1
    have e1 : (Str.ofString " ").length = 1 := by decide +kernel
    have e0 : (Str.ofString " / ").length = 3 := by decide +kernel
    rcases ok.1 with rfl | rfl <;> simp [T_law_shown, astart, N_law_shown] at h ⊢
    · refine lc_pure Rdr.toD (fun r => D.str (r.par 1 r.shown)) trivial (fun r hr Q' hq => ?_) ?_
      · simp
        exact hi _ _ r 1 _ ws1 (ok' r hr) (by have := Rdr.le_hgts hr; omega) (by have := Rdr.le_sizes hr; omega) hq
      · have e : (l.map fun r => D.str (r.par 1 r.shown)) = (Rdr.shownP 1 l).map D.str := by rw [Rdr.shownP_map, List.map_map]; rfl
        have ll : (Rdr.shownP 1 l).length = l.length := by rw [Rdr.shownP_map, List.length_map]
        rw [List.nil_append, e, x_join]
        exact ⟨by rw [e1, ll]; omega, h⟩
    · refine lc_pure Rdr.toD (fun r => D.str (r.par 0 r.shown)) trivial (fun r hr Q' hq => ?_) ?_
      · simp
        exact hi _ _ r 0 _ ws0 (ok' r hr) (by have := Rdr.le_hgts hr; omega) (by have := Rdr.le_sizes hr; omega) hq
      · have e : (l.map fun r => D.str (r.par 0 r.shown)) = (Rdr.shownP 0 l).map D.str := by rw [Rdr.shownP_map, List.map_map]; rfl
        have ll : (Rdr.shownP 0 l).length = l.length := by rw [Rdr.shownP_map, List.length_map]
        rw [List.nil_append, e, x_join]
        exact ⟨by rw [e0, ll]; omega, h⟩
  | one w p =>
    unfold Rdr.shown at h
    unfold Rdr.toD
    unfold Rdr.hgt at hh
    unfold Rdr.size at hz
    have g : ∀ P : D → Own → Prop, P (.str (p.par 2 p.shown)) own → S_in' [p.toD, .lst [.str "choice", .str "row", .str "hold", .str "tag", .str "make", .str "ahead", .str "not", .str "many", .str "maybe"]] own P := fun P hP => hi _ _ p 2 _ ws2 ok.2 (by omega) (by omega) hP
    have hp := p.len_shown ok.2
    have hp2 := p.len_par 2 p.shown
    have a1 : ∀ a b : D, atI [a, b] (-1) = some b := fun a b => rfl
    have e1 : (Str.ofString "*").length = 1 := by decide +kernel
    have e2 : (Str.ofString "?").length = 1 := by decide +kernel
    have e3 : (Str.ofString "&").length = 1 := by decide +kernel
    have e4 : (Str.ofString "!").length = 1 := by decide +kernel
    rcases ok.1 with rfl | rfl | rfl | rfl <;> simp [T_law_shown, astart, N_law_shown, a1] at h ⊢ <;> refine g _ ?_ <;> simp [fIxD, lookT, e1, e2, e3, e4]
    · exact ⟨by omega, h⟩
    · exact ⟨by omega, h⟩
    · simp [cut2, join0, e3]; exact ⟨by omega, h⟩
    · simp [cut2, join0, e4]; exact ⟨by omega, h⟩
  | two w l p =>
    unfold Rdr.shown at h
    unfold Rdr.toD
    unfold Rdr.hgt at hh
    unfold Rdr.size at hz
    have g : ∀ P : D → Own → Prop, P (.str (p.par 2 p.shown)) own → S_in' [p.toD, .lst [.str "choice", .str "row", .str "hold", .str "tag", .str "make", .str "ahead", .str "not", .str "many", .str "maybe"]] own P := fun P hP => hi _ _ p 2 _ ws2 ok.2.2 (by omega) (by omega) hP
    have hp := p.len_shown ok.2.2
    have hp2 := p.len_par 2 p.shown
    have hl := ok.2.1.1
    have a1 : ∀ a b c : D, atI [a, b, c] (-1) = some c := fun a b c => rfl
    have e1 : (Str.ofString ":").length = 1 := by decide +kernel
    have e2 : (Str.ofString "@").length = 1 := by decide +kernel
    have e3 : (Str.ofString "#").length = 1 := by decide +kernel
    rcases ok.1 with rfl | rfl | rfl <;> simp [T_law_shown, astart, N_law_shown, a1] at h ⊢ <;> refine g _ ?_ <;> simp [fIxD, lookT, e1, e2, e3, cut3, join1]
    all_goals exact ⟨by omega, by omega, by omega, h⟩

/-! ### the module's own -/
def S_ssigns : L3.Spec := fun ds own P => ∃ x : Str, ds = [.str x] ∧ x.length ≤ 30 ∧ P (.str (marks x)) own
def USsigns (S : L3.Spec) : Prop := ∀ (own : Own) (P : D → Own → Prop) (x : Str), x.length ≤ 30 → P (.str (marks x)) own → S [.str x] own P
theorem uSsigns : USsigns S_ssigns := fun own P x h1 h2 => ⟨x, rfl, h1, h2⟩
theorem esc_mk1 (c : Nat) : (tab_ESCAPED ⟨#[c]⟩).getD (.str ⟨#[c]⟩) = .str (mk1 c) := by
  have e1 : (⟨#[c]⟩ : Str) = Str.ofString "\n" ↔ c = 10 := by rw [show Str.ofString "\n" = ⟨#[10]⟩ from by decide +kernel]; simp
  have e2 : (⟨#[c]⟩ : Str) = Str.ofString "]" ↔ c = 93 := by rw [show Str.ofString "]" = ⟨#[93]⟩ from by decide +kernel]; simp
  have e3 : (⟨#[c]⟩ : Str) = Str.ofString "^" ↔ c = 94 := by rw [show Str.ofString "^" = ⟨#[94]⟩ from by decide +kernel]; simp
  have e4 : (⟨#[c]⟩ : Str) = Str.ofString "\\" ↔ c = 92 := by rw [show Str.ofString "\\" = ⟨#[92]⟩ from by decide +kernel]; simp
  unfold tab_ESCAPED mk1
  simp only [e1, e2, e3, e4]
  by_cases c1 : c = 10
  · simp [c1]
  by_cases c2 : c = 93
  · simp [c2]
  by_cases c3 : c = 94
  · simp [c3]
  by_cases c4 : c = 92
  · simp [c4]
  · simp [c1, c2, c3, c4]
theorem p_ssigns {a : Addr} {ds : List D} {own : Own} {Q : D → Own → Prop} (h : S_ssigns ds own Q) : T_show_signs a { nx := fun _ o => Rt Q .non o, rt := Rt Q } (astart N_show_signs ds) own := by
  obtain ⟨x, rfl, hx, h⟩ := h
  have h := Rt.mk h
  have hms := marks_sum x
  have xs : x.cps.size ≤ 16777216 := by have : x.cps.size = x.length := rfl; omega
  simp [T_show_signs, astart, N_show_signs, xs, L3.signs]
  refine lc_pure (fun c : Nat => D.str ⟨#[c]⟩) (fun c => D.str (mk1 c)) trivial (fun c _ Q' hq => ?_) ?_
  · show ∃ z, D.str ⟨#[c]⟩ = .str z ∧ Q' ((tab_ESCAPED z).getD (.str ⟨#[c]⟩)) own
    exact ⟨_, rfl, by rw [esc_mk1]; exact hq⟩
  · have e : (x.cps.toList.map fun c => D.str (mk1 c)) = (x.cps.toList.map mk1).map D.str := by rw [List.map_map]; rfl
    rw [List.nil_append, e, x_join]
    exact ⟨by rw [len_emp, Nat.mul_zero]; omega, h⟩
theorem p_within {n : Nat} {S : L3.Spec} (hs : UShown n S) {ds : List D} {own : Own} {Q : D → Own → Prop} (h : S_in true n ds own Q) : T_show_within S { nx := fun _ o => Rt Q .non o, rt := Rt Q } (astart N_show_within ds) own := by
  obtain ⟨r, k, ws, rfl, hw, ok, hh, hz, h⟩ := h
  have h := Rt.mk h
  obtain ⟨rest, e⟩ := r.toD_word
  have hl := r.len_shown ok
  have e1 : (Str.ofString "(").length = 1 := by decide +kernel
  have e2 : (Str.ofString ")").length = 1 := by decide +kernel
  have fl := hw.1
  simp only [List.all_eq_true] at fl
  simp [T_show_within, astart, N_show_within]
  rw [e]
  simp [hw.2 r ok]
  refine ⟨fl, ?_⟩
  rw [← e]
  unfold Rdr.par at h
  cases hp : r.parK k with
  | true =>
    simp [hp, e1, e2] at h ⊢
    refine hs _ _ r ok hh hz ?_
    simp [e1, e2]
    exact ⟨by omega, by omega, by omega, h⟩
  | false =>
    simp [hp] at h ⊢
    exact hs _ _ r ok hh hz h
/-- the small ones -/
def S_plain : L3.Spec := fun ds own P => ∃ (r : Rdr) (rest : List D), ds = [.str r.word, .lst rest] ∧ r.toD = .tup (.str r.word :: rest) ∧ r.Ok ∧ r.parK 2 = false ∧ P (.str r.shown) own
def UPlain (S : L3.Spec) : Prop := ∀ (own : Own) (P : D → Own → Prop) (r : Rdr) (rest : List D), r.toD = .tup (.str r.word :: rest) → r.Ok → r.parK 2 = false → P (.str r.shown) own → S [.str r.word, .lst rest] own P
theorem uPlain : UPlain S_plain := fun own P r rest h1 h2 h3 h4 => ⟨r, rest, rfl, h1, h2, h3, h4⟩
theorem p_plain {S : L3.Spec} (hs : USsigns S) {ds : List D} {own : Own} {Q : D → Own → Prop} (h : S_plain ds own Q) : T_show_plain S { nx := fun _ o => Rt Q .non o, rt := Rt Q } (astart N_show_plain ds) own := by
  obtain ⟨r, rest, rfl, e, ok, hp, h⟩ := h
  have h := Rt.mk h
  cases r with
  | leaf w =>
    unfold Rdr.toD at e
    simp only [Rdr.word] at e ⊢
    cases e
    unfold Rdr.shown at h
    rcases ok with rfl | rfl <;> simp [T_show_plain, astart, N_show_plain] <;> simpa using h
  | sg w x =>
    unfold Rdr.toD at e
    simp only [Rdr.word] at e ⊢
    cases e
    unfold Rdr.shown at h
    have hx := ok.2.1
    have hml := len_marks x
    have l1 : (Str.ofString "[").length = 1 := by decide +kernel
    have l2 : (Str.ofString "]").length = 1 := by decide +kernel
    have l3 : (Str.ofString "[^").length = 2 := by decide +kernel
    rcases ok.1 with rfl | rfl <;> simp [T_show_plain, astart, N_show_plain, l1, l2, l3] <;> refine hs _ _ x hx ?_ <;> simp [l1, l2, l3] at h ⊢
    all_goals exact ⟨by omega, by omega, by omega, h⟩
  | nm w x =>
    unfold Rdr.toD at e
    simp only [Rdr.word] at e ⊢
    cases e
    unfold Rdr.shown at h
    have hx := ok.2.1
    have l1 : (Str.ofString "=").length = 1 := by decide +kernel
    rcases ok.1 with rfl | rfl <;> simp [T_show_plain, astart, N_show_plain, l1] at h ⊢
    · exact ⟨by omega, by omega, h⟩
    · exact h
  | seq w l => simp [Rdr.parK] at hp
  | one w p => simp [Rdr.parK] at hp
  | two w l p => simp [Rdr.parK] at hp

/-! ### show_reader, show_book -/
theorem p_reader {n : Nat} {S_w S_p : L3.Spec} {a : Addr} (hw : UIn true n S_w) (hp : UPlain S_p) {ds : List D} {own : Own} {Q : D → Own → Prop} (h : S_shown (n + 1) ds own Q) : T_show_reader S_w S_p a { nx := fun _ o => Rt Q .non o, rt := Rt Q } (astart N_show_reader ds) own := by
  obtain ⟨r, rfl, ok, hh, hz, h⟩ := h
  have h := Rt.mk h
  have hlen := r.len_shown ok
  cases r with
  | leaf w =>
    unfold Rdr.toD
    rcases ok with rfl | rfl <;> simp [T_show_reader, astart, N_show_reader, d_TIGHT]
    · exact hp _ _ (.leaf "nothing") [] (by unfold Rdr.toD; rfl) (.inl rfl) rfl h
    · exact hp _ _ (.leaf "never") [] (by unfold Rdr.toD; rfl) (.inr rfl) rfl h
  | sg w x =>
    unfold Rdr.toD
    obtain ⟨rfl | rfl, o2⟩ := ok <;> simp [T_show_reader, astart, N_show_reader, d_TIGHT]
    · exact hp _ _ (.sg "sign" x) [.str x] (by unfold Rdr.toD; rfl) ⟨.inl rfl, o2⟩ rfl h
    · exact hp _ _ (.sg "but" x) [.str x] (by unfold Rdr.toD; rfl) ⟨.inr rfl, o2⟩ rfl h
  | nm w x =>
    unfold Rdr.toD
    obtain ⟨rfl | rfl, o2⟩ := ok <;> simp [T_show_reader, astart, N_show_reader, d_TIGHT]
    · exact hp _ _ (.nm "again" x) [.str x] (by unfold Rdr.toD; rfl) ⟨.inl rfl, o2⟩ rfl h
    · exact hp _ _ (.nm "name" x) [.str x] (by unfold Rdr.toD; rfl) ⟨.inr rfl, o2⟩ rfl h
  | seq w l =>
    unfold Rdr.shown at h
    unfold Rdr.toD
    rw [Rdr.toDs_map]
    unfold Rdr.hgt at hh
    unfold Rdr.size at hz
    have ok' := Rdr.oks_iff.mp ok.2.2.2
    have h1 := Rdr.len_shownP 1 l ok.2.2.2
    have h0 := Rdr.len_shownP 0 l ok.2.2.2
    have h6 := ok.2.2.1
    have e1 : (Str.ofString " ").length = 1 := by decide +kernel
    have e0 : (Str.ofString " / ").length = 3 := by decide +kernel
    rcases ok.1 with rfl | rfl <;> simp [T_show_reader, astart, N_show_reader] at h ⊢
    · refine lc_pure Rdr.toD (fun r => D.str (r.par 1 r.shown)) trivial (fun r hr Q' hq => ?_) ?_
      · simp
        exact hw _ _ r 1 _ ws1 (ok' r hr) (by have := Rdr.le_hgts hr; omega) (by have := Rdr.le_sizes hr; omega) hq
      · have e : (l.map fun r => D.str (r.par 1 r.shown)) = (Rdr.shownP 1 l).map D.str := by rw [Rdr.shownP_map, List.map_map]; rfl
        have ll : (Rdr.shownP 1 l).length = l.length := by rw [Rdr.shownP_map, List.length_map]
        rw [List.nil_append, e, x_join]
        exact ⟨by rw [e1, ll]; omega, h⟩
    · refine lc_pure Rdr.toD (fun r => D.str (r.par 0 r.shown)) trivial (fun r hr Q' hq => ?_) ?_
      · simp
        exact hw _ _ r 0 _ ws0 (ok' r hr) (by have := Rdr.le_hgts hr; omega) (by have := Rdr.le_sizes hr; omega) hq
      · have e : (l.map fun r => D.str (r.par 0 r.shown)) = (Rdr.shownP 0 l).map D.str := by rw [Rdr.shownP_map, List.map_map]; rfl
        have ll : (Rdr.shownP 0 l).length = l.length := by rw [Rdr.shownP_map, List.length_map]
        rw [List.nil_append, e, x_join]
        exact ⟨by rw [e0, ll]; omega, h⟩
  | one w p =>
    unfold Rdr.shown at h
    unfold Rdr.toD
    unfold Rdr.hgt at hh
    unfold Rdr.size at hz
    have g : ∀ P : D → Own → Prop, P (.str (p.par 2 p.shown)) own → S_w [p.toD, .tup [.str "choice", .str "row", .str "many", .str "maybe", .str "ahead", .str "not", .str "hold", .str "tag", .str "make"]] own P := fun P hP => hw _ _ p 2 _ ws3 ok.2 (by omega) (by omega) hP
    have hp1 := p.len_shown ok.2
    have hp2 := p.len_par 2 p.shown
    have e1 : (Str.ofString "*").length = 1 := by decide +kernel
    have e2 : (Str.ofString "?").length = 1 := by decide +kernel
    have e3 : (Str.ofString "&").length = 1 := by decide +kernel
    have e4 : (Str.ofString "!").length = 1 := by decide +kernel
    rcases ok.1 with rfl | rfl | rfl | rfl <;> simp [T_show_reader, astart, N_show_reader, d_TIGHT] at h ⊢ <;> refine g _ ?_ <;> simp [fInTab, tab_MARKS, e1, e2, e3, e4]
    all_goals exact ⟨by omega, h⟩
  | two w l p =>
    unfold Rdr.shown at h
    unfold Rdr.toD
    unfold Rdr.hgt at hh
    unfold Rdr.size at hz
    have g : ∀ P : D → Own → Prop, P (.str (p.par 2 p.shown)) own → S_w [p.toD, .tup [.str "choice", .str "row", .str "many", .str "maybe", .str "ahead", .str "not", .str "hold", .str "tag", .str "make"]] own P := fun P hP => hw _ _ p 2 _ ws3 ok.2.2 (by omega) (by omega) hP
    have hp1 := p.len_shown ok.2.2
    have hp2 := p.len_par 2 p.shown
    have hl := ok.2.1.1
    have e1 : (Str.ofString ":").length = 1 := by decide +kernel
    have e2 : (Str.ofString "@").length = 1 := by decide +kernel
    have e3 : (Str.ofString "#").length = 1 := by decide +kernel
    rcases ok.1 with rfl | rfl | rfl <;> simp [T_show_reader, astart, N_show_reader, d_TIGHT] at h ⊢ <;> refine g _ ?_ <;> simp [fInTab, fIxTab, tab_MARKS, e1, e2, e3]
    all_goals exact ⟨by omega, by omega, by omega, by omega, h⟩
def line1 (x : Str × Rdr) : Str := x.1 ++ (" = " ++ (x.2.shown ++ ";\n"))
def book (l : List (Str × Rdr)) : Str := Str.join Str.empty (l.map line1)
theorem len_line {x : Str × Rdr} (h : PgOk x) : (line1 x).length ≤ 6000 := by
  have h1 := x.2.len_shown h.2.1
  have h2 := h.1.1
  have h3 := h.2.2.2
  have e1 : (Str.ofString " = ").length = 3 := by decide +kernel
  have e2 : (Str.ofString ";\n").length = 2 := by decide +kernel
  unfold line1
  simp only [len_app, e1, e2]; omega
theorem book_sum {l : List (Str × Rdr)} (l8 : l.length ≤ 8) (h : ∀ x ∈ l, PgOk x) : ((l.map line1).map (·.length)).sum ≤ 48000 := by
  have := sum_le (n := 6000) (l := l.map line1) (fun y hy => by obtain ⟨x, hx, rfl⟩ := List.mem_map.mp hy; exact len_line (h x hx))
  rw [List.length_map] at this; omega
def S_sbook : L3.Spec := fun ds own P => ∃ l, ds = [.tup (l.map pg)] ∧ l.length ≤ 8 ∧ (∀ x ∈ l, PgOk x) ∧ P (.str (book l)) own
def UBook (S : L3.Spec) : Prop := ∀ (own : Own) (P : D → Own → Prop) (l : List (Str × Rdr)), l.length ≤ 8 → (∀ x ∈ l, PgOk x) → P (.str (book l)) own → S [.tup (l.map pg)] own P
theorem uBook : UBook S_sbook := fun own P l h1 h2 h3 => ⟨l, rfl, h1, h2, h3⟩
theorem p_book {S : L3.Spec} (hs : UShown 8 S) {ds : List D} {own : Own} {Q : D → Own → Prop} (h : S_sbook ds own Q) : T_show_book S { nx := fun _ o => Rt Q .non o, rt := Rt Q } (astart N_show_book ds) own := by
  obtain ⟨l, rfl, l8, hl, h⟩ := h
  have h := Rt.mk h
  have hb := book_sum l8 hl
  have e1 : (Str.ofString " = ").length = 3 := by decide +kernel
  have e2 : (Str.ofString ";\n").length = 2 := by decide +kernel
  simp [T_show_book, astart, N_show_book]
  refine lc_pure pg (fun x => D.str (line1 x)) trivial (fun x hx Q' hq => ?_) ?_
  · have h1 := x.2.len_shown (hl x hx).2.1
    have h2 := (hl x hx).1.1
    have h3 := (hl x hx).2.2.2
    unfold line1 at hq
    simp [pg, e1]
    refine ⟨by omega, by omega, ?_⟩
    refine hs _ _ x.2 (hl x hx).2.1 (hl x hx).2.2.1 h3 ?_
    simp [e1, e2]
    exact ⟨by omega, by omega, by omega, hq⟩
  · have e : (l.map fun x => D.str (line1 x)) = (l.map line1).map D.str := by rw [List.map_map]; rfl
    rw [List.nil_append, e, x_join]
    exact ⟨by rw [len_emp, Nat.mul_zero]; omega, h⟩

/-! ### the law -/
def UStart (S : L3.Spec) : Prop := ∀ (own : Own) (P : D → Own → Prop) (ns : List Int), ns.length ≤ 63 → (∀ p pen, own p = none → Pn (2 ^ 59) pen → P (.ref p) (oset own p (.lst pen))) → S [.kls (ns.map D.int)] own P
theorem uStart : UStart S_start := fun own P ns h1 h2 => ⟨ns, rfl, h1, h2⟩
def UPages (S : L3.Spec) : Prop := ∀ (own : Own) (P : D → Own → Prop) (p : Addr) (pen : List D) (b : Nat), own p = some (.lst pen) → Pn (b + costP) pen → (∀ (l : List (Str × Rdr)) pen', l.length ≤ 8 → (∀ x ∈ l, PgOk x) → Pn b pen' → P (.tup (l.map pg)) (oset own p (.lst pen'))) → S [.ref p] own P
theorem uPages : UPages S_pages := fun own P p pen b h1 h2 h3 => ⟨p, pen, b, rfl, h1, h2, h3⟩
theorem word_ok : ∀ {w : Str}, (w = "nothing" ∨ w = "never" ∨ w = "sign" ∨ w = "but" ∨ w = "again" ∨ w = "name" ∨ w = "row" ∨ w = "choice" ∨ w = "many" ∨ w = "maybe" ∨ w = "ahead" ∨ w = "not" ∨ w = "hold" ∨ w = "tag" ∨ w = "make") → ∀ {a : Nat}, PyOk (.str w) a 8 := by
  intro w h a
  rcases h with rfl | rfl | rfl | rfl | rfl | rfl | rfl | rfl | rfl | rfl | rfl | rfl | rfl | rfl | rfl <;> exact .str (by decide +kernel) (by decide +kernel)
mutual
theorem rdr_py : ∀ r : Rdr, r.Ok → PyOk r.toD (2 * r.hgt) (80 * r.size - 1)
  | .leaf w, ok => by
    unfold Rdr.toD Rdr.hgt Rdr.size
    exact (PyOk.tup (a := 1) (.cons (word_ok (by rcases ok with h | h <;> simp [h])) (.nil (b := 0)))).mono (by omega) (by omega)
  | .sg w x, ok => by
    unfold Rdr.toD Rdr.hgt Rdr.size
    exact (PyOk.tup (a := 1) (.cons (word_ok (by rcases ok.1 with h | h <;> simp [h])) (.cons (.str ok.2.2 ok.2.1) (.nil (b := 0))))).mono (by omega) (by omega)
  | .nm w x, ok => by
    unfold Rdr.toD Rdr.hgt Rdr.size
    exact (PyOk.tup (a := 1) (.cons (word_ok (by rcases ok.1 with h | h <;> simp [h])) (.cons (.str ok.2.2 ok.2.1) (.nil (b := 0))))).mono (by omega) (by omega)
  | .seq w ps, ok => by
    unfold Rdr.toD Rdr.hgt Rdr.size
    have h := rdrs_py ps ok.2.2.2
    exact (PyOk.tup (.cons (word_ok (by rcases ok.1 with h | h <;> simp [h])) (.cons (.tup h) (.nil (b := 0))))).mono (by omega) (by omega)
  | .one w p, ok => by
    unfold Rdr.toD Rdr.hgt Rdr.size
    have h := rdr_py p ok.2
    exact (PyOk.tup (.cons (word_ok (by rcases ok.1 with h | h | h | h <;> simp [h])) (.cons h (.nil (b := 0))))).mono (by omega) (by omega)
  | .two w l p, ok => by
    unfold Rdr.toD Rdr.hgt Rdr.size
    have h := rdr_py p ok.2.2
    exact (PyOk.tup (.cons (word_ok (by rcases ok.1 with h | h | h <;> simp [h])) (.cons (.str ok.2.1.2 ok.2.1.1) (.cons h (.nil (b := 0)))))).mono (by omega) (by omega)
theorem rdrs_py : ∀ ps : List Rdr, Rdr.Oks ps → PysOk (Rdr.toDs ps) (2 * Rdr.hgts ps) (80 * Rdr.sizes ps)
  | [], _ => by unfold Rdr.toDs; exact .nil
  | r :: ps, ok => by
    unfold Rdr.toDs Rdr.hgts Rdr.sizes
    have h1 := rdr_py r ok.1
    have h2 := rdrs_py ps ok.2
    have h3 : 0 < r.size := by cases r <;> unfold Rdr.size <;> omega
    exact (PysOk.cons (h1.mono (a' := 2 * max r.hgt (Rdr.hgts ps)) (by omega) (Nat.le_refl _)) (h2.mono (by omega) (Nat.le_refl _))).mono (by omega) (by omega)
end
theorem pg_py : ∀ l : List (Str × Rdr), (∀ x ∈ l, PgOk x) → PysOk (l.map pg) 17 (l.length * 6000)
  | [], _ => .nil
  | x :: l, h => by
    have h1 := h x (List.mem_cons_self ..)
    have h2 := pg_py l fun y hy => h y (List.mem_cons_of_mem _ hy)
    have h3 := rdr_py x.2 h1.2.1
    have h4 := h1.2.2.1
    have h5 := h1.2.2.2
    rw [List.map_cons, List.length_cons]
    exact (PysOk.cons (PyOk.tup (.cons (.str h1.1.2 h1.1.1) (.cons (h3.mono (a' := 16) (by omega) (Nat.le_refl _)) (.nil (b := 0))))) h2).mono (Nat.le_refl _) (by omega)
theorem pages_repr {l : List (Str × Rdr)} (l8 : l.length ≤ 8) (h : ∀ x ∈ l, PgOk x) : reprOk (.tup (l.map pg)) = true :=
  (PyOk.tup (pg_py l h)).repr (by decide) (by omega)
theorem law_in {S_s S_r : L3.Spec} (h1 : UShown 8 S_s) (h2 : UShown 8 S_r) {own0 : Own} {m : Addr} {E : AEnds} {e0 e1 e2 e3 e4 : Option D} : ∀ (l : List (Str × Rdr)) (ls : List Str) (e6 e7 e8 : Option D), (∀ x ∈ l, PgOk x) → ls.length + l.length ≤ 8 →
    (∀ e6 e7 e8, E.nx [e0, e1, e2, e3, e4, some (.ref m), e6, e7, e8] (oset own0 m (.lst ((ls ++ l.map line1).map .str)))) →
    aTurns (gTp 2 (gsCons (gN 6) (gsCons (gN 7) gsNil))) (aSeq (aAsg (aCall S_s [] (aCons (aV 7) aNil)) (gN 8))
  (aSeq (aDrop (aApp (aV 5) (aBin fAdd (aBin fAdd (aBin fAdd (aV 6) (aC (.str " = "))) (aV 8)) (aC (.str ";\n")))))
  (aIfS (aOr (aNot (aTru (aFn fIsi (aCons (aCall S_r [] (aCons (aV 7) aNil)) (aCons (aC (.ty "str")) aNil))))) (aOr (aB (aBin (fEq true) (aCall S_r [] (aCons (aV 7) aNil)) (aV 8))) (aB (aBin (fEq true) (aCall S_r [] (aCons (aV 7) aNil)) (aV 8))))) (aRet (aC (.bl false))) aNext))) (fun _ => True) E (l.map pg) [e0, e1, e2, e3, e4, some (.ref m), e6, e7, e8] (oset own0 m (.lst (ls.map .str)))
  | [], ls, e6, e7, e8, _, _, k => ⟨trivial, by simpa using k e6 e7 e8⟩
  | x :: l, ls, e6, e7, e8, hl, h8, k => by
    rw [List.map_cons, x_turC]
    refine ⟨trivial, ?_⟩
    obtain ⟨⟨a1, a2⟩, b1, b2, b3⟩ := hl x (List.mem_cons_self ..)
    have b4 := x.2.len_shown b1
    have q1 : (Str.ofString " = ").length = 3 := by decide +kernel
    have q2 : (Str.ofString ";\n").length = 2 := by decide +kernel
    simp [pg]
    refine h1 _ _ x.2 b1 b2 b3 ?_
    simp [x_ownL oset_same, q1, q2, oset_oset]
    simp at h8
    refine ⟨by omega, by omega, by omega, by omega, ?_⟩
    refine h2 _ _ x.2 b1 b2 b3 ?_
    simp
    refine h2 _ _ x.2 b1 b2 b3 ?_
    simp
    refine h2 _ _ x.2 b1 b2 b3 ?_
    simp
    have := law_in h1 h2 (own0 := own0) (m := m) (E := E) (e0 := e0) (e1 := e1) (e2 := e2) (e3 := e3) (e4 := e4) l (ls ++ [line1 x]) (some (.str x.1)) (some x.2.toD) (some (.str x.2.shown)) (fun y hy => hl y (List.mem_cons_of_mem _ hy)) (by simp; omega) (fun a b c => by have := k a b c; simpa using this)
    simpa [line1] using this
theorem x_joinR {a : Str} {l : List Str} {own : Own} {d : D} {P : D → Prop} (h : see own d = .lst (l.map D.str)) : fJoin own (.str a) d P = ((l.map (·.length)).sum + l.length * a.length ≤ 16777216 ∧ P (.str (Str.join a l))) := by
  simp [fJoin, gJoin, h]
theorem cost_le : costP ≤ 2 ^ 40 := by
  unfold costP cost; decide +kernel
theorem law_out {S_p S_s S_r S_b : L3.Spec} (hp : UPages S_p) (h1 : UShown 8 S_s) (h2 : UShown 8 S_r) (hb : UBook S_b) {E : AEnds} {p : Addr} {e0 : Option D} (hE : ∀ env own, E.nx env own) : ∀ (ds : List D) (own : Own) (pen : List D) (e2 e3 e4 e5 e6 e7 e8 : Option D), own p = some (.lst pen) → Pn (ds.length * costP) pen →
    aTurns (gN 2) (aSeq (aAsg (aCall S_p [] (aCons (aV 1) aNil)) (gN 3))
  (aSeq (aAsg (aFn (f1 gRepr) (aCons (aV 3) aNil)) (gN 4))
  (aSeq (aAsg (aOw (aLst aNil)) (gN 5))
  (aSeq (aFor (aIt (aV 3)) (gTp 2 (gsCons (gN 6) (gsCons (gN 7) gsNil))) (aSeq (aAsg (aCall S_s [] (aCons (aV 7) aNil)) (gN 8))
  (aSeq (aDrop (aApp (aV 5) (aBin fAdd (aBin fAdd (aBin fAdd (aV 6) (aC (.str " = "))) (aV 8)) (aC (.str ";\n")))))
  (aIfS (aOr (aNot (aTru (aFn fIsi (aCons (aCall S_r [] (aCons (aV 7) aNil)) (aCons (aC (.ty "str")) aNil))))) (aOr (aB (aBin (fEq true) (aCall S_r [] (aCons (aV 7) aNil)) (aV 8))) (aB (aBin (fEq true) (aCall S_r [] (aCons (aV 7) aNil)) (aV 8))))) (aRet (aC (.bl false))) aNext))))
  (aIfS (aOr (aB (aBin (fEq true) (aCall S_b [] (aCons (aV 3) aNil)) (aJoin (aC (.str "")) (aV 5)))) (aOr (aB (aBin (fEq true) (aCall S_b [] (aCons (aV 3) aNil)) (aJoin (aC (.str "")) (aV 5)))) (aB (aBin (fEq true) (aFn (f1 gRepr) (aCons (aV 3) aNil)) (aV 4))))) (aRet (aC (.bl false))) aNext))))) (fun _ => True) E ds [e0, some (.ref p), e2, e3, e4, e5, e6, e7, e8] own
  | [], own, pen, _, _, _, _, _, _, _, _, _ => ⟨trivial, hE _ _⟩
  | d :: ds, own, pen, e2, e3, e4, e5, e6, e7, e8, ho, hpn => by
    rw [x_turC]
    refine ⟨trivial, ?_⟩
    simp
    refine hp _ _ p pen (ds.length * costP) ho (hpn.mono (by rw [List.length_cons, Nat.add_mul]; omega)) fun l pen' l8 hl hp' => ?_
    have rp := pages_repr l8 hl
    simp [rp]
    intro m hm
    have mp : m ≠ p := by rintro rfl; rw [oset_same] at hm; cases hm
    refine law_in h1 h2 (own0 := oset own p (.lst pen')) l [] e6 e7 e8 hl (by simpa using l8) fun e6 e7 e8 => ?_
    have hj := book_sum l8 hl
    have hbk : book l = Str.join Str.empty (l.map line1) := rfl
    rw [List.nil_append]
    generalize l.map line1 = L at hj hbk ⊢
    have sm : see (oset (oset own p (.lst pen')) m (.lst (L.map .str))) (.ref m) = .lst (L.map .str) := x_seeR oset_same
    simp only [x_ifS, x_or, x_B, x_bin, x_call, x_cons, x_nil, x_v, x_eg0, x_egS, x_joinE, x_c, List.cons_append, List.nil_append, List.append_nil]
    refine hb _ _ l l8 hl ⟨_, rfl, ?_⟩
    rw [x_joinR sm]
    refine ⟨by rw [len_emp, Nat.mul_zero]; omega, ?_⟩
    simp [hbk]
    refine hb _ _ l l8 hl ?_
    rw [x_joinR sm]
    refine ⟨by rw [len_emp, Nat.mul_zero]; omega, ?_⟩
    simp [hbk, rp]
    exact law_out hp h1 h2 hb hE ds _ pen' _ _ _ _ _ _ _ (by rw [oset_ne (Ne.symm mp)]; exact oset_same) hp'
theorem p_law {S_st S_p S_s S_r S_b : L3.Spec} (h0 : UStart S_st) (hp : UPages S_p) (h1 : UShown 8 S_s) (h2 : UShown 8 S_r) (hb : UBook S_b) {ds : List D} {own : Own} {Q : D → Own → Prop} (h : spLaw 63 ds own Q) : T_law S_st S_p S_s S_r S_b { nx := fun _ o => Rt Q .non o, rt := Rt Q } (astart N_law ds) own := by
  obtain ⟨ns, rfl, hn, rfl, k⟩ := h
  simp [T_law, astart, N_law]
  refine h0 _ _ ns hn fun p pen hp0 hpn => ?_
  have hc := cost_le
  refine law_out hp h1 h2 hb (fun env own => Rt.mk (k _ _ rfl)) _ _ pen _ _ _ _ _ _ _ oset_same (hpn.mono ?_)
  have : (rng 0 4).length = 4 := rfl
  show (rng 0 4).length * costP ≤ 2 ^ 59
  rw [this]; omega

/-! the end: printed by join.py -/
def kv_ESCAPED : List (Str × D) := [("\n", (.str "\\n")), ("]", (.str "\\]")), ("^", (.str "\\^")), ("\\", (.str "\\\\"))]
theorem tab_kv_ESCAPED : lookD kv_ESCAPED = tab_ESCAPED := rfl
def kv_MARKS : List (Str × D) := [("hold", (.str ":")), ("tag", (.str "@")), ("make", (.str "#"))]
theorem tab_kv_MARKS : lookD kv_MARKS = tab_MARKS := rfl
def fn : List He.DefD := [⟨("show_signs", none), "show_signs", "show_signs", defArgs s_show_signs, defBody s_show_signs, defScope s_show_signs, [], []⟩, ⟨("show_within", none), "show_within", "show_within", defArgs s_show_within, defBody s_show_within, defScope s_show_within, [], []⟩, ⟨("show_plain", none), "show_plain", "show_plain", defArgs s_show_plain, defBody s_show_plain, defScope s_show_plain, [], []⟩, ⟨("show_reader", none), "show_reader", "show_reader", defArgs s_show_reader, defBody s_show_reader, defScope s_show_reader, [], []⟩, ⟨("show_book", none), "show_book", "show_book", defArgs s_show_book, defBody s_show_book, defScope s_show_book, [], []⟩, ⟨("_law_start", none), "_law_start", "_law_start", defArgs s_law_start, defBody s_law_start, defScope s_law_start, [], []⟩, ⟨("_law_draw", none), "_law_draw", "_law_draw", defArgs s_law_draw, defBody s_law_draw, defScope s_law_draw, [], []⟩, ⟨("_law_label", none), "_law_label", "_law_label", defArgs s_law_label, defBody s_law_label, defScope s_law_label, [], []⟩, ⟨("_law_signs", none), "_law_signs", "_law_signs", defArgs s_law_signs, defBody s_law_signs, defScope s_law_signs, [], []⟩, ⟨("_law_bare", none), "_law_bare", "_law_bare", defArgs s_law_bare, defBody s_law_bare, defScope s_law_bare, [], []⟩, ⟨("_law_any", none), "_law_any", "_law_any", defArgs s_law_any, defBody s_law_any, defScope s_law_any, [], []⟩, ⟨("_law_size", none), "_law_size", "_law_size", defArgs s_law_size, defBody s_law_size, defScope s_law_size, [], []⟩, ⟨("_law_pages", none), "_law_pages", "_law_pages", defArgs s_law_pages, defBody s_law_pages, defScope s_law_pages, [], []⟩, ⟨("_law_mark", none), "_law_mark", "_law_mark", defArgs s_law_mark, defBody s_law_mark, defScope s_law_mark, [], []⟩, ⟨("_law_shown_in", none), "_law_shown_in", "_law_shown_in", defArgs s_law_shown_in, defBody s_law_shown_in, defScope s_law_shown_in, [], []⟩, ⟨("_law_shown", none), "_law_shown", "_law_shown", defArgs s_law_shown, defBody s_law_shown, defScope s_law_shown, [], []⟩, ⟨("law", none), "law", "law", defArgs s_law, defBody s_law, defScope s_law, [], []⟩]
def fa : List He.Fa := [.glo "show_signs", .glo "show_within", .glo "show_plain", .glo "show_reader", .glo "show_book", .glo "_law_start", .glo "_law_draw", .glo "_law_label", .glo "_law_signs", .glo "_law_bare", .glo "_law_any", .glo "_law_size", .glo "_law_pages", .glo "_law_mark", .glo "_law_shown_in", .glo "_law_shown", .glo "law", .glo "ESCAPED", .glo "MARKS", .free "list", .free "len", .free "abs", .free "range", .free "int", .free "tuple", .free "sum", .free "repr", .free "str", .free "isinstance"]
def ts : List He.Tab := [(fun K => He.ga K "ESCAPED", ["\n", "]", "^", "\\"]), (fun K => He.ga K "MARKS", ["hold", "tag", "make"])]
def ck (K : PySem.W.Frag) : Bool := (gloB K "TIGHT" d_TIGHT && (tabB K (He.ga K "ESCAPED") kv_ESCAPED && (tabB K (He.ga K "MARKS") kv_MARKS && true)))
def names : List Str := ["__name__", "ESCAPED", "TIGHT", "MARKS", "show_signs", "show_within", "show_plain", "show_reader", "show_book", "_law_start", "_law_draw", "_law_label", "_law_signs", "_law_bare", "_law_any", "_law_size", "_law_pages", "_law_mark", "_law_shown_in", "_law_shown"]
abbrev RR : PySem.W.OpenRow := PySem.W.OpenLaw.row PySem.Challenge.rw_smallreaders_k85_readers_and_books_writt
abbrev hk : PySem.W.Hook := hookX 4 fa fn ts ck
def ob (s : PySem.W.SharedT) : AlX := obsXG 4 fa fn ts ck (HandSHeadRun.getT s)
theorem ob_eq (s : PySem.W.SharedT) : ob s = hk.obs s.abs := obsXG_eq (HandSHeadRun.getT_eq s)

section
variable {P : Program} {w : World} {K : PySem.W.Frag} {h : Heap} {mg : Str → Option Value}
theorem h_show_signs (X : K.In h) (G : h.Ns mainGlobals mg) (c : SaysX fa fn ts ck w K) : Has K mg "show_signs" s_show_signs := has_of X G c 0 0
theorem h_show_within (X : K.In h) (G : h.Ns mainGlobals mg) (c : SaysX fa fn ts ck w K) : Has K mg "show_within" s_show_within := has_of X G c 1 1
theorem h_show_plain (X : K.In h) (G : h.Ns mainGlobals mg) (c : SaysX fa fn ts ck w K) : Has K mg "show_plain" s_show_plain := has_of X G c 2 2
theorem h_show_reader (X : K.In h) (G : h.Ns mainGlobals mg) (c : SaysX fa fn ts ck w K) : Has K mg "show_reader" s_show_reader := has_of X G c 3 3
theorem h_show_book (X : K.In h) (G : h.Ns mainGlobals mg) (c : SaysX fa fn ts ck w K) : Has K mg "show_book" s_show_book := has_of X G c 4 4
theorem h_law_start (X : K.In h) (G : h.Ns mainGlobals mg) (c : SaysX fa fn ts ck w K) : Has K mg "_law_start" s_law_start := has_of X G c 5 5
theorem h_law_draw (X : K.In h) (G : h.Ns mainGlobals mg) (c : SaysX fa fn ts ck w K) : Has K mg "_law_draw" s_law_draw := has_of X G c 6 6
theorem h_law_label (X : K.In h) (G : h.Ns mainGlobals mg) (c : SaysX fa fn ts ck w K) : Has K mg "_law_label" s_law_label := has_of X G c 7 7
theorem h_law_signs (X : K.In h) (G : h.Ns mainGlobals mg) (c : SaysX fa fn ts ck w K) : Has K mg "_law_signs" s_law_signs := has_of X G c 8 8
theorem h_law_bare (X : K.In h) (G : h.Ns mainGlobals mg) (c : SaysX fa fn ts ck w K) : Has K mg "_law_bare" s_law_bare := has_of X G c 9 9
theorem h_law_any (X : K.In h) (G : h.Ns mainGlobals mg) (c : SaysX fa fn ts ck w K) : Has K mg "_law_any" s_law_any := has_of X G c 10 10
theorem h_law_size (X : K.In h) (G : h.Ns mainGlobals mg) (c : SaysX fa fn ts ck w K) : Has K mg "_law_size" s_law_size := has_of X G c 11 11
theorem h_law_pages (X : K.In h) (G : h.Ns mainGlobals mg) (c : SaysX fa fn ts ck w K) : Has K mg "_law_pages" s_law_pages := has_of X G c 12 12
theorem h_law_mark (X : K.In h) (G : h.Ns mainGlobals mg) (c : SaysX fa fn ts ck w K) : Has K mg "_law_mark" s_law_mark := has_of X G c 13 13
theorem h_law_shown_in (X : K.In h) (G : h.Ns mainGlobals mg) (c : SaysX fa fn ts ck w K) : Has K mg "_law_shown_in" s_law_shown_in := has_of X G c 14 14
theorem h_law_shown (X : K.In h) (G : h.Ns mainGlobals mg) (c : SaysX fa fn ts ck w K) : Has K mg "_law_shown" s_law_shown := has_of X G c 15 15
theorem h_law (X : K.In h) (G : h.Ns mainGlobals mg) (c : SaysX fa fn ts ck w K) : Has K mg "law" s_law := has_of X G c 16 16
theorem hg_ESCAPED (X : K.In h) (G : h.Ns mainGlobals mg) (c : SaysX fa fn ts ck w K) : mg "ESCAPED" = some (.ref (He.ga K "ESCAPED")) := He.glo_ok X G (c.t.d.fact 17 rfl)
theorem hg_MARKS (X : K.In h) (G : h.Ns mainGlobals mg) (c : SaysX fa fn ts ck w K) : mg "MARKS" = some (.ref (He.ga K "MARKS")) := He.glo_ok X G (c.t.d.fact 18 rfl)
theorem hb_list (X : K.In h) (G : h.Ns mainGlobals mg) (c : SaysX fa fn ts ck w K) : mg "list" = none := He.free_ok X G (c.t.d.fact 19 rfl)
theorem hb_len (X : K.In h) (G : h.Ns mainGlobals mg) (c : SaysX fa fn ts ck w K) : mg "len" = none := He.free_ok X G (c.t.d.fact 20 rfl)
theorem hb_abs (X : K.In h) (G : h.Ns mainGlobals mg) (c : SaysX fa fn ts ck w K) : mg "abs" = none := He.free_ok X G (c.t.d.fact 21 rfl)
theorem hb_range (X : K.In h) (G : h.Ns mainGlobals mg) (c : SaysX fa fn ts ck w K) : mg "range" = none := He.free_ok X G (c.t.d.fact 22 rfl)
theorem hb_int (X : K.In h) (G : h.Ns mainGlobals mg) (c : SaysX fa fn ts ck w K) : mg "int" = none := He.free_ok X G (c.t.d.fact 23 rfl)
theorem hb_tuple (X : K.In h) (G : h.Ns mainGlobals mg) (c : SaysX fa fn ts ck w K) : mg "tuple" = none := He.free_ok X G (c.t.d.fact 24 rfl)
theorem hb_sum (X : K.In h) (G : h.Ns mainGlobals mg) (c : SaysX fa fn ts ck w K) : mg "sum" = none := He.free_ok X G (c.t.d.fact 25 rfl)
theorem hb_repr (X : K.In h) (G : h.Ns mainGlobals mg) (c : SaysX fa fn ts ck w K) : mg "repr" = none := He.free_ok X G (c.t.d.fact 26 rfl)
theorem hb_str (X : K.In h) (G : h.Ns mainGlobals mg) (c : SaysX fa fn ts ck w K) : mg "str" = none := He.free_ok X G (c.t.d.fact 27 rfl)
theorem hb_isinstance (X : K.In h) (G : h.Ns mainGlobals mg) (c : SaysX fa fn ts ck w K) : mg "isinstance" = none := He.free_ok X G (c.t.d.fact 28 rfl)
theorem ht_TIGHT (X : K.In h) (G : h.Ns mainGlobals mg) (c : SaysX fa fn ts ck w K) : ∃ u : Addr, mg "TIGHT" = some (.ref u) ∧ ∀ G, Dt K G d_TIGHT (.ref u) := gloB_ok X G (He.ba c.ck).1
theorem hk_ESCAPED (c : SaysX fa fn ts ck w K) : KTab K w (He.ga K "ESCAPED") tab_ESCAPED := kTab_of (kv := kv_ESCAPED) (c.t.tab 0 rfl) (He.ba (He.ba c.ck).2).1
theorem hk_MARKS (c : SaysX fa fn ts ck w K) : KTab K w (He.ga K "MARKS") tab_MARKS := kTab_of (kv := kv_MARKS) (c.t.tab 1 rfl) (He.ba (He.ba (He.ba c.ck).2).2).1
end
theorem bd_show_signs : Bd "show_signs" s_show_signs P_show_signs := fun _ _ _ _ _ _ us hl => match us, hl with | [_], _ => rfl
theorem bd_show_plain : Bd "show_plain" s_show_plain P_show_plain := fun _ _ _ _ _ _ us hl => match us, hl with | [_, _], _ => rfl
theorem bd_show_reader : Bd "show_reader" s_show_reader P_show_reader := fun _ _ _ _ _ _ us hl => match us, hl with | [_], _ => rfl
theorem bd_show_book : Bd "show_book" s_show_book P_show_book := fun _ _ _ _ _ _ us hl => match us, hl with | [_], _ => rfl
theorem bd_law_start : Bd "_law_start" s_law_start P_law_start := fun _ _ _ _ _ _ us hl => match us, hl with | [_], _ => rfl
theorem bd_law_draw : Bd "_law_draw" s_law_draw P_law_draw := fun _ _ _ _ _ _ us hl => match us, hl with | [_, _], _ => rfl
theorem bd_law_label : Bd "_law_label" s_law_label P_law_label := fun _ _ _ _ _ _ us hl => match us, hl with | [_], _ => rfl
theorem bd_law_signs : Bd "_law_signs" s_law_signs P_law_signs := fun _ _ _ _ _ _ us hl => match us, hl with | [_, _], _ => rfl
theorem bd_law_bare : Bd "_law_bare" s_law_bare P_law_bare := fun _ _ _ _ _ _ us hl => match us, hl with | [_, _], _ => rfl
theorem bd_law_any : Bd "_law_any" s_law_any P_law_any := fun _ _ _ _ _ _ us hl => match us, hl with | [_, _, _, _], _ => rfl
theorem bd_law_size : Bd "_law_size" s_law_size P_law_size := fun _ _ _ _ _ _ us hl => match us, hl with | [_], _ => rfl
theorem bd_law_pages : Bd "_law_pages" s_law_pages P_law_pages := fun _ _ _ _ _ _ us hl => match us, hl with | [_], _ => rfl
theorem bd_law_mark : Bd "_law_mark" s_law_mark P_law_mark := fun _ _ _ _ _ _ us hl => match us, hl with | [_], _ => rfl
theorem bd_law_shown_in : Bd "_law_shown_in" s_law_shown_in P_law_shown_in := fun _ _ _ _ _ _ us hl => match us, hl with | [_, _], _ => rfl
theorem bd_law_shown : Bd "_law_shown" s_law_shown P_law_shown := fun _ _ _ _ _ _ us hl => match us, hl with | [_], _ => rfl
theorem bd_law : Bd "law" s_law P_law := fun _ _ _ _ _ _ us hl => match us, hl with | [_], _ => rfl
theorem bdk_show_book_k0 : BdK "show_book" s_show_book P_show_book 0 ["book"] := fun _ _ _ _ _ _ us ws h1 h2 => match us, ws, h1, h2 with | [], [_], _, _ => rfl
theorem bdk_show_reader_k0 : BdK "show_reader" s_show_reader P_show_reader 0 ["reader"] := fun _ _ _ _ _ _ us ws h1 h2 => match us, ws, h1, h2 with | [], [_], _, _ => rfl
theorem bdk_show_within_k1 : BdK "show_within" s_show_within P_show_within 1 ["but"] := fun _ _ _ _ _ _ us ws h1 h2 => match us, ws, h1, h2 with | [_], [_], _, _ => rfl
section
variable {P : Program} {w : World} {K : PySem.W.Frag} {h : Heap} {mg : Str → Option Value} {base : Heap}
theorem bod_show_signs {k : Nat} {S : L3.Spec} (X : K.In h) (G : h.Ns mainGlobals mg) (c : SaysX fa fn ts ck w K)
    (p : ∀ ds own Q, S ds own Q → T_show_signs (He.ga K "ESCAPED") { nx := fun _ o => Rt Q .non o, rt := Rt Q } (astart N_show_signs ds) own) : Bod P w K mg base "show_signs" s_show_signs N_show_signs k S := by
  exact fun f cdv A outer s H E w0 ds Q hr hg hS => ⟨_, w_show_signs (hg_ESCAPED X G c) (hk_ESCAPED c) hr hg, p ds w0.own Q hS⟩
theorem bod_show_within {k : Nat} {S : L3.Spec} {S_show_reader : L3.Spec} (X : K.In h) (G : h.Ns mainGlobals mg) (c : SaysX fa fn ts ck w K) (F_show_reader : Kn P w K mg base k "show_reader" P_show_reader [] S_show_reader)
    (p : ∀ ds own Q, S ds own Q → T_show_within S_show_reader { nx := fun _ o => Rt Q .non o, rt := Rt Q } (astart N_show_within ds) own) : Bod P w K mg base "show_within" s_show_within N_show_within k S := by
  exact fun f cdv A outer s H E w0 ds Q hr hg hS => ⟨_, w_show_within F_show_reader hr hg, p ds w0.own Q hS⟩
theorem bod_show_plain {k : Nat} {S : L3.Spec} {S_show_signs : L3.Spec} (X : K.In h) (G : h.Ns mainGlobals mg) (c : SaysX fa fn ts ck w K) (F_show_signs : Kn P w K mg base k "show_signs" P_show_signs [] S_show_signs)
    (p : ∀ ds own Q, S ds own Q → T_show_plain S_show_signs { nx := fun _ o => Rt Q .non o, rt := Rt Q } (astart N_show_plain ds) own) : Bod P w K mg base "show_plain" s_show_plain N_show_plain k S := by
  exact fun f cdv A outer s H E w0 ds Q hr hg hS => ⟨_, w_show_plain F_show_signs hr hg, p ds w0.own Q hS⟩
theorem bod_show_reader {k : Nat} {S : L3.Spec} {S_show_within : L3.Spec} {S_show_plain : L3.Spec} (X : K.In h) (G : h.Ns mainGlobals mg) (c : SaysX fa fn ts ck w K) (F_show_within_k1 : KnK P w K mg base k "show_within" P_show_within 1 ["but"] S_show_within) (F_show_plain : Kn P w K mg base k "show_plain" P_show_plain [] S_show_plain)
    (p : ∀ ds own Q, S ds own Q → T_show_reader S_show_within S_show_plain (He.ga K "MARKS") { nx := fun _ o => Rt Q .non o, rt := Rt Q } (astart N_show_reader ds) own) : Bod P w K mg base "show_reader" s_show_reader N_show_reader k S := by
  obtain ⟨u_TIGHT, g_TIGHT, t_TIGHT⟩ := ht_TIGHT X G c
  exact fun f cdv A outer s H E w0 ds Q hr hg hS => ⟨_, w_show_reader F_show_within_k1 F_show_plain g_TIGHT t_TIGHT (hg_MARKS X G c) (hk_MARKS c) hr hg, p ds w0.own Q hS⟩
theorem bod_show_book {k : Nat} {S : L3.Spec} {S_show_reader : L3.Spec} (X : K.In h) (G : h.Ns mainGlobals mg) (c : SaysX fa fn ts ck w K) (F_show_reader : Kn P w K mg base k "show_reader" P_show_reader [] S_show_reader)
    (p : ∀ ds own Q, S ds own Q → T_show_book S_show_reader { nx := fun _ o => Rt Q .non o, rt := Rt Q } (astart N_show_book ds) own) : Bod P w K mg base "show_book" s_show_book N_show_book k S := by
  exact fun f cdv A outer s H E w0 ds Q hr hg hS => ⟨_, w_show_book F_show_reader hr hg, p ds w0.own Q hS⟩
theorem bod_law_start {k : Nat} {S : L3.Spec} (X : K.In h) (G : h.Ns mainGlobals mg) (c : SaysX fa fn ts ck w K)
    (p : ∀ ds own Q, S ds own Q → T_law_start { nx := fun _ o => Rt Q .non o, rt := Rt Q } (astart N_law_start ds) own) : Bod P w K mg base "_law_start" s_law_start N_law_start k S := by
  exact fun f cdv A outer s H E w0 ds Q hr hg hS => ⟨_, w_law_start (hb_list X G c) hr hg, p ds w0.own Q hS⟩
theorem bod_law_draw {k : Nat} {S : L3.Spec} (X : K.In h) (G : h.Ns mainGlobals mg) (c : SaysX fa fn ts ck w K)
    (p : ∀ ds own Q, S ds own Q → T_law_draw { nx := fun _ o => Rt Q .non o, rt := Rt Q } (astart N_law_draw ds) own) : Bod P w K mg base "_law_draw" s_law_draw N_law_draw k S := by
  exact fun f cdv A outer s H E w0 ds Q hr hg hS => ⟨_, w_law_draw (hb_len X G c) (hb_abs X G c) hr hg, p ds w0.own Q hS⟩
theorem bod_law_label {k : Nat} {S : L3.Spec} {S_law_draw : L3.Spec} (X : K.In h) (G : h.Ns mainGlobals mg) (c : SaysX fa fn ts ck w K) (F_law_draw : Kn P w K mg base k "_law_draw" P_law_draw [] S_law_draw)
    (p : ∀ ds own Q, S ds own Q → T_law_label S_law_draw { nx := fun _ o => Rt Q .non o, rt := Rt Q } (astart N_law_label ds) own) : Bod P w K mg base "_law_label" s_law_label N_law_label k S := by
  exact fun f cdv A outer s H E w0 ds Q hr hg hS => ⟨_, w_law_label F_law_draw (hb_range X G c) (hb_int X G c) hr hg, p ds w0.own Q hS⟩
theorem bod_law_signs {k : Nat} {S : L3.Spec} {S_law_draw : L3.Spec} (X : K.In h) (G : h.Ns mainGlobals mg) (c : SaysX fa fn ts ck w K) (F_law_draw : Kn P w K mg base k "_law_draw" P_law_draw [] S_law_draw)
    (p : ∀ ds own Q, S ds own Q → T_law_signs S_law_draw { nx := fun _ o => Rt Q .non o, rt := Rt Q } (astart N_law_signs ds) own) : Bod P w K mg base "_law_signs" s_law_signs N_law_signs k S := by
  exact fun f cdv A outer s H E w0 ds Q hr hg hS => ⟨_, w_law_signs F_law_draw (hb_len X G c) hr hg, p ds w0.own Q hS⟩
theorem bod_law_bare {k : Nat} {S : L3.Spec} {S_law_draw : L3.Spec} {S_law_signs : L3.Spec} {S_law_label : L3.Spec} (X : K.In h) (G : h.Ns mainGlobals mg) (c : SaysX fa fn ts ck w K) (F_law_draw : Kn P w K mg base k "_law_draw" P_law_draw [] S_law_draw) (F_law_signs : Kn P w K mg base k "_law_signs" P_law_signs [] S_law_signs) (F_law_label : Kn P w K mg base k "_law_label" P_law_label [] S_law_label)
    (p : ∀ ds own Q, S ds own Q → T_law_bare S_law_draw S_law_signs S_law_label { nx := fun _ o => Rt Q .non o, rt := Rt Q } (astart N_law_bare ds) own) : Bod P w K mg base "_law_bare" s_law_bare N_law_bare k S := by
  exact fun f cdv A outer s H E w0 ds Q hr hg hS => ⟨_, w_law_bare F_law_draw F_law_signs F_law_label (hb_len X G c) hr hg, p ds w0.own Q hS⟩
theorem bod_law_any {k : Nat} {S : L3.Spec} {S_law_draw : L3.Spec} {S_law_bare : L3.Spec} {S_law_any : L3.Spec} {S_law_label : L3.Spec} (X : K.In h) (G : h.Ns mainGlobals mg) (c : SaysX fa fn ts ck w K) (F_law_draw : Kn P w K mg base k "_law_draw" P_law_draw [] S_law_draw) (F_law_bare : Kn P w K mg base k "_law_bare" P_law_bare [] S_law_bare) (F_law_any : Kn P w K mg base k "_law_any" P_law_any [] S_law_any) (F_law_label : Kn P w K mg base k "_law_label" P_law_label [] S_law_label)
    (p : ∀ ds own Q, S ds own Q → T_law_any S_law_draw S_law_bare S_law_any S_law_label { nx := fun _ o => Rt Q .non o, rt := Rt Q } (astart N_law_any ds) own) : Bod P w K mg base "_law_any" s_law_any N_law_any k S := by
  exact fun f cdv A outer s H E w0 ds Q hr hg hS => ⟨_, w_law_any F_law_draw F_law_bare F_law_any F_law_label (hb_range X G c) (hb_tuple X G c) hr hg, p ds w0.own Q hS⟩
theorem bod_law_size {k : Nat} {S : L3.Spec} {S_law_size : L3.Spec} (X : K.In h) (G : h.Ns mainGlobals mg) (c : SaysX fa fn ts ck w K) (F_law_size : Kn P w K mg base k "_law_size" P_law_size [] S_law_size)
    (p : ∀ ds own Q, S ds own Q → T_law_size S_law_size { nx := fun _ o => Rt Q .non o, rt := Rt Q } (astart N_law_size ds) own) : Bod P w K mg base "_law_size" s_law_size N_law_size k S := by
  exact fun f cdv A outer s H E w0 ds Q hr hg hS => ⟨_, w_law_size F_law_size (hb_sum X G c) hr hg, p ds w0.own Q hS⟩
theorem bod_law_pages {k : Nat} {S : L3.Spec} {S_law_draw : L3.Spec} {S_law_label : L3.Spec} {S_law_any : L3.Spec} {S_law_size : L3.Spec} {S_law_bare : L3.Spec} (X : K.In h) (G : h.Ns mainGlobals mg) (c : SaysX fa fn ts ck w K) (F_law_draw : Kn P w K mg base k "_law_draw" P_law_draw [] S_law_draw) (F_law_label : Kn P w K mg base k "_law_label" P_law_label [] S_law_label) (F_law_any : Kn P w K mg base k "_law_any" P_law_any [] S_law_any) (F_law_size : Kn P w K mg base k "_law_size" P_law_size [] S_law_size) (F_law_bare : Kn P w K mg base k "_law_bare" P_law_bare [] S_law_bare)
    (p : ∀ ds own Q, S ds own Q → T_law_pages S_law_draw S_law_label S_law_any S_law_size S_law_bare { nx := fun _ o => Rt Q .non o, rt := Rt Q } (astart N_law_pages ds) own) : Bod P w K mg base "_law_pages" s_law_pages N_law_pages k S := by
  exact fun f cdv A outer s H E w0 ds Q hr hg hS => ⟨_, w_law_pages F_law_draw F_law_label F_law_any F_law_size F_law_bare (hb_range X G c) (hb_len X G c) (hb_tuple X G c) hr hg, p ds w0.own Q hS⟩
theorem bod_law_mark {k : Nat} {S : L3.Spec} (X : K.In h) (G : h.Ns mainGlobals mg) (c : SaysX fa fn ts ck w K)
    (p : ∀ ds own Q, S ds own Q → T_law_mark { nx := fun _ o => Rt Q .non o, rt := Rt Q } (astart N_law_mark ds) own) : Bod P w K mg base "_law_mark" s_law_mark N_law_mark k S := by
  exact fun f cdv A outer s H E w0 ds Q hr hg hS => ⟨_, w_law_mark hr hg, p ds w0.own Q hS⟩
theorem bod_law_shown_in {k : Nat} {S : L3.Spec} {S_law_shown : L3.Spec} (X : K.In h) (G : h.Ns mainGlobals mg) (c : SaysX fa fn ts ck w K) (F_law_shown : Kn P w K mg base k "_law_shown" P_law_shown [] S_law_shown)
    (p : ∀ ds own Q, S ds own Q → T_law_shown_in S_law_shown { nx := fun _ o => Rt Q .non o, rt := Rt Q } (astart N_law_shown_in ds) own) : Bod P w K mg base "_law_shown_in" s_law_shown_in N_law_shown_in k S := by
  exact fun f cdv A outer s H E w0 ds Q hr hg hS => ⟨_, w_law_shown_in F_law_shown hr hg, p ds w0.own Q hS⟩
theorem bod_law_shown {k : Nat} {S : L3.Spec} {S_law_mark : L3.Spec} {S_law_shown_in : L3.Spec} (X : K.In h) (G : h.Ns mainGlobals mg) (c : SaysX fa fn ts ck w K) (F_law_mark : Kn P w K mg base k "_law_mark" P_law_mark [] S_law_mark) (F_law_shown_in : Kn P w K mg base k "_law_shown_in" P_law_shown_in [] S_law_shown_in)
    (p : ∀ ds own Q, S ds own Q → T_law_shown S_law_mark S_law_shown_in { nx := fun _ o => Rt Q .non o, rt := Rt Q } (astart N_law_shown ds) own) : Bod P w K mg base "_law_shown" s_law_shown N_law_shown k S := by
  exact fun f cdv A outer s H E w0 ds Q hr hg hS => ⟨_, w_law_shown F_law_mark F_law_shown_in (hb_int X G c) (hb_list X G c) hr hg, p ds w0.own Q hS⟩
theorem bod_law {k : Nat} {S : L3.Spec} {S_law_start : L3.Spec} {S_law_pages : L3.Spec} {S_law_shown : L3.Spec} {S_show_reader : L3.Spec} {S_show_book : L3.Spec} (X : K.In h) (G : h.Ns mainGlobals mg) (c : SaysX fa fn ts ck w K) (F_law_start : Kn P w K mg base k "_law_start" P_law_start [] S_law_start) (F_law_pages : Kn P w K mg base k "_law_pages" P_law_pages [] S_law_pages) (F_law_shown : Kn P w K mg base k "_law_shown" P_law_shown [] S_law_shown) (F_show_reader : Kn P w K mg base k "show_reader" P_show_reader [] S_show_reader) (F_show_reader_k0 : KnK P w K mg base k "show_reader" P_show_reader 0 ["reader"] S_show_reader) (F_show_book : Kn P w K mg base k "show_book" P_show_book [] S_show_book) (F_show_book_k0 : KnK P w K mg base k "show_book" P_show_book 0 ["book"] S_show_book)
    (p : ∀ ds own Q, S ds own Q → T_law S_law_start S_law_pages S_law_shown S_show_reader S_show_book { nx := fun _ o => Rt Q .non o, rt := Rt Q } (astart N_law ds) own) : Bod P w K mg base "law" s_law N_law k S := by
  exact fun f cdv A outer s H E w0 ds Q hr hg hS => ⟨_, w_law F_law_start F_law_pages F_law_shown F_show_reader F_show_reader_k0 F_show_book F_show_book_k0 (hb_range X G c) (hb_repr X G c) (hb_str X G c) (hb_isinstance X G c) hr hg, p ds w0.own Q hS⟩
end

/-! ### the chain: each def keeps its promise -/
theorem hgt_pos (r : Rdr) : 1 ≤ r.hgt := by cases r <;> unfold Rdr.hgt <;> omega
theorem bod_no {P : Program} {w : World} {K : PySem.W.Frag} {mg : Str → Option Value} {base : Heap} {x : Str} {st : Stmt} {N : List Str} {k : Nat} {S : L3.Spec} (h : ∀ ds o Q, ¬ S ds o Q) : Bod P w K mg base x st N k S := fun _ _ _ _ _ _ _ _ _ _ _ _ hS => absurd hS (h _ _ _)
section
variable {P : Program} {w : World} {K : PySem.W.Frag} {h : Heap} {mg : Str → Option Value} {base : Heap} (X : K.In h) (G : h.Ns mainGlobals mg) (c : SaysX fa fn ts ck w K)
include X G c
theorem q_start : Kn P w K mg base 1 "_law_start" P_law_start [] S_start := kn_def (h_law_start X G c) sc_law_start bd_law_start (fun _ _ _ ⟨_, e, _⟩ => by rw [e]; rfl) (bod_law_start X G c fun _ _ _ h => p_start h)
theorem q_draw : Kn P w K mg base 1 "_law_draw" P_law_draw [] S_draw := kn_def (h_law_draw X G c) sc_law_draw bd_law_draw (fun _ _ _ ⟨_, _, _, _, e, _⟩ => by rw [e]; rfl) (bod_law_draw X G c fun _ _ _ h => p_draw h)
theorem q_label : Kn P w K mg base 2 "_law_label" P_law_label [] S_label := kn_def (h_law_label X G c) sc_law_label bd_law_label (fun _ _ _ ⟨_, _, _, e, _⟩ => by rw [e]; rfl) (bod_law_label X G c (q_draw X G c) fun _ _ _ h => p_label uDraw h)
theorem q_signs : Kn P w K mg base 2 "_law_signs" P_law_signs [] S_signs := kn_def (h_law_signs X G c) sc_law_signs bd_law_signs (fun _ _ _ ⟨_, _, _, _, e, _⟩ => by rw [e]; rfl) (bod_law_signs X G c (q_draw X G c) fun _ _ _ h => p_signs uDraw h)
theorem q_bare : Kn P w K mg base 3 "_law_bare" P_law_bare [] S_bare := kn_def (h_law_bare X G c) sc_law_bare bd_law_bare (fun _ _ _ ⟨_, _, _, _, _, e, _⟩ => by rw [e]; rfl) (bod_law_bare X G c ((q_draw X G c).mono (by omega)) ((q_signs X G c).mono (by omega)) ((q_label X G c).mono (by omega)) fun _ _ _ h => p_bare uDraw uSigns uLabel h)
theorem q_any : ∀ n, Kn P w K mg base (4 + n) "_law_any" P_law_any [] (S_any n)
  | 0 => kn_def (h_law_any X G c) sc_law_any bd_law_any (fun _ _ _ ⟨_, _, _, _, _, _, _, _, _, e, _⟩ => by rw [e]; rfl) (bod_no (by rintro ds o Q ⟨_, _, _, _, _, _, _, _, _, _, _, _, _, _, h1, h2, _⟩; omega))
  | n + 1 => kn_def (k := 4 + n) (h_law_any X G c) sc_law_any bd_law_any (fun _ _ _ ⟨_, _, _, _, _, _, _, _, _, e, _⟩ => by rw [e]; rfl) (bod_law_any X G c ((q_draw X G c).mono (by omega)) ((q_bare X G c).mono (by omega)) (q_any n) ((q_label X G c).mono (by omega)) fun _ _ _ h => p_any uDraw uBare (uAny n) uLabel h)
theorem q_size : ∀ n, Kn P w K mg base (1 + n) "_law_size" P_law_size [] (S_size n)
  | 0 => kn_def (h_law_size X G c) sc_law_size bd_law_size (fun _ _ _ ⟨_, e, _⟩ => by rw [e]; rfl) (bod_no (by rintro ds o Q ⟨r, _, _, h1, _⟩; have := hgt_pos r; omega))
  | n + 1 => kn_def (k := 1 + n) (h_law_size X G c) sc_law_size bd_law_size (fun _ _ _ ⟨_, e, _⟩ => by rw [e]; rfl) (bod_law_size X G c (q_size n) fun _ _ _ h => p_size (uSize n) h)
theorem q_pages : Kn P w K mg base 13 "_law_pages" P_law_pages [] S_pages := kn_def (h_law_pages X G c) sc_law_pages bd_law_pages (fun _ _ _ ⟨_, _, _, e, _⟩ => by rw [e]; rfl)
  (bod_law_pages X G c ((q_draw X G c).mono (by omega)) ((q_label X G c).mono (by omega)) (q_any X G c 8) ((q_size X G c 8).mono (by omega)) ((q_bare X G c).mono (by omega)) fun _ _ _ h => p_pages uDraw uLabel (uAny 8) (uSize 8) uBare h)
theorem q_mark : Kn P w K mg base 1 "_law_mark" P_law_mark [] S_mark := kn_def (h_law_mark X G c) sc_law_mark bd_law_mark (fun _ _ _ ⟨_, e, _⟩ => by rw [e]; rfl) (bod_law_mark X G c fun _ _ _ h => p_mark h)
theorem q_shown : ∀ n, Kn P w K mg base (1 + 2 * n) "_law_shown" P_law_shown [] (S_shown n)
  | 0 => kn_def (h_law_shown X G c) sc_law_shown bd_law_shown (fun _ _ _ ⟨_, e, _⟩ => by rw [e]; rfl) (bod_no (by rintro ds o Q ⟨r, _, _, h1, _⟩; have := hgt_pos r; omega))
  | n + 1 =>
    have q := kn_def (h_law_shown_in X G c) sc_law_shown_in bd_law_shown_in (fun _ _ _ ⟨_, _, _, e, _⟩ => by rw [e]; rfl) (bod_law_shown_in (S := S_in false n) X G c (q_shown n) fun _ _ _ h => p_shown_in (uShown n) h)
    kn_def (k := 1 + 2 * n + 1) (h_law_shown X G c) sc_law_shown bd_law_shown (fun _ _ _ ⟨_, e, _⟩ => by rw [e]; rfl) (bod_law_shown X G c ((q_mark X G c).mono (by omega)) q fun _ _ _ h => p_shown uMark (uIn false n) h)
theorem q_ssigns : Kn P w K mg base 1 "show_signs" P_show_signs [] S_ssigns := kn_def (h_show_signs X G c) sc_show_signs bd_show_signs (fun _ _ _ ⟨_, e, _⟩ => by rw [e]; rfl) (bod_show_signs X G c fun _ _ _ h => p_ssigns h)
theorem q_plain : Kn P w K mg base 2 "show_plain" P_show_plain [] S_plain := kn_def (h_show_plain X G c) sc_show_plain bd_show_plain (fun _ _ _ ⟨_, _, e, _⟩ => by rw [e]; rfl) (bod_show_plain X G c (q_ssigns X G c) fun _ _ _ h => p_plain uSsigns h)
theorem q_reader : ∀ n, Kn P w K mg base (3 + 2 * n) "show_reader" P_show_reader [] (S_shown n) ∧ KnK P w K mg base (3 + 2 * n) "show_reader" P_show_reader 0 ["reader"] (S_shown n)
  | 0 =>
    have b : Bod P w K mg base "show_reader" s_show_reader N_show_reader 2 (S_shown 0) := bod_no (by rintro ds o Q ⟨r, _, _, h1, _⟩; have := hgt_pos r; omega)
    ⟨kn_def (h_show_reader X G c) sc_show_reader bd_show_reader (fun _ _ _ ⟨_, e, _⟩ => by rw [e]; rfl) b, knK_def (h_show_reader X G c) sc_show_reader rfl bdk_show_reader_k0 (fun _ _ _ ⟨_, e, _⟩ => by rw [e]; rfl) b⟩
  | n + 1 =>
    have q := knK_def (h_show_within X G c) sc_show_within rfl bdk_show_within_k1 (fun _ _ _ ⟨_, _, _, e, _⟩ => by rw [e]; rfl) (bod_show_within (S := S_in true n) X G c (q_reader n).1 fun _ _ _ h => p_within (uShown n) h)
    have b := bod_show_reader (k := 3 + 2 * n + 1) (S := S_shown (n + 1)) X G c q ((q_plain X G c).mono (by omega)) fun _ _ _ h => p_reader (uIn true n) uPlain h
    ⟨kn_def (h_show_reader X G c) sc_show_reader bd_show_reader (fun _ _ _ ⟨_, e, _⟩ => by rw [e]; rfl) b, knK_def (h_show_reader X G c) sc_show_reader rfl bdk_show_reader_k0 (fun _ _ _ ⟨_, e, _⟩ => by rw [e]; rfl) b⟩
theorem q_book : Kn P w K mg base 20 "show_book" P_show_book [] S_sbook ∧ KnK P w K mg base 20 "show_book" P_show_book 0 ["book"] S_sbook :=
  have b := bod_show_book (S := S_sbook) X G c (q_reader X G c 8).1 fun _ _ _ h => p_book (uShown 8) h
  ⟨kn_def (h_show_book X G c) sc_show_book bd_show_book (fun _ _ _ ⟨_, e, _⟩ => by rw [e]; rfl) b, knK_def (h_show_book X G c) sc_show_book rfl bdk_show_book_k0 (fun _ _ _ ⟨_, e, _⟩ => by rw [e]; rfl) b⟩
theorem q_law : Bod P w K mg base "law" s_law N_law 20 (spLaw 63) :=
  bod_law X G c ((q_start X G c).mono (by omega)) ((q_pages X G c).mono (by omega)) ((q_shown X G c 8).mono (by omega)) ((q_reader X G c 8).1.mono (by omega)) ((q_reader X G c 8).2.mono (by omega)) (q_book X G c).1 (q_book X G c).2 fun _ _ _ h => p_law uStart uPages (uShown 8) (uShown 8) uBook h
end
theorem facts {P : Program} {w : World} {K : PySem.W.Frag} {h : Heap} {mg : Str → Option Value} {fa' : Addr} (X : K.In h) (G : h.Ns mainGlobals mg) (hmg : mg "law" = some (.ref fa')) (c : SaysX fa fn ts ck w K) :
    ∃ fd : FuncData, (∀ (s : Shared) (u : Value), BindsTo s fd ⟨[u], []⟩ [("_law_script", u)]) ∧ ∀ base : Heap, K.In base → base.Ns mainGlobals mg → FnG P w K mg base CX0 21 fa' fd ["_law_script"] (spOf K (spLaw 63)) := by
  obtain ⟨f, fd, F, hm⟩ := h_law X G c
  have e := hmg.symm.trans hm
  cases e
  exact ⟨fd, fun s u => bindsOf F bd_law s [u] rfl, fun base _ _ => def_ok (funX F) sc_law (fun _ _ _ ⟨_, e, _⟩ => by rw [e]; rfl) (q_law X G c fa')⟩

end R85
open PySem PySem.W PyProof.Rows
set_option maxRecDepth 100000 in
set_option maxHeartbeats 0 in
theorem PySem.Challenge.cw_smallreaders_k85_readers_and_books_writt_holds : PySem.Challenge.rw_smallreaders_k85_readers_and_books_writt.Holds := by
  w_on; o_law; k_head; (case hw => w_witness2)
  k_fill
  refine L3.walkG (n := 63) (l := PySem.Challenge.rw_smallreaders_k85_readers_and_books_writt) (k := 21) (x := "_law_script") rfl (by decide) rfl ⟨rfl, by decide, by decide⟩ (fun w h Y => PySem.W.kIn_of Y) ?F
  case F =>
    intro w mg fa h KX G hmg
    have hmg : mg ("law" : Str) = some (.ref fa) := hmg
    refine R85.facts KX G hmg ⟨?c1, ?c2⟩
    case c1 =>
      show He.obsT _ _ _ _ = He.valT _ _ _
      kernel_rfl
    case c2 => kernel_rfl
#print axioms PySem.Challenge.cw_smallreaders_k85_readers_and_books_writt_holds
