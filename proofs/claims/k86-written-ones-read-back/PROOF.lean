import PyProof.Rows.All
import Wide.All
import OpenK.AllK
import Wide.FinOn
import HandS.ForMost
import HandS.FStr
import HandS.TupAny
import HandS.HeadHook1
import HandS.Lambda
import KE.KUnpackStar
import HandS.ForExc
import HandS.Wide
import PyProof.Rows.RuleB_pow
import HandS.IsInst
import HandS.Defaults
import PyProof.ReprRoads
import HandS.Ends
import HandS.Dict
import PyProof.ReprLen
import HandS.Head0
import HandS.Head1
import HandS.Head2
import HandS.HeadEnd
import HandS.HeadHook2
import HandS.HeadHook3
import KE.GoesNew
import HandS.Deep
import HandS.ExcOwn
import HandS.TryMany
import HandS.ExcIs
import HandS.ExcValue
import KE.KTryMore
import HandS.SetFor
import KE.KExcIs
import HandS.EndTab
import HandS.SetBool
import HandS.SetKeys
import PySem.Challenge.RW_smallreaders_k86_written_ones_read_back
set_option Elab.async false
set_option linter.all false
set_option maxRecDepth 100000
set_option maxHeartbeats 1000000
namespace L3
open PySem PySem.Spec L2

/-- data, as a law's proof sees it: tuples, and lists and dicts that stand still, by what is in them -/
inductive D where
  | non | bl (b : Bool) | int (i : Int) | str (x : Str) | ty (n : String)
  | tup (xs : List D) | lst (xs : List D) | dct (kvs : List (D × D)) | ref (a : Addr) | kls (xs : List D)

def kD : Key → D
  | .inl i => .int i
  | .inr x => .str x

mutual
def Dt (K : PySem.W.Frag) (G : Hp) : D → V → Prop
  | .non, v => v = .non
  | .bl b, v => v = .bl b
  | .int i, v => v = .int i
  | .str x, v => v = .str x
  | .ty n, v => v = .ty n
  | .tup ds, v => ∃ a vs, v = .ref a ∧ SqT K G a vs ∧ Dts K G ds vs
  | .lst ds, v => ∃ a vs, v = .ref a ∧ Rd G a (.lst vs) ∧ Dts K G ds vs
  | .dct kvs, v => ∃ a, v = .ref a ∧ ((∃ es, G a = some (.dK es) ∧ DkK K G kvs es) ∨ ∃ es, G a = some (.dT es) ∧ DkT K G kvs es)
  | .ref a, v => v = .ref a
  | .kls ds, v => ∃ a vs, v = .ref a ∧ SqL K G a vs ∧ Dts K G ds vs
def Dts (K : PySem.W.Frag) (G : Hp) : List D → List V → Prop
  | [], vs => vs = []
  | d :: ds, vs => ∃ v vr, vs = v :: vr ∧ Dt K G d v ∧ Dts K G ds vr
def DkK (K : PySem.W.Frag) (G : Hp) : List (D × D) → List (Key × V) → Prop
  | [], es => es = []
  | (k, d) :: r, es => ∃ x v er, es = (x, v) :: er ∧ k = kD x ∧ Dt K G d v ∧ DkK K G r er
def DkT (K : PySem.W.Frag) (G : Hp) : List (D × D) → List (List Key × V) → Prop
  | [], es => es = []
  | (k, d) :: r, es => ∃ x v er, es = (x, v) :: er ∧ k = .tup (x.map kD) ∧ Dt K G d v ∧ DkT K G r er
end

def Sub (H H' : Hp) : Prop := ∀ a o, H a = some o → H' a = some o
theorem Sub.refl (H : Hp) : Sub H H := fun _ _ h => h
theorem Sub.trans {H H1 H2 : Hp} (a : Sub H H1) (b : Sub H1 H2) : Sub H H2 := fun x o h => b x o (a x o h)
theorem Sub.new {H : Hp} {p : Addr} {o : HO} (h : H p = none) : Sub H (upd H p o) := fun a u e => by
  rw [upd_ne (ne_of_none e h)]; exact e
theorem Sub.rd {H H' : Hp} {a : Addr} {u : HO} (e : Sub H H') (h : Rd H a u) : Rd H' a u := by
  rcases h with h | ⟨o, h⟩
  · exact .inl (e a _ h)
  · exact .inr ⟨o, e a _ h⟩
theorem Sub.sqL {K : PySem.W.Frag} {H H' : Hp} {a : Addr} {xs : List V} (e : Sub H H') (h : SqL K H a xs) : SqL K H' a xs := by
  rcases h with h | h
  · exact .inl (e.rd h)
  · exact .inr h
theorem Sub.sqT {K : PySem.W.Frag} {H H' : Hp} {a : Addr} {xs : List V} (e : Sub H H') (h : SqT K H a xs) : SqT K H' a xs := by
  rcases h with h | h
  · exact .inl (e.rd h)
  · exact .inr h

section
variable {K : PySem.W.Frag} {G G' : Hp}
mutual
theorem Dt.mono (e : Sub G G') : ∀ {d : D} {v : V}, Dt K G d v → Dt K G' d v
  | .non, _, h => h
  | .bl _, _, h => h
  | .int _, _, h => h
  | .str _, _, h => h
  | .ty _, _, h => h
  | .ref _, _, h => h
  | .tup ds, v, h => by
    unfold Dt at h ⊢
    obtain ⟨a, vs, e1, e2, e3⟩ := h
    exact ⟨a, vs, e1, e.sqT e2, Dts.mono e e3⟩
  | .kls ds, v, h => by
    unfold Dt at h ⊢
    obtain ⟨a, vs, e1, e2, e3⟩ := h
    exact ⟨a, vs, e1, e.sqL e2, Dts.mono e e3⟩
  | .lst ds, v, h => by
    unfold Dt at h ⊢
    obtain ⟨a, vs, e1, e2, e3⟩ := h
    exact ⟨a, vs, e1, e.rd e2, Dts.mono e e3⟩
  | .dct kvs, v, h => by
    unfold Dt at h ⊢
    obtain ⟨a, e1, ⟨es, e2, e3⟩ | ⟨es, e2, e3⟩⟩ := h
    · exact ⟨a, e1, .inl ⟨es, e a _ e2, DkK.mono e e3⟩⟩
    · exact ⟨a, e1, .inr ⟨es, e a _ e2, DkT.mono e e3⟩⟩
theorem Dts.mono (e : Sub G G') : ∀ {ds : List D} {vs : List V}, Dts K G ds vs → Dts K G' ds vs
  | [], _, h => h
  | d :: ds, vs, h => by
    unfold Dts at h ⊢
    obtain ⟨v, vr, e1, e2, e3⟩ := h
    exact ⟨v, vr, e1, Dt.mono e e2, Dts.mono e e3⟩
theorem DkK.mono (e : Sub G G') : ∀ {kvs : List (D × D)} {es : List (Key × V)}, DkK K G kvs es → DkK K G' kvs es
  | [], _, h => h
  | (k, d) :: r, es, h => by
    unfold DkK at h ⊢
    obtain ⟨x, v, er, e1, e2, e3, e4⟩ := h
    exact ⟨x, v, er, e1, e2, Dt.mono e e3, DkK.mono e e4⟩
theorem DkT.mono (e : Sub G G') : ∀ {kvs : List (D × D)} {es : List (List Key × V)}, DkT K G kvs es → DkT K G' kvs es
  | [], _, h => h
  | (k, d) :: r, es, h => by
    unfold DkT at h ⊢
    obtain ⟨x, v, er, e1, e2, e3, e4⟩ := h
    exact ⟨x, v, er, e1, e2, Dt.mono e e3, DkT.mono e e4⟩
end
theorem Dts.nil : Dts K G [] [] := by unfold Dts; rfl
theorem Dts.cons {d : D} {v : V} {ds : List D} {vs : List V} (h : Dt K G d v) (r : Dts K G ds vs) : Dts K G (d :: ds) (v :: vs) := by
  unfold Dts; exact ⟨v, vs, rfl, h, r⟩
theorem Dts.length : ∀ {ds : List D} {vs : List V}, Dts K G ds vs → vs.length = ds.length
  | [], _, h => by unfold Dts at h; subst h; rfl
  | d :: ds, vs, h => by
    unfold Dts at h
    obtain ⟨v, vr, rfl, _, r⟩ := h
    simp [Dts.length r]
theorem Dts.append : ∀ {ds es : List D} {vs ws : List V}, Dts K G ds vs → Dts K G es ws → Dts K G (ds ++ es) (vs ++ ws)
  | [], _, _, _, h, r => by unfold Dts at h; subst h; exact r
  | d :: ds, _, vs, _, h, r => by
    unfold Dts at h
    obtain ⟨v, vr, rfl, h1, h2⟩ := h
    exact .cons h1 (Dts.append h2 r)
theorem Dts.snoc {ds : List D} {vs : List V} {d : D} {v : V} (h : Dts K G ds vs) (r : Dt K G d v) : Dts K G (ds ++ [d]) (vs ++ [v]) := h.append (.cons r .nil)
theorem Dts.get : ∀ {ds : List D} {vs : List V} {i : Nat} {d : D}, Dts K G ds vs → ds[i]? = some d → ∃ v, vs[i]? = some v ∧ Dt K G d v
  | [], _, _, _, _, e => by simp at e
  | d :: ds, vs, i, x, h, e => by
    unfold Dts at h
    obtain ⟨v, vr, rfl, h1, h2⟩ := h
    cases i with
    | zero => simp at e; subst e; exact ⟨v, rfl, h1⟩
    | succ i =>
      obtain ⟨w, e1, e2⟩ := Dts.get (i := i) h2 (by simpa using e)
      exact ⟨w, by simpa using e1, e2⟩
theorem Dts.get' {ds : List D} {vs : List V} {i : Nat} {v : V} (h : Dts K G ds vs) (e : vs[i]? = some v) : ∃ d, ds[i]? = some d ∧ Dt K G d v := by
  have hl := h.length
  have hi : i < vs.length := (List.getElem?_eq_some_iff.mp e).1
  obtain ⟨d, hd⟩ : ∃ d, ds[i]? = some d := ⟨ds[i]'(by omega), by simp [List.getElem?_eq_getElem (show i < ds.length by omega)]⟩
  obtain ⟨w, e1, e2⟩ := h.get hd
  rw [e] at e1; cases e1
  exact ⟨d, hd, e2⟩
theorem Dts.take : ∀ {ds : List D} {vs : List V} (n : Nat), Dts K G ds vs → Dts K G (ds.take n) (vs.take n)
  | _, _, 0, _ => .nil
  | [], _, n + 1, h => by unfold Dts at h; subst h; exact .nil
  | d :: ds, vs, n + 1, h => by
    unfold Dts at h
    obtain ⟨v, vr, rfl, h1, h2⟩ := h
    exact .cons h1 (Dts.take n h2)
theorem Dts.drop : ∀ {ds : List D} {vs : List V} (n : Nat), Dts K G ds vs → Dts K G (ds.drop n) (vs.drop n)
  | _, _, 0, h => h
  | [], _, n + 1, h => by unfold Dts at h; subst h; exact .nil
  | d :: ds, vs, n + 1, h => by
    unfold Dts at h
    obtain ⟨v, vr, rfl, h1, h2⟩ := h
    exact Dts.drop n h2
theorem Dts.set : ∀ {ds : List D} {vs : List V} (n : Nat) {d : D} {v : V}, Dts K G ds vs → Dt K G d v → Dts K G (ds.set n d) (vs.set n v)
  | [], _, _, _, _, h, _ => by unfold Dts at h; subst h; exact .nil
  | d :: ds, vs, 0, _, _, h, r => by
    unfold Dts at h
    obtain ⟨v, vr, rfl, h1, h2⟩ := h
    exact .cons r h2
  | d :: ds, vs, n + 1, _, _, h, r => by
    unfold Dts at h
    obtain ⟨v, vr, rfl, h1, h2⟩ := h
    exact .cons h1 (Dts.set n h2 r)
end

/-- what may change, and is told by its address -/
inductive MO where
  | lst (xs : List D) | dct (kvs : List (D × D)) | ins (C : Addr) (fs : List (Str × D))
  | exc (a : Addr) (c : Str) (d : Option Addr) | xd (fs : List (Str × D)) | tbl (q : Str)
abbrev Own := Addr → Option MO
def oset (o : Own) (p : Addr) (m : MO) : Own := fun a => if a = p then some m else o a
theorem oset_same {o : Own} {p : Addr} {m : MO} : oset o p m p = some m := by unfold oset; rw [if_pos rfl]
theorem oset_ne {o : Own} {p q : Addr} {m : MO} (h : q ≠ p) : oset o p m q = o q := by unfold oset; rw [if_neg h]
theorem oset_oset {o : Own} {p : Addr} {m m' : MO} : oset (oset o p m) p m' = oset o p m' := by
  funext a; unfold oset; split <;> rfl

/-- an exception's object -/
def ExcAt (a : Addr) (cls : Value) (d : Option Addr) : Heap → Prop := fun h => ∃ (oe : Obj) (vs : Array Value), h.get? a = some oe ∧ Zc cls d oe ∧ oe.data = .fields vs
def Dfs (K : PySem.W.Frag) (G : Hp) : List (Str × D) → List (Str × V) → Prop
  | [], vs => vs = []
  | (f, d) :: r, vs => ∃ v vr, vs = (f, v) :: vr ∧ Dt K G d v ∧ Dfs K G r vr
def MoR (K : PySem.W.Frag) (G : Hp) : MO → HO → Prop
  | .lst ds, .lst vs => Dts K G ds vs
  | .dct kvs, .dK es => DkK K G kvs es
  | .dct kvs, .dT es => DkT K G kvs es
  | .ins C fs, .ins C' _ fs' => C = C' ∧ Dfs K G fs fs'
  | .exc a c d, .ext φ => φ = ExcAt a (.ref (He.ga K c)) d
  | .xd fs, .xd fs' => Dfs K G fs fs'
  | .tbl q, .tbl ps => TriplesOk ps.toList ∧ ∀ (pos : Pos) (cv : Value), codeAmong pos ps.toList = some cv → ∃ c, cv = .ref c ∧ G c = some (LamX.CodeO c q)
  | _, _ => False
section
variable {K : PySem.W.Frag} {G G' : Hp}
theorem Dfs.mono (e : Sub G G') : ∀ {ds : List (Str × D)} {vs : List (Str × V)}, Dfs K G ds vs → Dfs K G' ds vs
  | [], _, h => h
  | (f, d) :: r, vs, h => by
    unfold Dfs at h ⊢
    obtain ⟨v, vr, e1, e2, e3⟩ := h
    exact ⟨v, vr, e1, e2.mono e, Dfs.mono e e3⟩
theorem MoR.mono (e : Sub G G') {m : MO} {o : HO} (h : MoR K G m o) : MoR K G' m o := by
  cases m <;> cases o <;> first | exact (h : False).elim | skip
  · exact Dts.mono e h
  · exact DkK.mono e h
  · exact DkT.mono e h
  · exact ⟨h.1, Dfs.mono e h.2⟩
  · exact h
  · exact Dfs.mono e h
  · exact ⟨h.1, fun pos cv hc => let ⟨c, e1, e2⟩ := h.2 pos cv hc; ⟨c, e1, e _ _ e2⟩⟩
end
def SzOk : HO → Prop
  | .lst xs => xs.length ≤ sizeLine
  | .tup xs => xs.length ≤ sizeLine
  | .frz _ u => SzOk u
  | _ => True

/-- a world: what is told by address, what stands still, all that is tracked -/
structure Wd where
  own : Own
  G : Hp
  H : Hp
structure Wd.Ok (K : PySem.W.Frag) (w : Wd) : Prop where
  sub : Sub w.G w.H
  own : ∀ p m, w.own p = some m → w.G p = none ∧ ∃ o, w.H p = some o ∧ MoR K w.G m o
  sz : ∀ a o, w.H a = some o → SzOk o
/-- a later world -/
structure Tr (w w' : Wd) : Prop where
  fr : ∀ a o, w.H a = some o → w.own a = none → w'.H a = some o
  gs : Sub w.G w'.G
  gd : ∀ a, w.G a = none → w.H a ≠ none → w.own a = none → w'.G a = none
  od : ∀ a, w.own a = none → w.H a ≠ none → w'.own a = none
  th : ∀ a, w.H a ≠ none → w'.H a ≠ none
theorem Tr.refl (w : Wd) : Tr w w := ⟨fun _ _ h _ => h, Sub.refl _, fun _ h _ _ => h, fun _ h _ => h, fun _ h => h⟩
theorem Tr.trans {w w1 w2 : Wd} (a : Tr w w1) (b : Tr w1 w2) : Tr w w2 where
  fr := fun x o h n => b.fr x o (a.fr x o h n) (a.od x n (by rw [h]; simp))
  gs := a.gs.trans b.gs
  gd := fun x g h n => b.gd x (a.gd x g h n) (a.th x h) (a.od x n h)
  od := fun x n h => b.od x (a.od x n h) (a.th x h)
  th := fun x h => b.th x (a.th x h)
theorem Tr.fresh {w w' : Wd} (t : Tr w w') {p : Addr} (h : w'.H p = none) : w.H p = none := by
  cases e : w.H p with
  | none => rfl
  | some o => exact absurd h (t.th p (by rw [e]; simp))
section
variable {K : PySem.W.Frag} {w : Wd}
theorem Wd.Ok.noown (ok : w.Ok K) {p : Addr} (h : w.H p = none) : w.own p = none := by
  cases e : w.own p with
  | none => rfl
  | some m =>
    obtain ⟨_, o, e1, _⟩ := ok.own p m e
    rw [h] at e1; cases e1
theorem Wd.Ok.noG (ok : w.Ok K) {p : Addr} (h : w.H p = none) : w.G p = none := by
  cases e : w.G p with
  | none => rfl
  | some o =>
    have := ok.sub p o e
    rw [h] at this; cases this
/-- a new thing that stands still -/
def Wd.frz (w : Wd) (p : Addr) (o : HO) : Wd := ⟨w.own, upd w.G p o, upd w.H p o⟩
theorem Wd.Ok.frz (ok : w.Ok K) {p : Addr} {o : HO} (h : w.H p = none) (hz : SzOk o) : (w.frz p o).Ok K ∧ Tr w (w.frz p o) := by
  have hg := ok.noG h
  refine ⟨⟨fun a u e => ?_, fun q m e => ?_, fun a u e => ?_⟩, ⟨fun a u e _ => (Sub.new h) a u e, Sub.new hg, fun a e1 e2 _ => ?_, fun a e1 _ => e1, fun a e => ?_⟩⟩
  · show upd w.H p o a = some u
    by_cases hp : a = p
    · subst hp
      have e' : upd w.G a o a = some u := e
      rw [upd_same] at e' ⊢; exact e'
    · have e' : upd w.G p o a = some u := e
      rw [upd_ne hp] at e' ⊢; exact ok.sub a u e'
  · obtain ⟨e1, u, e2, e3⟩ := ok.own q m e
    have hq : q ≠ p := ne_of_none e2 h
    refine ⟨?_, u, ?_, e3.mono (Sub.new hg)⟩
    · show upd w.G p o q = none
      rw [upd_ne hq]; exact e1
    · show upd w.H p o q = some u
      rw [upd_ne hq]; exact e2
  · have e' : upd w.H p o a = some u := e
    by_cases hp : a = p
    · subst hp; rw [upd_same] at e'; cases e'; exact hz
    · rw [upd_ne hp] at e'; exact ok.sz a u e'
  · show upd w.G p o a = none
    have hp : a ≠ p := fun z => e2 (z ▸ h)
    rw [upd_ne hp]; exact e1
  · show upd w.H p o a ≠ none
    by_cases hp : a = p
    · subst hp; rw [upd_same]; simp
    · rw [upd_ne hp]; exact e
/-- a new thing of one's own -/
def Wd.mine (w : Wd) (p : Addr) (m : MO) (o : HO) : Wd := ⟨oset w.own p m, w.G, upd w.H p o⟩
theorem Wd.Ok.mine (ok : w.Ok K) {p : Addr} {m : MO} {o : HO} (h : w.H p = none ∨ ∃ m', w.own p = some m') (hz : SzOk o) (r : MoR K w.G m o) : (w.mine p m o).Ok K ∧ Tr w (w.mine p m o) := by
  have hg : w.G p = none := by
    rcases h with h | ⟨m', h⟩
    · exact ok.noG h
    · exact (ok.own p m' h).1
  refine ⟨⟨fun a u e => ?_, fun q m1 e => ?_, fun a u e => ?_⟩, ⟨fun a u e n => ?_, Sub.refl _, fun a e1 e2 _ => e1, fun a e1 e2 => ?_, fun a e => ?_⟩⟩
  · show upd w.H p o a = some u
    have e' : w.G a = some u := e
    rw [upd_ne (fun z => by rw [z, hg] at e'; cases e')]; exact ok.sub a u e'
  · have e' : oset w.own p m q = some m1 := e
    by_cases hq : q = p
    · subst hq
      rw [oset_same] at e'; cases e'
      exact ⟨hg, o, upd_same, r⟩
    · rw [oset_ne hq] at e'
      obtain ⟨e1, u, e2, e3⟩ := ok.own q m1 e'
      exact ⟨e1, u, (upd_ne hq).trans e2, e3⟩
  · have e' : upd w.H p o a = some u := e
    by_cases hp : a = p
    · subst hp; rw [upd_same] at e'; cases e'; exact hz
    · rw [upd_ne hp] at e'; exact ok.sz a u e'
  · show upd w.H p o a = some u
    by_cases hp : a = p
    · subst hp
      rcases h with h | ⟨m', h⟩
      · rw [h] at e; cases e
      · rw [h] at n; cases n
    · rw [upd_ne hp]; exact e
  · show oset w.own p m a = none
    by_cases hp : a = p
    · subst hp
      rcases h with h | ⟨m', h⟩
      · exact absurd h e2
      · rw [h] at e1; cases e1
    · rw [oset_ne hp]; exact e1
  · show upd w.H p o a ≠ none
    by_cases hp : a = p
    · subst hp; rw [upd_same]; simp
    · rw [upd_ne hp]; exact e
/-- an own thing that changes no more -/
theorem Wd.Ok.still (ok : w.Ok K) {own' : Own} (hs : ∀ p m, own' p = some m → w.own p = some m) :
    ∃ G', Sub w.G G' ∧ (∀ p, w.own p ≠ none → own' p = none → G' p = w.H p) ∧ (Wd.mk own' G' w.H).Ok K ∧ ∀ w0, Tr w0 w → Tr w0 ⟨own', G', w.H⟩ := by
  refine ⟨fun p => match w.own p, own' p with | some _, none => w.H p | _, _ => w.G p, fun a u e => ?_, fun p e1 e2 => ?_, ⟨fun a u e => ?_, fun p m e => ?_, ok.sz⟩, fun w0 t => ⟨t.fr, fun a u e => ?_, fun a e1 e2 e3 => ?_, fun a e1 e2 => ?_, t.th⟩⟩
  · show (match w.own a, own' a with | some _, none => w.H a | _, _ => w.G a) = some u
    cases h1 : w.own a with
    | none => exact e
    | some m =>
      have := (ok.own a m h1).1
      rw [e] at this; cases this
  · show (match w.own p, own' p with | some _, none => w.H p | _, _ => w.G p) = w.H p
    cases h1 : w.own p with
    | none => exact absurd h1 e1
    | some m => rw [e2]
  · have e' : (match w.own a, own' a with | some _, none => w.H a | _, _ => w.G a) = some u := e
    cases h1 : w.own a with
    | none => rw [h1] at e'; exact ok.sub a u e'
    | some m =>
      cases h2 : own' a with
      | none => rw [h1, h2] at e'; exact e'
      | some m' => rw [h1, h2] at e'; exact ok.sub a u e'
  · have e' : own' p = some m := e
    obtain ⟨e1, o, e2, e3⟩ := ok.own p m (hs p m e')
    refine ⟨?_, o, e2, e3.mono fun a u e => ?_⟩
    · show (match w.own p, own' p with | some _, none => w.H p | _, _ => w.G p) = none
      rw [hs p m e', e']; exact e1
    · show (match w.own a, own' a with | some _, none => w.H a | _, _ => w.G a) = some u
      cases h1 : w.own a with
      | none => exact e
      | some m =>
        have := (ok.own a m h1).1
        rw [e] at this; cases this
  · show (match w.own a, own' a with | some _, none => w.H a | _, _ => w.G a) = some u
    have g := t.gs a u e
    cases h1 : w.own a with
    | none => exact g
    | some m =>
      have := (ok.own a m h1).1
      rw [g] at this; cases this
  · show (match w.own a, own' a with | some _, none => w.H a | _, _ => w.G a) = none
    rw [t.od a e3 e2]; exact t.gd a e1 e2 e3
  · show own' a = none
    have := t.od a e1 e2
    cases h2 : own' a with
    | none => rfl
    | some m => rw [hs a m h2] at this; cases this
end

/-! ### names -/
abbrev AEnv := List (Option D)
def eg : AEnv → Nat → Option D
  | [], _ => none
  | x :: _, 0 => x
  | _ :: r, n + 1 => eg r n
theorem eg_eq : ∀ {env : AEnv} {i : Nat} {d : D}, eg env i = some d → env[i]? = some (some d)
  | [], _, _, h => by simp [eg] at h
  | x :: r, 0, d, h => by simp [eg] at h; simp [h]
  | x :: r, i + 1, d, h => by simp only [eg] at h; simpa using eg_eq h
theorem eg_of : ∀ {env : AEnv} {i : Nat} {d : D}, env[i]? = some (some d) → eg env i = some d
  | [], _, _, h => by simp at h
  | x :: r, 0, d, h => by simp at h; simp [eg, h]
  | x :: r, i + 1, d, h => by simp only [eg]; exact eg_of (by simpa using h)
def EnvR (K : PySem.W.Frag) (G : Hp) (env : AEnv) (σ : L2.St) : Prop := env.length = σ.length ∧ ∀ i d, eg env i = some d → ∃ v, σ[i]? = some (some v) ∧ Dt K G d v
section
variable {K : PySem.W.Frag} {G G' : Hp} {env : AEnv} {σ : L2.St}
theorem EnvR.mono (e : Sub G G') (h : EnvR K G env σ) : EnvR K G' env σ := ⟨h.1, fun i d q => let ⟨v, a, b⟩ := h.2 i d q; ⟨v, a, b.mono e⟩⟩
theorem EnvR.set (h : EnvR K G env σ) (i : Nat) {d : D} {v : V} (r : Dt K G d v) : EnvR K G (env.set i (some d)) (σ.set i (some v)) := by
  refine ⟨by simpa using h.1, fun j e q => ?_⟩
  have q' := eg_eq q
  by_cases hj : i = j
  · subst hj
    have hi : i < env.length := by
      have := (List.getElem?_eq_some_iff.mp q').1
      simpa using this
    rw [List.getElem?_set_self hi] at q'
    cases q'
    exact ⟨v, List.getElem?_set_self (by rw [← h.1]; exact hi), r⟩
  · rw [List.getElem?_set_ne hj] at q'
    obtain ⟨u, e1, e2⟩ := h.2 j e (eg_of q')
    exact ⟨u, by rw [List.getElem?_set_ne hj]; exact e1, e2⟩
theorem EnvR.unset (h : EnvR K G env σ) (i : Nat) (x : Option V) : EnvR K G (env.set i none) (σ.set i x) := by
  refine ⟨by simpa using h.1, fun j e q => ?_⟩
  have q' := eg_eq q
  by_cases hj : i = j
  · subst hj
    have hi : i < env.length := by
      have := (List.getElem?_eq_some_iff.mp q').1
      simpa using this
    rw [List.getElem?_set_self hi] at q'
    cases q'
  · rw [List.getElem?_set_ne hj] at q'
    obtain ⟨u, e1, e2⟩ := h.2 j e (eg_of q')
    exact ⟨u, by rw [List.getElem?_set_ne hj]; exact e1, e2⟩
end
def wipeA (env : AEnv) : List Nat → AEnv
  | [] => env
  | v :: vs => (wipeA env vs).set v none
theorem EnvR.wipe {K : PySem.W.Frag} {G : Hp} {env : AEnv} {σ : L2.St} (h : EnvR K G env σ) : ∀ vs : List Nat, EnvR K G (wipeA env vs) (L2.wipe σ vs)
  | [] => h
  | v :: vs => (EnvR.wipe h vs).unset v none
end L3

namespace L3
open PySem PySem.Spec L2

/-! ### readings over data -/
abbrev ATE := AEnv → Own → (D → Own → Prop) → Prop
abbrev ATT := AEnv → Own → (Bool → Own → Prop) → Prop
abbrev ATA := AEnv → Own → (List D → Own → Prop) → Prop
/-- a new list -/
abbrev ATN := AEnv → Own → (List D → Own → Prop) → Prop
abbrev ATO := AEnv → Own → (Option Int → Own → Prop) → Prop
structure AEnds where
  nx : AEnv → Own → Prop
  rt : D → Own → Prop
  bk : AEnv → Own → Prop := fun _ _ => False
  ct : AEnv → Own → Prop := fun _ _ => False
abbrev ATS := AEnds → AEnv → Own → Prop
abbrev ATG := D → AEnv → Own → (AEnv → Own → Prop) → Prop
abbrev ATGs := List D → AEnv → Own → (AEnv → Own → Prop) → Prop
abbrev ATI := AEnv → Own → (List D → (Own → Prop) → Own → Prop) → Prop

section
variable (K : PySem.W.Frag) (w0 : Wd)
def At (σ : L2.St) (H : Hp) (φ : AEnv → Wd → Prop) : Prop := ∃ (env : AEnv) (w : Wd), w.H = H ∧ w.Ok K ∧ Tr w0 w ∧ EnvR K w.G env σ ∧ φ env w
def concE (t : ATE) : TE := fun σ H Q => At K w0 σ H fun env w => ∃ P, t env w.own P ∧ ∀ d w' v, P d w'.own → Tr w w' → w'.Ok K → Dt K w'.G d v → Q v w'.H
def concT (t : ATT) : TT := fun σ H Q => At K w0 σ H fun env w => ∃ P, t env w.own P ∧ ∀ b w', P b w'.own → Tr w w' → w'.Ok K → Q b w'.H
def concA (t : ATA) : TA := fun σ H Q => At K w0 σ H fun env w => ∃ P, t env w.own P ∧ ∀ ds w' vs, P ds w'.own → Tr w w' → w'.Ok K → Dts K w'.G ds vs → Q vs w'.H
def concN (t : ATN) : TE := fun σ H Q => At K w0 σ H fun env w => ∃ P, t env w.own P ∧ ∀ ds w' p vs, P ds w'.own → Tr w w' → w'.Ok K → w.H p = none → w'.H p = some (.lst vs) → w'.G p = none → w'.own p = none → Dts K w'.G ds vs → Q (.ref p) w'.H
def concO (t : ATO) : TO := fun σ H Q => At K w0 σ H fun env w => ∃ P, t env w.own P ∧ ∀ o w', P o w'.own → Tr w w' → w'.Ok K → Q o w'.H
def concS (t : ATS) : TS := fun E σ H => At K w0 σ H fun env w => ∃ A : AEnds, t A env w.own ∧
  (∀ env' w' σ', A.nx env' w'.own → Tr w w' → w'.Ok K → EnvR K w'.G env' σ' → E.nx σ' w'.H) ∧
  (∀ d w' v, A.rt d w'.own → Tr w w' → w'.Ok K → Dt K w'.G d v → E.rt v w'.H) ∧
  (∀ env' w' σ', A.bk env' w'.own → Tr w w' → w'.Ok K → EnvR K w'.G env' σ' → E.bk σ' w'.H) ∧
  (∀ env' w' σ', A.ct env' w'.own → Tr w w' → w'.Ok K → EnvR K w'.G env' σ' → E.ct σ' w'.H)
/-- the slots but those at vs stay -/
def Only (vs : List Nat) (σ σ' : L2.St) : Prop := σ'.length = σ.length ∧ ∀ i, i ∉ vs → σ'[i]? = σ[i]?
def concG (vs : List Nat) (g : ATG) : TG := fun x σ H Q => At K w0 σ H fun env w => ∃ d P, Dt K w.G d x ∧ g d env w.own P ∧
  ∀ env' w' σ', P env' w'.own → Tr w w' → w'.Ok K → EnvR K w'.G env' σ' → Only vs σ σ' → Q σ' w'.H
def concGs (vs : List Nat) (g : ATGs) : TGs := fun xs σ H Q => At K w0 σ H fun env w => ∃ ds P, Dts K w.G ds xs ∧ g ds env w.own P ∧
  ∀ env' w' σ', P env' w'.own → Tr w w' → w'.Ok K → EnvR K w'.G env' σ' → Only vs σ σ' → Q σ' w'.H
/-- what is walked: the data ds, as long as gd holds of what is one's own -/
structure Walks (w1 : Wd) (J : It) (ds : List D) (gd : Own → Prop) : Prop where
  len : ds.length ≤ sizeLine
  go : ∀ i (w : Wd), w.Ok K → Sub w1.G w.G → gd w.own → i < ds.length → J.go i w.H
  stop : ∀ (w : Wd), w.Ok K → Sub w1.G w.G → gd w.own → J.stop ds.length w.H
  yld : ∀ i (w : Wd) x H', w.Ok K → Sub w1.G w.G → gd w.own → i < ds.length → J.yld i w.H x H' → ∃ d w', ds[i]? = some d ∧ Wd.H w' = H' ∧ w'.own = w.own ∧ Tr w w' ∧ w'.Ok K ∧ Dt K w'.G d x
def concI (t : ATI) : TI := fun σ H R => At K w0 σ H fun env w => ∃ P, t env w.own P ∧ ∀ ds gd w' J, P ds gd w'.own → Tr w w' → w'.Ok K → Walks K w' J ds gd → R J w'.H
end
section
variable {X : Cx}
theorem pe_of {e : Expr} {t t' : TE} (h : PE X e t) (hc : ∀ σ H Q, t' σ H Q → t σ H Q) : PE X e t' := ⟨fun pins s σ H Q I hw => h.run pins s σ H Q I (hc σ H Q hw)⟩
theorem pt_of {e : Expr} {t t' : TT} (h : PT X e t) (hc : ∀ σ H Q, t' σ H Q → t σ H Q) : PT X e t' := ⟨fun pins s σ H Q I hw => h.run pins s σ H Q I (hc σ H Q hw)⟩
theorem pw_of {e : Expr} {t t' : TT} (h : PW X e t) (hc : ∀ σ H Q, t' σ H Q → t σ H Q) : PW X e t' := ⟨fun wh pins s σ H Q I hw => h.run wh pins s σ H Q I (hc σ H Q hw)⟩
theorem pa_of {e : List Expr} {t t' : TA} (h : PA X e t) (hc : ∀ σ H Q, t' σ H Q → t σ H Q) : PA X e t' := ⟨fun pos pins s σ H Q I hw => h.run pos pins s σ H Q I (hc σ H Q hw)⟩
theorem po_of {e : Option Expr} {t t' : TO} (h : PO X e t) (hc : ∀ σ H Q, t' σ H Q → t σ H Q) : PO X e t' := ⟨fun pins s σ H Q I hw => h.run pins s σ H Q I (hc σ H Q hw)⟩
theorem ps_of {e : Stmt} {t t' : TS} (h : PS X e t) (hc : ∀ E σ H, t' E σ H → t E σ H) : PS X e t' := ⟨fun pins s σ H D I hw => h.run pins s σ H D I (hc D σ H hw)⟩
theorem pss_of {e : List Stmt} {t t' : TS} (h : PSs X e t) (hc : ∀ E σ H, t' E σ H → t E σ H) : PSs X e t' := ⟨fun pins s σ H D I hw => h.run pins s σ H D I (hc D σ H hw)⟩
theorem pg_of {e : Expr} {t t' : TG} (h : PG X e t) (hc : ∀ v σ H Q, t' v σ H Q → t v σ H Q) : PG X e t' := ⟨fun pins s σ H v u Q I r hw => h.run pins s σ H v u Q I r (hc v σ H Q hw)⟩
theorem pgs_of {e : List Expr} {t t' : TGs} (h : PGs X e t) (hc : ∀ v σ H Q, t' v σ H Q → t v σ H Q) : PGs X e t' := ⟨fun pins s σ H v u Q I r hw => h.run pins s σ H v u Q I r (hc v σ H Q hw)⟩
theorem pi_of {tg e : Expr} {t t' : TI} (h : PI X tg e t) (hc : ∀ σ H Q, t' σ H Q → t σ H Q) : PI X tg e t' := ⟨fun pins s σ H Q I hw => h.run pins s σ H Q I (hc σ H Q hw)⟩
theorem pts_of {e : List Expr} {t t' : TT} (h : PTs X e t) (hc : ∀ σ H Q, t' σ H Q → t σ H Q) : PTs X e t' := ⟨fun pins s σ H Q I hw => h.run pins s σ H Q I (hc σ H Q hw)⟩
end

/-- what a thing is, by what is one's own -/
def see (own : Own) : D → D
  | .ref p => match own p with
    | some (.lst ds) => .lst ds
    | some (.dct kvs) => .dct kvs
    | _ => .ref p
  | d => d
/-- a thing as it stands in a world: a list's place -/
def DtV (K : PySem.W.Frag) (w : Wd) : D → V → Prop
  | .lst ds, v => ∃ a vs, v = .ref a ∧ Rd w.H a (.lst vs) ∧ Dts K w.G ds vs
  | .tup ds, v => ∃ a vs, v = .ref a ∧ SqT K w.H a vs ∧ Dts K w.G ds vs
  | .dct kvs, v => ∃ a, v = .ref a ∧ ((∃ es, w.H a = some (.dK es) ∧ DkK K w.G kvs es) ∨ ∃ es, w.H a = some (.dT es) ∧ DkT K w.G kvs es)
  | d, v => Dt K w.G d v
theorem see_ok {K : PySem.W.Frag} {w : Wd} (ok : w.Ok K) {d : D} {v : V} (h : Dt K w.G d v) : DtV K w (see w.own d) v := by
  cases d with
  | ref p =>
    unfold Dt at h; subst h
    have r0 : Dt K w.G (.ref p) (.ref p) := by unfold Dt; rfl
    cases e : w.own p with
    | none =>
      have hs : see w.own (.ref p) = .ref p := by simp only [see, e]
      rw [hs]; exact r0
    | some m =>
      obtain ⟨_, o, e2, e3⟩ := ok.own p m e
      cases m with
      | lst ds =>
        have hs : see w.own (.ref p) = .lst ds := by simp only [see, e]
        rw [hs]
        cases o <;> first | exact (e3 : False).elim | skip
        exact ⟨p, _, rfl, .of e2, e3⟩
      | dct kvs =>
        have hs : see w.own (.ref p) = .dct kvs := by simp only [see, e]
        rw [hs]
        cases o <;> first | exact (e3 : False).elim | skip
        · exact ⟨p, rfl, .inl ⟨_, e2, e3⟩⟩
        · exact ⟨p, rfl, .inr ⟨_, e2, e3⟩⟩
      | ins C fs =>
        have hs : see w.own (.ref p) = .ref p := by simp only [see, e]
        rw [hs]; exact r0
      | exc a c d =>
        have hs : see w.own (.ref p) = .ref p := by simp only [see, e]
        rw [hs]; exact r0
      | xd fs =>
        have hs : see w.own (.ref p) = .ref p := by simp only [see, e]
        rw [hs]; exact r0
      | tbl q =>
        have hs : see w.own (.ref p) = .ref p := by simp only [see, e]
        rw [hs]; exact r0
  | lst ds =>
    unfold Dt at h
    obtain ⟨a, vs, e1, e2, e3⟩ := h
    exact ⟨a, vs, e1, ok.sub.rd e2, e3⟩
  | tup ds =>
    unfold Dt at h
    obtain ⟨a, vs, e1, e2, e3⟩ := h
    exact ⟨a, vs, e1, ok.sub.sqT e2, e3⟩
  | dct kvs =>
    unfold Dt at h
    obtain ⟨a, e1, ⟨es, e2, e3⟩ | ⟨es, e2, e3⟩⟩ := h
    · exact ⟨a, e1, .inl ⟨es, ok.sub a _ e2, e3⟩⟩
    · exact ⟨a, e1, .inr ⟨es, ok.sub a _ e2, e3⟩⟩
  | non => exact h
  | bl b => exact h
  | int i => exact h
  | str x => exact h
  | ty n => exact h
  | kls ds => exact h
theorem sqL_sz {K : PySem.W.Frag} {w : Wd} (ok : w.Ok K) {a : Addr} {vs : List V} (h : SqL K w.H a vs) : vs.length ≤ sizeLine := by
  rcases h with (h | ⟨o, h⟩) | ⟨o, its, n, _, _, _, _, hz, r⟩
  · exact ok.sz a _ h
  · exact ok.sz a _ h
  · have := r.length
    simp only [Array.length_toList] at this
    omega
theorem sqT_sz {K : PySem.W.Frag} {w : Wd} (ok : w.Ok K) {a : Addr} {vs : List V} (h : SqT K w.H a vs) : vs.length ≤ sizeLine := by
  rcases h with (h | ⟨o, h⟩) | ⟨o, its, n, _, _, _, hz, r⟩
  · exact ok.sz a _ h
  · exact ok.sz a _ h
  · have := r.length
    simp only [Array.length_toList] at this
    omega

/-! ### expressions -/
def aV (i : Nat) : ATE := fun env own P => match eg env i with
  | some d => P d own
  | none => False
def aC (d : D) : ATE := fun _ own P => P d own
abbrev BinF := Own → D → D → (D → Prop) → Prop
def aBin (f : BinF) (ta tb : ATE) : ATE := fun env own P => ta env own fun d o1 => tb env o1 fun e o2 => f o2 d e fun z => P z o2
abbrev UnF := Own → D → (D → Prop) → Prop
def aUn (f : UnF) (ta : ATE) : ATE := fun env own P => ta env own fun d o1 => f o1 d fun z => P z o1
def OpS (K : PySem.W.Frag) (r : R2) (f : BinF) : Prop := ∀ (w : Wd) (d e : D) (x y : V) (P : D → Prop) (Q : VK), w.Ok K → Dt K w.G d x → Dt K w.G e y → f w.own d e P →
  (∀ z w' v, P z → w'.own = w.own → Tr w w' → w'.Ok K → Dt K w'.G z v → Q v w'.H) → r x y w.H Q
def UnS (K : PySem.W.Frag) (r : V → Hp → VK → Prop) (f : UnF) : Prop := ∀ (w : Wd) (d : D) (x : V) (P : D → Prop) (Q : VK), w.Ok K → Dt K w.G d x → f w.own d P →
  (∀ z w' v, P z → w'.own = w.own → Tr w w' → w'.Ok K → Dt K w'.G z v → Q v w'.H) → r x w.H Q
/-- several values in, one out -/
abbrev CallF := Own → List D → (D → Prop) → Prop
def CallS (K : PySem.W.Frag) (r : List V → Hp → VK → Prop) (f : CallF) : Prop := ∀ (w : Wd) (ds : List D) (xs : List V) (P : D → Prop) (Q : VK), w.Ok K → Dts K w.G ds xs → f w.own ds P →
  (∀ z w' v, P z → w'.own = w.own → Tr w w' → w'.Ok K → Dt K w'.G z v → Q v w'.H) → r xs w.H Q
def aFn (f : CallF) (ta : ATA) : ATE := fun env own P => ta env own fun ds o1 => f o1 ds fun z => P z o1
section
variable {X : Cx} {w0 : Wd}
abbrev AE (X : Cx) (w0 : Wd) (e : Expr) (t : ATE) : Prop := PE X e (concE X.K w0 t)
abbrev AN (X : Cx) (w0 : Wd) (e : Expr) (t : ATN) : Prop := PE X e (concN X.K w0 t)
abbrev AT (X : Cx) (w0 : Wd) (e : Expr) (t : ATT) : Prop := PT X e (concT X.K w0 t)
abbrev AW (X : Cx) (w0 : Wd) (e : Expr) (t : ATT) : Prop := PW X e (concT X.K w0 t)
abbrev AA (X : Cx) (w0 : Wd) (es : List Expr) (t : ATA) : Prop := PA X es (concA X.K w0 t)
abbrev AO (X : Cx) (w0 : Wd) (e : Option Expr) (t : ATO) : Prop := PO X e (concO X.K w0 t)
abbrev AS (X : Cx) (w0 : Wd) (s : Stmt) (t : ATS) : Prop := PS X s (concS X.K w0 t)
abbrev ASs (X : Cx) (w0 : Wd) (s : List Stmt) (t : ATS) : Prop := PSs X s (concS X.K w0 t)
abbrev AG (X : Cx) (w0 : Wd) (vs : List Nat) (e : Expr) (t : ATG) : Prop := PG X e (concG X.K w0 vs t)
abbrev AGs (X : Cx) (w0 : Wd) (vs : List Nat) (e : List Expr) (t : ATGs) : Prop := PGs X e (concGs X.K w0 vs t)
abbrev AI (X : Cx) (w0 : Wd) (tg e : Expr) (t : ATI) : Prop := PI X tg e (concI X.K w0 t)

variable {a b c e : Expr} {ta tb tc : ATE} {pos : Pos}
theorem ae_v (i : Nat) {x : Str} {pos : Pos} (hN : X.N[i]? = some x := by rfl) (hv : Vis X.env.scope x := by first | exact Or.inl rfl | exact Or.inr (Or.inl rfl) | exact Or.inr (Or.inr rfl)) (hd : (x == ("__debug__" : Str)) = false := by decide)
    (hcd : (x == ("__classdict__" : Str)) = false := by decide) : AE X w0 (.Name x pos) (aV i) := pe_of (pe_var hN hv hd hcd) fun σ H Q h => by
  obtain ⟨env, w, rfl, ok, tr0, er, P, h, k⟩ := h
  unfold aV at h
  cases e : eg env i with
  | none => rw [e] at h; exact h.elim
  | some d =>
    rw [e] at h
    obtain ⟨v, e1, e2⟩ := er.2 i d e
    exact ⟨v, e1, k d w v h (Tr.refl w) ok e2⟩
theorem ae_c {d : D} {v : V} (h : PE X e (tC v)) (hd : ∀ G, Dt X.K G d v) : AE X w0 e (aC d) := pe_of h fun σ H Q h => by
  obtain ⟨env, w, rfl, ok, tr0, er, P, h, k⟩ := h
  exact k d w v h (Tr.refl w) ok (hd w.G)
theorem ae_int {i j} : AE X w0 (.Constant (.int i) j pos) (aC (.int i)) := ae_c pe_int fun _ => by unfold Dt; rfl
theorem ae_bl {b j} : AE X w0 (.Constant (.bool b) j pos) (aC (.bl b)) := ae_c pe_bl fun _ => by unfold Dt; rfl
theorem ae_non {j} : AE X w0 (.Constant .none j pos) (aC .non) := ae_c pe_non fun _ => by unfold Dt; rfl
theorem ae_str {x j} : AE X w0 (.Constant (.str x) j pos) (aC (.str x)) := ae_c pe_str fun _ => by unfold Dt; rfl
theorem ae_glob {x : Str} {v : V} {u : Value} {d : D} (hg : Gl X x) (hm : X.mg x = some u) (r : RelV v u) (hd : ∀ G, Dt X.K G d v) (hdb : (x == ("__debug__" : Str)) = false := by decide) : AE X w0 (.Name x pos) (aC d) := ae_c (pe_glob hg hm r hdb) hd
/-- from a rule of two operands -/
theorem bin_of {r : R2} {f : BinF} {σ : L2.St} {H : Hp} {Q : VK} (hs : OpS X.K r f) (h : concE X.K w0 (aBin f ta tb) σ H Q) : tOp r (concE X.K w0 ta) (concE X.K w0 tb) σ H Q := by
  obtain ⟨env, w, rfl, ok, tr0, er, P, h, k⟩ := h
  refine ⟨env, w, rfl, ok, tr0, er, _, h, fun d w1 x h1 t1 ok1 dx => ?_⟩
  refine ⟨env, w1, rfl, ok1, tr0.trans t1, er.mono t1.gs, _, h1, fun e w2 y h2 t2 ok2 dy => ?_⟩
  exact hs w2 d e x y _ Q ok2 (dx.mono t2.gs) dy h2 fun z w3 v pz ho t3 ok3 dz => k z w3 v (by rw [ho]; exact pz) ((t1.trans t2).trans t3) ok3 dz
theorem ae_op {op : Operator} {r : R2} {f : BinF} (ho : OpR X (binaryOp op) r) (hs : OpS X.K r f) (ha : AE X w0 a ta) (hb : AE X w0 b tb) : AE X w0 (.BinOp a op b pos) (aBin f ta tb) := pe_of (pe_op ho ha hb) fun _ _ _ h => bin_of hs h
theorem ae_cmp {op : CmpOp} {r : R2} {f : BinF} (ho : OpR X (compareOp op) r) (hs : OpS X.K r f) (ha : AE X w0 a ta) (hb : AE X w0 b tb) (hm : behindInMarks op b = false) : AE X w0 (.Compare a [op] [b] pos) (aBin f ta tb) := pe_of (pe_cmpR ho ha hb hm) fun _ _ _ h => bin_of hs h
theorem ae_sub {r : R2} {f : BinF} (ho : IxR X r) (hs : OpS X.K r f) (ha : AE X w0 a ta) (hb : AE X w0 b tb) (hp : PlainIx b := by exact fun _ _ => rfl) : AE X w0 (.Subscript a b pos) (aBin f ta tb) := pe_of (pe_ix ho ha hb hp) fun _ _ _ h => bin_of hs h
theorem ae_un {op : UnaryOp} {r : V → Hp → VK → Prop} {f : UnF} (ho : UnR X (unaryOp op) r) (hs : UnS X.K r f) (ha : AE X w0 a ta) : AE X w0 (.UnaryOp op a pos) (aUn f ta) := pe_of (pe_un ho ha) fun σ H Q h => by
  obtain ⟨env, w, rfl, ok, tr0, er, P, h, k⟩ := h
  refine ⟨env, w, rfl, ok, tr0, er, _, h, fun d w1 x h1 t1 ok1 dx => ?_⟩
  exact hs w1 d x _ Q ok1 dx h1 fun z w3 v pz ho t3 ok3 dz => k z w3 v (by rw [ho]; exact pz) (t1.trans t3) ok3 dz
/-! tests -/
def aB (t : ATE) : ATT := fun env own P => t env own fun d o => match d with
  | .bl b => P b o
  | _ => False
theorem atest_of {σ : L2.St} {H : Hp} {Q : Bool → Hp → Prop} (h : concT X.K w0 (aB ta) σ H Q) : tTest (concE X.K w0 ta) σ H Q := by
  obtain ⟨env, w, rfl, ok, tr0, er, P, h, k⟩ := h
  refine ⟨env, w, rfl, ok, tr0, er, _, h, fun d w1 x h1 t1 ok1 dx => ?_⟩
  cases d with
  | bl b => unfold Dt at dx; exact ⟨b, dx, k b w1 h1 t1 ok1⟩
  | _ => exact (h1 : False).elim
theorem at_cmp {op : CmpOp} {r : R2} {f : BinF} (ho : OpR X (compareOp op) r) (hs : OpS X.K r f) (ha : AE X w0 a ta) (hb : AE X w0 b tb) (hm : behindInMarks op b = false) : AT X w0 (.Compare a [op] [b] pos) (aB (aBin f ta tb)) := pt_of (pt_cmpR ho ha hb hm) fun σ H Q h => by
  obtain ⟨env, w, rfl, ok, tr0, er, P, h, k⟩ := h
  refine bin_of hs ⟨env, w, rfl, ok, tr0, er, _, h, fun d w1 x h1 t1 ok1 dx => ?_⟩
  cases d with
  | bl b => unfold Dt at dx; exact ⟨b, dx, k b w1 h1 t1 ok1⟩
  | _ => exact (h1 : False).elim
/-- truth of any value -/
def aTru (t : ATE) : ATT := fun env own P => t env own fun d o => match see o d with
  | .bl b => P b o
  | .non => P false o
  | .int i => P (i != 0) o
  | .str x => x.length ≤ sizeLine ∧ P ((x.length : Int) != 0) o
  | .lst xs => P (!xs.isEmpty) o
  | .tup xs => P (!xs.isEmpty) o
  | _ => False
theorem isEmpty_dts {K : PySem.W.Frag} {G : Hp} {ds : List D} {vs : List V} (h : Dts K G ds vs) : ds.isEmpty = vs.isEmpty := by
  have := h.length
  cases ds <;> cases vs <;> simp at this ⊢
theorem at_tru (ha : AE X w0 a ta) (he : ∀ whole, isTrue a X.env whole = (do let v ← whole; standAt a.pos; holding [v] (truthy v)) := by intro _; rfl) : AT X w0 a (aTru ta) := pt_of (pt_truth ha he) fun σ H Q h => by
  obtain ⟨env, w, rfl, ok, tr0, er, P, h, k⟩ := h
  refine ⟨env, w, rfl, ok, tr0, er, _, h, fun d w1 x h1 t1 ok1 dx => ?_⟩
  have dv := see_ok ok1 dx
  cases e : see w1.own d with
  | non => rw [e] at dv h1; change Dt X.K w1.G .non x at dv; unfold Dt at dv; subst dv; exact ⟨false, rfl, k _ w1 h1 t1 ok1⟩
  | bl b => rw [e] at dv h1; change Dt X.K w1.G (.bl b) x at dv; unfold Dt at dv; subst dv; exact ⟨b, rfl, k _ w1 h1 t1 ok1⟩
  | int i => rw [e] at dv h1; change Dt X.K w1.G (.int i) x at dv; unfold Dt at dv; subst dv; exact ⟨_, rfl, k _ w1 h1 t1 ok1⟩
  | str y => rw [e] at dv h1; change Dt X.K w1.G (.str y) x at dv; unfold Dt at dv; subst dv; exact ⟨_, ⟨h1.1, rfl⟩, k _ w1 h1.2 t1 ok1⟩
  | lst ds =>
    rw [e] at dv h1
    obtain ⟨p, vs, rfl, e2, e3⟩ := dv
    exact ⟨_, .inl ⟨vs, .inl e2, by rw [isEmpty_dts e3]⟩, k _ w1 h1 t1 ok1⟩
  | tup ds =>
    rw [e] at dv h1
    obtain ⟨p, vs, rfl, e2, e3⟩ := dv
    exact ⟨_, .inr (.inl ⟨vs, e2, by rw [isEmpty_dts e3]⟩), k _ w1 h1 t1 ok1⟩
  | dct _ => rw [e] at h1; exact (h1 : False).elim
  | ref _ => rw [e] at h1; exact (h1 : False).elim
  | ty _ => rw [e] at h1; exact (h1 : False).elim
  | kls _ => rw [e] at h1; exact (h1 : False).elim
variable {tA tB : ATT} {rest : List Expr}
def aAnd (t u : ATT) : ATT := fun env own P => t env own fun b o => match b with
  | true => u env o P
  | false => P false o
def aOr (t u : ATT) : ATT := fun env own P => t env own fun b o => match b with
  | true => P true o
  | false => u env o P
def aNot (t : ATT) : ATT := fun env own P => t env own fun b o => P (!b) o
theorem aw_and1 (ha : AT X w0 a tA) : AW X w0 (.BoolOp .And [a] pos) tA := pw_and1 ha
theorem aw_or1 (ha : AT X w0 a tA) : AW X w0 (.BoolOp .Or [a] pos) tA := pw_or1 ha
theorem aw_and (ha : AT X w0 a tA) (hb : AW X w0 (.BoolOp .And (b :: rest) pos) tB) : AW X w0 (.BoolOp .And (a :: b :: rest) pos) (aAnd tA tB) := pw_of (pw_and ha hb) fun σ H Q h => by
  obtain ⟨env, w, rfl, ok, tr0, er, P, h, k⟩ := h
  refine ⟨env, w, rfl, ok, tr0, er, _, h, fun b w1 h1 t1 ok1 => ?_⟩
  cases b with
  | true => rw [if_pos rfl]; exact ⟨env, w1, rfl, ok1, tr0.trans t1, er.mono t1.gs, P, h1, fun b' w2 h2 t2 ok2 => k b' w2 h2 (t1.trans t2) ok2⟩
  | false => rw [if_neg (by decide)]; exact k false w1 h1 t1 ok1
theorem aw_or (ha : AT X w0 a tA) (hb : AW X w0 (.BoolOp .Or (b :: rest) pos) tB) : AW X w0 (.BoolOp .Or (a :: b :: rest) pos) (aOr tA tB) := pw_of (pw_or ha hb) fun σ H Q h => by
  obtain ⟨env, w, rfl, ok, tr0, er, P, h, k⟩ := h
  refine ⟨env, w, rfl, ok, tr0, er, _, h, fun b w1 h1 t1 ok1 => ?_⟩
  cases b with
  | false => rw [if_neg (by decide)]; exact ⟨env, w1, rfl, ok1, tr0.trans t1, er.mono t1.gs, P, h1, fun b' w2 h2 t2 ok2 => k b' w2 h2 (t1.trans t2) ok2⟩
  | true => rw [if_pos rfl]; exact k true w1 h1 t1 ok1
theorem at_w {t : ATT} (h : AW X w0 e t) : AT X w0 e t := h.pt
theorem at_not (ha : AT X w0 a tA) : AT X w0 (.UnaryOp .Not a pos) (aNot tA) := pt_of (pt_not ha) fun σ H Q h => by
  obtain ⟨env, w, rfl, ok, tr0, er, P, h, k⟩ := h
  exact ⟨env, w, rfl, ok, tr0, er, _, h, fun b w1 h1 t1 ok1 => k (!b) w1 h1 t1 ok1⟩
/-- .. as values, all bools -/
def aAndV (t u : ATE) : ATE := fun env own P => t env own fun d o => match d with
  | .bl true => u env o P
  | .bl false => P (.bl false) o
  | _ => False
def aOrV (t u : ATE) : ATE := fun env own P => t env own fun d o => match d with
  | .bl true => P (.bl true) o
  | .bl false => u env o P
  | _ => False
def aNotV (t : ATE) : ATE := fun env own P => t env own fun d o => match d with
  | .bl b => P (.bl (!b)) o
  | _ => False
theorem ae_one {op} (h : AE X w0 a ta) : AE X w0 (.BoolOp op [a] pos) ta := pe_one h
theorem ae_and (ha : AE X w0 a ta) (hb : AE X w0 (.BoolOp .And (b :: rest) pos) tb) : AE X w0 (.BoolOp .And (a :: b :: rest) pos) (aAndV ta tb) := pe_of (pe_and ha hb) fun σ H Q h => by
  obtain ⟨env, w, rfl, ok, tr0, er, P, h, k⟩ := h
  refine ⟨env, w, rfl, ok, tr0, er, _, h, fun d w1 x h1 t1 ok1 dx => ?_⟩
  cases d with
  | bl b =>
    unfold Dt at dx
    refine ⟨b, dx, ?_⟩
    cases b with
    | true => rw [if_pos rfl]; exact ⟨env, w1, rfl, ok1, tr0.trans t1, er.mono t1.gs, P, h1, fun b' w2 v h2 t2 ok2 => k b' w2 v h2 (t1.trans t2) ok2⟩
    | false => rw [if_neg (by decide)]; exact k _ w1 _ h1 t1 ok1 (by unfold Dt; rfl)
  | _ => exact (h1 : False).elim
theorem ae_or (ha : AE X w0 a ta) (hb : AE X w0 (.BoolOp .Or (b :: rest) pos) tb) : AE X w0 (.BoolOp .Or (a :: b :: rest) pos) (aOrV ta tb) := pe_of (pe_or ha hb) fun σ H Q h => by
  obtain ⟨env, w, rfl, ok, tr0, er, P, h, k⟩ := h
  refine ⟨env, w, rfl, ok, tr0, er, _, h, fun d w1 x h1 t1 ok1 dx => ?_⟩
  cases d with
  | bl b =>
    unfold Dt at dx
    refine ⟨b, dx, ?_⟩
    cases b with
    | false => rw [if_neg (by decide)]; exact ⟨env, w1, rfl, ok1, tr0.trans t1, er.mono t1.gs, P, h1, fun b' w2 v h2 t2 ok2 => k b' w2 v h2 (t1.trans t2) ok2⟩
    | true => rw [if_pos rfl]; exact k _ w1 _ h1 t1 ok1 (by unfold Dt; rfl)
  | _ => exact (h1 : False).elim
theorem ae_not (ha : AE X w0 a ta) : AE X w0 (.UnaryOp .Not a pos) (aNotV ta) := pe_of (pe_not ha) fun σ H Q h => by
  obtain ⟨env, w, rfl, ok, tr0, er, P, h, k⟩ := h
  refine ⟨env, w, rfl, ok, tr0, er, _, h, fun d w1 x h1 t1 ok1 dx => ?_⟩
  cases d with
  | bl b => unfold Dt at dx; exact ⟨b, dx, k _ w1 _ h1 t1 ok1 (by unfold Dt; rfl)⟩
  | _ => exact (h1 : False).elim
def aIf (t : ATT) (ta tb : ATE) : ATE := fun env own P => t env own fun b o => match b with
  | true => ta env o P
  | false => tb env o P
theorem ae_if (hc : AT X w0 c tA) (ha : AE X w0 a ta) (hb : AE X w0 b tb) : AE X w0 (.IfExp c a b pos) (aIf tA ta tb) := pe_of (pe_ifExp hc ha hb) fun σ H Q h => by
  obtain ⟨env, w, rfl, ok, tr0, er, P, h, k⟩ := h
  refine ⟨env, w, rfl, ok, tr0, er, _, h, fun b w1 h1 t1 ok1 => ?_⟩
  cases b with
  | true => rw [if_pos rfl]; exact ⟨env, w1, rfl, ok1, tr0.trans t1, er.mono t1.gs, P, h1, fun b' w2 v h2 t2 ok2 => k b' w2 v h2 (t1.trans t2) ok2⟩
  | false => rw [if_neg (by decide)]; exact ⟨env, w1, rfl, ok1, tr0.trans t1, er.mono t1.gs, P, h1, fun b' w2 v h2 t2 ok2 => k b' w2 v h2 (t1.trans t2) ok2⟩
/-! lists of arguments, displays -/
def aNil : ATA := fun _ own P => P [] own
def aCons (t : ATE) (u : ATA) : ATA := fun env own P => t env own fun d o => u env o fun ds o2 => P (d :: ds) o2
variable {es : List Expr} {tr : ATA}
theorem aa_nil : AA X w0 [] aNil := pa_of pa_nil fun σ H Q h => by
  obtain ⟨env, w, rfl, ok, tr0, er, P, h, k⟩ := h
  exact k [] w [] h (Tr.refl w) ok .nil
theorem aa_cons (ha : AE X w0 e ta) (hr : AA X w0 es tr) (hs : starEach (e :: es) X.env = (false, eval e X.env) :: starEach es X.env := by rfl) : AA X w0 (e :: es) (aCons ta tr) := pa_of (pa_cons ha hr hs) fun σ H Q h => by
  obtain ⟨env, w, rfl, ok, tr0, er, P, h, k⟩ := h
  refine ⟨env, w, rfl, ok, tr0, er, _, h, fun d w1 x h1 t1 ok1 dx => ?_⟩
  exact ⟨env, w1, rfl, ok1, tr0.trans t1, er.mono t1.gs, _, h1, fun ds w2 vs h2 t2 ok2 dv => k (d :: ds) w2 (x :: vs) h2 (t1.trans t2) ok2 (.cons (dx.mono t2.gs) dv)⟩
def aTup (t : ATA) : ATE := fun env own P => t env own fun ds o => ds.length ≤ sizeLine ∧ P (.tup ds) o
def aLst (t : ATA) : ATN := fun env own P => t env own fun ds o => ds.length ≤ sizeLine ∧ P ds o
theorem Dt.tupI {K : PySem.W.Frag} {G : Hp} {p : Addr} {ds : List D} {vs : List V} (h : G p = some (.tup vs)) (r : Dts K G ds vs) : Dt K G (.tup ds) (.ref p) := by
  unfold Dt; exact ⟨p, vs, rfl, .of h, r⟩
theorem Dt.lstI {K : PySem.W.Frag} {G : Hp} {p : Addr} {ds : List D} {vs : List V} (h : G p = some (.lst vs)) (r : Dts K G ds vs) : Dt K G (.lst ds) (.ref p) := by
  unfold Dt; exact ⟨p, vs, rfl, .of h, r⟩
/-- a new tuple of known things -/
theorem newTup {K : PySem.W.Frag} {w : Wd} (ok : w.Ok K) {p : Addr} {ds : List D} {vs : List V} (h : w.H p = none) (r : Dts K w.G ds vs) (hz : ds.length ≤ sizeLine) :
    ∃ w', w'.H = upd w.H p (.tup vs) ∧ w'.own = w.own ∧ Tr w w' ∧ w'.Ok K ∧ Dt K w'.G (.tup ds) (.ref p) := by
  obtain ⟨ok', t⟩ := ok.frz (o := .tup vs) h (by show vs.length ≤ sizeLine; rw [r.length]; exact hz)
  exact ⟨w.frz p (.tup vs), rfl, rfl, t, ok', .tupI upd_same (r.mono t.gs)⟩
theorem newLst {K : PySem.W.Frag} {w : Wd} (ok : w.Ok K) {p : Addr} {ds : List D} {vs : List V} (h : w.H p = none) (r : Dts K w.G ds vs) (hz : ds.length ≤ sizeLine) :
    ∃ w', w'.H = upd w.H p (.lst vs) ∧ w'.own = w.own ∧ Tr w w' ∧ w'.Ok K ∧ Dt K w'.G (.lst ds) (.ref p) := by
  obtain ⟨ok', t⟩ := ok.frz (o := .lst vs) h (by show vs.length ≤ sizeLine; rw [r.length]; exact hz)
  exact ⟨w.frz p (.lst vs), rfl, rfl, t, ok', .lstI upd_same (r.mono t.gs)⟩
/-- a thing that is tracked, and of which nothing is said -/
theorem Wd.Ok.bare {K : PySem.W.Frag} {w : Wd} (ok : w.Ok K) {p : Addr} {o : HO} (h : w.H p = none ∨ (w.G p = none ∧ w.own p = none)) (hz : SzOk o) : (Wd.mk w.own w.G (upd w.H p o)).Ok K := by
  have hg : w.G p = none := by rcases h with h | h; exact ok.noG h; exact h.1
  have ho : w.own p = none := by rcases h with h | h; exact ok.noown h; exact h.2
  refine ⟨fun a u e => ?_, fun q m e => ?_, fun a u e => ?_⟩
  · show upd w.H p o a = some u
    have e' : w.G a = some u := e
    rw [upd_ne (fun z => by rw [z, hg] at e'; cases e')]; exact ok.sub a u e'
  · have e' : w.own q = some m := e
    obtain ⟨e1, u, e2, e3⟩ := ok.own q m e'
    exact ⟨e1, u, (upd_ne (fun z => by rw [z, ho] at e'; cases e')).trans e2, e3⟩
  · have e' : upd w.H p o a = some u := e
    by_cases hp : a = p
    · subst hp; rw [upd_same] at e'; cases e'; exact hz
    · rw [upd_ne hp] at e'; exact ok.sz a u e'
/-- .. new since w0 -/
theorem Tr.bare {w0 w : Wd} (t : Tr w0 w) {p : Addr} {o : HO} (h : w0.H p = none) : Tr w0 ⟨w.own, w.G, upd w.H p o⟩ where
  fr := fun a u e n => by
    show upd w.H p o a = some u
    rw [upd_ne (ne_of_none e h)]; exact t.fr a u e n
  gs := t.gs
  gd := t.gd
  od := t.od
  th := fun a e => by
    show upd w.H p o a ≠ none
    by_cases hp : a = p
    · subst hp; rw [upd_same]; simp
    · rw [upd_ne hp]; exact t.th a e
theorem ae_tup {k} (h : AA X w0 es tr) : AE X w0 (.Tuple es k pos) (aTup tr) := pe_of (pe_tup h) fun σ H Q h => by
  obtain ⟨env, w, rfl, ok, tr0, er, P, h, k⟩ := h
  refine ⟨env, w, rfl, ok, tr0, er, _, h, fun ds w1 vs h1 t1 ok1 dv => ⟨by rw [dv.length]; exact h1.1, fun p hp => ?_⟩⟩
  obtain ⟨w2, e1, e2, t2, ok2, d2⟩ := newTup ok1 hp dv h1.1
  rw [← e1]
  exact k _ w2 _ (by rw [e2]; exact h1.2) (t1.trans t2) ok2 d2
theorem an_lst (h : AA X w0 es tr) : AN X w0 (.List es pos) (aLst tr) := pe_of (pe_lst h) fun σ H Q h => by
  obtain ⟨env, w, rfl, ok, tr0, er, P, h, k⟩ := h
  refine ⟨env, w, rfl, ok, tr0, er, _, h, fun ds w1 vs h1 t1 ok1 dv => ⟨by rw [dv.length]; exact h1.1, fun p hp => ?_⟩⟩
  have hz : vs.length ≤ sizeLine := by rw [dv.length]; exact h1.1
  have ok2 := ok1.bare (p := p) (o := .lst vs) (.inl hp) hz
  have t2 : Tr w ⟨w1.own, w1.G, upd w1.H p (.lst vs)⟩ := t1.bare (t1.fresh hp)
  exact k ds ⟨w1.own, w1.G, upd w1.H p (.lst vs)⟩ p vs h1.2 t2 ok2 (t1.fresh hp) upd_same (ok1.noG hp) (ok1.noown hp) dv
/-- a new list that stands still from now on -/
def aFz (t : ATN) : ATE := fun env own P => t env own fun ds o => P (.lst ds) o
/-- a new list of one's own -/
def aOw (t : ATN) : ATE := fun env own P => t env own fun ds o => ∀ p, o p = none → P (.ref p) (oset o p (.lst ds))
theorem frzN {K : PySem.W.Frag} {w w' : Wd} (t : Tr w w') (ok : w'.Ok K) {p : Addr} {ds : List D} {vs : List V} (h0 : w.H p = none) (hp : w'.H p = some (.lst vs)) (hg : w'.G p = none) (ho : w'.own p = none) (r : Dts K w'.G ds vs) :
    ∃ w2, w2.H = w'.H ∧ w2.own = w'.own ∧ Tr w w2 ∧ w2.Ok K ∧ Dt K w2.G (.lst ds) (.ref p) := by
  refine ⟨⟨w'.own, upd w'.G p (.lst vs), w'.H⟩, rfl, rfl, ⟨t.fr, t.gs.trans (Sub.new hg), fun a e1 e2 e3 => ?_, t.od, t.th⟩, ⟨fun a u e => ?_, fun q m e => ?_, ok.sz⟩, .lstI upd_same (r.mono (Sub.new hg))⟩
  · show upd w'.G p (.lst vs) a = none
    rw [upd_ne (fun z => e2 (by rw [z]; exact h0))]; exact t.gd a e1 e2 e3
  · have e' : upd w'.G p (.lst vs) a = some u := e
    by_cases hq : a = p
    · subst hq; rw [upd_same] at e'; cases e'; exact hp
    · rw [upd_ne hq] at e'; exact ok.sub a u e'
  · obtain ⟨e1, u, e2, e3⟩ := ok.own q m e
    refine ⟨?_, u, e2, e3.mono (Sub.new hg)⟩
    show upd w'.G p (.lst vs) q = none
    rw [upd_ne (fun z => by rw [z] at e; rw [ho] at e; cases e)]; exact e1
theorem ownN {K : PySem.W.Frag} {w w' : Wd} (t : Tr w w') (ok : w'.Ok K) {p : Addr} {ds : List D} {vs : List V} (h0 : w.H p = none) (hp : w'.H p = some (.lst vs)) (hg : w'.G p = none) (ho : w'.own p = none) (r : Dts K w'.G ds vs) :
    ∃ w2, w2.H = w'.H ∧ w2.own = oset w'.own p (.lst ds) ∧ Tr w w2 ∧ w2.Ok K ∧ w2.G = w'.G := by
  refine ⟨⟨oset w'.own p (.lst ds), w'.G, w'.H⟩, rfl, rfl, ⟨t.fr, t.gs, t.gd, fun a e1 e2 => ?_, t.th⟩, ⟨ok.sub, fun q m e => ?_, ok.sz⟩, rfl⟩
  · show oset w'.own p (.lst ds) a = none
    rw [oset_ne (fun z => e2 (by rw [z]; exact h0))]; exact t.od a e1 e2
  · have e' : oset w'.own p (.lst ds) q = some m := e
    by_cases hq : q = p
    · subst hq; rw [oset_same] at e'; cases e'
      exact ⟨hg, _, hp, r⟩
    · rw [oset_ne hq] at e'; exact ok.own q m e'
theorem ae_fz {t : ATN} (h : AN X w0 e t) : AE X w0 e (aFz t) := pe_of h fun σ H Q h => by
  obtain ⟨env, w, rfl, ok, tr0, er, P, h, k⟩ := h
  refine ⟨env, w, rfl, ok, tr0, er, _, h, fun ds w1 p vs h1 t1 ok1 e0 e1 e2 e3 dv => ?_⟩
  obtain ⟨w2, a1, a2, t2, ok2, d2⟩ := frzN t1 ok1 e0 e1 e2 e3 dv
  rw [← a1]
  exact k _ w2 _ (by rw [a2]; exact h1) t2 ok2 d2
theorem ae_ow {t : ATN} (h : AN X w0 e t) : AE X w0 e (aOw t) := pe_of h fun σ H Q h => by
  obtain ⟨env, w, rfl, ok, tr0, er, P, h, k⟩ := h
  refine ⟨env, w, rfl, ok, tr0, er, _, h, fun ds w1 p vs h1 t1 ok1 e0 e1 e2 e3 dv => ?_⟩
  obtain ⟨w2, a1, a2, t2, ok2, d2⟩ := ownN t1 ok1 e0 e1 e2 e3 dv
  rw [← a1]
  exact k (.ref p) w2 _ (by rw [a2]; exact h1 p e3) t2 ok2 (by unfold Dt; rfl)
end
end L3

namespace L3
open PySem PySem.Spec L2

/-! ### blocks -/
def aSeq (t u : ATS) : ATS := fun E env own => t { E with nx := u E } env own
def aNext : ATS := fun E env own => E.nx env own
section
variable {X : Cx} {w0 : Wd} {st : Stmt} {rest : List Stmt} {t u : ATS} {e : Expr} {te : ATE} {pos : Pos}
theorem as_nil : ASs X w0 [] aNext := pss_of pss_nil fun E σ H h => by
  obtain ⟨env, w, rfl, ok, tr0, er, A, h, k, _⟩ := h
  exact k env w σ h (Tr.refl w) ok er
theorem as_cons (h1 : AS X w0 st t) (h2 : ASs X w0 rest u) : ASs X w0 (st :: rest) (aSeq t u) := pss_of (pss_cons h1 h2) fun E σ H h => by
  obtain ⟨env, w, rfl, ok, tr0, er, A, h, k1, k2, k3, k4⟩ := h
  refine ⟨env, w, rfl, ok, tr0, er, _, h, fun env1 w1 σ1 h1 t1 ok1 er1 => ?_, k2, k3, k4⟩
  exact ⟨env1, w1, rfl, ok1, tr0.trans t1, er1, A, h1, fun env2 w2 σ2 h2 t2 => k1 env2 w2 σ2 h2 (t1.trans t2), fun d w2 v h2 t2 => k2 d w2 v h2 (t1.trans t2), fun env2 w2 σ2 h2 t2 => k3 env2 w2 σ2 h2 (t1.trans t2), fun env2 w2 σ2 h2 t2 => k4 env2 w2 σ2 h2 (t1.trans t2)⟩
theorem as_one (h1 : AS X w0 st t) : ASs X w0 [st] t := pss_one h1
def aBreak : ATS := fun E env own => E.bk env own
def aCont : ATS := fun E env own => E.ct env own
theorem as_pass : AS X w0 (.Pass pos) aNext := ps_of ps_pass fun E σ H h => by
  obtain ⟨env, w, rfl, ok, tr0, er, A, h, k, _⟩ := h
  exact k env w σ h (Tr.refl w) ok er
theorem as_break : AS X w0 (.Break pos) aBreak := ps_of ps_break fun E σ H h => by
  obtain ⟨env, w, rfl, ok, tr0, er, A, h, _, _, k, _⟩ := h
  exact k env w σ h (Tr.refl w) ok er
theorem as_continue : AS X w0 (.Continue pos) aCont := ps_of ps_continue fun E σ H h => by
  obtain ⟨env, w, rfl, ok, tr0, er, A, h, _, _, _, k⟩ := h
  exact k env w σ h (Tr.refl w) ok er
theorem as_doc {x j pos pos'} : AS X w0 (.Expr (.Constant (.str x) j pos) pos') aNext := ps_of ps_doc fun E σ H h => by
  obtain ⟨env, w, rfl, ok, tr0, er, A, h, k, _⟩ := h
  exact k env w σ h (Tr.refl w) ok er
def aDrop (te : ATE) : ATS := fun E env own => te env own fun _ o => E.nx env o
theorem as_expr (he : AE X w0 e te) (hs : swapsWith e none pos.line X.env = pure false := by rfl) : AS X w0 (.Expr e pos) (aDrop te) := ps_of (ps_expr he hs) fun E σ H h => by
  obtain ⟨env, w, rfl, ok, tr0, er, A, h, k, _⟩ := h
  exact ⟨env, w, rfl, ok, tr0, er, _, h, fun d w1 v h1 t1 ok1 dv => k env w1 σ h1 t1 ok1 (er.mono t1.gs)⟩
def aRet (te : ATE) : ATS := fun E env own => te env own E.rt
theorem as_ret (he : AE X w0 e te) : AS X w0 (.Return (some e) pos) (aRet te) := ps_of (ps_ret he) fun E σ H h => by
  obtain ⟨env, w, rfl, ok, tr0, er, A, h, _, k, _⟩ := h
  exact ⟨env, w, rfl, ok, tr0, er, _, h, k⟩
def aRetN : ATS := fun E env own => E.rt .non own
theorem as_retN : AS X w0 (.Return none pos) aRetN := ps_of ps_retN fun E σ H h => by
  obtain ⟨env, w, rfl, ok, tr0, er, A, h, _, k, _⟩ := h
  exact k .non w _ h (Tr.refl w) ok (by unfold Dt; rfl)
def aIfS (c : ATT) (t u : ATS) : ATS := fun E env own => c env own fun b o => match b with
  | true => t E env o
  | false => u E env o
theorem as_if {c : Expr} {a b : List Stmt} {tc : ATT} (hc : AT X w0 c tc) (ha : ASs X w0 a t) (hb : ASs X w0 b u) : AS X w0 (.If c a b pos) (aIfS tc t u) := ps_of (ps_if hc ha hb) fun E σ H h => by
  obtain ⟨env, w, rfl, ok, tr0, er, A, h, k1, k2, k3, k4⟩ := h
  refine ⟨env, w, rfl, ok, tr0, er, _, h, fun b w1 h1 t1 ok1 => ?_⟩
  have fin : ∀ t : ATS, t A env w1.own → concS X.K w0 t E σ w1.H := fun t h1 => ⟨env, w1, rfl, ok1, tr0.trans t1, er.mono t1.gs, A, h1, fun env2 w2 σ2 h2 t2 => k1 env2 w2 σ2 h2 (t1.trans t2), fun d w2 v h2 t2 => k2 d w2 v h2 (t1.trans t2), fun env2 w2 σ2 h2 t2 => k3 env2 w2 σ2 h2 (t1.trans t2), fun env2 w2 σ2 h2 t2 => k4 env2 w2 σ2 h2 (t1.trans t2)⟩
  cases b with
  | true => exact iteT (fin t h1)
  | false => exact iteF (fin u h1)
def aNever : ATS := fun _ _ _ => False
theorem as_never : AS X w0 st aNever := ps_of ps_never fun E σ H h => by
  obtain ⟨env, w, rfl, ok, tr0, er, A, h, _⟩ := h
  exact h
theorem ass_never {sts : List Stmt} : ASs X w0 sts aNever := pss_of pss_never fun E σ H h => by
  obtain ⟨env, w, rfl, ok, tr0, er, A, h, _⟩ := h
  exact h
end

/-! ### targets -/
def gN (i : Nat) : ATG := fun d env own P => P (env.set i (some d)) own
def gTp (n : Nat) (g : ATGs) : ATG := fun d env own P => match see own d with
  | .tup ds => ds.length = n ∧ g ds env own P
  | .lst ds => ds.length = n ∧ g ds env own P
  | _ => False
def gsNil : ATGs := fun ds env own P => match ds with
  | [] => P env own
  | _ => False
def gsCons (g : ATG) (r : ATGs) : ATGs := fun ds env own P => match ds with
  | d :: ds => g d env own fun env1 o1 => r ds env1 o1 P
  | [] => False
/-- a, *b, c = ..: n targets, the i-th with the star -/
def gSt (n i : Nat) (g : ATGs) : ATG := fun d env own P => match see own d with
  | .tup ds => n ≤ ds.length + 1 ∧ ds.length ≤ 16384 ∧ g (ds.take i ++ [.lst ((ds.drop i).take (ds.length + 1 - n))] ++ (ds.drop i).drop (ds.length + 1 - n)) env own P
  | .lst ds => n ≤ ds.length + 1 ∧ ds.length ≤ 16384 ∧ g (ds.take i ++ [.lst ((ds.drop i).take (ds.length + 1 - n))] ++ (ds.drop i).drop (ds.length + 1 - n)) env own P
  | _ => False
theorem Only.refl (vs : List Nat) (σ : L2.St) : Only vs σ σ := ⟨rfl, fun _ _ => rfl⟩
theorem Only.trans {vs : List Nat} {σ σ1 σ2 : L2.St} (a : Only vs σ σ1) (b : Only vs σ1 σ2) : Only vs σ σ2 := ⟨b.1.trans a.1, fun i h => (b.2 i h).trans (a.2 i h)⟩
theorem Only.set {vs : List Nat} {σ : L2.St} {i : Nat} {x : Option V} (h : i ∈ vs) : Only vs σ (σ.set i x) := ⟨by simp, fun j hj => by
  rw [List.getElem?_set_ne (fun z => hj (by rw [← z]; exact h))]⟩
section
open PyProof.Rows
variable {prog : Program} {w : World} {A : Around} {E : Value → Shared → Prop} {s : Shared}
/-- first, *mids, last = a tuple -/
theorem starT {l : Addr} {items : Array Value} {n i : Nat} {Q : List Value → Shared → Prop} (hl : IsTup s.heap l items) (hh : A.handled = none) (hi : i < n) (hn : n ≤ items.size + 1) (hz : items.size ≤ sizeLine)
    (h : ∀ (h' : Heap) tk, (∀ b o, s.heap.get? b = some o → h'.get? b = some o) → Q (items.toList.take i ++ [.ref h'.objs.size] ++ (items.toList.drop i).drop (items.size + 1 - n)) { s with heap := h'.push { cls := .type "list", data := .seq ((items.toList.drop i).take (items.size + 1 - n)).toArray }, toks := tk }) :
    wpAny (model prog w) A (unpackItems (.ref l) n (some i)) Q E s := by
  have ne : l ≠ s.heap.objs.size := by obtain ⟨o, ho, _⟩ := hl; exact Nat.ne_of_lt (Heap.lt_size ho)
  have len1 : (items.toList.take i).length = i := by rw [List.length_take, Array.length_toList]; omega
  have len2 : (items.toList.drop i).length = items.size - i := by rw [List.length_drop, Array.length_toList]
  unfold unpackItems
  refine wpAny_bind ?_
  unfold notIterableAtAll
  refine wpAny_bind (wpAny_specialOf hl.typeIs slot_tuple_iter.lookup (wpAny_pure ?_))
  rw [if_neg (by decide)]
  refine wpAny_bind (wpAny_holding (iter_tuple hl ?_))
  refine wpAny_bind (wpAny_holding (draw_tuple ne i 0 _ _ ⟨_, Heap.get?_push_size _ rfl, rfl, rfl⟩ (hl.push _) (by omega) fun h1 it1 s1 => ?_))
  have l1 : IsTup h1 l items := (hl.push _).extBut s1.extBut ne
  rw [Nat.zero_add] at it1
  rw [List.drop_zero, if_neg (by rw [len1]; omega)]
  obtain ⟨oi, hoi, _⟩ := id it1
  obtain ⟨ol, hol, _⟩ := id l1
  refine wpAny_bind (wpAny_holding (PySem.W.kun_collect (s := { s with heap := h1 }) (T := "tuple_iterator") (.inr (.inr (.inr rfl))) (PySem.Walks.tuple (A := A.in1) hh s.heap.objs.size l ne items) (fun j u st => st.1.typeIs) (k := i) (by omega) ⟨it1, l1⟩ (Heap.lt_size hoi) (Heap.lt_size hol) (fun h2 tk k2 => ?_) hz))
  show wpAny _ _ (if (items.toList.drop i).length < n - 1 - i then _ else _) _ _ _
  rw [if_neg (by rw [len2]; omega)]
  have em : (items.toList.drop i).length - (n - 1 - i) = items.size + 1 - n := by rw [len2]; omega
  show wpAny _ _ (newList ((items.toList.drop i).take ((items.toList.drop i).length - (n - 1 - i))) >>= fun d => pure (items.toList.take i ++ [d] ++ (items.toList.drop i).drop ((items.toList.drop i).length - (n - 1 - i)))) _ _ _
  rw [em]
  have kp : ∀ b o, s.heap.get? b = some o → h2.get? b = some o := fun b o e => by
    have nb : b ≠ s.heap.objs.size := Nat.ne_of_lt (Heap.lt_size e)
    exact k2 b o nb (s1.extBut b o nb (Heap.get?_push_of_some _ e))
  refine wpAny_bind (wpAny_newObj_type (wpAny_pure (h h2 tk kp)) ?_)
  show ((items.toList.drop i).take (items.size + 1 - n)).toArray.size ≤ sizeLine
  rw [List.size_toArray, List.length_take, len2]; omega
theorem starL {l : Addr} {items : Array Value} {n i : Nat} {Q : List Value → Shared → Prop} (hl : s.heap.IsList l items) (hh : A.handled = none) (hi : i < n) (hn : n ≤ items.size + 1) (hz : items.size ≤ sizeLine)
    (h : ∀ (h' : Heap) tk, (∀ b o, s.heap.get? b = some o → h'.get? b = some o) → Q (items.toList.take i ++ [.ref h'.objs.size] ++ (items.toList.drop i).drop (items.size + 1 - n)) { s with heap := h'.push { cls := .type "list", data := .seq ((items.toList.drop i).take (items.size + 1 - n)).toArray }, toks := tk }) :
    wpAny (model prog w) A (unpackItems (.ref l) n (some i)) Q E s := by
  have ne : l ≠ s.heap.objs.size := by obtain ⟨o, ho, _⟩ := hl; exact Nat.ne_of_lt (Heap.lt_size ho)
  have len1 : (items.toList.take i).length = i := by rw [List.length_take, Array.length_toList]; omega
  have len2 : (items.toList.drop i).length = items.size - i := by rw [List.length_drop, Array.length_toList]
  unfold unpackItems
  refine wpAny_bind ?_
  unfold notIterableAtAll
  refine wpAny_bind (wpAny_specialOf hl.typeIs slot_list_iter.lookup (wpAny_pure ?_))
  rw [if_neg (by decide)]
  refine wpAny_bind (wpAny_holding (wpAny_pyIter_list hl ?_))
  refine wpAny_bind (wpAny_holding (PySem.W.kun_draw ne i 0 _ _ ⟨_, Heap.get?_push_size _ rfl, rfl, rfl⟩ (hl.push _) (by omega) fun h1 it1 s1 => ?_))
  have l1 : h1.IsList l items := (hl.push _).extBut s1.extBut ne
  rw [Nat.zero_add] at it1
  rw [List.drop_zero, if_neg (by rw [len1]; omega)]
  obtain ⟨oi, hoi, _⟩ := id it1
  obtain ⟨ol, hol, _⟩ := id l1
  refine wpAny_bind (wpAny_holding (PySem.W.kun_collect (s := { s with heap := h1 }) (T := "list_iterator") (.inr (.inr (.inl rfl))) (PySem.Walks.list (A := A.in1) hh s.heap.objs.size l ne items) (fun j u st => st.1.typeIs) (k := i) (by omega) ⟨it1, l1⟩ (Heap.lt_size hoi) (Heap.lt_size hol) (fun h2 tk k2 => ?_) hz))
  show wpAny _ _ (if (items.toList.drop i).length < n - 1 - i then _ else _) _ _ _
  rw [if_neg (by rw [len2]; omega)]
  have em : (items.toList.drop i).length - (n - 1 - i) = items.size + 1 - n := by rw [len2]; omega
  show wpAny _ _ (newList ((items.toList.drop i).take ((items.toList.drop i).length - (n - 1 - i))) >>= fun d => pure (items.toList.take i ++ [d] ++ (items.toList.drop i).drop ((items.toList.drop i).length - (n - 1 - i)))) _ _ _
  rw [em]
  have kp : ∀ b o, s.heap.get? b = some o → h2.get? b = some o := fun b o e => by
    have nb : b ≠ s.heap.objs.size := Nat.ne_of_lt (Heap.lt_size e)
    exact k2 b o nb (s1.extBut b o nb (Heap.get?_push_of_some _ e))
  refine wpAny_bind (wpAny_newObj_type (wpAny_pure (h h2 tk kp)) ?_)
  show ((items.toList.drop i).take (items.size + 1 - n)).toArray.size ≤ sizeLine
  rw [List.size_toArray, List.length_take, len2]; omega
end
section
variable {X : Cx} {w0 : Wd} {pos : Pos} {vs : List Nat}
theorem pg_or {e : Expr} {t t' : TG} (h : PG X e t) (h' : PG X e t') : PG X e (fun v σ H Q => t v σ H Q ∨ t' v σ H Q) :=
  ⟨fun pins s σ H v u Q I r hw => hw.elim (h.run pins s σ H v u Q I r) (h'.run pins s σ H v u Q I r)⟩
def gStV (K : PySem.W.Frag) (n i : Nat) (t : TGs) : TG := fun v σ H Q => ∃ a xs, v = .ref a ∧ (SqT K H a xs ∨ SqL K H a xs) ∧ n ≤ xs.length + 1 ∧
  ∀ p, H p = none → t (xs.take i ++ [.ref p] ++ (xs.drop i).drop (xs.length + 1 - n)) σ (upd H p (.lst ((xs.drop i).take (xs.length + 1 - n)))) Q
theorem pg_st {es : List Expr} {k : Nat} {t : TGs} {n i : Nat} (hc : X.calm = true) (h : PGs X es t) (hi : i < n)
    (hn : (assignEach es X.env).length = n := by rfl) (hst : (assignEach es X.env).findIdx? (·.1) = some i := by rfl) : PG X (.Tuple es k pos) (gStV X.K n i t) := by
  refine ⟨fun pins s σ H v u Q I r hw => ?_⟩
  obtain ⟨a, xs, rfl, hq, hl, hw⟩ := hw
  cases r
  rw [PyProof.Rows.assign_Tuple]
  refine wpAny_bind (wpAny_standAt ?_)
  unfold unpack
  rw [hn, hst]
  have go : ∀ its : List Value, Vals xs its → xs.length ≤ sizeLine → ∀ (h' : Heap) tk, (∀ b o, s.heap.get? b = some o → h'.get? b = some o) →
      wpAny (model X.prog X.w) X.A (assignInOrder ((assignEach es X.env).map (·.2)) (its.toArray.toList.take i ++ [.ref h'.objs.size] ++ (its.toArray.toList.drop i).drop (its.toArray.size + 1 - n))) (fun _ s' => ∃ σ' H', Inv X pins σ' H' s' ∧ Q σ' H') X.xe
        { s with heap := h'.push { cls := .type "list", data := .seq ((its.toArray.toList.drop i).take (its.toArray.size + 1 - n)).toArray }, toks := tk } := fun its rv hz h' tk kp => by
    have I1 : Inv X pins σ H { s with heap := h', toks := tk } := I.kept (t' := tk) kp
    have el : its.toArray.size = xs.length := by rw [List.size_toArray, rv.length]
    have I2 := I1.lnew (its := (its.drop i).take (xs.length + 1 - n)) (ys := (xs.drop i).take (xs.length + 1 - n)) (t' := tk) ((rv.drop i).take _) (by rw [List.length_take, List.length_drop]; omega)
    have hf : H h'.objs.size = none := I1.fresh
    rw [el]
    exact h.run pins _ σ _ _ _ Q I2 (((rv.take i).append (.cons (show RelV (.ref h'.objs.size) (.ref h'.objs.size) from rfl) .nil)).append ((rv.drop i).drop _)) (hw _ hf)
  rcases hq with hq | hq
  · obtain ⟨its, rv, ht, hz⟩ := I.tuple hq
    exact wpAny_bind (wpAny_holding (starT ht (I.ok.hd hc) hi (by rw [List.size_toArray, ← rv.length]; exact hl) (by rw [List.size_toArray, ← rv.length]; exact hz) (go its rv hz)))
  · obtain ⟨its, rv, ht, hz⟩ := I.list hq
    exact wpAny_bind (wpAny_holding (starL ht.isList (I.ok.hd hc) hi (by rw [List.size_toArray, ← rv.length]; exact hl) (by rw [List.size_toArray, ← rv.length]; exact hz) (go its rv hz)))
theorem pgs_st {e : Expr} {es : List Expr} {sp : Pos} {t : TG} {u : TGs} (h1 : PG X e t) (h2 : PGs X es u) : PGs X (.Starred e sp :: es) (gCons t u) := by
  refine ⟨fun pins s σ H vs us Q I r h => ?_⟩
  obtain ⟨v, vr, rfl, h⟩ := h
  cases r with
  | cons r rr =>
    show wpAny _ _ (assignInOrder (assign e X.env :: (assignEach es X.env).map (·.2)) _) _ _ _
    refine PyProof.Rows.assignInOrder_cons (thn (h1.run pins s σ H _ _ _ I r h) fun _ s1 ⟨σ1, H1, I1, q1⟩ => ?_)
    exact h2.run pins s1 σ1 H1 _ _ Q I1 rr q1
theorem ag_n (i : Nat) {x : Str} {pos : Pos} (hN : X.N.Nodup) (hv : i ∈ vs) (hi : X.N[i]? = some x := by rfl) (hx : Loc X.env.scope x := by first | exact Or.inl rfl | exact Or.inr rfl) (hf : X.fn x = true ∨ X.env.scope.names.lookup x = some .local := by first | exact .inl rfl | exact .inr rfl | assumption) : AG X w0 vs (.Name x pos) (gN i) :=
  pg_of (pg_name hN hi hx hf) fun v σ H Q h => by
    obtain ⟨env, w, rfl, ok, tr0, er, d, P, dv, h, k⟩ := h
    exact k _ w _ h (Tr.refl w) ok (er.set i dv) (Only.set hv)
theorem ags_nil : AGs X w0 vs [] gsNil := pgs_of pgs_nil fun v σ H Q h => by
  obtain ⟨env, w, rfl, ok, tr0, er, ds, P, dv, h, k⟩ := h
  cases ds with
  | nil => unfold Dts at dv; exact ⟨dv, k _ w _ h (Tr.refl w) ok er (Only.refl _ _)⟩
  | cons _ _ => exact (h : False).elim
variable {e : Expr} {es : List Expr} {g : ATG} {gs : ATGs}
theorem gcons_of {v : List V} {σ : L2.St} {H : Hp} {Q : L2.St → Hp → Prop} (h : concGs X.K w0 vs (gsCons g gs) v σ H Q) : gCons (concG X.K w0 vs g) (concGs X.K w0 vs gs) v σ H Q := by
  obtain ⟨env, w, rfl, ok, tr0, er, ds, P, dv, h, k⟩ := h
  cases ds with
  | nil => exact (h : False).elim
  | cons d ds =>
    unfold Dts at dv
    obtain ⟨x, xr, rfl, dx, dr⟩ := dv
    refine ⟨x, xr, rfl, env, w, rfl, ok, tr0, er, d, _, dx, h, fun env1 w1 σ1 h1 t1 ok1 er1 o1 => ?_⟩
    exact ⟨env1, w1, rfl, ok1, tr0.trans t1, er1, ds, _, dr.mono t1.gs, h1, fun env2 w2 σ2 h2 t2 ok2 er2 o2 => k env2 w2 σ2 h2 (t1.trans t2) ok2 er2 (o1.trans o2)⟩
theorem ags_cons (h1 : AG X w0 vs e g) (h2 : AGs X w0 vs es gs) (hs : (assignEach (e :: es) X.env).map (·.2) = assign e X.env :: (assignEach es X.env).map (·.2) := by rfl) : AGs X w0 vs (e :: es) (gsCons g gs) := pgs_of (pgs_cons h1 h2 hs) fun _ _ _ _ h => gcons_of h
theorem ags_st {sp : Pos} (h1 : AG X w0 vs e g) (h2 : AGs X w0 vs es gs) : AGs X w0 vs (.Starred e sp :: es) (gsCons g gs) := pgs_of (pgs_st h1 h2) fun _ _ _ _ h => gcons_of h
theorem ag_tp {k : Nat} {n : Nat} (hc : X.calm = true) (h : AGs X w0 vs es gs) (hn : (assignEach es X.env).length = n := by rfl) (hst : (assignEach es X.env).findIdx? (·.1) = none := by rfl) : AG X w0 vs (.Tuple es k pos) (gTp n gs) :=
  pg_of (pg_or (pg_tup hc h hn hst) (pg_lst hc h hn hst)) fun v σ H Q h => by
    obtain ⟨env, w, rfl, ok, tr0, er, d, P, dv, h, k⟩ := h
    have sv := see_ok ok dv
    unfold gTp at h
    cases e : see w.own d with
    | tup ds =>
      rw [e] at h sv
      obtain ⟨a, us, rfl, e2, e3⟩ := sv
      exact .inl ⟨a, us, rfl, e2, by rw [e3.length]; exact h.1, env, w, rfl, ok, tr0, er, ds, P, e3, h.2, k⟩
    | lst ds =>
      rw [e] at h sv
      obtain ⟨a, us, rfl, e2, e3⟩ := sv
      exact .inr ⟨a, us, rfl, .inl e2, by rw [e3.length]; exact h.1, env, w, rfl, ok, tr0, er, ds, P, e3, h.2, k⟩
    | non => rw [e] at h; exact h.elim
    | bl _ => rw [e] at h; exact h.elim
    | int _ => rw [e] at h; exact h.elim
    | str _ => rw [e] at h; exact h.elim
    | ty _ => rw [e] at h; exact h.elim
    | kls _ => rw [e] at h; exact h.elim
    | dct _ => rw [e] at h; exact h.elim
    | ref _ => rw [e] at h; exact h.elim
theorem ag_st {k : Nat} {n i : Nat} (hc : X.calm = true) (hi : i < n) (h : AGs X w0 vs es gs) (hn : (assignEach es X.env).length = n := by rfl) (hst : (assignEach es X.env).findIdx? (·.1) = some i := by rfl) : AG X w0 vs (.Tuple es k pos) (gSt n i gs) :=
  pg_of (pg_st hc h hi hn hst) fun v σ H Q h => by
    obtain ⟨env, w, rfl, ok, tr0, er, d, P, dv, h, k⟩ := h
    have sv := see_ok ok dv
    unfold gSt at h
    have fin : ∀ (ds : List D) (us : List V), Dts X.K w.G ds us → (n ≤ ds.length + 1 ∧ ds.length ≤ 16384 ∧ gs (ds.take i ++ [.lst ((ds.drop i).take (ds.length + 1 - n))] ++ (ds.drop i).drop (ds.length + 1 - n)) env w.own P) →
        n ≤ us.length + 1 ∧ ∀ p, w.H p = none → concGs X.K w0 vs gs (us.take i ++ [.ref p] ++ (us.drop i).drop (us.length + 1 - n)) σ (upd w.H p (.lst ((us.drop i).take (us.length + 1 - n)))) Q := fun ds us dr h => by
      have el := dr.length
      refine ⟨by rw [el]; exact h.1, fun p hp => ?_⟩
      rw [el]
      obtain ⟨w1, a1, a2, t1, ok1, d1⟩ := newLst ok hp ((dr.drop i).take (ds.length + 1 - n)) (by
        have h2 := h.2.1
        rw [List.length_take, List.length_drop]
        have : (16384 : Nat) ≤ sizeLine := by decide
        omega)
      rw [← a1]
      exact ⟨env, w1, rfl, ok1, tr0.trans t1, er.mono t1.gs, _, P, (((dr.mono t1.gs).take i).append (.cons d1 .nil)).append (((dr.mono t1.gs).drop i).drop _), by rw [a2]; exact h.2.2, fun env2 w2 σ2 h2 t2 => k env2 w2 σ2 h2 (t1.trans t2)⟩
    cases e : see w.own d with
    | tup ds =>
      rw [e] at h sv
      obtain ⟨a, us, rfl, e2, e3⟩ := sv
      exact ⟨a, us, rfl, .inl e2, fin ds us e3 h⟩
    | lst ds =>
      rw [e] at h sv
      obtain ⟨a, us, rfl, e2, e3⟩ := sv
      exact ⟨a, us, rfl, .inr (.inl e2), fin ds us e3 h⟩
    | non => rw [e] at h; exact h.elim
    | bl _ => rw [e] at h; exact h.elim
    | int _ => rw [e] at h; exact h.elim
    | str _ => rw [e] at h; exact h.elim
    | ty _ => rw [e] at h; exact h.elim
    | kls _ => rw [e] at h; exact h.elim
    | dct _ => rw [e] at h; exact h.elim
    | ref _ => rw [e] at h; exact h.elim
/-! ### assignments -/
def aAsg (te : ATE) (g : ATG) : ATS := fun E env own => te env own fun d o => g d env o E.nx
variable {tg : Expr} {te : ATE}
theorem asg_of {E : Ends} {σ : L2.St} {H : Hp} (h : concS X.K w0 (aAsg te g) E σ H) : tAsg (concE X.K w0 te) (concG X.K w0 vs g) E σ H := by
  obtain ⟨env, w, rfl, ok, tr0, er, A, h, k, _⟩ := h
  refine ⟨env, w, rfl, ok, tr0, er, _, h, fun d w1 v h1 t1 ok1 dv => ?_⟩
  exact ⟨env, w1, rfl, ok1, tr0.trans t1, er.mono t1.gs, d, _, dv, h1, fun env2 w2 σ2 h2 t2 ok2 er2 _ => k env2 w2 σ2 h2 (t1.trans t2) ok2 er2⟩
theorem as_asg (he : AE X w0 e te) (hg : AG X w0 vs tg g) (hs : swapsWithSole [tg] e pos.line X.env = pure false := by rfl) (hw : swappedStores [tg] e X.env = pure none := by rfl)
    (h1 : (assignEach [tg] X.env).map (·.2) = [assign tg X.env] := by rfl) : AS X w0 (.Assign [tg] e pos) (aAsg te g) := ps_of (ps_asg he hg hs hw h1) fun _ _ _ h => asg_of h
/-- name = value -/
theorem as_set (i : Nat) {x : Str} {pos' : Pos} (hN : X.N.Nodup) (he : AE X w0 e te) (hi : X.N[i]? = some x := by rfl) (hx : Loc X.env.scope x := by first | exact Or.inl rfl | exact Or.inr rfl) (hs : swapsWith e (some (.Name x pos')) pos.line X.env = pure false := by rfl) (hf : X.fn x = true ∨ X.env.scope.names.lookup x = some .local := by first | exact .inl rfl | exact .inr rfl | assumption) :
    AS X w0 (.Assign [.Name x pos'] e pos) (aAsg te (gN i)) := ps_of (ps_set hN hi hx he hs hf) fun E σ H h => by
  obtain ⟨env, w, rfl, ok, tr0, er, A, h, k, _⟩ := h
  exact ⟨env, w, rfl, ok, tr0, er, _, h, fun d w1 v h1 t1 ok1 dv => k _ w1 _ h1 t1 ok1 ((er.mono t1.gs).set i dv)⟩
/-- a, b = x, y: two plain local names -/
def aPar (i j : Nat) (ta : ATA) : ATS := fun E env own => ta env own fun ds o => match ds with
  | [d, e] => E.nx ((env.set i (some d)).set j (some e)) o
  | _ => False
theorem as_par (i j : Nat) {x y : Str} {a b : Expr} {ta : ATA} {px py pt : Pos} {kt k2 pt2} (hc : X.calm = true) (hN : X.N.Nodup) (ha : AA X w0 [a, b] ta) (hij : i ≠ j) (hi : X.N[i]? = some x := by rfl) (hj : X.N[j]? = some y := by rfl)
    (hx : X.env.scope.names.lookup x = some .local := by rfl) (hy : X.env.scope.names.lookup y = some .local := by rfl)
    (hw : swappedStores [.Tuple [.Name x px, .Name y py] kt pt] (.Tuple [a, b] k2 pt2) X.env = pure (some [x, y]) := by rfl)
    (hs : swapsWithSole [.Tuple [.Name x px, .Name y py] kt pt] (.Tuple [a, b] k2 pt2) pos.line X.env = pure false := by rfl) :
    AS X w0 (.Assign [.Tuple [.Name x px, .Name y py] kt pt] (.Tuple [a, b] k2 pt2) pos) (aPar i j ta) := ps_of (ps_par hc hN hi hj hij hx hy ha hw hs) fun E σ H h => by
  obtain ⟨env, w, rfl, ok, tr0, er, A, h, k, _⟩ := h
  refine ⟨env, w, rfl, ok, tr0, er, _, h, fun ds w1 us h1 t1 ok1 dv => ?_⟩
  match ds, h1, dv with
  | [d, e], h1, dv =>
    unfold Dts at dv
    obtain ⟨v, vr, rfl, d1, d2⟩ := dv
    unfold Dts at d2
    obtain ⟨u, ur, rfl, d3, d4⟩ := d2
    unfold Dts at d4
    subst d4
    exact ⟨v, u, rfl, k _ w1 _ h1 t1 ok1 (((er.mono t1.gs).set i d1).set j d3)⟩
/-- name op= value -/
def aAug (f : BinF) (i : Nat) (te : ATE) : ATS := fun E env own => match eg env i with
  | some d => te env own fun e o => f o d e fun z => E.nx (env.set i (some z)) o
  | none => False
theorem as_aug (i : Nat) {x : Str} {op : Operator} {ti : TIp} {f : BinF} {pos' : Pos} (ho : PIp X op ti) (hs : OpS X.K ti f) (hN : X.N.Nodup) (he : AE X w0 e te) (hi : X.N[i]? = some x := by rfl) (hx : Loc X.env.scope x := by first | exact Or.inl rfl | exact Or.inr rfl) (hf : X.fn x = true ∨ X.env.scope.names.lookup x = some .local := by first | exact .inl rfl | exact .inr rfl | assumption) :
    AS X w0 (.AugAssign (.Name x pos') op e pos) (aAug f i te) := ps_of (ps_aug hN hi hx he ho hf) fun E σ H h => by
  obtain ⟨env, w, rfl, ok, tr0, er, A, h, k, _⟩ := h
  unfold aAug at h
  cases e1 : eg env i with
  | none => rw [e1] at h; exact h.elim
  | some d =>
    rw [e1] at h
    obtain ⟨v, a1, a2⟩ := er.2 i d e1
    refine ⟨v, a1, env, w, rfl, ok, tr0, er, _, h, fun e2 w1 u h1 t1 ok1 dv => ?_⟩
    exact hs w1 d e2 v u _ _ ok1 (a2.mono t1.gs) dv h1 fun z w2 y hz ho t2 ok2 dz => k _ w2 _ (by rw [ho]; exact hz) (t1.trans t2) ok2 (((er.mono t1.gs).mono t2.gs).set i dz)
end

/-! ### loops -/
/-- the turns of a for -/
def aTurns (g : ATG) (b : ATS) (gd : Own → Prop) (E : AEnds) : List D → AEnv → Own → Prop
  | [], env, own => gd own ∧ E.nx env own
  | d :: ds, env, own => gd own ∧ g d env own fun env1 o1 => b { nx := aTurns g b gd E ds, rt := E.rt, bk := E.nx, ct := aTurns g b gd E ds } env1 o1
def aFor (ti : ATI) (g : ATG) (b : ATS) : ATS := fun E env own => ti env own fun ds gd o => aTurns g b gd E ds env o
def aWhl (t : ATT) (b : ATS) (E : AEnds) : Nat → AEnv → Own → Prop
  | 0, _, _ => False
  | n + 1, env, own => t env own fun c o => match c with
    | true => b { nx := aWhl t b E n, rt := E.rt, bk := E.nx, ct := aWhl t b E n } env o
    | false => E.nx env o
def aWhile (t : ATT) (b : ATS) : ATS := fun E env own => ∃ n, aWhl t b E n env own
section
variable {X : Cx} {w0 : Wd} {pos : Pos} {vs : List Nat}
theorem as_for {tg iter : Expr} {body : List Stmt} {ti : ATI} {g : ATG} {tb : ATS} (hp : PassesOwn (model X.prog X.w) X.A X.env X.xe) (hc : X.calm = true) (hi : AI X w0 tg iter ti) (hg : AG X w0 vs tg g) (hb : ASs X w0 body tb)
    (hs : ∀ x, foldedSetIterable iter X.env x = pure x := by intro _; rfl) : AS X w0 (.For tg iter body [] pos) (aFor ti g tb) := ps_of (ps_for hp hc hi hg hb hs) fun E σ H h => by
  obtain ⟨env, w, rfl, ok, tr0, er, A, h, k1, k2, k3, k4⟩ := h
  refine ⟨env, w, rfl, ok, tr0, er, _, h, fun ds gd w1 J h1 t1 ok1 wk => ?_⟩
  refine ⟨fun i m σ' H' => ∃ (env' : AEnv) (w' : Wd), w'.H = H' ∧ w'.Ok X.K ∧ Tr w1 w' ∧ EnvR X.K w'.G env' σ' ∧ m + i = ds.length ∧ aTurns g tb gd A (ds.drop i) env' w'.own,
    ⟨ds.length, env, w1, rfl, ok1, Tr.refl _, er.mono t1.gs, rfl, h1⟩, fun i m σ' H' hW => ?_⟩
  obtain ⟨env', w', rfl, ok', t', er', hm, hT⟩ := hW
  cases e : ds.drop i with
  | nil =>
    rw [e] at hT
    have hi' : i = ds.length := by
      have := List.drop_eq_nil_iff.mp e
      omega
    subst hi'
    exact .inl ⟨wk.stop w' ok' t'.gs hT.1, k1 env' w' σ' hT.2 (t1.trans t') ok' er'⟩
  | cons d dr =>
    rw [e] at hT
    have hlt : i < ds.length := by
      rcases Nat.lt_or_ge i ds.length with q | q
      · exact q
      · rw [List.drop_eq_nil_of_le q] at e; cases e
    have ed : ds[i]? = some d ∧ ds.drop (i + 1) = dr := by
      rw [List.drop_eq_getElem_cons hlt] at e
      injection e with e1 e2
      exact ⟨by rw [List.getElem?_eq_getElem hlt, e1], e2⟩
    refine .inr ⟨wk.go i w' ok' t'.gs hT.1 hlt, fun σ2 H2 => ∃ (env2 : AEnv) (w2 : Wd), w2.H = H2 ∧ w2.Ok X.K ∧ Tr w1 w2 ∧ EnvR X.K w2.G env2 σ2 ∧ (m - 1) + (i + 1) = ds.length ∧ aTurns g tb gd A (ds.drop (i + 1)) env2 w2.own,
      fun σ2 H2 q => ⟨m - 1, by omega, q⟩, fun x H2 hy => ?_⟩
    obtain ⟨d', w2, a1, rfl, a3, t2, ok2, dx⟩ := wk.yld i w' x H2 ok' t'.gs hT.1 hlt hy
    rw [ed.1] at a1; cases a1
    refine ⟨env', w2, rfl, ok2, ((tr0.trans t1).trans t').trans t2, er'.mono t2.gs, d, _, dx, by rw [a3]; exact hT.2, fun env3 w3 σ3 h3 t3 ok3 er3 _ => ?_⟩
    have T3 : Tr w1 w3 := (t'.trans t2).trans t3
    have fin : ∀ env4 (w4 : Wd) σ4, aTurns g tb gd A dr env4 w4.own → Tr w3 w4 → w4.Ok X.K → EnvR X.K w4.G env4 σ4 → ∃ (env2 : AEnv) (w2 : Wd), w2.H = w4.H ∧ w2.Ok X.K ∧ Tr w1 w2 ∧ EnvR X.K w2.G env2 σ4 ∧ (m - 1) + (i + 1) = ds.length ∧ aTurns g tb gd A (ds.drop (i + 1)) env2 w2.own :=
      fun env4 w4 σ4 h4 t4 ok4 er4 => ⟨env4, w4, rfl, ok4, T3.trans t4, er4, by omega, by rw [ed.2]; exact h4⟩
    exact ⟨env3, w3, rfl, ok3, (tr0.trans t1).trans T3, er3, _, h3, fin, fun d w4 v h4 t4 => k2 d w4 v h4 ((t1.trans T3).trans t4), fun env4 w4 σ4 h4 t4 => k1 env4 w4 σ4 h4 ((t1.trans T3).trans t4), fin⟩
theorem as_while {c : Expr} {body : List Stmt} {tc : ATT} {tb : ATS} (hp : PassesOwn (model X.prog X.w) X.A X.env X.xe) (hc : AT X w0 c tc) (hb : ASs X w0 body tb) : AS X w0 (.While c body [] pos) (aWhile tc tb) := ps_of (ps_while hp hc hb) fun E σ H h => by
  obtain ⟨env, w, rfl, ok, tr0, er, A, ⟨n, h⟩, k1, k2, k3, k4⟩ := h
  refine ⟨fun m σ' H' => ∃ (env' : AEnv) (w' : Wd), w'.H = H' ∧ w'.Ok X.K ∧ Tr w w' ∧ EnvR X.K w'.G env' σ' ∧ aWhl tc tb A m env' w'.own, ⟨n, env, w, rfl, ok, Tr.refl _, er, h⟩, fun m σ' H' hW => ?_⟩
  obtain ⟨env', w', rfl, ok', t', er', hT⟩ := hW
  cases m with
  | zero => exact (hT : False).elim
  | succ m =>
    refine ⟨env', w', rfl, ok', tr0.trans t', er', _, hT, fun b w2 h2 t2 ok2 => ?_⟩
    cases b with
    | false => rw [if_neg (by decide)]; exact k1 env' w2 σ' h2 (t'.trans t2) ok2 (er'.mono t2.gs)
    | true =>
      rw [if_pos rfl]
      refine ⟨fun σ3 H3 => ∃ (env3 : AEnv) (w3 : Wd), w3.H = H3 ∧ w3.Ok X.K ∧ Tr w w3 ∧ EnvR X.K w3.G env3 σ3 ∧ aWhl tc tb A m env3 w3.own, fun σ3 H3 q => ⟨m, Nat.lt_succ_self _, q⟩, ?_⟩
      have T2 := t'.trans t2
      exact ⟨env', w2, rfl, ok2, tr0.trans T2, er'.mono t2.gs, _, h2, fun env4 w4 σ4 h4 t4 ok4 er4 => ⟨env4, w4, rfl, ok4, T2.trans t4, er4, h4⟩, fun d w4 v h4 t4 => k2 d w4 v h4 (T2.trans t4),
        fun env4 w4 σ4 h4 t4 => k1 env4 w4 σ4 h4 (T2.trans t4), fun env4 w4 σ4 h4 t4 ok4 er4 => ⟨env4, w4, rfl, ok4, T2.trans t4, er4, h4⟩⟩
end
end L3

namespace L3
open PySem PySem.Spec PyProof.Rows L2

/-! ### what is walked -/
def signs (x : Str) : List D := x.cps.toList.map fun c => .str ⟨#[c]⟩
/-- a list, a tuple, a text -/
def aIt (te : ATE) : ATI := fun env own P => te env own fun d o => match see o d with
  | .lst ds => P ds (fun o' => see o' d = .lst ds) o
  | .tup ds => P ds (fun _ => True) o
  | .str x => x.cps.size ≤ sizeLine ∧ P (signs x) (fun _ => True) o
  | _ => False
def iSeq (K : PySem.W.Frag) (tl : TE) : TI := fun σ H R => tl σ H fun x H1 => (∃ a, x = .ref a ∧ (∃ xs, SqL K H1 a xs) ∧ R (Itl K a) H1) ∨ (∃ a, x = .ref a ∧ (∃ xs, SqT K H1 a xs) ∧ R (Itt K a) H1) ∨ ∃ y, x = .str y ∧ R (Its y) H1
section
variable {X : Cx} {w0 : Wd} {tg e : Expr} {tl : TE} {te : ATE}
theorem pi_seq (hl : PE X e tl) : PI X tg e (iSeq X.K tl) := by
  refine ⟨fun pins s σ H R I h => ?_⟩
  refine thn (hl.run pins s σ H _ I h) fun v s1 ⟨x, H1, I1, r1, q1⟩ => ?_
  have one : ∀ b ∈ [s1.heap.objs.size], FpOk X pins H1 b := fun b hb => by
    rw [List.mem_singleton.mp hb]; exact I1.fpOk (Nat.le_refl _) (I1.hok.fresh (Nat.le_refl _))
  rcases q1 with ⟨a, rfl, ⟨xs, hq⟩, q⟩ | ⟨a, rfl, ⟨xs, hq⟩, q⟩ | ⟨y, rfl, q⟩
  · cases r1
    obtain ⟨its, rv, p, hz⟩ := I1.list hq
    exact wpAny_pyIter_list p.isList ⟨s1.heap.objs.size, [s1.heap.objs.size], _, _, H1, rfl, I1.kept (t' := s1.toks) fun b o e => Heap.get?_push_of_some _ e, turn_list a _, ⟨_, Heap.get?_push_size _ rfl, rfl, rfl⟩, one, q⟩
  · cases r1
    obtain ⟨its, rv, p, hz⟩ := I1.tuple hq
    exact wpAny_pyIter_tuple (show s1.heap.IsTuple a its.toArray from p) ⟨s1.heap.objs.size, [s1.heap.objs.size], _, _, H1, rfl, I1.kept (t' := s1.toks) fun b o e => Heap.get?_push_of_some _ e, turn_tuple a _, ⟨_, Heap.get?_push_size _ rfl, rfl, rfl⟩, one, q⟩
  · obtain ⟨t, rfl⟩ := r1
    cases ha : y.cps.all (· < 128)
    · exact wpAny_pyIter_wide ha (pi_one (tk := s1.toks) I1 _ (turn_str _ y t "str_iterator" (.inr rfl)) ⟨_, Heap.get?_push_size _ rfl, rfl, rfl⟩ q)
    · exact wpAny_pyIter_ascii ha (pi_one (tk := s1.toks) I1 _ (turn_str _ y t "str_ascii_iterator" (.inl rfl)) ⟨_, Heap.get?_push_size _ rfl, rfl, rfl⟩ q)
theorem walks_lst {K : PySem.W.Frag} {w : Wd} {d : D} {a : Addr} {ds : List D} (ok : w.Ok K) (h : Dt K w.G d (.ref a)) (hs : see w.own d = .lst ds) : Walks K w (Itl K a) ds (fun o' => see o' d = .lst ds) := by
  have at_ : ∀ (w' : Wd), w'.Ok K → Sub w.G w'.G → see w'.own d = .lst ds → ∃ vs, SqL K w'.H a vs ∧ Dts K w'.G ds vs := fun w' ok' sb e => by
    have sv := see_ok ok' (h.mono sb)
    rw [e] at sv
    obtain ⟨b, vs, e1, e2, e3⟩ := sv
    cases e1
    exact ⟨vs, .inl e2, e3⟩
  obtain ⟨vs, q1, q2⟩ := at_ w ok (Sub.refl _) hs
  refine ⟨by rw [← q2.length]; exact sqL_sz ok q1, fun i w' ok' sb e hi => ?_, fun w' ok' sb e => ?_, fun i w' x H' ok' sb e hi hy => ?_⟩
  · obtain ⟨us, a1, a2⟩ := at_ w' ok' sb e
    obtain ⟨x, b1, _⟩ := a2.get (List.getElem?_eq_getElem hi)
    exact ⟨us, x, a1, b1⟩
  · obtain ⟨us, a1, a2⟩ := at_ w' ok' sb e
    exact ⟨us, a1, by rw [a2.length]; exact Nat.le_refl _⟩
  · obtain ⟨us, a1, a2⟩ := at_ w' ok' sb e
    obtain ⟨rfl, hy⟩ := hy
    obtain ⟨d', b1, b2⟩ := a2.get' (hy us a1)
    exact ⟨d', w', b1, rfl, rfl, Tr.refl _, ok', b2⟩
theorem walks_tup {K : PySem.W.Frag} {w : Wd} {d : D} {a : Addr} {ds : List D} (ok : w.Ok K) (h : Dt K w.G d (.ref a)) (hs : see w.own d = .tup ds) : Walks K w (Itt K a) ds (fun _ => True) := by
  have hd : d = .tup ds := by
    cases d with
    | ref p =>
      unfold see at hs
      cases e : w.own p with
      | none => simp only [e] at hs; cases hs
      | some m => cases m <;> simp only [e] at hs <;> cases hs
    | tup xs => exact hs
    | _ => cases hs
  subst hd
  have at_ : ∀ (w' : Wd), w'.Ok K → Sub w.G w'.G → ∃ vs, SqT K w'.H a vs ∧ Dts K w'.G ds vs := fun w' ok' sb => by
    obtain ⟨b, vs, e1, e2, e3⟩ := see_ok ok' (h.mono sb)
    cases e1
    exact ⟨vs, e2, e3⟩
  obtain ⟨vs, q1, q2⟩ := at_ w ok (Sub.refl _)
  refine ⟨by rw [← q2.length]; exact sqT_sz ok q1, fun i w' ok' sb e hi => ?_, fun w' ok' sb e => ?_, fun i w' x H' ok' sb e hi hy => ?_⟩
  · obtain ⟨us, a1, a2⟩ := at_ w' ok' sb
    obtain ⟨x, b1, _⟩ := a2.get (List.getElem?_eq_getElem hi)
    exact ⟨us, x, a1, b1⟩
  · obtain ⟨us, a1, a2⟩ := at_ w' ok' sb
    exact ⟨us, a1, by rw [a2.length]; exact Nat.le_refl _⟩
  · obtain ⟨us, a1, a2⟩ := at_ w' ok' sb
    obtain ⟨rfl, hy⟩ := hy
    obtain ⟨d', b1, b2⟩ := a2.get' (hy us a1)
    exact ⟨d', w', b1, rfl, rfl, Tr.refl _, ok', b2⟩
theorem walks_str {K : PySem.W.Frag} {w : Wd} {x : Str} (hz : x.cps.size ≤ sizeLine) : Walks K w (Its x) (signs x) (fun _ => True) := by
  have hl : (signs x).length = x.cps.size := by simp [signs]
  refine ⟨by rw [hl]; exact hz, fun i w' ok' sb e hi => ?_, fun w' ok' sb e => ?_, fun i w' v H' ok' sb e hi hy => ?_⟩
  · show i < x.cps.size; omega
  · show x.cps.size ≤ (signs x).length; omega
  · obtain ⟨rfl, c, e1, rfl⟩ := hy
    refine ⟨.str ⟨#[c]⟩, w', ?_, rfl, rfl, Tr.refl _, ok', by unfold Dt; rfl⟩
    unfold signs
    rw [List.getElem?_map, Array.getElem?_toList, e1]; rfl
theorem ai_it (he : AE X w0 e te) : AI X w0 tg e (aIt te) := pi_of (pi_seq he) fun σ H R h => by
  obtain ⟨env, w, rfl, ok, tr0, er, P, h, k⟩ := h
  refine ⟨env, w, rfl, ok, tr0, er, _, h, fun d w1 v h1 t1 ok1 dv => ?_⟩
  have sv := see_ok ok1 dv
  cases e : see w1.own d with
  | lst ds =>
    rw [e] at h1 sv
    obtain ⟨a, vs, rfl, e2, e3⟩ := sv
    exact .inl ⟨a, rfl, ⟨vs, .inl e2⟩, k ds _ w1 _ h1 t1 ok1 (walks_lst ok1 dv e)⟩
  | tup ds =>
    rw [e] at h1 sv
    obtain ⟨a, vs, rfl, e2, e3⟩ := sv
    exact .inr (.inl ⟨a, rfl, ⟨vs, e2⟩, k ds _ w1 _ h1 t1 ok1 (walks_tup ok1 dv e)⟩)
  | str x =>
    rw [e] at h1 sv
    change Dt X.K w1.G (.str x) v at sv
    unfold Dt at sv; subst sv
    exact .inr (.inr ⟨x, rfl, k _ _ w1 _ h1.2 t1 ok1 (walks_str h1.1)⟩)
  | non => rw [e] at h1; exact h1.elim
  | bl _ => rw [e] at h1; exact h1.elim
  | int _ => rw [e] at h1; exact h1.elim
  | ty _ => rw [e] at h1; exact h1.elim
  | kls _ => rw [e] at h1; exact h1.elim
  | dct _ => rw [e] at h1; exact h1.elim
  | ref _ => rw [e] at h1; exact h1.elim
/-- range -/
def rng (lo : Int) (n : Nat) : List D := (List.range n).map fun (i : Nat) => D.int (lo + (i : Int))
def aRng1 (ta : ATA) : ATI := fun env own P => ta env own fun ds o => match ds with
  | [.int n] => (-(2 ^ 62) ≤ n ∧ n ≤ 16777216) ∧ P (rng 0 n.toNat) (fun _ => True) o
  | _ => False
def aRng2 (ta : ATA) : ATI := fun env own P => ta env own fun ds o => match ds with
  | [.int a, .int b] => (-(2 ^ 62) ≤ a ∧ a < 2 ^ 62 ∧ -(2 ^ 62) ≤ b ∧ b < 2 ^ 62 ∧ b - a ≤ 16777216) ∧ P (rng a (b - a).toNat) (fun _ => True) o
  | _ => False
theorem walks_rng {K : PySem.W.Frag} {w : Wd} {lo : Int} {n : Nat} (hz : n ≤ sizeLine) : Walks K w (Itr lo n) (rng lo n) (fun _ => True) := by
  have hl : (rng lo n).length = n := by simp [rng]
  refine ⟨by rw [hl]; exact hz, fun i w' ok' sb e hi => ?_, fun w' ok' sb e => ?_, fun i w' v H' ok' sb e hi hy => ?_⟩
  · show i < n; omega
  · show n ≤ (rng lo n).length; omega
  · obtain ⟨rfl, rfl⟩ := hy
    refine ⟨.int (lo + i), w', ?_, rfl, rfl, Tr.refl _, ok', by unfold Dt; rfl⟩
    unfold rng
    rw [List.getElem?_map, List.getElem?_range (by omega)]; rfl
variable {ta : ATA} {p pos : Pos}
theorem ai_rng1 {a : Expr} (hg : Gl X "range") (hm : X.mg "range" = none) (ha : AA X w0 [a] ta) (hs : starEach [a] X.env = [(false, eval a X.env)] := by rfl) : AI X w0 tg (.Call (.Name "range" p) [a] [] pos) (aRng1 ta) := pi_of (pi_range1 hg hm ha hs) fun σ H R h => by
  obtain ⟨env, w, rfl, ok, tr0, er, P, h, k⟩ := h
  refine ⟨env, w, rfl, ok, tr0, er, _, h, fun ds w1 vs h1 t1 ok1 dv => ?_⟩
  match ds, h1, dv with
  | [.int n], h1, dv =>
    unfold Dts at dv
    obtain ⟨v, vr, rfl, d1, d2⟩ := dv
    unfold Dts at d2; unfold Dt at d1
    subst d1 d2
    have hz : n.toNat ≤ sizeLine := by have := h1.1; show n.toNat ≤ 2 ^ 24; omega
    exact ⟨n, rfl, h1.1.1, by have := h1.1; omega, k _ _ w1 _ h1.2 t1 ok1 (walks_rng hz)⟩
theorem ai_rng2 {a b : Expr} (hg : Gl X "range") (hm : X.mg "range" = none) (ha : AA X w0 [a, b] ta) (hs : starEach [a, b] X.env = [(false, eval a X.env), (false, eval b X.env)] := by rfl) (hs2 : starEach [b] X.env = [(false, eval b X.env)] := by rfl) : AI X w0 tg (.Call (.Name "range" p) [a, b] [] pos) (aRng2 ta) := pi_of (pi_range2 hg hm ha hs hs2) fun σ H R h => by
  obtain ⟨env, w, rfl, ok, tr0, er, P, h, k⟩ := h
  refine ⟨env, w, rfl, ok, tr0, er, _, h, fun ds w1 vs h1 t1 ok1 dv => ?_⟩
  match ds, h1, dv with
  | [.int n, .int m], h1, dv =>
    unfold Dts at dv
    obtain ⟨v, vr, rfl, d1, d2⟩ := dv
    unfold Dts at d2
    obtain ⟨u, ur, rfl, d3, d4⟩ := d2
    unfold Dts at d4; unfold Dt at d1 d3
    subst d1 d3 d4
    have hz : (m - n).toNat ≤ sizeLine := by have := h1.1; show (m - n).toNat ≤ 2 ^ 24; omega
    exact ⟨n, m, rfl, ⟨h1.1.1, h1.1.2.1, h1.1.2.2.1, h1.1.2.2.2.1⟩, k _ _ w1 _ h1.2 t1 ok1 (walks_rng hz)⟩
end

/-! ### list comprehensions -/
def aYes : ATT := fun _ own P => P true own
def aLcL (g : ATG) (tt : ATT) (te : ATE) (gd : Own → Prop) (env : AEnv) (P : List D → Own → Prop) : List D → List D → Own → Prop
  | [], acc, own => gd own ∧ P acc own
  | d :: ds, acc, own => gd own ∧ g d env own fun env1 o1 => tt env1 o1 fun b o2 => match b with
    | true => te env1 o2 fun r o3 => aLcL g tt te gd env P ds (acc ++ [r]) o3
    | false => aLcL g tt te gd env P ds acc o2
def aLc (ti : ATI) (g : ATG) (tt : ATT) (te : ATE) (vs : List Nat) : ATN := fun env own P => ti env own fun ds gd o => aLcL g tt te gd (wipeA env vs) P ds [] o
theorem wipe_get (σ : L2.St) : ∀ (vs : List Nat) (i : Nat), (L2.wipe σ vs)[i]? = if i ∈ vs then (if i < σ.length then some none else none) else σ[i]?
  | [], i => by simp [L2.wipe]
  | v :: vs, i => by
    unfold L2.wipe
    by_cases h : v = i
    · subst h
      rw [List.getElem?_set, if_pos rfl, if_pos (List.mem_cons_self ..), L2.wipe_length]
    · rw [List.getElem?_set_ne h, wipe_get σ vs i]
      have e : (i ∈ v :: vs) ↔ i ∈ vs := by
        rw [List.mem_cons]
        exact ⟨fun q => q.elim (fun z => absurd z.symm h) id, Or.inr⟩
      simp only [e]
theorem wipe_only {vs : List Nat} {σ σ' : L2.St} (h : Only vs (L2.wipe σ vs) σ') : L2.wipe σ' vs = L2.wipe σ vs := by
  have hl : σ'.length = σ.length := h.1.trans (L2.wipe_length σ vs)
  apply List.ext_getElem?
  intro i
  rw [wipe_get, wipe_get, hl]
  by_cases hi : i ∈ vs
  · rw [if_pos hi, if_pos hi]
  · rw [if_neg hi, if_neg hi]
    have := h.2 i hi
    rw [wipe_get, if_neg hi] at this
    exact this
section
variable {X : Cx} {w0 : Wd}
abbrev ATs (X : Cx) (w0 : Wd) (ifs : List Expr) (t : ATT) : Prop := PTs X ifs (concT X.K w0 t)
theorem ats_nil : ATs X w0 [] aYes := pts_of pts_nil fun σ H Q h => by
  obtain ⟨env, w, rfl, ok, tr0, er, P, h, k⟩ := h
  exact k true w h (Tr.refl w) ok
theorem ats_one {c : Expr} {t : ATT} (h : AT X w0 c t) : ATs X w0 [c] t := pts_one h
theorem lc_of {ti : ATI} {g : ATG} {tt : ATT} {te : ATE} {vs : List Nat} {σ : L2.St} {H : Hp} {Q : VK} (h : concN X.K w0 (aLc ti g tt te vs) σ H Q) :
    tLc (concI X.K w0 ti) (concG X.K w0 vs g) (concT X.K w0 tt) (concE X.K w0 te) vs σ H Q := by
  obtain ⟨env, w, rfl, ok, tr0, er, P, h, k⟩ := h
  refine ⟨env, w, rfl, ok, tr0, er, _, h, fun ds gd w1 J h1 t1 ok1 wk Dl hD => ?_⟩
  have hD0 : w.H Dl = none := t1.fresh hD
  refine ⟨fun i m H' => ∃ (wc : Wd) (acc : List D) (us : List V), wc.H = H' ∧ wc.Ok X.K ∧ Tr w wc ∧ Sub w1.G wc.G ∧ m + i = ds.length ∧ wc.H Dl = some (.lst us) ∧ wc.G Dl = none ∧ wc.own Dl = none ∧ Dts X.K wc.G acc us ∧ us.length ≤ i ∧
      aLcL g tt te gd (wipeA env vs) P (ds.drop i) acc wc.own, ⟨ds.length, ⟨w1.own, w1.G, upd w1.H Dl (.lst [])⟩, [], [], rfl, ok1.bare (.inl hD) (Nat.zero_le _), t1.bare hD0, Sub.refl _, rfl, upd_same, ok1.noG hD, ok1.noown hD, .nil, Nat.le_refl _, h1⟩, fun i m H' hW => ?_⟩
  obtain ⟨wc, acc, us, rfl, okc, tc, sb, hm, hH, hG, hO, dacc, hul, hL⟩ := hW
  cases e : ds.drop i with
  | nil =>
    rw [e] at hL
    have hi' : i = ds.length := by
      have := List.drop_eq_nil_iff.mp e
      omega
    subst hi'
    exact .inl ⟨wk.stop wc okc sb hL.1, k acc wc Dl us hL.2 tc okc hD0 hH hG hO dacc⟩
  | cons d dr =>
    rw [e] at hL
    have hlt : i < ds.length := by
      rcases Nat.lt_or_ge i ds.length with q | q
      · exact q
      · rw [List.drop_eq_nil_of_le q] at e; cases e
    have ed : ds[i]? = some d ∧ ds.drop (i + 1) = dr := by
      rw [List.drop_eq_getElem_cons hlt] at e
      injection e with e1 e2
      exact ⟨by rw [List.getElem?_eq_getElem hlt, e1], e2⟩
    have hW' : ∀ (w5 : Wd) (acc' : List D) (us' : List V), w5.Ok X.K → Tr wc w5 → w5.H Dl = some (.lst us') → w5.G Dl = none → w5.own Dl = none → Tr w w5 → Dts X.K w5.G acc' us' → us'.length ≤ i + 1 → aLcL g tt te gd (wipeA env vs) P dr acc' w5.own →
        ∃ (wc : Wd) (acc : List D) (us : List V), wc.H = w5.H ∧ wc.Ok X.K ∧ Tr w wc ∧ Sub w1.G wc.G ∧ (m - 1) + (i + 1) = ds.length ∧ wc.H Dl = some (.lst us) ∧ wc.G Dl = none ∧ wc.own Dl = none ∧ Dts X.K wc.G acc us ∧ us.length ≤ i + 1 ∧ aLcL g tt te gd (wipeA env vs) P (ds.drop (i + 1)) acc wc.own :=
      fun w5 acc' us' o5 t5 a1 a2 a3 T5 a4 a5 a6 => ⟨w5, acc', us', rfl, o5, T5, sb.trans t5.gs, by omega, a1, a2, a3, a4, a5, by rw [ed.2]; exact a6⟩
    refine .inr ⟨wk.go i wc okc sb hL.1 hlt, fun H2 => ∃ (wc : Wd) (acc : List D) (us : List V), wc.H = H2 ∧ wc.Ok X.K ∧ Tr w wc ∧ Sub w1.G wc.G ∧ (m - 1) + (i + 1) = ds.length ∧ wc.H Dl = some (.lst us) ∧ wc.G Dl = none ∧ wc.own Dl = none ∧ Dts X.K wc.G acc us ∧ us.length ≤ i + 1 ∧
        aLcL g tt te gd (wipeA env vs) P (ds.drop (i + 1)) acc wc.own, fun H2 q => ⟨m - 1, by omega, q⟩, fun x H2 hy => ?_⟩
    obtain ⟨d', w2, a1, rfl, a3, t2, ok2, dx⟩ := wk.yld i wc x H2 okc sb hL.1 hlt hy
    rw [ed.1] at a1; cases a1
    refine ⟨wipeA env vs, w2, rfl, ok2, (tr0.trans tc).trans t2, ((er.mono (tc.trans t2).gs).wipe vs), d, _, dx, by rw [a3]; exact hL.2, fun env3 w3 σ3 h3 t3 ok3 er3 on3 => ⟨wipe_only on3, ?_⟩⟩
    refine ⟨env3, w3, rfl, ok3, ((tr0.trans tc).trans t2).trans t3, er3, _, h3, fun b w4 h4 t4 ok4 => ?_⟩
    have T4 : Tr wc w4 := (t2.trans t3).trans t4
    have nH : wc.H Dl ≠ none := by rw [hH]; simp
    cases b with
    | false => exact iteF (hW' w4 acc us ok4 T4 (T4.fr Dl _ hH hO) (T4.gd Dl hG nH hO) (T4.od Dl hO nH) (tc.trans T4) (dacc.mono T4.gs) (by omega) h4)
    | true =>
      refine iteT ⟨env3, w4, rfl, ok4, (tr0.trans tc).trans T4, er3.mono t4.gs, _, h4, fun r w5 y h5 t5 ok5 dy => ?_⟩
      have T5 : Tr wc w5 := T4.trans t5
      have b1 := T5.fr Dl _ hH hO
      have b2 := T5.gd Dl hG nH hO
      have b3 := T5.od Dl hO nH
      have hlen := wk.len
      have hz : (us ++ [y]).length ≤ sizeLine := by simp only [List.length_append, List.length_singleton]; omega
      refine ⟨us, b1, by omega, ?_⟩
      have ok6 := ok5.bare (o := .lst (us ++ [y])) (.inr ⟨b2, b3⟩) hz
      have t6 : Tr w ⟨w5.own, w5.G, upd w5.H Dl (.lst (us ++ [y]))⟩ := (tc.trans T5).bare hD0
      exact ⟨⟨w5.own, w5.G, upd w5.H Dl (.lst (us ++ [y]))⟩, acc ++ [r], us ++ [y], rfl, ok6, t6, sb.trans T5.gs, by omega, upd_same, b2, b3, (dacc.mono T5.gs).snoc dy, by simp only [List.length_append, List.length_singleton]; omega, by rw [ed.2]; exact h5⟩
variable {elt tg iter : Expr} {ifs : List Expr} {scope : Scope} {pos : Pos} {ti : ATI} {g : ATG} {tt : ATT} {te : ATE}
theorem an_lc (own : List (Str × Nat)) (hc : X.calm = true) (hN : X.N.Nodup) (hi : AI X w0 tg iter ti) (ok : BlkOk X.N X.env.scope scope own)
    (hg : ∀ (s : Shared) (H : Hp) (C : Addr) (cl : List (Str × Addr)) (fp : List Addr), AG (X.blk s H scope (compEnvC scope cl C X.env) fp) w0 (own.map (·.2)) tg g)
    (ht : ∀ (s : Shared) (H : Hp) (C : Addr) (cl : List (Str × Addr)) (fp : List Addr), ATs (X.blk s H scope (compEnvC scope cl C X.env) fp) w0 ifs tt)
    (he : ∀ (s : Shared) (H : Hp) (C : Addr) (cl : List (Str × Addr)) (fp : List Addr), AE (X.blk s H scope (compEnvC scope cl C X.env) fp) w0 elt te) (hs : ∀ x, foldedSetIterable iter X.env x = pure x := by intro _; rfl) :
    AN X w0 (.ListComp elt [⟨tg, iter, ifs, 0⟩] scope pos) (aLc ti g tt te (own.map (·.2))) := pe_of (pe_lc hc hN hi ok hg ht he hs) fun _ _ _ h => lc_of h
/-- name = [..] -/
theorem as_lc (i : Nat) {y : Str} {py spos : Pos} (own : List (Str × Nat)) (hc : X.calm = true) (hN : X.N.Nodup) (hi : AI X w0 tg iter ti) (ok : BlkOk X.N X.env.scope scope own)
    (hg : ∀ (s : Shared) (H : Hp) (C : Addr) (cl : List (Str × Addr)) (fp : List Addr), AG (X.blk s H scope (compEnvC scope cl C X.env) fp) w0 (own.map (·.2)) tg g)
    (ht : ∀ (s : Shared) (H : Hp) (C : Addr) (cl : List (Str × Addr)) (fp : List Addr), ATs (X.blk s H scope (compEnvC scope cl C X.env) fp) w0 ifs tt)
    (he : ∀ (s : Shared) (H : Hp) (C : Addr) (cl : List (Str × Addr)) (fp : List Addr), AE (X.blk s H scope (compEnvC scope cl C X.env) fp) w0 elt te) (hy : X.N[i]? = some y := by rfl) (hyl : X.env.scope.names.lookup y = some .local := by rfl)
    (hsw : swapsWith (.ListComp elt [⟨tg, iter, ifs, 0⟩] scope pos) (some (.Name y py)) spos.line X.env = pure true := by exact sw_true rfl rfl rfl (by decide +kernel)) (hs : ∀ x, foldedSetIterable iter X.env x = pure x := by intro _; rfl) :
    AS X w0 (.Assign [.Name y py] (.ListComp elt [⟨tg, iter, ifs, 0⟩] scope pos) spos) (aAsg (aFz (aLc ti g tt te (own.map (·.2)))) (gN i)) := ps_of (ps_setLc hc hN hy hyl hsw hi ok hg ht he hs) fun E σ H h => by
  obtain ⟨env, w, rfl, ok, tr0, er, A, h, k, _⟩ := h
  refine lc_of ⟨env, w, rfl, ok, tr0, er, _, h, fun ds w1 p vs h1 t1 ok1 e0 e1 e2 e3 dv => ?_⟩
  obtain ⟨w2, a1, a2, t2, ok2, d2⟩ := frzN t1 ok1 e0 e1 e2 e3 dv
  rw [← a1]
  exact k _ w2 _ (by rw [a2]; exact h1) t2 ok2 ((er.mono t2.gs).set i d2)
/-- .. a list of one's own -/
theorem as_lcO (i : Nat) {y : Str} {py spos : Pos} (own : List (Str × Nat)) (hc : X.calm = true) (hN : X.N.Nodup) (hi : AI X w0 tg iter ti) (ok : BlkOk X.N X.env.scope scope own)
    (hg : ∀ (s : Shared) (H : Hp) (C : Addr) (cl : List (Str × Addr)) (fp : List Addr), AG (X.blk s H scope (compEnvC scope cl C X.env) fp) w0 (own.map (·.2)) tg g)
    (ht : ∀ (s : Shared) (H : Hp) (C : Addr) (cl : List (Str × Addr)) (fp : List Addr), ATs (X.blk s H scope (compEnvC scope cl C X.env) fp) w0 ifs tt)
    (he : ∀ (s : Shared) (H : Hp) (C : Addr) (cl : List (Str × Addr)) (fp : List Addr), AE (X.blk s H scope (compEnvC scope cl C X.env) fp) w0 elt te) (hy : X.N[i]? = some y := by rfl) (hyl : X.env.scope.names.lookup y = some .local := by rfl)
    (hsw : swapsWith (.ListComp elt [⟨tg, iter, ifs, 0⟩] scope pos) (some (.Name y py)) spos.line X.env = pure true := by exact sw_true rfl rfl rfl (by decide +kernel)) (hs : ∀ x, foldedSetIterable iter X.env x = pure x := by intro _; rfl) :
    AS X w0 (.Assign [.Name y py] (.ListComp elt [⟨tg, iter, ifs, 0⟩] scope pos) spos) (aAsg (aOw (aLc ti g tt te (own.map (·.2)))) (gN i)) := ps_of (ps_setLc hc hN hy hyl hsw hi ok hg ht he hs) fun E σ H h => by
  obtain ⟨env, w, rfl, ok, tr0, er, A, h, k, _⟩ := h
  refine lc_of ⟨env, w, rfl, ok, tr0, er, _, h, fun ds w1 p vs h1 t1 ok1 e0 e1 e2 e3 dv => ?_⟩
  obtain ⟨w2, a1, a2, t2, ok2, d2⟩ := ownN t1 ok1 e0 e1 e2 e3 dv
  rw [← a1]
  exact k _ w2 _ (by rw [a2]; exact h1 p e3) t2 ok2 ((er.mono t2.gs).set i (d := .ref p) (by unfold Dt; rfl))
end

/-! ### defs and their calls -/
/-- a def of the text as it stands behind the top, whatever its defaults -/
structure FunX (K : PySem.W.Frag) (x qual : Str) (st : Stmt) (f : Addr) (fd : FuncData) : Prop where
  ex : ∃ (oc : Value) (od : Option Addr) (dV kV doc pm : Value) (an : Option Addr) (cdv ct : Value) (osl : Array (Option Value)),
    fd = PySem.W.fnOf x qual (defArgs st) (defBody st) (defScope st) dV kV doc pm an cdv ct ∧ K.lookup f = some ⟨oc, od, .func fd, osl⟩ ∧ PySem.W.codeIn K cdv qual = true
/-- as FnOk, where no repr is under way -/
structure FnG (P : Program) (w : World) (K : PySem.W.Frag) (mg : Str → Option Value) (base : Heap) (CX : CXT) (k : Nat) (f : Addr) (fd : FuncData) (ps : List Str) (sp : Sp) : Prop where
  len : ∀ vs H Q E, sp vs H Q E → vs.length = ps.length
  run : ∀ (A : Around) (outer : List PySem.Env) (s : Shared) (H : Hp) (args : Args) (us : List Value) (vs : List V) (Q : VK) (E : XK), Room k A → A.guards = some [] → Env0 P w K mg base A outer s H → BindsTo s fd args (ps.zip us) → Vals vs us →
    sp vs H Q E → codeAny (model P w) A (.call (.ref f) args) (CR CX outer P w H s Q E) s
section
variable {P : Program} {w : World} {K : PySem.W.Frag} {mg : Str → Option Value} {base : Heap} {CX : CXT} {k j : Nat} {f : Addr} {fd : FuncData} {ps : List Str} {sp sp' : Sp}
theorem FnG.mono (F : FnG P w K mg base CX j f fd ps sp) (h : j ≤ k) : FnG P w K mg base CX k f fd ps sp :=
  ⟨F.len, fun A outer s H args us vs Q E hr hg => F.run A outer s H args us vs Q E (hr.mono h) hg⟩
theorem FnG.imp (F : FnG P w K mg base CX k f fd ps sp) (h : ∀ vs H Q E, sp' vs H Q E → sp vs H Q E) : FnG P w K mg base CX k f fd ps sp' :=
  ⟨fun vs H Q E q => F.len vs H Q E (h vs H Q E q), fun A outer s H args us vs Q E hr hg e b r q => F.run A outer s H args us vs Q E hr hg e b r (h vs H Q E q)⟩
/-- a def of the text by its body -/
theorem fnG_of {x qual : Str} {st : Stmt} {N : List Str} (F : FunX K x qual st f fd) (S : FnScope N ps (defScope st)) (len : ∀ vs H Q E, sp vs H Q E → vs.length = ps.length)
    (hbody : ∀ (cdv : Value) (A : Around) (outer : List PySem.Env) (s : Shared) (H : Hp) (vs : List V) (Q : VK) (E : XK), Room k (A.deeper (envOfC qual (defScope st) s.heap.objs.size f cdv)) → A.guards = some [] → sp vs H Q E →
      ∃ t, PSs (cxOf CX P w K mg base N qual (defScope st) f cdv A outer s H E) (defBody st) t ∧ t { nx := fun _ H' => Q .non H', rt := Q } (L2.start N vs) H) : FnG P w K mg base CX (k + 1) f fd ps sp := by
  obtain ⟨oc, od, dV, kV, doc, pm, an, cdv, ct, osl, rfl, lk, hcd⟩ := F.ex
  refine ⟨len, fun A outer s H args us vs Q E hr hg e0 hb r hsp => ?_⟩
  have KX : K.In s.heap := e0.mod.kin.keeps fun b o e => (e0.bs b o e).1
  have cells : ∀ y ∈ ps.zip us, (defScope st).names.lookup y.1 = some .local ∨ ((defScope st).names.lookup y.1 = some .cell ∧ ((cellsFrom (s.heap.objs.size + 1) (defScope st).names []).lookup y.1).isSome = true) := fun y hy =>
    (S.par y.1 (List.of_mem_zip hy).1).imp id fun q => ⟨q, PySem.W.cellsFrom_some _ _ _ (.inl q)⟩
  refine codeAny_call_function hr.depth (KX _ _ lk) rfl S.co S.gen rfl (PySem.W.codeRec_of KX hcd) (hb _ _ _ _ (wpAny_newFunctionEnv_cells S.kind cells fun env he s1 x => ?_))
  subst he
  refine ⟨(e0.mod.nolimit.keeps fun b o e => (e0.bs b o e).1).keeps x.toInCall.keep, codeAny_func ?_⟩
  obtain ⟨t, ht, hq⟩ := hbody cdv A outer s H vs Q E (hr.deeper _) hg hsp
  refine wpAny_mono (ht.run [] s1 (L2.start N vs) H _ (inv_start S hr.hd e0 (len _ _ _ _ hsp) r x) hq) (fun fl s' hs => ?_) fun e s' hs => hs
  cases fl with
  | ret u => exact let ⟨v, _, H', J, rv, q⟩ := hs; ⟨v, H', J.os, J.bare, J.base, J.hok, rv, q⟩
  | next => exact let ⟨_, H', J, q⟩ := hs; ⟨.non, H', J.os, J.bare, J.base, J.hok, rfl, q⟩
  | brk => exact let ⟨_, _, _, q⟩ := hs; q.elim
  | cont => exact let ⟨_, _, _, q⟩ := hs; q.elim
end
section
variable {X : Cx} {CX : CXT} {k : Nat} {f : Addr} {fd : FuncData} {ps : List Str} {sp : Sp} {dvs : List V} {ds : List Value} {E : XK} {x : Str} {p pos : Pos} {e : Expr} {es : List Expr} {t : TA}
theorem run_fnG {pins : List (Addr × Obj)} {σ : L2.St} {H : Hp} {s : Shared} {Q : VK} {us : List Value} {vs : List V} (F : FnG X.prog X.w X.K X.mg X.base CX k f fd ps sp) (hr : Room k X.A) (hgd : X.A.guards = some []) (hb : Binds X.K fd ps ds) (hd : Vals dvs ds) (hx : Passes CX X E)
    (I : Inv X pins σ H s) (r : Vals vs us) (h : sp (vs ++ dvs) H Q E) : wpAny (model X.prog X.w) X.A (call (.ref f) us) (EP X pins σ Q) X.xe s := by
  have r2 := r.append hd
  refine wpAny_call (codeAny_mono (F.run X.A X.stack s H ⟨us, []⟩ (us ++ ds) (vs ++ dvs) Q E hr hgd I.env0 (hb s us I.kIn (by rw [← r2.length]; exact F.len _ _ _ _ h)) r2 h) fun r s' hq => ?_)
  match r, hq with
  | .error e, hq => exact hx pins σ H s e s' I hq
  | .ok (.ret u), hq => exact I.after hq
theorem pe_callG (F : FnG X.prog X.w X.K X.mg X.base CX k f fd ps sp) (hr : Room k X.A) (hgd : X.A.guards = some []) (hg : Gl X x) (hm : X.mg x = some (.ref f)) (hk : PySem.W.keepIn X.K (.ref f) = true) (hb : Binds X.K fd ps ds) (hd : Vals dvs ds) (hx : Passes CX X E)
    (ha : PA X (e :: es) t) (hdb : (x == ("__debug__" : Str)) = false) (he : starEach (e :: es) X.env = (false, eval e X.env) :: starEach es X.env) (hpl : (backTo pos (starEach es X.env)).any (·.1) = false) :
    PE X (.Call (.Name x p) (e :: es) [] pos) (tCall sp dvs E t) :=
  ⟨fun pins s σ H Q I h => wpAny_Call_Name_kw (ld_glob I hg hm (PySem.W.callWith_K (h₀ := X.base) I.ok.mod.kin hk (thn (ha.run pos pins s σ H _ I h) fun us s1 ⟨vs, H1, I1, r, q⟩ => ⟨I1.kIn, run_fnG F hr hgd hb hd hx I1 r q⟩) he hpl) hdb)⟩
end
abbrev Spec := List D → Own → (D → Own → Prop) → Prop
def spOf (K : PySem.W.Frag) (S : Spec) : Sp := fun vs H Q _ => ∃ (ds : List D) (w : Wd) (P : D → Own → Prop), w.H = H ∧ w.Ok K ∧ Dts K w.G ds vs ∧ S ds w.own P ∧ ∀ d w' v, P d w'.own → Tr w w' → w'.Ok K → Dt K w'.G d v → Q v w'.H
/-- the def of this name keeps its promise -/
structure Kn (P : Program) (w : World) (K : PySem.W.Frag) (mg : Str → Option Value) (base : Heap) (k : Nat) (x : Str) (ps : List Str) (dvs : List D) (S : Spec) : Prop where
  ex : ∃ (f : Addr) (fd : FuncData) (ds : List Value) (vs : List V), mg x = some (.ref f) ∧ PySem.W.keepIn K (.ref f) = true ∧ Binds K fd ps ds ∧ Vals vs ds ∧ (∀ G, Dts K G dvs vs) ∧ FnG P w K mg base CX0 k f fd ps (spOf K S)
theorem Kn.mono {P : Program} {w : World} {K : PySem.W.Frag} {mg : Str → Option Value} {base : Heap} {k j : Nat} {x : Str} {ps : List Str} {dvs : List D} {S : Spec} (F : Kn P w K mg base j x ps dvs S) (h : j ≤ k) : Kn P w K mg base k x ps dvs S :=
  let ⟨f, fd, ds, vs, a, b, c, d, e, g⟩ := F.ex
  ⟨f, fd, ds, vs, a, b, c, d, e, g.mono h⟩
def aCall (S : Spec) (dvs : List D) (ta : ATA) : ATE := fun env own P => ta env own fun ds o => S (ds ++ dvs) o P
section
variable {X : Cx} {w0 : Wd} {k : Nat} {x : Str} {ps : List Str} {dvs : List D} {S : Spec} {e : Expr} {es : List Expr} {ta : ATA} {p pos : Pos}
theorem call_of {vs : List V} {σ : L2.St} {H : Hp} {Q : VK} (hv : ∀ G, Dts X.K G dvs vs) (h : concE X.K w0 (aCall S dvs ta) σ H Q) : tCall (spOf X.K S) vs E0 (concA X.K w0 ta) σ H Q := by
  obtain ⟨env, w, rfl, ok, tr0, er, P, h, k⟩ := h
  exact ⟨env, w, rfl, ok, tr0, er, _, h, fun ds w1 us h1 t1 ok1 dv => ⟨ds ++ dvs, w1, P, rfl, ok1, dv.append (hv w1.G), h1, fun d w2 v h2 t2 ok2 d2 => k d w2 v h2 (t1.trans t2) ok2 d2⟩⟩
theorem ae_call (F : Kn X.prog X.w X.K X.mg X.base k x ps dvs S) (hr : Room k X.A) (hgd : X.A.guards = some []) (hg : Gl X x) (ha : AA X w0 (e :: es) ta) (hdb : (x == ("__debug__" : Str)) = false := by decide) (he : starEach (e :: es) X.env = (false, eval e X.env) :: starEach es X.env := by rfl) (hpl : (backTo pos (starEach es X.env)).any (·.1) = false := by rfl) :
    AE X w0 (.Call (.Name x p) (e :: es) [] pos) (aCall S dvs ta) := by
  obtain ⟨f, fd, ds, vs, hm, hk, hb, hd, hv, G⟩ := F.ex
  exact pe_of (pe_callG G hr hgd hg hm hk hb hd pass0 ha hdb he hpl) fun _ _ _ h => call_of hv h
end
/-- things put away: own' is what is left of one's own; d' is d as it then stands -/
def Vw (own own' : Own) (d d' : D) : Prop := d = d' ∨ ∃ p, d = .ref p ∧ own' p = none ∧ ((∃ ds, own p = some (.lst ds) ∧ d' = .lst ds) ∨ ∃ kvs, own p = some (.dct kvs) ∧ d' = .dct kvs)
def Cv (own : Own) (d d' : D) (own' : Own) : Prop := (∀ p m, own' p = some m → own p = some m) ∧ Vw own own' d d'
theorem Cv.ok {K : PySem.W.Frag} {w : Wd} (ok : w.Ok K) {d d' : D} {own' : Own} {v : V} (c : Cv w.own d d' own') (h : Dt K w.G d v) :
    ∃ w', w'.H = w.H ∧ w'.own = own' ∧ w'.Ok K ∧ Dt K w'.G d' v ∧ ∀ w0, Tr w0 w → Tr w0 w' := by
  obtain ⟨G', s1, s2, s3, s4⟩ := ok.still c.1
  refine ⟨⟨own', G', w.H⟩, rfl, rfl, s3, ?_, s4⟩
  rcases c.2 with rfl | ⟨p, rfl, n, ⟨ds, e1, rfl⟩ | ⟨kvs, e1, rfl⟩⟩
  · exact h.mono s1
  · obtain ⟨_, o, e2, e3⟩ := ok.own p _ e1
    have hg := s2 p (by rw [e1]; simp) n
    unfold Dt at h; subst h
    cases o <;> first | exact (e3 : False).elim | skip
    exact .lstI (hg.trans e2) (Dts.mono s1 e3)
  · obtain ⟨_, o, e2, e3⟩ := ok.own p _ e1
    have hg := s2 p (by rw [e1]; simp) n
    unfold Dt at h; subst h
    cases o <;> first | exact (e3 : False).elim | skip
    · unfold Dt; exact ⟨p, rfl, .inl ⟨_, hg.trans e2, DkK.mono s1 e3⟩⟩
    · unfold Dt; exact ⟨p, rfl, .inr ⟨_, hg.trans e2, DkT.mono s1 e3⟩⟩
/-- handed back -/
def Rt (P : D → Own → Prop) : D → Own → Prop := fun d o => ∃ d' o', Cv o d d' o' ∧ P d' o'
theorem Rt.mk {P : D → Own → Prop} {d : D} {o : Own} (h : P d o) : Rt P d o := ⟨d, o, ⟨fun _ _ h => h, .inl rfl⟩, h⟩
theorem Rt.drop {P : D → Own → Prop} {d : D} {o o' : Own} (hs : ∀ p m, o' p = some m → o p = some m) (h : P d o') : Rt P d o := ⟨d, o', ⟨hs, .inl rfl⟩, h⟩
theorem Rt.lst {P : D → Own → Prop} {p : Addr} {ds : List D} {o o' : Own} (e : o p = some (.lst ds)) (n : o' p = none) (hs : ∀ p m, o' p = some m → o p = some m) (h : P (.lst ds) o') : Rt P (.ref p) o := ⟨_, o', ⟨hs, .inr ⟨p, rfl, n, .inl ⟨ds, e, rfl⟩⟩⟩, h⟩
theorem Rt.dct {P : D → Own → Prop} {p : Addr} {kvs : List (D × D)} {o o' : Own} (e : o p = some (.dct kvs)) (n : o' p = none) (hs : ∀ p m, o' p = some m → o p = some m) (h : P (.dct kvs) o') : Rt P (.ref p) o := ⟨_, o', ⟨hs, .inr ⟨p, rfl, n, .inr ⟨kvs, e, rfl⟩⟩⟩, h⟩
def astart (N : List Str) (ds : List D) : AEnv := ds.map some ++ List.replicate (N.length - ds.length) none
theorem eg_lt {env : AEnv} {i : Nat} {d : D} (h : eg env i = some d) : i < env.length := (List.getElem?_eq_some_iff.mp (eg_eq h)).1
theorem envR_start {K : PySem.W.Frag} {G : Hp} {N : List Str} {ds : List D} {vs : List V} (h : Dts K G ds vs) : EnvR K G (astart N ds) (L2.start N vs) := by
  have hl := h.length
  refine ⟨by simp [astart, L2.start, hl], fun i d e => ?_⟩
  have e' := eg_eq e
  unfold astart at e'
  rcases Nat.lt_or_ge i ds.length with hi | hi
  · rw [List.getElem?_append_left (by simpa using hi), List.getElem?_map] at e'
    cases e1 : ds[i]? with
    | none => rw [e1] at e'; simp at e'
    | some d' =>
      rw [e1] at e'; simp at e'; subst e'
      obtain ⟨v, a1, a2⟩ := h.get e1
      refine ⟨v, ?_, a2⟩
      unfold L2.start
      rw [List.getElem?_append_left (by simp; omega), List.getElem?_map, a1]; rfl
  · rw [List.getElem?_append_right (by simpa using hi)] at e'
    have := List.mem_of_getElem? e'
    rw [List.mem_replicate] at this
    cases this.2
section
variable {P : Program} {w : World} {K : PySem.W.Frag} {mg : Str → Option Value} {base : Heap}
/-- THE RULE for a def: its body's reading over data -/
theorem def_ok {x qual : Str} {st : Stmt} {f : Addr} {fd : FuncData} {N ps : List Str} {k : Nat} {S : Spec} (F : FunX K x qual st f fd) (sc : FnScope N ps (defScope st)) (len : ∀ ds o Q, S ds o Q → ds.length = ps.length)
    (hbody : ∀ (cdv : Value) (A : Around) (outer : List PySem.Env) (s : Shared) (H : Hp) (E : XK) (w0 : Wd) (ds : List D) (Q : D → Own → Prop), Room k (A.deeper (envOfC qual (defScope st) s.heap.objs.size f cdv)) → A.guards = some [] → S ds w0.own Q →
      ∃ t, ASs (cxOf CX0 P w K mg base N qual (defScope st) f cdv A outer s H E).nox w0 (defBody st) t ∧ t { nx := fun _ o => Rt Q .non o, rt := Rt Q } (astart N ds) w0.own) : FnG P w K mg base CX0 (k + 1) f fd ps (spOf K S) := by
  refine fnG_of F sc (fun vs H Q E h => ?_) fun cdv A outer s H vs Q E hr hg h => ?_
  · obtain ⟨ds, w, P, _, _, dv, hS, _⟩ := h
    rw [dv.length]; exact len ds _ _ hS
  · obtain ⟨ds, w0, P', rfl, ok, dv, hS, kk⟩ := h
    obtain ⟨t, ht, hq⟩ := hbody cdv A outer s w0.H E w0 ds P' hr hg hS
    refine ⟨_, ht.nox, astart N ds, w0, rfl, ok, Tr.refl _, envR_start dv, _, hq, fun env' w' σ' h1 t1 ok1 _ => ?_, fun d w' v h1 t1 ok1 dv1 => ?_, fun _ _ _ h => h.elim, fun _ _ _ h => h.elim⟩
    · obtain ⟨d', o', c, hp⟩ := h1
      obtain ⟨w2, a1, a2, a3, a4, a5⟩ := Cv.ok (v := .non) ok1 c (by unfold Dt; rfl)
      show Q .non w'.H
      rw [← a1]
      exact kk d' w2 .non (by rw [a2]; exact hp) (a5 _ t1) a3 a4
    · obtain ⟨d', o', c, hp⟩ := h1
      obtain ⟨w2, a1, a2, a3, a4, a5⟩ := Cv.ok ok1 c dv1
      show Q v w'.H
      rw [← a1]
      exact kk d' w2 v (by rw [a2]; exact hp) (a5 _ t1) a3 a4
end
end L3

namespace L3
open PySem PySem.Spec PyProof.Rows L2

section
variable {K : PySem.W.Frag} {w : Wd} {v : V}
theorem dt_int {G : Hp} {i : Int} : Dt K G (.int i) v ↔ v = .int i := by unfold Dt; rfl
theorem dt_str {G : Hp} {x : Str} : Dt K G (.str x) v ↔ v = .str x := by unfold Dt; rfl
theorem dt_bl {G : Hp} {b : Bool} : Dt K G (.bl b) v ↔ v = .bl b := by unfold Dt; rfl
theorem dt_non {G : Hp} : Dt K G .non v ↔ v = .non := by unfold Dt; rfl
theorem dt_ty {G : Hp} {n : String} : Dt K G (.ty n) v ↔ v = .ty n := by unfold Dt; rfl
theorem dt_ref {G : Hp} {a : Addr} : Dt K G (.ref a) v ↔ v = .ref a := by unfold Dt; rfl
theorem dv_int {i : Int} : DtV K w (.int i) v ↔ v = .int i := dt_int (K := K) (G := w.G)
theorem dv_str {x : Str} : DtV K w (.str x) v ↔ v = .str x := dt_str (K := K) (G := w.G)
theorem dv_bl {b : Bool} : DtV K w (.bl b) v ↔ v = .bl b := dt_bl (K := K) (G := w.G)
theorem dv_non : DtV K w .non v ↔ v = .non := dt_non (K := K) (G := w.G)
theorem dv_ty {n : String} : DtV K w (.ty n) v ↔ v = .ty n := dt_ty (K := K) (G := w.G)
theorem dv_ref {a : Addr} : DtV K w (.ref a) v ↔ v = .ref a := dt_ref (K := K) (G := w.G)
theorem see_id {own : Own} {d : D} (h : ∀ p, d ≠ .ref p) : see own d = d := by
  cases d <;> first | rfl | exact absurd rfl (h _)
theorem see_int {own : Own} {d : D} {i : Int} (h : see own d = .int i) : d = .int i := by
  cases d with
  | ref p => unfold see at h; cases e : own p with
    | none => simp only [e] at h; cases h
    | some m => cases m <;> simp only [e] at h <;> cases h
  | _ => exact h
theorem see_str {own : Own} {d : D} {i : Str} (h : see own d = .str i) : d = .str i := by
  cases d with
  | ref p => unfold see at h; cases e : own p with
    | none => simp only [e] at h; cases h
    | some m => cases m <;> simp only [e] at h <;> cases h
  | _ => exact h
theorem see_bl {own : Own} {d : D} {i : Bool} (h : see own d = .bl i) : d = .bl i := by
  cases d with
  | ref p => unfold see at h; cases e : own p with
    | none => simp only [e] at h; cases h
    | some m => cases m <;> simp only [e] at h <;> cases h
  | _ => exact h
theorem see_tup {own : Own} {d : D} {ds : List D} (h : see own d = .tup ds) : d = .tup ds := by
  cases d with
  | ref p => unfold see at h; cases e : own p with
    | none => simp only [e] at h; cases h
    | some m => cases m <;> simp only [e] at h <;> cases h
  | _ => exact h
end
/-- a value, and nothing is made -/
theorem ops_val {K : PySem.W.Frag} {w : Wd} (ok : w.Ok K) {P : D → Prop} {Q : VK} (k : ∀ z w' v, P z → w'.own = w.own → Tr w w' → w'.Ok K → Dt K w'.G z v → Q v w'.H) {z : D} {v : V} (h : P z) (d : Dt K w.G z v) : Q v w.H := k z w v h rfl (Tr.refl w) ok d
/-- .. a new tuple, a new list -/
theorem ops_tup {K : PySem.W.Frag} {w : Wd} (ok : w.Ok K) {P : D → Prop} {Q : VK} (k : ∀ z w' v, P z → w'.own = w.own → Tr w w' → w'.Ok K → Dt K w'.G z v → Q v w'.H) {ds : List D} {vs : List V} (h : P (.tup ds)) (r : Dts K w.G ds vs) (hz : ds.length ≤ sizeLine) : ∀ p, w.H p = none → Q (.ref p) (upd w.H p (.tup vs)) := fun p hp => by
  obtain ⟨w1, e1, e2, t1, ok1, d1⟩ := newTup ok hp r hz
  rw [← e1]
  exact k _ w1 _ h e2 t1 ok1 d1
theorem ops_lst {K : PySem.W.Frag} {w : Wd} (ok : w.Ok K) {P : D → Prop} {Q : VK} (k : ∀ z w' v, P z → w'.own = w.own → Tr w w' → w'.Ok K → Dt K w'.G z v → Q v w'.H) {ds : List D} {vs : List V} (h : P (.lst ds)) (r : Dts K w.G ds vs) (hz : ds.length ≤ sizeLine) : ∀ p, w.H p = none → Q (.ref p) (upd w.H p (.lst vs)) := fun p hp => by
  obtain ⟨w1, e1, e2, t1, ok1, d1⟩ := newLst ok hp r hz
  rw [← e1]
  exact k _ w1 _ h e2 t1 ok1 d1

/-! ### + -/
def fAdd0 : D → D → (D → Prop) → Prop
  | .int i, .int j, P => P (.int (i + j))
  | .str x, .str y, P => x.length + y.length ≤ sizeLine ∧ P (.str (x ++ y))
  | .tup xs, .tup ys, P => xs.length + ys.length ≤ sizeLine ∧ P (.tup (xs ++ ys))
  | .lst xs, .lst ys, P => xs.length + ys.length ≤ sizeLine ∧ P (.lst (xs ++ ys))
  | _, _, _ => False
def fAdd : BinF := fun own d e P => fAdd0 (see own d) (see own e) P
def rCatR : R2 := fun x y H Q => ∃ l b xs zs, x = .ref l ∧ y = .ref b ∧ Rd H l (.lst xs) ∧ Rd H b (.lst zs) ∧ xs.length + zs.length ≤ sizeLine ∧ ∀ p, H p = none → Q (.ref p) (upd H p (.lst (xs ++ zs)))
theorem op_catR {X : Cx} : OpR X (binaryOp .Add) rCatR := by
  intro pins s σ H x y v u Q I rx ry h
  obtain ⟨l, b, xs, zs, rfl, rfl, hH, hB, hz, q⟩ := h
  cases rx
  cases ry
  obtain ⟨z, its, n, r, e⟩ := hH.ok I.hok
  obtain ⟨z2, its2, n2, r2, e2⟩ := hB.ok I.hok
  have l1 := r.length
  have l2 := r2.length
  refine PySem.P.add_list e e2 ?_ (by rw [List.size_toArray, List.size_toArray]; omega)
  rw [show its.toArray ++ its2.toArray = (its ++ its2).toArray by simp]
  exact ⟨.ref _, _, I.lnew (t' := s.toks) (r.append r2) (by rw [List.length_append]; omega), rfl, q _ I.fresh⟩
def rAddD (K : PySem.W.Frag) : R2 := fun x y H Q => ((rI0 (fun i j => .int (i + j)) x y H Q ∨ ∃ i j, x = .str i ∧ y = .str j ∧ i.length + j.length ≤ sizeLine ∧ Q (.str (i ++ j)) H) ∨ rCatA K x y H Q) ∨ rCatR x y H Q
theorem op_addD {X : Cx} : OpR X (binaryOp .Add) (rAddD X.K) := ((op_add.or op_add_str).or op_catA).or op_catR
theorem dts_nil_iff {K : PySem.W.Frag} {G : Hp} {ds : List D} {vs : List V} (h : Dts K G ds vs) : vs = [] ↔ ds = [] := by
  have := h.length
  constructor
  · rintro rfl; exact List.eq_nil_of_length_eq_zero (by simpa using this.symm)
  · rintro rfl; exact List.eq_nil_of_length_eq_zero (by simpa using this)
theorem os_add {K : PySem.W.Frag} : OpS K (rAddD K) fAdd := by
  intro w d e x y P Q ok dx dy h k
  have sx := see_ok ok dx
  have sy := see_ok ok dy
  unfold fAdd at h
  generalize hd : see w.own d = d' at h sx
  generalize he : see w.own e = e' at h sy
  match d', e', h, sx, sy, hd, he with
  | .int i, .int j, h, sx, sy, _, _ =>
    exact .inl (.inl (.inl ⟨i, j, dv_int.mp sx, dv_int.mp sy, ops_val ok k h (dt_int.mpr rfl)⟩))
  | .str a, .str b, h, sx, sy, _, _ => exact .inl (.inl (.inr ⟨a, b, dv_str.mp sx, dv_str.mp sy, h.1, ops_val ok k h.2 (dt_str.mpr rfl)⟩))
  | .tup xs, .tup ys, h, sx, sy, hd, he =>
    have ed := see_tup hd
    have ee := see_tup he
    subst ed ee
    obtain ⟨a, us, rfl, e1, e2⟩ := sx
    obtain ⟨b, vs, rfl, e3, e4⟩ := sy
    have l1 := e2.length
    have l2 := e4.length
    refine .inl (.inr ⟨a, b, us, vs, rfl, rfl, e1, e3, by rw [l1, l2]; exact h.1, fun z => ?_, fun z1 z2 => ?_, fun z1 z2 => ops_tup ok k h.2 (e2.append e4) (by rw [List.length_append]; exact h.1)⟩)
    · have : xs = [] := (dts_nil_iff e2).mp z
      subst this
      exact ops_val ok k (z := .tup ys) h.2 dy
    · have : ys = [] := (dts_nil_iff e4).mp z2
      subst this
      exact ops_val ok k (z := .tup xs) (by simpa using h.2) dx
  | .lst xs, .lst ys, h, sx, sy, _, _ =>
    obtain ⟨a, us, rfl, e1, e2⟩ := sx
    obtain ⟨b, vs, rfl, e3, e4⟩ := sy
    have l1 := e2.length
    have l2 := e4.length
    exact .inr ⟨a, b, us, vs, rfl, rfl, e1, e3, by rw [l1, l2]; exact h.1, ops_lst ok k h.2 (e2.append e4) (by rw [List.length_append]; exact h.1)⟩
end L3

namespace L3
open PySem PySem.Spec PyProof.Rows L2
/-! ### whole numbers -/
def fII (C : Int → Int → Prop) (g : Int → Int → D) : BinF := fun own d e P => match see own d, see own e with
  | .int i, .int j => C i j ∧ P (g i j)
  | _, _ => False
theorem os_II {K : PySem.W.Frag} {C : Int → Int → Prop} {g : Int → Int → D} {gv : Int → Int → V} (hg : ∀ G i j, Dt K G (g i j) (gv i j)) : OpS K (rI C gv) (fII C g) := by
  intro w d e x y P Q ok dx dy h k
  have sx := see_ok ok dx
  have sy := see_ok ok dy
  unfold fII at h
  generalize see w.own d = d' at h sx
  generalize see w.own e = e' at h sy
  match d', e', h, sx, sy with
  | .int i, .int j, h, sx, sy => exact ⟨i, j, dv_int.mp sx, dv_int.mp sy, h.1, ops_val ok k h.2 (hg _ i j)⟩
abbrev C0 : Int → Int → Prop := fun _ _ => True
theorem rI_of0 {gv : Int → Int → V} {X : Cx} {f : Value → Value → Sem Value} (h : OpR X f (rI0 gv)) : OpR X f (rI C0 gv) := fun pins s σ H x y v u Q I rx ry ⟨i, j, e1, e2, _, q⟩ => h pins s σ H x y v u Q I rx ry ⟨i, j, e1, e2, q⟩
abbrev gInt (f : Int → Int → Int) : Int → Int → D := fun i j => .int (f i j)
abbrev gBl (f : Int → Int → Bool) : Int → Int → D := fun i j => .bl (f i j)
theorem os_int {K : PySem.W.Frag} {C : Int → Int → Prop} {f : Int → Int → Int} : OpS K (rI C fun i j => .int (f i j)) (fII C (gInt f)) := os_II fun _ _ _ => dt_int.mpr rfl
theorem os_bl {K : PySem.W.Frag} {C : Int → Int → Prop} {f : Int → Int → Bool} : OpS K (rI C fun i j => .bl (f i j)) (fII C (gBl f)) := os_II fun _ _ _ => dt_bl.mpr rfl
/-- i ** j: the power below 2 ^ 27 bits -/
def CPowD (i j : Int) : Prop := 0 ≤ j ∧ j ≤ 100 ∧ i.natAbs < 2 ^ 1000
section
variable {X : Cx} {w0 : Wd} {a b : Expr} {ta tb : ATE} {pos : Pos}
theorem op_powD : OpR X (binaryOp .Pow) (rI CPowD fun i j => .int (i ^ j.toNat)) := opI fun i j _ _ _ _ _ hc q => by
  refine pow_int hc.1 ?_ q
  have h1 : Builtin.Int.intBits i ≤ 1000 := by
    unfold Builtin.Int.intBits
    split
    · omega
    · have := PySem.Flt.log2_lt_of (show 0 < 1000 by decide) hc.2.2
      omega
  have h2 : (Builtin.Int.intBits i : Int) * j ≤ 1000 * 100 := Int.mul_le_mul (by omega) hc.2.1 hc.1 (by decide)
  omega
abbrev fSub : BinF := fII C0 (gInt fun i j => i - j)
abbrev fMod : BinF := fII (fun _ j => 0 < j) (gInt fun i j => i % j)
abbrev fDiv : BinF := fII CDivW (gInt fun i j => i / j)
abbrev fPow : BinF := fII CPowD (gInt fun i j => i ^ j.toNat)
theorem ae_add (ha : AE X w0 a ta) (hb : AE X w0 b tb) : AE X w0 (.BinOp a .Add b pos) (aBin fAdd ta tb) := ae_op op_addD os_add ha hb
theorem ae_subt (ha : AE X w0 a ta) (hb : AE X w0 b tb) : AE X w0 (.BinOp a .Sub b pos) (aBin fSub ta tb) := ae_op (rI_of0 op_sub) os_int ha hb
theorem ae_mod (ha : AE X w0 a ta) (hb : AE X w0 b tb) : AE X w0 (.BinOp a .Mod b pos) (aBin fMod ta tb) := ae_op op_mod os_int ha hb
theorem ae_div (ha : AE X w0 a ta) (hb : AE X w0 b tb) : AE X w0 (.BinOp a .FloorDiv b pos) (aBin fDiv ta tb) := ae_op op_fdivW os_int ha hb
theorem ae_pow (ha : AE X w0 a ta) (hb : AE X w0 b tb) : AE X w0 (.BinOp a .Pow b pos) (aBin fPow ta tb) := ae_op op_powD os_int ha hb
/-! * -/
def rMulS : R2 := fun x y H Q => ∃ z i, x = .str z ∧ y = .int i ∧ (i = 0 ∧ Q (.str Str.empty) H ∨ i = 1 ∧ Q (.str z) H)
theorem op_mulS : OpR X (binaryOp .Mult) rMulS := by
  intro pins s σ H x y v u Q I rx ry h
  obtain ⟨z, i, rfl, rfl, h⟩ := h
  obtain ⟨t, rfl⟩ := rx
  obtain ⟨t', rfl⟩ := ry
  rcases h with ⟨rfl, q⟩ | ⟨rfl, q⟩
  · exact PySem.P.mul_str_none (by decide) (by decide) ⟨.str _, H, I.tok _, ⟨_, rfl⟩, q⟩
  · refine PySem.P.mul_str (by decide) (fun _ e => by simp at e) (fun _ e => by simp at e) ?_
    rw [if_neg (by decide), if_pos (by simp)]
    exact ⟨.str z, H, I, ⟨_, rfl⟩, q⟩
def fMul0 : D → D → (D → Prop) → Prop
  | .int i, .int j, P => CMulW i j ∧ P (.int (i * j))
  | .str z, .int i, P => i = 0 ∧ P (.str Str.empty) ∨ i = 1 ∧ P (.str z)
  | _, _, _ => False
def fMul : BinF := fun own d e P => fMul0 (see own d) (see own e) P
theorem os_mul {K : PySem.W.Frag} : OpS K (fun x y H Q => rI CMulW (fun i j => .int (i * j)) x y H Q ∨ rMulS x y H Q) fMul := by
  intro w d e x y P Q ok dx dy h k
  have sx := see_ok ok dx
  have sy := see_ok ok dy
  unfold fMul at h
  generalize see w.own d = d' at h sx
  generalize see w.own e = e' at h sy
  match d', e', h, sx, sy with
  | .int i, .int j, h, sx, sy => exact .inl ⟨i, j, dv_int.mp sx, dv_int.mp sy, h.1, ops_val ok k h.2 (dt_int.mpr rfl)⟩
  | .str z, .int j, h, sx, sy => exact .inr ⟨z, j, dv_str.mp sx, dv_int.mp sy, h.imp (fun q => ⟨q.1, ops_val ok k q.2 (dt_str.mpr rfl)⟩) fun q => ⟨q.1, ops_val ok k q.2 (dt_str.mpr rfl)⟩⟩
theorem ae_mul (ha : AE X w0 a ta) (hb : AE X w0 b tb) : AE X w0 (.BinOp a .Mult b pos) (aBin fMul ta tb) := ae_op (op_mulW.or op_mulS) os_mul ha hb
def fNeg : UnF := fun own d P => match see own d with
  | .int i => P (.int (-i))
  | _ => False
theorem ae_neg (ha : AE X w0 a ta) : AE X w0 (.UnaryOp .USub a pos) (aUn fNeg ta) := ae_un un_neg (by
  intro w d x P Q ok dx h k
  have sx := see_ok ok dx
  unfold fNeg at h
  generalize see w.own d = d' at h sx
  match d', h, sx with
  | .int i, h, sx => exact ⟨i, dv_int.mp sx, ops_val ok k h (dt_int.mpr rfl)⟩) ha
/-! ### order -/
def strLt (x y : Str) : Bool := decide (x.cps.toList < y.cps.toList)
def fLt0 : D → D → (D → Prop) → Prop
  | .int i, .int j, P => P (.bl (decide (i < j)))
  | .str x, .str y, P => P (.bl (strLt x y))
  | _, _, _ => False
def fLt : BinF := fun own d e P => fLt0 (see own d) (see own e) P
theorem os_lt {K : PySem.W.Frag} : OpS K (fun x y H Q => rI0 (fun i j => .bl (decide (i < j))) x y H Q ∨ ∃ i j, x = .str i ∧ y = .str j ∧ Q (.bl (decide (i.cps.toList < j.cps.toList))) H) fLt := by
  intro w d e x y P Q ok dx dy h k
  have sx := see_ok ok dx
  have sy := see_ok ok dy
  unfold fLt at h
  generalize see w.own d = d' at h sx
  generalize see w.own e = e' at h sy
  match d', e', h, sx, sy with
  | .int i, .int j, h, sx, sy => exact .inl ⟨i, j, dv_int.mp sx, dv_int.mp sy, ops_val ok k h (dt_bl.mpr rfl)⟩
  | .str i, .str j, h, sx, sy => exact .inr ⟨i, j, dv_str.mp sx, dv_str.mp sy, ops_val ok k h (dt_bl.mpr rfl)⟩
abbrev fLe : BinF := fII C0 (gBl fun i j => decide (i ≤ j))
abbrev fGt : BinF := fII C0 (gBl fun i j => decide (j < i))
abbrev fGe : BinF := fII C0 (gBl fun i j => decide (j ≤ i))
theorem ae_lt (ha : AE X w0 a ta) (hb : AE X w0 b tb) : AE X w0 (.Compare a [.Lt] [b] pos) (aBin fLt ta tb) := ae_cmp (op_lt.or op_lt_str) os_lt ha hb (nomark _)
theorem ae_le (ha : AE X w0 a ta) (hb : AE X w0 b tb) : AE X w0 (.Compare a [.LtE] [b] pos) (aBin fLe ta tb) := ae_cmp (rI_of0 op_le) os_bl ha hb (nomark _)
theorem ae_gt (ha : AE X w0 a ta) (hb : AE X w0 b tb) : AE X w0 (.Compare a [.Gt] [b] pos) (aBin fGt ta tb) := ae_cmp (rI_of0 op_gt) os_bl ha hb (nomark _)
theorem ae_ge (ha : AE X w0 a ta) (hb : AE X w0 b tb) : AE X w0 (.Compare a [.GtE] [b] pos) (aBin fGe ta tb) := ae_cmp (rI_of0 op_ge) os_bl ha hb (nomark _)
theorem at_lt (ha : AE X w0 a ta) (hb : AE X w0 b tb) : AT X w0 (.Compare a [.Lt] [b] pos) (aB (aBin fLt ta tb)) := at_cmp (op_lt.or op_lt_str) os_lt ha hb (nomark _)
theorem at_le (ha : AE X w0 a ta) (hb : AE X w0 b tb) : AT X w0 (.Compare a [.LtE] [b] pos) (aB (aBin fLe ta tb)) := at_cmp (rI_of0 op_le) os_bl ha hb (nomark _)
theorem at_gt (ha : AE X w0 a ta) (hb : AE X w0 b tb) : AT X w0 (.Compare a [.Gt] [b] pos) (aB (aBin fGt ta tb)) := at_cmp (rI_of0 op_gt) os_bl ha hb (nomark _)
theorem at_ge (ha : AE X w0 a ta) (hb : AE X w0 b tb) : AT X w0 (.Compare a [.GtE] [b] pos) (aB (aBin fGe ta tb)) := at_cmp (rI_of0 op_ge) os_bl ha hb (nomark _)
end
/-! ### == -/
mutual
def toPy : D → PyData
  | .non => .none
  | .bl b => .bool b
  | .int i => .int i
  | .str x => .str x
  | .tup ds => .tuple (toPys ds)
  | .lst ds => .list (toPys ds)
  | _ => .none
def toPys : List D → List PyData
  | [] => []
  | d :: ds => toPy d :: toPys ds
end
mutual
/-- data of which == may be asked -/
def eqOk : D → Bool
  | .non => true
  | .bl _ => true
  | .int _ => true
  | .str x => PyData.strOk x
  | .tup ds => eqOks ds
  | .lst ds => eqOks ds
  | _ => false
def eqOks : List D → Bool
  | [] => true
  | d :: ds => eqOk d && eqOks ds
end
mutual
theorem dt_dp {K : PySem.W.Frag} {G : Hp} : ∀ {d : D} {v : V}, eqOk d = true → Dt K G d v → Dp K G v (toPy d)
  | .non, v, _, h => by unfold Dt at h; subst h; unfold toPy; exact .non
  | .bl _, v, _, h => by unfold Dt at h; subst h; unfold toPy; exact .bl _
  | .int _, v, _, h => by unfold Dt at h; subst h; unfold toPy; exact .int _
  | .str _, v, _, h => by unfold Dt at h; subst h; unfold toPy; exact .str _
  | .tup ds, v, o, h => by
    unfold Dt at h
    obtain ⟨a, vs, rfl, e1, e2⟩ := h
    unfold toPy
    exact .tup e1 (dts_dp (by unfold eqOk at o; exact o) e2)
  | .lst ds, v, o, h => by
    unfold Dt at h
    obtain ⟨a, vs, rfl, e1, e2⟩ := h
    unfold toPy
    exact .lst (.inl e1) (dts_dp (by unfold eqOk at o; exact o) e2)
  | .ty _, _, o, _ => by unfold eqOk at o; cases o
  | .ref _, _, o, _ => by unfold eqOk at o; cases o
  | .dct _, _, o, _ => by unfold eqOk at o; cases o
theorem dts_dp {K : PySem.W.Frag} {G : Hp} : ∀ {ds : List D} {vs : List V}, eqOks ds = true → Dts K G ds vs → DpAll K G vs (toPys ds)
  | [], vs, _, h => by unfold Dts at h; subst h; unfold toPys; exact .nil
  | d :: ds, vs, o, h => by
    unfold Dts at h
    obtain ⟨v, vr, rfl, e1, e2⟩ := h
    unfold eqOks at o
    rw [Bool.and_eq_true] at o
    unfold toPys
    exact .cons (dt_dp o.1 e1) (dts_dp o.2 e2)
end
mutual
theorem dp_mono {K : PySem.W.Frag} {G G' : Hp} (e : Sub G G') : ∀ {v : V} {d : PyData}, Dp K G v d → Dp K G' v d
  | _, _, .non => .non
  | _, _, .bl _ => .bl _
  | _, _, .int _ => .int _
  | _, _, .str _ => .str _
  | _, _, .lst h r => .lst (e.sqL h) (dps_mono e r)
  | _, _, .tup h r => .tup (e.sqT h) (dps_mono e r)
theorem dps_mono {K : PySem.W.Frag} {G G' : Hp} (e : Sub G G') : ∀ {vs : List V} {ds : List PyData}, DpAll K G vs ds → DpAll K G' vs ds
  | _, _, .nil => .nil
  | _, _, .cons h r => .cons (dp_mono e h) (dps_mono e r)
end
mutual
theorem canLay_of : ∀ {d : D}, eqOk d = true → (toPy d).canLay0 = true
  | .non, _ => by unfold toPy PyData.canLay0; rfl
  | .bl _, _ => by unfold toPy PyData.canLay0; rfl
  | .int _, _ => by unfold toPy PyData.canLay0; rfl
  | .str _, o => by unfold toPy PyData.canLay0; unfold eqOk at o; exact o
  | .tup _, o => by unfold toPy PyData.canLay0; unfold eqOk at o; exact canLays_of o
  | .lst _, o => by unfold toPy PyData.canLay0; unfold eqOk at o; exact canLays_of o
  | .ty _, o => by unfold eqOk at o; cases o
  | .ref _, o => by unfold eqOk at o; cases o
  | .dct _, o => by unfold eqOk at o; cases o
theorem canLays_of : ∀ {ds : List D}, eqOks ds = true → PyData.canLayAll0 (toPys ds) = true
  | [], _ => by unfold toPys PyData.canLayAll0; rfl
  | d :: ds, o => by
    unfold eqOks at o
    rw [Bool.and_eq_true] at o
    unfold toPys PyData.canLayAll0
    rw [canLay_of o.1, canLays_of o.2]; rfl
end
/-- Python's == of data -/
def deq (d e : D) : Bool := PyData.eqv (toPy d) (toPy e)
/-- == of simple things is plain; of others data are asked that may be laid, of at most 64 deep -/
def eqAsk : D → D → Prop
  | .str _, .str _ => True
  | .str _, .non => True
  | .non, .str _ => True
  | .str _, .int _ => True
  | .int _, .str _ => True
  | .str _, .bl _ => True
  | .bl _, .str _ => True
  | d, e => (eqOk d = true ∧ (toPy d).depth ≤ 64) ∧ eqOk e = true ∧ (toPy e).depth ≤ 64
def fEq (neg : Bool) : BinF := fun own d e P => eqAsk (see own d) (see own e) ∧ P (.bl (if neg then !deq (see own d) (see own e) else deq (see own d) (see own e)))
theorem dv_dp {K : PySem.W.Frag} {w : Wd} (ok : w.Ok K) {d : D} {v : V} (o : eqOk d = true) (h : DtV K w d v) : Dp K w.H v (toPy d) := by
  cases d with
  | tup ds =>
    obtain ⟨a, vs, rfl, e1, e2⟩ := h
    unfold toPy
    exact .tup e1 (dps_mono ok.sub (dts_dp (by unfold eqOk at o; exact o) e2))
  | lst ds =>
    obtain ⟨a, vs, rfl, e1, e2⟩ := h
    unfold toPy
    exact .lst (.inl e1) (dps_mono ok.sub (dts_dp (by unfold eqOk at o; exact o) e2))
  | non => exact dp_mono ok.sub (dt_dp o h)
  | bl _ => exact dp_mono ok.sub (dt_dp o h)
  | int _ => exact dp_mono ok.sub (dt_dp o h)
  | str _ => exact dp_mono ok.sub (dt_dp o h)
  | ty _ => unfold eqOk at o; cases o
  | kls _ => unfold eqOk at o; cases o
  | ref _ => unfold eqOk at o; cases o
  | dct _ => unfold eqOk at o; cases o
theorem shaped_of {d : D} (o : eqOk d = true) (h : (toPy d).depth ≤ 64) : SeqAt.shaped (toPy d) = true := by
  unfold SeqAt.shaped
  rw [canLay_of o, decide_eq_true h]; rfl
theorem deq_ss {x y : Str} : deq (.str x) (.str y) = decide (x = y) := by unfold deq toPy; simp only [PyData.eqv]; rfl
theorem os_eq {K : PySem.W.Frag} (neg : Bool) : OpS K (fun x y H Q => (scal x y = true ∧ Q (.bl (if neg then !decide (x = y) else decide (x = y))) H) ∨ ∃ d e, Dp K H x d ∧ Dp K H y e ∧ SeqAt.shaped d = true ∧ SeqAt.shaped e = true ∧ Q (.bl (if neg then !PyData.eqv d e else PyData.eqv d e)) H) (fEq neg) := by
  intro w d e x y P Q ok dx dy h k
  have sx := see_ok ok dx
  have sy := see_ok ok dy
  unfold fEq at h
  generalize see w.own d = d' at h sx
  generalize see w.own e = e' at h sy
  obtain ⟨h1, h2⟩ := h
  have gen : (eqOk d' = true ∧ (toPy d').depth ≤ 64) ∧ eqOk e' = true ∧ (toPy e').depth ≤ 64 → ∃ d e, Dp K w.H x d ∧ Dp K w.H y e ∧ SeqAt.shaped d = true ∧ SeqAt.shaped e = true ∧ Q (.bl (if neg then !PyData.eqv d e else PyData.eqv d e)) w.H := fun q =>
    ⟨toPy d', toPy e', dv_dp ok q.1.1 sx, dv_dp ok q.2.1 sy, shaped_of q.1.1 q.1.2, shaped_of q.2.1 q.2.2, ops_val ok k h2 (dt_bl.mpr rfl)⟩
  have scalar : ∀ vx vy : V, x = vx → y = vy → scal vx vy = true → deq d' e' = decide (vx = vy) → (scal x y = true ∧ Q (.bl (if neg then !decide (x = y) else decide (x = y))) w.H) := fun vx vy e1 e2 e3 e4 => by
    subst e1 e2
    rw [e4] at h2
    exact ⟨e3, ops_val ok k h2 (dt_bl.mpr rfl)⟩
  unfold eqAsk at h1
  split at h1
  · exact .inl (scalar _ _ (dv_str.mp sx) (dv_str.mp sy) rfl (by rw [deq_ss]; simp))
  · exact .inl (scalar _ _ (dv_str.mp sx) (dv_non.mp sy) rfl (by simp [deq, toPy, PyData.eqv]))
  · exact .inl (scalar _ _ (dv_non.mp sx) (dv_str.mp sy) rfl (by simp [deq, toPy, PyData.eqv]))
  · exact .inl (scalar _ _ (dv_str.mp sx) (dv_int.mp sy) rfl (by simp [deq, toPy, PyData.eqv]))
  · exact .inl (scalar _ _ (dv_int.mp sx) (dv_str.mp sy) rfl (by simp [deq, toPy, PyData.eqv]))
  · exact .inl (scalar _ _ (dv_str.mp sx) (dv_bl.mp sy) rfl (by simp [deq, toPy, PyData.eqv]))
  · exact .inl (scalar _ _ (dv_bl.mp sx) (dv_str.mp sy) rfl (by simp [deq, toPy, PyData.eqv]))
  · exact .inr (gen h1)
section
variable {X : Cx} {w0 : Wd} {a b : Expr} {ta tb : ATE} {pos : Pos}
theorem op_eqA (hu : X.A.units + 64 < cLine) : OpR X (compareOp .Eq) (fun x y H Q => (scal x y = true ∧ Q (.bl (if false then !decide (x = y) else decide (x = y))) H) ∨ ∃ d e, Dp X.K H x d ∧ Dp X.K H y e ∧ SeqAt.shaped d = true ∧ SeqAt.shaped e = true ∧ Q (.bl (if false then !PyData.eqv d e else PyData.eqv d e)) H) := op_eq.or (op_eqD hu)
theorem op_neA (hu : X.A.units + 64 < cLine) : OpR X (compareOp .NotEq) (fun x y H Q => (scal x y = true ∧ Q (.bl (if true then !decide (x = y) else decide (x = y))) H) ∨ ∃ d e, Dp X.K H x d ∧ Dp X.K H y e ∧ SeqAt.shaped d = true ∧ SeqAt.shaped e = true ∧ Q (.bl (if true then !PyData.eqv d e else PyData.eqv d e)) H) := op_ne.or (op_neD hu)
theorem ae_eq {k : Nat} (hr : Room k X.A) (ha : AE X w0 a ta) (hb : AE X w0 b tb) : AE X w0 (.Compare a [.Eq] [b] pos) (aBin (fEq false) ta tb) := ae_cmp (op_eqA hr.units) (os_eq false) ha hb (nomark _)
theorem ae_ne {k : Nat} (hr : Room k X.A) (ha : AE X w0 a ta) (hb : AE X w0 b tb) : AE X w0 (.Compare a [.NotEq] [b] pos) (aBin (fEq true) ta tb) := ae_cmp (op_neA hr.units) (os_eq true) ha hb (nomark _)
theorem at_eq {k : Nat} (hr : Room k X.A) (ha : AE X w0 a ta) (hb : AE X w0 b tb) : AT X w0 (.Compare a [.Eq] [b] pos) (aB (aBin (fEq false) ta tb)) := at_cmp (op_eqA hr.units) (os_eq false) ha hb (nomark _)
theorem at_ne {k : Nat} (hr : Room k X.A) (ha : AE X w0 a ta) (hb : AE X w0 b tb) : AT X w0 (.Compare a [.NotEq] [b] pos) (aB (aBin (fEq true) ta tb)) := at_cmp (op_neA hr.units) (os_eq true) ha hb (nomark _)
/-! is None -/
def fIsN (neg : Bool) : BinF := fun own d e P => e = .non ∧ match d with
  | .non => P (.bl (!neg))
  | _ => P (.bl neg)
theorem isnon {K : PySem.W.Frag} {G : Hp} {d : D} {v : V} (h : Dt K G d v) : decide (v = .non) = (match d with | .non => true | _ => false) := by
  cases d <;> unfold Dt at h
  case non => subst h; rfl
  case tup => obtain ⟨a, vs, rfl, _⟩ := h; rfl
  case lst => obtain ⟨a, vs, rfl, _⟩ := h; rfl
  case kls => obtain ⟨a, vs, rfl, _⟩ := h; rfl
  case dct => obtain ⟨a, rfl, _⟩ := h; rfl
  all_goals subst h; rfl
theorem os_isN {K : PySem.W.Frag} (neg : Bool) : OpS K (fun x y H Q => y = .non ∧ Q (.bl (if neg then !decide (x = .non) else decide (x = .non))) H) (fIsN neg) := by
  intro w d e x y P Q ok dx dy h k
  obtain ⟨rfl, h⟩ := h
  refine ⟨dt_non.mp dy, ?_⟩
  rw [isnon dx]
  refine ops_val ok k ?_ (dt_bl.mpr rfl)
  cases d <;> cases neg <;> exact h
theorem ae_isN (ha : AE X w0 a ta) (hb : AE X w0 b tb) : AE X w0 (.Compare a [.Is] [b] pos) (aBin (fIsN false) ta tb) := ae_cmp op_isN (os_isN false) ha hb (nomark _)
theorem ae_notN (ha : AE X w0 a ta) (hb : AE X w0 b tb) : AE X w0 (.Compare a [.IsNot] [b] pos) (aBin (fIsN true) ta tb) := ae_cmp op_notN (os_isN true) ha hb (nomark _)
theorem at_isN (ha : AE X w0 a ta) (hb : AE X w0 b tb) : AT X w0 (.Compare a [.Is] [b] pos) (aB (aBin (fIsN false) ta tb)) := at_cmp op_isN (os_isN false) ha hb (nomark _)
theorem at_notN (ha : AE X w0 a ta) (hb : AE X w0 b tb) : AT X w0 (.Compare a [.IsNot] [b] pos) (aB (aBin (fIsN true) ta tb)) := at_cmp op_notN (os_isN true) ha hb (nomark _)
end
end L3

namespace L3
open PySem PySem.Spec PyProof.Rows L2

/-! ### in -/
def flatD : D → Bool
  | .non => true
  | .bl _ => true
  | .int _ => true
  | .str _ => true
  | _ => false
/-- == of flat things -/
def eqD : D → D → Bool
  | .non, .non => true
  | .bl a, .bl b => a == b
  | .bl a, .int b => (if a then 1 else 0) == b
  | .int a, .bl b => a == (if b then 1 else 0)
  | .int a, .int b => a == b
  | .str a, .str b => a == b
  | _, _ => false
def hasD (d : D) (ds : List D) : Bool := ds.any fun e => eqD e d
def oneIn (x z : Str) : Bool := decide (x.cps.toList.getD 0 0 ∈ z.cps.toList)
def fIn0 (neg : Bool) : D → D → (D → Prop) → Prop
  | d, .lst ds, P => flatD d = true ∧ ds.all flatD = true ∧ P (.bl (if neg then !hasD d ds else hasD d ds))
  | d, .tup ds, P => flatD d = true ∧ ds.all flatD = true ∧ P (.bl (if neg then !hasD d ds else hasD d ds))
  | .str x, .str z, P => x.cps.toList.length = 1 ∧ P (.bl (if neg then !oneIn x z else oneIn x z))
  | _, _, _ => False
def fIn (neg : Bool) : BinF := fun own d e P => fIn0 neg d (see own e) P
theorem flat_v {K : PySem.W.Frag} {G : Hp} {d : D} {v : V} (h : Dt K G d v) (f : flatD d = true) : flatV v = true := by
  cases d <;> first | (unfold Dt at h; subst h; rfl) | cases f
theorem flats_v {K : PySem.W.Frag} {G : Hp} : ∀ {ds : List D} {vs : List V}, Dts K G ds vs → ds.all flatD = true → vs.all flatV = true
  | [], _, h, _ => by unfold Dts at h; subst h; rfl
  | d :: ds, vs, h, f => by
    unfold Dts at h
    obtain ⟨v, vr, rfl, h1, h2⟩ := h
    rw [List.all_cons, Bool.and_eq_true] at f ⊢
    exact ⟨flat_v h1 f.1, flats_v h2 f.2⟩
theorem eq_v {K : PySem.W.Frag} {G : Hp} {d e : D} {v u : V} (h : Dt K G d v) (h' : Dt K G e u) (f : flatD d = true) (f' : flatD e = true) : eqV v u = eqD d e := by
  cases d <;> first | cases f | skip
  all_goals cases e <;> first | cases f' | skip
  all_goals (unfold Dt at h h'; subst h h'; rfl)
theorem has_v {K : PySem.W.Frag} {G : Hp} {d : D} {v : V} (h : Dt K G d v) (f : flatD d = true) : ∀ {ds : List D} {vs : List V}, Dts K G ds vs → ds.all flatD = true → inV v vs = hasD d ds
  | [], _, r, _ => by unfold Dts at r; subst r; rfl
  | e :: ds, vs, r, fs => by
    unfold Dts at r
    obtain ⟨u, ur, rfl, h1, h2⟩ := r
    rw [List.all_cons, Bool.and_eq_true] at fs
    have ih := has_v h f h2 fs.2
    unfold inV hasD at ih ⊢
    rw [List.any_cons, List.any_cons, ih, eq_v h1 h fs.1 f]
theorem one_str {x : Str} (h : x.cps.toList.length = 1) : x = ⟨#[x.cps.toList.getD 0 0]⟩ := by
  obtain ⟨⟨l⟩⟩ := x
  match l, h with
  | [c], _ => rfl
def rInD (K : PySem.W.Frag) (neg : Bool) : R2 := fun x y H Q => rIn K neg x y H Q ∨ ∃ c z, x = .str ⟨#[c]⟩ ∧ y = .str z ∧ Q (.bl (if neg then !decide (c ∈ z.cps.toList) else decide (c ∈ z.cps.toList))) H
theorem os_in {K : PySem.W.Frag} (neg : Bool) : OpS K (rInD K neg) (fIn neg) := by
  intro w d e x y P Q ok dx dy h k
  have sy := see_ok ok dy
  unfold fIn at h
  generalize see w.own e = e' at h sy
  have seq : ∀ (ds : List D) (us : List V), Dts K w.G ds us → (flatD d = true ∧ ds.all flatD = true ∧ P (.bl (if neg then !hasD d ds else hasD d ds))) → flatV x = true ∧ us.all flatV = true ∧ Q (.bl (if neg then !inV x us else inV x us)) w.H := fun ds us r h => by
    refine ⟨flat_v dx h.1, flats_v r h.2.1, ?_⟩
    rw [has_v dx h.1 r h.2.1]
    exact ops_val ok k h.2.2 (dt_bl.mpr rfl)
  cases e' with
  | lst ds =>
    obtain ⟨a, us, rfl, e1, e2⟩ := sy
    exact .inl ⟨a, us, rfl, .inl (.inl e1), seq ds us e2 (by cases d <;> exact h)⟩
  | tup ds =>
    obtain ⟨a, us, rfl, e1, e2⟩ := sy
    exact .inl ⟨a, us, rfl, .inr e1, seq ds us e2 (by cases d <;> exact h)⟩
  | str z =>
    cases d with
    | str s =>
      have hs := one_str h.1
      refine .inr ⟨_, z, (dt_str.mp dx).trans (congrArg V.str hs), dv_str.mp sy, ops_val ok k h.2 (dt_bl.mpr rfl)⟩
    | _ => exact (h : False).elim
  | non => cases d <;> exact (h : False).elim
  | bl _ => cases d <;> exact (h : False).elim
  | int _ => cases d <;> exact (h : False).elim
  | ty _ => cases d <;> exact (h : False).elim
  | kls _ => cases d <;> exact (h : False).elim
  | ref _ => cases d <;> exact (h : False).elim
  | dct _ => cases d <;> exact (h : False).elim
section
variable {X : Cx} {w0 : Wd} {a b : Expr} {ta tb : ATE} {pos : Pos}
theorem op_inD : OpR X (compareOp .In) (rInD X.K false) := op_in_seq.or (fun pins s σ H x y v u Q I rx ry ⟨c, z, e1, e2, q⟩ => op_in_sign pins s σ H x y v u Q I rx ry ⟨c, z, e1, e2, q⟩)
theorem op_notInD : OpR X (compareOp .NotIn) (rInD X.K true) := op_notIn_seq.or (fun pins s σ H x y v u Q I rx ry ⟨c, z, e1, e2, q⟩ => op_notIn_sign pins s σ H x y v u Q I rx ry ⟨c, z, e1, e2, q⟩)
theorem ae_in (ha : AE X w0 a ta) (hb : AE X w0 b tb) (hm : behindInMarks .In b = false := by rfl) : AE X w0 (.Compare a [.In] [b] pos) (aBin (fIn false) ta tb) := ae_cmp op_inD (os_in false) ha hb hm
theorem ae_notin (ha : AE X w0 a ta) (hb : AE X w0 b tb) (hm : behindInMarks .NotIn b = false := by rfl) : AE X w0 (.Compare a [.NotIn] [b] pos) (aBin (fIn true) ta tb) := ae_cmp op_notInD (os_in true) ha hb hm
theorem at_in (ha : AE X w0 a ta) (hb : AE X w0 b tb) (hm : behindInMarks .In b = false := by rfl) : AT X w0 (.Compare a [.In] [b] pos) (aB (aBin (fIn false) ta tb)) := at_cmp op_inD (os_in false) ha hb hm
theorem at_notin (ha : AE X w0 a ta) (hb : AE X w0 b tb) (hm : behindInMarks .NotIn b = false := by rfl) : AT X w0 (.Compare a [.NotIn] [b] pos) (aB (aBin (fIn true) ta tb)) := at_cmp op_notInD (os_in true) ha hb hm
end

/-! ### subscripts -/
/-- there is one, and it is so -/
def oP {α : Type} : Option α → (α → Prop) → Prop
  | some a, P => P a
  | none, _ => False
theorem oP_some {α : Type} {o : Option α} {P : α → Prop} (h : oP o P) : ∃ a, o = some a ∧ P a := by
  cases o with
  | none => exact h.elim
  | some a => exact ⟨a, rfl, h⟩
def fIx0 : D → D → (D → Prop) → Prop
  | .lst ds, .int i, P => oP (atI ds i) P
  | .tup ds, .int i, P => oP (atI ds i) P
  | .str z, .int i, P => z.length ≤ sizeLine ∧ oP (atI z.cps.toList i) fun c => P (.str ⟨#[c]⟩)
  | _, _, _ => False
def fIx : BinF := fun own d e P => fIx0 (see own d) (see own e) P
theorem at_v {K : PySem.W.Frag} {G : Hp} {ds : List D} {vs : List V} (r : Dts K G ds vs) {i : Int} {d : D} (h : atI ds i = some d) : ∃ v, atI vs i = some v ∧ Dt K G d v := by
  unfold atI at h ⊢
  rw [r.length]
  cases e : ixN ds.length i with
  | none => rw [e] at h; cases h
  | some j =>
    rw [e] at h
    exact r.get h
theorem os_ix {K : PySem.W.Frag} : OpS K (rIx K) fIx := by
  intro w d e x y P Q ok dx dy h k
  have sx := see_ok ok dx
  have sy := see_ok ok dy
  unfold fIx at h
  generalize see w.own d = d' at h sx
  generalize see w.own e = e' at h sy
  match d', e', h, sx, sy with
  | .lst ds, .int i, h, sx, sy =>
    obtain ⟨a, us, rfl, e1, e2⟩ := sx
    obtain ⟨z, e3, h⟩ := oP_some (show oP (atI ds i) P from h)
    obtain ⟨v, a1, a2⟩ := at_v e2 e3
    exact .inl ⟨a, us, i, v, rfl, dv_int.mp sy, .inl e1, a1, ops_val ok k h a2⟩
  | .tup ds, .int i, h, sx, sy =>
    obtain ⟨a, us, rfl, e1, e2⟩ := sx
    obtain ⟨z, e3, h⟩ := oP_some (show oP (atI ds i) P from h)
    obtain ⟨v, a1, a2⟩ := at_v e2 e3
    exact .inr (.inl ⟨a, us, i, v, rfl, dv_int.mp sy, e1, a1, ops_val ok k h a2⟩)
  | .str z, .int i, h, sx, sy =>
    obtain ⟨hz, h⟩ := (show z.length ≤ sizeLine ∧ oP (atI z.cps.toList i) (fun c => P (.str ⟨#[c]⟩)) from h)
    obtain ⟨c, e3, h⟩ := oP_some h
    exact .inr (.inr ⟨z, i, c, dv_str.mp sx, dv_int.mp sy, hz, e3, ops_val ok k h (dt_str.mpr rfl)⟩)
section
variable {X : Cx} {w0 : Wd} {a b e o : Expr} {ta tb : ATE} {pos p2 : Pos}
theorem ae_ix (ha : AE X w0 a ta) (hb : AE X w0 b tb) (hp : PlainIx b := by exact fun _ _ => rfl) : AE X w0 (.Subscript a b pos) (aBin fIx ta tb) := ae_sub ix_seq os_ix ha hb hp
/-! slices -/
def cutD (ds : List D) (lo hi : Option Int) : List D := (ds.drop (HT.sIx ds.length 0 lo)).take (HT.sIx ds.length ds.length hi - HT.sIx ds.length 0 lo)
theorem cut_v {K : PySem.W.Frag} {G : Hp} {ds : List D} {vs : List V} (r : Dts K G ds vs) (lo hi : Option Int) : Dts K G (cutD ds lo hi) (cutV vs lo hi) := by
  unfold cutD cutV
  rw [r.length]
  exact (r.drop _).take _
theorem cutD_le (ds : List D) (lo hi : Option Int) : (cutD ds lo hi).length ≤ ds.length := by
  unfold cutD; rw [List.length_take, List.length_drop]; omega
def fSl0 (lo hi : Option Int) : D → (D → Prop) → Prop
  | .lst ds, P => P (.lst (cutD ds lo hi))
  | .tup ds, P => P (.tup (cutD ds lo hi))
  | .kls ds, P => P (.lst (cutD ds lo hi))
  | .str z, P => z.length ≤ sizeLine ∧ P (.str (cutS z lo hi))
  | _, _ => False
def aNo : ATO := fun _ own P => P none own
def aSo (t : ATE) : ATO := fun env own P => t env own fun d o => match d with
  | .int i => P (some i) o
  | _ => False
theorem ao_none : AO X w0 none aNo := po_of po_none fun σ H Q h => by
  obtain ⟨env, w, rfl, ok, tr0, er, P, h, k⟩ := h
  exact k none w h (Tr.refl w) ok
theorem ao_some (h : AE X w0 e ta) : AO X w0 (some e) (aSo ta) := po_of (po_some h) fun σ H Q h => by
  obtain ⟨env, w, rfl, ok, tr0, er, P, h, k⟩ := h
  refine ⟨env, w, rfl, ok, tr0, er, _, h, fun d w1 v h1 t1 ok1 dv => ?_⟩
  cases d with
  | int i => exact ⟨i, dt_int.mp dv, k _ w1 h1 t1 ok1⟩
  | _ => exact (h1 : False).elim
def aSl (t : ATE) (l h : ATO) : ATE := fun env own P => t env own fun d o1 => l env o1 fun lo o2 => h env o2 fun hi o3 => fSl0 lo hi (see o3 d) fun z => P z o3
theorem ae_sl {lo hi : Option Expr} {l h : ATO} (ha : AE X w0 a ta) (hl : AO X w0 lo l) (hh : AO X w0 hi h) : AE X w0 (.Subscript a (.Slice lo hi none p2) pos) (aSl ta l h) :=
  pe_of (pe_slice ((sl_list.or sl_tupA).or sl_str) ha hl hh) fun σ H Q h => by
    obtain ⟨env, w, rfl, ok, tr0, er, P, h, k⟩ := h
    refine ⟨env, w, rfl, ok, tr0, er, _, h, fun d w1 x h1 t1 ok1 dx => ?_⟩
    refine ⟨env, w1, rfl, ok1, tr0.trans t1, er.mono t1.gs, _, h1, fun lo w2 h2 t2 ok2 => ?_⟩
    have T2 := t1.trans t2
    refine ⟨env, w2, rfl, ok2, tr0.trans T2, er.mono T2.gs, _, h2, fun hi w3 h3 t3 ok3 => ?_⟩
    have T3 := T2.trans t3
    have dx3 := dx.mono (t2.trans t3).gs
    have sx := see_ok ok3 dx3
    have kk : ∀ z w' v, P z w3.own → w'.own = w3.own → Tr w3 w' → w'.Ok X.K → Dt X.K w'.G z v → Q v w'.H := fun z w' v h4 ho t4 ok4 d4 => k z w' v (by rw [ho]; exact h4) (T3.trans t4) ok4 d4
    cases e : see w3.own d with
    | lst ds =>
      rw [e] at sx h3
      obtain ⟨p, us, rfl, e1, e2⟩ := sx
      refine .inl (.inl ⟨p, us, rfl, .inl e1, ops_lst ok3 (P := fun z => P z w3.own) kk h3 (cut_v e2 lo hi) ?_⟩)
      exact Nat.le_trans (cutD_le ds lo hi) (by rw [← e2.length]; exact sqL_sz ok3 (.inl e1))
    | tup ds =>
      rw [e] at sx h3
      have ed := see_tup e
      subst ed
      obtain ⟨p, us, rfl, e1, e2⟩ := sx
      refine .inl (.inr ⟨p, us, rfl, e1, fun z => ?_, fun _ => ops_tup ok3 (P := fun z => P z w3.own) kk h3 (cut_v e2 lo hi) (Nat.le_trans (cutD_le ds lo hi) (by rw [← e2.length]; exact sqT_sz ok3 e1))⟩)
      have ec : cutD ds lo hi = ds := by
        unfold cutD
        rw [← e2.length, z.1, z.2, e2.length]
        simp
      have h3' : P (.tup (cutD ds lo hi)) w3.own := h3
      rw [ec] at h3'
      exact ops_val ok3 (P := fun z => P z w3.own) kk h3' dx3
    | str z =>
      rw [e] at sx h3
      exact .inr ⟨z, dv_str.mp sx, h3.1, ops_val ok3 (P := fun z => P z w3.own) kk h3.2 (dt_str.mpr rfl)⟩
    | non => rw [e] at h3; exact (h3 : False).elim
    | bl _ => rw [e] at h3; exact (h3 : False).elim
    | int _ => rw [e] at h3; exact (h3 : False).elim
    | ty _ => rw [e] at h3; exact (h3 : False).elim
    | kls ds =>
      rw [e] at sx h3
      have sx' : Dt X.K w3.G (.kls ds) x := sx
      unfold Dt at sx'
      obtain ⟨p, us, rfl, e1, e2⟩ := sx'
      have e1' := ok3.sub.sqL e1
      refine .inl (.inl ⟨p, us, rfl, e1', ops_lst ok3 (P := fun z => P z w3.own) kk h3 (cut_v e2 lo hi) ?_⟩)
      exact Nat.le_trans (cutD_le ds lo hi) (by rw [← e2.length]; exact sqL_sz ok3 e1')
    | ref _ => rw [e] at h3; exact (h3 : False).elim
    | dct _ => rw [e] at h3; exact (h3 : False).elim
end

/-! ### built-in functions -/
section
variable {X : Cx} {w0 : Wd} {e : Expr} {es : List Expr} {ta : ATA} {x : Str} {p pos : Pos} {id T : String}
theorem ae_callB {r : List V → Hp → VK → Prop} {f : CallF} (hc : CallR X (.builtin id) r) (hs : CallS X.K r f) (hg : Gl X x) (hm : X.mg x = none) (hv : bootBuiltins x = some (.builtin id)) (ha : AA X w0 (e :: es) ta) (hn : x ≠ "__name__" := by decide) (hdb : (x == ("__debug__" : Str)) = false := by decide)
    (he : starEach (e :: es) X.env = (false, eval e X.env) :: starEach es X.env := by rfl) (hpl : (backTo pos (starEach es X.env)).any (·.1) = false := by rfl) : AE X w0 (.Call (.Name x p) (e :: es) [] pos) (aFn f ta) := pe_of (pe_callB hc hg hm hv ha hn hdb he hpl) fun σ H Q h => by
  obtain ⟨env, w, rfl, ok, tr0, er, P, h, k⟩ := h
  exact ⟨env, w, rfl, ok, tr0, er, _, h, fun ds w1 vs h1 t1 ok1 dv => hs w1 ds vs _ Q ok1 dv h1 fun z w2 v hz ho t2 ok2 dz => k z w2 v (by rw [ho]; exact hz) (t1.trans t2) ok2 dz⟩
theorem ae_callT {r : List V → Hp → VK → Prop} {f : CallF} (hc : CallR X (.type T) r) (hs : CallS X.K r f) (hg : Gl X x) (hm : X.mg x = none) (hv : bootBuiltins x = some (.type T)) (ha : AA X w0 (e :: es) ta) (hn : x ≠ "__name__" := by decide) (hdb : (x == ("__debug__" : Str)) = false := by decide)
    (he : starEach (e :: es) X.env = (false, eval e X.env) :: starEach es X.env := by rfl) (hpl : (backTo pos (starEach es X.env)).any (·.1) = false := by rfl) : AE X w0 (.Call (.Name x p) (e :: es) [] pos) (aFn f ta) := pe_of (pe_callTy hc hg hm hv ha hn hdb he hpl) fun σ H Q h => by
  obtain ⟨env, w, rfl, ok, tr0, er, P, h, k⟩ := h
  exact ⟨env, w, rfl, ok, tr0, er, _, h, fun ds w1 vs h1 t1 ok1 dv => hs w1 ds vs _ Q ok1 dv h1 fun z w2 v hz ho t2 ok2 dz => k z w2 v (by rw [ho]; exact hz) (t1.trans t2) ok2 dz⟩
theorem dts_one {K : PySem.W.Frag} {G : Hp} {d : D} {vs : List V} (h : Dts K G [d] vs) : ∃ v, vs = [v] ∧ Dt K G d v := by
  unfold Dts at h
  obtain ⟨v, vr, rfl, h1, h2⟩ := h
  unfold Dts at h2; subst h2
  exact ⟨v, rfl, h1⟩
theorem dts_two {K : PySem.W.Frag} {G : Hp} {d e : D} {vs : List V} (h : Dts K G [d, e] vs) : ∃ v u, vs = [v, u] ∧ Dt K G d v ∧ Dt K G e u := by
  unfold Dts at h
  obtain ⟨v, vr, rfl, h1, h2⟩ := h
  obtain ⟨u, rfl, h3⟩ := dts_one h2
  exact ⟨v, u, rfl, h1, h3⟩
/-- one argument, as it is seen -/
def f1 (g : D → (D → Prop) → Prop) : CallF := fun own ds P => match ds with
  | [d] => g (see own d) P
  | _ => False
theorem cs1 {K : PySem.W.Frag} {r : List V → Hp → VK → Prop} {g : D → (D → Prop) → Prop}
    (hs : ∀ (w : Wd) (d : D) (x : V) (P : D → Prop) (Q : VK), w.Ok K → Dt K w.G d x → DtV K w (see w.own d) x → g (see w.own d) P → (∀ z w' v, P z → w'.own = w.own → Tr w w' → w'.Ok K → Dt K w'.G z v → Q v w'.H) → r [x] w.H Q) : CallS K r (f1 g) := by
  intro w ds xs P Q ok dv h k
  match ds, h, dv with
  | [d], h, dv =>
    obtain ⟨v, rfl, d1⟩ := dts_one dv
    exact hs w d v P Q ok d1 (see_ok ok d1) h k
/-! len -/
def gLen : D → (D → Prop) → Prop
  | .lst ds, P => P (.int ds.length)
  | .tup ds, P => P (.int ds.length)
  | .str z, P => z.length ≤ sizeLine ∧ P (.int z.length)
  | _, _ => False
theorem ae_len (hg : Gl X "len") (hm : X.mg "len" = none) (ha : AA X w0 (e :: es) ta) (he : starEach (e :: es) X.env = (false, eval e X.env) :: starEach es X.env := by rfl) (hpl : (backTo pos (starEach es X.env)).any (·.1) = false := by rfl) : AE X w0 (.Call (.Name "len" p) (e :: es) [] pos) (aFn (f1 gLen) ta) :=
  ae_callB (call_len_seq.or call_len_str) (cs1 fun w d x P Q ok dx sx h k => by
    generalize see w.own d = d' at h sx
    match d', h, sx with
    | .lst ds, h, sx =>
      obtain ⟨a, us, rfl, e1, e2⟩ := sx
      exact .inl ⟨a, us, rfl, .inl (.inl e1), by rw [e2.length]; exact ops_val ok k h (dt_int.mpr rfl)⟩
    | .tup ds, h, sx =>
      obtain ⟨a, us, rfl, e1, e2⟩ := sx
      exact .inl ⟨a, us, rfl, .inr e1, by rw [e2.length]; exact ops_val ok k h (dt_int.mpr rfl)⟩
    | .str z, h, sx => exact .inr ⟨z, by rw [dv_str.mp sx], h.1, ops_val ok k h.2 (dt_int.mpr rfl)⟩) hg hm boot_len ha (by decide) (by decide) he hpl
/-! abs, int -/
def gAbs : D → (D → Prop) → Prop
  | .int i, P => P (.int (if i < 0 then -i else i))
  | _, _ => False
theorem ae_abs (hg : Gl X "abs") (hm : X.mg "abs" = none) (ha : AA X w0 (e :: es) ta) (he : starEach (e :: es) X.env = (false, eval e X.env) :: starEach es X.env := by rfl) (hpl : (backTo pos (starEach es X.env)).any (·.1) = false := by rfl) : AE X w0 (.Call (.Name "abs" p) (e :: es) [] pos) (aFn (f1 gAbs) ta) :=
  ae_callB call_abs (cs1 fun w d x P Q ok dx sx h k => by
    generalize see w.own d = d' at h sx
    match d', h, sx with
    | .int i, h, sx => exact ⟨i, by rw [dv_int.mp sx], ops_val ok k h (dt_int.mpr rfl)⟩) hg hm (by decide +kernel) ha (by decide) (by decide) he hpl
def gInt1 : D → (D → Prop) → Prop
  | .int i, P => P (.int i)
  | .bl b, P => P (.int (if b then 1 else 0))
  | _, _ => False
theorem ae_int1 (hg : Gl X "int") (hm : X.mg "int" = none) (ha : AA X w0 (e :: es) ta) (he : starEach (e :: es) X.env = (false, eval e X.env) :: starEach es X.env := by rfl) (hpl : (backTo pos (starEach es X.env)).any (·.1) = false := by rfl) : AE X w0 (.Call (.Name "int" p) (e :: es) [] pos) (aFn (f1 gInt1) ta) :=
  ae_callT call_int1 (cs1 fun w d x P Q ok dx sx h k => by
    generalize see w.own d = d' at h sx
    match d', h, sx with
    | .int i, h, sx => exact .inl ⟨i, by rw [dv_int.mp sx], ops_val ok k h (dt_int.mpr rfl)⟩
    | .bl b, h, sx => exact .inr ⟨b, by rw [dv_bl.mp sx], ops_val ok k h (dt_int.mpr rfl)⟩) hg hm (by decide +kernel) ha (by decide) (by decide) he hpl
/-! list(x), tuple(x) -/
def gList : D → (D → Prop) → Prop
  | .lst ds, P => P (.lst ds)
  | .tup ds, P => P (.lst ds)
  | _, _ => False
theorem ae_list (hg : Gl X "list") (hm : X.mg "list" = none) (ha : AA X w0 (e :: es) ta) (he : starEach (e :: es) X.env = (false, eval e X.env) :: starEach es X.env := by rfl) (hpl : (backTo pos (starEach es X.env)).any (·.1) = false := by rfl) : AE X w0 (.Call (.Name "list" p) (e :: es) [] pos) (aFn (f1 gList) ta) :=
  ae_callT call_list_of (cs1 fun w d x P Q ok dx sx h k => by
    generalize see w.own d = d' at h sx
    match d', h, sx with
    | .lst ds, h, sx =>
      obtain ⟨a, us, rfl, e1, e2⟩ := sx
      exact ⟨a, us, rfl, .inl (.inl e1), ops_lst ok k h e2 (by rw [← e2.length]; exact sqL_sz ok (.inl e1))⟩
    | .tup ds, h, sx =>
      obtain ⟨a, us, rfl, e1, e2⟩ := sx
      exact ⟨a, us, rfl, .inr e1, ops_lst ok k h e2 (by rw [← e2.length]; exact sqT_sz ok e1)⟩) hg hm (by decide +kernel) ha (by decide) (by decide) he hpl
def gTuple : D → (D → Prop) → Prop
  | .lst ds, P => P (.tup ds)
  | .tup ds, P => P (.tup ds)
  | _, _ => False
theorem ae_tuple (hg : Gl X "tuple") (hm : X.mg "tuple" = none) (ha : AA X w0 (e :: es) ta) (he : starEach (e :: es) X.env = (false, eval e X.env) :: starEach es X.env := by rfl) (hpl : (backTo pos (starEach es X.env)).any (·.1) = false := by rfl) : AE X w0 (.Call (.Name "tuple" p) (e :: es) [] pos) (aFn (f1 gTuple) ta) :=
  ae_callT call_tuple_of (cs1 fun w d x P Q ok dx sx h k => by
    generalize hd : see w.own d = d' at h sx
    match d', h, sx, hd with
    | .lst ds, h, sx, _ =>
      obtain ⟨a, us, rfl, e1, e2⟩ := sx
      exact ⟨a, us, rfl, .inl ⟨.inl e1, ops_tup ok k h e2 (by rw [← e2.length]; exact sqL_sz ok (.inl e1))⟩⟩
    | .tup ds, h, sx, hd =>
      obtain ⟨a, us, rfl, e1, e2⟩ := sx
      have ed := see_tup hd
      subst ed
      exact ⟨a, us, rfl, .inr ⟨e1, ops_val ok k h dx⟩⟩) hg hm (by decide +kernel) ha (by decide) (by decide) he hpl
/-! sum, all, any -/
def intsOf : List D → Option (List Int)
  | [] => some []
  | .int i :: ds => (intsOf ds).map (i :: ·)
  | _ => none
def blsOf : List D → Option (List Bool)
  | [] => some []
  | .bl i :: ds => (blsOf ds).map (i :: ·)
  | _ => none
theorem ints_v {K : PySem.W.Frag} {G : Hp} : ∀ {ds : List D} {vs : List V} {ns : List Int}, Dts K G ds vs → intsOf ds = some ns → vs = ns.map V.int
  | [], _, _, h, e => by unfold Dts at h; unfold intsOf at e; cases e; exact h
  | d :: ds, vs, ns, h, e => by
    unfold Dts at h
    obtain ⟨v, vr, rfl, h1, h2⟩ := h
    cases d <;> first | (unfold intsOf at e; cases e; done) | skip
    unfold intsOf at e
    cases e2 : intsOf ds with
    | none => rw [e2] at e; cases e
    | some ms =>
      rw [e2] at e; cases e
      rw [ints_v h2 e2, dt_int.mp h1]; rfl
theorem bls_v {K : PySem.W.Frag} {G : Hp} : ∀ {ds : List D} {vs : List V} {ns : List Bool}, Dts K G ds vs → blsOf ds = some ns → vs = ns.map V.bl
  | [], _, _, h, e => by unfold Dts at h; unfold blsOf at e; cases e; exact h
  | d :: ds, vs, ns, h, e => by
    unfold Dts at h
    obtain ⟨v, vr, rfl, h1, h2⟩ := h
    cases d <;> first | (unfold blsOf at e; cases e; done) | skip
    unfold blsOf at e
    cases e2 : blsOf ds with
    | none => rw [e2] at e; cases e
    | some ms =>
      rw [e2] at e; cases e
      rw [bls_v h2 e2, dt_bl.mp h1]; rfl
def gSum : D → (D → Prop) → Prop
  | .lst ds, P => oP (intsOf ds) fun ns => P (.int ns.sum)
  | _, _ => False
def gAll : D → (D → Prop) → Prop
  | .lst ds, P => oP (blsOf ds) fun bs => P (.bl (bs.all _root_.id))
  | _, _ => False
def gAny : D → (D → Prop) → Prop
  | .lst ds, P => oP (blsOf ds) fun bs => P (.bl (bs.any _root_.id))
  | _, _ => False
theorem ae_sum (hc : X.calm = true) (hg : Gl X "sum") (hm : X.mg "sum" = none) (ha : AA X w0 (e :: es) ta) (he : starEach (e :: es) X.env = (false, eval e X.env) :: starEach es X.env := by rfl) (hpl : (backTo pos (starEach es X.env)).any (·.1) = false := by rfl) : AE X w0 (.Call (.Name "sum" p) (e :: es) [] pos) (aFn (f1 gSum) ta) :=
  ae_callB (cr_sum hc) (cs1 fun w d x P Q ok dx sx h k => by
    generalize see w.own d = d' at h sx
    match d', h, sx with
    | .lst ds, h, sx =>
      obtain ⟨a, us, rfl, e1, e2⟩ := sx
      obtain ⟨ns, e3, h⟩ := oP_some (show oP (intsOf ds) (fun ns => P (.int ns.sum)) from h)
      rw [ints_v e2 e3] at e1
      exact ⟨a, ns, rfl, .inl e1, ops_val ok k h (dt_int.mpr rfl)⟩) hg hm (by decide +kernel) ha (by decide) (by decide) he hpl
theorem ae_all (hc : X.calm = true) (hg : Gl X "all") (hm : X.mg "all" = none) (ha : AA X w0 (e :: es) ta) (he : starEach (e :: es) X.env = (false, eval e X.env) :: starEach es X.env := by rfl) (hpl : (backTo pos (starEach es X.env)).any (·.1) = false := by rfl) : AE X w0 (.Call (.Name "all" p) (e :: es) [] pos) (aFn (f1 gAll) ta) :=
  ae_callB (cr_all hc) (cs1 fun w d x P Q ok dx sx h k => by
    generalize see w.own d = d' at h sx
    match d', h, sx with
    | .lst ds, h, sx =>
      obtain ⟨a, us, rfl, e1, e2⟩ := sx
      obtain ⟨ns, e3, h⟩ := oP_some (show oP (blsOf ds) (fun bs => P (.bl (bs.all _root_.id))) from h)
      rw [bls_v e2 e3] at e1
      exact ⟨a, ns, rfl, .inl e1, ops_val ok k h (dt_bl.mpr rfl)⟩) hg hm (by decide +kernel) ha (by decide) (by decide) he hpl
theorem ae_any (hc : X.calm = true) (hg : Gl X "any") (hm : X.mg "any" = none) (ha : AA X w0 (e :: es) ta) (he : starEach (e :: es) X.env = (false, eval e X.env) :: starEach es X.env := by rfl) (hpl : (backTo pos (starEach es X.env)).any (·.1) = false := by rfl) : AE X w0 (.Call (.Name "any" p) (e :: es) [] pos) (aFn (f1 gAny) ta) :=
  ae_callB (cr_any hc) (cs1 fun w d x P Q ok dx sx h k => by
    generalize see w.own d = d' at h sx
    match d', h, sx with
    | .lst ds, h, sx =>
      obtain ⟨a, us, rfl, e1, e2⟩ := sx
      obtain ⟨ns, e3, h⟩ := oP_some (show oP (blsOf ds) (fun bs => P (.bl (bs.any _root_.id))) from h)
      rw [bls_v e2 e3] at e1
      exact ⟨a, ns, rfl, .inl e1, ops_val ok k h (dt_bl.mpr rfl)⟩) hg hm (by decide +kernel) ha (by decide) (by decide) he hpl
/-! repr -/
def reprOk (d : D) : Bool := eqOk d && (toPy d).showable && decide ((toPy d).depth ≤ 64) && decide ((toPy d).shown.length ≤ sizeLine)
def reprD (d : D) : Str := (toPy d).shown
def gRepr : D → (D → Prop) → Prop
  | .tup ds, P => reprOk (.tup ds) = true ∧ P (.str (reprD (.tup ds)))
  | .lst ds, P => reprOk (.lst ds) = true ∧ P (.str (reprD (.lst ds)))
  | .non, P => P (.str (reprD .non))
  | .str x, P => reprOk (.str x) = true ∧ P (.str (reprD (.str x)))
  | _, _ => False
def rRepr (K : PySem.W.Frag) : List V → Hp → VK → Prop := fun xs H Q => (xs = [.non] ∧ Q (.str "None") H) ∨ (∃ z, xs = [.str z] ∧ (reprText z).length ≤ sizeLine ∧ Q (.str (reprText z)) H) ∨
  ∃ a d, xs = [.ref a] ∧ Dp K H (.ref a) d ∧ d.showable = true ∧ d.hasDict = false ∧ d.depth ≤ 64 ∧ d.shown.length ≤ sizeLine ∧ Q (.str d.shown) H
theorem call_reprD {k : Nat} (hr : Room k X.A) (hgd : X.A.guards = some []) : CallR X (.builtin "repr") (rRepr X.K) := by
  intro pins s σ H xs us Q I r h
  rcases h with ⟨rfl, q⟩ | ⟨z, rfl, hz, q⟩ | ⟨a, d, rfl, hd, h1, h2, h3, h4, q⟩
  · obtain ⟨u, rfl, rx⟩ := vals1 r
    cases rx
    exact PySem.P.repr_of_none ⟨.str _, H, I.tok _, ⟨_, rfl⟩, q⟩
  · obtain ⟨u, rfl, t, rfl⟩ := vals1 r
    exact PySem.P.repr_of_str ⟨.str _, H, I.tok _, ⟨_, rfl⟩, q⟩ hz
  · obtain ⟨u, rfl, rx⟩ := vals1 r
    cases rx
    obtain ⟨as, rd⟩ := Dp.reads I d _ _ hd rfl
    have hu := hr.units0
    have hu2 := hr.un
    exact repr_of_reads' rd h1 (fun e => by rw [h2] at e; cases e) hgd (by omega) (fun _ _ e => e) (fun h' u tk kp => ⟨.str _, H, I.kept kp, ⟨_, rfl⟩, q⟩) h4
theorem ae_repr {k : Nat} (hr : Room k X.A) (hgd : X.A.guards = some []) (hg : Gl X "repr") (hm : X.mg "repr" = none) (ha : AA X w0 (e :: es) ta) (he : starEach (e :: es) X.env = (false, eval e X.env) :: starEach es X.env := by rfl) (hpl : (backTo pos (starEach es X.env)).any (·.1) = false := by rfl) : AE X w0 (.Call (.Name "repr" p) (e :: es) [] pos) (aFn (f1 gRepr) ta) :=
  ae_callB (call_reprD hr hgd) (cs1 fun w d x P Q ok dx sx h k => by
    generalize see w.own d = d' at h sx
    have gen : ∀ ds : D, reprOk ds = true → DtV X.K w ds x → P (.str (reprD ds)) → Dp X.K w.H x (toPy ds) ∧ (toPy ds).showable = true ∧ (toPy ds).hasDict = false ∧ (toPy ds).depth ≤ 64 ∧ (toPy ds).shown.length ≤ sizeLine ∧ Q (.str (toPy ds).shown) w.H := fun ds o sx h => by
      unfold reprOk at o
      simp only [Bool.and_eq_true, decide_eq_true_eq] at o
      exact ⟨dv_dp ok o.1.1.1 sx, o.1.1.2, PyData.hasDict_of_canLay _ (canLay_of o.1.1.1), o.1.2, o.2, ops_val ok k h (dt_str.mpr rfl)⟩
    match d', h, sx with
    | .non, h, sx => exact .inl ⟨by rw [dv_non.mp sx], ops_val ok k h (dt_str.mpr (by simp only [reprD, toPy, PyData.shown]))⟩
    | .str z, h, sx =>
      have g := gen _ h.1 sx h.2
      refine .inr (.inl ⟨z, by rw [dv_str.mp sx], ?_, ?_⟩)
      · have := g.2.2.2.2.1; simpa only [toPy, PyData.shown] using this
      · have := g.2.2.2.2.2; simpa only [toPy, PyData.shown] using this
    | .tup ds, h, sx =>
      have g := gen _ h.1 sx h.2
      obtain ⟨a, us, rfl, e1, e2⟩ := sx
      exact .inr (.inr ⟨a, _, rfl, g⟩)
    | .lst ds, h, sx =>
      have g := gen _ h.1 sx h.2
      obtain ⟨a, us, rfl, e1, e2⟩ := sx
      exact .inr (.inr ⟨a, _, rfl, g⟩)) hg hm (by decide +kernel) ha (by decide) (by decide) he hpl
end
end L3

namespace L3
open PySem PySem.Spec PyProof.Rows L2

/-! ### texts -/
def strsOf : List D → Option (List Str)
  | [] => some []
  | .str i :: ds => (strsOf ds).map (i :: ·)
  | _ => none
theorem strs_v {K : PySem.W.Frag} {G : Hp} : ∀ {ds : List D} {vs : List V} {ns : List Str}, Dts K G ds vs → strsOf ds = some ns → vs = ns.map V.str
  | [], _, _, h, e => by unfold Dts at h; unfold strsOf at e; cases e; exact h
  | d :: ds, vs, ns, h, e => by
    unfold Dts at h
    obtain ⟨v, vr, rfl, h1, h2⟩ := h
    cases d <;> first | (unfold strsOf at e; cases e; done) | skip
    unfold strsOf at e
    cases e2 : strsOf ds with
    | none => rw [e2] at e; cases e
    | some ms =>
      rw [e2] at e; cases e
      rw [strs_v h2 e2, dt_str.mp h1]; rfl
def gJoin (a : Str) (P : D → Prop) (ys : List Str) : Prop := (ys.map (·.length)).sum + ys.length * a.length ≤ 16777216 ∧ P (.str (Str.join a ys))
def fJoin : BinF := fun own d e P => match d, see own e with
  | .str a, .lst ds => oP (strsOf ds) (gJoin a P)
  | .str a, .tup ds => oP (strsOf ds) (gJoin a P)
  | _, _ => False
/-- o.m(e): a method of a text, one argument -/
def aM1 (f : BinF) (to te : ATE) : ATE := fun env own P => to env own fun d o1 => te env o1 fun e o2 => (∃ a, d = .str a) ∧ f o2 d e fun z => P z o2
section
variable {X : Cx} {w0 : Wd} {o e : Expr} {to te : ATE} {pos apos : Pos}
theorem m1_of {r : V → List V → Hp → VK → Prop} {f : BinF} {σ : L2.St} {H : Hp} {Q : VK} (hs : OpS X.K (fun x y H Q => r x [y] H Q) f) (hstr : ∀ own d e P, f own d e P → ∃ a, d = .str a)
    (h : concE X.K w0 (aBin f to te) σ H Q) (h0 : ∃ a, ∀ env own P, to env own P → P (.str a) own) : True := trivial
def aJoin (to te : ATE) : ATE := fun env own P => to env own fun d o1 => ∃ a, d = .str a ∧ te env o1 fun e o2 => fJoin o2 d e fun z => P z o2
theorem ae_join (ho : AE X w0 o to) (he : AE X w0 e te) (hs : starEach [e] X.env = [(false, eval e X.env)] := by rfl) (hbase : attributeBase o "join" X.env (eval o X.env) = eval o X.env := by rfl) (hline : (apos.endLine == pos.line) = true := by rfl) :
    AE X w0 (.Call (.Attribute o "join" apos) [e] [] pos) (aJoin to te) := pe_of (pe_join ho he hs hbase hline) fun σ H Q h => by
  obtain ⟨env, w, rfl, ok, tr0, er, P, h, k⟩ := h
  refine ⟨env, w, rfl, ok, tr0, er, _, h, fun d w1 x h1 t1 ok1 dx => ?_⟩
  obtain ⟨a, rfl, h1⟩ := h1
  have ex := dt_str.mp dx
  subst ex
  refine ⟨⟨a, rfl⟩, env, w1, rfl, ok1, tr0.trans t1, er.mono t1.gs, _, h1, fun e w2 y h2 t2 ok2 dy => ?_⟩
  have sy := see_ok ok2 dy
  have kk : ∀ z w' v, P z w2.own → w'.own = w2.own → Tr w2 w' → w'.Ok X.K → Dt X.K w'.G z v → Q v w'.H := fun z w' v h4 ho t4 ok4 d4 => k z w' v (by rw [ho]; exact h4) ((t1.trans t2).trans t4) ok4 d4
  cases e3 : see w2.own e with
  | lst ds =>
    unfold fJoin at h2
    simp only [e3] at h2
    rw [e3] at sy
    obtain ⟨ys, e4, h3, h5⟩ := oP_some h2
    obtain ⟨p, us, rfl, e1, e2⟩ := sy
    rw [strs_v e2 e4] at e1
    refine ⟨a, p, ys, rfl, rfl, .inl (.inl e1), h3, ?_⟩
    rw [TL.join_eq]
    exact ops_val ok2 (P := fun z => P z w2.own) kk h5 (dt_str.mpr rfl)
  | tup ds =>
    unfold fJoin at h2
    simp only [e3] at h2
    rw [e3] at sy
    obtain ⟨ys, e4, h3, h5⟩ := oP_some h2
    obtain ⟨p, us, rfl, e1, e2⟩ := sy
    rw [strs_v e2 e4] at e1
    refine ⟨a, p, ys, rfl, rfl, .inr e1, h3, ?_⟩
    rw [TL.join_eq]
    exact ops_val ok2 (P := fun z => P z w2.own) kk h5 (dt_str.mpr rfl)
  | non => unfold fJoin at h2; simp only [e3] at h2
  | bl _ => unfold fJoin at h2; simp only [e3] at h2
  | int _ => unfold fJoin at h2; simp only [e3] at h2
  | str _ => unfold fJoin at h2; simp only [e3] at h2
  | ty _ => unfold fJoin at h2; simp only [e3] at h2
  | kls _ => unfold fJoin at h2; simp only [e3] at h2
  | ref _ => unfold fJoin at h2; simp only [e3] at h2
  | dct _ => unfold fJoin at h2; simp only [e3] at h2
/-! f-strings -/
def aFmt (te : ATE) : ATE := fun env own P => te env own fun d o => match d with
  | .str y => y.length ≤ sizeLine ∧ P (.str y) o
  | .int i => i.natAbs.log2 < 1920 ∧ P (.str (toString i)) o
  | _ => False
theorem ae_fmt (he : AE X w0 e te) : AE X w0 (.FormattedValue e (-1) none pos) (aFmt te) := pe_of (pe_fmt he) fun σ H Q h => by
  obtain ⟨env, w, rfl, ok, tr0, er, P, h, k⟩ := h
  refine ⟨env, w, rfl, ok, tr0, er, _, h, fun d w1 x h1 t1 ok1 dx => ?_⟩
  match d, h1, dx with
  | .str y, h1, dx => exact .inl ⟨y, dt_str.mp dx, h1.1, k _ w1 _ h1.2 t1 ok1 (dt_str.mpr rfl)⟩
  | .int i, h1, dx => exact .inr ⟨i, dt_int.mp dx, h1.1, k _ w1 _ h1.2 t1 ok1 (dt_str.mpr rfl)⟩
def aJs : List ATE → Str → AEnv → Own → (Str → Own → Prop) → Prop
  | [], acc, _, own, P => P acc own
  | t :: ts, acc, env, own, P => t env own fun d o => match d with
    | .str y => (acc ++ y).length ≤ sizeLine ∧ aJs ts (acc ++ y) env o P
    | _ => False
inductive AJ (X : Cx) (w0 : Wd) : List Expr → List ATE → Prop where
  | nil : AJ X w0 [] []
  | cons {e : Expr} {t : ATE} {es : List Expr} {ts : List ATE} (h : AE X w0 e t) (r : AJ X w0 es ts) : AJ X w0 (e :: es) (t :: ts)
theorem AJ.pj : ∀ {es : List Expr} {ts : List ATE}, AJ X w0 es ts → PJ X es (ts.map (concE X.K w0))
  | _, _, .nil => .nil
  | _, _, .cons h r => .cons h r.pj
theorem js_of {Q : Str → Hp → Prop} {env : AEnv} {σ : L2.St} {w : Wd} : ∀ {ts : List ATE} {acc : Str} {w1 : Wd} {P : Str → Own → Prop}, w1.Ok X.K → Tr w w1 → Tr w0 w1 → EnvR X.K w1.G env σ → aJs ts acc env w1.own P →
    (∀ z (w' : Wd), P z w'.own → Tr w w' → w'.Ok X.K → Q z w'.H) → tJs (ts.map (concE X.K w0)) acc σ w1.H Q
  | [], acc, w1, P, ok1, t1, tr, er, h, k => k acc w1 h t1 ok1
  | t :: ts, acc, w1, P, ok1, t1, tr, er, h, k => by
    refine ⟨env, w1, rfl, ok1, tr, er, _, h, fun d w2 x h2 t2 ok2 dx => ?_⟩
    match d, h2, dx with
    | .str y, h2, dx => exact ⟨y, dt_str.mp dx, h2.1, js_of ok2 (t1.trans t2) (tr.trans t2) (er.mono t2.gs) h2.2 k⟩
def aJoined (ts : List ATE) : ATE := fun env own P => aJs ts Str.empty env own fun z o => P (.str z) o
theorem ae_joined {v1 v2 : Expr} {rest : List Expr} {ts : List ATE} (h : AJ X w0 (v1 :: v2 :: rest) ts) : AE X w0 (.JoinedStr (v1 :: v2 :: rest) pos) (aJoined ts) := pe_of (pe_joined h.pj) fun σ H Q h => by
  obtain ⟨env, w, rfl, ok, tr0, er, P, h, k⟩ := h
  exact js_of ok (Tr.refl w) tr0 er h fun z w' hz t' ok' => k (.str z) w' _ hz t' ok' (dt_str.mpr rfl)
theorem ae_joined1 (h : AE X w0 e te) : AE X w0 (.JoinedStr [e] pos) te := pe_joined1 h
end

/-! ### lists of one's own -/
/-- the thing is a list of one's own -/
def ownL (own : Own) (d : D) (k : Addr → List D → Prop) : Prop := ∃ p ds, d = .ref p ∧ own p = some (.lst ds) ∧ k p ds
theorem ownL_ok {K : PySem.W.Frag} {w : Wd} (ok : w.Ok K) {p : Addr} {ds : List D} (h : w.own p = some (.lst ds)) : ∃ vs, w.H p = some (.lst vs) ∧ Dts K w.G ds vs := by
  obtain ⟨_, o, e1, e2⟩ := ok.own p _ h
  cases o <;> first | exact (e2 : False).elim | skip
  exact ⟨_, e1, e2⟩
def aApp (to te : ATE) : ATE := fun env own P => to env own fun d o1 => ownL o1 d fun _ _ => te env o1 fun e o2 => ownL o2 d fun p ds => ds.length < sizeLine ∧ P .non (oset o2 p (.lst (ds ++ [e])))
def aPop (to : ATE) : ATE := fun env own P => to env own fun d o1 => ownL o1 d fun p ds => ∃ x, ds[ds.length - 1]? = some x ∧ P x (oset o1 p (.lst ds.dropLast))
theorem dts_dropLast {K : PySem.W.Frag} {G : Hp} {ds : List D} {vs : List V} (h : Dts K G ds vs) : Dts K G ds.dropLast vs.dropLast := by
  rw [List.dropLast_eq_take, List.dropLast_eq_take, h.length]; exact h.take _
section
variable {X : Cx} {w0 : Wd} {o e : Expr} {to te : ATE} {pos apos : Pos}
theorem ae_append (ho : AE X w0 o to) (he : AE X w0 e te) (hbase : attributeBase o "append" X.env (eval o X.env) = eval o X.env := by rfl)
    (hfew : ((backTo pos (starEach (e :: []) X.env)).all (fun x => !x.1) && (backToKw pos (keywordEach [] X.env)).all (fun x => x.1.isSome)
      && decide ((e :: []).length + ([] : List Keyword).length + (if ([] : List Keyword).isEmpty then 0 else 1) < 30)) = true := by rfl)
    (hline : (apos.endLine == pos.line) = true := by rfl) (hs : starEach (e :: []) X.env = (false, eval e X.env) :: starEach [] X.env := by rfl) (hplain : (backTo pos (starEach [] X.env)).any (·.1) = false := by rfl) :
    AE X w0 (.Call (.Attribute o "append" apos) [e] [] pos) (aApp to te) := pe_of (pe_bm PySem.F.plainAttrs_list PySem.F.slot_list_append PySem.F.type_list_append mt_append ho (pa_cons he pa_nil hs) hbase hfew hline hs hplain) fun σ H Q h => by
  obtain ⟨env, w, rfl, ok, tr0, er, P, h, k⟩ := h
  refine ⟨env, w, rfl, ok, tr0, er, _, h, fun d w1 x h1 t1 ok1 dx => ?_⟩
  obtain ⟨p, ds0, rfl, e1, h1⟩ := h1
  have ex := dt_ref.mp dx
  subst ex
  obtain ⟨us, a1, a2⟩ := ownL_ok ok1 e1
  refine ⟨.inl ⟨rfl, us, .of a1⟩, env, w1, rfl, ok1, tr0.trans t1, er.mono t1.gs, _, h1, fun d2 w2 y h2 t2 ok2 dy => ?_⟩
  obtain ⟨q, ds, e2, e3, hz, h3⟩ := h2
  cases e2
  obtain ⟨vs, b1, b2⟩ := ownL_ok ok2 e3
  refine ⟨p, vs, y, rfl, rfl, b1, by rw [b2.length]; exact hz, ?_⟩
  have r : MoR X.K w2.G (.lst (ds ++ [d2])) (.lst (vs ++ [y])) := b2.snoc dy
  obtain ⟨ok3, t3⟩ := ok2.mine (.inr ⟨_, e3⟩) (show SzOk (.lst (vs ++ [y])) by show (vs ++ [y]).length ≤ sizeLine; rw [List.length_append, b2.length]; exact hz) r
  exact k .non _ .non h3 ((t1.trans t2).trans t3) ok3 (dt_non.mpr rfl)
theorem ae_pop (ho : AE X w0 o to) (hbase : attributeBase o "pop" X.env (eval o X.env) = eval o X.env := by rfl) (hline : (apos.endLine == pos.line) = true := by rfl) :
    AE X w0 (.Call (.Attribute o "pop" apos) [] [] pos) (aPop to) := pe_of (pe_bm0 PySem.F.plainAttrs_list PySem.F.slot_list_pop PySem.F.type_list_pop mt_pop ho hbase hline) fun σ H Q h => by
  obtain ⟨env, w, rfl, ok, tr0, er, P, h, k⟩ := h
  refine ⟨env, w, rfl, ok, tr0, er, _, h, fun d w1 x h1 t1 ok1 dx => ?_⟩
  obtain ⟨p, ds, rfl, e1, z, e2, h1⟩ := h1
  have ex := dt_ref.mp dx
  subst ex
  obtain ⟨us, a1, a2⟩ := ownL_ok ok1 e1
  obtain ⟨v, b1, b2⟩ := a2.get e2
  refine ⟨.inl ⟨rfl, us, .of a1⟩, p, us, v, rfl, rfl, a1, by rw [a2.length]; exact b1, ?_⟩
  have r : MoR X.K w1.G (.lst ds.dropLast) (.lst us.dropLast) := dts_dropLast a2
  have hz := ok1.sz p _ a1
  obtain ⟨ok3, t3⟩ := ok1.mine (.inr ⟨_, e1⟩) (show SzOk (.lst us.dropLast) by show us.dropLast.length ≤ sizeLine; rw [List.length_dropLast]; exact Nat.le_trans (Nat.sub_le _ _) hz) r
  exact k z _ v h1 (t1.trans t3) ok3 (b2.mono t3.gs)
/-- xs[i] = .. -/
def gSubL (to ti : ATE) : ATG := fun d env own P => to env own fun x o1 => ti env o1 fun y o2 => ∃ i, y = .int i ∧ ownL o2 x fun p ds => ∃ j, ixN ds.length i = some j ∧ P env (oset o2 p (.lst (ds.set j d)))
variable {i : Expr} {ti : ATE}
theorem ag_sub {vs : List Nat} (ho : AE X w0 o to) (hi : AE X w0 i ti) (ha : ∀ v, assign (.Subscript o i pos) X.env v = (do
      let ov ← holding [v] (eval o X.env)
      let iv ← holding [v, ov] (eval i X.env)
      standAt pos
      holding [v, ov, iv] (setItem ov iv v)
      release [v, ov, iv] []) := by intro _; rfl) : AG X w0 vs (.Subscript o i pos) (gSubL to ti) := pg_of (pg_sub ho hi set_list ha) fun v σ H Q h => by
  obtain ⟨env, w, rfl, ok, tr0, er, d, P, dv, h, k⟩ := h
  refine ⟨env, w, rfl, ok, tr0, er, _, h, fun x w1 vx h1 t1 ok1 dx => ?_⟩
  refine ⟨env, w1, rfl, ok1, tr0.trans t1, er.mono t1.gs, _, h1, fun y w2 vy h2 t2 ok2 dy => ?_⟩
  obtain ⟨n, rfl, p, ds, rfl, e1, j, e2, h3⟩ := h2
  obtain ⟨us, a1, a2⟩ := ownL_ok ok2 e1
  refine ⟨p, us, n, j, dt_ref.mp dx, dt_int.mp dy, a1, by rw [a2.length]; exact e2, ?_⟩
  have T2 := t1.trans t2
  have r : MoR X.K w2.G (.lst (ds.set j d)) (.lst (us.set j v)) := Dts.set j a2 (dv.mono T2.gs)
  have hz := ok2.sz p _ a1
  obtain ⟨ok3, t3⟩ := ok2.mine (.inr ⟨_, e1⟩) (show SzOk (.lst (us.set j v)) by show (us.set j v).length ≤ sizeLine; rw [List.length_set]; exact hz) r
  exact k env _ σ h3 (T2.trans t3) ok3 ((er.mono T2.gs).mono t3.gs) (Only.refl _ _)
end

/-! ### written dicts with text keys -/
def tabV (K : PySem.W.Frag) : Option D → Option Value → Prop
  | some d, some u => ∃ v, RelV v u ∧ ∀ G, Dt K G d v
  | none, none => True
  | _, _ => False
structure KTab (K : PySem.W.Frag) (w : World) (d : Addr) (tab : Str → Option D) : Prop where
  ex : ∃ (es : Array DictEntry) (n : Nat), K.lookup d = some ⟨.type "dict", none, .dict es n, #[]⟩ ∧ PySem.W.KeysLit w.params es.toList ∧ (d == sysModules) = false ∧ ∀ z, tabV K (tab z) (findBy Value.isStrOf es z)
section
variable {X : Cx} {w0 : Wd} {d : Addr} {tab : Str → Option D}
theorem op_inTab (T : KTab X.K X.w d tab) : OpR X (compareOp .In) (fun x y H Q => ∃ z, x = .str z ∧ y = .ref d ∧ Q (.bl (tab z).isSome) H) := by
  intro pins s σ H x y v u Q I rx ry h
  obtain ⟨z, rfl, rfl, q⟩ := h
  obtain ⟨es, n, e1, e2, e3, e4⟩ := T.ex
  obtain ⟨t, rfl⟩ := rx
  cases ry
  refine wpAny_in_of (PySem.strKind_is X.prog X.w z t) e3 (PySem.W.mapOf_K (prog := X.prog) I.kIn e1 e2) ⟨.bl _, H, I.tok _, ?_, q⟩
  have h4 := e4 z
  cases a : tab z <;> cases b : findBy Value.isStrOf es z <;> rw [a, b] at h4 <;> first | rfl | exact h4.elim
theorem op_notInTab (T : KTab X.K X.w d tab) : OpR X (compareOp .NotIn) (fun x y H Q => ∃ z, x = .str z ∧ y = .ref d ∧ Q (.bl (!(tab z).isSome)) H) := by
  intro pins s σ H x y v u Q I rx ry h
  obtain ⟨z, rfl, rfl, q⟩ := h
  obtain ⟨es, n, e1, e2, e3, e4⟩ := T.ex
  obtain ⟨t, rfl⟩ := rx
  cases ry
  refine wpAny_notIn_of (PySem.strKind_is X.prog X.w z t) e3 (PySem.W.mapOf_K (prog := X.prog) I.kIn e1 e2) ⟨.bl _, H, I.tok _, ?_, q⟩
  have h4 := e4 z
  cases a : tab z <;> cases b : findBy Value.isStrOf es z <;> rw [a, b] at h4 <;> first | rfl | exact h4.elim
theorem ix_tab (T : KTab X.K X.w d tab) : IxR X (fun x y H Q => ∃ z, x = .ref d ∧ y = .str z ∧ oP (tab z) fun r => ∀ v, (∀ G, Dt X.K G r v) → Q v H) := by
  intro value slice pins s σ H x y v u Q I rx ry h hs
  obtain ⟨z, rfl, rfl, h⟩ := h
  obtain ⟨r, er, q⟩ := oP_some h
  obtain ⟨es, n, e1, e2, e3, e4⟩ := T.ex
  obtain rfl : v = Value.ref d := rx
  obtain ⟨t, rfl⟩ := ry
  have hm := PySem.W.mapOf_K (prog := X.prog) (w := X.w) I.kIn e1 e2
  have h4 := e4 z
  rw [er] at h4
  cases b : findBy Value.isStrOf es z with
  | none => rw [b] at h4; exact h4.elim
  | some u0 =>
    rw [b] at h4
    obtain ⟨v0, r0, d0⟩ := h4
    exact tail_any hm.typeIs slot_dict_getitem.lookup (wpAny_getItem_of (PySem.strKind_is X.prog X.w z t) hm b ⟨v0, H, I.tok _, r0, q v0 d0⟩) hs
theorem tab_get (T : KTab X.K X.w d tab) {pins : List (Addr × Obj)} {σ : L2.St} {H : Hp} {s : Shared} {z : Str} {t : Tok} {dv : V} {u : Value} {Q : VK} (I : Inv X pins σ H s) (ru : RelV dv u)
    (q1 : ∀ r, tab z = some r → ∀ v, (∀ G, Dt X.K G r v) → Q v H) (q2 : tab z = none → Q dv H) : wpAny (model X.prog X.w) X.A (call (.builtin "dict.get") [.ref d, .str z t, u]) (EP X pins σ Q) X.xe s := by
  obtain ⟨es, n, e1, e2, e3, e4⟩ := T.ex
  have hm := PySem.W.mapOf_K (prog := X.prog) (w := X.w) I.kIn e1 e2
  refine call_meetsIn PySem.F.slot_dict_get hm.typeIs PySem.F.entry_dict_get (PySem.F.args_dict_get_3 _ _ _) (meets_dict_get_default (strKind X.prog X.w) d (PySem.strKind_is X.prog X.w z t) e3 u) ⟨_, hm, ?_⟩
  have h4 := e4 z
  show EP X pins σ Q ((findBy Value.isStrOf es z).getD u) _
  cases a : tab z with
  | none =>
    rw [a] at h4
    cases b : findBy Value.isStrOf es z with
    | none => exact ⟨dv, H, I.tok _, ru, q2 a⟩
    | some u0 => rw [b] at h4; exact h4.elim
  | some r =>
    rw [a] at h4
    cases b : findBy Value.isStrOf es z with
    | none => rw [b] at h4; exact h4.elim
    | some u0 =>
      rw [b] at h4
      obtain ⟨v0, r0, d0⟩ := h4
      exact ⟨v0, H, I.tok _, r0, q1 r a v0 d0⟩
def fInTab (tab : Str → Option D) (d : Addr) (neg : Bool) : BinF := fun _ x y P => ∃ z, x = .str z ∧ y = .ref d ∧ P (.bl (if neg then !(tab z).isSome else (tab z).isSome))
theorem os_inTab {K : PySem.W.Frag} (neg : Bool) : OpS K (fun x y H Q => ∃ z, x = .str z ∧ y = .ref d ∧ Q (.bl (if neg then !(tab z).isSome else (tab z).isSome)) H) (fInTab tab d neg) := by
  intro w a b x y P Q ok dx dy h k
  obtain ⟨z, rfl, rfl, h⟩ := h
  exact ⟨z, dt_str.mp dx, dt_ref.mp dy, ops_val ok k h (dt_bl.mpr rfl)⟩
variable {a b : Expr} {ta tb : ATE} {pos : Pos}
theorem at_inTab (T : KTab X.K X.w d tab) (ha : AE X w0 a ta) (hb : AE X w0 b tb) (hm : behindInMarks .In b = false := by rfl) : AT X w0 (.Compare a [.In] [b] pos) (aB (aBin (fInTab tab d false) ta tb)) := at_cmp (op_inTab T) (os_inTab false) ha hb hm
theorem at_notinTab (T : KTab X.K X.w d tab) (ha : AE X w0 a ta) (hb : AE X w0 b tb) (hm : behindInMarks .NotIn b = false := by rfl) : AT X w0 (.Compare a [.NotIn] [b] pos) (aB (aBin (fInTab tab d true) ta tb)) := at_cmp (op_notInTab T) (os_inTab true) ha hb hm
def fIxTab (tab : Str → Option D) (d : Addr) : BinF := fun _ x y P => ∃ z, x = .ref d ∧ y = .str z ∧ oP (tab z) P
theorem ae_ixTab (T : KTab X.K X.w d tab) (ha : AE X w0 a ta) (hb : AE X w0 b tb) (hp : PlainIx b := by exact fun _ _ => rfl) : AE X w0 (.Subscript a b pos) (aBin (fIxTab tab d) ta tb) := ae_sub (ix_tab T) (by
  intro w x y vx vy P Q ok dx dy h k
  obtain ⟨z, rfl, rfl, h⟩ := h
  obtain ⟨r, er, h⟩ := oP_some h
  refine ⟨z, dt_ref.mp dx, dt_str.mp dy, ?_⟩
  rw [er]
  exact fun v hv => ops_val ok k h (hv _)) ha hb hp
/-- D.get(x, y) of a written dict -/
def aGetTab (tab : Str → Option D) (te tf : ATE) : ATE := fun env own P => te env own fun x o1 => tf env o1 fun y o2 => ∃ z, x = .str z ∧ P ((tab z).getD y) o2
theorem ae_getTab {x : Str} {e f : Expr} {te tf : ATE} {np apos cpos : Pos} (T : KTab X.K X.w d tab) (hg : Gl X x) (hm : X.mg x = some (.ref d)) (he : AE X w0 e te) (hf : AE X w0 f tf) (m : M2 X (.Name x np) "get" apos e f cpos := by exact ⟨rfl, rfl, rfl, rfl⟩) (hdb : (x == ("__debug__" : Str)) = false := by decide) :
    AE X w0 (.Call (.Attribute (.Name x np) "get" apos) [e, f] [] cpos) (aGetTab tab te tf) := by
  refine ⟨fun pins s σ H Q I h => ?_⟩
  obtain ⟨env, w, rfl, ok, tr0, er, P, h, k⟩ := h
  obtain ⟨es, n, e1, e2, e3, e4⟩ := T.ex
  refine wpAny_Call_method m.base m.few m.line PySem.F.plainAttrs_dict PySem.F.slot_dict_get PySem.F.type_dict_get (ld_glob I hg hm ?_ hdb)
  have hmo := PySem.W.mapOf_K (prog := X.prog) (w := X.w) I.kIn e1 e2
  refine ⟨hmo.typeIs, fun b q => ?_, ?_⟩
  · cases q; exact ⟨_, I.kIn _ _ e1, rfl⟩
  rw [m.trees]
  have A1 := he.run pins s σ w.H (fun vx H1 => ∃ (dx : D) (w1 : Wd), w1.H = H1 ∧ (tf env w1.own fun y o2 => ∃ z, dx = .str z ∧ P ((tab z).getD y) o2) ∧ Tr w w1 ∧ w1.Ok X.K ∧ Dt X.K w1.G dx vx) I
    ⟨env, w, rfl, ok, tr0, er, _, h, fun dx w1 vx h1 t1 ok1 ddx => ⟨dx, w1, rfl, h1, t1, ok1, ddx⟩⟩
  refine Calls.callWith_builtin rfl (Calls.evalArgs_plain (Calls.spliced_cons (thn A1 fun iv s2 ⟨y, H2, I2, ry, dx, w1, e5, h1, t1, ok1, ddx⟩ => ?_)))
  subst e5
  have A2 := hf.run pins s2 σ w1.H (fun vy H2 => ∃ (dy : D) (w2 : Wd), w2.H = H2 ∧ (∃ z, dx = .str z ∧ P ((tab z).getD dy) w2.own) ∧ Tr w1 w2 ∧ w2.Ok X.K ∧ Dt X.K w2.G dy vy) I2
    ⟨env, w1, rfl, ok1, tr0.trans t1, er.mono t1.gs, _, h1, fun dy w2 vy h2 t2 ok2 ddy => ⟨dy, w2, rfl, h2, t2, ok2, ddy⟩⟩
  refine Calls.spliced_cons (thn A2 fun fv s3 ⟨z, H3, I3, rz, dy, w2, e6, h2, t2, ok2, ddy⟩ => Calls.spliced_nil ?_)
  subst e6
  obtain ⟨zz, rfl, h2⟩ := h2
  have ex := dt_str.mp ddx
  subst ex
  obtain ⟨t, rfl⟩ := ry
  refine tab_get T I3 rz (fun r er v hv => ?_) fun er => ?_
  · rw [er] at h2
    exact k r w2 v h2 (t1.trans t2) ok2 (hv _)
  · rw [er] at h2
    exact k dy w2 z h2 (t1.trans t2) ok2 ddy
end
end L3

namespace L3
open PySem PySem.Spec PyProof.Rows L2
/-! ### isinstance -/
def tyN : D → Option String
  | .non => some "NoneType"
  | .bl _ => some "bool"
  | .int _ => some "int"
  | .str _ => some "str"
  | .tup _ => some "tuple"
  | .lst _ => some "list"
  | _ => none
def fIsi : CallF := fun own ds P => match ds with
  | [d, .ty n] => oP (tyN (see own d)) fun m => oP (kitB m n) fun b => P (.bl b)
  | _ => False
theorem tyX_of {K : PySem.W.Frag} {w : Wd} {d : D} {v : V} {m : String} (h : DtV K w d v) (e : tyN d = some m) : TyX K w.H v (.type m) := by
  cases d <;> unfold tyN at e <;> cases e
  case non => have h' : Dt K w.G .non v := h; unfold Dt at h'; subst h'; exact .base .non
  case bl => have h' : Dt K w.G (.bl _) v := h; unfold Dt at h'; subst h'; exact .base (.bl _)
  case int => have h' : Dt K w.G (.int _) v := h; unfold Dt at h'; subst h'; exact .base (.int _)
  case str => have h' : Dt K w.G (.str _) v := h; unfold Dt at h'; subst h'; exact .base (.str _)
  case tup =>
    obtain ⟨a, vs, rfl, e2, _⟩ := h
    rcases e2 with (e2 | ⟨o, e2⟩) | ⟨o, its, n, e1, e2, _⟩
    · exact .base (.tup e2)
    · exact .fTuple e2
    · exact .kTuple e1 e2
  case lst =>
    obtain ⟨a, vs, rfl, e2, _⟩ := h
    rcases e2 with e2 | ⟨o, e2⟩
    · exact .base (.lst e2)
    · exact .base (.frz e2)
theorem cs_isi {K : PySem.W.Frag} : CallS K (rIsi K) fIsi := by
  intro w ds xs P Q ok dv h k
  unfold fIsi at h
  split at h
  · rename_i d n
    obtain ⟨v, u, rfl, d1, d2⟩ := dts_two dv
    obtain ⟨m, e1, h⟩ := oP_some h
    obtain ⟨b, e2, h⟩ := oP_some h
    have d2' := dt_ty.mp d2
    subst d2'
    exact ⟨v, .ty n, .type m, .type n, b, rfl, .ty n, tyX_of (see_ok ok d1) e1, kit_ty e2, k _ w _ h rfl (Tr.refl w) ok (by unfold Dt; rfl)⟩
  · exact h.elim
section
variable {X : Cx} {w0 : Wd} {e : Expr} {es : List Expr} {ta : ATA} {x : Str} {p pos : Pos}
theorem ae_ty (n : String) (hg : Gl X x) (hm : X.mg x = none) (hv : bootBuiltins x = some (.type n)) (hn : x ≠ "__name__" := by decide) (hd : (x == ("__debug__" : Str)) = false := by decide) : AE X w0 (.Name x p) (aC (.ty n)) := pe_of (pe_bltn (v := .ty n) hg hm hv rfl hn hd) fun σ H Q h => by
  obtain ⟨env, w, rfl, ok, tr0, er, P, h, k⟩ := h
  exact k _ w _ h (Tr.refl w) ok (by unfold Dt; rfl)
theorem ae_isi (hg : Gl X "isinstance") (hm : X.mg "isinstance" = none) (ha : AA X w0 (e :: es) ta) (he : starEach (e :: es) X.env = (false, eval e X.env) :: starEach es X.env := by rfl) (hpl : (backTo pos (starEach es X.env)).any (·.1) = false := by rfl) : AE X w0 (.Call (.Name "isinstance" p) (e :: es) [] pos) (aFn fIsi ta) :=
  ae_callB call_isi cs_isi hg hm rfl ha (he := he) (hpl := hpl)
end
/-! ### calls with keywords -/
section
variable {X : Cx} {w0 : Wd} {e : Expr} {kws : List Keyword} {nm : Option Str} {kpos : Pos} {te : ATE} {tr : ATA}
abbrev AK (X : Cx) (w0 : Wd) (kws : List Keyword) (t : ATA) : Prop := PK X kws (concA X.K w0 t)
theorem ak_nil : AK X w0 [] aNil := ⟨fun pos pins s σ H Q I h => pk_nil.run pos pins s σ H Q I (by
  obtain ⟨env, w, rfl, ok, tr0, er, P, h, k⟩ := h
  exact k [] w [] h (Tr.refl w) ok .nil)⟩
theorem ak_cons (ha : AE X w0 e te) (hr : AK X w0 kws tr) : AK X w0 (⟨nm, e, kpos⟩ :: kws) (aCons te tr) := ⟨fun pos pins s σ H Q I h => (pk_cons ha hr).run pos pins s σ H Q I (by
  obtain ⟨env, w, rfl, ok, tr0, er, P, h, k⟩ := h
  refine ⟨env, w, rfl, ok, tr0, er, _, h, fun d w1 x h1 t1 ok1 dx => ?_⟩
  exact ⟨env, w1, rfl, ok1, tr0.trans t1, er.mono t1.gs, _, h1, fun ds w2 vs h2 t2 ok2 dv => k (d :: ds) w2 (x :: vs) h2 (t1.trans t2) ok2 (.cons (dx.mono t2.gs) dv)⟩)⟩
end
/-- the def of this name keeps its promise, called with keywords ks behind n values -/
structure KnK (P : Program) (w : World) (K : PySem.W.Frag) (mg : Str → Option Value) (base : Heap) (k : Nat) (x : Str) (ps : List Str) (n : Nat) (ks : List Str) (S : Spec) : Prop where
  ex : ∃ (f : Addr) (fd : FuncData), mg x = some (.ref f) ∧ PySem.W.keepIn K (.ref f) = true ∧ n + ks.length = ps.length ∧ (∀ (s : Shared) (us ws : List Value), us.length = n → ws.length = ks.length → BindsTo s fd ⟨us, ks.zip ws⟩ (ps.zip (us ++ ws))) ∧ FnG P w K mg base CX0 k f fd ps (spOf K S)
theorem KnK.mono {P : Program} {w : World} {K : PySem.W.Frag} {mg : Str → Option Value} {base : Heap} {k j : Nat} {x : Str} {ps : List Str} {n : Nat} {ks : List Str} {S : Spec} (F : KnK P w K mg base j x ps n ks S) (h : j ≤ k) : KnK P w K mg base k x ps n ks S :=
  let ⟨f, fd, a, b, c, d, g⟩ := F.ex
  ⟨f, fd, a, b, c, d, g.mono h⟩
def aCallK (S : Spec) (n m : Nat) (ta tk : ATA) : ATE := fun env own P => ta env own fun ds o => tk env o fun zs o2 => ds.length = n ∧ zs.length = m ∧ S (ds ++ zs) o2 P
section
variable {X : Cx} {w0 : Wd} {k n m : Nat} {x : Str} {ps ks : List Str} {S : Spec} {e : Expr} {es : List Expr} {kws : List Keyword} {ta tk : ATA} {p pos : Pos}
theorem runK {pins : List (Addr × Obj)} {σ : L2.St} {H : Hp} {s : Shared} {Q : VK} {us ws : List Value} {vs zs : List V} {f : Addr} {fd : FuncData} {sp : Sp} (F : FnG X.prog X.w X.K X.mg X.base CX0 k f fd ps sp) (hr : Room k X.A) (hgd : X.A.guards = some [])
    (hb : BindsTo s fd ⟨us, ks.zip ws⟩ (ps.zip (us ++ ws))) (I : Inv X pins σ H s) (r : Vals vs us) (rz : Vals zs ws) (h : sp (vs ++ zs) H Q E0) : wpAny (model X.prog X.w) X.A (call (.ref f) us (ks.zip ws)) (EP X pins σ Q) X.xe s := by
  refine wpAny_call (codeAny_mono (F.run X.A X.stack s H _ (us ++ ws) (vs ++ zs) Q E0 hr hgd I.env0 hb (r.append rz) h) fun y s' hq => ?_)
  match y, hq with
  | .error e, hq => exact pass0 pins σ H s e s' I hq
  | .ok (.ret u), hq => exact I.after hq
/-- f(e, .., k = v, ..) -/
theorem ae_callK (F : KnK X.prog X.w X.K X.mg X.base k x ps n ks S) (hr : Room k X.A) (hgd : X.A.guards = some []) (hg : Gl X x) (ha : AA X w0 (e :: es) ta) (hkw : AK X w0 kws tk) (hks : (backToKw pos (keywordEach kws X.env)).filterMap (·.1) = ks := by rfl)
    (hall : (backToKw pos (keywordEach kws X.env)).all (·.1.isSome) = true := by rfl) (hm : ks.length = m := by rfl)
    (hdb : (x == ("__debug__" : Str)) = false := by decide) (he : starEach (e :: es) X.env = (false, eval e X.env) :: starEach es X.env := by rfl)
    (hpl : ((backTo pos (starEach (e :: es) X.env)).any (·.1) || (backToKw pos (keywordEach kws X.env)).any (·.1.isNone)) = false := by rfl) :
    AE X w0 (.Call (.Name x p) (e :: es) kws pos) (aCallK S n m ta tk) := by
  subst hm
  obtain ⟨f, fd, hm, hk, hn, hb, G⟩ := F.ex
  refine ⟨fun pins s σ H Q I h => ?_⟩
  obtain ⟨env, w, rfl, ok, tr0, er, P, h, kk⟩ := h
  refine wpAny_Call_Name_kw (ld_glob I hg hm ?_ hdb)
  refine PySem.W.callWith_KW (h₀ := X.base) I.ok.mod.kin hk hall (thn (ha.run pos pins s σ w.H (fun vs H1 => concA X.K w0 tk σ H1 fun zs H2 => vs.length = n ∧ zs.length = ks.length ∧ spOf X.K S (vs ++ zs) H2 Q E0) I ⟨env, w, rfl, ok, tr0, er, _, h, fun ds w1 vs h1 t1 ok1 dv => ?_⟩) fun us s1 ⟨vs, H1, I1, r, q⟩ => ?_) hpl he
  · refine ⟨env, w1, rfl, ok1, tr0.trans t1, er.mono t1.gs, _, h1, fun zs w2 us h2 t2 ok2 dz => ⟨by rw [dv.length]; exact h2.1, by rw [dz.length]; exact h2.2.1, ds ++ zs, w2, P, rfl, ok2, (dv.mono t2.gs).append dz, h2.2.2, fun d w3 v h3 t3 ok3 d3 => kk d w3 v h3 ((t1.trans t2).trans t3) ok3 d3⟩⟩
  · refine thn (hkw.run pos pins s1 σ H1 _ I1 q) fun ws s2 ⟨zs, H2, I2, rz, l1, l2, q2⟩ => ⟨I2.kIn, ?_⟩
    rw [hks]
    exact runK G hr hgd (hb s2 us ws (r.length.symm.trans l1) (rz.length.symm.trans l2)) I2 r rz q2
/-- f(k = v, ..) -/
theorem ae_callK0 (F : KnK X.prog X.w X.K X.mg X.base k x ps 0 ks S) (hr : Room k X.A) (hgd : X.A.guards = some []) (hg : Gl X x) (hkw : AK X w0 kws tk) (hks : (backToKw pos (keywordEach kws X.env)).filterMap (·.1) = ks := by rfl)
    (hall : (backToKw pos (keywordEach kws X.env)).all (·.1.isSome) = true := by rfl)
    (hdb : (x == ("__debug__" : Str)) = false := by decide)
    (hpl : ((backTo pos (starEach [] X.env)).any (·.1) || (backToKw pos (keywordEach kws X.env)).any (·.1.isNone)) = false := by rfl) :
    AE X w0 (.Call (.Name x p) [] kws pos) (aCall S [] tk) := by
  obtain ⟨f, fd, hm, hk, hn, hb, G⟩ := F.ex
  refine ⟨fun pins s σ H Q I h => ?_⟩
  obtain ⟨env, w, rfl, ok, tr0, er, P, h, kk⟩ := h
  refine wpAny_Call_Name_kw (ld_glob I hg hm ?_ hdb)
  refine PySem.W.callWith_KW0 (h₀ := X.base) I.ok.mod.kin hk hall (thn (hkw.run pos pins s σ w.H (fun zs H2 => zs.length = ks.length ∧ spOf X.K S ([] ++ zs) H2 Q E0) I ⟨env, w, rfl, ok, tr0, er, _, h, fun zs w2 us h2 t2 ok2 dz => ?_⟩) fun ws s2 ⟨zs, H2, I2, rz, l2, q2⟩ => ⟨I2.kIn, ?_⟩) hpl
  · have hs : spOf X.K S us w2.H Q E0 := ⟨zs ++ [], w2, P, rfl, ok2, by rw [List.append_nil]; exact dz, h2, fun d w3 v h3 t3 ok3 d3 => kk d w3 v h3 (t2.trans t3) ok3 d3⟩
    refine ⟨?_, hs⟩
    have := G.len _ _ _ _ hs
    omega
  · rw [hks]
    exact runK (us := []) (vs := []) G hr hgd (hb s2 [] ws rfl (rz.length.symm.trans l2)) I2 .nil rz q2
end
/-! ### the law's own head -/
theorem dts_script {K : PySem.W.Frag} {G : Hp} : ∀ (ns : List Int), Dts K G (ns.map D.int) (ns.map V.int)
  | [] => .nil
  | i :: ns => .cons (by unfold Dt; rfl) (dts_script ns)
theorem law_callG {P : Program} {w : World} {K : PySem.W.Frag} {mg mb : Str → Option Value} {k : Nat} {fa a : Addr} {fd : FuncData} {x : Str} {S : Spec} {s₁ : Shared} {vs : List Value} {ns : List Int}
    (KX : K.In s₁.heap) (hns : s₁.heap.Ns mainGlobals mg) (hb : s₁.heap.Ns builtinsNs mb) (hbb : ∀ x : Str, x ≠ "__name__" → mb x = bootBuiltins x) (hlim : s₁.heap.NoLimit) (hg : s₁.gens = #[])
    (ha : s₁.heap.get? a = some { cls := .type "list", data := .seq vs.toArray }) (hi : IntsAre vs ns) (hl : ns.length ≤ sizeLine) (hr : Room k callerA)
    (F : ∀ base : Heap, K.In base → base.Ns mainGlobals mg → FnG P w K mg base CX0 k fa fd [x] (spOf K S)) (hbind : ∀ (s : Shared) (u : Value), BindsTo s fd ⟨[u], []⟩ [(x, u)])
    (hS : S [.kls (ns.map D.int)] (fun _ => none) fun d _ => d = .bl true) :
    codeAny (model P w) callerA (.call (.ref fa) ⟨[.ref a], []⟩) (fun r s' => r = .ok (.ret (.bool true)) ∧ OldK s₁.heap s'.heap ∧ s'.os = s₁.os ∧ AllBare s'.gens) s₁ := by
  have rv := vals_ints hi
  have lenV := hi.length
  have main : ∀ H : Hp, (∀ b u, H b = some u → b = a ∧ K.lookup a = none ∧ u = .frz { cls := .type "list", data := .seq vs.toArray } (.lst (ns.map V.int))) → SqL K H a (ns.map V.int) →
      codeAny (model P w) callerA (.call (.ref fa) ⟨[.ref a], []⟩) (fun r s' => r = .ok (.ret (.bool true)) ∧ OldK s₁.heap s'.heap ∧ s'.os = s₁.os ∧ AllBare s'.gens) s₁ := by
    intro H hH hq
    have hok : HOk P w H s₁.heap := fun b u e => by
      obtain ⟨rfl, _, rfl⟩ := hH b u e
      exact ⟨ha, by rw [List.length_map]; exact hl, vs, _, rv, ha⟩
    have no : ∀ {b : Addr} {o : Obj}, s₁.heap.get? b = some o → (b = a → K.lookup a = none → False) → (hidT s₁.heap H).get? b = some o := fun {b o} e n => hidT_get e (by
      cases q : H b with
      | none => rfl
      | some u => obtain ⟨z1, z2, _⟩ := hH b u q; exact (n z1 z2).elim)
    have nsK : ∀ {b : Addr} {m : Str → Option Value}, s₁.heap.Ns b m → (hidT s₁.heap H).Ns b m := fun {b m} ⟨o, es, ep, e, d, r⟩ => ⟨o, es, ep, no e (fun z _ => by
      subst z; rw [ha] at e; cases e
      have d' : Data.seq vs.toArray _ = Data.dict es ep := d
      cases d'), d, r⟩
    have hKb : K.In (hidT s₁.heap H) := fun b o e => no (KX b o e) fun z z2 => by rw [z, z2] at e; cases e
    have e0 : Env0 P w K mg (hidT s₁.heap H) callerA [] s₁ H := ⟨rfl, ⟨hKb, nsK hns, ⟨mb, nsK hb, hbb⟩, let ⟨mc, h1, h2⟩ := hlim; ⟨mc, nsK h1, h2⟩⟩, fun b o e => of_hidT e, Nat.le_of_eq (hidT_size _ _), trivial, fun b hb => absurd (show b ∈ ([] : List Addr) from hb) (by simp), hok, .of_eq hg⟩
    let W : Wd := ⟨fun _ => none, H, H⟩
    have okW : W.Ok K := ⟨Sub.refl _, fun p m e => (by cases (show (none : Option MO) = some m from e)), fun b u e => by
      obtain ⟨_, _, rfl⟩ := hH b u e
      show (ns.map V.int).length ≤ sizeLine
      rw [List.length_map]; exact hl⟩
    have sp : spOf K S [.ref a] H (fun v _ => v = .bl true) E0 := ⟨[.kls (ns.map D.int)], W, _, rfl, okW, .cons (by unfold Dt; exact ⟨a, _, rfl, hq, dts_script ns⟩) .nil, hS, fun d w' v hd _ _ dv => by subst hd; exact dt_bl.mp dv⟩
    refine codeAny_mono ((F _ hKb (nsK hns)).run callerA [] s₁ H ⟨[.ref a], []⟩ [.ref a] [.ref a] _ _ hr rfl e0 (hbind s₁ (.ref a)) (.cons rfl .nil) sp) fun r s' h => ?_
    match r, h with
    | .error e, h => exact (h : False).elim
    | .ok (.ret u), h =>
      obtain ⟨v, H', os, bare, un, hok', r', q⟩ := h
      have q' : v = .bl true := q
      subst q'
      obtain rfl : u = Value.bool true := r'
      refine ⟨rfl, OldK.of_keep fun b o e => ?_, os, bare⟩
      cases q : H b with
      | none => exact un.keep b o e q (fun z => absurd (show b ∈ ([] : List Addr) from z) (by simp)) (by simp)
      | some u =>
        obtain ⟨rfl, _, rfl⟩ := hH b u q
        have z2 := un.frzs b _ _ q
        obtain ⟨e2, _⟩ := hok' b _ z2
        rw [ha] at e; cases e
        exact e2
  cases hk : K.lookup a with
  | some o =>
    have e := KX a o hk
    rw [ha] at e
    cases e
    exact main (fun _ => none) (fun b u z => (by cases (show (none : Option HO) = some u from z))) (.inr ⟨_, vs.toArray, _, hk, rfl, rfl, rfl, by rw [List.size_toArray, lenV]; exact hl, by simpa using rv⟩)
  | none =>
    refine main (fun b => if b = a then some (.frz { cls := .type "list", data := .seq vs.toArray } (.lst (ns.map V.int))) else none) (fun b u z => ?_) (.inl (.inr ⟨{ cls := .type "list", data := .seq vs.toArray }, if_pos rfl⟩))
    by_cases hb : b = a
    · have z' := (if_pos hb).symm.trans z
      cases z'
      exact ⟨hb, hk, rfl⟩
    · exact absurd ((if_neg hb).symm.trans z) (by simp)
/-- the law's def: it answers True at every script of so many ints -/
def spLaw (n : Nat) : Spec := fun ds own P => ∃ ns : List Int, ds = [.kls (ns.map D.int)] ∧ ns.length ≤ n ∧ own = (fun _ => none) ∧ ∀ d o, d = .bl true → P d o
theorem walkG {l : PySem.W.OpenLaw} {n k : Nat} {q : Program} {loose : List Str} {XP : (Str → Option Value) → Heap → Prop} {YP : World → Heap → Prop} {d : DefRec} {K : Params → PySem.W.Frag} {x : Str}
    (hn : l.most = some n) (hn2 : n ≤ sizeLine) (hdf : d.params.defaults = []) (hr : Room k callerA)
    (hY : ∀ (w : World) (h : Heap), YP w h → (K w.params).In h)
    (F : ∀ (w : World) (mg : Str → Option Value) (fa : Addr) (h : Heap), (K w.params).In h → h.Ns mainGlobals mg → mg d.name = some (.ref fa) →
      ∃ fd : FuncData, (∀ (s : Shared) (u : Value), BindsTo s fd ⟨[u], []⟩ [(x, u)]) ∧
        ∀ base : Heap, (K w.params).In base → base.Ns mainGlobals mg → FnG l.prog w (K w.params) mg base CX0 k fa fd [x] (spOf (K w.params) (spLaw n))) :
    PySem.W.WalkO q loose XP YP l.row.toRowW d [] (fun f vs => PySem.call f vs) := by
  refine Att.attach_call hn hdf fun w s₀ s₁ mg mb fa o pm cd doc a vs ns G Y ho hd hcd hmg hobj hints hlen hg => ?_
  obtain ⟨fd, hb, hF⟩ := F w mg fa _ (hY w _ Y) G.T.g hmg
  exact law_callG (hY w _ Y) G.T.g G.T.b G.T.builtins G.T.nolimit hg hobj hints (Nat.le_trans hlen hn2) hr hF hb ⟨ns, rfl, hlen, rfl, fun _ _ h => h⟩
end L3

namespace L3
open PySem PySem.Spec PyProof.Rows L2
/-! ### a dict that is written down in a def: texts by texts; its items -/
def sTab (kv : List (Str × Str)) : List (Key × V) := kv.map fun p => (.inr p.1, .str p.2)
def dTab (kv : List (Str × Str)) : List (D × D) := kv.map fun p => (.str p.1, .str p.2)
def tTab (kv : List (Str × Str)) : List (TE × TE) := kv.map fun p => (tC (.str p.1), tC (.str p.2))
def lookT : List (Str × Str) → Str → Option Str
  | [], _ => none
  | (k, v) :: r, z => if k = z then some v else lookT r z
theorem tPairs_tab {σ : L2.St} {H : Hp} : ∀ (kv : List (Str × Str)) {Q : List (V × V) → Hp → Prop}, Q (kv.map fun p => (V.str p.1, V.str p.2)) H → tPairs (tTab kv) σ H Q
  | [], _, h => h
  | (k, v) :: r, Q, h => tPairs_tab r (Q := fun ps H3 => Q ((V.str k, V.str v) :: ps) H3) h
theorem dkK_tab {K : PySem.W.Frag} {G : Hp} : ∀ (kv : List (Str × Str)), DkK K G (dTab kv) (sTab kv)
  | [] => by unfold dTab sTab DkK; rfl
  | (k, v) :: r => by
    show DkK K G ((.str k, .str v) :: dTab r) ((.inr k, .str v) :: sTab r)
    unfold DkK
    exact ⟨_, _, _, rfl, rfl, (by unfold Dt; rfl), dkK_tab r⟩
section
variable {X : Cx} {w0 : Wd} {a b : Expr} {ta tb : ATE} {pos : Pos} {keys : List (Option Expr)} {values : List Expr}
theorem ae_dlit (kv : List (Str × Str)) (h : PPs X pos keys values (tTab kv)) (hm : mergeK [] (sTab kv) = sTab kv := by rfl) (hall : keys.all (·.isSome) = true := by rfl) (hl : keys.length = values.length := by rfl) (h0 : keys ≠ [] := by exact fun z => nomatch z)
    (h15 : keys.length ≤ 15 := by decide) (hk : kv.length ≤ 15 := by decide) : AE X w0 (.Dict keys values pos) (aC (.dct (dTab kv))) := pe_of (pe_disp h hall hl h0 h15) fun σ H Q h => by
  obtain ⟨env, w, rfl, ok, tr0, er, P, h, k⟩ := h
  intro p hp
  refine tPairs_tab kv ⟨upd_same, sTab kv, ?_, by unfold sTab; rw [List.length_map]; exact hk, ?_⟩
  · unfold sTab; rw [List.map_map]; rfl
  · rw [hm]
    obtain ⟨ok', t⟩ := ok.frz (o := .dK (sTab kv)) hp True.intro
    have e : upd (upd w.H p (.dK [])) p (.dK (sTab kv)) = (w.frz p (.dK (sTab kv))).H := by
      funext q
      show upd (upd w.H p (.dK [])) p (.dK (sTab kv)) q = upd w.H p (.dK (sTab kv)) q
      by_cases z : q = p
      · subst z; rw [upd_same, upd_same]
      · rw [upd_ne z, upd_ne z, upd_ne z]
    rw [e]
    exact k _ _ _ h t ok' (by unfold Dt; exact ⟨p, rfl, .inl ⟨_, upd_same, dkK_tab kv⟩⟩)
def fIxD (kv : List (Str × Str)) : BinF := fun own d e P => d = .dct (dTab kv) ∧ ∃ z, e = .str z ∧ oP (lookT kv z) fun r => P (.str r)
theorem valV_tab {z r : Str} : ∀ {kv : List (Str × Str)} {es : List (Key × V)} {K : PySem.W.Frag} {G : Hp}, DkK K G (dTab kv) es → lookT kv z = some r → valV es (.inr z : Key) = some (.str r)
  | [], _, _, _, _, h => by unfold lookT at h; cases h
  | (k, v) :: t, es, K, G, d, h => by
    have d' : DkK K G ((.str k, .str v) :: dTab t) es := d
    unfold DkK at d'
    obtain ⟨x, u, er, rfl, e1, e2, e3⟩ := d'
    have ex : x = .inr k := by
      cases x with
      | inl i => cases e1
      | inr y => cases e1; rfl
    subst ex
    unfold Dt at e2; subst e2
    unfold lookT at h
    by_cases q : k = z
    · subst q; rw [if_pos rfl] at h; cases h; exact valV_pos rfl
    · rw [if_neg q] at h
      rw [valV_neg (fun z' => q (by cases z'; rfl))]
      exact valV_tab e3 h
theorem ae_ixD {k : Nat} (kv : List (Str × Str)) (hr : Room k X.A) (ha : AE X w0 a ta) (hb : AE X w0 b tb) (hs : NoSl b := by exact fun _ _ => rfl) : AE X w0 (.Subscript a b pos) (aBin (fIxD kv) ta tb) := pe_of (pe_dget (by have := hr.units; omega) ha hb hs) fun σ H Q h => by
  obtain ⟨env, w, rfl, ok, tr0, er, P, h, kk⟩ := h
  refine ⟨env, w, rfl, ok, tr0, er, _, h, fun d w1 x h1 t1 ok1 dx => ?_⟩
  refine ⟨env, w1, rfl, ok1, tr0.trans t1, er.mono t1.gs, _, h1, fun e w2 y h2 t2 ok2 dy => ?_⟩
  obtain ⟨rfl, z, rfl, h2⟩ := h2
  obtain ⟨r, e1, h2⟩ := oP_some h2
  have dx' := dx.mono t2.gs
  unfold Dt at dx'
  have dy' := dt_str.mp dy
  subst dy'
  obtain ⟨p, rfl, ⟨es, g, dk⟩ | ⟨es, g, dk⟩⟩ := dx'
  · refine ⟨p, .str r, rfl, ?_, kk _ w2 _ h2 (t1.trans t2) ok2 (by unfold Dt; rfl)⟩
    have := DGet.k (H := w2.H) (k := (.inr z : Key)) (ok2.sub p _ g)
    rw [valV_tab dk e1] at this
    exact this
  · cases kv with
    | nil => unfold lookT at e1; cases e1
    | cons q t =>
      have dk' : DkT X.K w2.G ((.str q.1, .str q.2) :: dTab t) es := dk
      unfold DkT at dk'
      obtain ⟨x, u, er, _, e1, _⟩ := dk'
      cases e1
end
end L3

namespace L3
open PySem PySem.Spec PyProof.Rows L2
/-! ### the readings, as simp takes them apart -/
section
variable {env : AEnv} {own : Own} {E : AEnds} {t u tl th : ATE} {ta : ATA} {i j n : Nat} {P : D → Own → Prop} {c c2 : ATT} {s1 s2 : ATS}
@[simp] theorem x_eg0 {x : Option D} {r : AEnv} : eg (x :: r) 0 = x := (rfl)
@[simp] theorem x_egS {x : Option D} {r : AEnv} : eg (x :: r) (i + 1) = eg r i := (rfl)
@[simp] theorem x_v : aV i env own P = (match eg env i with | some d => P d own | none => False) := (rfl)
@[simp] theorem x_c {d : D} : aC d env own P = P d own := (rfl)
@[simp] theorem x_bin {f : BinF} : aBin f t u env own P = t env own fun d o1 => u env o1 fun e o2 => f o2 d e fun z => P z o2 := (rfl)
@[simp] theorem x_un {f : UnF} : aUn f t env own P = t env own fun d o1 => f o1 d fun z => P z o1 := (rfl)
@[simp] theorem x_fn {f : CallF} : aFn f ta env own P = ta env own fun ds o1 => f o1 ds fun z => P z o1 := (rfl)
@[simp] theorem x_B {Q : Bool → Own → Prop} : aB t env own Q = t env own fun d o => match d with | .bl b => Q b o | _ => False := (rfl)
@[simp] theorem x_nil {Q : List D → Own → Prop} : aNil env own Q = Q [] own := (rfl)
@[simp] theorem x_cons {Q : List D → Own → Prop} : aCons t ta env own Q = t env own fun d o => ta env o fun ds o2 => Q (d :: ds) o2 := (rfl)
@[simp] theorem x_tup : aTup ta env own P = ta env own fun ds o => ds.length ≤ sizeLine ∧ P (.tup ds) o := (rfl)
@[simp] theorem x_lst {Q : List D → Own → Prop} : aLst ta env own Q = ta env own fun ds o => ds.length ≤ sizeLine ∧ Q ds o := (rfl)
@[simp] theorem x_fz {tn : ATN} : aFz tn env own P = tn env own fun ds o => P (.lst ds) o := (rfl)
@[simp] theorem x_ow {tn : ATN} : aOw tn env own P = tn env own fun ds o => ∀ p, o p = none → P (.ref p) (oset o p (.lst ds)) := (rfl)
@[simp] theorem x_if : aIf c t u env own P = c env own fun b o => match b with | true => t env o P | false => u env o P := (rfl)
@[simp] theorem x_ifS : aIfS c s1 s2 E env own = c env own fun b o => match b with | true => s1 E env o | false => s2 E env o := (rfl)
@[simp] theorem x_seq : aSeq s1 s2 E env own = s1 { E with nx := s2 E } env own := (rfl)
@[simp] theorem x_next : aNext E env own = E.nx env own := (rfl)
@[simp] theorem x_brk : aBreak E env own = E.bk env own := (rfl)
@[simp] theorem x_cont : aCont E env own = E.ct env own := (rfl)
@[simp] theorem x_drop : aDrop t E env own = t env own fun _ o => E.nx env o := (rfl)
@[simp] theorem x_ret : aRet t E env own = t env own E.rt := (rfl)
@[simp] theorem x_retN : aRetN E env own = E.rt .non own := (rfl)
@[simp] theorem x_asg {g : ATG} : aAsg t g E env own = t env own fun d o => g d env o E.nx := (rfl)
@[simp] theorem x_gN {d : D} {Q : AEnv → Own → Prop} : gN i d env own Q = Q (env.set i (some d)) own := (rfl)
@[simp] theorem x_and {Q : Bool → Own → Prop} : aAnd c c2 env own Q = c env own fun b o => match b with | true => c2 env o Q | false => Q false o := (rfl)
@[simp] theorem x_or {Q : Bool → Own → Prop} : aOr c c2 env own Q = c env own fun b o => match b with | true => Q true o | false => c2 env o Q := (rfl)
@[simp] theorem x_not {Q : Bool → Own → Prop} : aNot c env own Q = c env own fun b o => Q (!b) o := (rfl)
@[simp] theorem x_call {S : L3.Spec} {dvs : List D} : aCall S dvs ta env own P = ta env own fun ds o => S (ds ++ dvs) o P := (rfl)
@[simp] theorem x_callK {S : L3.Spec} {tk : ATA} : aCallK S n i ta tk env own P = ta env own fun ds o => tk env o fun zs o2 => ds.length = n ∧ zs.length = i ∧ S (ds ++ zs) o2 P := (rfl)
@[simp] theorem x_no {Q : Option Int → Own → Prop} : aNo env own Q = Q none own := (rfl)
@[simp] theorem x_so {Q : Option Int → Own → Prop} : aSo t env own Q = t env own fun d o => match d with | .int i => Q (some i) o | _ => False := (rfl)
@[simp] theorem x_sl {l h : ATO} : aSl t l h env own P = t env own fun d o1 => l env o1 fun lo o2 => h env o2 fun hi o3 => fSl0 lo hi (see o3 d) fun z => P z o3 := (rfl)
@[simp] theorem x_fmt : aFmt t env own P = t env own fun d o => match d with | .str y => y.length ≤ sizeLine ∧ P (.str y) o | .int i => i.natAbs.log2 < 1920 ∧ P (.str (toString i)) o | _ => False := (rfl)
@[simp] theorem x_seeI {i : Int} : see own (.int i) = .int i := (rfl)
@[simp] theorem x_seeS {x : Str} : see own (.str x) = .str x := (rfl)
@[simp] theorem x_seeT {x : List D} : see own (.tup x) = .tup x := (rfl)
@[simp] theorem x_seeL {x : List D} : see own (.lst x) = .lst x := (rfl)
@[simp] theorem x_seeK {x : List D} : see own (.kls x) = .kls x := (rfl)
@[simp] theorem x_seeB {x : Bool} : see own (.bl x) = .bl x := (rfl)
@[simp] theorem x_seeN : see own .non = .non := (rfl)
theorem x_seeR {p : Addr} {ds : List D} (h : own p = some (.lst ds)) : see own (.ref p) = .lst ds := by simp only [see, h]
@[simp] theorem x_II {C : Int → Int → Prop} {g : Int → Int → D} {i j : Int} {Q : D → Prop} : fII C g own (.int i) (.int j) Q = (C i j ∧ Q (g i j)) := (rfl)
@[simp] theorem x_ix {d e : D} {Q : D → Prop} : fIx own d e Q = fIx0 (see own d) (see own e) Q := (rfl)
@[simp] theorem x_ixL {ds : List D} {i : Int} {Q : D → Prop} : fIx0 (.lst ds) (.int i) Q = oP (atI ds i) Q := (rfl)
@[simp] theorem x_ixT {ds : List D} {i : Int} {Q : D → Prop} : fIx0 (.tup ds) (.int i) Q = oP (atI ds i) Q := (rfl)
@[simp] theorem x_ixS {z : Str} {i : Int} {Q : D → Prop} : fIx0 (.str z) (.int i) Q = (z.length ≤ sizeLine ∧ oP (atI z.cps.toList i) fun c => Q (.str ⟨#[c]⟩)) := (rfl)
@[simp] theorem x_at0 {α : Type} {a : α} {l : List α} : atI (a :: l) 0 = some a := by simp [atI, ixN]
@[simp] theorem x_at1 {α : Type} {a b : α} {l : List α} : atI (a :: b :: l) 1 = some b := by
  have : (1 : Int) < (l.length : Int) + 1 + 1 := by omega
  simp [atI, ixN, this]
@[simp] theorem x_at2 {α : Type} {a b c : α} {l : List α} : atI (a :: b :: c :: l) 2 = some c := by
  have : (2 : Int) < (l.length : Int) + 1 + 1 + 1 := by omega
  simp [atI, ixN, this]
theorem x_atN {α : Type} {l : List α} {i : Int} (h0 : 0 ≤ i) (h : i < l.length) : ∃ d, atI l i = some d ∧ d ∈ l := by
  have h1 : i.toNat < l.length := by omega
  refine ⟨l[i.toNat], ?_, List.getElem_mem _⟩
  simp [atI, ixN, h0, h, h1]
@[simp] theorem x_oP {α : Type} {a : α} {Q : α → Prop} : oP (some a) Q = Q a := (rfl)
@[simp] theorem x_f1 {g : D → (D → Prop) → Prop} {d : D} {Q : D → Prop} : f1 g own [d] Q = g (see own d) Q := (rfl)
@[simp] theorem x_len {ds : List D} {Q : D → Prop} : gLen (.lst ds) Q = Q (.int ds.length) := (rfl)
@[simp] theorem x_lenT {ds : List D} {Q : D → Prop} : gLen (.tup ds) Q = Q (.int ds.length) := (rfl)
@[simp] theorem x_lenS {z : Str} {Q : D → Prop} : gLen (.str z) Q = (z.length ≤ sizeLine ∧ Q (.int z.length)) := (rfl)
@[simp] theorem x_abs {i : Int} {Q : D → Prop} : gAbs (.int i) Q = Q (.int (if i < 0 then -i else i)) := (rfl)
@[simp] theorem x_int1b {b : Bool} {Q : D → Prop} : gInt1 (.bl b) Q = Q (.int (if b then 1 else 0)) := (rfl)
@[simp] theorem x_list {ds : List D} {Q : D → Prop} : gList (.lst ds) Q = Q (.lst ds) := (rfl)
@[simp] theorem x_listT {ds : List D} {Q : D → Prop} : gList (.tup ds) Q = Q (.lst ds) := (rfl)
@[simp] theorem x_tupleL {ds : List D} {Q : D → Prop} : gTuple (.lst ds) Q = Q (.tup ds) := (rfl)
@[simp] theorem x_add {d e : D} {Q : D → Prop} : fAdd own d e Q = fAdd0 (see own d) (see own e) Q := (rfl)
@[simp] theorem x_addI {i j : Int} {Q : D → Prop} : fAdd0 (.int i) (.int j) Q = Q (.int (i + j)) := (rfl)
@[simp] theorem x_addS {i j : Str} {Q : D → Prop} : fAdd0 (.str i) (.str j) Q = (i.length + j.length ≤ sizeLine ∧ Q (.str (i ++ j))) := (rfl)
@[simp] theorem x_addL {i j : List D} {Q : D → Prop} : fAdd0 (.lst i) (.lst j) Q = (i.length + j.length ≤ sizeLine ∧ Q (.lst (i ++ j))) := (rfl)
@[simp] theorem x_addT {i j : List D} {Q : D → Prop} : fAdd0 (.tup i) (.tup j) Q = (i.length + j.length ≤ sizeLine ∧ Q (.tup (i ++ j))) := (rfl)
@[simp] theorem x_mul {d e : D} {Q : D → Prop} : fMul own d e Q = fMul0 (see own d) (see own e) Q := (rfl)
@[simp] theorem x_mulI {i j : Int} {Q : D → Prop} : fMul0 (.int i) (.int j) Q = (CMulW i j ∧ Q (.int (i * j))) := (rfl)
@[simp] theorem x_mulS {i : Str} {j : Int} {Q : D → Prop} : fMul0 (.str i) (.int j) Q = (j = 0 ∧ Q (.str Str.empty) ∨ j = 1 ∧ Q (.str i)) := (rfl)
@[simp] theorem x_lt {d e : D} {Q : D → Prop} : fLt own d e Q = fLt0 (see own d) (see own e) Q := (rfl)
@[simp] theorem x_ltI {i j : Int} {Q : D → Prop} : fLt0 (.int i) (.int j) Q = Q (.bl (decide (i < j))) := (rfl)
@[simp] theorem x_eq {b : Bool} {d e : D} {Q : D → Prop} : fEq b own d e Q = (eqAsk (see own d) (see own e) ∧ Q (.bl (if b then !deq (see own d) (see own e) else deq (see own d) (see own e)))) := (rfl)
@[simp] theorem x_askS {x y : Str} : eqAsk (.str x) (.str y) = True := (rfl)
@[simp] theorem x_deqS {x y : Str} : deq (.str x) (.str y) = (x == y) := by unfold deq toPy; rfl
@[simp] theorem x_deqI {x y : Int} : deq (.int x) (.int y) = (x == y) := by unfold deq toPy; rfl
@[simp] theorem x_askI {x y : Int} : eqAsk (.int x) (.int y) = True := by simp [eqAsk, eqOk, toPy, PyData.depth]
@[simp] theorem x_in {b : Bool} {d e : D} {Q : D → Prop} : fIn b own d e Q = fIn0 b d (see own e) Q := (rfl)
@[simp] theorem x_inL {b : Bool} {d : D} {ds : List D} {Q : D → Prop} : fIn0 b d (.lst ds) Q = (flatD d = true ∧ ds.all flatD = true ∧ Q (.bl (if b then !hasD d ds else hasD d ds))) := by cases d <;> rfl
@[simp] theorem x_inT {b : Bool} {d : D} {ds : List D} {Q : D → Prop} : fIn0 b d (.tup ds) Q = (flatD d = true ∧ ds.all flatD = true ∧ Q (.bl (if b then !hasD d ds else hasD d ds))) := by cases d <;> rfl
@[simp] theorem x_inS {b : Bool} {x z : Str} {Q : D → Prop} : fIn0 b (.str x) (.str z) Q = (x.cps.toList.length = 1 ∧ Q (.bl (if b then !oneIn x z else oneIn x z))) := (rfl)
@[simp] theorem x_flatS {x : Str} : flatD (.str x) = true := (rfl)
@[simp] theorem x_flatI {x : Int} : flatD (.int x) = true := (rfl)
@[simp] theorem x_subL {to ti : ATE} {d : D} {Q : AEnv → Own → Prop} : gSubL to ti d env own Q = to env own fun x o1 => ti env o1 fun y o2 => ∃ i, y = .int i ∧ ownL o2 x fun p ds => ∃ j, ixN ds.length i = some j ∧ Q env (oset o2 p (.lst (ds.set j d))) := (rfl)
theorem x_ownL {p : Addr} {ds : List D} {k : Addr → List D → Prop} (h : own p = some (.lst ds)) : ownL own (.ref p) k = k p ds := by
  apply propext
  constructor
  · rintro ⟨q, es, e1, e2, e3⟩
    cases e1; rw [h] at e2; cases e2; exact e3
  · exact fun q => ⟨p, ds, rfl, h, q⟩
@[simp] theorem x_ix30 {n : Nat} : ixN (n + 1) 0 = some 0 := by simp [ixN]
@[simp] theorem x_ix32 {n : Nat} : ixN (n + 1 + 1 + 1) 2 = some 2 := by
  have : (2 : Int) < (n : Int) + 1 + 1 + 1 := by omega
  simp [ixN, this]
end
@[simp] theorem x_neg {own : Own} {i : Int} {Q : D → Prop} : fNeg own (.int i) Q = Q (.int (-i)) := (rfl)
/-! ### pens -/
@[simp] theorem deq_nil {ds : List D} : deq (.lst ds) (.lst []) = ds.isEmpty := by
  unfold deq toPy
  cases ds with
  | nil => unfold toPys; rfl
  | cons d t => unfold toPys; rfl
theorem eqOks_ints : ∀ ns : List Int, eqOks (ns.map D.int) = true
  | [] => by unfold eqOks; rfl
  | i :: ns => by
    show eqOks (.int i :: ns.map D.int) = true
    unfold eqOks
    rw [eqOks_ints ns]; unfold eqOk; rfl
theorem depths_ints : ∀ ns : List Int, PyData.depthAll (toPys (ns.map D.int)) ≤ 1
  | [] => by unfold toPys PyData.depthAll; decide
  | i :: ns => by
    show PyData.depthAll (toPys (.int i :: ns.map D.int)) ≤ 1
    have := depths_ints ns
    unfold toPys PyData.depthAll
    unfold toPy PyData.depth
    omega
/-- what a pen holds: at least b more draws may be made -/
def Pn (b : Nat) (pen : List D) : Prop := ∃ (g : Int) (ns : List Int) (d : Int), pen = [.int g, .lst (ns.map .int), .int d] ∧ 0 ≤ g ∧ g + b ≤ 2 ^ 60 ∧ ns.length ≤ 63 ∧ 0 ≤ d
theorem Pn.mono {b c : Nat} {pen : List D} (h : Pn b pen) (e : c ≤ b) : Pn c pen := by
  obtain ⟨g, ns, d, rfl, h1, h2, h3, h4⟩ := h
  exact ⟨g, ns, d, rfl, h1, by omega, h3, h4⟩
@[simp] theorem x_gInt {f : Int → Int → Int} {i j : Int} : gInt f i j = .int (f i j) := (rfl)
@[simp] theorem x_gBl {f : Int → Int → Bool} {i j : Int} : gBl f i j = .bl (f i j) := (rfl)
/-! ### how long ints are -/
def Sm (n : Nat) (i : Int) : Prop := i.natAbs < 2 ^ n
theorem Sm.mul {a b : Nat} {i j : Int} (h : Sm a i) (g : Sm b j) : Sm (a + b) (i * j) := by
  unfold Sm at *
  rw [Int.natAbs_mul, Nat.pow_add]
  exact Nat.mul_lt_mul'' h g
theorem Sm.mono {a b : Nat} {i : Int} (h : Sm a i) (e : a ≤ b) : Sm b i := Nat.lt_of_lt_of_le h (Nat.pow_le_pow_right (by decide) e)
theorem Sm.add {a : Nat} {i j : Int} (h : Sm a i) (g : Sm a j) : Sm (a + 1) (i + j) := by
  unfold Sm at *
  have := Int.natAbs_add_le i j
  rw [Nat.pow_succ]; omega
theorem Sm.mod {a : Nat} {i j : Int} (h : 0 < j) (g : Sm a j) : Sm a (i % j) := by
  unfold Sm at *
  have h1 := Int.emod_nonneg i (Int.ne_of_gt h)
  have h2 := Int.emod_lt_of_pos i h
  omega
theorem Sm.ofLt {a : Nat} {i : Int} (h0 : 0 ≤ i) (h : i < 2 ^ a) : Sm a i := by
  unfold Sm
  have : ((2 ^ a : Nat) : Int) = (2 : Int) ^ a := by norm_cast
  omega
theorem Sm.cmul {a b : Nat} {i j : Int} (h : Sm a i) (g : Sm b j) (e : a + b ≤ 900000 := by decide) : CMulW i j := by
  unfold CMulW Sm at *
  have l1 : i.natAbs.log2 ≤ a := by
    by_cases z : i.natAbs = 0
    · rw [z]; simp
    · exact Nat.le_of_lt ((Nat.log2_lt z).mpr h)
  have l2 : j.natAbs.log2 ≤ b := by
    by_cases z : j.natAbs = 0
    · rw [z]; simp
    · exact Nat.le_of_lt ((Nat.log2_lt z).mpr g)
  omega
theorem Sm.cdiv {a : Nat} {i j : Int} (h0 : 0 < j) (h : Sm a j) (e : a < 9000 := by decide) : CDivW i j := by
  refine ⟨h0, ?_⟩
  have z : j.natAbs ≠ 0 := by omega
  have := (Nat.log2_lt z).mpr h
  omega
theorem Sm.cpow {a : Nat} {i j : Int} (h : Sm a i) (h0 : 0 ≤ j) (h1 : j ≤ 100) (e : a ≤ 1000 := by decide) : CPowD i j := ⟨h0, h1, Nat.lt_of_lt_of_le h (Nat.pow_le_pow_right (by decide) e)⟩
@[simp] theorem ask_ints {ns : List Int} : eqAsk (.lst (ns.map D.int)) (.lst []) := by
  refine ⟨⟨?_, ?_⟩, ?_, ?_⟩
  · unfold eqOk; exact eqOks_ints ns
  · unfold toPy PyData.depth; have := depths_ints ns; omega
  · unfold eqOk eqOks; rfl
  · unfold toPy toPys PyData.depth PyData.depthAll; decide
/-! ### a pen: every draw -/
theorem Rt.mk' {P : D → Own → Prop} {d : D} {o : Own} (h : P d o) : Rt P d o := Rt.mk h
@[simp] theorem x_sz : sizeLine = 16777216 := by rw [sizeLine_eq]
@[simp] theorem x_slK {ds : List D} {lo hi : Option Int} {Q : D → Prop} : fSl0 lo hi (.kls ds) Q = Q (.lst (cutD ds lo hi)) := (rfl)
@[simp] theorem x_slL {ds : List D} {lo hi : Option Int} {Q : D → Prop} : fSl0 lo hi (.lst ds) Q = Q (.lst (cutD ds lo hi)) := (rfl)
@[simp] theorem x_slT {ds : List D} {lo hi : Option Int} {Q : D → Prop} : fSl0 lo hi (.tup ds) Q = Q (.tup (cutD ds lo hi)) := (rfl)
theorem cut_map {α : Type} (f : α → D) (l : List α) (lo hi : Option Int) : ∃ l' : List α, cutD (l.map f) lo hi = l'.map f ∧ l'.length ≤ l.length := by
  refine ⟨(l.drop (HT.sIx l.length 0 lo)).take (HT.sIx l.length l.length hi - HT.sIx l.length 0 lo), ?_, ?_⟩
  · unfold cutD; rw [List.length_map, ← List.map_drop, ← List.map_take]
  · simp only [List.length_take, List.length_drop]; omega
end L3

namespace L3
open PySem PySem.Spec PyProof.Rows L2
/-! ### texts -/
theorem chars_inj : ∀ {a b : List Char}, a.map Char.toNat = b.map Char.toNat → a = b
  | [], [], _ => rfl
  | [], _ :: _, h => by simp at h
  | _ :: _, [], h => by simp at h
  | x :: a, y :: b, h => by
    simp only [List.map_cons, List.cons.injEq] at h
    obtain ⟨h1, h2⟩ := h
    rw [chars_inj h2, show x = y from Char.ext (UInt32.toNat_inj.mp h1)]
@[simp] theorem ofS_inj {a b : String} : (Str.ofString a = Str.ofString b) = (a = b) := by
  apply propext
  constructor
  · intro h
    rw [Str.ofString_eq_toList, Str.ofString_eq_toList] at h
    injection h with h
    have h2 := congrArg Array.toList h
    simp only [] at h2
    exact String.toList_inj.mp (chars_inj h2)
  · rintro rfl; rfl
@[simp] theorem ofS_beq {a b : String} : (Str.ofString a == Str.ofString b) = (a == b) := by
  by_cases h : a = b
  · subst h; simp
  · have h' : ¬ Str.ofString a = Str.ofString b := by rw [ofS_inj]; exact h
    rw [beq_eq_false_iff_ne.mpr h', beq_eq_false_iff_ne.mpr h]
theorem Str.ext' {x y : Str} (h : x.cps.toList = y.cps.toList) : x = y := by
  cases x; cases y; simp only at h; congr; exact Array.toList_inj.mp h
@[simp] theorem cs_app {x y : Str} : (x ++ y).cps.toList = x.cps.toList ++ y.cps.toList := by
  show (x.cps ++ y.cps).toList = _
  simp
@[simp] theorem len_app {x y : Str} : (x ++ y).length = x.length + y.length := by
  show (x.cps ++ y.cps).size = _
  simp [Str.length]
theorem len_cs (x : Str) : x.length = x.cps.toList.length := by simp [Str.length]
@[simp] theorem app_assoc {x y z : Str} : x ++ y ++ z = x ++ (y ++ z) := Str.ext' (by simp)
@[simp] theorem emp_app {x : Str} : Str.empty ++ x = x := Str.ext' (by simp [Str.empty])
@[simp] theorem app_emp {x : Str} : x ++ Str.empty = x := Str.ext' (by simp [Str.empty])
@[simp] theorem ofS_emp : Str.ofString "" = Str.empty := by decide +kernel
@[simp] theorem len_emp : Str.empty.length = 0 := (rfl)
theorem len_ofS (s : String) : (Str.ofString s).length = s.length := by
  rw [Str.ofString_eq_toList]; simp [Str.length, String.length_toList]
@[simp] theorem beqS {x : Str} : (x == x) = true := by simp
/-! joins -/
@[simp] theorem strs_map : ∀ (l : List Str), strsOf (l.map D.str) = some l
  | [] => rfl
  | x :: l => by simp only [List.map_cons, strsOf, strs_map l, Option.map_some]
theorem len_join (a : Str) : ∀ l : List Str, (Str.join a l).length ≤ (l.map (·.length)).sum + l.length * a.length
  | [] => by simp [Str.join, Str.empty, Str.length]
  | [x] => by simp [Str.join]
  | x :: y :: l => by
    have := len_join a (y :: l)
    simp only [Str.join, len_app, List.map_cons, List.sum_cons, List.length_cons] at *
    rw [Nat.add_mul, Nat.one_mul]
    omega
theorem x_join {a : Str} {l : List Str} {own : Own} {P : D → Prop} : fJoin own (.str a) (.lst (l.map D.str)) P = ((l.map (·.length)).sum + l.length * a.length ≤ 16777216 ∧ P (.str (Str.join a l))) := by
  simp [fJoin, gJoin]
@[simp] theorem x_joinE {t u : ATE} {env : AEnv} {own : Own} {P : D → Own → Prop} : aJoin t u env own P = t env own fun d o1 => ∃ a, d = .str a ∧ u env o1 fun e o2 => fJoin o2 d e fun z => P z o2 := (rfl)
theorem join_emp : ∀ l : List Str, (Str.join Str.empty l).cps.toList = (l.map (·.cps.toList)).flatten
  | [] => rfl
  | [x] => by simp [Str.join]
  | x :: y :: l => by
    have := join_emp (y :: l)
    simp only [Str.join, app_emp, cs_app, this, List.map_cons, List.flatten_cons]
/-! ### comprehensions -/
section
variable {g : ATG} {tt : ATT} {te : ATE} {gd : Own → Prop} {env : AEnv} {P : List D → Own → Prop} {own : Own} {acc : List D} {d : D} {ds : List D} {ti : ATI} {vs : List Nat}
@[simp] theorem x_lc : aLc ti g tt te vs env own P = ti env own fun ds gd o => aLcL g tt te gd (wipeA env vs) P ds [] o := (rfl)
theorem x_lcN : aLcL g tt te gd env P [] acc own = (gd own ∧ P acc own) := rfl
theorem x_lcC : aLcL g tt te gd env P (d :: ds) acc own = (gd own ∧ g d env own fun env1 o1 => tt env1 o1 fun b o2 => match b with
    | true => te env1 o2 fun r o3 => aLcL g tt te gd env P ds (acc ++ [r]) o3
    | false => aLcL g tt te gd env P ds acc o2) := rfl
/-- every item gives one, and nothing else happens -/
theorem lc_pure {α : Type} (f : α → D) (h : α → D) : ∀ {l : List α} {acc : List D}, gd own → (∀ a ∈ l, ∀ Q : D → Own → Prop, Q (h a) own → g (f a) env own fun env1 o1 => te env1 o1 Q) → P (acc ++ l.map h) own → aLcL g aYes te gd env P (l.map f) acc own
  | [], acc, hg, _, hp => ⟨hg, by simpa using hp⟩
  | a :: l, acc, hg, hh, hp => ⟨hg, hh a (List.mem_cons_self ..) _ (lc_pure f h hg (fun b hb => hh b (List.mem_cons_of_mem _ hb)) (by simpa using hp))⟩
@[simp] theorem x_yes {Q : Bool → Own → Prop} : aYes env own Q = Q true own := (rfl)
@[simp] theorem x_it {te : ATE} {Q : List D → (Own → Prop) → Own → Prop} : aIt te env own Q = te env own fun d o => match see o d with
  | .lst ds => Q ds (fun o' => see o' d = .lst ds) o
  | .tup ds => Q ds (fun _ => True) o
  | .str x => x.cps.size ≤ sizeLine ∧ Q (signs x) (fun _ => True) o
  | _ => False := (rfl)
@[simp] theorem x_rng1 {ta : ATA} {Q : List D → (Own → Prop) → Own → Prop} : aRng1 ta env own Q = ta env own fun ds o => match ds with
  | [.int n] => (-(2 ^ 62) ≤ n ∧ n ≤ 16777216) ∧ Q (rng 0 n.toNat) (fun _ => True) o
  | _ => False := (rfl)
@[simp] theorem x_gst {n i : Nat} {gs : ATGs} {Q : AEnv → Own → Prop} : gSt n i gs (.tup ds) env own Q = (n ≤ ds.length + 1 ∧ ds.length ≤ 16384 ∧ gs (ds.take i ++ [.lst ((ds.drop i).take (ds.length + 1 - n))] ++ (ds.drop i).drop (ds.length + 1 - n)) env own Q) := (rfl)
@[simp] theorem x_gstL {n i : Nat} {gs : ATGs} {Q : AEnv → Own → Prop} : gSt n i gs (.lst ds) env own Q = (n ≤ ds.length + 1 ∧ ds.length ≤ 16384 ∧ gs (ds.take i ++ [.lst ((ds.drop i).take (ds.length + 1 - n))] ++ (ds.drop i).drop (ds.length + 1 - n)) env own Q) := (rfl)
@[simp] theorem x_gsN {Q : AEnv → Own → Prop} : gsNil [] env own Q = Q env own := (rfl)
@[simp] theorem x_gsC {gs : ATGs} {Q : AEnv → Own → Prop} : gsCons g gs (d :: ds) env own Q = g d env own fun env1 o1 => gs ds env1 o1 Q := (rfl)
@[simp] theorem x_gtp {n : Nat} {gs : ATGs} {Q : AEnv → Own → Prop} : gTp n gs (.tup ds) env own Q = (ds.length = n ∧ gs ds env own Q) := (rfl)
end
section
variable {env : AEnv} {own : Own} {t u : ATE} {ts : List ATE} {P : D → Own → Prop}
@[simp] theorem x_joined : aJoined ts env own P = aJs ts Str.empty env own fun z o => P (.str z) o := (rfl)
@[simp] theorem x_jsN {acc : Str} {Q : Str → Own → Prop} : aJs [] acc env own Q = Q acc own := (rfl)
@[simp] theorem x_jsC {acc : Str} {Q : Str → Own → Prop} : aJs (t :: ts) acc env own Q = t env own fun d o => match d with
    | .str y => (acc ++ y).length ≤ sizeLine ∧ aJs ts (acc ++ y) env o Q
    | _ => False := (rfl)
@[simp] theorem x_tru {Q : Bool → Own → Prop} : aTru t env own Q = t env own fun d o => match see o d with
  | .bl b => Q b o
  | .non => Q false o
  | .int i => Q (i != 0) o
  | .str x => x.length ≤ sizeLine ∧ Q ((x.length : Int) != 0) o
  | .lst xs => Q (!xs.isEmpty) o
  | .tup xs => Q (!xs.isEmpty) o
  | _ => False := (rfl)
@[simp] theorem x_getTab {tab : Str → Option D} : aGetTab tab t u env own P = t env own fun x o1 => u env o1 fun y o2 => ∃ z, x = .str z ∧ P ((tab z).getD y) o2 := (rfl)
@[simp] theorem x_ixTab {tab : Str → Option D} {a : Addr} {d e : D} {Q : D → Prop} : fIxTab tab a own d e Q = fIxTab tab a own d e Q := (rfl)
theorem x_wipe : wipeA env [] = env := rfl
end
section
variable {i : Int} {ds : List D} {x : Str}
@[simp] theorem has_nil {d : D} : hasD d [] = false := (rfl)
@[simp] theorem has_cons {d e : D} : hasD d (e :: ds) = (eqD e d || hasD d ds) := (rfl)
@[simp] theorem eqD_str {x y : Str} : eqD (.str x) (.str y) = (x == y) := (rfl)
end
/-! some of a short list of things -/
theorem at2 {α : Type} {a b : α} {k : Int} (h0 : 0 ≤ k) (h1 : k < 2) {P : α → Prop} (ha : P a) (hb : P b) : oP (atI [a, b] k) P := by
  have : k = 0 ∨ k = 1 := by omega
  rcases this with rfl | rfl
  · exact ha
  · exact hb
theorem at3 {α : Type} {a b c : α} {k : Int} (h0 : 0 ≤ k) (h1 : k < 3) {P : α → Prop} (ha : P a) (hb : P b) (hc : P c) : oP (atI [a, b, c] k) P := by
  have : k = 0 ∨ k = 1 ∨ k = 2 := by omega
  rcases this with rfl | rfl | rfl
  · exact ha
  · exact hb
  · exact hc
theorem at4 {α : Type} {a b c d : α} {k : Int} (h0 : 0 ≤ k) (h1 : k < 4) {P : α → Prop} (ha : P a) (hb : P b) (hc : P c) (hd : P d) : oP (atI [a, b, c, d] k) P := by
  have : k = 0 ∨ k = 1 ∨ k = 2 ∨ k = 3 := by omega
  rcases this with rfl | rfl | rfl | rfl
  · exact ha
  · exact hb
  · exact hc
  · exact hd
/-- any one of a list -/
theorem atA {α : Type} {l : List α} {k : Int} (h0 : 0 ≤ k) (h1 : k < l.length) {P : α → Prop} (h : ∀ a ∈ l, P a) : oP (atI l k) P := by
  obtain ⟨d, e, m⟩ := x_atN h0 h1
  rw [e]; exact h d m
@[simp] theorem ints_map {α : Type} (f : α → Int) : ∀ l : List α, intsOf (l.map fun a => D.int (f a)) = some (l.map f)
  | [] => rfl
  | a :: l => by simp only [List.map_cons, intsOf, ints_map f l, Option.map_some]
@[simp] theorem x_sum {ds : List D} {Q : D → Prop} : gSum (.lst ds) Q = oP (intsOf ds) fun ns => Q (.int ns.sum) := (rfl)
section
variable {env : AEnv} {own : Own} {t u : ATE} {P : D → Own → Prop} {E : AEnds} {g : ATG} {b : ATS} {gd : Own → Prop} {ds : List D} {d : D} {ti : ATI}
@[simp] theorem x_app : aApp t u env own P = t env own fun d o1 => ownL o1 d fun _ _ => u env o1 fun e o2 => ownL o2 d fun p ds => ds.length < sizeLine ∧ P .non (oset o2 p (.lst (ds ++ [e]))) := (rfl)
@[simp] theorem x_for : aFor ti g b E env own = ti env own fun ds gd o => aTurns g b gd E ds env o := (rfl)
theorem x_turN : aTurns g b gd E [] env own = (gd own ∧ E.nx env own) := rfl
theorem x_turC : aTurns g b gd E (d :: ds) env own = (gd own ∧ g d env own fun env1 o1 => b { nx := aTurns g b gd E ds, rt := E.rt, bk := E.nx, ct := aTurns g b gd E ds } env1 o1) := rfl
theorem flat_strs : ∀ l : List Str, (l.map D.str).all flatD = true
  | [] => rfl
  | x :: l => by simp [flatD]
end
end L3

namespace L3
open PySem PySem.Spec PyProof.Rows L2
/-! ### what may be asked of by == and repr: bounds of depth and weight -/
structure PyOk (d : D) (dep wt : Nat) : Prop where
  eq : eqOk d = true
  sh : (toPy d).showable = true
  lv : (toPy d).leavesShort 13 = true
  dp : (toPy d).depth ≤ dep
  wt : (toPy d).weight ≤ wt
structure PysOk (ds : List D) (dep wt : Nat) : Prop where
  eq : eqOks ds = true
  sh : PyData.showableAll (toPys ds) = true
  lv : PyData.leavesShortAll 13 (toPys ds) = true
  dp : PyData.depthAll (toPys ds) ≤ dep
  wt : PyData.weightAll (toPys ds) ≤ wt
theorem PyOk.mono {d : D} {a b a' b' : Nat} (h : PyOk d a b) (h1 : a ≤ a') (h2 : b ≤ b') : PyOk d a' b' := ⟨h.eq, h.sh, h.lv, Nat.le_trans h.dp h1, Nat.le_trans h.wt h2⟩
theorem PysOk.mono {d : List D} {a b a' b' : Nat} (h : PysOk d a b) (h1 : a ≤ a') (h2 : b ≤ b') : PysOk d a' b' := ⟨h.eq, h.sh, h.lv, Nat.le_trans h.dp h1, Nat.le_trans h.wt h2⟩
theorem strOk_all {x : Str} : PyData.strOk x = x.cps.toList.all fun c => decide (c < 0x110000) := by unfold PyData.strOk; rw [Array.all_toList]
theorem PyOk.str {x : Str} (h : PyData.strOk x = true) {a b : Nat} (hl : x.length ≤ b) : PyOk (.str x) a b := by
  refine ⟨by unfold eqOk; exact h, by unfold toPy PyData.showable; rfl, ?_, by unfold toPy PyData.depth; omega, by unfold toPy PyData.weight; exact hl⟩
  rw [strOk_all] at h
  unfold toPy PyData.leavesShort
  simp only [List.all_eq_true, decide_eq_true_eq] at h ⊢
  intro c hc
  have := h c hc
  have e : (16 : Nat) ^ 8 = 4294967296 := by decide
  omega
theorem PyOk.non {a b : Nat} : PyOk .non a b := by
  refine ⟨by unfold eqOk; rfl, by unfold toPy PyData.showable; rfl, by unfold toPy PyData.leavesShort; rfl, by unfold toPy PyData.depth; omega, by unfold toPy PyData.weight; omega⟩
theorem PyOk.bl {x : Bool} {a b : Nat} : PyOk (.bl x) a b := by
  refine ⟨by unfold eqOk; rfl, by unfold toPy PyData.showable; rfl, by unfold toPy PyData.leavesShort; rfl, by unfold toPy PyData.depth; omega, by unfold toPy PyData.weight; omega⟩
theorem PyOk.int {i : Int} (h : i.natAbs < 10 ^ 12) {a b : Nat} (hb : 40 ≤ b) : PyOk (.int i) a b := by
  have hl : i.natAbs.log2 < 40 := by
    by_cases z : i.natAbs = 0
    · rw [z]; decide
    · exact (Nat.log2_lt z).mpr (Nat.lt_of_lt_of_le h (by decide))
  refine ⟨by unfold eqOk; rfl, ?_, ?_, by unfold toPy PyData.depth; omega, ?_⟩
  · unfold toPy PyData.showable; simp only [decide_eq_true_eq]; omega
  · unfold toPy PyData.leavesShort; simp only [decide_eq_true_eq]; exact PyData.shown_int_le h
  · unfold toPy PyData.weight; split <;> omega
theorem PyOk.tup {ds : List D} {a b : Nat} (h : PysOk ds a b) : PyOk (.tup ds) (a + 1) b := by
  refine ⟨by unfold eqOk; exact h.eq, by unfold toPy PyData.showable; exact h.sh, by unfold toPy PyData.leavesShort; exact h.lv, ?_, by unfold toPy PyData.weight; exact h.wt⟩
  unfold toPy PyData.depth; exact Nat.succ_le_succ h.dp
theorem PyOk.lst {ds : List D} {a b : Nat} (h : PysOk ds a b) : PyOk (.lst ds) (a + 1) b := by
  refine ⟨by unfold eqOk; exact h.eq, by unfold toPy PyData.showable; exact h.sh, by unfold toPy PyData.leavesShort; exact h.lv, ?_, by unfold toPy PyData.weight; exact h.wt⟩
  unfold toPy PyData.depth; exact Nat.succ_le_succ h.dp
theorem PysOk.nil {a b : Nat} : PysOk [] a b := by
  refine ⟨by unfold eqOks; rfl, by unfold toPys PyData.showableAll; rfl, by unfold toPys PyData.leavesShortAll; rfl, by unfold toPys PyData.depthAll; omega, by unfold toPys PyData.weightAll; omega⟩
theorem PysOk.cons {d : D} {ds : List D} {a b c : Nat} (h : PyOk d a b) (r : PysOk ds a c) : PysOk (d :: ds) a (b + 1 + c) := by
  refine ⟨by unfold eqOks; rw [h.eq, r.eq]; rfl, by unfold toPys PyData.showableAll; rw [h.sh, r.sh]; rfl, by unfold toPys PyData.leavesShortAll; rw [h.lv, r.lv]; rfl, ?_, ?_⟩
  · unfold toPys PyData.depthAll; exact Nat.max_le.mpr ⟨h.dp, r.dp⟩
  · unfold toPys PyData.weightAll; have := h.wt; have := r.wt; omega
theorem PyOk.repr {d : D} {a b : Nat} (h : PyOk d a b) (h1 : a ≤ 64) (h2 : b ≤ 1048576) : reprOk d = true := by
  unfold reprOk
  simp only [Bool.and_eq_true, decide_eq_true_eq]
  exact ⟨⟨⟨h.eq, h.sh⟩, Nat.le_trans h.dp h1⟩, PyData.shown_fits (B := 13) (by decide) (by decide) h.lv (Nat.le_trans h.wt (Nat.le_trans h2 (by decide)))⟩
@[simp] theorem x_reprT {ds : List D} {Q : D → Prop} : gRepr (.tup ds) Q = (reprOk (.tup ds) = true ∧ Q (.str (reprD (.tup ds)))) := (rfl)
@[simp] theorem x_reprL {ds : List D} {Q : D → Prop} : gRepr (.lst ds) Q = (reprOk (.lst ds) = true ∧ Q (.str (reprD (.lst ds)))) := (rfl)
theorem kit_str : kitB "str" "str" = some true := by decide +kernel
@[simp] theorem x_isiS {own : Own} {x : Str} {Q : D → Prop} : fIsi own [.str x, .ty "str"] Q = Q (.bl true) := by
  show oP (kitB "str" "str") (fun b => Q (.bl b)) = _
  rw [kit_str]; rfl
end L3

namespace L3
open PySem PySem.Spec PyProof.Rows L2
/-! ### the end: what the top has left, read by a Hook -/
abbrev FnP (K : PySem.W.Frag) (x : Str) (st : Stmt) (dvs : List V) (kws : List (Str × V)) (f : Addr) (fd : FuncData) : Prop := FunD K x x (defArgs st) (defBody st) (defScope st) dvs kws f fd
theorem funX {K : PySem.W.Frag} {x qual : Str} {st : Stmt} {dvs : List V} {kws : List (Str × V)} {f : Addr} {fd : FuncData} (F : FunD K x qual (defArgs st) (defBody st) (defScope st) dvs kws f fd) : FunX K x qual st f fd :=
  let ⟨oc, od, dV, kV, doc, pm, an, cdv, ct, osl, e, lk, hcd, _, _⟩ := F.ex
  ⟨oc, od, dV, kV, doc, pm, an, cdv, ct, osl, e, lk, hcd⟩
/-! data of the top -/
mutual
def dtB (K : PySem.W.Frag) : D → Value → Bool
  | .non, .none => true
  | .bl b, .bool c => decide (b = c)
  | .int i, .int j _ => decide (i = j)
  | .str x, .str y _ => decide (x = y)
  | .ty n, .type m => decide (n = m)
  | .tup ds, .ref a => (match K.lookup a with
    | some ⟨.type c, _, .seq its _, _⟩ => decide (c = "tuple") && (decide (its.size ≤ sizeLine) && dtsB K ds its.toList)
    | _ => false)
  | _, _ => false
def dtsB (K : PySem.W.Frag) : List D → List Value → Bool
  | [], [] => true
  | d :: ds, u :: us => dtB K d u && dtsB K ds us
  | _, _ => false
end
mutual
theorem dtB_ok {K : PySem.W.Frag} : ∀ {d : D} {u : Value}, dtB K d u = true → ∃ v, RelV v u ∧ ∀ G, Dt K G d v
  | .non, u, h => by
    cases u <;> first | (unfold dtB at h; cases h; done) | skip
    exact ⟨.non, rfl, fun G => by unfold Dt; rfl⟩
  | .bl b, u, h => by
    cases u <;> first | (unfold dtB at h; cases h; done) | skip
    rename_i c
    unfold dtB at h
    obtain rfl := of_decide_eq_true h
    exact ⟨.bl b, rfl, fun G => by unfold Dt; rfl⟩
  | .int i, u, h => by
    cases u <;> first | (unfold dtB at h; cases h; done) | skip
    rename_i j t
    unfold dtB at h
    obtain rfl := of_decide_eq_true h
    exact ⟨.int i, ⟨t, rfl⟩, fun G => by unfold Dt; rfl⟩
  | .str x, u, h => by
    cases u <;> first | (unfold dtB at h; cases h; done) | skip
    rename_i y t
    unfold dtB at h
    obtain rfl := of_decide_eq_true h
    exact ⟨.str x, ⟨t, rfl⟩, fun G => by unfold Dt; rfl⟩
  | .ty n, u, h => by
    cases u <;> first | (unfold dtB at h; cases h; done) | skip
    rename_i m
    unfold dtB at h
    obtain rfl := of_decide_eq_true h
    exact ⟨.ty n, rfl, fun G => by unfold Dt; rfl⟩
  | .tup ds, u, h => by
    cases u <;> first | (unfold dtB at h; cases h; done) | skip
    rename_i a
    unfold dtB at h
    cases q : K.lookup a with
    | none => rw [q] at h; cases h
    | some o =>
      obtain ⟨oc, od, dt, osl⟩ := o
      rw [q] at h
      cases oc with
      | type c =>
        cases dt with
        | seq its n =>
          obtain ⟨h1, h2⟩ := He.ba (show (decide (c = "tuple") && (decide (its.size ≤ sizeLine) && dtsB K ds its.toList)) = true from h)
          obtain ⟨h3, h4⟩ := He.ba h2
          obtain ⟨vs, r1, r2⟩ := dtsB_ok h4
          refine ⟨.ref a, rfl, fun G => ?_⟩
          unfold Dt
          exact ⟨a, vs, rfl, .inr ⟨_, its, n, q, congrArg Value.type (of_decide_eq_true h1), rfl, of_decide_eq_true h3, r1⟩, r2 G⟩
        | _ => cases h
      | _ => cases dt <;> cases h
  | .lst _, u, h => by cases u <;> (unfold dtB at h; cases h)
  | .dct _, u, h => by cases u <;> (unfold dtB at h; cases h)
  | .ref _, u, h => by cases u <;> (unfold dtB at h; cases h)
  | .kls _, u, h => by cases u <;> (unfold dtB at h; cases h)
theorem dtsB_ok {K : PySem.W.Frag} : ∀ {ds : List D} {us : List Value}, dtsB K ds us = true → ∃ vs, Vals vs us ∧ ∀ G, Dts K G ds vs
  | [], [], _ => ⟨[], .nil, fun G => by unfold Dts; rfl⟩
  | [], _ :: _, h => by unfold dtsB at h; cases h
  | _ :: _, [], h => by unfold dtsB at h; cases h
  | d :: ds, u :: us, h => by
    unfold dtsB at h
    obtain ⟨h1, h2⟩ := He.ba h
    obtain ⟨v, r1, r2⟩ := dtB_ok h1
    obtain ⟨vs, r3, r4⟩ := dtsB_ok h2
    exact ⟨v :: vs, .cons r1 r3, fun G => by unfold Dts; exact ⟨v, vs, rfl, r2 G, r4 G⟩⟩
end
/-- a global that is a piece of data -/
def gloB (K : PySem.W.Frag) (x : Str) (d : D) : Bool := match PySem.W.nsIn K mainGlobals x with
  | some (some u) => dtB K d u
  | _ => false
theorem gloB_ok {K : PySem.W.Frag} {h : Heap} {mg : Str → Option Value} (X : K.In h) (G : h.Ns mainGlobals mg) {x : Str} {ds : List D} (c : gloB K x (.tup ds) = true) : ∃ u : Addr, mg x = some (.ref u) ∧ ∀ G, Dt K G (.tup ds) (.ref u) := by
  unfold gloB at c
  cases e : PySem.W.nsIn K mainGlobals x with
  | none => rw [e] at c; cases c
  | some r =>
    rw [e] at c
    cases r with
    | none => cases c
    | some u =>
      obtain ⟨v, r1, r2⟩ := dtB_ok (show dtB K (.tup ds) u = true from c)
      have h1 := PySem.W.mg_of X G e
      obtain ⟨a, vs, e1, _⟩ := (show ∃ a vs, v = .ref a ∧ SqT K (fun _ => none) a vs ∧ Dts K (fun _ => none) ds vs from by have := r2 (fun _ => none); unfold Dt at this; exact this)
      subst e1
      have e2 : u = Value.ref a := r1
      subst e2
      exact ⟨a, h1, r2⟩
/-! tables -/
def lookD : List (Str × D) → Str → Option D
  | [], _ => none
  | (k, v) :: r, z => if z = k then some v else lookD r z
def tabL (K : PySem.W.Frag) : List (Str × D) → List DictEntry → Bool
  | [], [] => true
  | (k, d) :: r, e :: es => (match e.key with
    | .str x _ => decide (x = k) && (dtB K d e.val && tabL K r es)
    | _ => false)
  | _, _ => false
def tabB (K : PySem.W.Frag) (a : Addr) (kv : List (Str × D)) : Bool := match K.lookup a with
  | some ⟨_, _, .dict es _, _⟩ => tabL K kv es.toList
  | _ => false
theorem tabL_ok {K : PySem.W.Frag} {z : Str} : ∀ {kv : List (Str × D)} {l : List DictEntry}, tabL K kv l = true → tabV K (lookD kv z) ((l.find? fun e => Value.isStrOf z e.key).map (·.val))
  | [], [], _ => trivial
  | [], _ :: _, h => by unfold tabL at h; cases h
  | _ :: _, [], h => by unfold tabL at h; cases h
  | (k, d) :: r, e :: es, h => by
    unfold tabL at h
    obtain ⟨hash, key, val⟩ := e
    cases key <;> first | (cases h; done) | skip
    rename_i x t
    obtain ⟨h1, h2⟩ := He.ba (show (decide (x = k) && (dtB K d val && tabL K r es)) = true from h)
    obtain ⟨h3, h4⟩ := He.ba h2
    obtain rfl := of_decide_eq_true h1
    unfold lookD
    by_cases q : z = x
    · subst q
      rw [if_pos rfl]
      have e1 : Value.isStrOf z (Value.str z t) = true := by unfold Value.isStrOf; simp
      rw [List.find?_cons_of_pos (p := fun e : DictEntry => Value.isStrOf z e.key) e1]
      exact dtB_ok h3
    · rw [if_neg q]
      have e1 : ¬ Value.isStrOf z (Value.str x t) = true := by unfold Value.isStrOf; simp; exact fun y => q y.symm
      rw [List.find?_cons_of_neg (p := fun e : DictEntry => Value.isStrOf z e.key) e1]
      exact tabL_ok h4
theorem kTab_of {K : PySem.W.Frag} {w : World} {a : Addr} {kv : List (Str × D)} (h : ∃ es n, KDict K w a es n) (c : tabB K a kv = true) : KTab K w a (lookD kv) := by
  obtain ⟨es, n, e1, e2, e3⟩ := h
  refine ⟨es, n, e1, e2, e3, fun z => ?_⟩
  unfold tabB at c
  rw [e1] at c
  obtain ⟨l⟩ := es
  unfold findBy
  rw [List.find?_toArray]
  exact tabL_ok c
/-! the Hook: facts, defs, tables, a look of one's own -/
abbrev AlX : Type := He.AlT × Bool
def obsX (fa : List He.Fa) (fn : List He.DefD) (ts : List He.Tab) (ck : PySem.W.Frag → Bool) (K : PySem.W.Frag) : AlX := (He.obsT fa fn ts K, ck K)
def obsXG (n : Nat) (fa : List He.Fa) (fn : List He.DefD) (ts : List He.Tab) (ck : PySem.W.Frag → Bool) (g : Addr → Option Obj) : AlX := obsX fa fn ts ck (He.frG g (He.asD g n))
structure SaysX (fa : List He.Fa) (fn : List He.DefD) (ts : List He.Tab) (ck : PySem.W.Frag → Bool) (w : World) (K : PySem.W.Frag) : Prop where
  t : He.SaysT fa fn ts w K
  ck : ck K = true
def hookX (n : Nat) (fa : List He.Fa) (fn : List He.DefD) (ts : List He.Tab) (ck : PySem.W.Frag → Bool) : PySem.W.Hook where
  α := AlX
  obs := fun s => obsXG n fa fn ts ck s.heap.get?
  val := fun w => (He.valT fn ts w, true)
  says := fun w h => ∃ K : PySem.W.Frag, K.In h ∧ SaysX fa fn ts ck w K
  of := fun _ _ e => ⟨_, He.frG_in, ⟨congrArg (fun z : AlX => z.1) e, congrArg (fun z : AlX => z.2) e⟩⟩
  keeps := fun _ _ _ ⟨K, hK, c⟩ k => ⟨K, PySem.W.Frag.In.keeps hK k, c⟩
theorem obsXG_eq {n : Nat} {fa : List He.Fa} {fn : List He.DefD} {ts : List He.Tab} {ck : PySem.W.Frag → Bool} {g : Addr → Option Obj} {s : Shared} (h : ∀ a, g a = s.heap.get? a) : obsXG n fa fn ts ck g = (hookX n fa fn ts ck).obs s := by
  have e : g = s.heap.get? := funext h
  rw [e] <;> rfl
/-! defs by name -/
def Has (K : PySem.W.Frag) (mg : Str → Option Value) (x : Str) (st : Stmt) : Prop := ∃ f fd, FnP K x st [] [] f fd ∧ mg x = some (.ref f)
/-- how a def without defaults binds its values -/
def Bd (x : Str) (st : Stmt) (ps : List Str) : Prop := ∀ (kV doc pm : Value) (an : Option Addr) (cdv ct : Value) (us : List Value), us.length = ps.length → bindArgs (PySem.W.fnOf x x (defArgs st) (defBody st) (defScope st) .none kV doc pm an cdv ct) ⟨us, []⟩ = pure (ps.zip us)
def BdK (x : Str) (st : Stmt) (ps : List Str) (n : Nat) (ks : List Str) : Prop := ∀ (kV doc pm : Value) (an : Option Addr) (cdv ct : Value) (us ws : List Value), us.length = n → ws.length = ks.length → bindArgs (PySem.W.fnOf x x (defArgs st) (defBody st) (defScope st) .none kV doc pm an cdv ct) ⟨us, ks.zip ws⟩ = pure (ps.zip (us ++ ws))
section
variable {P : Program} {w : World} {K : PySem.W.Frag} {mg : Str → Option Value} {base : Heap} {x : Str} {st : Stmt} {N ps : List Str} {k n : Nat} {ks : List Str} {S : Spec}
/-- the def's body does as its promise says -/
def Bod (P : Program) (w : World) (K : PySem.W.Frag) (mg : Str → Option Value) (base : Heap) (x : Str) (st : Stmt) (N : List Str) (k : Nat) (S : Spec) : Prop :=
  ∀ (f : Addr) (cdv : Value) (A : Around) (outer : List PySem.Env) (s : Shared) (H : Hp) (E : XK) (w0 : Wd) (ds : List D) (Q : D → Own → Prop), Room k (A.deeper (envOfC x (defScope st) s.heap.objs.size f cdv)) → A.guards = some [] → S ds w0.own Q →
    ∃ t, ASs (cxOf CX0 P w K mg base N x (defScope st) f cdv A outer s H E).nox w0 (defBody st) t ∧ t { nx := fun _ o => Rt Q .non o, rt := Rt Q } (astart N ds) w0.own
theorem kn_def (F : Has K mg x st) (sc : FnScope N ps (defScope st)) (hb : Bd x st ps) (len : ∀ ds o Q, S ds o Q → ds.length = ps.length) (b : Bod P w K mg base x st N k S) : Kn P w K mg base (k + 1) x ps [] S := by
  obtain ⟨f, fd, F, hm⟩ := F
  exact ⟨f, fd, [], [], hm, F.kp, F.bindsN hb, .nil, fun _ => by unfold Dts; rfl, def_ok (funX F) sc len (b f)⟩
theorem knK_def (F : Has K mg x st) (sc : FnScope N ps (defScope st)) (hn : n + ks.length = ps.length) (hb : BdK x st ps n ks) (len : ∀ ds o Q, S ds o Q → ds.length = ps.length) (b : Bod P w K mg base x st N k S) : KnK P w K mg base (k + 1) x ps n ks S := by
  obtain ⟨f, fd, F, hm⟩ := F
  refine ⟨f, fd, hm, F.kp, hn, fun s us ws h1 h2 => ?_, def_ok (funX F) sc len (b f)⟩
  obtain ⟨oc, od, dV, kV, doc, pm, an, cdv, ct, osl, rfl, lk, hcd, hD, hK⟩ := F.ex
  rcases hD with ⟨_, rfl⟩ | ⟨e, _⟩
  · exact .of_eq (hb kV doc pm an cdv ct us ws h1 h2)
  · exact absurd rfl e
theorem bindsOf {f : Addr} {fd : FuncData} (F : FnP K x st [] [] f fd) (hb : Bd x st ps) (s : Shared) (us : List Value) (hl : us.length = ps.length) : BindsTo s fd ⟨us, []⟩ (ps.zip us) := FunD.bindsA F hb s us hl
variable {h : Heap} {fa : List He.Fa} {fn : List He.DefD} {ts : List He.Tab} {ck : PySem.W.Frag → Bool}
theorem has_of (X : K.In h) (G : h.Ns mainGlobals mg) (c : SaysX fa fn ts ck w K) (i j : Nat) (h1 : fa[i]? = some (.glo x) := by rfl) (h2 : fn[j]? = some ⟨(x, none), x, x, defArgs st, defBody st, defScope st, [], []⟩ := by rfl) : Has K mg x st := by
  obtain ⟨fd, F⟩ := c.t.d.def_ j h2
  exact ⟨_, fd, F, He.glo_ok X G (c.t.d.fact i h1)⟩
end
theorem walkGE {l : PySem.W.OpenLaw} {n k : Nat} {q : Program} {loose : List Str} {XP : (Str → Option Value) → Heap → Prop} {YP : World → Heap → Prop} {d : DefRec} {x : Str}
    (hn : l.most = some n) (hn2 : n ≤ sizeLine) (hdf : d.params.defaults = []) (hr : Room k callerA)
    (F : ∀ (w : World) (mg : Str → Option Value) (fa : Addr) (h : Heap), YP w h → h.Ns mainGlobals mg → mg d.name = some (.ref fa) →
      ∃ (K : PySem.W.Frag) (fd : FuncData), K.In h ∧ (∀ (s : Shared) (u : Value), BindsTo s fd ⟨[u], []⟩ [(x, u)]) ∧
        ∀ base : Heap, K.In base → base.Ns mainGlobals mg → FnG l.prog w K mg base CX0 k fa fd [x] (spOf K (spLaw n))) :
    PySem.W.WalkO q loose XP YP l.row.toRowW d [] (fun f vs => PySem.call f vs) := by
  refine Att.attach_call hn hdf fun w s₀ s₁ mg mb fa o pm cd doc a vs ns G Y ho hd hcd hmg hobj hints hlen hg => ?_
  obtain ⟨K, fd, KX, hb, hF⟩ := F w mg fa _ Y G.T.g hmg
  exact law_callG KX G.T.g G.T.b G.T.builtins G.T.nolimit hg hobj hints (Nat.le_trans hlen hn2) hr hF hb ⟨ns, rfl, hlen, rfl, fun _ _ h => h⟩
end L3

namespace L3
open PySem PySem.Spec PyProof.Rows L2
/-! ### zip and enumerate over lists, tuples, texts -/
/-- one side of a zip -/
inductive Hf where | l (a : Addr) | t (a : Addr) | s (x : Str)
namespace Hf
def kn (it : Addr) (i : Nat) (h : Heap) : Hf → Prop
  | .l a => h.IsListIter it a i
  | .t a => h.IsTupleIter it a i
  | .s x => ∃ t, h.IsStrIter it (strIterType x) x t i
def dt : Hf → List Addr
  | .l a => [a]
  | .t a => [a]
  | .s _ => []
def go (K : PySem.W.Frag) (i : Nat) (H : Hp) : Hf → Prop
  | .l a => ∃ xs x, SqL K H a xs ∧ xs[i]? = some x
  | .t a => ∃ xs x, SqT K H a xs ∧ xs[i]? = some x
  | .s x => i < x.cps.size
def at_ (K : PySem.W.Frag) (i : Nat) (H : Hp) (v : V) : Hf → Prop
  | .l a => ∀ xs, SqL K H a xs → xs[i]? = some v
  | .t a => ∀ xs, SqT K H a xs → xs[i]? = some v
  | .s x => ∃ c, x.cps[i]? = some c ∧ v = .str ⟨#[c]⟩
def stop (K : PySem.W.Frag) (i : Nat) (H : Hp) : Hf → Prop
  | .l a => ∃ xs, SqL K H a xs ∧ xs.length ≤ i
  | .t a => ∃ xs, SqT K H a xs ∧ xs.length ≤ i
  | .s x => x.cps.size ≤ i
theorem keep {f : Hf} {it : Addr} {i : Nat} {h h' : Heap} (k : f.kn it i h) (e : ∀ o, h.get? it = some o → h'.get? it = some o) : f.kn it i h' := by
  cases f with
  | l a => exact Heap.IsListIter.at k e
  | t a => exact Heap.IsTupleIter.at k e
  | s x => obtain ⟨t, o, ho, r⟩ := k; exact ⟨t, o, e o ho, r⟩
theorem obj {f : Hf} {it : Addr} {i : Nat} {h : Heap} (k : f.kn it i h) : ∃ o, h.get? it = some o ∧ ∀ v, o.data ≠ .cell v := by
  cases f with
  | l a => obtain ⟨o, e, c, d⟩ := k; exact ⟨o, e, fun v z => by rw [d] at z; cases z⟩
  | t a => obtain ⟨o, e, c, d⟩ := k; exact ⟨o, e, fun v z => by rw [d] at z; cases z⟩
  | s x => obtain ⟨t, o, e, c, d⟩ := k; exact ⟨o, e, fun v z => by rw [d] at z; cases z⟩
end Hf
section
variable {X : Cx} {pins : List (Addr × Obj)} {σ : L2.St} {H : Hp} {s : Shared} {it : Addr} {i : Nat}
theorem half_go (hc : X.calm = true) (I : Inv X pins σ H s) {f : Hf} (hne : it ∉ f.dt) (k : f.kn it i s.heap) (g : f.go X.K i H) :
    ∃ (n : Nat) (P : Nat → Value → Prop) (St : Nat → Heap → Prop), Draws X.prog X.w X.A.in1 it (it :: f.dt) n P St ∧ St i s.heap ∧ i < n ∧ (∀ j h, St j h → f.kn it j h) ∧ ∀ u, P i u → ∃ x, RelV x u ∧ f.at_ X.K i H x := by
  have hh : X.A.in1.handled = none := I.ok.hd hc
  cases f with
  | l a =>
    obtain ⟨xs, x, hq, hx⟩ := g
    obtain ⟨its, rv, p, _⟩ := I.list hq
    have hl := rv.length
    have hi : i < xs.length := (List.getElem?_eq_some_iff.mp hx).1
    refine ⟨_, _, _, Draws.list hh it a (fun z => hne (by simp [Hf.dt, z])) its.toArray, ⟨k, p.isList⟩, by simp; omega, fun j h st => st.1, fun u hu => ?_⟩
    obtain ⟨u', hu', ru⟩ := rv.get hx
    have : u = u' := by simp at hu; rw [hu] at hu'; exact Option.some.inj hu'
    subst this
    exact ⟨x, ru, fun ys hy => by rw [I.list_inj hy hq]; exact hx⟩
  | t a =>
    obtain ⟨xs, x, hq, hx⟩ := g
    obtain ⟨its, rv, p, _⟩ := I.tuple hq
    have hl := rv.length
    have hi : i < xs.length := (List.getElem?_eq_some_iff.mp hx).1
    refine ⟨_, _, _, Draws.tuple hh it a (fun z => hne (by simp [Hf.dt, z])) its.toArray, ⟨k, p⟩, by simp; omega, fun j h st => st.1, fun u hu => ?_⟩
    obtain ⟨u', hu', ru⟩ := rv.get hx
    have : u = u' := by simp at hu; rw [hu] at hu'; exact Option.some.inj hu'
    subst this
    exact ⟨x, ru, fun ys hy => by rw [I.tuple_inj hy hq]; exact hx⟩
  | s x =>
    obtain ⟨t, k⟩ := k
    exact ⟨_, _, _, Draws.text hh it x t, k, g, fun j h st => ⟨t, st⟩, fun u ⟨c, tk, h1, h2⟩ => ⟨.str ⟨#[c]⟩, ⟨tk, h2⟩, c, h1, rfl⟩⟩
theorem half_stop (hc : X.calm = true) (I : Inv X pins σ H s) {f : Hf} (k : f.kn it i s.heap) (g : f.stop X.K i H) :
    ∃ (P : Nat → Value → Prop) (St : Nat → Heap → Prop), Draws X.prog X.w X.A.in1 it (it :: f.dt) i P St ∧ St i s.heap := by
  have hh : X.A.in1.handled = none := I.ok.hd hc
  cases f with
  | l a =>
    obtain ⟨xs, hq, hx⟩ := g
    obtain ⟨its, rv, p, _⟩ := I.list hq
    have hl := rv.length
    refine ⟨fun _ _ => True, fun j h => (h.IsListIter it a j ∧ h.IsList a its.toArray) ∧ i ≤ j, ⟨fun _ _ st => let ⟨o, ho, _⟩ := st.1.1; ⟨o, ho⟩, fun _ _ _ st hk => ⟨⟨st.1.1.at fun o e => hk it (by simp) o e, st.1.2.at fun o e => hk a (by simp [Hf.dt]) o e⟩, st.2⟩,
      fun j s Q E hj st _ => absurd st.2 (by omega), fun s Q E st hE => wpAny_nextOf_list_end hh st.1.1 st.1.2 (by simp; omega) hE⟩, ⟨k, p.isList⟩, Nat.le_refl _⟩
  | t a =>
    obtain ⟨xs, hq, hx⟩ := g
    obtain ⟨its, rv, p, _⟩ := I.tuple hq
    have hl := rv.length
    refine ⟨fun _ _ => True, fun j h => (h.IsTupleIter it a j ∧ h.IsTuple a its.toArray) ∧ i ≤ j, ⟨fun _ _ st => let ⟨o, ho, _⟩ := st.1.1; ⟨o, ho⟩, fun _ _ _ st hk => ⟨⟨st.1.1.at fun o e => hk it (by simp) o e, st.1.2.at fun o e => hk a (by simp [Hf.dt]) o e⟩, st.2⟩,
      fun j s Q E hj st _ => absurd st.2 (by omega), fun s Q E st hE => wpAny_nextOf_tuple_end hh st.1.1 st.1.2 (by simp; omega) hE⟩, ⟨k, p⟩, Nat.le_refl _⟩
  | s x =>
    obtain ⟨t, k⟩ := k
    have g' : x.cps.size ≤ i := g
    refine ⟨fun _ _ => True, fun j h => h.IsStrIter it (strIterType x) x t j ∧ i ≤ j, ⟨fun _ _ st => let ⟨o, ho, _⟩ := st.1; ⟨o, ho⟩, fun _ _ _ st hk => ⟨let ⟨o, ho, r⟩ := st.1; ⟨o, hk it (by simp) o ho, r⟩, st.2⟩,
      fun j s Q E hj st _ => absurd st.2 (by omega), fun s Q E st hE => ?_⟩, k, Nat.le_refl _⟩
    have st1 := st.1
    cases ha : x.cps.all (· < 128)
    · simp only [strIterType, ha, Bool.false_eq_true, if_false] at st1
      exact wpAny_nextOf_wide_end hh st1 (by simp; omega) hE
    · simp only [strIterType, ha, if_true] at st1
      exact wpAny_nextOf_ascii_end hh st1 (by simp; omega) hE
end
def Itz2 (K : PySem.W.Frag) (f g : Hf) : It :=
  ⟨fun i H => f.go K i H ∧ g.go K i H, fun i H v H' => ∃ T x y, v = .ref T ∧ H T = none ∧ H' = upd H T (.tup [x, y]) ∧ f.at_ K i H x ∧ g.at_ K i H y,
    fun i H => (f.go K i H ∨ f.stop K i H) ∧ (g.go K i H ∨ g.stop K i H) ∧ (f.stop K i H ∨ g.stop K i H)⟩
theorem turn_zip2 {P : Program} {w : World} {K : PySem.W.Frag} {elts : List Expr} {kk : Nat} {tpos : Pos} {f g : Hf} {z TI TO i1 i2 : Addr} (D : ZipSep2 z TI TO i1 i2 (i1 :: f.dt) (i2 :: g.dt)) (d1 : i1 ∉ f.dt) (d2 : i2 ∉ g.dt) :
    Turn P w K (.Tuple elts kk tpos) (Itz2 K f g) [z, TI, TO, i1, i2] z (fun i h => IsZip h z TI TO .none ∧ IsTupOf2 h TI (.ref i1) (.ref i2) ∧ (∃ x y, IsTupOf2 h TO x y) ∧ f.kn i1 i h ∧ g.kn i2 i h) where
  mem := by simp
  obj := fun i h st c hc => by
    obtain ⟨hz, hTI, ⟨x, y, hTO⟩, k1, k2⟩ := st
    have e' : c = z ∨ c = TI ∨ c = TO ∨ c = i1 ∨ c = i2 := by simpa using hc
    rcases e' with q | q | q | q | q
    · rw [q]; exact ⟨_, hz, fun v q => nomatch q⟩
    · rw [q]; exact ⟨_, hTI, fun v q => nomatch q⟩
    · rw [q]; exact ⟨_, hTO, fun v q => nomatch q⟩
    · rw [q]; exact Hf.obj k1
    · rw [q]; exact Hf.obj k2
  keep := fun i h h' st k => by
    obtain ⟨hz, hTI, ⟨x, y, hTO⟩, h1, h2⟩ := st
    exact ⟨k z (by simp) _ hz, k TI (by simp) _ hTI, ⟨x, y, k TO (by simp) _ hTO⟩, Hf.keep h1 fun o q => k i1 (by simp) o q, Hf.keep h2 fun o q => k i2 (by simp) o q⟩
  item := by
    intro X hP hw hK hc i pins s σ H E I hf st hg
    subst hP hw hK
    obtain ⟨hz, hTI, ⟨x0, y0, hTO⟩, h1, h2⟩ := st
    obtain ⟨g1, g2⟩ := hg
    obtain ⟨n1, P1, S1, D1, s1, l1, b1, c1⟩ := half_go hc I d1 h1 g1
    obtain ⟨n2, P2, S2, D2, s2, l2, b2, c2⟩ := half_go hc I d2 h2 g2
    have hzl : z < s.heap.objs.size := Heap.lt_size hz
    refine wpAny_pyNext_zipD2_item D D1 D2 hz hTI hTO s1 s2 l1 l2 fun u u2 h' tk p1 p2 z' TO' h1' h2' hT hsz hk => ?_
    obtain ⟨x, ru, hx⟩ := c1 u p1
    obtain ⟨y, ru2, hy⟩ := c2 u2 p2
    refine ⟨_, rfl, wpAny_letOwnedTupleGo_zip (s := { s with heap := h', toks := tk }) z' fun h'' z'' sb => ?_⟩
    have hT2 : h''.get? s.heap.objs.size = some { cls := .type "tuple", data := .seq #[u, u2] } := (sb.2 _ (Nat.ne_of_gt hzl)).trans hT
    have new : ObjOk X.prog X.w (upd H s.heap.objs.size (.tup [x, y])) h'' s.heap.objs.size (.tup [x, y]) :=
      ⟨by show 2 ≤ sizeLine; decide, [u, u2], .cons ru (.cons ru2 .nil), ⟨_, hT2, rfl, _, rfl⟩⟩
    have I1 : Inv X pins σ (upd H s.heap.objs.size (.tup [x, y])) { s with heap := h'', toks := tk } :=
      I.turnedNew (t' := tk) (ch := [z, TI, TO, i1, i2]) (fun c o hb q => (sb.2 c (fun q' => hb (by simp [q']))).trans (hk c o (fun q' => hb (by simp [q'])) (fun q' => hb (by simp [q'])) (fun q' => hb (by simp [q'])) (fun q' => hb (by simp [q'])) q)) hf (Nat.le_refl _) new
    refine ⟨.ref s.heap.objs.size, _, I1, rfl, ⟨_, x, y, rfl, I.hok.fresh (Nat.le_refl _), rfl, hx, hy⟩, ⟨z'', ?_, ⟨u, u2, ?_⟩, ?_, ?_⟩, fun c hcm => ?_⟩
    · exact (sb.2 _ D.TIz).trans (hk _ _ D.TIz D.TITO D.TIi1 D.TIi2 hTI)
    · exact (sb.2 _ D.TOz).trans TO'
    · exact Hf.keep (b1 _ _ h1') fun o q => (sb.2 _ (Ne.symm D.zi1)).trans q
    · exact Hf.keep (b2 _ _ h2') fun o q => (sb.2 _ (Ne.symm D.zi2)).trans q
    · have hlt : c < s.heap.objs.size := by
        have e' : c = z ∨ c = TI ∨ c = TO ∨ c = i1 ∨ c = i2 := by simpa using hcm
        rcases e' with q | q | q | q | q
        · rw [q]; exact hzl
        · rw [q]; exact Heap.lt_size hTI
        · rw [q]; exact Heap.lt_size hTO
        · rw [q]; obtain ⟨_, e1, _⟩ := Hf.obj h1; exact Heap.lt_size e1
        · rw [q]; obtain ⟨_, e1, _⟩ := Hf.obj h2; exact Heap.lt_size e1
      rw [upd_ne (Nat.ne_of_lt hlt)]
      exact (hf c hcm).1
  done := by
    intro X hP hw hK hc i pins s σ H E I hf st hg
    subst hP hw hK
    obtain ⟨hz, hTI, ⟨x0, y0, hTO⟩, h1, h2⟩ := st
    obtain ⟨g1, g2, hend⟩ := hg
    have fin : ∀ h' tk, (∀ c o, c ≠ z → c ≠ TO → c ≠ i1 → c ≠ i2 → s.heap.get? c = some o → h'.get? c = some o) → (none : Option Value) = none ∧ Inv X pins σ H { s with heap := h', toks := tk } := fun h' tk hk =>
      ⟨rfl, I.turnedL (t' := tk) (ch := [z, TI, TO, i1, i2]) (fun c o hb q => hk c o (fun q' => hb (by simp [q'])) (fun q' => hb (by simp [q'])) (fun q' => hb (by simp [q'])) (fun q' => hb (by simp [q'])) q) hf⟩
    have lv : ∀ {it : Addr} {e : Hf}, it ∉ e.dt → e.kn it i s.heap → (e.go X.K i H ∨ e.stop X.K i H) → ∃ (n : Nat) (P : Nat → Value → Prop) (St : Nat → Heap → Prop), Draws X.prog X.w X.A.in1 it (it :: e.dt) n P St ∧ St i s.heap ∧ i ≤ n := fun {it e} d k q => by
      rcases q with q | q
      · obtain ⟨n, P, S, D, s', l, _⟩ := half_go hc I d k q
        exact ⟨n, P, S, D, s', Nat.le_of_lt l⟩
      · obtain ⟨P, S, D, s'⟩ := half_stop hc I k q
        exact ⟨i, P, S, D, s', Nat.le_refl _⟩
    rcases hend with q | q
    · obtain ⟨P1, S1, D1, s1⟩ := half_stop hc I h1 q
      obtain ⟨n2, P2, S2, D2, s2, l2⟩ := lv d2 h2 g2
      exact wpAny_pyNext_zipD2_end D D1 D2 hz hTI hTO s1 s2 (Nat.le_refl _) l2 (.inl rfl) fin
    · obtain ⟨n1, P1, S1, D1, s1, l1⟩ := lv d1 h1 g1
      obtain ⟨P2, S2, D2, s2⟩ := half_stop hc I h2 q
      exact wpAny_pyNext_zipD2_end D D1 D2 hz hTI hTO s1 s2 l1 (Nat.le_refl _) (.inr rfl) fin
  self := fun A i s Q E st h => wpAny_pyIter_zip st.1 h
/-- what is walked on one side -/
def Src (K : PySem.W.Frag) (H : Hp) (x : V) : Hf → Prop
  | .l a => x = .ref a ∧ ∃ xs, SqL K H a xs
  | .t a => x = .ref a ∧ ∃ xs, SqT K H a xs
  | .s y => x = .str y
def iZip2 (K : PySem.W.Frag) (ta : TA) : TI := fun σ H R => ta σ H fun vs H1 => ∃ x y f g, vs = [x, y] ∧ Src K H1 x f ∧ Src K H1 y g ∧ R (Itz2 K f g) H1
theorem src_begins {X : Cx} {pins : List (Addr × Obj)} {σ : L2.St} {H : Hp} {s : Shared} (I : Inv X pins σ H s) {x : V} {u : Value} {f : Hf} (h : Src X.K H x f) (r : RelV x u) :
    ∃ (o : Obj) (Q : Heap → Prop), Begins u o Q ∧ Q s.heap ∧ (∀ h' it, h'.get? it = some o → f.kn it 0 h') ∧ ∀ a ∈ f.dt, a < s.heap.objs.size := by
  cases f with
  | l a =>
    obtain ⟨rfl, xs, hq⟩ := h
    obtain rfl : u = Value.ref a := r
    obtain ⟨its, rv, p, _⟩ := I.list hq
    exact ⟨_, _, begins_list a its.toArray, p.isList, fun h' it e => ⟨_, e, rfl, rfl⟩, fun b hb => by
      have : b = a := by simpa [Hf.dt] using hb
      subst this; exact p.lt⟩
  | t a =>
    obtain ⟨rfl, xs, hq⟩ := h
    obtain rfl : u = Value.ref a := r
    obtain ⟨its, rv, p, _⟩ := I.tuple hq
    exact ⟨_, _, begins_tuple a its.toArray, p, fun h' it e => ⟨_, e, rfl, rfl⟩, fun b hb => by
      have : b = a := by simpa [Hf.dt] using hb
      subst this; obtain ⟨_, e, _⟩ := p; exact Heap.lt_size e⟩
  | s y =>
    obtain rfl : x = .str y := h
    obtain ⟨t, rfl⟩ := r
    exact ⟨_, _, begins_text y t, trivial, fun h' it e => ⟨t, _, e, rfl, rfl⟩, fun b hb => by simp [Hf.dt] at hb⟩
theorem pi_zip2 {X : Cx} {e e2 : Expr} {ta : TA} {p pos tpos : Pos} {elts : List Expr} {kk : Nat} (hg : Gl X "zip") (hm : X.mg "zip" = none) (ha : PA X [e, e2] ta)
    (hs : starEach [e, e2] X.env = (false, eval e X.env) :: starEach [e2] X.env := by rfl) (hpl : (backTo pos (starEach [e2] X.env)).any (·.1) = false := by rfl) :
    PI X (.Tuple elts kk tpos) (.Call (.Name "zip" p) [e, e2] [] pos) (iZip2 X.K ta) := by
  refine ⟨fun pins s σ H R I h => ?_⟩
  refine Call_ (ld_blt I hg hm PyProof.Rows.boot_zip (PyProof.Rows.callWith_type1 (thn (ha.run pos pins s σ H _ I h) fun us s1 ⟨vs, H1, I1, r1, q1⟩ => ?_) hs hpl))
  obtain ⟨x, y, f, g, ex, sx, sy, q⟩ := q1
  subst ex
  cases r1 with
  | cons r rr =>
    cases rr with
    | cons r' rr =>
      cases rr
      obtain ⟨o1, Q1, B1, q1, k1, l1⟩ := src_begins I1 sx r
      obtain ⟨o2, Q2, B2, q2, k2, l2⟩ := src_begins I1 sy r'
      refine zip_begins2 B1 B2 q1 q2 fun h' hz hTI hTO e1 e2 hsz hk => wpAny_pyIter_zip hz ?_
      have I2 : Inv X pins σ H1 { s1 with heap := h' } := I1.kept (t' := s1.toks) hk
      refine ⟨s1.heap.objs.size + 4, [s1.heap.objs.size + 4, s1.heap.objs.size + 2, s1.heap.objs.size + 3, s1.heap.objs.size, s1.heap.objs.size + 1], _, _, H1, rfl, I2, turn_zip2 (zip_sep2 l1 l2) (fun z => Nat.lt_irrefl _ (l1 _ z)) (fun z => absurd (l2 _ z) (Nat.not_lt.mpr (Nat.le_succ _))), ⟨hz, hTI, ⟨_, _, hTO⟩, k1 _ _ e1, k2 _ _ e2⟩, fun c hcm => ?_, q⟩
      have e' : c = s1.heap.objs.size + 4 ∨ c = s1.heap.objs.size + 2 ∨ c = s1.heap.objs.size + 3 ∨ c = s1.heap.objs.size ∨ c = s1.heap.objs.size + 1 := by simpa using hcm
      have hle : s1.heap.objs.size ≤ c := by
        rcases e' with z | z | z | z | z
        · rw [z]; exact Nat.le_add_right _ _
        · rw [z]; exact Nat.le_add_right _ _
        · rw [z]; exact Nat.le_add_right _ _
        · rw [z]; exact Nat.le_refl _
        · rw [z]; exact Nat.le_add_right _ _
      exact I1.fpOk hle (I1.hok.fresh hle)
/-! over data -/
/-- the items of what is walked, and what must stay so -/
def itemsOf (own : Own) (d : D) : Option (List D × (Own → Prop)) := match see own d with
  | .lst ds => some (ds, fun o' => see o' d = .lst ds)
  | .tup ds => some (ds, fun _ => True)
  | .str x => if x.cps.size ≤ sizeLine then some (signs x, fun _ => True) else none
  | _ => none
structure HalfOk (K : PySem.W.Frag) (w1 : Wd) (f : Hf) (ds : List D) (gd : Own → Prop) : Prop where
  len : ds.length ≤ sizeLine
  at_ : ∀ i (w : Wd), w.Ok K → Sub w1.G w.G → gd w.own → (i < ds.length → f.go K i w.H) ∧ (ds.length ≤ i → f.stop K i w.H)
  yld : ∀ i (w : Wd) x, w.Ok K → Sub w1.G w.G → gd w.own → i < ds.length → f.at_ K i w.H x → ∃ d, ds[i]? = some d ∧ Dt K w.G d x
theorem half_of {K : PySem.W.Frag} {w : Wd} {d : D} {v : V} {ds : List D} {gd : Own → Prop} (ok : w.Ok K) (h : Dt K w.G d v) (e : itemsOf w.own d = some (ds, gd)) : ∃ f, Src K w.H v f ∧ HalfOk K w f ds gd := by
  unfold itemsOf at e
  have sv := see_ok ok h
  cases hs : see w.own d with
  | lst es =>
    rw [hs] at e sv
    cases e
    obtain ⟨a, vs, rfl, e2, e3⟩ := sv
    have at_ : ∀ (w' : Wd), w'.Ok K → Sub w.G w'.G → see w'.own d = .lst ds → ∃ vs, SqL K w'.H a vs ∧ Dts K w'.G ds vs := fun w' ok' sb e => by
      have sv := see_ok ok' (h.mono sb)
      rw [e] at sv
      obtain ⟨b, vs, e1, e2, e3⟩ := sv
      cases e1
      exact ⟨vs, .inl e2, e3⟩
    refine ⟨.l a, ⟨rfl, vs, .inl e2⟩, ⟨by rw [← (at_ w ok (Sub.refl _) hs).choose_spec.2.length]; exact sqL_sz ok (at_ w ok (Sub.refl _) hs).choose_spec.1, fun i w' ok' sb e => ?_, fun i w' x ok' sb e hi hy => ?_⟩⟩
    · obtain ⟨us, a1, a2⟩ := at_ w' ok' sb e
      refine ⟨fun hi => ?_, fun hi => ⟨us, a1, by rw [a2.length]; exact hi⟩⟩
      obtain ⟨x, b1, _⟩ := a2.get (List.getElem?_eq_getElem hi)
      exact ⟨us, x, a1, b1⟩
    · obtain ⟨us, a1, a2⟩ := at_ w' ok' sb e
      exact a2.get' (hy us a1)
  | tup es =>
    rw [hs] at e
    cases e
    have hd : d = .tup ds := see_tup hs
    subst hd
    have at_ : ∀ (w' : Wd), w'.Ok K → Sub w.G w'.G → ∃ a vs, v = .ref a ∧ SqT K w'.H a vs ∧ Dts K w'.G ds vs := fun w' ok' sb => see_ok ok' (h.mono sb)
    obtain ⟨a, vs, rfl, e2, e3⟩ := at_ w ok (Sub.refl _)
    refine ⟨.t a, ⟨rfl, vs, e2⟩, ⟨by rw [← e3.length]; exact sqT_sz ok e2, fun i w' ok' sb e => ?_, fun i w' x ok' sb e hi hy => ?_⟩⟩
    · obtain ⟨b, us, eb, a1, a2⟩ := at_ w' ok' sb
      cases eb
      refine ⟨fun hi => ?_, fun hi => ⟨us, a1, by rw [a2.length]; exact hi⟩⟩
      obtain ⟨x, b1, _⟩ := a2.get (List.getElem?_eq_getElem hi)
      exact ⟨us, x, a1, b1⟩
    · obtain ⟨b, us, eb, a1, a2⟩ := at_ w' ok' sb
      cases eb
      exact a2.get' (hy us a1)
  | str x =>
    rw [hs] at e sv
    change Dt K w.G (.str x) v at sv
    unfold Dt at sv; subst sv
    by_cases hz : x.cps.size ≤ sizeLine
    · simp only [hz, if_true] at e
      cases e
      have hl : (signs x).length = x.cps.size := by simp [signs]
      refine ⟨.s x, rfl, ⟨by rw [hl]; exact hz, fun i w' ok' sb e => ⟨fun hi => by show i < x.cps.size; omega, fun hi => by show x.cps.size ≤ i; omega⟩, fun i w' v ok' sb e hi hy => ?_⟩⟩
      obtain ⟨c, e1, rfl⟩ := hy
      refine ⟨.str ⟨#[c]⟩, ?_, by unfold Dt; rfl⟩
      unfold signs
      rw [List.getElem?_map, Array.getElem?_toList, e1]; rfl
    · simp only [hz, if_false] at e; cases e
  | non => rw [hs] at e; cases e
  | bl _ => rw [hs] at e; cases e
  | int _ => rw [hs] at e; cases e
  | ty _ => rw [hs] at e; cases e
  | kls _ => rw [hs] at e; cases e
  | dct _ => rw [hs] at e; cases e
  | ref _ => rw [hs] at e; cases e
def zipD (as bs : List D) : List D := List.zipWith (fun a b => .tup [a, b]) as bs
def aZip (ta : ATA) : ATI := fun env own P => ta env own fun ds o => match ds with
  | [d, e] => ∃ as ga bs gb, itemsOf o d = some (as, ga) ∧ itemsOf o e = some (bs, gb) ∧ P (zipD as bs) (fun o' => ga o' ∧ gb o') o
  | _ => False
theorem walks_zip {K : PySem.W.Frag} {w : Wd} {f g : Hf} {as bs : List D} {ga gb : Own → Prop} (h1 : HalfOk K w f as ga) (h2 : HalfOk K w g bs gb) : Walks K w (Itz2 K f g) (zipD as bs) (fun o => ga o ∧ gb o) := by
  have hl : (zipD as bs).length = min as.length bs.length := by simp [zipD]
  refine ⟨by rw [hl]; have := h1.len; omega, fun i w' ok' sb e hi => ⟨(h1.at_ i w' ok' sb e.1).1 (by omega), (h2.at_ i w' ok' sb e.2).1 (by omega)⟩, fun w' ok' sb e => ?_, fun i w' x H' ok' sb e hi hy => ?_⟩
  · rw [hl]
    have q1 := h1.at_ (min as.length bs.length) w' ok' sb e.1
    have q2 := h2.at_ (min as.length bs.length) w' ok' sb e.2
    refine ⟨?_, ?_, ?_⟩
    · by_cases z : as.length ≤ min as.length bs.length
      · exact .inr (q1.2 z)
      · exact .inl (q1.1 (by omega))
    · by_cases z : bs.length ≤ min as.length bs.length
      · exact .inr (q2.2 z)
      · exact .inl (q2.1 (by omega))
    · by_cases z : as.length ≤ min as.length bs.length
      · exact .inl (q1.2 z)
      · exact .inr (q2.2 (by omega))
  · obtain ⟨T, a, b, rfl, hT, rfl, ya, yb⟩ := hy
    obtain ⟨da, e1, r1⟩ := h1.yld i w' a ok' sb e.1 (by omega) ya
    obtain ⟨db, e2, r2⟩ := h2.yld i w' b ok' sb e.2 (by omega) yb
    obtain ⟨w2, a1, a2, a3, a4, a5⟩ := newTup (ds := [da, db]) (vs := [a, b]) ok' hT (.cons r1 (.cons r2 .nil)) (by show 2 ≤ sizeLine; decide)
    exact ⟨.tup [da, db], w2, by simp [zipD, List.getElem?_zipWith, e1, e2], a1, a2, a3, a4, a5⟩
section
variable {X : Cx} {w0 : Wd} {ta : ATA} {p pos tpos : Pos} {e e2 : Expr} {elts : List Expr} {kk : Nat}
theorem ai_zip (hg : Gl X "zip") (hm : X.mg "zip" = none) (ha : AA X w0 [e, e2] ta)
    (hs : starEach [e, e2] X.env = (false, eval e X.env) :: starEach [e2] X.env := by rfl) (hpl : (backTo pos (starEach [e2] X.env)).any (·.1) = false := by rfl) :
    AI X w0 (.Tuple elts kk tpos) (.Call (.Name "zip" p) [e, e2] [] pos) (aZip ta) := pi_of (pi_zip2 hg hm ha hs hpl) fun σ H R h => by
  obtain ⟨env, w, rfl, ok, tr0, er, P, h, k⟩ := h
  refine ⟨env, w, rfl, ok, tr0, er, _, h, fun ds w1 vs h1 t1 ok1 dv => ?_⟩
  match ds, h1, dv with
  | [d, e], h1, dv =>
    obtain ⟨v, u, rfl, d1, d2⟩ := dts_two dv
    obtain ⟨as, ga, bs, gb, i1, i2, h2⟩ := h1
    obtain ⟨f, s1, o1⟩ := half_of ok1 d1 i1
    obtain ⟨g, s2, o2⟩ := half_of ok1 d2 i2
    exact ⟨v, u, f, g, rfl, s1, s2, k _ _ w1 _ h2 t1 ok1 (walks_zip o1 o2)⟩
end
end L3

namespace L3
open PySem PySem.Spec PyProof.Rows L2
/-! ### x in xs, whatever they hold -/
def askD (d : D) : Prop := eqOk d = true ∧ (toPy d).depth ≤ 64
def memD (d : D) (ds : List D) : Bool := ds.any fun z => deq z d
def fInD (neg : Bool) : BinF := fun own d e P => match see own e with
  | .lst ds => askD (see own d) ∧ askD (.lst ds) ∧ P (.bl (if neg then !memD (see own d) ds else memD (see own d) ds))
  | .tup ds => askD (see own d) ∧ askD (.tup ds) ∧ P (.bl (if neg then !memD (see own d) ds else memD (see own d) ds))
  | _ => False
def rInDD (K : PySem.W.Frag) (neg : Bool) : R2 := fun x y H Q => ∃ d ds e, Dp K H x d ∧ Dp K H y e ∧ (e = .list ds ∨ e = .tuple ds) ∧ SeqAt.shaped d = true ∧ SeqAt.shaped e = true ∧ Q (.bl (if neg then !(ds.any fun z => PyData.eqv z d) else ds.any fun z => PyData.eqv z d)) H
theorem memD_py (d : D) : ∀ ds : List D, (toPys ds).any (fun z => PyData.eqv z (toPy d)) = memD d ds
  | [] => by unfold toPys memD; rfl
  | e :: ds => by
    have := memD_py d ds
    unfold toPys
    unfold memD at this ⊢
    rw [List.any_cons, List.any_cons, this]; rfl
theorem os_inD {K : PySem.W.Frag} (neg : Bool) : OpS K (rInDD K neg) (fInD neg) := by
  intro w d e x y P Q ok dx dy h k
  have sx := see_ok ok dx
  have sy := see_ok ok dy
  unfold fInD at h
  generalize see w.own d = d' at h sx
  generalize see w.own e = e' at h sy
  cases e' with
  | lst ds =>
    refine ⟨toPy d', toPys ds, .list (toPys ds), dv_dp ok h.1.1 sx, ?_, .inl rfl, shaped_of h.1.1 h.1.2, ?_, ?_⟩
    · have := dv_dp ok h.2.1.1 sy; unfold toPy at this; exact this
    · have := shaped_of h.2.1.1 h.2.1.2; unfold toPy at this; exact this
    · rw [memD_py]; exact ops_val ok k h.2.2 (dt_bl.mpr rfl)
  | tup ds =>
    refine ⟨toPy d', toPys ds, .tuple (toPys ds), dv_dp ok h.1.1 sx, ?_, .inr rfl, shaped_of h.1.1 h.1.2, ?_, ?_⟩
    · have := dv_dp ok h.2.1.1 sy; unfold toPy at this; exact this
    · have := shaped_of h.2.1.1 h.2.1.2; unfold toPy at this; exact this
    · rw [memD_py]; exact ops_val ok k h.2.2 (dt_bl.mpr rfl)
  | _ => exact (h : False).elim
section
variable {X : Cx} {w0 : Wd} {a b c : Expr} {ta tb tc : ATE} {pos : Pos} {k : Nat}
theorem op_inDD (hr : Room k X.A) : OpR X (compareOp .In) (rInDD X.K false) := by
  intro pins s σ H x y v u Q I rx ry h
  obtain ⟨d, ds, e, hd, he, z, sd, se, q⟩ := h
  have hu : X.A.units + 65 < cLine := by have h1 := hr.units; have h2 := hr.un; omega
  rcases z with rfl | rfl
  · exact L2.op_inD hu pins s σ H x y v u Q I rx ry ⟨d, ds, hd, he, sd, se, q⟩
  · obtain ⟨as, r1⟩ := Dp.reads I d x v hd rx
    obtain ⟨bs, r2⟩ := Dp.reads I (.tuple ds) y u he ry
    exact SeqAt.in_tuple_reads r2 r1 (SeqAt.canLay_of_shaped se) (SeqAt.canLay_of_shaped sd) (room_in_shaped sd hu) ⟨.bl _, H, I, rfl, q⟩
theorem op_notInDD (hr : Room k X.A) : OpR X (compareOp .NotIn) (rInDD X.K true) := by
  intro pins s σ H x y v u Q I rx ry h
  obtain ⟨d, ds, e, hd, he, z, sd, se, q⟩ := h
  have hu : X.A.units + 65 < cLine := by have h1 := hr.units; have h2 := hr.un; omega
  rcases z with rfl | rfl
  · exact L2.op_notInD hu pins s σ H x y v u Q I rx ry ⟨d, ds, hd, he, sd, se, q⟩
  · obtain ⟨as, r1⟩ := Dp.reads I d x v hd rx
    obtain ⟨bs, r2⟩ := Dp.reads I (.tuple ds) y u he ry
    exact SeqAt.notIn_tuple_reads r2 r1 (SeqAt.canLay_of_shaped se) (SeqAt.canLay_of_shaped sd) (room_in_shaped sd hu) ⟨.bl _, H, I, rfl, q⟩
theorem ae_inD (hr : Room k X.A) (ha : AE X w0 a ta) (hb : AE X w0 b tb) (hm : behindInMarks .In b = false := by rfl) : AE X w0 (.Compare a [.In] [b] pos) (aBin (fInD false) ta tb) := ae_cmp (op_inDD hr) (os_inD false) ha hb hm
theorem ae_notinD (hr : Room k X.A) (ha : AE X w0 a ta) (hb : AE X w0 b tb) (hm : behindInMarks .NotIn b = false := by rfl) : AE X w0 (.Compare a [.NotIn] [b] pos) (aBin (fInD true) ta tb) := ae_cmp (op_notInDD hr) (os_inD true) ha hb hm
theorem at_inD (hr : Room k X.A) (ha : AE X w0 a ta) (hb : AE X w0 b tb) (hm : behindInMarks .In b = false := by rfl) : AT X w0 (.Compare a [.In] [b] pos) (aB (aBin (fInD false) ta tb)) := at_cmp (op_inDD hr) (os_inD false) ha hb hm
theorem at_notinD (hr : Room k X.A) (ha : AE X w0 a ta) (hb : AE X w0 b tb) (hm : behindInMarks .NotIn b = false := by rfl) : AT X w0 (.Compare a [.NotIn] [b] pos) (aB (aBin (fInD true) ta tb)) := at_cmp (op_notInDD hr) (os_inD true) ha hb hm
/-! ### a op b op c -/
def aChain (f g : BinF) (ta tb tc : ATE) : ATE := fun env own P => ta env own fun x o1 => tb env o1 fun y o2 => f o2 x y fun z => match z with
  | .bl true => tc env o2 fun v o3 => g o3 y v fun r => P r o3
  | .bl false => P (.bl false) o2
  | _ => False
theorem chain_of {r r' : R2} {f g : BinF} {σ : L2.St} {H : Hp} {Q : VK} (hf : OpS X.K r f) (hg : OpS X.K r' g) (h : concE X.K w0 (aChain f g ta tb tc) σ H Q) : tChain r r' (concE X.K w0 ta) (concE X.K w0 tb) (concE X.K w0 tc) σ H Q := by
  obtain ⟨env, w, rfl, ok, tr0, er, P, h, k⟩ := h
  refine ⟨env, w, rfl, ok, tr0, er, _, h, fun d w1 x h1 t1 ok1 dx => ?_⟩
  refine ⟨env, w1, rfl, ok1, tr0.trans t1, er.mono t1.gs, _, h1, fun e w2 y h2 t2 ok2 dy => ?_⟩
  refine hf w2 d e x y _ _ ok2 (dx.mono t2.gs) dy h2 fun z w3 v pz ho t3 ok3 dz => ?_
  match z, pz, dz with
  | .bl false, pz, dz =>
    refine ⟨false, dt_bl.mp dz, ?_⟩
    rw [if_neg (by simp)]
    exact k (.bl false) w3 _ (by rw [ho]; exact pz) ((t1.trans t2).trans t3) ok3 (dt_bl.mpr rfl)
  | .bl true, pz, dz =>
    refine ⟨true, dt_bl.mp dz, ?_⟩
    rw [if_pos rfl]
    refine ⟨env, w3, rfl, ok3, ((tr0.trans t1).trans t2).trans t3, ((er.mono t1.gs).mono t2.gs).mono t3.gs, _, by rw [ho]; exact pz, fun v' w4 z' h4 t4 ok4 dz' => ?_⟩
    exact hg w4 e v' y z' _ Q ok4 ((dy.mono t3.gs).mono t4.gs) dz' h4 fun z w5 v pz ho t5 ok5 dz => k z w5 v (by rw [ho]; exact pz) ((((t1.trans t2).trans t3).trans t4).trans t5) ok5 dz
theorem ae_chain {op op' : CmpOp} {r r' : R2} {f g : BinF} (ho : OpR X (compareOp op) r) (ho' : OpR X (compareOp op') r') (hf : OpS X.K r f) (hg : OpS X.K r' g) (ha : AE X w0 a ta) (hb : AE X w0 b tb) (hc : AE X w0 c tc)
    (hm : lastMarks [op, op'] [b, c] = false := by with_unfolding_all rfl) : AE X w0 (.Compare a [op, op'] [b, c] pos) (aChain f g ta tb tc) := pe_of (pe_chain ho ho' ha hb hc hm) fun _ _ _ h => chain_of hf hg h
theorem at_chain {op op' : CmpOp} {r r' : R2} {f g : BinF} (ho : OpR X (compareOp op) r) (ho' : OpR X (compareOp op') r') (hf : OpS X.K r f) (hg : OpS X.K r' g) (ha : AE X w0 a ta) (hb : AE X w0 b tb) (hc : AE X w0 c tc)
    (hm : lastMarks [op, op'] [b, c] = false := by with_unfolding_all rfl) : AT X w0 (.Compare a [op, op'] [b, c] pos) (aB (aChain f g ta tb tc)) := pt_of (pt_chain ho ho' ha hb hc hm) fun σ H Q h => by
  obtain ⟨env, w, rfl, ok, tr0, er, P, h, k⟩ := h
  refine chain_of hf hg ⟨env, w, rfl, ok, tr0, er, _, h, fun d w1 x h1 t1 ok1 dx => ?_⟩
  cases d with
  | bl b => unfold Dt at dx; exact ⟨b, dx, k b w1 h1 t1 ok1⟩
  | _ => exact (h1 : False).elim
@[simp] theorem x_chain {f g : BinF} {env : AEnv} {own : Own} {P : D → Own → Prop} : aChain f g ta tb tc env own P = ta env own fun x o1 => tb env o1 fun y o2 => f o2 x y fun z => match z with
  | .bl true => tc env o2 fun v o3 => g o3 y v fun r => P r o3
  | .bl false => P (.bl false) o2
  | _ => False := (rfl)
theorem op_leI {X : Cx} : OpR X (compareOp .LtE) (rI C0 fun i j => .bl (decide (i ≤ j))) := rI_of0 op_le
end
/-! ### max, min of two -/
def fMax2 : CallF := fun own ds P => match ds with
  | [.int i, .int j] => P (.int (if j > i then j else i))
  | _ => False
def fMin2 : CallF := fun own ds P => match ds with
  | [.int i, .int j] => P (.int (if j < i then j else i))
  | _ => False
section
variable {X : Cx} {w0 : Wd} {e : Expr} {es : List Expr} {ta : ATA} {p pos : Pos}
theorem ae_max2 (hc : X.calm = true) (hg : Gl X "max") (hm : X.mg "max" = none) (ha : AA X w0 (e :: es) ta) (he : starEach (e :: es) X.env = (false, eval e X.env) :: starEach es X.env := by rfl) (hpl : (backTo pos (starEach es X.env)).any (·.1) = false := by rfl) : AE X w0 (.Call (.Name "max" p) (e :: es) [] pos) (aFn fMax2 ta) :=
  ae_callB (call_max2 hc) (fun w ds xs P Q ok dv h k => by
    unfold fMax2 at h
    split at h
    · obtain ⟨v, u, rfl, d1, d2⟩ := dts_two dv
      exact ⟨_, _, by rw [dt_int.mp d1, dt_int.mp d2], ops_val ok k h (dt_int.mpr rfl)⟩
    · exact h.elim) hg hm (by decide +kernel) ha (by decide) (by decide) he hpl
theorem ae_min2 (hc : X.calm = true) (hg : Gl X "min") (hm : X.mg "min" = none) (ha : AA X w0 (e :: es) ta) (he : starEach (e :: es) X.env = (false, eval e X.env) :: starEach es X.env := by rfl) (hpl : (backTo pos (starEach es X.env)).any (·.1) = false := by rfl) : AE X w0 (.Call (.Name "min" p) (e :: es) [] pos) (aFn fMin2 ta) :=
  ae_callB (call_min2 hc) (fun w ds xs P Q ok dv h k => by
    unfold fMin2 at h
    split at h
    · obtain ⟨v, u, rfl, d1, d2⟩ := dts_two dv
      exact ⟨_, _, by rw [dt_int.mp d1, dt_int.mp d2], ops_val ok k h (dt_int.mpr rfl)⟩
    · exact h.elim) hg hm (by decide +kernel) ha (by decide) (by decide) he hpl
end
@[simp] theorem x_max2 {own : Own} {i j : Int} {Q : D → Prop} : fMax2 own [.int i, .int j] Q = Q (.int (if j > i then j else i)) := (rfl)
@[simp] theorem x_min2 {own : Own} {i j : Int} {Q : D → Prop} : fMin2 own [.int i, .int j] Q = Q (.int (if j < i then j else i)) := (rfl)
/-! ### the module's constants -/
structure GloD (K : PySem.W.Frag) (mg : Str → Option Value) (x : Str) (d : D) : Prop where
  ex : ∃ u v, mg x = some u ∧ RelV v u ∧ ∀ G, Dt K G d v
theorem ae_gloD {X : Cx} {w0 : Wd} {x : Str} {d : D} {pos : Pos} (hg : Gl X x) (h : GloD X.K X.mg x d) (hdb : (x == ("__debug__" : Str)) = false := by decide) : AE X w0 (.Name x pos) (aC d) :=
  let ⟨_, _, h1, h2, h3⟩ := h.ex
  ae_glob hg h1 h2 h3 hdb
theorem gloD_ok {K : PySem.W.Frag} {h : Heap} {mg : Str → Option Value} (X : K.In h) (G : h.Ns mainGlobals mg) {x : Str} {d : D} (c : gloB K x d = true) : GloD K mg x d := by
  unfold gloB at c
  cases e : PySem.W.nsIn K mainGlobals x with
  | none => rw [e] at c; cases c
  | some r =>
    rw [e] at c
    cases r with
    | none => cases c
    | some u =>
      obtain ⟨v, r1, r2⟩ := dtB_ok (show dtB K d u = true from c)
      exact ⟨u, v, PySem.W.mg_of X G e, r1, r2⟩
/-! ### keywords in any order, defaults that fill up -/
def arr {α : Type} (pm : List Nat) (l : List α) : List α := pm.filterMap (l[·]?)
theorem arr_rel {pm : List Nat} {vs : List V} {us : List Value} (r : Vals vs us) : Vals (arr pm vs) (arr pm us) := by
  unfold arr
  induction pm with
  | nil => exact .nil
  | cons i pm ih =>
    rw [List.filterMap_cons, List.filterMap_cons]
    have hl := r.length
    cases e : vs[i]? with
    | none =>
      have : us[i]? = none := by rw [List.getElem?_eq_none_iff] at e ⊢; omega
      rw [this]; exact ih
    | some v =>
      obtain ⟨u, e2, r2⟩ := r.get e
      rw [e2]; exact .cons r2 ih
theorem arr_dts {K : PySem.W.Frag} {G : Hp} {pm : List Nat} {ds : List D} {vs : List V} (r : Dts K G ds vs) : Dts K G (arr pm ds) (arr pm vs) := by
  unfold arr
  induction pm with
  | nil => unfold Dts; rfl
  | cons i pm ih =>
    rw [List.filterMap_cons, List.filterMap_cons]
    have hl := r.length
    cases e : ds[i]? with
    | none =>
      have : vs[i]? = none := by rw [List.getElem?_eq_none_iff] at e ⊢; omega
      rw [this]; exact ih
    | some v =>
      obtain ⟨u, e2, r2⟩ := r.get e
      rw [e2]; exact .cons r2 ih
/-- the def of this name keeps its promise, called with n values and keywords ks; dvs: the defaults that fill up; pm: which goes where -/
structure KnP (P : Program) (w : World) (K : PySem.W.Frag) (mg : Str → Option Value) (base : Heap) (k : Nat) (x : Str) (ps : List Str) (n : Nat) (ks : List Str) (dvs : List D) (pm : List Nat) (S : Spec) : Prop where
  ex : ∃ (f : Addr) (fd : FuncData) (dus : List Value) (dv : List V), mg x = some (.ref f) ∧ PySem.W.keepIn K (.ref f) = true ∧ Vals dv dus ∧ (∀ G, Dts K G dvs dv) ∧ (∀ (s : Shared) (us ws : List Value), K.In s.heap → us.length = n → ws.length = ks.length → BindsTo s fd ⟨us, ks.zip ws⟩ (ps.zip (arr pm (us ++ (ws ++ dus))))) ∧ FnG P w K mg base CX0 k f fd ps (spOf K S)
theorem KnP.mono {P : Program} {w : World} {K : PySem.W.Frag} {mg : Str → Option Value} {base : Heap} {k j : Nat} {x : Str} {ps : List Str} {n : Nat} {ks : List Str} {dvs : List D} {pm : List Nat} {S : Spec} (F : KnP P w K mg base j x ps n ks dvs pm S) (h : j ≤ k) : KnP P w K mg base k x ps n ks dvs pm S :=
  let ⟨f, fd, du, dv, a, b, c, d, e, g⟩ := F.ex
  ⟨f, fd, du, dv, a, b, c, d, e, g.mono h⟩
def aCallP (S : Spec) (n m : Nat) (dvs : List D) (pm : List Nat) (ta tk : ATA) : ATE := fun env own P => ta env own fun ds o => tk env o fun zs o2 => ds.length = n ∧ zs.length = m ∧ S (arr pm (ds ++ (zs ++ dvs))) o2 P
@[simp] theorem x_callP {S : Spec} {n m : Nat} {dvs : List D} {pm : List Nat} {ta tk : ATA} {env : AEnv} {own : Own} {P : D → Own → Prop} : aCallP S n m dvs pm ta tk env own P = ta env own fun ds o => tk env o fun zs o2 => ds.length = n ∧ zs.length = m ∧ S (arr pm (ds ++ (zs ++ dvs))) o2 P := (rfl)
section
variable {X : Cx} {w0 : Wd} {k n m : Nat} {x : Str} {ps ks : List Str} {dvs : List D} {pm : List Nat} {S : Spec} {e : Expr} {es : List Expr} {kws : List Keyword} {ta tk : ATA} {p pos : Pos}
theorem runP {pins : List (Addr × Obj)} {σ : L2.St} {H : Hp} {s : Shared} {Q : VK} {us ws dus : List Value} {vs zs dv : List V} {f : Addr} {fd : FuncData} {sp : Sp} (F : FnG X.prog X.w X.K X.mg X.base CX0 k f fd ps sp) (hr : Room k X.A) (hgd : X.A.guards = some [])
    (hb : BindsTo s fd ⟨us, ks.zip ws⟩ (ps.zip (arr pm (us ++ (ws ++ dus))))) (I : Inv X pins σ H s) (r : Vals vs us) (rz : Vals zs ws) (rd : Vals dv dus) (h : sp (arr pm (vs ++ (zs ++ dv))) H Q E0) : wpAny (model X.prog X.w) X.A (call (.ref f) us (ks.zip ws)) (EP X pins σ Q) X.xe s := by
  refine wpAny_call (codeAny_mono (F.run X.A X.stack s H _ (arr pm (us ++ (ws ++ dus))) (arr pm (vs ++ (zs ++ dv))) Q E0 hr hgd I.env0 hb (arr_rel (r.append (rz.append rd))) h) fun y s' hq => ?_)
  match y, hq with
  | .error e, hq => exact pass0 pins σ H s e s' I hq
  | .ok (.ret u), hq => exact I.after hq
theorem ae_callP (F : KnP X.prog X.w X.K X.mg X.base k x ps n ks dvs pm S) (hr : Room k X.A) (hgd : X.A.guards = some []) (hg : Gl X x) (ha : AA X w0 (e :: es) ta) (hkw : AK X w0 kws tk) (hks : (backToKw pos (keywordEach kws X.env)).filterMap (·.1) = ks := by rfl)
    (hall : (backToKw pos (keywordEach kws X.env)).all (·.1.isSome) = true := by rfl) (hm : ks.length = m := by rfl)
    (hdb : (x == ("__debug__" : Str)) = false := by decide) (he : starEach (e :: es) X.env = (false, eval e X.env) :: starEach es X.env := by rfl)
    (hpl : ((backTo pos (starEach (e :: es) X.env)).any (·.1) || (backToKw pos (keywordEach kws X.env)).any (·.1.isNone)) = false := by rfl) :
    AE X w0 (.Call (.Name x p) (e :: es) kws pos) (aCallP S n m dvs pm ta tk) := by
  subst hm
  obtain ⟨f, fd, dus, dvv, hm, hk, rd, hdv, hb, G⟩ := F.ex
  refine ⟨fun pins s σ H Q I h => ?_⟩
  obtain ⟨env, w, rfl, ok, tr0, er, P, h, kk⟩ := h
  refine wpAny_Call_Name_kw (ld_glob I hg hm ?_ hdb)
  refine PySem.W.callWith_KW (h₀ := X.base) I.ok.mod.kin hk hall (thn (ha.run pos pins s σ w.H (fun vs H1 => concA X.K w0 tk σ H1 fun zs H2 => vs.length = n ∧ zs.length = ks.length ∧ spOf X.K S (arr pm (vs ++ (zs ++ dvv))) H2 Q E0) I ⟨env, w, rfl, ok, tr0, er, _, h, fun ds w1 vs h1 t1 ok1 dv => ?_⟩) fun us s1 ⟨vs, H1, I1, r, q⟩ => ?_) hpl he
  · refine ⟨env, w1, rfl, ok1, tr0.trans t1, er.mono t1.gs, _, h1, fun zs w2 us h2 t2 ok2 dz => ⟨by rw [dv.length]; exact h2.1, by rw [dz.length]; exact h2.2.1, arr pm (ds ++ (zs ++ dvs)), w2, P, rfl, ok2, arr_dts ((dv.mono t2.gs).append (dz.append (hdv _))), h2.2.2, fun d w3 v h3 t3 ok3 d3 => kk d w3 v h3 ((t1.trans t2).trans t3) ok3 d3⟩⟩
  · refine thn (hkw.run pos pins s1 σ H1 _ I1 q) fun ws s2 ⟨zs, H2, I2, rz, l1, l2, q2⟩ => ⟨I2.kIn, ?_⟩
    rw [hks]
    exact runP G hr hgd (hb s2 us ws I2.kIn (r.length.symm.trans l1) (rz.length.symm.trans l2)) I2 r rz rd q2
theorem ae_callP0 (F : KnP X.prog X.w X.K X.mg X.base k x ps 0 ks dvs pm S) (hr : Room k X.A) (hgd : X.A.guards = some []) (hg : Gl X x) (hkw : AK X w0 kws tk) (hks : (backToKw pos (keywordEach kws X.env)).filterMap (·.1) = ks := by rfl)
    (hall : (backToKw pos (keywordEach kws X.env)).all (·.1.isSome) = true := by rfl) (hm : ks.length = m := by rfl)
    (hdb : (x == ("__debug__" : Str)) = false := by decide)
    (hpl : ((backTo pos (starEach [] X.env)).any (·.1) || (backToKw pos (keywordEach kws X.env)).any (·.1.isNone)) = false := by rfl) :
    AE X w0 (.Call (.Name x p) [] kws pos) (aCallP S 0 m dvs pm aNil tk) := by
  subst hm
  obtain ⟨f, fd, dus, dvv, hm, hk, rd, hdv, hb, G⟩ := F.ex
  refine ⟨fun pins s σ H Q I h => ?_⟩
  obtain ⟨env, w, rfl, ok, tr0, er, P, h, kk⟩ := h
  refine wpAny_Call_Name_kw (ld_glob I hg hm ?_ hdb)
  refine PySem.W.callWith_KW0 (h₀ := X.base) I.ok.mod.kin hk hall (thn (hkw.run pos pins s σ w.H (fun zs H2 => zs.length = ks.length ∧ spOf X.K S (arr pm ([] ++ (zs ++ dvv))) H2 Q E0) I ⟨env, w, rfl, ok, tr0, er, _, h, fun zs w2 us h2 t2 ok2 dz => ?_⟩) fun ws s2 ⟨zs, H2, I2, rz, l2, q2⟩ => ⟨I2.kIn, ?_⟩) hpl
  · exact ⟨by rw [dz.length]; exact h2.2.1, arr pm ([] ++ (zs ++ dvs)), w2, P, rfl, ok2, arr_dts (dz.append (hdv _)), h2.2.2, fun d w3 v h3 t3 ok3 d3 => kk d w3 v h3 (t2.trans t3) ok3 d3⟩
  · rw [hks]
    exact runP (us := []) (vs := []) G hr hgd (hb s2 [] ws I2.kIn rfl (rz.length.symm.trans l2)) I2 .nil rz rd q2
end
/-! ### a def as a value, and its call -/
/-- the def at f keeps its promise -/
structure KnA (P : Program) (w : World) (K : PySem.W.Frag) (mg : Str → Option Value) (base : Heap) (k : Nat) (f : Addr) (ps : List Str) (S : Spec) : Prop where
  ex : ∃ (fd : FuncData), PySem.W.keepIn K (.ref f) = true ∧ Binds K fd ps [] ∧ FnG P w K mg base CX0 k f fd ps (spOf K S)
theorem KnA.mono {P : Program} {w : World} {K : PySem.W.Frag} {mg : Str → Option Value} {base : Heap} {k j : Nat} {f : Addr} {ps : List Str} {S : Spec} (F : KnA P w K mg base j f ps S) (h : j ≤ k) : KnA P w K mg base k f ps S :=
  let ⟨fd, a, b, g⟩ := F.ex
  ⟨fd, a, b, g.mono h⟩
def aCallV (tab : List (Addr × Spec)) (tf : ATE) (ta : ATA) : ATE := fun env own P => tf env own fun d o => ∃ f S, d = .ref f ∧ (f, S) ∈ tab ∧ ta env o fun ds o2 => S ds o2 P
@[simp] theorem x_callV {tab : List (Addr × Spec)} {tf : ATE} {ta : ATA} {env : AEnv} {own : Own} {P : D → Own → Prop} : aCallV tab tf ta env own P = tf env own fun d o => ∃ f S, d = .ref f ∧ (f, S) ∈ tab ∧ ta env o fun ds o2 => S ds o2 P := (rfl)
theorem ae_callV {X : Cx} {w0 : Wd} {k : Nat} {tab : List (Addr × Spec)} {fe e : Expr} {es : List Expr} {tf : ATE} {ta : ATA} {pos : Pos} (F : ∀ q ∈ tab, ∃ ps, KnA X.prog X.w X.K X.mg X.base k q.1 ps q.2) (hr : Room k X.A) (hgd : X.A.guards = some []) (hf : AE X w0 fe tf) (ha : AA X w0 (e :: es) ta)
    (hc : eval (.Call fe (e :: es) [] pos) X.env = (do callWith pos (← eval fe X.env) [] (backTo pos (starEach (e :: es) X.env)) (backToKw pos (keywordEach [] X.env))) := by rfl) (he : starEach (e :: es) X.env = (false, eval e X.env) :: starEach es X.env := by rfl) (hpl : (backTo pos (starEach es X.env)).any (·.1) = false := by rfl) :
    AE X w0 (.Call fe (e :: es) [] pos) (aCallV tab tf ta) := by
  refine ⟨fun pins s σ H Q I h => ?_⟩
  obtain ⟨env, w, rfl, ok, tr0, er, P, h, k⟩ := h
  refine Call_ ?_ hc
  refine thn (hf.run pins s σ w.H (fun v H1 => ∃ (f : Addr) (S : Spec), v = .ref f ∧ (f, S) ∈ tab ∧ concA X.K w0 ta σ H1 fun vs H2 => spOf X.K S vs H2 Q E0) I ⟨env, w, rfl, ok, tr0, er, _, h, fun d w1 v h1 t1 ok1 dv => ?_⟩) fun v s1 ⟨x, H1, I1, rx, f, S, ev, hS, h1⟩ => ?_
  · obtain ⟨f, S, rfl, hS, h2⟩ := h1
    exact ⟨f, S, dt_ref.mp dv, hS, env, w1, rfl, ok1, tr0.trans t1, er.mono t1.gs, _, h2, fun ds w2 vs h3 t2 ok2 dvs => ⟨ds, w2, P, rfl, ok2, dvs, h3, fun d w3 v h4 t3 ok3 d3 => k d w3 v h4 ((t1.trans t2).trans t3) ok3 d3⟩⟩
  · subst ev
    obtain rfl : v = Value.ref f := rx
    obtain ⟨ps, fd, hk, hb, G⟩ := F _ hS
    refine PySem.W.callWith_K (h₀ := X.base) I1.ok.mod.kin hk (thn (ha.run pos pins s1 σ H1 _ I1 h1) fun us s2 ⟨vs, H2, I2, r, q⟩ => ⟨I2.kIn, ?_⟩) he hpl
    have := run_fnG (ds := []) (dvs := []) G hr hgd hb .nil pass0 I2 r (by rw [List.append_nil]; exact q)
    exact this
theorem ae_fn {X : Cx} {w0 : Wd} {x : Str} {f : Addr} {pos : Pos} (hg : Gl X x) (hm : X.mg x = some (.ref f)) (hdb : (x == ("__debug__" : Str)) = false := by decide) : AE X w0 (.Name x pos) (aC (.ref f)) :=
  ae_glob (v := .ref f) hg hm rfl (fun _ => by unfold Dt; rfl) hdb
/-! ### a dict that is written down, texts by values that are known -/
def dKV (kv : List (Str × D)) : List (D × D) := kv.map fun p => (.str p.1, p.2)
def lookKV : List (Str × D) → Str → Option D
  | [], _ => none
  | (k, v) :: r, z => if k = z then some v else lookKV r z
def sD : D → Bool
  | .str _ => true
  | .int _ => true
  | .bl _ => true
  | .ref _ => true
  | _ => false
def vOf : D → V
  | .str x => .str x
  | .int i => .int i
  | .bl b => .bl b
  | .ref a => .ref a
  | _ => .non
theorem vOf_dt {K : PySem.W.Frag} {G : Hp} {d : D} (h : sD d = true) : Dt K G d (vOf d) := by
  cases d <;> first | (cases h; done) | (unfold Dt; rfl)
def kTab (kv : List (Str × D)) : List (Key × V) := kv.map fun p => (.inr p.1, vOf p.2)
def pTab (kv : List (Str × D)) : List (TE × TE) := kv.map fun p => (tC (.str p.1), tC (vOf p.2))
theorem tPairs_kv {σ : L2.St} {H : Hp} : ∀ (kv : List (Str × D)) {Q : List (V × V) → Hp → Prop}, Q (kv.map fun p => (V.str p.1, vOf p.2)) H → tPairs (pTab kv) σ H Q
  | [], _, h => h
  | (k, v) :: r, Q, h => tPairs_kv r (Q := fun ps H3 => Q ((V.str k, vOf v) :: ps) H3) h
theorem dkK_kv {K : PySem.W.Frag} {G : Hp} : ∀ (kv : List (Str × D)), kv.all (fun p => sD p.2) = true → DkK K G (dKV kv) (kTab kv)
  | [], _ => by unfold dKV kTab DkK; rfl
  | (k, v) :: r, h => by
    rw [List.all_cons, Bool.and_eq_true] at h
    show DkK K G ((.str k, v) :: dKV r) ((.inr k, vOf v) :: kTab r)
    unfold DkK
    exact ⟨_, _, _, rfl, rfl, vOf_dt h.1, dkK_kv r h.2⟩
section
variable {X : Cx} {w0 : Wd} {a b : Expr} {ta tb : ATE} {pos : Pos} {keys : List (Option Expr)} {values : List Expr}
theorem ae_dlitV (kv : List (Str × D)) (h : PPs X pos keys values (pTab kv)) (hs : kv.all (fun p => sD p.2) = true := by rfl) (hm : mergeK [] (kTab kv) = kTab kv := by rfl) (hall : keys.all (·.isSome) = true := by rfl) (hl : keys.length = values.length := by rfl) (h0 : keys ≠ [] := by exact fun z => nomatch z)
    (h15 : keys.length ≤ 15 := by decide) (hk : kv.length ≤ 15 := by exact Nat.le_of_ble_eq_true rfl) : AE X w0 (.Dict keys values pos) (aC (.dct (dKV kv))) := pe_of (pe_disp h hall hl h0 h15) fun σ H Q h => by
  obtain ⟨env, w, rfl, ok, tr0, er, P, h, k⟩ := h
  intro p hp
  refine tPairs_kv kv ⟨upd_same, kTab kv, ?_, by unfold kTab; rw [List.length_map]; exact hk, ?_⟩
  · unfold kTab; rw [List.map_map]; rfl
  · rw [hm]
    obtain ⟨ok', t⟩ := ok.frz (o := .dK (kTab kv)) hp True.intro
    have e : upd (upd w.H p (.dK [])) p (.dK (kTab kv)) = (w.frz p (.dK (kTab kv))).H := by
      funext q
      show upd (upd w.H p (.dK [])) p (.dK (kTab kv)) q = upd w.H p (.dK (kTab kv)) q
      by_cases z : q = p
      · subst z; rw [upd_same, upd_same]
      · rw [upd_ne z, upd_ne z, upd_ne z]
    rw [e]
    exact k _ _ _ h t ok' (by unfold Dt; exact ⟨p, rfl, .inl ⟨_, upd_same, dkK_kv kv hs⟩⟩)
/-- an item of such a dict -/
def fIxKV (kv : List (Str × D)) : BinF := fun own d e P => d = .dct (dKV kv) ∧ ∃ z, e = .str z ∧ oP (lookKV kv z) P
theorem valV_kv {z : Str} {r : D} {K : PySem.W.Frag} {G : Hp} : ∀ {kv : List (Str × D)} {es : List (Key × V)}, DkK K G (dKV kv) es → lookKV kv z = some r → ∃ v, valV es (.inr z : Key) = some v ∧ Dt K G r v
  | [], _, _, h => by unfold lookKV at h; cases h
  | (k, v) :: t, es, d, h => by
    have d' : DkK K G ((.str k, v) :: dKV t) es := d
    unfold DkK at d'
    obtain ⟨x, u, er, rfl, e1, e2, e3⟩ := d'
    have ex : x = .inr k := by
      cases x with
      | inl i => cases e1
      | inr y => cases e1; rfl
    subst ex
    unfold lookKV at h
    by_cases q : k = z
    · subst q; rw [if_pos rfl] at h; cases h; exact ⟨u, valV_pos rfl, e2⟩
    · rw [if_neg q] at h
      rw [valV_neg (fun z' => q (by cases z'; rfl))]
      exact valV_kv e3 h
theorem ae_ixKV {k : Nat} (kv : List (Str × D)) (hr : Room k X.A) (ha : AE X w0 a ta) (hb : AE X w0 b tb) (hs : NoSl b := by exact fun _ _ => rfl) : AE X w0 (.Subscript a b pos) (aBin (fIxKV kv) ta tb) := pe_of (pe_dget (by have := hr.units; omega) ha hb hs) fun σ H Q h => by
  obtain ⟨env, w, rfl, ok, tr0, er, P, h, kk⟩ := h
  refine ⟨env, w, rfl, ok, tr0, er, _, h, fun d w1 x h1 t1 ok1 dx => ?_⟩
  refine ⟨env, w1, rfl, ok1, tr0.trans t1, er.mono t1.gs, _, h1, fun e w2 y h2 t2 ok2 dy => ?_⟩
  obtain ⟨rfl, z, rfl, h2⟩ := h2
  obtain ⟨r, e1, h2⟩ := oP_some h2
  have dx' := dx.mono t2.gs
  unfold Dt at dx'
  have dy' := dt_str.mp dy
  subst dy'
  obtain ⟨p, rfl, ⟨es, g, dk⟩ | ⟨es, g, dk⟩⟩ := dx'
  · obtain ⟨v, q1, q2⟩ := valV_kv dk e1
    refine ⟨p, v, rfl, ?_, kk _ w2 _ h2 (t1.trans t2) ok2 q2⟩
    have := DGet.k (H := w2.H) (k := (.inr z : Key)) (ok2.sub p _ g)
    rw [q1] at this
    exact this
  · cases kv with
    | nil => unfold lookKV at e1; cases e1
    | cons q t =>
      have dk' : DkT X.K w2.G ((.str q.1, q.2) :: dKV t) es := dk
      unfold DkT at dk'
      obtain ⟨x, u, er, _, e1, _⟩ := dk'
      cases e1
end
end L3

namespace L3
open PySem PySem.Spec PyProof.Rows L2
/-! ### xs + ys as a list that is not yet told -/
def aCat (ta tb : ATE) : ATN := fun env own P => ta env own fun d o1 => tb env o1 fun e o2 => match see o2 d, see o2 e with
  | .lst xs, .lst ys => xs.length + ys.length ≤ sizeLine ∧ P (xs ++ ys) o2
  | _, _ => False
section
variable {X : Cx} {w0 : Wd} {a b : Expr} {ta tb : ATE} {pos : Pos}
theorem an_cat (ha : AE X w0 a ta) (hb : AE X w0 b tb) : AN X w0 (.BinOp a .Add b pos) (aCat ta tb) := pe_of (pe_op op_catR ha hb) fun σ H Q h => by
  obtain ⟨env, w, rfl, ok, tr0, er, P, h, k⟩ := h
  refine ⟨env, w, rfl, ok, tr0, er, _, h, fun d w1 x h1 t1 ok1 dx => ?_⟩
  refine ⟨env, w1, rfl, ok1, tr0.trans t1, er.mono t1.gs, _, h1, fun e w2 y h2 t2 ok2 dy => ?_⟩
  have sx := see_ok ok2 (dx.mono t2.gs)
  have sy := see_ok ok2 dy
  generalize see w2.own d = d' at h2 sx
  generalize see w2.own e = e' at h2 sy
  match d', e', h2, sx, sy with
  | .lst xs, .lst ys, h2, sx, sy =>
    obtain ⟨p, us, rfl, e1, e2⟩ := sx
    obtain ⟨q, vs, rfl, e3, e4⟩ := sy
    have l1 := e2.length
    have l2 := e4.length
    refine ⟨p, q, us, vs, rfl, rfl, e1, e3, by rw [l1, l2]; exact h2.1, fun r hr => ?_⟩
    have hz : (us ++ vs).length ≤ sizeLine := by rw [List.length_append, l1, l2]; exact h2.1
    have ok3 := ok2.bare (p := r) (o := .lst (us ++ vs)) (.inl hr) hz
    have t3 := t1.trans t2
    exact k (xs ++ ys) ⟨w2.own, w2.G, upd w2.H r (.lst (us ++ vs))⟩ r (us ++ vs) h2.2 (t3.bare (t3.fresh hr)) ok3 (t3.fresh hr) upd_same (ok2.noG hr) (ok2.noown hr) (e2.append e4)
end
@[simp] theorem x_cat {ta tb : ATE} {env : AEnv} {own : Own} {P : List D → Own → Prop} : aCat ta tb env own P = ta env own fun d o1 => tb env o1 fun e o2 => match see o2 d, see o2 e with
  | .lst xs, .lst ys => xs.length + ys.length ≤ sizeLine ∧ P (xs ++ ys) o2
  | _, _ => False := (rfl)
/-! ### more of what simp takes apart -/
section
variable {own : Own} {d e : D} {ds es : List D} {Q : D → Prop} {b : Bool} {x : Str}
@[simp] theorem x_inB {neg : Bool} : flatD (.bl b) = true := (rfl)
@[simp] theorem eqD_bl {b c : Bool} : eqD (.bl b) (.bl c) = (b == c) := (rfl)
@[simp] theorem eqD_int {i j : Int} : eqD (.int i) (.int j) = (i == j) := (rfl)
@[simp] theorem x_isN {neg : Bool} : fIsN neg own .non .non Q = Q (.bl (!neg)) := by simp [fIsN]
@[simp] theorem x_isNT {neg : Bool} : fIsN neg own (.tup ds) .non Q = Q (.bl neg) := by simp [fIsN]
@[simp] theorem x_isNS {neg : Bool} : fIsN neg own (.str x) .non Q = Q (.bl neg) := by simp [fIsN]
theorem kit_tup : kitB "tuple" "tuple" = some true := by decide +kernel
@[simp] theorem x_isiT : fIsi own [.tup ds, .ty "tuple"] Q = Q (.bl true) := by
  show oP (kitB "tuple" "tuple") (fun b => Q (.bl b)) = _
  rw [kit_tup]; rfl
@[simp] theorem x_all : gAll (.lst ds) Q = oP (blsOf ds) fun bs => Q (.bl (bs.all _root_.id)) := (rfl)
@[simp] theorem bls_map {α : Type} (f : α → Bool) : ∀ l : List α, blsOf (l.map fun a => D.bl (f a)) = some (l.map f)
  | [] => rfl
  | a :: l => by simp only [List.map_cons, blsOf, bls_map f l, Option.map_some]
@[simp] theorem x_zip {ta : ATA} {env : AEnv} {P : List D → (Own → Prop) → Own → Prop} : aZip ta env own P = ta env own fun ds o => match ds with
  | [d, e] => ∃ as ga bs gb, itemsOf o d = some (as, ga) ∧ itemsOf o e = some (bs, gb) ∧ P (zipD as bs) (fun o' => ga o' ∧ gb o') o
  | _ => False := (rfl)
@[simp] theorem x_reprN : gRepr .non Q = Q (.str (reprD .non)) := (rfl)
@[simp] theorem x_slS {z : Str} {lo hi : Option Int} : fSl0 lo hi (.str z) Q = (z.length ≤ sizeLine ∧ Q (.str (cutS z lo hi))) := (rfl)
@[simp] theorem x_wipe0 {env : AEnv} : wipeA env [] = env := (rfl)
@[simp] theorem x_wipeC {env : AEnv} {v : Nat} {vs : List Nat} : wipeA env (v :: vs) = (wipeA env vs).set v none := (rfl)
theorem zip_pure {α β : Type} (f : α → D) (g : β → D) : ∀ (l : List α) (m : List β), zipD (l.map f) (m.map g) = (l.zip m).map fun q => .tup [f q.1, g q.2]
  | [], _ => by simp [zipD]
  | _ :: _, [] => by simp [zipD]
  | a :: l, b :: m => by
    have := zip_pure f g l m
    simp only [zipD, List.map_cons, List.zipWith_cons_cons, List.zip_cons_cons] at this ⊢
    rw [this]
end
/-- the signs that can be written, and the line's end ahead of them; without 37 -/
def printable : Str := ⟨(10 :: ((List.range 95).map (· + 32)).filter (fun c => c != 37)).toArray⟩
end L3

namespace L3
open PySem PySem.Spec PyProof.Rows L2
/-! ### the end: defs with keyword-only defaults, keywords in any order, defs by address -/
def HasK (K : PySem.W.Frag) (mg : Str → Option Value) (x : Str) (st : Stmt) (kws : List (Str × V)) : Prop := ∃ f fd, FnP K x st [] kws f fd ∧ mg x = some (.ref f)
def HasA (K : PySem.W.Frag) (x : Str) (st : Stmt) (f : Addr) : Prop := ∃ fd, FnP K x st [] [] f fd
def BdD (x : Str) (st : Stmt) (ps : List Str) (n : Nat) (ms : List Str) : Prop := ∀ (D : Addr) (doc pm : Value) (an : Option Addr) (cdv ct : Value) (us ks : List Value), us.length = n → ks.length = ms.length →
  KwChain D (ms.zip ks) (bindArgs (PySem.W.fnOf x x (defArgs st) (defBody st) (defScope st) .none (.ref D) doc pm an cdv ct) ⟨us, []⟩) (ps.zip (us ++ ks))
def BdP (x : Str) (st : Stmt) (ps : List Str) (n : Nat) (ks : List Str) (pm : List Nat) : Prop := ∀ (kV doc pm' : Value) (an : Option Addr) (cdv ct : Value) (us ws : List Value), us.length = n → ws.length = ks.length → bindArgs (PySem.W.fnOf x x (defArgs st) (defBody st) (defScope st) .none kV doc pm' an cdv ct) ⟨us, ks.zip ws⟩ = pure (ps.zip (arr pm (us ++ (ws ++ []))))
section
variable {P : Program} {w : World} {K : PySem.W.Frag} {mg : Str → Option Value} {base : Heap} {x : Str} {st : Stmt} {N ps : List Str} {k n : Nat} {ks : List Str} {S : Spec} {kws : List (Str × V)} {pm : List Nat}
/-- called with the keyword-only ones left out -/
theorem kn_defD (F : HasK K mg x st kws) (sc : FnScope N ps (defScope st)) (hk : kws ≠ []) (hn : n + kws.length = ps.length) (hb : BdD x st ps n (kws.map (·.1))) {dvs : List D} (hdv : ∀ G, Dts K G dvs (kws.map (·.2))) (len : ∀ ds o Q, S ds o Q → ds.length = ps.length) (b : Bod P w K mg base x st N k S) : Kn P w K mg base (k + 1) x ps dvs S := by
  obtain ⟨f, fd, F, hm⟩ := F
  obtain ⟨ds, r, bs⟩ := FunD.binds0 (ps := ps) F n hk hn fun D doc pm an cdv ct us ks h1 h2 => hb D doc pm an cdv ct us ks h1 (by rw [List.length_map]; exact h2)
  exact ⟨f, fd, ds, kws.map (·.2), hm, F.kp, bs, r, hdv, def_ok (funX F) sc len (b f)⟩
theorem knP_def (F : HasK K mg x st kws) (sc : FnScope N ps (defScope st)) (hb : BdP x st ps n ks pm) (len : ∀ ds o Q, S ds o Q → ds.length = ps.length) (b : Bod P w K mg base x st N k S) : KnP P w K mg base (k + 1) x ps n ks [] pm S := by
  obtain ⟨f, fd, F, hm⟩ := F
  refine ⟨f, fd, [], [], hm, F.kp, .nil, fun _ => by unfold Dts; rfl, fun s us ws _ h1 h2 => ?_, def_ok (funX F) sc len (b f)⟩
  obtain ⟨oc, od, dV, kV, doc, pm', an, cdv, ct, osl, rfl, lk, hcd, hD, hK⟩ := F.ex
  rcases hD with ⟨_, rfl⟩ | ⟨e, _⟩
  · exact .of_eq (hb kV doc pm' an cdv ct us ws h1 h2)
  · exact absurd rfl e
theorem knA_def {f : Addr} (F : HasA K x st f) (sc : FnScope N ps (defScope st)) (hb : Bd x st ps) (len : ∀ ds o Q, S ds o Q → ds.length = ps.length) (b : Bod P w K mg base x st N k S) : KnA P w K mg base (k + 1) f ps S := by
  obtain ⟨fd, F⟩ := F
  exact ⟨fd, F.kp, F.bindsN hb, def_ok (funX F) sc len (b f)⟩
theorem hasK_nil (F : Has K mg x st) : HasK K mg x st [] := F
variable {h : Heap} {fa : List He.Fa} {fn : List He.DefD} {ts : List He.Tab} {ck : PySem.W.Frag → Bool}
theorem hasK_of (X : K.In h) (G : h.Ns mainGlobals mg) (c : SaysX fa fn ts ck w K) (i j : Nat) (kwd : List (Str × He.Dv)) (h1 : fa[i]? = some (.glo x) := by rfl) (h2 : fn[j]? = some ⟨(x, none), x, x, defArgs st, defBody st, defScope st, [], kwd⟩ := by rfl) : HasK K mg x st (kwd.map fun q => (q.1, q.2.v K)) := by
  obtain ⟨fd, F⟩ := c.t.d.def_ j h2
  exact ⟨_, fd, F, He.glo_ok X G (c.t.d.fact i h1)⟩
theorem hasA_of (c : SaysX fa fn ts ck w K) (j : Nat) (h2 : fn[j]? = some ⟨(x, none), x, x, defArgs st, defBody st, defScope st, [], []⟩ := by rfl) : HasA K x st (He.ga K x) := c.t.d.def_ j h2
end
end L3

namespace L3
open PySem PySem.Spec PyProof.Rows L2
/-! ### exceptions: what may be raised is told by its class's name and its dict -/
abbrev XP := Str → Option Addr → Own → Prop
abbrev SpecX := List D → Own → (D → Own → Prop) → XP → Prop
def noX : XP := fun _ _ _ => False
def spOfX (K : PySem.W.Frag) (S : SpecX) : Sp := fun vs H Q E => ∃ (ds : List D) (w : Wd) (P : D → Own → Prop) (PX : XP), w.H = H ∧ w.Ok K ∧ Dts K w.G ds vs ∧ S ds w.own P PX ∧ (∀ d w' v, P d w'.own → Tr w w' → w'.Ok K → Dt K w'.G d v → Q v w'.H) ∧
  ∀ c d w', PX c d w'.own → Tr w w' → w'.Ok K → E (.ref (He.ga K c)) d w'.H
/-- what a body may let out -/
def wishE (K : PySem.W.Frag) (w0 : Wd) (E : XP) : XK := fun cls d H => ∃ (c : Str) (w : Wd), cls = .ref (He.ga K c) ∧ w.H = H ∧ w.Ok K ∧ Tr w0 w ∧ E c d w.own
abbrev wishX (K : PySem.W.Frag) (w0 : Wd) (E : XP) : WX := fun cls d _ H => wishE K w0 E cls d H
abbrev TkX (X : Cx) (w0 : Wd) (E : XP) : Prop := Takes X (wishX X.K w0 E)
structure KnX (P : Program) (w : World) (K : PySem.W.Frag) (mg : Str → Option Value) (base : Heap) (k : Nat) (x : Str) (ps : List Str) (dvs : List D) (S : SpecX) : Prop where
  ex : ∃ (f : Addr) (fd : FuncData) (ds : List Value) (vs : List V), mg x = some (.ref f) ∧ PySem.W.keepIn K (.ref f) = true ∧ Binds K fd ps ds ∧ Vals vs ds ∧ (∀ G, Dts K G dvs vs) ∧ FnG P w K mg base (L2.CX P w) k f fd ps (spOfX K S)
theorem KnX.mono {P : Program} {w : World} {K : PySem.W.Frag} {mg : Str → Option Value} {base : Heap} {k j : Nat} {x : Str} {ps : List Str} {dvs : List D} {S : SpecX} (F : KnX P w K mg base j x ps dvs S) (h : j ≤ k) : KnX P w K mg base k x ps dvs S :=
  let ⟨f, fd, ds, vs, a, b, c, d, e, g⟩ := F.ex
  ⟨f, fd, ds, vs, a, b, c, d, e, g.mono h⟩
def aCallX (S : SpecX) (E : XP) (dvs : List D) (ta : ATA) : ATE := fun env own P => ta env own fun ds o => S (ds ++ dvs) o P E
section
variable {X : Cx} {w0 : Wd} {k : Nat} {x : Str} {ps : List Str} {dvs : List D} {S : SpecX} {E : XP} {e : Expr} {es : List Expr} {ta : ATA} {p pos : Pos}
theorem call_ofX {vs : List V} {σ : L2.St} {H : Hp} {Q : VK} (hv : ∀ G, Dts X.K G dvs vs) (h : concE X.K w0 (aCallX S E dvs ta) σ H Q) : tCall (spOfX X.K S) vs (wishE X.K w0 E) (concA X.K w0 ta) σ H Q := by
  obtain ⟨env, w, rfl, ok, tr0, er, P, h, k⟩ := h
  exact ⟨env, w, rfl, ok, tr0, er, _, h, fun ds w1 us h1 t1 ok1 dv => ⟨ds ++ dvs, w1, P, E, rfl, ok1, dv.append (hv w1.G), h1, fun d w2 v h2 t2 ok2 d2 => k d w2 v h2 (t1.trans t2) ok2 d2,
    fun c d w2 h2 t2 ok2 => ⟨c, w2, rfl, rfl, ok2, (tr0.trans t1).trans t2, h2⟩⟩⟩
theorem passesX (tk : TkX X w0 E) : Passes (L2.CX X.prog X.w) X (wishE X.K w0 E) := passes_call tk fun _ _ _ _ h => h
theorem tkX_no : TkX X w0 noX := takes_none5.imp fun _ _ _ _ ⟨_, _, _, _, _, _, h⟩ => h
theorem TkX.imp {E' : XP} (t : TkX X w0 E) (h : ∀ c d o, E' c d o → E c d o) : TkX X w0 E' := Takes.imp t fun _ _ _ _ ⟨c, w, a1, a2, a3, a4, a5⟩ => ⟨c, w, a1, a2, a3, a4, h _ _ _ a5⟩
theorem ae_callX (F : KnX X.prog X.w X.K X.mg X.base k x ps dvs S) (tk : TkX X w0 E) (hr : Room k X.A) (hgd : X.A.guards = some []) (hg : Gl X x) (ha : AA X w0 (e :: es) ta) (hdb : (x == ("__debug__" : Str)) = false := by decide) (he : starEach (e :: es) X.env = (false, eval e X.env) :: starEach es X.env := by rfl) (hpl : (backTo pos (starEach es X.env)).any (·.1) = false := by rfl) :
    AE X w0 (.Call (.Name x p) (e :: es) [] pos) (aCallX S E dvs ta) := by
  obtain ⟨f, fd, ds, vs, hm, hk, hb, hd, hv, G⟩ := F.ex
  exact pe_of (pe_callG G hr hgd hg hm hk hb hd (passesX tk) ha hdb he hpl) fun _ _ _ h => call_ofX hv h
/-- raise x('m'), x a class of one's own without a maker -/
def aRaise (E : XP) (x : Str) : ATS := fun _ _ own => E x none own
structure ExcN (K : PySem.W.Frag) (mg : Str → Option Value) (x : Str) : Prop where
  g : mg x = some (.ref (He.ga K x))
  f : (He.Fa.exc x).ok K = true
theorem as_raise {m : Str} {j : Nat} {p2 cpos : Pos} (F : ExcN X.K X.mg x) (tk : TkX X w0 E) (hc : X.calm = true) (hg : Gl X x) (hdb : (x == ("__debug__" : Str)) = false := by decide) :
    AS X w0 (.Raise (some (.Call (.Name x p) [.Constant (.str m) j p2] [] cpos)) none pos) (aRaise E x) := by
  obtain ⟨c1, c2, c3, c4⟩ := He.exc_ok F.f
  exact ps_of (ps_raise hc tk (pmk_own PySem.F.excBase_ValueError c1 F.g c2 (raises_own c3 c4) hg hdb)) fun D σ H h => by
    obtain ⟨env, w, rfl, ok, tr0, er, A, h, _⟩ := h
    exact ⟨x, w, rfl, rfl, ok, tr0, h⟩
end
/-- handed out -/
def RtX (E : XP) : XP := fun c d o => ∃ o', (∀ p m, o' p = some m → o p = some m) ∧ E c d o'
theorem RtX.mk {E : XP} {c : Str} {d : Option Addr} {o : Own} (h : E c d o) : RtX E c d o := ⟨o, fun _ _ h => h, h⟩
section
variable {P : Program} {w : World} {K : PySem.W.Frag} {mg : Str → Option Value} {base : Heap}
/-- THE RULE for a def that may raise -/
theorem def_okX {x qual : Str} {st : Stmt} {f : Addr} {fd : FuncData} {N ps : List Str} {k : Nat} {S : SpecX} (F : FunX K x qual st f fd) (sc : FnScope N ps (defScope st)) (len : ∀ ds o Q E, S ds o Q E → ds.length = ps.length)
    (hbody : ∀ (cdv : Value) (A : Around) (outer : List PySem.Env) (s : Shared) (H : Hp) (E : XK) (w0 : Wd) (ds : List D) (Q : D → Own → Prop) (PX : XP), Room k (A.deeper (envOfC qual (defScope st) s.heap.objs.size f cdv)) → A.guards = some [] → S ds w0.own Q PX →
      TkX (cxOf (L2.CX P w) P w K mg base N qual (defScope st) f cdv A outer s H E) w0 (RtX PX) →
      ∃ t, ASs (cxOf (L2.CX P w) P w K mg base N qual (defScope st) f cdv A outer s H E) w0 (defBody st) t ∧ t { nx := fun _ o => Rt Q .non o, rt := Rt Q } (astart N ds) w0.own) : FnG P w K mg base (L2.CX P w) (k + 1) f fd ps (spOfX K S) := by
  refine fnG_of F sc (fun vs H Q E h => ?_) fun cdv A outer s H vs Q E hr hg h => ?_
  · obtain ⟨ds, w, P, PX, _, _, dv, hS, _⟩ := h
    rw [dv.length]; exact len ds _ _ _ hS
  · obtain ⟨ds, w0, P', PX, rfl, ok, dv, hS, kk, kx⟩ := h
    have tk0 : Takes (cxOf (L2.CX P w) P w K mg base N qual (defScope st) f cdv A outer s w0.H E) (fun cls d _ H => E cls d H) := takes_of rfl rfl rfl rfl
    have tk : TkX (cxOf (L2.CX P w) P w K mg base N qual (defScope st) f cdv A outer s w0.H E) w0 (RtX PX) := tk0.imp fun cls d σ H ⟨c, w1, e1, e2, ok1, t1, o', hs, hp⟩ => by
      subst e1 e2
      obtain ⟨G', s1, s2, s3, s4⟩ := ok1.still hs
      exact kx c d ⟨o', G', w1.H⟩ hp (s4 _ t1) s3
    obtain ⟨t, ht, hq⟩ := hbody cdv A outer s w0.H E w0 ds P' PX hr hg hS tk
    refine ⟨_, ht, astart N ds, w0, rfl, ok, Tr.refl _, envR_start dv, _, hq, fun env' w' σ' h1 t1 ok1 _ => ?_, fun d w' v h1 t1 ok1 dv1 => ?_, fun _ _ _ h => h.elim, fun _ _ _ h => h.elim⟩
    · obtain ⟨d', o', c, hp⟩ := h1
      obtain ⟨w2, a1, a2, a3, a4, a5⟩ := Cv.ok (v := .non) ok1 c (by unfold Dt; rfl)
      show Q .non w'.H
      rw [← a1]
      exact kk d' w2 .non (by rw [a2]; exact hp) (a5 _ t1) a3 a4
    · obtain ⟨d', o', c, hp⟩ := h1
      obtain ⟨w2, a1, a2, a3, a4, a5⟩ := Cv.ok ok1 c dv1
      show Q v w'.H
      rw [← a1]
      exact kk d' w2 v (by rw [a2]; exact hp) (a5 _ t1) a3 a4
end
end L3

namespace L3
open PySem PySem.Spec PyProof.Rows L2
/-! ### try: body, except (X, ..) as n: suite; what is caught is one's own from then on -/
section
variable {X : Cx} {pins : List (Addr × Obj)} {σ : L2.St} {H : Hp} {sI s' s : Shared} {B : Heap} {a : Addr}
/-- on the ground, the exception tracked -/
theorem landT {o : HO} (I : Inv X pins σ H sI) (nb : ∀ b o, sI.heap.get? b = some o → b ∉ frs X.stack → B.get? b = some o) (st : B.StaysIn s'.heap) (hB : B.get? a = none) (nf : a ∉ frs X.stack) (up : sI.heap.UpToSlots s'.heap) (os : s'.os = sI.os) (ag : AllBare s'.gens)
    (na : H a = none) (ho : ObjOk X.prog X.w (upd H a o) s'.heap a o) : Inv X pins σ (upd H a o) s' := by
  have nI : sI.heap.get? a = none := by
    cases e : sI.heap.get? a with
    | none => rfl
    | some u =>
      have := nb a u e nf
      rw [hB] at this; cases this
  have ne : ∀ b u, sI.heap.get? b = some u → b ≠ a := fun b u e z => by rw [z, nI] at e; cases e
  have nH : ∀ b u, H b = some u → b ≠ a := fun b u e z => by rw [z, na] at e; cases e
  have sl : ∀ b ∈ frs X.stack, ∀ o, sI.heap.get? b = some o → ∃ sl, s'.heap.get? b = some { o with slots := sl } := fun b hb o e => by
    obtain ⟨_, o', e', hd⟩ := I.stack.mem hb
    rw [e] at e'; cases e'
    exact up b o e hd
  have hok : HOk X.prog X.w (upd H a o) s'.heap := ((I.inGround nb).kept st).laidN (fun _ _ z => z) na ho
  refine I.call' (ch := []) os ⟨fun b u e _ hb _ => st b u (nb b u e hb), fun b u e _ hb _ => sl b hb u e, fun b u e n _ => by rw [upd_ne (ne b u e)]; exact n, fun b u e _ => ?_, fun b xs e => by rw [upd_ne (nH b _ e)]; exact e, fun b o u e => by rw [upd_ne (nH b _ e)]; exact e, fun b ps e => ⟨#[], by rw [upd_ne (nH b _ e), e]; simp⟩⟩ hok ag (fun b hb => absurd hb (by simp))
  by_cases hb : b ∈ frs X.stack
  · obtain ⟨z, q⟩ := sl b hb u e
    exact ⟨_, q⟩
  · exact ⟨u, st b u (nb b u e hb)⟩
theorem excAt_ok {P : Program} {w : World} {h : Heap} {cls : Value} {d : Option Addr} {oe : Obj} {vs : Array Value} (e : h.get? a = some oe) (z : Zc cls d oe) (dd : oe.data = .fields vs) : ObjOk P w H h a (.ext (ExcAt a cls d)) :=
  ⟨⟨oe, vs, e, z, dd⟩, ⟨oe, e⟩, fun _ _ ⟨o, v, q, r⟩ k => ⟨o, v, k o q, r⟩⟩
theorem suite0 (I : Inv X pins σ H s) : Inv (X.suite a (X.pn ++ pins)) [] σ H s :=
  ⟨I.ok.suite _ _, I.os, I.bare, I.base, I.loc, I.cell, I.free, I.freeC, fun p hp => I.pin p (by rw [List.append_nil] at hp; exact hp), I.hok, I.len⟩
theorem unsuite0 {pn' : List (Addr × Obj)} (I : Inv (X.suite a (X.pn ++ pins)) pn' σ H s) (ok : X.Ok) : Inv X pins σ H s :=
  ⟨ok, I.os, I.bare, I.base, I.loc, I.cell, I.free, I.freeC, fun p hp => I.pin p (List.mem_append_left _ hp), I.hok, I.len⟩
theorem flyZ_keeps {l : List PySem.Env} {Z : Obj → Prop} {h h' : Heap} (x : HandSPX.FlyingZ B l a Z h) (k : ∀ b o, h.get? b = some o → h'.get? b = some o) : HandSPX.FlyingZ B l a Z h' := by
  obtain ⟨k1, k2, k3, oe, vs, T, oT, ts, e1, e2, e3, e4, e5, e6, e7, e8, e9⟩ := x
  exact ⟨fun b o e => k b o (k1 b o e), k2, Heap.FunFrames.of_keeps (fun b o e _ => ⟨o, k b o e, rfl⟩) k3, oe, vs, T, oT, ts, k _ _ e1, e2, e3, e4, e5, e6, k _ _ e7, e8, e9⟩
end
/-- a clause's test says yes of the class -/
def TstOk (X : Cx) (t : Expr) (cls : Value) : Prop := ∀ (a : Addr) (pn : List (Addr × Obj)) (σ : L2.St) (H : Hp) (s : Shared) (E : Value → Shared → Prop) (Q : Value → Shared → Prop), Inv (X.suite a pn) [] σ H s → PySem.W.Looks (model X.prog X.w) s.heap (typeOf (.ref a)) cls →
  (∀ (c : Value) (h' : Heap), (∀ b o, s.heap.get? b = some o → h'.get? b = some o) → PySem.W.Looks (model X.prog X.w) h' (excMatches (.ref a) c) true → Q c { s with heap := h' }) →
  wpAny (model X.prog X.w) (X.A.mark (some (.ref a))) (eval t X.env) Q E s
section
variable {X : Cx} {cls : Value} {x1 x2 x3 x4 : Str} {c1 c2 c3 c4 : Value} {p1 p2 p3 p4 tpos : Pos} {kk : Nat}
theorem nm_ok {x : Str} {c : Value} {a : Addr} {pn : List (Addr × Obj)} {σ : L2.St} {H : Hp} {s : Shared} {p : Pos} (hc : Names X x c) (S : Inv (X.suite a pn) [] σ H s) {Q : Value → Shared → Prop} {E : Value → Shared → Prop} (q : Q c s) :
    wpAny (model X.prog X.w) (X.A.mark (some (.ref a))) (eval (.Name x p) X.env) Q E s := by
  obtain ⟨hg, hdbg, hm | ⟨hm, hv, hnn⟩⟩ := hc
  · exact ld_glob (X := X.suite a pn) S hg hm q hdbg
  · exact ld_blt (X := X.suite a pn) S hg hm hv q hnn hdbg
theorem tst_one {p : Pos} (n1 : Names X x1 c1) (he : PySem.W.exmOne X.K cls c1 = some true) : TstOk X (.Name x1 p) cls := fun a pn σ H s E Q S LT q =>
  nm_ok n1 S (q c1 s.heap (fun _ _ z => z) (PySem.W.exm_one S.kIn LT he))
theorem tst_two (n1 : Names X x1 c1) (n2 : Names X x2 c2) (he : PySem.W.exmAny X.K cls [c1, c2] = some true) : TstOk X (.Tuple [.Name x1 p1, .Name x2 p2] kk tpos) cls := fun a pn σ H s E Q S LT q => by
  refine wpAny_Tuple (wpAny_items_cons (nm_ok n1 S (wpAny_items_cons (nm_ok n2 S (wpAny_items_nil ⟨by size_fits, ?_⟩)))))
  have kp : ∀ b o, s.heap.get? b = some o → (s.heap.push { cls := .type "tuple", data := .seq [c1, c2].toArray }).get? b = some o := fun _ _ z => Heap.get?_push_of_some _ z
  exact q _ _ kp (PySem.W.exm_tup2 (S.kIn.keeps kp) (LT.keeps kp) (Heap.get?_push_size s.heap rfl) he)
theorem tst_four (n1 : Names X x1 c1) (n2 : Names X x2 c2) (n3 : Names X x3 c3) (n4 : Names X x4 c4) (he : PySem.W.exmAny X.K cls [c1, c2, c3, c4] = some true) : TstOk X (.Tuple [.Name x1 p1, .Name x2 p2, .Name x3 p3, .Name x4 p4] kk tpos) cls := fun a pn σ H s E Q S LT q => by
  refine wpAny_Tuple (wpAny_items_cons (nm_ok n1 S (wpAny_items_cons (nm_ok n2 S (wpAny_items_cons (nm_ok n3 S (wpAny_items_cons (nm_ok n4 S (wpAny_items_nil ⟨by size_fits, ?_⟩)))))))))
  have kp : ∀ b o, s.heap.get? b = some o → (s.heap.push { cls := .type "tuple", data := .seq [c1, c2, c3, c4].toArray }).get? b = some o := fun _ _ z => Heap.get?_push_of_some _ z
  exact q _ _ kp (PySem.W.exm_tup4 (S.kIn.keeps kp) (LT.keeps kp) (Heap.get?_push_size s.heap rfl) he)
end
/-- what the clause wishes of an exception of the body -/
def wCaught (X : Cx) (t : Expr) (i : Nat) (ts : TS) (D : Ends) : WX := fun cls d σ H => σ.length = X.N.length → TstOk X t cls ∧
  ∀ a, H a = none → ts { nx := fun σ' H' => D.nx (σ'.set i none) H', rt := D.rt, bk := fun σ' H' => D.bk (σ'.set i none) H', ct := fun σ' H' => D.ct (σ'.set i none) H' } (σ.set i (some (.ref a))) (upd H a (.ext (ExcAt a cls d)))
section
variable {X : Cx} {n : Str} {i : Nat} {t : Expr} {body suite : List Stmt} {b₀ : Stmt} {pos pos' : Pos} {ts : TS} {J : Type} {W : J → WX} {tb : J → TS}
theorem ps_try_c (hs : X.stack = X.env :: X.outer) (hf : X.env.frame = some X.env.locals) (hN : X.N.Nodup) (hi : X.N[i]? = some n) (hln : X.env.kindOf n = some .local)
    (hb : ∀ (j : J) (pn : List (Addr × Obj)) (xe : Value → Shared → Prop), Takes (X.tr pn xe) (W j) → PassesOwn (model X.prog X.w) X.A X.env xe → PSs (X.tr pn xe) body (tb j))
    (hsu : ∀ (a : Addr) (pn : List (Addr × Obj)), PSs (X.suite a pn) (b₀ :: suite) ts) :
    PS X (.Try body [.ExceptHandler (some t) (some n) (b₀ :: suite) pos'] [] [] pos) (fun D σ H => σ.length = X.N.length → ∃ j, (∀ cls d σ' H', W j cls d σ' H' → wCaught X t i ts D cls d σ' H') ∧ tb j D σ H) := by
  refine ⟨fun pins s σ H D I h => ?_⟩
  obtain ⟨j, hW, h⟩ := h I.len
  have ok := I.ok
  have hfr : X.A.frames = some (X.env :: X.outer) := by rw [ok.frames, hs]
  refine wpAny_Try_except ?_
  refine wpAny_mono ((hb j (X.pn ++ pins) (fun e s₁ => wpAny (model X.prog X.w) X.A (noteFrame e X.env) (fun _ s₂ => wpAny (model X.prog X.w) X.A (setFlight e none) (fun _ s₃ =>
    wpAny (model X.prog X.w) X.A (handleBy e X.env [.ExceptHandler (some t) (some n) (b₀ :: suite) pos']) (SP X pins D) X.xe s₃) X.xe s₂) X.xe s₁) (fun u s' xx => ?_) PassesOwn.looking).run [] s σ H D (I.toTry _) h) (fun f s1 hsp => ?_) (fun e s1 he => he)
  · obtain ⟨a, B, sI, pins', σ', H', cls, d, rfl, J', nb, up, sky, na, os, ag, w⟩ := xx
    have J : Inv X pins σ' H' sI := J'.ofTry ok
    obtain ⟨tst, hgo⟩ := hW _ _ _ _ w J.len
    have sky' : Sky B (X.env :: X.outer) a (Zc cls d) X.env.locals s'.heap := by rw [← hs]; exact sky
    show wpAny (model X.prog X.w) X.A (noteFrame (.ref a) X.env) _ _ _
    refine Sky.land Zc.steady hfr hf sky' fun h3 fl3 up3 => ?_
    have J3 : Inv X pins σ' H' { s' with heap := h3 } := J.landed nb fl3.1 (up.trans up3) os ag
    obtain ⟨oe3, vs3, he3, hz3, hd3⟩ := fl3.there
    have nfr : a ∉ frs X.stack := fun hm => by
      rw [hs] at hm
      obtain ⟨_, o', e', hnf⟩ := fl3.2.2.1.mem hm
      rw [he3] at e'; cases e'
      exact hnf _ hd3
    have S3 : Inv (X.suite a (X.pn ++ pins)) [] σ' H' { s' with heap := h3 } := suite0 J3
    refine wpAny_handleBy_cons (codeAny_handlers_test ?_) (by intro q; cases q)
    have LT : PySem.W.Looks (model X.prog X.w) h3 (typeOf (.ref a)) cls := fun A Q E s k q => wpAny_typeOf_ref (k _ _ he3) (by rw [hz3.1]; exact q)
    refine tst a _ _ _ _ _ _ S3 LT fun c h5 k5 LM => LM.here ?_
    have fl5 := flyZ_keeps fl3 k5
    have up5 : s'.heap.UpToSlots h5 := up3.trans (Heap.UpToSlots.of_keeps k5)
    refine codeAny_handlers_suite_as ?_
    refine HandSPX.lands_againZ (s := { s' with heap := h5 }) fl5 fun h4 fl4 up4 => ?_
    obtain ⟨oe4, vs4, he4, hz4, hd4⟩ := fl4.there
    have J4 : Inv X pins σ' (upd H' a (.ext (ExcAt a cls d))) { s' with heap := h4 } := landT (s' := { s' with heap := h4 }) J nb fl4.1 fl4.2.1 nfr ((up.trans up5).trans up4) os ag na (excAt_ok he4 hz4 hd4)
    have S4 : Inv (X.suite a (X.pn ++ pins)) [] σ' _ { s' with heap := h4 } := suite0 J4
    refine store_ok (X := X.suite a (X.pn ++ pins)) (v := .ref a) S4 hN hi (.inl hln) rfl (fun s5 S5 => ?_) (.inr hln)
    refine wpAny_mono ((hsu a (X.pn ++ pins)).run [] s5 _ _ _ S5 (hgo a na)) (fun f s6 hsp => ?_) (fun _ _ z => False.elim z)
    have end_ : ∀ {σ6 : L2.St} {H6 : Hp} {Q : Shared → Prop}, Inv (X.suite a (X.pn ++ pins)) [] σ6 H6 s6 → (∀ s7, Inv X pins (σ6.set i none) H6 s7 → Q s7) →
        wpAny (model X.prog X.w) X.A (do bindName X.env n .none; unbindBehindTheSuite X.env n pos') (fun _ s7 => Q s7) X.xe s6 := fun {σ6 H6 Q} S6 hq => gone_ok (unsuite0 S6 ok) hN hi hln hq
    cases f with
    | next =>
      obtain ⟨σ6, H6, S6, q6⟩ := hsp
      exact end_ S6 fun s7 J7 => ⟨_, _, J7, q6⟩
    | brk =>
      obtain ⟨σ6, H6, S6, q6⟩ := hsp
      exact end_ S6 fun s7 J7 => ⟨_, _, J7, q6⟩
    | cont =>
      obtain ⟨σ6, H6, S6, q6⟩ := hsp
      exact end_ S6 fun s7 J7 => ⟨_, _, J7, q6⟩
    | ret u =>
      obtain ⟨v6, σ6, H6, S6, r6, q6⟩ := hsp
      exact end_ S6 fun s7 J7 => ⟨_, _, _, J7, r6, q6⟩
  · cases f with
    | next =>
      obtain ⟨σ', H', J', q⟩ := hsp
      exact wpAny_execs_nil ⟨σ', H', J'.ofTry ok, q⟩
    | brk =>
      obtain ⟨σ', H', J', q⟩ := hsp
      exact ⟨σ', H', J'.ofTry ok, q⟩
    | cont =>
      obtain ⟨σ', H', J', q⟩ := hsp
      exact ⟨σ', H', J'.ofTry ok, q⟩
    | ret u =>
      obtain ⟨v, σ', H', J', r, q⟩ := hsp
      exact ⟨v, σ', H', J'.ofTry ok, r, q⟩
end
/-- try / except .. as n: cs, the classes that may come and are caught -/
def aTry (cs : List Str) (i : Nat) (tb : XP → ATS) (ts : ATS) : ATS := fun E env own => tb (fun c d o => c ∈ cs ∧ ∀ a, o a = none →
  ts { nx := fun e' o' => E.nx (e'.set i none) o', rt := E.rt, bk := fun e' o' => E.bk (e'.set i none) o', ct := fun e' o' => E.ct (e'.set i none) o' } ((List.replicate env.length none).set i (some (.ref a))) (oset o a (.exc a c d))) E env own
section
variable {X : Cx} {w0 : Wd} {n : Str} {t : Expr} {body suite : List Stmt} {b₀ : Stmt} {pos pos' : Pos} {ts : ATS} {tb : XP → ATS} {cs : List Str}
theorem as_try (i : Nat) (hs : X.stack = X.env :: X.outer) (hf : X.env.frame = some X.env.locals) (hN : X.N.Nodup) (hT : ∀ c ∈ cs, TstOk X t (.ref (He.ga X.K c)))
    (hb : ∀ (w1 : Wd) (EX : XP) (pn : List (Addr × Obj)) (xe : Value → Shared → Prop), Tr w0 w1 → TkX (X.tr pn xe) w1 EX → PassesOwn (model X.prog X.w) X.A X.env xe → ASs (X.tr pn xe) w1 body (tb EX))
    (hsu : ∀ (w1 : Wd) (a : Addr) (pn : List (Addr × Obj)), ASs (X.suite a pn) w1 (b₀ :: suite) ts) (hi : X.N[i]? = some n := by rfl) (hln : X.env.kindOf n = some .local := by rfl) :
    AS X w0 (.Try body [.ExceptHandler (some t) (some n) (b₀ :: suite) pos'] [] [] pos) (aTry cs i tb ts) := by
  refine ps_of (ps_try_c (J := {w : Wd // Tr w0 w} × XP) (W := fun j => wishX X.K j.1.1 j.2) (tb := fun j => concS X.K j.1.1 (tb j.2)) (ts := fun D σ H => ∃ w1, concS X.K w1 ts D σ H) hs hf hN hi hln (fun j pn xe tk po => hb j.1.1 j.2 pn xe j.1.2 tk po) fun a pn => ?_) fun D σ H h hσ => ?_
  · refine ⟨fun pins s σ H D I ⟨w1, h⟩ => ?_⟩
    exact (hsu w1 a pn).run pins s σ H D I h
  · obtain ⟨env, w, rfl, ok, tr0, er, A, h, k1, k2, k3, k4⟩ := h
    refine ⟨(⟨w, tr0⟩, _), fun cls d σ' H' hw hl => ?_, env, w, rfl, ok, Tr.refl w, er, A, h, k1, k2, k3, k4⟩
    obtain ⟨c, w1, rfl, rfl, ok1, t1, hc, hgo⟩ := hw
    refine ⟨hT c hc, fun a na => ?_⟩
    obtain ⟨ok2, t2⟩ := ok1.mine (p := a) (m := .exc a c d) (o := .ext (ExcAt a (.ref (He.ga X.K c)) d)) (.inl na) trivial rfl
    have T := t1.trans t2
    have hl' : (List.replicate env.length (none : Option L3.D)).length = σ'.length := by rw [List.length_replicate, er.1, hl]; exact hσ
    refine ⟨w, (List.replicate env.length none).set i (some (.ref a)), w1.mine a (.exc a c d) (.ext (ExcAt a (.ref (He.ga X.K c)) d)), rfl, ok2, T, ?_, _, hgo a (ok1.noown na), fun env' w' σ3 h3 t3 ok3 er3 => k1 _ w' _ h3 (T.trans t3) ok3 (er3.unset i none), fun d w' v h3 t3 => k2 d w' v h3 (T.trans t3), fun env' w' σ3 h3 t3 ok3 er3 => k3 _ w' _ h3 (T.trans t3) ok3 (er3.unset i none), fun env' w' σ3 h3 t3 ok3 er3 => k4 _ w' _ h3 (T.trans t3) ok3 (er3.unset i none)⟩
    refine EnvR.set ⟨hl', fun j d q => ?_⟩ i (d := .ref a) (by unfold Dt; rfl)
    have q' := eg_eq q
    have := List.mem_of_getElem? q'
    rw [List.mem_replicate] at this
    cases this.2
end
end L3

namespace L3
open PySem PySem.Spec PyProof.Rows L2
/-! ### isinstance of what was caught -/
/-- what the class says, so that its instances are asked rightly -/
def excCB (K : PySem.W.Frag) (c : Str) : Bool :=
  (PySem.W.clsIn K (He.ga K c)).isSome && (decide (PySem.W.findIn K (.ref (He.ga K c)) "__getattribute__" = some (some (.builtin "BaseException.__getattribute__"))) && (decide (PySem.W.findIn K (.ref (He.ga K c)) "__getattr__" = some none) &&
  (decide (PySem.W.subIn K (.ref (He.ga K c)) (.type "BaseException") = some true) && (decide (PySem.W.findIn K (.ref (He.ga K c)) "__class__" = some (some (.builtin "object.__class__"))) && (decide (PySem.W.specialIn K (.builtin "object.__class__") "__get__" = some (some (.builtin "getset_descriptor.__get__"))) &&
  (decide (PySem.W.takesIn K (.builtin "object.__class__") = some true) && decide (PySem.W.mroIn K (He.ga K c) (.type "object") = some true)))))))
theorem kitX_of {K : PySem.W.Frag} {c : Str} (h : excCB K c = true) (x : Addr) (ox : Obj) (od : Option Obj) : PySem.W.KitX K (.ref x) (.ref (He.ga K c)) (fun h => PySem.W.InstAt h x ox (He.ga K c) od) := by
  unfold excCB at h
  obtain ⟨h1, h⟩ := He.ba h
  obtain ⟨h2, h⟩ := He.ba h
  obtain ⟨h3, h⟩ := He.ba h
  obtain ⟨h4, h⟩ := He.ba h
  obtain ⟨h5, h⟩ := He.ba h
  obtain ⟨h6, h⟩ := He.ba h
  obtain ⟨h7, h8⟩ := He.ba h
  exact PySem.W.kitx_exc h1 (of_decide_eq_true h2) (of_decide_eq_true h3) (of_decide_eq_true h4) (of_decide_eq_true h5) (of_decide_eq_true h6) (of_decide_eq_true h7) (of_decide_eq_true h8)
def clsV (K : PySem.W.Frag) (b : Option String) (x : Str) : Value := match b with
  | some n => .type n
  | none => .ref (He.ga K x)
/-- the class c is that of x, or below it -/
def kitQ (K : PySem.W.Frag) (c x : Str) (n : Option String) (b : Bool) : Bool := decide (PySem.W.kitOne K (.ref (He.ga K c)) (clsV K n x) = some b)
def isDict (o : Own) : Option Addr → Prop
  | none => True
  | some dx => ∃ fs, o dx = some (.xd fs)
def aIsE (cs : List Str) (f : Str → Bool) (t : ATE) : ATE := fun env own P => t env own fun d o => match d with
  | .non => P (.bl false) o
  | .ref a => ∃ c dx, o a = some (.exc a c dx) ∧ isDict o dx ∧ c ∈ cs ∧ P (.bl (f c)) o
  | _ => False
section
variable {X : Cx} {w0 : Wd} {cs : List Str} {f : Str → Bool} {e : Expr} {te : ATE} {x : Str} {p px pos : Pos} {C : V} {cv : Value}
def rIsX (K : PySem.W.Frag) (cs : List Str) (f : Str → Bool) (C : V) : List V → Hp → VK → Prop := fun xs H Q => (xs = [.non, C] ∧ Q (.bl false) H) ∨
  ∃ (a : Addr) (c : Str) (d : Option Addr), xs = [.ref a, C] ∧ c ∈ cs ∧ H a = some (.ext (ExcAt a (.ref (He.ga K c)) d)) ∧ (d = none ∨ ∃ dx u, d = some dx ∧ H dx = some u) ∧ Q (.bl (f c)) H
theorem call_isX (hcv : ∀ u, RelV C u → u = cv) (hE : ∀ c ∈ cs, excCB X.K c = true) (hk : ∀ c ∈ cs, PySem.W.kitOne X.K (.ref (He.ga X.K c)) cv = some (f c)) (hn : PySem.W.kitOne X.K (.type "NoneType") cv = some false) : CallR X (.builtin "isinstance") (rIsX X.K cs f C) := by
  intro pins s σ H xs us Q I r h
  rcases h with ⟨rfl, q⟩ | ⟨a, c, d, rfl, hc, ha, hd, q⟩
  · obtain ⟨u1, u2, rfl, r1, r2⟩ := vals2 r
    have := hcv _ r2
    subst this
    cases r1
    exact PySem.W.kia_one (PySem.W.kitx_none (K := X.K)) I.kIn trivial hn (fun z => nomatch z) fun tk => ⟨.bl false, H, I.tok tk, rfl, q⟩
  · obtain ⟨u1, u2, rfl, r1, r2⟩ := vals2 r
    have := hcv _ r2
    subst this
    cases r1
    obtain ⟨⟨oe, vs, ho, hz, hv⟩, _, _⟩ := (show ObjOk X.prog X.w H s.heap a (.ext (ExcAt a (.ref (He.ga X.K c)) d)) from I.hok a _ ha)
    have nc : PySem.W.notCls oe = true := by
      obtain ⟨_, _, dt, _⟩ := oe
      dsimp only at hv
      subst hv
      rfl
    obtain ⟨od, J⟩ : ∃ od : Option Obj, PySem.W.InstAt s.heap a oe (He.ga X.K c) od := by
      obtain ⟨oc, odd, odt, osl⟩ := oe
      obtain ⟨z1, z2⟩ := hz
      dsimp only at z1 z2
      subst z1 z2
      rcases hd with rfl | ⟨dx, u, rfl, hu⟩
      · exact ⟨none, ho, rfl, nc, trivial⟩
      · obtain ⟨o, eo⟩ := objOk_get (I.hok dx u hu)
        exact ⟨some o, ho, rfl, nc, eo⟩
    exact PySem.W.kia_one (kitX_of (hE c hc) a oe od) I.kIn J (hk c hc) (fun z => nomatch z) fun tk => ⟨.bl (f c), H, I.tok tk, rfl, q⟩
theorem ae_isE (hC : PE X (.Name x px) (tC C)) (hcv : ∀ u, RelV C u → u = cv) (hE : ∀ c ∈ cs, excCB X.K c = true) (hk : ∀ c ∈ cs, PySem.W.kitOne X.K (.ref (He.ga X.K c)) cv = some (f c)) (hn : PySem.W.kitOne X.K (.type "NoneType") cv = some false)
    (hg : Gl X "isinstance") (hm : X.mg "isinstance" = none) (ha : AE X w0 e te) (he : starEach [e, .Name x px] X.env = (false, eval e X.env) :: starEach [.Name x px] X.env := by rfl) (hpl : (backTo pos (starEach [.Name x px] X.env)).any (·.1) = false := by rfl) :
    AE X w0 (.Call (.Name "isinstance" p) [e, .Name x px] [] pos) (aIsE cs f te) := pe_of (pe_callB (call_isX hcv hE hk hn) hg hm rfl (pa_cons ha (pa_cons hC pa_nil) he) (by decide) (by decide) he hpl) fun σ H Q h => by
  obtain ⟨env, w, rfl, ok, tr0, er, P, h, k⟩ := h
  refine ⟨env, w, rfl, ok, tr0, er, _, h, fun d w1 v h1 t1 ok1 dv => ?_⟩
  cases d with
  | non => unfold Dt at dv; subst dv; exact .inl ⟨rfl, k _ w1 _ h1 t1 ok1 (by unfold Dt; rfl)⟩
  | ref a =>
    unfold Dt at dv; subst dv
    obtain ⟨c, dx, e1, e2, hc, h2⟩ := h1
    obtain ⟨_, o, e3, e4⟩ := ok1.own a _ e1
    cases o <;> first | exact (e4 : False).elim | skip
    obtain rfl := e4
    refine .inr ⟨a, c, dx, rfl, hc, e3, ?_, k _ w1 _ h2 t1 ok1 (by unfold Dt; rfl)⟩
    cases dx with
    | none => exact .inl rfl
    | some d =>
      obtain ⟨fs, e5⟩ := e2
      obtain ⟨_, u, e6, _⟩ := ok1.own d _ e5
      exact .inr ⟨d, u, rfl, e6⟩
  | _ => exact (h1 : False).elim
/-- .. a class of the program, a built-in one -/
theorem ae_isC (hE : ∀ c ∈ cs, excCB X.K c = true) (hk : ∀ c ∈ cs, kitQ X.K c x none (f c) = true) (hn : decide (PySem.W.kitOne X.K (.type "NoneType") (.ref (He.ga X.K x)) = some false) = true) (hgx : X.mg x = some (.ref (He.ga X.K x))) (hx : Gl X x)
    (hg : Gl X "isinstance") (hm : X.mg "isinstance" = none) (ha : AE X w0 e te) (hd : (x == ("__debug__" : Str)) = false := by decide) (he : starEach [e, .Name x px] X.env = (false, eval e X.env) :: starEach [.Name x px] X.env := by rfl) (hpl : (backTo pos (starEach [.Name x px] X.env)).any (·.1) = false := by rfl) :
    AE X w0 (.Call (.Name "isinstance" p) [e, .Name x px] [] pos) (aIsE cs f te) :=
  ae_isE (C := .ref (He.ga X.K x)) (cv := .ref (He.ga X.K x)) (pe_glob hx hgx rfl hd) (fun _ r => r) hE (fun c hc => of_decide_eq_true (hk c hc)) (of_decide_eq_true hn) hg hm ha he hpl
theorem ae_isB (n : String) (hE : ∀ c ∈ cs, excCB X.K c = true) (hk : ∀ c ∈ cs, kitQ X.K c x (some n) (f c) = true) (hn : decide (PySem.W.kitOne X.K (.type "NoneType") (.type n) = some false) = true) (hgx : X.mg x = none) (hv : bootBuiltins x = some (.type n)) (hx : Gl X x)
    (hg : Gl X "isinstance") (hm : X.mg "isinstance" = none) (ha : AE X w0 e te) (hnm : x ≠ "__name__" := by decide) (hd : (x == ("__debug__" : Str)) = false := by decide) (he : starEach [e, .Name x px] X.env = (false, eval e X.env) :: starEach [.Name x px] X.env := by rfl) (hpl : (backTo pos (starEach [.Name x px] X.env)).any (·.1) = false := by rfl) :
    AE X w0 (.Call (.Name "isinstance" p) [e, .Name x px] [] pos) (aIsE cs f te) :=
  ae_isE (C := .ty n) (cv := .type n) (pe_bltn (v := .ty n) hx hgx hv rfl hnm hd) (fun _ r => r) hE (fun c hc => of_decide_eq_true (hk c hc)) (of_decide_eq_true hn) hg hm ha he hpl
end
/-! ### a list of truths: how many, where the first is -/
def blL : List D → Option (List Bool)
  | [] => some []
  | .bl b :: r => (blL r).map (b :: ·)
  | _ :: _ => none
theorem blL_dts {K : PySem.W.Frag} {G : Hp} : ∀ {ds : List D} {bs : List Bool} {vs : List V}, blL ds = some bs → Dts K G ds vs → vs = bs.map V.bl
  | [], bs, vs, h, r => by
    unfold blL at h; cases h
    unfold Dts at r; exact r
  | d :: ds, bs, vs, h, r => by
    cases d <;> unfold blL at h <;> first | (cases h; done) | skip
    obtain ⟨cs, h1, rfl⟩ := Option.map_eq_some_iff.mp h
    unfold Dts at r
    obtain ⟨v, vr, rfl, r1, r2⟩ := r
    unfold Dt at r1
    subst r1
    rw [blL_dts h1 r2]; rfl
section
variable {X : Cx} {w0 : Wd} {o e : Expr} {to te : ATE} {pos apos : Pos}
def rCntB (K : PySem.W.Frag) : V → List V → Hp → VK → Prop := fun x xs H Q => ∃ (p : Addr) (bs : List Bool) (b : Bool), x = .ref p ∧ xs = [.bl b] ∧ SqL K H p (bs.map V.bl) ∧ Q (.int (bs.countP (· == b) : Nat)) H
theorem flat_bls (bs : List Bool) : (bs.map V.bl).all flatV = true := by
  rw [List.all_eq_true]
  intro x hx
  obtain ⟨b, _, rfl⟩ := List.mem_map.mp hx
  rfl
theorem mt_cntB : MtR X "list.count" (rCntB X.K) := by
  intro pins s σ H x xs v us Q I rx rxs h
  obtain ⟨p, bs, b, rfl, rfl, hs, q⟩ := h
  cases rx
  obtain ⟨u, rfl, ru⟩ := rxs.one
  obtain ⟨its, rv, ⟨⟨cls, dd, data, sl⟩, n, ho, hc, hdn, hd⟩, hlen⟩ := I.list hs
  simp only at hc hd
  subst hc hd
  have ec : ∀ {cs : List Bool} {us : List Value}, Vals (cs.map V.bl) us → us.countP (eqU (V.bl b)) = cs.countP (· == b) := by
    intro cs
    induction cs with
    | nil => intro us r; cases r; rfl
    | cons c cs ih =>
      intro us r
      cases r with
      | cons r1 r2 =>
        rw [List.countP_cons, List.countP_cons, ih r2, eqU_of r1 rfl]
        rfl
  refine call_meets PySem.F.slot_list_count ⟨_, ho, rfl⟩ PySem.F.entry_list_count (PySem.F.args_list_count_2 _ _)
    (SeqAt.list_countAt p its.toArray n dd sl u (eqU (V.bl b))) ⟨ho, fun y hy => mem_eqAt ru rfl rv (flat_bls bs) y (by simpa using hy), ?_⟩
  refine ⟨.int (bs.countP (· == b) : Nat), H, I.tok _, ⟨s.toks, ?_⟩, q⟩
  show Value.int ((its.countP (eqU (V.bl b)) : Nat) : Int) s.toks = _
  rw [ec rv]
/-- xs.count(b), xs.index(b), xs a list that stands still -/
def aCntB (to te : ATE) : ATE := fun env own P => to env own fun d o1 => match d with
  | .lst ds => te env o1 fun z o2 => match z with
    | .bl b => oP (blL ds) fun bs => P (.int (bs.countP (· == b) : Nat)) o2
    | _ => False
  | _ => False
def aIdxB (to te : ATE) : ATE := fun env own P => to env own fun d o1 => match d with
  | .lst ds => te env o1 fun z o2 => match z with
    | .bl b => oP (blL ds) fun bs => ∃ j, bs[j]? = some b ∧ (∀ m, m < j → bs[m]? ≠ some b) ∧ P (.int (j : Nat)) o2
    | _ => False
  | _ => False
theorem dt_lstR {K : PySem.W.Frag} {w : Wd} (ok : w.Ok K) {ds : List D} {v : V} (h : Dt K w.G (.lst ds) v) : ∃ a vs, v = .ref a ∧ Rd w.G a (.lst vs) ∧ Rd w.H a (.lst vs) ∧ Dts K w.G ds vs := by
  unfold Dt at h
  obtain ⟨a, vs, e1, e2, e3⟩ := h
  exact ⟨a, vs, e1, e2, ok.sub.rd e2, e3⟩
theorem ae_cntB (ho : AE X w0 o to) (he : AE X w0 e te) (hbase : attributeBase o "count" X.env (eval o X.env) = eval o X.env := by rfl)
    (hfew : ((backTo pos (starEach (e :: []) X.env)).all (fun x => !x.1) && (backToKw pos (keywordEach [] X.env)).all (fun x => x.1.isSome)
      && decide ((e :: []).length + ([] : List Keyword).length + (if ([] : List Keyword).isEmpty then 0 else 1) < 30)) = true := by rfl)
    (hline : (apos.endLine == pos.line) = true := by rfl) (hs : starEach (e :: []) X.env = (false, eval e X.env) :: starEach [] X.env := by rfl) (hplain : (backTo pos (starEach [] X.env)).any (·.1) = false := by rfl) :
    AE X w0 (.Call (.Attribute o "count" apos) [e] [] pos) (aCntB to te) := pe_of (pe_bm PySem.F.plainAttrs_list PySem.F.slot_list_count PySem.F.type_list_count mt_cntB ho (pa_cons he pa_nil hs) hbase hfew hline hs hplain) fun σ H Q h => by
  obtain ⟨env, w, rfl, ok, tr0, er, P, h, k⟩ := h
  refine ⟨env, w, rfl, ok, tr0, er, _, h, fun d w1 v h1 t1 ok1 dv => ?_⟩
  cases d with
  | lst ds =>
    obtain ⟨a, vs, rfl, e1, e2, e3⟩ := dt_lstR ok1 dv
    refine ⟨.inl ⟨rfl, vs, .inl e2⟩, env, w1, rfl, ok1, tr0.trans t1, er.mono t1.gs, _, h1, fun z w2 u h2 t2 ok2 dz => ?_⟩
    cases z with
    | bl b =>
      unfold Dt at dz; subst dz
      obtain ⟨bs, e4, h3⟩ := oP_some h2
      obtain rfl := blL_dts e4 e3
      exact ⟨a, bs, b, rfl, rfl, .inl (ok2.sub.rd (t2.gs.rd e1)), k _ w2 _ h3 (t1.trans t2) ok2 (by unfold Dt; rfl)⟩
    | _ => exact (h2 : False).elim
  | _ => exact (h1 : False).elim
theorem ae_idxB (ho : AE X w0 o to) (he : AE X w0 e te) (hbase : attributeBase o "index" X.env (eval o X.env) = eval o X.env := by rfl)
    (hfew : ((backTo pos (starEach (e :: []) X.env)).all (fun x => !x.1) && (backToKw pos (keywordEach [] X.env)).all (fun x => x.1.isSome)
      && decide ((e :: []).length + ([] : List Keyword).length + (if ([] : List Keyword).isEmpty then 0 else 1) < 30)) = true := by rfl)
    (hline : (apos.endLine == pos.line) = true := by rfl) (hs : starEach (e :: []) X.env = (false, eval e X.env) :: starEach [] X.env := by rfl) (hplain : (backTo pos (starEach [] X.env)).any (·.1) = false := by rfl) :
    AE X w0 (.Call (.Attribute o "index" apos) [e] [] pos) (aIdxB to te) := pe_of (pe_bm PySem.F.plainAttrs_list PySem.F.slot_list_index PySem.F.type_list_index mt_index ho (pa_cons he pa_nil hs) hbase hfew hline hs hplain) fun σ H Q h => by
  obtain ⟨env, w, rfl, ok, tr0, er, P, h, k⟩ := h
  refine ⟨env, w, rfl, ok, tr0, er, _, h, fun d w1 v h1 t1 ok1 dv => ?_⟩
  cases d with
  | lst ds =>
    obtain ⟨a, vs, rfl, e1, e2, e3⟩ := dt_lstR ok1 dv
    refine ⟨.inl ⟨rfl, vs, .inl e2⟩, env, w1, rfl, ok1, tr0.trans t1, er.mono t1.gs, _, h1, fun z w2 u h2 t2 ok2 dz => ?_⟩
    cases z with
    | bl b =>
      unfold Dt at dz; subst dz
      obtain ⟨bs, e4, j, h3, h4, h5⟩ := oP_some h2
      obtain rfl := blL_dts e4 e3
      refine ⟨a, _, .bl b, j, .bl b, rfl, rfl, .inl (ok2.sub.rd (t2.gs.rd e1)), rfl, flat_bls bs, by rw [List.getElem?_map, h3]; rfl, (by show (b == b) = true; exact beq_self_eq_true b), fun m z' hm hz => ?_, k _ w2 _ h5 (t1.trans t2) ok2 (by unfold Dt; rfl)⟩
      rw [List.getElem?_map] at hz
      obtain ⟨c, hc, rfl⟩ := Option.map_eq_some_iff.mp hz
      have := h4 m hm
      rw [hc] at this
      show (c == b) = false
      exact beq_eq_false_iff_ne.mpr fun e => this (by rw [e])
    | _ => exact (h2 : False).elim
  | _ => exact (h1 : False).elim

end
section
variable {X : Cx} {w0 : Wd} {a b : Expr} {ta tb : ATE} {pos : Pos} {tab : Str → Option D} {d : Addr}
theorem ae_inTab (T : KTab X.K X.w d tab) (ha : AE X w0 a ta) (hb : AE X w0 b tb) (hm : behindInMarks .In b = false := by rfl) : AE X w0 (.Compare a [.In] [b] pos) (aBin (fInTab tab d false) ta tb) := ae_cmp (op_inTab T) (os_inTab false) ha hb hm
/-- try: body / except ..: where the body raises nothing -/
theorem as_tryThru {body : List Stmt} {h₀ : ExceptHandler} {hs : List ExceptHandler} {t : ATS} (hb : ASs X.nox w0 body t) : AS X w0 (.Try body (h₀ :: hs) [] [] pos) t := ps_try_thru0 hb
end
end L3

namespace L3
open PySem PySem.Spec PyProof.Rows L2
/-! ### a lambda without parameters, handed to a def -/
open LamX (LamS lamEnv lamCx TabB CodeO)
section
variable {X : Cx} {pins : List (Addr × Obj)} {σ : L2.St} {s : Shared} {w : Wd}
/-- the lambda is made; the maker's table is one's own -/
theorem lam_makeL {c P : Addr} {q : Str} {params : Arguments} {body : Expr} {scope : Scope} {pos : Pos} {E : Value → Shared → Prop} {Q : Value → Shared → Prop} (I : Inv X pins σ w.H s) (ok : w.Ok X.K) (TB : TabB X.base X.mg c P) (hcode : X.env.code = .ref c)
    (hq : q = X.env.qual ++ "<lambda>") (hT : w.own P = some (.tbl q)) (hdef : defaultsOf params X.env = ([], [])) (hfree : ∀ y ∈ scope.names, y.2 = .free → ∃ c, X.env.cells.lookup y.1 = some c)
    (h : ∀ (f c' : Addr) (pm ctv : Value) (w1 : Wd) (s' : Shared), Inv X pins σ w1.H s' → w1.own = w.own → Tr w w1 → w1.Ok X.K →
      s'.heap.get? f = some (PySem.W.kla_obj "<lambda>" (X.env.qual ++ "<lambda>") params body scope (cloFrom X.env.cells scope.names []) pm c' ctv) → w1.H f = none → f ∉ frs X.stack → w1.G c' = some (CodeO c' q) → Q (.ref f) s') :
    wpAny (model X.prog X.w) X.A (eval (.Lambda params body scope pos) X.env) Q E s := by
  subst hq
  obtain ⟨hg0, o, hP, hM⟩ := ok.own P _ hT
  cases o <;> first | exact (hM : False).elim | skip
  rename_i ps
  obtain ⟨tri, codes⟩ := hM
  have hPs : s.heap.get? P = some { cls := .none, data := .fields ps } := I.hok P _ hP
  have far : ∀ g, s.heap.objs.size ≤ g → g ∉ frs X.stack := fun g hg z => by
    rcases List.mem_cons.mp (I.stkSub _ z) with e | e
    · have := I.lt
      rw [← e] at this
      exact absurd (Nat.lt_of_lt_of_le this hg) (Nat.lt_irrefl _)
    · exact I.nofs hg e
  refine PySem.W.kla_eval hdef ?_
  cases hc : codeAmong pos ps.toList with
  | some cv =>
    obtain ⟨c', rfl, hG⟩ := codes pos cv hc
    refine PySem.W.kla_makeFunctionHit (mg := X.mg) (c := c) (P := P) (ps := ps) (closure_ok hfree) I.ok.glob (I.mod.glob.keeps I.bk) hcode (TB.code.keeps I.bk) hPs tri hc (TB.bm.keeps I.bk) fun ctv h' tk hx hsz => ?_
    exact h h'.objs.size c' ((X.mg "__name__").getD .none) ctv w _ (I.kept (t' := tk) fun b o e => Heap.get?_push_of_some _ (hx b o e)) rfl (Tr.refl w) ok (Heap.get?_push_size _ rfl) (I.hok.fresh hsz) (far _ hsz) hG
  | none =>
    refine PySem.W.kla_makeFunction (mg := X.mg) (c := c) (P := P) (ps := ps) (closure_ok hfree) I.ok.glob (I.mod.glob.keeps I.bk) hcode (TB.code.keeps I.bk) hPs tri hc TB.gP (TB.bm.keeps I.bk) fun c' ctv h' tk hx hge hlt hrec htb => ?_
    obtain ⟨c2, oc, vs, t, e2, hoc, hd, hv⟩ := hrec
    cases e2
    have hsz : s.heap.objs.size ≤ h'.objs.size := Nat.le_trans hge (Nat.le_of_lt hlt)
    have nC : w.H c' = none := I.hok.fresh hge
    have nP : P ≠ c' := L2.ne_of_none hP nC
    have I1 := LamX.inv_table (q := X.env.qual ++ "<lambda>") (t' := tk) (more := #[rawInt pos.line, rawInt pos.col, .ref c']) (h' := h'.push (PySem.W.kla_obj "<lambda>" (X.env.qual ++ "<lambda>") params body scope (cloFrom X.env.cells scope.names []) ((X.mg "__name__").getD .none) c' ctv)) I hP
      (fun b o hb e => Heap.get?_push_of_some _ (hx b o hb e)) (Heap.get?_push_of_some _ htb) hge ⟨oc, vs, t, Heap.get?_push_of_some _ hoc, hd, hv⟩
    obtain ⟨ok1, t1⟩ := ok.frz (p := c') (o := CodeO c' (X.env.qual ++ "<lambda>")) nC trivial
    have eL : (ps ++ #[rawInt pos.line, rawInt pos.col, .ref c']).toList = ps.toList ++ [rawInt pos.line, rawInt pos.col, .ref c'] := by simp
    have r : MoR X.K (w.frz c' (CodeO c' (X.env.qual ++ "<lambda>"))).G (.tbl (X.env.qual ++ "<lambda>")) (.tbl (ps ++ #[rawInt pos.line, rawInt pos.col, .ref c'])) := by
      refine ⟨by rw [eL]; exact PySem.TriplesOk_snoc _ _ _ _ tri, fun p' cv hcv => ?_⟩
      rw [eL] at hcv
      rcases LamX.among_app _ tri hcv with z | z
      · obtain ⟨c0, e1, e2⟩ := codes p' cv z
        exact ⟨c0, e1, t1.gs _ _ e2⟩
      · exact ⟨c', z, upd_same⟩
    obtain ⟨ok2, t2⟩ := ok1.mine (p := P) (m := .tbl (X.env.qual ++ "<lambda>")) (o := .tbl (ps ++ #[rawInt pos.line, rawInt pos.col, .ref c'])) (.inr ⟨_, hT⟩) trivial r
    have eH : ((w.frz c' (CodeO c' (X.env.qual ++ "<lambda>"))).mine P (.tbl (X.env.qual ++ "<lambda>")) (.tbl (ps ++ #[rawInt pos.line, rawInt pos.col, .ref c']))).H = upd (upd w.H P (.tbl (ps ++ #[rawInt pos.line, rawInt pos.col, .ref c']))) c' (CodeO c' (X.env.qual ++ "<lambda>")) := by
      funext b
      show upd (upd w.H c' _) P _ b = _
      by_cases h1 : b = P
      · subst h1
        rw [upd_same, upd_ne nP, upd_same]
      · rw [upd_ne h1]
        by_cases h2 : b = c'
        · subst h2; rw [upd_same, upd_same]
        · rw [upd_ne h2, upd_ne h2, upd_ne h1]
    have eO : ((w.frz c' (CodeO c' (X.env.qual ++ "<lambda>"))).mine P (.tbl (X.env.qual ++ "<lambda>")) (.tbl (ps ++ #[rawInt pos.line, rawInt pos.col, .ref c']))).own = w.own := by
      funext b
      show oset w.own P _ b = w.own b
      by_cases h1 : b = P
      · subst h1; rw [oset_same, hT]
      · rw [oset_ne h1]
    refine h h'.objs.size c' ((X.mg "__name__").getD .none) ctv _ _ (by rw [eH]; exact I1) eO (t1.trans t2) ok2 (Heap.get?_push_size _ rfl) ?_ (far _ hsz) (show upd w.G c' _ c' = _ from upd_same)
    rw [eH, upd_ne (Nat.ne_of_gt hlt), upd_ne (Nat.ne_of_gt (Nat.lt_of_lt_of_le (Heap.lt_size hPs) hsz))]
    exact I.hok.fresh hsz
/-- a() in the def that got the lambda, entered at s -/
theorem pe_actG {CXg : CXT} {Eg : XK} {Ng : List Str} {qg : Str} {sg : Scope} {g f c' : Addr} {cdg pm ctv : Value} {params : Arguments} {body : Expr} {scope : Scope} {k i : Nat} {a : Str} {pn : List (Addr × Obj)} {xe : Value → Shared → Prop} {E : XK} {tb : TE} {p1 p2 : Pos} {H : Hp}
    (I : Inv X pins σ H s) (L : LamS X.env.scope scope) (hf : s.heap.get? f = some (PySem.W.kla_obj "<lambda>" (X.env.qual ++ "<lambda>") params body scope (cloFrom X.env.cells scope.names []) pm c' ctv)) (hfn : H f = none) (hfr : f ∉ frs X.stack)
    (hbind : bindArgs (PySem.W.kla_fn "<lambda>" (X.env.qual ++ "<lambda>") params body scope (cloFrom X.env.cells scope.names []) pm (.ref c') ctv) ⟨[], []⟩ = pure [])
    (hx : Passes (L2.CX X.prog X.w) ((cxOf CXg X.prog X.w X.K X.mg X.base Ng qg sg g cdg X.A X.stack s H Eg).tr pn xe) E) (hr : Room (k + 1) (X.A.deeper (envOfC qg sg s.heap.objs.size g cdg))) (hgd : X.A.guards = some [])
    (hbody : ∀ (A : Around) (outer : List PySem.Env) (s : Shared) (H : Hp), Room k (A.deeper (lamEnv X scope s.heap.objs.size f c')) → A.guards = some [] → PE (lamCx X A outer s H E scope f c') body tb)
    (hN : Ng[i]? = some a) (hv : Vis sg a) (hd : (a == ("__debug__" : Str)) = false := by decide) (hcd : (a == ("__classdict__" : Str)) = false := by decide) :
    PE ((cxOf CXg X.prog X.w X.K X.mg X.base Ng qg sg g cdg X.A X.stack s H Eg).tr pn xe) (.Call (.Name a p1) [] [] p2)
      (fun σZ HZ Q => σZ[i]? = some (some (.ref f)) ∧ HZ c' = some (CodeO c' (X.env.qual ++ "<lambda>")) ∧ tb σ HZ Q) := by
  refine ⟨fun pinsZ sZ σZ HZ Q IZ h => ?_⟩
  obtain ⟨hs, hc, ht⟩ := h
  refine wpAny_Call_Name_kw (thn ((pe_var (pos := p1) (i := i) hN hv hd hcd).run pinsZ sZ σZ HZ (fun v H1 => v = .ref f ∧ H1 = HZ) IZ ⟨.ref f, hs, rfl, rfl⟩) fun u s1 hu => ?_)
  obtain ⟨v, H1, I1, r1, rfl, rfl⟩ := hu
  obtain rfl : u = Value.ref f := r1
  have atf : s1.heap.get? f = some (PySem.W.kla_obj "<lambda>" (X.env.qual ++ "<lambda>") params body scope (cloFrom X.env.cells scope.names []) pm c' ctv) := I1.base.keep f _ hf hfn hfr (fun z => absurd (show f ∈ ([] : List Addr) from z) (by simp))
  obtain ⟨⟨oc, vs, t, hoc, hdc, hvc⟩, _, _⟩ := I1.hok c' _ hc
  refine PySem.W.callWith_F0 ⟨_, _, _, _, atf⟩ (wpAny_call (codeAny_mono (?_ : codeAny (model X.prog X.w) (X.A.deeper (envOfC qg sg s.heap.objs.size g cdg)) (.call (.ref f) ⟨[], []⟩) (CR (L2.CX X.prog X.w) (envOfC qg sg s.heap.objs.size g cdg :: X.stack) X.prog X.w H1 s1 Q E) s1) fun r s' hq => ?_))
  · refine PySem.W.kla_callFunE hr.depth atf rfl L.co L.gen rfl ⟨c', oc, vs, t, rfl, hoc, hdc, hvc⟩ ?_
    rw [hbind]
    refine wpAny_pure (wpAny_newFunctionEnv (fun y hy => (L.own y hy).2) (fun y hy => absurd hy (by simp)) (fun h₁ hns hsb => ⟨I1.nolimit.fresh _ hsb, ?_⟩) L.kind)
    have kp : ∀ b o, s1.heap.get? b = some o → h₁.get? b = some o := fun b o e => hsb.extBut b o (Nat.ne_of_lt (Heap.lt_size e)) (Heap.get?_push_of_some _ e)
    have J := LamX.lam_start2 (A := X.A.deeper (envOfC qg sg s.heap.objs.size g cdg)) (outer := envOfC qg sg s.heap.objs.size g cdg :: X.stack) (E := E) (scope := scope) (f := f) (c' := c') (tk := s1.toks + ([] : List (Str × Value)).length) I L I1.env0 hr.hd I1.base hns kp
    refine PySem.W.kla_codeExpr (wpAny_mono ((hbody _ _ s1 H1 (hr.deeper _) hgd).run [] _ _ H1 Q J ht) (fun v s' hq => ?_) fun e s' hq => hq)
    obtain ⟨w', H', J', rv, q⟩ := hq
    exact ⟨w', H', J'.os, J'.bare, J'.base, J'.hok, rv, q⟩
  · match r, hq with
    | .error e, hq => exact hx pinsZ σZ H1 s1 e s' I1 hq
    | .ok (.ret u), hq => exact I1.after hq
end
end L3

namespace L3
open PySem PySem.Spec PyProof.Rows L2
open LamX (LamS lamEnv lamCx TabB CodeO)
/-- what the lambda's call does, by what may come out of it -/
abbrev LamR := XP → Own → (D → Own → Prop) → Prop
abbrev SpecL := LamR → Own → (D → Own → Prop) → Prop
/-- a(), a the slot i's name -/
def aAsk (f : Addr) (i : Nat) (r : Own → (D → Own → Prop) → Prop) : ATE := fun env own P => eg env i = some (.ref f) ∧ r own P
/-- x(lambda: e) -/
def aHeard (aT : Addr) (q : Str) (S : SpecL) (tl : XP → ATE) : ATE := fun env own P => own aT = some (.tbl q) ∧ S (fun EX o Q => tl EX env o Q) own P
abbrev hCx (X : Cx) (Ng : List Str) (x : Str) (sg : Scope) (g : Addr) (cdv : Value) (s : Shared) (H : Hp) : Cx := cxOf CX0 X.prog X.w X.K X.mg X.base Ng x sg g cdv X.A X.stack s H E0
/-- how the def that gets the lambda reads -/
def Gets (X : Cx) (k : Nat) (Ng : List Str) (x a : Str) (stg : Stmt) (S : SpecL) : Prop :=
  ∀ (g f : Addr) (cdv : Value) (s : Shared) (w1 : Wd) (tl : LamR) (Q : D → Own → Prop), S tl w1.own Q → Room (k + 1) (X.A.deeper (envOfC x (defScope stg) s.heap.objs.size g cdv)) → X.A.guards = some [] →
    (∀ (pn : List (Addr × Obj)) (xe : Value → Shared → Prop) (EX : XP) (w2 : Wd) (p1 p2 : Pos), Tr w1 w2 → TkX ((hCx X Ng x (defScope stg) g cdv s w1.H).tr pn xe) w2 EX → AE ((hCx X Ng x (defScope stg) g cdv s w1.H).tr pn xe) w2 (.Call (.Name a p1) [] [] p2) (aAsk f 0 (tl EX))) →
    ∃ t, ASs (hCx X Ng x (defScope stg) g cdv s w1.H).nox w1 (defBody stg) t ∧ t { nx := fun _ o => Rt Q .non o, rt := Rt Q } (astart Ng [.ref f]) w1.own
section
variable {X : Cx} {w0 : Wd}
theorem ae_heard {x a : Str} {stg : Stmt} {Ng : List Str} {S : SpecL} {k : Nat} {c aT : Addr} {q : Str} {params : Arguments} {body : Expr} {scope : Scope} {tl : XP → ATE} {p lpos pos : Pos}
    (F : Has X.K X.mg x stg) (Sg : FnScope Ng [a] (defScope stg)) (hb : Bd x stg [a]) (hG : Gets X k Ng x a stg S)
    (TB : TabB X.base X.mg c aT) (hcode : X.env.code = .ref c) (hq : q = X.env.qual ++ "<lambda>") (hr : Room (k + 2) X.A) (hgd : X.A.guards = some []) (L : LamS X.env.scope scope) (hg : Gl X x)
    (hbody : ∀ (A : Around) (outer : List PySem.Env) (s : Shared) (H : Hp) (E : XK) (f c' : Addr) (w1 : Wd) (EX : XP), Room k (A.deeper (lamEnv X scope s.heap.objs.size f c')) → A.guards = some [] → TkX (lamCx X A outer s H E scope f c') w1 EX → AE (lamCx X A outer s H E scope f c') w1 body (tl EX))
    (hNg : Ng[0]? = some a := by rfl) (hva : Vis (defScope stg) a := by first | exact Or.inl rfl | exact Or.inr (Or.inl rfl)) (hdef : defaultsOf params X.env = ([], []) := by rfl)
    (hbind : ∀ (q : Str) (cl : List (Str × Addr)) (pm cv ctv : Value), bindArgs (PySem.W.kla_fn "<lambda>" q params body scope cl pm cv ctv) ⟨[], []⟩ = pure [] := by intros; rfl)
    (hdb : (x == ("__debug__" : Str)) = false := by decide) (hd : (a == ("__debug__" : Str)) = false := by decide) (hcd : (a == ("__classdict__" : Str)) = false := by decide) :
    AE X w0 (.Call (.Name x p) [.Lambda params body scope lpos] [] pos) (aHeard aT q S tl) := by
  obtain ⟨g, fd, F, hm⟩ := F
  have hk : PySem.W.keepIn X.K (.ref g) = true := F.kp
  have hB : Binds X.K fd [a] [] := F.bindsN hb
  have FX := funX F
  obtain ⟨oc, od, dV, kV, doc, pm, an, cdv, ct, osl, rfl, lk, hcg⟩ := FX.ex
  refine ⟨fun pins s σ H Q I h => ?_⟩
  obtain ⟨env, w, rfl, ok, tr0, er, P, ⟨hT, hS⟩, kk⟩ := h
  refine wpAny_Call_Name_kw (ld_glob I hg hm ?_ hdb)
  refine PySem.W.callWith_K (h₀ := X.base) I.ok.mod.kin hk ?_ (by rfl) (by rfl)
  show wpAny _ _ (spliced ((false, eval (.Lambda params body scope lpos) X.env) :: backTo pos (starEach [] X.env))) _ _ s
  refine Calls.spliced_cons (lam_makeL I ok TB hcode hq hT hdef (L.has I.ok) fun f c' pm' ctv w1 s' I1 eo t1 ok1 hf hfn hfr hco => ?_)
  refine Calls.spliced_nil ⟨I1.kIn, ?_⟩
  have rc : codeAny (model X.prog X.w) X.A (.call (.ref g) ⟨[.ref f], []⟩) (CR CX0 X.stack X.prog X.w w1.H s' (fun v H' => ∃ d w', P d w'.own ∧ Tr w w' ∧ w'.Ok X.K ∧ Dt X.K w'.G d v ∧ w'.H = H') E0) s' := by
    refine LamX.run_ofS (N := Ng) (ps := [a]) (us := [.ref f]) (vs := [.ref f]) lk hcg Sg hr I1.env0 (hB s' [.ref f] I1.kIn rfl) (.cons rfl .nil) rfl fun hr' => ?_
    have hask : ∀ (pn : List (Addr × Obj)) (xe : Value → Shared → Prop) (EX : XP) (w2 : Wd) (p1 p2 : Pos), Tr w1 w2 → TkX ((hCx X Ng x (defScope stg) g cdv s' w1.H).tr pn xe) w2 EX → AE ((hCx X Ng x (defScope stg) g cdv s' w1.H).tr pn xe) w2 (.Call (.Name a p1) [] [] p2) (aAsk f 0 fun o Q => tl EX env o Q) := by
      intro pn xe EX w2 p1 p2 t12 tk
      have hp := pe_actG (CXg := CX0) (Eg := E0) (Ng := Ng) (qg := x) (sg := defScope stg) (g := g) (cdg := cdv) (i := 0) (pn := pn) (xe := xe) (E := wishE X.K w2 EX) (p1 := p1) (p2 := p2) (tb := fun σ H Q => ∃ w3, Tr w2 w3 ∧ concE X.K w3 (tl EX) σ H Q)
        I1 L hf hfn hfr (hbind _ _ _ _ _) (passesX tk) hr' hgd (fun A outer s H hr2 hg2 => ⟨fun pins s1 σ1 H1 Q1 J ⟨w3, t3, hc⟩ => (hbody A outer s H (wishE X.K w2 EX) f c' w3 EX hr2 hg2 ((takes_of rfl rfl rfl rfl).imp fun cls d _ H ⟨c, w4, a1, a2, a3, a4, a5⟩ => ⟨c, w4, a1, a2, a3, t3.trans a4, a5⟩)).run pins s1 σ1 H1 Q1 J hc⟩) hNg hva hd hcd
      refine pe_of hp fun σ2 H2 Q2 hc => ?_
      obtain ⟨env2, w3, rfl, ok3, t3, er3, P2, ⟨e1, h3⟩, k3⟩ := hc
      obtain ⟨v, e2, e3⟩ := er3.2 0 _ e1
      unfold Dt at e3; subst e3
      have hc' : w3.H c' = some (CodeO c' q) := ok3.sub _ _ ((t12.trans t3).gs _ _ hco)
      exact ⟨e2, by rw [hc', hq], w3, t3, env, w3, rfl, ok3, Tr.refl _, er.mono ((t1.trans (t12.trans t3)).gs), P2, h3, k3⟩
    obtain ⟨t, ht, hq2⟩ := hG g f cdv s' w1 (fun EX o Q => tl EX env o Q) P (by rw [eo]; exact hS) hr' hgd hask
    refine ⟨_, ht.nox, astart Ng [.ref f], w1, rfl, ok1, Tr.refl _, envR_start (.cons (by unfold Dt; rfl) .nil), _, hq2, fun env' w' σ' h1 t2 ok2 _ => ?_, fun d w' v h1 t2 ok2 dv1 => ?_, fun _ _ _ h => h.elim, fun _ _ _ h => h.elim⟩
    · obtain ⟨d', o', c, hp⟩ := h1
      obtain ⟨w3, a1, a2, a3, a4, a5⟩ := Cv.ok (v := .non) ok2 c (by unfold Dt; rfl)
      exact ⟨d', w3, by rw [a2]; exact hp, t1.trans (a5 _ t2), a3, a4, a1⟩
    · obtain ⟨d', o', c, hp⟩ := h1
      obtain ⟨w3, a1, a2, a3, a4, a5⟩ := Cv.ok ok2 c dv1
      exact ⟨d', w3, by rw [a2]; exact hp, t1.trans (a5 _ t2), a3, a4, a1⟩
  refine wpAny_call (codeAny_mono rc fun r s2 hq2 => ?_)
  match r, hq2 with
  | .error e, hq2 => exact (show False from hq2).elim
  | .ok (.ret u), hq2 =>
    refine I1.after ?_
    obtain ⟨v, H', os, bare, un, hok', rv, d, w', hp, t', ok', dv, rfl⟩ := hq2
    exact ⟨v, w'.H, os, bare, un, hok', rv, kk d w' v hp t' ok' dv⟩
end
end L3

namespace L3
open PySem PySem.Spec PyProof.Rows L2
open LamX (TabB)
/-! ### defs that make lambdas: where their code stands is known -/
section
variable {P : Program} {w : World} {K : PySem.W.Frag} {mg : Str → Option Value} {base : Heap}
theorem fnG_ofC {CX : CXT} {k : Nat} {f : Addr} {fd : FuncData} {ps : List Str} {sp : Sp} {x qual : Str} {st : Stmt} {N : List Str} (F : FunX K x qual st f fd) (S : FnScope N ps (defScope st)) (len : ∀ vs H Q E, sp vs H Q E → vs.length = ps.length)
    (hbody : ∀ (A : Around) (outer : List PySem.Env) (s : Shared) (H : Hp) (vs : List V) (Q : VK) (E : XK), Room k (A.deeper (envOfC qual (defScope st) s.heap.objs.size f fd.code)) → A.guards = some [] → sp vs H Q E →
      ∃ t, PSs (cxOf CX P w K mg base N qual (defScope st) f fd.code A outer s H E) (defBody st) t ∧ t { nx := fun _ H' => Q .non H', rt := Q } (L2.start N vs) H) : FnG P w K mg base CX (k + 1) f fd ps sp := by
  obtain ⟨oc, od, dV, kV, doc, pm, an, cdv, ct, osl, rfl, lk, hcd⟩ := F.ex
  refine ⟨len, fun A outer s H args us vs Q E hr hg e0 hb r hsp => ?_⟩
  exact LamX.run_ofS (N := N) lk hcd S hr e0 hb r (len _ _ _ _ hsp) fun hr' => hbody A outer s H vs Q E hr' hg hsp
theorem def_okC {x qual : Str} {st : Stmt} {f : Addr} {fd : FuncData} {N ps : List Str} {k : Nat} {S : Spec} (F : FunX K x qual st f fd) (sc : FnScope N ps (defScope st)) (len : ∀ ds o Q, S ds o Q → ds.length = ps.length)
    (hbody : ∀ (A : Around) (outer : List PySem.Env) (s : Shared) (H : Hp) (E : XK) (w0 : Wd) (ds : List D) (Q : D → Own → Prop), Room k (A.deeper (envOfC qual (defScope st) s.heap.objs.size f fd.code)) → A.guards = some [] → S ds w0.own Q →
      ∃ t, ASs (cxOf CX0 P w K mg base N qual (defScope st) f fd.code A outer s H E).nox w0 (defBody st) t ∧ t { nx := fun _ o => Rt Q .non o, rt := Rt Q } (astart N ds) w0.own) : FnG P w K mg base CX0 (k + 1) f fd ps (spOf K S) := by
  refine fnG_ofC F sc (fun vs H Q E h => ?_) fun A outer s H vs Q E hr hg h => ?_
  · obtain ⟨ds, w, P, _, _, dv, hS, _⟩ := h
    rw [dv.length]; exact len ds _ _ hS
  · obtain ⟨ds, w0, P', rfl, ok, dv, hS, kk⟩ := h
    obtain ⟨t, ht, hq⟩ := hbody A outer s w0.H E w0 ds P' hr hg hS
    refine ⟨_, ht.nox, astart N ds, w0, rfl, ok, Tr.refl _, envR_start dv, _, hq, fun env' w' σ' h1 t1 ok1 _ => ?_, fun d w' v h1 t1 ok1 dv1 => ?_, fun _ _ _ h => h.elim, fun _ _ _ h => h.elim⟩
    · obtain ⟨d', o', c, hp⟩ := h1
      obtain ⟨w2, a1, a2, a3, a4, a5⟩ := Cv.ok (v := .non) ok1 c (by unfold Dt; rfl)
      show Q .non w'.H
      rw [← a1]
      exact kk d' w2 .non (by rw [a2]; exact hp) (a5 _ t1) a3 a4
    · obtain ⟨d', o', c, hp⟩ := h1
      obtain ⟨w2, a1, a2, a3, a4, a5⟩ := Cv.ok ok1 c dv1
      show Q v w'.H
      rw [← a1]
      exact kk d' w2 v (by rw [a2]; exact hp) (a5 _ t1) a3 a4
variable {x : Str} {st : Stmt} {N ps : List Str} {k n : Nat} {ks : List Str}
/-- its code stands at c -/
def HasC (K : PySem.W.Frag) (mg : Str → Option Value) (x : Str) (st : Stmt) (c : Addr) : Prop := ∃ f fd, FnP K x st [] [] f fd ∧ mg x = some (.ref f) ∧ fd.code = .ref c
def BodC (P : Program) (w : World) (K : PySem.W.Frag) (mg : Str → Option Value) (base : Heap) (x : Str) (st : Stmt) (N : List Str) (k : Nat) (c : Addr) (S : Spec) : Prop :=
  ∀ (f : Addr) (A : Around) (outer : List PySem.Env) (s : Shared) (H : Hp) (E : XK) (w0 : Wd) (ds : List D) (Q : D → Own → Prop), Room k (A.deeper (envOfC x (defScope st) s.heap.objs.size f (.ref c))) → A.guards = some [] → S ds w0.own Q →
    ∃ t, ASs (cxOf CX0 P w K mg base N x (defScope st) f (.ref c) A outer s H E).nox w0 (defBody st) t ∧ t { nx := fun _ o => Rt Q .non o, rt := Rt Q } (astart N ds) w0.own
theorem kn_defC {c : Addr} {S : Spec} (F : HasC K mg x st c) (sc : FnScope N ps (defScope st)) (hb : Bd x st ps) (len : ∀ ds o Q, S ds o Q → ds.length = ps.length) (b : BodC P w K mg base x st N k c S) : Kn P w K mg base (k + 1) x ps [] S := by
  obtain ⟨f, fd, F, hm, hc⟩ := F
  exact ⟨f, fd, [], [], hm, F.kp, F.bindsN hb, .nil, fun _ => by unfold Dts; rfl, def_okC (funX F) sc len (by rw [hc]; exact b f)⟩
/-! ### defs that may raise -/
def BodX (P : Program) (w : World) (K : PySem.W.Frag) (mg : Str → Option Value) (base : Heap) (x : Str) (st : Stmt) (N : List Str) (k : Nat) (S : SpecX) : Prop :=
  ∀ (f : Addr) (cdv : Value) (A : Around) (outer : List PySem.Env) (s : Shared) (H : Hp) (E : XK) (w0 : Wd) (ds : List D) (Q : D → Own → Prop) (PX : XP), Room k (A.deeper (envOfC x (defScope st) s.heap.objs.size f cdv)) → A.guards = some [] → S ds w0.own Q PX →
    TkX (cxOf (L2.CX P w) P w K mg base N x (defScope st) f cdv A outer s H E) w0 (RtX PX) →
    ∃ t, ASs (cxOf (L2.CX P w) P w K mg base N x (defScope st) f cdv A outer s H E) w0 (defBody st) t ∧ t { nx := fun _ o => Rt Q .non o, rt := Rt Q } (astart N ds) w0.own
theorem knX_def {S : SpecX} (F : Has K mg x st) (sc : FnScope N ps (defScope st)) (hb : Bd x st ps) (len : ∀ ds o Q E, S ds o Q E → ds.length = ps.length) (b : BodX P w K mg base x st N k S) : KnX P w K mg base (k + 1) x ps [] S := by
  obtain ⟨f, fd, F, hm⟩ := F
  exact ⟨f, fd, [], [], hm, F.kp, F.bindsN hb, .nil, fun _ => by unfold Dts; rfl, def_okX (funX F) sc len (b f)⟩
/-- called with keywords -/
structure KnXP (P : Program) (w : World) (K : PySem.W.Frag) (mg : Str → Option Value) (base : Heap) (k : Nat) (x : Str) (ps : List Str) (n : Nat) (ks : List Str) (dvs : List D) (pm : List Nat) (S : SpecX) : Prop where
  ex : ∃ (f : Addr) (fd : FuncData) (dus : List Value) (dv : List V), mg x = some (.ref f) ∧ PySem.W.keepIn K (.ref f) = true ∧ Vals dv dus ∧ (∀ G, Dts K G dvs dv) ∧ (∀ (s : Shared) (us ws : List Value), K.In s.heap → us.length = n → ws.length = ks.length → BindsTo s fd ⟨us, ks.zip ws⟩ (ps.zip (arr pm (us ++ (ws ++ dus))))) ∧ FnG P w K mg base (L2.CX P w) k f fd ps (spOfX K S)
theorem KnXP.mono {j : Nat} {dvs : List D} {pm : List Nat} {S : SpecX} (F : KnXP P w K mg base j x ps n ks dvs pm S) (h : j ≤ k) : KnXP P w K mg base k x ps n ks dvs pm S :=
  let ⟨f, fd, du, dv, a, b, c, d, e, g⟩ := F.ex
  ⟨f, fd, du, dv, a, b, c, d, e, g.mono h⟩
theorem knXP_def {S : SpecX} {kws : List (Str × V)} {pm : List Nat} (F : HasK K mg x st kws) (sc : FnScope N ps (defScope st)) (hb : BdP x st ps n ks pm) (len : ∀ ds o Q E, S ds o Q E → ds.length = ps.length) (b : BodX P w K mg base x st N k S) : KnXP P w K mg base (k + 1) x ps n ks [] pm S := by
  obtain ⟨f, fd, F, hm⟩ := F
  refine ⟨f, fd, [], [], hm, F.kp, .nil, fun _ => by unfold Dts; rfl, fun s us ws _ h1 h2 => ?_, def_okX (funX F) sc len (b f)⟩
  obtain ⟨oc, od, dV, kV, doc, pm', an, cdv, ct, osl, rfl, lk, hcd, hD, hK⟩ := F.ex
  rcases hD with ⟨_, rfl⟩ | ⟨e, _⟩
  · exact .of_eq (hb kV doc pm' an cdv ct us ws h1 h2)
  · exact absurd rfl e
end
def aCallXP (S : SpecX) (E : XP) (n m : Nat) (dvs : List D) (pm : List Nat) (ta tk : ATA) : ATE := fun env own P => ta env own fun ds o => tk env o fun zs o2 => ds.length = n ∧ zs.length = m ∧ S (arr pm (ds ++ (zs ++ dvs))) o2 P E
section
variable {X : Cx} {w0 : Wd} {k n m : Nat} {x : Str} {ps ks : List Str} {dvs : List D} {pm : List Nat} {S : SpecX} {E : XP} {e : Expr} {es : List Expr} {kws : List Keyword} {ta tk : ATA} {p pos : Pos}
theorem runXP {pins : List (Addr × Obj)} {σ : L2.St} {H : Hp} {s : Shared} {Q : VK} {us ws dus : List Value} {vs zs dv : List V} {f : Addr} {fd : FuncData} {sp : Sp} {Ex : XK} (F : FnG X.prog X.w X.K X.mg X.base (L2.CX X.prog X.w) k f fd ps sp) (hr : Room k X.A) (hgd : X.A.guards = some []) (hx : Passes (L2.CX X.prog X.w) X Ex)
    (hb : BindsTo s fd ⟨us, ks.zip ws⟩ (ps.zip (arr pm (us ++ (ws ++ dus))))) (I : Inv X pins σ H s) (r : Vals vs us) (rz : Vals zs ws) (rd : Vals dv dus) (h : sp (arr pm (vs ++ (zs ++ dv))) H Q Ex) : wpAny (model X.prog X.w) X.A (call (.ref f) us (ks.zip ws)) (EP X pins σ Q) X.xe s := by
  refine wpAny_call (codeAny_mono (F.run X.A X.stack s H _ (arr pm (us ++ (ws ++ dus))) (arr pm (vs ++ (zs ++ dv))) Q Ex hr hgd I.env0 hb (arr_rel (r.append (rz.append rd))) h) fun y s' hq => ?_)
  match y, hq with
  | .error e, hq => exact hx pins σ H s e s' I hq
  | .ok (.ret u), hq => exact I.after hq
theorem ae_callXP0 (F : KnXP X.prog X.w X.K X.mg X.base k x ps 0 ks dvs pm S) (tkx : TkX X w0 E) (hr : Room k X.A) (hgd : X.A.guards = some []) (hg : Gl X x) (hkw : AK X w0 kws tk) (hks : (backToKw pos (keywordEach kws X.env)).filterMap (·.1) = ks := by rfl)
    (hall : (backToKw pos (keywordEach kws X.env)).all (·.1.isSome) = true := by rfl) (hm : ks.length = m := by rfl)
    (hdb : (x == ("__debug__" : Str)) = false := by decide)
    (hpl : ((backTo pos (starEach [] X.env)).any (·.1) || (backToKw pos (keywordEach kws X.env)).any (·.1.isNone)) = false := by rfl) :
    AE X w0 (.Call (.Name x p) [] kws pos) (aCallXP S E 0 m dvs pm aNil tk) := by
  subst hm
  obtain ⟨f, fd, dus, dvv, hm, hk, rd, hdv, hb, G⟩ := F.ex
  refine ⟨fun pins s σ H Q I h => ?_⟩
  obtain ⟨env, w, rfl, ok, tr0, er, P, h, kk⟩ := h
  refine wpAny_Call_Name_kw (ld_glob I hg hm ?_ hdb)
  refine PySem.W.callWith_KW0 (h₀ := X.base) I.ok.mod.kin hk hall (thn (hkw.run pos pins s σ w.H (fun zs H2 => zs.length = ks.length ∧ spOfX X.K S (arr pm ([] ++ (zs ++ dvv))) H2 Q (wishE X.K w0 E)) I ⟨env, w, rfl, ok, tr0, er, _, h, fun zs w2 us h2 t2 ok2 dz => ?_⟩) fun ws s2 hq => ?_) hpl
  · exact ⟨by rw [dz.length]; exact h2.2.1, arr pm ([] ++ (zs ++ dvs)), w2, P, E, rfl, ok2, arr_dts (Dts.nil.append (dz.append (hdv _))), h2.2.2, fun d w3 v h3 t3 ok3 d3 => kk d w3 v h3 (t2.trans t3) ok3 d3, fun c d w3 h3 t3 ok3 => ⟨c, w3, rfl, rfl, ok3, (tr0.trans t2).trans t3, h3⟩⟩
  · obtain ⟨zs, H2, I2, rz, l2, q2⟩ := hq
    refine ⟨I2.kIn, ?_⟩
    rw [hks]
    exact runXP G hr hgd (passesX tkx) (hb s2 [] ws I2.kIn rfl (rz.length.symm.trans l2)) I2 .nil rz rd q2
end
end L3

namespace L3
open PySem PySem.Spec PyProof.Rows L2
open LamX (TabB)
/-! ### the end of a law whose defs make lambdas: their tables are one's own from the start -/
/-- code and table of the defs -/
def tabsL (K : PySem.W.Frag) (lam : List Str) : List (Str × Addr × Addr) := lam.filterMap fun x => (PySem.W.tabIn K x).map fun q => (x, q)
def lamQ (x : Str) : Str := x ++ ".<locals>." ++ "<lambda>"
def own0 (K : PySem.W.Frag) (lam : List Str) : Own := fun b => ((tabsL K lam).find? fun q => q.2.2 == b).map fun q => .tbl (lamQ q.1)
def dropT (K : PySem.W.Frag) (lam : List Str) : PySem.W.Frag := K.filter fun p => !((tabsL K lam).any fun q => q.2.2 == p.1)
def spLawT (o : Own) (n : Nat) : Spec := fun ds own P => ∃ ns : List Int, ds = [.kls (ns.map D.int)] ∧ ns.length ≤ n ∧ own = o ∧ ∀ d o', d = .bl true → P d o'
theorem lookup_filter {p : Addr → Bool} {a : Addr} : ∀ K : PySem.W.Frag, List.lookup a (K.filter fun q => p q.1) = if p a then List.lookup a K else none
  | [] => by simp
  | (b, o) :: r => by
    rw [List.filter_cons]
    by_cases hb : a = b
    · subst hb
      cases hp : p a with
      | true => simp
      | false =>
        simp only [Bool.false_eq_true, if_false]
        rw [lookup_filter r, hp]; simp
    · have e : (a == b) = false := by simpa using hb
      cases hp : p b with
      | true => simp only [if_true]; rw [List.lookup_cons, List.lookup_cons, e, lookup_filter r]
      | false => simp only [Bool.false_eq_true, if_false]; rw [lookup_filter r, List.lookup_cons, e]
theorem dropT_in {K : PySem.W.Frag} {lam : List Str} {h : Heap} (X : K.In h) : (dropT K lam).In h := fun a o e => X a o (by
  unfold dropT at e
  rw [lookup_filter (p := fun a => !((tabsL K lam).any fun q => q.2.2 == a))] at e
  split at e
  · exact e
  · cases e)
theorem dropT_none {K : PySem.W.Frag} {lam : List Str} {q : Str × Addr × Addr} (h : q ∈ tabsL K lam) : (dropT K lam).lookup q.2.2 = none := by
  unfold dropT
  rw [lookup_filter (p := fun a => !((tabsL K lam).any fun q => q.2.2 == a)), if_neg]
  have : ((tabsL K lam).any fun r => r.2.2 == q.2.2) = true := List.any_eq_true.mpr ⟨q, h, by simp⟩
  simp [this]
theorem law_callT {P : Program} {w : World} {K : PySem.W.Frag} {mg mb : Str → Option Value} {k : Nat} {fa a : Addr} {fd : FuncData} {x : Str} {S : Spec} {s₁ : Shared} {vs : List Value} {ns : List Int} {cs : List (Str × Addr × Addr)} {ow : Own}
    (KX : K.In s₁.heap) (hns : s₁.heap.Ns mainGlobals mg) (hb : s₁.heap.Ns builtinsNs mb) (hbb : ∀ x : Str, x ≠ "__name__" → mb x = bootBuiltins x) (hlim : s₁.heap.NoLimit) (hg : s₁.gens = #[])
    (hT : ∀ q ∈ cs, PySem.W.CodeHd s₁.heap q.2.1 q.2.2 ∧ s₁.heap.get? q.2.2 = some { cls := .none, data := .fields #[] }) (nT : ∀ q ∈ cs, K.lookup q.2.2 = none)
    (hbm : ∃ (bm : Addr) (ob : Obj), mg "__builtins__" = some (.ref bm) ∧ bm ≠ builtinsNs ∧ s₁.heap.get? bm = some ob ∧ ob.cls = .type "module" ∧ ob.dict = some builtinsNs ∧ ob.data = .plain)
    (how : ∀ b m, ow b = some m → ∃ q ∈ cs, q.2.2 = b ∧ m = .tbl (lamQ q.1))
    (ha : s₁.heap.get? a = some { cls := .type "list", data := .seq vs.toArray }) (hi : IntsAre vs ns) (hl : ns.length ≤ sizeLine) (hr : Room k callerA)
    (F : ∀ base : Heap, K.In base → base.Ns mainGlobals mg → (∀ q ∈ cs, TabB base mg q.2.1 q.2.2) → FnG P w K mg base CX0 k fa fd [x] (spOf K S)) (hbind : ∀ (s : Shared) (u : Value), BindsTo s fd ⟨[u], []⟩ [(x, u)])
    (hS : S [.kls (ns.map D.int)] ow fun d _ => d = .bl true) :
    codeAny (model P w) callerA (.call (.ref fa) ⟨[.ref a], []⟩) (fun r s' => r = .ok (.ret (.bool true)) ∧ OldK s₁.heap s'.heap ∧ s'.os = s₁.os ∧ AllBare s'.gens) s₁ := by
  have rv := vals_ints hi
  have lenV := hi.length
  have isT : ∀ b, (∃ q ∈ cs, q.2.2 = b) → s₁.heap.get? b = some { cls := .none, data := .fields #[] } := fun b ⟨q, hq, e⟩ => by rw [← e]; exact (hT q hq).2
  have aT : ¬ ∃ q ∈ cs, q.2.2 = a := fun z => by
    have := isT a z
    rw [ha] at this
    have z' : Data.seq vs.toArray _ = Data.fields #[] := congrArg Obj.data (Option.some.inj this)
    cases z'
  have main : ∀ H : Hp, (∀ b u, H b = some u → (b = a ∧ K.lookup a = none ∧ u = .frz { cls := .type "list", data := .seq vs.toArray } (.lst (ns.map V.int))) ∨ ((∃ q ∈ cs, q.2.2 = b) ∧ u = .tbl #[])) → (∀ b, (∃ q ∈ cs, q.2.2 = b) → H b = some (.tbl #[])) → SqL K (fun b => if b = a then H a else none) a (ns.map V.int) →
      codeAny (model P w) callerA (.call (.ref fa) ⟨[.ref a], []⟩) (fun r s' => r = .ok (.ret (.bool true)) ∧ OldK s₁.heap s'.heap ∧ s'.os = s₁.os ∧ AllBare s'.gens) s₁ := by
    intro H hH hTb hq
    have hok : HOk P w H s₁.heap := fun b u e => by
      rcases hH b u e with ⟨rfl, _, rfl⟩ | ⟨z, rfl⟩
      · exact ⟨ha, by rw [List.length_map]; exact hl, vs, _, rv, ha⟩
      · exact isT b z
    have no : ∀ {b : Addr} {o : Obj}, s₁.heap.get? b = some o → (b = a → K.lookup a = none → False) → (∀ vs, o.data = .fields vs → vs = #[] → False) → (hidT s₁.heap H).get? b = some o := fun {b o} e n n2 => hidT_get e (by
      cases q : H b with
      | none => rfl
      | some u =>
        rcases hH b u q with ⟨z1, z2, _⟩ | ⟨z, _⟩
        · exact (n z1 z2).elim
        · have := isT b z
          rw [e] at this
          cases this
          exact (n2 #[] rfl rfl).elim)
    have nsK : ∀ {b : Addr} {m : Str → Option Value}, s₁.heap.Ns b m → (hidT s₁.heap H).Ns b m := fun {b m} ⟨o, es, ep, e, d, r⟩ => ⟨o, es, ep, no e (fun z _ => by
      subst z; rw [ha] at e; cases e
      have d' : Data.seq vs.toArray _ = Data.dict es ep := d
      cases d') (fun vs z _ => by rw [d] at z; cases z), d, r⟩
    have hKb : K.In (hidT s₁.heap H) := fun b o e => hidT_get (KX b o e) (by
      cases q : H b with
      | none => rfl
      | some u =>
        rcases hH b u q with ⟨z1, z2, _⟩ | ⟨⟨r, hr, z⟩, _⟩
        · rw [z1, z2] at e; cases e
        · rw [← z, nT r hr] at e; cases e)
    have TB : ∀ q ∈ cs, TabB (hidT s₁.heap H) mg q.2.1 q.2.2 := fun q hq => by
      obtain ⟨C, hP⟩ := hT q hq
      refine ⟨?_, ?_, fun z => ?_⟩
      · obtain ⟨o, us, file, tf, flags, tg, inF, text, tt, e1, r1, r2, r3, r4⟩ := C
        refine ⟨o, us, file, tf, flags, tg, inF, text, tt, no e1 (fun z _ => ?_) (fun vs z1 z2 => ?_), r1, r2, r3, r4⟩
        · rw [z, ha] at e1; cases e1; cases r2
        · rw [r2] at z1; cases z1; subst z2; simp at r3
      · obtain ⟨bm, ob, b1, b2, b3, b4, b5, b6⟩ := hbm
        have n1 : bm ≠ mainGlobals := fun z => by
          obtain ⟨o, es, ep, e, hd, _⟩ := hns
          rw [z, e] at b3; cases b3
          rw [hd] at b6; cases b6
        have n2 : bm ≠ q.2.2 := fun z => by
          rw [z, hP] at b3; cases b3; cases b6
        exact ⟨bm, ob, b1, b2, n1, n2, no b3 (fun z _ => by rw [z, ha] at b3; cases b3; cases b6) (fun vs z _ => by rw [b6] at z; cases z), b4, b5, b6⟩
      · obtain ⟨o, es, ep, e, hd, _⟩ := hns
        rw [z, hP] at e; cases e; cases hd
    have e0 : Env0 P w K mg (hidT s₁.heap H) callerA [] s₁ H := ⟨rfl, ⟨hKb, nsK hns, ⟨mb, nsK hb, hbb⟩, let ⟨mc, h1, h2⟩ := hlim; ⟨mc, nsK h1, h2⟩⟩, fun b o e => of_hidT e, Nat.le_of_eq (hidT_size _ _), trivial, fun b hb => absurd (show b ∈ ([] : List Addr) from hb) (by simp), hok, .of_eq hg⟩
    let W : Wd := ⟨ow, fun b => if b = a then H a else none, H⟩
    have hsub : Sub W.G W.H := fun b u e => by
      have e' : (if b = a then H a else none) = some u := e
      split at e'
      · rename_i z; rw [z]; exact e'
      · cases e'
    have okW : W.Ok K := ⟨hsub, fun p m e => by
      obtain ⟨q, hq, e1, rfl⟩ := how p m e
      refine ⟨?_, _, hTb p ⟨q, hq, e1⟩, ⟨trivial, fun pos cv hc => ?_⟩⟩
      · show (if p = a then H a else none) = none
        rw [if_neg (fun z => aT ⟨q, hq, e1.trans z⟩)]
      · have z : codeAmong pos [] = some cv := hc
        simp [codeAmong] at z, fun b u e => by
      rcases hH b u e with ⟨_, _, rfl⟩ | ⟨_, rfl⟩
      · show (ns.map V.int).length ≤ sizeLine
        rw [List.length_map]; exact hl
      · trivial⟩
    have sp : spOf K S [.ref a] H (fun v _ => v = .bl true) E0 := ⟨[.kls (ns.map D.int)], W, _, rfl, okW, .cons (by unfold Dt; exact ⟨a, _, rfl, hq, dts_script ns⟩) .nil, hS, fun d w' v hd _ _ dv => by subst hd; exact dt_bl.mp dv⟩
    refine codeAny_mono ((F _ hKb (nsK hns) TB).run callerA [] s₁ H ⟨[.ref a], []⟩ [.ref a] [.ref a] _ _ hr rfl e0 (hbind s₁ (.ref a)) (.cons rfl .nil) sp) fun r s' h => ?_
    match r, h with
    | .error e, h => exact (h : False).elim
    | .ok (.ret u), h =>
      obtain ⟨v, H', os, bare, un, hok', r', q⟩ := h
      have q' : v = .bl true := q
      subst q'
      obtain rfl : u = Value.bool true := r'
      have tb : ∀ b, (∃ q ∈ cs, q.2.2 = b) → ∃ more : Array Value, s'.heap.get? b = some { cls := .none, data := .fields more } := fun b z => by
        obtain ⟨more, e⟩ := un.tbls b #[] (hTb b z)
        exact ⟨_, hok' b _ e⟩
      have kp : ∀ b o, (¬ ∃ q ∈ cs, q.2.2 = b) → s₁.heap.get? b = some o → s'.heap.get? b = some o := fun b o nb e => by
        cases q : H b with
        | none => exact un.keep b o e q (fun z => absurd (show b ∈ ([] : List Addr) from z) (by simp)) (by simp)
        | some u =>
          rcases hH b u q with ⟨rfl, _, rfl⟩ | ⟨z, _⟩
          · obtain ⟨e2, _⟩ := hok' b _ (un.frzs b _ _ q)
            rw [ha] at e; cases e
            exact e2
          · exact absurd z nb
      refine ⟨rfl, ⟨fun b o e => ?_, fun b o e => ?_⟩, os, bare⟩
      · by_cases hb : ∃ q ∈ cs, q.2.2 = b
        · obtain ⟨more, hm⟩ := tb b hb
          have e1 := isT b hb
          rw [e] at e1; cases e1
          obtain ⟨q, hq, rfl⟩ := hb
          exact .inr (.inl ⟨((hT q hq).1.tab (hT q hq).2).isCodeTable, rfl, #[], more, rfl, by rw [Array.empty_append]; exact hm⟩)
        · exact .inl (kp b o hb e)
      · by_cases hb : ∃ q ∈ cs, q.2.2 = b
        · obtain ⟨more, hm⟩ := tb b hb
          exact ⟨_, hm⟩
        · exact ⟨o, kp b o hb e⟩
  have dec : ∀ b, Decidable (∃ q ∈ cs, q.2.2 = b) := fun b => Classical.propDecidable _
  cases hk : K.lookup a with
  | some o =>
    have e := KX a o hk
    rw [ha] at e
    cases e
    refine main (fun b => if (∃ q ∈ cs, q.2.2 = b) then some (.tbl #[]) else none) (fun b u z => ?_) (fun b z => if_pos z) (.inr ⟨_, vs.toArray, _, hk, rfl, rfl, rfl, by rw [List.size_toArray, lenV]; exact hl, by simpa using rv⟩)
    by_cases hb : ∃ q ∈ cs, q.2.2 = b
    · have z' := (if_pos hb).symm.trans z
      cases z'
      exact .inr ⟨hb, rfl⟩
    · exact absurd ((if_neg hb).symm.trans z) (by simp)
  | none =>
    refine main (fun b => if b = a then some (.frz { cls := .type "list", data := .seq vs.toArray } (.lst (ns.map V.int))) else if (∃ q ∈ cs, q.2.2 = b) then some (.tbl #[]) else none) (fun b u z => ?_) (fun b z => ?_) (.inl (.inr ⟨{ cls := .type "list", data := .seq vs.toArray }, ?_⟩))
    · by_cases hb : b = a
      · have z' := (if_pos hb).symm.trans z
        cases z'
        exact .inl ⟨hb, hk, rfl⟩
      · have z1 := (if_neg hb).symm.trans z
        by_cases hb2 : ∃ q ∈ cs, q.2.2 = b
        · have z' := (if_pos hb2).symm.trans z1
          cases z'
          exact .inr ⟨hb2, rfl⟩
        · exact absurd ((if_neg hb2).symm.trans z1) (by simp)
    · have hb : b ≠ a := fun e => aT (by rw [← e]; exact z)
      exact (if_neg hb).trans (if_pos z)
    · show (if a = a then _ else none) = _
      rw [if_pos rfl, if_pos rfl]
theorem walkGT {l : PySem.W.OpenLaw} {n k : Nat} {q : Program} {loose : List Str} {XP : (Str → Option Value) → Heap → Prop} {YP : World → Heap → Prop} {d : DefRec} {K : Params → PySem.W.Frag} {x : Str} (lam : List Str)
    (hn : l.most = some n) (hn2 : n ≤ sizeLine) (hdf : d.params.defaults = []) (hr : Room k callerA) (hrec : (lam.all fun y => (recsOf q).any fun e => e.name == y) = true)
    (hY : ∀ (w : World) (h : Heap), YP w h → (K w.params).In h)
    (F : ∀ (w : World) (mg : Str → Option Value) (fa : Addr) (h : Heap), (K w.params).In h → h.Ns mainGlobals mg → mg d.name = some (.ref fa) →
      ∃ fd : FuncData, (∀ (s : Shared) (u : Value), BindsTo s fd ⟨[u], []⟩ [(x, u)]) ∧
        ∀ base : Heap, (dropT (K w.params) lam).In base → base.Ns mainGlobals mg → (∀ q ∈ tabsL (K w.params) lam, TabB base mg q.2.1 q.2.2) → FnG l.prog w (dropT (K w.params) lam) mg base CX0 k fa fd [x] (spOf (dropT (K w.params) lam) (spLawT (own0 (K w.params) lam) n))) :
    PySem.W.WalkO q loose XP YP l.row.toRowW d [] (fun f vs => PySem.call f vs) := by
  refine Att.attach_call hn hdf fun w s₀ s₁ mg mb fa o pm cd doc a vs ns G Y ho hd hcd hmg hobj hints hlen hg => ?_
  have KX := hY w _ Y
  obtain ⟨fd, hb, hF⟩ := F w mg fa _ KX G.T.g hmg
  refine law_callT (cs := tabsL (K w.params) lam) (ow := own0 (K w.params) lam) (dropT_in KX) G.T.g G.T.b G.T.builtins G.T.nolimit hg (fun p hp => ?_) (fun p hp => dropT_none hp) G.T.bmain (fun b m e => ?_) hobj hints (Nat.le_trans hlen hn2) hr hF hb ⟨ns, rfl, hlen, rfl, fun _ _ h => h⟩
  · unfold tabsL at hp
    obtain ⟨y, hy, e⟩ := List.mem_filterMap.mp hp
    obtain ⟨⟨c, P⟩, e1, e2⟩ := Option.map_eq_some_iff.mp e
    subst e2
    obtain ⟨dr, hdr, en⟩ := List.any_eq_true.mp (List.all_eq_true.mp hrec y hy)
    have en' : dr.name = y := beq_iff_eq.mp en
    obtain ⟨a', o', fd', c', P', h1, h2, h3, h4, h5, h6⟩ := G.T.tab dr hdr
    unfold PySem.W.tabIn at e1
    split at e1
    · rename_i f hf
      have g1 := PySem.W.mg_of KX G.T.g hf
      rw [en', g1] at h1
      cases h1
      split at e1
      · rename_i hfo
        have g2 := KX _ _ hfo
        rw [h2] at g2
        cases g2
        cases h3
        split at e1
        · rename_i c2 hc
          rw [h4] at hc
          cases hc
          split at e1
          · rename_i hco
            have g3 := KX _ _ hco
            obtain ⟨⟨oc, vc, z1, z2, z3, z4⟩, z5⟩ := id h6
            rw [g3] at z1
            cases z1
            cases z3
            split at e1
            · rename_i P2 hP2
              rw [z4] at hP2
              cases hP2
              cases e1
              exact ⟨.of h5 h6, z5⟩
            · cases e1
          · cases e1
        · cases e1
      · cases e1
    · cases e1
  · unfold own0 at e
    obtain ⟨p, e1, e2⟩ := Option.map_eq_some_iff.mp e
    exact ⟨p, List.mem_of_find?_eq_some e1, beq_iff_eq.mp (List.find?_some (p := fun q : Str × Addr × Addr => q.2.2 == b) e1), e2.symm⟩
end L3

namespace L3
open PySem PySem.Spec PyProof.Rows L2
/-! ### len({e for t in xs}): how many unlike keys -/
def memK (j : Key) (l : List Key) : Bool := l.any fun x => decide (x = j)
theorem memK_iff {j : Key} {l : List Key} : memK j l = true ↔ j ∈ l := by
  unfold memK
  rw [List.any_eq_true]
  exact ⟨fun ⟨x, h, e⟩ => by rw [← of_decide_eq_true e]; exact h, fun h => ⟨j, h, decide_eq_true rfl⟩⟩
abbrev keyS (X : Cx) (D : Addr) (l : List Key) : HO := SetK X.prog X.w D (fun j => memK j l) l.length
def keyAdd (l : List Key) (k : Key) : List Key := if memK k l = true then l else k :: l
section
variable {X : Cx}
def tKeys (X : Cx) (wi : TI) (g : TG) (te : TE) (vs : List Nat) : TE := fun σ H Q => wi σ H fun J H1 => ∀ D, H1 D = none → ∃ St : Nat → Nat → List Key → Hp → Prop, (∃ m, St 0 m [] (upd H1 D (keyS X D []))) ∧
  ∀ i m l H, St i m l H → (J.stop i H ∧ H D = some (keyS X D l) ∧ Q (.ref D) H) ∨ (J.go i H ∧ ∀ x H', J.yld i H x H' → g x (wipe σ vs) H' fun σ2 H2 => wipe σ2 vs = wipe σ vs ∧ te σ2 H2 fun y H3 => ∃ k, y = kV k ∧ H3 D = some (keyS X D l) ∧ l.length + 1 < scanBound ∧
    ∃ m', m' < m ∧ St (i + 1) m' (keyAdd l k) (upd H3 D (keyS X D (keyAdd l k))))
theorem keyAdd_ok {pins : List (Addr × Obj)} {σ : L2.St} {H : Hp} {s : Shared} {E : Value → Shared → Prop} {D : Addr} {l : List Key} {k : Key} {u : Value} {Q : Value → Shared → Prop} (I : Inv X pins σ H s) (hD : H D = some (keyS X D l)) (room : l.length + 1 < scanBound) (r : RelV (kV k) u)
    (h : ∀ s', Inv X pins σ (upd H D (keyS X D (keyAdd l k))) s' → Q .none s') : wpAny (model X.prog X.w) X.A (call (.builtin "set.add") [.ref D, u]) Q E s := by
  refine call_set_add (kV_is r) (key_scan r) (setK_get I hD) room fun h' sb new => ?_
  have e1 : (fun k' => memK k' l || decide (k' = k)) = fun j => memK j (keyAdd l k) := by
    funext j
    unfold keyAdd
    by_cases hk : memK k l = true
    · rw [if_pos hk]
      by_cases hj : j = k
      · subst hj; rw [hk]; rfl
      · rw [decide_eq_false hj, Bool.or_false]
    · rw [if_neg hk]
      unfold memK
      rw [List.any_cons, Bool.or_comm, show decide (j = k) = decide (k = j) from by
        by_cases e : j = k
        · rw [decide_eq_true e, decide_eq_true e.symm]
        · rw [decide_eq_false e, decide_eq_false fun z => e z.symm]]
  have e2 : (if memK k l = true then l.length else l.length + 1) = (keyAdd l k).length := by
    unfold keyAdd
    by_cases hk : memK k l = true
    · rw [if_pos hk, if_pos hk]
    · rw [if_neg hk, if_neg hk]; rfl
  rw [e1, e2] at new
  have there : ∃ u, h'.get? D = some u := by
    obtain ⟨o, _, _, _, ho, _⟩ := id new
    exact ⟨o, ho⟩
  exact h _ (I.write (e := D) (t' := s.toks + 1) (by rw [hD]; trivial) (.inl rfl) (fun b u hb hu => (sb.2 b hb).trans hu) there (setK_new new))
theorem pe_keys {elt tg iter : Expr} {scope : Scope} {own : List (PySem.Str × Nat)} {pos : Pos} {wi : TI} {g : TG} {te : TE} (hc : X.calm = true) (hN : X.N.Nodup) (hi : PI X tg iter wi) (ok : BlkOk X.N X.env.scope scope own)
    (hg : ∀ (s : Shared) (H : Hp) (C : Addr) (cl : List (PySem.Str × Addr)) (fp : List Addr), PG (X.blk s H scope (compEnvC scope cl C X.env) fp) tg g)
    (he : ∀ (s : Shared) (H : Hp) (C : Addr) (cl : List (PySem.Str × Addr)) (fp : List Addr), PE (X.blk s H scope (compEnvC scope cl C X.env) fp) elt te) (hs : ∀ x, foldedSetIterable iter X.env x = pure x := by intro _; rfl) :
    PE X (.SetComp elt [⟨tg, iter, [], 0⟩] scope pos) (tKeys X wi g te (own.map (·.2))) := by
  refine ⟨fun pins s σ H Q I h => ?_⟩
  rw [PpSet.eval_SetComp]
  have free_ : ∀ y ∈ scope.names, y.2 = .free → ∃ c, X.env.cells.lookup y.1 = some c := fun y hy e =>
    (ok.free y hy e).elim (fun z => I.ok.has _ (.inl z)) fun z => I.ok.has _ (.inr z)
  refine wpAny_comprehension_free (use := none) rfl hs (closure_ok free_) ok.kind (fun y hy e => by rw [ok.uniq y hy, e]) (thn (hi.run pins s σ H _ I h) fun xv sa hx => thn hx fun itv sb hb => ?_)
  obtain ⟨it, fp, tn, J, H2, rfl, I2, T, tn0, fpo, q⟩ := hb
  refine PpSet.newSet_ok (newEnv_comp ?_)
  generalize eD : sb.heap.objs.size = D
  obtain ⟨St, ⟨m0, st0⟩, go⟩ := q D (I2.hok.fresh (Nat.le_of_eq eD))
  generalize ec : ({ sb with heap := sb.heap.push { cls := .type "set", dict := none, data := .set #[] 0 (.fresh 0 0 (!X.w.params.followText "set-order")) } } : Shared) = sc
  have hsc : sc.heap = sb.heap.push { cls := .type "set", dict := none, data := .set #[] 0 (.fresh 0 0 (!X.w.params.followText "set-order")) } := by rw [← ec]
  have I3 : Inv X pins σ (upd H2 D (keyS X D [])) sc := by
    rw [← ec]
    refine I2.laid (t' := sb.toks) (fun b o e => Heap.get?_push_of_some _ e) (Nat.le_of_eq eD) ?_
    have new : (sb.heap.push { cls := .type "set", dict := none, data := .set #[] 0 (.fresh 0 0 (!X.w.params.followText "set-order")) }).SetOf (mixKind X.prog X.w) sb.heap.objs.size (fun _ => false) 0 :=
      ⟨_, #[], 0, _, Heap.get?_push_size _ rfl, ⟨rfl, rfl, rfl⟩, rfl, (fun e he => by simp at he), (fun k => by simp), (by decide), (by rfl), rfl⟩
    rw [← eD]
    exact setK_new new
  have fpc : ∀ b ∈ fp, FpOk X pins (upd H2 D (keyS X D [])) b ∧ b < sc.heap.objs.size := fun b hb => by
    obtain ⟨o, e, _⟩ := T.obj _ _ tn0 b hb
    have lt := Heap.lt_size e
    refine ⟨⟨?_, (fpo b hb).2⟩, by rw [hsc, Heap.size_push]; exact Nat.lt_succ_of_lt lt⟩
    rw [upd_ne (fun z => by rw [z, ← eD] at lt; exact Nat.lt_irrefl _ lt)]
    exact (fpo b hb).1
  have I4 := block_start I3 ok hN fpc
  have pg := hg sc (upd H2 D (keyS X D [])) sc.heap.objs.size (cellsFrom (sc.heap.objs.size + 1) scope.names (cloFrom X.env.cells scope.names [])) fp
  have pe := he sc (upd H2 D (keyS X D [])) sc.heap.objs.size (cellsFrom (sc.heap.objs.size + 1) scope.names (cloFrom X.env.cells scope.names [])) fp
  have non0 : ∀ b ∈ fp, (upd H2 D (keyS X D [])) b = none := fun b hb => (fpc b hb).1.1
  have tn1 : tn 0 (pushCells (sc.heap.push { cls := .type "dict", data := .dict #[] }) scope.names) := T.keep _ _ _ tn0 fun b _ o e => pushCells_keeps _ _ _ _ (Heap.get?_push_of_some _ (by rw [hsc]; exact Heap.get?_push_of_some _ e))
  show codeAny _ _ (.compStart (.SetComp elt [⟨tg, iter, [], 0⟩] scope pos) 0 (.ref it) (.ref D) (compEnvC scope (cellsFrom (sc.heap.objs.size + 1) scope.names (cloFrom X.env.cells scope.names [])) sc.heap.objs.size X.env)) (compPost (model X.prog X.w) X.A X.xe none _ (.ref D) sc.heap.objs.size) { sc with heap := pushCells (sc.heap.push { cls := .type "dict", data := .dict #[] }) scope.names }
  generalize ee : compEnvC scope (cellsFrom (sc.heap.objs.size + 1) scope.names (cloFrom X.env.cells scope.names [])) sc.heap.objs.size X.env = ce at I4 pg pe ⊢
  have locs : ce.locals = sc.heap.objs.size := by subst ee; rfl
  generalize eH : upd H2 D (keyS X D []) = H3 at I3 I4 pg pe st0 non0 fpc
  have quiet : ∀ {σ' : L2.St} {H' : Hp} {s' : Shared}, Inv (X.blk sc H3 scope ce fp) [] σ' H' s' → (∀ b ∈ fp, H' b = none) → ∀ b ∈ fp, FpOk (X.blk sc H3 scope ce fp) [] H' b := fun {σ' H' s'} I' hn b hb =>
    ⟨hn b hb, (I'.ok.exf b hb).1, I'.ok.exfs b hb, .inl hb, fun x c e => (I'.ok.exf b hb).2 x c e, fun p hp => absurd (show p ∈ ([] : List (Addr × Obj)) ++ [] from hp) (by simp)⟩
  refine (fun loop => PpSet.codeAny_compStart_set loop (T.self X.A 0 _ _ _ tn1 loop)) ?_
  refine PpSet.compLoopS_any (fun m s' => ∃ i l H', Inv (X.blk sc H3 scope ce fp) [] (wipe σ (own.map (·.2))) H' s' ∧ tn i s'.heap ∧ (∀ b ∈ fp, H' b = none) ∧ St i m l H') (fun m s5 ⟨i, l, H5, I5, t5, n5, w5⟩ => ?_) m0 ⟨0, [], H3, I4, tn1, non0, st0⟩
  rcases go i m l H5 w5 with ⟨stop, _, fin⟩ | ⟨more, step⟩
  · refine thnF (T.done (X.blk sc H3 scope ce fp) rfl rfl rfl hc i [] s5 _ H5 (fun _ _ => False) I5 (quiet I5 n5) t5 stop) fun r s6 ⟨hr, I6⟩ => ?_
    subst hr
    have I7 : Inv X pins σ H5 s6 := I3.call' (ch := fp) I6.os I6.base I6.hok I6.bare fun b hb => ⟨(fpc b hb).1.2.2.2.1, (fpc b hb).1.2.1, (fpc b hb).1.2.2.2.2.1, (fpc b hb).1.2.2.2.2.2⟩
    have nC : H5 sc.heap.objs.size = none := by rw [← locs]; exact I6.free
    obtain ⟨mm, hn, _⟩ := id I6.loc
    have hn' : s6.heap.Ns ce.locals mm := hn
    rw [locs] at hn'
    obtain ⟨f0, f1, f2, f3, f4, f5⟩ := I3.fpOk (Nat.le_refl _) nC
    exact ⟨mm, hn', fun h'' same => ⟨.ref D, H5, I7.turned (t' := s6.toks) (fun b o hb e => (same.2 b hb).trans e) f0 f1 f3 f4 f5, rfl, fin⟩⟩
  · refine thnF (T.item (X.blk sc H3 scope ce fp) rfl rfl rfl hc i [] s5 _ H5 (fun _ _ => False) I5 (quiet I5 n5) t5 more) fun r s6 ⟨u, hr, h6⟩ => ?_
    subst hr
    refine thnF h6 fun _ s7 ⟨x, H7, I7, r7, y7, t7, n7⟩ => ?_
    refine thnF (pg.run _ s7 _ H7 x u _ (I7.pinned (quiet I7 n7) (T.obj _ _ t7)) r7 (step x H7 y7)) fun _ s8 ⟨σ8, H8, I8, hw8, q8⟩ => ?_
    refine wpAny_pure ?_
    show wpAny _ _ (eval elt ce) _ _ s8
    refine thnF (pe.run _ s8 σ8 H8 _ I8 q8) fun z s9 ⟨yv, H9, I9, r9, k, ey, hD9, hz9, m', hm', nx⟩ => ?_
    subst ey
    refine keyAdd_ok (X := X.blk sc H3 scope ce fp) I9 hD9 hz9 r9 fun s10 I10 => ?_
    have pinned : ∀ b ∈ fp, ∀ o, s7.heap.get? b = some o → s10.heap.get? b = some o ∧ upd H9 D (keyS X D (keyAdd l k)) b = none := fun b hb o e => by
      have := I10.pin (b, o) (List.mem_append_right _ (List.mem_append_right _ (mem_pinsAt hb e)))
      exact ⟨this.1, this.2.1⟩
    have hl : (wipe σ (own.map (·.2))).length = σ8.length := by rw [← hw8, wipe_length]
    refine ⟨m', hm', i + 1, _, _, (I10.unpinned (pins := [])).weak hl (fun j v e => ?_), T.keep _ _ _ t7 fun b hb o e => (pinned b hb o e).1, fun b hb => ?_, nx⟩
    · rw [← hw8] at e
      exact (wipe_some e).1
    · obtain ⟨o, e, _⟩ := T.obj _ _ t7 b hb
      exact (pinned b hb o e).2
/-- len of it -/
def rLenK (X : Cx) : List V → Hp → VK → Prop := fun xs H Q => ∃ (D : Addr) (l : List Key), xs = [.ref D] ∧ H D = some (keyS X D l) ∧ l.length < scanBound ∧ Q (.int (l.length : Nat)) H
theorem call_lenK : CallR X (.builtin "len") (rLenK X) := by
  intro pins s σ H xs us Q I r h
  obtain ⟨D, l, rfl, hD, hl, q⟩ := h
  obtain ⟨o, es, ep, t, ho, hex, hd, _, _, hn, hf, hsz⟩ := setK_get I hD
  obtain ⟨u, rfl, ru⟩ := r.one
  cases ru
  have lt : es.size < 4096 := hn
  refine call_len_set (t := t) (es := es) (ep := ep) ho hex hd hf (by omega) ?_
  rw [hsz]
  exact ⟨.int (l.length : Nat), H, (I.tok _).tok _, ⟨_, rfl⟩, q⟩
end
def keyD : D → Option Key
  | .int i => some (.inl i)
  | .str x => some (.inr x)
  | _ => none
def aKyL (g : ATG) (te : ATE) (gd : Own → Prop) (env : AEnv) (P : D → Own → Prop) : List D → List Key → Own → Prop
  | [], acc, own => gd own ∧ acc.length < 4096 ∧ P (.int (acc.length : Nat)) own
  | d :: ds, acc, own => gd own ∧ g d env own fun env1 o1 => te env1 o1 fun r o2 => oP (keyD r) fun k => acc.length + 1 < 4096 ∧ aKyL g te gd env P ds (keyAdd acc k) o2
/-- len({e for t in xs}) -/
def aLenKeys (ti : ATI) (g : ATG) (te : ATE) (vs : List Nat) : ATE := fun env own P => ti env own fun ds gd o => aKyL g te gd (wipeA env vs) P ds [] o
theorem keyD_ok {K : PySem.W.Frag} {G : Hp} {d : D} {v : V} {k : Key} (h : Dt K G d v) (e : keyD d = some k) : v = kV k := by
  cases d <;> unfold keyD at e <;> cases e
  · unfold Dt at h; exact h
  · unfold Dt at h; exact h
section
variable {X : Cx} {w0 : Wd} {elt tg iter : Expr} {scope : Scope} {p spos pos : Pos} {ti : ATI} {g : ATG} {te : ATE}
theorem keys_of {vs : List Nat} {σ : L2.St} {H : Hp} {Q : VK} (h : concE X.K w0 (aLenKeys ti g te vs) σ H Q) :
    tKeys X (concI X.K w0 ti) (concG X.K w0 vs g) (concE X.K w0 te) vs σ H fun v H' => ∃ D l, v = .ref D ∧ H' D = some (keyS X D l) ∧ l.length < scanBound ∧ Q (.int (l.length : Nat)) H' := by
  obtain ⟨env, w, rfl, ok, tr0, er, P, h, k⟩ := h
  refine ⟨env, w, rfl, ok, tr0, er, _, h, fun ds gd w1 J h1 t1 ok1 wk Dl hD => ?_⟩
  have hD0 : w.H Dl = none := t1.fresh hD
  refine ⟨fun i m l H' => ∃ (wc : Wd), wc.H = H' ∧ wc.Ok X.K ∧ Tr w wc ∧ Sub w1.G wc.G ∧ m + i = ds.length ∧ wc.H Dl = some (keyS X Dl l) ∧ wc.G Dl = none ∧ wc.own Dl = none ∧
      aKyL g te gd (wipeA env vs) P (ds.drop i) l wc.own, ⟨ds.length, ⟨w1.own, w1.G, upd w1.H Dl (keyS X Dl [])⟩, rfl, ok1.bare (.inl hD) trivial, t1.bare hD0, Sub.refl _, rfl, upd_same, ok1.noG hD, ok1.noown hD, h1⟩, fun i m l H' hW => ?_⟩
  obtain ⟨wc, rfl, okc, tc, sb, hm, hH, hG, hO, hL⟩ := hW
  cases e : ds.drop i with
  | nil =>
    rw [e] at hL
    have hi' : i = ds.length := by
      have := List.drop_eq_nil_iff.mp e
      omega
    subst hi'
    exact .inl ⟨wk.stop wc okc sb hL.1, hH, Dl, l, rfl, hH, hL.2.1, k _ wc _ hL.2.2 tc okc (by unfold Dt; rfl)⟩
  | cons d dr =>
    rw [e] at hL
    have hlt : i < ds.length := by
      rcases Nat.lt_or_ge i ds.length with q | q
      · exact q
      · rw [List.drop_eq_nil_of_le q] at e; cases e
    have ed : ds[i]? = some d ∧ ds.drop (i + 1) = dr := by
      rw [List.drop_eq_getElem_cons hlt] at e
      injection e with e1 e2
      exact ⟨by rw [List.getElem?_eq_getElem hlt, e1], e2⟩
    refine .inr ⟨wk.go i wc okc sb hL.1 hlt, fun x H2 hy => ?_⟩
    obtain ⟨d', w2, a1, rfl, a3, t2, ok2, dx⟩ := wk.yld i wc x H2 okc sb hL.1 hlt hy
    rw [ed.1] at a1; cases a1
    refine ⟨wipeA env vs, w2, rfl, ok2, (tr0.trans tc).trans t2, ((er.mono (tc.trans t2).gs).wipe vs), d, _, dx, by rw [a3]; exact hL.2, fun env3 w3 σ3 h3 t3 ok3 er3 on3 => ⟨wipe_only on3, ?_⟩⟩
    refine ⟨env3, w3, rfl, ok3, ((tr0.trans tc).trans t2).trans t3, er3, _, h3, fun r w4 y h4 t4 ok4 dy => ?_⟩
    have T4 : Tr wc w4 := (t2.trans t3).trans t4
    have nH : wc.H Dl ≠ none := by rw [hH]; simp
    obtain ⟨kk, ek, room, h5⟩ := oP_some h4
    have b1 := T4.fr Dl _ hH hO
    have b2 := T4.gd Dl hG nH hO
    have b3 := T4.od Dl hO nH
    refine ⟨kk, keyD_ok dy ek, b1, room, m - 1, by omega, ⟨w4.own, w4.G, upd w4.H Dl (keyS X Dl (keyAdd l kk))⟩, rfl, ok4.bare (.inr ⟨b2, b3⟩) trivial, (tc.trans T4).bare hD0, sb.trans T4.gs, by omega, upd_same, b2, b3, by rw [ed.2]; exact h5⟩
theorem ae_lenKeys (own : List (Str × Nat)) (hc : X.calm = true) (hN : X.N.Nodup) (hi : AI X w0 tg iter ti) (ok : BlkOk X.N X.env.scope scope own)
    (hg : ∀ (s : Shared) (H : Hp) (C : Addr) (cl : List (Str × Addr)) (fp : List Addr), AG (X.blk s H scope (compEnvC scope cl C X.env) fp) w0 (own.map (·.2)) tg g)
    (he : ∀ (s : Shared) (H : Hp) (C : Addr) (cl : List (Str × Addr)) (fp : List Addr), AE (X.blk s H scope (compEnvC scope cl C X.env) fp) w0 elt te) (hgl : Gl X "len") (hm : X.mg "len" = none) (hs : ∀ x, foldedSetIterable iter X.env x = pure x := by intro _; rfl)
    (hst : starEach [.SetComp elt [⟨tg, iter, [], 0⟩] scope spos] X.env = (false, eval (.SetComp elt [⟨tg, iter, [], 0⟩] scope spos) X.env) :: starEach [] X.env := by rfl) (hpl : (backTo pos (starEach [] X.env)).any (·.1) = false := by rfl) :
    AE X w0 (.Call (.Name "len" p) [.SetComp elt [⟨tg, iter, [], 0⟩] scope spos] [] pos) (aLenKeys ti g te (own.map (·.2))) := pe_of (pe_callB call_lenK hgl hm rfl (pa_cons (pe_keys (wi := concI X.K w0 ti) (g := concG X.K w0 (own.map (·.2)) g) (te := concE X.K w0 te) hc hN hi ok hg he hs) pa_nil hst) (by decide) (by decide) hst hpl) fun σ H Q h => by
  refine (fun (z : tKeys X (concI X.K w0 ti) (concG X.K w0 (own.map (·.2)) g) (concE X.K w0 te) (own.map (·.2)) σ H fun x H1 => tNil σ H1 fun xs H2 => rLenK X (x :: xs) H2 Q) => z) ?_
  refine Eq.mp (congrArg (fun q => tKeys X (concI X.K w0 ti) (concG X.K w0 (own.map (·.2)) g) (concE X.K w0 te) (own.map (·.2)) σ H q) ?_) (keys_of (vs := own.map (·.2)) h)
  funext v H'
  show (∃ D l, v = V.ref D ∧ _) = (∃ D l, [v] = [V.ref D] ∧ _)
  simp only [List.cons.injEq, and_true]
end
end L3

namespace L3
open PySem PySem.Spec PyProof.Rows L2
/-! ### [e for t in xs for u in ys] -/
def aLc2L (g : ATG) (tt : ATT) (ti1 : ATI) (g1 : ATG) (tt1 : ATT) (te : ATE) (vs1 : List Nat) (gd : Own → Prop) (env : AEnv) (P : List D → Own → Prop) : List D → List D → Own → Prop
  | [], acc, own => gd own ∧ P acc own
  | d :: ds, acc, own => gd own ∧ g d env own fun env1 o1 => tt env1 o1 fun b o2 => match b with
    | true => ti1 env1 o2 fun ds1 gd1 o3 => acc.length + ds1.length ≤ 16777216 ∧ aLcL g1 tt1 te gd1 (wipeA env1 vs1) (fun acc' o => aLc2L g tt ti1 g1 tt1 te vs1 gd env P ds acc' o) ds1 acc o3
    | false => aLc2L g tt ti1 g1 tt1 te vs1 gd env P ds acc o2
def aLc2 (ti : ATI) (g : ATG) (tt : ATT) (ti1 : ATI) (g1 : ATG) (tt1 : ATT) (te : ATE) (vs vs1 : List Nat) : ATN := fun env own P => ti env own fun ds gd o => aLc2L g tt ti1 g1 tt1 te vs1 gd (wipeA env vs) P ds [] o
section
variable {X : Cx} {w0 : Wd}
/-- the walk of one for, the list at Dl growing -/
theorem lcL_walk {g : ATG} {tt : ATT} {te : ATE} {vs : List Nat} {σ : L2.St} {env : AEnv} {wb w w1 : Wd} {ds acc0 : List D} {us0 : List V} {gd : Own → Prop} {J : It} {P : List D → Own → Prop} {Dl : Addr} {Qd : Hp → Prop}
    (wk : Walks X.K w1 J ds gd) (ok1 : w1.Ok X.K) (trb : Tr w0 wb) (tr0 : Tr wb w) (t1 : Tr w w1) (er : EnvR X.K w.G env σ) (hD0 : wb.H Dl = none) (hH : w1.H Dl = some (.lst us0)) (hG : w1.G Dl = none) (hO : w1.own Dl = none) (d0 : Dts X.K w1.G acc0 us0) (hz0 : us0.length + ds.length ≤ 16777216)
    (h1 : aLcL g tt te gd (wipeA env vs) P ds acc0 w1.own)
    (fin : ∀ acc (wc : Wd) us, P acc wc.own → Tr wb wc → Sub w1.G wc.G → wc.Ok X.K → wc.H Dl = some (.lst us) → wc.G Dl = none → wc.own Dl = none → Dts X.K wc.G acc us → Qd wc.H) :
    ∃ W : Nat → Nat → Hp → Prop, (∃ m, W 0 m w1.H) ∧ ∀ i m H, W i m H → (J.stop i H ∧ Qd H) ∨ (J.go i H ∧ ∃ Nx : Hp → Prop, (∀ H', Nx H' → ∃ m', m' < m ∧ W (i + 1) m' H') ∧ ∀ x H', J.yld i H x H' → concG X.K w0 vs g x (L2.wipe σ vs) H' fun σ2 H2 => L2.wipe σ2 vs = L2.wipe σ vs ∧ concT X.K w0 tt σ2 H2 fun b H3 =>
      if b = true then concE X.K w0 te σ2 H3 fun y H4 => ∃ acc, H4 Dl = some (.lst acc) ∧ acc.length < sizeLine ∧ Nx (upd H4 Dl (.lst (acc ++ [y]))) else Nx H3) := by
  refine ⟨fun i m H' => ∃ (wc : Wd) (acc : List D) (us : List V), wc.H = H' ∧ wc.Ok X.K ∧ Tr wb wc ∧ Sub w.G wc.G ∧ Sub w1.G wc.G ∧ m + i = ds.length ∧ wc.H Dl = some (.lst us) ∧ wc.G Dl = none ∧ wc.own Dl = none ∧ Dts X.K wc.G acc us ∧ us.length ≤ us0.length + i ∧
      aLcL g tt te gd (wipeA env vs) P (ds.drop i) acc wc.own, ⟨ds.length, w1, acc0, us0, rfl, ok1, tr0.trans t1, t1.gs, Sub.refl _, rfl, hH, hG, hO, d0, Nat.le_refl _, h1⟩, fun i m H' hW => ?_⟩
  obtain ⟨wc, acc, us, rfl, okc, tc, sw, sb, hm, hH, hG, hO, dacc, hul, hL⟩ := hW
  cases e : ds.drop i with
  | nil =>
    rw [e] at hL
    have hi' : i = ds.length := by
      have := List.drop_eq_nil_iff.mp e
      omega
    subst hi'
    exact .inl ⟨wk.stop wc okc sb hL.1, fin acc wc us hL.2 tc sb okc hH hG hO dacc⟩
  | cons d dr =>
    rw [e] at hL
    have hlt : i < ds.length := by
      rcases Nat.lt_or_ge i ds.length with q | q
      · exact q
      · rw [List.drop_eq_nil_of_le q] at e; cases e
    have ed : ds[i]? = some d ∧ ds.drop (i + 1) = dr := by
      rw [List.drop_eq_getElem_cons hlt] at e
      injection e with e1 e2
      exact ⟨by rw [List.getElem?_eq_getElem hlt, e1], e2⟩
    refine .inr ⟨wk.go i wc okc sb hL.1 hlt, fun H2 => ∃ (w5 : Wd) (acc : List D) (us : List V), w5.H = H2 ∧ w5.Ok X.K ∧ Tr wb w5 ∧ Sub wc.G w5.G ∧ w5.H Dl = some (.lst us) ∧ w5.G Dl = none ∧ w5.own Dl = none ∧ Dts X.K w5.G acc us ∧ us.length ≤ us0.length + (i + 1) ∧ aLcL g tt te gd (wipeA env vs) P dr acc w5.own, fun H2 hn => ?_, fun x H2 hy => ?_⟩
    · obtain ⟨w5, acc', us', e1, e2, e3, e4, e5, e6, e7, e8, e9, e10⟩ := hn
      exact ⟨m - 1, by omega, w5, acc', us', e1, e2, e3, sw.trans e4, sb.trans e4, by omega, e5, e6, e7, e8, e9, by rw [ed.2]; exact e10⟩
    obtain ⟨d', w2, a1, rfl, a3, t2, ok2, dx⟩ := wk.yld i wc x H2 okc sb hL.1 hlt hy
    rw [ed.1] at a1; cases a1
    refine ⟨wipeA env vs, w2, rfl, ok2, trb.trans (tc.trans t2), ((er.mono (sw.trans t2.gs)).wipe vs), d, _, dx, by rw [a3]; exact hL.2, fun env3 w3 σ3 h3 t3 ok3 er3 on3 => ⟨wipe_only on3, ?_⟩⟩
    refine ⟨env3, w3, rfl, ok3, trb.trans ((tc.trans t2).trans t3), er3, _, h3, fun b w4 h4 t4 ok4 => ?_⟩
    have T4 : Tr wc w4 := (t2.trans t3).trans t4
    have nH : wc.H Dl ≠ none := by rw [hH]; simp
    cases b with
    | false => exact iteF ⟨w4, acc, us, rfl, ok4, tc.trans T4, T4.gs, T4.fr Dl _ hH hO, T4.gd Dl hG nH hO, T4.od Dl hO nH, dacc.mono T4.gs, by omega, h4⟩
    | true =>
      refine iteT ⟨env3, w4, rfl, ok4, trb.trans (tc.trans T4), er3.mono t4.gs, _, h4, fun r w5 y h5 t5 ok5 dy => ?_⟩
      have T5 : Tr wc w5 := T4.trans t5
      have b1 := T5.fr Dl _ hH hO
      have b2 := T5.gd Dl hG nH hO
      have b3 := T5.od Dl hO nH
      have sz : sizeLine = 16777216 := sizeLine_eq
      have hz : (us ++ [y]).length ≤ sizeLine := by simp only [List.length_append, List.length_singleton]; omega
      refine ⟨us, b1, by omega, ⟨w5.own, w5.G, upd w5.H Dl (.lst (us ++ [y]))⟩, acc ++ [r], us ++ [y], rfl, ok5.bare (o := .lst (us ++ [y])) (.inr ⟨b2, b3⟩) hz, (tc.trans T5).bare hD0, T5.gs, upd_same, b2, b3, (dacc.mono T5.gs).snoc dy, by simp only [List.length_append, List.length_singleton]; omega, h5⟩
theorem lc2_of {ti ti1 : ATI} {g g1 : ATG} {tt tt1 : ATT} {te : ATE} {vs vs1 : List Nat} {σ : L2.St} {H : Hp} {Q : VK} (h : concN X.K w0 (aLc2 ti g tt ti1 g1 tt1 te vs vs1) σ H Q) :
    tLc2 (concI X.K w0 ti) (concG X.K w0 vs g) (concT X.K w0 tt) (concI X.K w0 ti1) (concG X.K w0 vs1 g1) (concT X.K w0 tt1) (concE X.K w0 te) vs vs1 σ H Q := by
  obtain ⟨env, w, rfl, ok, tr0, er, P, h, k⟩ := h
  refine ⟨env, w, rfl, ok, tr0, er, _, h, fun ds gd w1 J h1 t1 ok1 wk Dl hD => ?_⟩
  have hD1 : w.H Dl = none := t1.fresh hD
  have hD0 : w0.H Dl = none := tr0.fresh hD1
  refine ⟨fun i m H' => ∃ (wc : Wd) (acc : List D) (us : List V), wc.H = H' ∧ wc.Ok X.K ∧ Tr w0 wc ∧ Sub w.G wc.G ∧ Sub w1.G wc.G ∧ m + i = ds.length ∧ wc.H Dl = some (.lst us) ∧ wc.G Dl = none ∧ wc.own Dl = none ∧ Dts X.K wc.G acc us ∧ Tr w wc ∧
      aLc2L g tt ti1 g1 tt1 te vs1 gd (wipeA env vs) P (ds.drop i) acc wc.own, ⟨ds.length, ⟨w1.own, w1.G, upd w1.H Dl (.lst [])⟩, [], [], rfl, ok1.bare (.inl hD) (Nat.zero_le _), (tr0.trans t1).bare hD0, t1.gs, Sub.refl _, rfl, upd_same, ok1.noG hD, ok1.noown hD, .nil, t1.bare hD1, h1⟩, fun i m H' hW => ?_⟩
  obtain ⟨wc, acc, us, rfl, okc, tc, sw, sb, hm, hH, hG, hO, dacc, tw, hL⟩ := hW
  cases e : ds.drop i with
  | nil =>
    rw [e] at hL
    have hi' : i = ds.length := by
      have := List.drop_eq_nil_iff.mp e
      omega
    subst hi'
    exact .inl ⟨wk.stop wc okc sb hL.1, k acc wc Dl us hL.2 tw okc hD1 hH hG hO dacc⟩
  | cons d dr =>
    rw [e] at hL
    have hlt : i < ds.length := by
      rcases Nat.lt_or_ge i ds.length with q | q
      · exact q
      · rw [List.drop_eq_nil_of_le q] at e; cases e
    have ed : ds[i]? = some d ∧ ds.drop (i + 1) = dr := by
      rw [List.drop_eq_getElem_cons hlt] at e
      injection e with e1 e2
      exact ⟨by rw [List.getElem?_eq_getElem hlt, e1], e2⟩
    refine .inr ⟨wk.go i wc okc sb hL.1 hlt, fun H2 => ∃ (w5 : Wd) (acc : List D) (us : List V), w5.H = H2 ∧ w5.Ok X.K ∧ Tr w0 w5 ∧ Sub wc.G w5.G ∧ w5.H Dl = some (.lst us) ∧ w5.G Dl = none ∧ w5.own Dl = none ∧ Dts X.K w5.G acc us ∧ Tr w w5 ∧ aLc2L g tt ti1 g1 tt1 te vs1 gd (wipeA env vs) P dr acc w5.own, fun H2 hn => ?_, fun x H2 hy => ?_⟩
    · obtain ⟨w5, acc', us', e1, e2, e3, e4, e5, e6, e7, e8, e9, e10⟩ := hn
      exact ⟨m - 1, by omega, w5, acc', us', e1, e2, e3, sw.trans e4, sb.trans e4, by omega, e5, e6, e7, e8, e9, by rw [ed.2]; exact e10⟩
    obtain ⟨d', w2, a1, rfl, a3, t2, ok2, dx⟩ := wk.yld i wc x H2 okc sb hL.1 hlt hy
    rw [ed.1] at a1; cases a1
    refine ⟨wipeA env vs, w2, rfl, ok2, tc.trans t2, ((er.mono (sw.trans t2.gs)).wipe vs), d, _, dx, by rw [a3]; exact hL.2, fun env3 w3 σ3 h3 t3 ok3 er3 on3 => ⟨wipe_only on3, ?_⟩⟩
    refine ⟨env3, w3, rfl, ok3, (tc.trans t2).trans t3, er3, _, h3, fun b w4 h4 t4 ok4 => ?_⟩
    have T4 : Tr wc w4 := (t2.trans t3).trans t4
    have nH : wc.H Dl ≠ none := by rw [hH]; simp
    cases b with
    | false => exact iteF ⟨w4, acc, us, rfl, ok4, tc.trans T4, T4.gs, T4.fr Dl _ hH hO, T4.gd Dl hG nH hO, T4.od Dl hO nH, dacc.mono T4.gs, tw.trans T4, h4⟩
    | true =>
      refine iteT ⟨env3, w4, rfl, ok4, tc.trans T4, er3.mono t4.gs, _, h4, fun ds1 gd1 w5 J1 h5 t5 ok5 wk1 => ?_⟩
      have T5 : Tr wc w5 := T4.trans t5
      refine lcL_walk (wb := w) (w := w4) wk1 ok5 tr0 (tw.trans T4) t5 (er3.mono t4.gs) hD1 (T5.fr Dl _ hH hO) (T5.gd Dl hG nH hO) (T5.od Dl hO nH) (dacc.mono T5.gs) (by rw [dacc.length]; exact h5.1) h5.2 fun acc' w6 us' h6 t6 s6 ok6 c1 c2 c3 c4 => ?_
      exact ⟨w6, acc', us', rfl, ok6, tr0.trans t6, T5.gs.trans s6, c1, c2, c3, c4, t6, h6⟩
variable {elt tg iter tg1 iter1 : Expr} {ifs ifs1 : List Expr} {scope : Scope} {pos : Pos} {ti ti1 : ATI} {g g1 : ATG} {tt tt1 : ATT} {te : ATE}
theorem an_lc2 (own : List (Str × Nat)) (vs1 : List Nat) (hc : X.calm = true) (hN : X.N.Nodup) (hi : AI X w0 tg iter ti) (ok : BlkOk X.N X.env.scope scope own) (hv : ∀ i ∈ vs1, i ∈ own.map (·.2))
    (hg : ∀ (s : Shared) (H : Hp) (C : Addr) (cl : List (Str × Addr)) (fp : List Addr), AG (X.blk s H scope (compEnvC scope cl C X.env) fp) w0 (own.map (·.2)) tg g)
    (ht : ∀ (s : Shared) (H : Hp) (C : Addr) (cl : List (Str × Addr)) (fp : List Addr), ATs (X.blk s H scope (compEnvC scope cl C X.env) fp) w0 ifs tt)
    (hi1 : ∀ (s : Shared) (H : Hp) (C : Addr) (cl : List (Str × Addr)) (fp : List Addr), AI (X.blk s H scope (compEnvC scope cl C X.env) fp) w0 tg1 iter1 ti1)
    (hg1 : ∀ (s : Shared) (H : Hp) (C : Addr) (cl : List (Str × Addr)) (fp : List Addr), AG (X.blk s H scope (compEnvC scope cl C X.env) fp) w0 vs1 tg1 g1)
    (ht1 : ∀ (s : Shared) (H : Hp) (C : Addr) (cl : List (Str × Addr)) (fp : List Addr), ATs (X.blk s H scope (compEnvC scope cl C X.env) fp) w0 ifs1 tt1)
    (he : ∀ (s : Shared) (H : Hp) (C : Addr) (cl : List (Str × Addr)) (fp : List Addr), AE (X.blk s H scope (compEnvC scope cl C X.env) fp) w0 elt te) (hs : ∀ x, foldedSetIterable iter X.env x = pure x := by intro _; rfl) (hs1 : ∀ env x, foldedSetIterable iter1 env x = pure x := by intro _ _; rfl) :
    AN X w0 (.ListComp elt [⟨tg, iter, ifs, 0⟩, ⟨tg1, iter1, ifs1, 0⟩] scope pos) (aLc2 ti g tt ti1 g1 tt1 te (own.map (·.2)) vs1) := pe_of (pe_lc2 hc hN hi ok hv hg ht hi1 hg1 ht1 he hs hs1) fun _ _ _ h => lc2_of h
end
end L3

namespace L3
open PySem PySem.Spec PyProof.Rows L2
/-! ### methods of texts and lists -/
def odel (o : Own) (p : Addr) : Own := fun q => if q = p then none else o q
theorem odel_same {o : Own} {p : Addr} : odel o p p = none := by unfold odel; rw [if_pos rfl]
theorem odel_ne {o : Own} {p q : Addr} (h : q ≠ p) : odel o p q = o q := by unfold odel; rw [if_neg h]
/-- xs.extend(ys), ys a list of one's own that is put away -/
def aExt (to te : ATE) : ATE := fun env own P => to env own fun d o1 => ownL o1 d fun _ _ => te env o1 fun e o2 => ownL o2 d fun p ds => ownL o2 e fun q zs => p ≠ q ∧ ds.length + zs.length ≤ 16777216 ∧ P .non (oset (odel o2 q) p (.lst (ds ++ zs)))
/-- a text's method of one text -/
def aMt (f : Str → Str → (D → Prop) → Prop) (to te : ATE) : ATE := fun env own P => to env own fun d o1 => ∃ a, d = .str a ∧ te env o1 fun e o2 => ∃ b, e = .str b ∧ f a b fun z => P z o2
def fEnds (a b : Str) (P : D → Prop) : Prop := P (.bl (Txt.endswith a b))
def fSplit (a b : Str) (P : D → Prop) : Prop := (b.length == 0) = false ∧ a.length + 2 ≤ sizeLine ∧ (Txt.split a b).length ≤ sizeLine ∧ P (.lst ((Txt.split a b).map .str))
def fParti (a b : Str) (P : D → Prop) : Prop := (b.length == 0) = false ∧ a.length ≤ sizeLine ∧ P (.tup [.str (Txt.partition a b).1, .str (Txt.partition a b).2.1, .str (Txt.partition a b).2.2])
def MtS (K : PySem.W.Frag) (r : V → List V → Hp → VK → Prop) (f : Str → Str → (D → Prop) → Prop) : Prop := ∀ (w : Wd) (a b : Str) (P : D → Prop) (Q : VK), w.Ok K → f a b P →
  (∀ z w' v, P z → w'.own = w.own → Tr w w' → w'.Ok K → Dt K w'.G z v → Q v w'.H) → r (.str a) [.str b] w.H Q
/-- what is never reached -/
def aNevE : ATE := fun _ _ _ => False
theorem dts_strs {K : PySem.W.Frag} {G : Hp} : ∀ ys : List Str, Dts K G (ys.map D.str) (ys.map V.str)
  | [] => .nil
  | y :: ys => .cons (by unfold Dt; rfl) (dts_strs ys)
section
variable {X : Cx} {w0 : Wd} {o e : Expr} {to te : ATE} {pos apos : Pos}
theorem ae_nev : AE X w0 e aNevE := ⟨fun _ _ _ _ _ _ h => by
  obtain ⟨env, w, rfl, ok, tr0, er, P, h, k⟩ := h
  exact (h : False).elim⟩
theorem ae_ext (ho : AE X w0 o to) (he : AE X w0 e te) (hbase : attributeBase o "extend" X.env (eval o X.env) = eval o X.env := by rfl)
    (hfew : ((backTo pos (starEach (e :: []) X.env)).all (fun x => !x.1) && (backToKw pos (keywordEach [] X.env)).all (fun x => x.1.isSome)
      && decide ((e :: []).length + ([] : List Keyword).length + (if ([] : List Keyword).isEmpty then 0 else 1) < 30)) = true := by rfl)
    (hline : (apos.endLine == pos.line) = true := by rfl) (hs : starEach (e :: []) X.env = (false, eval e X.env) :: starEach [] X.env := by rfl) (hplain : (backTo pos (starEach [] X.env)).any (·.1) = false := by rfl) :
    AE X w0 (.Call (.Attribute o "extend" apos) [e] [] pos) (aExt to te) := pe_of (pe_bm PySem.F.plainAttrs_list PySem.F.slot_list_extend PySem.F.type_list_extend mt_extend ho (pa_cons he pa_nil hs) hbase hfew hline hs hplain) fun σ H Q h => by
  obtain ⟨env, w, rfl, ok, tr0, er, P, h, k⟩ := h
  refine ⟨env, w, rfl, ok, tr0, er, _, h, fun d w1 x h1 t1 ok1 dx => ?_⟩
  obtain ⟨p, ds0, rfl, e1, h1⟩ := h1
  have ex := dt_ref.mp dx
  subst ex
  obtain ⟨us, a1, a2⟩ := ownL_ok ok1 e1
  refine ⟨.inl ⟨rfl, us, .of a1⟩, env, w1, rfl, ok1, tr0.trans t1, er.mono t1.gs, _, h1, fun d2 w2 y h2 t2 ok2 dy => ?_⟩
  obtain ⟨p', ds, e2, e3, q, zs, rfl, e4, hne, hz, h3⟩ := h2
  cases e2
  have ey := dt_ref.mp dy
  subst ey
  obtain ⟨vs, b1, b2⟩ := ownL_ok ok2 e3
  obtain ⟨us2, c1, c2⟩ := ownL_ok ok2 e4
  refine ⟨p, q, vs, us2, rfl, rfl, b1, c1, by rw [b2.length, c2.length]; have := sizeLine_eq; omega, ?_⟩
  obtain ⟨G', s1, s2, s3, s4⟩ := ok2.still (own' := odel w2.own q) (fun r m e => by
    unfold odel at e
    split at e
    · cases e
    · exact e)
  have r : MoR X.K G' (.lst (ds ++ zs)) (.lst (vs ++ us2)) := (b2.mono s1).append (c2.mono s1)
  obtain ⟨ok3, t3⟩ := s3.mine (p := p) (.inr ⟨.lst ds, (odel_ne hne).trans e3⟩) (show SzOk (.lst (vs ++ us2)) by show (vs ++ us2).length ≤ sizeLine; rw [List.length_append, b2.length, c2.length]; have := sizeLine_eq; omega) r
  exact k .non _ .non h3 ((t1.trans (s4 _ t2)).trans t3) ok3 (dt_non.mpr rfl)
theorem mt_ofM {r : V → List V → Hp → VK → Prop} {f : Str → Str → (D → Prop) → Prop} {σ : L2.St} {H : Hp} {Q : VK} (hs : MtS X.K r f) (h : concE X.K w0 (aMt f to te) σ H Q) : tM1 r (concE X.K w0 to) (concE X.K w0 te) σ H Q := by
  obtain ⟨env, w, rfl, ok, tr0, er, P, h, k⟩ := h
  refine ⟨env, w, rfl, ok, tr0, er, _, h, fun d w1 x h1 t1 ok1 dx => ?_⟩
  obtain ⟨a, rfl, h1⟩ := h1
  have ex := dt_str.mp dx
  subst ex
  refine ⟨⟨a, rfl⟩, env, w1, rfl, ok1, tr0.trans t1, er.mono t1.gs, _, h1, fun e w2 y h2 t2 ok2 dy => ?_⟩
  obtain ⟨b, rfl, h2⟩ := h2
  have ey := dt_str.mp dy
  subst ey
  exact hs w2 a b _ Q ok2 h2 fun z w3 v hz ho t3 ok3 dz => k z w3 v (by rw [ho]; exact hz) ((t1.trans t2).trans t3) ok3 dz
theorem ae_ends (ho : AE X w0 o to) (he : AE X w0 e te) (hs : starEach [e] X.env = [(false, eval e X.env)] := by rfl) (hbase : attributeBase o "endswith" X.env (eval o X.env) = eval o X.env := by rfl) (hline : (apos.endLine == pos.line) = true := by rfl) :
    AE X w0 (.Call (.Attribute o "endswith" apos) [e] [] pos) (aMt fEnds to te) := pe_of (pe_m1 PySem.F.slot_str_endswith PySem.F.type_str_endswith mt_endswith ho he hs hbase hline) fun σ H Q h =>
  mt_ofM (fun w a b P Q ok hf k => ⟨a, b, rfl, rfl, k _ w _ hf rfl (Tr.refl w) ok (by unfold Dt; rfl)⟩) h
theorem ae_split (ho : AE X w0 o to) (he : AE X w0 e te) (hs : starEach [e] X.env = [(false, eval e X.env)] := by rfl) (hbase : attributeBase o "split" X.env (eval o X.env) = eval o X.env := by rfl) (hline : (apos.endLine == pos.line) = true := by rfl) :
    AE X w0 (.Call (.Attribute o "split" apos) [e] [] pos) (aMt fSplit to te) := pe_of (pe_split ho he hs hbase hline) fun σ H Q h =>
  mt_ofM (fun w a b P Q ok ⟨h1, h2, h3, hf⟩ k => ⟨a, b, rfl, rfl, h1, h2, fun p hp => by
    obtain ⟨w2, e1, e2, t2, ok2, d2⟩ := newLst ok hp (dts_strs (Txt.split a b)) (by rw [List.length_map]; exact h3)
    rw [← e1]
    exact k _ w2 _ hf e2 t2 ok2 d2⟩) h
theorem ae_parti (ho : AE X w0 o to) (he : AE X w0 e te) (hs : starEach [e] X.env = [(false, eval e X.env)] := by rfl) (hbase : attributeBase o "partition" X.env (eval o X.env) = eval o X.env := by rfl) (hline : (apos.endLine == pos.line) = true := by rfl) :
    AE X w0 (.Call (.Attribute o "partition" apos) [e] [] pos) (aMt fParti to te) := pe_of (pe_partition ho he hs hbase hline) fun σ H Q h =>
  mt_ofM (fun w a b P Q ok ⟨h1, h2, hf⟩ k => ⟨a, b, rfl, rfl, h1, h2, fun p hp => by
    obtain ⟨w2, e1, e2, t2, ok2, d2⟩ := newTup ok hp (dts_strs [(Txt.partition a b).1, (Txt.partition a b).2.1, (Txt.partition a b).2.2]) (by have := sizeLine_eq; simp only [List.map_cons, List.map_nil, List.length_cons, List.length_nil]; omega)
    rw [← show w2.H = upd w.H p (.tup [V.str (Txt.partition a b).1, V.str (Txt.partition a b).2.1, V.str (Txt.partition a b).2.2]) from e1]
    exact k _ w2 _ hf e2 t2 ok2 d2⟩) h
end
end L3
namespace L3
open PySem PySem.Spec PyProof.Rows L2
def isT (l : List Str) (c : Str) : Bool := l.any fun x => decide (x = c)
/-! ### x += y, x -= y -/
def ipDD : TIp := fun x y H Q => (∃ i j, x = .int i ∧ y = .int j ∧ Q (.int (i + j)) H) ∨ ∃ i j, x = .str i ∧ y = .str j ∧ i.length + j.length ≤ sizeLine ∧ Q (.str (i ++ j)) H
def fIadd : BinF := fun _ d e P => (∃ i j, d = .int i ∧ e = .int j ∧ P (.int (i + j))) ∨ ∃ i j, d = .str i ∧ e = .str j ∧ i.length + j.length ≤ sizeLine ∧ P (.str (i ++ j))
def fIsub : BinF := fun _ d e P => ∃ i j, d = .int i ∧ e = .int j ∧ P (.int (i - j))
section
variable {X : Cx}
theorem ip_addD : PIp X .Add ipDD := by
  intro pins s σ H x y v u Q I r1 r2 h
  rcases h with h | ⟨i, j, rfl, rfl, hz, q⟩
  · exact ip_add pins s σ H x y v u Q I r1 r2 h
  · obtain ⟨t, rfl⟩ := r1
    obtain ⟨t', rfl⟩ := r2
    exact PySem.SB.iadd (fun t2 k => ⟨.str _, H, I.tok _, ⟨_, rfl⟩, q⟩) hz
theorem os_ipAdd {K : PySem.W.Frag} : OpS K ipDD fIadd := by
  intro w d e x y P Q ok dx dy h k
  rcases h with ⟨i, j, rfl, rfl, hp⟩ | ⟨i, j, rfl, rfl, hz, hp⟩
  · have := dt_int.mp dx; subst this
    have := dt_int.mp dy; subst this
    exact .inl ⟨i, j, rfl, rfl, k _ w _ hp rfl (Tr.refl w) ok (by unfold Dt; rfl)⟩
  · have := dt_str.mp dx; subst this
    have := dt_str.mp dy; subst this
    exact .inr ⟨i, j, rfl, rfl, hz, k _ w _ hp rfl (Tr.refl w) ok (by unfold Dt; rfl)⟩
theorem os_ipSub {K : PySem.W.Frag} : OpS K (ipI fun i j => i - j) fIsub := by
  intro w d e x y P Q ok dx dy h k
  obtain ⟨i, j, rfl, rfl, hp⟩ := h
  have := dt_int.mp dx; subst this
  have := dt_int.mp dy; subst this
  exact ⟨i, j, rfl, rfl, k _ w _ hp rfl (Tr.refl w) ok (by unfold Dt; rfl)⟩
end
end L3

namespace L3
open PySem PySem.Spec PyProof.Rows L2
/-! ### a text many times -/
def repS (n : Nat) (z : Str) : Str := ⟨(List.replicate n z.cps.toList).flatten.toArray⟩
theorem foldl_rep (z : Array Nat) : ∀ (n : Nat) (a : Array Nat), (List.replicate n z).foldl (· ++ ·) a = a ++ (List.replicate n z.toList).flatten.toArray
  | 0, a => by simp
  | n + 1, a => by
    rw [List.replicate_succ, List.foldl_cons, foldl_rep z n, List.replicate_succ, List.flatten_cons]
    apply Array.toList_inj.mp
    simp
def rMulN : R2 := fun x y H Q => ∃ z i, x = .str z ∧ y = .int i ∧ 0 ≤ i ∧ i ≤ 65536 ∧ z.length ≤ 256 ∧ Q (.str (repS i.toNat z)) H
theorem op_mulN {X : Cx} : OpR X (binaryOp .Mult) rMulN := by
  intro pins s σ H x y v u Q I rx ry h
  obtain ⟨z, i, rfl, rfl, h0, h1, hz, q⟩ := h
  obtain ⟨t, rfl⟩ := rx
  obtain ⟨t', rfl⟩ := ry
  have he : ∀ n : Nat, z.length = 0 → repS n z = z := fun n e => by
    have e' : z.cps.toList = [] := List.length_eq_zero_iff.mp (by rw [← len_cs]; exact e)
    unfold repS; rw [e']
    apply Str.ext'
    rw [e']; simp
  have hn : i < 2 ^ 63 := Int.lt_of_le_of_lt h1 (by decide)
  have hm : ¬ i < -(2 ^ 63 : Int) := by omega
  refine PySem.P.mul_str (by simp only [Bool.or_eq_false_iff, decide_eq_false_iff_not]; exact ⟨hm, by omega⟩) (fun g e => ?_) (fun g e => ?_) ?_
  · have : (2 ^ 63 - 1) / i ≥ 256 := by
      apply (Int.le_ediv_iff_mul_le (by omega)).mpr
      omega
    omega
  · show decide _ = false
    simp only [decide_eq_false_iff_not]
    have : z.length * i.toNat ≤ 256 * 65536 := Nat.mul_le_mul hz (by omega)
    rw [sizeLine_eq]
    omega
  · by_cases g : i < 1
    · have : i = 0 := by omega
      subst this
      rw [if_pos g]
      exact ⟨by decide, .str Str.empty, H, I.tok _, ⟨_, rfl⟩, q⟩
    rw [if_neg g]
    by_cases e : (i == 1 || z.length == 0) = true
    · rw [if_pos e]
      refine ⟨.str z, H, I, ⟨_, rfl⟩, ?_⟩
      have : repS i.toNat z = z := by
        by_cases e1 : i = 1
        · subst e1
          apply Str.ext'
          show (List.flatten [z.cps.toList]) = _
          simp
        · simp [e1] at e
          exact he _ e
      rw [this] at q; exact q
    · rw [if_neg e, foldl_rep]
      have l : ((List.replicate i.toNat z.cps.toList).flatten.toArray).size ≤ sizeLine := by
        rw [sizeLine_eq]
        simp only [List.size_toArray, List.length_flatten, List.map_replicate, List.sum_replicate_nat]
        have : i.toNat * z.length ≤ 65536 * 256 := Nat.mul_le_mul (by omega) hz
        rw [len_cs] at this
        exact this
      rw [show (#[] : Array Nat) ++ (List.replicate i.toNat z.cps.toList).flatten.toArray = (List.replicate i.toNat z.cps.toList).flatten.toArray from by simp]
      exact ⟨by first | exact l | exact Nat.le_trans l (by decide), .str (repS i.toNat z), H, I.tok _, ⟨_, rfl⟩, q⟩
def fMulN0 : D → D → (D → Prop) → Prop
  | .str z, .int i, P => 0 ≤ i ∧ i ≤ 65536 ∧ z.length ≤ 256 ∧ P (.str (repS i.toNat z))
  | _, _, _ => False
def fMulN : BinF := fun own d e P => fMulN0 (see own d) (see own e) P
theorem os_mulN {K : PySem.W.Frag} : OpS K rMulN fMulN := by
  intro w d e x y P Q ok dx dy h k
  have sx := see_ok ok dx
  have sy := see_ok ok dy
  unfold fMulN at h
  generalize see w.own d = d' at h sx
  generalize see w.own e = e' at h sy
  match d', e', h, sx, sy with
  | .str z, .int j, h, sx, sy => exact ⟨z, j, dv_str.mp sx, dv_int.mp sy, h.1, h.2.1, h.2.2.1, ops_val ok k h.2.2.2 (dt_str.mpr rfl)⟩
theorem ae_mulN {X : Cx} {w0 : Wd} {a b : Expr} {ta tb : ATE} {pos : Pos} (ha : AE X w0 a ta) (hb : AE X w0 b tb) : AE X w0 (.BinOp a .Mult b pos) (aBin fMulN ta tb) := ae_op op_mulN os_mulN ha hb
@[simp] theorem x_mulN {own : Own} {i : Str} {j : Int} {Q : D → Prop} : fMulN own (.str i) (.int j) Q = (0 ≤ j ∧ j ≤ 65536 ∧ i.length ≤ 256 ∧ Q (.str (repS j.toNat i))) := (rfl)
/-! ### x == [], x == () -/
def rEqE (K : PySem.W.Frag) : R2 := fun x y H Q => ∃ l b xs, x = .ref l ∧ y = .ref b ∧ ((SqL K H l xs ∧ SqL K H b []) ∨ (SqT K H l xs ∧ SqT K H b [])) ∧ Q (.bl xs.isEmpty) H
theorem op_eqE {X : Cx} (hu : X.A.units < cLine) : OpR X (compareOp .Eq) (rEqE X.K) := by
  intro pins s σ H x y v u Q I rx ry h
  obtain ⟨l, b, xs, rfl, rfl, h, q⟩ := h
  cases rx
  cases ry
  rcases h with ⟨h1, h2⟩ | ⟨h1, h2⟩
  · obtain ⟨i1, r1, p1, _⟩ := I.list h1
    obtain ⟨i2, r2, p2, _⟩ := I.list h2
    cases r2
    have e : i1.isEmpty = xs.isEmpty := by cases r1 <;> rfl
    cases hx : xs.isEmpty with
    | true =>
      rw [hx] at e q
      have : i1 = [] := by simpa using e
      subst this
      exact SeqAt.eq_listAt (e := fun _ => true) p1.isList p2.isList rfl hu (fun j h1 _ => absurd h1 (by simp)) ⟨.bl _, H, I, rfl, q⟩
    | false =>
      rw [hx] at e q
      exact SeqAt.eq_list_lengthsAt p1.isList p2.isList (by cases i1 with | nil => cases e | cons a t => rfl) hu ⟨.bl _, H, I, rfl, q⟩
  · obtain ⟨i1, r1, p1, _⟩ := I.tuple h1
    obtain ⟨i2, r2, p2, _⟩ := I.tuple h2
    cases r2
    have e : i1.isEmpty = xs.isEmpty := by cases r1 <;> rfl
    refine SeqAt.eq_tupleAt (e := fun _ => true) (items := i1.toArray) (items2 := ([] : List Value).toArray) p1 p2 hu (fun j h1 h2 => absurd h2 (by simp)) ?_
    have : ((List.range (min i1.toArray.size ([] : List Value).toArray.size)).all (fun _ => true) && i1.toArray.size == ([] : List Value).toArray.size) = xs.isEmpty := by
      rw [← e]; cases i1 <;> simp
    rw [this]
    exact ⟨.bl _, H, I, rfl, q⟩
def fEqE0 : D → D → (D → Prop) → Prop
  | .lst ds, .lst [], P => P (.bl ds.isEmpty)
  | .tup ds, .tup [], P => P (.bl ds.isEmpty)
  | _, _, _ => False
def fEqE : BinF := fun own d e P => fEqE0 (see own d) (see own e) P
theorem os_eqE {K : PySem.W.Frag} : OpS K (rEqE K) fEqE := by
  intro w d e x y P Q ok dx dy h k
  have sx := see_ok ok dx
  have sy := see_ok ok dy
  unfold fEqE at h
  generalize see w.own d = d' at h sx
  generalize see w.own e = e' at h sy
  match d', e', h, sx, sy with
  | .lst ds, .lst [], h, sx, sy =>
    obtain ⟨a, vs, rfl, e1, e2⟩ := sx
    obtain ⟨b, us, rfl, f1, f2⟩ := sy
    unfold Dts at f2
    subst f2
    refine ⟨a, b, vs, rfl, rfl, .inl ⟨.inl e1, .inl f1⟩, ops_val ok k ?_ (dt_bl.mpr rfl)⟩
    rw [← isEmpty_dts e2]; exact h
  | .tup ds, .tup [], h, sx, sy =>
    obtain ⟨a, vs, rfl, e1, e2⟩ := sx
    obtain ⟨b, us, rfl, f1, f2⟩ := sy
    unfold Dts at f2
    subst f2
    refine ⟨a, b, vs, rfl, rfl, .inr ⟨e1, f1⟩, ops_val ok k ?_ (dt_bl.mpr rfl)⟩
    rw [← isEmpty_dts e2]; exact h
theorem ae_eqE {X : Cx} {w0 : Wd} {a b : Expr} {ta tb : ATE} {pos : Pos} {k : Nat} (hr : Room k X.A) (ha : AE X w0 a ta) (hb : AE X w0 b tb) : AE X w0 (.Compare a [.Eq] [b] pos) (aBin fEqE ta tb) := ae_cmp (op_eqE (by have := hr.units; omega)) os_eqE ha hb (nomark _)
theorem at_eqE {X : Cx} {w0 : Wd} {a b : Expr} {ta tb : ATE} {pos : Pos} {k : Nat} (hr : Room k X.A) (ha : AE X w0 a ta) (hb : AE X w0 b tb) : AT X w0 (.Compare a [.Eq] [b] pos) (aB (aBin fEqE ta tb)) := at_cmp (op_eqE (by have := hr.units; omega)) os_eqE ha hb (nomark _)
@[simp] theorem x_eqE {own : Own} {d e : D} {Q : D → Prop} : fEqE own d e Q = fEqE0 (see own d) (see own e) Q := (rfl)
@[simp] theorem x_eqEL {ds : List D} {Q : D → Prop} : fEqE0 (.lst ds) (.lst []) Q = Q (.bl ds.isEmpty) := (rfl)
@[simp] theorem x_eqET {ds : List D} {Q : D → Prop} : fEqE0 (.tup ds) (.tup []) Q = Q (.bl ds.isEmpty) := (rfl)
end L3

namespace L3
open PySem PySem.Spec PyProof.Rows L2
/-! ### more of what simp takes apart -/
section
variable {env : AEnv} {own : Own} {E : AEnds} {EX : XP} {t u : ATE} {ta tk : ATA} {n m : Nat} {P : D → Own → Prop} {S : SpecX} {dvs : List D} {pm : List Nat} {tab : Str → Option D} {a : Addr} {z : Str} {i j : Int} {x y : Str} {Q : D → Prop}
@[simp] theorem x_callX : aCallX S EX dvs ta env own P = ta env own fun ds o => S (ds ++ dvs) o P EX := (rfl)
@[simp] theorem x_callXP : aCallXP S EX n m dvs pm ta tk env own P = ta env own fun ds o => tk env o fun zs o2 => ds.length = n ∧ zs.length = m ∧ S (arr pm (ds ++ (zs ++ dvs))) o2 P EX := (rfl)
@[simp] theorem x_andV : aAndV t u env own P = t env own fun d o => match d with
  | .bl true => u env o P
  | .bl false => P (.bl false) o
  | _ => False := (rfl)
@[simp] theorem x_orV : aOrV t u env own P = t env own fun d o => match d with
  | .bl true => P (.bl true) o
  | .bl false => u env o P
  | _ => False := (rfl)
@[simp] theorem x_notV : aNotV t env own P = t env own fun d o => match d with
  | .bl b => P (.bl (!b)) o
  | _ => False := (rfl)
@[simp] theorem x_iaddI : fIadd own (.int i) (.int j) Q = Q (.int (i + j)) := by simp [fIadd]
@[simp] theorem x_iaddS : fIadd own (.str x) (.str y) Q = (x.length + y.length ≤ 16777216 ∧ Q (.str (x ++ y))) := by simp [fIadd]
@[simp] theorem x_isubI : fIsub own (.int i) (.int j) Q = Q (.int (i - j)) := by simp [fIsub]
@[simp] theorem x_inTab {b : Bool} : fInTab tab a b own (.str z) (.ref a) Q = Q (.bl (if b then !(tab z).isSome else (tab z).isSome)) := by simp [fInTab]
@[simp] theorem x_ixTabD : fIxTab tab a own (.ref a) (.str z) Q = oP (tab z) Q := by simp [fIxTab]
@[simp] theorem x_raise {c : Str} : aRaise EX c E env own = EX c none own := (rfl)
@[simp] theorem x_while {c : ATT} {b : ATS} : aWhile c b E env own = ∃ k, aWhl c b E k env own := (rfl)
theorem x_whlS {c : ATT} {b : ATS} : aWhl c b E (n + 1) env own = c env own fun q o => match q with
    | true => b { nx := aWhl c b E n, rt := E.rt, bk := E.nx, ct := aWhl c b E n } env o
    | false => E.nx env o := (rfl)
@[simp] theorem x_aug {f : BinF} : aAug f n t E env own = match eg env n with
  | some d => t env own fun e o => f o d e fun z => E.nx (env.set n (some z)) o
  | none => False := (rfl)
@[simp] theorem x_mt {f : Str → Str → (D → Prop) → Prop} : aMt f t u env own P = t env own fun d o1 => ∃ a, d = .str a ∧ u env o1 fun e o2 => ∃ b, e = .str b ∧ f a b fun z => P z o2 := (rfl)
end
/-! ### x != [] -/
def rNeE (K : PySem.W.Frag) : R2 := fun x y H Q => ∃ l b xs, x = .ref l ∧ y = .ref b ∧ ((SqL K H l xs ∧ SqL K H b []) ∨ (SqT K H l xs ∧ SqT K H b [])) ∧ Q (.bl (!xs.isEmpty)) H
theorem op_neE {X : Cx} (hu : X.A.units < cLine) : OpR X (compareOp .NotEq) (rNeE X.K) := by
  intro pins s σ H x y v u Q I rx ry h
  obtain ⟨l, b, xs, rfl, rfl, h, q⟩ := h
  cases rx
  cases ry
  rcases h with ⟨h1, h2⟩ | ⟨h1, h2⟩
  · obtain ⟨i1, r1, p1, _⟩ := I.list h1
    obtain ⟨i2, r2, p2, _⟩ := I.list h2
    cases r2
    have e : i1.isEmpty = xs.isEmpty := by cases r1 <;> rfl
    cases hx : xs.isEmpty with
    | true =>
      rw [hx] at e q
      have : i1 = [] := by simpa using e
      subst this
      exact SeqAt.RcNeAt.lists (e := fun _ => true) p1.isList p2.isList rfl hu (fun j h1 _ => absurd h1 (by simp)) _ _ _ _ ⟨.bl _, H, I, rfl, q⟩
    | false =>
      rw [hx] at e q
      exact SeqAt.RcNeAt.lists_lengths p1.isList p2.isList (by cases i1 with | nil => cases e | cons a t => rfl) hu _ _ _ _ ⟨.bl _, H, I, rfl, q⟩
  · obtain ⟨i1, r1, p1, _⟩ := I.tuple h1
    obtain ⟨i2, r2, p2, _⟩ := I.tuple h2
    cases r2
    have e : i1.isEmpty = xs.isEmpty := by cases r1 <;> rfl
    refine SeqAt.RcNeAt.tuples (e := fun _ => true) (items := i1.toArray) (items2 := ([] : List Value).toArray) p1 p2 hu (fun j h1 h2 => absurd h2 (by simp)) _ _ _ _ ?_
    have : ((List.range (min i1.toArray.size ([] : List Value).toArray.size)).all (fun _ => true) && i1.toArray.size == ([] : List Value).toArray.size) = xs.isEmpty := by
      rw [← e]; cases i1 <;> simp
    rw [this]
    exact ⟨.bl _, H, I, rfl, q⟩
def fNeE : BinF := fun own d e P => fEqE0 (see own d) (see own e) fun z => match z with
  | .bl b => P (.bl (!b))
  | _ => False
theorem os_neE {K : PySem.W.Frag} : OpS K (rNeE K) fNeE := by
  intro w d e x y P Q ok dx dy h k
  have sx := see_ok ok dx
  have sy := see_ok ok dy
  unfold fNeE at h
  generalize see w.own d = d' at h sx
  generalize see w.own e = e' at h sy
  match d', e', h, sx, sy with
  | .lst ds, .lst [], h, sx, sy =>
    obtain ⟨a, vs, rfl, e1, e2⟩ := sx
    obtain ⟨b, us, rfl, f1, f2⟩ := sy
    unfold Dts at f2
    subst f2
    refine ⟨a, b, vs, rfl, rfl, .inl ⟨.inl e1, .inl f1⟩, ops_val ok k ?_ (dt_bl.mpr rfl)⟩
    rw [← isEmpty_dts e2]; exact h
  | .tup ds, .tup [], h, sx, sy =>
    obtain ⟨a, vs, rfl, e1, e2⟩ := sx
    obtain ⟨b, us, rfl, f1, f2⟩ := sy
    unfold Dts at f2
    subst f2
    refine ⟨a, b, vs, rfl, rfl, .inr ⟨e1, f1⟩, ops_val ok k ?_ (dt_bl.mpr rfl)⟩
    rw [← isEmpty_dts e2]; exact h
theorem ae_neE {X : Cx} {w0 : Wd} {a b : Expr} {ta tb : ATE} {pos : Pos} {k : Nat} (hr : Room k X.A) (ha : AE X w0 a ta) (hb : AE X w0 b tb) : AE X w0 (.Compare a [.NotEq] [b] pos) (aBin fNeE ta tb) := ae_cmp (op_neE (by have := hr.units; omega)) os_neE ha hb (nomark _)
theorem at_neE {X : Cx} {w0 : Wd} {a b : Expr} {ta tb : ATE} {pos : Pos} {k : Nat} (hr : Room k X.A) (ha : AE X w0 a ta) (hb : AE X w0 b tb) : AT X w0 (.Compare a [.NotEq] [b] pos) (aB (aBin fNeE ta tb)) := at_cmp (op_neE (by have := hr.units; omega)) os_neE ha hb (nomark _)
@[simp] theorem x_neE {own : Own} {d e : D} {Q : D → Prop} : fNeE own d e Q = fEqE0 (see own d) (see own e) fun z => match z with
  | .bl b => Q (.bl (!b))
  | _ => False := (rfl)
/-- filters -/
theorem lc_filt {g : ATG} {tt : ATT} {te : ATE} {gd : Own → Prop} {env : AEnv} {own : Own} {P : List D → Own → Prop} {α : Type} (f : α → D) (c : α → Bool) (h : α → D) : ∀ {l : List α} {acc : List D}, gd own → (∀ a ∈ l, ∀ (Q : D → Own → Prop) (R : Own → Prop), (c a = true → Q (h a) own) → (c a = false → R own) → g (f a) env own fun env1 o1 => tt env1 o1 fun b o2 => match b with | true => te env1 o2 Q | false => R o2) → P (acc ++ (l.filter c).map h) own → aLcL g tt te gd env P (l.map f) acc own
  | [], acc, hg, _, hp => ⟨hg, by simpa using hp⟩
  | a :: l, acc, hg, hh, hp => by
    refine ⟨hg, hh a (List.mem_cons_self ..) _ _ (fun q => ?_) fun q => ?_⟩
    · exact lc_filt f c h hg (fun b hb => hh b (List.mem_cons_of_mem _ hb)) (by simpa [List.filter_cons, q] using hp)
    · exact lc_filt f c h hg (fun b hb => hh b (List.mem_cons_of_mem _ hb)) (by simpa [List.filter_cons, q] using hp)
theorem hasD_strs {x : Str} : ∀ {l : List Str}, hasD (.str x) (l.map D.str) = decide (x ∈ l)
  | [] => rfl
  | y :: l => by
    rw [List.map_cons, has_cons, eqD_str, hasD_strs (l := l)]
    by_cases e : y = x
    · subst e; simp
    · have e' : ¬ x = y := fun z => e z.symm
      have : (y == x) = false := by simpa using e
      simp [this, e']
end L3

namespace L3
open PySem PySem.Spec PyProof.Rows L2
/-! ### the end of a law with lambdas: where their code and tables stand -/
theorem dropT_sub {K : PySem.W.Frag} {lam : List Str} {a : Addr} {o : Obj} (e : (dropT K lam).lookup a = some o) : K.lookup a = some o := by
  unfold dropT at e
  rw [lookup_filter (p := fun a => !((tabsL K lam).any fun q => q.2.2 == a))] at e
  split at e
  · exact e
  · cases e
theorem hasC_tab {K : PySem.W.Frag} {lam : List Str} {h : Heap} {mg : Str → Option Value} {x : Str} {st : Stmt} {c P : Addr} (KX : K.In h) (G : h.Ns mainGlobals mg) (F : Has (dropT K lam) mg x st) (ht : PySem.W.tabIn K x = some (c, P)) : HasC (dropT K lam) mg x st c := by
  obtain ⟨f, fd, F, hm⟩ := F
  refine ⟨f, fd, F, hm, ?_⟩
  obtain ⟨oc, od, dV, kV, doc, pm, an, cdv, ct, osl, rfl, lk, _⟩ := F.ex
  have lk := dropT_sub lk
  unfold PySem.W.tabIn at ht
  split at ht
  · rename_i f' hf
    have e1 := PySem.W.mg_of KX G hf
    rw [hm] at e1
    cases e1
    split at ht
    · rename_i hfo
      rw [lk] at hfo
      cases hfo
      split at ht
      · rename_i c2 hc
        split at ht
        · split at ht
          · cases ht; exact hc
          · cases ht
        · cases ht
      · cases ht
    · cases ht
  · cases ht
theorem own0_one {K : PySem.W.Frag} {x : Str} {c P : Addr} (ht : PySem.W.tabIn K x = some (c, P)) : own0 K [x] P = some (.tbl (lamQ x)) := by
  unfold own0 tabsL
  simp [ht]
theorem tabs_one {K : PySem.W.Frag} {x : Str} {c P : Addr} (ht : PySem.W.tabIn K x = some (c, P)) : (x, c, P) ∈ tabsL K [x] := by
  unfold tabsL
  simp [ht]
theorem alls_of {cs : List Str} {f : Str → Bool} (h : cs.all f = true) : ∀ c ∈ cs, f c = true := List.all_eq_true.mp h
theorem allD_of {cs : List Str} {p : Str → Prop} [DecidablePred p] (h : cs.all (fun c => decide (p c)) = true) : ∀ c ∈ cs, p c := fun c hc => of_decide_eq_true (List.all_eq_true.mp h c hc)
end L3

/-! printed by gen.py from the row's text -/
namespace R86
open PySem PySem.Spec PyProof.Rows L2 L3
def top (i : Nat) : Stmt := PySem.Challenge.pw_smallreaders_k86_written_ones_read_back.main.body.getD i (.Pass ⟨0, 0, 0, 0⟩)
def d_SIGNS : D := .str L3.printable
def d_LETTERS : D := (.str "abcdefghijklmnopqrstuvwxyz")
def d_MOST_LETTERS : D := (.int 8)
def d_MOST_SIGNS : D := (.int 94)
def d_MOST_DEEP : D := (.int 8)
def d_LEAST_PARTS : D := (.int 2)
def d_MOST_PARTS_readers : D := (.int 6)
def d_MAKES : D := (.tup [(.str "text"), (.str "drop"), (.str "count"), (.str "number")])
def tab_FORMS : Str → Option D := fun z => if z = "nothing" then some (.str "") else if z = "never" then some (.str "") else if z = "sign" then some (.str "s") else if z = "but" then some (.str "b") else if z = "row" then some (.str "p") else if z = "choice" then some (.str "p") else if z = "many" then some (.str "r") else if z = "maybe" then some (.str "r") else if z = "ahead" then some (.str "r") else if z = "not" then some (.str "r") else if z = "name" then some (.str "n") else if z = "hold" then some (.str "nr") else if z = "again" then some (.str "n") else if z = "tag" then some (.str "nr") else if z = "make" then some (.str "wr") else none
def d_MOST_NAMES : D := (.int 8)
def d_MOST_PARTS_books : D := (.int 80)
def d_CALLS : D := (.str "name")
def d_MOST_BRACKETS : D := (.int 12)
def tab_BEHIND : Str → Option D := fun z => if z = ":" then some (.str "hold") else if z = "@" then some (.str "tag") else if z = "#" then some (.str "make") else none
def tab_AHEAD : Str → Option D := fun z => if z = "&" then some (.str "ahead") else if z = "!" then some (.str "not") else none
def tab_AFTER : Str → Option D := fun z => if z = "*" then some (.str "many") else if z = "?" then some (.str "maybe") else none
def tab_TELLS : Str → Option D := fun z => if z = "n" then some (.str "\n") else if z = "]" then some (.str "]") else if z = "^" then some (.str "^") else if z = "\\" then some (.str "\\") else none
def tab_ESCAPED : Str → Option D := fun z => if z = "\n" then some (.str "\\n") else if z = "]" then some (.str "\\]") else if z = "^" then some (.str "\\^") else if z = "\\" then some (.str "\\\\") else none
def d_TIGHT : D := (.tup [(.str "many"), (.str "maybe"), (.str "ahead"), (.str "not"), (.str "hold"), (.str "tag"), (.str "make")])
def tab_MARKS : Str → Option D := fun z => if z = "hold" then some (.str ":") else if z = "tag" then some (.str "@") else if z = "make" then some (.str "#") else none
abbrev s_is_text : Stmt := top 15
abbrev N_is_text : List Str := ["thing", "most", "sign"]
abbrev P_is_text : List Str := ["thing", "most"]
abbrev s_is_signs : Stmt := top 16
abbrev N_is_signs : List Str := ["thing", "least", "sign", "later"]
abbrev P_is_signs : List Str := ["thing", "least"]
abbrev s_is_name : Stmt := top 17
abbrev N_is_name : List Str := ["thing", "sign"]
abbrev P_is_name : List Str := ["thing"]
abbrev s_is_piece : Stmt := top 24
abbrev N_is_piece : List Str := ["form", "thing", "left", "part"]
abbrev P_is_piece : List Str := ["form", "thing", "left"]
abbrev s_is_formed : Stmt := top 25
abbrev N_is_formed : List Str := ["thing", "left", "word", "pieces", "form", "piece"]
abbrev P_is_formed : List Str := ["thing", "left"]
abbrev s_is_reader : Stmt := top 26
abbrev N_is_reader : List Str := ["thing"]
abbrev P_is_reader : List Str := ["thing"]
abbrev s_within : Stmt := top 27
abbrev N_within : List Str := ["reader", "word", "pieces"]
abbrev P_within : List Str := ["reader"]
abbrev s_all_within : Stmt := top 28
abbrev N_all_within : List Str := ["reader", "found", "part"]
abbrev P_all_within : List Str := ["reader"]
abbrev s_are_named : Stmt := top 33
abbrev N_are_named : List Str := ["thing", "pair", "name", "reader"]
abbrev P_are_named : List Str := ["thing"]
abbrev s_is_right : Stmt := top 34
abbrev N_is_right : List Str := ["names", "reader", "part"]
abbrev P_is_right : List Str := ["names", "reader"]
abbrev s_first_wrong : Stmt := top 35
abbrev N_first_wrong : List Str := ["pairs", "names", "wrong", "name", "reader"]
abbrev P_first_wrong : List Str := ["pairs"]
abbrev s_parts_of : Stmt := top 36
abbrev N_parts_of : List Str := ["book", "name", "reader", "part"]
abbrev P_parts_of : List Str := ["book"]
abbrev s_book_of : Stmt := top 37
abbrev N_book_of : List Str := ["pairs", "wrong"]
abbrev P_book_of : List Str := ["pairs"]
abbrev s_need : Stmt := top 44
abbrev N_need : List Str := ["truth"]
abbrev P_need : List Str := ["truth"]
abbrev s_letters_at : Stmt := top 45
abbrev N_letters_at : List Str := ["text", "at", "end"]
abbrev P_letters_at : List Str := ["text", "at"]
abbrev s_sign_at : Stmt := top 46
abbrev N_sign_at : List Str := ["text", "at", "sign"]
abbrev P_sign_at : List Str := ["text", "at"]
abbrev s_signs_at : Stmt := top 47
abbrev N_signs_at : List Str := ["text", "at", "word", "found", "sign"]
abbrev P_signs_at : List Str := ["text", "at"]
abbrev s_atom_at : Stmt := top 48
abbrev N_atom_at : List Str := ["text", "at", "left", "first", "found", "end", "name"]
abbrev P_atom_at : List Str := ["text", "at", "left"]
abbrev s_item_at : Stmt := top 49
abbrev N_item_at : List Str := ["text", "at", "left", "first", "found", "end", "mark", "part"]
abbrev P_item_at : List Str := ["text", "at", "left"]
abbrev s_row_at : Stmt := top 50
abbrev N_row_at : List Str := ["text", "at", "left", "found", "end", "items", "first", "more"]
abbrev P_row_at : List Str := ["text", "at", "left"]
abbrev s_choice_at : Stmt := top 51
abbrev N_choice_at : List Str := ["text", "at", "left", "found", "end", "rows", "first", "more"]
abbrev P_choice_at : List Str := ["text", "at", "left"]
abbrev s_read_reader : Stmt := top 52
abbrev N_read_reader : List Str := ["text", "found", "end"]
abbrev P_read_reader : List Str := ["text"]
abbrev s_pair_in : Stmt := top 53
abbrev N_pair_in : List Str := ["line", "name", "mark", "rest"]
abbrev P_pair_in : List Str := ["line"]
abbrev s_read_book : Stmt := top 54
abbrev N_read_book : List Str := ["text", "lines", "last", "pairs", "e", "line"]
abbrev P_read_book : List Str := ["text"]
abbrev s_show_signs : Stmt := top 59
abbrev N_show_signs : List Str := ["signs", "sign"]
abbrev P_show_signs : List Str := ["signs"]
abbrev s_show_within : Stmt := top 60
abbrev N_show_within : List Str := ["reader", "but"]
abbrev P_show_within : List Str := ["reader", "but"]
abbrev s_show_plain : Stmt := top 61
abbrev N_show_plain : List Str := ["word", "pieces"]
abbrev P_show_plain : List Str := ["word", "pieces"]
abbrev s_show_reader : Stmt := top 62
abbrev N_show_reader : List Str := ["reader", "word", "pieces", "names", "part", "shown"]
abbrev P_show_reader : List Str := ["reader"]
abbrev s_show_book : Stmt := top 63
abbrev N_show_book : List Str := ["book", "name", "reader"]
abbrev P_show_book : List Str := ["book"]
abbrev s_law_start : Stmt := top 65
abbrev N_law_start : List Str := ["_law_script"]
abbrev P_law_start : List Str := ["_law_script"]
abbrev s_law_draw : Stmt := top 66
abbrev N_law_draw : List Str := ["_law_pen", "_law_many", "_law_gone", "_law_cell", "_law_low", "_law_high", "_law_digit"]
abbrev P_law_draw : List Str := ["_law_pen", "_law_many"]
abbrev s_law_label : Stmt := top 67
abbrev N_law_label : List Str := ["_law_pen", "_law_letters", "_law_known", "_law_size_here", "_law_spelt", "_law_pick", "_law_k"]
abbrev P_law_label : List Str := ["_law_pen"]
abbrev s_law_signs : Stmt := top 68
abbrev N_law_signs : List Str := ["_law_pen", "_law_least", "_law_every", "_law_share", "_law_some", "_law_sign"]
abbrev P_law_signs : List Str := ["_law_pen", "_law_least"]
abbrev s_law_bare : Stmt := top 69
abbrev N_law_bare : List Str := ["_law_pen", "_law_labels", "_law_way", "_law_some"]
abbrev P_law_bare : List Str := ["_law_pen", "_law_labels"]
abbrev s_law_any : Stmt := top 70
abbrev N_law_any : List Str := ["_law_pen", "_law_deep", "_law_purse", "_law_labels", "_law_way", "_law_part", "_law_many", "_law_parts", "_law_k"]
abbrev P_law_any : List Str := ["_law_pen", "_law_deep", "_law_purse", "_law_labels"]
abbrev s_law_size : Stmt := top 71
abbrev N_law_size : List Str := ["_law_piece", "_law_part"]
abbrev P_law_size : List Str := ["_law_piece"]
abbrev s_law_pages : Stmt := top 72
abbrev N_law_pages : List Str := ["_law_pen", "_law_labels", "_law_k", "_law_purse", "_law_found", "_law_label_here", "_law_piece"]
abbrev P_law_pages : List Str := ["_law_pen"]
abbrev s_law_mark : Stmt := top 73
abbrev N_law_mark : List Str := ["_law_sign"]
abbrev P_law_mark : List Str := ["_law_sign"]
abbrev s_law_shown_in : Stmt := top 74
abbrev N_law_shown_in : List Str := ["_law_piece", "_law_words"]
abbrev P_law_shown_in : List Str := ["_law_piece", "_law_words"]
abbrev s_law_shown : Stmt := top 75
abbrev N_law_shown : List Str := ["_law_piece", "_law_tight", "_law_marks", "_law_word", "_law_part", "_law_sign"]
abbrev P_law_shown : List Str := ["_law_piece"]
abbrev s_law_heard : Stmt := top 76
abbrev N_law_heard : List Str := ["_law_asker", "_law_found", "_law_caught", "_law_some", "_law_word", "e", "_law_alone"]
abbrev P_law_heard : List Str := ["_law_asker"]
abbrev s_law_wide : Stmt := top 77
abbrev N_law_wide : List Str := ["_law_pen", "_law_reader", "_law_left", "_law_word", "_law_more", "_law_told", "_law_tight", "_law_part", "_law_marks"]
abbrev P_law_wide : List Str := ["_law_pen", "_law_reader", "_law_left"]
abbrev s_law_wide_in : Stmt := top 78
abbrev N_law_wide_in : List Str := ["_law_pen", "_law_reader", "_law_words", "_law_left", "_law_told"]
abbrev P_law_wide_in : List Str := ["_law_pen", "_law_reader", "_law_words", "_law_left"]
abbrev s_law_is_in_brackets : Stmt := top 79
abbrev N_law_is_in_brackets : List Str := ["_law_told", "_law_deep", "_law_square", "_law_k"]
abbrev P_law_is_in_brackets : List Str := ["_law_told"]
abbrev s_law_is_escaped : Stmt := top 80
abbrev N_law_is_escaped : List Str := ["_law_told", "_law_spot", "_law_many"]
abbrev P_law_is_escaped : List Str := ["_law_told", "_law_spot"]
abbrev s_law_reader_right : Stmt := top 81
abbrev N_law_reader_right : List Str := ["_law_pen", "_law_whole", "_law_wide_here", "_law_told", "_law_deep"]
abbrev P_law_reader_right : List Str := ["_law_pen", "_law_whole"]
abbrev s_law : Stmt := top 82
abbrev N_law : List Str := ["_law_script", "_law_pen", "_law_turn", "_law_pages_here", "_law_label_here", "_law_whole", "_law_told", "_law_wide_here", "_law_loose"]
abbrev P_law : List Str := ["_law_script"]
theorem sc_is_text : FnScope N_is_text P_is_text (defScope s_is_text) := ⟨rfl, rfl, rfl, by decide +kernel, rfl, by decide +kernel, by decide +kernel⟩
def T_is_text : ATS :=
  (aRet (aAndV (aFn fIsi (aCons (aV 0) (aCons (aC (.ty "str")) aNil))) (aAndV (aBin fLe (aFn (f1 gLen) (aCons (aV 0) aNil)) (aV 1)) (aFn (f1 gAll) (aCons (aFz (aLc (aIt (aV 0)) (gN 2) aYes (aBin (fIn false) (aV 2) (aC d_SIGNS)) [2])) aNil)))))
theorem w_is_text {P : Program} {w : World} {K : PySem.W.Frag} {mg : Str → Option Value} {base : Heap} {k : Nat}
    (t_SIGNS : GloD K mg "SIGNS" d_SIGNS) (b_str : mg "str" = none) (b_isinstance : mg "isinstance" = none) (b_len : mg "len" = none) (b_all : mg "all" = none)
    {f : Addr} {cdv : Value} {A : Around} {outer : List PySem.Env} {s : Shared} {H : Hp} {E : XK} {w0 : Wd} (hr : Room k (A.deeper (envOfC "is_text" (defScope s_is_text) s.heap.objs.size f cdv))) (hgd : A.guards = some []) :
    ASs (cxOf CX0 P w K mg base N_is_text "is_text" (defScope s_is_text) f cdv A outer s H E).nox w0 (defBody s_is_text) (T_is_text) :=
  have hN : (N_is_text : List Str).Nodup := sc_is_text.nd
  (as_one (as_ret (ae_and (ae_isi rfl b_isinstance (aa_cons (ae_v 0) (aa_cons (ae_ty "str" rfl b_str rfl) aa_nil))) (ae_and (ae_le (ae_len rfl b_len (aa_cons (ae_v 0) aa_nil)) (ae_v 1)) (ae_one (ae_all rfl rfl b_all (aa_cons (ae_fz (an_lc [("sign", 2)] rfl hN (ai_it (ae_v 0)) (blkOk_by (N := N_is_text) (sc := defScope s_is_text) (by decide +kernel)) (fun s H C cl fp => (ag_n 2 hN (by decide))) (fun s H C cl fp => ats_nil) (fun s H C cl fp => (ae_in (ae_v 2) (ae_gloD rfl t_SIGNS))))) aa_nil)))))))
theorem sc_is_signs : FnScope N_is_signs P_is_signs (defScope s_is_signs) := ⟨rfl, rfl, rfl, by decide +kernel, rfl, by decide +kernel, by decide +kernel⟩
def T_is_signs (S_is_text : L3.Spec) : ATS :=
  (aSeq (aIfS (aOr (aNot (aTru (aCallP S_is_text 1 1 [] [0, 1] (aCons (aV 0) aNil) (aCons (aC d_MOST_SIGNS) aNil)))) (aB (aBin fLt (aFn (f1 gLen) (aCons (aV 0) aNil)) (aV 1)))) (aRet (aC (.bl false))) aNext)
  (aRet (aFn (f1 gAll) (aCons (aFz (aLc (aZip (aCons (aV 0) (aCons (aSl (aV 0) (aSo (aC (.int 1))) aNo) aNil))) (gTp 2 (gsCons (gN 2) (gsCons (gN 3) gsNil))) aYes (aBin fLt (aV 2) (aV 3)) [2, 3])) aNil))))
theorem w_is_signs {P : Program} {w : World} {K : PySem.W.Frag} {mg : Str → Option Value} {base : Heap} {k : Nat} {S_is_text : L3.Spec}
    (F_is_text_k1_most : KnP P w K mg base k "is_text" P_is_text 1 ["most"] [] [0, 1] S_is_text) (t_MOST_SIGNS : GloD K mg "MOST_SIGNS" d_MOST_SIGNS) (b_len : mg "len" = none) (b_zip : mg "zip" = none) (b_all : mg "all" = none)
    {f : Addr} {cdv : Value} {A : Around} {outer : List PySem.Env} {s : Shared} {H : Hp} {E : XK} {w0 : Wd} (hr : Room k (A.deeper (envOfC "is_signs" (defScope s_is_signs) s.heap.objs.size f cdv))) (hgd : A.guards = some []) :
    ASs (cxOf CX0 P w K mg base N_is_signs "is_signs" (defScope s_is_signs) f cdv A outer s H E).nox w0 (defBody s_is_signs) (T_is_signs S_is_text) :=
  have hN : (N_is_signs : List Str).Nodup := sc_is_signs.nd
  (as_cons (as_if (at_w (aw_or (at_not (at_tru (ae_callP F_is_text_k1_most hr hgd rfl (aa_cons (ae_v 0) aa_nil) (ak_cons (ae_gloD rfl t_MOST_SIGNS) ak_nil)))) (aw_or1 (at_lt (ae_len rfl b_len (aa_cons (ae_v 0) aa_nil)) (ae_v 1))))) (as_one (as_ret ae_bl)) as_nil)
    (as_one (as_ret (ae_all rfl rfl b_all (aa_cons (ae_fz (an_lc [("sign", 2), ("later", 3)] rfl hN (ai_zip rfl b_zip (aa_cons (ae_v 0) (aa_cons (ae_sl (ae_v 0) (ao_some ae_int) ao_none) aa_nil))) (blkOk_by (N := N_is_signs) (sc := defScope s_is_signs) (by decide +kernel)) (fun s H C cl fp => (ag_tp (n := 2) rfl (ags_cons (ag_n 2 hN (by decide)) (ags_cons (ag_n 3 hN (by decide)) ags_nil)))) (fun s H C cl fp => ats_nil) (fun s H C cl fp => (ae_lt (ae_v 2) (ae_v 3))))) aa_nil)))))
theorem sc_is_name : FnScope N_is_name P_is_name (defScope s_is_name) := ⟨rfl, rfl, rfl, by decide +kernel, rfl, by decide +kernel, by decide +kernel⟩
def T_is_name : ATS :=
  (aSeq (aIfS (aOr (aNot (aTru (aFn fIsi (aCons (aV 0) (aCons (aC (.ty "str")) aNil))))) (aNot (aB (aChain fLe fLe (aC (.int 1)) (aFn (f1 gLen) (aCons (aV 0) aNil)) (aC d_MOST_LETTERS))))) (aRet (aC (.bl false))) aNext)
  (aRet (aFn (f1 gAll) (aCons (aFz (aLc (aIt (aV 0)) (gN 1) aYes (aBin (fIn false) (aV 1) (aC d_LETTERS)) [1])) aNil))))
theorem w_is_name {P : Program} {w : World} {K : PySem.W.Frag} {mg : Str → Option Value} {base : Heap} {k : Nat}
    (t_MOST_LETTERS : GloD K mg "MOST_LETTERS" d_MOST_LETTERS) (t_LETTERS : GloD K mg "LETTERS" d_LETTERS) (b_str : mg "str" = none) (b_isinstance : mg "isinstance" = none) (b_len : mg "len" = none) (b_all : mg "all" = none)
    {f : Addr} {cdv : Value} {A : Around} {outer : List PySem.Env} {s : Shared} {H : Hp} {E : XK} {w0 : Wd} (hr : Room k (A.deeper (envOfC "is_name" (defScope s_is_name) s.heap.objs.size f cdv))) (hgd : A.guards = some []) :
    ASs (cxOf CX0 P w K mg base N_is_name "is_name" (defScope s_is_name) f cdv A outer s H E).nox w0 (defBody s_is_name) (T_is_name) :=
  have hN : (N_is_name : List Str).Nodup := sc_is_name.nd
  (as_cons (as_if (at_w (aw_or (at_not (at_tru (ae_isi rfl b_isinstance (aa_cons (ae_v 0) (aa_cons (ae_ty "str" rfl b_str rfl) aa_nil))))) (aw_or1 (at_not (at_chain (rI_of0 op_le) (rI_of0 op_le) os_bl os_bl ae_int (ae_len rfl b_len (aa_cons (ae_v 0) aa_nil)) (ae_gloD rfl t_MOST_LETTERS)))))) (as_one (as_ret ae_bl)) as_nil)
    (as_one (as_ret (ae_all rfl rfl b_all (aa_cons (ae_fz (an_lc [("sign", 1)] rfl hN (ai_it (ae_v 0)) (blkOk_by (N := N_is_name) (sc := defScope s_is_name) (by decide +kernel)) (fun s H C cl fp => (ag_n 1 hN (by decide))) (fun s H C cl fp => ats_nil) (fun s H C cl fp => (ae_in (ae_v 1) (ae_gloD rfl t_LETTERS))))) aa_nil)))))
theorem sc_is_piece : FnScope N_is_piece P_is_piece (defScope s_is_piece) := ⟨rfl, rfl, rfl, by decide +kernel, rfl, by decide +kernel, by decide +kernel⟩
def T_is_piece (S_is_signs : L3.Spec) (S_is_name : L3.Spec) (S_is_formed : L3.Spec) : ATS :=
  (aSeq (aIfS (aB (aBin (fEq false) (aV 0) (aC (.str "s")))) (aRet (aCallP S_is_signs 1 1 [] [0, 1] (aCons (aV 1) aNil) (aCons (aC (.int 1)) aNil))) aNext)
  (aSeq (aIfS (aB (aBin (fEq false) (aV 0) (aC (.str "b")))) (aRet (aCall S_is_signs [(.int 0)] (aCons (aV 1) aNil))) aNext)
  (aSeq (aIfS (aB (aBin (fEq false) (aV 0) (aC (.str "n")))) (aRet (aCall S_is_name [] (aCons (aV 1) aNil))) aNext)
  (aSeq (aIfS (aB (aBin (fEq false) (aV 0) (aC (.str "w")))) (aRet (aAndV (aFn fIsi (aCons (aV 1) (aCons (aC (.ty "str")) aNil))) (aBin (fIn false) (aV 1) (aC d_MAKES)))) aNext)
  (aSeq (aIfS (aB (aBin (fEq false) (aV 0) (aC (.str "r")))) (aRet (aCall S_is_formed [] (aCons (aV 1) (aCons (aV 2) aNil)))) aNext)
  (aSeq (aIfS (aOr (aNot (aTru (aFn fIsi (aCons (aV 1) (aCons (aC (.ty "tuple")) aNil))))) (aNot (aB (aChain fLe fLe (aC d_LEAST_PARTS) (aFn (f1 gLen) (aCons (aV 1) aNil)) (aC d_MOST_PARTS_readers))))) (aRet (aC (.bl false))) aNext)
  (aRet (aFn (f1 gAll) (aCons (aFz (aLc (aIt (aV 1)) (gN 3) aYes (aCall S_is_formed [] (aCons (aV 3) (aCons (aV 2) aNil))) [3])) aNil)))))))))
theorem w_is_piece {P : Program} {w : World} {K : PySem.W.Frag} {mg : Str → Option Value} {base : Heap} {k : Nat} {S_is_signs : L3.Spec} {S_is_name : L3.Spec} {S_is_formed : L3.Spec}
    (F_is_signs_k1_least : KnP P w K mg base k "is_signs" P_is_signs 1 ["least"] [] [0, 1] S_is_signs) (F_is_signs_d : Kn P w K mg base k "is_signs" P_is_signs [(.int 0)] S_is_signs) (F_is_name : Kn P w K mg base k "is_name" P_is_name [] S_is_name) (F_is_formed : Kn P w K mg base k "is_formed" P_is_formed [] S_is_formed) (t_MAKES : GloD K mg "MAKES" d_MAKES) (t_LEAST_PARTS : GloD K mg "LEAST_PARTS" d_LEAST_PARTS) (t_MOST_PARTS_readers : GloD K mg "MOST_PARTS_readers" d_MOST_PARTS_readers) (b_str : mg "str" = none) (b_isinstance : mg "isinstance" = none) (b_tuple : mg "tuple" = none) (b_len : mg "len" = none) (b_all : mg "all" = none)
    {f : Addr} {cdv : Value} {A : Around} {outer : List PySem.Env} {s : Shared} {H : Hp} {E : XK} {w0 : Wd} (hr : Room k (A.deeper (envOfC "is_piece" (defScope s_is_piece) s.heap.objs.size f cdv))) (hgd : A.guards = some []) :
    ASs (cxOf CX0 P w K mg base N_is_piece "is_piece" (defScope s_is_piece) f cdv A outer s H E).nox w0 (defBody s_is_piece) (T_is_piece S_is_signs S_is_name S_is_formed) :=
  have hN : (N_is_piece : List Str).Nodup := sc_is_piece.nd
  (as_cons (as_if (at_eq hr (ae_v 0) ae_str) (as_one (as_ret (ae_callP F_is_signs_k1_least hr hgd rfl (aa_cons (ae_v 1) aa_nil) (ak_cons ae_int ak_nil)))) as_nil)
    (as_cons (as_if (at_eq hr (ae_v 0) ae_str) (as_one (as_ret (ae_call F_is_signs_d hr hgd rfl (aa_cons (ae_v 1) aa_nil)))) as_nil)
    (as_cons (as_if (at_eq hr (ae_v 0) ae_str) (as_one (as_ret (ae_call F_is_name hr hgd rfl (aa_cons (ae_v 1) aa_nil)))) as_nil)
    (as_cons (as_if (at_eq hr (ae_v 0) ae_str) (as_one (as_ret (ae_and (ae_isi rfl b_isinstance (aa_cons (ae_v 1) (aa_cons (ae_ty "str" rfl b_str rfl) aa_nil))) (ae_one (ae_in (ae_v 1) (ae_gloD rfl t_MAKES)))))) as_nil)
    (as_cons (as_if (at_eq hr (ae_v 0) ae_str) (as_one (as_ret (ae_call F_is_formed hr hgd rfl (aa_cons (ae_v 1) (aa_cons (ae_v 2) aa_nil))))) as_nil)
    (as_cons (as_if (at_w (aw_or (at_not (at_tru (ae_isi rfl b_isinstance (aa_cons (ae_v 1) (aa_cons (ae_ty "tuple" rfl b_tuple rfl) aa_nil))))) (aw_or1 (at_not (at_chain (rI_of0 op_le) (rI_of0 op_le) os_bl os_bl (ae_gloD rfl t_LEAST_PARTS) (ae_len rfl b_len (aa_cons (ae_v 1) aa_nil)) (ae_gloD rfl t_MOST_PARTS_readers)))))) (as_one (as_ret ae_bl)) as_nil)
    (as_one (as_ret (ae_all rfl rfl b_all (aa_cons (ae_fz (an_lc [("part", 3)] rfl hN (ai_it (ae_v 1)) (blkOk_by (N := N_is_piece) (sc := defScope s_is_piece) (by decide +kernel)) (fun s H C cl fp => (ag_n 3 hN (by decide))) (fun s H C cl fp => ats_nil) (fun s H C cl fp => (ae_call F_is_formed hr hgd rfl (aa_cons (ae_v 3) (aa_cons (ae_v 2) aa_nil)))))) aa_nil))))))))))
theorem sc_is_formed : FnScope N_is_formed P_is_formed (defScope s_is_formed) := ⟨rfl, rfl, rfl, by decide +kernel, rfl, by decide +kernel, by decide +kernel⟩
def T_is_formed (S_is_piece : L3.Spec) (a_FORMS : Addr) : ATS :=
  (aSeq (aIfS (aOr (aB (aBin (fEq false) (aV 1) (aC (.int 0)))) (aOr (aNot (aTru (aFn fIsi (aCons (aV 0) (aCons (aC (.ty "tuple")) aNil))))) (aOr (aB (aBin fEqE (aV 0) (aTup aNil))) (aNot (aTru (aFn fIsi (aCons (aBin fIx (aV 0) (aC (.int 0))) (aCons (aC (.ty "str")) aNil)))))))) (aRet (aC (.bl false))) aNext)
  (aSeq (aAsg (aV 0) (gSt 2 1 (gsCons (gN 2) (gsCons (gN 3) gsNil))))
  (aSeq (aIfS (aOr (aB (aBin (fInTab tab_FORMS a_FORMS true) (aV 2) (aC (.ref a_FORMS)))) (aB (aBin (fEq true) (aFn (f1 gLen) (aCons (aV 3) aNil)) (aFn (f1 gLen) (aCons (aBin (fIxTab tab_FORMS a_FORMS) (aC (.ref a_FORMS)) (aV 2)) aNil))))) (aRet (aC (.bl false))) aNext)
  (aRet (aFn (f1 gAll) (aCons (aFz (aLc (aZip (aCons (aBin (fIxTab tab_FORMS a_FORMS) (aC (.ref a_FORMS)) (aV 2)) (aCons (aV 3) aNil))) (gTp 2 (gsCons (gN 4) (gsCons (gN 5) gsNil))) aYes (aCall S_is_piece [] (aCons (aV 4) (aCons (aV 5) (aCons (aBin fSub (aV 1) (aC (.int 1))) aNil)))) [4, 5])) aNil))))))
theorem w_is_formed {P : Program} {w : World} {K : PySem.W.Frag} {mg : Str → Option Value} {base : Heap} {k : Nat} {S_is_piece : L3.Spec} {a_FORMS : Addr}
    (F_is_piece : Kn P w K mg base k "is_piece" P_is_piece [] S_is_piece) (g_FORMS : mg "FORMS" = some (.ref a_FORMS)) (k_FORMS : KTab K w a_FORMS tab_FORMS) (b_tuple : mg "tuple" = none) (b_isinstance : mg "isinstance" = none) (b_str : mg "str" = none) (b_len : mg "len" = none) (b_zip : mg "zip" = none) (b_all : mg "all" = none)
    {f : Addr} {cdv : Value} {A : Around} {outer : List PySem.Env} {s : Shared} {H : Hp} {E : XK} {w0 : Wd} (hr : Room k (A.deeper (envOfC "is_formed" (defScope s_is_formed) s.heap.objs.size f cdv))) (hgd : A.guards = some []) :
    ASs (cxOf CX0 P w K mg base N_is_formed "is_formed" (defScope s_is_formed) f cdv A outer s H E).nox w0 (defBody s_is_formed) (T_is_formed S_is_piece a_FORMS) :=
  have hN : (N_is_formed : List Str).Nodup := sc_is_formed.nd
  (as_cons (as_if (at_w (aw_or (at_eq hr (ae_v 1) ae_int) (aw_or (at_not (at_tru (ae_isi rfl b_isinstance (aa_cons (ae_v 0) (aa_cons (ae_ty "tuple" rfl b_tuple rfl) aa_nil))))) (aw_or (at_eqE hr (ae_v 0) (ae_tup aa_nil)) (aw_or1 (at_not (at_tru (ae_isi rfl b_isinstance (aa_cons (ae_ix (ae_v 0) ae_int) (aa_cons (ae_ty "str" rfl b_str rfl) aa_nil)))))))))) (as_one (as_ret ae_bl)) as_nil)
    (as_cons (as_asg (vs := [2, 3]) (ae_v 0) (ag_st (n := 2) (i := 1) rfl (by decide) (ags_cons (ag_n 2 hN (by decide)) (ags_st (ag_n 3 hN (by decide)) ags_nil))))
    (as_cons (as_if (at_w (aw_or (at_notinTab k_FORMS (ae_v 2) (ae_glob (v := .ref a_FORMS) rfl g_FORMS rfl (fun _ => by unfold Dt; rfl))) (aw_or1 (at_ne hr (ae_len rfl b_len (aa_cons (ae_v 3) aa_nil)) (ae_len rfl b_len (aa_cons (ae_ixTab k_FORMS (ae_glob (v := .ref a_FORMS) rfl g_FORMS rfl (fun _ => by unfold Dt; rfl)) (ae_v 2)) aa_nil)))))) (as_one (as_ret ae_bl)) as_nil)
    (as_one (as_ret (ae_all rfl rfl b_all (aa_cons (ae_fz (an_lc [("form", 4), ("piece", 5)] rfl hN (ai_zip rfl b_zip (aa_cons (ae_ixTab k_FORMS (ae_glob (v := .ref a_FORMS) rfl g_FORMS rfl (fun _ => by unfold Dt; rfl)) (ae_v 2)) (aa_cons (ae_v 3) aa_nil))) (blkOk_by (N := N_is_formed) (sc := defScope s_is_formed) (by decide +kernel)) (fun s H C cl fp => (ag_tp (n := 2) rfl (ags_cons (ag_n 4 hN (by decide)) (ags_cons (ag_n 5 hN (by decide)) ags_nil)))) (fun s H C cl fp => ats_nil) (fun s H C cl fp => (ae_call F_is_piece hr hgd rfl (aa_cons (ae_v 4) (aa_cons (ae_v 5) (aa_cons (ae_subt (ae_v 1) ae_int) aa_nil))))))) aa_nil)))))))
theorem sc_is_reader : FnScope N_is_reader P_is_reader (defScope s_is_reader) := ⟨rfl, rfl, rfl, by decide +kernel, rfl, by decide +kernel, by decide +kernel⟩
def T_is_reader (S_is_formed : L3.Spec) : ATS :=
  (aRet (aCall S_is_formed [] (aCons (aV 0) (aCons (aC d_MOST_DEEP) aNil))))
theorem w_is_reader {P : Program} {w : World} {K : PySem.W.Frag} {mg : Str → Option Value} {base : Heap} {k : Nat} {S_is_formed : L3.Spec}
    (F_is_formed : Kn P w K mg base k "is_formed" P_is_formed [] S_is_formed) (t_MOST_DEEP : GloD K mg "MOST_DEEP" d_MOST_DEEP)
    {f : Addr} {cdv : Value} {A : Around} {outer : List PySem.Env} {s : Shared} {H : Hp} {E : XK} {w0 : Wd} (hr : Room k (A.deeper (envOfC "is_reader" (defScope s_is_reader) s.heap.objs.size f cdv))) (hgd : A.guards = some []) :
    ASs (cxOf CX0 P w K mg base N_is_reader "is_reader" (defScope s_is_reader) f cdv A outer s H E).nox w0 (defBody s_is_reader) (T_is_reader S_is_formed) :=
  have hN : (N_is_reader : List Str).Nodup := sc_is_reader.nd
  (as_one (as_ret (ae_call F_is_formed hr hgd rfl (aa_cons (ae_v 0) (aa_cons (ae_gloD rfl t_MOST_DEEP) aa_nil)))))
theorem sc_within : FnScope N_within P_within (defScope s_within) := ⟨rfl, rfl, rfl, by decide +kernel, rfl, by decide +kernel, by decide +kernel⟩
def T_within (a_FORMS : Addr) : ATS :=
  (aSeq (aAsg (aV 0) (gSt 2 1 (gsCons (gN 1) (gsCons (gN 2) gsNil))))
  (aSeq (aIfS (aB (aBin (fEq false) (aBin (fIxTab tab_FORMS a_FORMS) (aC (.ref a_FORMS)) (aV 1)) (aC (.str "p")))) (aRet (aFn (f1 gList) (aCons (aBin fIx (aV 2) (aC (.int 0))) aNil))) aNext)
  (aSeq (aIfS (aTru (aMt fEnds (aBin (fIxTab tab_FORMS a_FORMS) (aC (.ref a_FORMS)) (aV 1)) (aC (.str "r")))) (aRet (aFz (aLst (aCons (aBin fIx (aV 2) (aUn fNeg (aC (.int 1)))) aNil)))) aNext)
  (aRet (aFz (aLst aNil))))))
theorem w_within {P : Program} {w : World} {K : PySem.W.Frag} {mg : Str → Option Value} {base : Heap} {k : Nat} {a_FORMS : Addr}
    (g_FORMS : mg "FORMS" = some (.ref a_FORMS)) (k_FORMS : KTab K w a_FORMS tab_FORMS) (b_list : mg "list" = none)
    {f : Addr} {cdv : Value} {A : Around} {outer : List PySem.Env} {s : Shared} {H : Hp} {E : XK} {w0 : Wd} (hr : Room k (A.deeper (envOfC "within" (defScope s_within) s.heap.objs.size f cdv))) (hgd : A.guards = some []) :
    ASs (cxOf CX0 P w K mg base N_within "within" (defScope s_within) f cdv A outer s H E).nox w0 (defBody s_within) (T_within a_FORMS) :=
  have hN : (N_within : List Str).Nodup := sc_within.nd
  (as_cons (as_asg (vs := [1, 2]) (ae_v 0) (ag_st (n := 2) (i := 1) rfl (by decide) (ags_cons (ag_n 1 hN (by decide)) (ags_st (ag_n 2 hN (by decide)) ags_nil))))
    (as_cons (as_if (at_eq hr (ae_ixTab k_FORMS (ae_glob (v := .ref a_FORMS) rfl g_FORMS rfl (fun _ => by unfold Dt; rfl)) (ae_v 1)) ae_str) (as_one (as_ret (ae_list rfl b_list (aa_cons (ae_ix (ae_v 2) ae_int) aa_nil)))) as_nil)
    (as_cons (as_if (at_tru (ae_ends (ae_ixTab k_FORMS (ae_glob (v := .ref a_FORMS) rfl g_FORMS rfl (fun _ => by unfold Dt; rfl)) (ae_v 1)) ae_str)) (as_one (as_ret (ae_fz (an_lst (aa_cons (ae_ix (ae_v 2) (ae_neg ae_int)) aa_nil))))) as_nil)
    (as_one (as_ret (ae_fz (an_lst aa_nil)))))))
theorem sc_all_within : FnScope N_all_within P_all_within (defScope s_all_within) := ⟨rfl, rfl, rfl, by decide +kernel, rfl, by decide +kernel, by decide +kernel⟩
def T_all_within (S_within : L3.Spec) (S_all_within : L3.Spec) : ATS :=
  (aSeq (aAsg (aOw (aLst (aCons (aV 0) aNil))) (gN 1))
  (aSeq (aFor (aIt (aCall S_within [] (aCons (aV 0) aNil))) (gN 2) (aDrop (aExt (aV 1) (aCall S_all_within [] (aCons (aV 2) aNil)))))
  (aRet (aV 1))))
theorem w_all_within {P : Program} {w : World} {K : PySem.W.Frag} {mg : Str → Option Value} {base : Heap} {k : Nat} {S_within : L3.Spec} {S_all_within : L3.Spec}
    (F_within : Kn P w K mg base k "within" P_within [] S_within) (F_all_within : Kn P w K mg base k "all_within" P_all_within [] S_all_within)
    {f : Addr} {cdv : Value} {A : Around} {outer : List PySem.Env} {s : Shared} {H : Hp} {E : XK} {w0 : Wd} (hr : Room k (A.deeper (envOfC "all_within" (defScope s_all_within) s.heap.objs.size f cdv))) (hgd : A.guards = some []) :
    ASs (cxOf CX0 P w K mg base N_all_within "all_within" (defScope s_all_within) f cdv A outer s H E).nox w0 (defBody s_all_within) (T_all_within S_within S_all_within) :=
  have hN : (N_all_within : List Str).Nodup := sc_all_within.nd
  (as_cons (as_set 1 hN (ae_ow (an_lst (aa_cons (ae_v 0) aa_nil))))
    (as_cons (as_for (vs := [2]) PassesOwn.never rfl (ai_it (ae_call F_within hr hgd rfl (aa_cons (ae_v 0) aa_nil))) (ag_n 2 hN (by decide)) (as_one (as_expr (ae_ext (ae_v 1) (ae_call F_all_within hr hgd rfl (aa_cons (ae_v 2) aa_nil))))))
    (as_one (as_ret (ae_v 1)))))
theorem sc_are_named : FnScope N_are_named P_are_named (defScope s_are_named) := ⟨rfl, rfl, rfl, by decide +kernel, rfl, by decide +kernel, by decide +kernel⟩
def T_are_named (S_is_name : L3.Spec) : ATS :=
  (aSeq (aIfS (aOr (aNot (aTru (aFn fIsi (aCons (aV 0) (aCons (aC (.ty "tuple")) aNil))))) (aNot (aB (aChain fLe fLe (aC (.int 1)) (aFn (f1 gLen) (aCons (aV 0) aNil)) (aC d_MOST_NAMES))))) (aRet (aC (.bl false))) aNext)
  (aSeq (aIfS (aNot (aTru (aFn (f1 gAll) (aCons (aFz (aLc (aIt (aV 0)) (gN 1) aYes (aAndV (aFn fIsi (aCons (aV 1) (aCons (aC (.ty "tuple")) aNil))) (aAndV (aBin (fEq false) (aFn (f1 gLen) (aCons (aV 1) aNil)) (aC (.int 2))) (aCall S_is_name [] (aCons (aBin fIx (aV 1) (aC (.int 0))) aNil)))) [1])) aNil)))) (aRet (aC (.bl false))) aNext)
  (aRet (aBin (fEq false) (aLenKeys (aIt (aV 0)) (gTp 2 (gsCons (gN 2) (gsCons (gN 3) gsNil))) (aV 2) [2, 3]) (aFn (f1 gLen) (aCons (aV 0) aNil))))))
theorem w_are_named {P : Program} {w : World} {K : PySem.W.Frag} {mg : Str → Option Value} {base : Heap} {k : Nat} {S_is_name : L3.Spec}
    (F_is_name : Kn P w K mg base k "is_name" P_is_name [] S_is_name) (t_MOST_NAMES : GloD K mg "MOST_NAMES" d_MOST_NAMES) (b_tuple : mg "tuple" = none) (b_isinstance : mg "isinstance" = none) (b_len : mg "len" = none) (b_all : mg "all" = none)
    {f : Addr} {cdv : Value} {A : Around} {outer : List PySem.Env} {s : Shared} {H : Hp} {E : XK} {w0 : Wd} (hr : Room k (A.deeper (envOfC "are_named" (defScope s_are_named) s.heap.objs.size f cdv))) (hgd : A.guards = some []) :
    ASs (cxOf CX0 P w K mg base N_are_named "are_named" (defScope s_are_named) f cdv A outer s H E).nox w0 (defBody s_are_named) (T_are_named S_is_name) :=
  have hN : (N_are_named : List Str).Nodup := sc_are_named.nd
  (as_cons (as_if (at_w (aw_or (at_not (at_tru (ae_isi rfl b_isinstance (aa_cons (ae_v 0) (aa_cons (ae_ty "tuple" rfl b_tuple rfl) aa_nil))))) (aw_or1 (at_not (at_chain (rI_of0 op_le) (rI_of0 op_le) os_bl os_bl ae_int (ae_len rfl b_len (aa_cons (ae_v 0) aa_nil)) (ae_gloD rfl t_MOST_NAMES)))))) (as_one (as_ret ae_bl)) as_nil)
    (as_cons (as_if (at_not (at_tru (ae_all rfl rfl b_all (aa_cons (ae_fz (an_lc [("pair", 1)] rfl hN (ai_it (ae_v 0)) (blkOk_by (N := N_are_named) (sc := defScope s_are_named) (by decide +kernel)) (fun s H C cl fp => (ag_n 1 hN (by decide))) (fun s H C cl fp => ats_nil) (fun s H C cl fp => (ae_and (ae_isi rfl b_isinstance (aa_cons (ae_v 1) (aa_cons (ae_ty "tuple" rfl b_tuple rfl) aa_nil))) (ae_and (ae_eq hr (ae_len rfl b_len (aa_cons (ae_v 1) aa_nil)) ae_int) (ae_one (ae_call F_is_name hr hgd rfl (aa_cons (ae_ix (ae_v 1) ae_int) aa_nil)))))))) aa_nil)))) (as_one (as_ret ae_bl)) as_nil)
    (as_one (as_ret (ae_eq hr (ae_lenKeys [("name", 2), ("reader", 3)] rfl hN (ai_it (ae_v 0)) (blkOk_by (N := N_are_named) (sc := defScope s_are_named) (by decide +kernel)) (fun s H C cl fp => (ag_tp (n := 2) rfl (ags_cons (ag_n 2 hN (by decide)) (ags_cons (ag_n 3 hN (by decide)) ags_nil)))) (fun s H C cl fp => (ae_v 2)) rfl b_len) (ae_len rfl b_len (aa_cons (ae_v 0) aa_nil)))))))
theorem sc_is_right : FnScope N_is_right P_is_right (defScope s_is_right) := ⟨rfl, rfl, rfl, by decide +kernel, rfl, by decide +kernel, by decide +kernel⟩
def T_is_right (S_is_reader : L3.Spec) (S_all_within : L3.Spec) : ATS :=
  (aSeq (aIfS (aNot (aTru (aCall S_is_reader [] (aCons (aV 1) aNil)))) (aRet (aC (.bl false))) aNext)
  (aRet (aFn (f1 gAll) (aCons (aFz (aLc (aIt (aCall S_all_within [] (aCons (aV 1) aNil))) (gN 2) (aB (aBin (fEq false) (aBin fIx (aV 2) (aC (.int 0))) (aC d_CALLS))) (aBin (fIn false) (aBin fIx (aV 2) (aC (.int 1))) (aV 0)) [2])) aNil))))
theorem w_is_right {P : Program} {w : World} {K : PySem.W.Frag} {mg : Str → Option Value} {base : Heap} {k : Nat} {S_is_reader : L3.Spec} {S_all_within : L3.Spec}
    (F_is_reader : Kn P w K mg base k "is_reader" P_is_reader [] S_is_reader) (F_all_within : Kn P w K mg base k "all_within" P_all_within [] S_all_within) (t_CALLS : GloD K mg "CALLS" d_CALLS) (b_all : mg "all" = none)
    {f : Addr} {cdv : Value} {A : Around} {outer : List PySem.Env} {s : Shared} {H : Hp} {E : XK} {w0 : Wd} (hr : Room k (A.deeper (envOfC "is_right" (defScope s_is_right) s.heap.objs.size f cdv))) (hgd : A.guards = some []) :
    ASs (cxOf CX0 P w K mg base N_is_right "is_right" (defScope s_is_right) f cdv A outer s H E).nox w0 (defBody s_is_right) (T_is_right S_is_reader S_all_within) :=
  have hN : (N_is_right : List Str).Nodup := sc_is_right.nd
  (as_cons (as_if (at_not (at_tru (ae_call F_is_reader hr hgd rfl (aa_cons (ae_v 1) aa_nil)))) (as_one (as_ret ae_bl)) as_nil)
    (as_one (as_ret (ae_all rfl rfl b_all (aa_cons (ae_fz (an_lc [("part", 2)] rfl hN (ai_it (ae_call F_all_within hr hgd rfl (aa_cons (ae_v 1) aa_nil))) (blkOk_by (N := N_is_right) (sc := defScope s_is_right) (by decide +kernel)) (fun s H C cl fp => (ag_n 2 hN (by decide))) (fun s H C cl fp => ats_one (at_eq hr (ae_ix (ae_v 2) ae_int) (ae_gloD rfl t_CALLS))) (fun s H C cl fp => (ae_in (ae_ix (ae_v 2) ae_int) (ae_v 0))))) aa_nil)))))
theorem sc_first_wrong : FnScope N_first_wrong P_first_wrong (defScope s_first_wrong) := ⟨rfl, rfl, rfl, by decide +kernel, rfl, by decide +kernel, by decide +kernel⟩
def T_first_wrong (S_is_right : L3.Spec) : ATS :=
  (aSeq (aAsg (aFz (aLc (aIt (aV 0)) (gTp 2 (gsCons (gN 3) (gsCons (gN 4) gsNil))) aYes (aV 3) [3, 4])) (gN 1))
  (aSeq (aAsg (aFz (aLc (aIt (aV 0)) (gTp 2 (gsCons (gN 3) (gsCons (gN 4) gsNil))) (aNot (aTru (aCall S_is_right [] (aCons (aV 1) (aCons (aV 4) aNil))))) (aV 3) [3, 4])) (gN 2))
  (aRet (aIf (aB (aBin fNeE (aV 2) (aFz (aLst aNil)))) (aBin fIx (aV 2) (aC (.int 0))) (aC .non)))))
theorem w_first_wrong {P : Program} {w : World} {K : PySem.W.Frag} {mg : Str → Option Value} {base : Heap} {k : Nat} {S_is_right : L3.Spec}
    (F_is_right : Kn P w K mg base k "is_right" P_is_right [] S_is_right)
    {f : Addr} {cdv : Value} {A : Around} {outer : List PySem.Env} {s : Shared} {H : Hp} {E : XK} {w0 : Wd} (hr : Room k (A.deeper (envOfC "first_wrong" (defScope s_first_wrong) s.heap.objs.size f cdv))) (hgd : A.guards = some []) :
    ASs (cxOf CX0 P w K mg base N_first_wrong "first_wrong" (defScope s_first_wrong) f cdv A outer s H E).nox w0 (defBody s_first_wrong) (T_first_wrong S_is_right) :=
  have hN : (N_first_wrong : List Str).Nodup := sc_first_wrong.nd
  (as_cons (as_set 1 hN (ae_fz (an_lc [("name", 3), ("reader", 4)] rfl hN (ai_it (ae_v 0)) (blkOk_by (N := N_first_wrong) (sc := defScope s_first_wrong) (by decide +kernel)) (fun s H C cl fp => (ag_tp (n := 2) rfl (ags_cons (ag_n 3 hN (by decide)) (ags_cons (ag_n 4 hN (by decide)) ags_nil)))) (fun s H C cl fp => ats_nil) (fun s H C cl fp => (ae_v 3)))))
    (as_cons (as_lc 2 [("name", 3), ("reader", 4)] rfl hN (ai_it (ae_v 0)) (blkOk_by (N := N_first_wrong) (sc := defScope s_first_wrong) (by decide +kernel)) (fun s H C cl fp => (ag_tp (n := 2) rfl (ags_cons (ag_n 3 hN (by decide)) (ags_cons (ag_n 4 hN (by decide)) ags_nil)))) (fun s H C cl fp => ats_one (at_not (at_tru (ae_call F_is_right hr hgd rfl (aa_cons (ae_v 1) (aa_cons (ae_v 4) aa_nil)))))) (fun s H C cl fp => (ae_v 3)))
    (as_one (as_ret (ae_if (at_neE hr (ae_v 2) (ae_fz (an_lst aa_nil))) (ae_ix (ae_v 2) ae_int) ae_non)))))
theorem sc_parts_of : FnScope N_parts_of P_parts_of (defScope s_parts_of) := ⟨rfl, rfl, rfl, by decide +kernel, rfl, by decide +kernel, by decide +kernel⟩
def T_parts_of (S_all_within : L3.Spec) : ATS :=
  (aRet (aFz (aLc2 (aIt (aV 0)) (gTp 2 (gsCons (gN 1) (gsCons (gN 2) gsNil))) aYes (aIt (aCall S_all_within [] (aCons (aV 2) aNil))) (gN 3) aYes (aV 3) [1, 2, 3] [3])))
theorem w_parts_of {P : Program} {w : World} {K : PySem.W.Frag} {mg : Str → Option Value} {base : Heap} {k : Nat} {S_all_within : L3.Spec}
    (F_all_within : Kn P w K mg base k "all_within" P_all_within [] S_all_within)
    {f : Addr} {cdv : Value} {A : Around} {outer : List PySem.Env} {s : Shared} {H : Hp} {E : XK} {w0 : Wd} (hr : Room k (A.deeper (envOfC "parts_of" (defScope s_parts_of) s.heap.objs.size f cdv))) (hgd : A.guards = some []) :
    ASs (cxOf CX0 P w K mg base N_parts_of "parts_of" (defScope s_parts_of) f cdv A outer s H E).nox w0 (defBody s_parts_of) (T_parts_of S_all_within) :=
  have hN : (N_parts_of : List Str).Nodup := sc_parts_of.nd
  (as_one (as_ret (ae_fz (an_lc2 [("name", 1), ("reader", 2), ("part", 3)] [3] rfl hN (ai_it (ae_v 0)) (blkOk_by (N := N_parts_of) (sc := defScope s_parts_of) (by decide +kernel)) (by decide) (fun s H C cl fp => (ag_tp (n := 2) rfl (ags_cons (ag_n 1 hN (by decide)) (ags_cons (ag_n 2 hN (by decide)) ags_nil)))) (fun s H C cl fp => ats_nil) (fun s H C cl fp => (ai_it (ae_call F_all_within hr hgd rfl (aa_cons (ae_v 2) aa_nil)))) (fun s H C cl fp => (ag_n 3 hN (by decide))) (fun s H C cl fp => ats_nil) (fun s H C cl fp => (ae_v 3))))))
theorem sc_book_of : FnScope N_book_of P_book_of (defScope s_book_of) := ⟨rfl, rfl, rfl, by decide +kernel, rfl, by decide +kernel, by decide +kernel⟩
def T_book_of (S_are_named : L3.Spec) (S_first_wrong : L3.Spec) (S_parts_of : L3.Spec) : ATS :=
  (aSeq (aIfS (aTru (aFn fIsi (aCons (aV 0) (aCons (aC (.ty "list")) aNil)))) (aAsg (aFn (f1 gTuple) (aCons (aV 0) aNil)) (gN 0)) aNext)
  (aSeq (aIfS (aNot (aTru (aCall S_are_named [] (aCons (aV 0) aNil)))) aNever aNext)
  (aSeq (aAsg (aCall S_first_wrong [] (aCons (aV 0) aNil)) (gN 1))
  (aSeq (aIfS (aB (aBin (fIsN true) (aV 1) (aC .non))) aNever aNext)
  (aSeq (aIfS (aB (aBin fGt (aFn (f1 gLen) (aCons (aCall S_parts_of [] (aCons (aV 0) aNil)) aNil)) (aC d_MOST_PARTS_books))) aNever aNext)
  (aRet (aV 0)))))))
theorem w_book_of {P : Program} {w : World} {K : PySem.W.Frag} {mg : Str → Option Value} {base : Heap} {k : Nat} {S_are_named : L3.Spec} {S_first_wrong : L3.Spec} {S_parts_of : L3.Spec}
    (F_are_named : Kn P w K mg base k "are_named" P_are_named [] S_are_named) (F_first_wrong : Kn P w K mg base k "first_wrong" P_first_wrong [] S_first_wrong) (F_parts_of : Kn P w K mg base k "parts_of" P_parts_of [] S_parts_of) (t_MOST_PARTS_books : GloD K mg "MOST_PARTS_books" d_MOST_PARTS_books) (b_list : mg "list" = none) (b_isinstance : mg "isinstance" = none) (b_tuple : mg "tuple" = none) (b_len : mg "len" = none)
    {f : Addr} {cdv : Value} {A : Around} {outer : List PySem.Env} {s : Shared} {H : Hp} {E : XK} {w0 : Wd} (hr : Room k (A.deeper (envOfC "book_of" (defScope s_book_of) s.heap.objs.size f cdv))) (hgd : A.guards = some []) :
    ASs (cxOf CX0 P w K mg base N_book_of "book_of" (defScope s_book_of) f cdv A outer s H E).nox w0 (defBody s_book_of) (T_book_of S_are_named S_first_wrong S_parts_of) :=
  have hN : (N_book_of : List Str).Nodup := sc_book_of.nd
  (as_cons (as_if (at_tru (ae_isi rfl b_isinstance (aa_cons (ae_v 0) (aa_cons (ae_ty "list" rfl b_list rfl) aa_nil)))) (as_one (as_set 0 hN (ae_tuple rfl b_tuple (aa_cons (ae_v 0) aa_nil)))) as_nil)
    (as_cons (as_if (at_not (at_tru (ae_call F_are_named hr hgd rfl (aa_cons (ae_v 0) aa_nil)))) (as_one as_never) as_nil)
    (as_cons (as_set 1 hN (ae_call F_first_wrong hr hgd rfl (aa_cons (ae_v 0) aa_nil)))
    (as_cons (as_if (at_notN (ae_v 1) ae_non) (as_one as_never) as_nil)
    (as_cons (as_if (at_gt (ae_len rfl b_len (aa_cons (ae_call F_parts_of hr hgd rfl (aa_cons (ae_v 0) aa_nil)) aa_nil)) (ae_gloD rfl t_MOST_PARTS_books)) (as_one as_never) as_nil)
    (as_one (as_ret (ae_v 0))))))))
theorem sc_need : FnScope N_need P_need (defScope s_need) := ⟨rfl, rfl, rfl, by decide +kernel, rfl, by decide +kernel, by decide +kernel⟩
def T_need (EX : XP) : ATS :=
  (aIfS (aNot (aTru (aV 0))) (aRaise EX "NoText") aNext)
theorem w_need {P : Program} {w : World} {K : PySem.W.Frag} {mg : Str → Option Value} {base : Heap} {k : Nat}
    (e_NoText : ExcN K mg "NoText")
    {f : Addr} {cdv : Value} {A : Around} {outer : List PySem.Env} {s : Shared} {H : Hp} {E : XK} {w0 : Wd} (hr : Room k (A.deeper (envOfC "need" (defScope s_need) s.heap.objs.size f cdv))) (hgd : A.guards = some []) {EX : XP} (tk : TkX (cxOf (L2.CX P w) P w K mg base N_need "need" (defScope s_need) f cdv A outer s H E) w0 EX) :
    ASs (cxOf (L2.CX P w) P w K mg base N_need "need" (defScope s_need) f cdv A outer s H E) w0 (defBody s_need) (T_need EX) :=
  have hN : (N_need : List Str).Nodup := sc_need.nd
  (as_one (as_if (at_not (at_tru (ae_v 0))) (as_one (as_raise e_NoText tk rfl rfl)) as_nil))
theorem sc_letters_at : FnScope N_letters_at P_letters_at (defScope s_letters_at) := ⟨rfl, rfl, rfl, by decide +kernel, rfl, by decide +kernel, by decide +kernel⟩
def T_letters_at (EX : XP) (S_need : L3.SpecX) : ATS :=
  (aSeq (aAsg (aV 1) (gN 2))
  (aSeq (aWhile (aAnd (aB (aBin fLt (aV 2) (aFn (f1 gLen) (aCons (aV 0) aNil)))) (aB (aBin (fIn false) (aBin fIx (aV 0) (aV 2)) (aC d_LETTERS)))) (aAug fIadd 2 (aC (.int 1))))
  (aSeq (aDrop (aCallX S_need EX [] (aCons (aBin fGt (aV 2) (aV 1)) aNil)))
  (aRet (aTup (aCons (aSl (aV 0) (aSo (aV 1)) (aSo (aV 2))) (aCons (aV 2) aNil)))))))
theorem w_letters_at {P : Program} {w : World} {K : PySem.W.Frag} {mg : Str → Option Value} {base : Heap} {k : Nat} {S_need : L3.SpecX}
    (F_need : KnX P w K mg base k "need" P_need [] S_need) (t_LETTERS : GloD K mg "LETTERS" d_LETTERS) (b_len : mg "len" = none)
    {f : Addr} {cdv : Value} {A : Around} {outer : List PySem.Env} {s : Shared} {H : Hp} {E : XK} {w0 : Wd} (hr : Room k (A.deeper (envOfC "letters_at" (defScope s_letters_at) s.heap.objs.size f cdv))) (hgd : A.guards = some []) {EX : XP} (tk : TkX (cxOf (L2.CX P w) P w K mg base N_letters_at "letters_at" (defScope s_letters_at) f cdv A outer s H E) w0 EX) :
    ASs (cxOf (L2.CX P w) P w K mg base N_letters_at "letters_at" (defScope s_letters_at) f cdv A outer s H E) w0 (defBody s_letters_at) (T_letters_at EX S_need) :=
  have hN : (N_letters_at : List Str).Nodup := sc_letters_at.nd
  (as_cons (as_set 2 hN (ae_v 1))
    (as_cons (as_while (passes_of rfl) (at_w (aw_and (at_lt (ae_v 2) (ae_len rfl b_len (aa_cons (ae_v 0) aa_nil))) (aw_and1 (at_in (ae_ix (ae_v 0) (ae_v 2)) (ae_gloD rfl t_LETTERS))))) (as_one (as_aug 2 ip_addD os_ipAdd hN ae_int)))
    (as_cons (as_expr (ae_callX F_need tk hr hgd rfl (aa_cons (ae_gt (ae_v 2) (ae_v 1)) aa_nil)))
    (as_one (as_ret (ae_tup (aa_cons (ae_sl (ae_v 0) (ao_some (ae_v 1)) (ao_some (ae_v 2))) (aa_cons (ae_v 2) aa_nil))))))))
theorem sc_sign_at : FnScope N_sign_at P_sign_at (defScope s_sign_at) := ⟨rfl, rfl, rfl, by decide +kernel, rfl, by decide +kernel, by decide +kernel⟩
def T_sign_at (EX : XP) (S_need : L3.SpecX) (a_TELLS : Addr) : ATS :=
  (aSeq (aDrop (aCallX S_need EX [] (aCons (aBin fLt (aV 1) (aFn (f1 gLen) (aCons (aV 0) aNil))) aNil)))
  (aSeq (aAsg (aBin fIx (aV 0) (aV 1)) (gN 2))
  (aSeq (aIfS (aB (aBin (fEq true) (aV 2) (aC (.str "\\")))) (aSeq (aDrop (aCallX S_need EX [] (aCons (aAndV (aBin (fIn false) (aV 2) (aC d_SIGNS)) (aAndV (aBin (fEq true) (aV 2) (aC (.str "\n"))) (aBin (fEq true) (aV 2) (aC (.str "^"))))) aNil)))
  (aRet (aTup (aCons (aV 2) (aCons (aBin fAdd (aV 1) (aC (.int 1))) aNil))))) aNext)
  (aSeq (aDrop (aCallX S_need EX [] (aCons (aBin (fInTab tab_TELLS a_TELLS false) (aSl (aV 0) (aSo (aBin fAdd (aV 1) (aC (.int 1)))) (aSo (aBin fAdd (aV 1) (aC (.int 2))))) (aC (.ref a_TELLS))) aNil)))
  (aRet (aTup (aCons (aBin (fIxTab tab_TELLS a_TELLS) (aC (.ref a_TELLS)) (aBin fIx (aV 0) (aBin fAdd (aV 1) (aC (.int 1))))) (aCons (aBin fAdd (aV 1) (aC (.int 2))) aNil))))))))
theorem w_sign_at {P : Program} {w : World} {K : PySem.W.Frag} {mg : Str → Option Value} {base : Heap} {k : Nat} {S_need : L3.SpecX} {a_TELLS : Addr}
    (F_need : KnX P w K mg base k "need" P_need [] S_need) (t_SIGNS : GloD K mg "SIGNS" d_SIGNS) (g_TELLS : mg "TELLS" = some (.ref a_TELLS)) (k_TELLS : KTab K w a_TELLS tab_TELLS) (b_len : mg "len" = none)
    {f : Addr} {cdv : Value} {A : Around} {outer : List PySem.Env} {s : Shared} {H : Hp} {E : XK} {w0 : Wd} (hr : Room k (A.deeper (envOfC "sign_at" (defScope s_sign_at) s.heap.objs.size f cdv))) (hgd : A.guards = some []) {EX : XP} (tk : TkX (cxOf (L2.CX P w) P w K mg base N_sign_at "sign_at" (defScope s_sign_at) f cdv A outer s H E) w0 EX) :
    ASs (cxOf (L2.CX P w) P w K mg base N_sign_at "sign_at" (defScope s_sign_at) f cdv A outer s H E) w0 (defBody s_sign_at) (T_sign_at EX S_need a_TELLS) :=
  have hN : (N_sign_at : List Str).Nodup := sc_sign_at.nd
  (as_cons (as_expr (ae_callX F_need tk hr hgd rfl (aa_cons (ae_lt (ae_v 1) (ae_len rfl b_len (aa_cons (ae_v 0) aa_nil))) aa_nil)))
    (as_cons (as_set 2 hN (ae_ix (ae_v 0) (ae_v 1)))
    (as_cons (as_if (at_ne hr (ae_v 2) ae_str) (as_cons (as_expr (ae_callX F_need tk hr hgd rfl (aa_cons (ae_and (ae_in (ae_v 2) (ae_gloD rfl t_SIGNS)) (ae_and (ae_ne hr (ae_v 2) ae_str) (ae_one (ae_ne hr (ae_v 2) ae_str)))) aa_nil)))
    (as_one (as_ret (ae_tup (aa_cons (ae_v 2) (aa_cons (ae_add (ae_v 1) ae_int) aa_nil)))))) as_nil)
    (as_cons (as_expr (ae_callX F_need tk hr hgd rfl (aa_cons (ae_inTab k_TELLS (ae_sl (ae_v 0) (ao_some (ae_add (ae_v 1) ae_int)) (ao_some (ae_add (ae_v 1) ae_int))) (ae_glob (v := .ref a_TELLS) rfl g_TELLS rfl (fun _ => by unfold Dt; rfl))) aa_nil)))
    (as_one (as_ret (ae_tup (aa_cons (ae_ixTab k_TELLS (ae_glob (v := .ref a_TELLS) rfl g_TELLS rfl (fun _ => by unfold Dt; rfl)) (ae_ix (ae_v 0) (ae_add (ae_v 1) ae_int))) (aa_cons (ae_add (ae_v 1) ae_int) aa_nil)))))))))
theorem sc_signs_at : FnScope N_signs_at P_signs_at (defScope s_signs_at) := ⟨rfl, rfl, rfl, by decide +kernel, rfl, by decide +kernel, by decide +kernel⟩
def T_signs_at (EX : XP) (S_sign_at : L3.SpecX) : ATS :=
  (aSeq (aAsg (aIf (aB (aBin (fEq false) (aSl (aV 0) (aSo (aBin fAdd (aV 1) (aC (.int 1)))) (aSo (aBin fAdd (aV 1) (aC (.int 2))))) (aC (.str "^")))) (aC (.str "but")) (aC (.str "sign"))) (gN 2))
  (aSeq (aAug fIadd 1 (aIf (aB (aBin (fEq false) (aV 2) (aC (.str "sign")))) (aC (.int 1)) (aC (.int 2))))
  (aSeq (aAsg (aC (.str "")) (gN 3))
  (aSeq (aWhile (aB (aBin (fEq true) (aSl (aV 0) (aSo (aV 1)) (aSo (aBin fAdd (aV 1) (aC (.int 1))))) (aC (.str "]")))) (aSeq (aAsg (aCallX S_sign_at EX [] (aCons (aV 0) (aCons (aV 1) aNil))) (gTp 2 (gsCons (gN 4) (gsCons (gN 1) gsNil))))
  (aAug fIadd 3 (aV 4))))
  (aRet (aTup (aCons (aTup (aCons (aV 2) (aCons (aV 3) aNil))) (aCons (aBin fAdd (aV 1) (aC (.int 1))) aNil))))))))
theorem w_signs_at {P : Program} {w : World} {K : PySem.W.Frag} {mg : Str → Option Value} {base : Heap} {k : Nat} {S_sign_at : L3.SpecX}
    (F_sign_at : KnX P w K mg base k "sign_at" P_sign_at [] S_sign_at)
    {f : Addr} {cdv : Value} {A : Around} {outer : List PySem.Env} {s : Shared} {H : Hp} {E : XK} {w0 : Wd} (hr : Room k (A.deeper (envOfC "signs_at" (defScope s_signs_at) s.heap.objs.size f cdv))) (hgd : A.guards = some []) {EX : XP} (tk : TkX (cxOf (L2.CX P w) P w K mg base N_signs_at "signs_at" (defScope s_signs_at) f cdv A outer s H E) w0 EX) :
    ASs (cxOf (L2.CX P w) P w K mg base N_signs_at "signs_at" (defScope s_signs_at) f cdv A outer s H E) w0 (defBody s_signs_at) (T_signs_at EX S_sign_at) :=
  have hN : (N_signs_at : List Str).Nodup := sc_signs_at.nd
  (as_cons (as_set 2 hN (ae_if (at_eq hr (ae_sl (ae_v 0) (ao_some (ae_add (ae_v 1) ae_int)) (ao_some (ae_add (ae_v 1) ae_int))) ae_str) ae_str ae_str))
    (as_cons (as_aug 1 ip_addD os_ipAdd hN (ae_if (at_eq hr (ae_v 2) ae_str) ae_int ae_int))
    (as_cons (as_set 3 hN ae_str)
    (as_cons (as_while (passes_of rfl) (at_ne hr (ae_sl (ae_v 0) (ao_some (ae_v 1)) (ao_some (ae_add (ae_v 1) ae_int))) ae_str) (as_cons (as_asg (vs := [4, 1]) (ae_callX F_sign_at tk hr hgd rfl (aa_cons (ae_v 0) (aa_cons (ae_v 1) aa_nil))) (ag_tp (n := 2) rfl (ags_cons (ag_n 4 hN (by decide)) (ags_cons (ag_n 1 hN (by decide)) ags_nil))))
    (as_one (as_aug 3 ip_addD os_ipAdd hN (ae_v 4)))))
    (as_one (as_ret (ae_tup (aa_cons (ae_tup (aa_cons (ae_v 2) (aa_cons (ae_v 3) aa_nil))) (aa_cons (ae_add (ae_v 1) ae_int) aa_nil)))))))))
theorem sc_atom_at : FnScope N_atom_at P_atom_at (defScope s_atom_at) := ⟨rfl, rfl, rfl, by decide +kernel, rfl, by decide +kernel, by decide +kernel⟩
def T_atom_at (EX : XP) (S_signs_at : L3.SpecX) (S_letters_at : L3.SpecX) (S_need : L3.SpecX) (S_choice_at : L3.SpecX) : ATS :=
  (aSeq (aAsg (aSl (aV 0) (aSo (aV 1)) (aSo (aBin fAdd (aV 1) (aC (.int 1))))) (gN 3))
  (aSeq (aIfS (aB (aBin (fEq false) (aSl (aV 0) (aSo (aV 1)) (aSo (aBin fAdd (aV 1) (aC (.int 2))))) (aC (.str "()")))) (aRet (aTup (aCons (aTup (aCons (aC (.str "nothing")) aNil)) (aCons (aBin fAdd (aV 1) (aC (.int 2))) aNil)))) aNext)
  (aSeq (aIfS (aB (aBin (fEq false) (aV 3) (aC (.str "~")))) (aRet (aTup (aCons (aTup (aCons (aC (.str "never")) aNil)) (aCons (aBin fAdd (aV 1) (aC (.int 1))) aNil)))) aNext)
  (aSeq (aIfS (aB (aBin (fEq false) (aV 3) (aC (.str "[")))) (aRet (aCallX S_signs_at EX [] (aCons (aV 0) (aCons (aV 1) aNil)))) aNext)
  (aSeq (aIfS (aB (aBin (fEq false) (aV 3) (aC (.str "=")))) (aSeq (aAsg (aCallX S_letters_at EX [] (aCons (aV 0) (aCons (aBin fAdd (aV 1) (aC (.int 1))) aNil))) (gTp 2 (gsCons (gN 6) (gsCons (gN 5) gsNil))))
  (aRet (aTup (aCons (aTup (aCons (aC (.str "again")) (aCons (aV 6) aNil))) (aCons (aV 5) aNil))))) aNext)
  (aSeq (aIfS (aB (aBin (fEq true) (aV 3) (aC (.str "(")))) (aSeq (aAsg (aCallX S_letters_at EX [] (aCons (aV 0) (aCons (aV 1) aNil))) (gTp 2 (gsCons (gN 6) (gsCons (gN 5) gsNil))))
  (aRet (aTup (aCons (aTup (aCons (aC (.str "name")) (aCons (aV 6) aNil))) (aCons (aV 5) aNil))))) aNext)
  (aSeq (aDrop (aCallX S_need EX [] (aCons (aBin fGt (aV 2) (aC (.int 0))) aNil)))
  (aSeq (aAsg (aCallX S_choice_at EX [] (aCons (aV 0) (aCons (aBin fAdd (aV 1) (aC (.int 1))) (aCons (aBin fSub (aV 2) (aC (.int 1))) aNil)))) (gTp 2 (gsCons (gN 4) (gsCons (gN 5) gsNil))))
  (aSeq (aDrop (aCallX S_need EX [] (aCons (aBin (fEq false) (aSl (aV 0) (aSo (aV 5)) (aSo (aBin fAdd (aV 5) (aC (.int 1))))) (aC (.str ")"))) aNil)))
  (aRet (aTup (aCons (aV 4) (aCons (aBin fAdd (aV 5) (aC (.int 1))) aNil)))))))))))))
theorem w_atom_at {P : Program} {w : World} {K : PySem.W.Frag} {mg : Str → Option Value} {base : Heap} {k : Nat} {S_signs_at : L3.SpecX} {S_letters_at : L3.SpecX} {S_need : L3.SpecX} {S_choice_at : L3.SpecX}
    (F_signs_at : KnX P w K mg base k "signs_at" P_signs_at [] S_signs_at) (F_letters_at : KnX P w K mg base k "letters_at" P_letters_at [] S_letters_at) (F_need : KnX P w K mg base k "need" P_need [] S_need) (F_choice_at : KnX P w K mg base k "choice_at" P_choice_at [] S_choice_at)
    {f : Addr} {cdv : Value} {A : Around} {outer : List PySem.Env} {s : Shared} {H : Hp} {E : XK} {w0 : Wd} (hr : Room k (A.deeper (envOfC "atom_at" (defScope s_atom_at) s.heap.objs.size f cdv))) (hgd : A.guards = some []) {EX : XP} (tk : TkX (cxOf (L2.CX P w) P w K mg base N_atom_at "atom_at" (defScope s_atom_at) f cdv A outer s H E) w0 EX) :
    ASs (cxOf (L2.CX P w) P w K mg base N_atom_at "atom_at" (defScope s_atom_at) f cdv A outer s H E) w0 (defBody s_atom_at) (T_atom_at EX S_signs_at S_letters_at S_need S_choice_at) :=
  have hN : (N_atom_at : List Str).Nodup := sc_atom_at.nd
  (as_cons (as_set 3 hN (ae_sl (ae_v 0) (ao_some (ae_v 1)) (ao_some (ae_add (ae_v 1) ae_int))))
    (as_cons (as_if (at_eq hr (ae_sl (ae_v 0) (ao_some (ae_v 1)) (ao_some (ae_add (ae_v 1) ae_int))) ae_str) (as_one (as_ret (ae_tup (aa_cons (ae_tup (aa_cons ae_str aa_nil)) (aa_cons (ae_add (ae_v 1) ae_int) aa_nil))))) as_nil)
    (as_cons (as_if (at_eq hr (ae_v 3) ae_str) (as_one (as_ret (ae_tup (aa_cons (ae_tup (aa_cons ae_str aa_nil)) (aa_cons (ae_add (ae_v 1) ae_int) aa_nil))))) as_nil)
    (as_cons (as_if (at_eq hr (ae_v 3) ae_str) (as_one (as_ret (ae_callX F_signs_at tk hr hgd rfl (aa_cons (ae_v 0) (aa_cons (ae_v 1) aa_nil))))) as_nil)
    (as_cons (as_if (at_eq hr (ae_v 3) ae_str) (as_cons (as_asg (vs := [6, 5]) (ae_callX F_letters_at tk hr hgd rfl (aa_cons (ae_v 0) (aa_cons (ae_add (ae_v 1) ae_int) aa_nil))) (ag_tp (n := 2) rfl (ags_cons (ag_n 6 hN (by decide)) (ags_cons (ag_n 5 hN (by decide)) ags_nil))))
    (as_one (as_ret (ae_tup (aa_cons (ae_tup (aa_cons ae_str (aa_cons (ae_v 6) aa_nil))) (aa_cons (ae_v 5) aa_nil)))))) as_nil)
    (as_cons (as_if (at_ne hr (ae_v 3) ae_str) (as_cons (as_asg (vs := [6, 5]) (ae_callX F_letters_at tk hr hgd rfl (aa_cons (ae_v 0) (aa_cons (ae_v 1) aa_nil))) (ag_tp (n := 2) rfl (ags_cons (ag_n 6 hN (by decide)) (ags_cons (ag_n 5 hN (by decide)) ags_nil))))
    (as_one (as_ret (ae_tup (aa_cons (ae_tup (aa_cons ae_str (aa_cons (ae_v 6) aa_nil))) (aa_cons (ae_v 5) aa_nil)))))) as_nil)
    (as_cons (as_expr (ae_callX F_need tk hr hgd rfl (aa_cons (ae_gt (ae_v 2) ae_int) aa_nil)))
    (as_cons (as_asg (vs := [4, 5]) (ae_callX F_choice_at tk hr hgd rfl (aa_cons (ae_v 0) (aa_cons (ae_add (ae_v 1) ae_int) (aa_cons (ae_subt (ae_v 2) ae_int) aa_nil)))) (ag_tp (n := 2) rfl (ags_cons (ag_n 4 hN (by decide)) (ags_cons (ag_n 5 hN (by decide)) ags_nil))))
    (as_cons (as_expr (ae_callX F_need tk hr hgd rfl (aa_cons (ae_eq hr (ae_sl (ae_v 0) (ao_some (ae_v 5)) (ao_some (ae_add (ae_v 5) ae_int))) ae_str) aa_nil)))
    (as_one (as_ret (ae_tup (aa_cons (ae_v 4) (aa_cons (ae_add (ae_v 5) ae_int) aa_nil))))))))))))))
theorem sc_item_at : FnScope N_item_at P_item_at (defScope s_item_at) := ⟨rfl, rfl, rfl, by decide +kernel, rfl, by decide +kernel, by decide +kernel⟩
def T_item_at (EX : XP) (S_atom_at : L3.SpecX) (a_AHEAD : Addr) (a_AFTER : Addr) (a_BEHIND : Addr) : ATS :=
  (aSeq (aAsg (aSl (aV 0) (aSo (aV 1)) (aSo (aBin fAdd (aV 1) (aC (.int 1))))) (gN 3))
  (aSeq (aIfS (aB (aBin (fInTab tab_AHEAD a_AHEAD false) (aV 3) (aC (.ref a_AHEAD)))) (aSeq (aAsg (aCallX S_atom_at EX [] (aCons (aV 0) (aCons (aBin fAdd (aV 1) (aC (.int 1))) (aCons (aV 2) aNil)))) (gTp 2 (gsCons (gN 4) (gsCons (gN 5) gsNil))))
  (aRet (aTup (aCons (aTup (aCons (aBin (fIxTab tab_AHEAD a_AHEAD) (aC (.ref a_AHEAD)) (aV 3)) (aCons (aV 4) aNil))) (aCons (aV 5) aNil))))) aNext)
  (aSeq (aAsg (aCallX S_atom_at EX [] (aCons (aV 0) (aCons (aV 1) (aCons (aV 2) aNil)))) (gTp 2 (gsCons (gN 4) (gsCons (gN 5) gsNil))))
  (aSeq (aAsg (aSl (aV 0) (aSo (aV 5)) (aSo (aBin fAdd (aV 5) (aC (.int 1))))) (gN 6))
  (aSeq (aIfS (aB (aBin (fInTab tab_AFTER a_AFTER false) (aV 6) (aC (.ref a_AFTER)))) (aRet (aTup (aCons (aTup (aCons (aBin (fIxTab tab_AFTER a_AFTER) (aC (.ref a_AFTER)) (aV 6)) (aCons (aV 4) aNil))) (aCons (aBin fAdd (aV 5) (aC (.int 1))) aNil)))) aNext)
  (aSeq (aIfS (aAnd (aB (aBin (fEq false) (aBin fIx (aV 4) (aC (.int 0))) (aC (.str "name")))) (aAnd (aB (aBin (fIn false) (aV 3) (aC d_LETTERS))) (aB (aBin (fInTab tab_BEHIND a_BEHIND false) (aV 6) (aC (.ref a_BEHIND)))))) (aSeq (aAsg (aCallX S_atom_at EX [] (aCons (aV 0) (aCons (aBin fAdd (aV 5) (aC (.int 1))) (aCons (aV 2) aNil)))) (gTp 2 (gsCons (gN 7) (gsCons (gN 5) gsNil))))
  (aRet (aTup (aCons (aTup (aCons (aBin (fIxTab tab_BEHIND a_BEHIND) (aC (.ref a_BEHIND)) (aV 6)) (aCons (aBin fIx (aV 4) (aC (.int 1))) (aCons (aV 7) aNil)))) (aCons (aV 5) aNil))))) aNext)
  (aRet (aTup (aCons (aV 4) (aCons (aV 5) aNil))))))))))
theorem w_item_at {P : Program} {w : World} {K : PySem.W.Frag} {mg : Str → Option Value} {base : Heap} {k : Nat} {S_atom_at : L3.SpecX} {a_AHEAD : Addr} {a_AFTER : Addr} {a_BEHIND : Addr}
    (F_atom_at : KnX P w K mg base k "atom_at" P_atom_at [] S_atom_at) (g_AHEAD : mg "AHEAD" = some (.ref a_AHEAD)) (k_AHEAD : KTab K w a_AHEAD tab_AHEAD) (g_AFTER : mg "AFTER" = some (.ref a_AFTER)) (k_AFTER : KTab K w a_AFTER tab_AFTER) (t_LETTERS : GloD K mg "LETTERS" d_LETTERS) (g_BEHIND : mg "BEHIND" = some (.ref a_BEHIND)) (k_BEHIND : KTab K w a_BEHIND tab_BEHIND)
    {f : Addr} {cdv : Value} {A : Around} {outer : List PySem.Env} {s : Shared} {H : Hp} {E : XK} {w0 : Wd} (hr : Room k (A.deeper (envOfC "item_at" (defScope s_item_at) s.heap.objs.size f cdv))) (hgd : A.guards = some []) {EX : XP} (tk : TkX (cxOf (L2.CX P w) P w K mg base N_item_at "item_at" (defScope s_item_at) f cdv A outer s H E) w0 EX) :
    ASs (cxOf (L2.CX P w) P w K mg base N_item_at "item_at" (defScope s_item_at) f cdv A outer s H E) w0 (defBody s_item_at) (T_item_at EX S_atom_at a_AHEAD a_AFTER a_BEHIND) :=
  have hN : (N_item_at : List Str).Nodup := sc_item_at.nd
  (as_cons (as_set 3 hN (ae_sl (ae_v 0) (ao_some (ae_v 1)) (ao_some (ae_add (ae_v 1) ae_int))))
    (as_cons (as_if (at_inTab k_AHEAD (ae_v 3) (ae_glob (v := .ref a_AHEAD) rfl g_AHEAD rfl (fun _ => by unfold Dt; rfl))) (as_cons (as_asg (vs := [4, 5]) (ae_callX F_atom_at tk hr hgd rfl (aa_cons (ae_v 0) (aa_cons (ae_add (ae_v 1) ae_int) (aa_cons (ae_v 2) aa_nil)))) (ag_tp (n := 2) rfl (ags_cons (ag_n 4 hN (by decide)) (ags_cons (ag_n 5 hN (by decide)) ags_nil))))
    (as_one (as_ret (ae_tup (aa_cons (ae_tup (aa_cons (ae_ixTab k_AHEAD (ae_glob (v := .ref a_AHEAD) rfl g_AHEAD rfl (fun _ => by unfold Dt; rfl)) (ae_v 3)) (aa_cons (ae_v 4) aa_nil))) (aa_cons (ae_v 5) aa_nil)))))) as_nil)
    (as_cons (as_asg (vs := [4, 5]) (ae_callX F_atom_at tk hr hgd rfl (aa_cons (ae_v 0) (aa_cons (ae_v 1) (aa_cons (ae_v 2) aa_nil)))) (ag_tp (n := 2) rfl (ags_cons (ag_n 4 hN (by decide)) (ags_cons (ag_n 5 hN (by decide)) ags_nil))))
    (as_cons (as_set 6 hN (ae_sl (ae_v 0) (ao_some (ae_v 5)) (ao_some (ae_add (ae_v 5) ae_int))))
    (as_cons (as_if (at_inTab k_AFTER (ae_v 6) (ae_glob (v := .ref a_AFTER) rfl g_AFTER rfl (fun _ => by unfold Dt; rfl))) (as_one (as_ret (ae_tup (aa_cons (ae_tup (aa_cons (ae_ixTab k_AFTER (ae_glob (v := .ref a_AFTER) rfl g_AFTER rfl (fun _ => by unfold Dt; rfl)) (ae_v 6)) (aa_cons (ae_v 4) aa_nil))) (aa_cons (ae_add (ae_v 5) ae_int) aa_nil))))) as_nil)
    (as_cons (as_if (at_w (aw_and (at_eq hr (ae_ix (ae_v 4) ae_int) ae_str) (aw_and (at_in (ae_v 3) (ae_gloD rfl t_LETTERS)) (aw_and1 (at_inTab k_BEHIND (ae_v 6) (ae_glob (v := .ref a_BEHIND) rfl g_BEHIND rfl (fun _ => by unfold Dt; rfl))))))) (as_cons (as_asg (vs := [7, 5]) (ae_callX F_atom_at tk hr hgd rfl (aa_cons (ae_v 0) (aa_cons (ae_add (ae_v 5) ae_int) (aa_cons (ae_v 2) aa_nil)))) (ag_tp (n := 2) rfl (ags_cons (ag_n 7 hN (by decide)) (ags_cons (ag_n 5 hN (by decide)) ags_nil))))
    (as_one (as_ret (ae_tup (aa_cons (ae_tup (aa_cons (ae_ixTab k_BEHIND (ae_glob (v := .ref a_BEHIND) rfl g_BEHIND rfl (fun _ => by unfold Dt; rfl)) (ae_v 6)) (aa_cons (ae_ix (ae_v 4) ae_int) (aa_cons (ae_v 7) aa_nil)))) (aa_cons (ae_v 5) aa_nil)))))) as_nil)
    (as_one (as_ret (ae_tup (aa_cons (ae_v 4) (aa_cons (ae_v 5) aa_nil)))))))))))
theorem sc_row_at : FnScope N_row_at P_row_at (defScope s_row_at) := ⟨rfl, rfl, rfl, by decide +kernel, rfl, by decide +kernel, by decide +kernel⟩
def T_row_at (EX : XP) (S_item_at : L3.SpecX) : ATS :=
  (aSeq (aAsg (aCallX S_item_at EX [] (aCons (aV 0) (aCons (aV 1) (aCons (aV 2) aNil)))) (gTp 2 (gsCons (gN 3) (gsCons (gN 4) gsNil))))
  (aSeq (aAsg (aOw (aLst (aCons (aV 3) aNil))) (gN 5))
  (aSeq (aWhile (aAnd (aB (aBin (fEq false) (aSl (aV 0) (aSo (aV 4)) (aSo (aBin fAdd (aV 4) (aC (.int 1))))) (aC (.str " ")))) (aB (aBin (fEq true) (aSl (aV 0) (aSo (aV 4)) (aSo (aBin fAdd (aV 4) (aC (.int 3))))) (aC (.str " / "))))) (aSeq (aAsg (aCallX S_item_at EX [] (aCons (aV 0) (aCons (aBin fAdd (aV 4) (aC (.int 1))) (aCons (aV 2) aNil)))) (gTp 2 (gsCons (gN 3) (gsCons (gN 4) gsNil))))
  (aDrop (aApp (aV 5) (aV 3)))))
  (aSeq (aAsg (aV 5) (gSt 2 1 (gsCons (gN 6) (gsCons (gN 7) gsNil))))
  (aRet (aTup (aCons (aIf (aB (aBin fEqE (aV 7) (aFz (aLst aNil)))) (aV 6) (aTup (aCons (aC (.str "row")) (aCons (aFn (f1 gTuple) (aCons (aV 5) aNil)) aNil)))) (aCons (aV 4) aNil))))))))
theorem w_row_at {P : Program} {w : World} {K : PySem.W.Frag} {mg : Str → Option Value} {base : Heap} {k : Nat} {S_item_at : L3.SpecX}
    (F_item_at : KnX P w K mg base k "item_at" P_item_at [] S_item_at) (b_tuple : mg "tuple" = none)
    {f : Addr} {cdv : Value} {A : Around} {outer : List PySem.Env} {s : Shared} {H : Hp} {E : XK} {w0 : Wd} (hr : Room k (A.deeper (envOfC "row_at" (defScope s_row_at) s.heap.objs.size f cdv))) (hgd : A.guards = some []) {EX : XP} (tk : TkX (cxOf (L2.CX P w) P w K mg base N_row_at "row_at" (defScope s_row_at) f cdv A outer s H E) w0 EX) :
    ASs (cxOf (L2.CX P w) P w K mg base N_row_at "row_at" (defScope s_row_at) f cdv A outer s H E) w0 (defBody s_row_at) (T_row_at EX S_item_at) :=
  have hN : (N_row_at : List Str).Nodup := sc_row_at.nd
  (as_cons (as_asg (vs := [3, 4]) (ae_callX F_item_at tk hr hgd rfl (aa_cons (ae_v 0) (aa_cons (ae_v 1) (aa_cons (ae_v 2) aa_nil)))) (ag_tp (n := 2) rfl (ags_cons (ag_n 3 hN (by decide)) (ags_cons (ag_n 4 hN (by decide)) ags_nil))))
    (as_cons (as_set 5 hN (ae_ow (an_lst (aa_cons (ae_v 3) aa_nil))))
    (as_cons (as_while (passes_of rfl) (at_w (aw_and (at_eq hr (ae_sl (ae_v 0) (ao_some (ae_v 4)) (ao_some (ae_add (ae_v 4) ae_int))) ae_str) (aw_and1 (at_ne hr (ae_sl (ae_v 0) (ao_some (ae_v 4)) (ao_some (ae_add (ae_v 4) ae_int))) ae_str)))) (as_cons (as_asg (vs := [3, 4]) (ae_callX F_item_at tk hr hgd rfl (aa_cons (ae_v 0) (aa_cons (ae_add (ae_v 4) ae_int) (aa_cons (ae_v 2) aa_nil)))) (ag_tp (n := 2) rfl (ags_cons (ag_n 3 hN (by decide)) (ags_cons (ag_n 4 hN (by decide)) ags_nil))))
    (as_one (as_expr (ae_append (ae_v 5) (ae_v 3))))))
    (as_cons (as_asg (vs := [6, 7]) (ae_v 5) (ag_st (n := 2) (i := 1) rfl (by decide) (ags_cons (ag_n 6 hN (by decide)) (ags_st (ag_n 7 hN (by decide)) ags_nil))))
    (as_one (as_ret (ae_tup (aa_cons (ae_if (at_eqE hr (ae_v 7) (ae_fz (an_lst aa_nil))) (ae_v 6) (ae_tup (aa_cons ae_str (aa_cons (ae_tuple rfl b_tuple (aa_cons (ae_v 5) aa_nil)) aa_nil)))) (aa_cons (ae_v 4) aa_nil)))))))))
theorem sc_choice_at : FnScope N_choice_at P_choice_at (defScope s_choice_at) := ⟨rfl, rfl, rfl, by decide +kernel, rfl, by decide +kernel, by decide +kernel⟩
def T_choice_at (EX : XP) (S_row_at : L3.SpecX) : ATS :=
  (aSeq (aAsg (aCallX S_row_at EX [] (aCons (aV 0) (aCons (aV 1) (aCons (aV 2) aNil)))) (gTp 2 (gsCons (gN 3) (gsCons (gN 4) gsNil))))
  (aSeq (aAsg (aOw (aLst (aCons (aV 3) aNil))) (gN 5))
  (aSeq (aWhile (aB (aBin (fEq false) (aSl (aV 0) (aSo (aV 4)) (aSo (aBin fAdd (aV 4) (aC (.int 3))))) (aC (.str " / ")))) (aSeq (aAsg (aCallX S_row_at EX [] (aCons (aV 0) (aCons (aBin fAdd (aV 4) (aC (.int 3))) (aCons (aV 2) aNil)))) (gTp 2 (gsCons (gN 3) (gsCons (gN 4) gsNil))))
  (aDrop (aApp (aV 5) (aV 3)))))
  (aSeq (aAsg (aV 5) (gSt 2 1 (gsCons (gN 6) (gsCons (gN 7) gsNil))))
  (aRet (aTup (aCons (aIf (aB (aBin fEqE (aV 7) (aFz (aLst aNil)))) (aV 6) (aTup (aCons (aC (.str "choice")) (aCons (aFn (f1 gTuple) (aCons (aV 5) aNil)) aNil)))) (aCons (aV 4) aNil))))))))
theorem w_choice_at {P : Program} {w : World} {K : PySem.W.Frag} {mg : Str → Option Value} {base : Heap} {k : Nat} {S_row_at : L3.SpecX}
    (F_row_at : KnX P w K mg base k "row_at" P_row_at [] S_row_at) (b_tuple : mg "tuple" = none)
    {f : Addr} {cdv : Value} {A : Around} {outer : List PySem.Env} {s : Shared} {H : Hp} {E : XK} {w0 : Wd} (hr : Room k (A.deeper (envOfC "choice_at" (defScope s_choice_at) s.heap.objs.size f cdv))) (hgd : A.guards = some []) {EX : XP} (tk : TkX (cxOf (L2.CX P w) P w K mg base N_choice_at "choice_at" (defScope s_choice_at) f cdv A outer s H E) w0 EX) :
    ASs (cxOf (L2.CX P w) P w K mg base N_choice_at "choice_at" (defScope s_choice_at) f cdv A outer s H E) w0 (defBody s_choice_at) (T_choice_at EX S_row_at) :=
  have hN : (N_choice_at : List Str).Nodup := sc_choice_at.nd
  (as_cons (as_asg (vs := [3, 4]) (ae_callX F_row_at tk hr hgd rfl (aa_cons (ae_v 0) (aa_cons (ae_v 1) (aa_cons (ae_v 2) aa_nil)))) (ag_tp (n := 2) rfl (ags_cons (ag_n 3 hN (by decide)) (ags_cons (ag_n 4 hN (by decide)) ags_nil))))
    (as_cons (as_set 5 hN (ae_ow (an_lst (aa_cons (ae_v 3) aa_nil))))
    (as_cons (as_while (passes_of rfl) (at_eq hr (ae_sl (ae_v 0) (ao_some (ae_v 4)) (ao_some (ae_add (ae_v 4) ae_int))) ae_str) (as_cons (as_asg (vs := [3, 4]) (ae_callX F_row_at tk hr hgd rfl (aa_cons (ae_v 0) (aa_cons (ae_add (ae_v 4) ae_int) (aa_cons (ae_v 2) aa_nil)))) (ag_tp (n := 2) rfl (ags_cons (ag_n 3 hN (by decide)) (ags_cons (ag_n 4 hN (by decide)) ags_nil))))
    (as_one (as_expr (ae_append (ae_v 5) (ae_v 3))))))
    (as_cons (as_asg (vs := [6, 7]) (ae_v 5) (ag_st (n := 2) (i := 1) rfl (by decide) (ags_cons (ag_n 6 hN (by decide)) (ags_st (ag_n 7 hN (by decide)) ags_nil))))
    (as_one (as_ret (ae_tup (aa_cons (ae_if (at_eqE hr (ae_v 7) (ae_fz (an_lst aa_nil))) (ae_v 6) (ae_tup (aa_cons ae_str (aa_cons (ae_tuple rfl b_tuple (aa_cons (ae_v 5) aa_nil)) aa_nil)))) (aa_cons (ae_v 4) aa_nil)))))))))
theorem sc_read_reader : FnScope N_read_reader P_read_reader (defScope s_read_reader) := ⟨rfl, rfl, rfl, by decide +kernel, rfl, by decide +kernel, by decide +kernel⟩
def T_read_reader (EX : XP) (S_need : L3.SpecX) (S_choice_at : L3.SpecX) (S_is_reader : L3.Spec) : ATS :=
  (aSeq (aDrop (aCallX S_need EX [] (aCons (aFn fIsi (aCons (aV 0) (aCons (aC (.ty "str")) aNil))) aNil)))
  (aSeq (aAsg (aCallX S_choice_at EX [] (aCons (aV 0) (aCons (aC (.int 0)) (aCons (aC d_MOST_BRACKETS) aNil)))) (gTp 2 (gsCons (gN 1) (gsCons (gN 2) gsNil))))
  (aSeq (aDrop (aCallX S_need EX [] (aCons (aAndV (aBin (fEq false) (aV 2) (aFn (f1 gLen) (aCons (aV 0) aNil))) (aCall S_is_reader [] (aCons (aV 1) aNil))) aNil)))
  (aRet (aV 1)))))
theorem w_read_reader {P : Program} {w : World} {K : PySem.W.Frag} {mg : Str → Option Value} {base : Heap} {k : Nat} {S_need : L3.SpecX} {S_choice_at : L3.SpecX} {S_is_reader : L3.Spec}
    (F_need : KnX P w K mg base k "need" P_need [] S_need) (F_choice_at : KnX P w K mg base k "choice_at" P_choice_at [] S_choice_at) (F_is_reader : Kn P w K mg base k "is_reader" P_is_reader [] S_is_reader) (t_MOST_BRACKETS : GloD K mg "MOST_BRACKETS" d_MOST_BRACKETS) (b_str : mg "str" = none) (b_isinstance : mg "isinstance" = none) (b_len : mg "len" = none)
    {f : Addr} {cdv : Value} {A : Around} {outer : List PySem.Env} {s : Shared} {H : Hp} {E : XK} {w0 : Wd} (hr : Room k (A.deeper (envOfC "read_reader" (defScope s_read_reader) s.heap.objs.size f cdv))) (hgd : A.guards = some []) {EX : XP} (tk : TkX (cxOf (L2.CX P w) P w K mg base N_read_reader "read_reader" (defScope s_read_reader) f cdv A outer s H E) w0 EX) :
    ASs (cxOf (L2.CX P w) P w K mg base N_read_reader "read_reader" (defScope s_read_reader) f cdv A outer s H E) w0 (defBody s_read_reader) (T_read_reader EX S_need S_choice_at S_is_reader) :=
  have hN : (N_read_reader : List Str).Nodup := sc_read_reader.nd
  (as_cons (as_expr (ae_callX F_need tk hr hgd rfl (aa_cons (ae_isi rfl b_isinstance (aa_cons (ae_v 0) (aa_cons (ae_ty "str" rfl b_str rfl) aa_nil))) aa_nil)))
    (as_cons (as_asg (vs := [1, 2]) (ae_callX F_choice_at tk hr hgd rfl (aa_cons (ae_v 0) (aa_cons ae_int (aa_cons (ae_gloD rfl t_MOST_BRACKETS) aa_nil)))) (ag_tp (n := 2) rfl (ags_cons (ag_n 1 hN (by decide)) (ags_cons (ag_n 2 hN (by decide)) ags_nil))))
    (as_cons (as_expr (ae_callX F_need tk hr hgd rfl (aa_cons (ae_and (ae_eq hr (ae_v 2) (ae_len rfl b_len (aa_cons (ae_v 0) aa_nil))) (ae_one (ae_call F_is_reader hr hgd rfl (aa_cons (ae_v 1) aa_nil)))) aa_nil)))
    (as_one (as_ret (ae_v 1))))))
theorem sc_pair_in : FnScope N_pair_in P_pair_in (defScope s_pair_in) := ⟨rfl, rfl, rfl, by decide +kernel, rfl, by decide +kernel, by decide +kernel⟩
def T_pair_in (S_need : L3.SpecX) (S_read_reader : L3.SpecX) : ATS :=
  (aSeq (aAsg (aMt fParti (aV 0) (aC (.str " = "))) (gTp 3 (gsCons (gN 1) (gsCons (gN 2) (gsCons (gN 3) gsNil)))))
  (aSeq (aDrop (aCallX S_need noX [] (aCons (aBin (fEq true) (aV 2) (aC (.str ""))) aNil)))
  (aRet (aTup (aCons (aV 1) (aCons (aCallX S_read_reader noX [] (aCons (aV 3) aNil)) aNil))))))
theorem w_pair_in {P : Program} {w : World} {K : PySem.W.Frag} {mg : Str → Option Value} {base : Heap} {k : Nat} {S_need : L3.SpecX} {S_read_reader : L3.SpecX}
    (F_need : KnX P w K mg base k "need" P_need [] S_need) (F_read_reader : KnX P w K mg base k "read_reader" P_read_reader [] S_read_reader)
    {f : Addr} {cdv : Value} {A : Around} {outer : List PySem.Env} {s : Shared} {H : Hp} {E : XK} {w0 : Wd} (hr : Room k (A.deeper (envOfC "pair_in" (defScope s_pair_in) s.heap.objs.size f cdv))) (hgd : A.guards = some []) :
    ASs (cxOf CX0 P w K mg base N_pair_in "pair_in" (defScope s_pair_in) f cdv A outer s H E).nox w0 (defBody s_pair_in) (T_pair_in S_need S_read_reader) :=
  have hN : (N_pair_in : List Str).Nodup := sc_pair_in.nd
  (as_cons (as_asg (vs := [1, 2, 3]) (ae_parti (ae_v 0) ae_str) (ag_tp (n := 3) rfl (ags_cons (ag_n 1 hN (by decide)) (ags_cons (ag_n 2 hN (by decide)) (ags_cons (ag_n 3 hN (by decide)) ags_nil)))))
    (as_cons (as_expr (ae_callX F_need tkX_no hr hgd rfl (aa_cons (ae_ne hr (ae_v 2) ae_str) aa_nil)))
    (as_one (as_ret (ae_tup (aa_cons (ae_v 1) (aa_cons (ae_callX F_read_reader tkX_no hr hgd rfl (aa_cons (ae_v 3) aa_nil)) aa_nil)))))))
theorem sc_read_book : FnScope N_read_book P_read_book (defScope s_read_book) := ⟨rfl, rfl, rfl, by decide +kernel, rfl, by decide +kernel, by decide +kernel⟩
def T_read_book (S_need : L3.SpecX) (S_pair_in : L3.Spec) (S_book_of : L3.Spec) : ATS :=
  (aSeq (aDrop (aCallX S_need noX [] (aCons (aFn fIsi (aCons (aV 0) (aCons (aC (.ty "str")) aNil))) aNil)))
  (aSeq (aAsg (aMt fSplit (aV 0) (aC (.str ";\n"))) (gSt 2 0 (gsCons (gN 1) (gsCons (gN 2) gsNil))))
  (aSeq (aDrop (aCallX S_need noX [] (aCons (aBin (fEq false) (aV 2) (aC (.str ""))) aNil)))
  (aSeq (aAsg (aFn (f1 gTuple) (aCons (aFz (aLc (aIt (aV 1)) (gN 5) aYes (aCall S_pair_in [] (aCons (aV 5) aNil)) [5])) aNil)) (gN 3))
  (aRet (aCall S_book_of [] (aCons (aV 3) aNil)))))))
theorem w_read_book {P : Program} {w : World} {K : PySem.W.Frag} {mg : Str → Option Value} {base : Heap} {k : Nat} {S_need : L3.SpecX} {S_pair_in : L3.Spec} {S_book_of : L3.Spec}
    (F_need : KnX P w K mg base k "need" P_need [] S_need) (F_pair_in : Kn P w K mg base k "pair_in" P_pair_in [] S_pair_in) (F_book_of : Kn P w K mg base k "book_of" P_book_of [] S_book_of) (b_str : mg "str" = none) (b_isinstance : mg "isinstance" = none) (b_tuple : mg "tuple" = none)
    {f : Addr} {cdv : Value} {A : Around} {outer : List PySem.Env} {s : Shared} {H : Hp} {E : XK} {w0 : Wd} (hr : Room k (A.deeper (envOfC "read_book" (defScope s_read_book) s.heap.objs.size f cdv))) (hgd : A.guards = some []) :
    ASs (cxOf CX0 P w K mg base N_read_book "read_book" (defScope s_read_book) f cdv A outer s H E).nox w0 (defBody s_read_book) (T_read_book S_need S_pair_in S_book_of) :=
  have hN : (N_read_book : List Str).Nodup := sc_read_book.nd
  (as_cons (as_expr (ae_callX F_need tkX_no hr hgd rfl (aa_cons (ae_isi rfl b_isinstance (aa_cons (ae_v 0) (aa_cons (ae_ty "str" rfl b_str rfl) aa_nil))) aa_nil)))
    (as_cons (as_asg (vs := [1, 2]) (ae_split (ae_v 0) ae_str) (ag_st (n := 2) (i := 0) rfl (by decide) (ags_st (ag_n 1 hN (by decide)) (ags_cons (ag_n 2 hN (by decide)) ags_nil))))
    (as_cons (as_expr (ae_callX F_need tkX_no hr hgd rfl (aa_cons (ae_eq hr (ae_v 2) ae_str) aa_nil)))
    (as_cons (as_set 3 hN (ae_tuple rfl b_tuple (aa_cons (ae_fz (an_lc [("line", 5)] rfl hN (ai_it (ae_v 1)) (blkOk_by (N := N_read_book) (sc := defScope s_read_book) (by decide +kernel)) (fun s H C cl fp => (ag_n 5 hN (by decide))) (fun s H C cl fp => ats_nil) (fun s H C cl fp => (ae_call F_pair_in hr hgd rfl (aa_cons (ae_v 5) aa_nil))))) aa_nil)))
    (as_one (as_tryThru (as_one (as_ret (ae_call F_book_of hr hgd rfl (aa_cons (ae_v 3) aa_nil))))))))))
theorem sc_show_signs : FnScope N_show_signs P_show_signs (defScope s_show_signs) := ⟨rfl, rfl, rfl, by decide +kernel, rfl, by decide +kernel, by decide +kernel⟩
def T_show_signs (a_ESCAPED : Addr) : ATS :=
  (aRet (aJoin (aC (.str "")) (aFz (aLc (aIt (aV 0)) (gN 1) aYes (aGetTab tab_ESCAPED (aV 1) (aV 1)) [1]))))
theorem w_show_signs {P : Program} {w : World} {K : PySem.W.Frag} {mg : Str → Option Value} {base : Heap} {k : Nat} {a_ESCAPED : Addr}
    (g_ESCAPED : mg "ESCAPED" = some (.ref a_ESCAPED)) (k_ESCAPED : KTab K w a_ESCAPED tab_ESCAPED)
    {f : Addr} {cdv : Value} {A : Around} {outer : List PySem.Env} {s : Shared} {H : Hp} {E : XK} {w0 : Wd} (hr : Room k (A.deeper (envOfC "show_signs" (defScope s_show_signs) s.heap.objs.size f cdv))) (hgd : A.guards = some []) :
    ASs (cxOf CX0 P w K mg base N_show_signs "show_signs" (defScope s_show_signs) f cdv A outer s H E).nox w0 (defBody s_show_signs) (T_show_signs a_ESCAPED) :=
  have hN : (N_show_signs : List Str).Nodup := sc_show_signs.nd
  (as_one (as_ret (ae_join ae_str (ae_fz (an_lc [("sign", 1)] rfl hN (ai_it (ae_v 0)) (blkOk_by (N := N_show_signs) (sc := defScope s_show_signs) (by decide +kernel)) (fun s H C cl fp => (ag_n 1 hN (by decide))) (fun s H C cl fp => ats_nil) (fun s H C cl fp => (ae_getTab k_ESCAPED rfl g_ESCAPED (ae_v 1) (ae_v 1))))))))
theorem sc_show_within : FnScope N_show_within P_show_within (defScope s_show_within) := ⟨rfl, rfl, rfl, by decide +kernel, rfl, by decide +kernel, by decide +kernel⟩
def T_show_within (S_show_reader : L3.Spec) : ATS :=
  (aSeq (aIfS (aB (aBin (fIn false) (aBin fIx (aV 0) (aC (.int 0))) (aV 1))) (aRet (aJoined [(aC (.str "(")), (aFmt (aCall S_show_reader [] (aCons (aV 0) aNil))), (aC (.str ")"))])) aNext)
  (aRet (aCall S_show_reader [] (aCons (aV 0) aNil))))
theorem w_show_within {P : Program} {w : World} {K : PySem.W.Frag} {mg : Str → Option Value} {base : Heap} {k : Nat} {S_show_reader : L3.Spec}
    (F_show_reader : Kn P w K mg base k "show_reader" P_show_reader [] S_show_reader)
    {f : Addr} {cdv : Value} {A : Around} {outer : List PySem.Env} {s : Shared} {H : Hp} {E : XK} {w0 : Wd} (hr : Room k (A.deeper (envOfC "show_within" (defScope s_show_within) s.heap.objs.size f cdv))) (hgd : A.guards = some []) :
    ASs (cxOf CX0 P w K mg base N_show_within "show_within" (defScope s_show_within) f cdv A outer s H E).nox w0 (defBody s_show_within) (T_show_within S_show_reader) :=
  have hN : (N_show_within : List Str).Nodup := sc_show_within.nd
  (as_cons (as_if (at_in (ae_ix (ae_v 0) ae_int) (ae_v 1)) (as_one (as_ret (ae_joined (.cons ae_str (.cons (ae_fmt (ae_call F_show_reader hr hgd rfl (aa_cons (ae_v 0) aa_nil))) (.cons ae_str .nil)))))) as_nil)
    (as_one (as_ret (ae_call F_show_reader hr hgd rfl (aa_cons (ae_v 0) aa_nil)))))
theorem sc_show_plain : FnScope N_show_plain P_show_plain (defScope s_show_plain) := ⟨rfl, rfl, rfl, by decide +kernel, rfl, by decide +kernel, by decide +kernel⟩
def T_show_plain (S_show_signs : L3.Spec) : ATS :=
  (aSeq (aIfS (aB (aBin (fIn false) (aV 0) (aTup (aCons (aC (.str "nothing")) (aCons (aC (.str "never")) aNil))))) (aRet (aIf (aB (aBin (fEq false) (aV 0) (aC (.str "nothing")))) (aC (.str "()")) (aC (.str "~")))) aNext)
  (aSeq (aIfS (aB (aBin (fEq false) (aV 0) (aC (.str "sign")))) (aRet (aJoined [(aC (.str "[")), (aFmt (aCall S_show_signs [] (aCons (aBin fIx (aV 1) (aC (.int 0))) aNil))), (aC (.str "]"))])) aNext)
  (aSeq (aIfS (aB (aBin (fEq false) (aV 0) (aC (.str "but")))) (aRet (aJoined [(aC (.str "[^")), (aFmt (aCall S_show_signs [] (aCons (aBin fIx (aV 1) (aC (.int 0))) aNil))), (aC (.str "]"))])) aNext)
  (aRet (aIf (aB (aBin (fEq false) (aV 0) (aC (.str "name")))) (aBin fIx (aV 1) (aC (.int 0))) (aJoined [(aC (.str "=")), (aFmt (aBin fIx (aV 1) (aC (.int 0))))]))))))
theorem w_show_plain {P : Program} {w : World} {K : PySem.W.Frag} {mg : Str → Option Value} {base : Heap} {k : Nat} {S_show_signs : L3.Spec}
    (F_show_signs : Kn P w K mg base k "show_signs" P_show_signs [] S_show_signs)
    {f : Addr} {cdv : Value} {A : Around} {outer : List PySem.Env} {s : Shared} {H : Hp} {E : XK} {w0 : Wd} (hr : Room k (A.deeper (envOfC "show_plain" (defScope s_show_plain) s.heap.objs.size f cdv))) (hgd : A.guards = some []) :
    ASs (cxOf CX0 P w K mg base N_show_plain "show_plain" (defScope s_show_plain) f cdv A outer s H E).nox w0 (defBody s_show_plain) (T_show_plain S_show_signs) :=
  have hN : (N_show_plain : List Str).Nodup := sc_show_plain.nd
  (as_cons (as_if (at_in (ae_v 0) (ae_tup (aa_cons ae_str (aa_cons ae_str aa_nil)))) (as_one (as_ret (ae_if (at_eq hr (ae_v 0) ae_str) ae_str ae_str))) as_nil)
    (as_cons (as_if (at_eq hr (ae_v 0) ae_str) (as_one (as_ret (ae_joined (.cons ae_str (.cons (ae_fmt (ae_call F_show_signs hr hgd rfl (aa_cons (ae_ix (ae_v 1) ae_int) aa_nil))) (.cons ae_str .nil)))))) as_nil)
    (as_cons (as_if (at_eq hr (ae_v 0) ae_str) (as_one (as_ret (ae_joined (.cons ae_str (.cons (ae_fmt (ae_call F_show_signs hr hgd rfl (aa_cons (ae_ix (ae_v 1) ae_int) aa_nil))) (.cons ae_str .nil)))))) as_nil)
    (as_one (as_ret (ae_if (at_eq hr (ae_v 0) ae_str) (ae_ix (ae_v 1) ae_int) (ae_joined (.cons ae_str (.cons (ae_fmt (ae_ix (ae_v 1) ae_int)) .nil)))))))))
theorem sc_show_reader : FnScope N_show_reader P_show_reader (defScope s_show_reader) := ⟨rfl, rfl, rfl, by decide +kernel, rfl, by decide +kernel, by decide +kernel⟩
def T_show_reader (S_show_within : L3.Spec) (S_show_plain : L3.Spec) (a_MARKS : Addr) : ATS :=
  (aSeq (aAsg (aV 0) (gSt 2 1 (gsCons (gN 1) (gsCons (gN 2) gsNil))))
  (aSeq (aIfS (aB (aBin (fEq false) (aV 1) (aC (.str "choice")))) (aRet (aJoin (aC (.str " / ")) (aFz (aLc (aIt (aBin fIx (aV 2) (aC (.int 0)))) (gN 4) aYes (aCallP S_show_within 1 1 [] [0, 1] (aCons (aV 4) aNil) (aCons (aTup (aCons (aC (.str "choice")) aNil)) aNil)) [4])))) aNext)
  (aSeq (aIfS (aB (aBin (fEq false) (aV 1) (aC (.str "row")))) (aRet (aJoin (aC (.str " ")) (aFz (aLc (aIt (aBin fIx (aV 2) (aC (.int 0)))) (gN 4) aYes (aCallP S_show_within 1 1 [] [0, 1] (aCons (aV 4) aNil) (aCons (aTup (aCons (aC (.str "choice")) (aCons (aC (.str "row")) aNil))) aNil)) [4])))) aNext)
  (aSeq (aIfS (aB (aBin (fIn true) (aV 1) (aC d_TIGHT))) (aRet (aCall S_show_plain [] (aCons (aV 1) (aCons (aV 2) aNil)))) aNext)
  (aSeq (aAsg (aV 2) (gSt 2 0 (gsCons (gN 3) (gsCons (gN 4) gsNil))))
  (aSeq (aAsg (aCallP S_show_within 1 1 [] [0, 1] (aCons (aV 4) aNil) (aCons (aBin fAdd (aTup (aCons (aC (.str "choice")) (aCons (aC (.str "row")) aNil))) (aC d_TIGHT)) aNil)) (gN 5))
  (aSeq (aIfS (aB (aBin (fInTab tab_MARKS a_MARKS false) (aV 1) (aC (.ref a_MARKS)))) (aRet (aJoined [(aFmt (aBin fIx (aV 3) (aC (.int 0)))), (aFmt (aBin (fIxTab tab_MARKS a_MARKS) (aC (.ref a_MARKS)) (aV 1))), (aFmt (aV 5))])) aNext)
  (aSeq (aIfS (aB (aBin (fIn false) (aV 1) (aTup (aCons (aC (.str "ahead")) (aCons (aC (.str "not")) aNil))))) (aRet (aBin fAdd (aIf (aB (aBin (fEq false) (aV 1) (aC (.str "ahead")))) (aC (.str "&")) (aC (.str "!"))) (aV 5))) aNext)
  (aRet (aBin fAdd (aV 5) (aIf (aB (aBin (fEq false) (aV 1) (aC (.str "many")))) (aC (.str "*")) (aC (.str "?")))))))))))))
theorem w_show_reader {P : Program} {w : World} {K : PySem.W.Frag} {mg : Str → Option Value} {base : Heap} {k : Nat} {S_show_within : L3.Spec} {S_show_plain : L3.Spec} {a_MARKS : Addr}
    (F_show_within_k1_but : KnP P w K mg base k "show_within" P_show_within 1 ["but"] [] [0, 1] S_show_within) (F_show_plain : Kn P w K mg base k "show_plain" P_show_plain [] S_show_plain) (t_TIGHT : GloD K mg "TIGHT" d_TIGHT) (g_MARKS : mg "MARKS" = some (.ref a_MARKS)) (k_MARKS : KTab K w a_MARKS tab_MARKS)
    {f : Addr} {cdv : Value} {A : Around} {outer : List PySem.Env} {s : Shared} {H : Hp} {E : XK} {w0 : Wd} (hr : Room k (A.deeper (envOfC "show_reader" (defScope s_show_reader) s.heap.objs.size f cdv))) (hgd : A.guards = some []) :
    ASs (cxOf CX0 P w K mg base N_show_reader "show_reader" (defScope s_show_reader) f cdv A outer s H E).nox w0 (defBody s_show_reader) (T_show_reader S_show_within S_show_plain a_MARKS) :=
  have hN : (N_show_reader : List Str).Nodup := sc_show_reader.nd
  (as_cons (as_asg (vs := [1, 2]) (ae_v 0) (ag_st (n := 2) (i := 1) rfl (by decide) (ags_cons (ag_n 1 hN (by decide)) (ags_st (ag_n 2 hN (by decide)) ags_nil))))
    (as_cons (as_if (at_eq hr (ae_v 1) ae_str) (as_one (as_ret (ae_join ae_str (ae_fz (an_lc [("part", 4)] rfl hN (ai_it (ae_ix (ae_v 2) ae_int)) (blkOk_by (N := N_show_reader) (sc := defScope s_show_reader) (by decide +kernel)) (fun s H C cl fp => (ag_n 4 hN (by decide))) (fun s H C cl fp => ats_nil) (fun s H C cl fp => (ae_callP F_show_within_k1_but hr hgd rfl (aa_cons (ae_v 4) aa_nil) (ak_cons (ae_tup (aa_cons ae_str aa_nil)) ak_nil)))))))) as_nil)
    (as_cons (as_if (at_eq hr (ae_v 1) ae_str) (as_one (as_ret (ae_join ae_str (ae_fz (an_lc [("part", 4)] rfl hN (ai_it (ae_ix (ae_v 2) ae_int)) (blkOk_by (N := N_show_reader) (sc := defScope s_show_reader) (by decide +kernel)) (fun s H C cl fp => (ag_n 4 hN (by decide))) (fun s H C cl fp => ats_nil) (fun s H C cl fp => (ae_callP F_show_within_k1_but hr hgd rfl (aa_cons (ae_v 4) aa_nil) (ak_cons (ae_tup (aa_cons ae_str (aa_cons ae_str aa_nil))) ak_nil)))))))) as_nil)
    (as_cons (as_if (at_notin (ae_v 1) (ae_gloD rfl t_TIGHT)) (as_one (as_ret (ae_call F_show_plain hr hgd rfl (aa_cons (ae_v 1) (aa_cons (ae_v 2) aa_nil))))) as_nil)
    (as_cons (as_asg (vs := [3, 4]) (ae_v 2) (ag_st (n := 2) (i := 0) rfl (by decide) (ags_st (ag_n 3 hN (by decide)) (ags_cons (ag_n 4 hN (by decide)) ags_nil))))
    (as_cons (as_set 5 hN (ae_callP F_show_within_k1_but hr hgd rfl (aa_cons (ae_v 4) aa_nil) (ak_cons (ae_add (ae_tup (aa_cons ae_str (aa_cons ae_str aa_nil))) (ae_gloD rfl t_TIGHT)) ak_nil)))
    (as_cons (as_if (at_inTab k_MARKS (ae_v 1) (ae_glob (v := .ref a_MARKS) rfl g_MARKS rfl (fun _ => by unfold Dt; rfl))) (as_one (as_ret (ae_joined (.cons (ae_fmt (ae_ix (ae_v 3) ae_int)) (.cons (ae_fmt (ae_ixTab k_MARKS (ae_glob (v := .ref a_MARKS) rfl g_MARKS rfl (fun _ => by unfold Dt; rfl)) (ae_v 1))) (.cons (ae_fmt (ae_v 5)) .nil)))))) as_nil)
    (as_cons (as_if (at_in (ae_v 1) (ae_tup (aa_cons ae_str (aa_cons ae_str aa_nil)))) (as_one (as_ret (ae_add (ae_if (at_eq hr (ae_v 1) ae_str) ae_str ae_str) (ae_v 5)))) as_nil)
    (as_one (as_ret (ae_add (ae_v 5) (ae_if (at_eq hr (ae_v 1) ae_str) ae_str ae_str))))))))))))
theorem sc_show_book : FnScope N_show_book P_show_book (defScope s_show_book) := ⟨rfl, rfl, rfl, by decide +kernel, rfl, by decide +kernel, by decide +kernel⟩
def T_show_book (S_show_reader : L3.Spec) : ATS :=
  (aRet (aJoin (aC (.str "")) (aFz (aLc (aIt (aV 0)) (gTp 2 (gsCons (gN 1) (gsCons (gN 2) gsNil))) aYes (aJoined [(aFmt (aV 1)), (aC (.str " = ")), (aFmt (aCall S_show_reader [] (aCons (aV 2) aNil))), (aC (.str ";\n"))]) [1, 2]))))
theorem w_show_book {P : Program} {w : World} {K : PySem.W.Frag} {mg : Str → Option Value} {base : Heap} {k : Nat} {S_show_reader : L3.Spec}
    (F_show_reader : Kn P w K mg base k "show_reader" P_show_reader [] S_show_reader)
    {f : Addr} {cdv : Value} {A : Around} {outer : List PySem.Env} {s : Shared} {H : Hp} {E : XK} {w0 : Wd} (hr : Room k (A.deeper (envOfC "show_book" (defScope s_show_book) s.heap.objs.size f cdv))) (hgd : A.guards = some []) :
    ASs (cxOf CX0 P w K mg base N_show_book "show_book" (defScope s_show_book) f cdv A outer s H E).nox w0 (defBody s_show_book) (T_show_book S_show_reader) :=
  have hN : (N_show_book : List Str).Nodup := sc_show_book.nd
  (as_one (as_ret (ae_join ae_str (ae_fz (an_lc [("name", 1), ("reader", 2)] rfl hN (ai_it (ae_v 0)) (blkOk_by (N := N_show_book) (sc := defScope s_show_book) (by decide +kernel)) (fun s H C cl fp => (ag_tp (n := 2) rfl (ags_cons (ag_n 1 hN (by decide)) (ags_cons (ag_n 2 hN (by decide)) ags_nil)))) (fun s H C cl fp => ats_nil) (fun s H C cl fp => (ae_joined (.cons (ae_fmt (ae_v 1)) (.cons ae_str (.cons (ae_fmt (ae_call F_show_reader hr hgd rfl (aa_cons (ae_v 2) aa_nil))) (.cons ae_str .nil)))))))))))
theorem sc_law_start : FnScope N_law_start P_law_start (defScope s_law_start) := ⟨rfl, rfl, rfl, by decide +kernel, rfl, by decide +kernel, by decide +kernel⟩
def T_law_start : ATS :=
  (aRet (aOw (aLst (aCons (aC (.int 0)) (aCons (aFn (f1 gList) (aCons (aSl (aV 0) aNo (aSo (aC (.int 63)))) aNil)) (aCons (aC (.int 0)) aNil))))))
theorem w_law_start {P : Program} {w : World} {K : PySem.W.Frag} {mg : Str → Option Value} {base : Heap} {k : Nat}
    (b_list : mg "list" = none)
    {f : Addr} {cdv : Value} {A : Around} {outer : List PySem.Env} {s : Shared} {H : Hp} {E : XK} {w0 : Wd} (hr : Room k (A.deeper (envOfC "_law_start" (defScope s_law_start) s.heap.objs.size f cdv))) (hgd : A.guards = some []) :
    ASs (cxOf CX0 P w K mg base N_law_start "_law_start" (defScope s_law_start) f cdv A outer s H E).nox w0 (defBody s_law_start) (T_law_start) :=
  have hN : (N_law_start : List Str).Nodup := sc_law_start.nd
  (as_one (as_ret (ae_ow (an_lst (aa_cons ae_int (aa_cons (ae_list rfl b_list (aa_cons (ae_sl (ae_v 0) ao_none (ao_some ae_int)) aa_nil)) (aa_cons ae_int aa_nil)))))))
theorem sc_law_draw : FnScope N_law_draw P_law_draw (defScope s_law_draw) := ⟨rfl, rfl, rfl, by decide +kernel, rfl, by decide +kernel, by decide +kernel⟩
def T_law_draw : ATS :=
  (aSeq (aIfS (aB (aBin fGt (aBin fIx (aV 0) (aC (.int 2))) (aC (.int 0)))) (aSeq (aAsg (aBin fMod (aBin fIx (aV 0) (aC (.int 2))) (aV 1)) (gN 6))
  (aSeq (aAsg (aBin fDiv (aBin fIx (aV 0) (aC (.int 2))) (aV 1)) (gSubL (aV 0) (aC (.int 2))))
  (aRet (aV 6)))) aNext)
  (aSeq (aAsg (aBin fIx (aV 0) (aC (.int 0))) (gN 2))
  (aSeq (aAsg (aBin fAdd (aV 2) (aC (.int 1))) (gSubL (aV 0) (aC (.int 0))))
  (aSeq (aAsg (aBin fAdd (aBin fAdd (aBin fMul (aBin fMul (aC (.int 61151)) (aV 2)) (aV 2)) (aBin fMul (aC (.int 907)) (aV 2))) (aC (.int 31))) (gN 3))
  (aSeq (aIfS (aB (aBin (fEq true) (aBin fIx (aV 0) (aC (.int 1))) (aFz (aLst aNil)))) (aAsg (aBin fIx (aBin fIx (aV 0) (aC (.int 1))) (aBin fMod (aV 2) (aFn (f1 gLen) (aCons (aBin fIx (aV 0) (aC (.int 1))) aNil)))) (gN 3)) aNext)
  (aSeq (aIfS (aAnd (aB (aBin fLt (aV 2) (aFn (f1 gLen) (aCons (aBin fIx (aV 0) (aC (.int 1))) aNil)))) (aB (aBin fGe (aFn (f1 gAbs) (aCons (aV 3) aNil)) (aBin fPow (aC (.int 10)) (aC (.int 18)))))) (aSeq (aAsg (aBin fDiv (aFn (f1 gAbs) (aCons (aV 3) aNil)) (aV 1)) (gSubL (aV 0) (aC (.int 2))))
  (aRet (aBin fMod (aFn (f1 gAbs) (aCons (aV 3) aNil)) (aV 1)))) aNext)
  (aSeq (aAsg (aBin fMod (aBin fPow (aBin fAdd (aBin fAdd (aBin fMod (aV 3) (aC (.int 2147483549))) (aBin fMul (aC (.int 50021)) (aV 2))) (aC (.int 317))) (aC (.int 5))) (aC (.int 2147483629))) (gN 4))
  (aSeq (aAsg (aBin fMod (aBin fPow (aBin fAdd (aBin fAdd (aBin fMul (aV 4) (aBin fAdd (aV 2) (aC (.int 5)))) (aBin fMul (aBin fMul (aC (.int 70111)) (aV 2)) (aV 2))) (aC (.int 23))) (aC (.int 3))) (aC (.int 2147483579))) (gN 5))
  (aRet (aBin fMod (aBin fDiv (aBin fMod (aBin fAdd (aV 5) (aBin fMul (aBin fMod (aV 4) (aC (.int 40009))) (aC (.int 32771)))) (aC (.int 2147483489))) (aC (.int 64))) (aV 1)))))))))))
theorem w_law_draw {P : Program} {w : World} {K : PySem.W.Frag} {mg : Str → Option Value} {base : Heap} {k : Nat}
    (b_len : mg "len" = none) (b_abs : mg "abs" = none)
    {f : Addr} {cdv : Value} {A : Around} {outer : List PySem.Env} {s : Shared} {H : Hp} {E : XK} {w0 : Wd} (hr : Room k (A.deeper (envOfC "_law_draw" (defScope s_law_draw) s.heap.objs.size f cdv))) (hgd : A.guards = some []) :
    ASs (cxOf CX0 P w K mg base N_law_draw "_law_draw" (defScope s_law_draw) f cdv A outer s H E).nox w0 (defBody s_law_draw) (T_law_draw) :=
  have hN : (N_law_draw : List Str).Nodup := sc_law_draw.nd
  (as_cons (as_if (at_gt (ae_ix (ae_v 0) ae_int) ae_int) (as_cons (as_set 6 hN (ae_mod (ae_ix (ae_v 0) ae_int) (ae_v 1)))
    (as_cons (as_asg (vs := []) (ae_div (ae_ix (ae_v 0) ae_int) (ae_v 1)) (ag_sub (ae_v 0) ae_int))
    (as_one (as_ret (ae_v 6))))) as_nil)
    (as_cons (as_set 2 hN (ae_ix (ae_v 0) ae_int))
    (as_cons (as_asg (vs := []) (ae_add (ae_v 2) ae_int) (ag_sub (ae_v 0) ae_int))
    (as_cons (as_set 3 hN (ae_add (ae_add (ae_mul (ae_mul ae_int (ae_v 2)) (ae_v 2)) (ae_mul ae_int (ae_v 2))) ae_int))
    (as_cons (as_if (at_ne hr (ae_ix (ae_v 0) ae_int) (ae_fz (an_lst aa_nil))) (as_one (as_set 3 hN (ae_ix (ae_ix (ae_v 0) ae_int) (ae_mod (ae_v 2) (ae_len rfl b_len (aa_cons (ae_ix (ae_v 0) ae_int) aa_nil)))))) as_nil)
    (as_cons (as_if (at_w (aw_and (at_lt (ae_v 2) (ae_len rfl b_len (aa_cons (ae_ix (ae_v 0) ae_int) aa_nil))) (aw_and1 (at_ge (ae_abs rfl b_abs (aa_cons (ae_v 3) aa_nil)) (ae_pow ae_int ae_int))))) (as_cons (as_asg (vs := []) (ae_div (ae_abs rfl b_abs (aa_cons (ae_v 3) aa_nil)) (ae_v 1)) (ag_sub (ae_v 0) ae_int))
    (as_one (as_ret (ae_mod (ae_abs rfl b_abs (aa_cons (ae_v 3) aa_nil)) (ae_v 1))))) as_nil)
    (as_cons (as_set 4 hN (ae_mod (ae_pow (ae_add (ae_add (ae_mod (ae_v 3) ae_int) (ae_mul ae_int (ae_v 2))) ae_int) ae_int) ae_int))
    (as_cons (as_set 5 hN (ae_mod (ae_pow (ae_add (ae_add (ae_mul (ae_v 4) (ae_add (ae_v 2) ae_int)) (ae_mul (ae_mul ae_int (ae_v 2)) (ae_v 2))) ae_int) ae_int) ae_int))
    (as_one (as_ret (ae_mod (ae_div (ae_mod (ae_add (ae_v 5) (ae_mul (ae_mod (ae_v 4) ae_int) ae_int)) ae_int) ae_int) (ae_v 1))))))))))))
theorem sc_law_label : FnScope N_law_label P_law_label (defScope s_law_label) := ⟨rfl, rfl, rfl, by decide +kernel, rfl, by decide +kernel, by decide +kernel⟩
def T_law_label (S_law_draw : L3.Spec) : ATS :=
  (aSeq (aAsg (aC (.str "abcdefghijklmnopqrstuvwxyz")) (gN 1))
  (aSeq (aAsg (aFz (aLst (aCons (aC (.str "text")) (aCons (aC (.str "drop")) (aCons (aC (.str "count")) (aCons (aC (.str "number")) (aCons (aC (.str "name")) (aCons (aC (.str "row")) (aCons (aC (.str "many")) (aCons (aC (.str "not")) (aCons (aC (.str "n")) aNil))))))))))) (gN 2))
  (aSeq (aAsg (aBin fIx (aFz (aLst (aCons (aC (.int 1)) (aCons (aC (.int 8)) (aCons (aBin fAdd (aC (.int 1)) (aCall S_law_draw [] (aCons (aV 0) (aCons (aC (.int 8)) aNil)))) (aCons (aC (.int 2)) aNil)))))) (aCall S_law_draw [] (aCons (aV 0) (aCons (aC (.int 4)) aNil)))) (gN 3))
  (aSeq (aAsg (aJoin (aC (.str "")) (aFz (aLc (aRng1 (aCons (aV 3) aNil)) (gN 6) aYes (aBin fIx (aV 1) (aCall S_law_draw [] (aCons (aV 0) (aCons (aC (.int 26)) aNil)))) [6]))) (gN 4))
  (aSeq (aAsg (aCall S_law_draw [] (aCons (aV 0) (aCons (aC (.int 9)) aNil))) (gN 5))
  (aRet (aBin fIx (aFz (aLst (aCons (aV 4) (aCons (aBin fIx (aV 2) (aV 5)) aNil)))) (aFn (f1 gInt1) (aCons (aBin (fEq false) (aCall S_law_draw [] (aCons (aV 0) (aCons (aC (.int 4)) aNil))) (aC (.int 0))) aNil)))))))))
theorem w_law_label {P : Program} {w : World} {K : PySem.W.Frag} {mg : Str → Option Value} {base : Heap} {k : Nat} {S_law_draw : L3.Spec}
    (F_law_draw : Kn P w K mg base k "_law_draw" P_law_draw [] S_law_draw) (b_range : mg "range" = none) (b_int : mg "int" = none)
    {f : Addr} {cdv : Value} {A : Around} {outer : List PySem.Env} {s : Shared} {H : Hp} {E : XK} {w0 : Wd} (hr : Room k (A.deeper (envOfC "_law_label" (defScope s_law_label) s.heap.objs.size f cdv))) (hgd : A.guards = some []) :
    ASs (cxOf CX0 P w K mg base N_law_label "_law_label" (defScope s_law_label) f cdv A outer s H E).nox w0 (defBody s_law_label) (T_law_label S_law_draw) :=
  have hN : (N_law_label : List Str).Nodup := sc_law_label.nd
  (as_cons (as_set 1 hN ae_str)
    (as_cons (as_set 2 hN (ae_fz (an_lst (aa_cons ae_str (aa_cons ae_str (aa_cons ae_str (aa_cons ae_str (aa_cons ae_str (aa_cons ae_str (aa_cons ae_str (aa_cons ae_str (aa_cons ae_str aa_nil))))))))))))
    (as_cons (as_set 3 hN (ae_ix (ae_fz (an_lst (aa_cons ae_int (aa_cons ae_int (aa_cons (ae_add ae_int (ae_call F_law_draw hr hgd rfl (aa_cons (ae_v 0) (aa_cons ae_int aa_nil)))) (aa_cons ae_int aa_nil)))))) (ae_call F_law_draw hr hgd rfl (aa_cons (ae_v 0) (aa_cons ae_int aa_nil)))))
    (as_cons (as_set 4 hN (ae_join ae_str (ae_fz (an_lc [("_law_k", 6)] rfl hN (ai_rng1 rfl b_range (aa_cons (ae_v 3) aa_nil)) (blkOk_by (N := N_law_label) (sc := defScope s_law_label) (by decide +kernel)) (fun s H C cl fp => (ag_n 6 hN (by decide))) (fun s H C cl fp => ats_nil) (fun s H C cl fp => (ae_ix (ae_v 1) (ae_call F_law_draw hr hgd rfl (aa_cons (ae_v 0) (aa_cons ae_int aa_nil)))))))))
    (as_cons (as_set 5 hN (ae_call F_law_draw hr hgd rfl (aa_cons (ae_v 0) (aa_cons ae_int aa_nil))))
    (as_one (as_ret (ae_ix (ae_fz (an_lst (aa_cons (ae_v 4) (aa_cons (ae_ix (ae_v 2) (ae_v 5)) aa_nil)))) (ae_int1 rfl b_int (aa_cons (ae_eq hr (ae_call F_law_draw hr hgd rfl (aa_cons (ae_v 0) (aa_cons ae_int aa_nil))) ae_int) aa_nil))))))))))
theorem sc_law_signs : FnScope N_law_signs P_law_signs (defScope s_law_signs) := ⟨rfl, rfl, rfl, by decide +kernel, rfl, by decide +kernel, by decide +kernel⟩
def T_law_signs (S_law_draw : L3.Spec) : ATS :=
  (aSeq (aAsg (aC (.str "\n !\"#$&'()*+,-./0129:;<=>?@AZ[\\]^_`abnz{|}~")) (gN 2))
  (aSeq (aAsg (aBin fIx (aFz (aLst (aCons (aC (.int 2)) (aCons (aC (.int 9)) (aCons (aC (.int 24)) (aCons (aC (.int 60)) aNil)))))) (aCall S_law_draw [] (aCons (aV 0) (aCons (aC (.int 4)) aNil)))) (gN 3))
  (aSeq (aAsg (aFz (aLc (aIt (aV 2)) (gN 5) (aB (aBin (fEq false) (aCall S_law_draw [] (aCons (aV 0) (aCons (aV 3) aNil))) (aC (.int 0)))) (aV 5) [5])) (gN 4))
  (aSeq (aIfS (aB (aBin fLt (aFn (f1 gLen) (aCons (aV 4) aNil)) (aV 1))) (aAsg (aFz (aLst (aCons (aBin fIx (aV 2) (aCall S_law_draw [] (aCons (aV 0) (aCons (aFn (f1 gLen) (aCons (aV 2) aNil)) aNil)))) aNil))) (gN 4)) aNext)
  (aRet (aJoin (aC (.str "")) (aSl (aV 4) aNo (aSo (aC (.int 30))))))))))
theorem w_law_signs {P : Program} {w : World} {K : PySem.W.Frag} {mg : Str → Option Value} {base : Heap} {k : Nat} {S_law_draw : L3.Spec}
    (F_law_draw : Kn P w K mg base k "_law_draw" P_law_draw [] S_law_draw) (b_len : mg "len" = none)
    {f : Addr} {cdv : Value} {A : Around} {outer : List PySem.Env} {s : Shared} {H : Hp} {E : XK} {w0 : Wd} (hr : Room k (A.deeper (envOfC "_law_signs" (defScope s_law_signs) s.heap.objs.size f cdv))) (hgd : A.guards = some []) :
    ASs (cxOf CX0 P w K mg base N_law_signs "_law_signs" (defScope s_law_signs) f cdv A outer s H E).nox w0 (defBody s_law_signs) (T_law_signs S_law_draw) :=
  have hN : (N_law_signs : List Str).Nodup := sc_law_signs.nd
  (as_cons (as_set 2 hN ae_str)
    (as_cons (as_set 3 hN (ae_ix (ae_fz (an_lst (aa_cons ae_int (aa_cons ae_int (aa_cons ae_int (aa_cons ae_int aa_nil)))))) (ae_call F_law_draw hr hgd rfl (aa_cons (ae_v 0) (aa_cons ae_int aa_nil)))))
    (as_cons (as_lc 4 [("_law_sign", 5)] rfl hN (ai_it (ae_v 2)) (blkOk_by (N := N_law_signs) (sc := defScope s_law_signs) (by decide +kernel)) (fun s H C cl fp => (ag_n 5 hN (by decide))) (fun s H C cl fp => ats_one (at_eq hr (ae_call F_law_draw hr hgd rfl (aa_cons (ae_v 0) (aa_cons (ae_v 3) aa_nil))) ae_int)) (fun s H C cl fp => (ae_v 5)))
    (as_cons (as_if (at_lt (ae_len rfl b_len (aa_cons (ae_v 4) aa_nil)) (ae_v 1)) (as_one (as_set 4 hN (ae_fz (an_lst (aa_cons (ae_ix (ae_v 2) (ae_call F_law_draw hr hgd rfl (aa_cons (ae_v 0) (aa_cons (ae_len rfl b_len (aa_cons (ae_v 2) aa_nil)) aa_nil)))) aa_nil))))) as_nil)
    (as_one (as_ret (ae_join ae_str (ae_sl (ae_v 4) ao_none (ao_some ae_int)))))))))
theorem sc_law_bare : FnScope N_law_bare P_law_bare (defScope s_law_bare) := ⟨rfl, rfl, rfl, by decide +kernel, rfl, by decide +kernel, by decide +kernel⟩
def T_law_bare (S_law_draw : L3.Spec) (S_law_signs : L3.Spec) (S_law_label : L3.Spec) : ATS :=
  (aSeq (aAsg (aCall S_law_draw [] (aCons (aV 0) (aCons (aC (.int 7)) aNil))) (gN 2))
  (aSeq (aAsg (aFz (aLst (aCons (aTup (aCons (aC (.str "sign")) (aCons (aCall S_law_signs [] (aCons (aV 0) (aCons (aC (.int 1)) aNil))) aNil))) (aCons (aTup (aCons (aC (.str "but")) (aCons (aCall S_law_signs [] (aCons (aV 0) (aCons (aC (.int 0)) aNil))) aNil))) (aCons (aTup (aCons (aC (.str "nothing")) aNil)) (aCons (aTup (aCons (aC (.str "never")) aNil)) aNil)))))) (gN 3))
  (aSeq (aAsg (aBin fAdd (aV 3) (aFz (aLst (aCons (aTup (aCons (aC (.str "again")) (aCons (aCall S_law_label [] (aCons (aV 0) aNil)) aNil))) (aCons (aTup (aCons (aC (.str "name")) (aCons (aBin fIx (aV 1) (aCall S_law_draw [] (aCons (aV 0) (aCons (aFn (f1 gLen) (aCons (aV 1) aNil)) aNil)))) aNil))) aNil))))) (gN 3))
  (aRet (aBin fIx (aBin fAdd (aV 3) (aSl (aV 3) (aSo (aUn fNeg (aC (.int 1)))) aNo)) (aV 2))))))
theorem w_law_bare {P : Program} {w : World} {K : PySem.W.Frag} {mg : Str → Option Value} {base : Heap} {k : Nat} {S_law_draw : L3.Spec} {S_law_signs : L3.Spec} {S_law_label : L3.Spec}
    (F_law_draw : Kn P w K mg base k "_law_draw" P_law_draw [] S_law_draw) (F_law_signs : Kn P w K mg base k "_law_signs" P_law_signs [] S_law_signs) (F_law_label : Kn P w K mg base k "_law_label" P_law_label [] S_law_label) (b_len : mg "len" = none)
    {f : Addr} {cdv : Value} {A : Around} {outer : List PySem.Env} {s : Shared} {H : Hp} {E : XK} {w0 : Wd} (hr : Room k (A.deeper (envOfC "_law_bare" (defScope s_law_bare) s.heap.objs.size f cdv))) (hgd : A.guards = some []) :
    ASs (cxOf CX0 P w K mg base N_law_bare "_law_bare" (defScope s_law_bare) f cdv A outer s H E).nox w0 (defBody s_law_bare) (T_law_bare S_law_draw S_law_signs S_law_label) :=
  have hN : (N_law_bare : List Str).Nodup := sc_law_bare.nd
  (as_cons (as_set 2 hN (ae_call F_law_draw hr hgd rfl (aa_cons (ae_v 0) (aa_cons ae_int aa_nil))))
    (as_cons (as_set 3 hN (ae_fz (an_lst (aa_cons (ae_tup (aa_cons ae_str (aa_cons (ae_call F_law_signs hr hgd rfl (aa_cons (ae_v 0) (aa_cons ae_int aa_nil))) aa_nil))) (aa_cons (ae_tup (aa_cons ae_str (aa_cons (ae_call F_law_signs hr hgd rfl (aa_cons (ae_v 0) (aa_cons ae_int aa_nil))) aa_nil))) (aa_cons (ae_tup (aa_cons ae_str aa_nil)) (aa_cons (ae_tup (aa_cons ae_str aa_nil)) aa_nil)))))))
    (as_cons (as_set 3 hN (ae_add (ae_v 3) (ae_fz (an_lst (aa_cons (ae_tup (aa_cons ae_str (aa_cons (ae_call F_law_label hr hgd rfl (aa_cons (ae_v 0) aa_nil)) aa_nil))) (aa_cons (ae_tup (aa_cons ae_str (aa_cons (ae_ix (ae_v 1) (ae_call F_law_draw hr hgd rfl (aa_cons (ae_v 0) (aa_cons (ae_len rfl b_len (aa_cons (ae_v 1) aa_nil)) aa_nil)))) aa_nil))) aa_nil))))))
    (as_one (as_ret (ae_ix (ae_add (ae_v 3) (ae_sl (ae_v 3) (ao_some (ae_neg ae_int)) ao_none)) (ae_v 2)))))))
theorem sc_law_any : FnScope N_law_any P_law_any (defScope s_law_any) := ⟨rfl, rfl, rfl, by decide +kernel, rfl, by decide +kernel, by decide +kernel⟩
def T_law_any (S_law_draw : L3.Spec) (S_law_bare : L3.Spec) (S_law_any : L3.Spec) (S_law_label : L3.Spec) : ATS :=
  (aSeq (aAsg (aBin fSub (aBin fIx (aV 2) (aC (.int 0))) (aC (.int 1))) (gSubL (aV 2) (aC (.int 0))))
  (aSeq (aAsg (aCall S_law_draw [] (aCons (aV 0) (aCons (aC (.int 12)) aNil))) (gN 4))
  (aSeq (aIfS (aOr (aB (aBin (fEq false) (aV 1) (aC (.int 1)))) (aOr (aB (aBin fLt (aBin fIx (aV 2) (aC (.int 0))) (aC (.int 7)))) (aB (aBin fLt (aV 4) (aC (.int 3)))))) (aRet (aCall S_law_bare [] (aCons (aV 0) (aCons (aV 3) aNil)))) aNext)
  (aSeq (aIfS (aB (aBin fLt (aV 4) (aC (.int 7)))) (aSeq (aAsg (aBin fIx (aFz (aLst (aCons (aC (.int 2)) (aCons (aC (.int 3)) (aCons (aC (.int 6)) aNil))))) (aBin fDiv (aCall S_law_draw [] (aCons (aV 0) (aCons (aC (.int 8)) aNil))) (aC (.int 3)))) (gN 6))
  (aSeq (aAsg (aFz (aLc (aRng1 (aCons (aV 6) aNil)) (gN 8) aYes (aCall S_law_any [] (aCons (aV 0) (aCons (aBin fSub (aV 1) (aC (.int 1))) (aCons (aV 2) (aCons (aV 3) aNil))))) [8])) (gN 7))
  (aRet (aTup (aCons (aBin fIx (aFz (aLst (aCons (aC (.str "row")) (aCons (aC (.str "choice")) aNil)))) (aBin fMod (aV 4) (aC (.int 2)))) (aCons (aFn (f1 gTuple) (aCons (aV 7) aNil)) aNil)))))) aNext)
  (aSeq (aAsg (aCall S_law_any [] (aCons (aV 0) (aCons (aBin fSub (aV 1) (aC (.int 1))) (aCons (aV 2) (aCons (aV 3) aNil))))) (gN 5))
  (aSeq (aIfS (aB (aBin fLt (aV 4) (aC (.int 10)))) (aRet (aTup (aCons (aBin fIx (aFz (aLst (aCons (aC (.str "many")) (aCons (aC (.str "maybe")) (aCons (aC (.str "ahead")) (aCons (aC (.str "not")) aNil)))))) (aCall S_law_draw [] (aCons (aV 0) (aCons (aC (.int 4)) aNil)))) (aCons (aV 5) aNil)))) aNext)
  (aSeq (aIfS (aB (aBin (fEq false) (aV 4) (aC (.int 10)))) (aRet (aTup (aCons (aC (.str "make")) (aCons (aBin fIx (aFz (aLst (aCons (aC (.str "text")) (aCons (aC (.str "drop")) (aCons (aC (.str "count")) (aCons (aC (.str "number")) aNil)))))) (aCall S_law_draw [] (aCons (aV 0) (aCons (aC (.int 4)) aNil)))) (aCons (aV 5) aNil))))) aNext)
  (aRet (aTup (aCons (aBin fIx (aFz (aLst (aCons (aC (.str "hold")) (aCons (aC (.str "tag")) aNil)))) (aCall S_law_draw [] (aCons (aV 0) (aCons (aC (.int 2)) aNil)))) (aCons (aCall S_law_label [] (aCons (aV 0) aNil)) (aCons (aV 5) aNil))))))))))))
theorem w_law_any {P : Program} {w : World} {K : PySem.W.Frag} {mg : Str → Option Value} {base : Heap} {k : Nat} {S_law_draw : L3.Spec} {S_law_bare : L3.Spec} {S_law_any : L3.Spec} {S_law_label : L3.Spec}
    (F_law_draw : Kn P w K mg base k "_law_draw" P_law_draw [] S_law_draw) (F_law_bare : Kn P w K mg base k "_law_bare" P_law_bare [] S_law_bare) (F_law_any : Kn P w K mg base k "_law_any" P_law_any [] S_law_any) (F_law_label : Kn P w K mg base k "_law_label" P_law_label [] S_law_label) (b_range : mg "range" = none) (b_tuple : mg "tuple" = none)
    {f : Addr} {cdv : Value} {A : Around} {outer : List PySem.Env} {s : Shared} {H : Hp} {E : XK} {w0 : Wd} (hr : Room k (A.deeper (envOfC "_law_any" (defScope s_law_any) s.heap.objs.size f cdv))) (hgd : A.guards = some []) :
    ASs (cxOf CX0 P w K mg base N_law_any "_law_any" (defScope s_law_any) f cdv A outer s H E).nox w0 (defBody s_law_any) (T_law_any S_law_draw S_law_bare S_law_any S_law_label) :=
  have hN : (N_law_any : List Str).Nodup := sc_law_any.nd
  (as_cons (as_asg (vs := []) (ae_subt (ae_ix (ae_v 2) ae_int) ae_int) (ag_sub (ae_v 2) ae_int))
    (as_cons (as_set 4 hN (ae_call F_law_draw hr hgd rfl (aa_cons (ae_v 0) (aa_cons ae_int aa_nil))))
    (as_cons (as_if (at_w (aw_or (at_eq hr (ae_v 1) ae_int) (aw_or (at_lt (ae_ix (ae_v 2) ae_int) ae_int) (aw_or1 (at_lt (ae_v 4) ae_int))))) (as_one (as_ret (ae_call F_law_bare hr hgd rfl (aa_cons (ae_v 0) (aa_cons (ae_v 3) aa_nil))))) as_nil)
    (as_cons (as_if (at_lt (ae_v 4) ae_int) (as_cons (as_set 6 hN (ae_ix (ae_fz (an_lst (aa_cons ae_int (aa_cons ae_int (aa_cons ae_int aa_nil))))) (ae_div (ae_call F_law_draw hr hgd rfl (aa_cons (ae_v 0) (aa_cons ae_int aa_nil))) ae_int)))
    (as_cons (as_lc 7 [("_law_k", 8)] rfl hN (ai_rng1 rfl b_range (aa_cons (ae_v 6) aa_nil)) (blkOk_by (N := N_law_any) (sc := defScope s_law_any) (by decide +kernel)) (fun s H C cl fp => (ag_n 8 hN (by decide))) (fun s H C cl fp => ats_nil) (fun s H C cl fp => (ae_call F_law_any hr hgd rfl (aa_cons (ae_v 0) (aa_cons (ae_subt (ae_v 1) ae_int) (aa_cons (ae_v 2) (aa_cons (ae_v 3) aa_nil)))))))
    (as_one (as_ret (ae_tup (aa_cons (ae_ix (ae_fz (an_lst (aa_cons ae_str (aa_cons ae_str aa_nil)))) (ae_mod (ae_v 4) ae_int)) (aa_cons (ae_tuple rfl b_tuple (aa_cons (ae_v 7) aa_nil)) aa_nil))))))) as_nil)
    (as_cons (as_set 5 hN (ae_call F_law_any hr hgd rfl (aa_cons (ae_v 0) (aa_cons (ae_subt (ae_v 1) ae_int) (aa_cons (ae_v 2) (aa_cons (ae_v 3) aa_nil))))))
    (as_cons (as_if (at_lt (ae_v 4) ae_int) (as_one (as_ret (ae_tup (aa_cons (ae_ix (ae_fz (an_lst (aa_cons ae_str (aa_cons ae_str (aa_cons ae_str (aa_cons ae_str aa_nil)))))) (ae_call F_law_draw hr hgd rfl (aa_cons (ae_v 0) (aa_cons ae_int aa_nil)))) (aa_cons (ae_v 5) aa_nil))))) as_nil)
    (as_cons (as_if (at_eq hr (ae_v 4) ae_int) (as_one (as_ret (ae_tup (aa_cons ae_str (aa_cons (ae_ix (ae_fz (an_lst (aa_cons ae_str (aa_cons ae_str (aa_cons ae_str (aa_cons ae_str aa_nil)))))) (ae_call F_law_draw hr hgd rfl (aa_cons (ae_v 0) (aa_cons ae_int aa_nil)))) (aa_cons (ae_v 5) aa_nil)))))) as_nil)
    (as_one (as_ret (ae_tup (aa_cons (ae_ix (ae_fz (an_lst (aa_cons ae_str (aa_cons ae_str aa_nil)))) (ae_call F_law_draw hr hgd rfl (aa_cons (ae_v 0) (aa_cons ae_int aa_nil)))) (aa_cons (ae_call F_law_label hr hgd rfl (aa_cons (ae_v 0) aa_nil)) (aa_cons (ae_v 5) aa_nil)))))))))))))
theorem sc_law_size : FnScope N_law_size P_law_size (defScope s_law_size) := ⟨rfl, rfl, rfl, by decide +kernel, rfl, by decide +kernel, by decide +kernel⟩
def T_law_size (S_law_size : L3.Spec) : ATS :=
  (aSeq (aIfS (aB (aBin (fIn false) (aBin fIx (aV 0) (aC (.int 0))) (aTup (aCons (aC (.str "row")) (aCons (aC (.str "choice")) aNil))))) (aRet (aBin fAdd (aC (.int 1)) (aFn (f1 gSum) (aCons (aFz (aLc (aIt (aBin fIx (aV 0) (aC (.int 1)))) (gN 1) aYes (aCall S_law_size [] (aCons (aV 1) aNil)) [1])) aNil)))) aNext)
  (aSeq (aIfS (aB (aBin (fIn false) (aBin fIx (aV 0) (aC (.int 0))) (aTup (aCons (aC (.str "many")) (aCons (aC (.str "maybe")) (aCons (aC (.str "ahead")) (aCons (aC (.str "not")) aNil))))))) (aRet (aBin fAdd (aC (.int 1)) (aCall S_law_size [] (aCons (aBin fIx (aV 0) (aC (.int 1))) aNil)))) aNext)
  (aSeq (aIfS (aB (aBin (fIn false) (aBin fIx (aV 0) (aC (.int 0))) (aTup (aCons (aC (.str "hold")) (aCons (aC (.str "tag")) (aCons (aC (.str "make")) aNil)))))) (aRet (aBin fAdd (aC (.int 1)) (aCall S_law_size [] (aCons (aBin fIx (aV 0) (aC (.int 2))) aNil)))) aNext)
  (aRet (aC (.int 1))))))
theorem w_law_size {P : Program} {w : World} {K : PySem.W.Frag} {mg : Str → Option Value} {base : Heap} {k : Nat} {S_law_size : L3.Spec}
    (F_law_size : Kn P w K mg base k "_law_size" P_law_size [] S_law_size) (b_sum : mg "sum" = none)
    {f : Addr} {cdv : Value} {A : Around} {outer : List PySem.Env} {s : Shared} {H : Hp} {E : XK} {w0 : Wd} (hr : Room k (A.deeper (envOfC "_law_size" (defScope s_law_size) s.heap.objs.size f cdv))) (hgd : A.guards = some []) :
    ASs (cxOf CX0 P w K mg base N_law_size "_law_size" (defScope s_law_size) f cdv A outer s H E).nox w0 (defBody s_law_size) (T_law_size S_law_size) :=
  have hN : (N_law_size : List Str).Nodup := sc_law_size.nd
  (as_cons (as_if (at_in (ae_ix (ae_v 0) ae_int) (ae_tup (aa_cons ae_str (aa_cons ae_str aa_nil)))) (as_one (as_ret (ae_add ae_int (ae_sum rfl rfl b_sum (aa_cons (ae_fz (an_lc [("_law_part", 1)] rfl hN (ai_it (ae_ix (ae_v 0) ae_int)) (blkOk_by (N := N_law_size) (sc := defScope s_law_size) (by decide +kernel)) (fun s H C cl fp => (ag_n 1 hN (by decide))) (fun s H C cl fp => ats_nil) (fun s H C cl fp => (ae_call F_law_size hr hgd rfl (aa_cons (ae_v 1) aa_nil))))) aa_nil))))) as_nil)
    (as_cons (as_if (at_in (ae_ix (ae_v 0) ae_int) (ae_tup (aa_cons ae_str (aa_cons ae_str (aa_cons ae_str (aa_cons ae_str aa_nil)))))) (as_one (as_ret (ae_add ae_int (ae_call F_law_size hr hgd rfl (aa_cons (ae_ix (ae_v 0) ae_int) aa_nil))))) as_nil)
    (as_cons (as_if (at_in (ae_ix (ae_v 0) ae_int) (ae_tup (aa_cons ae_str (aa_cons ae_str (aa_cons ae_str aa_nil))))) (as_one (as_ret (ae_add ae_int (ae_call F_law_size hr hgd rfl (aa_cons (ae_ix (ae_v 0) ae_int) aa_nil))))) as_nil)
    (as_one (as_ret ae_int)))))
theorem sc_law_pages : FnScope N_law_pages P_law_pages (defScope s_law_pages) := ⟨rfl, rfl, rfl, by decide +kernel, rfl, by decide +kernel, by decide +kernel⟩
def T_law_pages (S_law_draw : L3.Spec) (S_law_label : L3.Spec) (S_law_any : L3.Spec) (S_law_size : L3.Spec) (S_law_bare : L3.Spec) : ATS :=
  (aSeq (aAsg (aOw (aLst aNil)) (gN 1))
  (aSeq (aFor (aRng1 (aCons (aBin fIx (aFz (aLst (aCons (aC (.int 1)) (aCons (aC (.int 2)) (aCons (aBin fAdd (aC (.int 1)) (aCall S_law_draw [] (aCons (aV 0) (aCons (aC (.int 8)) aNil)))) (aCons (aC (.int 8)) aNil)))))) (aCall S_law_draw [] (aCons (aV 0) (aCons (aC (.int 4)) aNil)))) aNil)) (gN 2) (aSeq (aAsg (aCall S_law_label [] (aCons (aV 0) aNil)) (gN 5))
  (aIfS (aB (aBin (fIn true) (aV 5) (aV 1))) (aDrop (aApp (aV 1) (aV 5))) aNext)))
  (aSeq (aAsg (aOw (aLst (aCons (aC (.int 0)) aNil))) (gN 3))
  (aSeq (aAsg (aOw (aLst aNil)) (gN 4))
  (aSeq (aFor (aIt (aV 1)) (gN 5) (aSeq (aAsg (aBin fDiv (aC (.int 56)) (aFn (f1 gLen) (aCons (aV 1) aNil))) (gSubL (aV 3) (aC (.int 0))))
  (aSeq (aAsg (aCall S_law_any [] (aCons (aV 0) (aCons (aBin fAdd (aC (.int 1)) (aCall S_law_draw [] (aCons (aV 0) (aCons (aC (.int 8)) aNil)))) (aCons (aV 3) (aCons (aV 1) aNil))))) (gN 6))
  (aSeq (aIfS (aB (aBin fGt (aCall S_law_size [] (aCons (aV 6) aNil)) (aBin fDiv (aC (.int 72)) (aFn (f1 gLen) (aCons (aV 1) aNil))))) (aAsg (aCall S_law_bare [] (aCons (aV 0) (aCons (aV 1) aNil))) (gN 6)) aNext)
  (aDrop (aApp (aV 4) (aTup (aCons (aV 5) (aCons (aV 6) aNil)))))))))
  (aRet (aFn (f1 gTuple) (aCons (aV 4) aNil))))))))
theorem w_law_pages {P : Program} {w : World} {K : PySem.W.Frag} {mg : Str → Option Value} {base : Heap} {k : Nat} {S_law_draw : L3.Spec} {S_law_label : L3.Spec} {S_law_any : L3.Spec} {S_law_size : L3.Spec} {S_law_bare : L3.Spec}
    (F_law_draw : Kn P w K mg base k "_law_draw" P_law_draw [] S_law_draw) (F_law_label : Kn P w K mg base k "_law_label" P_law_label [] S_law_label) (F_law_any : Kn P w K mg base k "_law_any" P_law_any [] S_law_any) (F_law_size : Kn P w K mg base k "_law_size" P_law_size [] S_law_size) (F_law_bare : Kn P w K mg base k "_law_bare" P_law_bare [] S_law_bare) (b_range : mg "range" = none) (b_len : mg "len" = none) (b_tuple : mg "tuple" = none)
    {f : Addr} {cdv : Value} {A : Around} {outer : List PySem.Env} {s : Shared} {H : Hp} {E : XK} {w0 : Wd} (hr : Room k (A.deeper (envOfC "_law_pages" (defScope s_law_pages) s.heap.objs.size f cdv))) (hgd : A.guards = some []) :
    ASs (cxOf CX0 P w K mg base N_law_pages "_law_pages" (defScope s_law_pages) f cdv A outer s H E).nox w0 (defBody s_law_pages) (T_law_pages S_law_draw S_law_label S_law_any S_law_size S_law_bare) :=
  have hN : (N_law_pages : List Str).Nodup := sc_law_pages.nd
  (as_cons (as_set 1 hN (ae_ow (an_lst aa_nil)))
    (as_cons (as_for (vs := [2]) PassesOwn.never rfl (ai_rng1 rfl b_range (aa_cons (ae_ix (ae_fz (an_lst (aa_cons ae_int (aa_cons ae_int (aa_cons (ae_add ae_int (ae_call F_law_draw hr hgd rfl (aa_cons (ae_v 0) (aa_cons ae_int aa_nil)))) (aa_cons ae_int aa_nil)))))) (ae_call F_law_draw hr hgd rfl (aa_cons (ae_v 0) (aa_cons ae_int aa_nil)))) aa_nil)) (ag_n 2 hN (by decide)) (as_cons (as_set 5 hN (ae_call F_law_label hr hgd rfl (aa_cons (ae_v 0) aa_nil)))
    (as_one (as_if (at_notin (ae_v 5) (ae_v 1)) (as_one (as_expr (ae_append (ae_v 1) (ae_v 5)))) as_nil))))
    (as_cons (as_set 3 hN (ae_ow (an_lst (aa_cons ae_int aa_nil))))
    (as_cons (as_set 4 hN (ae_ow (an_lst aa_nil)))
    (as_cons (as_for (vs := [5]) PassesOwn.never rfl (ai_it (ae_v 1)) (ag_n 5 hN (by decide)) (as_cons (as_asg (vs := []) (ae_div ae_int (ae_len rfl b_len (aa_cons (ae_v 1) aa_nil))) (ag_sub (ae_v 3) ae_int))
    (as_cons (as_set 6 hN (ae_call F_law_any hr hgd rfl (aa_cons (ae_v 0) (aa_cons (ae_add ae_int (ae_call F_law_draw hr hgd rfl (aa_cons (ae_v 0) (aa_cons ae_int aa_nil)))) (aa_cons (ae_v 3) (aa_cons (ae_v 1) aa_nil))))))
    (as_cons (as_if (at_gt (ae_call F_law_size hr hgd rfl (aa_cons (ae_v 6) aa_nil)) (ae_div ae_int (ae_len rfl b_len (aa_cons (ae_v 1) aa_nil)))) (as_one (as_set 6 hN (ae_call F_law_bare hr hgd rfl (aa_cons (ae_v 0) (aa_cons (ae_v 1) aa_nil))))) as_nil)
    (as_one (as_expr (ae_append (ae_v 4) (ae_tup (aa_cons (ae_v 5) (aa_cons (ae_v 6) aa_nil))))))))))
    (as_one (as_ret (ae_tuple rfl b_tuple (aa_cons (ae_v 4) aa_nil)))))))))
theorem sc_law_mark : FnScope N_law_mark P_law_mark (defScope s_law_mark) := ⟨rfl, rfl, rfl, by decide +kernel, rfl, by decide +kernel, by decide +kernel⟩
def T_law_mark : ATS :=
  (aSeq (aIfS (aB (aBin (fEq false) (aV 0) (aC (.str "\n")))) (aRet (aC (.str "\\n"))) aNext)
  (aSeq (aIfS (aB (aBin (fIn false) (aV 0) (aC (.str "]^\\")))) (aRet (aBin fAdd (aC (.str "\\")) (aV 0))) aNext)
  (aRet (aV 0))))
theorem w_law_mark {P : Program} {w : World} {K : PySem.W.Frag} {mg : Str → Option Value} {base : Heap} {k : Nat}
    
    {f : Addr} {cdv : Value} {A : Around} {outer : List PySem.Env} {s : Shared} {H : Hp} {E : XK} {w0 : Wd} (hr : Room k (A.deeper (envOfC "_law_mark" (defScope s_law_mark) s.heap.objs.size f cdv))) (hgd : A.guards = some []) :
    ASs (cxOf CX0 P w K mg base N_law_mark "_law_mark" (defScope s_law_mark) f cdv A outer s H E).nox w0 (defBody s_law_mark) (T_law_mark) :=
  have hN : (N_law_mark : List Str).Nodup := sc_law_mark.nd
  (as_cons (as_if (at_eq hr (ae_v 0) ae_str) (as_one (as_ret ae_str)) as_nil)
    (as_cons (as_if (at_in (ae_v 0) ae_str) (as_one (as_ret (ae_add ae_str (ae_v 0)))) as_nil)
    (as_one (as_ret (ae_v 0)))))
theorem sc_law_shown_in : FnScope N_law_shown_in P_law_shown_in (defScope s_law_shown_in) := ⟨rfl, rfl, rfl, by decide +kernel, rfl, by decide +kernel, by decide +kernel⟩
def T_law_shown_in (S_law_shown : L3.Spec) : ATS :=
  (aSeq (aIfS (aB (aBin (fIn false) (aBin fIx (aV 0) (aC (.int 0))) (aV 1))) (aRet (aBin fAdd (aBin fAdd (aC (.str "(")) (aCall S_law_shown [] (aCons (aV 0) aNil))) (aC (.str ")")))) aNext)
  (aRet (aCall S_law_shown [] (aCons (aV 0) aNil))))
theorem w_law_shown_in {P : Program} {w : World} {K : PySem.W.Frag} {mg : Str → Option Value} {base : Heap} {k : Nat} {S_law_shown : L3.Spec}
    (F_law_shown : Kn P w K mg base k "_law_shown" P_law_shown [] S_law_shown)
    {f : Addr} {cdv : Value} {A : Around} {outer : List PySem.Env} {s : Shared} {H : Hp} {E : XK} {w0 : Wd} (hr : Room k (A.deeper (envOfC "_law_shown_in" (defScope s_law_shown_in) s.heap.objs.size f cdv))) (hgd : A.guards = some []) :
    ASs (cxOf CX0 P w K mg base N_law_shown_in "_law_shown_in" (defScope s_law_shown_in) f cdv A outer s H E).nox w0 (defBody s_law_shown_in) (T_law_shown_in S_law_shown) :=
  have hN : (N_law_shown_in : List Str).Nodup := sc_law_shown_in.nd
  (as_cons (as_if (at_in (ae_ix (ae_v 0) ae_int) (ae_v 1)) (as_one (as_ret (ae_add (ae_add ae_str (ae_call F_law_shown hr hgd rfl (aa_cons (ae_v 0) aa_nil))) ae_str))) as_nil)
    (as_one (as_ret (ae_call F_law_shown hr hgd rfl (aa_cons (ae_v 0) aa_nil)))))
theorem sc_law_shown : FnScope N_law_shown P_law_shown (defScope s_law_shown) := ⟨rfl, rfl, rfl, by decide +kernel, rfl, by decide +kernel, by decide +kernel⟩
def T_law_shown (S_law_mark : L3.Spec) (S_law_shown_in : L3.Spec) : ATS :=
  (aSeq (aAsg (aFz (aLst (aCons (aC (.str "choice")) (aCons (aC (.str "row")) (aCons (aC (.str "hold")) (aCons (aC (.str "tag")) (aCons (aC (.str "make")) (aCons (aC (.str "ahead")) (aCons (aC (.str "not")) (aCons (aC (.str "many")) (aCons (aC (.str "maybe")) aNil))))))))))) (gN 1))
  (aSeq (aAsg (aC (.dct (dTab [("hold", ":"), ("tag", "@"), ("make", "#"), ("ahead", "&"), ("not", "!"), ("many", "*"), ("maybe", "?")]))) (gN 2))
  (aSeq (aAsg (aBin fIx (aV 0) (aC (.int 0))) (gN 3))
  (aSeq (aIfS (aB (aBin (fIn false) (aV 3) (aTup (aCons (aC (.str "nothing")) (aCons (aC (.str "never")) aNil))))) (aRet (aBin fIx (aFz (aLst (aCons (aC (.str "()")) (aCons (aC (.str "~")) aNil)))) (aFn (f1 gInt1) (aCons (aBin (fEq false) (aV 3) (aC (.str "never"))) aNil)))) aNext)
  (aSeq (aIfS (aB (aBin (fIn false) (aV 3) (aTup (aCons (aC (.str "sign")) (aCons (aC (.str "but")) aNil))))) (aRet (aBin fAdd (aBin fAdd (aBin fAdd (aC (.str "[")) (aBin fMul (aC (.str "^")) (aFn (f1 gInt1) (aCons (aBin (fEq false) (aV 3) (aC (.str "but"))) aNil)))) (aJoin (aC (.str "")) (aFz (aLc (aIt (aBin fIx (aV 0) (aC (.int 1)))) (gN 5) aYes (aCall S_law_mark [] (aCons (aV 5) aNil)) [5])))) (aC (.str "]")))) aNext)
  (aSeq (aIfS (aB (aBin (fIn false) (aV 3) (aTup (aCons (aC (.str "name")) (aCons (aC (.str "again")) aNil))))) (aRet (aBin fAdd (aBin fMul (aC (.str "=")) (aFn (f1 gInt1) (aCons (aBin (fEq false) (aV 3) (aC (.str "again"))) aNil))) (aBin fIx (aV 0) (aC (.int 1))))) aNext)
  (aSeq (aIfS (aB (aBin (fEq false) (aV 3) (aC (.str "row")))) (aRet (aJoin (aC (.str " ")) (aFz (aLc (aIt (aBin fIx (aV 0) (aC (.int 1)))) (gN 4) aYes (aCall S_law_shown_in [] (aCons (aV 4) (aCons (aFz (aLst (aCons (aC (.str "choice")) (aCons (aC (.str "row")) aNil)))) aNil))) [4])))) aNext)
  (aSeq (aIfS (aB (aBin (fEq false) (aV 3) (aC (.str "choice")))) (aRet (aJoin (aC (.str " / ")) (aFz (aLc (aIt (aBin fIx (aV 0) (aC (.int 1)))) (gN 4) aYes (aCall S_law_shown_in [] (aCons (aV 4) (aCons (aFz (aLst (aCons (aC (.str "choice")) aNil))) aNil))) [4])))) aNext)
  (aSeq (aAsg (aCall S_law_shown_in [] (aCons (aBin fIx (aV 0) (aUn fNeg (aC (.int 1)))) (aCons (aV 1) aNil))) (gN 4))
  (aSeq (aIfS (aB (aBin (fIn false) (aV 3) (aTup (aCons (aC (.str "many")) (aCons (aC (.str "maybe")) aNil))))) (aRet (aBin fAdd (aV 4) (aBin (fIxD [("hold", ":"), ("tag", "@"), ("make", "#"), ("ahead", "&"), ("not", "!"), ("many", "*"), ("maybe", "?")]) (aV 2) (aV 3)))) aNext)
  (aRet (aBin fAdd (aBin fAdd (aJoin (aC (.str "")) (aFn (f1 gList) (aCons (aSl (aV 0) (aSo (aC (.int 1))) (aSo (aUn fNeg (aC (.int 1))))) aNil))) (aBin (fIxD [("hold", ":"), ("tag", "@"), ("make", "#"), ("ahead", "&"), ("not", "!"), ("many", "*"), ("maybe", "?")]) (aV 2) (aV 3))) (aV 4)))))))))))))
theorem w_law_shown {P : Program} {w : World} {K : PySem.W.Frag} {mg : Str → Option Value} {base : Heap} {k : Nat} {S_law_mark : L3.Spec} {S_law_shown_in : L3.Spec}
    (F_law_mark : Kn P w K mg base k "_law_mark" P_law_mark [] S_law_mark) (F_law_shown_in : Kn P w K mg base k "_law_shown_in" P_law_shown_in [] S_law_shown_in) (b_int : mg "int" = none) (b_list : mg "list" = none)
    {f : Addr} {cdv : Value} {A : Around} {outer : List PySem.Env} {s : Shared} {H : Hp} {E : XK} {w0 : Wd} (hr : Room k (A.deeper (envOfC "_law_shown" (defScope s_law_shown) s.heap.objs.size f cdv))) (hgd : A.guards = some []) :
    ASs (cxOf CX0 P w K mg base N_law_shown "_law_shown" (defScope s_law_shown) f cdv A outer s H E).nox w0 (defBody s_law_shown) (T_law_shown S_law_mark S_law_shown_in) :=
  have hN : (N_law_shown : List Str).Nodup := sc_law_shown.nd
  (as_cons (as_set 1 hN (ae_fz (an_lst (aa_cons ae_str (aa_cons ae_str (aa_cons ae_str (aa_cons ae_str (aa_cons ae_str (aa_cons ae_str (aa_cons ae_str (aa_cons ae_str (aa_cons ae_str aa_nil))))))))))))
    (as_cons (as_set 2 hN (ae_dlit [("hold", ":"), ("tag", "@"), ("make", "#"), ("ahead", "&"), ("not", "!"), ("many", "*"), ("maybe", "?")] (pps_cons pe_str pe_str (pps_cons pe_str pe_str (pps_cons pe_str pe_str (pps_cons pe_str pe_str (pps_cons pe_str pe_str (pps_cons pe_str pe_str (pps_cons pe_str pe_str pps_nil)))))))))
    (as_cons (as_set 3 hN (ae_ix (ae_v 0) ae_int))
    (as_cons (as_if (at_in (ae_v 3) (ae_tup (aa_cons ae_str (aa_cons ae_str aa_nil)))) (as_one (as_ret (ae_ix (ae_fz (an_lst (aa_cons ae_str (aa_cons ae_str aa_nil)))) (ae_int1 rfl b_int (aa_cons (ae_eq hr (ae_v 3) ae_str) aa_nil))))) as_nil)
    (as_cons (as_if (at_in (ae_v 3) (ae_tup (aa_cons ae_str (aa_cons ae_str aa_nil)))) (as_one (as_ret (ae_add (ae_add (ae_add ae_str (ae_mul ae_str (ae_int1 rfl b_int (aa_cons (ae_eq hr (ae_v 3) ae_str) aa_nil)))) (ae_join ae_str (ae_fz (an_lc [("_law_sign", 5)] rfl hN (ai_it (ae_ix (ae_v 0) ae_int)) (blkOk_by (N := N_law_shown) (sc := defScope s_law_shown) (by decide +kernel)) (fun s H C cl fp => (ag_n 5 hN (by decide))) (fun s H C cl fp => ats_nil) (fun s H C cl fp => (ae_call F_law_mark hr hgd rfl (aa_cons (ae_v 5) aa_nil))))))) ae_str))) as_nil)
    (as_cons (as_if (at_in (ae_v 3) (ae_tup (aa_cons ae_str (aa_cons ae_str aa_nil)))) (as_one (as_ret (ae_add (ae_mul ae_str (ae_int1 rfl b_int (aa_cons (ae_eq hr (ae_v 3) ae_str) aa_nil))) (ae_ix (ae_v 0) ae_int)))) as_nil)
    (as_cons (as_if (at_eq hr (ae_v 3) ae_str) (as_one (as_ret (ae_join ae_str (ae_fz (an_lc [("_law_part", 4)] rfl hN (ai_it (ae_ix (ae_v 0) ae_int)) (blkOk_by (N := N_law_shown) (sc := defScope s_law_shown) (by decide +kernel)) (fun s H C cl fp => (ag_n 4 hN (by decide))) (fun s H C cl fp => ats_nil) (fun s H C cl fp => (ae_call F_law_shown_in hr hgd rfl (aa_cons (ae_v 4) (aa_cons (ae_fz (an_lst (aa_cons ae_str (aa_cons ae_str aa_nil)))) aa_nil))))))))) as_nil)
    (as_cons (as_if (at_eq hr (ae_v 3) ae_str) (as_one (as_ret (ae_join ae_str (ae_fz (an_lc [("_law_part", 4)] rfl hN (ai_it (ae_ix (ae_v 0) ae_int)) (blkOk_by (N := N_law_shown) (sc := defScope s_law_shown) (by decide +kernel)) (fun s H C cl fp => (ag_n 4 hN (by decide))) (fun s H C cl fp => ats_nil) (fun s H C cl fp => (ae_call F_law_shown_in hr hgd rfl (aa_cons (ae_v 4) (aa_cons (ae_fz (an_lst (aa_cons ae_str aa_nil))) aa_nil))))))))) as_nil)
    (as_cons (as_set 4 hN (ae_call F_law_shown_in hr hgd rfl (aa_cons (ae_ix (ae_v 0) (ae_neg ae_int)) (aa_cons (ae_v 1) aa_nil))))
    (as_cons (as_if (at_in (ae_v 3) (ae_tup (aa_cons ae_str (aa_cons ae_str aa_nil)))) (as_one (as_ret (ae_add (ae_v 4) (ae_ixD [("hold", ":"), ("tag", "@"), ("make", "#"), ("ahead", "&"), ("not", "!"), ("many", "*"), ("maybe", "?")] hr (ae_v 2) (ae_v 3))))) as_nil)
    (as_one (as_ret (ae_add (ae_add (ae_join ae_str (ae_list rfl b_list (aa_cons (ae_sl (ae_v 0) (ao_some ae_int) (ao_some (ae_neg ae_int))) aa_nil))) (ae_ixD [("hold", ":"), ("tag", "@"), ("make", "#"), ("ahead", "&"), ("not", "!"), ("many", "*"), ("maybe", "?")] hr (ae_v 2) (ae_v 3))) (ae_v 4))))))))))))))
theorem bd_law_heard : Bd "_law_heard" s_law_heard P_law_heard := fun kV doc pm an cdv ct us h => by obtain ⟨u, rfl⟩ := List.length_eq_one_iff.mp h; rfl
theorem sc_law_heard : FnScope N_law_heard P_law_heard (defScope s_law_heard) := ⟨rfl, rfl, rfl, by decide +kernel, rfl, by decide +kernel, by decide +kernel⟩
def T_law_heard (f : Addr) (tl : LamR) : ATS :=
  (aSeq (aAsg (aC .non) (gN 1))
  (aSeq (aAsg (aC .non) (gN 2))
  (aSeq (aTry ["NoText"] 5 (fun EX => (aAsg (aAsk f 0 (tl EX)) (gN 1))) (aAsg (aV 5) (gN 2)))
  (aSeq (aIfS (aB (aBin (fIsN false) (aV 2) (aC .non))) (aRet (aTup (aCons (aC (.str "told")) (aCons (aV 1) aNil)))) aNext)
  (aSeq (aIfS (aTru (aIsE ["NoText"] (isT []) (aV 2))) (aSeq (aAsg (aAndV (aIsE ["NoText"] (isT []) (aV 2)) (aNotV (aIsE ["NoText"] (isT ["NoText"]) (aV 2)))) (gN 6))
  (aRet (aTup (aCons (aBin fIx (aFz (aLst (aCons (aC (.str "odd")) (aCons (aC (.str "unknown")) aNil)))) (aFn (f1 gInt1) (aCons (aV 6) aNil))) (aCons aNevE aNil))))) aNext)
  (aSeq (aAsg (aFz (aLst (aCons (aIsE ["NoText"] (isT []) (aV 2)) (aCons (aIsE ["NoText"] (isT []) (aV 2)) (aCons (aIsE ["NoText"] (isT []) (aV 2)) aNil))))) (gN 3))
  (aSeq (aAsg (aBin fAdd (aV 3) (aFz (aLst (aCons (aIsE ["NoText"] (isT ["NoText"]) (aV 2)) (aCons (aIsE ["NoText"] (isT []) (aV 2)) (aCons (aIsE ["NoText"] (isT []) (aV 2)) aNil)))))) (gN 3))
  (aSeq (aIfS (aOr (aB (aBin (fEq true) (aCntB (aV 3) (aC (.bl true))) (aC (.int 1)))) (aNot (aTru (aIsE ["NoText"] (isT ["NoText"]) (aV 2))))) (aRet (aTup (aCons (aC (.str "odd")) (aCons (aC .non) aNil)))) aNext)
  (aSeq (aAsg (aBin fIx (aFz (aLst (aCons (aC (.str "book")) (aCons (aC (.str "endless")) (aCons (aC (.str "plain")) (aCons (aC (.str "text")) (aCons (aC (.str "astray")) (aCons (aC (.str "bound")) aNil)))))))) (aIdxB (aV 3) (aC (.bl true)))) (gN 4))
  (aSeq (aIfS (aB (aBin (fEq false) (aV 4) (aC (.str "endless")))) (aRet (aTup (aCons (aV 4) (aCons aNevE aNil)))) aNext)
  (aRet (aTup (aCons (aV 4) (aCons (aC .non) aNil))))))))))))))
theorem w_law_heard {X : Cx} {k : Nat}
    (b_isinstance : X.mg "isinstance" = none) (b_KeyError : X.mg "KeyError" = none) (b_int : X.mg "int" = none) (b_ValueError : X.mg "ValueError" = none) (cg_ReadError : X.mg "ReadError" = some (.ref (He.ga X.K "ReadError"))) (cg_Unknown : X.mg "Unknown" = some (.ref (He.ga X.K "Unknown"))) (ex_law_heard : ∀ c ∈ (["NoText"] : List Str), PySem.W.exmAny X.K (.ref (He.ga X.K c)) [.ref (He.ga X.K "ReadError"), .ref (He.ga X.K "Unknown")] = some true) (ce : ∀ c ∈ (["NoText"] : List Str), excCB X.K c = true) (ck_Unknown : ∀ c ∈ (["NoText"] : List Str), kitQ X.K c "Unknown" none ((isT []) c) = true) (cn_Unknown : decide (PySem.W.kitOne X.K (.type "NoneType") (.ref (He.ga X.K "Unknown")) = some false) = true) (ck_KeyError : ∀ c ∈ (["NoText"] : List Str), kitQ X.K c "KeyError" (some "KeyError") ((isT []) c) = true) (cn_KeyError : decide (PySem.W.kitOne X.K (.type "NoneType") (.type "KeyError") = some false) = true) (ck_ReadError : ∀ c ∈ (["NoText"] : List Str), kitQ X.K c "ReadError" none ((isT ["NoText"]) c) = true) (cn_ReadError : decide (PySem.W.kitOne X.K (.type "NoneType") (.ref (He.ga X.K "ReadError")) = some false) = true) (ck_NotPlain : ∀ c ∈ (["NoText"] : List Str), kitQ X.K c "NotPlain" none ((isT []) c) = true) (cn_NotPlain : decide (PySem.W.kitOne X.K (.type "NoneType") (.ref (He.ga X.K "NotPlain")) = some false) = true) (cg_NotPlain : X.mg "NotPlain" = some (.ref (He.ga X.K "NotPlain"))) (ck_Endless : ∀ c ∈ (["NoText"] : List Str), kitQ X.K c "Endless" none ((isT []) c) = true) (cn_Endless : decide (PySem.W.kitOne X.K (.type "NoneType") (.ref (He.ga X.K "Endless")) = some false) = true) (cg_Endless : X.mg "Endless" = some (.ref (He.ga X.K "Endless"))) (ck_NoBook : ∀ c ∈ (["NoText"] : List Str), kitQ X.K c "NoBook" none ((isT []) c) = true) (cn_NoBook : decide (PySem.W.kitOne X.K (.type "NoneType") (.ref (He.ga X.K "NoBook")) = some false) = true) (cg_NoBook : X.mg "NoBook" = some (.ref (He.ga X.K "NoBook"))) (ck_Bound : ∀ c ∈ (["NoText"] : List Str), kitQ X.K c "Bound" none ((isT []) c) = true) (cn_Bound : decide (PySem.W.kitOne X.K (.type "NoneType") (.ref (He.ga X.K "Bound")) = some false) = true) (cg_Bound : X.mg "Bound" = some (.ref (He.ga X.K "Bound"))) (ck_Astray : ∀ c ∈ (["NoText"] : List Str), kitQ X.K c "Astray" none ((isT []) c) = true) (cn_Astray : decide (PySem.W.kitOne X.K (.type "NoneType") (.ref (He.ga X.K "Astray")) = some false) = true) (cg_Astray : X.mg "Astray" = some (.ref (He.ga X.K "Astray"))) (ck_NoText : ∀ c ∈ (["NoText"] : List Str), kitQ X.K c "NoText" none ((isT ["NoText"]) c) = true) (cn_NoText : decide (PySem.W.kitOne X.K (.type "NoneType") (.ref (He.ga X.K "NoText")) = some false) = true) (cg_NoText : X.mg "NoText" = some (.ref (He.ga X.K "NoText"))) (ck_ValueError : ∀ c ∈ (["NoText"] : List Str), kitQ X.K c "ValueError" (some "ValueError") ((isT ["NoText"]) c) = true) (cn_ValueError : decide (PySem.W.kitOne X.K (.type "NoneType") (.type "ValueError") = some false) = true)
    {g f : Addr} {cdv : Value} {s : Shared} {w1 : Wd} {tl : LamR} (hr : Room k (X.A.deeper (envOfC "_law_heard" (defScope s_law_heard) s.heap.objs.size g cdv))) (hgd : X.A.guards = some [])
    (hask : ∀ (pn : List (Addr × Obj)) (xe : Value → Shared → Prop) (EX : XP) (w2 : Wd) (p1 p2 : Pos), Tr w1 w2 → TkX ((hCx X N_law_heard "_law_heard" (defScope s_law_heard) g cdv s w1.H).tr pn xe) w2 EX → AE ((hCx X N_law_heard "_law_heard" (defScope s_law_heard) g cdv s w1.H).tr pn xe) w2 (.Call (.Name "_law_asker" p1) [] [] p2) (aAsk f 0 (tl EX))) :
    ASs (hCx X N_law_heard "_law_heard" (defScope s_law_heard) g cdv s w1.H).nox w1 (defBody s_law_heard) (T_law_heard f tl) :=
  have hN : (N_law_heard : List Str).Nodup := sc_law_heard.nd
  (as_cons (as_set 1 hN ae_non)
    (as_cons (as_set 2 hN ae_non)
    (as_cons (as_try (cs := ["NoText"]) 5 rfl rfl hN (fun c hc => tst_two ⟨rfl, by decide, .inl cg_ReadError⟩ ⟨rfl, by decide, .inl cg_Unknown⟩ (ex_law_heard c hc)) (fun w1 EX pn xe tr12 tk po => (as_one (as_set 1 hN (hask _ _ _ _ _ _ tr12 tk)))) (fun w1 a pn => (as_one (as_set 2 hN (ae_v 5)))))
    (as_cons (as_if (at_isN (ae_v 2) ae_non) (as_one (as_ret (ae_tup (aa_cons ae_str (aa_cons (ae_v 1) aa_nil))))) as_nil)
    (as_cons (as_if (at_tru (ae_isC (cs := ["NoText"]) (f := (isT [])) ce ck_Unknown cn_Unknown cg_Unknown rfl rfl b_isinstance (ae_v 2))) (as_cons (as_set 6 hN (ae_and (ae_isB (cs := ["NoText"]) (f := (isT [])) "KeyError" ce ck_KeyError cn_KeyError b_KeyError rfl rfl rfl b_isinstance (ae_v 2)) (ae_one (ae_not (ae_isC (cs := ["NoText"]) (f := (isT ["NoText"])) ce ck_ReadError cn_ReadError cg_ReadError rfl rfl b_isinstance (ae_v 2))))))
    (as_one (as_ret (ae_tup (aa_cons (ae_ix (ae_fz (an_lst (aa_cons ae_str (aa_cons ae_str aa_nil)))) (ae_int1 rfl b_int (aa_cons (ae_v 6) aa_nil))) (aa_cons ae_nev aa_nil)))))) as_nil)
    (as_cons (as_set 3 hN (ae_fz (an_lst (aa_cons (ae_isC (cs := ["NoText"]) (f := (isT [])) ce ck_NoBook cn_NoBook cg_NoBook rfl rfl b_isinstance (ae_v 2)) (aa_cons (ae_isC (cs := ["NoText"]) (f := (isT [])) ce ck_Endless cn_Endless cg_Endless rfl rfl b_isinstance (ae_v 2)) (aa_cons (ae_isC (cs := ["NoText"]) (f := (isT [])) ce ck_NotPlain cn_NotPlain cg_NotPlain rfl rfl b_isinstance (ae_v 2)) aa_nil))))))
    (as_cons (as_set 3 hN (ae_add (ae_v 3) (ae_fz (an_lst (aa_cons (ae_isC (cs := ["NoText"]) (f := (isT ["NoText"])) ce ck_NoText cn_NoText cg_NoText rfl rfl b_isinstance (ae_v 2)) (aa_cons (ae_isC (cs := ["NoText"]) (f := (isT [])) ce ck_Astray cn_Astray cg_Astray rfl rfl b_isinstance (ae_v 2)) (aa_cons (ae_isC (cs := ["NoText"]) (f := (isT [])) ce ck_Bound cn_Bound cg_Bound rfl rfl b_isinstance (ae_v 2)) aa_nil)))))))
    (as_cons (as_if (at_w (aw_or (at_ne hr (ae_cntB (ae_v 3) ae_bl) ae_int) (aw_or1 (at_not (at_tru (ae_isB (cs := ["NoText"]) (f := (isT ["NoText"])) "ValueError" ce ck_ValueError cn_ValueError b_ValueError rfl rfl rfl b_isinstance (ae_v 2))))))) (as_one (as_ret (ae_tup (aa_cons ae_str (aa_cons ae_non aa_nil))))) as_nil)
    (as_cons (as_set 4 hN (ae_ix (ae_fz (an_lst (aa_cons ae_str (aa_cons ae_str (aa_cons ae_str (aa_cons ae_str (aa_cons ae_str (aa_cons ae_str aa_nil)))))))) (ae_idxB (ae_v 3) ae_bl)))
    (as_cons (as_if (at_eq hr (ae_v 4) ae_str) (as_one (as_ret (ae_tup (aa_cons (ae_v 4) (aa_cons ae_nev aa_nil))))) as_nil)
    (as_one (as_ret (ae_tup (aa_cons (ae_v 4) (aa_cons ae_non aa_nil)))))))))))))))
theorem sc_law_wide : FnScope N_law_wide P_law_wide (defScope s_law_wide) := ⟨rfl, rfl, rfl, by decide +kernel, rfl, by decide +kernel, by decide +kernel⟩
def T_law_wide (S_law_draw : L3.Spec) (S_law_shown : L3.Spec) (S_law_wide_in : L3.Spec) : ATS :=
  (aSeq (aAsg (aBin fIx (aV 1) (aC (.int 0))) (gN 3))
  (aSeq (aAsg (aAndV (aBin (fEq false) (aCall S_law_draw [] (aCons (aV 0) (aCons (aC (.int 4)) aNil))) (aC (.int 0))) (aBin fGt (aBin fIx (aV 2) (aC (.int 0))) (aC (.int 0)))) (gN 4))
  (aSeq (aAsg (aBin fSub (aBin fIx (aV 2) (aC (.int 0))) (aFn (f1 gInt1) (aCons (aV 4) aNil))) (gSubL (aV 2) (aC (.int 0))))
  (aSeq (aIfS (aB (aBin (fIn false) (aV 3) (aTup (aCons (aC (.str "nothing")) (aCons (aC (.str "never")) (aCons (aC (.str "sign")) (aCons (aC (.str "but")) (aCons (aC (.str "name")) (aCons (aC (.str "again")) aNil))))))))) (aAsg (aCall S_law_shown [] (aCons (aV 1) aNil)) (gN 5)) (aIfS (aB (aBin (fEq false) (aV 3) (aC (.str "row")))) (aAsg (aJoin (aC (.str " ")) (aFz (aLc (aIt (aBin fIx (aV 1) (aC (.int 1)))) (gN 7) aYes (aCall S_law_wide_in [] (aCons (aV 0) (aCons (aV 7) (aCons (aFz (aLst (aCons (aC (.str "choice")) (aCons (aC (.str "row")) aNil)))) (aCons (aV 2) aNil))))) [7]))) (gN 5)) (aIfS (aB (aBin (fEq false) (aV 3) (aC (.str "choice")))) (aAsg (aJoin (aC (.str " / ")) (aFz (aLc (aIt (aBin fIx (aV 1) (aC (.int 1)))) (gN 7) aYes (aCall S_law_wide_in [] (aCons (aV 0) (aCons (aV 7) (aCons (aFz (aLst (aCons (aC (.str "choice")) aNil))) (aCons (aV 2) aNil))))) [7]))) (gN 5)) (aSeq (aAsg (aFz (aLst (aCons (aC (.str "choice")) (aCons (aC (.str "row")) (aCons (aC (.str "hold")) (aCons (aC (.str "tag")) (aCons (aC (.str "make")) (aCons (aC (.str "ahead")) (aCons (aC (.str "not")) (aCons (aC (.str "many")) (aCons (aC (.str "maybe")) aNil))))))))))) (gN 6))
  (aSeq (aAsg (aCall S_law_wide_in [] (aCons (aV 0) (aCons (aBin fIx (aV 1) (aUn fNeg (aC (.int 1)))) (aCons (aV 6) (aCons (aV 2) aNil))))) (gN 7))
  (aSeq (aAsg (aC (.dct (dTab [("hold", ":"), ("tag", "@"), ("make", "#"), ("ahead", "&"), ("not", "!"), ("many", "*"), ("maybe", "?")]))) (gN 8))
  (aAsg (aBin fIx (aFz (aLst (aCons (aBin fAdd (aBin fAdd (aJoin (aC (.str "")) (aFn (f1 gList) (aCons (aSl (aV 1) (aSo (aC (.int 1))) (aSo (aUn fNeg (aC (.int 1))))) aNil))) (aBin (fIxD [("hold", ":"), ("tag", "@"), ("make", "#"), ("ahead", "&"), ("not", "!"), ("many", "*"), ("maybe", "?")]) (aV 8) (aV 3))) (aV 7)) (aCons (aBin fAdd (aV 7) (aBin (fIxD [("hold", ":"), ("tag", "@"), ("make", "#"), ("ahead", "&"), ("not", "!"), ("many", "*"), ("maybe", "?")]) (aV 8) (aV 3))) aNil)))) (aFn (f1 gInt1) (aCons (aBin (fIn false) (aV 3) (aTup (aCons (aC (.str "many")) (aCons (aC (.str "maybe")) aNil)))) aNil))) (gN 5))))))))
  (aSeq (aIfS (aTru (aV 4)) (aRet (aBin fAdd (aBin fAdd (aC (.str "(")) (aV 5)) (aC (.str ")")))) aNext)
  (aRet (aV 5)))))))
theorem w_law_wide {P : Program} {w : World} {K : PySem.W.Frag} {mg : Str → Option Value} {base : Heap} {k : Nat} {S_law_draw : L3.Spec} {S_law_shown : L3.Spec} {S_law_wide_in : L3.Spec}
    (F_law_draw : Kn P w K mg base k "_law_draw" P_law_draw [] S_law_draw) (F_law_shown : Kn P w K mg base k "_law_shown" P_law_shown [] S_law_shown) (F_law_wide_in : Kn P w K mg base k "_law_wide_in" P_law_wide_in [] S_law_wide_in) (b_int : mg "int" = none) (b_list : mg "list" = none)
    {f : Addr} {cdv : Value} {A : Around} {outer : List PySem.Env} {s : Shared} {H : Hp} {E : XK} {w0 : Wd} (hr : Room k (A.deeper (envOfC "_law_wide" (defScope s_law_wide) s.heap.objs.size f cdv))) (hgd : A.guards = some []) :
    ASs (cxOf CX0 P w K mg base N_law_wide "_law_wide" (defScope s_law_wide) f cdv A outer s H E).nox w0 (defBody s_law_wide) (T_law_wide S_law_draw S_law_shown S_law_wide_in) :=
  have hN : (N_law_wide : List Str).Nodup := sc_law_wide.nd
  (as_cons (as_set 3 hN (ae_ix (ae_v 1) ae_int))
    (as_cons (as_set 4 hN (ae_and (ae_eq hr (ae_call F_law_draw hr hgd rfl (aa_cons (ae_v 0) (aa_cons ae_int aa_nil))) ae_int) (ae_one (ae_gt (ae_ix (ae_v 2) ae_int) ae_int))))
    (as_cons (as_asg (vs := []) (ae_subt (ae_ix (ae_v 2) ae_int) (ae_int1 rfl b_int (aa_cons (ae_v 4) aa_nil))) (ag_sub (ae_v 2) ae_int))
    (as_cons (as_if (at_in (ae_v 3) (ae_tup (aa_cons ae_str (aa_cons ae_str (aa_cons ae_str (aa_cons ae_str (aa_cons ae_str (aa_cons ae_str aa_nil)))))))) (as_one (as_set 5 hN (ae_call F_law_shown hr hgd rfl (aa_cons (ae_v 1) aa_nil)))) (as_one (as_if (at_eq hr (ae_v 3) ae_str) (as_one (as_set 5 hN (ae_join ae_str (ae_fz (an_lc [("_law_part", 7)] rfl hN (ai_it (ae_ix (ae_v 1) ae_int)) (blkOk_by (N := N_law_wide) (sc := defScope s_law_wide) (by decide +kernel)) (fun s H C cl fp => (ag_n 7 hN (by decide))) (fun s H C cl fp => ats_nil) (fun s H C cl fp => (ae_call F_law_wide_in hr hgd rfl (aa_cons (ae_v 0) (aa_cons (ae_v 7) (aa_cons (ae_fz (an_lst (aa_cons ae_str (aa_cons ae_str aa_nil)))) (aa_cons (ae_v 2) aa_nil))))))))))) (as_one (as_if (at_eq hr (ae_v 3) ae_str) (as_one (as_set 5 hN (ae_join ae_str (ae_fz (an_lc [("_law_part", 7)] rfl hN (ai_it (ae_ix (ae_v 1) ae_int)) (blkOk_by (N := N_law_wide) (sc := defScope s_law_wide) (by decide +kernel)) (fun s H C cl fp => (ag_n 7 hN (by decide))) (fun s H C cl fp => ats_nil) (fun s H C cl fp => (ae_call F_law_wide_in hr hgd rfl (aa_cons (ae_v 0) (aa_cons (ae_v 7) (aa_cons (ae_fz (an_lst (aa_cons ae_str aa_nil))) (aa_cons (ae_v 2) aa_nil))))))))))) (as_cons (as_set 6 hN (ae_fz (an_lst (aa_cons ae_str (aa_cons ae_str (aa_cons ae_str (aa_cons ae_str (aa_cons ae_str (aa_cons ae_str (aa_cons ae_str (aa_cons ae_str (aa_cons ae_str aa_nil))))))))))))
    (as_cons (as_set 7 hN (ae_call F_law_wide_in hr hgd rfl (aa_cons (ae_v 0) (aa_cons (ae_ix (ae_v 1) (ae_neg ae_int)) (aa_cons (ae_v 6) (aa_cons (ae_v 2) aa_nil))))))
    (as_cons (as_set 8 hN (ae_dlit [("hold", ":"), ("tag", "@"), ("make", "#"), ("ahead", "&"), ("not", "!"), ("many", "*"), ("maybe", "?")] (pps_cons pe_str pe_str (pps_cons pe_str pe_str (pps_cons pe_str pe_str (pps_cons pe_str pe_str (pps_cons pe_str pe_str (pps_cons pe_str pe_str (pps_cons pe_str pe_str pps_nil)))))))))
    (as_one (as_set 5 hN (ae_ix (ae_fz (an_lst (aa_cons (ae_add (ae_add (ae_join ae_str (ae_list rfl b_list (aa_cons (ae_sl (ae_v 1) (ao_some ae_int) (ao_some (ae_neg ae_int))) aa_nil))) (ae_ixD [("hold", ":"), ("tag", "@"), ("make", "#"), ("ahead", "&"), ("not", "!"), ("many", "*"), ("maybe", "?")] hr (ae_v 8) (ae_v 3))) (ae_v 7)) (aa_cons (ae_add (ae_v 7) (ae_ixD [("hold", ":"), ("tag", "@"), ("make", "#"), ("ahead", "&"), ("not", "!"), ("many", "*"), ("maybe", "?")] hr (ae_v 8) (ae_v 3))) aa_nil)))) (ae_int1 rfl b_int (aa_cons (ae_in (ae_v 3) (ae_tup (aa_cons ae_str (aa_cons ae_str aa_nil)))) aa_nil)))))))))))))
    (as_cons (as_if (at_tru (ae_v 4)) (as_one (as_ret (ae_add (ae_add ae_str (ae_v 5)) ae_str))) as_nil)
    (as_one (as_ret (ae_v 5))))))))
theorem sc_law_wide_in : FnScope N_law_wide_in P_law_wide_in (defScope s_law_wide_in) := ⟨rfl, rfl, rfl, by decide +kernel, rfl, by decide +kernel, by decide +kernel⟩
def T_law_wide_in (S_law_wide : L3.Spec) (S_law_is_in_brackets : L3.Spec) : ATS :=
  (aSeq (aAsg (aCall S_law_wide [] (aCons (aV 0) (aCons (aV 1) (aCons (aV 3) aNil)))) (gN 4))
  (aSeq (aIfS (aAnd (aB (aBin (fIn false) (aBin fIx (aV 1) (aC (.int 0))) (aV 2))) (aNot (aTru (aCall S_law_is_in_brackets [] (aCons (aV 4) aNil))))) (aRet (aBin fAdd (aBin fAdd (aC (.str "(")) (aV 4)) (aC (.str ")")))) aNext)
  (aRet (aV 4))))
theorem w_law_wide_in {P : Program} {w : World} {K : PySem.W.Frag} {mg : Str → Option Value} {base : Heap} {k : Nat} {S_law_wide : L3.Spec} {S_law_is_in_brackets : L3.Spec}
    (F_law_wide : Kn P w K mg base k "_law_wide" P_law_wide [] S_law_wide) (F_law_is_in_brackets : Kn P w K mg base k "_law_is_in_brackets" P_law_is_in_brackets [] S_law_is_in_brackets)
    {f : Addr} {cdv : Value} {A : Around} {outer : List PySem.Env} {s : Shared} {H : Hp} {E : XK} {w0 : Wd} (hr : Room k (A.deeper (envOfC "_law_wide_in" (defScope s_law_wide_in) s.heap.objs.size f cdv))) (hgd : A.guards = some []) :
    ASs (cxOf CX0 P w K mg base N_law_wide_in "_law_wide_in" (defScope s_law_wide_in) f cdv A outer s H E).nox w0 (defBody s_law_wide_in) (T_law_wide_in S_law_wide S_law_is_in_brackets) :=
  have hN : (N_law_wide_in : List Str).Nodup := sc_law_wide_in.nd
  (as_cons (as_set 4 hN (ae_call F_law_wide hr hgd rfl (aa_cons (ae_v 0) (aa_cons (ae_v 1) (aa_cons (ae_v 3) aa_nil)))))
    (as_cons (as_if (at_w (aw_and (at_in (ae_ix (ae_v 1) ae_int) (ae_v 2)) (aw_and1 (at_not (at_tru (ae_call F_law_is_in_brackets hr hgd rfl (aa_cons (ae_v 4) aa_nil))))))) (as_one (as_ret (ae_add (ae_add ae_str (ae_v 4)) ae_str))) as_nil)
    (as_one (as_ret (ae_v 4)))))
theorem sc_law_is_in_brackets : FnScope N_law_is_in_brackets P_law_is_in_brackets (defScope s_law_is_in_brackets) := ⟨rfl, rfl, rfl, by decide +kernel, rfl, by decide +kernel, by decide +kernel⟩
def T_law_is_in_brackets (S_law_is_escaped : L3.Spec) : ATS :=
  (aSeq (aAsg (aC (.int 0)) (gN 1))
  (aSeq (aAsg (aC (.bl false)) (gN 2))
  (aSeq (aFor (aRng1 (aCons (aFn (f1 gLen) (aCons (aV 0) aNil)) aNil)) (gN 3) (aSeq (aIfS (aTru (aV 2)) (aAsg (aOrV (aBin (fEq true) (aBin fIx (aV 0) (aV 3)) (aC (.str "]"))) (aCall S_law_is_escaped [] (aCons (aV 0) (aCons (aV 3) aNil)))) (gN 2)) (aIfS (aB (aBin (fEq false) (aBin fIx (aV 0) (aV 3)) (aC (.str "[")))) (aAsg (aC (.bl true)) (gN 2)) (aAsg (aBin fSub (aBin fAdd (aV 1) (aFn (f1 gInt1) (aCons (aBin (fEq false) (aBin fIx (aV 0) (aV 3)) (aC (.str "("))) aNil))) (aFn (f1 gInt1) (aCons (aBin (fEq false) (aBin fIx (aV 0) (aV 3)) (aC (.str ")"))) aNil))) (gN 1))))
  (aIfS (aAnd (aB (aBin (fEq false) (aV 1) (aC (.int 0)))) (aB (aBin fLt (aV 3) (aBin fSub (aFn (f1 gLen) (aCons (aV 0) aNil)) (aC (.int 1)))))) (aRet (aC (.bl false))) aNext)))
  (aRet (aBin (fEq false) (aSl (aV 0) aNo (aSo (aC (.int 1)))) (aC (.str "(")))))))
theorem w_law_is_in_brackets {P : Program} {w : World} {K : PySem.W.Frag} {mg : Str → Option Value} {base : Heap} {k : Nat} {S_law_is_escaped : L3.Spec}
    (F_law_is_escaped : Kn P w K mg base k "_law_is_escaped" P_law_is_escaped [] S_law_is_escaped) (b_len : mg "len" = none) (b_range : mg "range" = none) (b_int : mg "int" = none)
    {f : Addr} {cdv : Value} {A : Around} {outer : List PySem.Env} {s : Shared} {H : Hp} {E : XK} {w0 : Wd} (hr : Room k (A.deeper (envOfC "_law_is_in_brackets" (defScope s_law_is_in_brackets) s.heap.objs.size f cdv))) (hgd : A.guards = some []) :
    ASs (cxOf CX0 P w K mg base N_law_is_in_brackets "_law_is_in_brackets" (defScope s_law_is_in_brackets) f cdv A outer s H E).nox w0 (defBody s_law_is_in_brackets) (T_law_is_in_brackets S_law_is_escaped) :=
  have hN : (N_law_is_in_brackets : List Str).Nodup := sc_law_is_in_brackets.nd
  (as_cons (as_set 1 hN ae_int)
    (as_cons (as_set 2 hN ae_bl)
    (as_cons (as_for (vs := [3]) PassesOwn.never rfl (ai_rng1 rfl b_range (aa_cons (ae_len rfl b_len (aa_cons (ae_v 0) aa_nil)) aa_nil)) (ag_n 3 hN (by decide)) (as_cons (as_if (at_tru (ae_v 2)) (as_one (as_set 2 hN (ae_or (ae_ne hr (ae_ix (ae_v 0) (ae_v 3)) ae_str) (ae_one (ae_call F_law_is_escaped hr hgd rfl (aa_cons (ae_v 0) (aa_cons (ae_v 3) aa_nil))))))) (as_one (as_if (at_eq hr (ae_ix (ae_v 0) (ae_v 3)) ae_str) (as_one (as_set 2 hN ae_bl)) (as_one (as_set 1 hN (ae_subt (ae_add (ae_v 1) (ae_int1 rfl b_int (aa_cons (ae_eq hr (ae_ix (ae_v 0) (ae_v 3)) ae_str) aa_nil))) (ae_int1 rfl b_int (aa_cons (ae_eq hr (ae_ix (ae_v 0) (ae_v 3)) ae_str) aa_nil))))))))
    (as_one (as_if (at_w (aw_and (at_eq hr (ae_v 1) ae_int) (aw_and1 (at_lt (ae_v 3) (ae_subt (ae_len rfl b_len (aa_cons (ae_v 0) aa_nil)) ae_int))))) (as_one (as_ret ae_bl)) as_nil))))
    (as_one (as_ret (ae_eq hr (ae_sl (ae_v 0) ao_none (ao_some ae_int)) ae_str))))))
theorem sc_law_is_escaped : FnScope N_law_is_escaped P_law_is_escaped (defScope s_law_is_escaped) := ⟨rfl, rfl, rfl, by decide +kernel, rfl, by decide +kernel, by decide +kernel⟩
def T_law_is_escaped : ATS :=
  (aSeq (aAsg (aC (.int 0)) (gN 2))
  (aSeq (aWhile (aB (aBin (fEq false) (aSl (aV 0) (aSo (aBin fSub (aBin fSub (aV 1) (aC (.int 1))) (aV 2))) (aSo (aBin fSub (aV 1) (aV 2)))) (aC (.str "\\")))) (aAsg (aBin fAdd (aV 2) (aC (.int 1))) (gN 2)))
  (aRet (aBin (fEq false) (aBin fMod (aV 2) (aC (.int 2))) (aC (.int 1))))))
theorem w_law_is_escaped {P : Program} {w : World} {K : PySem.W.Frag} {mg : Str → Option Value} {base : Heap} {k : Nat}
    
    {f : Addr} {cdv : Value} {A : Around} {outer : List PySem.Env} {s : Shared} {H : Hp} {E : XK} {w0 : Wd} (hr : Room k (A.deeper (envOfC "_law_is_escaped" (defScope s_law_is_escaped) s.heap.objs.size f cdv))) (hgd : A.guards = some []) :
    ASs (cxOf CX0 P w K mg base N_law_is_escaped "_law_is_escaped" (defScope s_law_is_escaped) f cdv A outer s H E).nox w0 (defBody s_law_is_escaped) (T_law_is_escaped) :=
  have hN : (N_law_is_escaped : List Str).Nodup := sc_law_is_escaped.nd
  (as_cons (as_set 2 hN ae_int)
    (as_cons (as_while PassesOwn.never (at_eq hr (ae_sl (ae_v 0) (ao_some (ae_subt (ae_subt (ae_v 1) ae_int) (ae_v 2))) (ao_some (ae_subt (ae_v 1) (ae_v 2)))) ae_str) (as_one (as_set 2 hN (ae_add (ae_v 2) ae_int))))
    (as_one (as_ret (ae_eq hr (ae_mod (ae_v 2) ae_int) ae_int)))))
theorem sc_law_reader_right : FnScope N_law_reader_right P_law_reader_right (defScope s_law_reader_right) := ⟨rfl, rfl, rfl, by decide +kernel, rfl, by decide +kernel, by decide +kernel⟩
def T_law_reader_right (S_law_wide : L3.Spec) (S_show_reader : L3.Spec) (S_read_reader : L3.SpecX) (S_law_heard : L3.SpecL) (aT : Addr) : ATS :=
  (aSeq (aAsg (aCall S_law_wide [] (aCons (aV 0) (aCons (aV 1) (aCons (aOw (aLst (aCons (aC (.int 4)) aNil))) aNil)))) (gN 2))
  (aSeq (aFor (aIt (aFz (aLst (aCons (aCall S_show_reader [] (aCons (aV 1) aNil)) (aCons (aV 2) aNil))))) (gN 3) (aIfS (aOr (aB (aBin (fEq true) (aFn (f1 gRepr) (aCons (aCallX S_read_reader noX [] (aCons (aV 3) aNil)) aNil)) (aFn (f1 gRepr) (aCons (aV 1) aNil)))) (aB (aBin (fEq true) (aFn (f1 gRepr) (aCons (aCallXP S_read_reader noX 0 1 [] [0] aNil (aCons (aV 3) aNil)) aNil)) (aFn (f1 gRepr) (aCons (aV 1) aNil))))) (aRet (aC (.bl false))) aNext))
  (aSeq (aIfS (aB (aBin (fEq true) (aFn (f1 gRepr) (aCons (aCallX S_read_reader noX [] (aCons (aBin fAdd (aBin fAdd (aBin fMulN (aC (.str "(")) (aC (.int 12))) (aC (.str "~"))) (aBin fMulN (aC (.str ")")) (aC (.int 12)))) aNil)) aNil)) (aFn (f1 gRepr) (aCons (aTup (aCons (aC (.str "never")) aNil)) aNil)))) (aRet (aC (.bl false))) aNext)
  (aSeq (aAsg (aBin fAdd (aBin fAdd (aBin fMulN (aC (.str "(")) (aC (.int 13))) (aCall S_show_reader [] (aCons (aV 1) aNil))) (aBin fMulN (aC (.str ")")) (aC (.int 13)))) (gN 4))
  (aRet (aBin (fEq false) (aHeard aT (lamQ "_law_reader_right") S_law_heard (fun EX => (aCallX S_read_reader EX [] (aCons (aV 4) aNil)))) (aTup (aCons (aC (.str "text")) (aCons (aC .non) aNil)))))))))
theorem w_law_reader_right {P : Program} {w : World} {K : PySem.W.Frag} {mg : Str → Option Value} {base : Heap} {k : Nat} {cc : Addr} {S_law_wide : L3.Spec} {S_show_reader : L3.Spec} {S_read_reader : L3.SpecX} {S_law_heard : L3.SpecL} {aT : Addr}
    (F_law_wide : Kn P w K mg base (k + 2) "_law_wide" P_law_wide [] S_law_wide) (F_show_reader : Kn P w K mg base (k + 2) "show_reader" P_show_reader [] S_show_reader) (F_read_reader : KnX P w K mg base (k + 2) "read_reader" P_read_reader [] S_read_reader) (F_read_reader_k0_text : KnXP P w K mg base (k + 2) "read_reader" P_read_reader 0 ["text"] [] [0] S_read_reader) (F_read_reader_l : KnX P w K mg base k "read_reader" P_read_reader [] S_read_reader) (b_repr : mg "repr" = none) (H_law_heard : Has K mg "_law_heard" s_law_heard) (G_law_heard : ∀ X : Cx, X.prog = P → X.w = w → X.K = K → X.mg = mg → X.base = base → Gets X k N_law_heard "_law_heard" "_law_asker" s_law_heard S_law_heard) (TB : LamX.TabB base mg cc aT)
    {f : Addr}  {A : Around} {outer : List PySem.Env} {s : Shared} {H : Hp} {E : XK} {w0 : Wd} (hr : Room (k + 2) (A.deeper (envOfC "_law_reader_right" (defScope s_law_reader_right) s.heap.objs.size f (.ref cc)))) (hgd : A.guards = some []) :
    ASs (cxOf CX0 P w K mg base N_law_reader_right "_law_reader_right" (defScope s_law_reader_right) f (.ref cc) A outer s H E).nox w0 (defBody s_law_reader_right) (T_law_reader_right S_law_wide S_show_reader S_read_reader S_law_heard aT) :=
  have hN : (N_law_reader_right : List Str).Nodup := sc_law_reader_right.nd
  (as_cons (as_set 2 hN (ae_call F_law_wide hr hgd rfl (aa_cons (ae_v 0) (aa_cons (ae_v 1) (aa_cons (ae_ow (an_lst (aa_cons ae_int aa_nil))) aa_nil)))))
    (as_cons (as_for (vs := [3]) PassesOwn.never rfl (ai_it (ae_fz (an_lst (aa_cons (ae_call F_show_reader hr hgd rfl (aa_cons (ae_v 1) aa_nil)) (aa_cons (ae_v 2) aa_nil))))) (ag_n 3 hN (by decide)) (as_one (as_if (at_w (aw_or (at_ne hr (ae_repr hr hgd rfl b_repr (aa_cons (ae_callX F_read_reader tkX_no hr hgd rfl (aa_cons (ae_v 3) aa_nil)) aa_nil)) (ae_repr hr hgd rfl b_repr (aa_cons (ae_v 1) aa_nil))) (aw_or1 (at_ne hr (ae_repr hr hgd rfl b_repr (aa_cons (ae_callXP0 F_read_reader_k0_text tkX_no hr hgd rfl (ak_cons (ae_v 3) ak_nil)) aa_nil)) (ae_repr hr hgd rfl b_repr (aa_cons (ae_v 1) aa_nil)))))) (as_one (as_ret ae_bl)) as_nil)))
    (as_cons (as_if (at_ne hr (ae_repr hr hgd rfl b_repr (aa_cons (ae_callX F_read_reader tkX_no hr hgd rfl (aa_cons (ae_add (ae_add (ae_mulN ae_str ae_int) ae_str) (ae_mulN ae_str ae_int)) aa_nil)) aa_nil)) (ae_repr hr hgd rfl b_repr (aa_cons (ae_tup (aa_cons ae_str aa_nil)) aa_nil))) (as_one (as_ret ae_bl)) as_nil)
    (as_cons (as_set 4 hN (ae_add (ae_add (ae_mulN ae_str ae_int) (ae_call F_show_reader hr hgd rfl (aa_cons (ae_v 1) aa_nil))) (ae_mulN ae_str ae_int)))
    (as_one (as_ret (ae_eq hr (ae_heard (k := k) (q := lamQ "_law_reader_right") (aT := aT) H_law_heard sc_law_heard bd_law_heard (G_law_heard _ rfl rfl rfl rfl rfl) TB rfl rfl hr hgd (LamX.lamS_by (show LamX.lamSB (defScope s_law_reader_right) _ = true from by decide +kernel)) rfl (fun A outer s H E f c1 w1 EX hr hgd tk => (ae_callX F_read_reader_l tk hr hgd rfl (aa_cons (ae_v 4) aa_nil)))) (ae_tup (aa_cons ae_str (aa_cons ae_non aa_nil))))))))))
theorem sc_law : FnScope N_law P_law (defScope s_law) := ⟨rfl, rfl, rfl, by decide +kernel, rfl, by decide +kernel, by decide +kernel⟩
def T_law (S_law_start : L3.Spec) (S_law_pages : L3.Spec) (S_law_reader_right : L3.Spec) (S_show_book : L3.Spec) (S_law_wide : L3.Spec) (S_read_book : L3.Spec) (S_law_draw : L3.Spec) (S_law_any : L3.Spec) : ATS :=
  (aSeq (aAsg (aCall S_law_start [] (aCons (aV 0) aNil)) (gN 1))
  (aSeq (aFor (aRng1 (aCons (aC (.int 3)) aNil)) (gN 2) (aSeq (aAsg (aCall S_law_pages [] (aCons (aV 1) aNil)) (gN 3))
  (aSeq (aFor (aIt (aV 3)) (gTp 2 (gsCons (gN 4) (gsCons (gN 5) gsNil))) (aIfS (aNot (aTru (aCall S_law_reader_right [] (aCons (aV 1) (aCons (aV 5) aNil))))) (aRet (aC (.bl false))) aNext))
  (aSeq (aAsg (aCall S_show_book [] (aCons (aV 3) aNil)) (gN 6))
  (aSeq (aAsg (aJoin (aC (.str "")) (aFz (aLc (aIt (aV 3)) (gTp 2 (gsCons (gN 4) (gsCons (gN 5) gsNil))) aYes (aBin fAdd (aBin fAdd (aBin fAdd (aV 4) (aC (.str " = "))) (aCall S_law_wide [] (aCons (aV 1) (aCons (aV 5) (aCons (aOw (aLst (aCons (aC (.int 4)) aNil))) aNil))))) (aC (.str ";\n"))) [4, 5]))) (gN 7))
  (aSeq (aIfS (aOr (aB (aBin (fEq true) (aFn (f1 gRepr) (aCons (aCall S_read_book [] (aCons (aV 6) aNil)) aNil)) (aFn (f1 gRepr) (aCons (aV 3) aNil)))) (aB (aBin (fEq true) (aFn (f1 gRepr) (aCons (aCallP S_read_book 0 1 [] [0] aNil (aCons (aV 6) aNil)) aNil)) (aFn (f1 gRepr) (aCons (aV 3) aNil))))) (aRet (aC (.bl false))) aNext)
  (aSeq (aIfS (aAnd (aB (aBin fLe (aFn (f1 gLen) (aCons (aV 7) aNil)) (aC (.int 4000)))) (aB (aBin (fEq true) (aFn (f1 gRepr) (aCons (aCall S_read_book [] (aCons (aV 7) aNil)) aNil)) (aFn (f1 gRepr) (aCons (aV 3) aNil))))) (aRet (aC (.bl false))) aNext)
  (aSeq (aAsg (aCall S_law_any [] (aCons (aV 1) (aCons (aBin fAdd (aC (.int 1)) (aCall S_law_draw [] (aCons (aV 1) (aCons (aC (.int 8)) aNil)))) (aCons (aOw (aLst (aCons (aC (.int 40)) aNil))) (aCons (aFz (aLst (aCons (aC (.str "nobody")) (aCons (aC (.str "x")) aNil)))) aNil))))) (gN 8))
  (aIfS (aNot (aTru (aCall S_law_reader_right [] (aCons (aV 1) (aCons (aV 8) aNil))))) (aRet (aC (.bl false))) aNext)))))))))
  (aRet (aC (.bl true)))))
theorem w_law {P : Program} {w : World} {K : PySem.W.Frag} {mg : Str → Option Value} {base : Heap} {k : Nat} {S_law_start : L3.Spec} {S_law_pages : L3.Spec} {S_law_reader_right : L3.Spec} {S_show_book : L3.Spec} {S_law_wide : L3.Spec} {S_read_book : L3.Spec} {S_law_draw : L3.Spec} {S_law_any : L3.Spec}
    (F_law_start : Kn P w K mg base k "_law_start" P_law_start [] S_law_start) (F_law_pages : Kn P w K mg base k "_law_pages" P_law_pages [] S_law_pages) (F_law_reader_right : Kn P w K mg base k "_law_reader_right" P_law_reader_right [] S_law_reader_right) (F_show_book : Kn P w K mg base k "show_book" P_show_book [] S_show_book) (F_law_wide : Kn P w K mg base k "_law_wide" P_law_wide [] S_law_wide) (F_read_book : Kn P w K mg base k "read_book" P_read_book [] S_read_book) (F_read_book_k0_text : KnP P w K mg base k "read_book" P_read_book 0 ["text"] [] [0] S_read_book) (F_law_draw : Kn P w K mg base k "_law_draw" P_law_draw [] S_law_draw) (F_law_any : Kn P w K mg base k "_law_any" P_law_any [] S_law_any) (b_range : mg "range" = none) (b_repr : mg "repr" = none) (b_len : mg "len" = none)
    {f : Addr} {cdv : Value} {A : Around} {outer : List PySem.Env} {s : Shared} {H : Hp} {E : XK} {w0 : Wd} (hr : Room k (A.deeper (envOfC "law" (defScope s_law) s.heap.objs.size f cdv))) (hgd : A.guards = some []) :
    ASs (cxOf CX0 P w K mg base N_law "law" (defScope s_law) f cdv A outer s H E).nox w0 (defBody s_law) (T_law S_law_start S_law_pages S_law_reader_right S_show_book S_law_wide S_read_book S_law_draw S_law_any) :=
  have hN : (N_law : List Str).Nodup := sc_law.nd
  (as_cons (as_set 1 hN (ae_call F_law_start hr hgd rfl (aa_cons (ae_v 0) aa_nil)))
    (as_cons (as_for (vs := [2]) PassesOwn.never rfl (ai_rng1 rfl b_range (aa_cons ae_int aa_nil)) (ag_n 2 hN (by decide)) (as_cons (as_set 3 hN (ae_call F_law_pages hr hgd rfl (aa_cons (ae_v 1) aa_nil)))
    (as_cons (as_for (vs := [4, 5]) PassesOwn.never rfl (ai_it (ae_v 3)) (ag_tp (n := 2) rfl (ags_cons (ag_n 4 hN (by decide)) (ags_cons (ag_n 5 hN (by decide)) ags_nil))) (as_one (as_if (at_not (at_tru (ae_call F_law_reader_right hr hgd rfl (aa_cons (ae_v 1) (aa_cons (ae_v 5) aa_nil))))) (as_one (as_ret ae_bl)) as_nil)))
    (as_cons (as_set 6 hN (ae_call F_show_book hr hgd rfl (aa_cons (ae_v 3) aa_nil)))
    (as_cons (as_set 7 hN (ae_join ae_str (ae_fz (an_lc [("_law_label_here", 4), ("_law_whole", 5)] rfl hN (ai_it (ae_v 3)) (blkOk_by (N := N_law) (sc := defScope s_law) (by decide +kernel)) (fun s H C cl fp => (ag_tp (n := 2) rfl (ags_cons (ag_n 4 hN (by decide)) (ags_cons (ag_n 5 hN (by decide)) ags_nil)))) (fun s H C cl fp => ats_nil) (fun s H C cl fp => (ae_add (ae_add (ae_add (ae_v 4) ae_str) (ae_call F_law_wide hr hgd rfl (aa_cons (ae_v 1) (aa_cons (ae_v 5) (aa_cons (ae_ow (an_lst (aa_cons ae_int aa_nil))) aa_nil))))) ae_str))))))
    (as_cons (as_if (at_w (aw_or (at_ne hr (ae_repr hr hgd rfl b_repr (aa_cons (ae_call F_read_book hr hgd rfl (aa_cons (ae_v 6) aa_nil)) aa_nil)) (ae_repr hr hgd rfl b_repr (aa_cons (ae_v 3) aa_nil))) (aw_or1 (at_ne hr (ae_repr hr hgd rfl b_repr (aa_cons (ae_callP0 F_read_book_k0_text hr hgd rfl (ak_cons (ae_v 6) ak_nil)) aa_nil)) (ae_repr hr hgd rfl b_repr (aa_cons (ae_v 3) aa_nil)))))) (as_one (as_ret ae_bl)) as_nil)
    (as_cons (as_if (at_w (aw_and (at_le (ae_len rfl b_len (aa_cons (ae_v 7) aa_nil)) ae_int) (aw_and1 (at_ne hr (ae_repr hr hgd rfl b_repr (aa_cons (ae_call F_read_book hr hgd rfl (aa_cons (ae_v 7) aa_nil)) aa_nil)) (ae_repr hr hgd rfl b_repr (aa_cons (ae_v 3) aa_nil)))))) (as_one (as_ret ae_bl)) as_nil)
    (as_cons (as_set 8 hN (ae_call F_law_any hr hgd rfl (aa_cons (ae_v 1) (aa_cons (ae_add ae_int (ae_call F_law_draw hr hgd rfl (aa_cons (ae_v 1) (aa_cons ae_int aa_nil)))) (aa_cons (ae_ow (an_lst (aa_cons ae_int aa_nil))) (aa_cons (ae_fz (an_lst (aa_cons ae_str (aa_cons ae_str aa_nil)))) aa_nil))))))
    (as_one (as_if (at_not (at_tru (ae_call F_law_reader_right hr hgd rfl (aa_cons (ae_v 1) (aa_cons (ae_v 8) aa_nil))))) (as_one (as_ret ae_bl)) as_nil))))))))))
    (as_one (as_ret ae_bl))))
end R86

namespace R86
open PySem PySem.Spec PyProof.Rows L2 L3
/-! ### signs -/
theorem items_str {own : Own} {x : Str} (h : x.length ≤ 16777216) : itemsOf own (.str x) = some (L3.signs x, fun _ => True) := by
  have h' : x.cps.size ≤ sizeLine := by rw [x_sz]; exact h
  unfold itemsOf
  simp [see, h']
  exact h
theorem items_lst {own : Own} {ds : List D} : itemsOf own (.lst ds) = some (ds, fun o' => see o' (.lst ds) = .lst ds) := rfl
theorem items_tup {own : Own} {ds : List D} : itemsOf own (.tup ds) = some (ds, fun _ => True) := rfl
def sigS : Str := printable
theorem d_sig : d_SIGNS = .str sigS := rfl
def isText (most : Int) (x : Str) : Bool := decide ((x.length : Int) ≤ most) && (x.cps.toList.map fun c => oneIn ⟨#[c]⟩ sigS).all _root_.id
def isSg (least : Int) (x : Str) : Bool := (isText 94 x && !decide ((x.length : Int) < least)) && ((x.cps.toList.zip (cutS x (some 1) none).cps.toList).map fun q => strLt ⟨#[q.1]⟩ ⟨#[q.2]⟩).all _root_.id
def letS : Str := "abcdefghijklmnopqrstuvwxyz"
def isNm (x : Str) : Bool := (decide ((1 : Int) ≤ x.length) && decide ((x.length : Int) ≤ 8)) && (x.cps.toList.map fun c => oneIn ⟨#[c]⟩ letS).all _root_.id
def S_text : L3.Spec := fun ds own P => ∃ (x : Str) (most : Int), ds = [.str x, .int most] ∧ x.length ≤ 1000000 ∧ P (.bl (isText most x)) own
def UText (S : L3.Spec) : Prop := ∀ (own : Own) (P : D → Own → Prop) (x : Str) (most : Int), x.length ≤ 1000000 → P (.bl (isText most x)) own → S [.str x, .int most] own P
theorem uText : UText S_text := fun own P x most h1 h2 => ⟨x, most, rfl, h1, h2⟩
def S_sg : L3.Spec := fun ds own P => ∃ (x : Str) (least : Int), ds = [.str x, .int least] ∧ x.length ≤ 1000000 ∧ P (.bl (isSg least x)) own
def USg (S : L3.Spec) : Prop := ∀ (own : Own) (P : D → Own → Prop) (x : Str) (least : Int), x.length ≤ 1000000 → P (.bl (isSg least x)) own → S [.str x, .int least] own P
theorem uSg : USg S_sg := fun own P x most h1 h2 => ⟨x, most, rfl, h1, h2⟩
def S_nm : L3.Spec := fun ds own P => ∃ (x : Str), ds = [.str x] ∧ x.length ≤ 1000000 ∧ P (.bl (isNm x)) own
def UNm (S : L3.Spec) : Prop := ∀ (own : Own) (P : D → Own → Prop) (x : Str), x.length ≤ 1000000 → P (.bl (isNm x)) own → S [.str x] own P
theorem uNm : UNm S_nm := fun own P x h1 h2 => ⟨x, rfl, h1, h2⟩
theorem p_text {ds : List D} {own : Own} {Q : D → Own → Prop} (h : S_text ds own Q) : T_is_text { nx := fun _ o => Rt Q .non o, rt := Rt Q } (astart N_is_text ds) own := by
  obtain ⟨x, most, rfl, hx, h⟩ := h
  have h := Rt.mk h
  have xs : x.cps.size ≤ 16777216 := by have : x.cps.size = x.length := rfl; omega
  have xl : x.length ≤ 16777216 := xs
  unfold isText at h
  simp [T_is_text, astart, N_is_text, aAndV, xl]
  by_cases q : (x.length : Int) ≤ most
  · simp only [q, decide_true, Bool.true_and] at h ⊢
    simp [xs, L3.signs]
    refine lc_pure (fun c : Nat => D.str ⟨#[c]⟩) (fun c => D.bl (oneIn ⟨#[c]⟩ sigS)) trivial (fun c _ Q' hq => ?_) ?_
    · rw [d_sig]; simp; exact hq
    · simp at h ⊢; exact h
  · simp only [q, decide_false, Bool.false_and] at h ⊢; exact h
theorem p_signs' {S : L3.Spec} (ht : UText S) {ds : List D} {own : Own} {Q : D → Own → Prop} (h : S_sg ds own Q) : T_is_signs S { nx := fun _ o => Rt Q .non o, rt := Rt Q } (astart N_is_signs ds) own := by
  obtain ⟨x, least, rfl, hx, h⟩ := h
  have h := Rt.mk h
  have xl : x.length ≤ 16777216 := by omega
  have dm : d_MOST_SIGNS = .int 94 := rfl
  unfold isSg at h
  simp [T_is_signs, astart, N_is_signs, arr, dm]
  refine ht _ _ x 94 hx ?_
  by_cases q : isText 94 x = true
  · by_cases q2 : (x.length : Int) < least
    · simp [q, q2, xl] at h ⊢; exact h
    · have cl : (cutS x (some 1) none).length ≤ 16777216 := by
        have : (cutS x (some 1) none).length ≤ x.length := by unfold cutS; simp [Str.length]; omega
        omega
      simp [q, q2, xl] at h ⊢
      refine ⟨_, _, items_str xl, _, _, items_str cl, ?_⟩
      unfold L3.signs
      rw [zip_pure]
      refine lc_pure (fun q : Nat × Nat => D.tup [.str ⟨#[q.1]⟩, .str ⟨#[q.2]⟩]) (fun q => D.bl (strLt ⟨#[q.1]⟩ ⟨#[q.2]⟩)) ⟨trivial, trivial⟩ (fun c _ Q' hq => ?_) ?_
      · simp; exact hq
      · simp; exact h
  · simp [q] at h ⊢; exact h
theorem p_name {ds : List D} {own : Own} {Q : D → Own → Prop} (h : S_nm ds own Q) : T_is_name { nx := fun _ o => Rt Q .non o, rt := Rt Q } (astart N_is_name ds) own := by
  obtain ⟨x, rfl, hx, h⟩ := h
  have h := Rt.mk h
  have xs : x.cps.size ≤ 16777216 := by have : x.cps.size = x.length := rfl; omega
  have xl : x.length ≤ 16777216 := xs
  have dl : d_LETTERS = .str letS := rfl
  have dm : d_MOST_LETTERS = .int 8 := rfl
  unfold isNm at h
  simp [T_is_name, astart, N_is_name, xl, dm, C0]
  by_cases q : (1 : Int) ≤ (x.length : Int)
  · by_cases q2 : (x.length : Int) ≤ 8
    · simp [q, q2, xs, L3.signs] at h ⊢
      refine lc_pure (fun c : Nat => D.str ⟨#[c]⟩) (fun c => D.bl (oneIn ⟨#[c]⟩ letS)) trivial (fun c _ Q' hq => ?_) ?_
      · rw [dl]; simp; exact hq
      · simp at h ⊢; exact h
    · simp [q, q2] at h ⊢; exact h
  · simp [q] at h ⊢; exact h

/-! ### readers as data -/
def Lab (x : Str) : Prop := x.length ≤ 8 ∧ PyData.strOk x = true
inductive Rdr where
  | leaf (w : Str)
  | sg (w x : Str)
  | nm (w l : Str)
  | seq (w : Str) (ps : List Rdr)
  | one (w : Str) (p : Rdr)
  | two (w l : Str) (p : Rdr)
namespace Rdr
mutual
def toD : Rdr → D
  | .leaf w => .tup [.str w]
  | .sg w x => .tup [.str w, .str x]
  | .nm w l => .tup [.str w, .str l]
  | .seq w ps => .tup [.str w, .tup (toDs ps)]
  | .one w p => .tup [.str w, toD p]
  | .two w l p => .tup [.str w, .str l, toD p]
def toDs : List Rdr → List D
  | [] => []
  | r :: rs => toD r :: toDs rs
end
mutual
def size : Rdr → Nat
  | .leaf _ => 1
  | .sg _ _ => 1
  | .nm _ _ => 1
  | .seq _ ps => 1 + sizes ps
  | .one _ p => 1 + size p
  | .two _ _ p => 1 + size p
def sizes : List Rdr → Nat
  | [] => 0
  | r :: rs => size r + sizes rs
end
mutual
/-- how deep -/
def hgt : Rdr → Nat
  | .leaf _ => 1
  | .sg _ _ => 1
  | .nm _ _ => 1
  | .seq _ ps => 1 + hgts ps
  | .one _ p => 1 + hgt p
  | .two _ _ p => 1 + hgt p
def hgts : List Rdr → Nat
  | [] => 0
  | r :: rs => max (hgt r) (hgts rs)
end
mutual
def Ok (k : Nat) : Rdr → Prop
  | .leaf w => w = "nothing" ∨ w = "never"
  | .sg w x => (w = "sign" ∨ w = "but") ∧ x.length ≤ 30 ∧ PyData.strOk x = true
  | .nm w l => (w = "again" ∨ w = "name") ∧ Lab l
  | .seq w ps => (w = "row" ∨ w = "choice") ∧ ps ≠ [] ∧ ps.length ≤ k ∧ Oks k ps
  | .one w p => (w = "many" ∨ w = "maybe" ∨ w = "ahead" ∨ w = "not") ∧ Ok k p
  | .two w l p => (w = "hold" ∨ w = "tag" ∨ w = "make") ∧ Lab l ∧ Ok k p
def Oks (k : Nat) : List Rdr → Prop
  | [] => True
  | r :: rs => Ok k r ∧ Oks k rs
end
theorem toDs_map : ∀ rs : List Rdr, toDs rs = rs.map toD
  | [] => by unfold toDs; rfl
  | r :: rs => by unfold toDs; rw [toDs_map rs]; rfl
theorem oks_iff {k : Nat} : ∀ {rs : List Rdr}, Oks k rs ↔ ∀ r ∈ rs, Ok k r
  | [] => by unfold Oks; simp
  | r :: rs => by unfold Oks; rw [oks_iff (rs := rs)]; simp
theorem hgts_le : ∀ {rs : List Rdr} {n : Nat}, (∀ r ∈ rs, hgt r ≤ n) → hgts rs ≤ n
  | [], n, _ => by unfold hgts; omega
  | r :: rs, n, h => by
    unfold hgts
    have h1 := h r (List.mem_cons_self ..)
    have h2 := hgts_le (rs := rs) fun s hs => h s (List.mem_cons_of_mem _ hs)
    omega
theorem le_hgts : ∀ {rs : List Rdr} {r : Rdr}, r ∈ rs → hgt r ≤ hgts rs
  | s :: rs, r, h => by
    unfold hgts
    rcases List.mem_cons.mp h with rfl | h
    · omega
    · have := le_hgts h; omega
theorem le_sizes : ∀ {rs : List Rdr} {r : Rdr}, r ∈ rs → size r ≤ sizes rs
  | s :: rs, r, h => by
    unfold sizes
    rcases List.mem_cons.mp h with rfl | h
    · omega
    · have := le_sizes h; omega
end Rdr
namespace Rdr
def word : Rdr → Str
  | .leaf w => w
  | .sg w _ => w
  | .nm w _ => w
  | .seq w _ => w
  | .one w _ => w
  | .two w _ _ => w
theorem toD_word (r : Rdr) : ∃ rest, r.toD = .tup (.str r.word :: rest) := by
  cases r <;> unfold toD word <;> exact ⟨_, rfl⟩
theorem hgt_pos (r : Rdr) : 1 ≤ r.hgt := by cases r <;> unfold Rdr.hgt <;> omega
theorem size_pos (r : Rdr) : 1 ≤ r.size := by cases r <;> unfold Rdr.size <;> omega
end Rdr
theorem word_ok : ∀ {w : Str}, (w = "nothing" ∨ w = "never" ∨ w = "sign" ∨ w = "but" ∨ w = "again" ∨ w = "name" ∨ w = "row" ∨ w = "choice" ∨ w = "many" ∨ w = "maybe" ∨ w = "ahead" ∨ w = "not" ∨ w = "hold" ∨ w = "tag" ∨ w = "make") → ∀ {a : Nat}, PyOk (.str w) a 8 := by
  intro w h a
  rcases h with rfl | rfl | rfl | rfl | rfl | rfl | rfl | rfl | rfl | rfl | rfl | rfl | rfl | rfl | rfl <;> exact .str (by decide +kernel) (by decide +kernel)
mutual
theorem rdr_py {k : Nat} : ∀ r : Rdr, r.Ok k → PyOk r.toD (2 * r.hgt) (80 * r.size - 1)
  | .leaf w, ok => by
    unfold Rdr.toD Rdr.hgt Rdr.size
    exact (PyOk.tup (a := 1) (.cons (word_ok (by rcases ok with h | h <;> simp [h])) (.nil (b := 0)))).mono (by omega) (by omega)
  | .sg w x, ok => by
    unfold Rdr.toD Rdr.hgt Rdr.size
    exact (PyOk.tup (a := 1) (.cons (word_ok (by rcases ok.1 with h | h <;> simp [h])) (.cons (.str ok.2.2 ok.2.1) (.nil (b := 0))))).mono (by omega) (by omega)
  | .nm w x, ok => by
    unfold Rdr.toD Rdr.hgt Rdr.size
    exact (PyOk.tup (a := 1) (.cons (word_ok (by rcases ok.1 with h | h <;> simp [h])) (.cons (.str ok.2.2 ok.2.1) (.nil (b := 0))))).mono (by omega) (by omega)
  | .seq w ps, ok => by
    unfold Rdr.toD Rdr.hgt Rdr.size
    have h := rdrs_py ps ok.2.2.2
    exact (PyOk.tup (.cons (word_ok (by rcases ok.1 with h | h <;> simp [h])) (.cons (.tup h) (.nil (b := 0))))).mono (by omega) (by omega)
  | .one w p, ok => by
    unfold Rdr.toD Rdr.hgt Rdr.size
    have h := rdr_py p ok.2
    exact (PyOk.tup (.cons (word_ok (by rcases ok.1 with h | h | h | h <;> simp [h])) (.cons h (.nil (b := 0))))).mono (by omega) (by omega)
  | .two w l p, ok => by
    unfold Rdr.toD Rdr.hgt Rdr.size
    have h := rdr_py p ok.2.2
    exact (PyOk.tup (.cons (word_ok (by rcases ok.1 with h | h | h <;> simp [h])) (.cons (.str ok.2.1.2 ok.2.1.1) (.cons h (.nil (b := 0)))))).mono (by omega) (by omega)
theorem rdrs_py {k : Nat} : ∀ ps : List Rdr, Rdr.Oks k ps → PysOk (Rdr.toDs ps) (2 * Rdr.hgts ps) (80 * Rdr.sizes ps)
  | [], _ => by unfold Rdr.toDs; exact .nil
  | r :: ps, ok => by
    unfold Rdr.toDs Rdr.hgts Rdr.sizes
    have h1 := rdr_py r ok.1
    have h2 := rdrs_py ps ok.2
    have h3 : 0 < r.size := by cases r <;> unfold Rdr.size <;> omega
    exact (PysOk.cons (h1.mono (a' := 2 * max r.hgt (Rdr.hgts ps)) (by omega) (Nat.le_refl _)) (h2.mono (by omega) (Nat.le_refl _))).mono (by omega) (by omega)
end
namespace Rdr
mutual
theorem Ok.mono {k j : Nat} (e : k ≤ j) : ∀ {r : Rdr}, r.Ok k → r.Ok j
  | .leaf _, h => h
  | .sg _ _, h => h
  | .nm _ _, h => h
  | .seq _ ps, h => ⟨h.1, h.2.1, Nat.le_trans h.2.2.1 e, Oks.mono e h.2.2.2⟩
  | .one _ p, h => ⟨h.1, Ok.mono e h.2⟩
  | .two _ _ p, h => ⟨h.1, h.2.1, Ok.mono e h.2.2⟩
theorem Oks.mono {k j : Nat} (e : k ≤ j) : ∀ {rs : List Rdr}, Oks k rs → Oks j rs
  | [], h => h
  | _ :: _, h => ⟨Ok.mono e h.1, Oks.mono e h.2⟩
end
end Rdr
namespace Rdr
theorem toD_leaf {w : Str} : (leaf w).toD = .tup [.str w] := by unfold toD; rfl
theorem toD_sg {w x : Str} : (sg w x).toD = .tup [.str w, .str x] := by unfold toD; rfl
theorem toD_nm {w x : Str} : (nm w x).toD = .tup [.str w, .str x] := by unfold toD; rfl
theorem toD_seq {w : Str} {ps : List Rdr} : (seq w ps).toD = .tup [.str w, .tup (ps.map toD)] := by unfold toD; rw [toDs_map]
theorem toD_one {w : Str} {p : Rdr} : (one w p).toD = .tup [.str w, p.toD] := by rw [toD]
theorem toD_two {w l : Str} {p : Rdr} : (two w l p).toD = .tup [.str w, .str l, p.toD] := by rw [toD]
end Rdr

/-! ### pieces of texts -/
theorem cut_nn (z : Str) (i j : Nat) : (cutS z (some (i : Int)) (some (j : Int))).cps.toList = (z.cps.toList.drop i).take (j - i) := by
  unfold cutS
  rw [HT.sIx_nat, HT.sIx_nat, len_cs]
  rcases Nat.lt_or_ge i z.cps.toList.length with h | h
  · rw [Nat.min_eq_left (Nat.le_of_lt h)]
    rcases Nat.lt_or_ge j z.cps.toList.length with h2 | h2
    · rw [Nat.min_eq_left (Nat.le_of_lt h2)]
    · rw [Nat.min_eq_right h2]
      rw [List.take_of_length_le (by rw [List.length_drop]; exact Nat.le_refl _), List.take_of_length_le (by rw [List.length_drop]; omega)]
  · rw [Nat.min_eq_right h, List.drop_of_length_le (Nat.le_refl _), List.drop_of_length_le h]
    simp
theorem cut_n (z : Str) (i : Nat) : (cutS z (some (i : Int)) none).cps.toList = z.cps.toList.drop i := by
  unfold cutS
  rw [HT.sIx_nat, len_cs, show HT.sIx z.cps.toList.length z.cps.toList.length none = z.cps.toList.length from rfl]
  rcases Nat.lt_or_ge i z.cps.toList.length with h | h
  · rw [Nat.min_eq_left (Nat.le_of_lt h), List.take_of_length_le (by rw [List.length_drop]; exact Nat.le_refl _)]
  · rw [Nat.min_eq_right h, List.drop_of_length_le (Nat.le_refl _), List.drop_of_length_le h]
    simp
theorem str_ext {x y : Str} (h : x.cps.toList = y.cps.toList) : x = y := by
  obtain ⟨⟨a⟩⟩ := x
  obtain ⟨⟨b⟩⟩ := y
  exact congrArg (fun l => (⟨⟨l⟩⟩ : Str)) h

/-! ### the reading of texts, plainly -/
abbrev Cs := List Nat
def isL (c : Nat) : Bool := decide (97 ≤ c) && decide (c ≤ 122)
def inSg (c : Nat) : Bool := c == 10 || (decide (32 ≤ c) && decide (c ≤ 126) && c != 37)
def tells (c : Nat) : Option Nat := if c = 110 then some 10 else if c = 93 then some 93 else if c = 94 then some 94 else if c = 92 then some 92 else none
def toS (s : Cs) : Str := ⟨s.toArray⟩
def letF (s : Cs) : Option (Str × Cs) := if s.takeWhile isL = [] then none else some (toS (s.takeWhile isL), s.dropWhile isL)
def sgF : Cs → Option (Nat × Cs)
  | [] => none
  | c :: t => if c = 92 then (match t with | [] => none | d :: u => (tells d).map fun x => (x, u)) else if inSg c && c != 10 && c != 94 then some (c, t) else none
def sqF : Cs → Option (Cs × Cs)
  | [] => none
  | c :: t => if c = 93 then some ([], t) else if c = 92 then (match t with | [] => none | d :: u => (tells d).bind fun x => (sqF u).map fun p => (x :: p.1, p.2))
    else if inSg c && c != 10 && c != 94 then (sqF t).map fun p => (c :: p.1, p.2) else none
def bkF : Cs → Option (Rdr × Cs)
  | [] => none
  | c :: t => if c = 94 then (sqF t).map fun p => (.sg "but" (toS p.1), p.2) else (sqF (c :: t)).map fun p => (.sg "sign" (toS p.1), p.2)
/-- what reads what stands in brackets -/
abbrev Ch := Cs → Option (Rdr × Cs)
def cl : Option (Rdr × Cs) → Option (Rdr × Cs)
  | some (r, d :: u) => if d = 41 then some (r, u) else none
  | _ => none
def atomF (ch : Ch) : Ch
  | [] => none
  | c :: t => if c = 40 ∧ t.head? = some 41 then some (.leaf "nothing", t.tail) else if c = 126 then some (.leaf "never", t) else if c = 91 then bkF t
    else if c = 61 then (letF t).map fun p => (.nm "again" p.1, p.2)
    else if c = 40 then cl (ch t)
    else (letF (c :: t)).map fun p => (.nm "name" p.1, p.2)
def behind (c : Nat) : Option Str := if c = 58 then some "hold" else if c = 64 then some "tag" else if c = 35 then some "make" else none
def after (c : Nat) : Option Str := if c = 42 then some "many" else if c = 63 then some "maybe" else none
def ahead (c : Nat) : Option Str := if c = 38 then some "ahead" else if c = 33 then some "not" else none
def nameOf : Rdr → Option Str
  | .nm w x => if w = "name" then some x else none
  | _ => none
def tail2 (ch : Ch) (r : Rdr) (m : Nat) (u : Cs) : Option (Rdr × Cs) := match behind m with
  | none => some (r, m :: u)
  | some w => match nameOf r with
    | none => some (r, m :: u)
    | some x => (atomF ch u).map fun p => (.two w x p.1, p.2)
def tailF (ch : Ch) (c : Nat) (r : Rdr) : Cs → Option (Rdr × Cs)
  | [] => some (r, [])
  | m :: u => match after m with
    | some w => some (.one w r, u)
    | none => if isL c = true then tail2 ch r m u else some (r, m :: u)
def itemF (ch : Ch) : Ch
  | [] => none
  | c :: t => match ahead c with
    | some w => (atomF ch t).map fun p => (.one w p.1, p.2)
    | none => match atomF ch (c :: t) with
      | none => none
      | some (r, s) => tailF ch c r s
/-- a blank that is none ahead of a stroke -/
def blank : Cs → Bool
  | c :: t => c == 32 && !(t.take 2 == [47, 32])
  | [] => false
def slash (s : Cs) : Bool := s.take 3 == [32, 47, 32]
def rowL (ch : Ch) : Nat → Cs → Option (List Rdr × Cs)
  | 0, _ => none
  | n + 1, s => if blank s then (match itemF ch (s.drop 1) with | none => none | some (r, u) => (rowL ch n u).map fun p => (r :: p.1, p.2)) else some ([], s)
def mk (w : Str) (r : Rdr) (rs : List Rdr) : Rdr := if rs = [] then r else .seq w (r :: rs)
def rowF (ch : Ch) (s : Cs) : Option (Rdr × Cs) := match itemF ch s with
  | none => none
  | some (r, u) => (rowL ch (u.length + 1) u).map fun p => (mk "row" r p.1, p.2)
def choL (ch : Ch) : Nat → Cs → Option (List Rdr × Cs)
  | 0, _ => none
  | n + 1, s => if slash s then (match rowF ch (s.drop 3) with | none => none | some (r, u) => (choL ch n u).map fun p => (r :: p.1, p.2)) else some ([], s)
def choF (ch : Ch) (s : Cs) : Option (Rdr × Cs) := match rowF ch s with
  | none => none
  | some (r, u) => (choL ch (u.length + 1) u).map fun p => (mk "choice" r p.1, p.2)
def chF : Nat → Ch
  | 0 => choF fun _ => none
  | k + 1 => choF (chF k)
/-- what reads within brackets, with so many left -/
def inF : Nat → Ch
  | 0 => fun _ => none
  | k + 1 => chF k
theorem chF_in (k : Nat) : chF k = choF (inF k) := by cases k <;> rfl
/-! ### what writes a reader: 0 in brackets or none needed, 1 in a row, 2 in a choice, 3 all -/
def Lts (x : Str) : Prop := x.cps.toList ≠ [] ∧ ∀ c ∈ x.cps.toList, isL c = true
inductive Wr : Nat → Nat → List Rdr → Cs → Prop where
  | nothing {k} : Wr 0 k [.leaf "nothing"] [40, 41]
  | never {k} : Wr 0 k [.leaf "never"] [126]
  | sign {k x m} : m.head? ≠ some 94 → (∀ r, sqF (m ++ 93 :: r) = some (x, r)) → Wr 0 k [.sg "sign" (toS x)] (91 :: (m ++ [93]))
  | but {k x m} : (∀ r, sqF (m ++ 93 :: r) = some (x, r)) → Wr 0 k [.sg "but" (toS x)] (91 :: 94 :: (m ++ [93]))
  | again {k x} : Lts x → Wr 0 k [.nm "again" x] (61 :: x.cps.toList)
  | name {k x} : Lts x → Wr 0 k [.nm "name" x] x.cps.toList
  | br {k r m} : Wr 3 k [r] m → Wr 0 (k + 1) [r] (40 :: (m ++ [41]))
  | item {k r m} : Wr 0 k [r] m → Wr 1 k [r] m
  | pre {k r m c w} : ahead c = some w → Wr 0 k [r] m → Wr 1 k [.one w r] (c :: m)
  | post {k r m c w} : after c = some w → Wr 0 k [r] m → Wr 1 k [.one w r] (m ++ [c])
  | two {k r m x c w} : Lts x → behind c = some w → Wr 0 k [r] m → Wr 1 k [.two w x r] (x.cps.toList ++ c :: m)
  | row {k r m} : Wr 1 k [r] m → Wr 2 k [r] m
  | rows {k r m rs ms} : Wr 1 k [r] m → Wr 4 k rs ms → rs ≠ [] → Wr 2 k [.seq "row" (r :: rs)] (m ++ ms)
  | cho {k r m} : Wr 2 k [r] m → Wr 3 k [r] m
  | chos {k r m rs ms} : Wr 2 k [r] m → Wr 5 k rs ms → rs ≠ [] → Wr 3 k [.seq "choice" (r :: rs)] (m ++ ms)
  | nil4 {k} : Wr 4 k [] []
  | cons4 {k r m rs ms} : Wr 1 k [r] m → Wr 4 k rs ms → Wr 4 k (r :: rs) (32 :: (m ++ ms))
  | nil5 {k} : Wr 5 k [] []
  | cons5 {k r m rs ms} : Wr 2 k [r] m → Wr 5 k rs ms → Wr 5 k (r :: rs) (32 :: 47 :: 32 :: (m ++ ms))
theorem Wr.mono {l k j rs m} (h : Wr l k rs m) (e : k ≤ j) : Wr l j rs m := by
  induction h generalizing j with
  | nothing => exact .nothing
  | never => exact .never
  | sign a b => exact .sign a b
  | but a => exact .but a
  | again a => exact .again a
  | name a => exact .name a
  | br _ ih =>
    obtain ⟨i, rfl⟩ : ∃ i, j = i + 1 := ⟨j - 1, by omega⟩
    exact .br (ih (by omega))
  | item _ ih => exact .item (ih e)
  | pre a _ ih => exact .pre a (ih e)
  | post a _ ih => exact .post a (ih e)
  | two a b _ ih => exact .two a b (ih e)
  | row _ ih => exact .row (ih e)
  | rows _ _ n ih ih2 => exact .rows (ih e) (ih2 e) n
  | cho _ ih => exact .cho (ih e)
  | chos _ _ n ih ih2 => exact .chos (ih e) (ih2 e) n
  | nil4 => exact .nil4
  | cons4 _ _ ih ih2 => exact .cons4 (ih e) (ih2 e)
  | nil5 => exact .nil5
  | cons5 _ _ ih ih2 => exact .cons5 (ih e) (ih2 e)
/-- how a writing begins -/
def hdc (c : Nat) : Prop := c = 40 ∨ c = 126 ∨ c = 91 ∨ c = 61 ∨ c = 38 ∨ c = 33 ∨ isL c = true
def hd0 (c : Nat) : Prop := c = 40 ∨ c = 126 ∨ c = 91 ∨ c = 61 ∨ isL c = true
theorem Lts.hd {x : Str} (h : Lts x) : ∃ c t, x.cps.toList = c :: t ∧ isL c = true := by
  obtain ⟨h1, h2⟩ := h
  cases e : x.cps.toList with
  | nil => exact absurd e h1
  | cons c t => exact ⟨c, t, rfl, h2 c (by rw [e]; exact List.mem_cons_self ..)⟩
theorem Wr.hd {l k rs m} (h : Wr l k rs m) : (l = 0 → ∃ c t, m = c :: t ∧ hd0 c) ∧ (l ≤ 3 → ∃ c t, m = c :: t ∧ hdc c) := by
  have up : ∀ {m : Cs}, (∃ c t, m = c :: t ∧ hd0 c) → (∃ c t, m = c :: t ∧ hdc c) := fun ⟨c, t, e, h⟩ => ⟨c, t, e, by unfold hd0 at h; unfold hdc; rcases h with h | h | h | h | h <;> simp [h]⟩
  have ap : ∀ {m x : Cs}, (∃ c t, m = c :: t ∧ hdc c) → (∃ c t, m ++ x = c :: t ∧ hdc c) := fun {m x} h => by obtain ⟨c, t, rfl, h⟩ := h; exact ⟨c, t ++ x, rfl, h⟩
  have z : ∀ {m : Cs}, (∃ c t, m = c :: t ∧ hd0 c) → (0 = 0 → ∃ c t, m = c :: t ∧ hd0 c) ∧ (0 ≤ 3 → ∃ c t, m = c :: t ∧ hdc c) := fun h => ⟨fun _ => h, fun _ => up h⟩
  induction h with
  | nothing => exact z ⟨_, _, rfl, .inl rfl⟩
  | never => exact z ⟨_, _, rfl, .inr (.inl rfl)⟩
  | sign a b => exact z ⟨_, _, rfl, .inr (.inr (.inl rfl))⟩
  | but a => exact z ⟨_, _, rfl, .inr (.inr (.inl rfl))⟩
  | again a => exact z ⟨_, _, rfl, .inr (.inr (.inr (.inl rfl)))⟩
  | name a => obtain ⟨c, t, e, h⟩ := a.hd; exact z ⟨c, t, e, .inr (.inr (.inr (.inr h)))⟩
  | br _ ih => exact z ⟨_, _, rfl, .inl rfl⟩
  | item _ ih => exact ⟨by simp, fun _ => up (ih.1 rfl)⟩
  | @pre k r m c w a _ ih =>
    refine ⟨by simp, fun _ => ⟨c, m, rfl, ?_⟩⟩
    unfold ahead at a; unfold hdc
    split at a
    · omega
    · split at a
      · omega
      · cases a
  | post a _ ih => exact ⟨by simp, fun _ => ap (up (ih.1 rfl))⟩
  | two a b _ ih => obtain ⟨c, t, e, h⟩ := a.hd; exact ⟨by simp, fun _ => ap ⟨c, t, e, by unfold hdc; simp [h]⟩⟩
  | row _ ih => exact ⟨by simp, fun _ => ih.2 (by decide)⟩
  | rows _ _ n ih ih2 => exact ⟨by simp, fun _ => ap (ih.2 (by decide))⟩
  | cho _ ih => exact ⟨by simp, fun _ => ih.2 (by decide)⟩
  | chos _ _ n ih ih2 => exact ⟨by simp, fun _ => ap (ih.2 (by decide))⟩
  | nil4 => exact ⟨by simp, by simp⟩
  | cons4 _ _ ih ih2 => exact ⟨by simp, by simp⟩
  | nil5 => exact ⟨by simp, by simp⟩
  | cons5 _ _ ih ih2 => exact ⟨by simp, by simp⟩
/-! ### what is written is read -/
def g0 (s : Cs) : Prop := ∀ c, s.head? = some c → isL c = false
def g1 (s : Cs) : Prop := ∀ c, s.head? = some c → isL c = false ∧ after c = none ∧ behind c = none
def g2 (s : Cs) : Prop := g1 s ∧ blank s = false
def g3 (s : Cs) : Prop := g2 s ∧ slash s = false
theorem letF_ok {x : Str} (h : Lts x) {s : Cs} (g : g0 s) : letF (x.cps.toList ++ s) = some (x, s) := by
  have h1 : ∀ (l : Cs), (∀ c ∈ l, isL c = true) → (l ++ s).takeWhile isL = l ∧ (l ++ s).dropWhile isL = s := by
    intro l
    induction l with
    | nil =>
      intro _
      cases s with
      | nil => exact ⟨rfl, rfl⟩
      | cons d t =>
        have := g d rfl
        simp [List.takeWhile_cons, List.dropWhile_cons, this]
    | cons c l ih =>
      intro hc
      have hc1 := hc c (List.mem_cons_self ..)
      have := ih fun d hd => hc d (List.mem_cons_of_mem _ hd)
      simp [List.takeWhile_cons, List.dropWhile_cons, hc1, this.1, this.2]
  have := h1 _ h.2
  unfold letF
  rw [this.1, this.2, if_neg h.1]
  rfl
theorem g1_0 {s : Cs} (h : g1 s) : g0 s := fun c e => (h c e).1
theorem behind_ne {c : Nat} {w : Str} (h : behind c = some w) : isL c = false ∧ after c = none ∧ c = 58 ∨ isL c = false ∧ after c = none ∧ c = 64 ∨ isL c = false ∧ after c = none ∧ c = 35 := by
  unfold behind at h
  split at h
  · rename_i e; subst e; exact .inl ⟨rfl, rfl, rfl⟩
  · split at h
    · rename_i e; subst e; exact .inr (.inl ⟨rfl, rfl, rfl⟩)
    · split at h
      · rename_i e; subst e; exact .inr (.inr ⟨rfl, rfl, rfl⟩)
      · cases h
theorem after_ne {c : Nat} {w : Str} (h : after c = some w) : isL c = false := by
  unfold after at h
  split at h
  · rename_i e; subst e; rfl
  · split at h
    · rename_i e; subst e; rfl
    · cases h
theorem atom_name {ch : Ch} {x : Str} (h : Lts x) {s : Cs} (g : g0 s) : atomF ch (x.cps.toList ++ s) = some (.nm "name" x, s) := by
  have := letF_ok h g
  obtain ⟨c, t, e, hc⟩ := h.hd
  rw [e] at this ⊢
  have n : ∀ d : Nat, isL d = false → c ≠ d := fun d hd z => by rw [z, hd] at hc; cases hc
  show atomF ch (c :: (t ++ s)) = _
  unfold atomF
  simp only [List.cons_append] at this
  simp [n 40 rfl, n 126 rfl, n 91 rfl, n 61 rfl, this]
theorem head0 {c : Nat} (h : hd0 c) : ahead c = none := by
  unfold ahead
  rw [if_neg (by rintro rfl; unfold hd0 at h; simp [isL] at h), if_neg (by rintro rfl; unfold hd0 at h; simp [isL] at h)]
def rd3 (k l : Nat) (rs : List Rdr) (m : Cs) : Prop := match l with
  | 0 => ∀ r s, rs = [r] → g0 s → atomF (inF k) (m ++ s) = some (r, s)
  | 1 => ∀ r s, rs = [r] → g1 s → itemF (inF k) (m ++ s) = some (r, s)
  | 2 => ∀ r s, rs = [r] → g2 s → rowF (inF k) (m ++ s) = some (r, s)
  | 3 => ∀ r s, rs = [r] → g3 s → choF (inF k) (m ++ s) = some (r, s)
  | 4 => (∀ s, g2 s → g1 (m ++ s)) ∧ ∀ s n, g2 s → rs.length < n → rowL (inF k) n (m ++ s) = some (rs, s)
  | _ => (∀ s, g3 s → g2 (m ++ s)) ∧ ∀ s n, g3 s → rs.length < n → choL (inF k) n (m ++ s) = some (rs, s)
theorem Wr.len4 {l k rs m} (h : Wr l k rs m) (e : 4 ≤ l) : rs.length ≤ m.length := by
  induction h with
  | nil4 => simp
  | cons4 _ _ _ ih => have := ih (by decide); simp; omega
  | nil5 => simp
  | cons5 _ _ _ ih => have := ih (by decide); simp; omega
  | _ => simp at e
theorem Wr.read {l k rs m} (h : Wr l k rs m) : rd3 k l rs m := by
  induction h with
  | nothing => intro r s e g; cases e; rfl
  | never => intro r s e g; cases e; rfl
  | @sign k x m a b =>
    intro r s e g; cases e
    show bkF ((m ++ [93]) ++ s) = _
    rw [List.append_assoc]
    show bkF (m ++ 93 :: s) = _
    have := b s
    cases m with
    | nil => simp only [List.nil_append] at this ⊢; unfold bkF; simp [this]
    | cons c m =>
      have c1 : c ≠ 94 := by simpa using a
      simp only [List.cons_append] at this ⊢; unfold bkF; simp [c1, this]
  | @but k x m a =>
    intro r s e g; cases e
    show bkF (94 :: ((m ++ [93]) ++ s)) = _
    rw [List.append_assoc]
    show (sqF (m ++ 93 :: s)).map _ = _
    rw [a s]; rfl
  | again a =>
    intro r s e g; cases e
    show (letF (_ ++ s)).map _ = _
    rw [letF_ok a g]; rfl
  | name a => intro r s e g; cases e; exact atom_name a g
  | @br k r m h ih =>
    intro r s e g; cases e
    obtain ⟨c, t, e, hc⟩ := h.hd.2 (by decide)
    have hh := ih _ (41 :: s) rfl ⟨⟨fun c e => by cases e; exact ⟨rfl, rfl, rfl⟩, rfl⟩, rfl⟩
    show atomF (inF (k + 1)) (40 :: ((m ++ [41]) ++ s)) = _
    rw [List.append_assoc]
    show atomF (inF (k + 1)) (40 :: (m ++ 41 :: s)) = _
    have hn : (m ++ 41 :: s).head? ≠ some 41 := by
      rw [e]; intro z
      have z : c = 41 := by simpa using z
      subst z; unfold hdc at hc; simp [isL] at hc
    unfold atomF
    have hh : inF (k + 1) (m ++ 41 :: s) = some (r, 41 :: s) := by rw [← hh]; show chF k _ = _; rw [chF_in]
    simp only [true_and, hn, if_false, hh]
    rfl
  | @item k r m h ih =>
    intro r s e g; cases e
    obtain ⟨c, t, e, hc⟩ := h.hd.1 rfl
    have hh := ih _ s rfl (g1_0 g)
    rw [e] at hh ⊢
    show itemF _ (c :: (t ++ s)) = _
    have hh : atomF (inF k) (c :: (t ++ s)) = some (r, s) := hh
    unfold itemF
    simp only [head0 hc, hh]
    cases s with
    | nil => rfl
    | cons d u =>
      have := g d rfl
      unfold tailF tail2
      simp only [this.2.1, this.2.2]
      split <;> rfl
  | @pre k r m c w a h ih =>
    intro r' s e g; cases e
    have hh := ih _ s rfl (g1_0 g)
    show itemF _ (c :: (m ++ s)) = _
    unfold itemF
    simp [a, hh]
  | @post k r m c w a h ih =>
    intro r' s e g; cases e
    obtain ⟨d, t, e, hc⟩ := h.hd.1 rfl
    have hh := ih _ (c :: s) rfl (fun b hb => by cases hb; exact after_ne a)
    rw [List.append_assoc]
    show itemF _ (m ++ c :: s) = _
    rw [e] at hh ⊢
    have hh : atomF (inF k) (d :: (t ++ c :: s)) = some (r, c :: s) := hh
    show itemF _ (d :: (t ++ c :: s)) = _
    unfold itemF
    simp only [head0 hc, hh]
    unfold tailF
    simp only [a]
  | @two k r m x c w a b h ih =>
    intro r' s e g; cases e
    have hh := ih _ s rfl (g1_0 g)
    obtain ⟨d, t, e, hc⟩ := a.hd
    have hb : isL c = false ∧ after c = none := by rcases behind_ne b with h | h | h <;> exact ⟨h.1, h.2.1⟩
    have ha := atom_name (ch := inF k) a (s := c :: (m ++ s)) (fun b hb' => by cases hb'; exact hb.1)
    rw [List.append_assoc, e] at *
    have ha : atomF (inF k) (d :: (t ++ c :: (m ++ s))) = some (.nm "name" x, c :: (m ++ s)) := ha
    show itemF _ (d :: (t ++ c :: (m ++ s))) = _
    unfold itemF
    simp only [head0 (.inr (.inr (.inr (.inr hc)))), ha]
    unfold tailF tail2
    simp [hb.2, b, hc, nameOf, hh]
  | @row k r m h ih =>
    intro r s e g; cases e
    have hh := ih _ s rfl g.1
    unfold rowF
    simp only [hh]
    unfold rowL
    simp [g.2, mk]
  | @rows k r m rs ms h hl n ih ih2 =>
    intro r' s e g; cases e
    have hh := ih _ (ms ++ s) rfl (ih2.1 s g)
    have h2 := ih2.2 s ((ms ++ s).length + 1) g (by have := hl.len4 (by decide); simp; omega)
    rw [List.append_assoc]
    unfold rowF
    simp only [hh, h2]
    simp [mk, n]
  | @cho k r m h ih =>
    intro r s e g; cases e
    have hh := ih _ s rfl g.1
    unfold choF
    simp only [hh]
    unfold choL
    simp [g.2, mk]
  | @chos k r m rs ms h hl n ih ih2 =>
    intro r' s e g; cases e
    have hh := ih _ (ms ++ s) rfl (ih2.1 s g)
    have h2 := ih2.2 s ((ms ++ s).length + 1) g (by have := hl.len4 (by decide); simp; omega)
    rw [List.append_assoc]
    unfold choF
    simp only [hh, h2]
    simp [mk, n]
  | nil4 =>
    refine ⟨fun s g => g.1, fun s n g hn => ?_⟩
    obtain ⟨n, rfl⟩ : ∃ i, n = i + 1 := ⟨n - 1, by simp at hn; omega⟩
    unfold rowL
    simp [g.2]
  | @cons4 k r m rs ms h hl ih ih2 =>
    refine ⟨fun s g c e => by cases e; exact ⟨rfl, rfl, rfl⟩, fun s n g hn => ?_⟩
    obtain ⟨n, rfl⟩ : ∃ i, n = i + 1 := ⟨n - 1, by simp at hn; omega⟩
    have hh := ih _ (ms ++ s) rfl (ih2.1 s g)
    have h2 := ih2.2 s n g (by simp at hn; omega)
    obtain ⟨c, t, e, hc⟩ := h.hd.2 (by decide)
    have hb : blank (32 :: (m ++ (ms ++ s))) = true := by
      rw [e]
      unfold blank
      have : c ≠ 47 := by rintro rfl; unfold hdc at hc; simp [isL] at hc
      simp [this]
    show rowL _ _ (32 :: ((m ++ ms) ++ s)) = _
    rw [List.append_assoc]
    unfold rowL
    simp [hb, hh, h2]
  | nil5 =>
    refine ⟨fun s g => g.1, fun s n g hn => ?_⟩
    obtain ⟨n, rfl⟩ : ∃ i, n = i + 1 := ⟨n - 1, by simp at hn; omega⟩
    unfold choL
    simp [g.2]
  | @cons5 k r m rs ms h hl ih ih2 =>
    refine ⟨fun s g => ⟨fun c e => by cases e; exact ⟨rfl, rfl, rfl⟩, by simp [blank]⟩, fun s n g hn => ?_⟩
    obtain ⟨n, rfl⟩ : ∃ i, n = i + 1 := ⟨n - 1, by simp at hn; omega⟩
    have hh := ih _ (ms ++ s) rfl (ih2.1 s g)
    have h2 := ih2.2 s n g (by simp at hn; omega)
    show choL _ _ (32 :: 47 :: 32 :: ((m ++ ms) ++ s)) = _
    rw [List.append_assoc]
    unfold choL
    simp [slash, hh, h2]
theorem read_all {k r m} (h : Wr 3 k [r] m) : chF k m = some (r, []) := by
  have := h.read r [] rfl ⟨⟨fun c e => (by cases e), rfl⟩, rfl⟩
  rw [List.append_nil] at this
  rw [chF_in]; exact this

/-! ### the parser's walk -/
structure Tx (z : Str) (i : Int) (s : Cs) : Prop where
  lo : 0 ≤ i
  hi : i ≤ z.length
  dr : z.cps.toList.drop i.toNat = s
  sz : z.length ≤ 16000
theorem Tx.len {z : Str} {i : Int} {s : Cs} (h : Tx z i s) : i + s.length = z.length := by
  have := congrArg List.length h.dr
  rw [List.length_drop, ← len_cs] at this
  have := h.lo; have := h.hi; omega
theorem Tx.step {z : Str} {i : Int} {s : Cs} (h : Tx z i s) (n : Nat) (hn : n ≤ s.length) : Tx z (i + n) (s.drop n) := by
  have hl := h.len; have := h.lo
  refine ⟨by omega, by omega, ?_, h.sz⟩
  rw [← h.dr, List.drop_drop]
  congr 1; omega
theorem Tx.s1 {z : Str} {i : Int} {c : Nat} {t : Cs} (h : Tx z i (c :: t)) : Tx z (i + 1) t := h.step 1 (by simp)
theorem Tx.s2 {z : Str} {i : Int} {c d : Nat} {t : Cs} (h : Tx z i (c :: d :: t)) : Tx z (i + 2) t := h.step 2 (by simp)
theorem Tx.s3 {z : Str} {i : Int} {c d e : Nat} {t : Cs} (h : Tx z i (c :: d :: e :: t)) : Tx z (i + 3) t := h.step 3 (by simp)
theorem Tx.cut {z : Str} {i : Int} {s : Cs} (h : Tx z i s) (j n : Nat) : cutS z (some (i + j)) (some (i + (j + n : Nat))) = toS ((s.drop j).take n) := by
  apply str_ext
  have h0 := h.lo
  obtain ⟨k, rfl⟩ : ∃ k : Nat, i = (k : Int) := ⟨i.toNat, by omega⟩
  have e1 : ((k : Int) + (j : Int)) = ((k + j : Nat) : Int) := by omega
  have e2 : ((k : Int) + ((j + n : Nat) : Int)) = ((k + (j + n) : Nat) : Int) := by omega
  rw [e1, e2, cut_nn]
  have := h.dr
  rw [← this]
  show _ = (((z.cps.toList.drop ((k : Int).toNat)).drop j).take n)
  rw [List.drop_drop, Int.toNat_natCast]
  congr 1; omega
theorem Tx.c01 {z : Str} {i : Int} {s : Cs} (h : Tx z i s) : cutS z (some i) (some (i + 1)) = toS (s.take 1) := by simpa using h.cut 0 1
theorem Tx.c02 {z : Str} {i : Int} {s : Cs} (h : Tx z i s) : cutS z (some i) (some (i + 2)) = toS (s.take 2) := by simpa using h.cut 0 2
theorem Tx.c03 {z : Str} {i : Int} {s : Cs} (h : Tx z i s) : cutS z (some i) (some (i + 3)) = toS (s.take 3) := by simpa using h.cut 0 3
theorem Tx.c12 {z : Str} {i : Int} {s : Cs} (h : Tx z i s) : cutS z (some (i + 1)) (some (i + 2)) = toS ((s.drop 1).take 1) := by simpa using h.cut 1 1
theorem Tx.at {z : Str} {i : Int} {c : Nat} {t : Cs} (h : Tx z i (c :: t)) : atI z.cps.toList i = some c := by
  have h0 := h.lo
  have hl := h.len
  have hlen := len_cs z
  simp only [List.length_cons] at hl
  obtain ⟨k, rfl⟩ : ∃ k : Nat, i = (k : Int) := ⟨i.toNat, by omega⟩
  have hk : k < z.cps.toList.length := by omega
  have hd := h.dr
  rw [Int.toNat_natCast, List.drop_eq_getElem_cons hk] at hd
  have hc : z.cps.toList[k] = c := by injection hd
  have hk2 : (k : Int) < z.cps.toList.length := by omega
  have hg : z.cps.toList[k]? = some c := by rw [List.getElem?_eq_getElem hk, hc]
  simp only [atI, ixN, h0, hk2, if_true, Int.toNat_natCast]
  exact hg
theorem Tx.le {z : Str} {i : Int} {s : Cs} (h : Tx z i s) : z.length ≤ 16777216 := by have := h.sz; omega
@[simp] theorem beq_toS {a b : Cs} : (toS a == toS b) = (a == b) := by
  cases h : a == b with
  | true => rw [eq_of_beq h]; simp
  | false =>
    apply beq_eq_false_iff_ne.mpr
    intro e
    have := congrArg (fun x : Str => x.cps.toList) e
    simp only [toS] at this
    rw [this] at h; simp at h
theorem l40 : Str.ofString "(" = toS [40] := by decide +kernel
theorem l41 : Str.ofString ")" = toS [41] := by decide +kernel
theorem l4041 : Str.ofString "()" = toS [40, 41] := by decide +kernel
theorem l126 : Str.ofString "~" = toS [126] := by decide +kernel
theorem l91 : Str.ofString "[" = toS [91] := by decide +kernel
theorem l93 : Str.ofString "]" = toS [93] := by decide +kernel
theorem l94 : Str.ofString "^" = toS [94] := by decide +kernel
theorem l92 : Str.ofString "\\" = toS [92] := by decide +kernel
theorem l61 : Str.ofString "=" = toS [61] := by decide +kernel
theorem l10 : Str.ofString "\n" = toS [10] := by decide +kernel
theorem l32 : Str.ofString " " = toS [32] := by decide +kernel
theorem lsl : Str.ofString " / " = toS [32, 47, 32] := by decide +kernel
theorem l38 : Str.ofString "&" = toS [38] := by decide +kernel
theorem l33 : Str.ofString "!" = toS [33] := by decide +kernel
theorem l42 : Str.ofString "*" = toS [42] := by decide +kernel
theorem l63 : Str.ofString "?" = toS [63] := by decide +kernel
theorem l58 : Str.ofString ":" = toS [58] := by decide +kernel
theorem l64 : Str.ofString "@" = toS [64] := by decide +kernel
theorem l35 : Str.ofString "#" = toS [35] := by decide +kernel
theorem l110 : Str.ofString "n" = toS [110] := by decide +kernel
theorem lem : Str.empty = toS [] := rfl
theorem toS_one (c : Nat) : (⟨#[c]⟩ : Str) = toS [c] := rfl
@[simp] theorem toS_cs {a : Cs} : (toS a).cps.toList = a := rfl
theorem toS_len {a : Cs} : (toS a).length = a.length := by simp [toS, Str.length]
theorem toS_app {a b : Cs} : toS a ++ toS b = toS (a ++ b) := str_ext (by simp)
theorem toS_inj {a b : Cs} : toS a = toS b ↔ a = b := ⟨fun e => by have := congrArg (fun x : Str => x.cps.toList) e; simpa using this, fun e => by rw [e]⟩
theorem in_let {c : Nat} : oneIn (toS [c]) letS = isL c := by
  have e : letS.cps.toList = (List.range 26).map (· + 97) := by decide +kernel
  unfold oneIn
  rw [e]
  show decide (c ∈ (List.range 26).map (· + 97)) = isL c
  unfold isL
  rw [← Bool.decide_and]
  apply decide_eq_decide.mpr
  simp only [List.mem_map, List.mem_range]
  constructor
  · rintro ⟨a, h, rfl⟩; omega
  · intro h; exact ⟨c - 97, by omega, by omega⟩
theorem in_sig {c : Nat} : oneIn (toS [c]) sigS = inSg c := by
  have e : sigS.cps.toList = 10 :: ((List.range 95).map (· + 32)).filter (fun c => c != 37) := rfl
  unfold oneIn
  rw [e]
  show decide (c ∈ _) = inSg c
  unfold inSg
  rw [Bool.eq_iff_iff]
  simp only [decide_eq_true_eq, List.mem_cons, List.mem_filter, List.mem_map, List.mem_range, Bool.or_eq_true, Bool.and_eq_true, beq_iff_eq, bne_iff_ne]
  constructor
  · rintro (h | ⟨⟨a, h, rfl⟩, h2⟩)
    · exact .inl h
    · exact .inr ⟨⟨by omega, by omega⟩, h2⟩
  · rintro (h | ⟨⟨h, h2⟩, h3⟩)
    · exact .inl h
    · exact .inr ⟨⟨c - 32, by omega, by omega⟩, h3⟩
abbrev NT (E : XP) (own : Own) : Prop := E "NoText" none own
def S_need : L3.SpecX := fun ds own P E => ∃ b, ds = [.bl b] ∧ (b = true → P .non own) ∧ (b = false → NT E own)
def UNeed (S : L3.SpecX) : Prop := ∀ (own : Own) (P : D → Own → Prop) (E : XP) (b : Bool), (b = true → P .non own) → (b = false → NT E own) → S [.bl b] own P E
theorem uNeed : UNeed S_need := fun own P E b h1 h2 => ⟨b, rfl, h1, h2⟩
theorem p_need {ds : List D} {own : Own} {Q : D → Own → Prop} {PX : XP} (h : S_need ds own Q PX) : T_need (RtX PX) { nx := fun _ o => Rt Q .non o, rt := Rt Q } (astart N_need ds) own := by
  obtain ⟨b, rfl, h1, h2⟩ := h
  simp [T_need, astart, N_need]
  cases b with
  | true => exact Rt.mk (h1 rfl)
  | false => exact RtX.mk (h2 rfl)
def S_letters : L3.SpecX := fun ds own P E => ∃ z i s, ds = [.str z, .int i] ∧ Tx z i s ∧ (∀ x u e, letF s = some (x, u) → Tx z e u → P (.tup [.str x, .int e]) own) ∧ (letF s = none → NT E own)
def ULetters (S : L3.SpecX) : Prop := ∀ (own : Own) (P : D → Own → Prop) (E : XP) (z : Str) (i : Int) (s : Cs), Tx z i s → (∀ x u e, letF s = some (x, u) → Tx z e u → P (.tup [.str x, .int e]) own) → (letF s = none → NT E own) → S [.str z, .int i] own P E
theorem uLetters : ULetters S_letters := fun own P E z i s h1 h2 h3 => ⟨z, i, s, rfl, h1, h2, h3⟩
theorem whl_letters {z : Str} {own : Own} {i : Int} {E : AEnds} {s0 : Cs} (h : ∀ e, Tx z e (s0.dropWhile isL) → E.nx [some (.str z), some (.int i), some (.int e)] own) : ∀ (s : Cs) (e : Int), Tx z e s → s.dropWhile isL = s0.dropWhile isL →
    aWhl (aAnd (aB (aBin fLt (aV 2) (aFn (f1 gLen) (aCons (aV 0) aNil)))) (aB (aBin (fIn false) (aBin fIx (aV 0) (aV 2)) (aC d_LETTERS)))) (aAug fIadd 2 (aC (.int 1))) E (s.length + 1) [some (.str z), some (.int i), some (.int e)] own
  | [], e, tx, hs => by
    have hl := tx.len
    have n : ¬ e < (z.length : Int) := by simp at hl; omega
    rw [x_whlS]
    simp [tx.le, n]
    exact h e (by rw [← hs]; exact tx)
  | c :: t, e, tx, hs => by
    have hl := tx.len
    have n : e < (z.length : Int) := by simp at hl; omega
    have dl : d_LETTERS = .str letS := rfl
    rw [List.length_cons, x_whlS]
    simp [tx.le, n, tx.at, dl, toS_one, in_let]
    cases hc : isL c with
    | true =>
      simp
      exact whl_letters h t (e + 1) tx.s1 (by rw [← hs, List.dropWhile_cons_of_pos hc])
    | false =>
      simp
      exact h e (by rw [← hs, List.dropWhile_cons_of_neg (by simp [hc])]; exact tx)
theorem p_letters {S_n : L3.SpecX} (hn : UNeed S_n) {ds : List D} {own : Own} {Q : D → Own → Prop} {PX : XP} (h : S_letters ds own Q PX) : T_letters_at (RtX PX) S_n { nx := fun _ o => Rt Q .non o, rt := Rt Q } (astart N_letters_at ds) own := by
  obtain ⟨z, i, s, rfl, tx, h1, h2⟩ := h
  simp [T_letters_at, astart, N_letters_at]
  refine ⟨s.length + 1, whl_letters (s0 := s) (fun e te => ?_) s i tx rfl⟩
  have l1 := tx.len
  have l2 := te.len
  have l3 : (s.takeWhile isL).length + (s.dropWhile isL).length = s.length := by rw [← List.length_append, List.takeWhile_append_dropWhile]
  simp
  refine hn _ _ _ _ (fun q => ?_) (fun q => ?_)
  · have q : i < e := by simpa using q
    have ne : s.takeWhile isL ≠ [] := by intro z; rw [z] at l3; simp at l3; omega
    have ec : cutS z (some i) (some e) = toS (s.takeWhile isL) := by
      have hc := tx.cut 0 (s.takeWhile isL).length
      rw [show i + ((0 : Nat) : Int) = i from by omega, show i + ((0 + (s.takeWhile isL).length : Nat) : Int) = e from by omega, List.drop_zero] at hc
      rw [hc]
      rw [← List.prefix_iff_eq_take.mp (List.takeWhile_prefix isL)]
    simp [tx.le, ec]
    exact Rt.mk (h1 _ _ e (by unfold letF; rw [if_neg ne]) te)
  · have q : ¬ i < e := by simpa using q
    have ne : s.takeWhile isL = [] := by apply List.length_eq_zero_iff.mp; omega
    exact RtX.mk (h2 (by unfold letF; rw [if_pos ne]))

theorem tab_tells {c : Nat} : tab_TELLS (toS [c]) = (tells c).map fun x => D.str (toS [x]) := by
  unfold tab_TELLS tells
  simp only [l110, l93, l94, l92, l10, toS_inj, List.cons.injEq, and_true]
  split
  · rfl
  · split
    · rfl
    · split
      · rfl
      · split <;> rfl
theorem tab_tells0 : tab_TELLS (toS []) = none := by decide +kernel
def S_sign : L3.SpecX := fun ds own P E => ∃ z i s, ds = [.str z, .int i] ∧ Tx z i s ∧ (∀ x u e, sgF s = some (x, u) → Tx z e u → P (.tup [.str (toS [x]), .int e]) own) ∧ (sgF s = none → NT E own)
def USign (S : L3.SpecX) : Prop := ∀ (own : Own) (P : D → Own → Prop) (E : XP) (z : Str) (i : Int) (s : Cs), Tx z i s → (∀ x u e, sgF s = some (x, u) → Tx z e u → P (.tup [.str (toS [x]), .int e]) own) → (sgF s = none → NT E own) → S [.str z, .int i] own P E
theorem uSign : USign S_sign := fun own P E z i s h1 h2 h3 => ⟨z, i, s, rfl, h1, h2, h3⟩
theorem p_sign {S_n : L3.SpecX} (hn : UNeed S_n) {a : Addr} {ds : List D} {own : Own} {Q : D → Own → Prop} {PX : XP} (h : S_sign ds own Q PX) : T_sign_at (RtX PX) S_n a { nx := fun _ o => Rt Q .non o, rt := Rt Q } (astart N_sign_at ds) own := by
  obtain ⟨z, i, s, rfl, tx, h1, h2⟩ := h
  have hl := tx.len
  simp [T_sign_at, astart, N_sign_at, tx.le]
  refine hn _ _ _ _ (fun q => ?_) (fun q => ?_)
  · have q : i < z.length := by simpa using q
    cases s with
    | nil => simp at hl; omega
    | cons c t =>
      have ds : d_SIGNS = .str sigS := rfl
      simp [tx.le, tx.at, toS_one, l92, ds, in_sig, l10, l94]
      by_cases c92 : c = 92
      · subst c92
        simp [tx.le, tx.c12]
        unfold sgF at h1 h2
        cases t with
        | nil =>
          simp [tab_tells0]
          exact hn _ _ _ _ (fun q => absurd q (by simp)) fun _ => RtX.mk (h2 rfl)
        | cons d u =>
          simp [tab_tells, tx.s1.at, toS_one]
          cases ht : tells d with
          | none => exact hn _ _ _ _ (fun q => absurd q (by simp)) fun _ => RtX.mk (h2 (by simp [ht]))
          | some x => exact hn _ _ _ _ (fun _ => by simp; exact Rt.mk (h1 x u _ (by simp [ht]) tx.s2)) fun q => absurd q (by simp)
      · unfold sgF at h1 h2
        simp only [c92, if_false] at h1 h2
        have cb : (c == 92) = false := by simpa using c92
        simp [cb]
        have fin : ∀ b : Bool, b = (inSg c && c != 10 && c != 94) → S_n [.bl b] own (fun d o => Rt Q (.tup [.str (toS [c]), .int (i + 1)]) o) (RtX PX) := fun b hb =>
          hn _ _ _ _ (fun q => Rt.mk (h1 c t _ (by rw [← hb, q]; rfl) tx.s1)) fun q => RtX.mk (h2 (by rw [← hb, q]; rfl))
        cases g1 : inSg c with
        | false => simp; exact fin false (by rw [g1]; rfl)
        | true =>
          simp
          cases g2 : c == 10 with
          | true => simp; exact fin false (by rw [g1]; simp [bne, g2])
          | false => simp; exact fin _ (by rw [g1]; simp [bne, g2])
  · have q : ¬ i < z.length := by simpa using q
    cases s with
    | cons c t => simp at hl; omega
    | nil => exact RtX.mk (h2 rfl)

theorem whl_signs {S_s : L3.SpecX} (hs : USign S_s) {z : Str} {own : Own} {EX : XP} {w : Option D} {E : AEnds} : ∀ (n : Nat) (s : Cs) (i : Int) (acc : Cs) (e4 : Option D), s.length < n → Tx z i s → acc.length + s.length ≤ 16000 →
    (∀ x u e e4, sqF s = some (x, u) → Tx z e (93 :: u) → E.nx [some (.str z), some (.int e), w, some (.str (toS (acc ++ x))), e4] own) → (sqF s = none → NT EX own) →
    aWhl (aB (aBin (fEq true) (aSl (aV 0) (aSo (aV 1)) (aSo (aBin fAdd (aV 1) (aC (.int 1))))) (aC (.str "]")))) (aSeq (aAsg (aCallX S_s EX [] (aCons (aV 0) (aCons (aV 1) aNil))) (gTp 2 (gsCons (gN 4) (gsCons (gN 1) gsNil))))
  (aAug fIadd 3 (aV 4))) E n [some (.str z), some (.int i), w, some (.str (toS acc)), e4] own
  | 0, _, _, _, _, hn, _, _, _, _ => absurd hn (Nat.not_lt_zero _)
  | n + 1, [], i, acc, e4, hn, tx, hl, h1, h2 => by
    rw [x_whlS]
    simp [tx.le, tx.c01, l93]
    exact hs _ _ _ z i [] tx (fun x u e q => by cases q) fun _ => h2 rfl
  | n + 1, c :: t, i, acc, e4, hn, tx, hl, h1, h2 => by
    rw [x_whlS]
    simp [tx.le, tx.c01, l93]
    by_cases c93 : c = 93
    · subst c93
      simp
      have := h1 [] t i e4 (by unfold sqF; simp) tx
      simpa using this
    have cb : (c == 93) = false := by simpa using c93
    simp [bne, cb]
    simp only [List.length_cons] at hn hl
    have al : (toS acc).length + 1 ≤ 16777216 := by rw [toS_len]; omega
    refine hs _ _ _ z i (c :: t) tx (fun x u e q te => ?_) fun q => h2 ?_
    · simp [toS_app, al, toS_len]
      refine ⟨by omega, ?_⟩
      have lu : u.length < (c :: t).length ∧ (∀ y v, sqF u = some (y, v) → sqF (c :: t) = some (x :: y, v)) ∧ (sqF u = none → sqF (c :: t) = none) := by
        unfold sgF at q
        by_cases c92 : c = 92
        · subst c92
          simp only [if_true] at q
          cases t with
          | nil => cases q
          | cons d v =>
            cases ht : tells d with
            | none => simp [ht] at q
            | some y =>
              simp [ht] at q
              obtain ⟨rfl, rfl⟩ := q
              refine ⟨by simp; omega, fun y' v' e => ?_, fun e => ?_⟩
              · unfold sqF; simp [ht, e]
              · unfold sqF; simp [ht, e]
        · simp only [c92, if_false] at q
          split at q
          · rename_i g
            simp at q
            obtain ⟨rfl, rfl⟩ := q
            refine ⟨by simp, fun y' v' e => ?_, fun e => ?_⟩
            · unfold sqF; rw [if_neg c93, if_neg c92, if_pos g, e]; rfl
            · unfold sqF; rw [if_neg c93, if_neg c92, if_pos g, e]; rfl
          · cases q
      simp only [List.length_cons] at lu
      have := whl_signs hs (w := w) (EX := EX) (E := E) (own := own) n u e (acc ++ [x]) (some (.str (toS [x]))) (by omega) te (by simp; omega) (fun y v e' e4' q' tv => by
        have := h1 (x :: y) v e' e4' (lu.2.1 y v q') tv
        simpa using this) fun q' => h2 (lu.2.2 q')
      simpa [l93] using this
    · unfold sgF at q
      unfold sqF
      by_cases c92 : c = 92
      · subst c92
        simp only [if_true] at q
        cases t with
        | nil => rfl
        | cons d v =>
          cases ht : tells d with
          | none => simp [ht]
          | some y => simp [ht] at q
      · simp only [c92, if_false] at q
        simp only [c92, c93, if_false]
        split at q
        · cases q
        · rename_i g; rw [if_neg g]
def S_bk : L3.SpecX := fun ds own P E => ∃ z i t, ds = [.str z, .int i] ∧ Tx z i (91 :: t) ∧ (∀ r u e, bkF t = some (r, u) → Tx z e u → P (.tup [r.toD, .int e]) own) ∧ (bkF t = none → NT E own)
def UBk (S : L3.SpecX) : Prop := ∀ (own : Own) (P : D → Own → Prop) (E : XP) (z : Str) (i : Int) (t : Cs), Tx z i (91 :: t) → (∀ r u e, bkF t = some (r, u) → Tx z e u → P (.tup [r.toD, .int e]) own) → (bkF t = none → NT E own) → S [.str z, .int i] own P E
theorem uBk : UBk S_bk := fun own P E z i s h1 h2 h3 => ⟨z, i, s, rfl, h1, h2, h3⟩
theorem p_bk {S_s : L3.SpecX} (hs : USign S_s) {ds : List D} {own : Own} {Q : D → Own → Prop} {PX : XP} (h : S_bk ds own Q PX) : T_signs_at (RtX PX) S_s { nx := fun _ o => Rt Q .non o, rt := Rt Q } (astart N_signs_at ds) own := by
  obtain ⟨z, i, t, rfl, tx, h1, h2⟩ := h
  have hl := tx.len
  have hz := tx.sz
  have go : ∀ (s : Cs) (j : Int) (w : Str), Tx z j s → (∀ x u, sqF s = some (x, u) → bkF t = some (.sg w (toS x), u)) → (sqF s = none → bkF t = none) → ∃ k, aWhl (aB (aBin (fEq true) (aSl (aV 0) (aSo (aV 1)) (aSo (aBin fAdd (aV 1) (aC (.int 1))))) (aC (.str "]")))) (aSeq (aAsg (aCallX S_s (RtX PX) [] (aCons (aV 0) (aCons (aV 1) aNil))) (gTp 2 (gsCons (gN 4) (gsCons (gN 1) gsNil))))
  (aAug fIadd 3 (aV 4))) { nx := aRet (aTup (aCons (aTup (aCons (aV 2) (aCons (aV 3) aNil))) (aCons (aBin fAdd (aV 1) (aC (.int 1))) aNil))) { nx := fun _ o => Rt Q .non o, rt := Rt Q }, rt := Rt Q } k [some (.str z), some (.int j), some (.str w), some (.str Str.empty), none] own := fun s j w ts hx hnn => by
    have := ts.len
    have := ts.lo
    refine ⟨s.length + 1, ?_⟩
    refine whl_signs hs (EX := RtX PX) (acc := []) _ s j none (by omega) ts (by simp; omega) (fun x u e e4 q te => ?_) fun q => RtX.mk (h2 (hnn q))
    simp
    have := h1 _ u (e + 1) (hx x u q) te.s1
    rw [Rdr.toD_sg] at this
    exact Rt.mk this
  simp [T_signs_at, astart, N_signs_at, tx.le, tx.c12, l94]
  cases t with
  | nil =>
    simp
    exact go [] (i + 1) _ tx.s1 (fun x u q => by cases q) (fun _ => rfl)
  | cons c t =>
    by_cases q : c = 94
    · subst q
      simp
      exact go t (i + 2) _ tx.s2 (fun x u q => by unfold bkF; simp [q]) (fun q => by unfold bkF; simp [q])
    · have qb : (c == 94) = false := by simpa using q
      simp [qb]
      exact go (c :: t) (i + 1) _ tx.s1 (fun x u q' => by unfold bkF; simp [q, q']) (fun q' => by unfold bkF; simp [q, q'])

/-! ### reading goes on -/
def Lt (F : Ch) : Prop := ∀ s r u, F s = some (r, u) → u.length < s.length
theorem letF_lt {s : Cs} {x : Str} {u : Cs} (h : letF s = some (x, u)) : u.length < s.length := by
  unfold letF at h
  split at h
  · cases h
  · rename_i g
    cases h
    have l3 : (s.takeWhile isL).length + (s.dropWhile isL).length = s.length := by rw [← List.length_append, List.takeWhile_append_dropWhile]
    have : 0 < (s.takeWhile isL).length := List.length_pos_iff.mpr g
    omega
theorem sqF_lt : ∀ {n : Nat} {s x u : Cs}, s.length < n → sqF s = some (x, u) → u.length < s.length
  | 0, _, _, _, hn, _ => absurd hn (Nat.not_lt_zero _)
  | n + 1, [], _, _, _, h => by cases h
  | n + 1, c :: t, x, u, hn, h => by
    unfold sqF at h
    simp only [List.length_cons] at hn ⊢
    split at h
    · cases h; omega
    · split at h
      · cases t with
        | nil => cases h
        | cons d v =>
          cases ht : tells d with
          | none => simp [ht] at h
          | some y =>
            simp [ht] at h
            obtain ⟨x', h1, rfl⟩ := h
            have := sqF_lt (n := n) (by simp at hn; omega) h1
            simp; omega
      · split at h
        · simp at h
          obtain ⟨x', h1, rfl⟩ := h
          have := sqF_lt (n := n) (by omega) h1
          omega
        · cases h
theorem bkF_lt {s : Cs} {r : Rdr} {u : Cs} (h : bkF s = some (r, u)) : u.length < s.length := by
  unfold bkF at h
  cases s with
  | nil => cases h
  | cons c t =>
    simp only at h
    split at h
    · simp at h
      obtain ⟨x, h1, _⟩ := h
      have := sqF_lt (Nat.lt_succ_self _) h1
      simp; omega
    · simp at h
      obtain ⟨x, h1, _⟩ := h
      exact sqF_lt (Nat.lt_succ_self _) h1
theorem atomF_lt {ch : Ch} (hc : Lt ch) : Lt (atomF ch) := by
  intro s r u h
  unfold atomF at h
  cases s with
  | nil => cases h
  | cons c t =>
    simp only at h
    split at h
    · cases h; cases t <;> simp <;> omega
    · split at h
      · cases h; simp
      · split at h
        · have := bkF_lt h; simp; omega
        · split at h
          · simp at h
            obtain ⟨x, h1, _⟩ := h
            have := letF_lt h1
            simp; omega
          · split at h
            · unfold cl at h
              split at h
              · rename_i r' d u' e
                split at h
                · cases h
                  have := hc _ _ _ e
                  simp at this ⊢; omega
                · cases h
              · cases h
            · simp at h
              obtain ⟨x, h1, _⟩ := h
              exact letF_lt h1
theorem tailF_le {ch : Ch} (hc : Lt ch) {c : Nat} {r r' : Rdr} {s u : Cs} (h : tailF ch c r s = some (r', u)) : u.length ≤ s.length := by
  unfold tailF at h
  cases s with
  | nil => cases h; simp
  | cons m t =>
    simp only at h
    split at h
    · cases h; simp
    · split at h
      · unfold tail2 at h
        split at h
        · cases h; simp
        · split at h
          · cases h; simp
          · simp at h
            obtain ⟨x, h1, _⟩ := h
            have := atomF_lt hc _ _ _ h1
            simp; omega
      · cases h; simp
theorem itemF_lt {ch : Ch} (hc : Lt ch) : Lt (itemF ch) := by
  intro s r u h
  unfold itemF at h
  cases s with
  | nil => cases h
  | cons c t =>
    simp only at h
    split at h
    · simp at h
      obtain ⟨x, h1, _⟩ := h
      have := atomF_lt hc _ _ _ h1
      simp; omega
    · split at h
      · cases h
      · rename_i e
        have h1 := atomF_lt hc _ _ _ e
        have h2 := tailF_le hc h
        omega
theorem rowL_le {ch : Ch} (hc : Lt ch) : ∀ {n : Nat} {s : Cs} {rs : List Rdr} {u : Cs}, rowL ch n s = some (rs, u) → u.length ≤ s.length
  | 0, _, _, _, h => by cases h
  | n + 1, s, rs, u, h => by
    unfold rowL at h
    split at h
    · split at h
      · cases h
      · rename_i r v e
        simp at h
        obtain ⟨x, h1, _⟩ := h
        have h2 := itemF_lt hc _ _ _ e
        have := rowL_le hc h1
        simp at h2; omega
    · cases h; omega
theorem rowF_lt {ch : Ch} (hc : Lt ch) : Lt (rowF ch) := by
  intro s r u h
  unfold rowF at h
  split at h
  · cases h
  · rename_i r' v e
    simp at h
    obtain ⟨x, h1, _⟩ := h
    have h2 := itemF_lt hc _ _ _ e
    have := rowL_le hc h1
    omega
theorem choL_le {ch : Ch} (hc : Lt ch) : ∀ {n : Nat} {s : Cs} {rs : List Rdr} {u : Cs}, choL ch n s = some (rs, u) → u.length ≤ s.length
  | 0, _, _, _, h => by cases h
  | n + 1, s, rs, u, h => by
    unfold choL at h
    split at h
    · split at h
      · cases h
      · rename_i r v e
        simp at h
        obtain ⟨x, h1, _⟩ := h
        have h2 := rowF_lt hc _ _ _ e
        have := choL_le hc h1
        simp at h2; omega
    · cases h; omega
theorem choF_lt {ch : Ch} (hc : Lt ch) : Lt (choF ch) := by
  intro s r u h
  unfold choF at h
  split at h
  · cases h
  · rename_i r' v e
    simp at h
    obtain ⟨x, h1, _⟩ := h
    have h2 := rowF_lt hc _ _ _ e
    have := choL_le hc h1
    omega
theorem chF_lt : ∀ k, Lt (chF k)
  | 0 => choF_lt fun s r u h => by cases h
  | k + 1 => choF_lt (chF_lt k)
theorem inF_lt : ∀ k, Lt (inF k)
  | 0 => fun s r u h => by cases h
  | k + 1 => chF_lt k

/-! ### atoms, items, rows, choices -/
def S_par (F : Ch) (k : Nat) : L3.SpecX := fun ds own P E => ∃ z i s, ds = [.str z, .int i, .int k] ∧ Tx z i s ∧ (∀ r u e, F s = some (r, u) → Tx z e u → P (.tup [r.toD, .int e]) own) ∧ (F s = none → NT E own)
def UPar (F : Ch) (k : Nat) (S : L3.SpecX) : Prop := ∀ (own : Own) (P : D → Own → Prop) (E : XP) (z : Str) (i : Int) (s : Cs), Tx z i s → (∀ r u e, F s = some (r, u) → Tx z e u → P (.tup [r.toD, .int e]) own) → (F s = none → NT E own) → S [.str z, .int i, .int k] own P E
theorem uPar (F : Ch) (k : Nat) : UPar F k (S_par F k) := fun own P E z i s h1 h2 h3 => ⟨z, i, s, rfl, h1, h2, h3⟩
theorem p_atom {k : Nat} {S_b S_l S_n S_c : L3.SpecX} (hb : UBk S_b) (hl : ULetters S_l) (hn : UNeed S_n) (hc : ∀ j, k = j + 1 → UPar (chF j) j S_c) {ds : List D} {own : Own} {Q : D → Own → Prop} {PX : XP} (h : S_par (atomF (inF k)) k ds own Q PX) : T_atom_at (RtX PX) S_b S_l S_n S_c { nx := fun _ o => Rt Q .non o, rt := Rt Q } (astart N_atom_at ds) own := by
  obtain ⟨z, i, s, rfl, tx, h1, h2⟩ := h
  simp [T_atom_at, astart, N_atom_at, tx.le, tx.c01, tx.c02, l4041, l126, l91, l61, l40]
  cases s with
  | nil =>
    simp
    refine hl _ _ _ z i [] tx (fun x u e q => by cases q) fun q => RtX.mk (h2 rfl)
  | cons c t =>
    simp
    by_cases q0 : c = 40 ∧ t.head? = some 41
    · obtain ⟨rfl, q0⟩ := q0
      obtain ⟨u, rfl⟩ : ∃ u, t = 41 :: u := by cases t with | nil => cases q0 | cons d u => exact ⟨u, by simp at q0; rw [q0]⟩
      simp
      have := h1 (.leaf "nothing") u _ rfl tx.s2
      rw [Rdr.toD_leaf] at this
      exact Rt.mk this
    have b0 : (c == 40 && List.take 1 t == [41]) = false := by
      rw [Bool.eq_false_iff]
      intro e
      apply q0
      cases t <;> simp at e ⊢
      exact e
    simp only [b0]
    by_cases c126 : c = 126
    · subst c126
      simp
      have := h1 (.leaf "never") t _ rfl tx.s1
      rw [Rdr.toD_leaf] at this
      exact Rt.mk this
    have b1 : (c == 126) = false := by simpa using c126
    simp [b1]
    by_cases c91 : c = 91
    · subst c91
      simp
      exact hb _ _ _ z i t tx (fun r u e q te => Rt.mk (h1 r u e q te)) fun q => RtX.mk (h2 q)
    have b2 : (c == 91) = false := by simpa using c91
    simp [b2]
    by_cases c61 : c = 61
    · subst c61
      simp
      refine hl _ _ _ z (i + 1) t tx.s1 (fun x u e q te => ?_) fun q => RtX.mk (h2 (by unfold atomF; simp [q]))
      simp
      have := h1 (.nm "again" x) u e (by unfold atomF; simp [q]) te
      rw [Rdr.toD_nm] at this
      exact Rt.mk this
    have b3 : (c == 61) = false := by simpa using c61
    simp [b3]
    by_cases c40 : c = 40
    · subst c40
      have q0 : t.head? ≠ some 41 := fun e => q0 ⟨rfl, e⟩
      have e0 : atomF (inF k) (40 :: t) = cl (inF k t) := by
        unfold atomF; simp [q0]
      simp [C0]
      refine hn _ _ _ _ (fun q => ?_) fun q => ?_
      · have q : 0 < k := by simpa using q
        obtain ⟨j, rfl⟩ : ∃ j, k = j + 1 := ⟨k - 1, by omega⟩
        have hc := hc j rfl
        have ej : (((j + 1 : Nat) : Int)) - 1 = (j : Int) := by omega
        simp [C0]
        refine hc _ _ _ z (i + 1) t tx.s1 (fun r u e q te => ?_) fun q => RtX.mk (h2 (by rw [e0]; show cl (chF j t) = none; rw [q]; rfl))
        have e1 : atomF (inF (j + 1)) (40 :: t) = cl (some (r, u)) := by
          rw [e0]; show cl (chF j t) = _; rw [q]
        simp [tx.le, te.c01, l41]
        refine hn _ _ _ _ (fun q => ?_) fun q => ?_
        · cases u with
          | nil => simp at q
          | cons d v =>
            have : d = 41 := by simpa using q
            subst this
            exact Rt.mk (h1 r v _ e1 te.s1)
        · refine RtX.mk (h2 ?_)
          rw [e1]
          cases u with
          | nil => rfl
          | cons d v =>
            have : d ≠ 41 := by simpa using q
            simp [cl, this]
      · have q : ¬ 0 < k := by simpa using q
        have : k = 0 := by omega
        subst this
        exact RtX.mk (h2 (by rw [e0]; rfl))
    have b4 : (c == 40) = false := by simpa using c40
    simp [bne, b4]
    have e0 : atomF (inF k) (c :: t) = (letF (c :: t)).map (fun p => (.nm "name" p.1, p.2)) := by unfold atomF; simp [c126, c91, c61, c40]
    refine hl _ _ _ z i (c :: t) tx (fun x u e' q te => ?_) fun q => RtX.mk (h2 (by rw [e0, q]; rfl))
    simp
    have := h1 (.nm "name" x) u e' (by rw [e0, q]; rfl) te
    rw [Rdr.toD_nm] at this
    exact Rt.mk this

theorem tab_ahead {c : Nat} : tab_AHEAD (toS [c]) = (ahead c).map D.str := by
  unfold tab_AHEAD ahead
  simp only [l38, l33, toS_inj, List.cons.injEq, and_true]
  split
  · rfl
  · split <;> rfl
theorem tab_after {c : Nat} : tab_AFTER (toS [c]) = (after c).map D.str := by
  unfold tab_AFTER after
  simp only [l42, l63, toS_inj, List.cons.injEq, and_true]
  split
  · rfl
  · split <;> rfl
theorem tab_behind {c : Nat} : tab_BEHIND (toS [c]) = (behind c).map D.str := by
  unfold tab_BEHIND behind
  simp only [l58, l64, l35, toS_inj, List.cons.injEq, and_true]
  split
  · rfl
  · split
    · rfl
    · split <;> rfl
theorem tab_ahead0 : tab_AHEAD (toS []) = none := by decide +kernel
theorem tab_after0 : tab_AFTER (toS []) = none := by decide +kernel
theorem tab_behind0 : tab_BEHIND (toS []) = none := by decide +kernel
theorem letF_head {c : Nat} {t : Cs} (h : isL c = false) : letF (c :: t) = none := by
  unfold letF; simp [List.takeWhile_cons, h]
theorem word_name {r : Rdr} (h : r.word = "name") (hk : r.Ok 1000000) : ∃ x, r = .nm "name" x := by
  cases r with
  | leaf w => rcases hk with rfl | rfl <;> simp [Rdr.word] at h
  | sg w x => rcases hk.1 with rfl | rfl <;> simp [Rdr.word] at h
  | nm w x => exact ⟨x, by simp only [Rdr.word] at h; rw [h]⟩
  | seq w ps => rcases hk.1 with rfl | rfl <;> simp [Rdr.word] at h
  | one w p => rcases hk.1 with rfl | rfl | rfl | rfl <;> simp [Rdr.word] at h
  | two w x p => rcases hk.1 with rfl | rfl | rfl <;> simp [Rdr.word] at h
/-- an atom that begins with a letter is a name -/
theorem atom_let {ch : Ch} {c : Nat} {t u : Cs} {r : Rdr} (hc : isL c = true) (h : atomF ch (c :: t) = some (r, u)) : ∃ x, r = .nm "name" x := by
  have n : ∀ d : Nat, isL d = false → c ≠ d := fun d hd z => by rw [z, hd] at hc; cases hc
  unfold atomF at h
  simp [n 40 rfl, n 126 rfl, n 91 rfl, n 61 rfl] at h
  obtain ⟨x, _, e⟩ := h
  exact ⟨x, e.symm⟩
theorem p_item {k : Nat} {S_a : L3.SpecX} {a1 a2 a3 : Addr} (ha : UPar (atomF (inF k)) k S_a) {ds : List D} {own : Own} {Q : D → Own → Prop} {PX : XP} (h : S_par (itemF (inF k)) k ds own Q PX) : T_item_at (RtX PX) S_a a1 a2 a3 { nx := fun _ o => Rt Q .non o, rt := Rt Q } (astart N_item_at ds) own := by
  obtain ⟨z, i, s, rfl, tx, h1, h2⟩ := h
  have dl : d_LETTERS = .str letS := rfl
  simp [T_item_at, astart, N_item_at, tx.le, tx.c01]
  cases s with
  | nil =>
    simp [tab_ahead0]
    exact ha _ _ _ z i [] tx (fun x u e q => by cases q) fun q => RtX.mk (h2 rfl)
  | cons c t =>
    simp [tab_ahead]
    cases hc : ahead c with
    | some w =>
      simp
      refine ha _ _ _ z (i + 1) t tx.s1 (fun r u e q te => ?_) fun q => RtX.mk (h2 (by unfold itemF; simp [hc, q]))
      simp [tab_ahead, hc]
      have := h1 (.one w r) u e (by unfold itemF; simp [hc, q]) te
      rw [Rdr.toD_one] at this
      exact Rt.mk this
    | none =>
      simp
      refine ha _ _ _ z i (c :: t) tx (fun r u e q te => ?_) fun q => RtX.mk (h2 (by unfold itemF; simp [hc, q]))
      have ei : itemF (inF k) (c :: t) = tailF (inF k) c r u := by unfold itemF; simp only [hc, q]
      rw [ei] at h1 h2
      clear ei
      simp [tx.le, te.c01]
      have plain : ∀ v, (tailF (inF k) c r u = some (r, v)) → v = u → Rt Q (.tup [r.toD, .int e]) own := fun v hv ev => Rt.mk (h1 r v e hv (by rw [ev]; exact te))
      obtain ⟨rest, er⟩ := r.toD_word
      cases u with
      | nil =>
        simp [tab_after0, tab_behind0]
        have fin := plain [] rfl rfl
        rw [er] at fin ⊢
        simp
        by_cases g : r.word = Str.ofString "name"
        · simp [g, dl, toS_one, in_let]
          cases isL c <;> simp <;> simpa [g] using fin
        · have gb : (r.word == Str.ofString "name") = false := by simpa using g
          simp [gb]; exact fin
      | cons m v =>
        simp [tab_after, tab_behind]
        cases ham : after m with
        | some w =>
          simp [tab_after, ham]
          have := h1 (.one w r) v (e + 1) (by unfold tailF; simp [ham]) te.s1
          rw [Rdr.toD_one] at this
          exact Rt.mk this
        | none =>
          simp
          cases hl : isL c with
          | false =>
            have fin := plain (m :: v) (by unfold tailF; simp [ham, hl]) rfl
            rw [er] at fin ⊢
            simp
            by_cases g : r.word = Str.ofString "name"
            · simp [g, dl, toS_one, in_let, hl]; simpa [g] using fin
            · have gb : (r.word == Str.ofString "name") = false := by simpa using g
              simp [gb]; exact fin
          | true =>
            obtain ⟨x, rfl⟩ := atom_let hl q
            rw [Rdr.toD_nm] at plain ⊢
            simp [dl, toS_one, in_let, hl]
            cases hb : behind m with
            | none =>
              simp
              exact plain (m :: v) (by unfold tailF tail2; simp [ham, hl, hb, nameOf]) rfl
            | some w =>
              simp
              refine ha _ _ _ z (e + 1) v te.s1 (fun p y e' q' te' => ?_) fun q' => RtX.mk (h2 (by unfold tailF tail2; simp [ham, hl, hb, nameOf, q']))
              simp [tab_behind, hb]
              have := h1 (.two w x p) y e' (by unfold tailF tail2; simp [ham, hl, hb, nameOf, q']) te'
              rw [Rdr.toD_two] at this
              exact Rt.mk this

theorem x_gstR {p : Addr} {ds : List D} {n i : Nat} {gs : ATGs} {env : AEnv} {own : Own} {Q : AEnv → Own → Prop} (h : own p = some (.lst ds)) : gSt n i gs (.ref p) env own Q = (n ≤ ds.length + 1 ∧ ds.length ≤ 16384 ∧ gs (ds.take i ++ [.lst ((ds.drop i).take (ds.length + 1 - n))] ++ (ds.drop i).drop (ds.length + 1 - n)) env own Q) := by
  unfold gSt; rw [x_seeR h]
theorem take_slash {c : Nat} {t : Cs} : (List.take 3 (c :: t) == [32, 47, 32]) = (c == 32 && (t.take 2 == [47, 32])) := by simp
theorem RtX.dropX {E : XP} {c : Str} {d : Option Addr} {o o' : Own} (hs : ∀ p m, o' p = some m → o p = some m) (h : E c d o') : RtX E c d o := ⟨o', hs, h⟩
theorem oset_sub {own : Own} {p : Addr} {m : MO} (h : own p = none) : ∀ q m', own q = some m' → oset own p m q = some m' := fun q m' e => by
  rw [oset_ne (by rintro rfl; rw [h] at e; cases e)]; exact e
theorem whl_row {F : Ch} {k : Nat} {S_i : L3.SpecX} (hi : UPar F k S_i) (hF : Lt F) {z : Str} {own : Own} {p : Addr} (hp : own p = none) {EX : XP} {e1 : Option D} {E : AEnds} {rowG : Nat → Cs → Option (List Rdr × Cs)} (hG : ∀ n s, rowG (n + 1) s = if blank s then (match F (s.drop 1) with | none => none | some (r, u) => (rowG n u).map fun p => (r :: p.1, p.2)) else some ([], s)) :
    ∀ (n : Nat) (s : Cs) (i : Int) (acc : List Rdr) (e3 : Option D), s.length < n → Tx z i s → acc.length + s.length ≤ 16001 →
    (∀ rs u e e3, rowG n s = some (rs, u) → Tx z e u → (acc ++ rs).length ≤ 16001 → E.nx [some (.str z), e1, some (.int k), e3, some (.int e), some (.ref p), none, none] (oset own p (.lst ((acc ++ rs).map Rdr.toD)))) → (rowG n s = none → ∀ l, NT EX (oset own p (.lst l))) →
    aWhl (aAnd (aB (aBin (fEq false) (aSl (aV 0) (aSo (aV 4)) (aSo (aBin fAdd (aV 4) (aC (.int 1))))) (aC (.str " ")))) (aB (aBin (fEq true) (aSl (aV 0) (aSo (aV 4)) (aSo (aBin fAdd (aV 4) (aC (.int 3))))) (aC (.str " / "))))) (aSeq (aAsg (aCallX S_i EX [] (aCons (aV 0) (aCons (aBin fAdd (aV 4) (aC (.int 1))) (aCons (aV 2) aNil)))) (gTp 2 (gsCons (gN 3) (gsCons (gN 4) gsNil))))
  (aDrop (aApp (aV 5) (aV 3)))) E n [some (.str z), e1, some (.int k), e3, some (.int i), some (.ref p), none, none] (oset own p (.lst (acc.map Rdr.toD)))
  | 0, _, _, _, _, hn, _, _, _, _ => absurd hn (Nat.not_lt_zero _)
  | n + 1, [], i, acc, e3, hn, tx, hl, h1, h2 => by
    rw [x_whlS]
    simp [tx.le, tx.c01, tx.c03, l32]
    have := h1 [] [] i e3 (by rw [hG]; simp [blank]) tx (by simpa using hl)
    simpa using this
  | n + 1, c :: t, i, acc, e3, hn, tx, hl, h1, h2 => by
    rw [x_whlS]
    simp [tx.le, tx.c01, tx.c03, l32, lsl]
    have stop : blank (c :: t) = false → E.nx [some (.str z), e1, some (.int k), e3, some (.int i), some (.ref p), none, none] (oset own p (.lst (acc.map Rdr.toD))) := fun hb => by
      have := h1 [] (c :: t) i e3 (by rw [hG, hb]; rfl) tx (by simp at hl ⊢; omega)
      simpa using this
    cases c32 : c == 32 with
    | false => simp; have := stop (by show (c == 32 && _) = false; rw [c32]; rfl); simpa using this
    | true =>
      cases ts : t.take 2 == [47, 32] with
      | true => simp; have := stop (by show (c == 32 && !(t.take 2 == [47, 32])) = _; rw [c32, ts]; rfl); simpa using this
      | false =>
        simp
        have hb : blank (c :: t) = true := by show (c == 32 && !(t.take 2 == [47, 32])) = _; rw [c32, ts]; rfl
        have eG : rowG (n + 1) (c :: t) = (match F t with | none => none | some (r, u) => (rowG n u).map fun p => (r :: p.1, p.2)) := by rw [hG, hb]; rfl
        simp only [List.length_cons] at hn hl
        refine hi _ _ _ z (i + 1) t tx.s1 (fun r u e q te => ?_) fun q => h2 (by rw [eG, q]) _
        have hu := hF _ _ _ q
        simp
        rw [x_ownL oset_same, x_ownL oset_same]
        have lz := tx.sz
        have ll := tx.len
        have l0 := tx.lo
        refine ⟨by simp; omega, ?_⟩
        have := whl_row hi hF hp hG n u e (acc ++ [r]) (some r.toD) (by omega) te (by simp; omega) (e1 := e1) (EX := EX) (E := E) (fun rs v e' e3 q' tv hl' => by
          have := h1 (r :: rs) v e' e3 (by rw [eG, q]; show (rowG n u).map _ = _; rw [q']; rfl) tv (by simpa using hl')
          simpa using this) (fun q' l => h2 (by rw [eG, q]; show (rowG n u).map _ = _; rw [q']; rfl) l)
        simpa [oset_oset, l32, lsl] using this
theorem p_row {k : Nat} {S_i : L3.SpecX} (hi : UPar (itemF (inF k)) k S_i) {ds : List D} {own : Own} {Q : D → Own → Prop} {PX : XP} (h : S_par (rowF (inF k)) k ds own Q PX) : T_row_at (RtX PX) S_i { nx := fun _ o => Rt Q .non o, rt := Rt Q } (astart N_row_at ds) own := by
  obtain ⟨z, i, s, rfl, tx, h1, h2⟩ := h
  simp [T_row_at, astart, N_row_at]
  refine hi _ _ _ z i s tx (fun r u e q te => ?_) fun q => RtX.mk (h2 (by unfold rowF; rw [q]))
  simp
  intro p hp
  refine ⟨u.length + 1, ?_⟩
  have lz := te.sz
  have ll := te.len
  have l0 := te.lo
  have ep : [D.str z] = [D.str z] := rfl
  have eR : rowF (inF k) s = (rowL (inF k) (u.length + 1) u).map fun p => (mk "row" r p.1, p.2) := by unfold rowF; rw [q]
  have := whl_row hi (itemF_lt (inF_lt k)) (z := z) (own := own) hp (EX := RtX PX) (e1 := some (.int i)) (rowG := rowL (inF k)) (fun n s => rfl) (u.length + 1) u e [r] (some r.toD) (by omega) te (by simp; omega)
    (E := { nx := aSeq (aAsg (aV 5) (gSt 2 1 (gsCons (gN 6) (gsCons (gN 7) gsNil)))) (aRet (aTup (aCons (aIf (aB (aBin fEqE (aV 7) (aFz (aLst aNil)))) (aV 6) (aTup (aCons (aC (.str "row")) (aCons (aFn (f1 gTuple) (aCons (aV 5) aNil)) aNil)))) (aCons (aV 4) aNil)))) { nx := fun _ o => Rt Q .non o, rt := Rt Q }, rt := Rt Q }) (fun rs v e' e3 q' tv hl' => by
      have fin := h1 (mk "row" r rs) v e' (by rw [eR, q']; rfl) tv
      have ps : see (oset own p (.lst (([r] ++ rs).map Rdr.toD))) (.ref p) = .lst (([r] ++ rs).map Rdr.toD) := x_seeR oset_same
      simp only [x_seq, x_asg, x_v, x_egS, x_eg0]
      rw [x_gstR oset_same]
      simp only [List.length_append, List.length_cons, List.length_nil] at hl'
      refine ⟨by simp, by simp; omega, ?_⟩
      simp
      cases rs with
      | nil =>
        simp
        exact Rt.drop (oset_sub hp) fin
      | cons r2 rs =>
        have d1 : List.drop rs.length (rs.map Rdr.toD) = [] := List.drop_eq_nil_of_le (by simp)
        have d2 : List.take rs.length (rs.map Rdr.toD) = rs.map Rdr.toD := List.take_of_length_le (by simp)
        simp [d1, d2]
        rw [x_seeR oset_same]
        simp
        unfold mk at fin
        rw [if_neg (by simp), Rdr.toD_seq] at fin
        exact Rt.drop (oset_sub hp) (by simpa using fin)) (fun q' l => RtX.dropX (oset_sub hp) (h2 (by rw [eR, q']; rfl)))
  simpa using this
theorem whl_cho {F : Ch} {k : Nat} {S_i : L3.SpecX} (hi : UPar F k S_i) (hF : Lt F) {z : Str} {own : Own} {p : Addr} (hp : own p = none) {EX : XP} {e1 : Option D} {E : AEnds} {rowG : Nat → Cs → Option (List Rdr × Cs)} (hG : ∀ n s, rowG (n + 1) s = if slash s then (match F (s.drop 3) with | none => none | some (r, u) => (rowG n u).map fun p => (r :: p.1, p.2)) else some ([], s)) :
    ∀ (n : Nat) (s : Cs) (i : Int) (acc : List Rdr) (e3 : Option D), s.length < n → Tx z i s → acc.length + s.length ≤ 16001 →
    (∀ rs u e e3, rowG n s = some (rs, u) → Tx z e u → (acc ++ rs).length ≤ 16001 → E.nx [some (.str z), e1, some (.int k), e3, some (.int e), some (.ref p), none, none] (oset own p (.lst ((acc ++ rs).map Rdr.toD)))) → (rowG n s = none → ∀ l, NT EX (oset own p (.lst l))) →
    aWhl (aB (aBin (fEq false) (aSl (aV 0) (aSo (aV 4)) (aSo (aBin fAdd (aV 4) (aC (.int 3))))) (aC (.str " / ")))) (aSeq (aAsg (aCallX S_i EX [] (aCons (aV 0) (aCons (aBin fAdd (aV 4) (aC (.int 3))) (aCons (aV 2) aNil)))) (gTp 2 (gsCons (gN 3) (gsCons (gN 4) gsNil))))
  (aDrop (aApp (aV 5) (aV 3)))) E n [some (.str z), e1, some (.int k), e3, some (.int i), some (.ref p), none, none] (oset own p (.lst (acc.map Rdr.toD)))
  | 0, _, _, _, _, hn, _, _, _, _ => absurd hn (Nat.not_lt_zero _)
  | n + 1, s, i, acc, e3, hn, tx, hl, h1, h2 => by
    rw [x_whlS]
    have es : (s.take 3 == [32, 47, 32]) = slash s := rfl
    simp [tx.le, tx.c03, lsl, es]
    cases hb : slash s with
    | false =>
      simp
      have := h1 [] s i e3 (by rw [hG, hb]; rfl) tx (by simp; omega)
      simpa using this
    | true =>
      simp
      obtain ⟨t, rfl⟩ : ∃ t, s = 32 :: 47 :: 32 :: t := by
        unfold slash at hb
        have hb := eq_of_beq hb
        exact ⟨s.drop 3, by have := List.take_append_drop 3 s; rw [hb] at this; exact this.symm⟩
      have eG : rowG (n + 1) (32 :: 47 :: 32 :: t) = (match F t with | none => none | some (r, u) => (rowG n u).map fun p => (r :: p.1, p.2)) := by rw [hG, hb]; rfl
      simp only [List.length_cons] at hn hl
      refine hi _ _ _ z (i + 3) t tx.s3 (fun r u e q te => ?_) fun q => h2 (by rw [eG, q]) _
      have hu := hF _ _ _ q
      simp
      rw [x_ownL oset_same, x_ownL oset_same]
      have lz := tx.sz
      have ll := tx.len
      have l0 := tx.lo
      refine ⟨by simp; omega, ?_⟩
      have := whl_cho hi hF hp hG n u e (acc ++ [r]) (some r.toD) (by omega) te (by simp; omega) (e1 := e1) (EX := EX) (E := E) (fun rs v e' e3 q' tv hl' => by
        have := h1 (r :: rs) v e' e3 (by rw [eG, q]; show (rowG n u).map _ = _; rw [q']; rfl) tv (by simpa using hl')
        simpa using this) (fun q' l => h2 (by rw [eG, q]; show (rowG n u).map _ = _; rw [q']; rfl) l)
      simpa [oset_oset, lsl] using this
theorem p_choice {k : Nat} {S_i : L3.SpecX} (hi : UPar (rowF (inF k)) k S_i) {ds : List D} {own : Own} {Q : D → Own → Prop} {PX : XP} (h : S_par (chF k) k ds own Q PX) : T_choice_at (RtX PX) S_i { nx := fun _ o => Rt Q .non o, rt := Rt Q } (astart N_choice_at ds) own := by
  rw [chF_in] at h
  obtain ⟨z, i, s, rfl, tx, h1, h2⟩ := h
  simp [T_choice_at, astart, N_choice_at]
  refine hi _ _ _ z i s tx (fun r u e q te => ?_) fun q => RtX.mk (h2 (by unfold choF; rw [q]))
  simp
  intro p hp
  refine ⟨u.length + 1, ?_⟩
  have lz := te.sz
  have ll := te.len
  have l0 := te.lo
  have eR : choF (inF k) s = (choL (inF k) (u.length + 1) u).map fun p => (mk "choice" r p.1, p.2) := by unfold choF; rw [q]
  have := whl_cho hi (rowF_lt (inF_lt k)) (z := z) (own := own) hp (EX := RtX PX) (e1 := some (.int i)) (rowG := choL (inF k)) (fun n s => rfl) (u.length + 1) u e [r] (some r.toD) (by omega) te (by simp; omega)
    (E := { nx := aSeq (aAsg (aV 5) (gSt 2 1 (gsCons (gN 6) (gsCons (gN 7) gsNil)))) (aRet (aTup (aCons (aIf (aB (aBin fEqE (aV 7) (aFz (aLst aNil)))) (aV 6) (aTup (aCons (aC (.str "choice")) (aCons (aFn (f1 gTuple) (aCons (aV 5) aNil)) aNil)))) (aCons (aV 4) aNil)))) { nx := fun _ o => Rt Q .non o, rt := Rt Q }, rt := Rt Q }) (fun rs v e' e3 q' tv hl' => by
      have fin := h1 (mk "choice" r rs) v e' (by rw [eR, q']; rfl) tv
      simp only [x_seq, x_asg, x_v, x_egS, x_eg0]
      rw [x_gstR oset_same]
      simp only [List.length_append, List.length_cons, List.length_nil] at hl'
      refine ⟨by simp, by simp; omega, ?_⟩
      simp
      cases rs with
      | nil =>
        simp
        exact Rt.drop (oset_sub hp) fin
      | cons r2 rs =>
        have d1 : List.drop rs.length (rs.map Rdr.toD) = [] := List.drop_eq_nil_of_le (by simp)
        have d2 : List.take rs.length (rs.map Rdr.toD) = rs.map Rdr.toD := List.take_of_length_le (by simp)
        simp [d1, d2]
        rw [x_seeR oset_same]
        simp
        unfold mk at fin
        rw [if_neg (by simp), Rdr.toD_seq] at fin
        exact Rt.drop (oset_sub hp) (by simpa using fin)) (fun q' l => RtX.dropX (oset_sub hp) (h2 (by rw [eR, q']; rfl)))
  simpa using this

/-! ### what is a reader -/
def isMk (x : Str) : Bool := hasD (.str x) [.str "text", .str "drop", .str "count", .str "number"]
namespace Rdr
mutual
def rd : Rdr → Nat → Bool
  | .leaf _, n => match n with | 0 => false | _ + 1 => true
  | .sg w x, n => match n with | 0 => false | _ + 1 => if w = "sign" then isSg 1 x else isSg 0 x
  | .nm _ l, n => match n with | 0 => false | _ + 1 => isNm l
  | .seq _ ps, n => match n with | 0 => false | n + 1 => (decide ((2 : Int) ≤ ps.length) && decide ((ps.length : Int) ≤ 6)) && rds ps n
  | .one _ p, n => match n with | 0 => false | n + 1 => rd p n
  | .two w l p, n => match n with | 0 => false | n + 1 => (if w = "make" then isMk l else isNm l) && rd p n
def rds : List Rdr → Nat → Bool
  | [], _ => true
  | r :: rs, n => rd r n && rds rs n
end
theorem rds_all : ∀ (rs : List Rdr) (n : Nat), rds rs n = (rs.map fun r => rd r n).all _root_.id
  | [], n => by unfold rds; rfl
  | r :: rs, n => by unfold rds; rw [rds_all rs n]; rfl
theorem rd_zero : ∀ r : Rdr, rd r 0 = false := fun r => by cases r <;> unfold rd <;> rfl
end Rdr
/-! a reader, of whatever size -/
namespace Rdr
mutual
def Fm : Rdr → Prop
  | .leaf w => w = "nothing" ∨ w = "never"
  | .sg w x => (w = "sign" ∨ w = "but") ∧ x.length ≤ 1000000
  | .nm w l => (w = "again" ∨ w = "name") ∧ l.length ≤ 1000000
  | .seq w ps => (w = "row" ∨ w = "choice") ∧ ps ≠ [] ∧ ps.length ≤ 16001 ∧ Fms ps
  | .one w p => (w = "many" ∨ w = "maybe" ∨ w = "ahead" ∨ w = "not") ∧ Fm p
  | .two w l p => (w = "hold" ∨ w = "tag" ∨ w = "make") ∧ l.length ≤ 1000000 ∧ Fm p
def Fms : List Rdr → Prop
  | [] => True
  | r :: rs => Fm r ∧ Fms rs
end
theorem fms_iff : ∀ {rs : List Rdr}, Fms rs ↔ ∀ r ∈ rs, Fm r
  | [] => by unfold Fms; simp
  | r :: rs => by unfold Fms; rw [fms_iff (rs := rs)]; simp
end Rdr
abbrev Big (r : Rdr) : Prop := r.Fm
inductive Pc where | s (x : Str) | b (x : Str) | n (x : Str) | w (x : Str) | rr (r : Rdr) | pp (ps : List Rdr)
namespace Pc
def form : Pc → Str
  | .s _ => "s"
  | .b _ => "b"
  | .n _ => "n"
  | .w _ => "w"
  | .rr _ => "r"
  | .pp _ => "p"
def d : Pc → D
  | .s x => .str x
  | .b x => .str x
  | .n x => .str x
  | .w x => .str x
  | .rr r => r.toD
  | .pp ps => .tup (ps.map Rdr.toD)
def ok : Pc → Prop
  | .s x => x.length ≤ 1000000
  | .b x => x.length ≤ 1000000
  | .n x => x.length ≤ 1000000
  | .w x => x.length ≤ 1000000
  | .rr r => Big r
  | .pp ps => ∀ r ∈ ps, Big r
def val (n : Nat) : Pc → Bool
  | .s x => isSg 1 x
  | .b x => isSg 0 x
  | .n x => isNm x
  | .w x => isMk x
  | .rr r => r.rd n
  | .pp ps => (decide ((2 : Int) ≤ ps.length) && decide ((ps.length : Int) ≤ 6)) && (ps.map fun r => r.rd n).all _root_.id
end Pc
def S_piece (n : Nat) : L3.Spec := fun ds own P => ∃ (c : Pc) (left : Nat), ds = [.str c.form, c.d, .int left] ∧ c.ok ∧ left ≤ n ∧ P (.bl (c.val left)) own
def UPiece (n : Nat) (S : L3.Spec) : Prop := ∀ (own : Own) (P : D → Own → Prop) (c : Pc) (left : Nat), c.ok → left ≤ n → P (.bl (c.val left)) own → S [.str c.form, c.d, .int left] own P
theorem uPiece (n : Nat) : UPiece n (S_piece n) := fun own P c l h1 h2 h3 => ⟨c, l, rfl, h1, h2, h3⟩
def S_formed (n : Nat) : L3.Spec := fun ds own P => ∃ (r : Rdr) (left : Nat), ds = [r.toD, .int left] ∧ Big r ∧ left ≤ n ∧ P (.bl (r.rd left)) own
def UFormed (n : Nat) (S : L3.Spec) : Prop := ∀ (own : Own) (P : D → Own → Prop) (r : Rdr) (left : Nat), Big r → left ≤ n → P (.bl (r.rd left)) own → S [r.toD, .int left] own P
theorem uFormed (n : Nat) : UFormed n (S_formed n) := fun own P c l h1 h2 h3 => ⟨c, l, rfl, h1, h2, h3⟩
def S_reader : L3.Spec := fun ds own P => ∃ (r : Rdr), ds = [r.toD] ∧ Big r ∧ P (.bl (r.rd 8)) own
def UReader (S : L3.Spec) : Prop := ∀ (own : Own) (P : D → Own → Prop) (r : Rdr), Big r → P (.bl (r.rd 8)) own → S [r.toD] own P
theorem uReader : UReader S_reader := fun own P c h1 h2 => ⟨c, rfl, h1, h2⟩
theorem p_piece {n : Nat} {S_g S_n S_f : L3.Spec} (hg : USg S_g) (hn : UNm S_n) (hf : UFormed n S_f) {ds : List D} {own : Own} {Q : D → Own → Prop} (h : S_piece n ds own Q) : T_is_piece S_g S_n S_f { nx := fun _ o => Rt Q .non o, rt := Rt Q } (astart N_is_piece ds) own := by
  obtain ⟨c, left, rfl, ok, hl, h⟩ := h
  replace h := Rt.mk h
  cases c with
  | s x => simp [T_is_piece, astart, N_is_piece, Pc.form, Pc.d, arr]; exact hg _ _ x 1 (show x.length ≤ _ from ok) h
  | b x => simp [T_is_piece, astart, N_is_piece, Pc.form, Pc.d, arr]; exact hg _ _ x 0 (show x.length ≤ _ from ok) h
  | n x => simp [T_is_piece, astart, N_is_piece, Pc.form, Pc.d, arr]; exact hn _ _ x (show x.length ≤ _ from ok) h
  | w x =>
    simp [T_is_piece, astart, N_is_piece, Pc.form, Pc.d, Pc.val, isMk, aAndV, d_MAKES] at h ⊢
    exact h
  | rr r => simp [T_is_piece, astart, N_is_piece, Pc.form, Pc.d]; exact hf _ _ r left (show Big r from ok) hl h
  | pp ps =>
    have d1 : d_LEAST_PARTS = .int 2 := rfl
    have d2 : d_MOST_PARTS_readers = .int 6 := rfl
    simp [T_is_piece, astart, N_is_piece, Pc.form, Pc.d, Pc.val, d1, d2, C0] at h ⊢
    by_cases q : (2 : Int) ≤ (ps.length : Int)
    · by_cases q2 : (ps.length : Int) ≤ 6
      · simp [q, q2] at h ⊢
        refine lc_pure Rdr.toD (fun r => D.bl (r.rd left)) trivial (fun r hr Q' hq => ?_) ?_
        · simp; exact hf _ _ r left (ok r hr) hl hq
        · simp; exact h
      · simp [q, q2] at h ⊢; exact h
    · simp [q] at h ⊢; exact h
theorem sgn1 {s : String} {c : Nat} (h : Str.ofString s = ⟨#[c]⟩) : L3.signs (Str.ofString s) = [.str (Str.ofString s)] := by
  unfold L3.signs; rw [h]; rfl
theorem sgn2 {s a b : String} {c d : Nat} (h : Str.ofString s = ⟨#[c, d]⟩) (ha : Str.ofString a = ⟨#[c]⟩) (hb : Str.ofString b = ⟨#[d]⟩) : L3.signs (Str.ofString s) = [.str (Str.ofString a), .str (Str.ofString b)] := by
  unfold L3.signs; rw [h, ha, hb]; rfl
theorem sgn0 : L3.signs Str.empty = [] := by decide +kernel
theorem sg_s : L3.signs (Str.ofString "s") = [.str (Str.ofString "s")] := sgn1 (c := 115) (by decide +kernel)
theorem sg_b : L3.signs (Str.ofString "b") = [.str (Str.ofString "b")] := sgn1 (c := 98) (by decide +kernel)
theorem sg_n : L3.signs (Str.ofString "n") = [.str (Str.ofString "n")] := sgn1 (c := 110) (by decide +kernel)
theorem sg_r : L3.signs (Str.ofString "r") = [.str (Str.ofString "r")] := sgn1 (c := 114) (by decide +kernel)
theorem sg_p : L3.signs (Str.ofString "p") = [.str (Str.ofString "p")] := sgn1 (c := 112) (by decide +kernel)
theorem sg_nr : L3.signs (Str.ofString "nr") = [.str (Str.ofString "n"), .str (Str.ofString "r")] := sgn2 (c := 110) (d := 114) (by decide +kernel) (by decide +kernel) (by decide +kernel)
theorem sg_wr : L3.signs (Str.ofString "wr") = [.str (Str.ofString "w"), .str (Str.ofString "r")] := sgn2 (c := 119) (d := 114) (by decide +kernel) (by decide +kernel) (by decide +kernel)
theorem ln_s : (Str.ofString "s").length = 1 := by decide +kernel
theorem ln_b : (Str.ofString "b").length = 1 := by decide +kernel
theorem ln_n : (Str.ofString "n").length = 1 := by decide +kernel
theorem ln_r : (Str.ofString "r").length = 1 := by decide +kernel
theorem ln_p : (Str.ofString "p").length = 1 := by decide +kernel
theorem ln_nr : (Str.ofString "nr").length = 2 := by decide +kernel
theorem ln_wr : (Str.ofString "wr").length = 2 := by decide +kernel
theorem fin_pieces {n m : Nat} {S_p : L3.Spec} (hp : UPiece n S_p) (ml : m ≤ n) {own : Own} {P : List D → Own → Prop} {gd : Own → Prop} {e0 e2 e3 e4 e5 : Option D} (cs : List Pc) (hok : ∀ c ∈ cs, c.ok) (hg : gd own) (h : P (cs.map fun c => D.bl (c.val m)) own) :
    aLcL (gTp 2 (gsCons (gN 4) (gsCons (gN 5) gsNil))) aYes (aCall S_p [] (aCons (aV 4) (aCons (aV 5) (aCons (aBin fSub (aV 1) (aC (.int 1))) aNil)))) gd [e0, some (.int ((m : Int) + 1)), e2, e3, e4, e5] P (cs.map fun c => D.tup [.str c.form, c.d]) [] own := by
  have le : ((m : Int) + 1) - 1 = (m : Int) := by omega
  refine lc_pure (fun c : Pc => D.tup [.str c.form, c.d]) (fun c => D.bl (c.val m)) hg (fun c hc Q' hq => ?_) (by simpa using h)
  simp [C0, le]
  exact hp _ _ c m (hok c hc) ml hq
theorem p_formed {n : Nat} {a : Addr} {S_p : L3.Spec} (hp : ∀ m, n = m + 1 → UPiece m S_p) {ds : List D} {own : Own} {Q : D → Own → Prop} (h : S_formed n ds own Q) : T_is_formed S_p a { nx := fun _ o => Rt Q .non o, rt := Rt Q } (astart N_is_formed ds) own := by
  obtain ⟨r, left, rfl, ok, hl, h⟩ := h
  replace h := Rt.mk h
  by_cases l0 : left = 0
  · subst l0
    rw [Rdr.rd_zero] at h
    simp [T_is_formed, astart, N_is_formed]
    exact h
  obtain ⟨m, rfl⟩ : ∃ m, left = m + 1 := ⟨left - 1, by omega⟩
  obtain ⟨n, rfl⟩ : ∃ k, n = k + 1 := ⟨n - 1, by omega⟩
  have hp := hp n rfl
  have lf : ¬ ((m : Int) + 1 = 0) := by omega
  have lb : (((m : Int) + 1) == 0) = false := by simpa using lf
  have le : ((m : Int) + 1) - 1 = (m : Int) := by omega
  have ml : m ≤ n := by omega
  cases r with
  | leaf w =>
    unfold Rdr.rd at h
    unfold Rdr.toD at ⊢
    rcases ok with rfl | rfl <;> simp [T_is_formed, astart, N_is_formed, lb, fInTab, tab_FORMS, fIxTab]
    all_goals
      refine ⟨_, _, items_str (by decide), _, _, items_lst, ?_⟩
      rw [sgn0]
      exact fin_pieces hp ml [] (by simp) ⟨trivial, rfl⟩ (by simpa [blsOf] using h)
  | sg w x =>
    unfold Rdr.rd at h
    unfold Rdr.toD at ⊢
    have hx : x.length ≤ 1000000 := ok.2
    rcases ok.1 with rfl | rfl <;> simp [T_is_formed, astart, N_is_formed, lb, fInTab, tab_FORMS, fIxTab, ln_s, ln_b] at h ⊢
    · refine ⟨_, _, items_str (by rw [ln_s]; decide), _, _, items_lst, ?_⟩
      rw [sg_s]
      exact fin_pieces hp ml [.s x] (by simpa [Pc.ok] using hx) ⟨trivial, rfl⟩ (by simpa [blsOf, Pc.val] using h)
    · refine ⟨_, _, items_str (by rw [ln_b]; decide), _, _, items_lst, ?_⟩
      rw [sg_b]
      exact fin_pieces hp ml [.b x] (by simpa [Pc.ok] using hx) ⟨trivial, rfl⟩ (by simpa [blsOf, Pc.val] using h)
  | nm w x =>
    unfold Rdr.rd at h
    unfold Rdr.toD at ⊢
    have hx : x.length ≤ 1000000 := ok.2
    rcases ok.1 with rfl | rfl <;> simp [T_is_formed, astart, N_is_formed, lb, fInTab, tab_FORMS, fIxTab, ln_n] at h ⊢
    all_goals
      refine ⟨_, _, items_str (by rw [ln_n]; decide), _, _, items_lst, ?_⟩
      rw [sg_n]
      exact fin_pieces hp ml [.n x] (by simpa [Pc.ok] using hx) ⟨trivial, rfl⟩ (by simpa [blsOf, Pc.val] using h)
  | seq w ps =>
    unfold Rdr.rd at h
    unfold Rdr.toD at ⊢
    simp only [Rdr.rds_all] at h
    have hx : ∀ r ∈ ps, Big r := fun r hr => Rdr.fms_iff.mp ok.2.2.2 r hr
    rw [Rdr.toDs_map]
    rcases ok.1 with rfl | rfl <;> simp [T_is_formed, astart, N_is_formed, lb, fInTab, tab_FORMS, fIxTab, ln_p] at h ⊢
    all_goals
      refine ⟨_, _, items_str (by rw [ln_p]; decide), _, _, items_lst, ?_⟩
      rw [sg_p]
      exact fin_pieces hp ml [.pp ps] (by simpa [Pc.ok] using hx) ⟨trivial, rfl⟩ (by simpa [blsOf, Pc.val] using h)
  | one w p =>
    unfold Rdr.rd at h
    unfold Rdr.toD at ⊢
    have hx : Big p := ok.2
    rcases ok.1 with rfl | rfl | rfl | rfl <;> simp [T_is_formed, astart, N_is_formed, lb, fInTab, tab_FORMS, fIxTab, ln_r] at h ⊢
    all_goals
      refine ⟨_, _, items_str (by rw [ln_r]; decide), _, _, items_lst, ?_⟩
      rw [sg_r]
      exact fin_pieces hp ml [.rr p] (by simpa [Pc.ok] using hx) ⟨trivial, rfl⟩ (by simpa [blsOf, Pc.val] using h)
  | two w l p =>
    unfold Rdr.rd at h
    unfold Rdr.toD at ⊢
    have hx : Big p := ok.2.2
    have hl : l.length ≤ 1000000 := ok.2.1
    rcases ok.1 with rfl | rfl | rfl <;> simp [T_is_formed, astart, N_is_formed, lb, fInTab, tab_FORMS, fIxTab, ln_nr, ln_wr] at h ⊢
    · refine ⟨_, _, items_str (by rw [ln_nr]; decide), _, _, items_lst, ?_⟩
      rw [sg_nr]
      exact fin_pieces hp ml [.n l, .rr p] (by simp [Pc.ok]; exact ⟨hl, hx⟩) ⟨trivial, rfl⟩ (by simpa [blsOf, Pc.val] using h)
    · refine ⟨_, _, items_str (by rw [ln_nr]; decide), _, _, items_lst, ?_⟩
      rw [sg_nr]
      exact fin_pieces hp ml [.n l, .rr p] (by simp [Pc.ok]; exact ⟨hl, hx⟩) ⟨trivial, rfl⟩ (by simpa [blsOf, Pc.val] using h)
    · refine ⟨_, _, items_str (by rw [ln_wr]; decide), _, _, items_lst, ?_⟩
      rw [sg_wr]
      exact fin_pieces hp ml [.w l, .rr p] (by simp [Pc.ok]; exact ⟨hl, hx⟩) ⟨trivial, rfl⟩ (by simpa [blsOf, Pc.val] using h)
theorem p_is_reader {S : L3.Spec} (hf : UFormed 8 S) {ds : List D} {own : Own} {Q : D → Own → Prop} (h : S_reader ds own Q) : T_is_reader S { nx := fun _ o => Rt Q .non o, rt := Rt Q } (astart N_is_reader ds) own := by
  obtain ⟨r, rfl, ok, h⟩ := h
  replace h := Rt.mk h
  have d1 : d_MOST_DEEP = .int 8 := rfl
  simp [T_is_reader, astart, N_is_reader, d1]
  exact hf _ _ r 8 ok (Nat.le_refl _) h

/-! ### what is read is a reader in form -/
def Fmr (F : Ch) : Prop := ∀ s r u, s.length ≤ 16000 → F s = some (r, u) → r.Fm
theorem sqF_len : ∀ {n : Nat} {s x u : Cs}, s.length < n → sqF s = some (x, u) → x.length ≤ s.length
  | 0, _, _, _, hn, _ => absurd hn (Nat.not_lt_zero _)
  | n + 1, [], _, _, _, h => by cases h
  | n + 1, c :: t, x, u, hn, h => by
    unfold sqF at h
    simp only [List.length_cons] at hn ⊢
    split at h
    · cases h; simp
    · split at h
      · cases t with
        | nil => cases h
        | cons d v =>
          cases ht : tells d with
          | none => simp [ht] at h
          | some y =>
            simp [ht] at h
            obtain ⟨x', h1, rfl⟩ := h
            have := sqF_len (n := n) (by simp at hn; omega) h1
            simp; omega
      · split at h
        · simp at h
          obtain ⟨x', h1, rfl⟩ := h
          have := sqF_len (n := n) (by omega) h1
          simp; omega
        · cases h
theorem letF_len {s : Cs} {x : Str} {u : Cs} (h : letF s = some (x, u)) : x.length ≤ s.length := by
  unfold letF at h
  split at h
  · cases h
  · cases h
    have l3 : (s.takeWhile isL).length + (s.dropWhile isL).length = s.length := by rw [← List.length_append, List.takeWhile_append_dropWhile]
    rw [toS_len]; omega
theorem bkF_fm : Fmr bkF := by
  intro s r u hs h
  unfold bkF at h
  cases s with
  | nil => cases h
  | cons c t =>
    simp only at h
    split at h
    · simp at h
      obtain ⟨x, h1, rfl⟩ := h
      have := sqF_len (Nat.lt_succ_self _) h1
      exact ⟨.inr rfl, by rw [toS_len]; simp at hs; omega⟩
    · simp at h
      obtain ⟨x, h1, rfl⟩ := h
      have := sqF_len (Nat.lt_succ_self _) h1
      exact ⟨.inl rfl, by rw [toS_len]; omega⟩
theorem atomF_fm {ch : Ch} (hc : Fmr ch) : Fmr (atomF ch) := by
  intro s r u hs h
  unfold atomF at h
  cases s with
  | nil => cases h
  | cons c t =>
    simp only [List.length_cons] at h hs
    split at h
    · cases h; exact .inl rfl
    · split at h
      · cases h; exact .inr rfl
      · split at h
        · exact bkF_fm _ _ _ (by omega) h
        · split at h
          · simp at h
            obtain ⟨x, h1, rfl⟩ := h
            have := letF_len h1
            exact ⟨.inl rfl, by omega⟩
          · split at h
            · unfold cl at h
              split at h
              · rename_i r' d u' e
                split at h
                · cases h; exact hc _ _ _ (by omega) e
                · cases h
              · cases h
            · simp at h
              obtain ⟨x, h1, rfl⟩ := h
              have := letF_len h1
              exact ⟨.inr rfl, by simp at this; omega⟩
theorem ahead_w {c : Nat} {w : Str} (h : ahead c = some w) : w = "ahead" ∨ w = "not" := by
  unfold ahead at h
  split at h
  · cases h; exact .inl rfl
  · split at h
    · cases h; exact .inr rfl
    · cases h
theorem after_w {c : Nat} {w : Str} (h : after c = some w) : w = "many" ∨ w = "maybe" := by
  unfold after at h
  split at h
  · cases h; exact .inl rfl
  · split at h
    · cases h; exact .inr rfl
    · cases h
theorem behind_w {c : Nat} {w : Str} (h : behind c = some w) : w = "hold" ∨ w = "tag" ∨ w = "make" := by
  unfold behind at h
  split at h
  · cases h; exact .inl rfl
  · split at h
    · cases h; exact .inr (.inl rfl)
    · split at h
      · cases h; exact .inr (.inr rfl)
      · cases h
theorem nameOf_eq {r : Rdr} {x : Str} (h : nameOf r = some x) : r = .nm "name" x := by
  unfold nameOf at h
  split at h
  · split at h
    · rename_i e; cases h; rw [e]
    · cases h
  · cases h
theorem itemF_fm {ch : Ch} (hc : Fmr ch) (hl : Lt ch) : Fmr (itemF ch) := by
  intro s r u hs h
  unfold itemF at h
  cases s with
  | nil => cases h
  | cons c t =>
    simp only [List.length_cons] at h hs
    split at h
    · rename_i w ew
      simp at h
      obtain ⟨x, h1, rfl⟩ := h
      exact ⟨by rcases ahead_w ew with e | e <;> simp [e], atomF_fm hc _ _ _ (by omega) h1⟩
    · split at h
      · cases h
      · rename_i r' v e
        have h1 := atomF_fm hc _ _ _ (by simpa using hs) e
        have h2 := atomF_lt hl _ _ _ e
        simp only [List.length_cons] at h2
        unfold tailF at h
        cases v with
        | nil => cases h; exact h1
        | cons m v =>
          simp only [List.length_cons] at h h2
          split at h
          · rename_i w ew
            cases h
            exact ⟨by rcases after_w ew with e | e <;> simp [e], h1⟩
          · split at h
            · unfold tail2 at h
              split at h
              · cases h; exact h1
              · rename_i w ew
                split at h
                · cases h; exact h1
                · rename_i x ex
                  simp at h
                  obtain ⟨p, h3, rfl⟩ := h
                  rw [nameOf_eq ex] at h1
                  exact ⟨by rcases behind_w ew with e | e | e <;> simp [e], h1.2, atomF_fm hc _ _ _ (by omega) h3⟩
            · cases h; exact h1
theorem rowL_fm {ch : Ch} (hc : Fmr ch) (hl : Lt ch) : ∀ {n : Nat} {s : Cs} {rs : List Rdr} {u : Cs}, s.length ≤ 16000 → rowL ch n s = some (rs, u) → Rdr.Fms rs ∧ rs.length ≤ s.length
  | 0, _, _, _, _, h => by cases h
  | n + 1, s, rs, u, hs, h => by
    unfold rowL at h
    split at h
    · split at h
      · cases h
      · rename_i r v e
        simp at h
        obtain ⟨x, h1, rfl⟩ := h
        have h2 := itemF_lt hl _ _ _ e
        simp only [List.length_drop] at h2
        have h3 := rowL_fm hc hl (by omega) h1
        exact ⟨⟨itemF_fm hc hl _ _ _ (by simp; omega) e, h3.1⟩, by simp; omega⟩
    · cases h; exact ⟨trivial, by simp⟩
theorem mk_fm {w : Str} {r : Rdr} {rs : List Rdr} (hw : w = "row" ∨ w = "choice") (h : r.Fm) (hs : Rdr.Fms rs) (hl : rs.length ≤ 16000) : (mk w r rs).Fm := by
  unfold mk
  split
  · exact h
  · exact ⟨hw, by simp, by simp; omega, h, hs⟩
theorem rowF_fm {ch : Ch} (hc : Fmr ch) (hl : Lt ch) : Fmr (rowF ch) := by
  intro s r u hs h
  unfold rowF at h
  split at h
  · cases h
  · rename_i r' v e
    simp at h
    obtain ⟨x, h1, rfl⟩ := h
    have h2 := itemF_lt hl _ _ _ e
    have h3 := rowL_fm hc hl (by omega) h1
    exact mk_fm (.inl rfl) (itemF_fm hc hl _ _ _ hs e) h3.1 (by omega)
theorem choL_fm {ch : Ch} (hc : Fmr ch) (hl : Lt ch) : ∀ {n : Nat} {s : Cs} {rs : List Rdr} {u : Cs}, s.length ≤ 16000 → choL ch n s = some (rs, u) → Rdr.Fms rs ∧ rs.length ≤ s.length
  | 0, _, _, _, _, h => by cases h
  | n + 1, s, rs, u, hs, h => by
    unfold choL at h
    split at h
    · split at h
      · cases h
      · rename_i r v e
        simp at h
        obtain ⟨x, h1, rfl⟩ := h
        have h2 := rowF_lt hl _ _ _ e
        simp only [List.length_drop] at h2
        have h3 := choL_fm hc hl (by omega) h1
        exact ⟨⟨rowF_fm hc hl _ _ _ (by simp; omega) e, h3.1⟩, by simp; omega⟩
    · cases h; exact ⟨trivial, by simp⟩
theorem choF_fm {ch : Ch} (hc : Fmr ch) (hl : Lt ch) : Fmr (choF ch) := by
  intro s r u hs h
  unfold choF at h
  split at h
  · cases h
  · rename_i r' v e
    simp at h
    obtain ⟨x, h1, rfl⟩ := h
    have h2 := rowF_lt hl _ _ _ e
    have h3 := choL_fm hc hl (by omega) h1
    exact mk_fm (.inr rfl) (rowF_fm hc hl _ _ _ hs e) h3.1 (by omega)
theorem chF_fm : ∀ k, Fmr (chF k)
  | 0 => choF_fm (fun s r u _ h => by cases h) (fun s r u h => by cases h)
  | k + 1 => choF_fm (chF_fm k) (chF_lt k)
/-- the reader that a text writes -/
def readF (x : Str) : Option Rdr := match chF 12 x.cps.toList with
  | some (r, []) => if r.rd 8 then some r else none
  | _ => none
theorem readF_fm {x : Str} {r : Rdr} (hx : x.length ≤ 16000) (h : readF x = some r) : r.Fm := by
  unfold readF at h
  split at h
  · rename_i r' e
    split at h
    · cases h; exact chF_fm 12 _ _ _ (by rw [← len_cs]; exact hx) e
    · cases h
  · cases h
def S_readr : L3.SpecX := fun ds own P E => ∃ x, ds = [.str x] ∧ x.length ≤ 16000 ∧ (∀ r, readF x = some r → P r.toD own) ∧ (readF x = none → NT E own)
def UReadr (S : L3.SpecX) : Prop := ∀ (own : Own) (P : D → Own → Prop) (E : XP) (x : Str), x.length ≤ 16000 → (∀ r, readF x = some r → P r.toD own) → (readF x = none → NT E own) → S [.str x] own P E
theorem uReadr : UReadr S_readr := fun own P E x h1 h2 h3 => ⟨x, rfl, h1, h2, h3⟩
theorem p_readr {S_n S_c : L3.SpecX} {S_r : L3.Spec} (hn : UNeed S_n) (hc : UPar (chF 12) 12 S_c) (hr : UReader S_r) {ds : List D} {own : Own} {Q : D → Own → Prop} {PX : XP} (h : S_readr ds own Q PX) : T_read_reader (RtX PX) S_n S_c S_r { nx := fun _ o => Rt Q .non o, rt := Rt Q } (astart N_read_reader ds) own := by
  obtain ⟨x, rfl, hx, h1, h2⟩ := h
  have dm : d_MOST_BRACKETS = .int 12 := rfl
  have tx : Tx x 0 x.cps.toList := ⟨by omega, by omega, rfl, hx⟩
  simp [T_read_reader, astart, N_read_reader, dm]
  refine hn _ _ _ _ (fun _ => ?_) (fun q => absurd q (by simp))
  refine hc _ _ _ x 0 _ tx (fun r u e q te => ?_) fun q => RtX.mk (h2 (by unfold readF; rw [q]))
  have fm := chF_fm 12 _ _ _ (by rw [← len_cs]; exact hx) q
  have lu := te.len
  simp [tx.le]
  by_cases g : u = []
  · subst g
    have ge : e = (x.length : Int) := by simpa using lu
    simp [ge]
    refine hr _ _ r fm ?_
    refine hn _ _ _ _ (fun q' => ?_) fun q' => ?_
    · exact Rt.mk (h1 r (by unfold readF; rw [q]; simp [q']))
    · exact RtX.mk (h2 (by unfold readF; rw [q]; simp [q']))
  · have ge : ¬ e = (x.length : Int) := by
      have := List.length_pos_iff.mpr g
      omega
    have gb : (e == (x.length : Int)) = false := by simpa using ge
    simp [gb]
    refine hn _ _ _ _ (fun q' => absurd q' (by simp)) fun _ => RtX.mk (h2 ?_)
    unfold readF; rw [q]
    cases u with
    | nil => exact absurd rfl g
    | cons a b => rfl

/-! ### readers within -/
namespace Rdr
def kids : Rdr → List Rdr
  | .leaf _ => []
  | .sg _ _ => []
  | .nm _ _ => []
  | .seq _ ps => ps
  | .one _ p => [p]
  | .two _ _ p => [p]
mutual
def all : Rdr → List Rdr
  | .leaf w => [.leaf w]
  | .sg w x => [.sg w x]
  | .nm w l => [.nm w l]
  | .seq w ps => .seq w ps :: alls ps
  | .one w p => .one w p :: all p
  | .two w l p => .two w l p :: all p
def alls : List Rdr → List Rdr
  | [] => []
  | r :: rs => all r ++ alls rs
end
theorem all_kids (r : Rdr) : r.all = r :: alls r.kids := by
  cases r <;> simp [all, kids, alls]
mutual
theorem len_all : ∀ r : Rdr, r.all.length = r.size
  | .leaf _ => by simp [all, size]
  | .sg _ _ => by simp [all, size]
  | .nm _ _ => by simp [all, size]
  | .seq _ ps => by simp [all, size, len_alls ps]; omega
  | .one _ p => by simp [all, size, len_all p]; omega
  | .two _ _ p => by simp [all, size, len_all p]; omega
theorem len_alls : ∀ rs : List Rdr, (alls rs).length = sizes rs
  | [] => by simp [alls, sizes]
  | r :: rs => by simp [alls, sizes, len_all r, len_alls rs]
end
theorem hgt_kids {r k : Rdr} (h : k ∈ r.kids) : k.hgt < r.hgt := by
  cases r <;> simp [kids] at h
  · have := le_hgts h; rw [show (seq _ _).hgt = 1 + hgts _ from by rw [hgt]]; omega
  · subst h; rw [show (one _ k).hgt = 1 + hgt k from by rw [hgt]]; omega
  · subst h; rw [show (two _ _ k).hgt = 1 + hgt k from by rw [hgt]]; omega
theorem size_kids (r : Rdr) : r.size = 1 + sizes r.kids := by
  cases r <;> simp [kids, size, sizes]
theorem fm_kids {r : Rdr} (h : r.Fm) : ∀ k ∈ r.kids, k.Fm := by
  intro k hk
  cases r <;> simp [kids] at hk
  · exact fms_iff.mp h.2.2.2 k hk
  · subst hk; exact h.2
  · subst hk; exact h.2.2
end Rdr
def S_within : L3.Spec := fun ds own P => ∃ r : Rdr, ds = [r.toD] ∧ r.Fm ∧ P (.lst (r.kids.map Rdr.toD)) own
def UWithin (S : L3.Spec) : Prop := ∀ (own : Own) (P : D → Own → Prop) (r : Rdr), r.Fm → P (.lst (r.kids.map Rdr.toD)) own → S [r.toD] own P
theorem uWithin : UWithin S_within := fun own P r h1 h2 => ⟨r, rfl, h1, h2⟩
theorem p_within {a : Addr} {ds : List D} {own : Own} {Q : D → Own → Prop} (h : S_within ds own Q) : T_within a { nx := fun _ o => Rt Q .non o, rt := Rt Q } (astart N_within ds) own := by
  obtain ⟨r, rfl, fm, h⟩ := h
  replace h := Rt.mk h
  have e1 : Txt.endswith (Str.ofString "s") (Str.ofString "r") = false := by decide +kernel
  have e2 : Txt.endswith (Str.ofString "b") (Str.ofString "r") = false := by decide +kernel
  have e3 : Txt.endswith (Str.ofString "n") (Str.ofString "r") = false := by decide +kernel
  have e4 : Txt.endswith (Str.ofString "r") (Str.ofString "r") = true := by decide +kernel
  have e5 : Txt.endswith (Str.ofString "nr") (Str.ofString "r") = true := by decide +kernel
  have e6 : Txt.endswith (Str.ofString "wr") (Str.ofString "r") = true := by decide +kernel
  have e7 : Txt.endswith Str.empty (Str.ofString "r") = false := by decide +kernel
  have n1 : (Str.empty == Str.ofString "p") = false := by decide +kernel
  have a1 : ∀ a : D, atI [a] (-1) = some a := fun a => rfl
  have a2 : ∀ a b : D, atI [a, b] (-1) = some b := fun a b => rfl
  cases r with
  | leaf w =>
    rw [Rdr.toD_leaf]
    simp only [Rdr.kids] at h
    rcases fm with rfl | rfl <;> simp [T_within, astart, N_within, tab_FORMS, fEnds, e7, n1] <;> exact h
  | sg w x =>
    rw [Rdr.toD_sg]
    simp only [Rdr.kids] at h
    rcases fm.1 with rfl | rfl <;> simp [T_within, astart, N_within, tab_FORMS, fEnds, e1, e2] <;> exact h
  | nm w x =>
    rw [Rdr.toD_nm]
    simp only [Rdr.kids] at h
    rcases fm.1 with rfl | rfl <;> simp [T_within, astart, N_within, tab_FORMS, fEnds, e3] <;> exact h
  | seq w ps =>
    rw [Rdr.toD_seq]
    simp only [Rdr.kids] at h
    rcases fm.1 with rfl | rfl <;> simp [T_within, astart, N_within, tab_FORMS, fEnds] <;> exact h
  | one w p =>
    rw [Rdr.toD_one]
    simp only [Rdr.kids] at h
    rcases fm.1 with rfl | rfl | rfl | rfl <;> simp [T_within, astart, N_within, tab_FORMS, fEnds, e4, a1] <;> exact h
  | two w l p =>
    rw [Rdr.toD_two]
    simp only [Rdr.kids] at h
    rcases fm.1 with rfl | rfl | rfl <;> simp [T_within, astart, N_within, tab_FORMS, fEnds, e5, e6, a2] <;> exact h
/-- told as a list of one's own, or as one that stands still -/
def S_allw (n : Nat) : L3.Spec := fun ds own P => ∃ r : Rdr, ds = [r.toD] ∧ r.Fm ∧ r.hgt ≤ n ∧ r.size ≤ 1000000 ∧ ((∀ q, own q = none → P (.ref q) (oset own q (.lst (r.all.map Rdr.toD)))) ∨ P (.lst (r.all.map Rdr.toD)) own)
def UAllw (n : Nat) (S : L3.Spec) : Prop := ∀ (own : Own) (P : D → Own → Prop) (r : Rdr), r.Fm → r.hgt ≤ n → r.size ≤ 1000000 → ((∀ q, own q = none → P (.ref q) (oset own q (.lst (r.all.map Rdr.toD)))) ∨ P (.lst (r.all.map Rdr.toD)) own) → S [r.toD] own P
theorem uAllw (n : Nat) : UAllw n (S_allw n) := fun own P r h1 h2 h3 h4 => ⟨r, rfl, h1, h2, h3, h4⟩
theorem odel_oset {own : Own} {q : Addr} {m : MO} (h : own q = none) : odel (oset own q m) q = own := by
  funext a
  by_cases e : a = q
  · subst e; rw [odel_same, h]
  · rw [odel_ne e, oset_ne e]
theorem x_ext {to te : ATE} {env : AEnv} {own : Own} {P : D → Own → Prop} : aExt to te env own P = to env own fun d o1 => ownL o1 d fun _ _ => te env o1 fun e o2 => ownL o2 d fun p ds => ownL o2 e fun q zs => p ≠ q ∧ ds.length + zs.length ≤ 16777216 ∧ P .non (oset (odel o2 q) p (.lst (ds ++ zs))) := rfl
theorem allw_turns {n : Nat} {S : L3.Spec} (hs : UAllw n S) {base : Own} {p : Addr} (hp : base p = none) {e0 : Option D} {E : AEnds} : ∀ (ks : List Rdr) (acc : List D) (e2 : Option D), (∀ k ∈ ks, k.Fm ∧ k.hgt ≤ n) → acc.length + Rdr.sizes ks ≤ 1000000 →
    (∀ e2, E.nx [e0, some (.ref p), e2] (oset base p (.lst (acc ++ (Rdr.alls ks).map Rdr.toD)))) →
    aTurns (gN 2) (aDrop (aExt (aV 1) (aCall S [] (aCons (aV 2) aNil)))) (fun o' => True) E (ks.map Rdr.toD) [e0, some (.ref p), e2] (oset base p (.lst acc))
  | [], acc, e2, _, _, h => ⟨trivial, by have := h e2; simpa [Rdr.alls] using this⟩
  | k :: ks, acc, e2, hk, hl, h => by
    rw [List.map_cons, x_turC]
    refine ⟨trivial, ?_⟩
    simp [x_ext]
    rw [x_ownL oset_same]
    obtain ⟨k1, k2⟩ := hk k (List.mem_cons_self ..)
    unfold Rdr.sizes at hl
    refine hs _ _ k k1 k2 (by omega) (.inl fun q hq => ?_)
    have qp : q ≠ p := by rintro rfl; rw [oset_same] at hq; cases hq
    rw [oset_ne qp] at hq
    rw [x_ownL (by rw [oset_ne (Ne.symm qp)]; exact oset_same), x_ownL oset_same]
    have la := k.len_all
    refine ⟨Ne.symm qp, by rw [List.length_map]; omega, ?_⟩
    rw [odel_oset (by rw [oset_ne qp]; exact hq), oset_oset]
    refine allw_turns hs hp ks _ _ (fun k' h' => hk k' (List.mem_cons_of_mem _ h')) (by simp; omega) fun e2 => ?_
    have := h e2
    unfold Rdr.alls at this
    simpa using this
theorem turns_gd {g : ATG} {b : ATS} {gd : Own → Prop} {E : AEnds} {ds : List D} {env : AEnv} {own : Own} (hg : ∀ o, gd o) (h : aTurns g b (fun _ => True) E ds env own) : aTurns g b gd E ds env own := by
  have : gd = fun _ => True := funext fun o => eq_true (hg o)
  rw [this]; exact h
theorem p_allw {n : Nat} {S_w S_a : L3.Spec} (hw : UWithin S_w) (ha : UAllw n S_a) {ds : List D} {own : Own} {Q : D → Own → Prop} (h : S_allw (n + 1) ds own Q) : T_all_within S_w S_a { nx := fun _ o => Rt Q .non o, rt := Rt Q } (astart N_all_within ds) own := by
  obtain ⟨r, rfl, fm, hh, hz, h⟩ := h
  simp [T_all_within, astart, N_all_within]
  intro p hp
  refine hw _ _ r fm ?_
  simp
  have hs := r.size_kids
  refine turns_gd (fun o => trivial) (allw_turns ha hp r.kids [r.toD] none (fun k hk => ⟨Rdr.fm_kids fm k hk, by have := Rdr.hgt_kids hk; omega⟩) (by simp; omega) fun e2 => ?_)
  have e : [r.toD] ++ (Rdr.alls r.kids).map Rdr.toD = r.all.map Rdr.toD := by rw [r.all_kids]; rfl
  rw [e]
  simp
  rcases h with h | h
  · exact Rt.mk (h p hp)
  · exact Rt.lst oset_same hp (oset_sub hp) h

/-! ### books -/
def pg (x : Str × Rdr) : D := .tup [.str x.1, x.2.toD]
def kset : List Str → List Key → List Key
  | [], acc => acc
  | x :: xs, acc => kset xs (keyAdd acc (.inr x))
def namedB (l : List (Str × Rdr)) : Bool := (decide ((1 : Int) ≤ l.length) && decide ((l.length : Int) ≤ 8)) && (l.map fun x => isNm x.1).all _root_.id && (((kset (l.map (·.1)) []).length : Nat) : Int) == (l.length : Int)
def S_named : L3.Spec := fun ds own P => ∃ l : List (Str × Rdr), ds = [.tup (l.map pg)] ∧ (∀ x ∈ l, x.1.length ≤ 1000000) ∧ P (.bl (namedB l)) own
def UNamed (S : L3.Spec) : Prop := ∀ (own : Own) (P : D → Own → Prop) (l : List (Str × Rdr)), (∀ x ∈ l, x.1.length ≤ 1000000) → P (.bl (namedB l)) own → S [.tup (l.map pg)] own P
theorem uNamed : UNamed S_named := fun own P l h1 h2 => ⟨l, rfl, h1, h2⟩
theorem keyAdd_len {l : List Key} {k : Key} : (keyAdd l k).length ≤ l.length + 1 := by unfold keyAdd; split <;> simp
theorem ky_names {env : AEnv} {own : Own} {P : D → Own → Prop} {gd : Own → Prop} {e0 e1 e2 e3 : Option D} (hg : gd own) : ∀ (l : List (Str × Rdr)) (acc : List Key), acc.length + l.length < 4000 → P (.int ((kset (l.map (·.1)) acc).length : Nat)) own →
    aKyL (gTp 2 (gsCons (gN 2) (gsCons (gN 3) gsNil))) (aV 2) gd [e0, e1, e2, e3] P (l.map pg) acc own
  | [], acc, hl, h => ⟨hg, by simp at hl; omega, h⟩
  | x :: l, acc, hl, h => by
    simp only [List.length_cons] at hl
    refine ⟨hg, ?_⟩
    simp [pg, keyD]
    refine ⟨by omega, ky_names hg (env := env) l _ (by have := keyAdd_len (l := acc) (k := .inr x.1); omega) h⟩
theorem x_lenKeys {ti : ATI} {g : ATG} {te : ATE} {vs : List Nat} {env : AEnv} {own : Own} {P : D → Own → Prop} : aLenKeys ti g te vs env own P = ti env own fun ds gd o => aKyL g te gd (wipeA env vs) P ds [] o := rfl
theorem p_named {S_n : L3.Spec} (hn : UNm S_n) {ds : List D} {own : Own} {Q : D → Own → Prop} (h : S_named ds own Q) : T_are_named S_n { nx := fun _ o => Rt Q .non o, rt := Rt Q } (astart N_are_named ds) own := by
  obtain ⟨l, rfl, hx, h⟩ := h
  replace h := Rt.mk h
  have dm : d_MOST_NAMES = .int 8 := rfl
  unfold namedB at h
  simp [T_are_named, astart, N_are_named, dm, C0]
  by_cases q : (1 : Int) ≤ (l.length : Int)
  · by_cases q2 : (l.length : Int) ≤ 8
    · simp only [q, q2, decide_true, Bool.true_and] at h
      simp [q, q2]
      refine lc_pure pg (fun x => D.bl (isNm x.1)) trivial (fun x hm Q' hq => ?_) ?_
      · simp [pg]
        exact hn _ _ x.1 (hx x hm) hq
      · simp only [List.nil_append, bls_map, x_oP]
        cases g : (l.map fun x => isNm x.1).all _root_.id with
        | false => rw [g] at h; exact h
        | true =>
          rw [g] at h
          simp [x_lenKeys]
          refine ky_names trivial (env := []) l [] (by simp; omega) ?_
          simpa using h
    · simp only [q, q2, decide_true, decide_false, Bool.and_false, Bool.false_and] at h
      simp [q, q2]; exact h
  · simp only [q, decide_false, Bool.false_and] at h
    simp [q]; exact h
def rightB (ls : List Str) (r : Rdr) : Bool := r.rd 8 && ((r.all.filter fun k => k.word == Str.ofString "name").map fun k => match nameOf k with | some x => decide (x ∈ ls) | none => false).all _root_.id
namespace Rdr
mutual
theorem all_fm : ∀ {r : Rdr}, r.Fm → Fms r.all
  | .leaf _, h => by unfold all; exact ⟨h, trivial⟩
  | .sg _ _, h => by unfold all; exact ⟨h, trivial⟩
  | .nm _ _, h => by unfold all; exact ⟨h, trivial⟩
  | .seq _ ps, h => by unfold all; exact ⟨h, alls_fm h.2.2.2⟩
  | .one _ p, h => by unfold all; exact ⟨h, all_fm h.2⟩
  | .two _ _ p, h => by unfold all; exact ⟨h, all_fm h.2.2⟩
theorem alls_fm : ∀ {rs : List Rdr}, Fms rs → Fms (alls rs)
  | [], _ => by unfold alls; trivial
  | r :: rs, h => by
    unfold alls
    rw [fms_iff]
    intro k hk
    rcases List.mem_append.mp hk with hk | hk
    · exact fms_iff.mp (all_fm h.1) k hk
    · exact fms_iff.mp (alls_fm h.2) k hk
end
end Rdr
theorem fm_name {r : Rdr} (h : r.word = "name") (hk : r.Fm) : ∃ x, r = .nm "name" x := by
  cases r with
  | leaf w => rcases hk with rfl | rfl <;> simp [Rdr.word] at h
  | sg w x => rcases hk.1 with rfl | rfl <;> simp [Rdr.word] at h
  | nm w x => exact ⟨x, by simp only [Rdr.word] at h; rw [h]⟩
  | seq w ps => rcases hk.1 with rfl | rfl <;> simp [Rdr.word] at h
  | one w p => rcases hk.1 with rfl | rfl | rfl | rfl <;> simp [Rdr.word] at h
  | two w x p => rcases hk.1 with rfl | rfl | rfl <;> simp [Rdr.word] at h
def S_rightr : L3.Spec := fun ds own P => ∃ (ls : List Str) (r : Rdr), ds = [.lst (ls.map .str), r.toD] ∧ r.Fm ∧ r.size ≤ 1000000 ∧ P (.bl (rightB ls r)) own
def URightr (S : L3.Spec) : Prop := ∀ (own : Own) (P : D → Own → Prop) (ls : List Str) (r : Rdr), r.Fm → r.size ≤ 1000000 → P (.bl (rightB ls r)) own → S [.lst (ls.map .str), r.toD] own P
theorem uRightr : URightr S_rightr := fun own P ls r h1 h3 h4 => ⟨ls, r, rfl, h1, h3, h4⟩
namespace Rdr
mutual
theorem rd_hgt : ∀ {r : Rdr} {n : Nat}, r.rd n = true → r.hgt ≤ n
  | .leaf _, 0, h => by simp [rd] at h
  | .leaf _, n + 1, h => by unfold hgt; omega
  | .sg _ _, 0, h => by simp [rd] at h
  | .sg _ _, n + 1, h => by unfold hgt; omega
  | .nm _ _, 0, h => by simp [rd] at h
  | .nm _ _, n + 1, h => by unfold hgt; omega
  | .seq _ ps, 0, h => by simp [rd] at h
  | .seq _ ps, n + 1, h => by
    unfold rd at h; unfold hgt
    simp only [Bool.and_eq_true] at h
    have := rds_hgt h.2
    omega
  | .one _ p, 0, h => by simp [rd] at h
  | .one _ p, n + 1, h => by unfold rd at h; unfold hgt; have := rd_hgt h; omega
  | .two _ _ p, 0, h => by simp [rd] at h
  | .two _ _ p, n + 1, h => by
    unfold rd at h; unfold hgt
    simp only [Bool.and_eq_true] at h
    have := rd_hgt h.2; omega
theorem rds_hgt : ∀ {rs : List Rdr} {n : Nat}, rds rs n = true → hgts rs ≤ n
  | [], n, _ => by unfold hgts; omega
  | r :: rs, n, h => by
    unfold rds at h; unfold hgts
    simp only [Bool.and_eq_true] at h
    have := rd_hgt h.1
    have := rds_hgt h.2
    omega
end
end Rdr
theorem p_rightr {S_r S_a : L3.Spec} (hr : UReader S_r) (ha : UAllw 8 S_a) {ds : List D} {own : Own} {Q : D → Own → Prop} (h : S_rightr ds own Q) : T_is_right S_r S_a { nx := fun _ o => Rt Q .non o, rt := Rt Q } (astart N_is_right ds) own := by
  obtain ⟨ls, r, rfl, fm, hz, h⟩ := h
  replace h := Rt.mk h
  have dc : d_CALLS = .str "name" := rfl
  unfold rightB at h
  simp [T_is_right, astart, N_is_right]
  refine hr _ _ r fm ?_
  simp
  cases g : r.rd 8 with
  | false => rw [g] at h; simp; exact h
  | true =>
    rw [g, Bool.true_and] at h
    simp
    refine ha _ _ r fm (Rdr.rd_hgt g) hz (.inr ?_)
    simp
    have fa := Rdr.fms_iff.mp (Rdr.all_fm fm)
    refine lc_filt Rdr.toD (fun k => k.word == Str.ofString "name") (fun k => D.bl (match nameOf k with | some x => decide (x ∈ ls) | none => false)) trivial (fun k hk Q' R h1 h2 => ?_) ?_
    · obtain ⟨rest, e⟩ := k.toD_word
      simp [dc]
      rw [e]
      simp
      by_cases w : k.word = Str.ofString "name"
      · obtain ⟨x, rfl⟩ := fm_name w (fa k hk)
        rw [Rdr.toD_nm] at e
        have e' := e
        simp only [Rdr.word] at e' h1 ⊢
        simp only [D.tup.injEq, List.cons.injEq, true_and] at e'
        subst e'
        have h1 := h1 (by simp)
        simp [nameOf] at h1 ⊢
        rw [hasD_strs]; simpa using h1
      · have wb : (k.word == Str.ofString "name") = false := by simpa using w
        simp [wb]
        exact h2 wb
    · simp only [List.nil_append, bls_map, x_oP]
      exact h
def wrongs (l : List (Str × Rdr)) : List (Str × Rdr) := l.filter fun x => !rightB (l.map (·.1)) x.2
def wrongD : List (Str × Rdr) → D
  | [] => .non
  | x :: _ => .str x.1
def BkOk (l : List (Str × Rdr)) : Prop := ∀ x ∈ l, x.2.Fm ∧ x.2.size ≤ 16000 ∧ x.1.length ≤ 1000000
def S_firstw : L3.Spec := fun ds own P => ∃ l : List (Str × Rdr), ds = [.tup (l.map pg)] ∧ BkOk l ∧ P (wrongD (wrongs l)) own
def UFirstw (S : L3.Spec) : Prop := ∀ (own : Own) (P : D → Own → Prop) (l : List (Str × Rdr)), BkOk l → P (wrongD (wrongs l)) own → S [.tup (l.map pg)] own P
theorem uFirstw : UFirstw S_firstw := fun own P l h1 h2 => ⟨l, rfl, h1, h2⟩
theorem p_firstw {S_r : L3.Spec} (hr : URightr S_r) {ds : List D} {own : Own} {Q : D → Own → Prop} (h : S_firstw ds own Q) : T_first_wrong S_r { nx := fun _ o => Rt Q .non o, rt := Rt Q } (astart N_first_wrong ds) own := by
  obtain ⟨l, rfl, ok, h⟩ := h
  replace h := Rt.mk h
  simp [T_first_wrong, astart, N_first_wrong]
  refine lc_pure pg (fun x => D.str x.1) trivial (fun x hx Q' hq => by simp [pg]; exact hq) ?_
  simp
  have en : (l.map fun x => D.str x.1) = (l.map (·.1)).map D.str := by rw [List.map_map]; rfl
  rw [en]
  refine lc_filt pg (fun x => !rightB (l.map (·.1)) x.2) (fun x => D.str x.1) trivial (fun x hx Q' R h1 h2 => ?_) ?_
  · simp [pg]
    obtain ⟨o1, o3, _⟩ := ok x hx
    rw [← List.map_map]
    refine hr _ _ _ x.2 o1 (by omega) ?_
    simp
    cases g : rightB (l.map (·.1)) x.2 with
    | true => exact h2 (by rw [g]; rfl)
    | false => exact h1 (by rw [g]; rfl)
  · simp only [List.nil_append]
    show _
    have e : l.filter (fun x => !rightB (l.map (·.1)) x.2) = wrongs l := rfl
    rw [e]
    cases g : wrongs l with
    | nil => rw [g] at h; simp; exact h
    | cons x t => rw [g] at h; simp; exact h
def partsL (l : List (Str × Rdr)) : List Rdr := l.flatMap fun x => x.2.all
def S_parts (n : Nat) : L3.Spec := fun ds own P => ∃ l : List (Str × Rdr), ds = [.tup (l.map pg)] ∧ l.length ≤ 8 ∧ BkOk l ∧ (∀ x ∈ l, x.2.hgt ≤ n) ∧ P (.lst ((partsL l).map Rdr.toD)) own
def UParts (n : Nat) (S : L3.Spec) : Prop := ∀ (own : Own) (P : D → Own → Prop) (l : List (Str × Rdr)), l.length ≤ 8 → BkOk l → (∀ x ∈ l, x.2.hgt ≤ n) → P (.lst ((partsL l).map Rdr.toD)) own → S [.tup (l.map pg)] own P
theorem uParts (n : Nat) : UParts n (S_parts n) := fun own P l h0 h1 h2 h3 => ⟨l, rfl, h0, h1, h2, h3⟩
theorem lc2_parts {n : Nat} {S_a : L3.Spec} (ha : UAllw n S_a) {own : Own} {P : List D → Own → Prop} {gd : Own → Prop} (hg : gd own) {e0 e1 e2 e3 : Option D} : ∀ (l : List (Str × Rdr)) (acc : List D), BkOk l → (∀ x ∈ l, x.2.hgt ≤ n) → acc.length + 16000 * l.length ≤ 1000000 → P (acc ++ (partsL l).map Rdr.toD) own →
    aLc2L (gTp 2 (gsCons (gN 1) (gsCons (gN 2) gsNil))) aYes (aIt (aCall S_a [] (aCons (aV 2) aNil))) (gN 3) aYes (aV 3) [3] gd [e0, e1, e2, e3] P (l.map pg) acc own
  | [], acc, _, _, _, h => ⟨hg, by simpa [partsL] using h⟩
  | x :: l, acc, ok, hh, hl, h => by
    refine ⟨hg, ?_⟩
    obtain ⟨o1, o3, _⟩ := ok x (List.mem_cons_self ..)
    have o2 := hh x (List.mem_cons_self ..)
    simp [pg]
    refine ha _ _ x.2 o1 o2 (by omega) (.inr ?_)
    simp
    simp only [List.length_cons] at hl
    have la := x.2.len_all
    refine ⟨by omega, ?_⟩
    refine lc_pure Rdr.toD Rdr.toD trivial (fun k hk Q' hq => by simp; exact hq) ?_
    refine lc2_parts ha hg l _ (fun y hy => ok y (List.mem_cons_of_mem _ hy)) (fun y hy => hh y (List.mem_cons_of_mem _ hy)) (by simp; omega) ?_
    simpa [partsL] using h
theorem p_parts {n : Nat} {S_a : L3.Spec} (ha : UAllw n S_a) {ds : List D} {own : Own} {Q : D → Own → Prop} (h : S_parts n ds own Q) : T_parts_of S_a { nx := fun _ o => Rt Q .non o, rt := Rt Q } (astart N_parts_of ds) own := by
  obtain ⟨l, rfl, l8, ok, hh, h⟩ := h
  replace h := Rt.mk h
  show aLc2L _ _ _ _ _ _ _ (fun _ => True) _ _ (l.map pg) [] own
  exact lc2_parts ha trivial l [] ok hh (by simp; omega) (by simpa using h)

/-! ### how many parts are read -/
def Szr (F : Ch) : Prop := ∀ s r u, F s = some (r, u) → r.size + u.length ≤ s.length
theorem atomF_sz {ch : Ch} (hc : Szr ch) : Szr (atomF ch) := by
  intro s r u h
  unfold atomF at h
  cases s with
  | nil => cases h
  | cons c t =>
    simp only at h
    split at h
    · rename_i g
      cases h
      cases t with
      | nil => simp at g
      | cons d v => simp [Rdr.size]; omega
    · split at h
      · cases h; simp [Rdr.size]; omega
      · split at h
        · have := bkF_lt h
          have : r.size = 1 := by
            unfold bkF at h
            cases t with
            | nil => cases h
            | cons d v =>
              simp only at h
              split at h <;> simp at h <;> obtain ⟨x, _, rfl⟩ := h <;> rfl
          simp; omega
        · split at h
          · simp at h
            obtain ⟨x, h1, rfl⟩ := h
            have := letF_lt h1
            simp [Rdr.size]; omega
          · split at h
            · unfold cl at h
              split at h
              · rename_i r' d u' e
                split at h
                · cases h
                  have := hc _ _ _ e
                  simp at this ⊢; omega
                · cases h
              · cases h
            · simp at h
              obtain ⟨x, h1, rfl⟩ := h
              have := letF_lt h1
              simp [Rdr.size] at this ⊢; omega
theorem itemF_sz {ch : Ch} (hc : Szr ch) : Szr (itemF ch) := by
  intro s r u h
  unfold itemF at h
  cases s with
  | nil => cases h
  | cons c t =>
    simp only at h
    split at h
    · simp at h
      obtain ⟨x, h1, rfl⟩ := h
      have := atomF_sz hc _ _ _ h1
      simp [Rdr.size]; omega
    · split at h
      · cases h
      · rename_i r' v e
        have h1 := atomF_sz hc _ _ _ e
        unfold tailF at h
        cases v with
        | nil => cases h; exact h1
        | cons m v =>
          simp only at h
          split at h
          · cases h
            simp [Rdr.size] at h1 ⊢; omega
          · split at h
            · unfold tail2 at h
              split at h
              · cases h; exact h1
              · split at h
                · cases h; exact h1
                · simp at h
                  obtain ⟨x, h2, rfl⟩ := h
                  have := atomF_sz hc _ _ _ h2
                  have := r'.size_pos
                  simp [Rdr.size] at h1 this ⊢; omega
            · cases h; exact h1
theorem rowL_sz {ch : Ch} (hc : Szr ch) : ∀ {n : Nat} {s : Cs} {rs : List Rdr} {u : Cs}, rowL ch n s = some (rs, u) → Rdr.sizes rs + rs.length + u.length ≤ s.length
  | 0, _, _, _, h => by cases h
  | n + 1, s, rs, u, h => by
    unfold rowL at h
    split at h
    · rename_i hb
      split at h
      · cases h
      · rename_i r v e
        simp at h
        obtain ⟨x, h1, rfl⟩ := h
        have h2 := itemF_sz hc _ _ _ e
        have := rowL_sz hc h1
        cases s with
        | nil => simp [blank] at hb
        | cons c t => simp [Rdr.sizes] at h2 ⊢; omega
    · cases h; simp [Rdr.sizes]
theorem mk_sz {w : Str} {r : Rdr} {rs : List Rdr} : (mk w r rs).size ≤ r.size + Rdr.sizes rs + rs.length := by
  unfold mk
  split
  · omega
  · rename_i g
    have := List.length_pos_iff.mpr g
    simp [Rdr.size, Rdr.sizes]; omega
theorem rowF_sz {ch : Ch} (hc : Szr ch) : Szr (rowF ch) := by
  intro s r u h
  unfold rowF at h
  split at h
  · cases h
  · rename_i r' v e
    simp at h
    obtain ⟨x, h1, rfl⟩ := h
    have h2 := itemF_sz hc _ _ _ e
    have := rowL_sz hc h1
    have := mk_sz (w := "row") (r := r') (rs := x)
    omega
theorem choL_sz {ch : Ch} (hc : Szr ch) : ∀ {n : Nat} {s : Cs} {rs : List Rdr} {u : Cs}, choL ch n s = some (rs, u) → Rdr.sizes rs + rs.length + u.length ≤ s.length
  | 0, _, _, _, h => by cases h
  | n + 1, s, rs, u, h => by
    unfold choL at h
    split at h
    · rename_i hb
      split at h
      · cases h
      · rename_i r v e
        simp at h
        obtain ⟨x, h1, rfl⟩ := h
        have h2 := rowF_sz hc _ _ _ e
        have h3 := choL_sz hc h1
        have h4 : 3 ≤ s.length := by
          unfold slash at hb
          have hb := eq_of_beq hb
          have := congrArg List.length hb
          simp at this; omega
        simp [Rdr.sizes] at h2 ⊢; omega
    · cases h; simp [Rdr.sizes]
theorem choF_sz {ch : Ch} (hc : Szr ch) : Szr (choF ch) := by
  intro s r u h
  unfold choF at h
  split at h
  · cases h
  · rename_i r' v e
    simp at h
    obtain ⟨x, h1, rfl⟩ := h
    have h2 := rowF_sz hc _ _ _ e
    have := choL_sz hc h1
    have := mk_sz (w := "choice") (r := r') (rs := x)
    omega
theorem chF_sz : ∀ k, Szr (chF k)
  | 0 => choF_sz fun s r u h => by cases h
  | k + 1 => choF_sz (chF_sz k)
theorem readF_sz {x : Str} {r : Rdr} (h : readF x = some r) : r.size ≤ x.length := by
  unfold readF at h
  split at h
  · rename_i r' e
    split at h
    · cases h
      have := chF_sz 12 _ _ _ e
      rw [len_cs]; omega
    · cases h
  · cases h
/-! ### books read -/
def pairF (z : Str) : Option (Str × Rdr) := match TL.par [32, 61, 32] [] z.cps.toList with
  | some (p, q) => (readF (toS q)).map fun r => (toS p, r)
  | none => none
def bookB (l : List (Str × Rdr)) : Bool := namedB l && (wrongs l).isEmpty && decide ((partsL l).length ≤ 80)
def linesF (z : Str) : List Cs := TL.spl [59, 10] 0 [] z.cps.toList
def readBF (z : Str) : Option (List (Str × Rdr)) := if (linesF z).getLast? = some [] then (match ((linesF z).dropLast).mapM fun q => pairF (toS q) with
    | some l => if bookB l then some l else none
    | none => none) else none
theorem x_isiTL {own : Own} {ds : List D} {Q : D → Prop} : fIsi own [.tup ds, .ty "list"] Q = Q (.bl false) := by
  show oP (kitB "tuple" "list") (fun b => Q (.bl b)) = _
  rw [show kitB "tuple" "list" = some false from by decide +kernel]; rfl
def S_bookof : L3.Spec := fun ds own P => ∃ l : List (Str × Rdr), ds = [.tup (l.map pg)] ∧ BkOk l ∧ bookB l = true ∧ P (.tup (l.map pg)) own
def UBookof (S : L3.Spec) : Prop := ∀ (own : Own) (P : D → Own → Prop) (l : List (Str × Rdr)), BkOk l → bookB l = true → P (.tup (l.map pg)) own → S [.tup (l.map pg)] own P
theorem uBookof : UBookof S_bookof := fun own P l h1 h2 h3 => ⟨l, rfl, h1, h2, h3⟩
theorem right_hgt {l : List (Str × Rdr)} (h : wrongs l = []) : ∀ x ∈ l, x.2.hgt ≤ 8 := fun x hx => by
  have : x ∉ wrongs l := by rw [h]; simp
  unfold wrongs at this
  rw [List.mem_filter] at this
  have g : rightB (l.map (·.1)) x.2 = true := by
    cases g : rightB (l.map (·.1)) x.2 with
    | true => rfl
    | false => exact absurd ⟨hx, by rw [g]; rfl⟩ this
  unfold rightB at g
  simp only [Bool.and_eq_true] at g
  exact Rdr.rd_hgt g.1
theorem named8 {l : List (Str × Rdr)} (h : namedB l = true) : l.length ≤ 8 := by
  unfold namedB at h
  simp only [Bool.and_eq_true, decide_eq_true_eq] at h
  omega
theorem p_bookof {S_n S_w S_p : L3.Spec} (hn : UNamed S_n) (hw : UFirstw S_w) (hp : UParts 8 S_p) {ds : List D} {own : Own} {Q : D → Own → Prop} (h : S_bookof ds own Q) : T_book_of S_n S_w S_p { nx := fun _ o => Rt Q .non o, rt := Rt Q } (astart N_book_of ds) own := by
  obtain ⟨l, rfl, ok, hb, h⟩ := h
  replace h := Rt.mk h
  unfold bookB at hb
  simp only [Bool.and_eq_true, decide_eq_true_eq, List.isEmpty_iff] at hb
  obtain ⟨⟨b1, b2⟩, b3⟩ := hb
  have dm : d_MOST_PARTS_books = .int 80 := rfl
  have g3 : ¬ (80 : Int) < ((partsL l).length : Int) := by omega
  simp [T_book_of, astart, N_book_of, x_isiTL, dm]
  refine hn _ _ l (fun x hx => (ok x hx).2.2) ?_
  simp [b1]
  refine hw _ _ l ok ?_
  simp [b2, wrongD]
  refine hp _ _ l (named8 b1) ok (right_hgt b2) ?_
  simp [C0, g3]
  exact h
theorem toS_tl (z : Str) : toS z.cps.toList = z := str_ext rfl
def S_pairin : L3.Spec := fun ds own P => ∃ (z : Str) (x : Str × Rdr), ds = [.str z] ∧ z.length ≤ 16000 ∧ pairF z = some x ∧ P (pg x) own
def UPairin (S : L3.Spec) : Prop := ∀ (own : Own) (P : D → Own → Prop) (z : Str) (x : Str × Rdr), z.length ≤ 16000 → pairF z = some x → P (pg x) own → S [.str z] own P
theorem uPairin : UPairin S_pairin := fun own P z x h1 h2 h3 => ⟨z, x, rfl, h1, h2, h3⟩
theorem par_eq {z : Str} {p q : Cs} (h : TL.par [32, 61, 32] [] z.cps.toList = some (p, q)) : Txt.partition z (Str.ofString " = ") = (toS p, toS [32, 61, 32], toS q) := by
  have e := SX.partition_some (a := z.cps.toList) (b := [32, 61, 32]) (by simp) h
  rw [show Str.ofString " = " = toS [32, 61, 32] from by decide +kernel]
  have ez : SX.S z.cps.toList = z := toS_tl z
  rw [ez] at e
  exact e
theorem par_len {S : Cs} : ∀ (l acc p q : Cs), TL.par S acc l = some (p, q) → q.length ≤ l.length ∧ p.length ≤ acc.length + l.length
  | [], acc, p, q, h => by
    unfold TL.par at h
    first | (cases h; done) | (split at h <;> cases h <;> simp)
  | c :: l, acc, p, q, h => by
    unfold TL.par at h
    split at h
    · cases h; simp
    · have := par_len l _ p q h
      simp at this ⊢; omega
theorem p_pairin {S_n S_r : L3.SpecX} (hn : UNeed S_n) (hr : UReadr S_r) {ds : List D} {own : Own} {Q : D → Own → Prop} (h : S_pairin ds own Q) : T_pair_in S_n S_r { nx := fun _ o => Rt Q .non o, rt := Rt Q } (astart N_pair_in ds) own := by
  obtain ⟨z, x, rfl, hz, hp, h⟩ := h
  unfold pairF at hp
  split at hp
  · rename_i p q e
    simp at hp
    obtain ⟨r, h1, rfl⟩ := hp
    have l3 : (Str.ofString " = ").length = 3 := by decide +kernel
    have hz2 : z.length ≤ 16777216 := by omega
    simp [T_pair_in, astart, N_pair_in, fParti, par_eq e, l3, hz2, lem]
    refine hn _ _ _ _ (fun _ => ?_) fun g => absurd g (by simp)
    refine hr _ _ _ _ (by rw [toS_len]; have := (par_len _ _ _ _ e).1; rw [← len_cs] at this; omega) (fun r' e' => ?_) fun e' => ?_
    · rw [h1] at e'; cases e'
      exact Rt.mk h
    · rw [h1] at e'; cases e'
  · cases hp

theorem spl_len {S : Cs} : ∀ (l : Cs) (k : Nat) (acc : Cs), (TL.spl S k acc l).length ≤ l.length + 1 ∧ ∀ q ∈ TL.spl S k acc l, q.length ≤ acc.length + l.length
  | [], k, acc => by rw [TL.spl_nil]; simp
  | c :: r, 0, acc => by
    cases h : TL.pre S (c :: r) with
    | true =>
      rw [TL.spl_hit h]
      have := spl_len (S := S) r (S.length - 1) []
      refine ⟨by simp; omega, fun q hq => ?_⟩
      rcases List.mem_cons.mp hq with rfl | hq
      · omega
      · have := this.2 q hq; simp at this ⊢; omega
    | false =>
      rw [TL.spl_miss h]
      have := spl_len (S := S) r 0 (acc ++ [c])
      refine ⟨by simp; omega, fun q hq => ?_⟩
      have := this.2 q hq; simp at this ⊢; omega
  | c :: r, k + 1, acc => by
    have := spl_len (S := S) r k acc
    show (TL.spl S k acc r).length ≤ _ ∧ ∀ q ∈ TL.spl S k acc r, _
    exact ⟨by simp; omega, fun q hq => by have := this.2 q hq; simp; omega⟩
def S_readb : L3.Spec := fun ds own P => ∃ (z : Str) (l : List (Str × Rdr)), ds = [.str z] ∧ z.length ≤ 16000 ∧ readBF z = some l ∧ P (.tup (l.map pg)) own
def UReadb (S : L3.Spec) : Prop := ∀ (own : Own) (P : D → Own → Prop) (z : Str) (l : List (Str × Rdr)), z.length ≤ 16000 → readBF z = some l → P (.tup (l.map pg)) own → S [.str z] own P
theorem uReadb : UReadb S_readb := fun own P z l h1 h2 h3 => ⟨z, l, rfl, h1, h2, h3⟩
theorem lc_pairs {S_p : L3.Spec} (hp : UPairin S_p) {own : Own} {P : List D → Own → Prop} {gd : Own → Prop} (hg : gd own) {e0 e1 e2 e3 e4 e5 : Option D} : ∀ (L : List Cs) (l : List (Str × Rdr)) (acc : List D), (∀ q ∈ L, q.length ≤ 16000) → L.mapM (fun q => pairF (toS q)) = some l → P (acc ++ l.map pg) own →
    aLcL (gN 5) aYes (aCall S_p [] (aCons (aV 5) aNil)) gd [e0, e1, e2, e3, e4, e5] P (L.map fun q => .str (toS q)) acc own
  | [], l, acc, _, hm, h => by
    simp at hm
    subst hm
    exact ⟨hg, by simpa using h⟩
  | q :: L, l, acc, hq, hm, h => by
    simp only [List.mapM_cons, Option.bind_eq_bind, Option.bind_eq_some_iff, Option.pure_def, Option.some.injEq] at hm
    obtain ⟨x, h1, l', h2, rfl⟩ := hm
    rw [List.map_cons, x_lcC]
    refine ⟨hg, ?_⟩
    simp
    refine hp _ _ _ x (by rw [toS_len]; exact hq q (List.mem_cons_self ..)) h1 ?_
    exact lc_pairs hp hg L l' _ (fun q' h' => hq q' (List.mem_cons_of_mem _ h')) h2 (by simpa using h)
theorem pairF_ok {z : Str} {x : Str × Rdr} (hz : z.length ≤ 16000) (h : pairF z = some x) : x.2.Fm ∧ x.2.size ≤ 16000 ∧ x.1.length ≤ 1000000 := by
  unfold pairF at h
  split at h
  · rename_i p q e
    simp at h
    obtain ⟨r, h1, rfl⟩ := h
    have := par_len _ _ _ _ e
    rw [← len_cs] at this
    simp only [List.length_nil] at this
    have lq : (toS q).length ≤ 16000 := by rw [toS_len]; omega
    have := readF_sz h1
    exact ⟨readF_fm lq h1, by show r.size ≤ 16000; omega, by show (toS p).length ≤ _; rw [toS_len]; omega⟩
  · cases h
theorem bkok_of {L : List Cs} : ∀ {L : List Cs} {l : List (Str × Rdr)}, (∀ q ∈ L, q.length ≤ 16000) → L.mapM (fun q => pairF (toS q)) = some l → BkOk l
  | [], l, _, hm => by simp at hm; subst hm; intro x hx; simp at hx
  | q :: L, l, hq, hm => by
    simp only [List.mapM_cons, Option.bind_eq_bind, Option.bind_eq_some_iff, Option.pure_def, Option.some.injEq] at hm
    obtain ⟨x, h1, l', h2, rfl⟩ := hm
    intro y hy
    rcases List.mem_cons.mp hy with rfl | hy
    · exact pairF_ok (by rw [toS_len]; exact hq q (List.mem_cons_self ..)) h1
    · exact bkok_of (L := L) (fun q' h' => hq q' (List.mem_cons_of_mem _ h')) h2 y hy
theorem split_eq (z : Str) : Txt.split z (Str.ofString ";\n") = (linesF z).map toS := by
  have e := SX.split_S (a := z.cps.toList) (b := [59, 10]) (by simp) (by decide)
  rw [show Str.ofString ";\n" = toS [59, 10] from by decide +kernel]
  have ez : SX.S z.cps.toList = z := toS_tl z
  rw [ez] at e
  exact e
theorem p_readb {S_n : L3.SpecX} {S_p S_b : L3.Spec} (hn : UNeed S_n) (hp : UPairin S_p) (hb : UBookof S_b) {ds : List D} {own : Own} {Q : D → Own → Prop} (h : S_readb ds own Q) : T_read_book S_n S_p S_b { nx := fun _ o => Rt Q .non o, rt := Rt Q } (astart N_read_book ds) own := by
  obtain ⟨z, l, rfl, hz, hr, h⟩ := h
  replace h := Rt.mk h
  unfold readBF at hr
  split at hr
  · rename_i hl
    split at hr
    · rename_i l' hm
      split at hr
      · rename_i hbb
        cases hr
        have hL := spl_len (S := [59, 10]) z.cps.toList 0 []
        have hL1 : (linesF z).length ≤ 16001 := by have := hL.1; rw [← len_cs] at this; unfold linesF; omega
        have hL2 : ∀ q ∈ (linesF z).dropLast, q.length ≤ 16000 := fun q hq => by have := hL.2 q ((List.dropLast_sublist _).subset hq); rw [← len_cs] at this; simp at this; omega
        have ne : linesF z ≠ [] := by intro e; rw [e] at hl; cases hl
        have el : linesF z = (linesF z).dropLast ++ [[]] := by
          have := List.dropLast_concat_getLast ne
          rw [List.getLast?_eq_some_getLast ne] at hl
          injection hl with hl
          rw [hl] at this; exact this.symm
        generalize hLL : (linesF z).dropLast = L at *
        have l2 : (Str.ofString ";\n").length = 2 := by decide +kernel
        have hz2 : z.length + 2 ≤ 16777216 := by omega
        have hz3 : (linesF z).length ≤ 16777216 := by omega
        simp [T_read_book, astart, N_read_book]
        refine hn _ _ _ _ (fun _ => ?_) fun g => absurd g (by simp)
        simp [fSplit, split_eq, l2, hz2, hz3]
        rw [el] at hL1 ⊢
        simp only [List.length_append, List.length_cons, List.length_nil] at hL1
        simp
        refine ⟨by omega, ?_⟩
        have t1 : List.take L.length (L.map (D.str ∘ toS)) = L.map (D.str ∘ toS) := List.take_of_length_le (by simp)
        have t2 : List.drop L.length (L.map (D.str ∘ toS)) = [] := List.drop_eq_nil_of_le (by simp)
        simp [t1, t2, lem]
        refine hn _ _ _ _ (fun _ => ?_) fun g => absurd g (by simp)
        refine lc_pairs hp trivial L l [] hL2 hm ?_
        simp
        exact hb _ _ l (bkok_of (L := L) hL2 hm) hbb h
      · cases hr
    · cases hr
  · cases hr

/-! ### the pen: start and draw -/
def S_start : L3.Spec := fun ds own P => ∃ ns : List Int, ds = [.kls (ns.map D.int)] ∧ ns.length ≤ 63 ∧ ∀ p pen, own p = none → Pn (2 ^ 59) pen → P (.ref p) (oset own p (.lst pen))
def S_draw : L3.Spec := fun ds own P => ∃ p pen many b, ds = [.ref p, .int many] ∧ own p = some (.lst pen) ∧ Pn (b + 1) pen ∧ 0 < many ∧ many < 2 ^ 40 ∧ ∀ k pen', 0 ≤ k → k < many → Pn b pen' → P (.int k) (oset own p (.lst pen'))
theorem p_draw {ds : List D} {own : Own} {Q : D → Own → Prop} (h : S_draw ds own Q) : T_law_draw { nx := fun _ o => Rt Q .non o, rt := Rt Q } (astart N_law_draw ds) own := by
  obtain ⟨p, pen, many, b, rfl, ho, ⟨g, ns, d, rfl, g0, g1, hn, d0⟩, m0, m1, k⟩ := h
  have gs : Sm 61 g := .ofLt g0 (by omega)
  have c : ∀ {n : Nat}, n < 2 ^ 40 → Sm 40 (n : Int) := fun h => .ofLt (by omega) (by omega)
  have f1 : CMulW 61151 g := Sm.cmul (c (n := 61151) (by decide)) gs
  have f2 : CMulW (61151 * g) g := ((c (n := 61151) (by decide)).mul gs).cmul gs
  have f3 : CMulW 907 g := Sm.cmul (c (n := 907) (by decide)) gs
  have f4 : CPowD 10 18 := by refine ⟨by decide, by decide, by decide⟩
  have f5 : ∀ i, CDivW i many := fun i => Sm.cdiv m0 (.ofLt (Int.le_of_lt m0) (by omega) : Sm 40 many)
  have f6 : CMulW 50021 g := Sm.cmul (c (n := 50021) (by decide)) gs
  have f7 : ∀ x : Int, CPowD (x % 2147483549 + 50021 * g + 317) 5 := fun x =>
    (((Sm.mod (by decide) (c (n := 2147483549) (by decide))).mono (by decide : 40 ≤ 101)).add ((c (n := 50021) (by decide)).mul gs) |>.add ((c (n := 317) (by decide)).mono (by decide))).cpow (by decide) (by decide)
  have f8 : ∀ x : Int, CMulW (x % 2147483629) (g + 5) := fun x => (Sm.mod (by decide) (c (n := 2147483629) (by decide))).cmul (gs.add ((c (n := 5) (by decide)).mono (by decide)))
  have f9 : CMulW 70111 g := Sm.cmul (c (n := 70111) (by decide)) gs
  have f10 : CMulW (70111 * g) g := ((c (n := 70111) (by decide)).mul gs).cmul gs
  have f11 : ∀ x : Int, CPowD (x % 2147483629 * (g + 5) + 70111 * g * g + 23) 3 := fun x =>
    ((((Sm.mod (by decide) (c (n := 2147483629) (by decide))).mul (gs.add ((c (n := 5) (by decide)).mono (by decide)))).mono (by decide : 40 + 62 ≤ 162)).add (((c (n := 70111) (by decide)).mul gs).mul gs) |>.add ((c (n := 23) (by decide)).mono (by decide))).cpow (by decide) (by decide)
  have f12 : ∀ x : Int, CMulW (x % 40009) 32771 := fun x => (Sm.mod (by decide) (c (n := 40009) (by decide))).cmul (c (n := 32771) (by decide))
  have f13 : ∀ x : Int, CDivW x 64 := fun i => Sm.cdiv (by decide) (c (n := 64) (by decide))
  have fin : ∀ (x : Int) (g' d' : Int), 0 ≤ g' → g' ≤ g + 1 → 0 ≤ d' → Rt Q (.int (x % many)) (oset own p (.lst [.int g', .lst (ns.map .int), .int d'])) := fun x g' d' h1 h2 h3 =>
    Rt.mk (k _ _ (Int.emod_nonneg _ (Int.ne_of_gt m0)) (Int.emod_lt_of_pos _ m0) ⟨g', ns, d', rfl, h1, by omega, hn, h3⟩)
  simp only [T_law_draw, astart, N_law_draw, List.length_cons, List.length_nil]
  by_cases dp : 0 < d
  · simp [x_seeR ho, x_ownL ho, dp, m0, f5]
    exact fin _ _ _ g0 (by omega) (Int.ediv_nonneg d0 (Int.le_of_lt m0))
  · have ng : ¬ g < 0 := by omega
    by_cases ne : ns = []
    · subst ne
      have a0 : eqAsk (.lst []) (.lst []) := ask_ints (ns := [])
      simp [x_seeR ho, x_ownL ho, dp, m0, f1, f2, f3, f4, f5, f6, f7, f8, f9, f10, f11, f12, f13, oset_oset, oset_same, x_seeR oset_same, x_ownL oset_same, ng, a0]
      exact fin _ _ _ (by omega) (by omega) d0
    · have l0 : 0 < ns.length := List.length_pos_iff.mpr ne
      have l1 : (0 : Int) < (ns.length : Int) := by omega
      obtain ⟨z, hz, hm⟩ := x_atN (l := ns.map D.int) (i := g % (ns.length : Int)) (Int.emod_nonneg _ (Int.ne_of_gt l1)) (by rw [List.length_map]; exact Int.emod_lt_of_pos _ l1)
      obtain ⟨i, _, rfl⟩ := List.mem_map.mp hm
      simp [x_seeR ho, x_ownL ho, dp, m0, f1, f2, f3, f4, f5, f6, f7, f8, f9, f10, f11, f12, f13, oset_oset, oset_same, x_seeR oset_same, x_ownL oset_same, ne, l0, hz]
      have ie : ns.isEmpty = false := by simpa using ne
      have ab : (0 : Int) ≤ if i < 0 then -i else i := by split <;> omega
      by_cases q1 : g < (ns.length : Int)
      · by_cases q2 : (1000000000000000000 : Int) ≤ if i < 0 then -i else i
        · simp [q1, q2, ie]; exact fin _ _ _ (by omega) (by omega) (Int.ediv_nonneg ab (Int.le_of_lt m0))
        · simp [q1, q2, ie]; exact fin _ _ _ (by omega) (by omega) d0
      · simp [q1, ie]; exact fin _ _ _ (by omega) (by omega) d0
theorem p_start {ds : List D} {own : Own} {Q : D → Own → Prop} (h : S_start ds own Q) : T_law_start { nx := fun _ o => Rt Q .non o, rt := Rt Q } (astart N_law_start ds) own := by
  obtain ⟨ns, rfl, hn, k⟩ := h
  obtain ⟨l', e1, e2⟩ := cut_map D.int ns none (some 63)
  simp [T_law_start, astart, N_law_start, e1]
  intro p hp
  exact Rt.mk (k p _ hp ⟨0, l', 0, rfl, by decide, by decide, by omega, by decide⟩)

/-- what a caller may use of draw -/
def UDraw (S : L3.Spec) : Prop := ∀ (own : Own) (P : D → Own → Prop) (p : Addr) (pen : List D) (many : Int) (b : Nat), own p = some (.lst pen) → Pn (b + 1) pen → 0 < many → many < 1000000 → (∀ k pen', 0 ≤ k → k < many → Pn b pen' → P (.int k) (oset own p (.lst pen'))) → S [.ref p, .int many] own P
theorem uDraw : UDraw S_draw := fun own P p pen many b ho hp h0 h1 h => ⟨p, pen, many, b, rfl, ho, hp, h0, by omega, h⟩
/-- a label -/
def S_label : L3.Spec := fun ds own P => ∃ p pen b, ds = [.ref p] ∧ own p = some (.lst pen) ∧ Pn (b + 20) pen ∧ ∀ x pen', Lab x → isNm x = true → Pn b pen' → P (.str x) (oset own p (.lst pen'))
/-- a text of one letter -/
def Ltr (y : Str) : Prop := (y.length = 1 ∧ PyData.strOk y = true) ∧ ∀ c ∈ y.cps.toList, oneIn ⟨#[c]⟩ letS = true
theorem strOk_all {x : Str} : PyData.strOk x = x.cps.toList.all fun c => decide (c < 0x110000) := by unfold PyData.strOk; rw [Array.all_toList]
theorem lc_label {S_draw : L3.Spec} (hd : UDraw S_draw) {own : Own} {p : Addr} {al : Str} {e1 e2 e3 e4 e5 e6 : Option D} (ha : al.length = 26) (hb : PyData.strOk al = true) (hc26 : ∀ c ∈ al.cps.toList, oneIn ⟨#[c]⟩ letS = true) {P : List D → Own → Prop} : ∀ (n j : Nat) (acc : List Str) (pen : List D) (b : Nat), Pn (b + n) pen → (∀ y ∈ acc, Ltr y) →
    (∀ (l : List Str) pen', l.length = acc.length + n → (∀ y ∈ l, Ltr y) → Pn b pen' → P (l.map .str) (oset own p (.lst pen'))) →
    aLcL (gN 6) aYes (aBin fIx (aV 1) (aCall S_draw [] (aCons (aV 0) (aCons (aC (.int 26)) aNil)))) (fun _ => True) [some (.ref p), some (.str al), e2, e3, e4, e5, e6] P ((List.range' j n).map fun (i : Nat) => D.int (0 + (i : Int))) (acc.map .str) (oset own p (.lst pen))
  | 0, j, acc, pen, b, hp, hc, h => by
    refine ⟨trivial, ?_⟩
    exact h acc pen (by simp) hc hp
  | n + 1, j, acc, pen, b, hp, hc, h => by
    rw [List.range'_succ, List.map_cons, x_lcC]
    refine ⟨trivial, ?_⟩
    simp
    refine hd _ _ _ _ _ (b + n) oset_same hp (by decide) (by decide) fun k pen' k0 k1 hp' => ?_
    simp [oset_oset, ha]
    refine atA k0 (by rw [← len_cs, ha]; exact k1) fun c hm => ?_
    have hk : Ltr ⟨#[c]⟩ := ⟨⟨rfl, by
      rw [strOk_all] at hb ⊢
      simp only [List.all_eq_true] at hb ⊢
      intro d hd; simp only [List.mem_singleton] at hd; subst hd; exact hb _ hm⟩, fun d hd => by
      have : d = c := by simpa using hd
      subst this; exact hc26 _ hm⟩
    have := lc_label hd (e1 := e1) (e2 := e2) (e3 := e3) (e4 := e4) (e5 := e5) (e6 := e6) (own := own) (p := p) ha hb hc26 (P := P) n (j + 1) (acc ++ [⟨#[c]⟩]) pen' b hp' (fun y hy => by rcases List.mem_append.mp hy with hy | hy; exact hc y hy; rw [List.mem_singleton.mp hy]; exact hk) (fun l pen2 hl => h l pen2 (by simp at hl ⊢; omega))
    simpa using this
theorem sum_one : ∀ {l : List Str}, (∀ y ∈ l, y.length = 1 ∧ PyData.strOk y = true) → (l.map (·.length)).sum = l.length
  | [], _ => rfl
  | x :: l, h => by
    have := sum_one (l := l) fun y hy => h y (List.mem_cons_of_mem _ hy)
    simp only [List.map_cons, List.sum_cons, List.length_cons, this, (h x (List.mem_cons_self ..)).1]; omega
theorem join_ok : ∀ {l : List Str}, (∀ y ∈ l, y.length = 1 ∧ PyData.strOk y = true) → (Str.join Str.empty l).length = l.length ∧ PyData.strOk (Str.join Str.empty l) = true := by
  intro l h
  have e := join_emp l
  constructor
  · rw [len_cs, e, List.length_flatten, ← sum_one h, show (l.map (·.cps.toList)).map List.length = l.map (·.length) from by rw [List.map_map]; apply List.map_congr_left; intro a _; exact (len_cs a).symm]

  · rw [strOk_all, e]
    simp only [List.all_eq_true, List.mem_flatten, List.mem_map]
    rintro c ⟨_, ⟨y, hy, rfl⟩, hc⟩
    have := (h y hy).2
    rw [strOk_all, List.all_eq_true] at this
    exact this c hc
theorem join_nm {l : List Str} (h : ∀ y ∈ l, Ltr y) (h1 : 1 ≤ l.length) (h8 : l.length ≤ 8) : isNm (Str.join Str.empty l) = true := by
  have hj := (join_ok fun y hy => (h y hy).1).1
  unfold isNm
  rw [hj, join_emp]
  have e1 : (1 : Int) ≤ (l.length : Int) := by omega
  have e2 : ((l.length : Nat) : Int) ≤ 8 := by omega
  simp only [e1, e2, decide_true, Bool.true_and, List.all_map, List.all_eq_true, Function.comp, id]
  intro c hc
  obtain ⟨t, ht, hct⟩ := List.mem_flatten.mp hc
  obtain ⟨y, hy, rfl⟩ := List.mem_map.mp ht
  exact (h y hy).2 c hct
theorem p_label {S_draw : L3.Spec} (hd : UDraw S_draw) {ds : List D} {own : Own} {Q : D → Own → Prop} (h : S_label ds own Q) : T_law_label S_draw { nx := fun _ o => Rt Q .non o, rt := Rt Q } (astart N_law_label ds) own := by
  obtain ⟨p, pen, b, rfl, ho, hp, k⟩ := h
  simp [T_law_label, astart, N_law_label]
  refine hd _ _ _ _ _ (b + 19) ho hp (by decide) (by decide) fun k1 pen1 a1 a2 hp1 => ?_
  simp
  refine hd _ _ _ _ _ (b + 18) oset_same hp1 (by decide) (by decide) fun k2 pen2 b1 b2 hp2 => ?_
  simp [oset_oset]
  have rest : ∀ n : Nat, 1 ≤ n → n ≤ 8 → ∀ z : Int, z = n → (-4611686018427387904 ≤ z ∧ z ≤ 16777216) ∧ aLcL (gN 6) aYes (aBin fIx (aV 1) (aCall S_draw [] (aCons (aV 0) (aCons (aC (.int 26)) aNil)))) (fun _ => True) (wipeA [some (.ref p), some (.str "abcdefghijklmnopqrstuvwxyz"), some (.lst [.str "text", .str "drop", .str "count", .str "number", .str "name", .str "row", .str "many", .str "not", .str "n"]), some (.int z), none, none, none] [6])
      (fun ds o => fJoin o (D.str Str.empty) (D.lst ds) fun z =>
              S_draw [D.ref p, D.int 9] o fun d o =>
                fIx0
                  (D.lst
                    [D.str (Str.ofString "text"), D.str (Str.ofString "drop"), D.str (Str.ofString "count"),
                      D.str (Str.ofString "number"), D.str (Str.ofString "name"), D.str (Str.ofString "row"),
                      D.str (Str.ofString "many"), D.str (Str.ofString "not"), D.str (Str.ofString "n")])
                  (see o d) fun z_1 =>
                  S_draw [D.ref p, D.int 4] o fun d o1 =>
                    eqAsk (see o1 d) (D.int 0) ∧
                      oP (atI [z, z_1] (if deq (see o1 d) (D.int 0) = true then 1 else 0)) fun z => Rt Q z o1) (rng 0 z.toNat) [] (oset own p (.lst pen2)) := by
    intro n hn0 hn z hz
    subst hz
    refine ⟨by omega, ?_⟩
    have := lc_label hd (own := own) (p := p) (al := "abcdefghijklmnopqrstuvwxyz") (e1 := none) (e2 := some (.lst [.str "text", .str "drop", .str "count", .str "number", .str "name", .str "row", .str "many", .str "not", .str "n"])) (e3 := some (.int n)) (e4 := none) (e5 := none) (e6 := none) (by decide +kernel) (by decide +kernel) (by decide +kernel)
      (P := fun ds o => fJoin o (D.str Str.empty) (D.lst ds) fun z =>
              S_draw [D.ref p, D.int 9] o fun d o =>
                fIx0
                  (D.lst
                    [D.str (Str.ofString "text"), D.str (Str.ofString "drop"), D.str (Str.ofString "count"),
                      D.str (Str.ofString "number"), D.str (Str.ofString "name"), D.str (Str.ofString "row"),
                      D.str (Str.ofString "many"), D.str (Str.ofString "not"), D.str (Str.ofString "n")])
                  (see o d) fun z_1 =>
                  S_draw [D.ref p, D.int 4] o fun d o1 =>
                    eqAsk (see o1 d) (D.int 0) ∧
                      oP (atI [z, z_1] (if deq (see o1 d) (D.int 0) = true then 1 else 0)) fun z => Rt Q z o1) n 0 [] pen2 (b + 10) (hp2.mono (by omega)) (by simp) (fun l pen' hl hok hp' => by
        rw [x_join]
        have hok1 : ∀ y ∈ l, y.length = 1 ∧ PyData.strOk y = true := fun y hy => (hok y hy).1
        have hs := sum_one hok1
        have hj := join_ok hok1
        have hn := join_nm hok
        simp at hl
        refine ⟨by rw [hs]; simp; omega, ?_⟩
        refine hd _ _ _ _ _ (b + 9) oset_same hp' (by decide) (by decide) fun k3 pen3 c1 c2 hp3 => ?_
        simp [oset_oset]
        refine atA c1 (by simpa using c2) fun d hm => ?_
        have hlab : ∃ y : Str, d = .str y ∧ Lab y ∧ isNm y = true := by
          simp at hm
          rcases hm with rfl | rfl | rfl | rfl | rfl | rfl | rfl | rfl | rfl <;> exact ⟨_, rfl, ⟨by decide +kernel, by decide +kernel⟩, by decide +kernel⟩
        obtain ⟨y, rfl, hy, hy2⟩ := hlab
        refine hd _ _ _ _ _ (b + 8) oset_same hp3 (by decide) (by decide) fun k4 pen4 d1 d2 hp4 => ?_
        simp [oset_oset]
        by_cases q : k4 = 0
        · simp [q]; exact Rt.mk (k _ _ hy hy2 (hp4.mono (by omega)))
        · simp [q]; exact Rt.mk (k _ _ ⟨by rw [hj.1]; omega, hj.2⟩ (hn (by omega) (by omega)) (hp4.mono (by omega))))
    have e : rng 0 ((n : Int)).toNat = (List.range' 0 n).map fun (i : Nat) => D.int (0 + (i : Int)) := by simp [rng, List.range_eq_range']
    rw [e]; exact this
  refine at4 b1 b2 ?_ ?_ ?_ ?_
  · exact rest 1 (by decide) (by decide) _ rfl
  · exact rest 8 (by decide) (by decide) _ rfl
  · exact rest (1 + k1).toNat (by omega) (by omega) _ (by omega)
  · exact rest 2 (by decide) (by decide) _ rfl


/-- signs -/
def S_signs : L3.Spec := fun ds own P => ∃ p pen b, ∃ least : Nat, ds = [.ref p, .int least] ∧ least ≤ 1 ∧ own p = some (.lst pen) ∧ Pn (b + 60) pen ∧ ∀ x pen', x.length ≤ 30 → PyData.strOk x = true → isSg least x = true → Pn b pen' → P (.str x) (oset own p (.lst pen'))
def One (y : Str) : Prop := y.length = 1 ∧ PyData.strOk y = true
theorem one_sign {c : Nat} (h : c < 0x110000) : One ⟨#[c]⟩ := ⟨rfl, by rw [strOk_all]; simpa using h⟩
def sing (c : Nat) : Str := ⟨#[c]⟩
theorem lc_signs {S_draw : L3.Spec} (hd : UDraw S_draw) {own : Own} {p : Addr} {e1 e2 e4 e5 : Option D} {sh : Int} (h0 : 0 < sh) (h1 : sh < 1000000) {P : List D → Own → Prop} : ∀ (cs ts : List Nat) (pen : List D) (b : Nat), Pn (b + cs.length) pen →
    (∀ (t : List Nat) pen', t.Sublist cs → Pn b pen' → P ((ts ++ t).map fun c => .str (sing c)) (oset own p (.lst pen'))) →
    aLcL (gN 5) (aB (aBin (fEq false) (aCall S_draw [] (aCons (aV 0) (aCons (aV 3) aNil))) (aC (.int 0)))) (aV 5) (fun _ => True) [some (.ref p), e1, e2, some (.int sh), e4, e5] P (cs.map fun c => .str (sing c)) (ts.map fun c => .str (sing c)) (oset own p (.lst pen))
  | [], ts, pen, b, hp, h => ⟨trivial, by have := h [] pen (List.nil_sublist _) hp; simpa using this⟩
  | c :: cs, ts, pen, b, hp, h => by
    rw [List.map_cons, x_lcC]
    refine ⟨trivial, ?_⟩
    simp
    refine hd _ _ _ _ _ (b + cs.length) oset_same hp h0 h1 fun k pen' k0 k1 hp' => ?_
    simp [oset_oset]
    by_cases q : k = 0
    · simp [q]
      have := lc_signs hd (own := own) (p := p) (e1 := e1) (e2 := e2) (e4 := e4) (e5 := e5) h0 h1 (P := P) cs (ts ++ [c]) pen' b hp' (fun t pen2 ht hp2 => by have := h (c :: t) pen2 (ht.cons_cons c) hp2; simpa using this)
      simpa using this
    · have q' : (k == 0) = false := by simpa using q
      simp only [q']
      exact lc_signs hd h0 h1 cs ts pen' b hp' fun t pen2 ht hp2 => h t pen2 (ht.cons c) hp2
def everyS : Str := ("\n !\"#$&'()*+,-./0129:;<=>?@AZ[\\]^_`abnz{|}~" : Str)

theorem sg_of {t : List Nat} (ht : t.Sublist everyS.cps.toList) {least : Nat} (h1 : least ≤ t.length) (h30 : t.length ≤ 30) : isSg least (Str.join Str.empty (t.map sing)) = true := by
  have ej : (Str.join Str.empty (t.map sing)).cps.toList = t := by
    rw [join_emp, List.map_map]
    have : ((fun s : Str => s.cps.toList) ∘ sing) = fun c => [c] := rfl
    rw [this]
    clear ht h1 h30
    induction t with
    | nil => rfl
    | cons c t ih => simp [ih]
  have el : (Str.join Str.empty (t.map sing)).length = t.length := by rw [len_cs, ej]
  have rise : everyS.cps.toList.Pairwise (fun a b => strLt ⟨#[a]⟩ ⟨#[b]⟩ = true) := by decide +kernel
  have inS : ∀ c ∈ everyS.cps.toList, oneIn ⟨#[c]⟩ sigS = true := by decide +kernel
  have rt := rise.sublist ht
  have i94 : ((t.length : Nat) : Int) ≤ 94 := by omega
  have il : ¬ ((t.length : Nat) : Int) < (least : Int) := by omega
  unfold isSg isText
  rw [el, ej]
  simp only [i94, il, decide_true, decide_false, Bool.true_and, Bool.not_false, Bool.and_true, List.all_map, Bool.and_eq_true, List.all_eq_true, Function.comp, id]
  refine ⟨fun c hc => inS c (ht.subset hc), ?_⟩
  have ec : (cutS (Str.join Str.empty (t.map sing)) (some 1) none).cps.toList = t.drop 1 := by
    rw [show (1 : Int) = ((1 : Nat) : Int) from rfl, cut_n, ej]
  rw [ec]
  clear ec ej el i94 il h1 h30 ht inS rise
  induction t with
  | nil => intro q hq; simp at hq
  | cons c t ih =>
    cases t with
    | nil => intro q hq; simp at hq
    | cons d t =>
      intro q hq
      have rt' := List.pairwise_cons.mp rt
      simp only [List.drop_succ_cons, List.drop_zero, List.zip_cons_cons] at hq
      rcases List.mem_cons.mp hq with rfl | hq
      · exact rt'.1 d (List.mem_cons_self ..)
      · exact ih rt'.2 q (by simpa using hq)
theorem p_signs {S_draw : L3.Spec} (hd : UDraw S_draw) {ds : List D} {own : Own} {Q : D → Own → Prop} (h : S_signs ds own Q) : T_law_signs S_draw { nx := fun _ o => Rt Q .non o, rt := Rt Q } (astart N_law_signs ds) own := by
  obtain ⟨p, pen, b, least, rfl, hle, ho, hp, k⟩ := h
  have el : everyS.cps.toList.length = 43 := by decide +kernel
  have ek : ∀ c ∈ everyS.cps.toList, c < 0x110000 := by decide +kernel
  have es : everyS.cps.size ≤ 16777216 := by decide +kernel
  have es2 : everyS.length ≤ 16777216 := by decide +kernel
  have en : everyS.length = 43 := by decide +kernel
  have eg := fun (t : List Nat) (ht : t.Sublist everyS.cps.toList) h1 h30 => sg_of (t := t) ht (least := least) h1 h30
  have ee : (Str.ofString "\n !\"#$&'()*+,-./0129:;<=>?@AZ[\\]^_`abnz{|}~") = everyS := rfl
  simp only [T_law_signs, ee]
  generalize everyS = ev at *
  simp [astart, N_law_signs]
  refine hd _ _ _ _ _ (b + 59) ho hp (by decide) (by decide) fun k1 pen1 a1 a2 hp1 => ?_
  simp [es]
  have rest : ∀ (t : List Nat), t.Sublist ev.cps.toList → least ≤ t.length → ∀ pen', Pn b pen' → ∀ o, o = oset own p (.lst pen') → fJoin o (D.str Str.empty) (.lst (L3.cutD (t.map fun c => D.str (sing c)) none (some 30))) fun z => Rt Q z o := by
    intro t ht hl pen' hp' o eo
    subst eo
    have et : L3.cutD (t.map fun c => D.str (sing c)) none (some 30) = ((t.take 30).map sing).map D.str := by
      unfold L3.cutD
      have h0 : HT.sIx (t.map fun c => D.str (sing c)).length 0 none = 0 := rfl
      have h30 : HT.sIx (t.map fun c => D.str (sing c)).length (t.map fun c => D.str (sing c)).length (some 30) = min 30 t.length := by
        rw [List.length_map]; exact HT.sIx_nat _ _ 30
      rw [h0, h30, List.drop_zero, Nat.sub_zero, List.map_map]
      show List.take _ (t.map (D.str ∘ sing)) = _
      rw [← List.map_take, show t.take (min 30 t.length) = t.take 30 from by rw [List.take_eq_take_iff]; omega]
    have hs := (List.take_sublist 30 t).trans ht
    have hone : ∀ y ∈ (t.take 30).map sing, y.length = 1 ∧ PyData.strOk y = true := fun y hy => by
      obtain ⟨c, hc, rfl⟩ := List.mem_map.mp hy
      exact one_sign (ek c (hs.subset hc))
    have hsum := sum_one hone
    have hj := join_ok hone
    have hlen : (t.take 30).length ≤ 30 := by simp; omega
    rw [et, x_join]
    refine ⟨by rw [hsum]; simp at hlen ⊢; omega, Rt.mk (k _ _ (by rw [hj.1, List.length_map]; exact hlen) hj.2 (eg _ hs (by simp; omega) hlen) hp')⟩
  have go : ∀ sh : Int, 0 < sh → sh < 1000000 → aLcL (gN 5) (aB (aBin (fEq false) (aCall S_draw [] (aCons (aV 0) (aCons (aV 3) aNil))) (aC (D.int 0)))) (aV 5)
      (fun x => True) [some (D.ref p), some (D.int least), some (D.str ev), some (.int sh), none, none]
      (fun ds o =>
        match decide (ds.length < least) with
        | true =>
          ev.length ≤ 16777216 ∧
            S_draw [D.ref p, D.int ev.length] o fun e o2 =>
              fIx0 (D.str ev) (see o2 e) fun z =>
                fJoin o2 (D.str Str.empty) (D.lst (L3.cutD [z] none (some 30))) fun z => Rt Q z o2
        | false => fJoin o (D.str Str.empty) (D.lst (L3.cutD ds none (some 30))) fun z => Rt Q z o)
      (L3.signs ev) [] (oset own p (MO.lst pen1)) := by
    intro sh s0 s1
    refine lc_signs hd (own := own) (p := p) s0 s1 ev.cps.toList [] pen1 (b + 5) (hp1.mono (by omega)) fun t pen' ht hp' => ?_
    rw [List.nil_append]
    by_cases q : (t.map fun c => D.str (sing c)).length < least
    · simp only [q, decide_true]
      refine ⟨es2, ?_⟩
      refine hd _ _ _ _ _ (b + 4) oset_same hp' (by omega) (by omega) fun k2 pen2 b1 b2 hp2 => ?_
      simp [oset_oset, es2]
      refine atA b1 (by omega) fun c hm => ?_
      exact rest [c] (List.singleton_sublist.mpr hm) (by simpa using hle) pen2 (hp2.mono (by omega)) _ rfl
    · simp only [q, decide_false]
      exact rest t ht (by simp at q; omega) pen' (hp'.mono (by omega)) _ rfl
  refine at4 a1 a2 (go _ ?_ ?_) (go _ ?_ ?_) (go _ ?_ ?_) (go _ ?_ ?_) <;> decide

/-! ### good readers -/
namespace Rdr
mutual
def Gd (ls : List Str) : Rdr → Prop
  | .leaf w => w = "nothing" ∨ w = "never"
  | .sg w x => (w = "sign" ∧ isSg 1 x = true ∨ w = "but" ∧ isSg 0 x = true) ∧ x.length ≤ 30 ∧ PyData.strOk x = true
  | .nm w l => (w = "again" ∨ w = "name" ∧ l ∈ ls) ∧ Lab l ∧ isNm l = true
  | .seq w ps => (w = "row" ∨ w = "choice") ∧ 2 ≤ ps.length ∧ ps.length ≤ 6 ∧ Gds ls ps
  | .one w p => (w = "many" ∨ w = "maybe" ∨ w = "ahead" ∨ w = "not") ∧ Gd ls p
  | .two w l p => (w = "hold" ∨ w = "tag" ∨ w = "make" ∧ isMk l = true) ∧ Lab l ∧ isNm l = true ∧ Gd ls p
def Gds (ls : List Str) : List Rdr → Prop
  | [] => True
  | r :: rs => Gd ls r ∧ Gds ls rs
end
theorem gds_iff {ls : List Str} : ∀ {rs : List Rdr}, Gds ls rs ↔ ∀ r ∈ rs, Gd ls r
  | [] => by unfold Gds; simp
  | r :: rs => by unfold Gds; rw [gds_iff (rs := rs)]; simp
mutual
theorem Gd.ok {ls : List Str} : ∀ {r : Rdr}, r.Gd ls → r.Ok 6
  | .leaf _, h => h
  | .sg _ _, h => ⟨h.1.imp (·.1) (·.1), h.2⟩
  | .nm _ _, h => ⟨h.1.imp _root_.id (·.1), h.2.1⟩
  | .seq _ ps, h => ⟨h.1, by intro z; rw [z] at h; exact absurd h.2.1 (by simp), h.2.2.1, Gds.oks h.2.2.2⟩
  | .one _ p, h => ⟨h.1, h.2.ok⟩
  | .two _ _ p, h => ⟨by rcases h.1 with e | e | e <;> simp [e], h.2.1, h.2.2.2.ok⟩
theorem Gds.oks {ls : List Str} : ∀ {rs : List Rdr}, Gds ls rs → Oks 6 rs
  | [], _ => trivial
  | _ :: _, h => ⟨h.1.ok, Gds.oks h.2⟩
end
mutual
theorem Gd.rdT {ls : List Str} : ∀ {r : Rdr} {n : Nat}, r.Gd ls → r.hgt ≤ n → r.rd n = true
  | r, 0, _, hh => by have := r.hgt_pos; omega
  | .leaf _, n + 1, h, hh => by unfold rd; rfl
  | .sg w x, n + 1, h, hh => by
    unfold rd
    rcases h.1 with ⟨rfl, e⟩ | ⟨rfl, e⟩ <;> simp [e]
  | .nm _ _, n + 1, h, hh => by unfold rd; exact h.2.2
  | .seq _ ps, n + 1, h, hh => by
    unfold rd; unfold hgt at hh
    have h2 := h.2.1; have h6 := h.2.2.1
    have g := Gds.rdsT h.2.2.2 (n := n) (by omega)
    simp [g]; omega
  | .one _ p, n + 1, h, hh => by unfold rd; unfold hgt at hh; exact h.2.rdT (by omega)
  | .two _ _ p, n + 1, h, hh => by
    unfold rd; unfold hgt at hh
    have g := h.2.2.2.rdT (n := n) (by omega)
    rcases h.1 with rfl | rfl | ⟨rfl, e⟩
    · simp [h.2.2.1, g]
    · simp [h.2.2.1, g]
    · simp [e, g]
theorem Gds.rdsT {ls : List Str} : ∀ {rs : List Rdr} {n : Nat}, Gds ls rs → hgts rs ≤ n → rds rs n = true
  | [], _, _, _ => by unfold rds; rfl
  | r :: rs, n, h, hh => by
    unfold hgts at hh; unfold rds
    rw [h.1.rdT (by omega), Gds.rdsT h.2 (by omega)]; rfl
end
theorem lab_len {l : Str} (h : Lab l) : l.length ≤ 1000000 := by have := h.1; omega
mutual
theorem Gd.fm {ls : List Str} : ∀ {r : Rdr}, r.Gd ls → r.Fm
  | .leaf _, h => h
  | .sg _ _, h => ⟨h.1.imp (·.1) (·.1), by have := h.2.1; omega⟩
  | .nm _ _, h => ⟨h.1.imp _root_.id (·.1), lab_len h.2.1⟩
  | .seq _ ps, h => ⟨h.1, by intro z; rw [z] at h; exact absurd h.2.1 (by simp), by have := h.2.2.1; omega, Gds.fms h.2.2.2⟩
  | .one _ p, h => ⟨h.1, h.2.fm⟩
  | .two _ _ p, h => ⟨by rcases h.1 with e | e | e <;> simp [e], lab_len h.2.1, h.2.2.2.fm⟩
theorem Gds.fms {ls : List Str} : ∀ {rs : List Rdr}, Gds ls rs → Fms rs
  | [], _ => trivial
  | _ :: _, h => ⟨h.1.fm, Gds.fms h.2⟩
end
mutual
theorem Gd.alls {ls : List Str} : ∀ {r : Rdr}, r.Gd ls → ∀ k ∈ r.all, k.Gd ls
  | .leaf _, h, k, hk => by simp [all] at hk; subst hk; exact h
  | .sg _ _, h, k, hk => by simp [all] at hk; subst hk; exact h
  | .nm _ _, h, k, hk => by simp [all] at hk; subst hk; exact h
  | .seq _ ps, h, k, hk => by
    simp only [all, List.mem_cons] at hk
    rcases hk with rfl | hk
    · exact h
    · exact Gds.allsT h.2.2.2 k hk
  | .one _ p, h, k, hk => by
    simp only [all, List.mem_cons] at hk
    rcases hk with rfl | hk
    · exact h
    · exact h.2.alls k hk
  | .two _ _ p, h, k, hk => by
    simp only [all, List.mem_cons] at hk
    rcases hk with rfl | hk
    · exact h
    · exact h.2.2.2.alls k hk
theorem Gds.allsT {ls : List Str} : ∀ {rs : List Rdr}, Gds ls rs → ∀ k ∈ Rdr.alls rs, k.Gd ls
  | [], _, k, hk => by simp [Rdr.alls] at hk
  | r :: rs, h, k, hk => by
    simp only [Rdr.alls, List.mem_append] at hk
    rcases hk with hk | hk
    · exact h.1.alls k hk
    · exact Gds.allsT h.2 k hk
end
theorem Gd.right {ls : List Str} {r : Rdr} (h : r.Gd ls) (hh : r.hgt ≤ 8) : rightB ls r = true := by
  unfold rightB
  rw [h.rdT hh, Bool.true_and]
  simp only [List.all_map, List.all_eq_true, Function.comp, List.mem_filter, beq_iff_eq]
  rintro k ⟨hk, hw⟩
  have g := h.alls k hk
  obtain ⟨x, rfl⟩ := fm_name hw g.fm
  have := g.1
  simp [nameOf]
  simpa using this
end Rdr
/-! ### labels at hand -/
def LabP (ls : List Str) : Prop := ls ≠ [] ∧ ls.length ≤ 8 ∧ ∀ l ∈ ls, Lab l ∧ isNm l = true
def USigns (S : L3.Spec) : Prop := ∀ (own : Own) (P : D → Own → Prop) (p : Addr) (pen : List D) (least b : Nat), least ≤ 1 → own p = some (.lst pen) → Pn (b + 60) pen → (∀ x pen', x.length ≤ 30 → PyData.strOk x = true → isSg least x = true → Pn b pen' → P (.str x) (oset own p (.lst pen'))) → S [.ref p, .int least] own P
theorem uSigns : USigns S_signs := fun own P p pen many b hl ho hp h => ⟨p, pen, b, many, rfl, hl, ho, hp, h⟩
def ULabel (S : L3.Spec) : Prop := ∀ (own : Own) (P : D → Own → Prop) (p : Addr) (pen : List D) (b : Nat), own p = some (.lst pen) → Pn (b + 20) pen → (∀ x pen', Lab x → isNm x = true → Pn b pen' → P (.str x) (oset own p (.lst pen'))) → S [.ref p] own P
theorem uLabel : ULabel S_label := fun own P p pen b ho hp h => ⟨p, pen, b, rfl, ho, hp, h⟩
def S_bare : L3.Spec := fun ds own P => ∃ p pen m ls b, ds = [.ref p, m] ∧ own p = some (.lst pen) ∧ LabP ls ∧ (∀ pen', see (oset own p (.lst pen')) m = .lst (ls.map .str)) ∧ Pn (b + 200) pen ∧ ∀ (r : Rdr) pen', r.Gd ls → r.size = 1 → r.hgt = 1 → Pn b pen' → P r.toD (oset own p (.lst pen'))
def UBare (S : L3.Spec) : Prop := ∀ (own : Own) (P : D → Own → Prop) (p : Addr) (pen : List D) (m : D) (ls : List Str) (b : Nat), own p = some (.lst pen) → LabP ls → (∀ pen', see (oset own p (.lst pen')) m = .lst (ls.map .str)) → Pn (b + 200) pen → (∀ (r : Rdr) pen', r.Gd ls → r.size = 1 → r.hgt = 1 → Pn b pen' → P r.toD (oset own p (.lst pen'))) → S [.ref p, m] own P
theorem uBare : UBare S_bare := fun own P p pen m ls b ho hl hs hp h => ⟨p, pen, m, ls, b, rfl, ho, hl, hs, hp, h⟩
theorem p_bare {S_draw S_signs S_label : L3.Spec} (hd : UDraw S_draw) (hs : USigns S_signs) (hl : ULabel S_label) {ds : List D} {own : Own} {Q : D → Own → Prop} (h : S_bare ds own Q) : T_law_bare S_draw S_signs S_label { nx := fun _ o => Rt Q .non o, rt := Rt Q } (astart N_law_bare ds) own := by
  obtain ⟨p, pen, m, ls, b, rfl, ho, ⟨ln, l8, lo⟩, sm, hp, k⟩ := h
  simp [T_law_bare, astart, N_law_bare]
  refine hd _ _ _ _ _ (b + 199) ho hp (by decide) (by decide) fun k1 pen1 a1 a2 hp1 => ?_
  simp
  refine hs _ _ _ _ 1 (b + 139) (by decide) oset_same hp1 fun x pen2 x1 x2 x3 hp2 => ?_
  simp [oset_oset]
  refine hs _ _ _ _ 0 (b + 79) (by decide) oset_same hp2 fun y pen3 y1 y2 y3 hp3 => ?_
  simp [oset_oset]
  refine hl _ _ _ _ (b + 59) oset_same hp3 fun z pen4 z1 z2 hp4 => ?_
  simp [oset_oset, sm]
  have l0 : 0 < ls.length := List.length_pos_iff.mpr ln
  refine hd _ _ _ _ _ (b + 58) oset_same hp4 (by omega) (by omega) fun k2 pen5 b1 b2 hp5 => ?_
  simp [oset_oset, sm]
  refine atA b1 (by simpa using b2) fun d hdm => ?_
  obtain ⟨l, hl1, rfl⟩ := List.mem_map.mp hdm
  have fin : ∀ r : Rdr, r.Gd ls → r.size = 1 → r.hgt = 1 → Rt Q r.toD (oset own p (.lst pen5)) := fun r r1 r2 r3 => Rt.mk (k r pen5 r1 r2 r3 (hp5.mono (by omega)))
  have ec : ∀ a b c d e f : D, L3.cutD [a, b, c, d, e, f] (some (-1)) none = [f] := fun _ _ _ _ _ _ => rfl
  simp [ec]
  refine atA a1 (by simpa using a2) fun d hdm => ?_
  simp at hdm
  rcases hdm with rfl | rfl | rfl | rfl | rfl | rfl
  · exact fin (.sg "sign" x) ⟨.inl ⟨rfl, x3⟩, x1, x2⟩ rfl rfl
  · exact fin (.sg "but" y) ⟨.inr ⟨rfl, y3⟩, y1, y2⟩ rfl rfl
  · exact fin (.leaf "nothing") (.inl rfl) rfl rfl
  · exact fin (.leaf "never") (.inr rfl) rfl rfl
  · exact fin (.nm "again" z) ⟨.inl rfl, z1, z2⟩ rfl rfl
  · exact fin (.nm "name" l) ⟨.inr ⟨rfl, hl1⟩, lo l hl1⟩ rfl rfl

/-! ### any -/
def O2 (base : Own) (p q : Addr) (pen : List D) (z : Int) : Own := oset (oset base p (.lst pen)) q (.lst [.int z])
section
variable {base : Own} {p q m : Addr} {pen pen' : List D} {z z' : Int}
theorem o2_q : O2 base p q pen z q = some (.lst [.int z]) := oset_same
theorem o2_p (h : q ≠ p) : O2 base p q pen z p = some (.lst pen) := by unfold O2; rw [oset_ne (Ne.symm h), oset_same]
theorem o2_m (h : m ≠ p) (h' : m ≠ q) : O2 base p q pen z m = base m := by unfold O2; rw [oset_ne h', oset_ne h]
theorem o2_sq : oset (O2 base p q pen z) q (.lst [.int z']) = O2 base p q pen z' := oset_oset
theorem oset_comm {o : Own} {m m' : MO} (h : q ≠ p) : oset (oset o q m) p m' = oset (oset o p m') q m := by
  funext a; unfold oset
  by_cases h1 : a = p
  · by_cases h2 : a = q
    · exact absurd (h2.symm.trans h1) h
    · rw [if_pos h1, if_neg h2, if_pos h1]
  · by_cases h2 : a = q
    · rw [if_neg h1, if_pos h2, if_pos h2]
    · rw [if_neg h1, if_neg h2, if_neg h2, if_neg h1]
theorem o2_sp (h : q ≠ p) : oset (O2 base p q pen z) p (.lst pen') = O2 base p q pen' z := by
  unfold O2; rw [oset_comm h, oset_oset]
theorem oset_id {o : Own} {m : MO} (h : o p = some m) : oset o p m = o := by
  funext a; unfold oset
  by_cases h1 : a = p
  · rw [if_pos h1, h1, h]
  · rw [if_neg h1]
theorem o2_id {own : Own} (h1 : own p = some (.lst pen)) (h2 : own q = some (.lst [.int z])) : O2 own p q pen z = own := by
  unfold O2; rw [oset_id h1, oset_id h2]
theorem o2_eq (h : q ≠ p) {own : Own} : O2 own p q pen z = oset (oset own p (.lst pen)) q (.lst [.int z]) := rfl
end
def cost0 : Nat → Nat
  | 0 => 0
  | n + 1 => 300 + 6 * cost0 n
@[irreducible] def cost (n : Nat) : Nat := cost0 n
theorem cost_s (n : Nat) : cost (n + 1) = 300 + 6 * cost n := by unfold cost; rfl
/-- what stands behind any: the reader, how many parts it has -/
abbrev AnyP (ls : List Str) (base : Own) (p q : Addr) (z deep : Int) (b : Nat) (P : D → Own → Prop) : Prop :=
  ∀ (r : Rdr) pen' z', r.Gd ls → (r.hgt : Int) ≤ deep → (r.size : Int) = z - z' → min (z - 1) (6 - 5 * deep) ≤ z' → Pn b pen' → P r.toD (O2 base p q pen' z')
def LabQ (base : Own) (p q : Addr) (m : D) (ls : List Str) : Prop := LabP ls ∧ ∀ pen z, see (O2 base p q pen z) m = .lst (ls.map .str)
def S_any (n : Nat) : L3.Spec := fun ds own P => ∃ base p pen q z m ls b deep, ds = [.ref p, .int deep, .ref q, m] ∧ own = O2 base p q pen z ∧ q ≠ p ∧ LabQ base p q m ls ∧ 1 ≤ deep ∧ deep ≤ n ∧ Pn (b + cost n) pen ∧ AnyP ls base p q z deep b P
def UAny (n : Nat) (S : L3.Spec) : Prop := ∀ (base : Own) (P : D → Own → Prop) (p : Addr) (pen : List D) (q : Addr) (z : Int) (m : D) (ls : List Str) (b : Nat) (deep : Int), q ≠ p → LabQ base p q m ls → 1 ≤ deep → deep ≤ n → Pn (b + cost n) pen → AnyP ls base p q z deep b P → S [.ref p, .int deep, .ref q, m] (O2 base p q pen z) P
theorem uAny (n : Nat) : UAny n (S_any n) := fun base P p pen q z m ls b deep h1 h3 h4 h5 h6 h7 => ⟨base, p, pen, q, z, m, ls, b, deep, rfl, rfl, h1, h3, h4, h5, h6, h7⟩
theorem sizes_snoc : ∀ (l : List Rdr) (r : Rdr), Rdr.sizes (l ++ [r]) = Rdr.sizes l + r.size
  | [], r => by simp [Rdr.sizes]
  | x :: l, r => by simp [Rdr.sizes, sizes_snoc l r]; omega
theorem lc_any {n : Nat} {S_any : L3.Spec} (ha : UAny n S_any) {base : Own} {p q : Addr} {m : D} {ls : List Str} {deep z0 : Int} {e4 e5 e6 e7 e8 : Option D} (qp : q ≠ p) (hl : LabQ base p q m ls) (h1 : 1 ≤ deep - 1) (h2 : deep - 1 ≤ n) {P : List D → Own → Prop} : ∀ (c j : Nat) (acc : List Rdr) (pen : List D) (z : Int) (b : Nat), Pn (b + c * cost n) pen → (∀ r ∈ acc, r.Gd ls ∧ (r.hgt : Int) ≤ deep - 1) → (Rdr.sizes acc : Int) = z0 - z → min (z0 - acc.length) (12 - 5 * deep - acc.length) ≤ z →
    (∀ (l : List Rdr) pen' z', l.length = acc.length + c → (∀ r ∈ l, r.Gd ls ∧ (r.hgt : Int) ≤ deep - 1) → (Rdr.sizes l : Int) = z0 - z' → min (z0 - l.length) (12 - 5 * deep - l.length) ≤ z' → Pn b pen' → P (l.map Rdr.toD) (O2 base p q pen' z')) →
    aLcL (gN 8) aYes (aCall S_any [] (aCons (aV 0) (aCons (aBin fSub (aV 1) (aC (.int 1))) (aCons (aV 2) (aCons (aV 3) aNil))))) (fun _ => True) [some (.ref p), some (.int deep), some (.ref q), some m, e4, e5, e6, e7, e8] P ((List.range' j c).map fun (i : Nat) => D.int (0 + (i : Int))) (acc.map Rdr.toD) (O2 base p q pen z)
  | 0, j, acc, pen, z, b, hp, hc, hs, hm, h => ⟨trivial, h acc pen z (by simp) hc hs hm (hp.mono (by omega))⟩
  | c + 1, j, acc, pen, z, b, hp, hc, hs, hm, h => by
    rw [List.range'_succ, List.map_cons, x_lcC]
    refine ⟨trivial, ?_⟩
    simp [C0]
    refine ha _ _ _ _ _ _ _ _ (b + c * cost n) _ qp hl h1 h2 (by rw [Nat.add_mul, Nat.one_mul, ← Nat.add_assoc] at hp; exact hp) fun r pen' z' r1 r2 r3 r4 hp' => ?_
    have := lc_any ha (e4 := e4) (e5 := e5) (e6 := e6) (e7 := e7) (e8 := e8) qp hl h1 h2 (z0 := z0) (P := P) c (j + 1) (acc ++ [r]) pen' z' b hp' (fun s hs => by rcases List.mem_append.mp hs with hs | hs; exact hc s hs; rw [List.mem_singleton.mp hs]; exact ⟨r1, r2⟩) (by rw [sizes_snoc]; omega) (by simp; omega) (fun l pen2 z2 hl => h l pen2 z2 (by simp at hl ⊢; omega))
    simpa using this
theorem p_any {n : Nat} {S_draw S_bare S_any' S_label : L3.Spec} (hd : UDraw S_draw) (hb : UBare S_bare) (ha : UAny n S_any') (hl : ULabel S_label) {ds : List D} {own : Own} {Q : D → Own → Prop} (h : S_any (n + 1) ds own Q) : T_law_any S_draw S_bare S_any' S_label { nx := fun _ o => Rt Q .non o, rt := Rt Q } (astart N_law_any ds) own := by
  obtain ⟨base, p, pen, q, z, m, ls, b, deep, rfl, rfl, qp, hL, d1, d2, hp, k⟩ := h
  have hc := cost_s n
  rw [hc] at hp
  have sq : ∀ pen z, see (O2 base p q pen z) (.ref q) = .lst [.int z] := fun _ _ => x_seeR o2_q
  have kq : ∀ pen z k, ownL (O2 base p q pen z) (.ref q) k = k q [.int z] := fun _ _ _ => x_ownL o2_q
  have sp : ∀ pen pen' z, oset (O2 base p q pen z) p (.lst pen') = O2 base p q pen' z := fun _ _ _ => o2_sp qp
  have ss : ∀ pen z z', oset (O2 base p q pen z) q (.lst [.int z']) = O2 base p q pen z' := fun _ _ _ => o2_sq
  simp [T_law_any, astart, N_law_any, sq, kq, ss, C0]
  refine hd _ _ _ _ _ (b + 299 + 6 * cost n) (o2_p qp) (hp.mono (by omega)) (by decide) (by decide) fun way pen1 w0 w1 hp1 => ?_
  simp [sp, sq]
  have bare : S_bare [D.ref p, m] (O2 base p q pen1 (z - 1)) (Rt Q) := hb _ _ _ _ _ _ (b + 99 + 6 * cost n) (o2_p qp) hL.1 (fun pen' => by rw [sp]; exact hL.2 _ _) (hp1.mono (by omega)) fun r pen' r1 r2 r3 hp' => by
    rw [sp]; exact Rt.mk (k r pen' _ r1 (by rw [r3]; exact d1) (by rw [r2]; omega) (by omega) (hp'.mono (by omega)))
  by_cases q1 : deep = 1
  · have : (deep == 1) = true := by simpa using q1
    simp only [this]; exact bare
  have e1 : (deep == 1) = false := by simpa using q1
  simp only [e1]
  by_cases q2 : z - 1 < 7
  · simp only [q2, decide_true]; exact bare
  simp only [q2, decide_false]
  by_cases q3 : way < 3
  · simp only [q3, decide_true]; exact bare
  simp only [q3, decide_false]
  have dn1 : 1 ≤ deep - 1 := by omega
  have dn2 : deep - 1 ≤ n := by omega
  by_cases q4 : way < 7
  · simp only [q4, decide_true]
    refine hd _ _ _ _ _ (b + 298 + 6 * cost n) (o2_p qp) (hp1.mono (by omega)) (by decide) (by decide) fun k2 pen2 b1 b2 hp2 => ?_
    have c3 : CDivW k2 3 := ⟨by decide, by decide⟩
    simp [sp, c3]
    have rest : ∀ (c : Nat) (z' : Int), z' = c → c ≤ 6 → 2 ≤ c → (-4611686018427387904 ≤ z' ∧ z' ≤ 16777216) ∧
                    aLcL (gN 8) aYes
                      (aCall S_any' []
                        (aCons (aV 0) (aCons (aBin fSub (aV 1) (aC (D.int 1))) (aCons (aV 2) (aCons (aV 3) aNil)))))
                      (fun x => True)
                      (wipeA
                        [some (D.ref p), some (D.int deep), some (D.ref q), some m, some (D.int way), none,
                          some (.int z'), none, none]
                        [8])
                      (fun ds o =>
                        oP (atI [D.str (Str.ofString "row"), D.str (Str.ofString "choice")] (way % 2)) fun z =>
                          Rt Q (D.tup [z, D.tup ds]) o)
                      (rng 0 z'.toNat) [] (O2 base p q pen2 (z - 1)) := by
      intro c z' ez hc6 hc0
      subst ez
      refine ⟨by omega, ?_⟩
      have e : rng 0 ((c : Int)).toNat = (List.range' 0 c).map fun (i : Nat) => D.int (0 + (i : Int)) := by simp [rng, List.range_eq_range']
      rw [e]
      have hcc : c * cost n ≤ 6 * cost n := Nat.mul_le_mul_right _ hc6
      refine lc_any ha qp hL dn1 dn2 (z0 := z - 1) c 0 [] pen2 (z - 1) b (hp2.mono (by omega)) (by simp) (by simp [Rdr.sizes]) (by simp; omega) fun l pen' z' hl' hok hsz hmz hp' => ?_
      simp at hl'
      have h0 : 0 ≤ way % 2 := Int.emod_nonneg _ (by decide)
      have h2 : way % 2 < 2 := Int.emod_lt_of_pos _ (by decide)
      have mk : ∀ w : Str, (w = "row" ∨ w = "choice") → Rt Q (.tup [.str w, .tup (l.map Rdr.toD)]) (O2 base p q pen' z') := fun w hw => by
        refine Rt.mk ?_
        have := k (.seq w l) pen' z' ⟨hw, by omega, by omega, Rdr.gds_iff.mpr fun r hr => (hok r hr).1⟩ (by
          have : Rdr.hgts l ≤ (deep - 1).toNat := Rdr.hgts_le fun r hr => by have := (hok r hr).2; omega
          unfold Rdr.hgt; omega) (by unfold Rdr.size; omega) (by omega) (hp'.mono (by omega))
        rw [Rdr.toD_seq] at this
        exact this
      refine at2 h0 h2 (mk _ (.inl rfl)) (mk _ (.inr rfl))
    refine at3 (Int.ediv_nonneg b1 (by decide)) (by omega) (rest 2 _ rfl (by decide) (by decide)) (rest 3 _ rfl (by decide) (by decide)) (rest 6 _ rfl (by decide) (by decide))
  simp only [q4, decide_false]
  refine ha _ _ _ _ _ _ _ _ (b + 99) _ qp hL dn1 dn2 (hp1.mono (by omega)) fun r pen2 z2 r1 r2 r3 r4 hp2 => ?_
  have hh : ((1 + r.hgt : Nat) : Int) ≤ deep := by omega
  have hs1 : ((1 + r.size : Nat) : Int) = z - z2 := by omega
  have hs2 : min (z - 1) (6 - 5 * deep) ≤ z2 := by omega
  by_cases q5 : way < 10
  · simp only [q5, decide_true]
    refine hd _ _ _ _ _ (b + 98) (o2_p qp) (hp2.mono (by omega)) (by decide) (by decide) fun k3 pen3 c1 c2 hp3 => ?_
    simp [sp]
    have mk : ∀ w : Str, (w = "many" ∨ w = "maybe" ∨ w = "ahead" ∨ w = "not") → Rt Q (.tup [.str w, r.toD]) (O2 base p q pen3 z2) := fun w hw => Rt.mk (by have := k (.one w r) pen3 z2 ⟨hw, r1⟩ hh hs1 hs2 (hp3.mono (by omega)); rw [Rdr.toD_one] at this; exact this)
    exact at4 c1 c2 (mk _ (.inl rfl)) (mk _ (.inr (.inl rfl))) (mk _ (.inr (.inr (.inl rfl)))) (mk _ (.inr (.inr (.inr rfl))))
  simp only [q5, decide_false]
  by_cases q6 : way = 10
  · have : (way == 10) = true := by simpa using q6
    simp only [this]
    refine hd _ _ _ _ _ (b + 98) (o2_p qp) (hp2.mono (by omega)) (by decide) (by decide) fun k3 pen3 c1 c2 hp3 => ?_
    simp [sp]
    have mk : ∀ l : Str, Lab l → isNm l = true → isMk l = true → Rt Q (.tup [.str "make", .str l, r.toD]) (O2 base p q pen3 z2) := fun l hl h2 h3 => Rt.mk (by have := k (.two "make" l r) pen3 z2 ⟨.inr (.inr ⟨rfl, h3⟩), hl, h2, r1⟩ hh hs1 hs2 (hp3.mono (by omega)); rw [Rdr.toD_two] at this; exact this)
    refine at4 c1 c2 (mk _ ⟨?_, ?_⟩ ?_ ?_) (mk _ ⟨?_, ?_⟩ ?_ ?_) (mk _ ⟨?_, ?_⟩ ?_ ?_) (mk _ ⟨?_, ?_⟩ ?_ ?_) <;> decide +kernel
  have e6 : (way == 10) = false := by simpa using q6
  simp only [e6]
  refine hd _ _ _ _ _ (b + 98) (o2_p qp) (hp2.mono (by omega)) (by decide) (by decide) fun k3 pen3 c1 c2 hp3 => ?_
  simp [sp]
  have mk : ∀ w : Str, (w = "hold" ∨ w = "tag") → S_label [D.ref p] (O2 base p q pen3 z2) fun d_1 o => Rt Q (.tup [.str w, d_1, r.toD]) o := fun w hw => hl _ _ _ _ (b + 78) (o2_p qp) (hp3.mono (by omega)) fun x pen4 hx hn hp4 => by
    rw [sp]; exact Rt.mk (by have := k (.two w x r) pen4 z2 ⟨by rcases hw with e | e <;> simp [e], hx, hn, r1⟩ hh hs1 hs2 (hp4.mono (by omega)); rw [Rdr.toD_two] at this; exact this)
  exact at2 c1 c2 (mk _ (.inl rfl)) (mk _ (.inr rfl))

/-! ### size -/
def S_size (n : Nat) : L3.Spec := fun ds own P => ∃ r : Rdr, ds = [r.toD] ∧ r.Ok 6 ∧ r.hgt ≤ n ∧ P (.int r.size) own
def USize (n : Nat) (S : L3.Spec) : Prop := ∀ (own : Own) (P : D → Own → Prop) (r : Rdr), r.Ok 6 → r.hgt ≤ n → P (.int r.size) own → S [r.toD] own P
theorem uSize (n : Nat) : USize n (S_size n) := fun own P r h1 h2 h3 => ⟨r, rfl, h1, h2, h3⟩
theorem sizes_sum : ∀ l : List Rdr, (l.map fun r => (r.size : Int)).sum = (Rdr.sizes l : Int)
  | [] => rfl
  | r :: l => by unfold Rdr.sizes; simp only [List.map_cons, List.sum_cons, sizes_sum l]; omega
theorem p_size {n : Nat} {S : L3.Spec} (hs : USize n S) {ds : List D} {own : Own} {Q : D → Own → Prop} (h : S_size (n + 1) ds own Q) : T_law_size S { nx := fun _ o => Rt Q .non o, rt := Rt Q } (astart N_law_size ds) own := by
  obtain ⟨r, rfl, ok, hh, k⟩ := h
  have k' := Rt.mk k
  clear k
  cases r with
  | leaf w =>
    unfold Rdr.size at k'
    unfold Rdr.toD
    rcases ok with rfl | rfl <;> simp [T_law_size, astart, N_law_size] <;> exact k'
  | sg w x =>
    unfold Rdr.size at k'
    unfold Rdr.toD
    rcases ok.1 with rfl | rfl <;> simp [T_law_size, astart, N_law_size] <;> exact k'
  | nm w x =>
    unfold Rdr.size at k'
    unfold Rdr.toD
    rcases ok.1 with rfl | rfl <;> simp [T_law_size, astart, N_law_size] <;> exact k'
  | one w p =>
    unfold Rdr.size at k'
    unfold Rdr.hgt at hh
    unfold Rdr.toD
    have g : S [p.toD] own fun d o => fAdd0 (.int 1) (see o d) fun z => Rt Q z o := hs _ _ p ok.2 (by omega) (by simpa using k')
    rcases ok.1 with rfl | rfl | rfl | rfl <;> simp [T_law_size, astart, N_law_size] <;> exact g
  | two w l p =>
    unfold Rdr.size at k'
    unfold Rdr.hgt at hh
    unfold Rdr.toD
    have g : S [p.toD] own fun d o => fAdd0 (.int 1) (see o d) fun z => Rt Q z o := hs _ _ p ok.2.2 (by omega) (by simpa using k')
    rcases ok.1 with rfl | rfl | rfl <;> simp [T_law_size, astart, N_law_size] <;> exact g
  | seq w l =>
    unfold Rdr.size at k'
    unfold Rdr.hgt at hh
    unfold Rdr.toD
    rw [Rdr.toDs_map]
    have ok' := Rdr.oks_iff.mp ok.2.2.2
    rcases ok.1 with rfl | rfl <;> simp [T_law_size, astart, N_law_size]
    all_goals
      refine lc_pure Rdr.toD (fun r => D.int r.size) trivial (fun r hr Q' hq => ?_) ?_
      · simp
        exact hs _ _ r (ok' r hr) (by have := Rdr.le_hgts hr; omega) hq
      · simp [sizes_sum]
        simpa using k'

/-! ### pages -/
def PgOk (n : Nat) (ls : List Str) (x : Str × Rdr) : Prop := Lab x.1 ∧ isNm x.1 = true ∧ x.2.Gd ls ∧ x.2.hgt ≤ 8 ∧ x.2.size * n ≤ 72
structure PgsOk (l : List (Str × Rdr)) : Prop where
  ne : l ≠ []
  l8 : l.length ≤ 8
  nd : (l.map (·.1)).Nodup
  ok : ∀ x ∈ l, PgOk l.length (l.map (·.1)) x
def costP : Nat := 2000 + 8 * (300 + cost 8)
def S_pages : L3.Spec := fun ds own P => ∃ p pen b, ds = [.ref p] ∧ own p = some (.lst pen) ∧ Pn (b + costP) pen ∧ ∀ (l : List (Str × Rdr)) pen', PgsOk l → Pn b pen' → P (.tup (l.map pg)) (oset own p (.lst pen'))
def UPages (S : L3.Spec) : Prop := ∀ (own : Own) (P : D → Own → Prop) (p : Addr) (pen : List D) (b : Nat), own p = some (.lst pen) → Pn (b + costP) pen → (∀ (l : List (Str × Rdr)) pen', PgsOk l → Pn b pen' → P (.tup (l.map pg)) (oset own p (.lst pen'))) → S [.ref p] own P
theorem uPages : UPages S_pages := fun own P p pen b h1 h2 h3 => ⟨p, pen, b, rfl, h1, h2, h3⟩
theorem turns1 {S_label : L3.Spec} (hl : ULabel S_label) {base : Own} {p m : Addr} (mp : m ≠ p) {E : AEnds} {e3 e4 e6 : Option D} {b : Nat}
    (h : ∀ (own : Own) (ls : List Str) pen e2 e5, own p = some (.lst pen) → own m = some (.lst (ls.map .str)) → (∀ a, a ≠ p → a ≠ m → own a = base a) → (∀ l ∈ ls, Lab l ∧ isNm l = true) → ls.Nodup → ls ≠ [] → ls.length ≤ 8 → Pn b pen → E.nx [some (.ref p), some (.ref m), e2, e3, e4, e5, e6] own) :
    ∀ (ds : List D) (own : Own) (ls : List Str) (pen : List D) (e2 e5 : Option D), own p = some (.lst pen) → own m = some (.lst (ls.map .str)) → (∀ a, a ≠ p → a ≠ m → own a = base a) → (∀ l ∈ ls, Lab l ∧ isNm l = true) → ls.Nodup → (ls ≠ [] ∨ ds ≠ []) → ls.length + ds.length ≤ 8 → Pn (b + ds.length * 20) pen →
      aTurns (gN 2) (aSeq (aAsg (aCall S_label [] (aCons (aV 0) aNil)) (gN 5)) (aIfS (aB (aBin (fIn true) (aV 5) (aV 1))) (aDrop (aApp (aV 1) (aV 5))) aNext)) (fun _ => True) E ds [some (.ref p), some (.ref m), e2, e3, e4, e5, e6] own
  | [], own, ls, pen, e2, e5, h1, h2, h3, h4, hnd, h5, h6, h7 => ⟨trivial, h own ls pen e2 e5 h1 h2 h3 h4 hnd (by simpa using h5) (by simpa using h6) (h7.mono (by simp))⟩
  | d :: ds, own, ls, pen, e2, e5, h1, h2, h3, h4, hnd, h5, h6, h7 => by
    rw [x_turC]
    refine ⟨trivial, ?_⟩
    simp
    simp at h6 h7
    refine hl _ _ _ _ (b + ds.length * 20) h1 (h7.mono (by omega)) fun x pen' hx hxn hp' => ?_
    have m2 : oset own p (.lst pen') m = some (.lst (ls.map .str)) := by rw [oset_ne mp]; exact h2
    simp [x_seeR m2, x_ownL m2]
    cases hb : hasD (.str x) (ls.map D.str) with
    | true =>
      simp
      have ne : ls ≠ [] := by rintro rfl; simp at hb
      exact turns1 hl mp h ds _ ls pen' (some d) (some (.str x)) oset_same m2 (fun a a1 a2 => by rw [oset_ne a1]; exact h3 a a1 a2) h4 hnd (.inl ne) (by omega) hp'
    | false =>
      simp
      refine ⟨by omega, ?_⟩
      have nin : x ∉ ls := by rw [hasD_strs] at hb; simpa using hb
      exact turns1 hl mp h ds _ (ls ++ [x]) pen' (some d) (some (.str x)) (by rw [oset_ne (Ne.symm mp)]; exact oset_same) (by rw [oset_same]; simp) (fun a a1 a2 => by rw [oset_ne a2, oset_ne a1]; exact h3 a a1 a2)
        (fun l hl => by rcases List.mem_append.mp hl with hl | hl; exact h4 l hl; rw [List.mem_singleton.mp hl]; exact ⟨hx, hxn⟩) (List.nodup_append.mpr ⟨hnd, by simp, fun a ha b hb => by rw [List.mem_singleton.mp hb]; rintro rfl; exact nin ha⟩) (.inl (by simp)) (by simp; omega) hp'
theorem any_at {n : Nat} {S : L3.Spec} (ha : UAny n S) {own : Own} {P : D → Own → Prop} {p : Addr} {pen : List D} {q : Addr} {z : Int} {m : D} {ls : List Str} {b : Nat} {deep : Int} (h1 : own p = some (.lst pen)) (h2 : own q = some (.lst [.int z])) (qp : q ≠ p) (hl : LabQ own p q m ls) (d1 : 1 ≤ deep) (d2 : deep ≤ n) (hp : Pn (b + cost n) pen)
    (h : ∀ (r : Rdr) pen' z', r.Gd ls → (r.hgt : Int) ≤ deep → (r.size : Int) = z - z' → min (z - 1) (6 - 5 * deep) ≤ z' → Pn b pen' → P r.toD (oset (oset own p (.lst pen')) q (.lst [.int z']))) : S [.ref p, .int deep, .ref q, m] own P := by
  have := ha own P p pen q z m ls b deep qp hl d1 d2 hp fun r pen' z' r1 r2 r3 r4 r5 => h r pen' z' r1 r2 r3 r4 r5
  rw [o2_id h1 h2] at this
  exact this
theorem turns2 {S_draw S_any S_size S_bare : L3.Spec} (hd : UDraw S_draw) (ha : UAny 8 S_any) (hz : USize 8 S_size) (hb : UBare S_bare) {base : Own} {p m q f : Addr} {ls : List Str} (mp : m ≠ p) (qp : q ≠ p) (mq : m ≠ q) (fp : f ≠ p) (fm : f ≠ m) (fq : f ≠ q) (hls : LabP ls) {E : AEnds} {e2 : Option D} {b : Nat}
    (h : ∀ (own : Own) (fl : List (Str × Rdr)) pen z e5 e6, own p = some (.lst pen) → own m = some (.lst (ls.map .str)) → own q = some (.lst [.int z]) → own f = some (.lst (fl.map pg)) → (∀ a, a ≠ p → a ≠ m → a ≠ q → a ≠ f → own a = base a) → (∀ x ∈ fl, PgOk ls.length ls x) → fl.map (·.1) = ls → Pn b pen → E.nx [some (.ref p), some (.ref m), e2, some (.ref q), some (.ref f), e5, e6] own) :
    ∀ (xs : List Str) (own : Own) (fl : List (Str × Rdr)) (pen : List D) (z : Int) (e5 e6 : Option D), own p = some (.lst pen) → own m = some (.lst (ls.map .str)) → own q = some (.lst [.int z]) → own f = some (.lst (fl.map pg)) → (∀ a, a ≠ p → a ≠ m → a ≠ q → a ≠ f → own a = base a) → (∀ x ∈ fl, PgOk ls.length ls x) → fl.map (·.1) ++ xs = ls → Pn (b + xs.length * (300 + cost 8)) pen →
      aTurns (gN 5) (aSeq (aAsg (aBin fDiv (aC (.int 56)) (aFn (f1 gLen) (aCons (aV 1) aNil))) (gSubL (aV 3) (aC (.int 0))))
  (aSeq (aAsg (aCall S_any [] (aCons (aV 0) (aCons (aBin fAdd (aC (.int 1)) (aCall S_draw [] (aCons (aV 0) (aCons (aC (.int 8)) aNil)))) (aCons (aV 3) (aCons (aV 1) aNil))))) (gN 6))
  (aSeq (aIfS (aB (aBin fGt (aCall S_size [] (aCons (aV 6) aNil)) (aBin fDiv (aC (.int 72)) (aFn (f1 gLen) (aCons (aV 1) aNil))))) (aAsg (aCall S_bare [] (aCons (aV 0) (aCons (aV 1) aNil))) (gN 6)) aNext)
  (aDrop (aApp (aV 4) (aTup (aCons (aV 5) (aCons (aV 6) aNil)))))))) (fun o' => see o' (.ref m) = .lst (ls.map .str)) E (xs.map .str) [some (.ref p), some (.ref m), e2, some (.ref q), some (.ref f), e5, e6] own
  | [], own, fl, pen, z, e5, e6, h1, h2, h3, h4, h5, h6, h7, h9 => ⟨x_seeR h2, h own fl pen z e5 e6 h1 h2 h3 h4 h5 h6 (by simpa using h7) (h9.mono (by simp))⟩
  | x :: xs, own, fl, pen, z, e5, e6, h1, h2, h3, h4, h5, h6, h7, h9 => by
    rw [List.map_cons, x_turC]
    refine ⟨x_seeR h2, ?_⟩
    obtain ⟨l0, l8, hlab⟩ := id hls
    have h8 : fl.length + (xs.length + 1) ≤ 8 := by have := congrArg List.length h7; simp at this; omega
    simp at h9
    have len0 : (0 : Int) < (ls.length : Int) := by have := List.length_pos_iff.mpr l0; omega
    have dv : ∀ i : Int, CDivW i (ls.length : Int) := fun i => Sm.cdiv len0 (.ofLt (by omega) (by omega) : Sm 40 (ls.length : Int))
    have m2 : ∀ v, oset own q v m = some (.lst (ls.map .str)) := fun v => by rw [oset_ne mq]; exact h2
    simp [x_seeR h2, dv, x_ownL h3]
    generalize hz0 : (56 : Int) / (ls.length : Int) = z0
    have p3 : oset own q (.lst [.int z0]) p = some (.lst pen) := by rw [oset_ne (Ne.symm qp)]; exact h1
    refine hd _ _ _ _ _ (b + xs.length * (300 + cost 8) + 299 + cost 8) p3 (h9.mono (by rw [Nat.add_mul]; omega)) (by decide) (by decide) fun k pen1 k0 k1 hp1 => ?_
    simp
    refine any_at ha (z := z0) (b := b + xs.length * (300 + cost 8) + 299) oset_same (by rw [oset_ne qp]; exact oset_same) qp ⟨hls, fun pen z => x_seeR (by rw [o2_m mp mq, oset_ne mp, oset_ne mq]; exact h2)⟩ (by omega) (by omega) (hp1.mono (by omega)) fun r pen2 z2 r1 r2 r3 r4 hp2 => ?_
    refine hz _ _ r r1.ok (by omega) ?_
    generalize ho : oset (oset (oset (oset own q (.lst [.int z0])) p (.lst pen1)) p (.lst pen2)) q (.lst [.int z2]) = o2
    have q1 : o2 p = some (.lst pen2) := by rw [← ho, oset_ne (Ne.symm qp), oset_same]
    have q2 : o2 m = some (.lst (ls.map .str)) := by rw [← ho, oset_ne mq, oset_ne mp, oset_ne mp, oset_ne mq]; exact h2
    have q3 : o2 q = some (.lst [.int z2]) := by rw [← ho]; exact oset_same
    have q4 : o2 f = some (.lst (fl.map pg)) := by rw [← ho, oset_ne fq, oset_ne fp, oset_ne fp, oset_ne fq]; exact h4
    have q5 : ∀ a, a ≠ p → a ≠ m → a ≠ q → a ≠ f → o2 a = base a := fun a a1 a2 a3 a4 => by rw [← ho, oset_ne a3, oset_ne a1, oset_ne a1, oset_ne a3]; exact h5 a a1 a2 a3 a4
    clear ho
    simp [x_seeR q2, dv]
    have hx := hlab x (by rw [← h7]; simp)
    by_cases big : (72 : Int) / (ls.length : Int) < (r.size : Int)
    · simp only [big, decide_true]
      refine hb _ _ _ _ _ ls (b + xs.length * (300 + cost 8)) q1 hls (fun pen' => x_seeR (by rw [oset_ne mp]; exact q2)) (hp2.mono (by omega)) fun r' pen3 s1 s2 s3 hp3 => ?_
      have t4 : oset o2 p (.lst pen3) f = some (.lst (fl.map pg)) := by rw [oset_ne fp]; exact q4
      have t2 : oset o2 p (.lst pen3) m = some (.lst (ls.map .str)) := by rw [oset_ne mp]; exact q2
      have t3 : oset o2 p (.lst pen3) q = some (.lst [.int z2]) := by rw [oset_ne qp]; exact q3
      have t5 : ∀ a, a ≠ p → a ≠ m → a ≠ q → a ≠ f → oset o2 p (.lst pen3) a = base a := fun a a1 a2 a3 a4 => by rw [oset_ne a1]; exact q5 a a1 a2 a3 a4
      have pk : PgOk ls.length ls (x, r') := ⟨hx.1, hx.2, s1, by show r'.hgt ≤ 8; omega, by show r'.size * _ ≤ 72; rw [s2]; omega⟩
      rw [x_ownL t4, x_ownL t4]
      refine ⟨by simp; omega, ?_⟩
      rw [show fl.map pg ++ [D.tup [.str x, Rdr.toD r']] = (fl ++ [(x, r')]).map pg from by simp [pg]]
      exact turns2 hd ha hz hb mp qp mq fp fm fq hls h xs _ (fl ++ [(x, r')]) pen3 z2 _ _ (by rw [oset_ne (Ne.symm fp)]; exact oset_same) (by rw [oset_ne (Ne.symm fm)]; exact t2) (by rw [oset_ne (Ne.symm fq)]; exact t3) oset_same (fun a a1 a2 a3 a4 => by rw [oset_ne a4]; exact t5 a a1 a2 a3 a4)
        (fun y hy => by rcases List.mem_append.mp hy with hy | hy; exact h6 y hy; rw [List.mem_singleton.mp hy]; exact pk) (by simpa using h7) hp3
    · simp only [big, decide_false]
      have pk : PgOk ls.length ls (x, r) := ⟨hx.1, hx.2, r1, by show r.hgt ≤ 8; omega, by
        show r.size * ls.length ≤ 72
        have h1 : (r.size : Int) ≤ (72 : Int) / (ls.length : Int) := by omega
        have h2 := (Int.le_ediv_iff_mul_le len0).mp h1
        have h3 : ((r.size * ls.length : Nat) : Int) ≤ 72 := by rw [Int.natCast_mul]; exact h2
        omega⟩
      rw [x_ownL q4, x_ownL q4]
      refine ⟨by simp; omega, ?_⟩
      rw [show fl.map pg ++ [D.tup [.str x, Rdr.toD r]] = (fl ++ [(x, r)]).map pg from by simp [pg]]
      exact turns2 hd ha hz hb mp qp mq fp fm fq hls h xs _ (fl ++ [(x, r)]) pen2 z2 _ _ (by rw [oset_ne (Ne.symm fp)]; exact q1) (by rw [oset_ne (Ne.symm fm)]; exact q2) (by rw [oset_ne (Ne.symm fq)]; exact q3) oset_same (fun a a1 a2 a3 a4 => by rw [oset_ne a4]; exact q5 a a1 a2 a3 a4)
        (fun y hy => by rcases List.mem_append.mp hy with hy | hy; exact h6 y hy; rw [List.mem_singleton.mp hy]; exact pk) (by simpa using h7) (hp2.mono (by omega))
theorem p_pages {S_draw S_label S_any S_size S_bare : L3.Spec} (hd : UDraw S_draw) (hl : ULabel S_label) (ha : UAny 8 S_any) (hz : USize 8 S_size) (hb : UBare S_bare) {ds : List D} {own : Own} {Q : D → Own → Prop} (h : S_pages ds own Q) : T_law_pages S_draw S_label S_any S_size S_bare { nx := fun _ o => Rt Q .non o, rt := Rt Q } (astart N_law_pages ds) own := by
  obtain ⟨p, pen, b, rfl, ho, hp, k⟩ := h
  unfold costP at hp
  simp [T_law_pages, astart, N_law_pages]
  intro m hm
  have mp : m ≠ p := by rintro rfl; rw [hm] at ho; cases ho
  refine hd _ _ _ _ _ (b + 1999 + 8 * (300 + cost 8)) (by rw [oset_ne (Ne.symm mp)]; exact ho) (hp.mono (by omega)) (by decide) (by decide) fun k1 pen1 a1 a2 hp1 => ?_
  simp
  refine hd _ _ _ _ _ (b + 1998 + 8 * (300 + cost 8)) oset_same (hp1.mono (by omega)) (by decide) (by decide) fun k2 pen2 b1 b2 hp2 => ?_
  simp [oset_oset]
  generalize hE : AEnds.mk (aSeq _ _ _) _ _ _ = E
  have tail : ∀ (own1 : Own) (ls : List Str) pen e2 e5, own1 p = some (.lst pen) → own1 m = some (.lst (ls.map .str)) → (∀ a, a ≠ p → a ≠ m → own1 a = own a) → (∀ l ∈ ls, Lab l ∧ isNm l = true) → ls.Nodup → ls ≠ [] → ls.length ≤ 8 → Pn (b + 1000 + 8 * (300 + cost 8)) pen → E.nx [some (.ref p), some (.ref m), e2, none, none, e5, none] own1 := by
    intro own1 ls pen3 e2 e5 h1 h2 h3 h4 hnd h5 h6 h7
    subst hE
    simp
    intro q hq f hf
    have qp : q ≠ p := by rintro rfl; rw [hq] at h1; cases h1
    have qm : q ≠ m := by rintro rfl; rw [hq] at h2; cases h2
    have fq : f ≠ q := by rintro rfl; rw [oset_same] at hf; cases hf
    rw [oset_ne fq] at hf
    have fp : f ≠ p := by rintro rfl; rw [hf] at h1; cases h1
    have fm : f ≠ m := by rintro rfl; rw [hf] at h2; cases h2
    have gm : oset (oset own1 q (.lst [.int 0])) f (.lst []) m = some (.lst (ls.map .str)) := by rw [oset_ne (Ne.symm fm), oset_ne (Ne.symm qm)]; exact h2
    simp [x_seeR gm]
    refine turns2 hd ha hz hb (base := own1) mp qp (Ne.symm qm) fp fm fq ⟨h5, h6, h4⟩ (b := b) (fun own2 fl pen4 z e5 e6 t1 t2 t3 t4 t5 t6 t7 t8 => ?_) ls _ [] pen3 0 _ _ (by rw [oset_ne (Ne.symm fp), oset_ne (Ne.symm qp)]; exact h1) gm (by rw [oset_ne (Ne.symm fq)]; exact oset_same) oset_same (fun a a1 a2 a3 a4 => by rw [oset_ne a4, oset_ne a3]) (by simp) (by simp) (h7.mono (by have := Nat.mul_le_mul_right (300 + cost 8) h6; omega))
    simp [x_seeR t4]
    have tl : fl.length = ls.length := by rw [← t7, List.length_map]
    refine Rt.drop (o' := oset own p (.lst pen4)) (fun a mo e => ?_) (k fl pen4 ⟨by rintro rfl; apply h5; rw [← t7]; rfl, by omega, by rw [t7]; exact hnd, by rw [t7, tl]; exact t6⟩ t8)
    by_cases ap : a = p
    · subst ap; rw [oset_same] at e; rw [t1]; exact e
    · rw [oset_ne ap] at e
      have am : a ≠ m := by rintro rfl; rw [hm] at e; cases e
      have aq : a ≠ q := by rintro rfl; rw [← h3 _ ap am, hq] at e; cases e
      have af : a ≠ f := by rintro rfl; rw [← h3 _ ap am, hf] at e; cases e
      rw [t5 a ap am aq af, h3 a ap am]; exact e
  clear hE
  have go : ∀ (n : Nat) (z : Int), z = n → 0 < n → n ≤ 8 → (-4611686018427387904 ≤ z ∧ z ≤ 16777216) ∧
        aTurns (gN 2)
          (aSeq (aAsg (aCall S_label [] (aCons (aV 0) aNil)) (gN 5))
            (aIfS (aB (aBin (fIn true) (aV 5) (aV 1))) (aDrop (aApp (aV 1) (aV 5))) aNext))
          (fun x => True) E (rng 0 z.toNat) [some (D.ref p), some (D.ref m), none, none, none, none, none]
          (oset (oset own m (MO.lst [])) p (MO.lst pen2)) := by
    intro n z ez n0 n8
    subst ez
    refine ⟨by omega, ?_⟩
    have lr : (rng 0 ((n : Int)).toNat).length = n := by simp [rng]
    exact turns1 hl (base := own) mp (b := b + 1000 + 8 * (300 + cost 8)) (fun own1 ls pen e2 e5 h1 h2 h3 h4 hnd h5 h6 h7 => tail own1 ls pen e2 e5 h1 h2 h3 h4 hnd h5 h6 h7) (rng 0 ((n : Int)).toNat) _ [] pen2 none none oset_same (by rw [oset_ne mp]; exact oset_same) (fun a a1 a2 => by rw [oset_ne a1, oset_ne a2]) (by simp) (by simp) (.inr (by intro z; rw [z] at lr; simp at lr; omega)) (by rw [lr]; simpa using n8) (hp2.mono (by rw [lr]; omega))
  refine at4 b1 b2 (go 1 _ rfl (by decide) (by decide)) (go 2 _ rfl (by decide) (by decide)) (go (1 + k1).toNat _ (by omega) (by omega) (by omega)) (go 8 _ rfl (by decide) (by decide))

/-! ### what is shown -/
def mk1 (c : Nat) : Str := if c = 10 then "\\n" else if c = 93 then "\\]" else if c = 94 then "\\^" else if c = 92 then "\\\\" else ⟨#[c]⟩
def marks (x : Str) : Str := Str.join Str.empty (x.cps.toList.map mk1)
namespace Rdr
def parK : Nat → Rdr → Bool
  | 0, .seq w _ => w == "choice"
  | 1, .seq _ _ => true
  | 2, .seq _ _ => true
  | 2, .one _ _ => true
  | 2, .two _ _ _ => true
  | _, _ => false
def par (k : Nat) (r : Rdr) (s : Str) : Str := if parK k r then "(" ++ (s ++ ")") else s
mutual
def shown : Rdr → Str
  | .leaf w => if w = "never" then "~" else "()"
  | .sg w x => if w = "but" then "[^" ++ (marks x ++ "]") else "[" ++ (marks x ++ "]")
  | .nm w l => if w = "again" then "=" ++ l else l
  | .seq w ps => if w = "row" then Str.join " " (shownP 1 ps) else Str.join " / " (shownP 0 ps)
  | .one w p => if w = "many" then par 2 p (shown p) ++ "*" else if w = "maybe" then par 2 p (shown p) ++ "?" else if w = "ahead" then "&" ++ par 2 p (shown p) else "!" ++ par 2 p (shown p)
  | .two w l p => l ++ ((if w = "hold" then (":" : Str) else if w = "tag" then ("@" : Str) else ("#" : Str)) ++ par 2 p (shown p))
def shownP (k : Nat) : List Rdr → List Str
  | [] => []
  | r :: rs => par k r (shown r) :: shownP k rs
end
theorem shownP_map (k : Nat) : ∀ rs : List Rdr, shownP k rs = rs.map fun r => par k r (shown r)
  | [] => by unfold shownP; rfl
  | r :: rs => by unfold shownP; rw [shownP_map k rs]; rfl
theorem len_par (k : Nat) (r : Rdr) (s : Str) : (par k r s).length ≤ s.length + 2 := by
  unfold par; split
  · have h1 : (Str.ofString "(").length = 1 := by decide +kernel
    have h2 : (Str.ofString ")").length = 1 := by decide +kernel
    simp only [len_app, h1, h2]; omega
  · omega
end Rdr
theorem len_mk1 (c : Nat) : (mk1 c).length ≤ 2 := by
  unfold mk1
  split; decide +kernel
  split; decide +kernel
  split; decide +kernel
  split; decide +kernel
  exact Nat.le_succ 1
theorem sum_le {n : Nat} : ∀ {l : List Str}, (∀ y ∈ l, y.length ≤ n) → (l.map (·.length)).sum ≤ n * l.length
  | [], _ => by simp
  | x :: l, h => by
    have := sum_le (l := l) fun y hy => h y (List.mem_cons_of_mem _ hy)
    have hx := h x (List.mem_cons_self ..)
    simp only [List.map_cons, List.sum_cons, List.length_cons, Nat.mul_add, Nat.mul_one]; omega
theorem marks_sum (x : Str) : ((x.cps.toList.map mk1).map (·.length)).sum ≤ 2 * x.length := by
  have := sum_le (n := 2) (l := x.cps.toList.map mk1) (fun y hy => by obtain ⟨c, _, rfl⟩ := List.mem_map.mp hy; exact len_mk1 c)
  rw [List.length_map, ← len_cs] at this; exact this
theorem len_marks (x : Str) : (marks x).length ≤ 2 * x.length := by
  have h := len_join Str.empty (x.cps.toList.map mk1)
  have h2 := marks_sum x
  have h3 : Str.empty.length = 0 := rfl
  rw [h3, Nat.mul_zero] at h
  unfold marks; omega
namespace Rdr
mutual
theorem len_shown : ∀ r : Rdr, r.Ok 6 → (shown r).length + 8 ≤ 80 * r.size
  | .leaf w, ok => by
    unfold shown size
    rcases ok with rfl | rfl <;> decide +kernel
  | .sg w x, ok => by
    unfold shown size
    have h1 := len_marks x
    have h2 := ok.2.1
    have e1 : (Str.ofString "[^").length = 2 := by decide +kernel
    have e2 : (Str.ofString "[").length = 1 := by decide +kernel
    have e3 : (Str.ofString "]").length = 1 := by decide +kernel
    split <;> simp only [len_app, e1, e2, e3] <;> omega
  | .nm w l, ok => by
    unfold shown size
    have h := ok.2.1
    have e1 : (Str.ofString "=").length = 1 := by decide +kernel
    split
    · simp only [len_app, e1]; omega
    · omega
  | .seq w ps, ok => by
    unfold shown size
    have h := ok.2.2.1
    have h1 := len_shownP 1 ps ok.2.2.2
    have h0 := len_shownP 0 ps ok.2.2.2
    have j1 := len_join " " (shownP 1 ps)
    have j0 := len_join " / " (shownP 0 ps)
    have e1 : (Str.ofString " ").length = 1 := by decide +kernel
    have e0 : (Str.ofString " / ").length = 3 := by decide +kernel
    rw [e1] at j1
    rw [e0] at j0
    have l1 : (shownP 1 ps).length = ps.length := by rw [shownP_map, List.length_map]
    have l0 : (shownP 0 ps).length = ps.length := by rw [shownP_map, List.length_map]
    split <;> omega
  | .one w p, ok => by
    unfold shown size
    have h := len_shown p ok.2
    have h2 := len_par 2 p (shown p)
    have e1 : (Str.ofString "*").length = 1 := by decide +kernel
    have e2 : (Str.ofString "?").length = 1 := by decide +kernel
    have e3 : (Str.ofString "&").length = 1 := by decide +kernel
    have e4 : (Str.ofString "!").length = 1 := by decide +kernel
    split
    · simp only [len_app, e1]; omega
    split
    · simp only [len_app, e2]; omega
    split
    · simp only [len_app, e3]; omega
    · simp only [len_app, e4]; omega
  | .two w l p, ok => by
    unfold shown size
    have h := len_shown p ok.2.2
    have h2 := len_par 2 p (shown p)
    have h3 := ok.2.1.1
    have e1 : (Str.ofString ":").length = 1 := by decide +kernel
    have e2 : (Str.ofString "@").length = 1 := by decide +kernel
    have e3 : (Str.ofString "#").length = 1 := by decide +kernel
    split
    · simp only [len_app, e1]; omega
    split
    · simp only [len_app, e2]; omega
    · simp only [len_app, e3]; omega
theorem len_shownP (k : Nat) : ∀ ps : List Rdr, Oks 6 ps → ((shownP k ps).map (·.length)).sum + 6 * ps.length ≤ 80 * sizes ps
  | [], _ => by unfold shownP sizes; simp
  | r :: ps, ok => by
    unfold shownP sizes
    have h1 := len_shown r ok.1
    have h2 := len_shownP k ps ok.2
    have h3 := len_par k r (shown r)
    simp only [List.map_cons, List.sum_cons, List.length_cons]; omega
end
theorem has_par (k : Nat) {ws : List D} (h : (k = 0 ∧ ws = [.str "choice"]) ∨ (k = 1 ∧ ws = [.str "choice", .str "row"]) ∨ (k = 2 ∧ ws = [.str "choice", .str "row", .str "hold", .str "tag", .str "make", .str "ahead", .str "not", .str "many", .str "maybe"]) ∨
    (k = 2 ∧ ws = [.str "choice", .str "row", .str "many", .str "maybe", .str "ahead", .str "not", .str "hold", .str "tag", .str "make"])) : ∀ {r : Rdr}, r.Ok 6 → hasD (.str r.word) ws = parK k r := by
  intro r ok
  cases r with
  | leaf w => rcases ok with rfl | rfl <;> rcases h with ⟨rfl, rfl⟩ | ⟨rfl, rfl⟩ | ⟨rfl, rfl⟩ | ⟨rfl, rfl⟩ <;> simp [word, parK]
  | sg w x => rcases ok.1 with rfl | rfl <;> rcases h with ⟨rfl, rfl⟩ | ⟨rfl, rfl⟩ | ⟨rfl, rfl⟩ | ⟨rfl, rfl⟩ <;> simp [word, parK]
  | nm w x => rcases ok.1 with rfl | rfl <;> rcases h with ⟨rfl, rfl⟩ | ⟨rfl, rfl⟩ | ⟨rfl, rfl⟩ | ⟨rfl, rfl⟩ <;> simp [word, parK]
  | seq w x => rcases ok.1 with rfl | rfl <;> rcases h with ⟨rfl, rfl⟩ | ⟨rfl, rfl⟩ | ⟨rfl, rfl⟩ | ⟨rfl, rfl⟩ <;> simp [word, parK]
  | one w x => rcases ok.1 with rfl | rfl | rfl | rfl <;> rcases h with ⟨rfl, rfl⟩ | ⟨rfl, rfl⟩ | ⟨rfl, rfl⟩ | ⟨rfl, rfl⟩ <;> simp [word, parK]
  | two w l x => rcases ok.1 with rfl | rfl | rfl <;> rcases h with ⟨rfl, rfl⟩ | ⟨rfl, rfl⟩ | ⟨rfl, rfl⟩ | ⟨rfl, rfl⟩ <;> simp [word, parK]
end Rdr
def Ws (k : Nat) (ws : List D) : Prop := ws.all flatD = true ∧ ∀ r : Rdr, r.Ok 6 → hasD (.str r.word) ws = r.parK k
def S_mark : L3.Spec := fun ds own P => ∃ c : Nat, ds = [.str ⟨#[c]⟩] ∧ P (.str (mk1 c)) own
def UMark (S : L3.Spec) : Prop := ∀ (own : Own) (P : D → Own → Prop) (c : Nat), P (.str (mk1 c)) own → S [.str ⟨#[c]⟩] own P
theorem uMark : UMark S_mark := fun own P c h => ⟨c, rfl, h⟩
def S_shown (n : Nat) : L3.Spec := fun ds own P => ∃ r : Rdr, ds = [r.toD] ∧ r.Ok 6 ∧ r.hgt ≤ n ∧ r.size ≤ 80 ∧ P (.str r.shown) own
def UShown (n : Nat) (S : L3.Spec) : Prop := ∀ (own : Own) (P : D → Own → Prop) (r : Rdr), r.Ok 6 → r.hgt ≤ n → r.size ≤ 80 → P (.str r.shown) own → S [r.toD] own P
theorem uShown (n : Nat) : UShown n (S_shown n) := fun own P r h1 h2 h3 h4 => ⟨r, rfl, h1, h2, h3, h4⟩
def S_in (tp : Bool) (n : Nat) : L3.Spec := fun ds own P => ∃ (r : Rdr) (k : Nat) (ws : List D), ds = [r.toD, if tp then .tup ws else .lst ws] ∧ Ws k ws ∧ r.Ok 6 ∧ r.hgt ≤ n ∧ r.size ≤ 80 ∧ P (.str (r.par k r.shown)) own
def UIn (tp : Bool) (n : Nat) (S : L3.Spec) : Prop := ∀ (own : Own) (P : D → Own → Prop) (r : Rdr) (k : Nat) (ws : List D), Ws k ws → r.Ok 6 → r.hgt ≤ n → r.size ≤ 80 → P (.str (r.par k r.shown)) own → S [r.toD, if tp then .tup ws else .lst ws] own P
theorem uIn (tp : Bool) (n : Nat) : UIn tp n (S_in tp n) := fun own P r k ws h1 h2 h3 h4 h5 => ⟨r, k, ws, rfl, h1, h2, h3, h4, h5⟩
theorem p_mark {ds : List D} {own : Own} {Q : D → Own → Prop} (h : S_mark ds own Q) : T_law_mark { nx := fun _ o => Rt Q .non o, rt := Rt Q } (astart N_law_mark ds) own := by
  obtain ⟨c, rfl, h⟩ := h
  have h := Rt.mk h
  have e1 : (⟨#[c]⟩ : Str) = Str.ofString "\n" ↔ c = 10 := by rw [show Str.ofString "\n" = ⟨#[10]⟩ from by decide +kernel]; simp
  have e2 : (Str.ofString "]^\\").cps.toList = [93, 94, 92] := by decide +kernel
  simp [T_law_mark, astart, N_law_mark]
  by_cases c1 : c = 10
  · have : ((⟨#[c]⟩ : Str) == Str.ofString "\n") = true := by simpa using e1.mpr c1
    simp [this]; subst c1; exact h
  have q1 : ((⟨#[c]⟩ : Str) == Str.ofString "\n") = false := by simpa using fun z => c1 (e1.mp z)
  simp only [q1]
  simp [oneIn, e2]
  have l1 : (Str.ofString "\\").length + (⟨#[c]⟩ : Str).length ≤ 16777216 := by
    have : (Str.ofString "\\").length = 1 := by decide +kernel
    rw [this]; show 1 + 1 ≤ _; decide
  unfold mk1 at h
  rw [if_neg c1] at h
  by_cases c2 : c = 93
  · subst c2; simp [l1]; exact h
  by_cases c3 : c = 94
  · subst c3; simp [l1]; exact h
  by_cases c4 : c = 92
  · subst c4; simp [l1]; exact h
  · simp [c2, c3, c4] at h ⊢; exact h
theorem p_shown_in {n : Nat} {S : L3.Spec} (hs : UShown n S) {ds : List D} {own : Own} {Q : D → Own → Prop} (h : S_in false n ds own Q) : T_law_shown_in S { nx := fun _ o => Rt Q .non o, rt := Rt Q } (astart N_law_shown_in ds) own := by
  obtain ⟨r, k, ws, rfl, hw, ok, hh, hz, h⟩ := h
  have h := Rt.mk h
  obtain ⟨rest, e⟩ := r.toD_word
  have hl := r.len_shown ok
  have e1 : (Str.ofString "(").length = 1 := by decide +kernel
  have e2 : (Str.ofString ")").length = 1 := by decide +kernel
  have fl := hw.1
  simp only [List.all_eq_true] at fl
  simp [T_law_shown_in, astart, N_law_shown_in]
  rw [e]
  simp [hw.2 r ok]
  refine ⟨fl, ?_⟩
  rw [← e]
  unfold Rdr.par at h
  cases hp : r.parK k with
  | true =>
    simp [hp] at h ⊢
    refine hs _ _ r ok hh hz ?_
    simp [e1, e2]
    exact ⟨by omega, by omega, h⟩
  | false =>
    simp [hp] at h ⊢
    exact hs _ _ r ok hh hz h

theorem ws0 : Ws 0 [.str "choice"] := ⟨rfl, fun r ok => Rdr.has_par 0 (.inl ⟨rfl, rfl⟩) ok⟩
theorem ws1 : Ws 1 [.str "choice", .str "row"] := ⟨rfl, fun r ok => Rdr.has_par 1 (.inr (.inl ⟨rfl, rfl⟩)) ok⟩
theorem ws2 : Ws 2 [.str "choice", .str "row", .str "hold", .str "tag", .str "make", .str "ahead", .str "not", .str "many", .str "maybe"] := ⟨rfl, fun r ok => Rdr.has_par 2 (.inr (.inr (.inl ⟨rfl, rfl⟩))) ok⟩
theorem ws3 : Ws 2 [.str "choice", .str "row", .str "many", .str "maybe", .str "ahead", .str "not", .str "hold", .str "tag", .str "make"] := ⟨rfl, fun r ok => Rdr.has_par 2 (.inr (.inr (.inr ⟨rfl, rfl⟩))) ok⟩
theorem cut2 (a b : D) : L3.cutD [a, b] (some 1) (some (-1)) = [] := rfl
theorem cut3 (a b c : D) : L3.cutD [a, b, c] (some 1) (some (-1)) = [b] := rfl
theorem join0 {own : Own} {P : D → Prop} : fJoin own (.str Str.empty) (.lst []) P = P (.str Str.empty) := by
  have := x_join (a := Str.empty) (l := []) (own := own) (P := P)
  simp [Str.join] at this; exact propext this
theorem join1 {own : Own} {P : D → Prop} {x : Str} : fJoin own (.str Str.empty) (.lst [.str x]) P = (x.length ≤ 16777216 ∧ P (.str x)) := by
  have := x_join (a := Str.empty) (l := [x]) (own := own) (P := P)
  simp [Str.join] at this; exact propext this
theorem p_shown {n : Nat} {S_mark S_in' : L3.Spec} (hm : UMark S_mark) (hi : UIn false n S_in') {ds : List D} {own : Own} {Q : D → Own → Prop} (h : S_shown (n + 1) ds own Q) : T_law_shown S_mark S_in' { nx := fun _ o => Rt Q .non o, rt := Rt Q } (astart N_law_shown ds) own := by
  obtain ⟨r, rfl, ok, hh, hz, h⟩ := h
  have h := Rt.mk h
  have hlen := r.len_shown ok
  cases r with
  | leaf w =>
    unfold Rdr.shown at h
    unfold Rdr.toD
    rcases ok with rfl | rfl <;> simp [T_law_shown, astart, N_law_shown] <;> simpa using h
  | sg w x =>
    unfold Rdr.shown at h
    unfold Rdr.toD
    have hx := ok.2.1
    have hml := len_marks x
    have hms := marks_sum x
    have l1 : (Str.ofString "[").length = 1 := by decide +kernel
    have l2 : (Str.ofString "]").length = 1 := by decide +kernel
    have l3 : (Str.ofString "^").length = 1 := by decide +kernel
    have l4 : Str.ofString "[^" = Str.ofString "[" ++ Str.ofString "^" := by decide +kernel
    have xs : x.cps.size ≤ 16777216 := by have : x.cps.size = x.length := rfl; omega
    rcases ok.1 with rfl | rfl <;> simp [T_law_shown, astart, N_law_shown, xs, L3.signs, l1, l2, l3]
    all_goals
      refine lc_pure (fun c : Nat => D.str ⟨#[c]⟩) (fun c => D.str (mk1 c)) trivial (fun c _ Q' hq => ?_) ?_
      · simp; exact hm _ _ c hq
      · have e : (x.cps.toList.map fun c => D.str (mk1 c)) = (x.cps.toList.map mk1).map D.str := by rw [List.map_map]; rfl
        rw [List.nil_append, e, x_join]
        refine ⟨by rw [len_emp, Nat.mul_zero]; omega, ?_⟩
        have e2 : Str.join Str.empty (x.cps.toList.map mk1) = marks x := rfl
        rw [e2]
        simp [l1, l2, l3] at h ⊢
        try simp [l4] at h
        exact ⟨by omega, by omega, h⟩
  | nm w x =>
    unfold Rdr.shown at h
    unfold Rdr.toD
    have hx := ok.2.1
    have l1 : (Str.ofString "=").length = 1 := by decide +kernel
    rcases ok.1 with rfl | rfl <;> simp [T_law_shown, astart, N_law_shown, l1] at h ⊢
    · exact ⟨by omega, h⟩
    · exact ⟨by omega, h⟩
  | seq w l =>
    unfold Rdr.shown at h
    unfold Rdr.toD
    rw [Rdr.toDs_map]
    unfold Rdr.hgt at hh
    unfold Rdr.size at hz
    have ok' := Rdr.oks_iff.mp ok.2.2.2
    have h1 := Rdr.len_shownP 1 l ok.2.2.2
    have h0 := Rdr.len_shownP 0 l ok.2.2.2
    have h6 := ok.2.2.1
    have e1 : (Str.ofString " ").length = 1 := by decide +kernel
    have e0 : (Str.ofString " / ").length = 3 := by decide +kernel
    rcases ok.1 with rfl | rfl <;> simp [T_law_shown, astart, N_law_shown] at h ⊢
    · refine lc_pure Rdr.toD (fun r => D.str (r.par 1 r.shown)) trivial (fun r hr Q' hq => ?_) ?_
      · simp
        exact hi _ _ r 1 _ ws1 (ok' r hr) (by have := Rdr.le_hgts hr; omega) (by have := Rdr.le_sizes hr; omega) hq
      · have e : (l.map fun r => D.str (r.par 1 r.shown)) = (Rdr.shownP 1 l).map D.str := by rw [Rdr.shownP_map, List.map_map]; rfl
        have ll : (Rdr.shownP 1 l).length = l.length := by rw [Rdr.shownP_map, List.length_map]
        rw [List.nil_append, e, x_join]
        exact ⟨by rw [e1, ll]; omega, h⟩
    · refine lc_pure Rdr.toD (fun r => D.str (r.par 0 r.shown)) trivial (fun r hr Q' hq => ?_) ?_
      · simp
        exact hi _ _ r 0 _ ws0 (ok' r hr) (by have := Rdr.le_hgts hr; omega) (by have := Rdr.le_sizes hr; omega) hq
      · have e : (l.map fun r => D.str (r.par 0 r.shown)) = (Rdr.shownP 0 l).map D.str := by rw [Rdr.shownP_map, List.map_map]; rfl
        have ll : (Rdr.shownP 0 l).length = l.length := by rw [Rdr.shownP_map, List.length_map]
        rw [List.nil_append, e, x_join]
        exact ⟨by rw [e0, ll]; omega, h⟩
  | one w p =>
    unfold Rdr.shown at h
    unfold Rdr.toD
    unfold Rdr.hgt at hh
    unfold Rdr.size at hz
    have g : ∀ P : D → Own → Prop, P (.str (p.par 2 p.shown)) own → S_in' [p.toD, .lst [.str "choice", .str "row", .str "hold", .str "tag", .str "make", .str "ahead", .str "not", .str "many", .str "maybe"]] own P := fun P hP => hi _ _ p 2 _ ws2 ok.2 (by omega) (by omega) hP
    have hp := p.len_shown ok.2
    have hp2 := p.len_par 2 p.shown
    have a1 : ∀ a b : D, atI [a, b] (-1) = some b := fun a b => rfl
    have e1 : (Str.ofString "*").length = 1 := by decide +kernel
    have e2 : (Str.ofString "?").length = 1 := by decide +kernel
    have e3 : (Str.ofString "&").length = 1 := by decide +kernel
    have e4 : (Str.ofString "!").length = 1 := by decide +kernel
    rcases ok.1 with rfl | rfl | rfl | rfl <;> simp [T_law_shown, astart, N_law_shown, a1] at h ⊢ <;> refine g _ ?_ <;> simp [fIxD, lookT, e1, e2, e3, e4]
    · exact ⟨by omega, h⟩
    · exact ⟨by omega, h⟩
    · simp [cut2, join0, e3]; exact ⟨by omega, h⟩
    · simp [cut2, join0, e4]; exact ⟨by omega, h⟩
  | two w l p =>
    unfold Rdr.shown at h
    unfold Rdr.toD
    unfold Rdr.hgt at hh
    unfold Rdr.size at hz
    have g : ∀ P : D → Own → Prop, P (.str (p.par 2 p.shown)) own → S_in' [p.toD, .lst [.str "choice", .str "row", .str "hold", .str "tag", .str "make", .str "ahead", .str "not", .str "many", .str "maybe"]] own P := fun P hP => hi _ _ p 2 _ ws2 ok.2.2 (by omega) (by omega) hP
    have hp := p.len_shown ok.2.2
    have hp2 := p.len_par 2 p.shown
    have hl := ok.2.1.1
    have a1 : ∀ a b c : D, atI [a, b, c] (-1) = some c := fun a b c => rfl
    have e1 : (Str.ofString ":").length = 1 := by decide +kernel
    have e2 : (Str.ofString "@").length = 1 := by decide +kernel
    have e3 : (Str.ofString "#").length = 1 := by decide +kernel
    rcases ok.1 with rfl | rfl | rfl <;> simp [T_law_shown, astart, N_law_shown, a1] at h ⊢ <;> refine g _ ?_ <;> simp [fIxD, lookT, e1, e2, e3, cut3, join1]
    all_goals exact ⟨by omega, by omega, by omega, h⟩

/-! ### the module's own -/
def S_ssigns : L3.Spec := fun ds own P => ∃ x : Str, ds = [.str x] ∧ x.length ≤ 30 ∧ P (.str (marks x)) own
def USsigns (S : L3.Spec) : Prop := ∀ (own : Own) (P : D → Own → Prop) (x : Str), x.length ≤ 30 → P (.str (marks x)) own → S [.str x] own P
theorem uSsigns : USsigns S_ssigns := fun own P x h1 h2 => ⟨x, rfl, h1, h2⟩
theorem esc_mk1 (c : Nat) : (tab_ESCAPED ⟨#[c]⟩).getD (.str ⟨#[c]⟩) = .str (mk1 c) := by
  have e1 : (⟨#[c]⟩ : Str) = Str.ofString "\n" ↔ c = 10 := by rw [show Str.ofString "\n" = ⟨#[10]⟩ from by decide +kernel]; simp
  have e2 : (⟨#[c]⟩ : Str) = Str.ofString "]" ↔ c = 93 := by rw [show Str.ofString "]" = ⟨#[93]⟩ from by decide +kernel]; simp
  have e3 : (⟨#[c]⟩ : Str) = Str.ofString "^" ↔ c = 94 := by rw [show Str.ofString "^" = ⟨#[94]⟩ from by decide +kernel]; simp
  have e4 : (⟨#[c]⟩ : Str) = Str.ofString "\\" ↔ c = 92 := by rw [show Str.ofString "\\" = ⟨#[92]⟩ from by decide +kernel]; simp
  unfold tab_ESCAPED mk1
  simp only [e1, e2, e3, e4]
  by_cases c1 : c = 10
  · simp [c1]
  by_cases c2 : c = 93
  · simp [c2]
  by_cases c3 : c = 94
  · simp [c3]
  by_cases c4 : c = 92
  · simp [c4]
  · simp [c1, c2, c3, c4]
theorem p_ssigns {a : Addr} {ds : List D} {own : Own} {Q : D → Own → Prop} (h : S_ssigns ds own Q) : T_show_signs a { nx := fun _ o => Rt Q .non o, rt := Rt Q } (astart N_show_signs ds) own := by
  obtain ⟨x, rfl, hx, h⟩ := h
  have h := Rt.mk h
  have hms := marks_sum x
  have xs : x.cps.size ≤ 16777216 := by have : x.cps.size = x.length := rfl; omega
  simp [T_show_signs, astart, N_show_signs, xs, L3.signs]
  refine lc_pure (fun c : Nat => D.str ⟨#[c]⟩) (fun c => D.str (mk1 c)) trivial (fun c _ Q' hq => ?_) ?_
  · show ∃ z, D.str ⟨#[c]⟩ = .str z ∧ Q' ((tab_ESCAPED z).getD (.str ⟨#[c]⟩)) own
    exact ⟨_, rfl, by rw [esc_mk1]; exact hq⟩
  · have e : (x.cps.toList.map fun c => D.str (mk1 c)) = (x.cps.toList.map mk1).map D.str := by rw [List.map_map]; rfl
    rw [List.nil_append, e, x_join]
    exact ⟨by rw [len_emp, Nat.mul_zero]; omega, h⟩
theorem p_showin {n : Nat} {S : L3.Spec} (hs : UShown n S) {ds : List D} {own : Own} {Q : D → Own → Prop} (h : S_in true n ds own Q) : T_show_within S { nx := fun _ o => Rt Q .non o, rt := Rt Q } (astart N_show_within ds) own := by
  obtain ⟨r, k, ws, rfl, hw, ok, hh, hz, h⟩ := h
  have h := Rt.mk h
  obtain ⟨rest, e⟩ := r.toD_word
  have hl := r.len_shown ok
  have e1 : (Str.ofString "(").length = 1 := by decide +kernel
  have e2 : (Str.ofString ")").length = 1 := by decide +kernel
  have fl := hw.1
  simp only [List.all_eq_true] at fl
  simp [T_show_within, astart, N_show_within]
  rw [e]
  simp [hw.2 r ok]
  refine ⟨fl, ?_⟩
  rw [← e]
  unfold Rdr.par at h
  cases hp : r.parK k with
  | true =>
    simp [hp, e1, e2] at h ⊢
    refine hs _ _ r ok hh hz ?_
    simp [e1, e2]
    exact ⟨by omega, by omega, by omega, h⟩
  | false =>
    simp [hp] at h ⊢
    exact hs _ _ r ok hh hz h
/-- the small ones -/
def S_plain : L3.Spec := fun ds own P => ∃ (r : Rdr) (rest : List D), ds = [.str r.word, .lst rest] ∧ r.toD = .tup (.str r.word :: rest) ∧ r.Ok 6 ∧ r.parK 2 = false ∧ P (.str r.shown) own
def UPlain (S : L3.Spec) : Prop := ∀ (own : Own) (P : D → Own → Prop) (r : Rdr) (rest : List D), r.toD = .tup (.str r.word :: rest) → r.Ok 6 → r.parK 2 = false → P (.str r.shown) own → S [.str r.word, .lst rest] own P
theorem uPlain : UPlain S_plain := fun own P r rest h1 h2 h3 h4 => ⟨r, rest, rfl, h1, h2, h3, h4⟩
theorem p_plain {S : L3.Spec} (hs : USsigns S) {ds : List D} {own : Own} {Q : D → Own → Prop} (h : S_plain ds own Q) : T_show_plain S { nx := fun _ o => Rt Q .non o, rt := Rt Q } (astart N_show_plain ds) own := by
  obtain ⟨r, rest, rfl, e, ok, hp, h⟩ := h
  have h := Rt.mk h
  cases r with
  | leaf w =>
    unfold Rdr.toD at e
    simp only [Rdr.word] at e ⊢
    cases e
    unfold Rdr.shown at h
    rcases ok with rfl | rfl <;> simp [T_show_plain, astart, N_show_plain] <;> simpa using h
  | sg w x =>
    unfold Rdr.toD at e
    simp only [Rdr.word] at e ⊢
    cases e
    unfold Rdr.shown at h
    have hx := ok.2.1
    have hml := len_marks x
    have l1 : (Str.ofString "[").length = 1 := by decide +kernel
    have l2 : (Str.ofString "]").length = 1 := by decide +kernel
    have l3 : (Str.ofString "[^").length = 2 := by decide +kernel
    rcases ok.1 with rfl | rfl <;> simp [T_show_plain, astart, N_show_plain, l1, l2, l3] <;> refine hs _ _ x hx ?_ <;> simp [l1, l2, l3] at h ⊢
    all_goals exact ⟨by omega, by omega, by omega, h⟩
  | nm w x =>
    unfold Rdr.toD at e
    simp only [Rdr.word] at e ⊢
    cases e
    unfold Rdr.shown at h
    have hx := ok.2.1
    have l1 : (Str.ofString "=").length = 1 := by decide +kernel
    rcases ok.1 with rfl | rfl <;> simp [T_show_plain, astart, N_show_plain, l1] at h ⊢
    · exact ⟨by omega, by omega, h⟩
    · exact h
  | seq w l => simp [Rdr.parK] at hp
  | one w p => simp [Rdr.parK] at hp
  | two w l p => simp [Rdr.parK] at hp

/-! ### show_reader, show_book -/
theorem p_reader {n : Nat} {S_w S_p : L3.Spec} {a : Addr} (hw : UIn true n S_w) (hp : UPlain S_p) {ds : List D} {own : Own} {Q : D → Own → Prop} (h : S_shown (n + 1) ds own Q) : T_show_reader S_w S_p a { nx := fun _ o => Rt Q .non o, rt := Rt Q } (astart N_show_reader ds) own := by
  obtain ⟨r, rfl, ok, hh, hz, h⟩ := h
  have h := Rt.mk h
  have hlen := r.len_shown ok
  cases r with
  | leaf w =>
    unfold Rdr.toD
    rcases ok with rfl | rfl <;> simp [T_show_reader, astart, N_show_reader, d_TIGHT]
    · exact hp _ _ (.leaf "nothing") [] (by unfold Rdr.toD; rfl) (.inl rfl) rfl h
    · exact hp _ _ (.leaf "never") [] (by unfold Rdr.toD; rfl) (.inr rfl) rfl h
  | sg w x =>
    unfold Rdr.toD
    obtain ⟨rfl | rfl, o2⟩ := ok <;> simp [T_show_reader, astart, N_show_reader, d_TIGHT]
    · exact hp _ _ (.sg "sign" x) [.str x] (by unfold Rdr.toD; rfl) ⟨.inl rfl, o2⟩ rfl h
    · exact hp _ _ (.sg "but" x) [.str x] (by unfold Rdr.toD; rfl) ⟨.inr rfl, o2⟩ rfl h
  | nm w x =>
    unfold Rdr.toD
    obtain ⟨rfl | rfl, o2⟩ := ok <;> simp [T_show_reader, astart, N_show_reader, d_TIGHT]
    · exact hp _ _ (.nm "again" x) [.str x] (by unfold Rdr.toD; rfl) ⟨.inl rfl, o2⟩ rfl h
    · exact hp _ _ (.nm "name" x) [.str x] (by unfold Rdr.toD; rfl) ⟨.inr rfl, o2⟩ rfl h
  | seq w l =>
    unfold Rdr.shown at h
    unfold Rdr.toD
    rw [Rdr.toDs_map]
    unfold Rdr.hgt at hh
    unfold Rdr.size at hz
    have ok' := Rdr.oks_iff.mp ok.2.2.2
    have h1 := Rdr.len_shownP 1 l ok.2.2.2
    have h0 := Rdr.len_shownP 0 l ok.2.2.2
    have h6 := ok.2.2.1
    have e1 : (Str.ofString " ").length = 1 := by decide +kernel
    have e0 : (Str.ofString " / ").length = 3 := by decide +kernel
    rcases ok.1 with rfl | rfl <;> simp [T_show_reader, astart, N_show_reader] at h ⊢
    · refine lc_pure Rdr.toD (fun r => D.str (r.par 1 r.shown)) trivial (fun r hr Q' hq => ?_) ?_
      · simp
        exact hw _ _ r 1 _ ws1 (ok' r hr) (by have := Rdr.le_hgts hr; omega) (by have := Rdr.le_sizes hr; omega) hq
      · have e : (l.map fun r => D.str (r.par 1 r.shown)) = (Rdr.shownP 1 l).map D.str := by rw [Rdr.shownP_map, List.map_map]; rfl
        have ll : (Rdr.shownP 1 l).length = l.length := by rw [Rdr.shownP_map, List.length_map]
        rw [List.nil_append, e, x_join]
        exact ⟨by rw [e1, ll]; omega, h⟩
    · refine lc_pure Rdr.toD (fun r => D.str (r.par 0 r.shown)) trivial (fun r hr Q' hq => ?_) ?_
      · simp
        exact hw _ _ r 0 _ ws0 (ok' r hr) (by have := Rdr.le_hgts hr; omega) (by have := Rdr.le_sizes hr; omega) hq
      · have e : (l.map fun r => D.str (r.par 0 r.shown)) = (Rdr.shownP 0 l).map D.str := by rw [Rdr.shownP_map, List.map_map]; rfl
        have ll : (Rdr.shownP 0 l).length = l.length := by rw [Rdr.shownP_map, List.length_map]
        rw [List.nil_append, e, x_join]
        exact ⟨by rw [e0, ll]; omega, h⟩
  | one w p =>
    unfold Rdr.shown at h
    unfold Rdr.toD
    unfold Rdr.hgt at hh
    unfold Rdr.size at hz
    have g : ∀ P : D → Own → Prop, P (.str (p.par 2 p.shown)) own → S_w [p.toD, .tup [.str "choice", .str "row", .str "many", .str "maybe", .str "ahead", .str "not", .str "hold", .str "tag", .str "make"]] own P := fun P hP => hw _ _ p 2 _ ws3 ok.2 (by omega) (by omega) hP
    have hp1 := p.len_shown ok.2
    have hp2 := p.len_par 2 p.shown
    have e1 : (Str.ofString "*").length = 1 := by decide +kernel
    have e2 : (Str.ofString "?").length = 1 := by decide +kernel
    have e3 : (Str.ofString "&").length = 1 := by decide +kernel
    have e4 : (Str.ofString "!").length = 1 := by decide +kernel
    rcases ok.1 with rfl | rfl | rfl | rfl <;> simp [T_show_reader, astart, N_show_reader, d_TIGHT] at h ⊢ <;> refine g _ ?_ <;> simp [fInTab, tab_MARKS, e1, e2, e3, e4]
    all_goals exact ⟨by omega, h⟩
  | two w l p =>
    unfold Rdr.shown at h
    unfold Rdr.toD
    unfold Rdr.hgt at hh
    unfold Rdr.size at hz
    have g : ∀ P : D → Own → Prop, P (.str (p.par 2 p.shown)) own → S_w [p.toD, .tup [.str "choice", .str "row", .str "many", .str "maybe", .str "ahead", .str "not", .str "hold", .str "tag", .str "make"]] own P := fun P hP => hw _ _ p 2 _ ws3 ok.2.2 (by omega) (by omega) hP
    have hp1 := p.len_shown ok.2.2
    have hp2 := p.len_par 2 p.shown
    have hl := ok.2.1.1
    have e1 : (Str.ofString ":").length = 1 := by decide +kernel
    have e2 : (Str.ofString "@").length = 1 := by decide +kernel
    have e3 : (Str.ofString "#").length = 1 := by decide +kernel
    rcases ok.1 with rfl | rfl | rfl <;> simp [T_show_reader, astart, N_show_reader, d_TIGHT] at h ⊢ <;> refine g _ ?_ <;> simp [fInTab, fIxTab, tab_MARKS, e1, e2, e3]
    all_goals exact ⟨by omega, by omega, by omega, by omega, h⟩

def line1 (x : Str × Rdr) : Str := x.1 ++ (" = " ++ (x.2.shown ++ ";\n"))
def book (l : List (Str × Rdr)) : Str := Str.join Str.empty (l.map line1)
theorem len_line {n : Nat} {ls : List Str} {x : Str × Rdr} (h : PgOk n ls x) : (line1 x).length ≤ 13 + 80 * x.2.size := by
  have h1 := x.2.len_shown h.2.2.1.ok
  have h2 := h.1.1
  have e1 : (Str.ofString " = ").length = 3 := by decide +kernel
  have e2 : (Str.ofString ";\n").length = 2 := by decide +kernel
  unfold line1
  simp only [len_app, e1, e2]; omega
theorem sum_le2 {α : Type} {f g : α → Nat} {c d : Nat} : ∀ {l : List α}, (∀ x ∈ l, f x ≤ c + d * g x) → (l.map f).sum ≤ c * l.length + d * (l.map g).sum
  | [], _ => by simp
  | x :: l, h => by
    have h1 := h x (List.mem_cons_self ..)
    have h2 := sum_le2 (l := l) fun y hy => h y (List.mem_cons_of_mem _ hy)
    simp only [List.map_cons, List.sum_cons, List.length_cons, Nat.mul_add]
    omega
theorem sum_mul {α : Type} {g : α → Nat} {n c : Nat} : ∀ {l : List α}, (∀ x ∈ l, g x * n ≤ c) → (l.map g).sum * n ≤ c * l.length
  | [], _ => by simp
  | x :: l, h => by
    have h1 := h x (List.mem_cons_self ..)
    have h2 := sum_mul (l := l) fun y hy => h y (List.mem_cons_of_mem _ hy)
    simp only [List.map_cons, List.sum_cons, List.length_cons, Nat.mul_add, Nat.add_mul]
    omega
theorem pgs_size {l : List (Str × Rdr)} (h : PgsOk l) : (l.map fun x => x.2.size).sum ≤ 72 := by
  have h1 := sum_mul (g := fun x : Str × Rdr => x.2.size) (n := l.length) (c := 72) (l := l) fun x hx => (h.ok x hx).2.2.2.2
  have h0 : 0 < l.length := List.length_pos_iff.mpr h.ne
  exact Nat.le_of_mul_le_mul_right h1 h0
theorem book_sum {l : List (Str × Rdr)} (h : PgsOk l) : ((l.map line1).map (·.length)).sum ≤ 5864 := by
  rw [List.map_map]
  have h1 := sum_le2 (f := (fun s : Str => s.length) ∘ line1) (g := fun x : Str × Rdr => x.2.size) (c := 13) (d := 80) (l := l) fun x hx => len_line (h.ok x hx)
  have h2 := pgs_size h
  have h3 := h.l8
  omega
theorem pg_size {n : Nat} {ls : List Str} {x : Str × Rdr} (h : PgOk n ls x) (h0 : 0 < n) : x.2.size ≤ 72 := by
  have := h.2.2.2.2
  exact Nat.le_trans (Nat.le_mul_of_pos_right _ h0) this
theorem pgs_sz {l : List (Str × Rdr)} (h : PgsOk l) {x : Str × Rdr} (hx : x ∈ l) : x.2.size ≤ 72 := pg_size (h.ok x hx) (List.length_pos_iff.mpr h.ne)
def S_sbook : L3.Spec := fun ds own P => ∃ l, ds = [.tup (l.map pg)] ∧ PgsOk l ∧ P (.str (book l)) own
def UBook (S : L3.Spec) : Prop := ∀ (own : Own) (P : D → Own → Prop) (l : List (Str × Rdr)), PgsOk l → P (.str (book l)) own → S [.tup (l.map pg)] own P
theorem uBook : UBook S_sbook := fun own P l h2 h3 => ⟨l, rfl, h2, h3⟩
theorem p_book {S : L3.Spec} (hs : UShown 8 S) {ds : List D} {own : Own} {Q : D → Own → Prop} (h : S_sbook ds own Q) : T_show_book S { nx := fun _ o => Rt Q .non o, rt := Rt Q } (astart N_show_book ds) own := by
  obtain ⟨l, rfl, hl, h⟩ := h
  have h := Rt.mk h
  have hb := book_sum hl
  have e1 : (Str.ofString " = ").length = 3 := by decide +kernel
  have e2 : (Str.ofString ";\n").length = 2 := by decide +kernel
  simp [T_show_book, astart, N_show_book]
  refine lc_pure pg (fun x => D.str (line1 x)) trivial (fun x hx Q' hq => ?_) ?_
  · have hk := hl.ok x hx
    have h1 := x.2.len_shown hk.2.2.1.ok
    have h2 := hk.1.1
    have h3 := pgs_sz hl hx
    unfold line1 at hq
    simp [pg, e1]
    refine ⟨by omega, by omega, ?_⟩
    refine hs _ _ x.2 hk.2.2.1.ok hk.2.2.2.1 (by omega) ?_
    simp [e1, e2]
    exact ⟨by omega, by omega, by omega, hq⟩
  · have e : (l.map fun x => D.str (line1 x)) = (l.map line1).map D.str := by rw [List.map_map]; rfl
    rw [List.nil_append, e, x_join]
    exact ⟨by rw [len_emp, Nat.mul_zero]; omega, h⟩

/-! ### brackets counted -/
structure BS where
  d : Int
  q : Bool
  t : Nat
def stp (s : BS) (c : Nat) : BS :=
  { d := if s.q then s.d else if c = 91 then s.d else s.d + (if c = 40 then 1 else 0) - (if c = 41 then 1 else 0)
    q := if s.q then (c != 93 || s.t % 2 == 1) else c == 91
    t := if c = 92 then s.t + 1 else 0 }
def brk : BS → Cs → Bool
  | _, [] => true
  | s, c :: r => if (stp s c).d = 0 ∧ r ≠ [] then false else brk (stp s c) r
def inBr (z : Cs) : Bool := brk ⟨0, false, 0⟩ z && (z.take 1 == [40])
def bal (m : Cs) : Prop := ∀ s : BS, s.q = false → (m.foldl stp s).d = s.d ∧ (m.foldl stp s).q = false
theorem brk_false : ∀ {a b : Cs} {s : BS}, a ≠ [] → b ≠ [] → (a.foldl stp s).d = 0 → brk s (a ++ b) = false
  | [], _, _, h, _, _ => absurd rfl h
  | c :: a, b, s, _, hb, h => by
    show (if (stp s c).d = 0 ∧ a ++ b ≠ [] then false else brk (stp s c) (a ++ b)) = false
    split
    · rfl
    · cases a with
      | nil =>
        rename_i g
        exact absurd ⟨h, by simpa using hb⟩ g
      | cons d a => exact brk_false (by simp) hb h
theorem bal_app {a b : Cs} (h : bal a) (g : bal b) : bal (a ++ b) := fun s hs => by
  rw [List.foldl_append]
  obtain ⟨h1, h2⟩ := h s hs
  obtain ⟨g1, g2⟩ := g _ h2
  exact ⟨g1.trans h1, g2⟩
theorem bal_one {c : Nat} (h1 : c ≠ 91) (h2 : c ≠ 40) (h3 : c ≠ 41) : bal [c] := fun s hs => by
  simp [stp, hs, h1, h2, h3]
theorem bal_let : ∀ {x : Cs}, (∀ c ∈ x, isL c = true) → bal x
  | [], _ => fun s hs => ⟨rfl, hs⟩
  | c :: x, h => by
    have hc := h c (List.mem_cons_self ..)
    have n : ∀ d : Nat, isL d = false → c ≠ d := fun d hd z => by rw [z, hd] at hc; cases hc
    exact bal_app (a := [c]) (bal_one (n 91 rfl) (n 40 rfl) (n 41 rfl)) (bal_let fun d hd => h d (List.mem_cons_of_mem _ hd))
/-- within square brackets: m, then the bracket -/
def sqb (m : Cs) : Prop := ∀ s : BS, s.q = true → s.t % 2 = 0 → ((m ++ [93]).foldl stp s).d = s.d ∧ ((m ++ [93]).foldl stp s).q = false
theorem sq_run : ∀ {n : Nat} {m x : Cs}, m.length < n → (∀ r, sqF (m ++ 93 :: r) = some (x, r)) → sqb m
  | 0, _, _, hn, _ => absurd hn (Nat.not_lt_zero _)
  | n + 1, [], x, hn, h => fun s hs ht => by simp [stp, hs, ht]
  | n + 1, c :: m, x, hn, h => by
    have h0 := h []
    simp only [List.cons_append] at h0 h
    simp only [List.length_cons] at hn
    by_cases c93 : c = 93
    · subst c93
      rw [sqF.eq_def] at h0
      simp at h0
    · by_cases c92 : c = 92
      · subst c92
        cases m with
        | nil =>
          have h2 := h [97]
          have h1 := h []
          rw [sqF.eq_def] at h1
          simp [tells] at h1
          obtain ⟨a, e, _⟩ := h1
          cases e
        | cons d m =>
          cases ht : tells d with
          | none => rw [sqF.eq_def] at h0; simp [ht] at h0
          | some y =>
            obtain ⟨x', rfl⟩ : ∃ x', x = y :: x' := by
              rw [sqF.eq_def] at h0
              simp [ht] at h0
              obtain ⟨a, _, e⟩ := h0
              exact ⟨a, e.symm⟩
            have ih := sq_run (n := n) (m := m) (x := x') (by simp at hn; omega) fun r => by
              have := h r
              rw [sqF.eq_def] at this
              simp [ht] at this
              exact this
            intro s hs hs2
            have hd : d = 110 ∨ d = 93 ∨ d = 94 ∨ d = 92 := by
              unfold tells at ht
              by_cases e1 : d = 110; exact .inl e1
              by_cases e2 : d = 93; exact .inr (.inl e2)
              by_cases e3 : d = 94; exact .inr (.inr (.inl e3))
              by_cases e4 : d = 92; exact .inr (.inr (.inr e4))
              simp [e1, e2, e3, e4] at ht
            have e1 : (stp (stp s 92) d).q = true ∧ (stp (stp s 92) d).t % 2 = 0 ∧ (stp (stp s 92) d).d = s.d := by
              have t1 : (s.t + 1) % 2 = 1 := by omega
              have t2 : (s.t + 2) % 2 = 0 := by omega
              have t3 : (s.t + 1 + 1) % 2 = 0 := by omega
              rcases hd with rfl | rfl | rfl | rfl <;> simp [stp, hs, t1, t2, t3]
            have := ih _ e1.1 e1.2.1
            rw [e1.2.2] at this
            exact this
      · by_cases g : (inSg c && c != 10 && c != 94) = true
        · obtain ⟨x', rfl⟩ : ∃ x', x = c :: x' := by
            rw [sqF.eq_def] at h0
            simp only [c93, c92, if_false, g, if_true] at h0
            simp at h0
            obtain ⟨a, _, e⟩ := h0
            exact ⟨a, e.symm⟩
          have ih := sq_run (n := n) (m := m) (x := x') (by omega) fun r => by
            have := h r
            rw [sqF.eq_def] at this
            simp only [c93, c92, if_false, g, if_true] at this
            simp at this
            exact this
          intro s hs hs2
          have cb : (c == 93) = false := by simpa using c93
          have e1 : (stp s c).q = true ∧ (stp s c).t % 2 = 0 ∧ (stp s c).d = s.d := by simp [stp, hs, c92, c93]
          have := ih _ e1.1 e1.2.1
          rw [e1.2.2] at this
          exact this
        · rw [sqF.eq_def] at h0
          simp only [c93, c92, if_false, g] at h0
          simp at h0
theorem Wr.bal {l k rs m} (h : Wr l k rs m) : bal m := by
  induction h with
  | nothing => intro s hs; simp [stp, hs]
  | never => exact bal_one (by decide) (by decide) (by decide)
  | @sign k x m a b =>
    intro s hs
    have e1 : (stp s 91).q = true ∧ (stp s 91).t % 2 = 0 ∧ (stp s 91).d = s.d := by simp [stp, hs]
    have := sq_run (Nat.lt_succ_self _) b _ e1.1 e1.2.1
    rw [e1.2.2] at this
    exact this
  | @but k x m a =>
    intro s hs
    have e1 : (stp (stp s 91) 94).q = true ∧ (stp (stp s 91) 94).t % 2 = 0 ∧ (stp (stp s 91) 94).d = s.d := by simp [stp, hs]
    have := sq_run (Nat.lt_succ_self _) a _ e1.1 e1.2.1
    rw [e1.2.2] at this
    exact this
  | again a => exact bal_app (a := [61]) (bal_one (by decide) (by decide) (by decide)) (bal_let a.2)
  | name a => exact bal_let a.2
  | @br k r m _ ih =>
    intro s hs
    have h1 := ih (stp s 40) (by simp [stp, hs])
    have e1 : (stp s 40).d = s.d + 1 := by simp [stp, hs]
    rw [List.foldl_cons, List.foldl_append, List.foldl_cons, List.foldl_nil]
    generalize List.foldl stp (stp s 40) m = s2 at *
    obtain ⟨a1, a2⟩ := h1
    have : (stp s2 41).d = s2.d - 1 ∧ (stp s2 41).q = false := by simp [stp, a2]
    exact ⟨by omega, this.2⟩
  | item _ ih => exact ih
  | @pre k r m c w a _ ih =>
    have hc : c = 38 ∨ c = 33 := by
      unfold ahead at a
      by_cases e1 : c = 38; exact .inl e1
      by_cases e2 : c = 33; exact .inr e2
      simp [e1, e2] at a
    exact bal_app (a := [c]) (by rcases hc with rfl | rfl <;> exact bal_one (by decide) (by decide) (by decide)) ih
  | @post k r m c w a _ ih =>
    have hc : c = 42 ∨ c = 63 := by
      unfold after at a
      by_cases e1 : c = 42; exact .inl e1
      by_cases e2 : c = 63; exact .inr e2
      simp [e1, e2] at a
    exact bal_app ih (by rcases hc with rfl | rfl <;> exact bal_one (by decide) (by decide) (by decide))
  | @two k r m x c w a b _ ih =>
    have hc : c = 58 ∨ c = 64 ∨ c = 35 := by rcases behind_ne b with h | h | h <;> simp [h.2.2]
    exact bal_app (bal_let a.2) (bal_app (a := [c]) (by rcases hc with rfl | rfl | rfl <;> exact bal_one (by decide) (by decide) (by decide)) ih)
  | row _ ih => exact ih
  | rows _ _ n ih ih2 => exact bal_app ih ih2
  | cho _ ih => exact ih
  | chos _ _ n ih ih2 => exact bal_app ih ih2
  | nil4 => exact fun s hs => ⟨rfl, hs⟩
  | cons4 _ _ ih ih2 => exact bal_app (a := [32]) (bal_one (by decide) (by decide) (by decide)) (bal_app ih ih2)
  | nil5 => exact fun s hs => ⟨rfl, hs⟩
  | cons5 _ _ ih ih2 => exact bal_app (a := [32]) (bal_one (by decide) (by decide) (by decide)) (bal_app (a := [47]) (bal_one (by decide) (by decide) (by decide)) (bal_app (a := [32]) (bal_one (by decide) (by decide) (by decide)) (bal_app ih ih2)))

/-! ### strokes and brackets, walked -/
def tr (p : Cs) : Nat := (p.reverse.takeWhile (· == 92)).length
theorem cut_m1 (z : Str) : cutS z (some (-1)) (some 0) = toS [] := by
  apply str_ext
  unfold cutS
  have : HT.sIx z.cps.toList.length z.cps.toList.length (some (0 : Int)) = 0 := by
    rw [show (0 : Int) = ((0 : Nat) : Int) from rfl, HT.sIx_nat]; simp
  rw [← len_cs] at this
  simp [this]
theorem cut_back (z : Str) {i : Nat} (hi : i < z.length) : cutS z (some (i : Int)) (some ((i : Int) + 1)) = toS [z.cps.toList[i]'(by rw [← len_cs]; exact hi)] := by
  apply str_ext
  rw [show ((i : Int) + 1) = ((i + 1 : Nat) : Int) from by omega, cut_nn]
  rw [List.drop_eq_getElem_cons (by rw [← len_cs]; exact hi)]
  simp [show i + 1 - i = 1 from by omega]
def S_esc : L3.Spec := fun ds own P => ∃ (z : Str) (k : Nat), ds = [.str z, .int k] ∧ k ≤ z.length ∧ z.length ≤ 1000000 ∧ P (.bl (tr (z.cps.toList.take k) % 2 == 1)) own
def UEsc (S : L3.Spec) : Prop := ∀ (own : Own) (P : D → Own → Prop) (z : Str) (k : Nat), k ≤ z.length → z.length ≤ 1000000 → P (.bl (tr (z.cps.toList.take k) % 2 == 1)) own → S [.str z, .int k] own P
theorem uEsc : UEsc S_esc := fun own P z k h1 h2 h3 => ⟨z, k, rfl, h1, h2, h3⟩
theorem whl_esc {z : Str} {k : Nat} (hk : k ≤ z.length) (hz : z.length ≤ 1000000) {own : Own} {E : AEnds} : ∀ (n m : Nat) (s : Cs), s = (z.cps.toList.take k).reverse.drop m → m ≤ k → s.length < n →
    (E.nx [some (.str z), some (.int k), some (.int ((m + (s.takeWhile (· == 92)).length : Nat) : Int))] own) →
    aWhl (aB (aBin (fEq false) (aSl (aV 0) (aSo (aBin fSub (aBin fSub (aV 1) (aC (.int 1))) (aV 2))) (aSo (aBin fSub (aV 1) (aV 2)))) (aC (.str "\\")))) (aAsg (aBin fAdd (aV 2) (aC (.int 1))) (gN 2)) E n [some (.str z), some (.int k), some (.int m)] own
  | 0, _, _, _, _, hn, _ => absurd hn (Nat.not_lt_zero _)
  | n + 1, m, s, hs, hm, hn, h => by
    have zl : z.length ≤ 16777216 := by omega
    have lk : (z.cps.toList.take k).length = k := by rw [List.length_take, ← len_cs]; omega
    rw [x_whlS]
    simp [C0, zl]
    cases s with
    | nil =>
      have hl := congrArg List.length hs
      rw [List.length_drop, List.length_reverse, lk] at hl
      simp at hl
      have e : m = k := by omega
      subst e
      have e1 : (m : Int) - 1 - m = -1 := by omega
      have e2 : (m : Int) - m = 0 := by omega
      rw [e1, e2, cut_m1, l92]
      simp
      simpa using h
    | cons c t =>
      have hl := congrArg List.length hs
      rw [List.length_drop, List.length_reverse, lk] at hl
      simp at hl
      have hmk : m < k := by omega
      obtain ⟨i, hi⟩ : ∃ i : Nat, k = i + 1 + m := ⟨k - 1 - m, by omega⟩
      have e1 : (k : Int) - 1 - m = (i : Int) := by omega
      have e2 : (k : Int) - m = (i : Int) + 1 := by omega
      have il : i < z.length := by omega
      have hc : z.cps.toList[i]'(by rw [← len_cs]; exact il) = c ∧ (z.cps.toList.take k).reverse.drop (m + 1) = t := by
        have hml : m < (z.cps.toList.take k).reverse.length := by rw [List.length_reverse, lk]; exact hmk
        rw [List.drop_eq_getElem_cons hml] at hs
        injection hs with h1 h2
        refine ⟨?_, h2.symm⟩
        rw [h1, List.getElem_reverse, List.getElem_take]
        congr 1
        rw [lk]; omega
      rw [e1, e2, cut_back z il, hc.1, l92]
      simp
      by_cases c92 : c = 92
      · subst c92
        simp
        have := whl_esc hk hz (own := own) (E := E) n (m + 1) t hc.2.symm (by omega) (by simp at hn; omega) (by
          have : m + 1 + (t.takeWhile (· == 92)).length = m + ((92 :: t).takeWhile (· == 92)).length := by simp; omega
          rw [this]; exact h)
        rw [l92] at this
        simpa using this
      · have cb : (c == 92) = false := by simpa using c92
        simp [cb]
        have : (c :: t).takeWhile (· == 92) = [] := by simp [List.takeWhile_cons, cb]
        rw [this] at h
        simpa using h
theorem p_esc {ds : List D} {own : Own} {Q : D → Own → Prop} (h : S_esc ds own Q) : T_law_is_escaped { nx := fun _ o => Rt Q .non o, rt := Rt Q } (astart N_law_is_escaped ds) own := by
  obtain ⟨z, k, rfl, hk, hz, h⟩ := h
  replace h := Rt.mk h
  simp [T_law_is_escaped, astart, N_law_is_escaped]
  refine ⟨k + 1, whl_esc hk hz (k + 1) 0 _ rfl (by omega) (by simp; omega) ?_⟩
  simp
  unfold tr at h
  have e : (((z.cps.toList.take k).reverse.takeWhile (· == 92)).length % 2 == 1) = ((((z.cps.toList.take k).reverse.takeWhile (· == 92)).length : Int) % 2 == 1) := by
    rw [Bool.eq_iff_iff]; simp; omega
  rw [e] at h
  exact h
theorem tr_snoc (p : Cs) (c : Nat) : tr (p ++ [c]) = if c = 92 then tr p + 1 else 0 := by
  unfold tr
  rw [List.reverse_append, List.reverse_singleton, List.singleton_append, List.takeWhile_cons]
  by_cases e : c = 92 <;> simp [e]
theorem cut_to (z : Str) (n : Nat) : cutS z none (some (n : Int)) = toS (z.cps.toList.take n) := by
  apply str_ext
  unfold cutS
  rw [HT.sIx_nat, show HT.sIx z.length 0 none = 0 from rfl, len_cs]
  simp
def S_inb : L3.Spec := fun ds own P => ∃ z : Str, ds = [.str z] ∧ z.length ≤ 1000000 ∧ P (.bl (inBr z.cps.toList)) own
def UInb (S : L3.Spec) : Prop := ∀ (own : Own) (P : D → Own → Prop) (z : Str), z.length ≤ 1000000 → P (.bl (inBr z.cps.toList)) own → S [.str z] own P
theorem uInb : UInb S_inb := fun own P z h1 h2 => ⟨z, rfl, h1, h2⟩
abbrev inbB (S_e : L3.Spec) : ATS := (aSeq (aIfS (aTru (aV 2)) (aAsg (aOrV (aBin (fEq true) (aBin fIx (aV 0) (aV 3)) (aC (.str "]"))) (aCall S_e [] (aCons (aV 0) (aCons (aV 3) aNil)))) (gN 2)) (aIfS (aB (aBin (fEq false) (aBin fIx (aV 0) (aV 3)) (aC (.str "[")))) (aAsg (aC (.bl true)) (gN 2)) (aAsg (aBin fSub (aBin fAdd (aV 1) (aFn (f1 gInt1) (aCons (aBin (fEq false) (aBin fIx (aV 0) (aV 3)) (aC (.str "("))) aNil))) (aFn (f1 gInt1) (aCons (aBin (fEq false) (aBin fIx (aV 0) (aV 3)) (aC (.str ")"))) aNil))) (gN 1))))
  (aIfS (aAnd (aB (aBin (fEq false) (aV 1) (aC (.int 0)))) (aB (aBin fLt (aV 3) (aBin fSub (aFn (f1 gLen) (aCons (aV 0) aNil)) (aC (.int 1)))))) (aRet (aC (.bl false))) aNext))
theorem step_inb {S_e : L3.Spec} (he : UEsc S_e) {z : Str} (hz : z.length ≤ 1000000) {own : Own} {E : AEnds} {c k : Nat} {st : BS} (hk : k ≤ z.length) (hat : atI z.cps.toList (k : Int) = some c) (ht : st.t = tr (z.cps.toList.take k))
    (h1 : (stp st c).d = 0 → (k : Int) < (z.length : Int) - 1 → E.rt (.bl false) own) (h2 : ¬ ((stp st c).d = 0 ∧ (k : Int) < (z.length : Int) - 1) → E.nx [some (.str z), some (.int (stp st c).d), some (.bl (stp st c).q), some (.int k)] own) :
    inbB S_e E [some (.str z), some (.int st.d), some (.bl st.q), some (.int k)] own := by
  have zl : z.length ≤ 16777216 := by omega
  have fin : ∀ (dd : Int) (qq : Bool), dd = (stp st c).d → qq = (stp st c).q → (match dd == 0 with
      | true => (match decide ((k : Int) < (z.length : Int) - 1) with
        | true => E.rt (.bl false) own
        | false => E.nx [some (.str z), some (.int dd), some (.bl qq), some (.int k)] own)
      | false => E.nx [some (.str z), some (.int dd), some (.bl qq), some (.int k)] own) := fun dd qq e1 e2 => by
    subst e1 e2
    by_cases d0 : (stp st c).d = 0
    · have db : ((stp st c).d == 0) = true := by simpa using d0
      simp only [db]
      by_cases g : (k : Int) < (z.length : Int) - 1
      · simp only [g, decide_true]; exact h1 d0 g
      · simp only [g, decide_false]; exact h2 fun x => g x.2
    · have db : ((stp st c).d == 0) = false := by simpa using d0
      simp only [db]; exact h2 fun x => d0 x.1
  unfold inbB
  simp [C0]
  cases hq : st.q with
  | true =>
    simp [zl, hat, toS_one, l93]
    cases hc : c == 93 with
    | false =>
      simp
      have := fin st.d true (by simp [stp, hq]) (by simp [stp, hq, bne, hc])
      exact this
    | true =>
      simp
      refine he _ _ z k hk hz ?_
      have := fin st.d (tr (z.cps.toList.take k) % 2 == 1) (by simp [stp, hq]) (by simp [stp, hq, bne, hc, ht])
      exact this
  | false =>
    simp [zl, hat, toS_one, l91, l40, l41, toS_inj]
    cases hc : c == 91 with
    | true =>
      simp
      have c91 : c = 91 := by simpa using hc
      have := fin st.d true (by simp [stp, hq, c91]) (by simp [stp, hq, c91])
      exact this
    | false =>
      have c91 : ¬ c = 91 := by simpa using hc
      have := fin ((st.d + if c = 40 then 1 else 0) - if c = 41 then 1 else 0) false (by simp [stp, hq, c91]) (by simp [stp, hq, c91])
      exact this
theorem turns_inb {S_e : L3.Spec} (he : UEsc S_e) {z : Str} (hz : z.length ≤ 1000000) {own : Own} {E : AEnds} (hf : brk ⟨0, false, 0⟩ z.cps.toList = false → E.rt (.bl false) own) : ∀ (suf pre : Cs) (st : BS) (e3 : Option D), z.cps.toList = pre ++ suf → st.t = tr pre → brk st suf = brk ⟨0, false, 0⟩ z.cps.toList →
    (brk ⟨0, false, 0⟩ z.cps.toList = true → ∀ d q e3, E.nx [some (.str z), some (.int d), some (.bl q), e3] own) →
    aTurns (gN 3) (inbB S_e) (fun _ => True) E ((List.range' pre.length suf.length).map fun (i : Nat) => D.int (i : Int)) [some (.str z), some (.int st.d), some (.bl st.q), e3] own
  | [], pre, st, e3, hp, ht, hb, h => ⟨trivial, h (by rw [← hb]; rfl) _ _ _⟩
  | c :: suf, pre, st, e3, hp, ht, hb, h => by
    rw [List.length_cons, List.range'_succ, List.map_cons, x_turC]
    refine ⟨trivial, ?_⟩
    have hlen : z.length = pre.length + (suf.length + 1) := by rw [len_cs, hp]; simp
    have hat : atI z.cps.toList (pre.length : Int) = some c := by
      have hk2 : (pre.length : Int) < z.cps.toList.length := by rw [← len_cs]; omega
      have h0 : (0 : Int) ≤ pre.length := by omega
      have hg : z.cps.toList[pre.length]? = some c := by rw [hp]; simp
      simp only [atI, ixN, h0, hk2, if_true, Int.toNat_natCast]
      exact hg
    have htk : z.cps.toList.take pre.length = pre := by rw [hp]; simp
    have hp' : z.cps.toList = (pre ++ [c]) ++ suf := by rw [hp]; simp
    have hl : (pre ++ [c]).length = pre.length + 1 := by simp
    have ts : (stp st c).t = tr (pre ++ [c]) := by rw [tr_snoc, ← ht]; rfl
    refine step_inb he hz (by omega) hat (by rw [htk]; exact ht) (fun d0 g => hf ?_) fun g => ?_
    · rw [← hb]
      have ne : suf ≠ [] := by rintro rfl; simp at hlen; omega
      show (if (stp st c).d = 0 ∧ suf ≠ [] then false else brk (stp st c) suf) = false
      rw [if_pos ⟨d0, ne⟩]
    · have := turns_inb he hz hf suf (pre ++ [c]) (stp st c) (some (.int pre.length)) hp' ts (by
        rw [← hb]
        show _ = (if (stp st c).d = 0 ∧ suf ≠ [] then false else brk (stp st c) suf)
        rw [if_neg (fun x => g ⟨x.1, by have := List.length_pos_iff.mpr x.2; omega⟩)]) h
      rw [hl] at this; exact this
theorem p_inb {S_e : L3.Spec} (he : UEsc S_e) {ds : List D} {own : Own} {Q : D → Own → Prop} (h : S_inb ds own Q) : T_law_is_in_brackets S_e { nx := fun _ o => Rt Q .non o, rt := Rt Q } (astart N_law_is_in_brackets ds) own := by
  obtain ⟨z, rfl, hz, h⟩ := h
  replace h := Rt.mk h
  have zl : z.length ≤ 16777216 := by omega
  have er : rng 0 (z.length : Int).toNat = (List.range' 0 z.cps.toList.length).map fun (i : Nat) => D.int (i : Int) := by rw [← len_cs]; simp [rng, List.range_eq_range']
  simp [T_law_is_in_brackets, astart, N_law_is_in_brackets, zl]
  refine ⟨by omega, ?_⟩
  have e2 : rng 0 z.length = (List.range' 0 z.cps.toList.length).map fun (i : Nat) => D.int (i : Int) := er
  rw [e2]
  refine turns_inb he hz (fun g => ?_) z.cps.toList [] ⟨0, false, 0⟩ none (by simp) rfl rfl fun g d q e3 => ?_
  · unfold inBr at h; rw [g] at h; exact h
  · unfold inBr at h
    rw [g, Bool.true_and] at h
    have c1 : cutS z none (some 1) = toS (z.cps.toList.take 1) := cut_to z 1
    simp [zl, c1, l40]
    exact h

/-! ### natural writings -/
theorem Wr.up {l j k : Nat} {r : Rdr} {m : Cs} (h : Wr l k [r] m) (e : l ≤ j) (e3 : j ≤ 3) : Wr j k [r] m := by
  have h01 : ∀ {m}, Wr 0 k [r] m → Wr 1 k [r] m := .item
  have h12 : ∀ {m}, Wr 1 k [r] m → Wr 2 k [r] m := .row
  have h23 : ∀ {m}, Wr 2 k [r] m → Wr 3 k [r] m := .cho
  have hl : l = 0 ∨ l = 1 ∨ l = 2 ∨ l = 3 := by omega
  have hj : j = 0 ∨ j = 1 ∨ j = 2 ∨ j = 3 := by omega
  rcases hl with rfl | rfl | rfl | rfl <;> rcases hj with rfl | rfl | rfl | rfl <;> first | exact h | omega | exact h01 h | exact h12 h | exact h23 h | exact h12 (h01 h) | exact h23 (h12 h) | exact h23 (h12 (h01 h))
namespace Rdr
def lvl : Rdr → Nat
  | .leaf _ => 0
  | .sg _ _ => 0
  | .nm _ _ => 0
  | .one _ _ => 1
  | .two _ _ _ => 1
  | .seq w _ => if w = "choice" then 3 else 2
end Rdr
theorem Rdr.lvl3 (r : Rdr) : r.lvl ≤ 3 := by
  cases r <;> simp [Rdr.lvl]
  split <;> omega
def Nw (k : Nat) (r : Rdr) (m : Cs) : Prop := Wr r.lvl k [r] m ∧ (1 ≤ r.lvl → inBr m = false)
theorem Nw.mono {k j : Nat} {r : Rdr} {m : Cs} (h : Nw k r m) (e : k ≤ j) : Nw j r m := ⟨h.1.mono e, h.2⟩
theorem inBr_false {a b : Cs} (ha : bal a) (h1 : a ≠ []) (h2 : b ≠ []) : inBr (a ++ b) = false := by
  unfold inBr
  rw [brk_false h1 h2 (ha ⟨0, false, 0⟩ rfl).1]; rfl
theorem Wr.ne {l k rs m} (h : Wr l k rs m) (e : l ≤ 3) : m ≠ [] := by
  obtain ⟨c, t, rfl, _⟩ := h.hd.2 e
  simp
theorem nw_pre {k : Nat} {r : Rdr} {m : Cs} {c : Nat} {w : Str} (a : ahead c = some w) (h : Wr 0 k [r] m) : Nw k (.one w r) (c :: m) := by
  refine ⟨.pre a h, fun _ => ?_⟩
  have hc : c = 38 ∨ c = 33 := by
    unfold ahead at a
    by_cases e1 : c = 38; exact .inl e1
    by_cases e2 : c = 33; exact .inr e2
    simp [e1, e2] at a
  exact inBr_false (a := [c]) (by rcases hc with rfl | rfl <;> exact bal_one (by decide) (by decide) (by decide)) (by simp) (h.ne (by decide))
theorem nw_post {k : Nat} {r : Rdr} {m : Cs} {c : Nat} {w : Str} (a : after c = some w) (h : Wr 0 k [r] m) : Nw k (.one w r) (m ++ [c]) := ⟨.post a h, fun _ => inBr_false h.bal (h.ne (by decide)) (by simp)⟩
theorem nw_two {k : Nat} {r : Rdr} {m : Cs} {c : Nat} {w x : Str} (a : Lts x) (b : behind c = some w) (h : Wr 0 k [r] m) : Nw k (.two w x r) (x.cps.toList ++ c :: m) := ⟨.two a b h, fun _ => inBr_false (bal_let a.2) a.1 (by simp)⟩
def WrLs (l K : Nat) : List Rdr → List Str → Prop
  | [], [] => True
  | r :: rs, t :: ts => Wr l K [r] t.cps.toList ∧ WrLs l K rs ts
  | _, _ => False
theorem WrLs.mono {l K J : Nat} (e : K ≤ J) : ∀ {rs : List Rdr} {ts : List Str}, WrLs l K rs ts → WrLs l J rs ts
  | [], [], h => h
  | _ :: _, _ :: _, h => ⟨h.1.mono e, h.2.mono e⟩
  | [], _ :: _, h => h.elim
  | _ :: _, [], h => h.elim
theorem WrLs.len {l K : Nat} : ∀ {rs : List Rdr} {ts : List Str}, WrLs l K rs ts → ts.length = rs.length
  | [], [], h => rfl
  | _ :: _, _ :: _, h => by simp [h.2.len]
  | [], _ :: _, h => h.elim
  | _ :: _, [], h => h.elim
theorem join_cs (a : Str) : ∀ (t : Str) (ts : List Str), (Str.join a (t :: ts)).cps.toList = t.cps.toList ++ ts.flatMap fun u => a.cps.toList ++ u.cps.toList
  | t, [] => by simp [Str.join]
  | t, u :: ts => by
    have := join_cs a u ts
    simp only [Str.join, cs_app, this, List.flatMap_cons]
    simp
theorem wr4 {K : Nat} : ∀ {rs : List Rdr} {ts : List Str}, WrLs 1 K rs ts → Wr 4 K rs (ts.flatMap fun u => [32] ++ u.cps.toList)
  | [], [], _ => .nil4
  | r :: rs, t :: ts, h => by
    have := Wr.cons4 h.1 (wr4 h.2)
    simpa using this
  | [], _ :: _, h => h.elim
  | _ :: _, [], h => h.elim
theorem wr5 {K : Nat} : ∀ {rs : List Rdr} {ts : List Str}, WrLs 2 K rs ts → Wr 5 K rs (ts.flatMap fun u => [32, 47, 32] ++ u.cps.toList)
  | [], [], _ => .nil5
  | r :: rs, t :: ts, h => by
    have := Wr.cons5 h.1 (wr5 h.2)
    simpa using this
  | [], _ :: _, h => h.elim
  | _ :: _, [], h => h.elim
theorem Wr.ne45 {l k rs m} (h : Wr l k rs m) (e : 4 ≤ l) (hr : rs ≠ []) : m ≠ [] := by
  cases h <;> simp_all
theorem nw_row {K : Nat} {rs : List Rdr} {ts : List Str} (h : WrLs 1 K rs ts) (h2 : 2 ≤ rs.length) : Nw K (.seq "row" rs) (Str.join " " ts).cps.toList := by
  match rs, ts, h with
  | r :: rs, t :: ts, h =>
    have ne : rs ≠ [] := by rintro rfl; simp at h2
    have w4 := wr4 h.2
    rw [join_cs, l32]
    refine ⟨.rows h.1 w4 ne, fun _ => inBr_false h.1.bal (h.1.ne (by decide)) (w4.ne45 (by decide) ne)⟩
theorem nw_cho {K : Nat} {rs : List Rdr} {ts : List Str} (h : WrLs 2 K rs ts) (h2 : 2 ≤ rs.length) : Nw K (.seq "choice" rs) (Str.join " / " ts).cps.toList := by
  match rs, ts, h with
  | r :: rs, t :: ts, h =>
    have ne : rs ≠ [] := by rintro rfl; simp at h2
    have w5 := wr5 h.2
    rw [join_cs, lsl]
    refine ⟨.chos h.1 w5 ne, fun _ => inBr_false h.1.bal (h.1.ne (by decide)) (w5.ne45 (by decide) ne)⟩
/-! marks of signs -/
theorem isNm_lts {x : Str} (h : isNm x = true) : Lts x := by
  unfold isNm at h
  simp only [Bool.and_eq_true, decide_eq_true_eq, List.all_map, List.all_eq_true, Function.comp, id] at h
  obtain ⟨⟨h1, h2⟩, h3⟩ := h
  refine ⟨fun z => ?_, fun c hc => ?_⟩
  · rw [len_cs, z] at h1; simp at h1
  · have := h3 c hc
    rw [show (⟨#[c]⟩ : Str) = toS [c] from rfl, in_let] at this; exact this
theorem isSg_in {n : Int} {x : Str} (h : isSg n x = true) : ∀ c ∈ x.cps.toList, inSg c = true := by
  unfold isSg isText at h
  simp only [Bool.and_eq_true, List.all_map, List.all_eq_true, Function.comp, id] at h
  intro c hc
  have := h.1.1.2 c hc
  rw [show (⟨#[c]⟩ : Str) = toS [c] from rfl, in_sig] at this; exact this
def encC (c : Nat) : Cs := if c = 10 then [92, 110] else if c = 93 then [92, 93] else if c = 94 then [92, 94] else if c = 92 then [92, 92] else [c]
theorem mk1_cs (c : Nat) : (mk1 c).cps.toList = encC c := by
  unfold mk1 encC
  split; decide +kernel
  split; decide +kernel
  split; decide +kernel
  split; decide +kernel
  rfl
theorem marks_cs (x : Str) : (marks x).cps.toList = x.cps.toList.flatMap encC := by
  unfold marks
  rw [join_emp, List.map_map, List.flatMap_def]
  congr 1
  apply List.map_congr_left
  intro c _
  exact mk1_cs c
theorem sq_enc : ∀ (x : Cs), (∀ c ∈ x, inSg c = true) → ∀ r, sqF (x.flatMap encC ++ 93 :: r) = some (x, r)
  | [], _, r => by rw [List.flatMap_nil, List.nil_append, sqF.eq_def]; simp
  | c :: x, h, r => by
    have ih := sq_enc x (fun d hd => h d (List.mem_cons_of_mem _ hd)) r
    have hc := h c (List.mem_cons_self ..)
    rw [List.flatMap_cons, List.append_assoc]
    unfold encC
    by_cases c1 : c = 10
    · subst c1; rw [if_pos rfl]; show sqF (92 :: 110 :: _) = _; rw [sqF.eq_def]; simp [tells]; exact ih
    by_cases c2 : c = 93
    · subst c2; show sqF (92 :: 93 :: _) = _; rw [sqF.eq_def]; simp [tells]; exact ih
    by_cases c3 : c = 94
    · subst c3; show sqF (92 :: 94 :: _) = _; rw [sqF.eq_def]; simp [tells]; exact ih
    by_cases c4 : c = 92
    · subst c4; show sqF (92 :: 92 :: _) = _; rw [sqF.eq_def]; simp [tells]; exact ih
    · simp only [c1, c2, c3, c4, if_false]
      show sqF (c :: _) = _
      rw [sqF.eq_def]
      simp [c1, c2, c3, c4, hc]; exact ih
theorem enc_hd {c : Nat} {t : Cs} : (encC c ++ t).head? ≠ some 94 := by
  unfold encC
  split; simp
  split; simp
  split; simp
  split; simp
  simp; assumption
theorem nw_sg {k : Nat} {ls : List Str} {w x : Str} (h : (Rdr.sg w x).Gd ls) : Wr 0 k [.sg w x] (Rdr.sg w x).shown.cps.toList := by
  have hx := toS_tl x
  have hm := marks_cs x
  rcases h.1 with ⟨rfl, e⟩ | ⟨rfl, e⟩
  · have hs := sq_enc x.cps.toList (isSg_in e)
    have e1 : (Rdr.sg "sign" x).shown.cps.toList = 91 :: (x.cps.toList.flatMap encC ++ [93]) := by
      unfold Rdr.shown
      rw [if_neg (by simp), cs_app, cs_app, hm, l91, l93]; rfl
    rw [e1]
    have := Wr.sign (k := k) (x := x.cps.toList) (m := x.cps.toList.flatMap encC) (by
      cases x.cps.toList with
      | nil => simp
      | cons c t => rw [List.flatMap_cons]; exact enc_hd) hs
    rw [hx] at this; exact this
  · have hs := sq_enc x.cps.toList (isSg_in e)
    have l9194 : Str.ofString "[^" = toS [91, 94] := by decide +kernel
    have e1 : (Rdr.sg "but" x).shown.cps.toList = 91 :: 94 :: (x.cps.toList.flatMap encC ++ [93]) := by
      unfold Rdr.shown
      rw [if_pos rfl, cs_app, cs_app, hm, l9194, l93]; rfl
    rw [e1]
    have := Wr.but (k := k) (x := x.cps.toList) (m := x.cps.toList.flatMap encC) hs
    rw [hx] at this; exact this
theorem nw_leaf {k : Nat} {ls : List Str} {w : Str} (h : (Rdr.leaf w).Gd ls) : Wr 0 k [.leaf w] (Rdr.leaf w).shown.cps.toList := by
  rcases h with rfl | rfl
  · have : (Rdr.leaf "nothing").shown.cps.toList = [40, 41] := by unfold Rdr.shown; rw [if_neg (by simp)]; decide +kernel
    rw [this]; exact .nothing
  · have : (Rdr.leaf "never").shown.cps.toList = [126] := by unfold Rdr.shown; rw [if_pos rfl]; decide +kernel
    rw [this]; exact .never
theorem nw_nm {k : Nat} {ls : List Str} {w x : Str} (h : (Rdr.nm w x).Gd ls) : Wr 0 k [.nm w x] (Rdr.nm w x).shown.cps.toList := by
  have hl := isNm_lts h.2.2
  rcases h.1 with rfl | ⟨rfl, _⟩
  · have : (Rdr.nm "again" x).shown.cps.toList = 61 :: x.cps.toList := by unfold Rdr.shown; rw [if_pos rfl, cs_app, l61]; rfl
    rw [this]; exact .again hl
  · have : (Rdr.nm "name" x).shown.cps.toList = x.cps.toList := by unfold Rdr.shown; rw [if_neg (by simp)]
    rw [this]; exact .name hl
/-- in brackets where they must stand -/
theorem wr_par {k : Nat} {r : Rdr} {m : Str} (h : Nw k r m.cps.toList) (ok : r.Ok 6) {j : Nat} (hj : j ≤ 2) : Wr (2 - j) (k + 1) [r] (r.par j m).cps.toList := by
  unfold Rdr.par
  by_cases g : r.parK j = true
  · rw [if_pos g, cs_app, cs_app, l40, l41]
    have := h.1.up (j := 3) r.lvl3 (Nat.le_refl _)
    exact (Wr.br this).up (by omega) (by omega)
  · rw [if_neg g]
    refine (h.1.mono (Nat.le_succ k)).up ?_ (by omega)
    have hj : j = 0 ∨ j = 1 ∨ j = 2 := by omega
    cases r with
    | leaf w => simp [Rdr.lvl]
    | sg w x => simp [Rdr.lvl]
    | nm w x => simp [Rdr.lvl]
    | seq w ps =>
      rcases hj with rfl | rfl | rfl
      · simp [Rdr.parK] at g
        simp [Rdr.lvl, g]
      · simp [Rdr.parK] at g
      · simp [Rdr.parK] at g
    | one w p => rcases hj with rfl | rfl | rfl <;> simp [Rdr.parK, Rdr.lvl] at g ⊢
    | two w x p => rcases hj with rfl | rfl | rfl <;> simp [Rdr.parK, Rdr.lvl] at g ⊢
theorem beh_word {w : Str} : (w = "hold" ∨ w = "tag" ∨ w = "make") → ∃ c, behind c = some w ∧ (if w = "hold" then (":" : Str) else if w = "tag" then ("@" : Str) else ("#" : Str)) = toS [c] := by
  rintro (rfl | rfl | rfl)
  · exact ⟨58, rfl, by rw [if_pos rfl, l58]⟩
  · exact ⟨64, rfl, by rw [if_neg (by simp), if_pos rfl, l64]⟩
  · exact ⟨35, rfl, by rw [if_neg (by simp), if_neg (by simp), l35]⟩
mutual
theorem nw_shown {ls : List Str} : ∀ (r : Rdr), r.Gd ls → Nw (r.hgt - 1) r r.shown.cps.toList
  | .leaf w, h => ⟨nw_leaf h, fun g => absurd g (by simp [Rdr.lvl])⟩
  | .sg w x, h => ⟨nw_sg h, fun g => absurd g (by simp [Rdr.lvl])⟩
  | .nm w x, h => ⟨nw_nm h, fun g => absurd g (by simp [Rdr.lvl])⟩
  | .one w p, h => by
    have ih := wr_par (nw_shown p h.2) h.2.ok (j := 2) (Nat.le_refl _)
    have hp := p.hgt_pos
    have e : (Rdr.one w p).hgt - 1 = p.hgt - 1 + 1 := by rw [show (Rdr.one w p).hgt = 1 + p.hgt from by rw [Rdr.hgt]]; omega
    rw [e]
    rcases h.1 with rfl | rfl | rfl | rfl
    · have : (Rdr.one "many" p).shown.cps.toList = (p.par 2 p.shown).cps.toList ++ [42] := by
        rw [Rdr.shown, if_pos rfl, cs_app, l42]; rfl
      rw [this]; exact nw_post rfl ih
    · have : (Rdr.one "maybe" p).shown.cps.toList = (p.par 2 p.shown).cps.toList ++ [63] := by
        rw [Rdr.shown, if_neg (by simp), if_pos rfl, cs_app, l63]; rfl
      rw [this]; exact nw_post rfl ih
    · have : (Rdr.one "ahead" p).shown.cps.toList = 38 :: (p.par 2 p.shown).cps.toList := by
        rw [Rdr.shown, if_neg (by simp), if_neg (by simp), if_pos rfl, cs_app, l38]; rfl
      rw [this]; exact nw_pre rfl ih
    · have : (Rdr.one "not" p).shown.cps.toList = 33 :: (p.par 2 p.shown).cps.toList := by
        rw [Rdr.shown, if_neg (by simp), if_neg (by simp), if_neg (by simp), cs_app, l33]; rfl
      rw [this]; exact nw_pre rfl ih
  | .two w x p, h => by
    have ih := wr_par (nw_shown p h.2.2.2) h.2.2.2.ok (j := 2) (Nat.le_refl _)
    have hp := p.hgt_pos
    have e : (Rdr.two w x p).hgt - 1 = p.hgt - 1 + 1 := by rw [show (Rdr.two w x p).hgt = 1 + p.hgt from by rw [Rdr.hgt]]; omega
    rw [e]
    obtain ⟨c, b1, b2⟩ := beh_word (w := w) (by rcases h.1 with e | e | e <;> simp [e])
    have : (Rdr.two w x p).shown.cps.toList = x.cps.toList ++ c :: (p.par 2 p.shown).cps.toList := by
      rw [Rdr.shown, b2, cs_app, cs_app]; rfl
    rw [this]; exact nw_two (isNm_lts h.2.2.1) b1 ih
  | .seq w ps, h => by
    have e : (Rdr.seq w ps).hgt - 1 = Rdr.hgts ps := by rw [Rdr.hgt]; omega
    rw [e]
    rcases h.1 with rfl | rfl
    · have : (Rdr.seq "row" ps).shown = Str.join " " (Rdr.shownP 1 ps) := by rw [Rdr.shown, if_pos rfl]
      rw [this]; exact nw_row (nw_shownP 1 (by decide) ps h.2.2.2 _ (Nat.le_refl _)) h.2.1
    · have : (Rdr.seq "choice" ps).shown = Str.join " / " (Rdr.shownP 0 ps) := by rw [Rdr.shown, if_neg (by simp)]
      rw [this]; exact nw_cho (nw_shownP 0 (by decide) ps h.2.2.2 _ (Nat.le_refl _)) h.2.1
theorem nw_shownP {ls : List Str} (j : Nat) (hj : j ≤ 2) : ∀ (ps : List Rdr), Rdr.Gds ls ps → ∀ K, Rdr.hgts ps ≤ K → WrLs (2 - j) K ps (Rdr.shownP j ps)
  | [], _, _, _ => trivial
  | r :: rs, h, K, hk => by
    rw [Rdr.hgts] at hk
    rw [Rdr.shownP]
    have hp := r.hgt_pos
    exact ⟨(wr_par (nw_shown r h.1) h.1.ok hj).mono (by omega), nw_shownP j hj rs h.2 K (by omega)⟩
end

/-! ### more brackets, walked -/
structure WOk (r : Rdr) (z z' : Int) (m : Str) : Prop where
  lo : 0 ≤ z'
  le : z' ≤ z
  len : (m.length : Int) + 8 ≤ 80 * r.size + 2 * (z - z')
  wr : ∃ k : Nat, (k : Int) ≤ (r.hgt : Int) - 1 + (z - z') ∧ (Nw k r m.cps.toList ∨ Wr 0 k [r] m.cps.toList)
structure WiOk (j : Nat) (r : Rdr) (z z' : Int) (m : Str) : Prop where
  lo : 0 ≤ z'
  le : z' ≤ z
  len : (m.length : Int) + 6 ≤ 80 * r.size + 2 * (z - z')
  wr : ∃ k : Nat, (k : Int) ≤ (r.hgt : Int) + (z - z') ∧ Wr (2 - j) k [r] m.cps.toList
def S_wide (n : Nat) : L3.Spec := fun ds own P => ∃ base p pen q z r ls b, ds = [.ref p, r.toD, .ref q] ∧ own = O2 base p q pen z ∧ q ≠ p ∧ r.Gd ls ∧ r.hgt ≤ n ∧ r.size ≤ 80 ∧ 0 ≤ z ∧ z ≤ 4 ∧ Pn (b + r.size) pen ∧ ∀ m pen' z', WOk r z z' m → Pn b pen' → P (.str m) (O2 base p q pen' z')
def UWide (n : Nat) (S : L3.Spec) : Prop := ∀ (base : Own) (P : D → Own → Prop) (p : Addr) (pen : List D) (q : Addr) (z : Int) (r : Rdr) (ls : List Str) (b : Nat), q ≠ p → r.Gd ls → r.hgt ≤ n → r.size ≤ 80 → 0 ≤ z → z ≤ 4 → Pn (b + r.size) pen → (∀ m pen' z', WOk r z z' m → Pn b pen' → P (.str m) (O2 base p q pen' z')) → S [.ref p, r.toD, .ref q] (O2 base p q pen z) P
theorem uWide (n : Nat) : UWide n (S_wide n) := fun base P p pen q z r ls b h1 h2 h3 h4 h5 h6 h7 h8 => ⟨base, p, pen, q, z, r, ls, b, rfl, rfl, h1, h2, h3, h4, h5, h6, h7, h8⟩
def S_win (n : Nat) : L3.Spec := fun ds own P => ∃ base p pen q z r ls b j ws, ds = [.ref p, r.toD, .lst ws, .ref q] ∧ own = O2 base p q pen z ∧ j ≤ 2 ∧ Ws j ws ∧ q ≠ p ∧ r.Gd ls ∧ r.hgt ≤ n ∧ r.size ≤ 80 ∧ 0 ≤ z ∧ z ≤ 4 ∧ Pn (b + r.size) pen ∧ ∀ m pen' z', WiOk j r z z' m → Pn b pen' → P (.str m) (O2 base p q pen' z')
def UWin (n : Nat) (S : L3.Spec) : Prop := ∀ (base : Own) (P : D → Own → Prop) (p : Addr) (pen : List D) (q : Addr) (z : Int) (r : Rdr) (ls : List Str) (b j : Nat) (ws : List D), j ≤ 2 → Ws j ws → q ≠ p → r.Gd ls → r.hgt ≤ n → r.size ≤ 80 → 0 ≤ z → z ≤ 4 → Pn (b + r.size) pen → (∀ m pen' z', WiOk j r z z' m → Pn b pen' → P (.str m) (O2 base p q pen' z')) → S [.ref p, r.toD, .lst ws, .ref q] (O2 base p q pen z) P
theorem uWin (n : Nat) : UWin n (S_win n) := fun base P p pen q z r ls b j ws h0 h1 h1' h2 h3 h4 h5 h6 h7 h8 => ⟨base, p, pen, q, z, r, ls, b, j, ws, rfl, rfl, h0, h1, h1', h2, h3, h4, h5, h6, h7, h8⟩
theorem parK_f {r : Rdr} {j : Nat} (hj : j ≤ 2) (g : r.parK j = false) : r.lvl ≤ 2 - j := by
  have hj : j = 0 ∨ j = 1 ∨ j = 2 := by omega
  cases r with
  | leaf w => simp [Rdr.lvl]
  | sg w x => simp [Rdr.lvl]
  | nm w x => simp [Rdr.lvl]
  | seq w ps =>
    rcases hj with rfl | rfl | rfl
    · simp [Rdr.parK] at g
      simp [Rdr.lvl, g]
    · simp [Rdr.parK] at g
    · simp [Rdr.parK] at g
  | one w p => rcases hj with rfl | rfl | rfl <;> simp [Rdr.parK, Rdr.lvl] at g ⊢
  | two w x p => rcases hj with rfl | rfl | rfl <;> simp [Rdr.parK, Rdr.lvl] at g ⊢
theorem parK_t {r : Rdr} {j : Nat} (g : r.parK j = true) : 1 ≤ r.lvl := by
  cases r with
  | leaf w => simp [Rdr.parK] at g
  | sg w x => simp [Rdr.parK] at g
  | nm w x => simp [Rdr.parK] at g
  | seq w ps => simp [Rdr.lvl]; split <;> omega
  | one w p => simp [Rdr.lvl]
  | two w x p => simp [Rdr.lvl]
theorem p_win {n : Nat} {S_w S_b : L3.Spec} (hw : UWide n S_w) (hb : UInb S_b) {ds : List D} {own : Own} {Q : D → Own → Prop} (h : S_win n ds own Q) : T_law_wide_in S_w S_b { nx := fun _ o => Rt Q .non o, rt := Rt Q } (astart N_law_wide_in ds) own := by
  obtain ⟨base, p, pen, q, z, r, ls, b, j, ws, rfl, rfl, hj, hws, qp, gd, hh, hz, z0, z4, hp, k⟩ := h
  simp [T_law_wide_in, astart, N_law_wide_in]
  refine hw _ _ _ _ _ _ _ _ b qp gd hh hz z0 z4 hp fun m pen' z' ⟨w0, w1, w2, K, w3, w4⟩ hp' => ?_
  obtain ⟨rest, e⟩ := r.toD_word
  have fl := hws.1
  simp only [List.all_eq_true] at fl
  have e1 : (Str.ofString "(").length = 1 := by decide +kernel
  have e2 : (Str.ofString ")").length = 1 := by decide +kernel
  rw [e]
  simp [hws.2 r gd.ok]
  refine ⟨fl, ?_⟩
  cases g : r.parK j with
  | false =>
    simp
    refine Rt.mk (k m pen' z' ⟨w0, w1, by omega, K, by omega, ?_⟩ hp')
    rcases w4 with w4 | w4
    · exact w4.1.up (parK_f hj g) (by omega)
    · exact w4.up (Nat.zero_le _) (by omega)
  | true =>
    simp
    refine hb _ _ m (by omega) ?_
    simp
    cases gi : inBr m.cps.toList with
    | true =>
      simp
      refine Rt.mk (k m pen' z' ⟨w0, w1, by omega, K, by omega, ?_⟩ hp')
      rcases w4 with w4 | w4
      · have := w4.2 (parK_t g); rw [gi] at this; cases this
      · exact w4.up (Nat.zero_le _) (by omega)
    | false =>
      simp [e1, e2]
      refine ⟨by omega, by omega, Rt.mk (k _ pen' z' ⟨w0, w1, by simp only [len_app, e1, e2]; omega, K + 1, by omega, ?_⟩ hp')⟩
      rw [cs_app, cs_app, l40, l41]
      have h3 : Wr 3 K [r] m.cps.toList := by
        rcases w4 with w4 | w4
        · exact w4.1.up r.lvl3 (Nat.le_refl _)
        · exact w4.up (Nat.zero_le _) (Nat.le_refl _)
      exact (Wr.br h3).up (Nat.zero_le _) (by omega)
theorem lc_wide {n : Nat} {S_w : L3.Spec} (hw : UWin n S_w) {base : Own} {p q : Addr} (qp : q ≠ p) {ls : List Str} {j : Nat} {ws : List D} (hj : j ≤ 2) (hws : Ws j ws) {te : ATE} (hte : ∀ (env : AEnv) (own : Own) (P : D → Own → Prop), te env own P = P (.lst ws) own) {e1 e3 e4 e5 e6 e7 e8 : Option D} {P : List D → Own → Prop} : ∀ (ps : List Rdr) (acc : List Str) (pen : List D) (z : Int) (b : Nat), Rdr.Gds ls ps → (∀ r ∈ ps, r.hgt ≤ n) → Rdr.sizes ps ≤ 80 → 0 ≤ z → z ≤ 4 → Pn (b + Rdr.sizes ps) pen →
    (∀ (ts : List Str) pen' z', 0 ≤ z' → z' ≤ z → (((ts.map (·.length)).sum : Nat) : Int) + 6 * ts.length ≤ 80 * Rdr.sizes ps + 2 * (z - z') → (∃ K : Nat, (K : Int) ≤ Rdr.hgts ps + (z - z') ∧ WrLs (2 - j) K ps ts) → Pn b pen' → P ((acc ++ ts).map .str) (O2 base p q pen' z')) →
    aLcL (gN 7) aYes (aCall S_w [] (aCons (aV 0) (aCons (aV 7) (aCons te (aCons (aV 2) aNil))))) (fun _ => True) [some (.ref p), e1, some (.ref q), e3, e4, e5, e6, e7, e8] P (ps.map Rdr.toD) (acc.map .str) (O2 base p q pen z)
  | [], acc, pen, z, b, hg, hh, hs, z0, z4, hp, h => ⟨trivial, by have := h [] pen z z0 (Int.le_refl _) (by simp [Rdr.sizes]) ⟨0, by simp [Rdr.hgts], trivial⟩ (hp.mono (by omega)); simpa using this⟩
  | r :: ps, acc, pen, z, b, hg, hh, hs, z0, z4, hp, h => by
    rw [List.map_cons, x_lcC]
    refine ⟨trivial, ?_⟩
    simp [hte]
    rw [Rdr.sizes] at hs hp
    refine hw _ _ _ _ _ _ _ _ (b + Rdr.sizes ps) j ws hj hws qp hg.1 (hh r (List.mem_cons_self ..)) (by omega) z0 z4 (hp.mono (by omega)) fun m pen' z' ⟨w0, w1, w2, K, w3, w4⟩ hp' => ?_
    have := lc_wide hw qp hj hws hte (e1 := e1) (e3 := e3) (e4 := e4) (e5 := e5) (e6 := e6) (e7 := e7) (e8 := e8) (P := P) (base := base) (ls := ls) ps (acc ++ [m]) pen' z' b hg.2 (fun r' hr => hh r' (List.mem_cons_of_mem _ hr)) (by omega) w0 (by omega) hp' fun ts pen2 z2 a0 a1 a2 ⟨K2, a3, a4⟩ a5 => by
      have := h (m :: ts) pen2 z2 a0 (by omega) (by simp; rw [Rdr.sizes]; simp; omega) ⟨max K K2, by rw [Rdr.hgts]; omega, w4.mono (Nat.le_max_left ..), a4.mono (Nat.le_max_right ..)⟩ a5
      simpa using this
    simpa using this

def wideFin : ATS := (aSeq (aIfS (aTru (aV 4)) (aRet (aBin fAdd (aBin fAdd (aC (.str "(")) (aV 5)) (aC (.str ")")))) aNext)
  (aRet (aV 5)))
theorem wide_fin {base : Own} {Q : D → Own → Prop} {p q : Addr} {r : Rdr} {z z' : Int} {b : Nat} {pen' : List D} {more : Bool} {m : Str} {e1 e2 e3 e6 e7 e8 : Option D} (k : ∀ m pen' z', WOk r z z' m → Pn b pen' → Q (.str m) (O2 base p q pen' z')) (hz : r.size ≤ 80) (h4 : z ≤ 4) (h1 : 0 ≤ z') (h2 : z' ≤ z - (if more then 1 else 0))
    (hl : (m.length : Int) + 8 ≤ 80 * r.size + 2 * (z - (if more then 1 else 0) - z')) (hw : ∃ K : Nat, (K : Int) ≤ (r.hgt : Int) - 1 + (z - (if more then 1 else 0) - z') ∧ Nw K r m.cps.toList) (hp : Pn b pen') :
    wideFin { nx := fun _ o => Rt Q .non o, rt := Rt Q } [some (.ref p), e1, e2, e3, some (.bl more), some (.str m), e6, e7, e8] (O2 base p q pen' z') := by
  obtain ⟨K, k1, k2⟩ := hw
  have e1 : (Str.ofString "(").length = 1 := by decide +kernel
  have e2 : (Str.ofString ")").length = 1 := by decide +kernel
  unfold wideFin
  cases more with
  | false =>
    simp
    simp at h2 hl k1
    exact Rt.mk (k m pen' z' ⟨h1, h2, by omega, K, by omega, .inl k2⟩ hp)
  | true =>
    simp at h2 hl k1
    simp [e1, e2]
    refine ⟨by omega, by omega, Rt.mk (k _ pen' z' ⟨h1, by omega, by simp only [len_app, e1, e2]; omega, K + 1, by omega, .inr ?_⟩ hp)⟩
    rw [cs_app, cs_app, l40, l41]
    exact .br (k2.1.up r.lvl3 (Nat.le_refl _))
abbrev wideTab : List (Str × Str) := [("hold", ":"), ("tag", "@"), ("make", "#"), ("ahead", "&"), ("not", "!"), ("many", "*"), ("maybe", "?")]
def wideMid (S_law_shown S_law_wide_in : L3.Spec) : ATS := (aIfS (aB (aBin (fIn false) (aV 3) (aTup (aCons (aC (.str "nothing")) (aCons (aC (.str "never")) (aCons (aC (.str "sign")) (aCons (aC (.str "but")) (aCons (aC (.str "name")) (aCons (aC (.str "again")) aNil))))))))) (aAsg (aCall S_law_shown [] (aCons (aV 1) aNil)) (gN 5)) (aIfS (aB (aBin (fEq false) (aV 3) (aC (.str "row")))) (aAsg (aJoin (aC (.str " ")) (aFz (aLc (aIt (aBin fIx (aV 1) (aC (.int 1)))) (gN 7) aYes (aCall S_law_wide_in [] (aCons (aV 0) (aCons (aV 7) (aCons (aFz (aLst (aCons (aC (.str "choice")) (aCons (aC (.str "row")) aNil)))) (aCons (aV 2) aNil))))) [7]))) (gN 5)) (aIfS (aB (aBin (fEq false) (aV 3) (aC (.str "choice")))) (aAsg (aJoin (aC (.str " / ")) (aFz (aLc (aIt (aBin fIx (aV 1) (aC (.int 1)))) (gN 7) aYes (aCall S_law_wide_in [] (aCons (aV 0) (aCons (aV 7) (aCons (aFz (aLst (aCons (aC (.str "choice")) aNil))) (aCons (aV 2) aNil))))) [7]))) (gN 5)) (aSeq (aAsg (aFz (aLst (aCons (aC (.str "choice")) (aCons (aC (.str "row")) (aCons (aC (.str "hold")) (aCons (aC (.str "tag")) (aCons (aC (.str "make")) (aCons (aC (.str "ahead")) (aCons (aC (.str "not")) (aCons (aC (.str "many")) (aCons (aC (.str "maybe")) aNil))))))))))) (gN 6))
  (aSeq (aAsg (aCall S_law_wide_in [] (aCons (aV 0) (aCons (aBin fIx (aV 1) (aUn fNeg (aC (.int 1)))) (aCons (aV 6) (aCons (aV 2) aNil))))) (gN 7))
  (aSeq (aAsg (aC (.dct (dTab [("hold", ":"), ("tag", "@"), ("make", "#"), ("ahead", "&"), ("not", "!"), ("many", "*"), ("maybe", "?")]))) (gN 8))
  (aAsg (aBin fIx (aFz (aLst (aCons (aBin fAdd (aBin fAdd (aJoin (aC (.str "")) (aFn (f1 gList) (aCons (aSl (aV 1) (aSo (aC (.int 1))) (aSo (aUn fNeg (aC (.int 1))))) aNil))) (aBin (fIxD [("hold", ":"), ("tag", "@"), ("make", "#"), ("ahead", "&"), ("not", "!"), ("many", "*"), ("maybe", "?")]) (aV 8) (aV 3))) (aV 7)) (aCons (aBin fAdd (aV 7) (aBin (fIxD [("hold", ":"), ("tag", "@"), ("make", "#"), ("ahead", "&"), ("not", "!"), ("many", "*"), ("maybe", "?")]) (aV 8) (aV 3))) aNil)))) (aFn (f1 gInt1) (aCons (aBin (fIn false) (aV 3) (aTup (aCons (aC (.str "many")) (aCons (aC (.str "maybe")) aNil)))) aNil))) (gN 5))))))))
/-- what the middle tells: a natural writing -/
theorem wide_mid {n : Nat} {S_s S_w : L3.Spec} (hsh : UShown (n + 1) S_s) (hw : UWin n S_w) {base : Own} {p q : Addr} (qp : q ≠ p) {r : Rdr} {ls : List Str} (gd : r.Gd ls) (hh : r.hgt ≤ n + 1) (hz : r.size ≤ 80) {z0 : Int} (h0 : 0 ≤ z0) (h4 : z0 ≤ 4) {b : Nat} {pen : List D} (hp : Pn (b + r.size - 1) pen) {more : Bool} {E : AEnds}
    (k : ∀ (m : Str) pen' z' e6 e7 e8, 0 ≤ z' → z' ≤ z0 → (m.length : Int) + 8 ≤ 80 * r.size + 2 * (z0 - z') → (∃ K : Nat, (K : Int) ≤ (r.hgt : Int) - 1 + (z0 - z') ∧ Nw K r m.cps.toList) → Pn b pen' → E.nx [some (.ref p), some r.toD, some (.ref q), some (.str r.word), some (.bl more), some (.str m), e6, e7, e8] (O2 base p q pen' z')) :
    wideMid S_s S_w E [some (.ref p), some r.toD, some (.ref q), some (.str r.word), some (.bl more), none, none, none, none] (O2 base p q pen z0) := by
  have hlen := r.len_shown gd.ok
  have hpos := r.hgt_pos
  have bare : Nw (r.hgt - 1) r r.shown.cps.toList → r.size = 1 → S_s [r.toD] (O2 base p q pen z0) fun d o => E.nx [some (.ref p), some r.toD, some (.ref q), some (.str r.word), some (.bl more), some d, none, none, none] o := fun hn h1 => by
    refine hsh _ _ r gd.ok hh hz (k _ pen z0 none none none h0 (Int.le_refl _) (by omega) ⟨r.hgt - 1, by omega, hn⟩ (hp.mono (by omega)))
  unfold wideMid
  cases r with
  | leaf w =>
    have hn := nw_shown (.leaf w) gd
    rcases gd with rfl | rfl <;> simp [Rdr.word] <;> exact bare hn rfl
  | sg w x =>
    have hn := nw_shown (.sg w x) gd
    rcases gd.1 with ⟨rfl, _⟩ | ⟨rfl, _⟩ <;> simp [Rdr.word] <;> exact bare hn rfl
  | nm w x =>
    have hn := nw_shown (.nm w x) gd
    rcases gd.1 with rfl | ⟨rfl, _⟩ <;> simp [Rdr.word] <;> exact bare hn rfl
  | seq w ps =>
    have e1 : (Rdr.seq w ps).hgt = 1 + Rdr.hgts ps := by rw [Rdr.hgt]
    have e2 : (Rdr.seq w ps).size = 1 + Rdr.sizes ps := by rw [Rdr.size]
    have l1 : (Str.ofString " ").length = 1 := by decide +kernel
    have l3 : (Str.ofString " / ").length = 3 := by decide +kernel
    have h6 := gd.2.2.1
    have hhp : ∀ r ∈ ps, r.hgt ≤ n := fun r hr => by have := Rdr.le_hgts hr; omega
    rw [e1, e2] at k
    rcases gd.1 with rfl | rfl
    · simp [Rdr.word, Rdr.toD_seq]
      refine lc_wide hw qp (j := 1) (by decide) ws1 (fun env own P => by simp) ps [] pen z0 b gd.2.2.2 hhp (by omega) h0 h4 (hp.mono (by rw [e2]; omega)) fun ts pen' z' a0 a1 a2 ⟨K, a3, a4⟩ a5 => ?_
      have hl := a4.len
      have hj := len_join (Str.ofString " ") ts
      rw [l1] at hj
      rw [List.nil_append, x_join, l1]
      refine ⟨by omega, ?_⟩
      have := k (Str.join " " ts) pen' z' none none none a0 a1 (by omega) ⟨K, by omega, nw_row a4 gd.2.1⟩ a5
      simpa [Rdr.word, Rdr.toD_seq] using this
    · simp [Rdr.word, Rdr.toD_seq]
      refine lc_wide hw qp (j := 0) (by decide) ws0 (fun env own P => by simp) ps [] pen z0 b gd.2.2.2 hhp (by omega) h0 h4 (hp.mono (by rw [e2]; omega)) fun ts pen' z' a0 a1 a2 ⟨K, a3, a4⟩ a5 => ?_
      have hl := a4.len
      have hj := len_join (Str.ofString " / ") ts
      rw [l3] at hj
      rw [List.nil_append, x_join, l3]
      refine ⟨by omega, ?_⟩
      have := k (Str.join " / " ts) pen' z' none none none a0 a1 (by omega) ⟨K, by omega, nw_cho a4 gd.2.1⟩ a5
      simpa [Rdr.word, Rdr.toD_seq] using this
  | one w pr =>
    have e1 : (Rdr.one w pr).hgt = 1 + pr.hgt := by rw [Rdr.hgt]
    have e2 : (Rdr.one w pr).size = 1 + pr.size := by rw [Rdr.size]
    rw [e1, e2] at k
    have a1 : ∀ a b : D, atI [a, b] (-1) = some b := fun a b => rfl
    have f1 : (Str.ofString "*").length = 1 := by decide +kernel
    have f2 : (Str.ofString "?").length = 1 := by decide +kernel
    have f3 : (Str.ofString "&").length = 1 := by decide +kernel
    have f4 : (Str.ofString "!").length = 1 := by decide +kernel
    have g : ∀ P : D → Own → Prop, (∀ m pen' z', WiOk 2 pr z0 z' m → Pn b pen' → P (.str m) (O2 base p q pen' z')) → S_w [.ref p, pr.toD, .lst [.str "choice", .str "row", .str "hold", .str "tag", .str "make", .str "ahead", .str "not", .str "many", .str "maybe"], .ref q] (O2 base p q pen z0) P := fun P hP => hw _ _ _ _ _ _ _ _ b 2 _ (by decide) ws2 qp gd.2 (by omega) (by omega) h0 h4 (hp.mono (by rw [e2]; omega)) hP
    rcases gd.1 with rfl | rfl | rfl | rfl <;> simp [Rdr.word, Rdr.toD_one, a1] <;> refine g _ fun m pen' z' ⟨w0, w1, w2, K, w3, w4⟩ hp' => ?_ <;> simp [fIxD, lookT, f1, f2, f3, f4, cut2, join0]
    · refine ⟨by omega, by omega, ?_⟩
      have := k (m ++ "*") pen' z' (some (.lst [.str "choice", .str "row", .str "hold", .str "tag", .str "make", .str "ahead", .str "not", .str "many", .str "maybe"])) (some (.str m)) (some (.dct (dTab wideTab))) w0 w1 (by simp only [len_app, f1]; omega) ⟨K, by omega, by rw [cs_app, l42]; exact nw_post rfl w4⟩ hp'
      simpa [Rdr.word, Rdr.toD_one] using this
    · refine ⟨by omega, by omega, ?_⟩
      have := k (m ++ "?") pen' z' (some (.lst [.str "choice", .str "row", .str "hold", .str "tag", .str "make", .str "ahead", .str "not", .str "many", .str "maybe"])) (some (.str m)) (some (.dct (dTab wideTab))) w0 w1 (by simp only [len_app, f2]; omega) ⟨K, by omega, by rw [cs_app, l63]; exact nw_post rfl w4⟩ hp'
      simpa [Rdr.word, Rdr.toD_one] using this
    · refine ⟨by omega, by omega, ?_⟩
      have := k ("&" ++ m) pen' z' (some (.lst [.str "choice", .str "row", .str "hold", .str "tag", .str "make", .str "ahead", .str "not", .str "many", .str "maybe"])) (some (.str m)) (some (.dct (dTab wideTab))) w0 w1 (by simp only [len_app, f3]; omega) ⟨K, by omega, by rw [cs_app, l38]; exact nw_pre rfl w4⟩ hp'
      simpa [Rdr.word, Rdr.toD_one] using this
    · refine ⟨by omega, by omega, ?_⟩
      have := k ("!" ++ m) pen' z' (some (.lst [.str "choice", .str "row", .str "hold", .str "tag", .str "make", .str "ahead", .str "not", .str "many", .str "maybe"])) (some (.str m)) (some (.dct (dTab wideTab))) w0 w1 (by simp only [len_app, f4]; omega) ⟨K, by omega, by rw [cs_app, l33]; exact nw_pre rfl w4⟩ hp'
      simpa [Rdr.word, Rdr.toD_one] using this
  | two w l pr =>
    have e1 : (Rdr.two w l pr).hgt = 1 + pr.hgt := by rw [Rdr.hgt]
    have e2 : (Rdr.two w l pr).size = 1 + pr.size := by rw [Rdr.size]
    rw [e1, e2] at k
    have hl8 := gd.2.1.1
    have a1 : ∀ a b c : D, atI [a, b, c] (-1) = some c := fun a b c => rfl
    have f1 : (Str.ofString ":").length = 1 := by decide +kernel
    have f2 : (Str.ofString "@").length = 1 := by decide +kernel
    have f3 : (Str.ofString "#").length = 1 := by decide +kernel
    have lt := isNm_lts gd.2.2.1
    have g : ∀ P : D → Own → Prop, (∀ m pen' z', WiOk 2 pr z0 z' m → Pn b pen' → P (.str m) (O2 base p q pen' z')) → S_w [.ref p, pr.toD, .lst [.str "choice", .str "row", .str "hold", .str "tag", .str "make", .str "ahead", .str "not", .str "many", .str "maybe"], .ref q] (O2 base p q pen z0) P := fun P hP => hw _ _ _ _ _ _ _ _ b 2 _ (by decide) ws2 qp gd.2.2.2 (by omega) (by omega) h0 h4 (hp.mono (by rw [e2]; omega)) hP
    rcases gd.1 with rfl | rfl | ⟨rfl, _⟩ <;> simp [Rdr.word, Rdr.toD_two, a1] <;> refine g _ fun m pen' z' ⟨w0, w1, w2, K, w3, w4⟩ hp' => ?_ <;> simp [fIxD, lookT, f1, f2, f3, cut3, join1]
    · refine ⟨by omega, by omega, by omega, by omega, ?_⟩
      have := k (l ++ (":" ++ m)) pen' z' (some (.lst [.str "choice", .str "row", .str "hold", .str "tag", .str "make", .str "ahead", .str "not", .str "many", .str "maybe"])) (some (.str m)) (some (.dct (dTab wideTab))) w0 w1 (by simp only [len_app, f1]; omega) ⟨K, by omega, by rw [cs_app, cs_app, l58]; exact nw_two lt rfl w4⟩ hp'
      simpa [Rdr.word, Rdr.toD_two] using this
    · refine ⟨by omega, by omega, by omega, by omega, ?_⟩
      have := k (l ++ ("@" ++ m)) pen' z' (some (.lst [.str "choice", .str "row", .str "hold", .str "tag", .str "make", .str "ahead", .str "not", .str "many", .str "maybe"])) (some (.str m)) (some (.dct (dTab wideTab))) w0 w1 (by simp only [len_app, f2]; omega) ⟨K, by omega, by rw [cs_app, cs_app, l64]; exact nw_two lt rfl w4⟩ hp'
      simpa [Rdr.word, Rdr.toD_two] using this
    · refine ⟨by omega, by omega, by omega, by omega, ?_⟩
      have := k (l ++ ("#" ++ m)) pen' z' (some (.lst [.str "choice", .str "row", .str "hold", .str "tag", .str "make", .str "ahead", .str "not", .str "many", .str "maybe"])) (some (.str m)) (some (.dct (dTab wideTab))) w0 w1 (by simp only [len_app, f3]; omega) ⟨K, by omega, by rw [cs_app, cs_app, l35]; exact nw_two lt rfl w4⟩ hp'
      simpa [Rdr.word, Rdr.toD_two] using this

theorem wide_eq (S_d S_s S_w : L3.Spec) : T_law_wide S_d S_s S_w = (aSeq (aAsg (aBin fIx (aV 1) (aC (.int 0))) (gN 3))
  (aSeq (aAsg (aAndV (aBin (fEq false) (aCall S_d [] (aCons (aV 0) (aCons (aC (.int 4)) aNil))) (aC (.int 0))) (aBin fGt (aBin fIx (aV 2) (aC (.int 0))) (aC (.int 0)))) (gN 4))
  (aSeq (aAsg (aBin fSub (aBin fIx (aV 2) (aC (.int 0))) (aFn (f1 gInt1) (aCons (aV 4) aNil))) (gSubL (aV 2) (aC (.int 0))))
  (aSeq (wideMid S_s S_w) wideFin)))) := rfl
theorem p_wide {n : Nat} {S_d S_s S_w : L3.Spec} (hd : UDraw S_d) (hsh : UShown (n + 1) S_s) (hw : UWin n S_w) {ds : List D} {own : Own} {Q : D → Own → Prop} (h : S_wide (n + 1) ds own Q) : T_law_wide S_d S_s S_w { nx := fun _ o => Rt Q .non o, rt := Rt Q } (astart N_law_wide ds) own := by
  obtain ⟨base, p, pen, q, z, r, ls, b, rfl, rfl, qp, gd, hh, hz, z0, z4, hp, k⟩ := h
  rw [wide_eq]
  have sq : ∀ pen z, see (O2 base p q pen z) (.ref q) = .lst [.int z] := fun _ _ => x_seeR o2_q
  have kq : ∀ pen z k, ownL (O2 base p q pen z) (.ref q) k = k q [.int z] := fun _ _ _ => x_ownL o2_q
  have sp : ∀ pen pen' z, oset (O2 base p q pen z) p (.lst pen') = O2 base p q pen' z := fun _ _ _ => o2_sp qp
  have ss : ∀ pen z z', oset (O2 base p q pen z) q (.lst [.int z']) = O2 base p q pen z' := fun _ _ _ => o2_sq
  obtain ⟨rest, e⟩ := r.toD_word
  have hs := r.size_pos
  have go : ∀ (more : Bool) (pen1 : List D), Pn (b + r.size - 1) pen1 → (more = true → 1 ≤ z) → wideMid S_s S_w { nx := wideFin { nx := fun _ o => Rt Q .non o, rt := Rt Q }, rt := Rt Q } [some (.ref p), some r.toD, some (.ref q), some (.str r.word), some (.bl more), none, none, none, none] (O2 base p q pen1 (z - (if more then 1 else 0))) := fun more pen1 hp1 hm => by
    have h0 : 0 ≤ z - (if more then 1 else 0) := by
      cases more with
      | true => have := hm rfl; simp; omega
      | false => simp; exact z0
    have h4 : z - (if more then 1 else 0) ≤ 4 := by split <;> omega
    refine wide_mid hsh hw qp gd hh hz h0 h4 hp1 fun m pen' z' e6 e7 e8 a0 a1 a2 a3 a4 => ?_
    exact wide_fin k hz z4 a0 a1 a2 a3 a4
  have start : ∀ env own, (aBin fIx (aV 1) (aC (.int 0))) [some (.ref p), some r.toD, some (.ref q), none, none, none, none, none, none] own env = env (.str r.word) own := fun env own => by
    simp [e]
  simp only [astart, N_law_wide, List.length_cons, List.length_nil, List.map_cons, List.map_nil, x_seq, x_asg, List.cons_append, List.nil_append]
  simp only [List.replicate]
  rw [start]
  simp [sq]
  refine hd _ _ _ _ _ (b + r.size - 1) (o2_p qp) (hp.mono (by omega)) (by decide) (by decide) fun kk pen1 k0 k1 hp1 => ?_
  simp [sp]
  by_cases q0 : kk = 0
  · subst q0
    simp [sq, C0]
    by_cases g : 0 < z
    · have := go true pen1 hp1 (fun _ => by omega)
      simp [g, kq, ss]
      simpa using this
    · have := go false pen1 hp1 (fun x => by cases x)
      simp [g, kq, ss]
      simpa using this
  · have qb : (kk == 0) = false := by simpa using q0
    have := go false pen1 hp1 (fun x => by cases x)
    simp [qb, sq, C0, kq, ss]
    simpa using this

/-! ### what is heard -/
def S_heard : L3.SpecL := fun tl own P => ∃ (td : D → Prop) (rf : Prop), (∀ d, td d → P (.tup [.str "told", d]) own) ∧ (rf → P (.tup [.str "text", .non]) own) ∧ ∀ (EX : XP) (Q : D → Own → Prop), (∀ d, td d → Q d own) → (rf → EX "NoText" none own) → tl EX own Q
theorem isE_ref {cs : List Str} {f : Str → Bool} {i : Nat} {env : AEnv} {own : Own} {P : D → Own → Prop} {a : Addr} {c : Str} (hi : eg env i = some (.ref a)) (ho : own a = some (.exc a c none)) (hc : c ∈ cs) : aIsE cs f (aV i) env own P = P (.bl (f c)) own := by
  apply propext
  unfold aIsE
  simp only [x_v, hi]
  constructor
  · rintro ⟨c', dx, e1, e2, e3, e4⟩
    rw [ho] at e1; cases e1; exact e4
  · exact fun h => ⟨c, none, ho, trivial, hc, h⟩
@[simp] theorem x_isNR {neg : Bool} {own : Own} {a : Addr} {Q : D → Prop} : fIsN neg own (.ref a) .non Q = Q (.bl neg) := by simp [fIsN]
@[simp] theorem x_cntB {to te : ATE} {env : AEnv} {own : Own} {P : D → Own → Prop} : aCntB to te env own P = to env own fun d o1 => match d with
  | .lst ds => te env o1 fun z o2 => match z with
    | .bl b => oP (blL ds) fun bs => P (.int (bs.countP (· == b) : Nat)) o2
    | _ => False
  | _ => False := rfl
@[simp] theorem x_idxB {to te : ATE} {env : AEnv} {own : Own} {P : D → Own → Prop} : aIdxB to te env own P = to env own fun d o1 => match d with
  | .lst ds => te env o1 fun z o2 => match z with
    | .bl b => oP (blL ds) fun bs => ∃ j, bs[j]? = some b ∧ (∀ m, m < j → bs[m]? ≠ some b) ∧ P (.int (j : Nat)) o2
    | _ => False
  | _ => False := rfl
theorem p_heard {f : Addr} {tl : LamR} {own : Own} {Q : D → Own → Prop} (h : S_heard tl own Q) : T_law_heard f tl { nx := fun _ o => Rt Q .non o, rt := Rt Q } (astart N_law_heard [.ref f]) own := by
  obtain ⟨td, rf, h1, h2, h3⟩ := h
  have t1 : (isT ["NoText"]) ("NoText" : Str) = true := by decide +kernel
  have t0 : (isT []) ("NoText" : Str) = false := rfl
  simp only [T_law_heard, astart, N_law_heard, List.length_cons, List.length_nil, List.map_cons, List.map_nil, x_seq, x_asg, x_c, x_gN, List.cons_append, List.nil_append, List.replicate, List.set]
  unfold aTry
  simp only [x_asg]
  refine ⟨rfl, h3 _ _ (fun d hd => ?_) fun hr => ⟨by simp, fun a ha => ?_⟩⟩
  · simp
    exact Rt.mk (h1 d hd)
  · have hs : oset own a (.exc a "NoText" none) a = some (.exc a "NoText" none) := oset_same
    generalize ho : oset own a (.exc a "NoText" none) = o2 at hs ⊢
    have key : ∀ (f : Str → Bool) (env : AEnv) (P : D → Own → Prop), eg env 2 = some (.ref a) → aIsE ["NoText"] f (aV 2) env o2 P = P (.bl (f "NoText")) o2 := fun f env P he => isE_ref he hs (by simp)
    simp
    simp [key, t0, t1, blL]
    refine ⟨3, by rfl, ?_, ?_⟩
    · intro m hm
      have : m = 0 ∨ m = 1 ∨ m = 2 := by omega
      rcases this with rfl | rfl | rfl <;> simp
    · simp [atI, ixN]
      refine Rt.drop (o' := own) (fun q m e => ?_) (h2 hr)
      rw [← ho]
      exact oset_sub ha q m e

/-! ### what is written is read back -/
theorem sq_no10 : ∀ {n : Nat} {m x : Cs}, m.length < n → (∀ r, sqF (m ++ 93 :: r) = some (x, r)) → 10 ∉ m
  | 0, _, _, hn, _ => absurd hn (Nat.not_lt_zero _)
  | n + 1, [], x, hn, h => by simp
  | n + 1, c :: m, x, hn, h => by
    have h0 := h []
    simp only [List.cons_append] at h0 h
    simp only [List.length_cons] at hn
    by_cases c93 : c = 93
    · subst c93
      rw [sqF.eq_def] at h0
      simp at h0
    · by_cases c92 : c = 92
      · subst c92
        cases m with
        | nil => simp
        | cons d m =>
          cases ht : tells d with
          | none => rw [sqF.eq_def] at h0; simp [ht] at h0
          | some y =>
            obtain ⟨x', rfl⟩ : ∃ x', x = y :: x' := by
              rw [sqF.eq_def] at h0
              simp [ht] at h0
              obtain ⟨a, _, e⟩ := h0
              exact ⟨a, e.symm⟩
            have ih := sq_no10 (n := n) (m := m) (x := x') (by simp at hn; omega) fun r => by
              have := h r
              rw [sqF.eq_def] at this
              simp [ht] at this
              exact this
            have hd : 10 ≠ d := by rintro rfl; simp [tells] at ht
            simp [hd, ih]
      · by_cases g : (inSg c && c != 10 && c != 94) = true
        · obtain ⟨x', rfl⟩ : ∃ x', x = c :: x' := by
            rw [sqF.eq_def] at h0
            simp only [c93, c92, if_false, g, if_true] at h0
            simp at h0
            obtain ⟨a, _, e⟩ := h0
            exact ⟨a, e.symm⟩
          have ih := sq_no10 (n := n) (m := m) (x := x') (by omega) fun r => by
            have := h r
            rw [sqF.eq_def] at this
            simp only [c93, c92, if_false, g, if_true] at this
            simp at this
            exact this
          have hd : 10 ≠ c := by rintro rfl; simp at g
          simp [hd, ih]
        · rw [sqF.eq_def] at h0
          simp only [c93, c92, if_false, g] at h0
          simp at h0
theorem lts_no {x : Str} (h : Lts x) {d : Nat} (hd : isL d = false) : d ∉ x.cps.toList := fun hm => by
  have := h.2 d hm; rw [hd] at this; cases this
theorem Wr.no10 {l k rs m} (h : Wr l k rs m) : 10 ∉ m := by
  have ap : ∀ {a b : Cs}, 10 ∉ a → 10 ∉ b → 10 ∉ a ++ b := fun h1 h2 h => by rcases List.mem_append.mp h with h | h; exact h1 h; exact h2 h
  induction h with
  | nothing => simp
  | never => simp
  | @sign k x m a b => have := sq_no10 (Nat.lt_succ_self _) b; simpa using this
  | @but k x m a => have := sq_no10 (Nat.lt_succ_self _) a; simpa using this
  | again a => have := lts_no a (d := 10) rfl; simpa using this
  | name a => exact lts_no a rfl
  | @br k r m _ ih => simpa using ih
  | item _ ih => exact ih
  | @pre k r m c w a _ ih =>
    have hc : 10 ≠ c := by rintro rfl; simp [ahead] at a
    simpa [hc] using ih
  | @post k r m c w a _ ih =>
    have hc : 10 ≠ c := by rintro rfl; simp [after] at a
    exact ap ih (by simpa using hc)
  | @two k r m x c w a b _ ih =>
    have hc : 10 ≠ c := by rintro rfl; simp [behind] at b
    exact ap (lts_no a rfl) (by simpa [hc] using ih)
  | row _ ih => exact ih
  | rows _ _ n ih ih2 => exact ap ih ih2
  | cho _ ih => exact ih
  | chos _ _ n ih ih2 => exact ap ih ih2
  | nil4 => simp
  | cons4 _ _ ih ih2 => have := ap ih ih2; simpa using this
  | nil5 => simp
  | cons5 _ _ ih ih2 => have := ap ih ih2; simpa using this
theorem readF_ok {ls : List Str} {r : Rdr} {x : Str} {k : Nat} (g : r.Gd ls) (h8 : r.hgt ≤ 8) (h : Wr 3 k [r] x.cps.toList) (hk : k ≤ 12) : readF x = some r := by
  unfold readF
  rw [read_all (h.mono hk)]
  show (if r.rd 8 = true then some r else none) = some r
  rw [if_pos (g.rdT h8)]
theorem free10 : ∀ {p : Cs}, 10 ∉ p → SX.free [59, 10] p = true
  | [], _ => rfl
  | c :: r, h => by
    have h1 : 10 ≠ c := fun e => h (by rw [e]; exact List.mem_cons_self ..)
    have h2 : 10 ∉ r := fun e => h (List.mem_cons_of_mem _ e)
    show (!(TL.pre [59, 10] (c :: (r ++ [59, 10]))) && SX.free [59, 10] r) = true
    rw [free10 h2, Bool.and_true]
    unfold TL.pre
    cases r with
    | nil => simp
    | cons d r =>
      have h3 : ¬ d = 10 := fun e => h2 (by rw [e]; exact List.mem_cons_self ..)
      simp [h3]
def lineOf (x : Str × Rdr) (m : Str) : Str := x.1 ++ (" = " ++ (m ++ ";\n"))
def linesOf : List (Str × Rdr) → List Str → List Str
  | x :: l, m :: ms => lineOf x m :: linesOf l ms
  | _, _ => []
def Wrts : List (Str × Rdr) → List Str → Prop
  | [], [] => True
  | x :: l, m :: ms => Wr 3 12 [x.2] m.cps.toList ∧ Wrts l ms
  | _, _ => False
theorem line_cs (x : Str × Rdr) (m : Str) : (lineOf x m).cps.toList = (x.1.cps.toList ++ ([32, 61, 32] ++ m.cps.toList)) ++ [59, 10] := by
  unfold lineOf
  rw [cs_app, cs_app, cs_app, show Str.ofString " = " = toS [32, 61, 32] from by decide +kernel, show Str.ofString ";\n" = toS [59, 10] from by decide +kernel]
  simp
theorem pair_line {ls : List Str} {x : Str × Rdr} {m : Str} (hx : isNm x.1 = true) (g : x.2.Gd ls) (h8 : x.2.hgt ≤ 8) (h : Wr 3 12 [x.2] m.cps.toList) : pairF (toS (x.1.cps.toList ++ ([32, 61, 32] ++ m.cps.toList))) = some x := by
  unfold pairF
  rw [toS_cs, SX.par_head (sep := [61, 32]) m.cps.toList (lts_no (isNm_lts hx) rfl)]
  show (readF (toS m.cps.toList)).map (fun r => (toS x.1.cps.toList, r)) = _
  rw [toS_tl m, toS_tl x.1, readF_ok g h8 h (Nat.le_refl _)]
  rfl
theorem lines_spl {ls : List Str} : ∀ {l : List (Str × Rdr)} {ms : List Str}, (∀ x ∈ l, isNm x.1 = true ∧ x.2.Gd ls ∧ x.2.hgt ≤ 8) → Wrts l ms →
    ∃ bs : List Cs, TL.spl [59, 10] 0 [] ((linesOf l ms).map (·.cps.toList)).flatten = bs ++ [[]] ∧ bs.mapM (fun q => pairF (toS q)) = some l
  | [], [], _, _ => ⟨[], by show TL.spl _ 0 [] [] = _; rw [TL.spl_nil]; rfl, rfl⟩
  | x :: l, m :: ms, h, w => by
    obtain ⟨bs, h1, h2⟩ := lines_spl (l := l) (ms := ms) (fun y hy => h y (List.mem_cons_of_mem _ hy)) w.2
    obtain ⟨a1, a2, a3⟩ := h x (List.mem_cons_self ..)
    refine ⟨(x.1.cps.toList ++ ([32, 61, 32] ++ m.cps.toList)) :: bs, ?_, ?_⟩
    · show TL.spl [59, 10] 0 [] (((lineOf x m).cps.toList :: (linesOf l ms).map (·.cps.toList)).flatten) = _
      rw [List.flatten_cons, line_cs, List.append_assoc, SX.spl_free _ (by simp) (free10 ?_), h1]
      · rfl
      · intro hm
        rcases List.mem_append.mp hm with hm | hm
        · exact lts_no (isNm_lts a1) rfl hm
        · rcases List.mem_append.mp hm with hm | hm
          · simp at hm
          · exact w.1.no10 hm
    · simp only [List.mapM_cons, pair_line a1 a2 a3 w.1, h2]
      rfl
  | [], _ :: _, _, w => w.elim
  | _ :: _, [], _, w => w.elim
theorem keyAdd_new {k : Key} {l : List Key} (h : k ∉ l) : keyAdd l k = k :: l := by
  unfold keyAdd
  rw [if_neg (by rw [memK_iff]; exact h)]
theorem kset_nd : ∀ {xs : List Str} {acc : List Key}, xs.Nodup → (∀ x ∈ xs, (Sum.inr x : Key) ∉ acc) → (kset xs acc).length = xs.length + acc.length
  | [], acc, _, _ => by simp [kset]
  | x :: xs, acc, nd, h => by
    rw [List.nodup_cons] at nd
    show (kset xs (keyAdd acc (.inr x))).length = _
    rw [keyAdd_new (h x (List.mem_cons_self ..)), kset_nd nd.2 (fun y hy => ?_)]
    · simp; omega
    · intro hm
      rcases List.mem_cons.mp hm with e | hm
      · injection e with e; subst e; exact nd.1 hy
      · exact h y (List.mem_cons_of_mem _ hy) hm
theorem bookB_ok {l : List (Str × Rdr)} (h : PgsOk l) : bookB l = true := by
  have h0 := List.length_pos_iff.mpr h.ne
  have h8 := h.l8
  have hs := pgs_size h
  have hk := kset_nd (acc := []) h.nd (by simp)
  rw [List.length_map] at hk
  simp only [List.length_nil, Nat.add_zero] at hk
  unfold bookB
  simp only [Bool.and_eq_true, decide_eq_true_eq]
  refine ⟨⟨?_, ?_⟩, ?_⟩
  · unfold namedB
    rw [hk]
    simp only [Bool.and_eq_true, decide_eq_true_eq, List.all_map, List.all_eq_true, Function.comp, id, beq_iff_eq, and_true]
    exact ⟨⟨by omega, by omega⟩, fun x hx => (h.ok x hx).2.1⟩
  · rw [List.isEmpty_iff]
    unfold wrongs
    apply List.filter_eq_nil_iff.mpr
    intro x hx
    have := h.ok x hx
    rw [this.2.2.1.right this.2.2.2.1]; simp
  · have : (partsL l).length = (l.map fun x => x.2.size).sum := by
      unfold partsL
      rw [List.length_flatMap]
      congr 1
      apply List.map_congr_left
      intro x _
      exact x.2.len_all
    omega
theorem readBF_ok {l : List (Str × Rdr)} {ms : List Str} (h : PgsOk l) (w : Wrts l ms) : readBF (Str.join Str.empty (linesOf l ms)) = some l := by
  obtain ⟨bs, h1, h2⟩ := lines_spl (ls := l.map (·.1)) (fun x hx => by have := h.ok x hx; exact ⟨this.2.1, this.2.2.1, this.2.2.2.1⟩) w
  have e : linesF (Str.join Str.empty (linesOf l ms)) = bs ++ [[]] := by unfold linesF; rw [join_emp, h1]
  unfold readBF
  rw [e]
  simp [h2, bookB_ok h]
/-! ### too many brackets -/
theorem atom_br {k : Nat} {t : Cs} (h : t.head? ≠ some 41) : atomF (inF k) (40 :: t) = cl (inF k t) := by
  unfold atomF
  simp only [true_and, h, if_false]
  rfl
theorem cho_none {k : Nat} {t : Cs} (h : atomF (inF k) (40 :: t) = none) : chF k (40 :: t) = none := by
  rw [chF_in]
  have h1 : itemF (inF k) (40 :: t) = none := by
    unfold itemF
    have : ahead 40 = none := rfl
    simp only [this, h]
  have h2 : rowF (inF k) (40 :: t) = none := by unfold rowF; rw [h1]
  unfold choF; rw [h2]
theorem many_none : ∀ (k : Nat) (s : Cs), s.head? ≠ some 41 → chF k (List.replicate (k + 1) 40 ++ s) = none
  | 0, s, h => cho_none (by rw [atom_br (by simpa using h)]; rfl)
  | k + 1, s, h => by
    rw [List.replicate_succ, List.cons_append]
    refine cho_none ?_
    rw [atom_br (by rw [List.replicate_succ]; simp)]
    show cl (chF k _) = none
    rw [many_none k s h]; rfl
theorem rep_cs (n : Nat) (c : Nat) : (repS n (toS [c])).cps.toList = List.replicate n c := by
  show (List.replicate n [c]).flatten = _
  induction n with
  | zero => rfl
  | succ n ih => rw [List.replicate_succ, List.flatten_cons, ih]; rfl
theorem never_br : ∀ n, Wr 3 n [.leaf "never"] (List.replicate n 40 ++ (126 :: List.replicate n 41))
  | 0 => (Wr.never (k := 0)).up (j := 3) (by decide) (by decide)
  | n + 1 => by
    have := (Wr.br (never_br n)).up (j := 3) (by decide) (by decide)
    have e : 40 :: (List.replicate n 40 ++ 126 :: List.replicate n 41 ++ [41]) = List.replicate (n + 1) 40 ++ 126 :: List.replicate (n + 1) 41 := by
      rw [List.replicate_succ, show List.replicate (n + 1) 41 = List.replicate n 41 ++ [41] from List.replicate_succ']
      simp
    rw [e] at this; exact this
theorem repr_rd {r : Rdr} {k : Nat} (ok : r.Ok k) (h : r.hgt ≤ 8) (hz : r.size ≤ 80) : reprOk r.toD = true := (rdr_py r ok).repr (by omega) (by omega)

/-! ### the law's own -/
abbrev lamR : Str := lamQ "_law_reader_right"
def URr (aT : Addr) (S : L3.Spec) : Prop := ∀ (own : Own) (P : D → Own → Prop) (p : Addr) (pen : List D) (r : Rdr) (ls : List Str) (b : Nat), own p = some (.lst pen) → own aT = some (.tbl lamR) → r.Gd ls → r.hgt ≤ 8 → r.size ≤ 80 → Pn (b + 80) pen → (∀ pen', Pn b pen' → P (.bl true) (oset own p (.lst pen'))) → S [.ref p, r.toD] own P
def S_rrA (aT : Addr) : L3.Spec := fun ds own P => ∃ (p : Addr) (pen : List D) (r : Rdr) (ls : List Str) (b : Nat), ds = [.ref p, r.toD] ∧ own p = some (.lst pen) ∧ own aT = some (.tbl lamR) ∧ r.Gd ls ∧ r.hgt ≤ 8 ∧ r.size ≤ 80 ∧ Pn (b + 80) pen ∧ ∀ pen', Pn b pen' → P (.bl true) (oset own p (.lst pen'))
theorem uRrA (aT : Addr) : URr aT (S_rrA aT) := fun own P p pen r ls b h1 h2 h3 h4 h5 h6 h7 => ⟨p, pen, r, ls, b, rfl, h1, h2, h3, h4, h5, h6, h7⟩
def UHeard (S : L3.SpecL) : Prop := ∀ (tl : LamR) (own : Own) (P : D → Own → Prop) (td : D → Prop) (rf : Prop), (∀ d, td d → P (.tup [.str "told", d]) own) → (rf → P (.tup [.str "text", .non]) own) → (∀ (EX : XP) (Q : D → Own → Prop), (∀ d, td d → Q d own) → (rf → EX "NoText" none own) → tl EX own Q) → S tl own P
theorem uHeard : UHeard S_heard := fun tl own P td rf h1 h2 h3 => ⟨td, rf, h1, h2, h3⟩
theorem Gd_shown {ls : List Str} {r : Rdr} (g : r.Gd ls) (h8 : r.hgt ≤ 8) : Wr 3 12 [r] r.shown.cps.toList := ((nw_shown r g).1.up r.lvl3 (Nat.le_refl _)).mono (by omega)
theorem wok_wr {r : Rdr} {z' : Int} {m : Str} (h8 : r.hgt ≤ 8) (h : WOk r 4 z' m) : Wr 3 12 [r] m.cps.toList := by
  obtain ⟨a0, a1, a2, K, a3, a4⟩ := h
  have hK : K ≤ 12 := by omega
  rcases a4 with a4 | a4
  · exact (a4.1.up r.lvl3 (Nat.le_refl _)).mono hK
  · exact (a4.up (j := 3) (by decide) (by decide)).mono hK
theorem rrep {r : Rdr} {own : Own} {P : D → Prop} {k : Nat} (ok : r.Ok k) (h : r.hgt ≤ 8) (hz : r.size ≤ 80) : gRepr r.toD P = P (.str (reprD r.toD)) := by
  have := repr_rd ok h hz
  obtain ⟨rest, e⟩ := r.toD_word
  rw [e] at this ⊢
  rw [x_reprT]
  simp [this]
theorem see_rd {own : Own} {r : Rdr} : see own r.toD = r.toD := by
  obtain ⟨rest, e⟩ := r.toD_word
  rw [e]; rfl
abbrev rrB (S_read_reader : L3.SpecX) : ATS := (aIfS (aOr (aB (aBin (fEq true) (aFn (f1 gRepr) (aCons (aCallX S_read_reader noX [] (aCons (aV 3) aNil)) aNil)) (aFn (f1 gRepr) (aCons (aV 1) aNil)))) (aB (aBin (fEq true) (aFn (f1 gRepr) (aCons (aCallXP S_read_reader noX 0 1 [] [0] aNil (aCons (aV 3) aNil)) aNil)) (aFn (f1 gRepr) (aCons (aV 1) aNil))))) (aRet (aC (.bl false))) aNext)
theorem step_rr {S_r : L3.SpecX} (hr : UReadr S_r) {r : Rdr} {ls : List Str} (g : r.Gd ls) (h8 : r.hgt ≤ 8) (hz : r.size ≤ 80) {m : Str} (hm : m.length ≤ 16000) (hw : Wr 3 12 [r] m.cps.toList) {own : Own} {E : AEnds} {e0 e2 e4 : Option D} (h : E.nx [e0, some r.toD, e2, some (.str m), e4] own) :
    rrB S_r E [e0, some r.toD, e2, some (.str m), e4] own := by
  have er := readF_ok g h8 hw (Nat.le_refl _)
  unfold rrB
  simp
  refine hr _ _ _ m hm (fun r' e => ?_) (fun e => by rw [er] at e; cases e)
  rw [er] at e; cases e
  simp [see_rd, rrep g.ok h8 hz (own := own)]
  refine hr _ _ _ m hm (fun r' e => ?_) (fun e => by rw [er] at e; cases e)
  rw [er] at e; cases e
  simp [see_rd, rrep g.ok h8 hz (own := own)]
  exact h
theorem ask_text : eqAsk (.tup [.str "text", .non]) (.tup [.str "text", .non]) := by
  have : eqOk (.tup [.str "text", .non]) = true ∧ (toPy (.tup [.str "text", .non])).depth ≤ 64 := ⟨by decide +kernel, by decide +kernel⟩
  exact ⟨this, this⟩
theorem deq_text : deq (.tup [.str "text", .non]) (.tup [.str "text", .non]) = true := by decide +kernel
theorem p_rr {S_w S_s : L3.Spec} {S_r : L3.SpecX} {S_h : L3.SpecL} {aT : Addr} (hw : UWide 8 S_w) (hs : UShown 8 S_s) (hr : UReadr S_r) (hh : UHeard S_h) {ds : List D} {own : Own} {Q : D → Own → Prop} (h : S_rrA aT ds own Q) : T_law_reader_right S_w S_s S_r S_h aT { nx := fun _ o => Rt Q .non o, rt := Rt Q } (astart N_law_reader_right ds) own := by
  obtain ⟨p, pen, r, ls, b, rfl, ho, hT, g, h8, hz, hp, k⟩ := h
  have hsl := r.len_shown g.ok
  have w1 := Gd_shown g h8
  have rl : (Str.ofString "(").length = 1 := by decide +kernel
  have rl2 : (Str.ofString ")").length = 1 := by decide +kernel
  have rl3 : (Str.ofString "~").length = 1 := by decide +kernel
  have n12 : (repS 12 (Str.ofString "(")).length = 12 := by decide +kernel
  have n12' : (repS 12 (Str.ofString ")")).length = 12 := by decide +kernel
  have n13 : (repS 13 (Str.ofString "(")).length = 13 := by decide +kernel
  have n13' : (repS 13 (Str.ofString ")")).length = 13 := by decide +kernel
  simp [T_law_reader_right, astart, N_law_reader_right]
  intro q hq
  have qp : q ≠ p := by rintro rfl; rw [hq] at ho; cases ho
  have e0 : O2 own p q pen 4 = oset own q (.lst [.int 4]) := by unfold O2; rw [oset_id ho]
  rw [← e0]
  refine hw _ _ _ _ _ _ _ _ (b + 80 - r.size) qp g h8 hz (by decide) (by decide) (hp.mono (by omega)) fun m pen' z' wok hp' => ?_
  have w2 := wok_wr h8 wok
  have lm := wok.len
  have lm0 := wok.lo
  refine hs _ _ r g.ok h8 hz ?_
  refine ⟨trivial, ?_⟩
  refine step_rr hr g h8 hz (by omega) w1 ?_
  refine ⟨trivial, ?_⟩
  simp only [x_gN, List.set]
  refine step_rr hr g h8 hz (by omega) w2 ?_
  refine ⟨trivial, ?_⟩
  have tail : ∀ d, d = D.bl true → Rt Q d (O2 own p q pen' z') := fun d hd => by
    subst hd
    refine Rt.drop (o' := oset own p (.lst pen')) (fun a mo e => ?_) (k pen' (hp'.mono (by omega)))
    unfold O2
    exact oset_sub (by rw [oset_ne qp]; exact hq) a mo e
  have hT2 : O2 own p q pen' z' aT = some (.tbl lamR) := by
    have a1 : aT ≠ p := by rintro rfl; rw [hT] at ho; cases ho
    have a2 : aT ≠ q := by rintro rfl; rw [hT] at hq; cases hq
    rw [o2_m a1 a2]; exact hT
  simp [rl, rl2, rl3, n12, n12']
  have nv : readF (repS 12 (Str.ofString "(") ++ (Str.ofString "~" ++ repS 12 (Str.ofString ")"))) = some (.leaf "never") := by
    refine readF_ok (ls := []) (.inr rfl) (by decide) (k := 12) ?_ (Nat.le_refl _)
    rw [cs_app, cs_app, l40, l41, l126, rep_cs, rep_cs]
    exact never_br 12
  refine hr _ _ _ _ (by simp only [len_app, n12, n12', rl3]; decide) (fun r' e => ?_) (fun e => by rw [nv] at e; cases e)
  rw [nv] at e; cases e
  rw [Rdr.toD_leaf]
  have rn : reprOk (.tup [.str "never"]) = true := by
    have := repr_rd (r := .leaf "never") (k := 6) (.inr rfl) (by decide) (by decide)
    rw [Rdr.toD_leaf] at this; exact this
  simp [rn]
  refine hs _ _ r g.ok h8 hz ?_
  simp [n13, n13']
  refine ⟨by omega, by omega, hT2, ?_⟩
  have nn : readF (repS 13 (Str.ofString "(") ++ (r.shown ++ repS 13 (Str.ofString ")"))) = none := by
    unfold readF
    rw [cs_app, cs_app, l40, l41, rep_cs, rep_cs]
    rw [many_none 12 _ ?_]
    obtain ⟨c, t, e, hc⟩ := w1.hd.2 (by decide)
    rw [e]
    intro z
    have z : c = 41 := by simpa using z
    subst z; unfold hdc at hc; simp [isL] at hc
  refine hh _ _ _ (fun _ => False) True (fun d hd => hd.elim) (fun _ => ?_) fun EX Q' _ hx => ?_
  · simp [ask_text, deq_text]
    exact tail _ rfl
  · simp
    exact hr _ _ _ _ (by simp only [len_app, n13, n13']; omega) (fun r' e => by rw [nn] at e; cases e) fun _ => hx trivial

/-! ### the law -/
def UStart (S : L3.Spec) : Prop := ∀ (own : Own) (P : D → Own → Prop) (ns : List Int), ns.length ≤ 63 → (∀ p pen, own p = none → Pn (2 ^ 59) pen → P (.ref p) (oset own p (.lst pen))) → S [.kls (ns.map D.int)] own P
theorem uStart : UStart S_start := fun own P ns h1 h2 => ⟨ns, rfl, h1, h2⟩
theorem cost_le : cost 8 ≤ 200000000 := by unfold cost; decide +kernel
theorem pg_py {n : Nat} {ls : List Str} : ∀ l : List (Str × Rdr), (∀ x ∈ l, PgOk n ls x ∧ x.2.size ≤ 72) → PysOk (l.map pg) 17 (l.length * 6000)
  | [], _ => .nil
  | x :: l, h => by
    have h1 := h x (List.mem_cons_self ..)
    have h2 := pg_py l fun y hy => h y (List.mem_cons_of_mem _ hy)
    have h3 := rdr_py x.2 h1.1.2.2.1.ok
    have h4 := h1.1.2.2.2.1
    have h5 := h1.2
    rw [List.map_cons, List.length_cons]
    exact (PysOk.cons (PyOk.tup (.cons (.str h1.1.1.2 h1.1.1.1) (.cons (h3.mono (a' := 16) (by omega) (Nat.le_refl _)) (.nil (b := 0))))) h2).mono (Nat.le_refl _) (by omega)
theorem pages_repr {l : List (Str × Rdr)} (h : PgsOk l) : reprOk (.tup (l.map pg)) = true := by
  have := h.l8
  exact (PyOk.tup (pg_py l fun x hx => ⟨h.ok x hx, pgs_sz h hx⟩)).repr (by decide) (by omega)
theorem lines_shown : ∀ l : List (Str × Rdr), linesOf l (l.map fun x => x.2.shown) = l.map line1
  | [] => rfl
  | x :: l => by rw [List.map_cons, linesOf, lines_shown l]; rfl
theorem wrts_shown {l : List (Str × Rdr)} {n : Nat} {ls : List Str} (h : ∀ x ∈ l, PgOk n ls x) : Wrts l (l.map fun x => x.2.shown) := by
  induction l with
  | nil => trivial
  | cons x l ih =>
    have hx := h x (List.mem_cons_self ..)
    exact ⟨Gd_shown hx.2.2.1 hx.2.2.2.1, ih fun y hy => h y (List.mem_cons_of_mem _ hy)⟩
theorem book_rb {l : List (Str × Rdr)} (h : PgsOk l) : readBF (book l) = some l := by
  have := readBF_ok h (wrts_shown h.ok)
  rw [lines_shown] at this; exact this
theorem book_len {l : List (Str × Rdr)} (h : PgsOk l) : (book l).length ≤ 6000 := by
  have h1 := len_join Str.empty (l.map line1)
  have h2 := book_sum h
  rw [len_emp, Nat.mul_zero] at h1
  unfold book; omega
theorem rr_turns {aT : Addr} {S : L3.Spec} (hr : URr aT S) {n : Nat} {ls : List Str} {p : Addr} {E : AEnds} {e0 e2 e3 e6 e7 e8 : Option D} {b : Nat}
    (h : ∀ own pen e4 e5, own p = some (.lst pen) → own aT = some (.tbl lamR) → Pn b pen → E.nx [e0, some (.ref p), e2, e3, e4, e5, e6, e7, e8] own) : ∀ (l : List (Str × Rdr)) (own : Own) (pen : List D) (e4 e5 : Option D), (∀ x ∈ l, PgOk n ls x ∧ x.2.size ≤ 72) → own p = some (.lst pen) → own aT = some (.tbl lamR) → Pn (b + 80 * l.length) pen →
    aTurns (gTp 2 (gsCons (gN 4) (gsCons (gN 5) gsNil))) (aIfS (aNot (aTru (aCall S [] (aCons (aV 1) (aCons (aV 5) aNil))))) (aRet (aC (.bl false))) aNext) (fun _ => True) E (l.map pg) [e0, some (.ref p), e2, e3, e4, e5, e6, e7, e8] own
  | [], own, pen, e4, e5, _, ho, hT, hp => ⟨trivial, h own pen e4 e5 ho hT hp⟩
  | x :: l, own, pen, e4, e5, hl, ho, hT, hp => by
    rw [List.map_cons, x_turC]
    refine ⟨trivial, ?_⟩
    have hx := hl x (List.mem_cons_self ..)
    have a1 : aT ≠ p := by rintro rfl; rw [hT] at ho; cases ho
    simp [pg]
    refine hr _ _ p pen x.2 ls (b + 80 * l.length) ho hT hx.1.2.2.1 hx.1.2.2.2.1 (by omega) (hp.mono (by simp; omega)) fun pen' hp' => ?_
    simp
    exact rr_turns hr h l _ pen' _ _ (fun y hy => hl y (List.mem_cons_of_mem _ hy)) oset_same (by rw [oset_ne a1]; exact hT) hp'
theorem lc_wbook {S_w : L3.Spec} (hw : UWide 8 S_w) {n : Nat} {ls : List Str} {p aT : Addr} {e0 e2 e3 e4 e5 e6 e7 e8 : Option D} {P : List D → Own → Prop} {b : Nat} : ∀ (l : List (Str × Rdr)) (acc : List Str) (own : Own) (pen : List D), (∀ x ∈ l, PgOk n ls x ∧ x.2.size ≤ 72) → own p = some (.lst pen) → own aT = some (.tbl lamR) → Pn (b + 80 * l.length) pen →
    (∀ (ms : List Str) own' pen', Wrts l ms → (((linesOf l ms).map (·.length)).sum ≤ 21 * l.length + 80 * (l.map fun x => x.2.size).sum) → own' p = some (.lst pen') → own' aT = some (.tbl lamR) → Pn b pen' → P ((acc ++ linesOf l ms).map .str) own') →
    aLcL (gTp 2 (gsCons (gN 4) (gsCons (gN 5) gsNil))) aYes (aBin fAdd (aBin fAdd (aBin fAdd (aV 4) (aC (.str " = "))) (aCall S_w [] (aCons (aV 1) (aCons (aV 5) (aCons (aOw (aLst (aCons (aC (.int 4)) aNil))) aNil))))) (aC (.str ";\n"))) (fun _ => True) [e0, some (.ref p), e2, e3, e4, e5, e6, e7, e8] P (l.map pg) (acc.map .str) own
  | [], acc, own, pen, hl, ho, hT, hp, h => ⟨trivial, by have := h [] own pen trivial (by simp [linesOf]) ho hT hp; simpa [linesOf] using this⟩
  | x :: l, acc, own, pen, hl, ho, hT, hp, h => by
    rw [List.map_cons, x_lcC]
    refine ⟨trivial, ?_⟩
    have hx := hl x (List.mem_cons_self ..)
    have a1 : aT ≠ p := by rintro rfl; rw [hT] at ho; cases ho
    have f1 : (Str.ofString " = ").length = 3 := by decide +kernel
    have f2 : (Str.ofString ";\n").length = 2 := by decide +kernel
    have hx8 := hx.1.1.1
    simp [pg, f1]
    refine ⟨by omega, ?_⟩
    intro q hq
    have qp : q ≠ p := by rintro rfl; rw [hq] at ho; cases ho
    have a2 : aT ≠ q := by rintro rfl; rw [hT] at hq; cases hq
    have e0' : O2 own p q pen 4 = oset own q (.lst [.int 4]) := by unfold O2; rw [oset_id ho]
    rw [← e0']
    refine hw _ _ _ _ _ _ _ _ (b + 80 * l.length) qp hx.1.2.2.1 hx.1.2.2.2.1 (by omega) (by decide) (by decide) (hp.mono (by simp; omega)) fun m pen' z' wok hp' => ?_
    have w2 := wok_wr hx.1.2.2.2.1 wok
    have lm := wok.len
    have lm0 := wok.lo
    simp [f1, f2]
    refine ⟨by omega, by omega, ?_⟩
    have := lc_wbook hw (n := n) (ls := ls) (aT := aT) (e0 := e0) (e2 := e2) (e3 := e3) (e4 := e4) (e5 := e5) (e6 := e6) (e7 := e7) (e8 := e8) (P := P) (b := b) l (acc ++ [lineOf x m]) (O2 own p q pen' z') pen' (fun y hy => hl y (List.mem_cons_of_mem _ hy)) (o2_p qp) (by rw [o2_m a1 a2]; exact hT) hp' fun ms own' pen2 w3 hs h1 h2 h3 => by
      have := h (m :: ms) own' pen2 ⟨w2, w3⟩ (by
        show ((lineOf x m :: linesOf l ms).map (·.length)).sum ≤ _
        have : (lineOf x m).length ≤ 21 + 80 * x.2.size := by unfold lineOf; simp only [len_app, f1, f2]; omega
        simp only [List.map_cons, List.sum_cons, List.length_cons]; omega) h1 h2 h3
      simpa [linesOf] using this
    simpa [lineOf] using this
def costT : Nat := costP + 10000 + cost 8

def lawB (S_law_pages S_law_reader_right S_show_book S_law_wide S_read_book S_law_draw S_law_any : L3.Spec) : ATS := (aSeq (aAsg (aCall S_law_pages [] (aCons (aV 1) aNil)) (gN 3))
  (aSeq (aFor (aIt (aV 3)) (gTp 2 (gsCons (gN 4) (gsCons (gN 5) gsNil))) (aIfS (aNot (aTru (aCall S_law_reader_right [] (aCons (aV 1) (aCons (aV 5) aNil))))) (aRet (aC (.bl false))) aNext))
  (aSeq (aAsg (aCall S_show_book [] (aCons (aV 3) aNil)) (gN 6))
  (aSeq (aAsg (aJoin (aC (.str "")) (aFz (aLc (aIt (aV 3)) (gTp 2 (gsCons (gN 4) (gsCons (gN 5) gsNil))) aYes (aBin fAdd (aBin fAdd (aBin fAdd (aV 4) (aC (.str " = "))) (aCall S_law_wide [] (aCons (aV 1) (aCons (aV 5) (aCons (aOw (aLst (aCons (aC (.int 4)) aNil))) aNil))))) (aC (.str ";\n"))) [4, 5]))) (gN 7))
  (aSeq (aIfS (aOr (aB (aBin (fEq true) (aFn (f1 gRepr) (aCons (aCall S_read_book [] (aCons (aV 6) aNil)) aNil)) (aFn (f1 gRepr) (aCons (aV 3) aNil)))) (aB (aBin (fEq true) (aFn (f1 gRepr) (aCons (aCallP S_read_book 0 1 [] [0] aNil (aCons (aV 6) aNil)) aNil)) (aFn (f1 gRepr) (aCons (aV 3) aNil))))) (aRet (aC (.bl false))) aNext)
  (aSeq (aIfS (aAnd (aB (aBin fLe (aFn (f1 gLen) (aCons (aV 7) aNil)) (aC (.int 4000)))) (aB (aBin (fEq true) (aFn (f1 gRepr) (aCons (aCall S_read_book [] (aCons (aV 7) aNil)) aNil)) (aFn (f1 gRepr) (aCons (aV 3) aNil))))) (aRet (aC (.bl false))) aNext)
  (aSeq (aAsg (aCall S_law_any [] (aCons (aV 1) (aCons (aBin fAdd (aC (.int 1)) (aCall S_law_draw [] (aCons (aV 1) (aCons (aC (.int 8)) aNil)))) (aCons (aOw (aLst (aCons (aC (.int 40)) aNil))) (aCons (aFz (aLst (aCons (aC (.str "nobody")) (aCons (aC (.str "x")) aNil)))) aNil))))) (gN 8))
  (aIfS (aNot (aTru (aCall S_law_reader_right [] (aCons (aV 1) (aCons (aV 8) aNil))))) (aRet (aC (.bl false))) aNext))))))))
theorem step_law {S_p S_rr S_sb S_w S_rb S_d S_a : L3.Spec} {aT : Addr} (hp : UPages S_p) (hr : URr aT S_rr) (hsb : UBook S_sb) (hw : UWide 8 S_w) (hrb : UReadb S_rb) (hd : UDraw S_d) (ha : UAny 8 S_a) {E : AEnds} {p : Addr} {e0 : Option D} {own : Own} {pen : List D} {b : Nat} {e2 e3 e4 e5 e6 e7 e8 : Option D} (ho : own p = some (.lst pen)) (hT : own aT = some (.tbl lamR)) (hpn : Pn (b + costT) pen)
    (h : ∀ own pen e2 e3 e4 e5 e6 e7 e8, own p = some (.lst pen) → own aT = some (.tbl lamR) → Pn b pen → E.nx [e0, some (.ref p), e2, e3, e4, e5, e6, e7, e8] own) :
    lawB S_p S_rr S_sb S_w S_rb S_d S_a E [e0, some (.ref p), e2, e3, e4, e5, e6, e7, e8] own := by
  have a1 : aT ≠ p := by rintro rfl; rw [hT] at ho; cases ho
  unfold costT at hpn
  unfold lawB
  simp
  refine hp _ _ p pen (b + 10000 + cost 8) ho (hpn.mono (by omega)) fun l pen1 hl hp1 => ?_
  simp
  have hl8 := hl.l8
  have hok : ∀ x ∈ l, PgOk l.length (l.map (·.1)) x ∧ x.2.size ≤ 72 := fun x hx => ⟨hl.ok x hx, pgs_sz hl hx⟩
  have rp := pages_repr hl
  refine rr_turns hr (b := b + 9000 + cost 8) (fun own2 pen2 e4 e5 ho2 hT2 hp2 => ?_) l _ pen1 _ _ hok oset_same (by rw [oset_ne a1]; exact hT) (hp1.mono (by omega))
  simp
  refine hsb _ _ l hl ?_
  refine lc_wbook hw (b := b + 8000 + cost 8) l [] own2 pen2 hok ho2 hT2 (hp2.mono (by omega)) fun ms own3 pen3 w3 hs ho3 hT3 hp3 => ?_
  have hsz := pgs_size hl
  rw [List.nil_append, x_join]
  refine ⟨by rw [len_emp, Nat.mul_zero]; omega, ?_⟩
  have hj := len_join Str.empty (linesOf l ms)
  rw [len_emp, Nat.mul_zero] at hj
  have hw16 : (Str.join Str.empty (linesOf l ms)).length ≤ 16000 := by omega
  have hw16' : (Str.join Str.empty (linesOf l ms)).length ≤ 16777216 := by omega
  have hb6 := book_len hl
  simp
  refine hrb _ _ _ l (by omega) (book_rb hl) ?_
  simp [rp]
  refine hrb _ _ _ l (by omega) (book_rb hl) ?_
  simp [rp, hw16', C0]
  have rest : ∀ own4 pen4, own4 p = some (.lst pen4) → own4 aT = some (.tbl lamR) → Pn (b + 8000 + cost 8) pen4 → S_d [.ref p, .int 8] own4 (fun e o2 => fAdd0 (.int 1) (see o2 e) fun z => ∀ q, o2 q = none → S_a [.ref p, z, .ref q, .lst [.str "nobody", .str "x"]] (oset o2 q (.lst [.int 40])) fun d o => S_rr [.ref p, d] o fun d_1 o_1 => aIfS (aNot (aTru (aC d_1))) (aRet (aC (.bl false))) aNext E [e0, some (.ref p), e2, some (.tup (l.map pg)), e4, e5, some (.str (book l)), some (.str (Str.join Str.empty (linesOf l ms))), some d] o_1) := by
    intro own4 pen4 ho4 hT4 hp4
    refine hd _ _ p pen4 8 (b + 7999 + cost 8) ho4 (hp4.mono (by omega)) (by decide) (by decide) fun k pen5 k0 k1 hp5 => ?_
    simp
    intro q hq
    have qp : q ≠ p := by rintro rfl; rw [oset_same] at hq; cases hq
    rw [oset_ne qp] at hq
    have a2 : aT ≠ q := by rintro rfl; rw [hT4] at hq; cases hq
    refine any_at ha (z := 40) (ls := ["nobody", "x"]) (b := b + 7999) (by rw [oset_ne (Ne.symm qp)]; exact oset_same) oset_same qp ⟨⟨by simp, by decide, fun l hl => ?_⟩, fun pen z => rfl⟩ (by omega) (by omega) (hp5.mono (by omega)) fun r pen6 z6 r1 r2 r3 r4 hp6 => ?_
    · simp at hl
      rcases hl with rfl | rfl <;> exact ⟨⟨by decide +kernel, by decide +kernel⟩, by decide +kernel⟩
    · have hr80 : r.size ≤ 80 := by omega
      refine hr _ _ p pen6 r _ (b + 7000) (by rw [oset_ne (Ne.symm qp), oset_same]) (by rw [oset_ne a2, oset_ne a1, oset_ne a2, oset_ne a1]; exact hT4) r1 (by omega) hr80 (hp6.mono (by omega)) fun pen7 hp7 => ?_
      simp
      exact h _ pen7 _ _ _ _ _ _ _ oset_same (by rw [oset_ne a1, oset_ne a2, oset_ne a1, oset_ne a2, oset_ne a1]; exact hT4) (hp7.mono (by omega))
  by_cases g : ((Str.join Str.empty (linesOf l ms)).length : Int) ≤ 4000
  · simp [g]
    refine hrb _ _ _ l hw16 (readBF_ok hl w3) ?_
    simp [rp]
    have := rest own3 pen3 ho3 hT3 hp3
    simpa using this
  · simp [g]
    have := rest own3 pen3 ho3 hT3 hp3
    simpa using this
theorem law_eq (S_st S_p S_rr S_sb S_w S_rb S_d S_a : L3.Spec) : T_law S_st S_p S_rr S_sb S_w S_rb S_d S_a = (aSeq (aAsg (aCall S_st [] (aCons (aV 0) aNil)) (gN 1))
  (aSeq (aFor (aRng1 (aCons (aC (.int 3)) aNil)) (gN 2) (lawB S_p S_rr S_sb S_w S_rb S_d S_a)) (aRet (aC (.bl true))))) := rfl
theorem law_turns {S_p S_rr S_sb S_w S_rb S_d S_a : L3.Spec} {aT : Addr} (hp : UPages S_p) (hr : URr aT S_rr) (hsb : UBook S_sb) (hw : UWide 8 S_w) (hrb : UReadb S_rb) (hd : UDraw S_d) (ha : UAny 8 S_a) {E : AEnds} {p : Addr} {e0 : Option D} (hE : ∀ env own, E.nx env own) : ∀ (ds : List D) (own : Own) (pen : List D) (e2 e3 e4 e5 e6 e7 e8 : Option D), own p = some (.lst pen) → own aT = some (.tbl lamR) → Pn (costT * ds.length) pen →
    aTurns (gN 2) (lawB S_p S_rr S_sb S_w S_rb S_d S_a) (fun _ => True) E ds [e0, some (.ref p), e2, e3, e4, e5, e6, e7, e8] own
  | [], own, pen, _, _, _, _, _, _, _, _, _, _ => ⟨trivial, hE _ _⟩
  | d :: ds, own, pen, e2, e3, e4, e5, e6, e7, e8, ho, hT, hpn => by
    rw [x_turC]
    refine ⟨trivial, ?_⟩
    exact step_law hp hr hsb hw hrb hd ha (b := costT * ds.length) ho hT (hpn.mono (by simp [Nat.mul_add])) fun own pen e2 e3 e4 e5 e6 e7 e8 h1 h2 h3 => law_turns hp hr hsb hw hrb hd ha hE ds own pen _ _ _ _ _ _ _ h1 h2 h3
theorem p_law {S_st S_p S_rr S_sb S_w S_rb S_d S_a : L3.Spec} {aT : Addr} (h0 : UStart S_st) (hp : UPages S_p) (hr : URr aT S_rr) (hsb : UBook S_sb) (hw : UWide 8 S_w) (hrb : UReadb S_rb) (hd : UDraw S_d) (ha : UAny 8 S_a) {o : Own} (hT : o aT = some (.tbl lamR)) {ds : List D} {own : Own} {Q : D → Own → Prop} (h : spLawT o 63 ds own Q) : T_law S_st S_p S_rr S_sb S_w S_rb S_d S_a { nx := fun _ o => Rt Q .non o, rt := Rt Q } (astart N_law ds) own := by
  obtain ⟨ns, rfl, hn, rfl, k⟩ := h
  rw [law_eq]
  simp [astart, N_law]
  refine h0 _ _ ns hn fun p pen hp0 hpn => ?_
  have hc := cost_le
  have a1 : aT ≠ p := by rintro rfl; rw [hT] at hp0; cases hp0
  refine law_turns hp hr hsb hw hrb hd ha (fun env own => Rt.mk (k _ _ rfl)) _ _ pen _ _ _ _ _ _ _ oset_same (by rw [oset_ne a1]; exact hT) (hpn.mono ?_)
  have : (rng 0 3).length = 3 := rfl
  rw [this]
  unfold costT costP
  omega

/-! the end: printed by join2.py -/
def kv_FORMS : List (Str × D) := [("nothing", (.str "")), ("never", (.str "")), ("sign", (.str "s")), ("but", (.str "b")), ("row", (.str "p")), ("choice", (.str "p")), ("many", (.str "r")), ("maybe", (.str "r")), ("ahead", (.str "r")), ("not", (.str "r")), ("name", (.str "n")), ("hold", (.str "nr")), ("again", (.str "n")), ("tag", (.str "nr")), ("make", (.str "wr"))]
def kv_TELLS : List (Str × D) := [("n", (.str "\n")), ("]", (.str "]")), ("^", (.str "^")), ("\\", (.str "\\"))]
def kv_AHEAD : List (Str × D) := [("&", (.str "ahead")), ("!", (.str "not"))]
def kv_AFTER : List (Str × D) := [("*", (.str "many")), ("?", (.str "maybe"))]
def kv_BEHIND : List (Str × D) := [(":", (.str "hold")), ("@", (.str "tag")), ("#", (.str "make"))]
def kv_ESCAPED : List (Str × D) := [("\n", (.str "\\n")), ("]", (.str "\\]")), ("^", (.str "\\^")), ("\\", (.str "\\\\"))]
def kv_MARKS : List (Str × D) := [("hold", (.str ":")), ("tag", (.str "@")), ("make", (.str "#"))]
def fn0 : List He.DefD := [⟨("is_text", none), "is_text", "is_text", defArgs s_is_text, defBody s_is_text, defScope s_is_text, [], [("most", .int 60)]⟩, ⟨("is_signs", none), "is_signs", "is_signs", defArgs s_is_signs, defBody s_is_signs, defScope s_is_signs, [], [("least", .int 0)]⟩, ⟨("is_name", none), "is_name", "is_name", defArgs s_is_name, defBody s_is_name, defScope s_is_name, [], []⟩, ⟨("is_piece", none), "is_piece", "is_piece", defArgs s_is_piece, defBody s_is_piece, defScope s_is_piece, [], []⟩, ⟨("is_formed", none), "is_formed", "is_formed", defArgs s_is_formed, defBody s_is_formed, defScope s_is_formed, [], []⟩, ⟨("is_reader", none), "is_reader", "is_reader", defArgs s_is_reader, defBody s_is_reader, defScope s_is_reader, [], []⟩, ⟨("within", none), "within", "within", defArgs s_within, defBody s_within, defScope s_within, [], []⟩, ⟨("all_within", none), "all_within", "all_within", defArgs s_all_within, defBody s_all_within, defScope s_all_within, [], []⟩, ⟨("are_named", none), "are_named", "are_named", defArgs s_are_named, defBody s_are_named, defScope s_are_named, [], []⟩, ⟨("is_right", none), "is_right", "is_right", defArgs s_is_right, defBody s_is_right, defScope s_is_right, [], []⟩, ⟨("first_wrong", none), "first_wrong", "first_wrong", defArgs s_first_wrong, defBody s_first_wrong, defScope s_first_wrong, [], []⟩, ⟨("parts_of", none), "parts_of", "parts_of", defArgs s_parts_of, defBody s_parts_of, defScope s_parts_of, [], []⟩, ⟨("book_of", none), "book_of", "book_of", defArgs s_book_of, defBody s_book_of, defScope s_book_of, [], []⟩, ⟨("need", none), "need", "need", defArgs s_need, defBody s_need, defScope s_need, [], []⟩, ⟨("letters_at", none), "letters_at", "letters_at", defArgs s_letters_at, defBody s_letters_at, defScope s_letters_at, [], []⟩, ⟨("sign_at", none), "sign_at", "sign_at", defArgs s_sign_at, defBody s_sign_at, defScope s_sign_at, [], []⟩, ⟨("signs_at", none), "signs_at", "signs_at", defArgs s_signs_at, defBody s_signs_at, defScope s_signs_at, [], []⟩, ⟨("atom_at", none), "atom_at", "atom_at", defArgs s_atom_at, defBody s_atom_at, defScope s_atom_at, [], []⟩, ⟨("item_at", none), "item_at", "item_at", defArgs s_item_at, defBody s_item_at, defScope s_item_at, [], []⟩, ⟨("row_at", none), "row_at", "row_at", defArgs s_row_at, defBody s_row_at, defScope s_row_at, [], []⟩, ⟨("choice_at", none), "choice_at", "choice_at", defArgs s_choice_at, defBody s_choice_at, defScope s_choice_at, [], []⟩, ⟨("read_reader", none), "read_reader", "read_reader", defArgs s_read_reader, defBody s_read_reader, defScope s_read_reader, [], []⟩, ⟨("pair_in", none), "pair_in", "pair_in", defArgs s_pair_in, defBody s_pair_in, defScope s_pair_in, [], []⟩, ⟨("read_book", none), "read_book", "read_book", defArgs s_read_book, defBody s_read_book, defScope s_read_book, [], []⟩, ⟨("show_signs", none), "show_signs", "show_signs", defArgs s_show_signs, defBody s_show_signs, defScope s_show_signs, [], []⟩, ⟨("show_within", none), "show_within", "show_within", defArgs s_show_within, defBody s_show_within, defScope s_show_within, [], []⟩, ⟨("show_plain", none), "show_plain", "show_plain", defArgs s_show_plain, defBody s_show_plain, defScope s_show_plain, [], []⟩, ⟨("show_reader", none), "show_reader", "show_reader", defArgs s_show_reader, defBody s_show_reader, defScope s_show_reader, [], []⟩, ⟨("show_book", none), "show_book", "show_book", defArgs s_show_book, defBody s_show_book, defScope s_show_book, [], []⟩, ⟨("_law_start", none), "_law_start", "_law_start", defArgs s_law_start, defBody s_law_start, defScope s_law_start, [], []⟩, ⟨("_law_draw", none), "_law_draw", "_law_draw", defArgs s_law_draw, defBody s_law_draw, defScope s_law_draw, [], []⟩, ⟨("_law_label", none), "_law_label", "_law_label", defArgs s_law_label, defBody s_law_label, defScope s_law_label, [], []⟩, ⟨("_law_signs", none), "_law_signs", "_law_signs", defArgs s_law_signs, defBody s_law_signs, defScope s_law_signs, [], []⟩, ⟨("_law_bare", none), "_law_bare", "_law_bare", defArgs s_law_bare, defBody s_law_bare, defScope s_law_bare, [], []⟩, ⟨("_law_any", none), "_law_any", "_law_any", defArgs s_law_any, defBody s_law_any, defScope s_law_any, [], []⟩, ⟨("_law_size", none), "_law_size", "_law_size", defArgs s_law_size, defBody s_law_size, defScope s_law_size, [], []⟩, ⟨("_law_pages", none), "_law_pages", "_law_pages", defArgs s_law_pages, defBody s_law_pages, defScope s_law_pages, [], []⟩, ⟨("_law_mark", none), "_law_mark", "_law_mark", defArgs s_law_mark, defBody s_law_mark, defScope s_law_mark, [], []⟩, ⟨("_law_shown_in", none), "_law_shown_in", "_law_shown_in", defArgs s_law_shown_in, defBody s_law_shown_in, defScope s_law_shown_in, [], []⟩, ⟨("_law_shown", none), "_law_shown", "_law_shown", defArgs s_law_shown, defBody s_law_shown, defScope s_law_shown, [], []⟩]
def fn1 : List He.DefD := [⟨("_law_heard", none), "_law_heard", "_law_heard", defArgs s_law_heard, defBody s_law_heard, defScope s_law_heard, [], []⟩, ⟨("_law_wide", none), "_law_wide", "_law_wide", defArgs s_law_wide, defBody s_law_wide, defScope s_law_wide, [], []⟩, ⟨("_law_wide_in", none), "_law_wide_in", "_law_wide_in", defArgs s_law_wide_in, defBody s_law_wide_in, defScope s_law_wide_in, [], []⟩, ⟨("_law_is_in_brackets", none), "_law_is_in_brackets", "_law_is_in_brackets", defArgs s_law_is_in_brackets, defBody s_law_is_in_brackets, defScope s_law_is_in_brackets, [], []⟩, ⟨("_law_is_escaped", none), "_law_is_escaped", "_law_is_escaped", defArgs s_law_is_escaped, defBody s_law_is_escaped, defScope s_law_is_escaped, [], []⟩, ⟨("_law_reader_right", none), "_law_reader_right", "_law_reader_right", defArgs s_law_reader_right, defBody s_law_reader_right, defScope s_law_reader_right, [], []⟩, ⟨("law", none), "law", "law", defArgs s_law, defBody s_law, defScope s_law, [], []⟩]
def fn : List He.DefD := fn0 ++ fn1
def fa0 : List He.Fa := [.glo "is_text", .glo "is_signs", .glo "is_name", .glo "is_piece", .glo "is_formed", .glo "is_reader", .glo "within", .glo "all_within", .glo "are_named", .glo "is_right", .glo "first_wrong", .glo "parts_of", .glo "book_of", .glo "need", .glo "letters_at", .glo "sign_at", .glo "signs_at", .glo "atom_at", .glo "item_at", .glo "row_at", .glo "choice_at", .glo "read_reader", .glo "pair_in", .glo "read_book", .glo "show_signs", .glo "show_within", .glo "show_plain", .glo "show_reader", .glo "show_book", .glo "_law_start", .glo "_law_draw", .glo "_law_label", .glo "_law_signs", .glo "_law_bare", .glo "_law_any", .glo "_law_size", .glo "_law_pages", .glo "_law_mark", .glo "_law_shown_in", .glo "_law_shown"]
def fa1 : List He.Fa := [.glo "_law_heard", .glo "_law_wide", .glo "_law_wide_in", .glo "_law_is_in_brackets", .glo "_law_is_escaped", .glo "_law_reader_right", .glo "law", .glo "FORMS", .glo "TELLS", .glo "AHEAD", .glo "AFTER", .glo "BEHIND", .glo "ESCAPED", .glo "MARKS", .free "str", .free "isinstance", .free "len", .free "all", .free "zip", .free "tuple", .free "list", .free "abs", .free "range", .free "int", .free "sum", .free "KeyError", .free "ValueError", .free "repr", .glo "ReadError", .glo "Unknown", .glo "NotPlain", .glo "Endless", .glo "NoBook", .glo "Bound", .glo "Astray", .glo "NoText", .exc "NoText"]
def fa : List He.Fa := fa0 ++ fa1
def ts : List He.Tab := [(fun K => He.ga K "FORMS", ["nothing", "never", "sign", "but", "row", "choice", "many", "maybe", "ahead", "not", "name", "hold", "again", "tag", "make"]), (fun K => He.ga K "TELLS", ["n", "]", "^", "\\"]), (fun K => He.ga K "AHEAD", ["&", "!"]), (fun K => He.ga K "AFTER", ["*", "?"]), (fun K => He.ga K "BEHIND", [":", "@", "#"]), (fun K => He.ga K "ESCAPED", ["\n", "]", "^", "\\"]), (fun K => He.ga K "MARKS", ["hold", "tag", "make"])]
def ck (K : PySem.W.Frag) : Bool := (gloB K "SIGNS" d_SIGNS && (gloB K "MOST_SIGNS" d_MOST_SIGNS && (gloB K "MOST_LETTERS" d_MOST_LETTERS && (gloB K "LETTERS" d_LETTERS && (gloB K "MAKES" d_MAKES && (gloB K "LEAST_PARTS" d_LEAST_PARTS && (gloB K "MOST_PARTS_readers" d_MOST_PARTS_readers && (gloB K "MOST_DEEP" d_MOST_DEEP && (gloB K "MOST_NAMES" d_MOST_NAMES && (gloB K "CALLS" d_CALLS && (gloB K "MOST_PARTS_books" d_MOST_PARTS_books && (gloB K "MOST_BRACKETS" d_MOST_BRACKETS && (gloB K "TIGHT" d_TIGHT && (tabB K (He.ga K "FORMS") kv_FORMS && (tabB K (He.ga K "TELLS") kv_TELLS && (tabB K (He.ga K "AHEAD") kv_AHEAD && (tabB K (He.ga K "AFTER") kv_AFTER && (tabB K (He.ga K "BEHIND") kv_BEHIND && (tabB K (He.ga K "ESCAPED") kv_ESCAPED && (tabB K (He.ga K "MARKS") kv_MARKS && (((["NoText"] : List Str).all fun c => decide (PySem.W.exmAny K (.ref (He.ga K c)) [.ref (He.ga K "ReadError"), .ref (He.ga K "Unknown")] = some true)) && (((["NoText"] : List Str).all fun c => excCB K c) && (((["NoText"] : List Str).all fun c => kitQ K c "Unknown" none ((isT []) c)) && (decide (PySem.W.kitOne K (.type "NoneType") (.ref (He.ga K "Unknown")) = some false) && (((["NoText"] : List Str).all fun c => kitQ K c "KeyError" (some "KeyError") ((isT []) c)) && (decide (PySem.W.kitOne K (.type "NoneType") (.type "KeyError") = some false) && (((["NoText"] : List Str).all fun c => kitQ K c "ReadError" none ((isT ["NoText"]) c)) && (decide (PySem.W.kitOne K (.type "NoneType") (.ref (He.ga K "ReadError")) = some false) && (((["NoText"] : List Str).all fun c => kitQ K c "NotPlain" none ((isT []) c)) && (decide (PySem.W.kitOne K (.type "NoneType") (.ref (He.ga K "NotPlain")) = some false) && (((["NoText"] : List Str).all fun c => kitQ K c "Endless" none ((isT []) c)) && (decide (PySem.W.kitOne K (.type "NoneType") (.ref (He.ga K "Endless")) = some false) && (((["NoText"] : List Str).all fun c => kitQ K c "NoBook" none ((isT []) c)) && (decide (PySem.W.kitOne K (.type "NoneType") (.ref (He.ga K "NoBook")) = some false) && (((["NoText"] : List Str).all fun c => kitQ K c "Bound" none ((isT []) c)) && (decide (PySem.W.kitOne K (.type "NoneType") (.ref (He.ga K "Bound")) = some false) && (((["NoText"] : List Str).all fun c => kitQ K c "Astray" none ((isT []) c)) && (decide (PySem.W.kitOne K (.type "NoneType") (.ref (He.ga K "Astray")) = some false) && (((["NoText"] : List Str).all fun c => kitQ K c "NoText" none ((isT ["NoText"]) c)) && (decide (PySem.W.kitOne K (.type "NoneType") (.ref (He.ga K "NoText")) = some false) && (((["NoText"] : List Str).all fun c => kitQ K c "ValueError" (some "ValueError") ((isT ["NoText"]) c)) && (decide (PySem.W.kitOne K (.type "NoneType") (.type "ValueError") = some false) && true))))))))))))))))))))))))))))))))))))))))))
section
variable {P : Program} {w : World} {K : PySem.W.Frag} {h : Heap} {mg : Str → Option Value}
theorem h_is_text (X : K.In h) (G : h.Ns mainGlobals mg) (c : SaysX fa fn ts ck w K) : HasK K mg "is_text" s_is_text [("most", .int 60)] := hasK_of X G c 0 0 [("most", .int 60)]
theorem h_is_signs (X : K.In h) (G : h.Ns mainGlobals mg) (c : SaysX fa fn ts ck w K) : HasK K mg "is_signs" s_is_signs [("least", .int 0)] := hasK_of X G c 1 1 [("least", .int 0)]
theorem h_is_name (X : K.In h) (G : h.Ns mainGlobals mg) (c : SaysX fa fn ts ck w K) : Has K mg "is_name" s_is_name := has_of X G c 2 2
theorem h_is_piece (X : K.In h) (G : h.Ns mainGlobals mg) (c : SaysX fa fn ts ck w K) : Has K mg "is_piece" s_is_piece := has_of X G c 3 3
theorem h_is_formed (X : K.In h) (G : h.Ns mainGlobals mg) (c : SaysX fa fn ts ck w K) : Has K mg "is_formed" s_is_formed := has_of X G c 4 4
theorem h_is_reader (X : K.In h) (G : h.Ns mainGlobals mg) (c : SaysX fa fn ts ck w K) : Has K mg "is_reader" s_is_reader := has_of X G c 5 5
theorem h_within (X : K.In h) (G : h.Ns mainGlobals mg) (c : SaysX fa fn ts ck w K) : Has K mg "within" s_within := has_of X G c 6 6
theorem h_all_within (X : K.In h) (G : h.Ns mainGlobals mg) (c : SaysX fa fn ts ck w K) : Has K mg "all_within" s_all_within := has_of X G c 7 7
theorem h_are_named (X : K.In h) (G : h.Ns mainGlobals mg) (c : SaysX fa fn ts ck w K) : Has K mg "are_named" s_are_named := has_of X G c 8 8
theorem h_is_right (X : K.In h) (G : h.Ns mainGlobals mg) (c : SaysX fa fn ts ck w K) : Has K mg "is_right" s_is_right := has_of X G c 9 9
theorem h_first_wrong (X : K.In h) (G : h.Ns mainGlobals mg) (c : SaysX fa fn ts ck w K) : Has K mg "first_wrong" s_first_wrong := has_of X G c 10 10
theorem h_parts_of (X : K.In h) (G : h.Ns mainGlobals mg) (c : SaysX fa fn ts ck w K) : Has K mg "parts_of" s_parts_of := has_of X G c 11 11
theorem h_book_of (X : K.In h) (G : h.Ns mainGlobals mg) (c : SaysX fa fn ts ck w K) : Has K mg "book_of" s_book_of := has_of X G c 12 12
theorem h_need (X : K.In h) (G : h.Ns mainGlobals mg) (c : SaysX fa fn ts ck w K) : Has K mg "need" s_need := has_of X G c 13 13
theorem h_letters_at (X : K.In h) (G : h.Ns mainGlobals mg) (c : SaysX fa fn ts ck w K) : Has K mg "letters_at" s_letters_at := has_of X G c 14 14
theorem h_sign_at (X : K.In h) (G : h.Ns mainGlobals mg) (c : SaysX fa fn ts ck w K) : Has K mg "sign_at" s_sign_at := has_of X G c 15 15
theorem h_signs_at (X : K.In h) (G : h.Ns mainGlobals mg) (c : SaysX fa fn ts ck w K) : Has K mg "signs_at" s_signs_at := has_of X G c 16 16
theorem h_atom_at (X : K.In h) (G : h.Ns mainGlobals mg) (c : SaysX fa fn ts ck w K) : Has K mg "atom_at" s_atom_at := has_of X G c 17 17
theorem h_item_at (X : K.In h) (G : h.Ns mainGlobals mg) (c : SaysX fa fn ts ck w K) : Has K mg "item_at" s_item_at := has_of X G c 18 18
theorem h_row_at (X : K.In h) (G : h.Ns mainGlobals mg) (c : SaysX fa fn ts ck w K) : Has K mg "row_at" s_row_at := has_of X G c 19 19
theorem h_choice_at (X : K.In h) (G : h.Ns mainGlobals mg) (c : SaysX fa fn ts ck w K) : Has K mg "choice_at" s_choice_at := has_of X G c 20 20
theorem h_read_reader (X : K.In h) (G : h.Ns mainGlobals mg) (c : SaysX fa fn ts ck w K) : Has K mg "read_reader" s_read_reader := has_of X G c 21 21
theorem h_pair_in (X : K.In h) (G : h.Ns mainGlobals mg) (c : SaysX fa fn ts ck w K) : Has K mg "pair_in" s_pair_in := has_of X G c 22 22
theorem h_read_book (X : K.In h) (G : h.Ns mainGlobals mg) (c : SaysX fa fn ts ck w K) : Has K mg "read_book" s_read_book := has_of X G c 23 23
theorem h_show_signs (X : K.In h) (G : h.Ns mainGlobals mg) (c : SaysX fa fn ts ck w K) : Has K mg "show_signs" s_show_signs := has_of X G c 24 24
theorem h_show_within (X : K.In h) (G : h.Ns mainGlobals mg) (c : SaysX fa fn ts ck w K) : Has K mg "show_within" s_show_within := has_of X G c 25 25
theorem h_show_plain (X : K.In h) (G : h.Ns mainGlobals mg) (c : SaysX fa fn ts ck w K) : Has K mg "show_plain" s_show_plain := has_of X G c 26 26
theorem h_show_reader (X : K.In h) (G : h.Ns mainGlobals mg) (c : SaysX fa fn ts ck w K) : Has K mg "show_reader" s_show_reader := has_of X G c 27 27
theorem h_show_book (X : K.In h) (G : h.Ns mainGlobals mg) (c : SaysX fa fn ts ck w K) : Has K mg "show_book" s_show_book := has_of X G c 28 28
theorem h_law_start (X : K.In h) (G : h.Ns mainGlobals mg) (c : SaysX fa fn ts ck w K) : Has K mg "_law_start" s_law_start := has_of X G c 29 29
theorem h_law_draw (X : K.In h) (G : h.Ns mainGlobals mg) (c : SaysX fa fn ts ck w K) : Has K mg "_law_draw" s_law_draw := has_of X G c 30 30
theorem h_law_label (X : K.In h) (G : h.Ns mainGlobals mg) (c : SaysX fa fn ts ck w K) : Has K mg "_law_label" s_law_label := has_of X G c 31 31
theorem h_law_signs (X : K.In h) (G : h.Ns mainGlobals mg) (c : SaysX fa fn ts ck w K) : Has K mg "_law_signs" s_law_signs := has_of X G c 32 32
theorem h_law_bare (X : K.In h) (G : h.Ns mainGlobals mg) (c : SaysX fa fn ts ck w K) : Has K mg "_law_bare" s_law_bare := has_of X G c 33 33
theorem h_law_any (X : K.In h) (G : h.Ns mainGlobals mg) (c : SaysX fa fn ts ck w K) : Has K mg "_law_any" s_law_any := has_of X G c 34 34
theorem h_law_size (X : K.In h) (G : h.Ns mainGlobals mg) (c : SaysX fa fn ts ck w K) : Has K mg "_law_size" s_law_size := has_of X G c 35 35
theorem h_law_pages (X : K.In h) (G : h.Ns mainGlobals mg) (c : SaysX fa fn ts ck w K) : Has K mg "_law_pages" s_law_pages := has_of X G c 36 36
theorem h_law_mark (X : K.In h) (G : h.Ns mainGlobals mg) (c : SaysX fa fn ts ck w K) : Has K mg "_law_mark" s_law_mark := has_of X G c 37 37
theorem h_law_shown_in (X : K.In h) (G : h.Ns mainGlobals mg) (c : SaysX fa fn ts ck w K) : Has K mg "_law_shown_in" s_law_shown_in := has_of X G c 38 38
theorem h_law_shown (X : K.In h) (G : h.Ns mainGlobals mg) (c : SaysX fa fn ts ck w K) : Has K mg "_law_shown" s_law_shown := has_of X G c 39 39
theorem h_law_heard (X : K.In h) (G : h.Ns mainGlobals mg) (c : SaysX fa fn ts ck w K) : Has K mg "_law_heard" s_law_heard := has_of X G c 40 40
theorem h_law_wide (X : K.In h) (G : h.Ns mainGlobals mg) (c : SaysX fa fn ts ck w K) : Has K mg "_law_wide" s_law_wide := has_of X G c 41 41
theorem h_law_wide_in (X : K.In h) (G : h.Ns mainGlobals mg) (c : SaysX fa fn ts ck w K) : Has K mg "_law_wide_in" s_law_wide_in := has_of X G c 42 42
theorem h_law_is_in_brackets (X : K.In h) (G : h.Ns mainGlobals mg) (c : SaysX fa fn ts ck w K) : Has K mg "_law_is_in_brackets" s_law_is_in_brackets := has_of X G c 43 43
theorem h_law_is_escaped (X : K.In h) (G : h.Ns mainGlobals mg) (c : SaysX fa fn ts ck w K) : Has K mg "_law_is_escaped" s_law_is_escaped := has_of X G c 44 44
theorem h_law_reader_right (X : K.In h) (G : h.Ns mainGlobals mg) (c : SaysX fa fn ts ck w K) : Has K mg "_law_reader_right" s_law_reader_right := has_of X G c 45 45
theorem h_law (X : K.In h) (G : h.Ns mainGlobals mg) (c : SaysX fa fn ts ck w K) : Has K mg "law" s_law := has_of X G c 46 46
theorem hg_FORMS (X : K.In h) (G : h.Ns mainGlobals mg) (c : SaysX fa fn ts ck w K) : mg "FORMS" = some (.ref (He.ga K "FORMS")) := He.glo_ok X G (c.t.d.fact 47 rfl)
theorem hg_TELLS (X : K.In h) (G : h.Ns mainGlobals mg) (c : SaysX fa fn ts ck w K) : mg "TELLS" = some (.ref (He.ga K "TELLS")) := He.glo_ok X G (c.t.d.fact 48 rfl)
theorem hg_AHEAD (X : K.In h) (G : h.Ns mainGlobals mg) (c : SaysX fa fn ts ck w K) : mg "AHEAD" = some (.ref (He.ga K "AHEAD")) := He.glo_ok X G (c.t.d.fact 49 rfl)
theorem hg_AFTER (X : K.In h) (G : h.Ns mainGlobals mg) (c : SaysX fa fn ts ck w K) : mg "AFTER" = some (.ref (He.ga K "AFTER")) := He.glo_ok X G (c.t.d.fact 50 rfl)
theorem hg_BEHIND (X : K.In h) (G : h.Ns mainGlobals mg) (c : SaysX fa fn ts ck w K) : mg "BEHIND" = some (.ref (He.ga K "BEHIND")) := He.glo_ok X G (c.t.d.fact 51 rfl)
theorem hg_ESCAPED (X : K.In h) (G : h.Ns mainGlobals mg) (c : SaysX fa fn ts ck w K) : mg "ESCAPED" = some (.ref (He.ga K "ESCAPED")) := He.glo_ok X G (c.t.d.fact 52 rfl)
theorem hg_MARKS (X : K.In h) (G : h.Ns mainGlobals mg) (c : SaysX fa fn ts ck w K) : mg "MARKS" = some (.ref (He.ga K "MARKS")) := He.glo_ok X G (c.t.d.fact 53 rfl)
theorem hb_str (X : K.In h) (G : h.Ns mainGlobals mg) (c : SaysX fa fn ts ck w K) : mg "str" = none := He.free_ok X G (c.t.d.fact 54 rfl)
theorem hb_isinstance (X : K.In h) (G : h.Ns mainGlobals mg) (c : SaysX fa fn ts ck w K) : mg "isinstance" = none := He.free_ok X G (c.t.d.fact 55 rfl)
theorem hb_len (X : K.In h) (G : h.Ns mainGlobals mg) (c : SaysX fa fn ts ck w K) : mg "len" = none := He.free_ok X G (c.t.d.fact 56 rfl)
theorem hb_all (X : K.In h) (G : h.Ns mainGlobals mg) (c : SaysX fa fn ts ck w K) : mg "all" = none := He.free_ok X G (c.t.d.fact 57 rfl)
theorem hb_zip (X : K.In h) (G : h.Ns mainGlobals mg) (c : SaysX fa fn ts ck w K) : mg "zip" = none := He.free_ok X G (c.t.d.fact 58 rfl)
theorem hb_tuple (X : K.In h) (G : h.Ns mainGlobals mg) (c : SaysX fa fn ts ck w K) : mg "tuple" = none := He.free_ok X G (c.t.d.fact 59 rfl)
theorem hb_list (X : K.In h) (G : h.Ns mainGlobals mg) (c : SaysX fa fn ts ck w K) : mg "list" = none := He.free_ok X G (c.t.d.fact 60 rfl)
theorem hb_abs (X : K.In h) (G : h.Ns mainGlobals mg) (c : SaysX fa fn ts ck w K) : mg "abs" = none := He.free_ok X G (c.t.d.fact 61 rfl)
theorem hb_range (X : K.In h) (G : h.Ns mainGlobals mg) (c : SaysX fa fn ts ck w K) : mg "range" = none := He.free_ok X G (c.t.d.fact 62 rfl)
theorem hb_int (X : K.In h) (G : h.Ns mainGlobals mg) (c : SaysX fa fn ts ck w K) : mg "int" = none := He.free_ok X G (c.t.d.fact 63 rfl)
theorem hb_sum (X : K.In h) (G : h.Ns mainGlobals mg) (c : SaysX fa fn ts ck w K) : mg "sum" = none := He.free_ok X G (c.t.d.fact 64 rfl)
theorem hb_KeyError (X : K.In h) (G : h.Ns mainGlobals mg) (c : SaysX fa fn ts ck w K) : mg "KeyError" = none := He.free_ok X G (c.t.d.fact 65 rfl)
theorem hb_ValueError (X : K.In h) (G : h.Ns mainGlobals mg) (c : SaysX fa fn ts ck w K) : mg "ValueError" = none := He.free_ok X G (c.t.d.fact 66 rfl)
theorem hb_repr (X : K.In h) (G : h.Ns mainGlobals mg) (c : SaysX fa fn ts ck w K) : mg "repr" = none := He.free_ok X G (c.t.d.fact 67 rfl)
theorem hcg_ReadError (X : K.In h) (G : h.Ns mainGlobals mg) (c : SaysX fa fn ts ck w K) : mg "ReadError" = some (.ref (He.ga K "ReadError")) := He.glo_ok X G (c.t.d.fact 68 rfl)
theorem hcg_Unknown (X : K.In h) (G : h.Ns mainGlobals mg) (c : SaysX fa fn ts ck w K) : mg "Unknown" = some (.ref (He.ga K "Unknown")) := He.glo_ok X G (c.t.d.fact 69 rfl)
theorem hcg_NotPlain (X : K.In h) (G : h.Ns mainGlobals mg) (c : SaysX fa fn ts ck w K) : mg "NotPlain" = some (.ref (He.ga K "NotPlain")) := He.glo_ok X G (c.t.d.fact 70 rfl)
theorem hcg_Endless (X : K.In h) (G : h.Ns mainGlobals mg) (c : SaysX fa fn ts ck w K) : mg "Endless" = some (.ref (He.ga K "Endless")) := He.glo_ok X G (c.t.d.fact 71 rfl)
theorem hcg_NoBook (X : K.In h) (G : h.Ns mainGlobals mg) (c : SaysX fa fn ts ck w K) : mg "NoBook" = some (.ref (He.ga K "NoBook")) := He.glo_ok X G (c.t.d.fact 72 rfl)
theorem hcg_Bound (X : K.In h) (G : h.Ns mainGlobals mg) (c : SaysX fa fn ts ck w K) : mg "Bound" = some (.ref (He.ga K "Bound")) := He.glo_ok X G (c.t.d.fact 73 rfl)
theorem hcg_Astray (X : K.In h) (G : h.Ns mainGlobals mg) (c : SaysX fa fn ts ck w K) : mg "Astray" = some (.ref (He.ga K "Astray")) := He.glo_ok X G (c.t.d.fact 74 rfl)
theorem hcg_NoText (X : K.In h) (G : h.Ns mainGlobals mg) (c : SaysX fa fn ts ck w K) : mg "NoText" = some (.ref (He.ga K "NoText")) := He.glo_ok X G (c.t.d.fact 75 rfl)
theorem he_NoText (X : K.In h) (G : h.Ns mainGlobals mg) (c : SaysX fa fn ts ck w K) : ExcN K mg "NoText" := ⟨hcg_NoText X G c, c.t.d.fact 76 rfl⟩
theorem ht_SIGNS (X : K.In h) (G : h.Ns mainGlobals mg) (c : SaysX fa fn ts ck w K) : GloD K mg "SIGNS" d_SIGNS := gloD_ok X G (He.ba c.ck).1
theorem ht_MOST_SIGNS (X : K.In h) (G : h.Ns mainGlobals mg) (c : SaysX fa fn ts ck w K) : GloD K mg "MOST_SIGNS" d_MOST_SIGNS := gloD_ok X G (He.ba (He.ba c.ck).2).1
theorem ht_MOST_LETTERS (X : K.In h) (G : h.Ns mainGlobals mg) (c : SaysX fa fn ts ck w K) : GloD K mg "MOST_LETTERS" d_MOST_LETTERS := gloD_ok X G (He.ba (He.ba (He.ba c.ck).2).2).1
theorem ht_LETTERS (X : K.In h) (G : h.Ns mainGlobals mg) (c : SaysX fa fn ts ck w K) : GloD K mg "LETTERS" d_LETTERS := gloD_ok X G (He.ba (He.ba (He.ba (He.ba c.ck).2).2).2).1
theorem ht_MAKES (X : K.In h) (G : h.Ns mainGlobals mg) (c : SaysX fa fn ts ck w K) : GloD K mg "MAKES" d_MAKES := gloD_ok X G (He.ba (He.ba (He.ba (He.ba (He.ba c.ck).2).2).2).2).1
theorem ht_LEAST_PARTS (X : K.In h) (G : h.Ns mainGlobals mg) (c : SaysX fa fn ts ck w K) : GloD K mg "LEAST_PARTS" d_LEAST_PARTS := gloD_ok X G (He.ba (He.ba (He.ba (He.ba (He.ba (He.ba c.ck).2).2).2).2).2).1
theorem ht_MOST_PARTS_readers (X : K.In h) (G : h.Ns mainGlobals mg) (c : SaysX fa fn ts ck w K) : GloD K mg "MOST_PARTS_readers" d_MOST_PARTS_readers := gloD_ok X G (He.ba (He.ba (He.ba (He.ba (He.ba (He.ba (He.ba c.ck).2).2).2).2).2).2).1
theorem ht_MOST_DEEP (X : K.In h) (G : h.Ns mainGlobals mg) (c : SaysX fa fn ts ck w K) : GloD K mg "MOST_DEEP" d_MOST_DEEP := gloD_ok X G (He.ba (He.ba (He.ba (He.ba (He.ba (He.ba (He.ba (He.ba c.ck).2).2).2).2).2).2).2).1
theorem ht_MOST_NAMES (X : K.In h) (G : h.Ns mainGlobals mg) (c : SaysX fa fn ts ck w K) : GloD K mg "MOST_NAMES" d_MOST_NAMES := gloD_ok X G (He.ba (He.ba (He.ba (He.ba (He.ba (He.ba (He.ba (He.ba (He.ba c.ck).2).2).2).2).2).2).2).2).1
theorem ht_CALLS (X : K.In h) (G : h.Ns mainGlobals mg) (c : SaysX fa fn ts ck w K) : GloD K mg "CALLS" d_CALLS := gloD_ok X G (He.ba (He.ba (He.ba (He.ba (He.ba (He.ba (He.ba (He.ba (He.ba (He.ba c.ck).2).2).2).2).2).2).2).2).2).1
theorem ht_MOST_PARTS_books (X : K.In h) (G : h.Ns mainGlobals mg) (c : SaysX fa fn ts ck w K) : GloD K mg "MOST_PARTS_books" d_MOST_PARTS_books := gloD_ok X G (He.ba (He.ba (He.ba (He.ba (He.ba (He.ba (He.ba (He.ba (He.ba (He.ba (He.ba c.ck).2).2).2).2).2).2).2).2).2).2).1
theorem ht_MOST_BRACKETS (X : K.In h) (G : h.Ns mainGlobals mg) (c : SaysX fa fn ts ck w K) : GloD K mg "MOST_BRACKETS" d_MOST_BRACKETS := gloD_ok X G (He.ba (He.ba (He.ba (He.ba (He.ba (He.ba (He.ba (He.ba (He.ba (He.ba (He.ba (He.ba c.ck).2).2).2).2).2).2).2).2).2).2).2).1
theorem ht_TIGHT (X : K.In h) (G : h.Ns mainGlobals mg) (c : SaysX fa fn ts ck w K) : GloD K mg "TIGHT" d_TIGHT := gloD_ok X G (He.ba (He.ba (He.ba (He.ba (He.ba (He.ba (He.ba (He.ba (He.ba (He.ba (He.ba (He.ba (He.ba c.ck).2).2).2).2).2).2).2).2).2).2).2).2).1
theorem hk_FORMS (c : SaysX fa fn ts ck w K) : KTab K w (He.ga K "FORMS") tab_FORMS := kTab_of (kv := kv_FORMS) (c.t.tab 0 rfl) (He.ba (He.ba (He.ba (He.ba (He.ba (He.ba (He.ba (He.ba (He.ba (He.ba (He.ba (He.ba (He.ba (He.ba c.ck).2).2).2).2).2).2).2).2).2).2).2).2).2).1
theorem hk_TELLS (c : SaysX fa fn ts ck w K) : KTab K w (He.ga K "TELLS") tab_TELLS := kTab_of (kv := kv_TELLS) (c.t.tab 1 rfl) (He.ba (He.ba (He.ba (He.ba (He.ba (He.ba (He.ba (He.ba (He.ba (He.ba (He.ba (He.ba (He.ba (He.ba (He.ba c.ck).2).2).2).2).2).2).2).2).2).2).2).2).2).2).1
theorem hk_AHEAD (c : SaysX fa fn ts ck w K) : KTab K w (He.ga K "AHEAD") tab_AHEAD := kTab_of (kv := kv_AHEAD) (c.t.tab 2 rfl) (He.ba (He.ba (He.ba (He.ba (He.ba (He.ba (He.ba (He.ba (He.ba (He.ba (He.ba (He.ba (He.ba (He.ba (He.ba (He.ba c.ck).2).2).2).2).2).2).2).2).2).2).2).2).2).2).2).1
theorem hk_AFTER (c : SaysX fa fn ts ck w K) : KTab K w (He.ga K "AFTER") tab_AFTER := kTab_of (kv := kv_AFTER) (c.t.tab 3 rfl) (He.ba (He.ba (He.ba (He.ba (He.ba (He.ba (He.ba (He.ba (He.ba (He.ba (He.ba (He.ba (He.ba (He.ba (He.ba (He.ba (He.ba c.ck).2).2).2).2).2).2).2).2).2).2).2).2).2).2).2).2).1
theorem hk_BEHIND (c : SaysX fa fn ts ck w K) : KTab K w (He.ga K "BEHIND") tab_BEHIND := kTab_of (kv := kv_BEHIND) (c.t.tab 4 rfl) (He.ba (He.ba (He.ba (He.ba (He.ba (He.ba (He.ba (He.ba (He.ba (He.ba (He.ba (He.ba (He.ba (He.ba (He.ba (He.ba (He.ba (He.ba c.ck).2).2).2).2).2).2).2).2).2).2).2).2).2).2).2).2).2).1
theorem hk_ESCAPED (c : SaysX fa fn ts ck w K) : KTab K w (He.ga K "ESCAPED") tab_ESCAPED := kTab_of (kv := kv_ESCAPED) (c.t.tab 5 rfl) (He.ba (He.ba (He.ba (He.ba (He.ba (He.ba (He.ba (He.ba (He.ba (He.ba (He.ba (He.ba (He.ba (He.ba (He.ba (He.ba (He.ba (He.ba (He.ba c.ck).2).2).2).2).2).2).2).2).2).2).2).2).2).2).2).2).2).2).1
theorem hk_MARKS (c : SaysX fa fn ts ck w K) : KTab K w (He.ga K "MARKS") tab_MARKS := kTab_of (kv := kv_MARKS) (c.t.tab 6 rfl) (He.ba (He.ba (He.ba (He.ba (He.ba (He.ba (He.ba (He.ba (He.ba (He.ba (He.ba (He.ba (He.ba (He.ba (He.ba (He.ba (He.ba (He.ba (He.ba (He.ba c.ck).2).2).2).2).2).2).2).2).2).2).2).2).2).2).2).2).2).2).2).1
theorem hx_ex_law_heard (c : SaysX fa fn ts ck w K) : ∀ c ∈ (["NoText"] : List Str), PySem.W.exmAny K (.ref (He.ga K c)) [.ref (He.ga K "ReadError"), .ref (He.ga K "Unknown")] = some true := allD_of (He.ba (He.ba (He.ba (He.ba (He.ba (He.ba (He.ba (He.ba (He.ba (He.ba (He.ba (He.ba (He.ba (He.ba (He.ba (He.ba (He.ba (He.ba (He.ba (He.ba (He.ba c.ck).2).2).2).2).2).2).2).2).2).2).2).2).2).2).2).2).2).2).2).2).1
theorem hx_ce (c : SaysX fa fn ts ck w K) : ∀ c ∈ (["NoText"] : List Str), excCB K c = true := alls_of (He.ba (He.ba (He.ba (He.ba (He.ba (He.ba (He.ba (He.ba (He.ba (He.ba (He.ba (He.ba (He.ba (He.ba (He.ba (He.ba (He.ba (He.ba (He.ba (He.ba (He.ba (He.ba c.ck).2).2).2).2).2).2).2).2).2).2).2).2).2).2).2).2).2).2).2).2).2).1
theorem hx_ck_Unknown (c : SaysX fa fn ts ck w K) : ∀ c ∈ (["NoText"] : List Str), kitQ K c "Unknown" none ((isT []) c) = true := alls_of (He.ba (He.ba (He.ba (He.ba (He.ba (He.ba (He.ba (He.ba (He.ba (He.ba (He.ba (He.ba (He.ba (He.ba (He.ba (He.ba (He.ba (He.ba (He.ba (He.ba (He.ba (He.ba (He.ba c.ck).2).2).2).2).2).2).2).2).2).2).2).2).2).2).2).2).2).2).2).2).2).2).1
theorem hx_cn_Unknown (c : SaysX fa fn ts ck w K) : decide (PySem.W.kitOne K (.type "NoneType") (.ref (He.ga K "Unknown")) = some false) = true := _root_.id (He.ba (He.ba (He.ba (He.ba (He.ba (He.ba (He.ba (He.ba (He.ba (He.ba (He.ba (He.ba (He.ba (He.ba (He.ba (He.ba (He.ba (He.ba (He.ba (He.ba (He.ba (He.ba (He.ba (He.ba c.ck).2).2).2).2).2).2).2).2).2).2).2).2).2).2).2).2).2).2).2).2).2).2).2).1
theorem hx_ck_KeyError (c : SaysX fa fn ts ck w K) : ∀ c ∈ (["NoText"] : List Str), kitQ K c "KeyError" (some "KeyError") ((isT []) c) = true := alls_of (He.ba (He.ba (He.ba (He.ba (He.ba (He.ba (He.ba (He.ba (He.ba (He.ba (He.ba (He.ba (He.ba (He.ba (He.ba (He.ba (He.ba (He.ba (He.ba (He.ba (He.ba (He.ba (He.ba (He.ba (He.ba c.ck).2).2).2).2).2).2).2).2).2).2).2).2).2).2).2).2).2).2).2).2).2).2).2).2).1
theorem hx_cn_KeyError (c : SaysX fa fn ts ck w K) : decide (PySem.W.kitOne K (.type "NoneType") (.type "KeyError") = some false) = true := _root_.id (He.ba (He.ba (He.ba (He.ba (He.ba (He.ba (He.ba (He.ba (He.ba (He.ba (He.ba (He.ba (He.ba (He.ba (He.ba (He.ba (He.ba (He.ba (He.ba (He.ba (He.ba (He.ba (He.ba (He.ba (He.ba (He.ba c.ck).2).2).2).2).2).2).2).2).2).2).2).2).2).2).2).2).2).2).2).2).2).2).2).2).2).1
theorem hx_ck_ReadError (c : SaysX fa fn ts ck w K) : ∀ c ∈ (["NoText"] : List Str), kitQ K c "ReadError" none ((isT ["NoText"]) c) = true := alls_of (He.ba (He.ba (He.ba (He.ba (He.ba (He.ba (He.ba (He.ba (He.ba (He.ba (He.ba (He.ba (He.ba (He.ba (He.ba (He.ba (He.ba (He.ba (He.ba (He.ba (He.ba (He.ba (He.ba (He.ba (He.ba (He.ba (He.ba c.ck).2).2).2).2).2).2).2).2).2).2).2).2).2).2).2).2).2).2).2).2).2).2).2).2).2).2).1
theorem hx_cn_ReadError (c : SaysX fa fn ts ck w K) : decide (PySem.W.kitOne K (.type "NoneType") (.ref (He.ga K "ReadError")) = some false) = true := _root_.id (He.ba (He.ba (He.ba (He.ba (He.ba (He.ba (He.ba (He.ba (He.ba (He.ba (He.ba (He.ba (He.ba (He.ba (He.ba (He.ba (He.ba (He.ba (He.ba (He.ba (He.ba (He.ba (He.ba (He.ba (He.ba (He.ba (He.ba (He.ba c.ck).2).2).2).2).2).2).2).2).2).2).2).2).2).2).2).2).2).2).2).2).2).2).2).2).2).2).2).1
theorem hx_ck_NotPlain (c : SaysX fa fn ts ck w K) : ∀ c ∈ (["NoText"] : List Str), kitQ K c "NotPlain" none ((isT []) c) = true := alls_of (He.ba (He.ba (He.ba (He.ba (He.ba (He.ba (He.ba (He.ba (He.ba (He.ba (He.ba (He.ba (He.ba (He.ba (He.ba (He.ba (He.ba (He.ba (He.ba (He.ba (He.ba (He.ba (He.ba (He.ba (He.ba (He.ba (He.ba (He.ba (He.ba c.ck).2).2).2).2).2).2).2).2).2).2).2).2).2).2).2).2).2).2).2).2).2).2).2).2).2).2).2).2).1
theorem hx_cn_NotPlain (c : SaysX fa fn ts ck w K) : decide (PySem.W.kitOne K (.type "NoneType") (.ref (He.ga K "NotPlain")) = some false) = true := _root_.id (He.ba (He.ba (He.ba (He.ba (He.ba (He.ba (He.ba (He.ba (He.ba (He.ba (He.ba (He.ba (He.ba (He.ba (He.ba (He.ba (He.ba (He.ba (He.ba (He.ba (He.ba (He.ba (He.ba (He.ba (He.ba (He.ba (He.ba (He.ba (He.ba (He.ba c.ck).2).2).2).2).2).2).2).2).2).2).2).2).2).2).2).2).2).2).2).2).2).2).2).2).2).2).2).2).2).1
theorem hx_ck_Endless (c : SaysX fa fn ts ck w K) : ∀ c ∈ (["NoText"] : List Str), kitQ K c "Endless" none ((isT []) c) = true := alls_of (He.ba (He.ba (He.ba (He.ba (He.ba (He.ba (He.ba (He.ba (He.ba (He.ba (He.ba (He.ba (He.ba (He.ba (He.ba (He.ba (He.ba (He.ba (He.ba (He.ba (He.ba (He.ba (He.ba (He.ba (He.ba (He.ba (He.ba (He.ba (He.ba (He.ba (He.ba c.ck).2).2).2).2).2).2).2).2).2).2).2).2).2).2).2).2).2).2).2).2).2).2).2).2).2).2).2).2).2).2).1
theorem hx_cn_Endless (c : SaysX fa fn ts ck w K) : decide (PySem.W.kitOne K (.type "NoneType") (.ref (He.ga K "Endless")) = some false) = true := _root_.id (He.ba (He.ba (He.ba (He.ba (He.ba (He.ba (He.ba (He.ba (He.ba (He.ba (He.ba (He.ba (He.ba (He.ba (He.ba (He.ba (He.ba (He.ba (He.ba (He.ba (He.ba (He.ba (He.ba (He.ba (He.ba (He.ba (He.ba (He.ba (He.ba (He.ba (He.ba (He.ba c.ck).2).2).2).2).2).2).2).2).2).2).2).2).2).2).2).2).2).2).2).2).2).2).2).2).2).2).2).2).2).2).2).1
theorem hx_ck_NoBook (c : SaysX fa fn ts ck w K) : ∀ c ∈ (["NoText"] : List Str), kitQ K c "NoBook" none ((isT []) c) = true := alls_of (He.ba (He.ba (He.ba (He.ba (He.ba (He.ba (He.ba (He.ba (He.ba (He.ba (He.ba (He.ba (He.ba (He.ba (He.ba (He.ba (He.ba (He.ba (He.ba (He.ba (He.ba (He.ba (He.ba (He.ba (He.ba (He.ba (He.ba (He.ba (He.ba (He.ba (He.ba (He.ba (He.ba c.ck).2).2).2).2).2).2).2).2).2).2).2).2).2).2).2).2).2).2).2).2).2).2).2).2).2).2).2).2).2).2).2).2).1
theorem hx_cn_NoBook (c : SaysX fa fn ts ck w K) : decide (PySem.W.kitOne K (.type "NoneType") (.ref (He.ga K "NoBook")) = some false) = true := _root_.id (He.ba (He.ba (He.ba (He.ba (He.ba (He.ba (He.ba (He.ba (He.ba (He.ba (He.ba (He.ba (He.ba (He.ba (He.ba (He.ba (He.ba (He.ba (He.ba (He.ba (He.ba (He.ba (He.ba (He.ba (He.ba (He.ba (He.ba (He.ba (He.ba (He.ba (He.ba (He.ba (He.ba (He.ba c.ck).2).2).2).2).2).2).2).2).2).2).2).2).2).2).2).2).2).2).2).2).2).2).2).2).2).2).2).2).2).2).2).2).2).1
theorem hx_ck_Bound (c : SaysX fa fn ts ck w K) : ∀ c ∈ (["NoText"] : List Str), kitQ K c "Bound" none ((isT []) c) = true := alls_of (He.ba (He.ba (He.ba (He.ba (He.ba (He.ba (He.ba (He.ba (He.ba (He.ba (He.ba (He.ba (He.ba (He.ba (He.ba (He.ba (He.ba (He.ba (He.ba (He.ba (He.ba (He.ba (He.ba (He.ba (He.ba (He.ba (He.ba (He.ba (He.ba (He.ba (He.ba (He.ba (He.ba (He.ba (He.ba c.ck).2).2).2).2).2).2).2).2).2).2).2).2).2).2).2).2).2).2).2).2).2).2).2).2).2).2).2).2).2).2).2).2).2).2).1
theorem hx_cn_Bound (c : SaysX fa fn ts ck w K) : decide (PySem.W.kitOne K (.type "NoneType") (.ref (He.ga K "Bound")) = some false) = true := _root_.id (He.ba (He.ba (He.ba (He.ba (He.ba (He.ba (He.ba (He.ba (He.ba (He.ba (He.ba (He.ba (He.ba (He.ba (He.ba (He.ba (He.ba (He.ba (He.ba (He.ba (He.ba (He.ba (He.ba (He.ba (He.ba (He.ba (He.ba (He.ba (He.ba (He.ba (He.ba (He.ba (He.ba (He.ba (He.ba (He.ba c.ck).2).2).2).2).2).2).2).2).2).2).2).2).2).2).2).2).2).2).2).2).2).2).2).2).2).2).2).2).2).2).2).2).2).2).2).1
theorem hx_ck_Astray (c : SaysX fa fn ts ck w K) : ∀ c ∈ (["NoText"] : List Str), kitQ K c "Astray" none ((isT []) c) = true := alls_of (He.ba (He.ba (He.ba (He.ba (He.ba (He.ba (He.ba (He.ba (He.ba (He.ba (He.ba (He.ba (He.ba (He.ba (He.ba (He.ba (He.ba (He.ba (He.ba (He.ba (He.ba (He.ba (He.ba (He.ba (He.ba (He.ba (He.ba (He.ba (He.ba (He.ba (He.ba (He.ba (He.ba (He.ba (He.ba (He.ba (He.ba c.ck).2).2).2).2).2).2).2).2).2).2).2).2).2).2).2).2).2).2).2).2).2).2).2).2).2).2).2).2).2).2).2).2).2).2).2).2).1
theorem hx_cn_Astray (c : SaysX fa fn ts ck w K) : decide (PySem.W.kitOne K (.type "NoneType") (.ref (He.ga K "Astray")) = some false) = true := _root_.id (He.ba (He.ba (He.ba (He.ba (He.ba (He.ba (He.ba (He.ba (He.ba (He.ba (He.ba (He.ba (He.ba (He.ba (He.ba (He.ba (He.ba (He.ba (He.ba (He.ba (He.ba (He.ba (He.ba (He.ba (He.ba (He.ba (He.ba (He.ba (He.ba (He.ba (He.ba (He.ba (He.ba (He.ba (He.ba (He.ba (He.ba (He.ba c.ck).2).2).2).2).2).2).2).2).2).2).2).2).2).2).2).2).2).2).2).2).2).2).2).2).2).2).2).2).2).2).2).2).2).2).2).2).2).1
theorem hx_ck_NoText (c : SaysX fa fn ts ck w K) : ∀ c ∈ (["NoText"] : List Str), kitQ K c "NoText" none ((isT ["NoText"]) c) = true := alls_of (He.ba (He.ba (He.ba (He.ba (He.ba (He.ba (He.ba (He.ba (He.ba (He.ba (He.ba (He.ba (He.ba (He.ba (He.ba (He.ba (He.ba (He.ba (He.ba (He.ba (He.ba (He.ba (He.ba (He.ba (He.ba (He.ba (He.ba (He.ba (He.ba (He.ba (He.ba (He.ba (He.ba (He.ba (He.ba (He.ba (He.ba (He.ba (He.ba c.ck).2).2).2).2).2).2).2).2).2).2).2).2).2).2).2).2).2).2).2).2).2).2).2).2).2).2).2).2).2).2).2).2).2).2).2).2).2).2).1
theorem hx_cn_NoText (c : SaysX fa fn ts ck w K) : decide (PySem.W.kitOne K (.type "NoneType") (.ref (He.ga K "NoText")) = some false) = true := _root_.id (He.ba (He.ba (He.ba (He.ba (He.ba (He.ba (He.ba (He.ba (He.ba (He.ba (He.ba (He.ba (He.ba (He.ba (He.ba (He.ba (He.ba (He.ba (He.ba (He.ba (He.ba (He.ba (He.ba (He.ba (He.ba (He.ba (He.ba (He.ba (He.ba (He.ba (He.ba (He.ba (He.ba (He.ba (He.ba (He.ba (He.ba (He.ba (He.ba (He.ba c.ck).2).2).2).2).2).2).2).2).2).2).2).2).2).2).2).2).2).2).2).2).2).2).2).2).2).2).2).2).2).2).2).2).2).2).2).2).2).2).2).1
theorem hx_ck_ValueError (c : SaysX fa fn ts ck w K) : ∀ c ∈ (["NoText"] : List Str), kitQ K c "ValueError" (some "ValueError") ((isT ["NoText"]) c) = true := alls_of (He.ba (He.ba (He.ba (He.ba (He.ba (He.ba (He.ba (He.ba (He.ba (He.ba (He.ba (He.ba (He.ba (He.ba (He.ba (He.ba (He.ba (He.ba (He.ba (He.ba (He.ba (He.ba (He.ba (He.ba (He.ba (He.ba (He.ba (He.ba (He.ba (He.ba (He.ba (He.ba (He.ba (He.ba (He.ba (He.ba (He.ba (He.ba (He.ba (He.ba (He.ba c.ck).2).2).2).2).2).2).2).2).2).2).2).2).2).2).2).2).2).2).2).2).2).2).2).2).2).2).2).2).2).2).2).2).2).2).2).2).2).2).2).2).1
theorem hx_cn_ValueError (c : SaysX fa fn ts ck w K) : decide (PySem.W.kitOne K (.type "NoneType") (.type "ValueError") = some false) = true := _root_.id (He.ba (He.ba (He.ba (He.ba (He.ba (He.ba (He.ba (He.ba (He.ba (He.ba (He.ba (He.ba (He.ba (He.ba (He.ba (He.ba (He.ba (He.ba (He.ba (He.ba (He.ba (He.ba (He.ba (He.ba (He.ba (He.ba (He.ba (He.ba (He.ba (He.ba (He.ba (He.ba (He.ba (He.ba (He.ba (He.ba (He.ba (He.ba (He.ba (He.ba (He.ba (He.ba c.ck).2).2).2).2).2).2).2).2).2).2).2).2).2).2).2).2).2).2).2).2).2).2).2).2).2).2).2).2).2).2).2).2).2).2).2).2).2).2).2).2).2).1
end
theorem bd_is_name : Bd "is_name" s_is_name P_is_name := fun _ _ _ _ _ _ us hl => match us, hl with | [_], _ => rfl
theorem bd_is_piece : Bd "is_piece" s_is_piece P_is_piece := fun _ _ _ _ _ _ us hl => match us, hl with | [_, _, _], _ => rfl
theorem bd_is_formed : Bd "is_formed" s_is_formed P_is_formed := fun _ _ _ _ _ _ us hl => match us, hl with | [_, _], _ => rfl
theorem bd_is_reader : Bd "is_reader" s_is_reader P_is_reader := fun _ _ _ _ _ _ us hl => match us, hl with | [_], _ => rfl
theorem bd_within : Bd "within" s_within P_within := fun _ _ _ _ _ _ us hl => match us, hl with | [_], _ => rfl
theorem bd_all_within : Bd "all_within" s_all_within P_all_within := fun _ _ _ _ _ _ us hl => match us, hl with | [_], _ => rfl
theorem bd_are_named : Bd "are_named" s_are_named P_are_named := fun _ _ _ _ _ _ us hl => match us, hl with | [_], _ => rfl
theorem bd_is_right : Bd "is_right" s_is_right P_is_right := fun _ _ _ _ _ _ us hl => match us, hl with | [_, _], _ => rfl
theorem bd_first_wrong : Bd "first_wrong" s_first_wrong P_first_wrong := fun _ _ _ _ _ _ us hl => match us, hl with | [_], _ => rfl
theorem bd_parts_of : Bd "parts_of" s_parts_of P_parts_of := fun _ _ _ _ _ _ us hl => match us, hl with | [_], _ => rfl
theorem bd_book_of : Bd "book_of" s_book_of P_book_of := fun _ _ _ _ _ _ us hl => match us, hl with | [_], _ => rfl
theorem bd_need : Bd "need" s_need P_need := fun _ _ _ _ _ _ us hl => match us, hl with | [_], _ => rfl
theorem bd_letters_at : Bd "letters_at" s_letters_at P_letters_at := fun _ _ _ _ _ _ us hl => match us, hl with | [_, _], _ => rfl
theorem bd_sign_at : Bd "sign_at" s_sign_at P_sign_at := fun _ _ _ _ _ _ us hl => match us, hl with | [_, _], _ => rfl
theorem bd_signs_at : Bd "signs_at" s_signs_at P_signs_at := fun _ _ _ _ _ _ us hl => match us, hl with | [_, _], _ => rfl
theorem bd_atom_at : Bd "atom_at" s_atom_at P_atom_at := fun _ _ _ _ _ _ us hl => match us, hl with | [_, _, _], _ => rfl
theorem bd_item_at : Bd "item_at" s_item_at P_item_at := fun _ _ _ _ _ _ us hl => match us, hl with | [_, _, _], _ => rfl
theorem bd_row_at : Bd "row_at" s_row_at P_row_at := fun _ _ _ _ _ _ us hl => match us, hl with | [_, _, _], _ => rfl
theorem bd_choice_at : Bd "choice_at" s_choice_at P_choice_at := fun _ _ _ _ _ _ us hl => match us, hl with | [_, _, _], _ => rfl
theorem bd_read_reader : Bd "read_reader" s_read_reader P_read_reader := fun _ _ _ _ _ _ us hl => match us, hl with | [_], _ => rfl
theorem bd_pair_in : Bd "pair_in" s_pair_in P_pair_in := fun _ _ _ _ _ _ us hl => match us, hl with | [_], _ => rfl
theorem bd_read_book : Bd "read_book" s_read_book P_read_book := fun _ _ _ _ _ _ us hl => match us, hl with | [_], _ => rfl
theorem bd_show_signs : Bd "show_signs" s_show_signs P_show_signs := fun _ _ _ _ _ _ us hl => match us, hl with | [_], _ => rfl
theorem bd_show_plain : Bd "show_plain" s_show_plain P_show_plain := fun _ _ _ _ _ _ us hl => match us, hl with | [_, _], _ => rfl
theorem bd_show_reader : Bd "show_reader" s_show_reader P_show_reader := fun _ _ _ _ _ _ us hl => match us, hl with | [_], _ => rfl
theorem bd_show_book : Bd "show_book" s_show_book P_show_book := fun _ _ _ _ _ _ us hl => match us, hl with | [_], _ => rfl
theorem bd_law_start : Bd "_law_start" s_law_start P_law_start := fun _ _ _ _ _ _ us hl => match us, hl with | [_], _ => rfl
theorem bd_law_draw : Bd "_law_draw" s_law_draw P_law_draw := fun _ _ _ _ _ _ us hl => match us, hl with | [_, _], _ => rfl
theorem bd_law_label : Bd "_law_label" s_law_label P_law_label := fun _ _ _ _ _ _ us hl => match us, hl with | [_], _ => rfl
theorem bd_law_signs : Bd "_law_signs" s_law_signs P_law_signs := fun _ _ _ _ _ _ us hl => match us, hl with | [_, _], _ => rfl
theorem bd_law_bare : Bd "_law_bare" s_law_bare P_law_bare := fun _ _ _ _ _ _ us hl => match us, hl with | [_, _], _ => rfl
theorem bd_law_any : Bd "_law_any" s_law_any P_law_any := fun _ _ _ _ _ _ us hl => match us, hl with | [_, _, _, _], _ => rfl
theorem bd_law_size : Bd "_law_size" s_law_size P_law_size := fun _ _ _ _ _ _ us hl => match us, hl with | [_], _ => rfl
theorem bd_law_pages : Bd "_law_pages" s_law_pages P_law_pages := fun _ _ _ _ _ _ us hl => match us, hl with | [_], _ => rfl
theorem bd_law_mark : Bd "_law_mark" s_law_mark P_law_mark := fun _ _ _ _ _ _ us hl => match us, hl with | [_], _ => rfl
theorem bd_law_shown_in : Bd "_law_shown_in" s_law_shown_in P_law_shown_in := fun _ _ _ _ _ _ us hl => match us, hl with | [_, _], _ => rfl
theorem bd_law_shown : Bd "_law_shown" s_law_shown P_law_shown := fun _ _ _ _ _ _ us hl => match us, hl with | [_], _ => rfl
theorem bd_law_wide : Bd "_law_wide" s_law_wide P_law_wide := fun _ _ _ _ _ _ us hl => match us, hl with | [_, _, _], _ => rfl
theorem bd_law_wide_in : Bd "_law_wide_in" s_law_wide_in P_law_wide_in := fun _ _ _ _ _ _ us hl => match us, hl with | [_, _, _, _], _ => rfl
theorem bd_law_is_in_brackets : Bd "_law_is_in_brackets" s_law_is_in_brackets P_law_is_in_brackets := fun _ _ _ _ _ _ us hl => match us, hl with | [_], _ => rfl
theorem bd_law_is_escaped : Bd "_law_is_escaped" s_law_is_escaped P_law_is_escaped := fun _ _ _ _ _ _ us hl => match us, hl with | [_, _], _ => rfl
theorem bd_law_reader_right : Bd "_law_reader_right" s_law_reader_right P_law_reader_right := fun _ _ _ _ _ _ us hl => match us, hl with | [_, _], _ => rfl
theorem bd_law : Bd "law" s_law P_law := fun _ _ _ _ _ _ us hl => match us, hl with | [_], _ => rfl
theorem bdp_is_text_k1_most : BdP "is_text" s_is_text P_is_text 1 ["most"] [0, 1] := fun _ _ _ _ _ _ us ws h1 h2 => match us, ws, h1, h2 with | [_], [_], _, _ => rfl
theorem bdp_is_signs_k1_least : BdP "is_signs" s_is_signs P_is_signs 1 ["least"] [0, 1] := fun _ _ _ _ _ _ us ws h1 h2 => match us, ws, h1, h2 with | [_], [_], _, _ => rfl
theorem bdp_show_within_k1_but : BdP "show_within" s_show_within P_show_within 1 ["but"] [0, 1] := fun _ _ _ _ _ _ us ws h1 h2 => match us, ws, h1, h2 with | [_], [_], _, _ => rfl
theorem bdp_read_reader_k0_text : BdP "read_reader" s_read_reader P_read_reader 0 ["text"] [0] := fun _ _ _ _ _ _ us ws h1 h2 => match us, ws, h1, h2 with | [], [_], _, _ => rfl
theorem bdp_read_book_k0_text : BdP "read_book" s_read_book P_read_book 0 ["text"] [0] := fun _ _ _ _ _ _ us ws h1 h2 => match us, ws, h1, h2 with | [], [_], _, _ => rfl
theorem bdd_is_signs : BdD "is_signs" s_is_signs P_is_signs 1 ["least"] := fun _ _ _ _ _ _ us ks h1 h2 => match us, ks, h1, h2 with | [_], [_], _, _ => ⟨_, _, _, _, _, _, rfl, rfl, rfl⟩
section
variable {P : Program} {w : World} {K : PySem.W.Frag} {h : Heap} {mg : Str → Option Value} {base : Heap}
theorem bod_is_text {k : Nat} {S : L3.Spec} (X : K.In h) (G : h.Ns mainGlobals mg) (c : SaysX fa fn ts ck w K) 
    (p : ∀ ds own Q, S ds own Q → T_is_text { nx := fun _ o => Rt Q .non o, rt := Rt Q } (astart N_is_text ds) own) : Bod P w K mg base "is_text" s_is_text N_is_text k S :=
  fun f cdv A outer s H E w0 ds Q hr hg hS => ⟨_, w_is_text (ht_SIGNS X G c) (hb_str X G c) (hb_isinstance X G c) (hb_len X G c) (hb_all X G c) hr hg, p ds w0.own Q hS⟩
theorem bod_is_signs {k : Nat} {S : L3.Spec} {S_is_text : L3.Spec} (X : K.In h) (G : h.Ns mainGlobals mg) (c : SaysX fa fn ts ck w K) (F_is_text_k1_most : KnP P w K mg base k "is_text" P_is_text 1 ["most"] [] [0, 1] S_is_text)
    (p : ∀ ds own Q, S ds own Q → T_is_signs S_is_text { nx := fun _ o => Rt Q .non o, rt := Rt Q } (astart N_is_signs ds) own) : Bod P w K mg base "is_signs" s_is_signs N_is_signs k S :=
  fun f cdv A outer s H E w0 ds Q hr hg hS => ⟨_, w_is_signs F_is_text_k1_most (ht_MOST_SIGNS X G c) (hb_len X G c) (hb_zip X G c) (hb_all X G c) hr hg, p ds w0.own Q hS⟩
theorem bod_is_name {k : Nat} {S : L3.Spec} (X : K.In h) (G : h.Ns mainGlobals mg) (c : SaysX fa fn ts ck w K) 
    (p : ∀ ds own Q, S ds own Q → T_is_name { nx := fun _ o => Rt Q .non o, rt := Rt Q } (astart N_is_name ds) own) : Bod P w K mg base "is_name" s_is_name N_is_name k S :=
  fun f cdv A outer s H E w0 ds Q hr hg hS => ⟨_, w_is_name (ht_MOST_LETTERS X G c) (ht_LETTERS X G c) (hb_str X G c) (hb_isinstance X G c) (hb_len X G c) (hb_all X G c) hr hg, p ds w0.own Q hS⟩
theorem bod_is_piece {k : Nat} {S : L3.Spec} {S_is_signs : L3.Spec} {S_is_name : L3.Spec} {S_is_formed : L3.Spec} (X : K.In h) (G : h.Ns mainGlobals mg) (c : SaysX fa fn ts ck w K) (F_is_signs_k1_least : KnP P w K mg base k "is_signs" P_is_signs 1 ["least"] [] [0, 1] S_is_signs) (F_is_signs_d : Kn P w K mg base k "is_signs" P_is_signs [(.int 0)] S_is_signs) (F_is_name : Kn P w K mg base k "is_name" P_is_name [] S_is_name) (F_is_formed : Kn P w K mg base k "is_formed" P_is_formed [] S_is_formed)
    (p : ∀ ds own Q, S ds own Q → T_is_piece S_is_signs S_is_name S_is_formed { nx := fun _ o => Rt Q .non o, rt := Rt Q } (astart N_is_piece ds) own) : Bod P w K mg base "is_piece" s_is_piece N_is_piece k S :=
  fun f cdv A outer s H E w0 ds Q hr hg hS => ⟨_, w_is_piece F_is_signs_k1_least F_is_signs_d F_is_name F_is_formed (ht_MAKES X G c) (ht_LEAST_PARTS X G c) (ht_MOST_PARTS_readers X G c) (hb_str X G c) (hb_isinstance X G c) (hb_tuple X G c) (hb_len X G c) (hb_all X G c) hr hg, p ds w0.own Q hS⟩
theorem bod_is_formed {k : Nat} {S : L3.Spec} {S_is_piece : L3.Spec} (X : K.In h) (G : h.Ns mainGlobals mg) (c : SaysX fa fn ts ck w K) (F_is_piece : Kn P w K mg base k "is_piece" P_is_piece [] S_is_piece)
    (p : ∀ ds own Q, S ds own Q → T_is_formed S_is_piece (He.ga K "FORMS") { nx := fun _ o => Rt Q .non o, rt := Rt Q } (astart N_is_formed ds) own) : Bod P w K mg base "is_formed" s_is_formed N_is_formed k S :=
  fun f cdv A outer s H E w0 ds Q hr hg hS => ⟨_, w_is_formed F_is_piece (hg_FORMS X G c) (hk_FORMS c) (hb_tuple X G c) (hb_isinstance X G c) (hb_str X G c) (hb_len X G c) (hb_zip X G c) (hb_all X G c) hr hg, p ds w0.own Q hS⟩
theorem bod_is_reader {k : Nat} {S : L3.Spec} {S_is_formed : L3.Spec} (X : K.In h) (G : h.Ns mainGlobals mg) (c : SaysX fa fn ts ck w K) (F_is_formed : Kn P w K mg base k "is_formed" P_is_formed [] S_is_formed)
    (p : ∀ ds own Q, S ds own Q → T_is_reader S_is_formed { nx := fun _ o => Rt Q .non o, rt := Rt Q } (astart N_is_reader ds) own) : Bod P w K mg base "is_reader" s_is_reader N_is_reader k S :=
  fun f cdv A outer s H E w0 ds Q hr hg hS => ⟨_, w_is_reader F_is_formed (ht_MOST_DEEP X G c) hr hg, p ds w0.own Q hS⟩
theorem bod_within {k : Nat} {S : L3.Spec} (X : K.In h) (G : h.Ns mainGlobals mg) (c : SaysX fa fn ts ck w K) 
    (p : ∀ ds own Q, S ds own Q → T_within (He.ga K "FORMS") { nx := fun _ o => Rt Q .non o, rt := Rt Q } (astart N_within ds) own) : Bod P w K mg base "within" s_within N_within k S :=
  fun f cdv A outer s H E w0 ds Q hr hg hS => ⟨_, w_within (hg_FORMS X G c) (hk_FORMS c) (hb_list X G c) hr hg, p ds w0.own Q hS⟩
theorem bod_all_within {k : Nat} {S : L3.Spec} {S_within : L3.Spec} {S_all_within : L3.Spec} (X : K.In h) (G : h.Ns mainGlobals mg) (c : SaysX fa fn ts ck w K) (F_within : Kn P w K mg base k "within" P_within [] S_within) (F_all_within : Kn P w K mg base k "all_within" P_all_within [] S_all_within)
    (p : ∀ ds own Q, S ds own Q → T_all_within S_within S_all_within { nx := fun _ o => Rt Q .non o, rt := Rt Q } (astart N_all_within ds) own) : Bod P w K mg base "all_within" s_all_within N_all_within k S :=
  fun f cdv A outer s H E w0 ds Q hr hg hS => ⟨_, w_all_within F_within F_all_within hr hg, p ds w0.own Q hS⟩
theorem bod_are_named {k : Nat} {S : L3.Spec} {S_is_name : L3.Spec} (X : K.In h) (G : h.Ns mainGlobals mg) (c : SaysX fa fn ts ck w K) (F_is_name : Kn P w K mg base k "is_name" P_is_name [] S_is_name)
    (p : ∀ ds own Q, S ds own Q → T_are_named S_is_name { nx := fun _ o => Rt Q .non o, rt := Rt Q } (astart N_are_named ds) own) : Bod P w K mg base "are_named" s_are_named N_are_named k S :=
  fun f cdv A outer s H E w0 ds Q hr hg hS => ⟨_, w_are_named F_is_name (ht_MOST_NAMES X G c) (hb_tuple X G c) (hb_isinstance X G c) (hb_len X G c) (hb_all X G c) hr hg, p ds w0.own Q hS⟩
theorem bod_is_right {k : Nat} {S : L3.Spec} {S_is_reader : L3.Spec} {S_all_within : L3.Spec} (X : K.In h) (G : h.Ns mainGlobals mg) (c : SaysX fa fn ts ck w K) (F_is_reader : Kn P w K mg base k "is_reader" P_is_reader [] S_is_reader) (F_all_within : Kn P w K mg base k "all_within" P_all_within [] S_all_within)
    (p : ∀ ds own Q, S ds own Q → T_is_right S_is_reader S_all_within { nx := fun _ o => Rt Q .non o, rt := Rt Q } (astart N_is_right ds) own) : Bod P w K mg base "is_right" s_is_right N_is_right k S :=
  fun f cdv A outer s H E w0 ds Q hr hg hS => ⟨_, w_is_right F_is_reader F_all_within (ht_CALLS X G c) (hb_all X G c) hr hg, p ds w0.own Q hS⟩
theorem bod_first_wrong {k : Nat} {S : L3.Spec} {S_is_right : L3.Spec} (X : K.In h) (G : h.Ns mainGlobals mg) (c : SaysX fa fn ts ck w K) (F_is_right : Kn P w K mg base k "is_right" P_is_right [] S_is_right)
    (p : ∀ ds own Q, S ds own Q → T_first_wrong S_is_right { nx := fun _ o => Rt Q .non o, rt := Rt Q } (astart N_first_wrong ds) own) : Bod P w K mg base "first_wrong" s_first_wrong N_first_wrong k S :=
  fun f cdv A outer s H E w0 ds Q hr hg hS => ⟨_, w_first_wrong F_is_right hr hg, p ds w0.own Q hS⟩
theorem bod_parts_of {k : Nat} {S : L3.Spec} {S_all_within : L3.Spec} (X : K.In h) (G : h.Ns mainGlobals mg) (c : SaysX fa fn ts ck w K) (F_all_within : Kn P w K mg base k "all_within" P_all_within [] S_all_within)
    (p : ∀ ds own Q, S ds own Q → T_parts_of S_all_within { nx := fun _ o => Rt Q .non o, rt := Rt Q } (astart N_parts_of ds) own) : Bod P w K mg base "parts_of" s_parts_of N_parts_of k S :=
  fun f cdv A outer s H E w0 ds Q hr hg hS => ⟨_, w_parts_of F_all_within hr hg, p ds w0.own Q hS⟩
theorem bod_book_of {k : Nat} {S : L3.Spec} {S_are_named : L3.Spec} {S_first_wrong : L3.Spec} {S_parts_of : L3.Spec} (X : K.In h) (G : h.Ns mainGlobals mg) (c : SaysX fa fn ts ck w K) (F_are_named : Kn P w K mg base k "are_named" P_are_named [] S_are_named) (F_first_wrong : Kn P w K mg base k "first_wrong" P_first_wrong [] S_first_wrong) (F_parts_of : Kn P w K mg base k "parts_of" P_parts_of [] S_parts_of)
    (p : ∀ ds own Q, S ds own Q → T_book_of S_are_named S_first_wrong S_parts_of { nx := fun _ o => Rt Q .non o, rt := Rt Q } (astart N_book_of ds) own) : Bod P w K mg base "book_of" s_book_of N_book_of k S :=
  fun f cdv A outer s H E w0 ds Q hr hg hS => ⟨_, w_book_of F_are_named F_first_wrong F_parts_of (ht_MOST_PARTS_books X G c) (hb_list X G c) (hb_isinstance X G c) (hb_tuple X G c) (hb_len X G c) hr hg, p ds w0.own Q hS⟩
theorem bod_need {k : Nat} {S : L3.SpecX} (X : K.In h) (G : h.Ns mainGlobals mg) (c : SaysX fa fn ts ck w K) 
    (p : ∀ ds own Q PX, S ds own Q PX → T_need (RtX PX) { nx := fun _ o => Rt Q .non o, rt := Rt Q } (astart N_need ds) own) : BodX P w K mg base "need" s_need N_need k S :=
  fun f cdv A outer s H E w0 ds Q PX hr hg hS tk => ⟨_, w_need (he_NoText X G c) hr hg tk, p ds w0.own Q PX hS⟩
theorem bod_letters_at {k : Nat} {S : L3.SpecX} {S_need : L3.SpecX} (X : K.In h) (G : h.Ns mainGlobals mg) (c : SaysX fa fn ts ck w K) (F_need : KnX P w K mg base k "need" P_need [] S_need)
    (p : ∀ ds own Q PX, S ds own Q PX → T_letters_at (RtX PX) S_need { nx := fun _ o => Rt Q .non o, rt := Rt Q } (astart N_letters_at ds) own) : BodX P w K mg base "letters_at" s_letters_at N_letters_at k S :=
  fun f cdv A outer s H E w0 ds Q PX hr hg hS tk => ⟨_, w_letters_at F_need (ht_LETTERS X G c) (hb_len X G c) hr hg tk, p ds w0.own Q PX hS⟩
theorem bod_sign_at {k : Nat} {S : L3.SpecX} {S_need : L3.SpecX} (X : K.In h) (G : h.Ns mainGlobals mg) (c : SaysX fa fn ts ck w K) (F_need : KnX P w K mg base k "need" P_need [] S_need)
    (p : ∀ ds own Q PX, S ds own Q PX → T_sign_at (RtX PX) S_need (He.ga K "TELLS") { nx := fun _ o => Rt Q .non o, rt := Rt Q } (astart N_sign_at ds) own) : BodX P w K mg base "sign_at" s_sign_at N_sign_at k S :=
  fun f cdv A outer s H E w0 ds Q PX hr hg hS tk => ⟨_, w_sign_at F_need (ht_SIGNS X G c) (hg_TELLS X G c) (hk_TELLS c) (hb_len X G c) hr hg tk, p ds w0.own Q PX hS⟩
theorem bod_signs_at {k : Nat} {S : L3.SpecX} {S_sign_at : L3.SpecX} (X : K.In h) (G : h.Ns mainGlobals mg) (c : SaysX fa fn ts ck w K) (F_sign_at : KnX P w K mg base k "sign_at" P_sign_at [] S_sign_at)
    (p : ∀ ds own Q PX, S ds own Q PX → T_signs_at (RtX PX) S_sign_at { nx := fun _ o => Rt Q .non o, rt := Rt Q } (astart N_signs_at ds) own) : BodX P w K mg base "signs_at" s_signs_at N_signs_at k S :=
  fun f cdv A outer s H E w0 ds Q PX hr hg hS tk => ⟨_, w_signs_at F_sign_at hr hg tk, p ds w0.own Q PX hS⟩
theorem bod_atom_at {k : Nat} {S : L3.SpecX} {S_signs_at : L3.SpecX} {S_letters_at : L3.SpecX} {S_need : L3.SpecX} {S_choice_at : L3.SpecX} (X : K.In h) (G : h.Ns mainGlobals mg) (c : SaysX fa fn ts ck w K) (F_signs_at : KnX P w K mg base k "signs_at" P_signs_at [] S_signs_at) (F_letters_at : KnX P w K mg base k "letters_at" P_letters_at [] S_letters_at) (F_need : KnX P w K mg base k "need" P_need [] S_need) (F_choice_at : KnX P w K mg base k "choice_at" P_choice_at [] S_choice_at)
    (p : ∀ ds own Q PX, S ds own Q PX → T_atom_at (RtX PX) S_signs_at S_letters_at S_need S_choice_at { nx := fun _ o => Rt Q .non o, rt := Rt Q } (astart N_atom_at ds) own) : BodX P w K mg base "atom_at" s_atom_at N_atom_at k S :=
  fun f cdv A outer s H E w0 ds Q PX hr hg hS tk => ⟨_, w_atom_at F_signs_at F_letters_at F_need F_choice_at hr hg tk, p ds w0.own Q PX hS⟩
theorem bod_item_at {k : Nat} {S : L3.SpecX} {S_atom_at : L3.SpecX} (X : K.In h) (G : h.Ns mainGlobals mg) (c : SaysX fa fn ts ck w K) (F_atom_at : KnX P w K mg base k "atom_at" P_atom_at [] S_atom_at)
    (p : ∀ ds own Q PX, S ds own Q PX → T_item_at (RtX PX) S_atom_at (He.ga K "AHEAD") (He.ga K "AFTER") (He.ga K "BEHIND") { nx := fun _ o => Rt Q .non o, rt := Rt Q } (astart N_item_at ds) own) : BodX P w K mg base "item_at" s_item_at N_item_at k S :=
  fun f cdv A outer s H E w0 ds Q PX hr hg hS tk => ⟨_, w_item_at F_atom_at (hg_AHEAD X G c) (hk_AHEAD c) (hg_AFTER X G c) (hk_AFTER c) (ht_LETTERS X G c) (hg_BEHIND X G c) (hk_BEHIND c) hr hg tk, p ds w0.own Q PX hS⟩
theorem bod_row_at {k : Nat} {S : L3.SpecX} {S_item_at : L3.SpecX} (X : K.In h) (G : h.Ns mainGlobals mg) (c : SaysX fa fn ts ck w K) (F_item_at : KnX P w K mg base k "item_at" P_item_at [] S_item_at)
    (p : ∀ ds own Q PX, S ds own Q PX → T_row_at (RtX PX) S_item_at { nx := fun _ o => Rt Q .non o, rt := Rt Q } (astart N_row_at ds) own) : BodX P w K mg base "row_at" s_row_at N_row_at k S :=
  fun f cdv A outer s H E w0 ds Q PX hr hg hS tk => ⟨_, w_row_at F_item_at (hb_tuple X G c) hr hg tk, p ds w0.own Q PX hS⟩
theorem bod_choice_at {k : Nat} {S : L3.SpecX} {S_row_at : L3.SpecX} (X : K.In h) (G : h.Ns mainGlobals mg) (c : SaysX fa fn ts ck w K) (F_row_at : KnX P w K mg base k "row_at" P_row_at [] S_row_at)
    (p : ∀ ds own Q PX, S ds own Q PX → T_choice_at (RtX PX) S_row_at { nx := fun _ o => Rt Q .non o, rt := Rt Q } (astart N_choice_at ds) own) : BodX P w K mg base "choice_at" s_choice_at N_choice_at k S :=
  fun f cdv A outer s H E w0 ds Q PX hr hg hS tk => ⟨_, w_choice_at F_row_at (hb_tuple X G c) hr hg tk, p ds w0.own Q PX hS⟩
theorem bod_read_reader {k : Nat} {S : L3.SpecX} {S_need : L3.SpecX} {S_choice_at : L3.SpecX} {S_is_reader : L3.Spec} (X : K.In h) (G : h.Ns mainGlobals mg) (c : SaysX fa fn ts ck w K) (F_need : KnX P w K mg base k "need" P_need [] S_need) (F_choice_at : KnX P w K mg base k "choice_at" P_choice_at [] S_choice_at) (F_is_reader : Kn P w K mg base k "is_reader" P_is_reader [] S_is_reader)
    (p : ∀ ds own Q PX, S ds own Q PX → T_read_reader (RtX PX) S_need S_choice_at S_is_reader { nx := fun _ o => Rt Q .non o, rt := Rt Q } (astart N_read_reader ds) own) : BodX P w K mg base "read_reader" s_read_reader N_read_reader k S :=
  fun f cdv A outer s H E w0 ds Q PX hr hg hS tk => ⟨_, w_read_reader F_need F_choice_at F_is_reader (ht_MOST_BRACKETS X G c) (hb_str X G c) (hb_isinstance X G c) (hb_len X G c) hr hg tk, p ds w0.own Q PX hS⟩
theorem bod_pair_in {k : Nat} {S : L3.Spec} {S_need : L3.SpecX} {S_read_reader : L3.SpecX} (X : K.In h) (G : h.Ns mainGlobals mg) (c : SaysX fa fn ts ck w K) (F_need : KnX P w K mg base k "need" P_need [] S_need) (F_read_reader : KnX P w K mg base k "read_reader" P_read_reader [] S_read_reader)
    (p : ∀ ds own Q, S ds own Q → T_pair_in S_need S_read_reader { nx := fun _ o => Rt Q .non o, rt := Rt Q } (astart N_pair_in ds) own) : Bod P w K mg base "pair_in" s_pair_in N_pair_in k S :=
  fun f cdv A outer s H E w0 ds Q hr hg hS => ⟨_, w_pair_in F_need F_read_reader hr hg, p ds w0.own Q hS⟩
theorem bod_read_book {k : Nat} {S : L3.Spec} {S_need : L3.SpecX} {S_pair_in : L3.Spec} {S_book_of : L3.Spec} (X : K.In h) (G : h.Ns mainGlobals mg) (c : SaysX fa fn ts ck w K) (F_need : KnX P w K mg base k "need" P_need [] S_need) (F_pair_in : Kn P w K mg base k "pair_in" P_pair_in [] S_pair_in) (F_book_of : Kn P w K mg base k "book_of" P_book_of [] S_book_of)
    (p : ∀ ds own Q, S ds own Q → T_read_book S_need S_pair_in S_book_of { nx := fun _ o => Rt Q .non o, rt := Rt Q } (astart N_read_book ds) own) : Bod P w K mg base "read_book" s_read_book N_read_book k S :=
  fun f cdv A outer s H E w0 ds Q hr hg hS => ⟨_, w_read_book F_need F_pair_in F_book_of (hb_str X G c) (hb_isinstance X G c) (hb_tuple X G c) hr hg, p ds w0.own Q hS⟩
theorem bod_show_signs {k : Nat} {S : L3.Spec} (X : K.In h) (G : h.Ns mainGlobals mg) (c : SaysX fa fn ts ck w K) 
    (p : ∀ ds own Q, S ds own Q → T_show_signs (He.ga K "ESCAPED") { nx := fun _ o => Rt Q .non o, rt := Rt Q } (astart N_show_signs ds) own) : Bod P w K mg base "show_signs" s_show_signs N_show_signs k S :=
  fun f cdv A outer s H E w0 ds Q hr hg hS => ⟨_, w_show_signs (hg_ESCAPED X G c) (hk_ESCAPED c) hr hg, p ds w0.own Q hS⟩
theorem bod_show_within {k : Nat} {S : L3.Spec} {S_show_reader : L3.Spec} (X : K.In h) (G : h.Ns mainGlobals mg) (c : SaysX fa fn ts ck w K) (F_show_reader : Kn P w K mg base k "show_reader" P_show_reader [] S_show_reader)
    (p : ∀ ds own Q, S ds own Q → T_show_within S_show_reader { nx := fun _ o => Rt Q .non o, rt := Rt Q } (astart N_show_within ds) own) : Bod P w K mg base "show_within" s_show_within N_show_within k S :=
  fun f cdv A outer s H E w0 ds Q hr hg hS => ⟨_, w_show_within F_show_reader hr hg, p ds w0.own Q hS⟩
theorem bod_show_plain {k : Nat} {S : L3.Spec} {S_show_signs : L3.Spec} (X : K.In h) (G : h.Ns mainGlobals mg) (c : SaysX fa fn ts ck w K) (F_show_signs : Kn P w K mg base k "show_signs" P_show_signs [] S_show_signs)
    (p : ∀ ds own Q, S ds own Q → T_show_plain S_show_signs { nx := fun _ o => Rt Q .non o, rt := Rt Q } (astart N_show_plain ds) own) : Bod P w K mg base "show_plain" s_show_plain N_show_plain k S :=
  fun f cdv A outer s H E w0 ds Q hr hg hS => ⟨_, w_show_plain F_show_signs hr hg, p ds w0.own Q hS⟩
theorem bod_show_reader {k : Nat} {S : L3.Spec} {S_show_within : L3.Spec} {S_show_plain : L3.Spec} (X : K.In h) (G : h.Ns mainGlobals mg) (c : SaysX fa fn ts ck w K) (F_show_within_k1_but : KnP P w K mg base k "show_within" P_show_within 1 ["but"] [] [0, 1] S_show_within) (F_show_plain : Kn P w K mg base k "show_plain" P_show_plain [] S_show_plain)
    (p : ∀ ds own Q, S ds own Q → T_show_reader S_show_within S_show_plain (He.ga K "MARKS") { nx := fun _ o => Rt Q .non o, rt := Rt Q } (astart N_show_reader ds) own) : Bod P w K mg base "show_reader" s_show_reader N_show_reader k S :=
  fun f cdv A outer s H E w0 ds Q hr hg hS => ⟨_, w_show_reader F_show_within_k1_but F_show_plain (ht_TIGHT X G c) (hg_MARKS X G c) (hk_MARKS c) hr hg, p ds w0.own Q hS⟩
theorem bod_show_book {k : Nat} {S : L3.Spec} {S_show_reader : L3.Spec} (X : K.In h) (G : h.Ns mainGlobals mg) (c : SaysX fa fn ts ck w K) (F_show_reader : Kn P w K mg base k "show_reader" P_show_reader [] S_show_reader)
    (p : ∀ ds own Q, S ds own Q → T_show_book S_show_reader { nx := fun _ o => Rt Q .non o, rt := Rt Q } (astart N_show_book ds) own) : Bod P w K mg base "show_book" s_show_book N_show_book k S :=
  fun f cdv A outer s H E w0 ds Q hr hg hS => ⟨_, w_show_book F_show_reader hr hg, p ds w0.own Q hS⟩
theorem bod_law_start {k : Nat} {S : L3.Spec} (X : K.In h) (G : h.Ns mainGlobals mg) (c : SaysX fa fn ts ck w K) 
    (p : ∀ ds own Q, S ds own Q → T_law_start { nx := fun _ o => Rt Q .non o, rt := Rt Q } (astart N_law_start ds) own) : Bod P w K mg base "_law_start" s_law_start N_law_start k S :=
  fun f cdv A outer s H E w0 ds Q hr hg hS => ⟨_, w_law_start (hb_list X G c) hr hg, p ds w0.own Q hS⟩
theorem bod_law_draw {k : Nat} {S : L3.Spec} (X : K.In h) (G : h.Ns mainGlobals mg) (c : SaysX fa fn ts ck w K) 
    (p : ∀ ds own Q, S ds own Q → T_law_draw { nx := fun _ o => Rt Q .non o, rt := Rt Q } (astart N_law_draw ds) own) : Bod P w K mg base "_law_draw" s_law_draw N_law_draw k S :=
  fun f cdv A outer s H E w0 ds Q hr hg hS => ⟨_, w_law_draw (hb_len X G c) (hb_abs X G c) hr hg, p ds w0.own Q hS⟩
theorem bod_law_label {k : Nat} {S : L3.Spec} {S_law_draw : L3.Spec} (X : K.In h) (G : h.Ns mainGlobals mg) (c : SaysX fa fn ts ck w K) (F_law_draw : Kn P w K mg base k "_law_draw" P_law_draw [] S_law_draw)
    (p : ∀ ds own Q, S ds own Q → T_law_label S_law_draw { nx := fun _ o => Rt Q .non o, rt := Rt Q } (astart N_law_label ds) own) : Bod P w K mg base "_law_label" s_law_label N_law_label k S :=
  fun f cdv A outer s H E w0 ds Q hr hg hS => ⟨_, w_law_label F_law_draw (hb_range X G c) (hb_int X G c) hr hg, p ds w0.own Q hS⟩
theorem bod_law_signs {k : Nat} {S : L3.Spec} {S_law_draw : L3.Spec} (X : K.In h) (G : h.Ns mainGlobals mg) (c : SaysX fa fn ts ck w K) (F_law_draw : Kn P w K mg base k "_law_draw" P_law_draw [] S_law_draw)
    (p : ∀ ds own Q, S ds own Q → T_law_signs S_law_draw { nx := fun _ o => Rt Q .non o, rt := Rt Q } (astart N_law_signs ds) own) : Bod P w K mg base "_law_signs" s_law_signs N_law_signs k S :=
  fun f cdv A outer s H E w0 ds Q hr hg hS => ⟨_, w_law_signs F_law_draw (hb_len X G c) hr hg, p ds w0.own Q hS⟩
theorem bod_law_bare {k : Nat} {S : L3.Spec} {S_law_draw : L3.Spec} {S_law_signs : L3.Spec} {S_law_label : L3.Spec} (X : K.In h) (G : h.Ns mainGlobals mg) (c : SaysX fa fn ts ck w K) (F_law_draw : Kn P w K mg base k "_law_draw" P_law_draw [] S_law_draw) (F_law_signs : Kn P w K mg base k "_law_signs" P_law_signs [] S_law_signs) (F_law_label : Kn P w K mg base k "_law_label" P_law_label [] S_law_label)
    (p : ∀ ds own Q, S ds own Q → T_law_bare S_law_draw S_law_signs S_law_label { nx := fun _ o => Rt Q .non o, rt := Rt Q } (astart N_law_bare ds) own) : Bod P w K mg base "_law_bare" s_law_bare N_law_bare k S :=
  fun f cdv A outer s H E w0 ds Q hr hg hS => ⟨_, w_law_bare F_law_draw F_law_signs F_law_label (hb_len X G c) hr hg, p ds w0.own Q hS⟩
theorem bod_law_any {k : Nat} {S : L3.Spec} {S_law_draw : L3.Spec} {S_law_bare : L3.Spec} {S_law_any : L3.Spec} {S_law_label : L3.Spec} (X : K.In h) (G : h.Ns mainGlobals mg) (c : SaysX fa fn ts ck w K) (F_law_draw : Kn P w K mg base k "_law_draw" P_law_draw [] S_law_draw) (F_law_bare : Kn P w K mg base k "_law_bare" P_law_bare [] S_law_bare) (F_law_any : Kn P w K mg base k "_law_any" P_law_any [] S_law_any) (F_law_label : Kn P w K mg base k "_law_label" P_law_label [] S_law_label)
    (p : ∀ ds own Q, S ds own Q → T_law_any S_law_draw S_law_bare S_law_any S_law_label { nx := fun _ o => Rt Q .non o, rt := Rt Q } (astart N_law_any ds) own) : Bod P w K mg base "_law_any" s_law_any N_law_any k S :=
  fun f cdv A outer s H E w0 ds Q hr hg hS => ⟨_, w_law_any F_law_draw F_law_bare F_law_any F_law_label (hb_range X G c) (hb_tuple X G c) hr hg, p ds w0.own Q hS⟩
theorem bod_law_size {k : Nat} {S : L3.Spec} {S_law_size : L3.Spec} (X : K.In h) (G : h.Ns mainGlobals mg) (c : SaysX fa fn ts ck w K) (F_law_size : Kn P w K mg base k "_law_size" P_law_size [] S_law_size)
    (p : ∀ ds own Q, S ds own Q → T_law_size S_law_size { nx := fun _ o => Rt Q .non o, rt := Rt Q } (astart N_law_size ds) own) : Bod P w K mg base "_law_size" s_law_size N_law_size k S :=
  fun f cdv A outer s H E w0 ds Q hr hg hS => ⟨_, w_law_size F_law_size (hb_sum X G c) hr hg, p ds w0.own Q hS⟩
theorem bod_law_pages {k : Nat} {S : L3.Spec} {S_law_draw : L3.Spec} {S_law_label : L3.Spec} {S_law_any : L3.Spec} {S_law_size : L3.Spec} {S_law_bare : L3.Spec} (X : K.In h) (G : h.Ns mainGlobals mg) (c : SaysX fa fn ts ck w K) (F_law_draw : Kn P w K mg base k "_law_draw" P_law_draw [] S_law_draw) (F_law_label : Kn P w K mg base k "_law_label" P_law_label [] S_law_label) (F_law_any : Kn P w K mg base k "_law_any" P_law_any [] S_law_any) (F_law_size : Kn P w K mg base k "_law_size" P_law_size [] S_law_size) (F_law_bare : Kn P w K mg base k "_law_bare" P_law_bare [] S_law_bare)
    (p : ∀ ds own Q, S ds own Q → T_law_pages S_law_draw S_law_label S_law_any S_law_size S_law_bare { nx := fun _ o => Rt Q .non o, rt := Rt Q } (astart N_law_pages ds) own) : Bod P w K mg base "_law_pages" s_law_pages N_law_pages k S :=
  fun f cdv A outer s H E w0 ds Q hr hg hS => ⟨_, w_law_pages F_law_draw F_law_label F_law_any F_law_size F_law_bare (hb_range X G c) (hb_len X G c) (hb_tuple X G c) hr hg, p ds w0.own Q hS⟩
theorem bod_law_mark {k : Nat} {S : L3.Spec} (X : K.In h) (G : h.Ns mainGlobals mg) (c : SaysX fa fn ts ck w K) 
    (p : ∀ ds own Q, S ds own Q → T_law_mark { nx := fun _ o => Rt Q .non o, rt := Rt Q } (astart N_law_mark ds) own) : Bod P w K mg base "_law_mark" s_law_mark N_law_mark k S :=
  fun f cdv A outer s H E w0 ds Q hr hg hS => ⟨_, w_law_mark hr hg, p ds w0.own Q hS⟩
theorem bod_law_shown_in {k : Nat} {S : L3.Spec} {S_law_shown : L3.Spec} (X : K.In h) (G : h.Ns mainGlobals mg) (c : SaysX fa fn ts ck w K) (F_law_shown : Kn P w K mg base k "_law_shown" P_law_shown [] S_law_shown)
    (p : ∀ ds own Q, S ds own Q → T_law_shown_in S_law_shown { nx := fun _ o => Rt Q .non o, rt := Rt Q } (astart N_law_shown_in ds) own) : Bod P w K mg base "_law_shown_in" s_law_shown_in N_law_shown_in k S :=
  fun f cdv A outer s H E w0 ds Q hr hg hS => ⟨_, w_law_shown_in F_law_shown hr hg, p ds w0.own Q hS⟩
theorem bod_law_shown {k : Nat} {S : L3.Spec} {S_law_mark : L3.Spec} {S_law_shown_in : L3.Spec} (X : K.In h) (G : h.Ns mainGlobals mg) (c : SaysX fa fn ts ck w K) (F_law_mark : Kn P w K mg base k "_law_mark" P_law_mark [] S_law_mark) (F_law_shown_in : Kn P w K mg base k "_law_shown_in" P_law_shown_in [] S_law_shown_in)
    (p : ∀ ds own Q, S ds own Q → T_law_shown S_law_mark S_law_shown_in { nx := fun _ o => Rt Q .non o, rt := Rt Q } (astart N_law_shown ds) own) : Bod P w K mg base "_law_shown" s_law_shown N_law_shown k S :=
  fun f cdv A outer s H E w0 ds Q hr hg hS => ⟨_, w_law_shown F_law_mark F_law_shown_in (hb_int X G c) (hb_list X G c) hr hg, p ds w0.own Q hS⟩
theorem gets_law_heard {k : Nat} {S : L3.SpecL} (X : K.In h) (G : h.Ns mainGlobals mg) (c : SaysX fa fn ts ck w K)
    (p : ∀ (f : Addr) (tl : LamR) own Q, S tl own Q → T_law_heard f tl { nx := fun _ o => Rt Q .non o, rt := Rt Q } (astart N_law_heard [.ref f]) own) : ∀ Y : Cx, Y.prog = P → Y.w = w → Y.K = K → Y.mg = mg → Y.base = base → Gets Y k N_law_heard "_law_heard" "_law_asker" s_law_heard S :=
  fun Y e1 e2 e3 e4 e5 => by
    subst e1 e2 e3 e4 e5
    exact fun g f cdv s w1 tl Q hS hr hgd hask => ⟨_, w_law_heard (hb_isinstance X G c) (hb_KeyError X G c) (hb_int X G c) (hb_ValueError X G c) (hcg_ReadError X G c) (hcg_Unknown X G c) (hx_ex_law_heard c) (hx_ce c) (hx_ck_Unknown c) (hx_cn_Unknown c) (hx_ck_KeyError c) (hx_cn_KeyError c) (hx_ck_ReadError c) (hx_cn_ReadError c) (hx_ck_NotPlain c) (hx_cn_NotPlain c) (hcg_NotPlain X G c) (hx_ck_Endless c) (hx_cn_Endless c) (hcg_Endless X G c) (hx_ck_NoBook c) (hx_cn_NoBook c) (hcg_NoBook X G c) (hx_ck_Bound c) (hx_cn_Bound c) (hcg_Bound X G c) (hx_ck_Astray c) (hx_cn_Astray c) (hcg_Astray X G c) (hx_ck_NoText c) (hx_cn_NoText c) (hcg_NoText X G c) (hx_ck_ValueError c) (hx_cn_ValueError c) hr hgd hask, p f tl w1.own Q hS⟩
theorem bod_law_wide {k : Nat} {S : L3.Spec} {S_law_draw : L3.Spec} {S_law_shown : L3.Spec} {S_law_wide_in : L3.Spec} (X : K.In h) (G : h.Ns mainGlobals mg) (c : SaysX fa fn ts ck w K) (F_law_draw : Kn P w K mg base k "_law_draw" P_law_draw [] S_law_draw) (F_law_shown : Kn P w K mg base k "_law_shown" P_law_shown [] S_law_shown) (F_law_wide_in : Kn P w K mg base k "_law_wide_in" P_law_wide_in [] S_law_wide_in)
    (p : ∀ ds own Q, S ds own Q → T_law_wide S_law_draw S_law_shown S_law_wide_in { nx := fun _ o => Rt Q .non o, rt := Rt Q } (astart N_law_wide ds) own) : Bod P w K mg base "_law_wide" s_law_wide N_law_wide k S :=
  fun f cdv A outer s H E w0 ds Q hr hg hS => ⟨_, w_law_wide F_law_draw F_law_shown F_law_wide_in (hb_int X G c) (hb_list X G c) hr hg, p ds w0.own Q hS⟩
theorem bod_law_wide_in {k : Nat} {S : L3.Spec} {S_law_wide : L3.Spec} {S_law_is_in_brackets : L3.Spec} (X : K.In h) (G : h.Ns mainGlobals mg) (c : SaysX fa fn ts ck w K) (F_law_wide : Kn P w K mg base k "_law_wide" P_law_wide [] S_law_wide) (F_law_is_in_brackets : Kn P w K mg base k "_law_is_in_brackets" P_law_is_in_brackets [] S_law_is_in_brackets)
    (p : ∀ ds own Q, S ds own Q → T_law_wide_in S_law_wide S_law_is_in_brackets { nx := fun _ o => Rt Q .non o, rt := Rt Q } (astart N_law_wide_in ds) own) : Bod P w K mg base "_law_wide_in" s_law_wide_in N_law_wide_in k S :=
  fun f cdv A outer s H E w0 ds Q hr hg hS => ⟨_, w_law_wide_in F_law_wide F_law_is_in_brackets hr hg, p ds w0.own Q hS⟩
theorem bod_law_is_in_brackets {k : Nat} {S : L3.Spec} {S_law_is_escaped : L3.Spec} (X : K.In h) (G : h.Ns mainGlobals mg) (c : SaysX fa fn ts ck w K) (F_law_is_escaped : Kn P w K mg base k "_law_is_escaped" P_law_is_escaped [] S_law_is_escaped)
    (p : ∀ ds own Q, S ds own Q → T_law_is_in_brackets S_law_is_escaped { nx := fun _ o => Rt Q .non o, rt := Rt Q } (astart N_law_is_in_brackets ds) own) : Bod P w K mg base "_law_is_in_brackets" s_law_is_in_brackets N_law_is_in_brackets k S :=
  fun f cdv A outer s H E w0 ds Q hr hg hS => ⟨_, w_law_is_in_brackets F_law_is_escaped (hb_len X G c) (hb_range X G c) (hb_int X G c) hr hg, p ds w0.own Q hS⟩
theorem bod_law_is_escaped {k : Nat} {S : L3.Spec} (X : K.In h) (G : h.Ns mainGlobals mg) (c : SaysX fa fn ts ck w K) 
    (p : ∀ ds own Q, S ds own Q → T_law_is_escaped { nx := fun _ o => Rt Q .non o, rt := Rt Q } (astart N_law_is_escaped ds) own) : Bod P w K mg base "_law_is_escaped" s_law_is_escaped N_law_is_escaped k S :=
  fun f cdv A outer s H E w0 ds Q hr hg hS => ⟨_, w_law_is_escaped hr hg, p ds w0.own Q hS⟩
theorem bod_law_reader_right {k : Nat} {S : L3.Spec} {S_law_wide : L3.Spec} {S_show_reader : L3.Spec} {S_read_reader : L3.SpecX} {S_law_heard : L3.SpecL} {cc aT : Addr} (X : K.In h) (G : h.Ns mainGlobals mg) (c : SaysX fa fn ts ck w K) (F_law_wide : Kn P w K mg base (k + 2) "_law_wide" P_law_wide [] S_law_wide) (F_show_reader : Kn P w K mg base (k + 2) "show_reader" P_show_reader [] S_show_reader) (F_read_reader : KnX P w K mg base (k + 2) "read_reader" P_read_reader [] S_read_reader) (F_read_reader_k0_text : KnXP P w K mg base (k + 2) "read_reader" P_read_reader 0 ["text"] [] [0] S_read_reader) (F_read_reader_l : KnX P w K mg base k "read_reader" P_read_reader [] S_read_reader) (G_law_heard : ∀ X : Cx, X.prog = P → X.w = w → X.K = K → X.mg = mg → X.base = base → Gets X k N_law_heard "_law_heard" "_law_asker" s_law_heard S_law_heard) (TB : LamX.TabB base mg cc aT)
    (p : ∀ ds own Q, S ds own Q → T_law_reader_right S_law_wide S_show_reader S_read_reader S_law_heard aT { nx := fun _ o => Rt Q .non o, rt := Rt Q } (astart N_law_reader_right ds) own) : BodC P w K mg base "_law_reader_right" s_law_reader_right N_law_reader_right (k + 2) cc S :=
  fun f A outer s H E w0 ds Q hr hg hS => ⟨_, w_law_reader_right F_law_wide F_show_reader F_read_reader F_read_reader_k0_text F_read_reader_l (hb_repr X G c) (h_law_heard X G c) G_law_heard TB hr hg, p ds w0.own Q hS⟩
theorem bod_law {k : Nat} {S : L3.Spec} {S_law_start : L3.Spec} {S_law_pages : L3.Spec} {S_law_reader_right : L3.Spec} {S_show_book : L3.Spec} {S_law_wide : L3.Spec} {S_read_book : L3.Spec} {S_law_draw : L3.Spec} {S_law_any : L3.Spec} (X : K.In h) (G : h.Ns mainGlobals mg) (c : SaysX fa fn ts ck w K) (F_law_start : Kn P w K mg base k "_law_start" P_law_start [] S_law_start) (F_law_pages : Kn P w K mg base k "_law_pages" P_law_pages [] S_law_pages) (F_law_reader_right : Kn P w K mg base k "_law_reader_right" P_law_reader_right [] S_law_reader_right) (F_show_book : Kn P w K mg base k "show_book" P_show_book [] S_show_book) (F_law_wide : Kn P w K mg base k "_law_wide" P_law_wide [] S_law_wide) (F_read_book : Kn P w K mg base k "read_book" P_read_book [] S_read_book) (F_read_book_k0_text : KnP P w K mg base k "read_book" P_read_book 0 ["text"] [] [0] S_read_book) (F_law_draw : Kn P w K mg base k "_law_draw" P_law_draw [] S_law_draw) (F_law_any : Kn P w K mg base k "_law_any" P_law_any [] S_law_any)
    (p : ∀ ds own Q, S ds own Q → T_law S_law_start S_law_pages S_law_reader_right S_show_book S_law_wide S_read_book S_law_draw S_law_any { nx := fun _ o => Rt Q .non o, rt := Rt Q } (astart N_law ds) own) : Bod P w K mg base "law" s_law N_law k S :=
  fun f cdv A outer s H E w0 ds Q hr hg hS => ⟨_, w_law F_law_start F_law_pages F_law_reader_right F_show_book F_law_wide F_read_book F_read_book_k0_text F_law_draw F_law_any (hb_range X G c) (hb_repr X G c) (hb_len X G c) hr hg, p ds w0.own Q hS⟩
end

/-! ### the chain: each def keeps its promise -/
theorem bod_no {P : Program} {w : World} {K : PySem.W.Frag} {mg : Str → Option Value} {base : Heap} {x : Str} {st : Stmt} {N : List Str} {k : Nat} {S : L3.Spec} (h : ∀ ds o Q, ¬ S ds o Q) : Bod P w K mg base x st N k S := fun _ _ _ _ _ _ _ _ _ _ _ _ hS => absurd hS (h _ _ _)
theorem bodX_no {P : Program} {w : World} {K : PySem.W.Frag} {mg : Str → Option Value} {base : Heap} {x : Str} {st : Stmt} {N : List Str} {k : Nat} {S : L3.SpecX} (h : ∀ ds o Q E, ¬ S ds o Q E) : BodX P w K mg base x st N k S := fun _ _ _ _ _ _ _ _ _ _ _ _ _ hS => absurd hS (h _ _ _ _)
def S_none : L3.Spec := fun _ _ _ => False
def S_noneX : L3.SpecX := fun _ _ _ _ => False
section
variable {P : Program} {w : World} {K : PySem.W.Frag} {h : Heap} {mg : Str → Option Value} {base : Heap} (X : K.In h) (G : h.Ns mainGlobals mg) (c : SaysX fa fn ts ck w K)
include X G c
theorem q_start : Kn P w K mg base 1 "_law_start" P_law_start [] S_start := kn_def (k := 1 - 1) (h_law_start X G c) sc_law_start bd_law_start (fun _ _ _ ⟨_, e, _⟩ => by rw [e]; rfl) (bod_law_start X G c  fun _ _ _ h => p_start h)
theorem q_draw : Kn P w K mg base 1 "_law_draw" P_law_draw [] S_draw := kn_def (k := 1 - 1) (h_law_draw X G c) sc_law_draw bd_law_draw (fun _ _ _ ⟨_, _, _, _, e, _⟩ => by rw [e]; rfl) (bod_law_draw X G c  fun _ _ _ h => p_draw h)
theorem q_label : Kn P w K mg base 2 "_law_label" P_law_label [] S_label := kn_def (k := 2 - 1) (h_law_label X G c) sc_law_label bd_law_label (fun _ _ _ ⟨_, _, _, e, _⟩ => by rw [e]; rfl) (bod_law_label X G c ((q_draw X G c).mono (by omega)) fun _ _ _ h => p_label uDraw h)
theorem q_signs : Kn P w K mg base 2 "_law_signs" P_law_signs [] S_signs := kn_def (k := 2 - 1) (h_law_signs X G c) sc_law_signs bd_law_signs (fun _ _ _ ⟨_, _, _, _, e, _⟩ => by rw [e]; rfl) (bod_law_signs X G c ((q_draw X G c).mono (by omega)) fun _ _ _ h => p_signs uDraw h)
theorem q_bare : Kn P w K mg base 3 "_law_bare" P_law_bare [] S_bare := kn_def (k := 3 - 1) (h_law_bare X G c) sc_law_bare bd_law_bare (fun _ _ _ ⟨_, _, _, _, _, e, _⟩ => by rw [e]; rfl) (bod_law_bare X G c ((q_draw X G c).mono (by omega)) ((q_signs X G c).mono (by omega)) ((q_label X G c).mono (by omega)) fun _ _ _ h => p_bare uDraw uSigns uLabel h)
theorem q_any : ∀ n, Kn P w K mg base (4 + n) "_law_any" P_law_any [] (S_any n)
  | 0 => kn_def (h_law_any X G c) sc_law_any bd_law_any (fun _ _ _ ⟨_, _, _, _, _, _, _, _, _, e, _⟩ => by rw [e]; rfl) (bod_no (by rintro ds o Q ⟨_, _, _, _, _, _, _, _, _, _, _, _, _, h1, h2, _⟩; omega))
  | n + 1 => kn_def (k := 4 + n) (h_law_any X G c) sc_law_any bd_law_any (fun _ _ _ ⟨_, _, _, _, _, _, _, _, _, e, _⟩ => by rw [e]; rfl) (bod_law_any X G c ((q_draw X G c).mono (by omega)) ((q_bare X G c).mono (by omega)) (q_any n) ((q_label X G c).mono (by omega)) fun _ _ _ h => p_any uDraw uBare (uAny n) uLabel h)
theorem q_size : ∀ n, Kn P w K mg base (1 + n) "_law_size" P_law_size [] (S_size n)
  | 0 => kn_def (h_law_size X G c) sc_law_size bd_law_size (fun _ _ _ ⟨_, e, _⟩ => by rw [e]; rfl) (bod_no (by rintro ds o Q ⟨r, _, _, h1, _⟩; have := r.hgt_pos; omega))
  | n + 1 => kn_def (k := 1 + n) (h_law_size X G c) sc_law_size bd_law_size (fun _ _ _ ⟨_, e, _⟩ => by rw [e]; rfl) (bod_law_size X G c (q_size n) fun _ _ _ h => p_size (uSize n) h)
theorem q_pages : Kn P w K mg base 13 "_law_pages" P_law_pages [] S_pages := kn_def (k := 13 - 1) (h_law_pages X G c) sc_law_pages bd_law_pages (fun _ _ _ ⟨_, _, _, e, _⟩ => by rw [e]; rfl) (bod_law_pages X G c ((q_draw X G c).mono (by omega)) ((q_label X G c).mono (by omega)) ((q_any X G c 8).mono (by omega)) ((q_size X G c 8).mono (by omega)) ((q_bare X G c).mono (by omega)) fun _ _ _ h => p_pages uDraw uLabel (uAny 8) (uSize 8) uBare h)
theorem q_mark : Kn P w K mg base 1 "_law_mark" P_law_mark [] S_mark := kn_def (k := 1 - 1) (h_law_mark X G c) sc_law_mark bd_law_mark (fun _ _ _ ⟨_, e, _⟩ => by rw [e]; rfl) (bod_law_mark X G c  fun _ _ _ h => p_mark h)
theorem q_shown : ∀ n, Kn P w K mg base (1 + 2 * n) "_law_shown" P_law_shown [] (S_shown n)
  | 0 => kn_def (h_law_shown X G c) sc_law_shown bd_law_shown (fun _ _ _ ⟨_, e, _⟩ => by rw [e]; rfl) (bod_no (by rintro ds o Q ⟨r, _, _, h1, _⟩; have := r.hgt_pos; omega))
  | n + 1 =>
    have q := kn_def (h_law_shown_in X G c) sc_law_shown_in bd_law_shown_in (fun _ _ _ ⟨_, _, _, e, _⟩ => by rw [e]; rfl) (bod_law_shown_in (S := S_in false n) X G c (q_shown n) fun _ _ _ h => p_shown_in (uShown n) h)
    kn_def (k := 1 + 2 * n + 1) (h_law_shown X G c) sc_law_shown bd_law_shown (fun _ _ _ ⟨_, e, _⟩ => by rw [e]; rfl) (bod_law_shown X G c ((q_mark X G c).mono (by omega)) q fun _ _ _ h => p_shown uMark (uIn false n) h)
theorem q_ssigns : Kn P w K mg base 1 "show_signs" P_show_signs [] S_ssigns := kn_def (k := 1 - 1) (h_show_signs X G c) sc_show_signs bd_show_signs (fun _ _ _ ⟨_, e, _⟩ => by rw [e]; rfl) (bod_show_signs X G c  fun _ _ _ h => p_ssigns h)
theorem q_plain : Kn P w K mg base 2 "show_plain" P_show_plain [] S_plain := kn_def (k := 2 - 1) (h_show_plain X G c) sc_show_plain bd_show_plain (fun _ _ _ ⟨_, _, e, _⟩ => by rw [e]; rfl) (bod_show_plain X G c ((q_ssigns X G c).mono (by omega)) fun _ _ _ h => p_plain uSsigns h)
theorem q_sreader : ∀ n, Kn P w K mg base (3 + 2 * n) "show_reader" P_show_reader [] (S_shown n)
  | 0 => kn_def (k := 2) (h_show_reader X G c) sc_show_reader bd_show_reader (fun _ _ _ ⟨_, e, _⟩ => by rw [e]; rfl) (bod_no (by rintro ds o Q ⟨r, _, _, h1, _⟩; have := r.hgt_pos; omega))
  | n + 1 =>
    have q := knP_def (hasK_nil (h_show_within X G c)) sc_show_within bdp_show_within_k1_but (fun _ _ _ ⟨_, _, _, e, _⟩ => by rw [e]; rfl) (bod_show_within (S := S_in true n) X G c (q_sreader n) fun _ _ _ h => p_showin (uShown n) h)
    kn_def (k := 3 + 2 * n + 1) (h_show_reader X G c) sc_show_reader bd_show_reader (fun _ _ _ ⟨_, e, _⟩ => by rw [e]; rfl) (bod_show_reader (S := S_shown (n + 1)) X G c q ((q_plain X G c).mono (by omega)) fun _ _ _ h => p_reader (uIn true n) uPlain h)
theorem q_sbook : Kn P w K mg base 20 "show_book" P_show_book [] S_sbook := kn_def (k := 20 - 1) (h_show_book X G c) sc_show_book bd_show_book (fun _ _ _ ⟨_, e, _⟩ => by rw [e]; rfl) (bod_show_book X G c ((q_sreader X G c 8).mono (by omega)) fun _ _ _ h => p_book (uShown 8) h)
theorem q_text : KnP P w K mg base 1 "is_text" P_is_text 1 ["most"] [] [0, 1] S_text := knP_def (h_is_text X G c) sc_is_text bdp_is_text_k1_most (fun _ _ _ ⟨_, _, e, _⟩ => by rw [e]; rfl) (bod_is_text X G c fun _ _ _ h => p_text h)
theorem q_sg : Bod P w K mg base "is_signs" s_is_signs N_is_signs 1 S_sg := bod_is_signs X G c (q_text X G c) fun _ _ _ h => p_signs' uText h
theorem q_sgP : KnP P w K mg base 2 "is_signs" P_is_signs 1 ["least"] [] [0, 1] S_sg := knP_def (h_is_signs X G c) sc_is_signs bdp_is_signs_k1_least (fun _ _ _ ⟨_, _, e, _⟩ => by rw [e]; rfl) (q_sg X G c)
theorem q_sgD : Kn P w K mg base 2 "is_signs" P_is_signs [.int 0] S_sg := kn_defD (n := 1) (h_is_signs X G c) sc_is_signs (by simp) rfl bdd_is_signs (fun G => by unfold Dts; exact ⟨_, _, rfl, by unfold Dt; rfl, by unfold Dts; rfl⟩) (fun _ _ _ ⟨_, _, e, _⟩ => by rw [e]; rfl) (q_sg X G c)
theorem q_nm : Kn P w K mg base 1 "is_name" P_is_name [] S_nm := kn_def (k := 1 - 1) (h_is_name X G c) sc_is_name bd_is_name (fun _ _ _ ⟨_, e, _⟩ => by rw [e]; rfl) (bod_is_name X G c  fun _ _ _ h => p_name h)
theorem q_piece' {n k : Nat} (hk : 2 ≤ k) (q : Kn P w K mg base k "is_formed" P_is_formed [] (S_formed n)) : Kn P w K mg base (k + 1) "is_piece" P_is_piece [] (S_piece n) :=
  kn_def (h_is_piece X G c) sc_is_piece bd_is_piece (fun _ _ _ ⟨_, _, e, _⟩ => by rw [e]; rfl) (bod_is_piece X G c ((q_sgP X G c).mono hk) ((q_sgD X G c).mono hk) ((q_nm X G c).mono (by omega)) q fun _ _ _ h => p_piece uSg uNm (uFormed n) h)
theorem q_formed : ∀ n, Kn P w K mg base (3 + 2 * n) "is_formed" P_is_formed [] (S_formed n)
  | 0 =>
    have q : Kn P w K mg base 2 "is_piece" P_is_piece [] S_none := kn_def (h_is_piece X G c) sc_is_piece bd_is_piece (fun _ _ _ h => h.elim) (bod_no fun _ _ _ h => h)
    kn_def (h_is_formed X G c) sc_is_formed bd_is_formed (fun _ _ _ ⟨_, _, e, _⟩ => by rw [e]; rfl) (bod_is_formed X G c q fun _ _ _ h => p_formed (fun m e => absurd e (by omega)) h)
  | n + 1 => kn_def (k := 3 + 2 * n + 1) (h_is_formed X G c) sc_is_formed bd_is_formed (fun _ _ _ ⟨_, _, e, _⟩ => by rw [e]; rfl) (bod_is_formed X G c (q_piece' X G c (by omega) (q_formed n)) fun _ _ _ h => p_formed (fun m e => by cases e; exact uPiece n) h)
theorem q_reader : Kn P w K mg base 20 "is_reader" P_is_reader [] S_reader := kn_def (k := 20 - 1) (h_is_reader X G c) sc_is_reader bd_is_reader (fun _ _ _ ⟨_, e, _⟩ => by rw [e]; rfl) (bod_is_reader X G c ((q_formed X G c 8).mono (by omega)) fun _ _ _ h => p_is_reader (uFormed 8) h)
theorem q_within : Kn P w K mg base 1 "within" P_within [] S_within := kn_def (k := 1 - 1) (h_within X G c) sc_within bd_within (fun _ _ _ ⟨_, e, _⟩ => by rw [e]; rfl) (bod_within X G c  fun _ _ _ h => p_within h)
theorem q_allw : ∀ n, Kn P w K mg base (2 + n) "all_within" P_all_within [] (S_allw n)
  | 0 => kn_def (h_all_within X G c) sc_all_within bd_all_within (fun _ _ _ ⟨_, e, _⟩ => by rw [e]; rfl) (bod_no (by rintro ds o Q ⟨r, _, _, h1, _⟩; have := r.hgt_pos; omega))
  | n + 1 => kn_def (k := 2 + n) (h_all_within X G c) sc_all_within bd_all_within (fun _ _ _ ⟨_, e, _⟩ => by rw [e]; rfl) (bod_all_within X G c ((q_within X G c).mono (by omega)) (q_allw n) fun _ _ _ h => p_allw uWithin (uAllw n) h)
theorem q_named : Kn P w K mg base 2 "are_named" P_are_named [] S_named := kn_def (k := 2 - 1) (h_are_named X G c) sc_are_named bd_are_named (fun _ _ _ ⟨_, e, _⟩ => by rw [e]; rfl) (bod_are_named X G c ((q_nm X G c).mono (by omega)) fun _ _ _ h => p_named uNm h)
theorem q_right : Kn P w K mg base 21 "is_right" P_is_right [] S_rightr := kn_def (k := 21 - 1) (h_is_right X G c) sc_is_right bd_is_right (fun _ _ _ ⟨_, _, e, _⟩ => by rw [e]; rfl) (bod_is_right X G c ((q_reader X G c).mono (by omega)) ((q_allw X G c 8).mono (by omega)) fun _ _ _ h => p_rightr uReader (uAllw 8) h)
theorem q_firstw : Kn P w K mg base 22 "first_wrong" P_first_wrong [] S_firstw := kn_def (k := 22 - 1) (h_first_wrong X G c) sc_first_wrong bd_first_wrong (fun _ _ _ ⟨_, e, _⟩ => by rw [e]; rfl) (bod_first_wrong X G c ((q_right X G c).mono (by omega)) fun _ _ _ h => p_firstw uRightr h)
theorem q_parts : Kn P w K mg base 11 "parts_of" P_parts_of [] (S_parts 8) := kn_def (k := 11 - 1) (h_parts_of X G c) sc_parts_of bd_parts_of (fun _ _ _ ⟨_, e, _⟩ => by rw [e]; rfl) (bod_parts_of X G c ((q_allw X G c 8).mono (by omega)) fun _ _ _ h => p_parts (uAllw 8) h)
theorem q_bookof : Kn P w K mg base 23 "book_of" P_book_of [] S_bookof := kn_def (k := 23 - 1) (h_book_of X G c) sc_book_of bd_book_of (fun _ _ _ ⟨_, e, _⟩ => by rw [e]; rfl) (bod_book_of X G c ((q_named X G c).mono (by omega)) ((q_firstw X G c).mono (by omega)) ((q_parts X G c).mono (by omega)) fun _ _ _ h => p_bookof uNamed uFirstw (uParts 8) h)
theorem q_need : KnX P w K mg base 1 "need" P_need [] S_need := knX_def (k := 1 - 1) (h_need X G c) sc_need bd_need (fun _ _ _ _ ⟨_, e, _⟩ => by rw [e]; rfl) (bod_need X G c  fun _ _ _ _ h => p_need h)
theorem q_letters : KnX P w K mg base 2 "letters_at" P_letters_at [] S_letters := knX_def (k := 2 - 1) (h_letters_at X G c) sc_letters_at bd_letters_at (fun _ _ _ _ ⟨_, _, _, e, _⟩ => by rw [e]; rfl) (bod_letters_at X G c ((q_need X G c).mono (by omega)) fun _ _ _ _ h => p_letters uNeed h)
theorem q_sign : KnX P w K mg base 2 "sign_at" P_sign_at [] S_sign := knX_def (k := 2 - 1) (h_sign_at X G c) sc_sign_at bd_sign_at (fun _ _ _ _ ⟨_, _, _, e, _⟩ => by rw [e]; rfl) (bod_sign_at X G c ((q_need X G c).mono (by omega)) fun _ _ _ _ h => p_sign uNeed h)
theorem q_bk : KnX P w K mg base 3 "signs_at" P_signs_at [] S_bk := knX_def (k := 3 - 1) (h_signs_at X G c) sc_signs_at bd_signs_at (fun _ _ _ _ ⟨_, _, _, e, _⟩ => by rw [e]; rfl) (bod_signs_at X G c ((q_sign X G c).mono (by omega)) fun _ _ _ _ h => p_bk uSign h)
theorem q_choice' {n k : Nat} {S_c : L3.SpecX} (hk : 4 ≤ k) (q : KnX P w K mg base k "choice_at" P_choice_at [] S_c) (hc : ∀ j, n = j + 1 → UPar (chF j) j S_c) : KnX P w K mg base (k + 4) "choice_at" P_choice_at [] (S_par (chF n) n) :=
  have qa : KnX P w K mg base (k + 1) "atom_at" P_atom_at [] (S_par (atomF (inF n)) n) := knX_def (h_atom_at X G c) sc_atom_at bd_atom_at (fun _ _ _ _ ⟨_, _, _, e, _⟩ => by rw [e]; rfl) (bod_atom_at X G c ((q_bk X G c).mono (by omega)) ((q_letters X G c).mono (by omega)) ((q_need X G c).mono (by omega)) q fun _ _ _ _ h => p_atom uBk uLetters uNeed hc h)
  have qi : KnX P w K mg base (k + 2) "item_at" P_item_at [] (S_par (itemF (inF n)) n) := knX_def (h_item_at X G c) sc_item_at bd_item_at (fun _ _ _ _ ⟨_, _, _, e, _⟩ => by rw [e]; rfl) (bod_item_at X G c qa fun _ _ _ _ h => p_item (uPar _ _) h)
  have qr : KnX P w K mg base (k + 3) "row_at" P_row_at [] (S_par (rowF (inF n)) n) := knX_def (h_row_at X G c) sc_row_at bd_row_at (fun _ _ _ _ ⟨_, _, _, e, _⟩ => by rw [e]; rfl) (bod_row_at X G c qi fun _ _ _ _ h => p_row (uPar _ _) h)
  knX_def (h_choice_at X G c) sc_choice_at bd_choice_at (fun _ _ _ _ ⟨_, _, _, e, _⟩ => by rw [e]; rfl) (bod_choice_at X G c qr fun _ _ _ _ h => p_choice (uPar _ _) h)
theorem q_choice : ∀ n, KnX P w K mg base (8 + 4 * n) "choice_at" P_choice_at [] (S_par (chF n) n)
  | 0 =>
    have q : KnX P w K mg base 4 "choice_at" P_choice_at [] S_noneX := knX_def (h_choice_at X G c) sc_choice_at bd_choice_at (fun _ _ _ _ h => h.elim) (bodX_no fun _ _ _ _ h => h)
    q_choice' X G c (Nat.le_refl 4) q fun j e => absurd e (by omega)
  | n + 1 => q_choice' X G c (Nat.le_trans (by decide : 4 ≤ 8) (Nat.le_add_right 8 _)) (q_choice n) fun j e => by cases e; exact uPar _ _
theorem q_readrB : BodX P w K mg base "read_reader" s_read_reader N_read_reader 56 S_readr := bod_read_reader X G c ((q_need X G c).mono (by omega)) (q_choice X G c 12) ((q_reader X G c).mono (by omega)) fun _ _ _ _ h => p_readr uNeed (uPar _ _) uReader h
theorem q_readr : KnX P w K mg base 57 "read_reader" P_read_reader [] S_readr := knX_def (h_read_reader X G c) sc_read_reader bd_read_reader (fun _ _ _ _ ⟨_, e, _⟩ => by rw [e]; rfl) (q_readrB X G c)
theorem q_readrP : KnXP P w K mg base 57 "read_reader" P_read_reader 0 ["text"] [] [0] S_readr := knXP_def (hasK_nil (h_read_reader X G c)) sc_read_reader bdp_read_reader_k0_text (fun _ _ _ _ ⟨_, e, _⟩ => by rw [e]; rfl) (q_readrB X G c)
theorem q_pairin : Kn P w K mg base 58 "pair_in" P_pair_in [] S_pairin := kn_def (k := 58 - 1) (h_pair_in X G c) sc_pair_in bd_pair_in (fun _ _ _ ⟨_, _, e, _⟩ => by rw [e]; rfl) (bod_pair_in X G c ((q_need X G c).mono (by omega)) ((q_readr X G c).mono (by omega)) fun _ _ _ h => p_pairin uNeed uReadr h)
theorem q_readbB : Bod P w K mg base "read_book" s_read_book N_read_book 58 S_readb := bod_read_book X G c ((q_need X G c).mono (by omega)) (q_pairin X G c) ((q_bookof X G c).mono (by omega)) fun _ _ _ h => p_readb uNeed uPairin uBookof h
theorem q_readb : Kn P w K mg base 59 "read_book" P_read_book [] S_readb := kn_def (h_read_book X G c) sc_read_book bd_read_book (fun _ _ _ ⟨_, _, e, _⟩ => by rw [e]; rfl) (q_readbB X G c)
theorem q_readbP : KnP P w K mg base 59 "read_book" P_read_book 0 ["text"] [] [0] S_readb := knP_def (hasK_nil (h_read_book X G c)) sc_read_book bdp_read_book_k0_text (fun _ _ _ ⟨_, _, e, _⟩ => by rw [e]; rfl) (q_readbB X G c)
theorem q_esc : Kn P w K mg base 1 "_law_is_escaped" P_law_is_escaped [] S_esc := kn_def (k := 1 - 1) (h_law_is_escaped X G c) sc_law_is_escaped bd_law_is_escaped (fun _ _ _ ⟨_, _, e, _⟩ => by rw [e]; rfl) (bod_law_is_escaped X G c  fun _ _ _ h => p_esc h)
theorem q_inb : Kn P w K mg base 2 "_law_is_in_brackets" P_law_is_in_brackets [] S_inb := kn_def (k := 2 - 1) (h_law_is_in_brackets X G c) sc_law_is_in_brackets bd_law_is_in_brackets (fun _ _ _ ⟨_, e, _⟩ => by rw [e]; rfl) (bod_law_is_in_brackets X G c ((q_esc X G c).mono (by omega)) fun _ _ _ h => p_inb uEsc h)
theorem q_wide : ∀ n, Kn P w K mg base (20 + 2 * n) "_law_wide" P_law_wide [] (S_wide n)
  | 0 => kn_def (k := 19) (h_law_wide X G c) sc_law_wide bd_law_wide (fun _ _ _ ⟨_, _, _, _, _, _, _, _, e, _⟩ => by rw [e]; rfl) (bod_no (by rintro ds o Q ⟨_, _, _, _, _, r, _, _, _, _, _, _, h1, _⟩; have := r.hgt_pos; omega))
  | n + 1 =>
    have q := kn_def (h_law_wide_in X G c) sc_law_wide_in bd_law_wide_in (fun _ _ _ ⟨_, _, _, _, _, _, _, _, _, _, e, _⟩ => by rw [e]; rfl) (bod_law_wide_in (S := S_win n) X G c (q_wide n) ((q_inb X G c).mono (by omega)) fun _ _ _ h => p_win (uWide n) uInb h)
    have qs : Kn P w K mg base (20 + 2 * n + 1) "_law_shown" P_law_shown [] (S_shown (n + 1)) := ((q_shown X G c (n + 1)).mono (by omega))
    kn_def (k := 20 + 2 * n + 1) (h_law_wide X G c) sc_law_wide bd_law_wide (fun _ _ _ ⟨_, _, _, _, _, _, _, _, e, _⟩ => by rw [e]; rfl) (bod_law_wide X G c ((q_draw X G c).mono (by omega)) qs q fun _ _ _ h => p_wide uDraw (uShown (n + 1)) (uWin n) h)
theorem q_rr {cc aT : Addr} (TB : LamX.TabB base mg cc aT) (hC : HasC K mg "_law_reader_right" s_law_reader_right cc) : Kn P w K mg base 60 "_law_reader_right" P_law_reader_right [] (S_rrA aT) :=
  kn_defC (k := 59) hC sc_law_reader_right bd_law_reader_right (fun _ _ _ ⟨_, _, _, _, _, e, _⟩ => by rw [e]; rfl) (bod_law_reader_right (k := 57) X G c ((q_wide X G c 8).mono (by omega)) ((q_sreader X G c 8).mono (by omega)) ((q_readr X G c).mono (by omega)) ((q_readrP X G c).mono (by omega)) (q_readr X G c) (gets_law_heard X G c fun f tl own Q h => p_heard h) TB fun _ _ _ h => p_rr (uWide 8) (uShown 8) uReadr uHeard h)
theorem q_law {cc aT : Addr} (TB : LamX.TabB base mg cc aT) (hC : HasC K mg "_law_reader_right" s_law_reader_right cc) {o : Own} (hT : o aT = some (.tbl lamR)) : Bod P w K mg base "law" s_law N_law 60 (spLawT o 63) :=
  bod_law (k := 60) X G c ((q_start X G c).mono (by omega)) ((q_pages X G c).mono (by omega)) (q_rr X G c TB hC) ((q_sbook X G c).mono (by omega)) ((q_wide X G c 8).mono (by omega)) ((q_readb X G c).mono (by omega)) ((q_readbP X G c).mono (by omega)) ((q_draw X G c).mono (by omega)) ((q_any X G c 8).mono (by omega))
    fun _ _ _ h => p_law uStart uPages (uRrA aT) uBook (uWide 8) uReadb uDraw (uAny 8) hT h
end
abbrev lams : List Str := ["_law_reader_right"]
theorem facts {P : Program} {w : World} {K : PySem.W.Frag} {h : Heap} {mg : Str → Option Value} {fa' : Addr} (X : K.In h) (G : h.Ns mainGlobals mg) (hmg : mg "law" = some (.ref fa')) (c : SaysX fa fn ts ck w (dropT K lams)) (ht : (PySem.W.tabIn K "_law_reader_right").isSome = true) :
    ∃ fd : FuncData, (∀ (s : Shared) (u : Value), BindsTo s fd ⟨[u], []⟩ [("_law_script", u)]) ∧ ∀ base : Heap, (dropT K lams).In base → base.Ns mainGlobals mg → (∀ q ∈ tabsL K lams, LamX.TabB base mg q.2.1 q.2.2) → FnG P w (dropT K lams) mg base CX0 61 fa' fd ["_law_script"] (spOf (dropT K lams) (spLawT (own0 K lams) 63)) := by
  obtain ⟨⟨cc, aT⟩, e⟩ := Option.isSome_iff_exists.mp ht
  have X' := dropT_in (lam := lams) X
  obtain ⟨f, fd, F, hm⟩ := h_law X' G c
  have e1 := hmg.symm.trans hm
  cases e1
  refine ⟨fd, fun s u => bindsOf F bd_law s [u] rfl, fun base _ _ tb => ?_⟩
  have TB := tb _ (tabs_one e)
  exact def_ok (funX F) sc_law (fun _ _ _ ⟨_, e, _⟩ => by rw [e]; rfl) (q_law X' G c TB (hasC_tab X G (h_law_reader_right X' G c) e) (own0_one e) fa')

end R86
open PySem PySem.W PyProof.Rows
set_option maxRecDepth 100000 in
set_option maxHeartbeats 0 in
theorem PySem.Challenge.cw_smallreaders_k86_written_ones_read_back_holds : PySem.Challenge.rw_smallreaders_k86_written_ones_read_back.Holds := by
  w_on; o_law; k_head; (case hw => w_witness2)
  k_fill
  refine L3.walkGT (lam := R86.lams) (n := 63) (l := PySem.Challenge.rw_smallreaders_k86_written_ones_read_back) (k := 61) (x := "_law_script") rfl (by decide) rfl ⟨rfl, by decide, by decide⟩ ?hrec (fun w h Y => PySem.W.km_in_of Y) ?F
  case hrec => kernel_rfl
  case F =>
    intro w mg fa h KX G hmg
    have hmg : mg ("law" : Str) = some (.ref fa) := hmg
    refine R86.facts KX G hmg ⟨?c1, ?c2⟩ ?c3
    case c1 => unfold He.SaysT; kernel_rfl
    case c2 => kernel_rfl
    case c3 => kernel_rfl
#print axioms PySem.Challenge.cw_smallreaders_k86_written_ones_read_back_holds
