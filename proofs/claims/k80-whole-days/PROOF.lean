import PyProof.Rows.All
import Wide.All
import OpenK.AllK
import Wide.FinOn
import HandS.ForMost
import HandS.Slots
import HandS.SlotsOwn
import HandS.HeadHook1
import HandS.HeadHook2
import HandS.HeadHook4
import HandS.Lambda
import HandS.ClsMeth
import HandS.Star
import HandS.Strs
import HandS.Style
import HandS.Zip
import HandS.IsInst
import HandS.DictComp
import HandS.TupAny
import KE.KDictPairs
import KE.GoesEnum
import PySem.Challenge.RW_whichfirst_k80_whole_days_and_windows
import HandS.GenBody
import HandS.GenYield
import HandS.GenCall
import HandS.GenList
import KE.DataCmp
import KE.KSortAsk
import KE.SortCalls
import KE.DataMinMax
import KE.SortKeyHeap
import HandS.Conv
import HandS.HeadNt
import HandS.EndBits
import HandS.EndTab
import HandS.Head0
import HandS.Head1
import HandS.Head2
import HandS.HeadEnd
set_option Elab.async false
set_option linter.all false
set_option maxRecDepth 100000
set_option maxHeartbeats 2000000
namespace Wd
open PySem PySem.Spec PyProof.Rows L2
/-! # Data without the heap, over the hand layer -/
/-- data: what never changes once it stands -/
inductive D where
  | non | bl (b : Bool) | int (i : Int) | str (x : Str)
  | tup (xs : List D) | wtp (xs : List D) | key (ks : List Int) | lst (xs : List D) | dic (kvs : List (Str × D)) | due (xs : List D)
/-- a tuple, its very object known: it has no dict of its own -/
def TupG (K : PySem.W.Frag) (G : Hp) (a : Addr) (xs : List V) : Prop := (∃ o, G a = some (.frz o (.tup xs)) ∧ o.dict = Option.none) ∨
  ∃ (o : Obj) (its : Array Value) (n : Nat), K.lookup a = some o ∧ o.cls = .type "tuple" ∧ o.dict = Option.none ∧ o.data = .seq its n ∧ its.size ≤ sizeLine ∧ Vals xs its.toList
mutual
/-- the value v stands for the data d, in the part G of the heap -/
inductive Rp (K : PySem.W.Frag) (G : Hp) : V → D → Prop
  | non : Rp K G .non .non
  | bl (b : Bool) : Rp K G (.bl b) (.bl b)
  | int (i : Int) : Rp K G (.int i) (.int i)
  | str (x : Str) : Rp K G (.str x) (.str x)
  | tup {a : Addr} {xs : List V} {ds : List D} : TupG K G a xs → RpL K G xs ds → Rp K G (.ref a) (.tup ds)
  | wtp {a : Addr} {xs : List V} {ds : List D} : SqT K G a xs → RpL K G xs ds → Rp K G (.ref a) (.wtp ds)
  | key {a : Addr} {ks : List Int} : G a = some (.tup (ks.map V.int)) → Rp K G (.ref a) (.key ks)
  | lst {a : Addr} {xs : List V} {ds : List D} : G a = some (.lst xs) → RpL K G xs ds → Rp K G (.ref a) (.lst ds)
  | dic {a : Addr} {xs : List (Key × V)} {ds : List (Str × D)} : G a = some (.dK xs) → RpK K G xs ds → Rp K G (.ref a) (.dic ds)
  | due {a C dx : Addr} {xs : List V} {ds : List D} : G a = some (SlX.SlO a C dx (xs.map some)) → G dx = some (.xd []) → C = He.ga K "Due" → RpL K G xs ds → Rp K G (.ref a) (.due ds)
inductive RpL (K : PySem.W.Frag) (G : Hp) : List V → List D → Prop
  | nil : RpL K G [] []
  | cons {v : V} {vs : List V} {d : D} {ds : List D} : Rp K G v d → RpL K G vs ds → RpL K G (v :: vs) (d :: ds)
inductive RpK (K : PySem.W.Frag) (G : Hp) : List (Key × V) → List (Str × D) → Prop
  | nil : RpK K G [] []
  | cons {x : Str} {v : V} {vs : List (Key × V)} {d : D} {ds : List (Str × D)} : Rp K G v d → RpK K G vs ds → RpK K G ((Sum.inr x, v) :: vs) ((x, d) :: ds)
end
end Wd
set_option maxRecDepth 100000
set_option maxHeartbeats 2000000
namespace Wd
open PySem PySem.Spec PyProof.Rows L2
/-! ### parts of the heap -/
def Sub (G H : Hp) : Prop := ∀ a o, G a = some o → H a = some o
theorem Sub.refl (H : Hp) : Sub H H := fun _ _ h => h
theorem Sub.trans {A B C : Hp} (a : Sub A B) (b : Sub B C) : Sub A C := fun x o h => b x o (a x o h)
theorem Sub.sqT {K : PySem.W.Frag} {G H : Hp} {a : Addr} {xs : List V} (s : Sub G H) (h : SqT K G a xs) : SqT K H a xs := by
  rcases h with (h | ⟨o, h⟩) | h
  · exact .inl (.inl (s _ _ h))
  · exact .inl (.inr ⟨o, s _ _ h⟩)
  · exact .inr h
theorem Sub.sqL {K : PySem.W.Frag} {G H : Hp} {a : Addr} {xs : List V} (s : Sub G H) (h : SqL K G a xs) : SqL K H a xs := by
  rcases h with (h | ⟨o, h⟩) | h
  · exact .inl (.inl (s _ _ h))
  · exact .inl (.inr ⟨o, s _ _ h⟩)
  · exact .inr h
theorem Sub.tupG {K : PySem.W.Frag} {G H : Hp} {a : Addr} {xs : List V} (s : Sub G H) (h : TupG K G a xs) : TupG K H a xs := by
  rcases h with ⟨o, h, hd⟩ | h
  · exact .inl ⟨o, s _ _ h, hd⟩
  · exact .inr h
theorem TupG.sq {K : PySem.W.Frag} {G : Hp} {a : Addr} {xs : List V} (h : TupG K G a xs) : SqT K G a xs := by
  rcases h with ⟨o, h, _⟩ | ⟨o, its, n, h1, h2, _, h3, h4, h5⟩
  · exact .inl (.inr ⟨o, h⟩)
  · exact .inr ⟨o, its, n, h1, h2, h3, h4, h5⟩
mutual
theorem Rp.mono {K : PySem.W.Frag} {G H : Hp} (s : Sub G H) : ∀ (d : D) (v : V), Rp K G v d → Rp K H v d
  | .non, _, .non => .non
  | .bl _, _, .bl _ => .bl _
  | .int _, _, .int _ => .int _
  | .str _, _, .str _ => .str _
  | .tup ds, _, .tup h r => .tup (s.tupG h) (RpL.mono s ds _ r)
  | .wtp ds, _, .wtp h r => .wtp (s.sqT h) (RpL.mono s ds _ r)
  | .key _, _, .key h => .key (s _ _ h)
  | .lst ds, _, .lst h r => .lst (s _ _ h) (RpL.mono s ds _ r)
  | .dic ds, _, .dic h r => .dic (s _ _ h) (RpK.mono s ds _ r)
  | .due ds, _, .due h h2 e r => .due (s _ _ h) (s _ _ h2) e (RpL.mono s ds _ r)
theorem RpL.mono {K : PySem.W.Frag} {G H : Hp} (s : Sub G H) : ∀ (ds : List D) (vs : List V), RpL K G vs ds → RpL K H vs ds
  | [], _, .nil => .nil
  | d :: ds, _, .cons r rs => .cons (Rp.mono s d _ r) (RpL.mono s ds _ rs)
theorem RpK.mono {K : PySem.W.Frag} {G H : Hp} (s : Sub G H) : ∀ (ds : List (Str × D)) (vs : List (Key × V)), RpK K G vs ds → RpK K H vs ds
  | [], _, .nil => .nil
  | (_, d) :: ds, _, .cons r rs => .cons (Rp.mono s d _ r) (RpK.mono s ds _ rs)
end
section
variable {K : PySem.W.Frag} {G H G' H' : Hp}
theorem RpL.length : ∀ {vs : List V} {ds : List D}, RpL K G vs ds → vs.length = ds.length
  | _, _, .nil => rfl
  | _, _, .cons _ t => by rw [List.length_cons, List.length_cons, RpL.length t]
theorem RpL.get : ∀ {vs : List V} {ds : List D} {i : Nat} {d : D}, RpL K G vs ds → ds[i]? = some d → ∃ v, vs[i]? = some v ∧ Rp K G v d
  | _, _, _, _, .nil, e => by simp at e
  | _, _, 0, _, .cons r _, e => by simp at e; subst e; exact ⟨_, rfl, r⟩
  | _, _, i + 1, d, .cons _ t, e => by
    obtain ⟨v, h1, h2⟩ := RpL.get (i := i) (d := d) t (by simpa using e)
    exact ⟨v, by simpa using h1, h2⟩
theorem RpL.getV : ∀ {vs : List V} {ds : List D} {i : Nat} {v : V}, RpL K G vs ds → vs[i]? = some v → ∃ d, ds[i]? = some d ∧ Rp K G v d
  | _, _, _, _, .nil, e => by simp at e
  | _, _, 0, _, .cons r _, e => by simp at e; subst e; exact ⟨_, rfl, r⟩
  | _, _, i + 1, d, .cons _ t, e => by
    obtain ⟨v, h1, h2⟩ := RpL.getV (i := i) (v := d) t (by simpa using e)
    exact ⟨v, by simpa using h1, h2⟩
theorem RpL.append : ∀ {vs ws : List V} {ds es : List D}, RpL K G vs ds → RpL K G ws es → RpL K G (vs ++ ws) (ds ++ es)
  | _, _, _, _, .nil, s => s
  | _, _, _, _, .cons r t, s => .cons r (RpL.append t s)
theorem RpL.snoc {vs : List V} {ds : List D} {v : V} {d : D} (h : RpL K G vs ds) (r : Rp K G v d) : RpL K G (vs ++ [v]) (ds ++ [d]) := h.append (.cons r .nil)
theorem RpL.take : ∀ {vs : List V} {ds : List D} (n : Nat), RpL K G vs ds → RpL K G (vs.take n) (ds.take n)
  | _, _, 0, _ => .nil
  | _, _, _ + 1, .nil => .nil
  | _, _, n + 1, .cons r t => .cons r (RpL.take n t)
theorem RpL.drop : ∀ {vs : List V} {ds : List D} (n : Nat), RpL K G vs ds → RpL K G (vs.drop n) (ds.drop n)
  | _, _, 0, r => r
  | _, _, _ + 1, .nil => .nil
  | _, _, n + 1, .cons _ t => RpL.drop n t
theorem RpL.reverse {vs : List V} {ds : List D} (h : RpL K G vs ds) : RpL K G vs.reverse ds.reverse := by
  induction vs generalizing ds with
  | nil => cases h; exact .nil
  | cons v vs ih =>
    cases h with
    | cons r t =>
      rw [List.reverse_cons, List.reverse_cons]
      exact (ih t).snoc r
theorem RpL.dropLast {vs : List V} {ds : List D} (h : RpL K G vs ds) : RpL K G vs.dropLast ds.dropLast := by
  rw [List.dropLast_eq_take, List.dropLast_eq_take, h.length]
  exact h.take _
end
/-! ### growth -/
/-- neither a table nor a code object -/
def NTE (u : Option HO) : Prop := ∀ o, u = some o → (∀ ps, o ≠ .tbl ps) ∧ ∀ c q, o ≠ LamX.CodeO c q
theorem nte_of {H : Hp} {a : Addr} {u : HO} (h : H a = some u) (h1 : ∀ ps, u ≠ .tbl ps) (h2 : ∀ c q, u ≠ LamX.CodeO c q) : NTE (H a) := fun o e => by
  rw [h] at e
  cases e
  exact ⟨h1, h2⟩
theorem nteN {H : Hp} {a : Addr} (h : H a = none) : NTE (H a) := fun o e => by rw [h] at e; cases e
theorem nteL {H : Hp} {a : Addr} {xs : List V} (h : H a = some (.lst xs)) : NTE (H a) := nte_of h (fun _ z => nomatch z) fun _ _ z => by unfold LamX.CodeO at z; cases z
theorem nteT {H : Hp} {a : Addr} {xs : List (List Key × V)} (h : H a = some (.dT xs)) : NTE (H a) := nte_of h (fun _ z => nomatch z) fun _ _ z => by unfold LamX.CodeO at z; cases z
theorem nteK {H : Hp} {a : Addr} {xs : List (Key × V)} (h : H a = some (.dK xs)) : NTE (H a) := nte_of h (fun _ z => nomatch z) fun _ _ z => by unfold LamX.CodeO at z; cases z
theorem tabS_upd {H : Hp} {a P : Addr} {o : HO} {q : Str} (t : LamX.TabS H P q) (h : NTE (H a)) : LamX.TabS (upd H a o) P q := by
  obtain ⟨ps, h1, h2, h3⟩ := t
  refine ⟨ps, by rw [upd_ne (fun z : P = a => (h _ (by rw [← z]; exact h1)).1 ps rfl)]; exact h1, h2, fun pos cv hc => ?_⟩
  obtain ⟨c, e1, e2⟩ := h3 pos cv hc
  exact ⟨c, e1, by rw [upd_ne (fun z : c = a => (h _ (by rw [← z]; exact e2)).2 _ _ rfl)]; exact e2⟩
/-- the table of the one def that makes a lambda -/
def lamP (K : PySem.W.Frag) : Addr := (He.cT K ("_law_due_right", none)).2
def lamQ : Str := ((("_law_due_right" : Str) ++ ".<locals>.") ++ "<lambda>")
abbrev TabQ (K : PySem.W.Frag) (H : Hp) : Prop := LamX.TabS H (lamP K) lamQ
/-- the table lies outside the data -/
def TabF (K : PySem.W.Frag) (G H : Hp) : Prop := TabQ K H ∧ G (lamP K) = none
theorem TabF.updH {K : PySem.W.Frag} {G H : Hp} {a : Addr} {o : HO} (t : TabF K G H) (h : NTE (H a)) : TabF K G (upd H a o) := ⟨tabS_upd t.1 h, t.2⟩
theorem TabF.updG {K : PySem.W.Frag} {G H : Hp} {a : Addr} {o : HO} (t : TabF K G H) (h : NTE (H a)) : TabF K (upd G a o) H := ⟨t.1, by
  obtain ⟨ps, h1, _, _⟩ := t.1
  rw [upd_ne (fun z : lamP K = a => (h _ (by rw [← z]; exact h1)).1 ps rfl)]
  exact t.2⟩
structure Gr (F : Option Addr) (G H G' H' : Hp) : Prop where
  hq : ∀ a o, F ≠ some a → (∀ ps, o ≠ .tbl ps) → H a = some o → H' a = some o
  tb : ∀ P, LamX.TabS H P lamQ → LamX.TabS H' P lamQ
  th : ∀ a, H a ≠ none → H' a ≠ none
  gs : Sub G G'
  fr : ∀ a o, G' a = some o → G a = some o ∨ H a = none
theorem Gr.hp {F : Option Addr} {G H G' H' : Hp} (g : Gr F G H G' H') (a : Addr) (o : HO) (h : F ≠ some a) (e : H a = some o) (n : ∀ ps, o ≠ .tbl ps := by exact fun _ z => nomatch z) : H' a = some o := g.hq a o h n e
theorem Gr.refl (F : Option Addr) (G H : Hp) : Gr F G H G H := ⟨fun _ _ _ _ h => h, fun _ h => h, fun _ h => h, Sub.refl _, fun _ _ h => .inl h⟩
theorem none_of_th {H H' : Hp} (h : ∀ a, H a ≠ none → H' a ≠ none) {a : Addr} (e : H' a = none) : H a = none := by
  cases q : H a with
  | none => rfl
  | some o => exact absurd e (h a (by rw [q]; exact fun z => nomatch z))
theorem Gr.trans {F : Option Addr} {G H G1 H1 G2 H2 : Hp} (a : Gr F G H G1 H1) (b : Gr F G1 H1 G2 H2) : Gr F G H G2 H2 :=
  ⟨fun x o f n h => b.hq x o f n (a.hq x o f n h), fun P t => b.tb P (a.tb P t), fun x h => b.th x (a.th x h), a.gs.trans b.gs, fun x o h => by
    rcases b.fr x o h with h | h
    · exact a.fr x o h
    · exact .inr (none_of_th a.th h)⟩
theorem TabF.grow {K : PySem.W.Frag} {F : Option Addr} {G H G' H' : Hp} (t : TabF K G H) (g : Gr F G H G' H') : TabF K G' H' := ⟨g.tb _ t.1, by
  obtain ⟨ps, h1, _, _⟩ := t.1
  cases q : G' (lamP K) with
  | none => rfl
  | some o =>
    rcases g.fr _ _ q with z | z
    · rw [t.2] at z; cases z
    · rw [h1] at z; cases z⟩
theorem Gr.any {F : Option Addr} {G H G' H' : Hp} (h : Gr none G H G' H') : Gr F G H G' H' := ⟨fun a o _ n e => h.hq a o (fun z => nomatch z) n e, h.tb, h.th, h.gs, h.fr⟩
theorem sub_th {H H' : Hp} (h : Sub H H') (a : Addr) (e : H a ≠ none) : H' a ≠ none := by
  cases q : H a with
  | none => exact absurd q e
  | some o => rw [h a o q]; exact fun z => nomatch z
/-- a new object of the data -/
theorem Gr.new {F : Option Addr} {G H : Hp} {p : Addr} {o : HO} (hp : H p = none) (s : Sub G H) : Gr F G H (upd G p o) (upd H p o) := by
  refine ⟨fun a u _ _ h => by rw [upd_ne (ne_of_none h hp)]; exact h, fun P t => tabS_upd t (nteN hp), fun a h => ?_, fun a u h => ?_, fun a u h => ?_⟩
  · by_cases e : a = p
    · rw [e, upd_same]; exact fun z => nomatch z
    · rw [upd_ne e]; exact h
  · rw [upd_ne (ne_of_none (s _ _ h) hp)]; exact h
  · by_cases e : a = p
    · rw [e]; exact .inr hp
    · rw [upd_ne e] at h; exact .inl h
/-- a new object that is not of the data -/
theorem Gr.newH {F : Option Addr} {G H : Hp} {p : Addr} {o : HO} (hp : H p = none) : Gr F G H G (upd H p o) := by
  refine ⟨fun a u _ _ h => by rw [upd_ne (ne_of_none h hp)]; exact h, fun P t => tabS_upd t (nteN hp), fun a h => ?_, Sub.refl _, fun a u h => .inl h⟩
  by_cases e : a = p
  · rw [e, upd_same]; exact fun z => nomatch z
  · rw [upd_ne e]; exact h
theorem Sub.new {G H : Hp} {p : Addr} {o : HO} (s : Sub G H) : Sub (upd G p o) (upd H p o) := fun a u h => by
  by_cases e : a = p
  · rw [e, upd_same] at h ⊢; exact h
  · rw [upd_ne e] at h ⊢; exact s _ _ h
theorem Sub.updH {G H : Hp} {p : Addr} {o : HO} (s : Sub G H) (h : G p = none) : Sub G (upd H p o) := fun a u e => by
  rw [upd_ne (ne_of_none e h)]
  exact s _ _ e
theorem sub_none {G H : Hp} {p : Addr} (s : Sub G H) (h : H p = none) : G p = none := by
  cases q : G p with
  | none => rfl
  | some o => rw [s _ _ q] at h; cases h
/-! ### slots, the state -/
/-- what is known of a slot: nothing, data, a list of our own (it may grow), a dict of our own with tuples of ints as keys, the feed -/
inductive Sl where
  | un | da (d : D) | ow (ds : List D) | od (kvs : List (List Int × D)) | fd | ob (a : Addr)
def kI (k : List Int) : List Key := k.map Sum.inl
inductive RpT (K : PySem.W.Frag) (G : Hp) : List (List Key × V) → List (List Int × D) → Prop
  | nil : RpT K G [] []
  | cons {k : List Int} {v : V} {vs : List (List Key × V)} {d : D} {ds : List (List Int × D)} : Rp K G v d → RpT K G vs ds → RpT K G ((kI k, v) :: vs) ((k, d) :: ds)
theorem RpT.mono {K : PySem.W.Frag} {G H : Hp} (s : Sub G H) : ∀ {vs : List (List Key × V)} {ds : List (List Int × D)}, RpT K G vs ds → RpT K H vs ds
  | _, _, .nil => .nil
  | _, _, .cons r t => .cons (Rp.mono s _ _ r) (RpT.mono s t)
/-- the feed: its cells a list of the data, three ints that change -/
def FeedOk (K : PySem.W.Frag) (G H : Hp) (f : Addr) : Prop := ∃ (c : Addr) (ns : List Int) (i l n : Int), G f = none ∧ G c = some (.lst (ns.map V.int)) ∧ ns.length ≤ 1000 ∧
  H f = some (.dK [(Sum.inr "cells", .ref c), (Sum.inr "at", .int i), (Sum.inr "left", .int l), (Sum.inr "count", .int n)]) ∧ TabF K G H
def SlR (K : PySem.W.Frag) (F : Option Addr) (G H : Hp) (w : Addr → Nat) (i : Nat) (o : Option (Option V)) : Sl → Prop
  | .un => True
  | .da d => ∃ v, o = some (some v) ∧ Rp K G v d
  | .ow ds => ∃ a xs, o = some (some (.ref a)) ∧ H a = some (.lst xs) ∧ G a = none ∧ w a = i ∧ F ≠ some a ∧ RpL K G xs ds
  | .od kvs => ∃ a ks, o = some (some (.ref a)) ∧ H a = some (.dT ks) ∧ G a = none ∧ w a = i ∧ F ≠ some a ∧ RpT K G ks kvs
  | .fd => ∃ f, F = some f ∧ o = some (some (.ref f))
  | .ob a => o = some (some (.ref a))
structure Rs (K : PySem.W.Frag) (F : Option Addr) (G H : Hp) (w : Addr → Nat) (σ : L2.St) (ρ : List Sl) : Prop where
  sub : Sub G H
  len : σ.length = ρ.length
  at_ : ∀ i s, ρ[i]? = some s → SlR K F G H w i (σ[i]?) s
  fok : ∀ f, F = some f → FeedOk K G H f
section
variable {K : PySem.W.Frag} {F : Option Addr} {G H G' H' : Hp} {w : Addr → Nat} {σ : L2.St} {ρ : List Sl}
theorem FeedOk.grow {f : Addr} (h : FeedOk K G H f) (g : Gr none G H G' H') : FeedOk K G' H' f := by
  obtain ⟨c, ns, i, l, n, h1, h2, h2', h3, ht⟩ := h
  refine ⟨c, ns, i, l, n, ?_, g.gs _ _ h2, h2', g.hp _ _ (fun z => nomatch z) h3, ht.grow g⟩
  cases q : G' f with
  | none => rfl
  | some o =>
    rcases g.fr _ _ q with z | z
    · rw [h1] at z; cases z
    · rw [h3] at z; cases z
theorem gr_out {a : Addr} {o : HO} (g : Gr F G H G' H') (h1 : G a = none) (h2 : H a = some o) : G' a = none := by
  cases q : G' a with
  | none => rfl
  | some u =>
    rcases g.fr _ _ q with z | z
    · rw [h1] at z; cases z
    · rw [h2] at z; cases z
theorem SlR.grow {i : Nat} {o : Option (Option V)} {s : Sl} (h : SlR K F G H w i o s) (g : Gr F G H G' H') : SlR K F G' H' w i o s := by
  cases s with
  | un => trivial
  | da d => obtain ⟨v, e, r⟩ := h; exact ⟨v, e, Rp.mono g.gs _ _ r⟩
  | ow ds => obtain ⟨a, xs, e, h1, h2, h3, h4, r⟩ := h; exact ⟨a, xs, e, g.hp _ _ h4 h1, gr_out g h2 h1, h3, h4, RpL.mono g.gs _ _ r⟩
  | od kvs => obtain ⟨a, xs, e, h1, h2, h3, h4, r⟩ := h; exact ⟨a, xs, e, g.hp _ _ h4 h1, gr_out g h2 h1, h3, h4, RpT.mono g.gs r⟩
  | fd => exact h
  | ob _ => exact h
/-- growth that leaves the feed -/
theorem Rs.grow0 (R : Rs K F G H w σ ρ) (g : Gr none G H G' H') (s : Sub G' H') : Rs K F G' H' w σ ρ :=
  ⟨s, R.len, fun i sl h => (R.at_ i sl h).grow g.any, fun f e => (R.fok f e).grow g⟩
theorem Rs.grow (R : Rs K F G H w σ ρ) (g : Gr F G H G' H') (s : Sub G' H') (hf : ∀ f, F = some f → FeedOk K G' H' f) : Rs K F G' H' w σ ρ :=
  ⟨s, R.len, fun i sl h => (R.at_ i sl h).grow g, hf⟩
theorem Rs.da (R : Rs K F G H w σ ρ) {i : Nat} {d : D} (h : ρ[i]? = some (.da d)) : ∃ v, σ[i]? = some (some v) ∧ Rp K G v d := R.at_ i _ h
end
/-! ### expressions -/
abbrev WE := List Sl → (D → Prop) → Prop
abbrev WT := List Sl → (Bool → Prop) → Prop
abbrev WA := List Sl → (List D → Prop) → Prop
abbrev WS := List Sl → (List Sl → Prop) → Prop
structure EW (X : Cx) (e : Expr) (te : TE) (W : WE) : Prop where
  pe : PE X e te
  li : ∀ {F G H w σ ρ k Q}, Rs X.K F G H w σ ρ → W ρ k → (∀ v d G' H', Rs X.K F G' H' w σ ρ → Gr F G H G' H' → Rp X.K G' v d → k d → Q v H') → te σ H Q
structure TW (X : Cx) (e : Expr) (tt : TT) (W : WT) : Prop where
  pt : PT X e tt
  li : ∀ {F G H w σ ρ k Q}, Rs X.K F G H w σ ρ → W ρ k → (∀ b G' H', Rs X.K F G' H' w σ ρ → Gr F G H G' H' → k b → Q b H') → tt σ H Q
structure BW (X : Cx) (e : Expr) (tt : TT) (W : WT) : Prop where
  pw : PW X e tt
  li : ∀ {F G H w σ ρ k Q}, Rs X.K F G H w σ ρ → W ρ k → (∀ b G' H', Rs X.K F G' H' w σ ρ → Gr F G H G' H' → k b → Q b H') → tt σ H Q
structure AW (X : Cx) (es : List Expr) (ta : TA) (W : WA) : Prop where
  pa : PA X es ta
  li : ∀ {F G H w σ ρ k Q}, Rs X.K F G H w σ ρ → W ρ k → (∀ vs ds G' H', Rs X.K F G' H' w σ ρ → Gr F G H G' H' → RpL X.K G' vs ds → k ds → Q vs H') → ta σ H Q
/-- arguments of a def: data, or the feed -/
inductive Ar where
  | da (d : D) | fd
def ArR (K : PySem.W.Frag) (F : Option Addr) (G : Hp) (v : V) : Ar → Prop
  | .da d => Rp K G v d
  | .fd => ∃ f, F = some f ∧ v = .ref f
inductive ArL (K : PySem.W.Frag) (F : Option Addr) (G : Hp) : List V → List Ar → Prop
  | nil : ArL K F G [] []
  | cons {v : V} {vs : List V} {d : Ar} {ds : List Ar} : ArR K F G v d → ArL K F G vs ds → ArL K F G (v :: vs) (d :: ds)
theorem ArR.mono {K : PySem.W.Frag} {F : Option Addr} {G G' : Hp} (s : Sub G G') {v : V} : ∀ {d : Ar}, ArR K F G v d → ArR K F G' v d
  | .da _, h => Rp.mono s _ _ h
  | .fd, h => h
theorem ArL.mono {K : PySem.W.Frag} {F : Option Addr} {G G' : Hp} (s : Sub G G') : ∀ {vs : List V} {ds : List Ar}, ArL K F G vs ds → ArL K F G' vs ds
  | _, _, .nil => .nil
  | _, _, .cons r t => .cons (r.mono s) (t.mono s)
structure CW (X : Cx) (es : List Expr) (ta : TA) (W : List Sl → (List Ar → Prop) → Prop) : Prop where
  pa : PA X es ta
  li : ∀ {F G H w σ ρ k Q}, Rs X.K F G H w σ ρ → W ρ k → (∀ vs ds G' H', Rs X.K F G' H' w σ ρ → Gr F G H G' H' → ArL X.K F G' vs ds → k ds → Q vs H') → ta σ H Q
def wVar (i : Nat) : WE := fun ρ k => match ρ[i]? with
  | some (.da d) => k d
  | _ => False
def wC (d : D) : WE := fun _ k => k d
def wOp (f : D → D → Option D) (a b : WE) : WE := fun ρ k => a ρ fun x => b ρ fun y => match f x y with
  | some d => k d
  | none => False
def wUn (f : D → Option D) (a : WE) : WE := fun ρ k => a ρ fun x => match f x with
  | some d => k d
  | none => False
def wCB (f : List D → Option D) (a : WA) : WE := fun ρ k => a ρ fun x => match f x with
  | some d => k d
  | none => False
def wNil : WA := fun _ k => k []
def wCons (a : WE) (r : WA) : WA := fun ρ k => a ρ fun x => r ρ fun xs => k (x :: xs)
def wTup (a : WA) : WE := fun ρ k => a ρ fun xs => xs.length ≤ 1000 ∧ k (.tup xs)
def wLst (a : WA) : WE := fun ρ k => a ρ fun xs => xs.length ≤ 1000 ∧ k (.lst xs)
def wIf (t : WT) (a b : WE) : WE := fun ρ k => t ρ fun c => match c with
  | true => a ρ k
  | false => b ρ k
def blD (a : D) (k : Bool → Prop) : Prop := match a with
  | .bl b => k b
  | _ => False
def wB (a : WE) : WT := fun ρ k => a ρ fun x => blD x k
def wNot (t : WT) : WT := fun ρ k => t ρ fun b => k (!b)
def wAnd (t u : WT) : WT := fun ρ k => t ρ fun c => match c with
  | true => u ρ k
  | false => k false
def wOr (t u : WT) : WT := fun ρ k => t ρ fun c => match c with
  | true => k true
  | false => u ρ k
def wAndV (a b : WE) : WE := fun ρ k => a ρ fun x => blD x fun c => match c with
  | true => b ρ k
  | false => k (.bl false)
def wOrV (a b : WE) : WE := fun ρ k => a ρ fun x => blD x fun c => match c with
  | true => k (.bl true)
  | false => b ρ k
def wNotV (a : WE) : WE := fun ρ k => a ρ fun x => blD x fun c => k (.bl (!c))
theorem line1000 {n : Nat} (h : n ≤ 1000) : n ≤ sizeLine := Nat.le_trans h (by decide)
section
variable {X : Cx} {a b c e : Expr} {es : List Expr} {ta tb tc te : TE} {t u : TT} {tA : TA} {Wa Wb Wc : WE} {T U : WT} {A : WA} {pos : Pos}
theorem ew_var (i : Nat) {x : Str} (hN : X.N[i]? = some x := by rfl) (hv : Vis X.env.scope x := by first | exact Or.inl rfl | exact Or.inr (Or.inl rfl) | exact Or.inr (Or.inr rfl)) (hd : (x == ("__debug__" : Str)) = false := by decide)
    (hcd : (x == ("__classdict__" : Str)) = false := by decide) : EW X (.Name x pos) (tVar i) (wVar i) := by
  refine ⟨pe_var hN hv hd hcd, fun {F G H w σ ρ k Q} R h q => ?_⟩
  unfold wVar at h
  split at h
  · rename_i d e
    obtain ⟨v, e1, r⟩ := R.da e
    exact ⟨v, e1, q v d G H R (Gr.refl ..) r h⟩
  · cases h
theorem ew_c {v : V} {d : D} (h : PE X e (tC v)) (r : ∀ G, Rp X.K G v d) : EW X e (tC v) (wC d) := ⟨h, fun {F G H w σ ρ k Q} R h q => q v d G H R (Gr.refl ..) (r G) h⟩
theorem ew_int {i : Int} {j : Nat} : EW X (.Constant (.int i) j pos) (tC (.int i)) (wC (.int i)) := ew_c pe_int fun _ => .int i
theorem ew_bl {i : Bool} {j : Nat} : EW X (.Constant (.bool i) j pos) (tC (.bl i)) (wC (.bl i)) := ew_c pe_bl fun _ => .bl i
theorem ew_non {j : Nat} : EW X (.Constant .none j pos) (tC .non) (wC .non) := ew_c pe_non fun _ => .non
theorem ew_str {i : Str} {j : Nat} : EW X (.Constant (.str i) j pos) (tC (.str i)) (wC (.str i)) := ew_c pe_str fun _ => .str i
/-- a constant of the module -/
theorem ew_glob {x : Str} {v : V} {u : Value} {d : D} (hg : Gl X x) (hm : X.mg x = some u) (r : RelV v u) (rd : ∀ G, Rp X.K G v d) (hd : (x == ("__debug__" : Str)) = false := by decide) : EW X (.Name x pos) (tC v) (wC d) := ew_c (pe_glob hg hm r hd) rd
/-- an operator, on data -/
def LOp (K : PySem.W.Frag) (r : R2) (f : D → D → Option D) : Prop := ∀ {G H x y dx dy d Q}, Sub G H → Rp K G x dx → Rp K G y dy → f dx dy = some d → (∀ v G' H', Sub G' H' → Gr none G H G' H' → Rp K G' v d → Q v H') → r x y H Q
def LUn (K : PySem.W.Frag) (r : V → Hp → VK → Prop) (f : D → Option D) : Prop := ∀ {G H x dx d Q}, Sub G H → Rp K G x dx → f dx = some d → (∀ v G' H', Sub G' H' → Gr none G H G' H' → Rp K G' v d → Q v H') → r x H Q
def LCall (K : PySem.W.Frag) (r : List V → Hp → VK → Prop) (f : List D → Option D) : Prop := ∀ {G H xs ds d Q}, Sub G H → RpL K G xs ds → f ds = some d → (∀ v G' H', Sub G' H' → Gr none G H G' H' → Rp K G' v d → Q v H') → r xs H Q
theorem li_op {r : R2} {f : D → D → Option D} (lo : LOp X.K r f) (ha : EW X a ta Wa) (hb : EW X b tb Wb) :
    ∀ {F G H w σ ρ k Q}, Rs X.K F G H w σ ρ → wOp f Wa Wb ρ k → (∀ v d G' H', Rs X.K F G' H' w σ ρ → Gr F G H G' H' → Rp X.K G' v d → k d → Q v H') → tOp r ta tb σ H Q := fun R h q =>
  ha.li R h fun x dx G1 H1 R1 g1 rx h1 => hb.li R1 h1 fun y dy G2 H2 R2 g2 ry h2 => by
    split at h2
    · rename_i d e
      exact lo R2.sub (Rp.mono g2.gs _ _ rx) ry e fun v G3 H3 s3 g3 rv => q v d G3 H3 (R2.grow0 g3 s3) ((g1.trans g2).trans g3.any) rv h2
    · cases h2
theorem ew_op {op : Operator} {r : R2} {f : D → D → Option D} (ho : OpR X (binaryOp op) r) (lo : LOp X.K r f) (ha : EW X a ta Wa) (hb : EW X b tb Wb) : EW X (.BinOp a op b pos) (tOp r ta tb) (wOp f Wa Wb) := ⟨pe_op ho ha.pe hb.pe, li_op lo ha hb⟩
theorem ew_cmp {op : CmpOp} {r : R2} {f : D → D → Option D} (ho : OpR X (compareOp op) r) (lo : LOp X.K r f) (ha : EW X a ta Wa) (hb : EW X b tb Wb) (hm : behindInMarks op b = false) : EW X (.Compare a [op] [b] pos) (tOp r ta tb) (wOp f Wa Wb) := ⟨pe_cmpR ho ha.pe hb.pe hm, li_op lo ha hb⟩
theorem ew_ix {r : R2} {f : D → D → Option D} (ho : IxR X r) (lo : LOp X.K r f) (ha : EW X a ta Wa) (hb : EW X b tb Wb) (hs : PlainIx b) : EW X (.Subscript a b pos) (tOp r ta tb) (wOp f Wa Wb) := ⟨pe_ix ho ha.pe hb.pe hs, li_op lo ha hb⟩
theorem ew_un {op : UnaryOp} {r : V → Hp → VK → Prop} {f : D → Option D} (ho : UnR X (unaryOp op) r) (lo : LUn X.K r f) (ha : EW X a ta Wa) : EW X (.UnaryOp op a pos) (tUn r ta) (wUn f Wa) := ⟨pe_un ho ha.pe, fun R h q =>
  ha.li R h fun x dx G1 H1 R1 g1 rx h1 => by
    split at h1
    · rename_i d e
      exact lo R1.sub rx e fun v G3 H3 s3 g3 rv => q v d G3 H3 (R1.grow0 g3 s3) (g1.trans g3.any) rv h1
    · cases h1⟩
theorem li_cb {r : List V → Hp → VK → Prop} {f : List D → Option D} (lo : LCall X.K r f) (ha : AW X es tA A) :
    ∀ {F G H w σ ρ k Q}, Rs X.K F G H w σ ρ → wCB f A ρ k → (∀ v d G' H', Rs X.K F G' H' w σ ρ → Gr F G H G' H' → Rp X.K G' v d → k d → Q v H') → tCB r tA σ H Q := fun R h q =>
  ha.li R h fun x dx G1 H1 R1 g1 rx h1 => by
    split at h1
    · rename_i d e
      exact lo R1.sub rx e fun v G3 H3 s3 g3 rv => q v d G3 H3 (R1.grow0 g3 s3) (g1.trans g3.any) rv h1
    · cases h1
theorem ew_callB {x : Str} {id : String} {r : List V → Hp → VK → Prop} {f : List D → Option D} {p : Pos} (hc : CallR X (.builtin id) r) (lo : LCall X.K r f) (hg : Gl X x) (hm : X.mg x = none) (hv : bootBuiltins x = some (.builtin id)) (ha : AW X (e :: es) tA A) (hn : x ≠ "__name__" := by decide) (hdb : (x == ("__debug__" : Str)) = false := by decide)
    (he : starEach (e :: es) X.env = (false, eval e X.env) :: starEach es X.env := by rfl) (hpl : (backTo pos (starEach es X.env)).any (·.1) = false := by rfl) : EW X (.Call (.Name x p) (e :: es) [] pos) (tCB r tA) (wCB f A) := ⟨pe_callB hc hg hm hv ha.pa hn hdb he hpl, li_cb lo ha⟩
theorem ew_callTy {x : Str} {T : String} {r : List V → Hp → VK → Prop} {f : List D → Option D} {p : Pos} (hc : CallR X (.type T) r) (lo : LCall X.K r f) (hg : Gl X x) (hm : X.mg x = none) (hv : bootBuiltins x = some (.type T)) (ha : AW X (e :: es) tA A) (hn : x ≠ "__name__" := by decide) (hdb : (x == ("__debug__" : Str)) = false := by decide)
    (he : starEach (e :: es) X.env = (false, eval e X.env) :: starEach es X.env := by rfl) (hpl : (backTo pos (starEach es X.env)).any (·.1) = false := by rfl) : EW X (.Call (.Name x p) (e :: es) [] pos) (tCB r tA) (wCB f A) := ⟨pe_callTy hc hg hm hv ha.pa hn hdb he hpl, li_cb lo ha⟩
theorem aw_nil : AW X [] tNil wNil := ⟨pa_nil, fun {F G H w σ ρ k Q} R h q => q [] [] G H R (Gr.refl ..) .nil h⟩
theorem aw_cons (ha : EW X e te Wa) (hr : AW X es tA A) (hs : starEach (e :: es) X.env = (false, eval e X.env) :: starEach es X.env := by rfl) : AW X (e :: es) (tCons te tA) (wCons Wa A) := ⟨pa_cons ha.pe hr.pa hs, fun R h q =>
  ha.li R h fun x dx G1 H1 R1 g1 rx h1 => hr.li R1 h1 fun xs dxs G2 H2 R2 g2 rxs h2 => q _ _ G2 H2 R2 (g1.trans g2) (.cons (Rp.mono g2.gs _ _ rx) rxs) h2⟩
/-- a display, its very object told -/
def tTupF (t : TA) : TE := fun σ H Q => t σ H fun xs H1 => xs.length ≤ sizeLine ∧ ∀ (p : Addr) (o : Obj), H1 p = none → o.dict = none → Q (.ref p) (upd H1 p (.frz o (.tup xs)))
theorem pe_tupF {x1} (h : PA X es tA) : PE X (.Tuple es x1 pos) (tTupF tA) := by
  refine ⟨fun pins s σ H Q I hq => ?_⟩
  refine wpAny_Tuple_spliced (thn (h.run pos pins s σ H _ I hq) fun us s1 ⟨xs, H1, I1, r, z, q⟩ => ⟨by rw [← r.length]; exact z, ?_⟩)
  have hf : H1 s1.heap.objs.size = none := I1.hok.fresh (Nat.le_refl _)
  refine ⟨.ref s1.heap.objs.size, upd H1 s1.heap.objs.size (.frz { cls := .type "tuple", data := .seq us.toArray } (.tup xs)), I1.laid (t' := s1.toks) (fun b u e => Heap.get?_push_of_some _ e) (Nat.le_refl _) ?_, rfl, q _ _ hf rfl⟩
  exact ⟨Heap.get?_push_size _ rfl, z, us, r, ⟨_, Heap.get?_push_size _ rfl, rfl, _, rfl⟩⟩
theorem ew_tup {x1 : Nat} (h : AW X es tA A) : EW X (.Tuple es x1 pos) (tTupF tA) (wTup A) := ⟨pe_tupF h.pa, fun R hw q =>
  h.li R hw fun xs ds G1 H1 R1 g1 r h1 => ⟨by rw [r.length]; exact line1000 h1.1, fun p o hp ho => q _ _ _ _ (R1.grow0 (Gr.new hp R1.sub) (R1.sub.new)) (g1.trans (Gr.new hp R1.sub)) (.tup (.inl ⟨o, upd_same, ho⟩) (RpL.mono (Gr.new (F := none) hp R1.sub).gs _ _ r)) h1.2⟩⟩
/-- a display of ints, to be a key -/
def intsD : List D → Option (List Int)
  | [] => some []
  | .int i :: r => (intsD r).map (i :: ·)
  | _ :: _ => none
theorem intsD_of {K : PySem.W.Frag} {G : Hp} : ∀ {ds : List D} {vs : List V} {ks : List Int}, intsD ds = some ks → RpL K G vs ds → vs = ks.map V.int
  | [], _, ks, e, .nil => by cases e; rfl
  | .int i :: r, _, ks, e, .cons h t => by
    unfold intsD at e
    cases q : intsD r with
    | none => rw [q] at e; cases e
    | some l =>
      rw [q] at e
      cases e
      cases h
      rw [intsD_of q t]
      rfl
def wKey (a : WA) : WE := fun ρ k => a ρ fun xs => xs.length ≤ 1000 ∧ match intsD xs with
  | some ks => k (.key ks)
  | none => False
theorem ew_key {x1 : Nat} (h : AW X es tA A) : EW X (.Tuple es x1 pos) (tTup tA) (wKey A) := ⟨pe_tup h.pa, fun R hw q =>
  h.li R hw fun xs ds G1 H1 R1 g1 r h1 => ⟨by rw [r.length]; exact line1000 h1.1, fun p hp => by
    have h2 := h1.2
    split at h2
    · rename_i ks e
      exact q _ _ _ _ (R1.grow0 (Gr.new hp R1.sub) (R1.sub.new)) (g1.trans (Gr.new hp R1.sub)) (.key (by rw [upd_same, intsD_of e r])) h2
    · cases h2⟩⟩
theorem ew_lst (h : AW X es tA A) : EW X (.List es pos) (tLst tA) (wLst A) := ⟨pe_lst h.pa, fun R hw q =>
  h.li R hw fun xs ds G1 H1 R1 g1 r h1 => ⟨by rw [r.length]; exact line1000 h1.1, fun p hp => q _ _ _ _ (R1.grow0 (Gr.new hp R1.sub) (R1.sub.new)) (g1.trans (Gr.new hp R1.sub)) (.lst upd_same (RpL.mono (Gr.new (F := none) hp R1.sub).gs _ _ r)) h1.2⟩⟩
theorem ew_if (hc : TW X c t T) (ha : EW X a ta Wa) (hb : EW X b tb Wb) : EW X (.IfExp c a b pos) (tIf t ta tb) (wIf T Wa Wb) := ⟨pe_ifExp hc.pt ha.pe hb.pe, fun R hw q =>
  hc.li R hw fun d G1 H1 R1 g1 h1 => by
    cases d with
    | true => exact ha.li R1 h1 fun v d G2 H2 R2 g2 r h2 => q v d G2 H2 R2 (g1.trans g2) r h2
    | false => exact hb.li R1 h1 fun v d G2 H2 R2 g2 r h2 => q v d G2 H2 R2 (g1.trans g2) r h2⟩
theorem rp_bl {K : PySem.W.Frag} {G : Hp} {v : V} {d : D} {k : Bool → Prop} (r : Rp K G v d) (h : blD d k) : ∃ b, v = .bl b ∧ d = .bl b ∧ k b := by
  unfold blD at h
  split at h
  · cases r; exact ⟨_, rfl, rfl, h⟩
  · cases h
theorem tw_val (h : EW X e te Wa) (he : ∀ whole, isTrue e X.env whole = (do let v ← whole; standAt e.pos; holding [v] (truthy v)) := by intro _; rfl) : TW X e (tB te) (wB Wa) := ⟨pt_val h.pe he, fun R hw q =>
  h.li R hw fun v d G1 H1 R1 g1 r h1 => by
    obtain ⟨b, rfl, _, h2⟩ := rp_bl r h1
    exact ⟨b, rfl, q b G1 H1 R1 g1 h2⟩⟩
theorem tw_cmp {op : CmpOp} {r : R2} {f : D → D → Option D} (ho : OpR X (compareOp op) r) (lo : LOp X.K r f) (ha : EW X a ta Wa) (hb : EW X b tb Wb) (hm : behindInMarks op b = false) : TW X (.Compare a [op] [b] pos) (tTest (tOp r ta tb)) (wB (wOp f Wa Wb)) := ⟨pt_cmpR ho ha.pe hb.pe hm, fun R hw q =>
  li_op lo ha hb (k := fun x => blD x _) R hw fun v d G1 H1 R1 g1 r h1 => by
    obtain ⟨b, rfl, _, h2⟩ := rp_bl r h1
    exact ⟨b, rfl, q b G1 H1 R1 g1 h2⟩⟩
theorem tw_not (h : TW X a t T) : TW X (.UnaryOp .Not a pos) (tNot t) (wNot T) := ⟨pt_not h.pt, fun R hw q => h.li R hw fun b G1 H1 R1 g1 h1 => q _ _ _ R1 g1 h1⟩
theorem BW.tw (h : BW X e t T) : TW X e t T := ⟨h.pw.pt, h.li⟩
theorem bw_and1 (h : TW X a t T) : BW X (.BoolOp .And [a] pos) t T := ⟨pw_and1 h.pt, h.li⟩
theorem bw_or1 (h : TW X a t T) : BW X (.BoolOp .Or [a] pos) t T := ⟨pw_or1 h.pt, h.li⟩
theorem bw_and (ha : TW X a t T) (hb : BW X (.BoolOp .And (b :: es) pos) u U) : BW X (.BoolOp .And (a :: b :: es) pos) (tAnd t u) (wAnd T U) := ⟨pw_and ha.pt hb.pw, fun R hw q =>
  ha.li R hw fun d G1 H1 R1 g1 h1 => by
    cases d with
    | true => exact hb.li R1 h1 fun v G2 H2 R2 g2 h2 => q v G2 H2 R2 (g1.trans g2) h2
    | false => exact q _ _ _ R1 g1 h1⟩
theorem bw_or (ha : TW X a t T) (hb : BW X (.BoolOp .Or (b :: es) pos) u U) : BW X (.BoolOp .Or (a :: b :: es) pos) (tOr t u) (wOr T U) := ⟨pw_or ha.pt hb.pw, fun R hw q =>
  ha.li R hw fun d G1 H1 R1 g1 h1 => by
    cases d with
    | false => exact hb.li R1 h1 fun v G2 H2 R2 g2 h2 => q v G2 H2 R2 (g1.trans g2) h2
    | true => exact q _ _ _ R1 g1 h1⟩
theorem ew_one {op} (h : EW X a ta Wa) : EW X (.BoolOp op [a] pos) ta Wa := ⟨pe_one h.pe, h.li⟩
theorem ew_and (ha : EW X a ta Wa) (hb : EW X (.BoolOp .And (b :: es) pos) tb Wb) : EW X (.BoolOp .And (a :: b :: es) pos) (tAndV ta tb) (wAndV Wa Wb) := ⟨pe_and ha.pe hb.pe, fun R hw q =>
  ha.li R hw fun v d G1 H1 R1 g1 r h1 => by
    obtain ⟨c, rfl, _, h2⟩ := rp_bl r h1
    refine ⟨c, rfl, ?_⟩
    cases c with
    | true => exact hb.li R1 h2 fun v d G2 H2 R2 g2 r h2 => q v d G2 H2 R2 (g1.trans g2) r h2
    | false => exact q _ _ _ _ R1 g1 (.bl false) h2⟩
theorem ew_or (ha : EW X a ta Wa) (hb : EW X (.BoolOp .Or (b :: es) pos) tb Wb) : EW X (.BoolOp .Or (a :: b :: es) pos) (tOrV ta tb) (wOrV Wa Wb) := ⟨pe_or ha.pe hb.pe, fun R hw q =>
  ha.li R hw fun v d G1 H1 R1 g1 r h1 => by
    obtain ⟨c, rfl, _, h2⟩ := rp_bl r h1
    refine ⟨c, rfl, ?_⟩
    cases c with
    | false => exact hb.li R1 h2 fun v d G2 H2 R2 g2 r h2 => q v d G2 H2 R2 (g1.trans g2) r h2
    | true => exact q _ _ _ _ R1 g1 (.bl true) h2⟩
theorem ew_not (ha : EW X a ta Wa) : EW X (.UnaryOp .Not a pos) (tNotV ta) (wNotV Wa) := ⟨pe_not ha.pe, fun R hw q =>
  ha.li R hw fun v d G1 H1 R1 g1 r h1 => by
    obtain ⟨c, rfl, _, h2⟩ := rp_bl r h1
    exact ⟨c, rfl, q _ _ _ _ R1 g1 (.bl _) h2⟩⟩
end
end Wd
set_option maxRecDepth 100000
set_option maxHeartbeats 2000000
namespace Wd
open PySem PySem.Spec PyProof.Rows L2
/-! ### statements -/
structure RE (K : PySem.W.Frag) (F : Option Addr) (G0 H0 G H : Hp) (w : Addr → Nat) (σ : L2.St) (ρ : List Sl) : Prop where
  rs : Rs K F G H w σ ρ
  gr : Gr F G0 H0 G H
  own : ∀ (i : Nat) (a : Addr), ((∃ ds, ρ[i]? = some (.ow ds)) ∨ ∃ kvs, ρ[i]? = some (.od kvs)) → σ[i]? = some (some (.ref a)) → H0 a = none
structure EnW where
  nx : List Sl → Prop
  rt : D → Prop
  bk : List Sl → Prop := fun _ => False
  ct : List Sl → Prop := fun _ => False
structure EnR (K : PySem.W.Frag) (F : Option Addr) (G0 H0 : Hp) (D : EnW) (E : Ends) : Prop where
  nx : ∀ w G H σ ρ, RE K F G0 H0 G H w σ ρ → D.nx ρ → E.nx σ H
  rt : ∀ v d G H, Gr F G0 H0 G H → Sub G H → (∀ f, F = some f → FeedOk K G H f) → Rp K G v d → D.rt d → E.rt v H
  bk : ∀ w G H σ ρ, RE K F G0 H0 G H w σ ρ → D.bk ρ → E.bk σ H
  ct : ∀ w G H σ ρ, RE K F G0 H0 G H w σ ρ → D.ct ρ → E.ct σ H
abbrev WSt := EnW → List Sl → Prop
/-- a reading does what W says -/
def SLi (K : PySem.W.Frag) (ts : TS) (T : WSt) : Prop := ∀ {F G0 H0 G H w σ ρ D E}, RE K F G0 H0 G H w σ ρ → T D ρ → EnR K F G0 H0 D E → ts E σ H
structure SW (X : Cx) (st : Stmt) (ts : TS) (T : WSt) : Prop where
  ps : PS X st ts
  li : SLi X.K ts T
structure SsW (X : Cx) (st : List Stmt) (ts : TS) (T : WSt) : Prop where
  ps : PSs X st ts
  li : SLi X.K ts T
section
variable {K : PySem.W.Frag} {F : Option Addr} {G0 H0 G H G' H' : Hp} {w : Addr → Nat} {σ σ' : L2.St} {ρ ρ' : List Sl}
theorem RE.grow (R : RE K F G0 H0 G H w σ ρ) (g : Gr F G H G' H') (R' : Rs K F G' H' w σ ρ) : RE K F G0 H0 G' H' w σ ρ := ⟨R', R.gr.trans g, R.own⟩
/-- slots have taken data -/
structure Took (ix : List Nat) (σ : L2.St) (ρ : List Sl) (σ' : L2.St) (ρ' : List Sl) : Prop where
  each : ∀ j : Nat, (ρ'[j]? = ρ[j]? ∧ σ'[j]? = σ[j]?) ∨ ∃ d, ρ'[j]? = some (.da d)
  out : ∀ j : Nat, j ∉ ix → σ'[j]? = σ[j]?
  len : σ'.length = σ.length
theorem Took.refl {ix : List Nat} : Took ix σ ρ σ ρ := ⟨fun _ => .inl ⟨rfl, rfl⟩, fun _ _ => rfl, rfl⟩
theorem Took.trans {ix : List Nat} {σ1 σ2 : L2.St} {ρ1 ρ2 : List Sl} (a : Took ix σ ρ σ1 ρ1) (b : Took ix σ1 ρ1 σ2 ρ2) : Took ix σ ρ σ2 ρ2 := by
  refine ⟨fun j => ?_, fun j h => (b.out j h).trans (a.out j h), b.len.trans a.len⟩
  rcases b.each j with ⟨h1, h2⟩ | h
  · rcases a.each j with ⟨h3, h4⟩ | ⟨d, h⟩
    · exact .inl ⟨h1.trans h3, h2.trans h4⟩
    · exact .inr ⟨d, h1.trans h⟩
  · exact .inr h
theorem Took.mono {ix iy : List Nat} (a : Took ix σ ρ σ' ρ') (h : ∀ j ∈ ix, j ∈ iy) : Took iy σ ρ σ' ρ' := ⟨a.each, fun j hj => a.out j fun z => hj (h j z), a.len⟩
theorem RE.took {ix : List Nat} (R : RE K F G0 H0 G H w σ ρ) (R' : Rs K F G H w σ' ρ') (t : Took ix σ ρ σ' ρ') : RE K F G0 H0 G H w σ' ρ' := by
  refine ⟨R', R.gr, fun i a h e => ?_⟩
  rcases t.each i with ⟨h1, h2⟩ | ⟨d, h1⟩
  · exact R.own i a (by rw [← h1]; exact h) (by rw [← h2]; exact e)
  · rcases h with ⟨_, h⟩ | ⟨_, h⟩ <;> (rw [h1] at h; cases h)
theorem Rs.set (R : Rs K F G H w σ ρ) {i : Nat} {v : V} {d : D} (r : Rp K G v d) : Rs K F G H w (σ.set i (some v)) (ρ.set i (.da d)) := by
  refine ⟨R.sub, by rw [List.length_set, List.length_set, R.len], fun j s h => ?_, R.fok⟩
  by_cases e : i = j
  · subst e
    by_cases hl : i < ρ.length
    · rw [List.getElem?_set_self hl] at h
      cases h
      exact ⟨v, by rw [List.getElem?_set_self (by rw [R.len]; exact hl)], r⟩
    · rw [List.getElem?_eq_none (by rw [List.length_set]; omega)] at h
      cases h
  · rw [List.getElem?_set_ne e] at h ⊢
    exact R.at_ j s h
theorem took_set (i : Nat) (v : V) (d : D) (hl : σ.length = ρ.length) : Took [i] σ ρ (σ.set i (some v)) (ρ.set i (.da d)) := by
  refine ⟨fun j => ?_, fun j h => ?_, List.length_set⟩
  · by_cases e : i = j
    · subst e
      by_cases hl : i < ρ.length
      · exact .inr ⟨d, List.getElem?_set_self hl⟩
      · rw [List.set_eq_of_length_le (by omega), List.set_eq_of_length_le (by omega)]
        exact .inl ⟨rfl, rfl⟩
    · rw [List.getElem?_set_ne e, List.getElem?_set_ne e]
      exact .inl ⟨rfl, rfl⟩
  · exact List.getElem?_set_ne (fun e => h (by simp [e]))
theorem EnR.with_nx {D : EnW} {E : Ends} {n : List Sl → Prop} {m : L2.St → Hp → Prop} (R : EnR K F G0 H0 D E) (h : ∀ w G H σ ρ, RE K F G0 H0 G H w σ ρ → n ρ → m σ H) : EnR K F G0 H0 { D with nx := n } { E with nx := m } := ⟨h, R.rt, R.bk, R.ct⟩
end
/-! ### targets -/
abbrev WG := D → List Sl → (List Sl → Prop) → Prop
structure GW (X : Cx) (tg : Expr) (g : TG) (W : WG) (ix : List Nat) : Prop where
  pg : PG X tg g
  li : ∀ {F G H w σ ρ v d k Q}, Rs X.K F G H w σ ρ → Rp X.K G v d → W d ρ k → (∀ σ' ρ', Rs X.K F G H w σ' ρ' → Took ix σ ρ σ' ρ' → k ρ' → Q σ' H) → g v σ H Q
structure GsW (X : Cx) (ts : List Expr) (g : TGs) (W : List D → List Sl → (List Sl → Prop) → Prop) (ix : List Nat) : Prop where
  pg : PGs X ts g
  li : ∀ {F G H w σ ρ vs ds k Q}, Rs X.K F G H w σ ρ → RpL X.K G vs ds → W ds ρ k → (∀ σ' ρ', Rs X.K F G H w σ' ρ' → Took ix σ ρ σ' ρ' → k ρ' → Q σ' H) → g vs σ H Q
def gwName (i : Nat) : WG := fun d ρ k => k (ρ.set i (.da d))
def gwNil : List D → List Sl → (List Sl → Prop) → Prop := fun ds ρ k => match ds with
  | [] => k ρ
  | _ => False
def gwCons (g : WG) (r : List D → List Sl → (List Sl → Prop) → Prop) : List D → List Sl → (List Sl → Prop) → Prop := fun ds ρ k => match ds with
  | d :: ds => g d ρ fun ρ' => r ds ρ' k
  | [] => False
def gwTup (r : List D → List Sl → (List Sl → Prop) → Prop) (n : Nat) : WG := fun d ρ k => match d with
  | .tup ds => ds.length = n ∧ r ds ρ k
  | .wtp ds => ds.length = n ∧ r ds ρ k
  | _ => False
section
variable {X : Cx} {pos : Pos}
theorem gw_name (i : Nat) {x : Str} (hN : X.N.Nodup) (hi : X.N[i]? = some x := by rfl) (hx : Loc X.env.scope x := by first | exact Or.inl rfl | exact Or.inr rfl) (hf : X.fn x = true ∨ X.env.scope.names.lookup x = some .local := by first | exact .inl rfl | exact .inr rfl | assumption) : GW X (.Name x pos) (gName i) (gwName i) [i] :=
  ⟨pg_name hN hi hx hf, fun R r h q => q _ _ (R.set r) (took_set i _ _ R.len) h⟩
theorem gsw_nil : GsW X [] gNil gwNil [] := ⟨pgs_nil, fun {F G H w σ ρ vs ds k Q} R r h q => by
  cases ds with
  | nil => cases r; exact ⟨rfl, q _ _ R Took.refl h⟩
  | cons _ _ => cases h⟩
theorem gsw_cons {e : Expr} {es : List Expr} {t : TG} {u : TGs} {g : WG} {r : List D → List Sl → (List Sl → Prop) → Prop} {ix iy : List Nat} (h1 : GW X e t g ix) (h2 : GsW X es u r iy) (hs : PGs X (e :: es) (gCons t u)) : GsW X (e :: es) (gCons t u) (gwCons g r) (ix ++ iy) := ⟨hs, fun {F G H w σ ρ vs ds k Q} R rr h q => by
  cases ds with
  | nil => cases h
  | cons d ds =>
    cases rr with
    | cons r1 r2 =>
      exact ⟨_, _, rfl, h1.li R r1 h fun σ' ρ' R' t' h' => h2.li R' r2 h' fun σ2 ρ2 R2 t2 h2 => q σ2 ρ2 R2 ((t'.mono fun j hj => List.mem_append_left _ hj).trans (t2.mono fun j hj => List.mem_append_right _ hj)) h2⟩⟩
theorem gw_tup {es : List Expr} {kk : Nat} {u : TGs} {r : List D → List Sl → (List Sl → Prop) → Prop} {n : Nat} {ix : List Nat} (h : GsW X es u r ix) (hp : PG X (.Tuple es kk pos) (gTup X.K n u)) : GW X (.Tuple es kk pos) (gTup X.K n u) (gwTup r n) ix := ⟨hp, fun {F G H w σ ρ v d k Q} R rr hw q => by
  cases d with
  | tup ds =>
    cases rr with
    | tup hs hr => exact ⟨_, _, rfl, R.sub.sqT hs.sq, by rw [hr.length]; exact hw.1, h.li R hr hw.2 q⟩
  | wtp ds =>
    cases rr with
    | wtp hs hr => exact ⟨_, _, rfl, R.sub.sqT hs, by rw [hr.length]; exact hw.1, h.li R hr hw.2 q⟩
  | _ => cases hw⟩
end
/-! ### small statements -/
def wSeq (t u : WSt) : WSt := fun D ρ => t { D with nx := u D } ρ
def wNext : WSt := fun D ρ => D.nx ρ
def wRet (W : WE) : WSt := fun D ρ => W ρ D.rt
def wRetO (i : Nat) : WSt := fun D ρ => match ρ[i]? with
  | some (.ow ds) => D.rt (.lst ds)
  | _ => False
def wAsg (W : WE) (g : WG) : WSt := fun D ρ => W ρ fun d => g d ρ D.nx
def wIfS (t : WT) (a b : WSt) : WSt := fun D ρ => t ρ fun c => match c with
  | true => a D ρ
  | false => b D ρ
def wBreak : WSt := fun D ρ => D.bk ρ
def wCont : WSt := fun D ρ => D.ct ρ
def wNever : WSt := fun _ _ => False
def wExp (W : WE) : WSt := fun D ρ => W ρ fun _ => D.nx ρ
section
variable {X : Cx} {st : Stmt} {rest : List Stmt} {t u : TS} {T U : WSt} {e tg : Expr} {te : TE} {g : TG} {W : WE} {Wg : WG} {ix : List Nat} {pos : Pos} {K : PySem.W.Frag}
theorem ssw_nil : SsW X [] tNext wNext := ⟨pss_nil, fun R h q => q.nx _ _ _ _ _ R h⟩
theorem ssw_cons (h1 : SW X st t T) (h2 : SsW X rest u U) : SsW X (st :: rest) (tSeq t u) (wSeq T U) := ⟨pss_cons h1.ps h2.ps, fun R h q => h1.li R h (q.with_nx fun _ _ _ _ _ R1 h1 => h2.li R1 h1 q)⟩
theorem ssw_one (h1 : SW X st t T) : SsW X [st] t T := ⟨pss_one h1.ps, h1.li⟩
theorem sw_ret (h : EW X e te W) : SW X (.Return (some e) pos) (tRet te) (wRet W) := ⟨ps_ret h.pe, fun R hw q => h.li R.rs hw fun v d G' H' R' g' r h => q.rt v d G' H' (R.gr.trans g') R'.sub R'.fok r h⟩
theorem li_asg (he : ∀ {F G H w σ ρ k Q}, Rs K F G H w σ ρ → W ρ k → (∀ v d G' H', Rs K F G' H' w σ ρ → Gr F G H G' H' → Rp K G' v d → k d → Q v H') → te σ H Q)
    (hg : ∀ {F G H w σ ρ v d k Q}, Rs K F G H w σ ρ → Rp K G v d → Wg d ρ k → (∀ σ' ρ', Rs K F G H w σ' ρ' → Took ix σ ρ σ' ρ' → k ρ' → Q σ' H) → g v σ H Q) : SLi K (tAsg te g) (wAsg W Wg) := fun R hw q =>
  he R.rs hw fun v d G' H' R' g' r h => hg R' r h fun σ' ρ' R2 t h2 => q.nx _ _ _ _ _ ((R.grow g' R').took R2 t) h2
theorem sw_asg (he : EW X e te W) (hg : GW X tg g Wg ix) (hp : PS X (.Assign [tg] e pos) (tAsg te g)) : SW X (.Assign [tg] e pos) (tAsg te g) (wAsg W Wg) := ⟨hp, li_asg he.li hg.li⟩
theorem sw_set (i : Nat) {x : Str} {pos' : Pos} (hN : X.N.Nodup) (he : EW X e te W) (hi : X.N[i]? = some x := by rfl) (hx : Loc X.env.scope x := by first | exact Or.inl rfl | exact Or.inr rfl) (hs : swapsWith e (some (.Name x pos')) pos.line X.env = pure false := by rfl) (hf : X.fn x = true ∨ X.env.scope.names.lookup x = some .local := by first | exact .inl rfl | exact .inr rfl | assumption) :
    SW X (.Assign [.Name x pos'] e pos) (tAsg te (gName i)) (wAsg W (gwName i)) := ⟨ps_set hN hi hx he.pe hs hf, li_asg (ix := [i]) he.li fun R r h q => q _ _ (R.set r) (took_set i _ _ R.len) h⟩
theorem sw_if {c : Expr} {tc : TT} {Tc : WT} {a b : List Stmt} (hc : TW X c tc Tc) (ha : SsW X a t T) (hb : SsW X b u U) : SW X (.If c a b pos) (tIfS tc t u) (wIfS Tc T U) := ⟨ps_if hc.pt ha.ps hb.ps, fun R hw q =>
  hc.li R.rs hw fun c G' H' R' g' h => by
    cases c with
    | true => exact ha.li (R.grow g' R') h q
    | false => exact hb.li (R.grow g' R') h q⟩
theorem sw_break : SW X (.Break pos) tBreak wBreak := ⟨ps_break, fun R h q => q.bk _ _ _ _ _ R h⟩
theorem sw_pass : SW X (.Pass pos) tNext wNext := ⟨ps_pass, fun R h q => q.nx _ _ _ _ _ R h⟩
theorem sw_never : SW X st tNever wNever := ⟨ps_never, fun _ h _ => False.elim h⟩
theorem ssw_never : SsW X rest tNever wNever := ⟨pss_never, fun _ h _ => False.elim h⟩
theorem sw_expr (he : EW X e te W) (hs : swapsWith e none pos.line X.env = pure false := by rfl) : SW X (.Expr e pos) (tDrop te) (wExp W) := ⟨ps_expr he.pe hs, fun R hw q => he.li R.rs hw fun v d G' H' R' g' r h => q.nx _ _ _ _ _ (R.grow g' R') h⟩
end
/-! ### defs -/
theorem ArL.len {K : PySem.W.Frag} {F : Option Addr} {G : Hp} : ∀ {vs : List V} {ds : List Ar}, ArL K F G vs ds → vs.length = ds.length
  | _, _, .nil => rfl
  | _, _, .cons _ t => by rw [List.length_cons, List.length_cons, ArL.len t]
abbrev WF := List Ar → (D → Prop) → Prop
def spW (K : PySem.W.Frag) (W : WF) : Sp := fun vs H Q _ => ∃ F G as k, Sub G H ∧ (∀ f, F = some f → FeedOk K G H f) ∧ ArL K F G vs as ∧ W as k ∧
  ∀ v d G' H', Gr F G H G' H' → Sub G' H' → (∀ f, F = some f → FeedOk K G' H' f) → Rp K G' v d → k d → Q v H'
def Ar.sl : Ar → Sl
  | .da d => .da d
  | .fd => .fd
def startW (n : Nat) (as : List Ar) : List Sl := as.map Ar.sl ++ List.replicate (n - as.length) .un
theorem ArL.getV {K : PySem.W.Frag} {F : Option Addr} {G : Hp} : ∀ {vs : List V} {ds : List Ar} {i : Nat} {d : Ar}, ArL K F G vs ds → ds[i]? = some d → ∃ v, vs[i]? = some v ∧ ArR K F G v d
  | _, _, _, _, .nil, e => by simp at e
  | _, _, 0, _, .cons r _, e => by simp at e; subst e; exact ⟨_, rfl, r⟩
  | _, _, i + 1, d, .cons _ t, e => by
    obtain ⟨v, h1, h2⟩ := ArL.getV (i := i) (d := d) t (by simpa using e)
    exact ⟨v, by simpa using h1, h2⟩
theorem rs_start {K : PySem.W.Frag} {F : Option Addr} {G H : Hp} {N : List Str} {vs : List V} {as : List Ar} (s : Sub G H) (f : ∀ f, F = some f → FeedOk K G H f) (r : ArL K F G vs as) : Rs K F G H (fun _ => 0) (L2.start N vs) (startW N.length as) := by
  have hl := r.len
  refine ⟨s, by unfold L2.start startW; simp [hl], fun i sl h => ?_, f⟩
  unfold startW at h
  unfold L2.start
  by_cases hi : i < as.length
  · rw [List.getElem?_append_left (by simpa using hi), List.getElem?_map] at h
    rw [List.getElem?_append_left (by rw [List.length_map, hl]; exact hi), List.getElem?_map]
    cases e : as[i]? with
    | none => rw [e] at h; cases h
    | some a =>
      rw [e] at h
      obtain ⟨v, e1, r1⟩ := r.getV e
      rw [e1]
      cases h
      cases a with
      | da d => exact ⟨v, rfl, r1⟩
      | fd => obtain ⟨f, e2, e3⟩ := r1; exact ⟨f, e2, by rw [e3]; rfl⟩
  · rw [List.getElem?_append_right (by simpa using hi), List.getElem?_replicate] at h
    split at h
    · cases h; trivial
    · cases h
theorem startW_un {n : Nat} {as : List Ar} {i : Nat} : ¬ ((∃ ds, (startW n as)[i]? = some (.ow ds)) ∨ ∃ kvs, (startW n as)[i]? = some (.od kvs)) := by
  unfold startW
  by_cases hi : i < as.length
  · rw [List.getElem?_append_left (by simpa using hi), List.getElem?_map]
    cases e : as[i]? with
    | none => simp
    | some a => cases a <;> simp [Ar.sl]
  · rw [List.getElem?_append_right (by simpa using hi), List.getElem?_replicate]
    split <;> simp
section
variable {P : Program} {w : World} {K : PySem.W.Frag} {mg : Str → Option Value} {base : Heap}
theorem FunD.okW {x qual : Str} {params : Arguments} {body : List Stmt} {scope : Scope} {f : Addr} {fd : FuncData} {N ps : List Str} {k : Nat} {Wf : WF} (Fd : FunD K x qual params body scope [] [] f fd) (S : FnScope N ps scope)
    (len : ∀ as kk, Wf as kk → as.length = ps.length)
    (hb : ∀ (cdv : Value) (A : Around) (outer : List Env) (s : Shared) (H : Hp) (E : XK), Room k (A.deeper (envOfC qual scope s.heap.objs.size f cdv)) →
      ∃ t T, SsW (cxOf CX0 P w K mg base N qual scope f cdv A outer s H E).nox body t T ∧ ∀ as kk, Wf as kk → T { nx := fun _ => kk .non, rt := kk } (startW N.length as)) : FnOk P w K mg base CX0 (k + 1) f fd ps (spW K Wf) := by
  refine FunD.ok Fd S (fun vs H Q E ⟨F, G, as, kk, _, _, r, h, _⟩ => by rw [r.len]; exact len as kk h) (fun cdv A outer s H vs Q E hr hsp => ?_)
  obtain ⟨F, G, as, kk, hsub, hf, r, h, q⟩ := hsp
  obtain ⟨t, T, hS, hT⟩ := hb cdv A outer s H E hr
  refine ⟨t, hS.ps.nox, ?_⟩
  refine @SsW.li _ _ _ _ hS F G H G H _ _ _ _ _ ⟨rs_start hsub hf r, Gr.refl .., fun i a h => absurd h startW_un⟩ (hT as kk h) ⟨fun w G' H' σ ρ R hk => ?_, fun v d G' H' g s2 f2 rv hk => q v d G' H' g s2 f2 rv hk, fun _ _ _ _ _ _ hk => False.elim hk, fun _ _ _ _ _ _ hk => False.elim hk⟩
  exact q .non .non G' H' R.gr R.rs.sub R.rs.fok .non hk
end
/-- a def of the module that keeps a promise over data -/
structure Ok (P : Program) (w : World) (K : PySem.W.Frag) (mg : Str → Option Value) (base : Heap) (k : Nat) (x : Str) (ps : List Str) (W : WF) : Prop where
  ok : ∃ fd, FnOk P w K mg base CX0 k (He.ga K x) fd ps (spW K W) ∧ Binds K fd ps []
  mg : mg x = some (.ref (He.ga K x))
  kp : PySem.W.keepIn K (.ref (He.ga K x)) = true
def wCall (W : WF) (A : List Sl → (List Ar → Prop) → Prop) : WE := fun ρ k => A ρ fun as => W as k
def wcNil : List Sl → (List Ar → Prop) → Prop := fun _ k => k []
def wcCons (a : WE) (r : List Sl → (List Ar → Prop) → Prop) : List Sl → (List Ar → Prop) → Prop := fun ρ k => a ρ fun x => r ρ fun xs => k (.da x :: xs)
def wcFeed (i : Nat) (r : List Sl → (List Ar → Prop) → Prop) : List Sl → (List Ar → Prop) → Prop := fun ρ k => match ρ[i]? with
  | some .fd => r ρ fun xs => k (.fd :: xs)
  | _ => False
section
variable {X : Cx} {e : Expr} {es : List Expr} {te : TE} {tA : TA} {W : WE} {A : List Sl → (List Ar → Prop) → Prop} {pos : Pos}
theorem cw_nil : CW X [] tNil wcNil := ⟨pa_nil, fun {F G H w σ ρ k Q} R h q => q [] [] G H R (Gr.refl ..) .nil h⟩
theorem cw_cons (ha : EW X e te W) (hr : CW X es tA A) (hs : starEach (e :: es) X.env = (false, eval e X.env) :: starEach es X.env := by rfl) : CW X (e :: es) (tCons te tA) (wcCons W A) := ⟨pa_cons ha.pe hr.pa hs, fun R h q =>
  ha.li R h fun x dx G1 H1 R1 g1 rx h1 => hr.li R1 h1 fun xs dxs G2 H2 R2 g2 rxs h2 => q _ _ G2 H2 R2 (g1.trans g2) (.cons (d := .da dx) (Rp.mono g2.gs _ _ rx) rxs) h2⟩
theorem cw_feed (i : Nat) {x : Str} {p : Pos} (hr : CW X es tA A) (hN : X.N[i]? = some x := by rfl) (hv : Vis X.env.scope x := by first | exact Or.inl rfl | exact Or.inr (Or.inl rfl) | exact Or.inr (Or.inr rfl)) (hd : (x == ("__debug__" : Str)) = false := by decide)
    (hcd : (x == ("__classdict__" : Str)) = false := by decide) (hs : starEach ((.Name x p) :: es) X.env = (false, eval (.Name x p) X.env) :: starEach es X.env := by rfl) : CW X ((.Name x p) :: es) (tCons (tVar i) tA) (wcFeed i A) := ⟨pa_cons (pe_var hN hv hd hcd) hr.pa hs, fun {F G H w σ ρ k Q} R h q => by
  unfold wcFeed at h
  split at h
  · rename_i e1
    obtain ⟨f, e2, e3⟩ := R.at_ i _ e1
    exact ⟨_, e3, hr.li R h fun xs dxs G2 H2 R2 g2 rxs h2 => q _ _ G2 H2 R2 g2 (.cons (d := .fd) ⟨f, e2, rfl⟩ rxs) h2⟩
  · cases h⟩
theorem ew_call {k : Nat} {x : Str} {ps : List Str} {Wf : WF} {p : Pos} (F : Ok X.prog X.w X.K X.mg X.base k x ps Wf) (hr : Room k X.A) (ha : CW X (e :: es) tA A) (hg : Gl X x := by rfl) (hd : (x == ("__debug__" : Str)) = false := by decide)
    (he : starEach (e :: es) X.env = (false, eval e X.env) :: starEach es X.env := by rfl) (hpl : (backTo pos (starEach es X.env)).any (·.1) = false := by rfl) : EW X (.Call (.Name x p) (e :: es) [] pos) (tCall (spW X.K Wf) [] E0 tA) (wCall Wf A) := by
  obtain ⟨fd, h1, h2⟩ := F.ok
  refine ⟨pe_call h1 hr hg F.mg F.kp h2 .nil pass0 ha.pa hd he hpl, fun R h q => ha.li R h fun vs as G1 H1 R1 g1 r h1 => ?_⟩
  rw [List.append_nil]
  exact ⟨_, G1, as, _, R1.sub, R1.fok, r, h1, fun v d G2 H2 g2 s2 f2 rv hk => q v d G2 H2 (R1.grow g2 s2 f2) (g1.trans g2) rv hk⟩
end
end Wd
set_option maxRecDepth 100000
set_option maxHeartbeats 2000000
namespace Wd
open PySem PySem.Spec PyProof.Rows L2
/-! ### what is walked -/
/-- J walks the data ds, while the part G1 stands -/
def Wlk (K : PySem.W.Frag) (J : It) (G1 : Hp) (ds : List D) : Prop := ∀ (G H : Hp) (i : Nat), Sub G1 G → Sub G H →
  (ds.length ≤ i → J.stop i H) ∧ ∀ d, ds[i]? = some d → J.go i H ∧ ∀ x H', J.yld i H x H' → ∃ G', Sub G' H' ∧ Gr none G H G' H' ∧ Rp K G' x d
structure IW (X : Cx) (tg iter : Expr) (wi : TI) (W : WA) : Prop where
  pi : PI X tg iter wi
  li : ∀ {F G H w σ ρ k R}, Rs X.K F G H w σ ρ → W ρ k → (∀ J ds G' H', Rs X.K F G' H' w σ ρ → Gr F G H G' H' → Wlk X.K J G' ds → k ds → R J H') → wi σ H R
/-- a list, a tuple that is walked -/
def wiL (W : WE) : WA := fun ρ k => W ρ fun d => match d with
  | .lst ds => k ds
  | _ => False
def wiT (W : WE) : WA := fun ρ k => W ρ fun d => match d with
  | .tup ds => k ds
  | _ => False
def ilist (a : Int) : Nat → List D
  | 0 => []
  | n + 1 => .int a :: ilist (a + 1) n
def wiR1 (A : WA) : WA := fun ρ k => A ρ fun ds => match ds with
  | [.int n] => (-(2 ^ 62) ≤ n ∧ n < 2 ^ 62) ∧ k (ilist 0 n.toNat)
  | _ => False
def wiR2 (A : WA) : WA := fun ρ k => A ρ fun ds => match ds with
  | [.int a, .int b] => (-(2 ^ 62) ≤ a ∧ a < 2 ^ 62 ∧ -(2 ^ 62) ≤ b ∧ b < 2 ^ 62) ∧ k (ilist a (b - a).toNat)
  | _ => False
theorem ilist_length (a : Int) : ∀ n, (ilist a n).length = n
  | 0 => rfl
  | n + 1 => by unfold ilist; rw [List.length_cons, ilist_length (a + 1) n]
theorem ilist_get (a : Int) : ∀ (n i : Nat), i < n → (ilist a n)[i]? = some (.int (a + i))
  | n + 1, 0, _ => by unfold ilist; simp
  | n + 1, i + 1, h => by
    unfold ilist
    rw [List.getElem?_cons_succ, ilist_get (a + 1) n i (by omega)]
    congr 2
    push_cast
    omega
theorem wlk_list {K : PySem.W.Frag} {a : Addr} {xs : List V} {ds : List D} {G : Hp} (h : SqL K G a xs) (r : RpL K G xs ds) : Wlk K (Itl K a) G ds := fun G2 H i s1 s2 => by
  have q : SqL K H a xs := (s1.trans s2).sqL h
  refine ⟨fun hl => ⟨xs, q, by rw [r.length]; exact hl⟩, fun d hd => ?_⟩
  obtain ⟨v, e, rv⟩ := r.get hd
  refine ⟨⟨xs, v, q, e⟩, fun x H' y => ?_⟩
  obtain ⟨e2, y⟩ := y
  subst e2
  have e3 := y xs q
  rw [e] at e3
  cases e3
  exact ⟨G2, s2, Gr.refl .., Rp.mono s1 _ _ rv⟩
theorem wlk_tup {K : PySem.W.Frag} {a : Addr} {xs : List V} {ds : List D} {G : Hp} (h : SqT K G a xs) (r : RpL K G xs ds) : Wlk K (Itt K a) G ds := fun G2 H i s1 s2 => by
  have q : SqT K H a xs := (s1.trans s2).sqT h
  refine ⟨fun hl => ⟨xs, q, by rw [r.length]; exact hl⟩, fun d hd => ?_⟩
  obtain ⟨v, e, rv⟩ := r.get hd
  refine ⟨⟨xs, v, q, e⟩, fun x H' y => ?_⟩
  obtain ⟨e2, y⟩ := y
  subst e2
  have e3 := y xs q
  rw [e] at e3
  cases e3
  exact ⟨G2, s2, Gr.refl .., Rp.mono s1 _ _ rv⟩
theorem wlk_range {K : PySem.W.Frag} {a : Int} {n : Nat} {G : Hp} : Wlk K (Itr a n) G (ilist a n) := fun G2 H i s1 s2 => by
  refine ⟨fun hl => by rw [ilist_length] at hl; exact hl, fun d hd => ?_⟩
  have hi : i < n := by
    have z := (List.getElem?_eq_some_iff.mp hd).1
    rw [ilist_length] at z
    exact z
  rw [ilist_get a n i hi] at hd
  cases hd
  refine ⟨hi, fun x H' y => ?_⟩
  obtain ⟨e2, y⟩ := y
  subst e2 y
  exact ⟨G2, s2, Gr.refl .., .int _⟩
section
variable {X : Cx} {tg l e : Expr} {te : TE} {W : WE} {A : WA} {tA : TA} {pos : Pos}
theorem iw_list (h : EW X l te W) : IW X tg l (iList X.K te) (wiL W) := ⟨pi_list h.pe, fun R hw q => h.li R hw fun v d G' H' R' g r hk => by
  cases d with
  | lst ds => cases r with | lst hs hr => exact ⟨_, rfl, ⟨_, R'.sub.sqL (SqL.of hs)⟩, q _ ds G' H' R' g (wlk_list (SqL.of hs) hr) hk⟩
  | _ => cases hk⟩
theorem iw_tup (h : EW X l te W) : IW X tg l (iTup X.K te) (wiT W) := ⟨pi_tup h.pe, fun R hw q => h.li R hw fun v d G' H' R' g r hk => by
  cases d with
  | tup ds => cases r with | tup hs hr => exact ⟨_, rfl, ⟨_, R'.sub.sqT hs.sq⟩, q _ ds G' H' R' g (wlk_tup hs.sq hr) hk⟩
  | _ => cases hk⟩
theorem iw_range1 {a : Expr} {p : Pos} (ha : AW X [a] tA A) (hm : X.mg "range" = none) (hg : Gl X "range" := by rfl) (hs : starEach [a] X.env = [(false, eval a X.env)] := by rfl) : IW X tg (.Call (.Name "range" p) [a] [] pos) (iRng1 tA) (wiR1 A) := ⟨pi_range1 hg hm ha.pa hs, fun R hw q => ha.li R hw fun vs ds G' H' R' g r hk => by
  split at hk
  · rename_i n
    obtain ⟨⟨h1, h2⟩, hk⟩ := hk
    cases r with | cons r rr => (cases rr; cases r; exact ⟨n, rfl, h1, h2, q _ _ G' H' R' g wlk_range hk⟩)
  · cases hk⟩
theorem iw_range2 {a b : Expr} {p : Pos} (ha : AW X [a, b] tA A) (hm : X.mg "range" = none) (hg : Gl X "range" := by rfl) (hs : starEach [a, b] X.env = [(false, eval a X.env), (false, eval b X.env)] := by rfl) (hs2 : starEach [b] X.env = [(false, eval b X.env)] := by rfl) : IW X tg (.Call (.Name "range" p) [a, b] [] pos) (iRng2 tA) (wiR2 A) := ⟨pi_range2 hg hm ha.pa hs hs2, fun R hw q => ha.li R hw fun vs ds G' H' R' g r hk => by
  split at hk
  · rename_i n m
    obtain ⟨h1, hk⟩ := hk
    cases r with | cons r rr => (cases rr with | cons r' rr => (cases rr; cases r; cases r'; exact ⟨n, m, rfl, h1, q _ _ G' H' R' g wlk_range hk⟩))
  · cases hk⟩
end
/-! ### for -/
def forGo (g : WG) (tb : WSt) (D : EnW) : List Wd.D → List Sl → Prop
  | [], ρ => D.nx ρ
  | x :: r, ρ => g x ρ fun ρ' => tb { D with nx := forGo g tb D r, ct := forGo g tb D r, bk := D.nx } ρ'
def wFor (wi : WA) (g : WG) (tb : WSt) : WSt := fun D ρ => wi ρ fun ds => forGo g tb D ds ρ
theorem gr_lift {F : Option Addr} {G0 H0 G1 H1 G H : Hp} (g : Gr F G0 H0 G H) (g1 : Gr F G0 H0 G1 H1) (s : Sub G1 G) : Gr F G1 H0 G H := ⟨g.hq, g.tb, g.th, s, fun a o h => by
  rcases g.fr a o h with z | z
  · exact .inl (g1.gs a o z)
  · exact .inr z⟩
theorem gr_back {F : Option Addr} {G0 H0 G1 H1 G H : Hp} (g : Gr F G1 H0 G H) (g1 : Gr F G0 H0 G1 H1) : Gr F G0 H0 G H := ⟨g.hq, g.tb, g.th, g1.gs.trans g.gs, fun a o h => by
  rcases g.fr a o h with z | z
  · exact g1.fr a o z
  · exact .inr z⟩
theorem EnR.back {K : PySem.W.Frag} {F : Option Addr} {G0 H0 G1 H1 : Hp} {D : EnW} {E : Ends} (q : EnR K F G0 H0 D E) (g1 : Gr F G0 H0 G1 H1) : EnR K F G1 H0 D E :=
  ⟨fun w G H σ ρ R => q.nx w G H σ ρ ⟨R.rs, gr_back R.gr g1, R.own⟩, fun v d G H g => q.rt v d G H (gr_back g g1), fun w G H σ ρ R => q.bk w G H σ ρ ⟨R.rs, gr_back R.gr g1, R.own⟩, fun w G H σ ρ R => q.ct w G H σ ρ ⟨R.rs, gr_back R.gr g1, R.own⟩⟩
theorem sw_for {X : Cx} {tg iter : Expr} {body : List Stmt} {wi : TI} {g : TG} {tb : TS} {W : WA} {Wg : WG} {ix : List Nat} {T : WSt} {pos : Pos} (hp : PassesOwn (model X.prog X.w) X.A X.env X.xe) (hi : IW X tg iter wi W) (hg : GW X tg g Wg ix) (hb : SsW X body tb T) (hc : X.calm = true := by rfl)
    (hs : ∀ x, foldedSetIterable iter X.env x = pure x := by intro _; rfl) : SW X (.For tg iter body [] pos) (tFor wi g tb) (wFor W Wg T) := by
  refine ⟨ps_for hp hc hi.pi hg.pg hb.ps hs, fun {F G0 H0 G H w σ ρ D E} R hw q => ?_⟩
  refine hi.li R.rs hw fun J ds G1 H1 R1 g1 wl hk => ?_
  have gg := R.gr.trans g1
  have q1 : EnR X.K F G1 H0 D E := q.back gg
  refine ⟨fun i m σ H => m = ds.length - i ∧ i ≤ ds.length ∧ ∃ w G ρ, RE X.K F G1 H0 G H w σ ρ ∧ forGo Wg T D (ds.drop i) ρ, ⟨_, rfl, Nat.zero_le _, w, G1, ρ, ⟨R1, gr_lift gg gg (Sub.refl _), R.own⟩, hk⟩, ?_⟩
  rintro i m σ2 H2 ⟨rfl, hil, w2, G2, ρ2, R2, h2⟩
  obtain ⟨hstop, hgo⟩ := wl G2 H2 i R2.gr.gs R2.rs.sub
  by_cases hlt : i < ds.length
  · right
    have hd : ds[i]? = some ds[i] := List.getElem?_eq_getElem hlt
    obtain ⟨go, hy⟩ := hgo _ hd
    refine ⟨go, fun σ' H' => ∃ w' G' ρ', RE X.K F G1 H0 G' H' w' σ' ρ' ∧ forGo Wg T D (ds.drop (i + 1)) ρ', fun σ' H' ⟨w', G', ρ', h1, h3⟩ => ⟨ds.length - (i + 1), by omega, rfl, hlt, w', G', ρ', h1, h3⟩, fun x H' y => ?_⟩
    obtain ⟨G3, s3, g3, r3⟩ := hy x H' y
    rw [List.drop_eq_getElem_cons hlt] at h2
    have R3 : RE X.K F G1 H0 G3 H' w2 σ2 ρ2 := R2.grow g3.any (R2.rs.grow0 g3 s3)
    refine hg.li R3.rs r3 h2 fun σ4 ρ4 R4 t4 h4 => ?_
    refine @SsW.li _ _ _ _ hb F G1 H0 G3 H' w2 σ4 ρ4 _ _ (R3.took R4 t4) h4 ?_
    exact ⟨fun w G H σ ρ a b => ⟨w, G, ρ, a, b⟩, q1.rt, fun w G H σ ρ a b => q1.nx w G H σ ρ a b, fun w G H σ ρ a b => ⟨w, G, ρ, a, b⟩⟩
  · left
    have e : i = ds.length := by omega
    subst e
    rw [List.drop_length] at h2
    exact ⟨hstop (Nat.le_refl _), q1.nx _ _ _ _ _ R2 h2⟩
/-! ### while -/
def wWhile (c : WT) (tb : WSt) : WSt := fun D ρ => ∃ I : Nat → List Sl → Prop, (∃ m, I m ρ) ∧ ∀ m ρ, I m ρ → c ρ fun b => match b with
  | true => tb { D with nx := fun ρ' => ∃ m', m' < m ∧ I m' ρ', ct := fun ρ' => ∃ m', m' < m ∧ I m' ρ', bk := D.nx } ρ
  | false => D.nx ρ
theorem sw_while {X : Cx} {c : Expr} {body : List Stmt} {tc : TT} {tb : TS} {W : WT} {T : WSt} {pos : Pos} (hp : PassesOwn (model X.prog X.w) X.A X.env X.xe) (hc : TW X c tc W) (hb : SsW X body tb T) : SW X (.While c body [] pos) (tWhile tc tb) (wWhile W T) := by
  refine ⟨ps_while hp hc.pt hb.ps, fun {F G0 H0 G H w σ ρ D E} R ⟨I, ⟨m0, h0⟩, hi⟩ q => ?_⟩
  refine ⟨fun m σ H => ∃ w G ρ, RE X.K F G0 H0 G H w σ ρ ∧ I m ρ, ⟨m0, w, G, ρ, R, h0⟩, ?_⟩
  rintro m σ1 H1 ⟨w1, G1, ρ1, R1, h1⟩
  refine hc.li R1.rs (hi m ρ1 h1) fun b G2 H2 R2 g2 h2 => ?_
  cases b with
  | true =>
    rw [if_pos rfl]
    refine ⟨fun σ' H' => ∃ w' G' ρ', RE X.K F G0 H0 G' H' w' σ' ρ' ∧ ∃ m', m' < m ∧ I m' ρ', fun σ' H' ⟨w', G', ρ', h1, m', h2, h3⟩ => ⟨m', h2, w', G', ρ', h1, h3⟩, ?_⟩
    refine @SsW.li _ _ _ _ hb F G0 H0 G2 H2 w1 σ1 ρ1 _ _ (R1.grow g2 R2) h2 ?_
    exact ⟨fun w G H σ ρ a b => ⟨w, G, ρ, a, b⟩, q.rt, fun w G H σ ρ a b => q.nx w G H σ ρ a b, fun w G H σ ρ a b => ⟨w, G, ρ, a, b⟩⟩
  | false =>
    rw [if_neg Bool.false_ne_true]
    exact q.nx _ _ _ _ _ (R1.grow g2 R2) h2
end Wd
set_option maxRecDepth 100000
set_option maxHeartbeats 2000000
namespace Wd
open PySem PySem.Spec PyProof.Rows L2
/-! ### things of our own -/
def ownD (s : Option Sl) : Prop := (∃ ds, s = some (.ow ds)) ∨ ∃ kvs, s = some (.od kvs)
section
variable {K : PySem.W.Frag} {F : Option Addr} {G0 H0 G H G' H' : Hp} {w : Addr → Nat} {σ σ' : L2.St} {ρ ρ' : List Sl} {i : Nat} {p a : Addr} {o : HO}
theorem Rs.noF (R : Rs K F G H w σ ρ) (hp : H p = none) : F ≠ some p := fun e => by
  obtain ⟨c, ns, i, l, n, _, _, _, h, _⟩ := R.fok p e
  rw [hp] at h; cases h
theorem Rs.out (R : Rs K F G H w σ ρ) (hp : H p = none) : Rs K F G (upd H p o) w σ ρ := R.grow0 (Gr.newH hp) (R.sub.updH (sub_none R.sub hp))
/-- a new list of our own -/
theorem Rs.newL {xs : List V} {ds : List D} (R : Rs K F G H w σ ρ) (hp : H p = none) (r : RpL K G xs ds) :
    Rs K F G (upd H p (.lst xs)) (fun a => if a = p then i else w a) (σ.set i (some (.ref p))) (ρ.set i (.ow ds)) := by
  have R1 : Rs K F G (upd H p (.lst xs)) w σ ρ := R.out hp
  refine ⟨R1.sub, by rw [List.length_set, List.length_set, R.len], fun j s h => ?_, R1.fok⟩
  by_cases e : i = j
  · subst e
    by_cases hl : i < ρ.length
    · rw [List.getElem?_set_self hl] at h
      cases h
      exact ⟨p, xs, by rw [List.getElem?_set_self (by rw [R.len]; exact hl)], upd_same, sub_none R.sub hp, if_pos rfl, R.noF hp, r⟩
    · rw [List.getElem?_eq_none (by rw [List.length_set]; omega)] at h
      cases h
  · rw [List.getElem?_set_ne e] at h ⊢
    have q := R1.at_ j s h
    have q0 := R.at_ j s h
    cases s with
    | un => trivial
    | da d => exact q
    | ow es =>
      obtain ⟨a, ys, e1, h1, h2, h3, h4, h5⟩ := q0
      have na : a ≠ p := ne_of_none h1 hp
      exact ⟨a, ys, e1, by rw [upd_ne na]; exact h1, h2, (if_neg na).trans h3, h4, h5⟩
    | od es =>
      obtain ⟨a, ys, e1, h1, h2, h3, h4, h5⟩ := q0
      have na : a ≠ p := ne_of_none h1 hp
      exact ⟨a, ys, e1, by rw [upd_ne na]; exact h1, h2, (if_neg na).trans h3, h4, h5⟩
    | fd => exact q
    | ob _ => exact q
theorem Rs.newD (R : Rs K F G H w σ ρ) (hp : H p = none) :
    Rs K F G (upd H p (.dT [])) (fun a => if a = p then i else w a) (σ.set i (some (.ref p))) (ρ.set i (.od [])) := by
  have R1 : Rs K F G (upd H p (.dT [])) w σ ρ := R.out hp
  refine ⟨R1.sub, by rw [List.length_set, List.length_set, R.len], fun j s h => ?_, R1.fok⟩
  by_cases e : i = j
  · subst e
    by_cases hl : i < ρ.length
    · rw [List.getElem?_set_self hl] at h
      cases h
      exact ⟨p, [], by rw [List.getElem?_set_self (by rw [R.len]; exact hl)], upd_same, sub_none R.sub hp, if_pos rfl, R.noF hp, .nil⟩
    · rw [List.getElem?_eq_none (by rw [List.length_set]; omega)] at h
      cases h
  · rw [List.getElem?_set_ne e] at h ⊢
    have q := R1.at_ j s h
    have q0 := R.at_ j s h
    cases s with
    | un => trivial
    | da d => exact q
    | ow es =>
      obtain ⟨a, ys, e1, h1, h2, h3, h4, h5⟩ := q0
      have na : a ≠ p := ne_of_none h1 hp
      exact ⟨a, ys, e1, by rw [upd_ne na]; exact h1, h2, (if_neg na).trans h3, h4, h5⟩
    | od es =>
      obtain ⟨a, ys, e1, h1, h2, h3, h4, h5⟩ := q0
      have na : a ≠ p := ne_of_none h1 hp
      exact ⟨a, ys, e1, by rw [upd_ne na]; exact h1, h2, (if_neg na).trans h3, h4, h5⟩
    | fd => exact q
    | ob _ => exact q
theorem RE.newO (R : RE K F G0 H0 G H w σ ρ) (hp : H p = none) {s : Sl} {w' : Addr → Nat} (R' : Rs K F G (upd H p o) w' (σ.set i (some (.ref p))) (ρ.set i s)) :
    RE K F G0 H0 G (upd H p o) w' (σ.set i (some (.ref p))) (ρ.set i s) := by
  refine ⟨R', R.gr.trans (Gr.newH hp), fun j a h e => ?_⟩
  by_cases ej : i = j
  · subst ej
    by_cases hl : i < σ.length
    · rw [List.getElem?_set_self hl] at e
      cases e
      exact none_of_th R.gr.th hp
    · rw [List.set_eq_of_length_le (by rw [← R.rs.len]; omega)] at h
      rw [List.set_eq_of_length_le (by omega)] at e
      exact R.own _ a h e
  · rw [List.getElem?_set_ne ej] at h e
    exact R.own j a h e
/-- what our own object holds changes -/
theorem Rs.mutO (R : Rs K F G H w σ ρ) (hG : G a = none) (hF : F ≠ some a) (hw : w a = i) {s : Sl} (hs : SlR K F G (upd H a o) w i (σ[i]?) s) (hn : NTE (H a) := by first | exact nteL (by assumption) | exact nteT (by assumption) | exact nteK (by assumption)) : Rs K F G (upd H a o) w σ (ρ.set i s) := by
  refine ⟨R.sub.updH hG, by rw [List.length_set]; exact R.len, fun j t h => ?_, fun f e => ?_⟩
  · by_cases e : i = j
    · subst e
      by_cases hl : i < ρ.length
      · rw [List.getElem?_set_self hl] at h
        cases h
        exact hs
      · rw [List.getElem?_eq_none (by rw [List.length_set]; omega)] at h
        cases h
    · rw [List.getElem?_set_ne e] at h
      have q0 := R.at_ j t h
      cases t with
      | un => trivial
      | da d => exact q0
      | ow es =>
        obtain ⟨b, ys, e1, h1, h2, h3, h4, h5⟩ := q0
        have na : b ≠ a := fun z => e (by rw [← hw, ← h3, z])
        exact ⟨b, ys, e1, by rw [upd_ne na]; exact h1, h2, h3, h4, h5⟩
      | od es =>
        obtain ⟨b, ys, e1, h1, h2, h3, h4, h5⟩ := q0
        have na : b ≠ a := fun z => e (by rw [← hw, ← h3, z])
        exact ⟨b, ys, e1, by rw [upd_ne na]; exact h1, h2, h3, h4, h5⟩
      | fd => exact q0
      | ob _ => exact q0
  · obtain ⟨c, ns, i, l, n, h1, h2, h3, h4, ht⟩ := R.fok f e
    exact ⟨c, ns, i, l, n, h1, h2, h3, by rw [upd_ne (fun z => hF (by rw [e, z]))]; exact h4, ht.updH hn⟩
theorem Gr.out (g : Gr F G0 H0 G H) (h : H0 a = none) (hn : NTE (H a) := by first | exact nteL (by assumption) | exact nteT (by assumption) | exact nteK (by assumption)) : Gr F G0 H0 G (upd H a o) :=
  ⟨fun b u f n e => by rw [upd_ne (ne_of_none e h)]; exact g.hq b u f n e, fun P t => tabS_upd (g.tb P t) hn, fun b e => by
    by_cases z : b = a
    · rw [z, upd_same]; exact fun q => nomatch q
    · rw [upd_ne z]; exact g.th b e, g.gs, g.fr⟩
theorem RE.mutO (R : RE K F G0 H0 G H w σ ρ) (ho : ownD (ρ[i]?)) (hσ : σ[i]? = some (some (.ref a))) {s : Sl} (R' : Rs K F G (upd H a o) w σ (ρ.set i s)) : RE K F G0 H0 G (upd H a o) w σ (ρ.set i s) := by
  have hn : NTE (H a) := by
    rcases ho with ⟨ds, h⟩ | ⟨ds, h⟩
    · obtain ⟨b, xs, e1, h1, _⟩ := R.rs.at_ i _ h
      rw [hσ] at e1; cases e1
      exact nteL h1
    · obtain ⟨b, xs, e1, h1, _⟩ := R.rs.at_ i _ h
      rw [hσ] at e1; cases e1
      exact nteT h1
  refine ⟨R', R.gr.out (R.own i a ho hσ) hn, fun j b h e => ?_⟩
  by_cases ej : i = j
  · subst ej
    exact R.own _ b ho e
  · rw [List.getElem?_set_ne ej] at h
    exact R.own j b h e
/-- our own list becomes data -/
theorem RE.freeze {ds : List D} (R : RE K F G0 H0 G H w σ ρ) (h : ρ[i]? = some (.ow ds)) : ∃ G', RE K F G0 H0 G' H w σ (ρ.set i (.da (.lst ds))) ∧ Sub G G' := by
  obtain ⟨a, xs, e1, h1, h2, h3, h4, h5⟩ := R.rs.at_ i _ h
  have s1 : Sub G (upd G a (.lst xs)) := fun b u e => by rw [upd_ne (ne_of_none e h2)]; exact e
  have h0 : H0 a = none := R.own i a (.inl ⟨ds, h⟩) e1
  have ne : ∀ b, G b = none → b ≠ a → upd G a (.lst xs) b = none := fun b e z => by rw [upd_ne z]; exact e
  refine ⟨upd G a (.lst xs), ⟨⟨fun b u e => ?_, by rw [List.length_set]; exact R.rs.len, fun j t hj => ?_, fun f e => ?_⟩, ⟨R.gr.hq, R.gr.tb, R.gr.th, R.gr.gs.trans s1, fun b u e => ?_⟩, fun j b hb e => ?_⟩, s1⟩
  · by_cases z : b = a
    · rw [z, upd_same] at e; rw [z, h1]; exact e
    · rw [upd_ne z] at e; exact R.rs.sub b u e
  · by_cases e : i = j
    · subst e
      rw [List.getElem?_set_self (by rcases List.getElem?_eq_some_iff.mp h with ⟨q, _⟩; exact q)] at hj
      cases hj
      exact ⟨.ref a, e1, .lst upd_same (RpL.mono s1 _ _ h5)⟩
    · rw [List.getElem?_set_ne e] at hj
      have q0 := R.rs.at_ j t hj
      cases t with
      | un => trivial
      | da d => obtain ⟨v, e2, r⟩ := q0; exact ⟨v, e2, Rp.mono s1 _ _ r⟩
      | ow es =>
        obtain ⟨b, ys, e1, k1, k2, k3, k4, k5⟩ := q0
        exact ⟨b, ys, e1, k1, ne b k2 (fun z => e (by rw [← h3, ← k3, z])), k3, k4, RpL.mono s1 _ _ k5⟩
      | od es =>
        obtain ⟨b, ys, e1, k1, k2, k3, k4, k5⟩ := q0
        exact ⟨b, ys, e1, k1, ne b k2 (fun z => e (by rw [← h3, ← k3, z])), k3, k4, RpT.mono s1 k5⟩
      | fd => exact q0
      | ob _ => exact q0
  · obtain ⟨c, ns, i, l, n, k1, k2, k3, k4, kt⟩ := R.rs.fok f e
    exact ⟨c, ns, i, l, n, ne f k1 (fun z => h4 (by rw [e, z])), s1 _ _ k2, k3, k4, kt.updG (nteL h1)⟩
  · by_cases z : b = a
    · exact .inr (by rw [z]; exact h0)
    · rw [upd_ne z] at e; exact R.gr.fr b u e
  · by_cases ej : i = j
    · subst ej
      rw [List.getElem?_set_self (by rcases List.getElem?_eq_some_iff.mp h with ⟨q, _⟩; exact q)] at hb
      rcases hb with ⟨_, hb⟩ | ⟨_, hb⟩ <;> cases hb
    · rw [List.getElem?_set_ne ej] at hb
      exact R.own j b hb e
end
def wFrz (i : Nat) (T : WSt) : WSt := fun D ρ => match ρ[i]? with
  | some (.ow ds) => T D (ρ.set i (.da (.lst ds)))
  | _ => False
def wOwnL (i : Nat) (A : WA) : WSt := fun D ρ => A ρ fun ds => ds.length ≤ 1000 ∧ D.nx (ρ.set i (.ow ds))
def wOwnD (i : Nat) : WSt := fun D ρ => D.nx (ρ.set i (.od []))
def wApp (i : Nat) (W : WE) : WSt := fun D ρ => match ρ[i]? with
  | some (.ow ds) => W ρ fun d => ds.length < 1000 ∧ D.nx (ρ.set i (.ow (ds ++ [d])))
  | _ => False
def wExt (i : Nat) (W : WE) : WSt := fun D ρ => match ρ[i]? with
  | some (.ow ds) => W ρ fun d => (match d with
    | .lst es => ds.length + es.length ≤ 1000 ∧ D.nx (ρ.set i (.ow (ds ++ es)))
    | _ => False)
  | _ => False
def wPop (i : Nat) (g : WG) : WSt := fun D ρ => match ρ[i]? with
  | some (.ow ds) => (match ds.getLast? with
    | some d => g d (ρ.set i (.ow ds.dropLast)) D.nx
    | none => False)
  | _ => False
def odGet (kvs : List (List Int × D)) (k : List Int) : Option D := (kvs.find? fun kv => decide (kv.1 = k)).map (·.2)
def odPut (kvs : List (List Int × D)) (k : List Int) (v : D) : List (List Int × D) := if (kvs.any fun kv => decide (kv.1 = k)) = true then kvs.map (fun kv => if kv.1 = k then (kv.1, v) else kv) else kvs ++ [(k, v)]
def keyD (kd : D) (k : List Int → Prop) : Prop := match kd with
  | .key ks => k ks
  | _ => False
def wDPut (i : Nat) (Wk Wv : WE) : WSt := fun D ρ => match ρ[i]? with
  | some (.od kvs) => Wv ρ fun d => Wk ρ fun kd => keyD kd fun ks => kvs.length < 1000 ∧ D.nx (ρ.set i (.od (odPut kvs ks d)))
  | _ => False
def wDGet (i : Nat) (Wk : WE) : WE := fun ρ k => match ρ[i]? with
  | some (.od kvs) => Wk ρ fun kd => keyD kd fun ks => (match odGet kvs ks with
    | some d => k d
    | none => False)
  | _ => False
def wLenO (i : Nat) : WE := fun ρ k => match ρ[i]? with
  | some (.ow ds) => k (.int ds.length)
  | _ => False
theorem kI_inj {a b : List Int} : kI a = kI b ↔ a = b := by
  constructor
  · intro h
    unfold kI at h
    exact List.map_inj_right (fun x y e => Sum.inl.inj e) |>.mp h
  · intro h; rw [h]
theorem kI_kV (ks : List Int) : (kI ks).map kV = ks.map V.int := by
  unfold kI
  rw [List.map_map]
  rfl
section
variable {K : PySem.W.Frag} {G : Hp}
theorem RpT.any : ∀ {vs : List (List Key × V)} {ds : List (List Int × D)} (k : List Int), RpT K G vs ds → (vs.any fun kv => decide (kv.1 = kI k)) = ds.any fun kv => decide (kv.1 = k)
  | _, _, _, .nil => rfl
  | _, _, k, .cons _ t => by
    rw [List.any_cons, List.any_cons, RpT.any k t]
    congr 1
    exact decide_eq_decide.mpr kI_inj
theorem RpT.get : ∀ {vs : List (List Key × V)} {ds : List (List Int × D)} {k : List Int} {d : D}, RpT K G vs ds → odGet ds k = some d → ∃ v, valV vs (kI k) = some v ∧ Rp K G v d
  | _, _, _, _, .nil, h => by cases h
  | _, _, k, d, .cons (k := k0) (v := v0) (d := d0) r t, h => by
    unfold odGet at h
    unfold valV
    by_cases e : k0 = k
    · rw [List.find?_cons_of_pos (by simp [e])] at h
      rw [List.find?_cons_of_pos (by simp [e])]
      cases h
      exact ⟨v0, rfl, r⟩
    · rw [List.find?_cons_of_neg (by simp [e])] at h
      rw [List.find?_cons_of_neg (by simp [kI_inj, e])]
      exact RpT.get t h
theorem RpT.repl : ∀ {vs : List (List Key × V)} {ds : List (List Int × D)} (k : List Int) {v : V} {d : D}, RpT K G vs ds → Rp K G v d →
    RpT K G (vs.map (fun kv => if kv.1 = kI k then (kv.1, v) else kv)) (ds.map (fun kv => if kv.1 = k then (kv.1, d) else kv))
  | _, _, _, _, _, .nil, _ => .nil
  | _, _, k, v, d, .cons (k := k0) r t, rv => by
    rw [List.map_cons, List.map_cons]
    by_cases e : k0 = k
    · rw [if_pos (by rw [e]), if_pos e]
      exact .cons rv (RpT.repl k t rv)
    · rw [if_neg (by rw [kI_inj]; exact e), if_neg e]
      exact .cons r (RpT.repl k t rv)
theorem RpT.snoc : ∀ {vs : List (List Key × V)} {ds : List (List Int × D)} {k : List Int} {v : V} {d : D}, RpT K G vs ds → Rp K G v d → RpT K G (vs ++ [(kI k, v)]) (ds ++ [(k, d)])
  | _, _, _, _, _, .nil, rv => .cons rv .nil
  | _, _, _, _, _, .cons r t, rv => .cons r (RpT.snoc t rv)
theorem RpT.put {vs : List (List Key × V)} {ds : List (List Int × D)} (k : List Int) {v : V} {d : D} (r : RpT K G vs ds) (rv : Rp K G v d) : RpT K G (putK vs (kI k) v) (odPut ds k d) := by
  unfold putK odPut
  rw [r.any k]
  split
  · exact r.repl k rv
  · exact r.snoc rv
theorem RpT.length : ∀ {vs : List (List Key × V)} {ds : List (List Int × D)}, RpT K G vs ds → vs.length = ds.length
  | _, _, .nil => rfl
  | _, _, .cons _ t => by rw [List.length_cons, List.length_cons, RpT.length t]
end
section
variable {X : Cx} {st : Stmt} {rest : List Stmt} {ts : TS} {T : WSt} {e tg : Expr} {es : List Expr} {te : TE} {tA : TA} {A : WA} {g : TG} {W : WE} {Wg : WG} {ix : List Nat} {pos : Pos} {x : Str}
theorem ssw_frz (i : Nat) (h : SsW X rest ts T) : SsW X rest ts (wFrz i T) := ⟨h.ps, fun {F G0 H0 G H w σ ρ D E} R hw q => by
  unfold wFrz at hw
  split at hw
  · rename_i ds e
    obtain ⟨G', R', _⟩ := R.freeze e
    exact h.li R' hw q
  · cases hw⟩
theorem sw_ownL (i : Nat) {pos' : Pos} (hN : X.N.Nodup) (ha : AW X es tA A) (hi : X.N[i]? = some x := by rfl) (hx : Loc X.env.scope x := by first | exact Or.inl rfl | exact Or.inr rfl) (hf : X.fn x = true ∨ X.env.scope.names.lookup x = some .local := by first | exact .inl rfl | exact .inr rfl | assumption) {spos : Pos}
    (hs : swapsWith (.List es pos) (some (.Name x pos')) spos.line X.env = pure false := by rfl) : SW X (.Assign [.Name x pos'] (.List es pos) spos) (tAsg (tLst tA) (gName i)) (wOwnL i A) := ⟨ps_set hN hi hx (pe_lst ha.pa) hs hf, fun R hw q =>
  ha.li R.rs hw fun vs ds G1 H1 R1 g1 r h1 => ⟨by rw [r.length]; exact line1000 h1.1, fun p hp => q.nx _ _ _ _ _ ((R.grow g1 R1).newO hp (R1.newL hp r)) h1.2⟩⟩
theorem sw_ownD (i : Nat) {pos' spos : Pos} (hN : X.N.Nodup) (hi : X.N[i]? = some x := by rfl) (hx : Loc X.env.scope x := by first | exact Or.inl rfl | exact Or.inr rfl) (hf : X.fn x = true ∨ X.env.scope.names.lookup x = some .local := by first | exact .inl rfl | exact .inr rfl | assumption)
    (hs : swapsWith (.Dict [] [] pos) (some (.Name x pos')) spos.line X.env = pure false := by rfl) : SW X (.Assign [.Name x pos'] (.Dict [] [] pos) spos) (tAsg tDNewT (gName i)) (wOwnD i) := ⟨ps_set hN hi hx pe_dnewT hs hf, fun {F G0 H0 G H w σ ρ D E} R hw q p hp => q.nx _ _ _ _ _ (R.newO hp (R.rs.newD hp)) hw⟩
theorem sw_app (i : Nat) {apos npos cpos : Pos} (hW : EW X e te W)
    (hp : PS X (.Expr (.Call (.Attribute (.Name x npos) "append" apos) [e] [] cpos) pos) (tDrop (tBM X.K "list" rAppend (tVar i) (tCons te tNil)))) : SW X (.Expr (.Call (.Attribute (.Name x npos) "append" apos) [e] [] cpos) pos) (tDrop (tBM X.K "list" rAppend (tVar i) (tCons te tNil))) (wApp i W) := ⟨hp, fun {F G0 H0 G H w σ ρ D E} R hw q => by
  unfold wApp at hw
  split at hw
  · rename_i ds e
    obtain ⟨a, xs, e1, h1, h2, h3, h4, h5⟩ := R.rs.at_ i _ e
    refine ⟨.ref a, e1, .inl ⟨rfl, xs, SqL.of h1⟩, ?_⟩
    refine hW.li R.rs hw fun v d G1 H1 R1 g1 rv hk => ?_
    obtain ⟨a', xs', e1', k1, k2, k3, k4, k5⟩ := R1.at_ i _ e
    rw [e1] at e1'
    cases e1'
    refine ⟨a, xs', v, rfl, rfl, k1, by rw [k5.length]; exact Nat.lt_of_lt_of_le hk.1 (by decide), ?_⟩
    exact q.nx _ _ _ _ _ ((R.grow g1 R1).mutO (.inl ⟨ds, e⟩) e1 (R1.mutO k2 k4 k3 (s := .ow (ds ++ [d])) ⟨a, _, e1, upd_same, k2, k3, k4, k5.snoc rv⟩)) hk.2
  · cases hw⟩
theorem sw_ext (i : Nat) {apos npos cpos : Pos} (hW : EW X e te W)
    (hp : PS X (.Expr (.Call (.Attribute (.Name x npos) "extend" apos) [e] [] cpos) pos) (tDrop (tBM X.K "list" rExtend (tVar i) (tCons te tNil)))) : SW X (.Expr (.Call (.Attribute (.Name x npos) "extend" apos) [e] [] cpos) pos) (tDrop (tBM X.K "list" rExtend (tVar i) (tCons te tNil))) (wExt i W) := ⟨hp, fun {F G0 H0 G H w σ ρ D E} R hw q => by
  unfold wExt at hw
  split at hw
  · rename_i ds e
    obtain ⟨a, xs, e1, h1, h2, h3, h4, h5⟩ := R.rs.at_ i _ e
    refine ⟨.ref a, e1, .inl ⟨rfl, xs, SqL.of h1⟩, ?_⟩
    refine hW.li R.rs hw fun v d G1 H1 R1 g1 rv hk => ?_
    obtain ⟨a', xs', e1', k1, k2, k3, k4, k5⟩ := R1.at_ i _ e
    rw [e1] at e1'
    cases e1'
    split at hk
    · rename_i es
      cases rv with
      | lst hb hr =>
        refine ⟨a, _, xs', _, rfl, rfl, k1, R1.sub _ _ hb, by rw [k5.length, hr.length]; exact line1000 hk.1, ?_⟩
        exact q.nx _ _ _ _ _ ((R.grow g1 R1).mutO (.inl ⟨ds, e⟩) e1 (R1.mutO k2 k4 k3 (s := .ow (ds ++ es)) ⟨a, _, e1, upd_same, k2, k3, k4, k5.append hr⟩)) hk.2
    · cases hk
  · cases hw⟩
theorem getLast_ix {ds : List D} {d : D} (h : ds.getLast? = some d) : ds[ds.length - 1]? = some d := by
  rw [← h, List.getLast?_eq_getElem?]
theorem sw_pop (i : Nat) {apos npos cpos : Pos} (hg : GW X tg g Wg ix)
    (hp : PS X (.Assign [tg] (.Call (.Attribute (.Name x npos) "pop" apos) [] [] cpos) pos) (tAsg (tBM0 X.K "list" rPop (tVar i)) g)) : SW X (.Assign [tg] (.Call (.Attribute (.Name x npos) "pop" apos) [] [] cpos) pos) (tAsg (tBM0 X.K "list" rPop (tVar i)) g) (wPop i Wg) := ⟨hp, fun {F G0 H0 G H w σ ρ D E} R hw q => by
  unfold wPop at hw
  split at hw
  · rename_i ds e
    obtain ⟨a, xs, e1, h1, h2, h3, h4, h5⟩ := R.rs.at_ i _ e
    split at hw
    · rename_i d ed
      obtain ⟨v, ev, rv⟩ := h5.get (getLast_ix ed)
      refine ⟨.ref a, e1, .inl ⟨rfl, xs, SqL.of h1⟩, a, xs, v, rfl, rfl, h1, by rw [h5.length]; exact ev, ?_⟩
      have R1 := R.rs.mutO (o := .lst xs.dropLast) h2 h4 h3 (s := .ow ds.dropLast) ⟨a, _, e1, upd_same, h2, h3, h4, h5.dropLast⟩
      have R2 := R.mutO (.inl ⟨ds, e⟩) e1 R1
      exact hg.li R1 rv hw fun σ' ρ' R' t hk => q.nx _ _ _ _ _ (R2.took R' t) hk
    · cases hw
  · cases hw⟩
theorem sw_dput (i : Nat) {ek ev : Expr} {tk tv : TE} {Wk Wv : WE} {npos spos : Pos} (hu : X.A.units + 1 < cLine) (hk : EW X ek tk Wk) (hv : EW X ev tv Wv) (hp : PS X (.Assign [.Subscript (.Name x npos) ek spos] ev pos) (sDPut (tVar i) tk tv)) :
    SW X (.Assign [.Subscript (.Name x npos) ek spos] ev pos) (sDPut (tVar i) tk tv) (wDPut i Wk Wv) := ⟨hp, fun {F G0 H0 G H w σ ρ D E} R hw q => by
  unfold wDPut at hw
  split at hw
  · rename_i kvs e
    refine hv.li R.rs hw fun v d G1 H1 R1 g1 rv h1 => ?_
    obtain ⟨a, xs, e1, k1, k2, k3, k4, k5⟩ := R1.at_ i _ e
    refine ⟨.ref a, e1, hk.li R1 h1 fun y yd G2 H2 R2 g2 ry h2 => ?_⟩
    obtain ⟨a', xs', e1', k1, k2, k3, k4, k5⟩ := R2.at_ i _ e
    rw [e1] at e1'
    cases e1'
    unfold keyD at h2
    split at h2
    · rename_i ks
      cases ry with
      | key hb =>
        refine ⟨a, _, rfl, DPut.t (k := kI ks) k1 (by rw [kI_kV]; exact R2.sub _ _ hb) (by rw [k5.length]; exact Nat.lt_of_lt_of_le h2.1 (by decide)), ?_⟩
        exact q.nx _ _ _ _ _ (((R.grow g1 R1).grow g2 R2).mutO (.inr ⟨kvs, e⟩) e1 (R2.mutO k2 k4 k3 (s := .od (odPut kvs ks d)) ⟨a, _, e1, upd_same, k2, k3, k4, k5.put ks (Rp.mono g2.gs _ _ rv)⟩)) h2.2
    · cases h2
  · cases hw⟩
theorem ew_dgetO (i : Nat) {ek : Expr} {tk : TE} {Wk : WE} {npos : Pos} (hk : EW X ek tk Wk) (hp : PE X (.Subscript (.Name x npos) ek pos) (tDGet (tVar i) tk)) : EW X (.Subscript (.Name x npos) ek pos) (tDGet (tVar i) tk) (wDGet i Wk) := ⟨hp, fun {F G H w σ ρ k Q} R hw q => by
  unfold wDGet at hw
  split at hw
  · rename_i kvs e
    obtain ⟨a, xs, e1, k1, k2, k3, k4, k5⟩ := R.at_ i _ e
    refine ⟨.ref a, e1, hk.li R hw fun y yd G2 H2 R2 g2 ry h2 => ?_⟩
    obtain ⟨a', xs', e1', k1, k2, k3, k4, k5⟩ := R2.at_ i _ e
    rw [e1] at e1'
    cases e1'
    unfold keyD at h2
    split at h2
    · rename_i ks
      cases ry with
      | key hb =>
        split at h2
        · rename_i d ed
          obtain ⟨v, ev, rv⟩ := k5.get ed
          have z : DGet H2 a _ (valV xs' (kI ks)) := DGet.t k1 (by rw [kI_kV]; exact R2.sub _ _ hb)
          rw [ev] at z
          exact ⟨a, v, rfl, z, q v d G2 H2 R2 g2 rv h2⟩
        · cases h2
    · cases h2
  · cases hw⟩
theorem ew_lenO (i : Nat) {npos p : Pos} (hm : X.mg "len" = none) (hN : X.N[i]? = some x := by rfl) (hv : Vis X.env.scope x := by first | exact Or.inl rfl | exact Or.inr (Or.inl rfl) | exact Or.inr (Or.inr rfl)) (hd : (x == ("__debug__" : Str)) = false := by decide)
    (hcd : (x == ("__classdict__" : Str)) = false := by decide) (hg : Gl X "len" := by rfl) (hs : starEach ((.Name x npos) :: []) X.env = (false, eval (.Name x npos) X.env) :: starEach [] X.env := by rfl)
    (hpl : (backTo pos (starEach [] X.env)).any (·.1) = false := by rfl) : EW X (.Call (.Name "len" p) [.Name x npos] [] pos) (tCB (fun xs H Q => ∃ x n, xs = [x] ∧ LenV X.K x H n ∧ Q (.int n) H) (tCons (tVar i) tNil)) (wLenO i) :=
  ⟨pe_callB call_len hg hm PySem.boot_len (pa_cons (pe_var hN hv hd hcd) pa_nil hs) (by decide) (by decide) hs hpl, fun {F G H w σ ρ k Q} R hw q => by
  unfold wLenO at hw
  split at hw
  · rename_i ds e
    obtain ⟨a, xs, e1, k1, k2, k3, k4, k5⟩ := R.at_ i _ e
    exact ⟨.ref a, e1, .ref a, xs.length, rfl, .inl ⟨xs, SqL.of k1, rfl⟩, q _ _ G H R (Gr.refl ..) (.int _) (by rw [k5.length]; exact hw)⟩
  · cases hw⟩
end
end Wd
set_option maxRecDepth 100000
set_option maxHeartbeats 2000000
namespace Wd
open PySem PySem.Spec PyProof.Rows L2
/-! ### comprehensions -/
def wipeW (ρ : List Sl) : List Nat → List Sl
  | [] => ρ
  | v :: vs => (wipeW ρ vs).set v .un
section
variable {K : PySem.W.Frag} {F : Option Addr} {G0 H0 G H G' H' : Hp} {w : Addr → Nat} {σ σ' : L2.St} {ρ ρ' : List Sl} {i : Nat} {p a : Addr} {o : HO}
theorem wipeW_length (ρ : List Sl) : ∀ vs : List Nat, (wipeW ρ vs).length = ρ.length
  | [] => rfl
  | v :: vs => by unfold wipeW; rw [List.length_set, wipeW_length ρ vs]
theorem wipe_at (σ : L2.St) (j : Nat) : ∀ vs : List Nat, (j ∈ vs ∧ j < σ.length ∧ (wipe σ vs)[j]? = some none) ∨ ((j ∉ vs ∨ σ.length ≤ j) ∧ (wipe σ vs)[j]? = σ[j]?)
  | [] => .inr ⟨.inl (by simp), rfl⟩
  | v :: vs => by
    unfold wipe
    by_cases e : v = j
    · subst e
      by_cases hl : v < σ.length
      · exact .inl ⟨by simp, hl, List.getElem?_set_self (by rw [wipe_length]; exact hl)⟩
      · refine .inr ⟨.inr (by omega), ?_⟩
        rw [List.getElem?_eq_none (by rw [List.length_set, wipe_length]; omega), List.getElem?_eq_none (by omega)]
    · rw [List.getElem?_set_ne e]
      rcases wipe_at σ j vs with ⟨h1, h2, h3⟩ | ⟨h1, h2⟩
      · exact .inl ⟨List.mem_cons_of_mem _ h1, h2, h3⟩
      · refine .inr ⟨?_, h2⟩
        rcases h1 with h1 | h1
        · exact .inl (by simp only [List.mem_cons, not_or]; exact ⟨fun z => e z.symm, h1⟩)
        · exact .inr h1
theorem wipeW_at (ρ : List Sl) (j : Nat) : ∀ vs : List Nat, (wipeW ρ vs)[j]? = some .un ∨ (j ∉ vs ∧ (wipeW ρ vs)[j]? = ρ[j]?) ∨ ρ[j]? = none
  | [] => .inr (.inl ⟨by simp, rfl⟩)
  | v :: vs => by
    unfold wipeW
    by_cases e : v = j
    · subst e
      by_cases hl : v < ρ.length
      · exact .inl (List.getElem?_set_self (by rw [wipeW_length]; exact hl))
      · exact .inr (.inr (List.getElem?_eq_none (by omega)))
    · rw [List.getElem?_set_ne e]
      rcases wipeW_at ρ j vs with h | ⟨h1, h2⟩ | h
      · exact .inl h
      · exact .inr (.inl ⟨by simp only [List.mem_cons, not_or]; exact ⟨fun z => e z.symm, h1⟩, h2⟩)
      · exact .inr (.inr h)
theorem Rs.wipe (R : Rs K F G H w σ ρ) (vs : List Nat) : Rs K F G H w (wipe σ vs) (wipeW ρ vs) := by
  refine ⟨R.sub, by rw [wipe_length, wipeW_length, R.len], fun j s h => ?_, R.fok⟩
  rcases wipeW_at ρ j vs with e | ⟨h1, h2⟩ | e
  · rw [e] at h; cases h; trivial
  · rw [h2] at h
    have q := R.at_ j s h
    rcases wipe_at σ j vs with ⟨k, _, _⟩ | ⟨_, k⟩
    · exact absurd k h1
    · rw [k]; exact q
  · have z : (wipeW ρ vs)[j]? = none := by
      rw [List.getElem?_eq_none_iff, wipeW_length]
      exact List.getElem?_eq_none_iff.mp e
    rw [z] at h; cases h
theorem wipe_took {ix vs : List Nat} (t : Took ix (L2.wipe σ vs) ρ σ' ρ') (h : ∀ j ∈ ix, j ∈ vs) : L2.wipe σ' vs = L2.wipe σ vs := by
  refine List.ext_getElem? fun j => ?_
  have hl : σ'.length = σ.length := by rw [t.len, wipe_length]
  rcases wipe_at σ j vs with ⟨k1, k2, k3⟩ | ⟨k1, k2⟩
  · rcases wipe_at σ' j vs with ⟨_, _, m3⟩ | ⟨m1, _⟩
    · rw [k3, m3]
    · rcases m1 with m1 | m1
      · exact absurd k1 m1
      · rw [hl] at m1; omega
  · rcases wipe_at σ' j vs with ⟨m1, m2, _⟩ | ⟨m1, m2⟩
    · rcases k1 with k1 | k1
      · exact absurd m1 k1
      · rw [hl] at m2; omega
    · rw [m2, k2]
      rcases k1 with k1 | k1
      · rw [t.out j fun z => k1 (h j z), k2]
      · rw [List.getElem?_eq_none (by omega), List.getElem?_eq_none (by omega)]
end
structure QW (X : Cx) (ifs : List Expr) (tt : TT) (T : WT) : Prop where
  pt : PTs X ifs tt
  li : ∀ {F G H w σ ρ k Q}, Rs X.K F G H w σ ρ → T ρ k → (∀ b G' H', Rs X.K F G' H' w σ ρ → Gr F G H G' H' → k b → Q b H') → tt σ H Q
def wYes : WT := fun _ k => k true
theorem qw_nil {X : Cx} : QW X [] tYes wYes := ⟨pts_nil, fun {F G H w σ ρ k Q} R h q => q _ G H R (Gr.refl ..) h⟩
theorem qw_one {X : Cx} {c : Expr} {t : TT} {T : WT} (h : TW X c t T) : QW X [c] t T := ⟨pts_one h.pt, h.li⟩
def lcGo (g : WG) (tt : WT) (te : WE) (ρ : List Sl) : List D → List D → (List D → Prop) → Prop
  | [], acc, k => k acc
  | x :: r, acc, k => g x ρ fun ρ' => tt ρ' fun b => match b with
    | true => te ρ' fun d => lcGo g tt te ρ r (acc ++ [d]) k
    | false => lcGo g tt te ρ r acc k
def wLc (wi : WA) (g : WG) (tt : WT) (te : WE) (vs : List Nat) : WE := fun ρ k => wi ρ fun ds => ds.length ≤ 1000 ∧ lcGo g tt te (wipeW ρ vs) ds [] fun acc => k (.lst acc)
section
variable {K : PySem.W.Frag} {wi : TI} {g : TG} {tt : TT} {te : TE} {W : WA} {Wg : WG} {T : WT} {We : WE} {vs ix : List Nat}
theorem li_lc
    (hi : ∀ {F G H w σ ρ k R}, Rs K F G H w σ ρ → W ρ k → (∀ J ds G' H', Rs K F G' H' w σ ρ → Gr F G H G' H' → Wlk K J G' ds → k ds → R J H') → wi σ H R)
    (hg : ∀ {F G H w σ ρ v d k Q}, Rs K F G H w σ ρ → Rp K G v d → Wg d ρ k → (∀ σ' ρ', Rs K F G H w σ' ρ' → Took ix σ ρ σ' ρ' → k ρ' → Q σ' H) → g v σ H Q)
    (ht : ∀ {F G H w σ ρ k Q}, Rs K F G H w σ ρ → T ρ k → (∀ b G' H', Rs K F G' H' w σ ρ → Gr F G H G' H' → k b → Q b H') → tt σ H Q)
    (he : ∀ {F G H w σ ρ k Q}, Rs K F G H w σ ρ → We ρ k → (∀ v d G' H', Rs K F G' H' w σ ρ → Gr F G H G' H' → Rp K G' v d → k d → Q v H') → te σ H Q)
    (hv : ∀ j ∈ ix, j ∈ vs) :
    ∀ {F G H w σ ρ k Q}, Rs K F G H w σ ρ → wLc W Wg T We vs ρ k → (∀ v d G' H', Rs K F G' H' w σ ρ → Gr F G H G' H' → Rp K G' v d → k d → Q v H') → tLc wi g tt te vs σ H Q := by
  intro F G H w σ ρ k Q R hw q
  refine hi R hw fun J ds G1 H1 R1 g1 wl ⟨hl, hk⟩ => ?_
  intro p hp
  have hF : F ≠ some p := R1.noF hp
  refine ⟨fun i m H => m = ds.length - i ∧ i ≤ ds.length ∧ ∃ G xs acc, Rs K F G H w σ ρ ∧ Gr F G1 H1 G H ∧ G p = none ∧ H p = some (.lst xs) ∧ RpL K G xs acc ∧ acc.length ≤ i ∧ lcGo Wg T We (wipeW ρ vs) (ds.drop i) acc fun acc => k (.lst acc),
    ⟨_, rfl, Nat.zero_le _, G1, [], [], R1.out hp, Gr.newH hp, sub_none R1.sub hp, upd_same, .nil, Nat.le_refl _, hk⟩, ?_⟩
  rintro i m H2 ⟨rfl, hil, G2, xs, acc, R2, g2, p2, e2, r2, l2, h2⟩
  obtain ⟨hstop, hgo⟩ := wl G2 H2 i g2.gs R2.sub
  by_cases hlt : i < ds.length
  · right
    have hd : ds[i]? = some ds[i] := List.getElem?_eq_getElem hlt
    obtain ⟨go, hy⟩ := hgo _ hd
    refine ⟨go, fun H' => i + 1 ≤ ds.length ∧ ∃ G xs acc, Rs K F G H' w σ ρ ∧ Gr F G1 H1 G H' ∧ G p = none ∧ H' p = some (.lst xs) ∧ RpL K G xs acc ∧ acc.length ≤ i + 1 ∧ lcGo Wg T We (wipeW ρ vs) (ds.drop (i + 1)) acc fun acc => k (.lst acc),
      fun H' ⟨a, b⟩ => ⟨ds.length - (i + 1), by omega, rfl, a, b⟩, fun x H3 y => ?_⟩
    obtain ⟨G3, s3, g3, r3⟩ := hy x H3 y
    rw [List.drop_eq_getElem_cons hlt] at h2
    have R3 : Rs K F G3 H3 w σ ρ := R2.grow0 g3 s3
    have e3 : H3 p = some (.lst xs) := g3.hp _ _ (fun z => nomatch z) e2
    have p3 : G3 p = none := gr_out g3 p2 e2
    refine hg (R3.wipe vs) r3 h2 fun σ4 ρ4 R4 t4 h4 => ⟨wipe_took t4 hv, ?_⟩
    refine ht R4 h4 fun b G5 H5 R5 g5 h5 => ?_
    have e5 : H5 p = some (.lst xs) := g5.hp _ _ hF e3
    have p5 : G5 p = none := gr_out g5 p3 e3
    have R5' : Rs K F G5 H5 w σ ρ := R3.grow g5 R5.sub R5.fok
    have gg5 : Gr F G1 H1 G5 H5 := (g2.trans g3.any).trans g5
    cases b with
    | false =>
      rw [if_neg Bool.false_ne_true]
      exact ⟨hlt, G5, xs, acc, R5', gg5, p5, e5, RpL.mono (g3.gs.trans g5.gs) _ _ r2, by omega, h5⟩
    | true =>
      rw [if_pos rfl]
      refine he R5 h5 fun v d G6 H6 R6 g6 rv h6 => ?_
      have e6 : H6 p = some (.lst xs) := g6.hp _ _ hF e5
      have p6 : G6 p = none := gr_out g6 p5 e5
      have R6' : Rs K F G6 H6 w σ ρ := R5'.grow g6 R6.sub R6.fok
      have r6 : RpL K G6 xs acc := RpL.mono ((g3.gs.trans g5.gs).trans g6.gs) _ _ r2
      have nown : ∀ j s, ρ[j]? = some s → SlR K F G6 (upd H6 p (.lst (xs ++ [v]))) w j (σ[j]?) s := fun j s hj => by
        have q6 := R6'.at_ j s hj
        have q1 := R1.at_ j s hj
        cases s with
        | un => trivial
        | da d => exact q6
        | ow es =>
          obtain ⟨a, ys, z1, k1, k2, k3, k4, k5⟩ := q6
          obtain ⟨a', ys', z1', k1', _⟩ := q1
          rw [z1] at z1'; cases z1'
          exact ⟨a, ys, z1, by rw [upd_ne (ne_of_none k1' hp)]; exact k1, k2, k3, k4, k5⟩
        | od es =>
          obtain ⟨a, ys, z1, k1, k2, k3, k4, k5⟩ := q6
          obtain ⟨a', ys', z1', k1', _⟩ := q1
          rw [z1] at z1'; cases z1'
          exact ⟨a, ys, z1, by rw [upd_ne (ne_of_none k1' hp)]; exact k1, k2, k3, k4, k5⟩
        | fd => exact q6
        | ob _ => exact q6
      refine ⟨xs, e6, ?_, hlt, G6, xs ++ [v], acc ++ [d], ⟨R6'.sub.updH p6, R6'.len, nown, fun f ef => ?_⟩, (gg5.trans g6).out hp, p6, upd_same, r6.snoc rv, by rw [List.length_append, List.length_singleton]; omega, h6⟩
      · rw [r6.length]; exact Nat.lt_of_lt_of_le (show acc.length < 1001 by omega) (by decide)
      · obtain ⟨c, ns, i, l, n, k1, k2, k3, k4, kt⟩ := R6'.fok f ef
        exact ⟨c, ns, i, l, n, k1, k2, k3, by rw [upd_ne (fun z => hF (by rw [ef, z]))]; exact k4, kt.updH (nteL e6)⟩
  · left
    have e : i = ds.length := by omega
    subst e
    rw [List.drop_length] at h2
    refine ⟨hstop (Nat.le_refl _), ?_⟩
    have s1 : Sub G2 (upd G2 p (.lst xs)) := fun b u e => by rw [upd_ne (ne_of_none e p2)]; exact e
    have R7 : Rs K F (upd G2 p (.lst xs)) H2 w σ ρ := by
      refine ⟨fun b u e => ?_, R2.len, fun j s hj => ?_, fun f ef => ?_⟩
      · by_cases z : b = p
        · rw [z, upd_same] at e; rw [z, e2]; exact e
        · rw [upd_ne z] at e; exact R2.sub b u e
      · have q2 := R2.at_ j s hj
        have q1 := R1.at_ j s hj
        cases s with
        | un => trivial
        | da d => obtain ⟨v, e2, r⟩ := q2; exact ⟨v, e2, Rp.mono s1 _ _ r⟩
        | ow es =>
          obtain ⟨a, ys, z1, k1, k2, k3, k4, k5⟩ := q2
          obtain ⟨a', ys', z1', k1', _⟩ := q1
          rw [z1] at z1'; cases z1'
          exact ⟨a, ys, z1, k1, by rw [upd_ne (ne_of_none k1' hp)]; exact k2, k3, k4, RpL.mono s1 _ _ k5⟩
        | od es =>
          obtain ⟨a, ys, z1, k1, k2, k3, k4, k5⟩ := q2
          obtain ⟨a', ys', z1', k1', _⟩ := q1
          rw [z1] at z1'; cases z1'
          exact ⟨a, ys, z1, k1, by rw [upd_ne (ne_of_none k1' hp)]; exact k2, k3, k4, RpT.mono s1 k5⟩
        | fd => exact q2
        | ob _ => exact q2
      · obtain ⟨c, ns, i, l, n, k1, k2, k3, k4, kt⟩ := R2.fok f ef
        exact ⟨c, ns, i, l, n, by rw [upd_ne (fun z => hF (by rw [ef, z]))]; exact k1, s1 _ _ k2, k3, k4, kt.updG (nteL e2)⟩
    refine q _ _ _ _ R7 (g1.trans ⟨g2.hq, g2.tb, g2.th, g2.gs.trans s1, fun b u e => ?_⟩) (.lst upd_same (RpL.mono s1 _ _ r2)) h2
    by_cases z : b = p
    · rw [z]; exact .inr hp
    · rw [upd_ne z] at e; exact g2.fr b u e
end
section
variable {X : Cx} {elt tg iter : Expr} {ifs : List Expr} {scope : Scope} {own : List (Str × Nat)} {pos : Pos} {wi : TI} {g : TG} {tt : TT} {te : TE} {W : WA} {Wg : WG} {T : WT} {We : WE} {ix : List Nat}
theorem ew_lc (own : List (Str × Nat)) (hN : X.N.Nodup) (hi : IW X tg iter wi W) (ok : blkC X.N X.env.scope scope own = true)
    (hg : ∀ (s : Shared) (H : Hp) (C : Addr) (cl : List (Str × Addr)) (fp : List Addr), GW (X.blk s H scope (compEnvC scope cl C X.env) fp) tg g Wg ix) (ht : ∀ (s : Shared) (H : Hp) (C : Addr) (cl : List (Str × Addr)) (fp : List Addr), QW (X.blk s H scope (compEnvC scope cl C X.env) fp) ifs tt T)
    (he : ∀ (s : Shared) (H : Hp) (C : Addr) (cl : List (Str × Addr)) (fp : List Addr), EW (X.blk s H scope (compEnvC scope cl C X.env) fp) elt te We) (hv : ∀ j ∈ ix, j ∈ own.map (·.2) := by decide) (hc : X.calm = true := by rfl) (hs : ∀ x, foldedSetIterable iter X.env x = pure x := by intro _; rfl) :
    EW X (.ListComp elt [⟨tg, iter, ifs, 0⟩] scope pos) (tLc wi g tt te (own.map (·.2))) (wLc W Wg T We (own.map (·.2))) :=
  have s0 : Shared := X.s_0
  ⟨pe_lc hc hN hi.pi (blkOk_by ok) (fun s H C cl fp => (hg s H C cl fp).pg) (fun s H C cl fp => (ht s H C cl fp).pt) (fun s H C cl fp => (he s H C cl fp).pe) hs,
    li_lc (K := X.K) hi.li (hg X.s_0 X.H_0 0 [] []).li (ht X.s_0 X.H_0 0 [] []).li (he X.s_0 X.H_0 0 [] []).li hv⟩
/-- name = [..] on one line, the name a local -/
theorem sw_setLc {i : Nat} {y : Str} {py spos : Pos} (own : List (Str × Nat)) (hN : X.N.Nodup) (hi : IW X tg iter wi W) (ok : blkC X.N X.env.scope scope own = true)
    (hg : ∀ (s : Shared) (H : Hp) (C : Addr) (cl : List (Str × Addr)) (fp : List Addr), GW (X.blk s H scope (compEnvC scope cl C X.env) fp) tg g Wg ix) (ht : ∀ (s : Shared) (H : Hp) (C : Addr) (cl : List (Str × Addr)) (fp : List Addr), QW (X.blk s H scope (compEnvC scope cl C X.env) fp) ifs tt T)
    (he : ∀ (s : Shared) (H : Hp) (C : Addr) (cl : List (Str × Addr)) (fp : List Addr), EW (X.blk s H scope (compEnvC scope cl C X.env) fp) elt te We)
    (hp : PS X (.Assign [.Name y py] (.ListComp elt [⟨tg, iter, ifs, 0⟩] scope pos) spos) (tAsg (tLc wi g tt te (own.map (·.2))) (gName i))) (hv : ∀ j ∈ ix, j ∈ own.map (·.2) := by decide) :
    SW X (.Assign [.Name y py] (.ListComp elt [⟨tg, iter, ifs, 0⟩] scope pos) spos) (tAsg (tLc wi g tt te (own.map (·.2))) (gName i)) (wAsg (wLc W Wg T We (own.map (·.2))) (gwName i)) :=
  ⟨hp, li_asg (K := X.K) (ix := [i]) (li_lc (K := X.K) hi.li (hg X.s_0 X.H_0 0 [] []).li (ht X.s_0 X.H_0 0 [] []).li (he X.s_0 X.H_0 0 [] []).li hv) fun R r h q => q _ _ (R.set r) (took_set i _ _ R.len) h⟩
end
end Wd
set_option maxRecDepth 100000
set_option maxHeartbeats 2000000
namespace Wd
open PySem PySem.Spec PyProof.Rows L2
/-! ### operators on data -/
section
variable {K : PySem.W.Frag}
theorem lop_ii {g : Int → Int → Int} {f : D → D → Option D} (hf : ∀ x y d, f x y = some d → ∃ i j, x = .int i ∧ y = .int j ∧ d = .int (g i j)) : LOp K (rI0 fun i j => .int (g i j)) f := fun {G H x y dx dy d Q} s rx ry e q => by
  obtain ⟨i, j, rfl, rfl, rfl⟩ := hf _ _ _ e
  cases rx; cases ry
  exact ⟨i, j, rfl, rfl, q _ G H s (Gr.refl ..) (.int _)⟩
theorem lop_ic {C : Int → Int → Prop} {g : Int → Int → Int} {f : D → D → Option D} (hf : ∀ x y d, f x y = some d → ∃ i j, x = .int i ∧ y = .int j ∧ d = .int (g i j) ∧ C i j) : LOp K (rI C fun i j => .int (g i j)) f := fun {G H x y dx dy d Q} s rx ry e q => by
  obtain ⟨i, j, rfl, rfl, rfl, hc⟩ := hf _ _ _ e
  cases rx; cases ry
  exact ⟨i, j, rfl, rfl, hc, q _ G H s (Gr.refl ..) (.int _)⟩
theorem lop_ib {g : Int → Int → Bool} {f : D → D → Option D} (hf : ∀ x y d, f x y = some d → ∃ i j, x = .int i ∧ y = .int j ∧ d = .bl (g i j)) : LOp K (rI0 fun i j => .bl (g i j)) f := fun {G H x y dx dy d Q} s rx ry e q => by
  obtain ⟨i, j, rfl, rfl, rfl⟩ := hf _ _ _ e
  cases rx; cases ry
  exact ⟨i, j, rfl, rfl, q _ G H s (Gr.refl ..) (.bl _)⟩
def addI : D → D → Option D
  | .int a, .int b => some (.int (a + b))
  | _, _ => none
def subI : D → D → Option D
  | .int a, .int b => some (.int (a - b))
  | _, _ => none
def mulI : D → D → Option D
  | .int a, .int b => if -(2 ^ 64) < a ∧ a < 2 ^ 64 then some (.int (a * b)) else none
  | _, _ => none
def divI : D → D → Option D
  | .int a, .int b => if 0 < b ∧ b < 1073741824 then some (.int (a / b)) else none
  | _, _ => none
def modI : D → D → Option D
  | .int a, .int b => if 0 < b then some (.int (a % b)) else none
  | _, _ => none
def powI : D → D → Option D
  | .int a, .int b => if 0 ≤ b ∧ b ≤ 1000000 ∧ a.natAbs < 2 ^ 64 then some (.int (a ^ b.toNat)) else none
  | _, _ => none
def ltI : D → D → Option D
  | .int a, .int b => some (.bl (decide (a < b)))
  | _, _ => none
def leI : D → D → Option D
  | .int a, .int b => some (.bl (decide (a ≤ b)))
  | _, _ => none
def gtI : D → D → Option D
  | .int a, .int b => some (.bl (decide (b < a)))
  | _, _ => none
def geI : D → D → Option D
  | .int a, .int b => some (.bl (decide (b ≤ a)))
  | _, _ => none
theorem lo_add : LOp K (rI0 fun i j => .int (i + j)) addI := lop_ii fun x y d h => by
  unfold addI at h
  split at h
  · cases h; exact ⟨_, _, rfl, rfl, rfl⟩
  · cases h
theorem lo_sub : LOp K (rI0 fun i j => .int (i - j)) subI := lop_ii fun x y d h => by
  unfold subI at h
  split at h
  · cases h; exact ⟨_, _, rfl, rfl, rfl⟩
  · cases h
theorem lo_mul : LOp K (rI CMul fun i j => .int (i * j)) mulI := lop_ic fun x y d h => by
  unfold mulI at h
  split at h
  · split at h
    · rename_i hc; cases h; exact ⟨_, _, rfl, rfl, rfl, .inl hc⟩
    · cases h
  · cases h
theorem lo_div : LOp K (rI CDiv fun i j => .int (i / j)) divI := lop_ic fun x y d h => by
  unfold divI at h
  split at h
  · split at h
    · rename_i hc; cases h; exact ⟨_, _, rfl, rfl, rfl, hc⟩
    · cases h
  · cases h
theorem lo_mod : LOp K (rI (fun _ j => 0 < j) fun i j => .int (i % j)) modI := lop_ic fun x y d h => by
  unfold modI at h
  split at h
  · split at h
    · rename_i hc; cases h; exact ⟨_, _, rfl, rfl, rfl, hc⟩
    · cases h
  · cases h
theorem lo_pow : LOp K (rI CPow fun i j => .int (i ^ j.toNat)) powI := lop_ic fun x y d h => by
  unfold powI at h
  split at h
  · split at h
    · rename_i hc; cases h; exact ⟨_, _, rfl, rfl, rfl, hc⟩
    · cases h
  · cases h
theorem lo_lt : LOp K (rI0 fun i j => .bl (decide (i < j))) ltI := lop_ib fun x y d h => by
  unfold ltI at h
  split at h
  · cases h; exact ⟨_, _, rfl, rfl, rfl⟩
  · cases h
theorem lo_le : LOp K (rI0 fun i j => .bl (decide (i ≤ j))) leI := lop_ib fun x y d h => by
  unfold leI at h
  split at h
  · cases h; exact ⟨_, _, rfl, rfl, rfl⟩
  · cases h
theorem lo_gt : LOp K (rI0 fun i j => .bl (decide (j < i))) gtI := lop_ib (g := fun i j => decide (j < i)) fun x y d h => by
  unfold gtI at h
  split at h
  · cases h; exact ⟨_, _, rfl, rfl, rfl⟩
  · cases h
theorem lo_ge : LOp K (rI0 fun i j => .bl (decide (j ≤ i))) geI := lop_ib (g := fun i j => decide (j ≤ i)) fun x y d h => by
  unfold geI at h
  split at h
  · cases h; exact ⟨_, _, rfl, rfl, rfl⟩
  · cases h
/-- -n -/
def negI : D → Option D
  | .int a => some (.int (-a))
  | _ => none
theorem lo_neg : LUn K (rU fun i => .int (-i)) negI := fun {G H x dx d Q} s rx e q => by
  unfold negI at e
  split at e
  · cases e; cases rx; exact ⟨_, rfl, q _ G H s (Gr.refl ..) (.int _)⟩
  · cases e
/-! is None -/
def isNon : D → Bool
  | .non => true
  | _ => false
def isN : D → D → Option D
  | a, .non => some (.bl (isNon a))
  | _, _ => none
def notN : D → D → Option D
  | a, .non => some (.bl (!isNon a))
  | _, _ => none
theorem rp_non {G : Hp} {v : V} {d : D} (r : Rp K G v d) : decide (v = .non) = isNon d := by
  cases r <;> rfl
theorem lo_isN : LOp K (fun x y H Q => y = .non ∧ Q (.bl (decide (x = .non))) H) isN := fun {G H x y dx dy d Q} s rx ry e q => by
  unfold isN at e
  split at e
  · cases e
    cases ry
    refine ⟨rfl, ?_⟩
    rw [rp_non rx]
    exact q _ G H s (Gr.refl ..) (.bl _)
  · cases e
theorem lo_notN : LOp K (fun x y H Q => y = .non ∧ Q (.bl (!decide (x = .non))) H) notN := fun {G H x y dx dy d Q} s rx ry e q => by
  unfold notN at e
  split at e
  · cases e
    cases ry
    refine ⟨rfl, ?_⟩
    rw [rp_non rx]
    exact q _ G H s (Gr.refl ..) (.bl _)
  · cases e
/-! subscripts -/
def intsAll (ks : List Int) : List D := ks.map D.int
theorem rpl_ints {G : Hp} : ∀ ks : List Int, RpL K G (ks.map V.int) (intsAll ks)
  | [] => .nil
  | k :: ks => .cons (.int k) (rpl_ints ks)
def ixD : D → D → Option D
  | .tup ds, .int i => atI ds i
  | .wtp ds, .int i => atI ds i
  | .lst ds, .int i => atI ds i
  | _, _ => none
theorem atI_rp {G : Hp} {xs : List V} {ds : List D} {i : Int} {d : D} (r : RpL K G xs ds) (h : atI ds i = some d) : ∃ v, atI xs i = some v ∧ Rp K G v d := by
  unfold atI at h ⊢
  rw [r.length]
  cases e : ixN ds.length i with
  | none => rw [e] at h; cases h
  | some j =>
    rw [e] at h
    exact r.get h
theorem lo_ix : LOp K (rIx K) ixD := fun {G H x y dx dy d Q} s rx ry e q => by
  unfold ixD at e
  split at e
  · cases rx with
    | tup h r =>
      cases ry
      obtain ⟨v, ev, rv⟩ := atI_rp r e
      exact .inr (.inl ⟨_, _, _, v, rfl, rfl, s.sqT h.sq, ev, q v G H s (Gr.refl ..) rv⟩)
  · cases rx with
    | wtp h r =>
      cases ry
      obtain ⟨v, ev, rv⟩ := atI_rp r e
      exact .inr (.inl ⟨_, _, _, v, rfl, rfl, s.sqT h, ev, q v G H s (Gr.refl ..) rv⟩)
  · cases rx with
    | lst h r =>
      cases ry
      obtain ⟨v, ev, rv⟩ := atI_rp r e
      exact .inl ⟨_, _, _, v, rfl, rfl, SqL.of (s _ _ h), ev, q v G H s (Gr.refl ..) rv⟩
  · cases e
/-! lists, tuples put together -/
def addL : D → D → Option D
  | .lst a, .lst b => if a.length + b.length ≤ 1000 then some (.lst (a ++ b)) else none
  | _, _ => none
theorem lo_addL : LOp K rCat addL := fun {G H x y dx dy d Q} s rx ry e q => by
  unfold addL at e
  split at e
  · split at e
    · rename_i hl
      cases e
      cases rx with
      | lst h1 r1 =>
        cases ry with
        | lst h2 r2 =>
          refine ⟨_, _, _, _, rfl, rfl, s _ _ h1, s _ _ h2, by rw [r1.length, r2.length]; exact line1000 hl, fun p hp => ?_⟩
          exact q _ _ _ s.new (Gr.new hp s) (.lst upd_same (RpL.mono (Gr.new (F := none) hp s).gs _ _ (r1.append r2)))
    · cases e
  · cases e
/-- keys: tuples of ints -/
def addK : D → D → Option D
  | .key a, .key b => if a.length + b.length ≤ 1000 then some (.key (a ++ b)) else none
  | _, _ => none
theorem lo_addK : LOp K (rCatA K) addK := fun {G H x y dx dy d Q} s rx ry e q => by
  unfold addK at e
  split at e
  · rename_i a b
    split at e
    · rename_i hl
      cases e
      cases rx with
      | key h1 =>
        cases ry with
        | key h2 =>
          refine ⟨_, _, _, _, rfl, rfl, SqT.of (s _ _ h1), SqT.of (s _ _ h2), by rw [List.length_map, List.length_map]; exact line1000 hl, fun e => ?_, fun _ e => ?_, fun _ _ p hp => ?_⟩
          · have ea : a = [] := List.map_eq_nil_iff.mp e
            subst ea
            exact q _ G H s (Gr.refl ..) (.key h2)
          · have eb : b = [] := List.map_eq_nil_iff.mp e
            subst eb
            exact q _ G H s (Gr.refl ..) (.key (by rw [List.append_nil]; exact h1))
          · exact q _ _ _ s.new (Gr.new hp s) (.key (by rw [upd_same, List.map_append]))
    · cases e
  · cases e
/-! == of data of any depth -/
mutual
def toPy : D → Option PyData
  | .non => some .none
  | .bl b => some (.bool b)
  | .int i => some (.int i)
  | .str x => some (.str x)
  | .tup ds => (toPyL ds).map .tuple
  | .wtp ds => (toPyL ds).map .tuple
  | .lst ds => (toPyL ds).map .list
  | .key ks => some (.tuple (ks.map .int))
  | .dic _ => none
  | .due _ => none
def toPyL : List D → Option (List PyData)
  | [] => some []
  | d :: r => match toPy d, toPyL r with
    | some p, some q => some (p :: q)
    | _, _ => none
end
theorem dpAll_ints {H : Hp} : ∀ ks : List Int, DpAll K H (ks.map V.int) (ks.map PyData.int)
  | [] => .nil
  | k :: ks => .cons (.int k) (dpAll_ints ks)
mutual
theorem toPy_dp {G H : Hp} (s : Sub G H) : ∀ (d : D) (v : V) (p : PyData), toPy d = some p → Rp K G v d → Dp K H v p
  | .non, _, _, e, .non => by cases e; exact .non
  | .bl _, _, _, e, .bl _ => by cases e; exact .bl _
  | .int _, _, _, e, .int _ => by cases e; exact .int _
  | .str _, _, _, e, .str _ => by cases e; exact .str _
  | .tup ds, _, p, e, .tup h r => by
    unfold toPy at e
    cases q : toPyL ds with
    | none => rw [q] at e; cases e
    | some l => rw [q] at e; cases e; exact .tup (s.sqT h.sq) (toPyL_dp s ds _ l q r)
  | .wtp ds, _, p, e, .wtp h r => by
    unfold toPy at e
    cases q : toPyL ds with
    | none => rw [q] at e; cases e
    | some l => rw [q] at e; cases e; exact .tup (s.sqT h) (toPyL_dp s ds _ l q r)
  | .lst ds, _, p, e, .lst h r => by
    unfold toPy at e
    cases q : toPyL ds with
    | none => rw [q] at e; cases e
    | some l => rw [q] at e; cases e; exact .lst (SqL.of (s _ _ h)) (toPyL_dp s ds _ l q r)
  | .key ks, _, p, e, .key h => by cases e; exact .tup (SqT.of (s _ _ h)) (dpAll_ints ks)
theorem toPyL_dp {G H : Hp} (s : Sub G H) : ∀ (ds : List D) (vs : List V) (ps : List PyData), toPyL ds = some ps → RpL K G vs ds → DpAll K H vs ps
  | [], _, _, e, .nil => by cases e; exact .nil
  | d :: r, _, ps, e, .cons h t => by
    unfold toPyL at e
    cases q : toPy d with
    | none => rw [q] at e; cases e
    | some p =>
      rw [q] at e
      cases q2 : toPyL r with
      | none => rw [q2] at e; cases e
      | some l => rw [q2] at e; cases e; exact .cons (toPy_dp s d _ p q h) (toPyL_dp s r _ l q2 t)
end
/-- data, as the library's == reads it -/
def shD (d : D) (k : PyData → Option D) : Option D := match toPy d with
  | some p => if SeqAt.shaped p = true then k p else none
  | none => none
def eqD : D → D → Option D
  | .int a, .int b => some (.bl (decide (a = b)))
  | .str a, .str b => some (.bl (decide (a = b)))
  | .bl a, .bl b => some (.bl (decide (a = b)))
  | x, y => shD x fun p => shD y fun q => some (.bl (PyData.eqv p q))
def neD : D → D → Option D
  | .int a, .int b => some (.bl (!decide (a = b)))
  | .str a, .str b => some (.bl (!decide (a = b)))
  | .bl a, .bl b => some (.bl (!decide (a = b)))
  | x, y => shD x fun p => shD y fun q => some (.bl (!PyData.eqv p q))
theorem shD_some {d : D} {k : PyData → Option D} {r : D} (h : shD d k = some r) : ∃ p, toPy d = some p ∧ SeqAt.shaped p = true ∧ k p = some r := by
  unfold shD at h
  split at h
  · rename_i p e
    split at h
    · rename_i hs; exact ⟨p, e, hs, h⟩
    · cases h
  · cases h
abbrev rEq2 (K : PySem.W.Frag) : R2 := fun x y H Q => rEq x y H Q ∨ rEqD K x y H Q
abbrev rNe2 (K : PySem.W.Frag) : R2 := fun x y H Q => rNe x y H Q ∨ rNeD K x y H Q
theorem lo_eq : LOp K (rEq2 K) eqD := fun {G H x y dx dy d Q} s rx ry e q => by
  unfold eqD at e
  split at e
  · cases e; cases rx; cases ry
    refine .inl ⟨rfl, ?_⟩
    rw [decide_eq_decide.mpr (⟨V.int.inj, congrArg V.int⟩ : V.int _ = V.int _ ↔ _)]
    exact q _ G H s (Gr.refl ..) (.bl _)
  · cases e; cases rx; cases ry
    refine .inl ⟨rfl, ?_⟩
    rw [decide_eq_decide.mpr (⟨V.str.inj, congrArg V.str⟩ : V.str _ = V.str _ ↔ _)]
    exact q _ G H s (Gr.refl ..) (.bl _)
  · cases e; cases rx; cases ry
    refine .inl ⟨rfl, ?_⟩
    rw [decide_eq_decide.mpr (⟨V.bl.inj, congrArg V.bl⟩ : V.bl _ = V.bl _ ↔ _)]
    exact q _ G H s (Gr.refl ..) (.bl _)
  · obtain ⟨p, e1, s1, e⟩ := shD_some e
    obtain ⟨p2, e2, s2, e⟩ := shD_some e
    cases e
    exact .inr ⟨p, p2, toPy_dp s _ _ _ e1 rx, toPy_dp s _ _ _ e2 ry, s1, s2, q _ G H s (Gr.refl ..) (.bl _)⟩
theorem lo_ne : LOp K (rNe2 K) neD := fun {G H x y dx dy d Q} s rx ry e q => by
  unfold neD at e
  split at e
  · cases e; cases rx; cases ry
    refine .inl ⟨rfl, ?_⟩
    rw [decide_eq_decide.mpr (⟨V.int.inj, congrArg V.int⟩ : V.int _ = V.int _ ↔ _)]
    exact q _ G H s (Gr.refl ..) (.bl _)
  · cases e; cases rx; cases ry
    refine .inl ⟨rfl, ?_⟩
    rw [decide_eq_decide.mpr (⟨V.str.inj, congrArg V.str⟩ : V.str _ = V.str _ ↔ _)]
    exact q _ G H s (Gr.refl ..) (.bl _)
  · cases e; cases rx; cases ry
    refine .inl ⟨rfl, ?_⟩
    rw [decide_eq_decide.mpr (⟨V.bl.inj, congrArg V.bl⟩ : V.bl _ = V.bl _ ↔ _)]
    exact q _ G H s (Gr.refl ..) (.bl _)
  · obtain ⟨p, e1, s1, e⟩ := shD_some e
    obtain ⟨p2, e2, s2, e⟩ := shD_some e
    cases e
    exact .inr ⟨p, p2, toPy_dp s _ _ _ e1 rx, toPy_dp s _ _ _ e2 ry, s1, s2, q _ G H s (Gr.refl ..) (.bl _)⟩
/-! in, not in: flat things -/
def flatD : D → Bool
  | .non => true
  | .bl _ => true
  | .int _ => true
  | .str _ => true
  | _ => false
def eqF : D → D → Bool
  | .non, .non => true
  | .bl a, .bl b => a == b
  | .bl a, .int b => (if a then 1 else 0) == b
  | .int a, .bl b => a == (if b then 1 else 0)
  | .int a, .int b => a == b
  | .str a, .str b => a == b
  | _, _ => false
def seqOf : D → Option (List D)
  | .tup ds => some ds
  | .wtp ds => some ds
  | .lst ds => some ds
  | _ => none
def inD (neg : Bool) : D → D → Option D := fun x y => match seqOf y with
  | some ds => if flatD x = true ∧ ds.all flatD = true then some (.bl (if neg then !(ds.any fun z => eqF z x) else ds.any fun z => eqF z x)) else none
  | none => none
theorem flat_rp {G : Hp} {v : V} {d : D} (r : Rp K G v d) (h : flatD d = true) : flatV v = true := by
  cases r <;> first | rfl | cases h
theorem flat_rpl {G : Hp} : ∀ {vs : List V} {ds : List D}, RpL K G vs ds → ds.all flatD = true → vs.all flatV = true
  | _, _, .nil, _ => rfl
  | _, _, .cons r t, h => by
    rw [List.all_cons, Bool.and_eq_true] at h
    rw [List.all_cons, Bool.and_eq_true]
    exact ⟨flat_rp r h.1, flat_rpl t h.2⟩
theorem eqF_rp {G : Hp} {v u : V} {d e : D} (r : Rp K G v d) (q : Rp K G u e) (h : flatD d = true) (h2 : flatD e = true) : eqV v u = eqF d e := by
  cases r <;> first | (cases q <;> first | rfl | cases h2) | cases h
theorem any_rp {G : Hp} {u : V} {e : D} (q : Rp K G u e) (h2 : flatD e = true) : ∀ {vs : List V} {ds : List D}, RpL K G vs ds → ds.all flatD = true → inV u vs = ds.any fun z => eqF z e
  | _, _, .nil, _ => rfl
  | _, _, .cons r t, h => by
    rw [List.all_cons, Bool.and_eq_true] at h
    have ih := any_rp q h2 t h.2
    unfold inV at ih ⊢
    rw [List.any_cons, List.any_cons, ih, eqF_rp r q h.1 h2]
theorem lo_in (neg : Bool) : LOp K (rIn K neg) (inD neg) := fun {G H x y dx dy d Q} s rx ry e q => by
  unfold inD at e
  split at e
  · rename_i ds eq
    split at e
    · rename_i hf
      cases e
      have key : ∀ (p : Addr) (xs : List V), y = .ref p → (SqL K H p xs ∨ SqT K H p xs) → RpL K G xs ds → rIn K neg x y H Q := fun p xs e1 hs r => by
        refine ⟨p, xs, e1, hs, flat_rp rx hf.1, flat_rpl r hf.2, ?_⟩
        rw [any_rp rx hf.1 r hf.2]
        exact q _ G H s (Gr.refl ..) (.bl _)
      unfold seqOf at eq
      split at eq
      · cases eq; cases ry with | tup h r => exact key _ _ rfl (.inr (s.sqT h.sq)) r
      · cases eq; cases ry with | wtp h r => exact key _ _ rfl (.inr (s.sqT h)) r
      · cases eq; cases ry with | lst h r => exact key _ _ rfl (.inl (SqL.of (s _ _ h))) r
      · cases eq
    · cases e
  · cases e
/-- a sign in a text -/
def inS : D → D → Option D
  | .str c, .str z => if c.cps.size = 1 then some (.bl (decide (c.cps.getD 0 0 ∈ z.cps.toList))) else none
  | _, _ => none
theorem lo_inS : LOp K (fun x y H Q => ∃ (c : Nat) (z : Str), x = .str ⟨#[c]⟩ ∧ y = .str z ∧ Q (.bl (decide (c ∈ z.cps.toList))) H) inS := fun {G H x y dx dy d Q} s rx ry e q => by
  unfold inS at e
  split at e
  · rename_i c z
    split at e
    · rename_i hc
      cases e; cases rx; cases ry
      refine ⟨c.cps.getD 0 0, z, ?_, rfl, q _ G H s (Gr.refl ..) (.bl _)⟩
      obtain ⟨⟨l⟩⟩ := c
      match l, hc with
      | [a], _ => rfl
    · cases e
  · cases e
end
end Wd
set_option maxRecDepth 100000
set_option maxHeartbeats 2000000
namespace Wd
open PySem PySem.Spec PyProof.Rows L2
/-! ### calls of built-ins on data -/
def lenD : List D → Option D
  | [.str x] => if x.length ≤ 1000 then some (.int x.length) else none
  | [.tup ds] => some (.int ds.length)
  | [.wtp ds] => some (.int ds.length)
  | [.lst ds] => some (.int ds.length)
  | _ => none
def min2D : List D → Option D
  | [.int i, .int j] => some (.int (if j < i then j else i))
  | _ => none
def max2D : List D → Option D
  | [.int i, .int j] => some (.int (if j > i then j else i))
  | _ => none
def intD : List D → Option D
  | [.int i] => some (.int i)
  | _ => none
def sumD : List D → Option D
  | [.lst ds] => (intsD ds).map fun ns => .int ns.sum
  | _ => none
def minD : List D → Option D
  | [.lst ds] => (intsD ds).bind fun ns => ns.min?.map D.int
  | _ => none
def maxD : List D → Option D
  | [.lst ds] => (intsD ds).bind fun ns => ns.max?.map D.int
  | _ => none
def blsD : List D → Option (List Bool)
  | [] => some []
  | .bl i :: r => (blsD r).map (i :: ·)
  | _ :: _ => none
def allD : List D → Option D
  | [.lst ds] => (blsD ds).map fun bs => .bl (bs.all id)
  | _ => none
def anyD : List D → Option D
  | [.lst ds] => (blsD ds).map fun bs => .bl (bs.any id)
  | _ => none
def tupD : List D → Option D
  | [.lst ds] => some (.tup ds)
  | [.tup ds] => some (.tup ds)
  | _ => none
def lstD : List D → Option D
  | [.lst ds] => some (.lst ds)
  | [.tup ds] => some (.lst ds)
  | _ => none
theorem blsD_of {K : PySem.W.Frag} {G : Hp} : ∀ {ds : List D} {vs : List V} {ks : List Bool}, blsD ds = some ks → RpL K G vs ds → vs = ks.map V.bl
  | [], _, ks, e, .nil => by cases e; rfl
  | .bl i :: r, _, ks, e, .cons h t => by
    unfold blsD at e
    cases q : blsD r with
    | none => rw [q] at e; cases e
    | some l =>
      rw [q] at e
      cases e
      cases h
      rw [blsD_of q t]
      rfl
section
variable {X : Cx} {K : PySem.W.Frag}
theorem lc_len : LCall X.K (fun xs H Q => ∃ x n, xs = [x] ∧ LenV X.K x H n ∧ Q (.int n) H) lenD := fun {G H xs ds d Q} s r e q => by
  unfold lenD at e
  split at e
  · rename_i x
    split at e
    · rename_i hl
      cases e
      cases r with | cons r rr =>
        cases rr; cases r
        exact ⟨_, _, rfl, ⟨line1000 hl, rfl⟩, q _ G H s (Gr.refl ..) (.int _)⟩
    · cases e
  · cases e
    cases r with | cons r rr =>
      cases rr
      cases r with | tup h r => exact ⟨_, _, rfl, .inr ⟨_, s.sqT h.sq, rfl⟩, by rw [r.length]; exact q _ G H s (Gr.refl ..) (.int _)⟩
  · cases e
    cases r with | cons r rr =>
      cases rr
      cases r with | wtp h r => exact ⟨_, _, rfl, .inr ⟨_, s.sqT h, rfl⟩, by rw [r.length]; exact q _ G H s (Gr.refl ..) (.int _)⟩
  · cases e
    cases r with | cons r rr =>
      cases rr
      cases r with | lst h r => exact ⟨_, _, rfl, .inl ⟨_, SqL.of (s _ _ h), rfl⟩, by rw [r.length]; exact q _ G H s (Gr.refl ..) (.int _)⟩
  · cases e
theorem rpl1 {G : Hp} {xs : List V} {d : D} (r : RpL K G xs [d]) : ∃ v, xs = [v] ∧ Rp K G v d := by
  cases r with | cons r rr => cases rr; exact ⟨_, rfl, r⟩
theorem rpl2 {G : Hp} {xs : List V} {d e : D} (r : RpL K G xs [d, e]) : ∃ v u, xs = [v, u] ∧ Rp K G v d ∧ Rp K G u e := by
  cases r with | cons r rr => cases rr with | cons r2 rr => cases rr; exact ⟨_, _, rfl, r, r2⟩
theorem lc_min2 : LCall K (fun xs H Q => ∃ i j, xs = [.int i, .int j] ∧ Q (.int (if j < i then j else i)) H) min2D := fun {G H xs ds d Q} s r e q => by
  unfold min2D at e
  split at e
  · cases e
    obtain ⟨v, u, rfl, r1, r2⟩ := rpl2 r
    cases r1; cases r2
    exact ⟨_, _, rfl, q _ G H s (Gr.refl ..) (.int _)⟩
  · cases e
theorem lc_max2 : LCall K (fun xs H Q => ∃ i j, xs = [.int i, .int j] ∧ Q (.int (if j > i then j else i)) H) max2D := fun {G H xs ds d Q} s r e q => by
  unfold max2D at e
  split at e
  · cases e
    obtain ⟨v, u, rfl, r1, r2⟩ := rpl2 r
    cases r1; cases r2
    exact ⟨_, _, rfl, q _ G H s (Gr.refl ..) (.int _)⟩
  · cases e
theorem lc_int : LCall K (fun xs H Q => (∃ i, xs = [.int i] ∧ Q (.int i) H) ∨ ∃ k, xs = [.bl k] ∧ Q (.int (if k then 1 else 0)) H) intD := fun {G H xs ds d Q} s r e q => by
  unfold intD at e
  split at e
  · cases e
    obtain ⟨v, rfl, r1⟩ := rpl1 r
    cases r1
    exact .inl ⟨_, rfl, q _ G H s (Gr.refl ..) (.int _)⟩
  · cases e
theorem lc_sum : LCall K (rSum K) sumD := fun {G H xs ds d Q} s r e q => by
  unfold sumD at e
  split at e
  · rename_i l
    obtain ⟨v, rfl, r1⟩ := rpl1 r
    cases r1 with | lst h r =>
      cases ei : intsD l with
      | none => rw [ei] at e; cases e
      | some ns =>
        rw [ei] at e; cases e
        have ev := intsD_of ei r
        subst ev
        exact ⟨_, ns, rfl, SqL.of (s _ _ h), q _ G H s (Gr.refl ..) (.int _)⟩
  · cases e
theorem lc_min : LCall K (rMin K) minD := fun {G H xs ds d Q} s r e q => by
  unfold minD at e
  split at e
  · rename_i l
    obtain ⟨v, rfl, r1⟩ := rpl1 r
    cases r1 with | lst h r =>
      cases ei : intsD l with
      | none => rw [ei] at e; cases e
      | some ns =>
        rw [ei] at e
        have ev := intsD_of ei r
        subst ev
        cases em : ns.min? with
        | none => simp only [Option.bind_some, em, Option.map_none] at e; cases e
        | some m =>
          simp only [Option.bind_some, em, Option.map_some] at e
          cases e
          refine ⟨_, ns, rfl, SqL.of (s _ _ h), ?_, fun m' hm hle => ?_⟩
          · cases ns with
            | nil => cases em
            | cons a b => exact Nat.succ_pos _
          · have z : m' = m := by
              have h1 := List.min?_eq_some_iff.mp em
              exact Int.le_antisymm (hle m h1.1) (h1.2 m' hm)
            rw [z]
            exact q _ G H s (Gr.refl ..) (.int _)
  · cases e
theorem lc_max : LCall K (rMax K) maxD := fun {G H xs ds d Q} s r e q => by
  unfold maxD at e
  split at e
  · rename_i l
    obtain ⟨v, rfl, r1⟩ := rpl1 r
    cases r1 with | lst h r =>
      cases ei : intsD l with
      | none => rw [ei] at e; cases e
      | some ns =>
        rw [ei] at e
        have ev := intsD_of ei r
        subst ev
        cases em : ns.max? with
        | none => simp only [Option.bind_some, em, Option.map_none] at e; cases e
        | some m =>
          simp only [Option.bind_some, em, Option.map_some] at e
          cases e
          refine ⟨_, ns, rfl, SqL.of (s _ _ h), ?_, fun m' hm hle => ?_⟩
          · cases ns with
            | nil => cases em
            | cons a b => exact Nat.succ_pos _
          · have z : m' = m := by
              have h1 := List.max?_eq_some_iff.mp em
              exact Int.le_antisymm (h1.2 m' hm) (hle m h1.1)
            rw [z]
            exact q _ G H s (Gr.refl ..) (.int _)
  · cases e
theorem lc_all : LCall K (rAll K) allD := fun {G H xs ds d Q} s r e q => by
  unfold allD at e
  split at e
  · rename_i l
    obtain ⟨v, rfl, r1⟩ := rpl1 r
    cases r1 with | lst h r =>
      cases ei : blsD l with
      | none => rw [ei] at e; cases e
      | some ns =>
        rw [ei] at e; cases e
        have ev := blsD_of ei r
        subst ev
        exact ⟨_, ns, rfl, SqL.of (s _ _ h), q _ G H s (Gr.refl ..) (.bl _)⟩
  · cases e
theorem lc_any : LCall K (rAny K) anyD := fun {G H xs ds d Q} s r e q => by
  unfold anyD at e
  split at e
  · rename_i l
    obtain ⟨v, rfl, r1⟩ := rpl1 r
    cases r1 with | lst h r =>
      cases ei : blsD l with
      | none => rw [ei] at e; cases e
      | some ns =>
        rw [ei] at e; cases e
        have ev := blsD_of ei r
        subst ev
        exact ⟨_, ns, rfl, SqL.of (s _ _ h), q _ G H s (Gr.refl ..) (.bl _)⟩
  · cases e
theorem lc_lst : LCall K (fun xs H Q => ∃ p ys, xs = [.ref p] ∧ (SqL K H p ys ∨ SqT K H p ys) ∧ ∀ l, H l = none → Q (.ref l) (upd H l (.lst ys))) lstD := fun {G H xs ds d Q} s r e q => by
  unfold lstD at e
  split at e
  · cases e
    obtain ⟨v, rfl, r1⟩ := rpl1 r
    cases r1 with | lst h r => exact ⟨_, _, rfl, .inl (SqL.of (s _ _ h)), fun p hp => q _ _ _ s.new (Gr.new hp s) (.lst upd_same (RpL.mono (Gr.new (F := none) hp s).gs _ _ r))⟩
  · cases e
    obtain ⟨v, rfl, r1⟩ := rpl1 r
    cases r1 with | tup h r => exact ⟨_, _, rfl, .inr (s.sqT h.sq), fun p hp => q _ _ _ s.new (Gr.new hp s) (.lst upd_same (RpL.mono (Gr.new (F := none) hp s).gs _ _ r))⟩
  · cases e
/-- tuple(x): of a list a new one, its very object told -/
def rTupF (K : PySem.W.Frag) : List V → Hp → VK → Prop := fun xs H Q => ∃ p ys, xs = [.ref p] ∧ ((SqL K H p ys ∧ ∀ l o, H l = none → o.dict = Option.none → Q (.ref l) (upd H l (.frz o (.tup ys)))) ∨ (SqT K H p ys ∧ Q (.ref p) H))
theorem call_tupF : CallR X (.type "tuple") (rTupF X.K) := by
  intro pins s σ H xs us Q I r h
  obtain ⟨p, ys, rfl, h⟩ := h
  obtain ⟨u, rfl, rx⟩ := vals1 r
  cases rx
  rcases h with ⟨hq, q⟩ | ⟨hq, q⟩
  · obtain ⟨its, r', pl, hz⟩ := I.list hq
    have hlen := r'.length
    refine call_tuple_list pl.isList (fun h' kp => ?_) (by simp only [List.size_toArray] <;> omega)
    have I1 : Inv X pins σ H { s with heap := h' } := I.kept (t' := s.toks) kp
    have I2 : Inv X pins σ (upd H h'.objs.size (.frz { cls := .type "tuple", data := .seq its.toArray } (.tup ys))) { s with heap := h'.push { cls := .type "tuple", data := .seq its.toArray } } :=
      I1.laid (t' := s.toks) (fun b o e => Heap.get?_push_of_some _ e) (Nat.le_refl _) (show ObjOk X.prog X.w _ _ _ (.frz _ (.tup ys)) from ⟨Heap.get?_push_size _ rfl, hz, its, r', IsTup.new _ _⟩)
    exact ⟨.ref h'.objs.size, _, I2, rfl, q _ _ (I1.hok.fresh (Nat.le_refl _)) rfl⟩
  · obtain ⟨its, r', pl, hz⟩ := I.tuple hq
    exact call_tuple_same pl ⟨.ref p, H, I, rfl, q⟩
theorem lc_tup : LCall K (rTupF K) tupD := fun {G H xs ds d Q} s r e q => by
  unfold tupD at e
  split at e
  · cases e
    obtain ⟨v, rfl, r1⟩ := rpl1 r
    cases r1 with | lst h r => exact ⟨_, _, rfl, .inl ⟨SqL.of (s _ _ h), fun p o hp ho => q _ _ _ s.new (Gr.new hp s) (.tup (.inl ⟨o, upd_same, ho⟩) (RpL.mono (Gr.new (F := none) hp s).gs _ _ r))⟩⟩
  · cases e
    obtain ⟨v, rfl, r1⟩ := rpl1 r
    cases r1 with | tup h r => exact ⟨_, _, rfl, .inr ⟨s.sqT h.sq, q _ G H s (Gr.refl ..) (.tup h r)⟩⟩
  · cases e
end
/-! ### isinstance -/
def tyOf : D → Option String
  | .non => some "NoneType"
  | .bl _ => some "bool"
  | .int _ => some "int"
  | .str _ => some "str"
  | .tup _ => some "tuple"
  | .wtp _ => some "tuple"
  | .key _ => some "tuple"
  | .lst _ => some "list"
  | .dic _ => some "dict"
  | .due _ => none
def wIsi (T : String) (W : WE) : WE := fun ρ k => W ρ fun d => match tyOf d with
  | some t => (match kitB t T with
    | some b => k (.bl b)
    | none => False)
  | none => False
theorem tyX_sq {K : PySem.W.Frag} {H : Hp} {a : Addr} {xs : List V} (h : SqT K H a xs) : TyX K H (.ref a) (.type "tuple") := by
  rcases h with (h | ⟨o, h⟩) | ⟨o, its, n, h1, h2, _⟩
  · exact .base (.tup h)
  · exact .fTuple h
  · exact .kTuple h1 h2
theorem tyX_rp {K : PySem.W.Frag} {G H : Hp} (s : Sub G H) {v : V} {d : D} {t : String} (r : Rp K G v d) (e : tyOf d = some t) : TyX K H v (.type t) := by
  cases r with
  | non => cases e; exact .base .non
  | bl b => cases e; exact .base (.bl b)
  | int b => cases e; exact .base (.int b)
  | str b => cases e; exact .base (.str b)
  | tup h _ => cases e; exact tyX_sq (s.sqT h.sq)
  | wtp h _ => cases e; exact tyX_sq (s.sqT h)
  | key h => cases e; exact .base (.tup (s _ _ h))
  | lst h _ => cases e; exact .base (.lst (s _ _ h))
  | dic h _ => cases e; exact .base (.dK (s _ _ h))
  | due _ _ _ _ => cases e
theorem ew_isi {X : Cx} {T : String} {x : Str} {e : Expr} {te : TE} {W : WE} {p p2 pos : Pos} (he : EW X e te W) (hm : X.mg "isinstance" = none) (hT : X.mg x = none) (hv : bootBuiltins x = some (.type T)) (hg : Gl X "isinstance" := by rfl) (hgT : Gl X x := by rfl)
    (hn : x ≠ "__name__" := by decide) (hd : (x == ("__debug__" : Str)) = false := by decide)
    (hs1 : starEach (e :: [.Name x p2]) X.env = (false, eval e X.env) :: starEach [.Name x p2] X.env := by rfl) (hs2 : starEach (.Name x p2 :: []) X.env = (false, eval (.Name x p2) X.env) :: starEach [] X.env := by rfl)
    (hpl : (backTo pos (starEach [.Name x p2] X.env)).any (·.1) = false := by rfl) : EW X (.Call (.Name "isinstance" p) [e, .Name x p2] [] pos) (tCB (rIsi X.K) (tCons te (tCons (tC (.ty T)) tNil))) (wIsi T W) :=
  ⟨pe_callB call_isi hg hm (by decide +kernel) (pa_cons he.pe (pa_cons (pe_bltn hgT hT hv rfl hn hd) pa_nil hs2) hs1) (by decide) (by decide) hs1 hpl, fun {F G H w σ ρ k Q} R hw q => by
  refine he.li R hw fun v d G1 H1 R1 g1 r hk => ?_
  split at hk
  · rename_i t et
    split at hk
    · rename_i b eb
      exact ⟨v, .ty T, .type t, .type T, b, rfl, .ty T, tyX_rp R1.sub r et, kit_ty eb, q _ _ _ _ R1 g1 (.bl b) hk⟩
    · cases hk
  · cases hk⟩
end Wd
set_option maxRecDepth 100000
set_option maxHeartbeats 2000000
namespace Wd
open PySem PySem.Spec PyProof.Rows L2
/-! ### dicts of data, texts as keys -/
def dicGet (kvs : List (Str × D)) (k : Str) : Option D := (kvs.find? fun kv => decide (kv.1 = k)).map (·.2)
def dicPut (kvs : List (Str × D)) (k : Str) (v : D) : List (Str × D) := if (kvs.any fun kv => decide (kv.1 = k)) = true then kvs.map (fun kv => if kv.1 = k then (kv.1, v) else kv) else kvs ++ [(k, v)]
def dicMerge (kvs more : List (Str × D)) : List (Str × D) := more.foldl (fun acc kv => dicPut acc kv.1 kv.2) kvs
section
variable {K : PySem.W.Frag} {G H : Hp}
theorem inr_iff {a b : Str} : ((Sum.inr a : Key) = Sum.inr b) ↔ a = b := ⟨Sum.inr.inj, congrArg _⟩
theorem RpK.any : ∀ {vs : List (Key × V)} {ds : List (Str × D)} (k : Str), RpK K G vs ds → (vs.any fun kv => decide (kv.1 = Sum.inr k)) = ds.any fun kv => decide (kv.1 = k)
  | _, _, _, .nil => rfl
  | _, _, k, .cons _ t => by
    rw [List.any_cons, List.any_cons, RpK.any k t]
    congr 1
    exact decide_eq_decide.mpr inr_iff
theorem RpK.get : ∀ {vs : List (Key × V)} {ds : List (Str × D)} {k : Str} {d : D}, RpK K G vs ds → dicGet ds k = some d → ∃ v, valV vs (Sum.inr k) = some v ∧ Rp K G v d
  | _, _, _, _, .nil, h => by cases h
  | _, _, k, d, .cons (x := k0) (v := v0) (d := d0) r t, h => by
    unfold dicGet at h
    unfold valV
    by_cases e : k0 = k
    · rw [List.find?_cons_of_pos (by simp [e])] at h
      rw [List.find?_cons_of_pos (by simp [e])]
      cases h
      exact ⟨v0, rfl, r⟩
    · rw [List.find?_cons_of_neg (by simp [e])] at h
      rw [List.find?_cons_of_neg (by simp [e])]
      exact RpK.get t h
theorem RpK.has : ∀ {vs : List (Key × V)} {ds : List (Str × D)} (k : Str), RpK K G vs ds → (valV vs (Sum.inr k)).isSome = (dicGet ds k).isSome
  | _, _, _, .nil => rfl
  | _, _, k, .cons (x := k0) r t => by
    have ih := RpK.has k t
    unfold dicGet valV at ih ⊢
    by_cases e : k0 = k
    · rw [List.find?_cons_of_pos (by simp [e]), List.find?_cons_of_pos (by simp [e])]; rfl
    · rw [List.find?_cons_of_neg (by simp [e]), List.find?_cons_of_neg (by simp [e])]
      exact ih
theorem RpK.repl : ∀ {vs : List (Key × V)} {ds : List (Str × D)} (k : Str) {v : V} {d : D}, RpK K G vs ds → Rp K G v d →
    RpK K G (vs.map (fun kv => if kv.1 = Sum.inr k then (kv.1, v) else kv)) (ds.map (fun kv => if kv.1 = k then (kv.1, d) else kv))
  | _, _, _, _, _, .nil, _ => .nil
  | _, _, k, v, d, .cons (x := k0) r t, rv => by
    rw [List.map_cons, List.map_cons]
    by_cases e : k0 = k
    · rw [if_pos (by rw [e]), if_pos e]
      exact .cons rv (RpK.repl k t rv)
    · rw [if_neg (by rw [inr_iff]; exact e), if_neg e]
      exact .cons r (RpK.repl k t rv)
theorem RpK.snoc : ∀ {vs : List (Key × V)} {ds : List (Str × D)} {k : Str} {v : V} {d : D}, RpK K G vs ds → Rp K G v d → RpK K G (vs ++ [(Sum.inr k, v)]) (ds ++ [(k, d)])
  | _, _, _, _, _, .nil, rv => .cons rv .nil
  | _, _, _, _, _, .cons r t, rv => .cons r (RpK.snoc t rv)
theorem RpK.put {vs : List (Key × V)} {ds : List (Str × D)} (k : Str) {v : V} {d : D} (r : RpK K G vs ds) (rv : Rp K G v d) : RpK K G (putK vs (Sum.inr k) v) (dicPut ds k d) := by
  unfold putK dicPut
  rw [r.any k]
  split
  · exact r.repl k rv
  · exact r.snoc rv
theorem RpK.merge : ∀ {ms : List (Key × V)} {es : List (Str × D)} {vs : List (Key × V)} {ds : List (Str × D)}, RpK K G vs ds → RpK K G ms es → RpK K G (mergeK vs ms) (dicMerge ds es)
  | _, _, _, _, r, .nil => r
  | _, _, vs, ds, r, .cons (x := x) (v := v) (vs := ms) (d := d) (ds := es) q t => by
    show RpK K G (mergeK (putK vs (Sum.inr x) v) ms) (dicMerge (dicPut ds x d) es)
    exact RpK.merge (r.put x q) t
theorem RpK.length : ∀ {vs : List (Key × V)} {ds : List (Str × D)}, RpK K G vs ds → vs.length = ds.length
  | _, _, .nil => rfl
  | _, _, .cons _ t => by rw [List.length_cons, List.length_cons, RpK.length t]
def pairsD : List D → Option (List (Str × D))
  | [] => some []
  | .tup [.str k, v] :: r => (pairsD r).map ((k, v) :: ·)
  | _ :: _ => none
theorem pairsD_of (s : Sub G H) : ∀ {ds : List D} {xs : List V} {kvs : List (Str × D)}, pairsD ds = some kvs → RpL K G xs ds →
    ∃ (ps : List Addr) (ks : List (Key × V)), xs = ps.map V.ref ∧ Paired (fun p kv => SqT K H p [kV kv.1, kv.2]) ps ks ∧ RpK K G ks kvs
  | [], _, kvs, e, .nil => by cases e; exact ⟨[], [], rfl, .nil, .nil⟩
  | .tup [.str k, v] :: r, _, kvs, e, .cons h t => by
    unfold pairsD at e
    cases q : pairsD r with
    | none => rw [q] at e; cases e
    | some l =>
      rw [q] at e
      cases e
      obtain ⟨ps, ks, e1, e2, e3⟩ := pairsD_of s q t
      cases h with
      | tup hh hr =>
        rename_i a xs
        obtain ⟨x, y, e4, r1, r2⟩ : ∃ x y, xs = [x, y] ∧ Rp K G x (.str k) ∧ Rp K G y v := by
          cases hr with | cons r1 rr => cases rr with | cons r2 rr => cases rr; exact ⟨_, _, rfl, r1, r2⟩
        subst e4
        cases r1
        exact ⟨a :: ps, (Sum.inr k, y) :: ks, by rw [e1]; rfl, .cons (s.sqT hh.sq) e2, .cons r2 e3⟩
def dictD : List D → Option D
  | [.lst ds] => (pairsD ds).map fun kvs => .dic (dicMerge [] kvs)
  | [.tup ds] => (pairsD ds).map fun kvs => .dic (dicMerge [] kvs)
  | _ => none
end
/-- dict(xs), xs a list or a tuple of pairs -/
def rDict2 (K : PySem.W.Frag) : List V → Hp → VK → Prop := fun xs H Q => ∃ (a : Addr) (ps : List Addr) (kvs : List (Key × V)), xs = [.ref a] ∧ (SqL K H a (ps.map V.ref) ∨ TupG K H a (ps.map V.ref)) ∧ Paired (fun p kv => SqT K H p [kV kv.1, kv.2]) ps kvs ∧
    ∀ p, H p = none → Q (.ref p) (upd H p (.dK (mergeK [] kvs)))
section
variable {X : Cx} {pins : List (Addr × Obj)} {σ : L2.St} {H : Hp} {s : Shared}
theorem Inv.plainT {a : Addr} {xs : List V} (I : Inv X pins σ H s) (h : TupG X.K H a xs) : ∃ its : List Value, Vals xs its ∧ PlainSeq "tuple" s.heap a its.toArray ∧ xs.length ≤ sizeLine := by
  rcases h with ⟨o, h, hd⟩ | ⟨o, its, n, hk, hc, hd, hs, hz, r⟩
  · obtain ⟨e, z, its, r, ob, e2, hc, n, hdat⟩ := I.hok a _ h
    rw [e] at e2
    cases e2
    exact ⟨its, r, ⟨o, n, e, hc, hd, hdat⟩, z⟩
  · refine ⟨its.toList, r, ⟨o, n, I.kIn a o hk, hc, hd, by simpa using hs⟩, ?_⟩
    rw [r.length]
    simpa using hz
theorem call_dict2 (hcalm : X.calm = true) : CallR X (.type "dict") (rDict2 X.K) := by
  intro pins s σ H xs us Q I r q
  obtain ⟨a, ps, kvs, ex, hq, hp, q⟩ := q
  rcases hq with hq | hq
  · exact call_dictP hcalm pins s σ H xs us Q I r ⟨a, ps, kvs, ex, hq, hp, q⟩
  · subst ex
    obtain ⟨u, eu, rx⟩ := vals1 r
    subst eu
    cases rx
    obtain ⟨its, rv, pl, hz⟩ := Wd.Inv.plainT I hq
    have ei := refs_at rv
    subst ei
    rw [List.length_map] at hz
    obtain ⟨prs, rel, hl, hpr⟩ := pairs_of I hp
    -- the keys as they stand
    have hkeys : ∃ us : List Value, us.length = ps.length ∧ ∀ (j : Nat) (q : Key × Value), prs[j]? = some q → ∃ (b : Addr) (u : Value), ps[j]? = some b ∧ us[j]? = some u ∧ IsTup s.heap b #[u, q.2] ∧ keyIs q.1 u = true := by
      have : ∀ (n : Nat) , n ≤ ps.length → ∃ us : List Value, us.length = n ∧ ∀ (j : Nat) (q : Key × Value), j < n → prs[j]? = some q → ∃ (b : Addr) (u : Value), ps[j]? = some b ∧ us[j]? = some u ∧ IsTup s.heap b #[u, q.2] ∧ keyIs q.1 u = true := by
        intro n
        induction n with
        | zero => intro _; exact ⟨[], rfl, fun j q h => by omega⟩
        | succ n ih =>
          intro hn
          obtain ⟨us, e1, e2⟩ := ih (by omega)
          have hlt : n < prs.length := by omega
          obtain ⟨b, u, k1, k2, k3⟩ := hpr n _ (List.getElem?_eq_getElem hlt)
          refine ⟨us ++ [u], by rw [List.length_append, List.length_singleton, e1], fun j q hj hq => ?_⟩
          by_cases hjn : j < n
          · obtain ⟨b', u', m1, m2, m3⟩ := e2 j q hjn hq
            exact ⟨b', u', m1, by rw [List.getElem?_append_left (by omega)]; exact m2, m3⟩
          · have ej : j = n := by omega
            subst ej
            rw [List.getElem?_eq_getElem hlt] at hq
            cases hq
            exact ⟨b, u, k1, by rw [List.getElem?_append_right (by omega), e1]; simp, k2, k3⟩
      obtain ⟨us, e1, e2⟩ := this ps.length (Nat.le_refl _)
      exact ⟨us, e1, fun j q h => e2 j q (by have := (List.getElem?_eq_some_iff.mp h).1; omega) h⟩
    obtain ⟨us, hul, hus⟩ := hkeys
    let pv : List (Value × Value) := us.zip (prs.map (·.2))
    have hpl : pv.length = ps.length := by
      show (us.zip (prs.map (·.2))).length = _
      rw [List.length_zip, List.length_map, hul, hl, Nat.min_self]
    have pvat : ∀ (j : Nat) (k v : Value), pv[j]? = some (k, v) → us[j]? = some k ∧ ∃ q : Key × Value, prs[j]? = some q ∧ q.2 = v := fun j k v h => by
      have z := List.getElem?_zip_eq_some.mp (show (us.zip (prs.map (·.2)))[j]? = some (k, v) from h)
      refine ⟨z.1, ?_⟩
      have z2 := z.2
      rw [List.getElem?_map] at z2
      cases e : prs[j]? with
      | none => rw [e] at z2; cases z2
      | some q => rw [e] at z2; cases z2; exact ⟨q, rfl, rfl⟩
    refine PySem.call_dict_pairs (knd := mixKind X.prog X.w) (kvs := prs) (PairArg.tuple a (ps.map Value.ref).toArray (fun j => ps.getD j 0) pv) (I.ok.hd hcalm) ⟨pl, by rw [List.size_toArray, List.length_map, hpl], fun j k v h => ?_⟩ ⟨by rw [hpl, hl], fun j k v h => ?_⟩ (by rw [hpl]; exact hz) fun h' tk hd' k => ?_
    · obtain ⟨h1, qq, h2, h3⟩ := pvat j k v h
      obtain ⟨b, u, k1, k2, k3, _⟩ := hus j qq h2
      rw [h1] at k2
      cases k2
      refine ⟨by simp [k1], ?_⟩
      have eb : ps.getD j 0 = b := by rw [List.getD_eq_getElem?_getD, k1]; rfl
      show PairAt s.heap (ps.getD j 0) k v
      rw [eb, ← h3]
      obtain ⟨o, ho, hc, n, hd⟩ := k3
      exact .inl ⟨o, ho, hc, n, hd⟩
    · obtain ⟨h1, qq, h2, h3⟩ := pvat j k v h
      obtain ⟨b, u, k1, k2, _, k4⟩ := hus j qq h2
      rw [h1] at k2
      cases k2
      obtain ⟨q1, q2⟩ := qq
      cases h3
      exact ⟨q1, h2, k4⟩
    · have hm : (s.heap.objs.size == sysModules) = false := beq_eq_false_iff_ne.mpr (Nat.ne_of_gt I.big)
      have hlen : (mergeK [] kvs).length ≤ sizeLine := by
        refine Nat.le_trans (length_mergeK kvs []) ?_
        rw [List.length_nil, Nat.zero_add, rel.length, hl]
        exact hz
      exact ⟨.ref s.heap.objs.size, upd H s.heap.objs.size (.dK (mergeK [] kvs)), I.laid (t' := tk) (fun b o e => k b o (fun z => nomatch z) e) (Nat.le_refl _) (show ObjOk X.prog X.w _ _ _ (.dK (mergeK [] kvs)) from ⟨hlen, hm, merged [] prs, KV.merge rel .nil, hd'⟩), rfl, q _ (I.hok.fresh (Nat.le_refl _))⟩
end
theorem lc_dict {K : PySem.W.Frag} : LCall K (rDict2 K) dictD := fun {G H xs ds d Q} s r e q => by
  unfold dictD at e
  split at e
  · rename_i l
    obtain ⟨v, rfl, r1⟩ := rpl1 r
    cases r1 with | lst h r =>
      cases ei : pairsD l with
      | none => rw [ei] at e; cases e
      | some kvs =>
        rw [ei] at e; cases e
        obtain ⟨ps, ks, e1, e2, e3⟩ := pairsD_of s ei r
        subst e1
        exact ⟨_, ps, ks, rfl, .inl (SqL.of (s _ _ h)), e2, fun p hp => q _ _ _ s.new (Gr.new hp s) (.dic upd_same (RpK.mono (Gr.new (F := none) hp s).gs _ _ (RpK.merge .nil e3)))⟩
  · rename_i l
    obtain ⟨v, rfl, r1⟩ := rpl1 r
    cases r1 with | tup h r =>
      cases ei : pairsD l with
      | none => rw [ei] at e; cases e
      | some kvs =>
        rw [ei] at e; cases e
        obtain ⟨ps, ks, e1, e2, e3⟩ := pairsD_of s ei r
        subst e1
        exact ⟨_, ps, ks, rfl, .inr (s.tupG h), e2, fun p hp => q _ _ _ s.new (Gr.new hp s) (.dic upd_same (RpK.mono (Gr.new (F := none) hp s).gs _ _ (RpK.merge .nil e3)))⟩
  · cases e
def dgetD : D → D → Option D
  | .dic kvs, .str k => dicGet kvs k
  | _, _ => none
def dinD : D → D → Option D
  | .str k, .dic kvs => some (.bl (dicGet kvs k).isSome)
  | _, _ => none
section
variable {X : Cx} {a b : Expr} {ta tb : TE} {Wa Wb : WE} {pos : Pos}
theorem ew_dget (hu : X.A.units + 1 < cLine) (ha : EW X a ta Wa) (hb : EW X b tb Wb) (hs : NoSl b := by exact fun _ _ => rfl) : EW X (.Subscript a b pos) (tDGet ta tb) (wOp dgetD Wa Wb) := ⟨pe_dget hu ha.pe hb.pe hs, fun {F G H w σ ρ k Q} R h q => by
  refine ha.li R h fun x dx G1 H1 R1 g1 rx h1 => hb.li R1 h1 fun y dy G2 H2 R2 g2 ry h2 => ?_
  split at h2
  · rename_i d e
    unfold dgetD at e
    split at e
    · rename_i kvs kk
      cases rx with | dic hh hr =>
        cases ry
        obtain ⟨v, ev, rv⟩ := hr.get e
        have z := DGet.k (k := Sum.inr kk) (R2.sub _ _ (g2.gs _ _ hh))
        rw [ev] at z
        exact ⟨_, v, rfl, z, q v d G2 H2 R2 (g1.trans g2) (Rp.mono g2.gs _ _ rv) h2⟩
    · cases e
  · cases h2⟩
theorem ew_din (hu : X.A.units + 1 < cLine) (ha : EW X a ta Wa) (hb : EW X b tb Wb) (hp : PE X (.Compare a [.In] [b] pos) (tDIn ta tb)) : EW X (.Compare a [.In] [b] pos) (tDIn ta tb) (wOp dinD Wa Wb) := ⟨hp, fun {F G H w σ ρ k Q} R h q => by
  refine ha.li R h fun x dx G1 H1 R1 g1 rx h1 => hb.li R1 h1 fun y dy G2 H2 R2 g2 ry h2 => ?_
  split at h2
  · rename_i d e
    unfold dinD at e
    split at e
    · rename_i kk kvs
      cases e
      cases rx
      cases ry with | dic hh hr =>
        have z := DGet.k (k := Sum.inr kk) (R2.sub _ _ hh)
        exact ⟨_, _, rfl, z, by rw [hr.has]; exact q _ _ G2 H2 R2 (g1.trans g2) (.bl _) h2⟩
    · cases e
  · cases h2⟩
end
/-! ### dict comprehensions -/
def strD (d : D) (k : Str → Prop) : Prop := match d with
  | .str x => k x
  | _ => False
def dcGo (g : WG) (tk tv : WE) (ρ : List Sl) : List D → List (Str × D) → (List (Str × D) → Prop) → Prop
  | [], acc, k => k acc
  | x :: r, acc, k => g x ρ fun ρ' => tk ρ' fun kd => strD kd fun ks => tv ρ' fun d => dcGo g tk tv ρ r (dicPut acc ks d) k
def wDc (wi : WA) (g : WG) (tk tv : WE) (vs : List Nat) : WE := fun ρ k => wi ρ fun ds => ds.length ≤ 1000 ∧ dcGo g tk tv (wipeW ρ vs) ds [] fun acc => k (.dic acc)
theorem dicPut_len (kvs : List (Str × D)) (k : Str) (v : D) : (dicPut kvs k v).length ≤ kvs.length + 1 := by
  unfold dicPut
  split
  · rw [List.length_map]; omega
  · rw [List.length_append, List.length_singleton]; exact Nat.le_refl _
section
variable {X : Cx} {kx vx tg iter : Expr} {scope : Scope} {own : List (Str × Nat)} {pos : Pos} {wi : TI} {g : TG} {tk tv : TE} {W : WA} {Wg : WG} {Wk Wv : WE} {ix : List Nat}
theorem ew_dc (own : List (Str × Nat)) (hN : X.N.Nodup) (hi : IW X tg iter wi W) (ok : blkC X.N X.env.scope scope own = true)
    (hg : ∀ (s : Shared) (H : Hp) (C : Addr) (cl : List (Str × Addr)) (fp : List Addr), GW (X.blk s H scope (compEnvC scope cl C X.env) fp) tg g Wg ix)
    (hk : ∀ (s : Shared) (H : Hp) (C : Addr) (cl : List (Str × Addr)) (fp : List Addr), EW (X.blk s H scope (compEnvC scope cl C X.env) fp) kx tk Wk)
    (he : ∀ (s : Shared) (H : Hp) (C : Addr) (cl : List (Str × Addr)) (fp : List Addr), EW (X.blk s H scope (compEnvC scope cl C X.env) fp) vx tv Wv) (hv : ∀ j ∈ ix, j ∈ own.map (·.2) := by decide) (hc : X.calm = true := by rfl) (hs : ∀ x, foldedSetIterable iter X.env x = pure x := by intro _; rfl) :
    EW X (.DictComp kx vx [⟨tg, iter, [], 0⟩] scope pos) (tDc wi g tYes tk tv (own.map (·.2))) (wDc W Wg Wk Wv (own.map (·.2))) := by
  refine ⟨pe_dc hc hN hi.pi (blkOk_by ok) (fun s H C cl fp => (hg s H C cl fp).pg) (fun s H C cl fp => pts_nil) (fun s H C cl fp => (hk s H C cl fp).pe) (fun s H C cl fp => (he s H C cl fp).pe) hs, ?_⟩
  intro F G H w σ ρ k Q R hw q
  refine hi.li R hw fun J ds G1 H1 R1 g1 wl ⟨hl, hkk⟩ => ?_
  intro p hp
  have hF : F ≠ some p := R1.noF hp
  refine ⟨fun i m H => m = ds.length - i ∧ i ≤ ds.length ∧ ∃ G xs acc, Rs X.K F G H w σ ρ ∧ Gr F G1 H1 G H ∧ G p = none ∧ H p = some (.dK xs) ∧ RpK X.K G xs acc ∧ acc.length ≤ i ∧ dcGo Wg Wk Wv (wipeW ρ (own.map (·.2))) (ds.drop i) acc fun acc => k (.dic acc),
    ⟨_, rfl, Nat.zero_le _, G1, [], [], R1.out hp, Gr.newH hp, sub_none R1.sub hp, upd_same, .nil, Nat.le_refl _, hkk⟩, ?_⟩
  rintro i m H2 ⟨rfl, hil, G2, xs, acc, R2, g2, p2, e2, r2, l2, h2⟩
  obtain ⟨hstop, hgo⟩ := wl G2 H2 i g2.gs R2.sub
  have nown : ∀ (G6 H6 : Hp) (o : HO), Rs X.K F G6 H6 w σ ρ → G6 p = none → NTE (H6 p) → Rs X.K F G6 (upd H6 p o) w σ ρ := fun G6 H6 o R6 p6 hn6 => by
    refine ⟨R6.sub.updH p6, R6.len, fun j s hj => ?_, fun f ef => ?_⟩
    · have q6 := R6.at_ j s hj
      have q1 := R1.at_ j s hj
      cases s with
      | un => trivial
      | da d => exact q6
      | ow es =>
        obtain ⟨a, ys, z1, k1, k2, k3, k4, k5⟩ := q6
        obtain ⟨a', ys', z1', k1', _⟩ := q1
        rw [z1] at z1'; cases z1'
        exact ⟨a, ys, z1, by rw [upd_ne (ne_of_none k1' hp)]; exact k1, k2, k3, k4, k5⟩
      | od es =>
        obtain ⟨a, ys, z1, k1, k2, k3, k4, k5⟩ := q6
        obtain ⟨a', ys', z1', k1', _⟩ := q1
        rw [z1] at z1'; cases z1'
        exact ⟨a, ys, z1, by rw [upd_ne (ne_of_none k1' hp)]; exact k1, k2, k3, k4, k5⟩
      | fd => exact q6
      | ob _ => exact q6
    · obtain ⟨c, ns, i, l, n, k1, k2, k3, k4, kt⟩ := R6.fok f ef
      exact ⟨c, ns, i, l, n, k1, k2, k3, by rw [upd_ne (fun z => hF (by rw [ef, z]))]; exact k4, kt.updH hn6⟩
  by_cases hlt : i < ds.length
  · right
    have hd : ds[i]? = some ds[i] := List.getElem?_eq_getElem hlt
    obtain ⟨go, hy⟩ := hgo _ hd
    refine ⟨go, fun H' => i + 1 ≤ ds.length ∧ ∃ G xs acc, Rs X.K F G H' w σ ρ ∧ Gr F G1 H1 G H' ∧ G p = none ∧ H' p = some (.dK xs) ∧ RpK X.K G xs acc ∧ acc.length ≤ i + 1 ∧ dcGo Wg Wk Wv (wipeW ρ (own.map (·.2))) (ds.drop (i + 1)) acc fun acc => k (.dic acc),
      fun H' ⟨a, b⟩ => ⟨ds.length - (i + 1), by omega, rfl, a, b⟩, fun x H3 y => ?_⟩
    obtain ⟨G3, s3, g3, r3⟩ := hy x H3 y
    rw [List.drop_eq_getElem_cons hlt] at h2
    have R3 : Rs X.K F G3 H3 w σ ρ := R2.grow0 g3 s3
    have e3 : H3 p = some (.dK xs) := g3.hp _ _ (fun z => nomatch z) e2
    have p3 : G3 p = none := gr_out g3 p2 e2
    refine (hg X.s_0 X.H_0 0 [] []).li (R3.wipe (own.map (·.2))) r3 h2 fun σ4 ρ4 R4 t4 h4 => ⟨wipe_took t4 hv, ?_⟩
    simp only [tYes, if_true]
    refine (hk X.s_0 X.H_0 0 [] []).li R4 h4 fun kv kd G5 H5 R5 g5 rk h5 => ?_
    have e5 : H5 p = some (.dK xs) := g5.hp _ _ hF e3
    have p5 : G5 p = none := gr_out g5 p3 e3
    have R5' : Rs X.K F G5 H5 w σ ρ := R3.grow g5 R5.sub R5.fok
    have gg5 : Gr F G1 H1 G5 H5 := (g2.trans g3.any).trans g5
    unfold strD at h5
    split at h5
    · rename_i ks
      cases rk
      refine (he X.s_0 X.H_0 0 [] []).li R5 h5 fun v d G6 H6 R6 g6 rv h6 => ?_
      have e6 : H6 p = some (.dK xs) := g6.hp _ _ hF e5
      have p6 : G6 p = none := gr_out g6 p5 e5
      have R6' : Rs X.K F G6 H6 w σ ρ := R5'.grow g6 R6.sub R6.fok
      have r6 : RpK X.K G6 xs acc := RpK.mono ((g3.gs.trans g5.gs).trans g6.gs) _ _ r2
      refine ⟨xs, Sum.inr ks, rfl, e6, ?_, hlt, G6, _, dicPut acc ks d, nown _ _ _ R6' p6 (nteK e6), (gg5.trans g6).out hp, p6, upd_same, r6.put ks rv, Nat.le_trans (dicPut_len ..) (by omega), h6⟩
      rw [r6.length]; exact Nat.lt_of_lt_of_le (show acc.length < 1001 by omega) (by decide)
    · cases h5
  · left
    have e : i = ds.length := by omega
    subst e
    rw [List.drop_length] at h2
    refine ⟨hstop (Nat.le_refl _), ?_⟩
    have s1 : Sub G2 (upd G2 p (.dK xs)) := fun b u e => by rw [upd_ne (ne_of_none e p2)]; exact e
    have R7 : Rs X.K F (upd G2 p (.dK xs)) H2 w σ ρ := by
      refine ⟨fun b u e => ?_, R2.len, fun j s hj => ?_, fun f ef => ?_⟩
      · by_cases z : b = p
        · rw [z, upd_same] at e; rw [z, e2]; exact e
        · rw [upd_ne z] at e; exact R2.sub b u e
      · have q2 := R2.at_ j s hj
        have q1 := R1.at_ j s hj
        cases s with
        | un => trivial
        | da d => obtain ⟨v, e2, r⟩ := q2; exact ⟨v, e2, Rp.mono s1 _ _ r⟩
        | ow es =>
          obtain ⟨a, ys, z1, k1, k2, k3, k4, k5⟩ := q2
          obtain ⟨a', ys', z1', k1', _⟩ := q1
          rw [z1] at z1'; cases z1'
          exact ⟨a, ys, z1, k1, by rw [upd_ne (ne_of_none k1' hp)]; exact k2, k3, k4, RpL.mono s1 _ _ k5⟩
        | od es =>
          obtain ⟨a, ys, z1, k1, k2, k3, k4, k5⟩ := q2
          obtain ⟨a', ys', z1', k1', _⟩ := q1
          rw [z1] at z1'; cases z1'
          exact ⟨a, ys, z1, k1, by rw [upd_ne (ne_of_none k1' hp)]; exact k2, k3, k4, RpT.mono s1 k5⟩
        | fd => exact q2
        | ob _ => exact q2
      · obtain ⟨c, ns, i, l, n, k1, k2, k3, k4, kt⟩ := R2.fok f ef
        exact ⟨c, ns, i, l, n, by rw [upd_ne (fun z => hF (by rw [ef, z]))]; exact k1, s1 _ _ k2, k3, k4, kt.updG (nteK e2)⟩
    refine q _ _ _ _ R7 (g1.trans ⟨g2.hq, g2.tb, g2.th, g2.gs.trans s1, fun b u e => ?_⟩) (.dic upd_same (RpK.mono s1 _ _ r2)) h2
    by_cases z : b = p
    · rw [z]; exact .inr hp
    · rw [upd_ne z] at e; exact g2.fr b u e
end
end Wd
set_option maxRecDepth 100000
namespace PySem
open Sem (wp)
set_option maxHeartbeats 2000000 in
theorem wd_enumerate_newT {v : Value} {o : Obj} {H : Heap → Prop} (B : Begins v o H) :
    Meets (Builtin.«enumerate.__new__» ⟨[.type "enumerate", v], []⟩) (fun _ R s => H s.heap ∧
      R (.ok (.ret (.ref (s.heap.push o).objs.size))) { s with heap := (s.heap.push o).push { cls := .type "enumerate", data := .fields #[.none, .bool false, .ref s.heap.objs.size, rawInt 0, .none, .none] } }) :=
  .of_wp fun prog w A R s h => by
    obtain ⟨hp, g, d, tk, os⟩ := s; obtain ⟨h1, h⟩ := h
    have hsub := sub_enumerate
    have q1 : ∀ {A' : Around} {E : Value → Shared → Prop} {Q : Value → Shared → Prop}, Q (.ref hp.objs.size) ⟨hp.push o, g, d, tk, os⟩ → wpAny (model prog w) A' (pyIter v) Q E ⟨hp, g, d, tk, os⟩ :=
      fun q => B.iter prog w _ _ ⟨hp, g, d, tk, os⟩ _ h1 q
    wp_walk using q1
    refine wpAny_stack_any fun st => wpAny_pure ?_
    split
    · rename_i c _ _ _ _ _
      cases (c == Value.type "enumerate")
      · wp_walk using q1
        exact ⟨_, rfl, h⟩
      · wp_walk using q1
        exact ⟨_, rfl, h⟩
    · wp_walk using q1
      exact ⟨_, rfl, h⟩
theorem wd_call_enumerate {prog : Program} {w : World} {A : Around} {E : Value → Shared → Prop} {s : Shared} {v : Value} {o : Obj} {H : Heap → Prop} {Q : Value → Shared → Prop} (B : Begins v o H) (h1 : H s.heap)
    (h : ∀ h', IsEnum h' (s.heap.objs.size + 1) s.heap.objs.size 0 .none → h'.get? s.heap.objs.size = some o → h'.objs.size = s.heap.objs.size + 2 →
      (∀ b o, s.heap.get? b = some o → h'.get? b = some o) → Q (.ref (s.heap.objs.size + 1)) { s with heap := h' }) :
    wpAny (model prog w) A (call (.type "enumerate") [v]) Q E s := by
  refine callType_new F.called_enumerate (by decide) (F.typeCall_enumerate_1 _) (F.newCall_enumerate_1 _) (fun obj => F.args_object_init_2 obj _) F.entry_enumerate_new
    (wd_enumerate_newT B) ⟨h1, ?_⟩
  have hz : (s.heap.push o).objs.size = s.heap.objs.size + 1 := Heap.size_push ..
  show _ ∧ _
  rw [hz]
  have he : IsEnum ((s.heap.push o).push { cls := .type "enumerate", data := .fields #[.none, .bool false, .ref s.heap.objs.size, rawInt 0, .none, .none] }) (s.heap.objs.size + 1) s.heap.objs.size 0 .none := by
    have := Heap.get?_push_size (s.heap.push o) (o := { cls := .type "enumerate", data := .fields #[.none, .bool false, .ref s.heap.objs.size, rawInt 0, .none, .none] }) rfl
    rw [hz] at this; exact this
  refine ⟨⟨_, he, rfl⟩, h _ he (Heap.get?_push_of_some _ (Heap.get?_push_size _ B.free)) (by rw [Heap.size_push, hz]) fun b o x => Heap.get?_push_of_some _ (Heap.get?_push_of_some _ x)⟩
theorem wd_next_enum_tupEnd {prog : Program} {w : World} {A : Around} {E : Value → Shared → Prop} {s : Shared} {e it t : Addr} {i : Int} {j : Nat} {items : Array Value} {old : Value} {Q : Option Value → Shared → Prop} (hh : A.handled = none)
    (he : IsEnum s.heap e it i old) (hit : s.heap.IsTupleIter it t j) (hl : s.heap.IsTuple t items) (hx : items[j]? = none)
    (hQ : ∀ h', Heap.ExtBut it s.heap h' → Q none { s with heap := h' }) : wpAny (model prog w) A (pyNext (.ref e)) Q E s := by
  have hT : s.TypeIs (.ref e) "enumerate" := ⟨_, he, rfl⟩
  unfold pyNext
  refine wpAny_bind (wpAny_attempt (wpAny_callSpecial?_slot (name := Str.ofString "__next__") hT F.slot_enumerate_next
    (wpAny_call_entry F.slot_enumerate_next hT F.entry_enumerate_next ?_ (F.args_enumerate_next_1 _))))
  show wpAny _ _ (field (.ref e) 2 >>= _) _ _ _
  refine wpAny_bind (wpAny_field he rfl (x := .ref it) rfl ?_)
  refine wpAny_bind (wpAny_nextOf_tuple_end hh hit hl hx fun h' x he' hx' => ?_)
  obtain ⟨o, ho, hc⟩ := hx'
  refine wpAny_bind (wpAny_isInstance (T := "StopIteration") (b := true) ⟨o, ho, hc⟩ isSubtype_stop ?_)
  exact wpAny_pure (hQ _ he')
end PySem
set_option maxHeartbeats 2000000
namespace Wd
open PySem PySem.Spec PyProof.Rows L2
/-! ### enumerate of a tuple -/
def IteT (K : PySem.W.Frag) (a : Addr) : It :=
  ⟨fun i H => ∃ (xs : List V) (x : V), SqT K H a xs ∧ xs[i]? = some x, fun i H v H' => ∃ T x, v = .ref T ∧ H T = none ∧ H' = upd H T (.tup [.int (i : Nat), x]) ∧ ∀ xs, SqT K H a xs → xs[i]? = some x, fun i H => ∃ xs : List V, SqT K H a xs ∧ xs.length ≤ i⟩
theorem turn_enumT {P : Program} {w : World} {K : PySem.W.Frag} {elts : List Expr} {kk : Nat} {tpos : Pos} (a e it : Addr) :
    Turn P w K (.Tuple elts kk tpos) (IteT K a) [e, it] e (fun i h => (∃ old, IsEnum h e it ((i : Nat) : Int) old) ∧ h.IsTupleIter it a i ∧ e ≠ it ∧ a ≠ e ∧ a ≠ it) where
  mem := by simp
  obj := fun i h st b hb => by
    obtain ⟨⟨old, he⟩, ⟨o, ho, hc, hd⟩, _⟩ := st
    have e' : b = e ∨ b = it := by simpa using hb
    rcases e' with z | z
    · rw [z]; exact ⟨_, he, fun v q => nomatch q⟩
    · rw [z]; exact ⟨o, ho, fun v q => by rw [hd] at q; cases q⟩
  keep := fun i h h' st k => let ⟨⟨old, he⟩, hi, hne⟩ := st; ⟨⟨old, k e (by simp) _ he⟩, hi.at fun o q => k it (by simp) o q, hne⟩
  item := by
    intro X hP hw hK hc i pins s σ H E I hf st hg
    subst hP hw hK
    obtain ⟨⟨old, he⟩, hit, hne, hae, hai⟩ := st
    obtain ⟨xs, x, hq, hx⟩ := hg
    obtain ⟨its, rv, p, hz⟩ := I.tuple hq
    obtain ⟨u, hu, ru⟩ := rv.get hx
    have hel : e < s.heap.objs.size := Heap.lt_size he
    have hil : it < s.heap.objs.size := by obtain ⟨_, q, _⟩ := hit; exact Heap.lt_size q
    have hiN : i < its.toArray.size := by
      have := (List.getElem?_eq_some_iff.mp hu).1
      simpa using this
    refine wpAny_pyNext_enum_itemD (Draws.tuple (prog := X.prog) (w := X.w) (A := X.A.in1) (I.ok.hd hc) it a hai its.toArray) he ⟨hit, p⟩ hiN hne (by simp [hne, Ne.symm hae]) fun y h' tk hy ho hst hT hsz hk => ?_
    have eu : y = u := by
      have z : its.toArray[i]? = some u := by simpa using hu
      have hy2 : its.toArray[i]? = some y := hy
      rw [z] at hy2
      exact (Option.some.inj hy2).symm
    subst eu
    refine ⟨_, rfl, wpAny_letOwnedTupleGo_enum (s := { s with heap := h', toks := tk + 1 }) ho fun h'' he' sb => ?_⟩
    have hT2 : h''.get? s.heap.objs.size = some { cls := .type "tuple", data := .seq #[.int i tk, y] } := (sb.2 _ (Nat.ne_of_gt hel)).trans hT
    have new : ObjOk X.prog X.w (upd H s.heap.objs.size (.tup [.int (i : Nat), x])) h'' s.heap.objs.size (.tup [.int (i : Nat), x]) :=
      ⟨by show 2 ≤ sizeLine; decide, [.int i tk, y], .cons ⟨_, rfl⟩ (.cons ru .nil), ⟨_, hT2, rfl, _, rfl⟩⟩
    have I1 : Inv X pins σ (upd H s.heap.objs.size (.tup [.int (i : Nat), x])) { s with heap := h'', toks := tk + 1 } :=
      I.turnedNew (ch := [e, it]) (fun b ob hb q => (sb.2 b (fun z => hb (by simp [z]))).trans (hk b ob (fun z => hb (by simp [z])) (fun z => hb (by simp [z])) q)) hf (Nat.le_refl _) new
    refine ⟨.ref s.heap.objs.size, _, I1, rfl, ⟨_, x, rfl, I.hok.fresh (Nat.le_refl _), rfl, fun ys hy => by rw [I.tuple_inj hy hq]; exact hx⟩, ⟨⟨y, ?_⟩, hst.1.at fun o q => (sb.2 it (Ne.symm hne)).trans q, hne, hae, hai⟩, fun b hb => ?_⟩
    · have e1 : ((i + 1 : Nat) : Int) = (i : Int) + 1 := by omega
      rw [e1]; exact he'
    · have hb' : b < s.heap.objs.size := by
        have e' : b = e ∨ b = it := by simpa using hb
        rcases e' with z | z
        · rw [z]; exact hel
        · rw [z]; exact hil
      rw [upd_ne (Nat.ne_of_lt hb')]
      exact (hf b hb).1
  done := by
    intro X hP hw hK hc i pins s σ H E I hf st hg
    subst hP hw hK
    obtain ⟨⟨old, he⟩, hit, hne, hae, hai⟩ := st
    obtain ⟨xs, hq, hx⟩ := hg
    obtain ⟨its, rv, p, hz⟩ := I.tuple hq
    obtain ⟨f0, f1, f2, f3, f4, f5⟩ := hf it (by simp)
    have hl := rv.length
    exact wd_next_enum_tupEnd (I.ok.hd hc) he hit p (by simp; omega) fun h' eb => ⟨rfl, I.turned (t' := s.toks) (fun b o hb q => eb b o hb q) f0 f1 f3 f4 f5⟩
  self := fun A i s Q E st h => let ⟨⟨_, he⟩, _⟩ := st; wpAny_pyIter_enum he h
def iEnumT (K : PySem.W.Frag) (ta : TA) : TI := fun σ H R => ta σ H fun vs H1 => ∃ a xs, vs = [.ref a] ∧ SqT K H1 a xs ∧ R (IteT K a) H1
theorem pi_enumT {X : Cx} {e : Expr} {ta : TA} {p pos tpos : Pos} {elts : List Expr} {kk : Nat} (hg : Gl X "enumerate") (hm : X.mg "enumerate" = none) (ha : PA X [e] ta) (hs : starEach [e] X.env = [(false, eval e X.env)] := by rfl) :
    PI X (.Tuple elts kk tpos) (.Call (.Name "enumerate" p) [e] [] pos) (iEnumT X.K ta) := by
  refine ⟨fun pins s σ H R I h => ?_⟩
  refine Call_ (ld_blt I hg hm boot_enumerate (PyProof.Rows.callWith_type1 (thn (ha.run pos pins s σ H _ I h) fun us s1 ⟨vs, H1, I1, r1, q1⟩ => ?_) hs rfl))
  obtain ⟨a, xs, ex, hq, q⟩ := q1
  subst ex
  cases r1 with
  | cons r rr =>
    cases rr
    cases r
    obtain ⟨its, rv, p', hz⟩ := I1.tuple hq
    have ha1 : a < s1.heap.objs.size := by obtain ⟨o, ho, _⟩ := p'; exact Heap.lt_size ho
    refine wd_call_enumerate (begins_tuple a its.toArray) p' fun h' he hit hsz hk => wpAny_pyIter_enum he ?_
    have I2 : Inv X pins σ H1 { s1 with heap := h' } := I1.kept (t' := s1.toks) hk
    refine ⟨s1.heap.objs.size + 1, [s1.heap.objs.size + 1, s1.heap.objs.size], _, _, H1, rfl, I2, turn_enumT a (s1.heap.objs.size + 1) s1.heap.objs.size, ⟨⟨.none, he⟩, ⟨_, hit, rfl, rfl⟩, Nat.succ_ne_self _, Nat.ne_of_lt (Nat.lt_succ_of_lt ha1), Nat.ne_of_lt ha1⟩, fun b hb => ?_, q⟩
    have e' : b = s1.heap.objs.size + 1 ∨ b = s1.heap.objs.size := by simpa using hb
    have hle : s1.heap.objs.size ≤ b := by
      rcases e' with z | z
      · rw [z]; exact Nat.le_add_right _ _
      · rw [z]; exact Nat.le_refl _
    exact I1.fpOk hle (I1.hok.fresh hle)
def enumFrom : Nat → List D → List D
  | _, [] => []
  | i, d :: r => .wtp [.int i, d] :: enumFrom (i + 1) r
theorem enumFrom_length : ∀ (i : Nat) (ds : List D), (enumFrom i ds).length = ds.length
  | _, [] => rfl
  | i, d :: r => by unfold enumFrom; rw [List.length_cons, List.length_cons, enumFrom_length (i + 1) r]
theorem enumFrom_get : ∀ (k : Nat) (ds : List D) (i : Nat), (enumFrom k ds)[i]? = (ds[i]?).map fun d => D.wtp [.int (k + i : Nat), d]
  | _, [], i => by simp [enumFrom]
  | k, d :: r, 0 => by simp [enumFrom]
  | k, d :: r, i + 1 => by
    unfold enumFrom
    rw [List.getElem?_cons_succ, List.getElem?_cons_succ, enumFrom_get (k + 1) r i, Nat.add_right_comm]
    rfl
/-- a pair just made -/
theorem pair_new {K : PySem.W.Frag} {G H : Hp} {T : Addr} {x y : V} {d e : D} (s : Sub G H) (hT : H T = none) (r1 : Rp K G x d) (r2 : Rp K G y e) :
    ∃ G', Sub G' (upd H T (.tup [x, y])) ∧ Gr none G H G' (upd H T (.tup [x, y])) ∧ Rp K G' (.ref T) (.wtp [d, e]) :=
  ⟨upd G T (.tup [x, y]), s.new, Gr.new hT s, .wtp (SqT.of upd_same) (.cons (Rp.mono (Gr.new (F := none) hT s).gs _ _ r1) (.cons (Rp.mono (Gr.new (F := none) hT s).gs _ _ r2) .nil))⟩
theorem wlk_enumT {K : PySem.W.Frag} {a : Addr} {xs : List V} {ds : List D} {G : Hp} (h : SqT K G a xs) (r : RpL K G xs ds) : Wlk K (IteT K a) G (enumFrom 0 ds) := fun G2 H i s1 s2 => by
  have q : SqT K H a xs := (s1.trans s2).sqT h
  refine ⟨fun hl => ⟨xs, q, by rw [r.length]; rw [enumFrom_length] at hl; exact hl⟩, fun d hd => ?_⟩
  rw [enumFrom_get] at hd
  cases hx : ds[i]? with
  | none => rw [hx] at hd; cases hd
  | some d0 =>
    rw [hx] at hd
    cases hd
    obtain ⟨v, e, rv⟩ := r.get hx
    refine ⟨⟨xs, v, q, e⟩, fun x H' y => ?_⟩
    obtain ⟨T, x0, e1, e2, e3, y⟩ := y
    have e4 := y xs q
    rw [e] at e4
    cases e4
    subst e1 e3
    have z := pair_new (K := K) (d := .int (0 + i : Nat)) s2 e2 (x := .int (i : Nat)) (by rw [Nat.zero_add]; exact .int _) (Rp.mono s1 _ _ rv)
    exact z
def wiEnumT (W : WA) : WA := fun ρ k => W ρ fun ds => match ds with
  | [.tup ds] => k (enumFrom 0 ds)
  | _ => False
def zipL : List D → List D → List D
  | a :: as, b :: bs => .wtp [a, b] :: zipL as bs
  | _, _ => []
theorem zipL_get : ∀ (as bs : List D) (i : Nat) (d : D), (zipL as bs)[i]? = some d → ∃ a b, as[i]? = some a ∧ bs[i]? = some b ∧ d = .wtp [a, b]
  | a :: as, b :: bs, 0, d, h => by unfold zipL at h; simp at h; exact ⟨a, b, rfl, rfl, h.symm⟩
  | a :: as, b :: bs, i + 1, d, h => by
    unfold zipL at h
    rw [List.getElem?_cons_succ] at h
    obtain ⟨x, y, h1, h2, h3⟩ := zipL_get as bs i d h
    exact ⟨x, y, by simpa using h1, by simpa using h2, h3⟩
  | [], _, _, _, h => by unfold zipL at h; simp at h
  | _ :: _, [], _, _, h => by unfold zipL at h; simp at h
theorem zipL_len : ∀ (as bs : List D) (i : Nat), (zipL as bs).length ≤ i → as.length ≤ i ∨ bs.length ≤ i
  | [], _, _, _ => .inl (Nat.zero_le _)
  | _ :: _, [], _, _ => .inr (Nat.zero_le _)
  | a :: as, b :: bs, 0, h => by unfold zipL at h; simp at h
  | a :: as, b :: bs, i + 1, h => by
    unfold zipL at h
    rw [List.length_cons] at h
    rcases zipL_len as bs i (by omega) with z | z
    · exact .inl (by rw [List.length_cons]; omega)
    · exact .inr (by rw [List.length_cons]; omega)
theorem wlk_zipT {K : PySem.W.Frag} {a b : Addr} {xs ys : List V} {ds es : List D} {G : Hp} (h : SqT K G a xs) (r : RpL K G xs ds) (h2 : SqT K G b ys) (r2 : RpL K G ys es) : Wlk K (RZ.ItzT K a b) G (zipL ds es) := fun G2 H i s1 s2 => by
  have q : SqT K H a xs := (s1.trans s2).sqT h
  have q2 : SqT K H b ys := (s1.trans s2).sqT h2
  refine ⟨fun hl => ⟨xs, ys, q, q2, by rw [r.length, r2.length]; exact zipL_len ds es i hl⟩, fun d hd => ?_⟩
  obtain ⟨d1, d2, k1, k2, rfl⟩ := zipL_get _ _ _ _ hd
  obtain ⟨v, e, rv⟩ := r.get k1
  obtain ⟨v2, e', rv2⟩ := r2.get k2
  refine ⟨⟨xs, ys, v, v2, q, q2, e, e'⟩, fun x H' y => ?_⟩
  obtain ⟨T, x0, y0, e1, e2, e3, z1, z2⟩ := y
  have e4 := z1 xs q
  rw [e] at e4
  cases e4
  have e5 := z2 ys q2
  rw [e'] at e5
  cases e5
  subst e1 e3
  exact pair_new s2 e2 (Rp.mono s1 _ _ rv) (Rp.mono s1 _ _ rv2)
def wiZipT (W : WA) : WA := fun ρ k => W ρ fun ds => match ds with
  | [.tup ds, .tup es] => k (zipL ds es)
  | _ => False
section
variable {X : Cx} {e e2 : Expr} {ta : TA} {A : WA} {p pos tpos : Pos} {elts : List Expr} {kk : Nat}
theorem iw_enumT (ha : AW X [e] ta A) (hm : X.mg "enumerate" = none) (hg : Gl X "enumerate" := by rfl) (hs : starEach [e] X.env = [(false, eval e X.env)] := by rfl) : IW X (.Tuple elts kk tpos) (.Call (.Name "enumerate" p) [e] [] pos) (iEnumT X.K ta) (wiEnumT A) := ⟨pi_enumT hg hm ha.pa hs, fun R hw q => ha.li R hw fun vs ds G1 H1 R1 g1 r hk => by
  split at hk
  · rename_i ds
    obtain ⟨v, rfl, r1⟩ := rpl1 r
    cases r1 with | tup h rr => exact ⟨_, _, rfl, R1.sub.sqT h.sq, q _ _ _ _ R1 g1 (wlk_enumT h.sq rr) hk⟩
  · cases hk⟩
theorem iw_zipT (ha : AW X [e, e2] ta A) (hm : X.mg "zip" = none) (hg : Gl X "zip" := by rfl) (hs : starEach [e, e2] X.env = (false, eval e X.env) :: starEach [e2] X.env := by rfl) (hpl : (backTo pos (starEach [e2] X.env)).any (·.1) = false := by rfl) :
    IW X (.Tuple elts kk tpos) (.Call (.Name "zip" p) [e, e2] [] pos) (RZ.iZipA X.K ta) (wiZipT A) := ⟨RZ.pi_zipA hg hm ha.pa hs hpl, fun R hw q => ha.li R hw fun vs ds G1 H1 R1 g1 r hk => by
  split at hk
  · rename_i ds es
    obtain ⟨v, u, rfl, r1, r2⟩ := rpl2 r
    cases r1 with | tup h rr => cases r2 with | tup h2 rr2 => exact ⟨_, _, _, _, rfl, .inr ⟨R1.sub.sqT h.sq, R1.sub.sqT h2.sq, q _ _ _ _ R1 g1 (wlk_zipT h.sq rr h2.sq rr2) hk⟩⟩
  · cases hk⟩
end
end Wd
set_option maxRecDepth 100000
set_option maxHeartbeats 2000000
namespace Wd
open PySem PySem.Spec PyProof.Rows L2
/-! ### index of texts -/
def strsD : List D → Option (List Str)
  | [] => some []
  | .str x :: r => (strsD r).map (x :: ·)
  | _ :: _ => none
theorem strsD_of {K : PySem.W.Frag} {G : Hp} : ∀ {ds : List D} {vs : List V} {ks : List Str}, strsD ds = some ks → RpL K G vs ds → vs = ks.map V.str
  | [], _, ks, e, .nil => by cases e; rfl
  | .str i :: r, _, ks, e, .cons h t => by
    unfold strsD at e
    cases q : strsD r with
    | none => rw [q] at e; cases e
    | some l =>
      rw [q] at e
      cases e
      cases h
      rw [strsD_of q t]
      rfl
def idxS (z : Str) : List Str → Option Nat
  | [] => none
  | y :: r => if y = z then some 0 else (idxS z r).map (· + 1)
theorem idxS_ok (z : Str) : ∀ (ys : List Str) (j : Nat), idxS z ys = some j → ys[j]? = some z ∧ ∀ m, m < j → ys[m]? ≠ some z
  | y :: r, j, h => by
    unfold idxS at h
    split at h
    · rename_i e
      cases h
      exact ⟨by simp [e], fun m hm => by omega⟩
    · rename_i e
      cases q : idxS z r with
      | none => rw [q] at h; cases h
      | some i =>
        rw [q] at h
        obtain ⟨h1, h2⟩ := idxS_ok z r i q
        have h : i + 1 = j := Option.some.inj h
        subst h
        refine ⟨by simpa using h1, fun m hm => ?_⟩
        cases m with
        | zero => simp [e]
        | succ m => simpa using h2 m (by omega)
def idxD (ds : List D) (d : D) (k : D → Prop) : Prop := match d with
  | .str z => (match (strsD ds).bind (idxS z) with
    | some j => k (.int (j : Nat))
    | none => False)
  | _ => False
def tupK (o : D) (k : List D → Prop) : Prop := match o with
  | .tup ds => k ds
  | _ => False
def lstK (o : D) (k : List D → Prop) : Prop := match o with
  | .lst ds => k ds
  | _ => False
def wIdxT (Wo We : WE) : WE := fun ρ k => Wo ρ fun o => tupK o fun ds => We ρ fun d => idxD ds d k
def wIdxL (Wo We : WE) : WE := fun ρ k => Wo ρ fun o => lstK o fun ds => We ρ fun d => idxD ds d k
theorem idxD_ok {K : PySem.W.Frag} {G : Hp} {ds : List D} {d : D} {k : D → Prop} {vs : List V} {v : V} (h : idxD ds d k) (r : RpL K G vs ds) (rv : Rp K G v d) :
    ∃ (ys : List Str) (z : Str) (j : Nat), vs = ys.map V.str ∧ v = .str z ∧ ys[j]? = some z ∧ (∀ m, m < j → ys[m]? ≠ some z) ∧ k (.int (j : Nat)) := by
  unfold idxD at h
  split at h
  · rename_i z
    cases es : strsD ds with
    | none => simp only [es, Option.bind_none] at h
    | some ys =>
      simp only [es, Option.bind_some] at h
      split at h
      · rename_i j ei
        cases rv
        obtain ⟨k1, k2⟩ := idxS_ok z ys j ei
        exact ⟨ys, z, j, strsD_of es r, rfl, k1, k2, h⟩
      · cases h
  · cases h
/-- t.m(e), t a tuple whose very object is known -/
def tBMT (K : PySem.W.Frag) (r : V → List V → Hp → VK → Prop) (to : TE) (t : TA) : TE := fun σ H Q => to σ H fun x H1 => (∃ a ys, x = .ref a ∧ TupG K H1 a ys) ∧ t σ H1 fun xs H2 => r x xs H2 Q
abbrev rTI (K : PySem.W.Frag) : V → List V → Hp → VK → Prop := fun x xs H Q => ∃ p, ∃ ys : List Str, ∃ z j, x = .ref p ∧ xs = [.str z] ∧ SqT K H p (ys.map V.str) ∧ ys[j]? = some z ∧ (∀ m, m < j → ys[m]? ≠ some z) ∧ Q (.int (j : Nat)) H
section
variable {X : Cx} {o e : Expr} {to te : TE} {Wo We : WE} {apos cpos : Pos}
theorem pe_tidx {t : TA} (ho : PE X o to) (ha : PA X [e] t) (hbase : attributeBase o "index" X.env (eval o X.env) = eval o X.env := by rfl)
    (hfew : ((backTo cpos (starEach [e] X.env)).all (fun x => !x.1) && (backToKw cpos (keywordEach [] X.env)).all (fun x => x.1.isSome) && decide ([e].length + ([] : List Keyword).length + (if ([] : List Keyword).isEmpty then 0 else 1) < 30)) = true := by rfl)
    (hline : (apos.endLine == cpos.line) = true := by rfl) (hs : starEach [e] X.env = (false, eval e X.env) :: starEach [] X.env := by rfl) (hplain : (backTo cpos (starEach [] X.env)).any (·.1) = false := by rfl) :
    PE X (.Call (.Attribute o "index" apos) [e] [] cpos) (tBMT X.K (rTI X.K) to t) := by
  refine ⟨fun pins s σ H Q I h => wpAny_Call_method_late hbase hfew hline rfl (thn (ho.run pins s σ H _ I h) fun v s1 ⟨x, H1, I1, r1, ty, q1⟩ => ?_)⟩
  obtain ⟨a, ys, ex, tg⟩ := ty
  subst ex
  cases r1
  obtain ⟨its, rv, ⟨ob, n, h1, h2, h3, h4⟩, hz⟩ := Wd.Inv.plainT I1 tg
  refine ⟨"tuple", "tuple.index", PySem.F.plainAttrs_tuple, PySem.F.slot_tuple_index, PySem.F.type_tuple_index, ⟨ob, h1, h2⟩, fun b eb => by cases eb; exact ⟨ob, h1, h3⟩, ?_⟩
  have hA := ha.run cpos pins s1 σ H1 _ I1 q1
  rw [hs] at hA ⊢
  refine Calls.callWith_builtin (by show (false || (backTo cpos (starEach [] X.env)).any (·.1)) = false; rw [hplain]; rfl) (Calls.evalArgs_plain (thn hA fun us s2 ⟨vs, H2, I2, r2, q2⟩ => ?_))
  exact mt_tup_index pins s2 σ H2 (.ref a) vs (.ref a) us Q I2 rfl r2 q2
theorem ew_tidx (ho : EW X o to Wo) (he : EW X e te We) (hp : PE X (.Call (.Attribute o "index" apos) [e] [] cpos) (tBMT X.K (rTI X.K) to (tCons te tNil))) :
    EW X (.Call (.Attribute o "index" apos) [e] [] cpos) (tBMT X.K (rTI X.K) to (tCons te tNil)) (wIdxT Wo We) := ⟨hp, fun {F G H w σ ρ k Q} R hw q => by
  refine ho.li R hw fun x dx G1 H1 R1 g1 rx h1 => ?_
  unfold tupK at h1
  split at h1
  · rename_i ds
    cases rx with | tup ht hr =>
      refine ⟨⟨_, _, rfl, R1.sub.tupG ht⟩, he.li R1 h1 fun y dy G2 H2 R2 g2 ry h2 => ?_⟩
      obtain ⟨ys, z, j, ev, rfl, k1, k2, hk⟩ := idxD_ok h2 (RpL.mono g2.gs _ _ hr) ry
      subst ev
      exact ⟨_, ys, z, j, rfl, rfl, R2.sub.sqT (g2.gs.sqT ht.sq), k1, k2, q _ _ G2 H2 R2 (g1.trans g2) (.int _) hk⟩
  · cases h1⟩
theorem ew_lidx (ho : EW X o to Wo) (he : EW X e te We) (hp : PE X (.Call (.Attribute o "index" apos) [e] [] cpos) (tBM X.K "list" (rIndex X.K) to (tCons te tNil))) :
    EW X (.Call (.Attribute o "index" apos) [e] [] cpos) (tBM X.K "list" (rIndex X.K) to (tCons te tNil)) (wIdxL Wo We) := ⟨hp, fun {F G H w σ ρ k Q} R hw q => by
  refine ho.li R hw fun x dx G1 H1 R1 g1 rx h1 => ?_
  unfold lstK at h1
  split at h1
  · rename_i ds
    cases rx with | lst ht hr =>
      refine ⟨.inl ⟨rfl, _, SqL.of (R1.sub _ _ ht)⟩, he.li R1 h1 fun y dy G2 H2 R2 g2 ry h2 => ?_⟩
      obtain ⟨ys, z, j, ev, rfl, k1, k2, hk⟩ := idxD_ok h2 (RpL.mono g2.gs _ _ hr) ry
      subst ev
      refine ⟨_, ys.map V.str, .str z, j, .str z, rfl, rfl, SqL.of (R2.sub _ _ (g2.gs _ _ ht)), rfl, flat_strs ys, by rw [List.getElem?_map, k1]; rfl, by show (z == z) = true; exact beq_self_eq_true z, fun m z' hm hz => ?_, q _ _ G2 H2 R2 (g1.trans g2) (.int _) hk⟩
      rw [List.getElem?_map] at hz
      cases em : ys[m]? with
      | none => rw [em] at hz; cases hz
      | some u =>
        rw [em] at hz
        cases hz
        have ne : u ≠ z := fun e => k2 m hm (by rw [em, e])
        show (u == z) = false
        exact beq_eq_false_iff_ne.mpr ne
  · cases h1⟩
end
/-! ### slices -/
abbrev WO := List Sl → (Option Int → Prop) → Prop
structure OW (X : Cx) (e : Option Expr) (to : TO) (W : WO) : Prop where
  po : PO X e to
  li : ∀ {F G H w σ ρ k Q}, Rs X.K F G H w σ ρ → W ρ k → (∀ o G' H', Rs X.K F G' H' w σ ρ → Gr F G H G' H' → k o → Q o H') → to σ H Q
def woNone : WO := fun _ k => k none
def intK (o : D) (k : Int → Prop) : Prop := match o with
  | .int i => k i
  | _ => False
def woSome (W : WE) : WO := fun ρ k => W ρ fun d => intK d fun i => k (some i)
def cutD (ds : List D) (lo hi : Option Int) : List D := (ds.drop (HT.sIx ds.length 0 lo)).take (HT.sIx ds.length ds.length hi - HT.sIx ds.length 0 lo)
def wSlT (W : WE) (l h : WO) : WE := fun ρ k => W ρ fun o => tupK o fun ds => l ρ fun lo => h ρ fun hi => k (.wtp (cutD ds lo hi))
def wSlL (W : WE) (l h : WO) : WE := fun ρ k => W ρ fun o => lstK o fun ds => l ρ fun lo => h ρ fun hi => k (.lst (cutD ds lo hi))
def wRev (W : WE) : WE := fun ρ k => W ρ fun o => lstK o fun ds => k (.lst ds.reverse)
section
variable {X : Cx} {e : Expr} {te : TE} {W : WE} {lo hi : Option Expr} {tl th : TO} {L Hh : WO} {pos p2 : Pos}
theorem ow_none : OW X none tNoPart woNone := ⟨po_none, fun {F G H w σ ρ k Q} R h q => q _ G H R (Gr.refl ..) h⟩
theorem ow_some (h : EW X e te W) : OW X (some e) (tPart te) (woSome W) := ⟨po_some h.pe, fun {F G H w σ ρ k Q} R hw q => h.li R hw fun v d G1 H1 R1 g1 r hk => by
  unfold intK at hk
  split at hk
  · cases r; exact ⟨_, rfl, q _ _ _ R1 g1 hk⟩
  · cases hk⟩
theorem cut_rp {K : PySem.W.Frag} {G : Hp} {xs : List V} {ds : List D} (r : RpL K G xs ds) (lo hi : Option Int) : RpL K G (cutV xs lo hi) (cutD ds lo hi) := by
  unfold cutV cutD
  rw [r.length]
  exact (r.drop _).take _
theorem ew_slT (h : EW X e te W) (hl : OW X lo tl L) (hh : OW X hi th Hh) : EW X (.Subscript e (.Slice lo hi none p2) pos) (tSl (rSlA X.K) te tl th) (wSlT W L Hh) := ⟨pe_slice sl_tupA h.pe hl.po hh.po, fun {F G H w σ ρ k Q} R hw q => by
  refine h.li R hw fun x dx G1 H1 R1 g1 rx h1 => ?_
  unfold tupK at h1
  split at h1
  · rename_i ds
    cases rx with | tup ht hr =>
      refine hl.li R1 h1 fun l G2 H2 R2 g2 h2 => hh.li R2 h2 fun u G3 H3 R3 g3 h3 => ?_
      have ht3 : SqT X.K G3 _ _ := g3.gs.sqT (g2.gs.sqT ht.sq)
      have hr3 := RpL.mono (g2.gs.trans g3.gs) _ _ hr
      have g13 := (g1.trans g2).trans g3
      refine ⟨_, _, rfl, R3.sub.sqT ht3, fun ⟨c1, c2⟩ => ?_, fun _ p hp => ?_⟩
      · have e1 : cutD ds l u = ds := by
          unfold cutD
          rw [hr.length] at c1 c2
          rw [c1, c2, List.drop_zero, Nat.sub_zero, List.take_length]
        rw [e1] at h3
        exact q _ _ G3 H3 R3 g13 (.wtp ht3 hr3) h3
      · exact q _ _ _ _ (R3.grow0 (Gr.new hp R3.sub) R3.sub.new) (g13.trans (Gr.new hp R3.sub)) (.wtp (SqT.of upd_same) (RpL.mono (Gr.new (F := none) hp R3.sub).gs _ _ (cut_rp hr3 l u))) h3
  · cases h1⟩
theorem ew_slL (h : EW X e te W) (hl : OW X lo tl L) (hh : OW X hi th Hh) : EW X (.Subscript e (.Slice lo hi none p2) pos) (tSl (rSlL X.K) te tl th) (wSlL W L Hh) := ⟨pe_slice sl_list h.pe hl.po hh.po, fun {F G H w σ ρ k Q} R hw q => by
  refine h.li R hw fun x dx G1 H1 R1 g1 rx h1 => ?_
  unfold lstK at h1
  split at h1
  · rename_i ds
    cases rx with | lst ht hr =>
      refine hl.li R1 h1 fun l G2 H2 R2 g2 h2 => hh.li R2 h2 fun u G3 H3 R3 g3 h3 => ?_
      have hr3 := RpL.mono (g2.gs.trans g3.gs) _ _ hr
      have g13 := (g1.trans g2).trans g3
      exact ⟨_, _, rfl, SqL.of (R3.sub _ _ (g3.gs _ _ (g2.gs _ _ ht))), fun p hp => q _ _ _ _ (R3.grow0 (Gr.new hp R3.sub) R3.sub.new) (g13.trans (Gr.new hp R3.sub)) (.lst upd_same (RpL.mono (Gr.new (F := none) hp R3.sub).gs _ _ (cut_rp hr3 l u))) h3⟩
  · cases h1⟩
theorem ew_rev {k : Nat} {p1 p3 p4 : Pos} (h : EW X e te W) : EW X (.Subscript e (.Slice none none (some (.UnaryOp .USub (.Constant (.int 1) k p1) p2)) p3) pos) (tRevL X.K te) (wRev W) := ⟨pe_revL h.pe, fun {F G H w σ ρ k Q} R hw q => by
  refine h.li R hw fun x dx G1 H1 R1 g1 rx h1 => ?_
  unfold lstK at h1
  split at h1
  · rename_i ds
    cases rx with | lst ht hr =>
      exact ⟨_, _, rfl, SqL.of (R1.sub _ _ ht), fun p hp => q _ _ _ _ (R1.grow0 (Gr.new hp R1.sub) R1.sub.new) (g1.trans (Gr.new hp R1.sub)) (.lst upd_same (RpL.mono (Gr.new (F := none) hp R1.sub).gs _ _ hr.reverse)) h1⟩
  · cases h1⟩
end
/-! ### stars in a display -/
def spliceD (d : D) (k : List D → Prop) : Prop := match d with
  | .tup ds => k ds
  | .wtp ds => k ds
  | .lst ds => k ds
  | .key ks => k (intsAll ks)
  | _ => False
def wStar (W : WE) (A : WA) : WA := fun ρ k => W ρ fun d => spliceD d fun ds => A ρ fun es => k (ds ++ es)
theorem aw_star {X : Cx} {e : Expr} {es : List Expr} {te : TE} {t : TA} {W : WE} {A : WA} {p : Pos} (h : EW X e te W) (hr : AW X es t A) (hs : starEach (.Starred e p :: es) X.env = (true, eval e X.env) :: starEach es X.env := by rfl) : AW X (.Starred e p :: es) (StX.tStar X.K te t) (wStar W A) := ⟨StX.pa_star h.pe hr.pa hs, fun {F G H w σ ρ k Q} R hw q => by
  refine h.li R hw fun x dx G1 H1 R1 g1 rx h1 => ?_
  have fin : ∀ (a : Addr) (xs : List V) (ds : List D), x = .ref a → (SqT X.K H1 a xs ∨ SqL X.K H1 a xs) → RpL X.K G1 xs ds → (A _ fun es => k (ds ++ es)) → ∃ p xs, x = V.ref p ∧ (SqT X.K H1 p xs ∨ SqL X.K H1 p xs) ∧ t σ H1 fun ys H2 => Q (xs ++ ys) H2 :=
    fun a xs ds ex hs hrx hA => ⟨a, xs, ex, hs, hr.li R1 hA fun ys es G2 H2 R2 g2 r2 h2 => q _ _ G2 H2 R2 (g1.trans g2) ((RpL.mono g2.gs _ _ hrx).append r2) h2⟩
  unfold spliceD at h1
  split at h1
  · cases rx with | tup ht hr => exact fin _ _ _ rfl (.inl (R1.sub.sqT ht.sq)) hr h1
  · cases rx with | wtp ht hr => exact fin _ _ _ rfl (.inl (R1.sub.sqT ht)) hr h1
  · cases rx with | lst ht hr => exact fin _ _ _ rfl (.inr (SqL.of (R1.sub _ _ ht))) hr h1
  · cases rx with | key ht => exact fin _ _ _ rfl (.inl (SqT.of (R1.sub _ _ ht))) (rpl_ints _) h1
  · cases h1⟩
end Wd
set_option maxRecDepth 100000
set_option maxHeartbeats 2000000
namespace Wd
open PySem PySem.Spec PyProof.Rows L2
section
variable {K : PySem.W.Frag} {F : Option Addr} {G0 H0 G H G' H' : Hp} {w : Addr → Nat} {σ σ' : L2.St} {ρ ρ' : List Sl} {i j : Nat} {p a : Addr} {o : HO}
def NoOwn (σ : L2.St) (ρ : List Sl) (p : Addr) : Prop := ∀ (j : Nat) (a : Addr), ownD (ρ[j]?) → σ[j]? = some (some (.ref a)) → a ≠ p
theorem Rs.noOwn (R : Rs K F G H w σ ρ) (hp : H p = none) : NoOwn σ ρ p := fun j a ho e => by
  rcases ho with ⟨ds, h⟩ | ⟨ds, h⟩
  · obtain ⟨b, xs, e1, h1, _⟩ := R.at_ j _ h
    rw [e] at e1; cases e1
    exact ne_of_none h1 hp
  · obtain ⟨b, xs, e1, h1, _⟩ := R.at_ j _ h
    rw [e] at e1; cases e1
    exact ne_of_none h1 hp
/-- a list that stands outside of the data becomes a slot's own -/
theorem Rs.adopt {xs : List V} {ds : List D} (R : Rs K F G H w σ ρ) (hH : H p = some (.lst xs)) (hG : G p = none) (hF : F ≠ some p) (hn : NoOwn σ ρ p) (r : RpL K G xs ds) :
    Rs K F G H (fun a => if a = p then i else w a) (σ.set i (some (.ref p))) (ρ.set i (.ow ds)) := by
  refine ⟨R.sub, by rw [List.length_set, List.length_set, R.len], fun j s h => ?_, R.fok⟩
  by_cases e : i = j
  · subst e
    by_cases hl : i < ρ.length
    · rw [List.getElem?_set_self hl] at h
      cases h
      exact ⟨p, xs, by rw [List.getElem?_set_self (by rw [R.len]; exact hl)], hH, hG, if_pos rfl, hF, r⟩
    · rw [List.getElem?_eq_none (by rw [List.length_set]; omega)] at h
      cases h
  · rw [List.getElem?_set_ne e] at h ⊢
    have q := R.at_ j s h
    cases s with
    | un => trivial
    | da d => exact q
    | ow es =>
      obtain ⟨a, ys, e1, h1, h2, h3, h4, h5⟩ := q
      have na : a ≠ p := hn j a (.inl ⟨_, h⟩) e1
      exact ⟨a, ys, e1, h1, h2, (if_neg na).trans h3, h4, h5⟩
    | od es =>
      obtain ⟨a, ys, e1, h1, h2, h3, h4, h5⟩ := q
      have na : a ≠ p := hn j a (.inr ⟨_, h⟩) e1
      exact ⟨a, ys, e1, h1, h2, (if_neg na).trans h3, h4, h5⟩
    | fd => exact q
    | ob _ => exact q
theorem RE.adopt {xs : List V} {ds : List D} (R : RE K F G0 H0 G H w σ ρ) (h0 : H0 p = none) (hH : H p = some (.lst xs)) (hG : G p = none) (hF : F ≠ some p) (hn : NoOwn σ ρ p) (r : RpL K G xs ds) :
    RE K F G0 H0 G H (fun a => if a = p then i else w a) (σ.set i (some (.ref p))) (ρ.set i (.ow ds)) := by
  refine ⟨R.rs.adopt hH hG hF hn r, R.gr, fun j a h e => ?_⟩
  by_cases ej : i = j
  · subst ej
    by_cases hl : i < σ.length
    · rw [List.getElem?_set_self hl] at e
      cases e
      exact h0
    · rw [List.set_eq_of_length_le (by rw [← R.rs.len]; omega)] at h
      rw [List.set_eq_of_length_le (by omega)] at e
      exact R.own _ a h e
  · rw [List.getElem?_set_ne ej] at h e
    exact R.own j a h e
theorem RE.set (R : RE K F G0 H0 G H w σ ρ) {v : V} {d : D} (r : Rp K G v d) : RE K F G0 H0 G H w (σ.set i (some v)) (ρ.set i (.da d)) := R.took (R.rs.set r) (took_set i v d R.rs.len)
theorem NoOwn.set (h : NoOwn σ ρ p) (hl : σ.length = ρ.length) {v : V} {d : D} : NoOwn (σ.set i (some v)) (ρ.set i (.da d)) p := fun j a ho e => by
  rcases (took_set i v d hl).each j with ⟨h1, h2⟩ | ⟨d', h1⟩
  · rw [h1] at ho; rw [h2] at e; exact h j a ho e
  · rw [h1] at ho; rcases ho with ⟨_, z⟩ | ⟨_, z⟩ <;> cases z
end
/-! ### several names at once -/
def wPar (i j : Nat) (A : WA) : WSt := fun D ρ => A ρ fun ds => match ds with
  | [a, b] => D.nx ((ρ.set i (.da a)).set j (.da b))
  | _ => False
def wPar3 (i j l : Nat) (A : WA) : WSt := fun D ρ => A ρ fun ds => match ds with
  | [a, b, c] => D.nx (((ρ.set i (.da a)).set j (.da b)).set l (.da c))
  | _ => False
def wParOD (i j : Nat) (W : WE) : WSt := fun D ρ => W ρ fun d => D.nx ((ρ.set i (.ow [])).set j (.da d))
def wParDO (i j : Nat) (W : WE) : WSt := fun D ρ => W ρ fun d => D.nx ((ρ.set i (.da d)).set j (.ow []))
theorem rpl3 {K : PySem.W.Frag} {G : Hp} {xs : List V} {d e f : D} (r : RpL K G xs [d, e, f]) : ∃ v u z, xs = [v, u, z] ∧ Rp K G v d ∧ Rp K G u e ∧ Rp K G z f := by
  cases r with | cons r rr => cases rr with | cons r2 rr => cases rr with | cons r3 rr => cases rr; exact ⟨_, _, _, rfl, r, r2, r3⟩
section
variable {X : Cx} {st : Stmt} {ta : TA} {A : WA} {i j l : Nat} {te : TE} {W : WE} {e : Expr} {es : List Expr}
theorem sw_par (hA : AW X es ta A) (hp : PS X st (tPar i j ta)) : SW X st (tPar i j ta) (wPar i j A) := ⟨hp, fun {F G0 H0 G H w σ ρ D E} R hw q => by
  refine hA.li R.rs hw fun vs ds G1 H1 R1 g1 r hk => ?_
  split at hk
  · obtain ⟨v, u, rfl, r1, r2⟩ := rpl2 r
    exact ⟨v, u, rfl, q.nx _ _ _ _ _ (((R.grow g1 R1).set r1).set r2) hk⟩
  · cases hk⟩
theorem sw_par3 (hA : AW X es ta A) (hp : PS X st (tPar3 i j l ta)) : SW X st (tPar3 i j l ta) (wPar3 i j l A) := ⟨hp, fun {F G0 H0 G H w σ ρ D E} R hw q => by
  refine hA.li R.rs hw fun vs ds G1 H1 R1 g1 r hk => ?_
  split at hk
  · obtain ⟨v, u, z, rfl, r1, r2, r3⟩ := rpl3 r
    exact ⟨v, u, z, rfl, q.nx _ _ _ _ _ ((((R.grow g1 R1).set r1).set r2).set r3) hk⟩
  · cases hk⟩
theorem sw_parOD (hW : EW X e te W) (hp : PS X st (tPar i j (tCons (tLst tNil) (tCons te tNil)))) (hij : i ≠ j) : SW X st (tPar i j (tCons (tLst tNil) (tCons te tNil))) (wParOD i j W) := ⟨hp, fun {F G0 H0 G H w σ ρ D E} R hw q => by
  refine ⟨Nat.zero_le _, fun p hp => ?_⟩
  refine hW.li (R.rs.out (o := .lst []) hp) hw fun v d G1 H1 R1 g1 r hk => ⟨_, _, rfl, ?_⟩
  have hF := R.rs.noF hp
  have e1 : H1 p = some (.lst []) := g1.hp _ _ hF upd_same
  have p1 : G1 p = none := gr_out g1 (sub_none R.rs.sub hp) upd_same
  have R2 : RE X.K F G0 H0 G1 H1 w σ ρ := ⟨R1, (R.gr.trans (Gr.newH hp)).trans g1, R.own⟩
  have R3 := R2.adopt (i := i) (none_of_th R.gr.th hp) e1 p1 hF (R.rs.noOwn hp) .nil
  exact q.nx _ _ _ _ _ (R3.set r) hk⟩
theorem sw_parDO (hW : EW X e te W) (hp : PS X st (tPar i j (tCons te (tCons (tLst tNil) tNil)))) (hij : i ≠ j) : SW X st (tPar i j (tCons te (tCons (tLst tNil) tNil))) (wParDO i j W) := ⟨hp, fun {F G0 H0 G H w σ ρ D E} R hw q => by
  refine hW.li R.rs hw fun v d G1 H1 R1 g1 r hk => ⟨Nat.zero_le _, fun p hp => ⟨_, _, rfl, ?_⟩⟩
  have R2 : RE X.K F G0 H0 G1 (upd H1 p (.lst [])) w σ ρ := ⟨R1.out hp, (R.gr.trans g1).trans (Gr.newH hp), R.own⟩
  have R3 := R2.set (i := i) r
  have h0 : H0 p = none := none_of_th (R.gr.trans g1).th hp
  exact q.nx _ _ _ _ _ (R3.adopt (i := j) h0 upd_same (sub_none R1.sub hp) (R1.noF hp) ((R1.noOwn hp).set R.rs.len) .nil) hk⟩
end
/-! ### a chain of two comparisons -/
def wChain (f g : D → D → Option D) (a b c : WE) : WE := fun ρ k => a ρ fun x => b ρ fun y => match f x y with
  | some (.bl true) => (c ρ fun z => match g y z with
    | some d => k d
    | none => False)
  | some (.bl false) => k (.bl false)
  | _ => False
section
variable {X : Cx} {a b c : Expr} {ta tb tc : TE} {Wa Wb Wc : WE} {pos : Pos}
theorem ew_chain {op op' : CmpOp} {r r' : R2} {f g : D → D → Option D} (ho : OpR X (compareOp op) r) (ho' : OpR X (compareOp op') r') (lo : LOp X.K r f) (lo' : LOp X.K r' g) (ha : EW X a ta Wa) (hb : EW X b tb Wb) (hc : EW X c tc Wc)
    (hm : lastMarks [op, op'] [b, c] = false := by with_unfolding_all rfl) : EW X (.Compare a [op, op'] [b, c] pos) (tChain r r' ta tb tc) (wChain f g Wa Wb Wc) := ⟨pe_chain ho ho' ha.pe hb.pe hc.pe hm, fun {F G H w σ ρ k Q} R hw q => by
  refine ha.li R hw fun x dx G1 H1 R1 g1 rx h1 => hb.li R1 h1 fun y dy G2 H2 R2 g2 ry h2 => ?_
  split at h2
  · rename_i e
    refine lo R2.sub (Rp.mono g2.gs _ _ rx) ry e fun v G3 H3 s3 g3 rv => ?_
    cases rv
    refine ⟨true, rfl, ?_⟩
    rw [if_pos rfl]
    refine hc.li (R2.grow0 g3 s3) h2 fun z dz G4 H4 R4 g4 rz h4 => ?_
    split at h4
    · rename_i d e4
      exact lo' R4.sub (Rp.mono (g3.gs.trans g4.gs) _ _ ry) rz e4 fun v G5 H5 s5 g5 rv => q v d G5 H5 (R4.grow0 g5 s5) ((((g1.trans g2).trans g3.any).trans g4).trans g5.any) rv h4
    · cases h4
  · rename_i e
    refine lo R2.sub (Rp.mono g2.gs _ _ rx) ry e fun v G3 H3 s3 g3 rv => ?_
    cases rv
    refine ⟨false, rfl, ?_⟩
    rw [if_neg Bool.false_ne_true]
    exact q _ _ G3 H3 (R2.grow0 g3 s3) ((g1.trans g2).trans g3.any) (.bl false) h2
  · cases h2⟩
end
/-! ### the module's constants -/
def KTup (K : PySem.W.Frag) (mg : Str → Option Value) (x : Str) (ds : List D) : Prop := mg x = some (.ref (He.ga K x)) ∧ ∀ G, Rp K G (.ref (He.ga K x)) (.tup ds)
theorem ew_ktup {X : Cx} {x : Str} {ds : List D} {pos : Pos} (h : KTup X.K X.mg x ds) (hg : Gl X x := by rfl) (hd : (x == ("__debug__" : Str)) = false := by decide) : EW X (.Name x pos) (tC (.ref (He.ga X.K x))) (wC (.tup ds)) := ew_glob hg h.1 rfl h.2 hd
theorem ew_kstr {X : Cx} {x z : Str} {pos : Pos} (h : ∃ t, X.mg x = some (.str z t)) (hg : Gl X x := by rfl) (hd : (x == ("__debug__" : Str)) = false := by decide) : EW X (.Name x pos) (tC (.str z)) (wC (.str z)) := by
  obtain ⟨t, h⟩ := h
  exact ew_glob hg h ⟨t, rfl⟩ (fun _ => .str z) hd
theorem ew_kint {X : Cx} {x : Str} {z : Int} {pos : Pos} (h : ∃ t, X.mg x = some (.int z t)) (hg : Gl X x := by rfl) (hd : (x == ("__debug__" : Str)) = false := by decide) : EW X (.Name x pos) (tC (.int z)) (wC (.int z)) := by
  obtain ⟨t, h⟩ := h
  exact ew_glob hg h ⟨t, rfl⟩ (fun _ => .int z) hd
/-- what the program's defs ask of the module -/
structure Txt (K : PySem.W.Frag) (mg : Str → Option Value) : Prop where
  len : mg "len" = none
  range : mg "range" = none
  isinstance : mg "isinstance" = none
  int : mg "int" = none
  bool : mg "bool" = none
  str : mg "str" = none
  tuple : mg "tuple" = none
  all : mg "all" = none
  any : mg "any" = none
  enumerate : mg "enumerate" = none
  min : mg "min" = none
  max : mg "max" = none
  sum : mg "sum" = none
  dict : mg "dict" = none
  list : mg "list" = none
  repr : mg "repr" = none
  sorted : mg "sorted" = none
  zip : mg "zip" = none
  LETTERS : ∃ t, mg "LETTERS" = some (.str "abcdefghijklmnopqrstuvwxyz" t)
  LONGEST_NAME : ∃ t, mg "LONGEST_NAME" = some (.int 8 t)
  KEPT : ∃ t, mg "KEPT" = some (.str "kept" t)
  COUNT_WORDS : KTup K mg "COUNT_WORDS" [.str "hours", .str "cycles", .str "days"]
  JOINING_WORDS : KTup K mg "JOINING_WORDS" [.str "first", .str "later"]
  NO_NUMBERS : KTup K mg "NO_NUMBERS" [.int 0, .int 0, .int 0]
  NO_USE : KTup K mg "NO_USE" [.int 0, .int 0]
end Wd
set_option maxRecDepth 100000
set_option maxHeartbeats 2000000
namespace Wd
open PySem PySem.Spec PyProof.Rows L2
/-! ### the rules as a printed derivation names them -/
section
variable {X : Cx} {e e2 tg iter elt : Expr} {es : List Expr} {te te2 tk tv : TE} {W W2 Wk Wv : WE} {g : TG} {u : TGs} {Wg : WG} {r : List D → List Sl → (List Sl → Prop) → Prop} {ix iy : List Nat} {pos p1 p2 p3 : Pos} {x y z : Str} {kk k2 : Nat} {A : WA} {ta : TA}
theorem gsc (h1 : GW X e g Wg ix) (h2 : GsW X es u r iy) (hs : (assignEach (e :: es) X.env).map (·.2) = assign e X.env :: (assignEach es X.env).map (·.2) := by rfl) : GsW X (e :: es) (gCons g u) (gwCons Wg r) (ix ++ iy) := gsw_cons h1 h2 (pgs_cons h1.pg h2.pg hs)
theorem gtup {n : Nat} (h : GsW X es u r ix) (hc : X.calm = true := by rfl) (hn : (assignEach es X.env).length = n := by rfl) (hst : (assignEach es X.env).findIdx? (·.1) = none := by rfl) : GW X (.Tuple es kk pos) (gTup X.K n u) (gwTup r n) ix := gw_tup h (pg_tup hc h.pg hn hst)
theorem sasg (he : EW X e te W) (hg : GW X tg g Wg ix) (hs : swapsWithSole [tg] e pos.line X.env = pure false := by rfl) (hw : swappedStores [tg] e X.env = pure none := by rfl) (h1 : (assignEach [tg] X.env).map (·.2) = [assign tg X.env] := by rfl) : SW X (.Assign [tg] e pos) (tAsg te g) (wAsg W Wg) := sw_asg he hg (ps_asg he.pe hg.pg hs hw h1)
theorem sapp (i : Nat) {apos npos cpos : Pos} (hW : EW X e te W) (hN : X.N[i]? = some x := by rfl) (hv : Vis X.env.scope x := by first | exact Or.inl rfl | exact Or.inr (Or.inl rfl) | exact Or.inr (Or.inr rfl)) (hd : (x == ("__debug__" : Str)) = false := by decide) (hcd : (x == ("__classdict__" : Str)) = false := by decide)
    (hbase : attributeBase (.Name x npos) "append" X.env (eval (.Name x npos) X.env) = eval (.Name x npos) X.env := by rfl)
    (hfew : ((backTo cpos (starEach (e :: []) X.env)).all (fun x => !x.1) && (backToKw cpos (keywordEach [] X.env)).all (fun x => x.1.isSome) && decide ((e :: []).length + ([] : List Keyword).length + (if ([] : List Keyword).isEmpty then 0 else 1) < 30)) = true := by rfl)
    (hline : (apos.endLine == cpos.line) = true := by rfl) (hs : starEach (e :: []) X.env = (false, eval e X.env) :: starEach [] X.env := by rfl) (hplain : (backTo cpos (starEach [] X.env)).any (·.1) = false := by rfl)
    (hsw : swapsWith (.Call (.Attribute (.Name x npos) "append" apos) [e] [] cpos) none pos.line X.env = pure false := by rfl) : SW X (.Expr (.Call (.Attribute (.Name x npos) "append" apos) [e] [] cpos) pos) (tDrop (tBM X.K "list" rAppend (tVar i) (tCons te tNil))) (wApp i W) :=
  sw_app i hW (ps_expr (pe_bm PySem.F.plainAttrs_list PySem.F.slot_list_append PySem.F.type_list_append mt_append (pe_var hN hv hd hcd) (pa_cons hW.pe pa_nil hs) hbase hfew hline hs hplain) hsw)
theorem sext (i : Nat) {apos npos cpos : Pos} (hW : EW X e te W) (hN : X.N[i]? = some x := by rfl) (hv : Vis X.env.scope x := by first | exact Or.inl rfl | exact Or.inr (Or.inl rfl) | exact Or.inr (Or.inr rfl)) (hd : (x == ("__debug__" : Str)) = false := by decide) (hcd : (x == ("__classdict__" : Str)) = false := by decide)
    (hbase : attributeBase (.Name x npos) "extend" X.env (eval (.Name x npos) X.env) = eval (.Name x npos) X.env := by rfl)
    (hfew : ((backTo cpos (starEach (e :: []) X.env)).all (fun x => !x.1) && (backToKw cpos (keywordEach [] X.env)).all (fun x => x.1.isSome) && decide ((e :: []).length + ([] : List Keyword).length + (if ([] : List Keyword).isEmpty then 0 else 1) < 30)) = true := by rfl)
    (hline : (apos.endLine == cpos.line) = true := by rfl) (hs : starEach (e :: []) X.env = (false, eval e X.env) :: starEach [] X.env := by rfl) (hplain : (backTo cpos (starEach [] X.env)).any (·.1) = false := by rfl)
    (hsw : swapsWith (.Call (.Attribute (.Name x npos) "extend" apos) [e] [] cpos) none pos.line X.env = pure false := by rfl) : SW X (.Expr (.Call (.Attribute (.Name x npos) "extend" apos) [e] [] cpos) pos) (tDrop (tBM X.K "list" rExtend (tVar i) (tCons te tNil))) (wExt i W) :=
  sw_ext i hW (ps_expr (pe_bm PySem.F.plainAttrs_list PySem.F.slot_list_extend PySem.F.type_list_extend mt_extend (pe_var hN hv hd hcd) (pa_cons hW.pe pa_nil hs) hbase hfew hline hs hplain) hsw)
theorem spop (i : Nat) {apos npos cpos : Pos} (hg : GW X tg g Wg ix) (hN : X.N[i]? = some x := by rfl) (hv : Vis X.env.scope x := by first | exact Or.inl rfl | exact Or.inr (Or.inl rfl) | exact Or.inr (Or.inr rfl)) (hd : (x == ("__debug__" : Str)) = false := by decide) (hcd : (x == ("__classdict__" : Str)) = false := by decide)
    (hbase : attributeBase (.Name x npos) "pop" X.env (eval (.Name x npos) X.env) = eval (.Name x npos) X.env := by rfl) (hline : (apos.endLine == cpos.line) = true := by rfl)
    (hs : swapsWithSole [tg] (.Call (.Attribute (.Name x npos) "pop" apos) [] [] cpos) pos.line X.env = pure false := by rfl) (hw : swappedStores [tg] (.Call (.Attribute (.Name x npos) "pop" apos) [] [] cpos) X.env = pure none := by rfl) (h1 : (assignEach [tg] X.env).map (·.2) = [assign tg X.env] := by rfl) :
    SW X (.Assign [tg] (.Call (.Attribute (.Name x npos) "pop" apos) [] [] cpos) pos) (tAsg (tBM0 X.K "list" rPop (tVar i)) g) (wPop i Wg) :=
  sw_pop i hg (ps_asg (pe_bm0 PySem.F.plainAttrs_list PySem.F.slot_list_pop PySem.F.type_list_pop mt_pop (pe_var hN hv hd hcd) hbase hline) hg.pg hs hw h1)
theorem sdput (i : Nat) {npos spos : Pos} (hu : X.A.units + 1 < cLine) (hk : EW X e tk Wk) (hv : EW X e2 tv Wv) (hN : X.N[i]? = some x := by rfl) (hvis : Vis X.env.scope x := by first | exact Or.inl rfl | exact Or.inr (Or.inl rfl) | exact Or.inr (Or.inr rfl)) (hd : (x == ("__debug__" : Str)) = false := by decide) (hcd : (x == ("__classdict__" : Str)) = false := by decide)
    (hs : swapsWith e2 (some (.Subscript (.Name x npos) e spos)) pos.line X.env = pure false := by rfl) : SW X (.Assign [.Subscript (.Name x npos) e spos] e2 pos) (sDPut (tVar i) tk tv) (wDPut i Wk Wv) := sw_dput i hu hk hv (ps_dput hu (pe_var hN hvis hd hcd) hk.pe hv.pe hs)
theorem edgetO (i : Nat) {npos : Pos} (hu : X.A.units + 1 < cLine) (hk : EW X e tk Wk) (hN : X.N[i]? = some x := by rfl) (hvis : Vis X.env.scope x := by first | exact Or.inl rfl | exact Or.inr (Or.inl rfl) | exact Or.inr (Or.inr rfl)) (hd : (x == ("__debug__" : Str)) = false := by decide) (hcd : (x == ("__classdict__" : Str)) = false := by decide) (hs : NoSl e := by exact fun _ _ => rfl) :
    EW X (.Subscript (.Name x npos) e pos) (tDGet (tVar i) tk) (wDGet i Wk) := ew_dgetO i hk (pe_dget hu (pe_var hN hvis hd hcd) hk.pe hs)
theorem edin (hu : X.A.units + 1 < cLine) (ha : EW X e te W) (hb : EW X e2 te2 W2) (hm : behindInMarks .In e2 = false := by rfl) : EW X (.Compare e [.In] [e2] pos) (tDIn te te2) (wOp dinD W W2) := ew_din hu ha hb (pe_cmp (pc_din hu ha.pe hb.pe) hm)
theorem etidx {apos cpos : Pos} (ho : EW X e te W) (he : EW X e2 te2 W2) (hbase : attributeBase e "index" X.env (eval e X.env) = eval e X.env := by rfl)
    (hfew : ((backTo cpos (starEach [e2] X.env)).all (fun x => !x.1) && (backToKw cpos (keywordEach [] X.env)).all (fun x => x.1.isSome) && decide ([e2].length + ([] : List Keyword).length + (if ([] : List Keyword).isEmpty then 0 else 1) < 30)) = true := by rfl)
    (hline : (apos.endLine == cpos.line) = true := by rfl) (hs : starEach [e2] X.env = (false, eval e2 X.env) :: starEach [] X.env := by rfl) (hplain : (backTo cpos (starEach [] X.env)).any (·.1) = false := by rfl) :
    EW X (.Call (.Attribute e "index" apos) [e2] [] cpos) (tBMT X.K (rTI X.K) te (tCons te2 tNil)) (wIdxT W W2) := ew_tidx ho he (pe_tidx ho.pe (pa_cons he.pe pa_nil hs) hbase hfew hline hs hplain)
theorem elidx {apos cpos : Pos} (ho : EW X e te W) (he : EW X e2 te2 W2) (hbase : attributeBase e "index" X.env (eval e X.env) = eval e X.env := by rfl)
    (hfew : ((backTo cpos (starEach (e2 :: []) X.env)).all (fun x => !x.1) && (backToKw cpos (keywordEach [] X.env)).all (fun x => x.1.isSome) && decide ((e2 :: []).length + ([] : List Keyword).length + (if ([] : List Keyword).isEmpty then 0 else 1) < 30)) = true := by rfl)
    (hline : (apos.endLine == cpos.line) = true := by rfl) (hs : starEach (e2 :: []) X.env = (false, eval e2 X.env) :: starEach [] X.env := by rfl) (hplain : (backTo cpos (starEach [] X.env)).any (·.1) = false := by rfl) :
    EW X (.Call (.Attribute e "index" apos) [e2] [] cpos) (tBM X.K "list" (rIndex X.K) te (tCons te2 tNil)) (wIdxL W W2) := ew_lidx ho he (pe_bm PySem.F.plainAttrs_list PySem.F.slot_list_index PySem.F.type_list_index mt_index ho.pe (pa_cons he.pe pa_nil hs) hbase hfew hline hs hplain)
theorem spar {i j : Nat} {px py pt : Pos} {kt : Nat} {pt2 : Pos} (hN : X.N.Nodup) (hA : AW X [e, e2] ta A) (hi : X.N[i]? = some x := by rfl) (hj : X.N[j]? = some y := by rfl) (hij : i ≠ j := by decide) (hx : X.env.scope.names.lookup x = some .local := by rfl) (hy : X.env.scope.names.lookup y = some .local := by rfl)
    (hw : swappedStores [.Tuple [.Name x px, .Name y py] kt pt] (.Tuple [e, e2] k2 pt2) X.env = pure (some [x, y]) := by rfl) (hs : swapsWithSole [.Tuple [.Name x px, .Name y py] kt pt] (.Tuple [e, e2] k2 pt2) pos.line X.env = pure false := by rfl) (hc : X.calm = true := by rfl) :
    SW X (.Assign [.Tuple [.Name x px, .Name y py] kt pt] (.Tuple [e, e2] k2 pt2) pos) (tPar i j ta) (wPar i j A) := sw_par hA (ps_par hc hN hi hj hij hx hy hA.pa hw hs)
theorem spar3 {e3 : Expr} {i j l : Nat} {px py pz pt : Pos} {kt : Nat} {pt2 : Pos} (hN : X.N.Nodup) (hA : AW X [e, e2, e3] ta A) (hi : X.N[i]? = some x := by rfl) (hj : X.N[j]? = some y := by rfl) (hl : X.N[l]? = some z := by rfl) (hij : i ≠ j := by decide) (hil : i ≠ l := by decide) (hjl : j ≠ l := by decide) (hx : X.env.scope.names.lookup x = some .local := by rfl) (hy : X.env.scope.names.lookup y = some .local := by rfl) (hz : X.env.scope.names.lookup z = some .local := by rfl)
    (hw : swappedStores [.Tuple [.Name x px, .Name y py, .Name z pz] kt pt] (.Tuple [e, e2, e3] k2 pt2) X.env = pure (some [x, y, z]) := by rfl) (hs : swapsWithSole [.Tuple [.Name x px, .Name y py, .Name z pz] kt pt] (.Tuple [e, e2, e3] k2 pt2) pos.line X.env = pure false := by rfl) (hc : X.calm = true := by rfl) :
    SW X (.Assign [.Tuple [.Name x px, .Name y py, .Name z pz] kt pt] (.Tuple [e, e2, e3] k2 pt2) pos) (tPar3 i j l ta) (wPar3 i j l A) := sw_par3 hA (ps_par3 hc hN hi hj hl hij hil hjl hx hy hz hA.pa hw hs)
theorem sparOD {i j : Nat} {px py pt p0 : Pos} {kt : Nat} {pt2 : Pos} (hN : X.N.Nodup) (hW : EW X e2 te2 W2) (hi : X.N[i]? = some x := by rfl) (hj : X.N[j]? = some y := by rfl) (hij : i ≠ j := by decide) (hx : X.env.scope.names.lookup x = some .local := by rfl) (hy : X.env.scope.names.lookup y = some .local := by rfl)
    (hs1 : starEach ((.List [] p0) :: [e2]) X.env = (false, eval (.List [] p0) X.env) :: starEach [e2] X.env := by rfl) (hs2 : starEach (e2 :: []) X.env = (false, eval e2 X.env) :: starEach [] X.env := by rfl)
    (hw : swappedStores [.Tuple [.Name x px, .Name y py] kt pt] (.Tuple [.List [] p0, e2] k2 pt2) X.env = pure (some [x, y]) := by rfl) (hs : swapsWithSole [.Tuple [.Name x px, .Name y py] kt pt] (.Tuple [.List [] p0, e2] k2 pt2) pos.line X.env = pure false := by rfl) (hc : X.calm = true := by rfl) :
    SW X (.Assign [.Tuple [.Name x px, .Name y py] kt pt] (.Tuple [.List [] p0, e2] k2 pt2) pos) (tPar i j (tCons (tLst tNil) (tCons te2 tNil))) (wParOD i j W2) := sw_parOD hW (ps_par hc hN hi hj hij hx hy (pa_cons (pe_lst pa_nil) (pa_cons hW.pe pa_nil hs2) hs1) hw hs) hij
theorem sparDO {i j : Nat} {px py pt p0 : Pos} {kt : Nat} {pt2 : Pos} (hN : X.N.Nodup) (hW : EW X e te W) (hi : X.N[i]? = some x := by rfl) (hj : X.N[j]? = some y := by rfl) (hij : i ≠ j := by decide) (hx : X.env.scope.names.lookup x = some .local := by rfl) (hy : X.env.scope.names.lookup y = some .local := by rfl)
    (hs1 : starEach (e :: [.List [] p0]) X.env = (false, eval e X.env) :: starEach [.List [] p0] X.env := by rfl) (hs2 : starEach ((.List [] p0) :: []) X.env = (false, eval (.List [] p0) X.env) :: starEach [] X.env := by rfl)
    (hw : swappedStores [.Tuple [.Name x px, .Name y py] kt pt] (.Tuple [e, .List [] p0] k2 pt2) X.env = pure (some [x, y]) := by rfl) (hs : swapsWithSole [.Tuple [.Name x px, .Name y py] kt pt] (.Tuple [e, .List [] p0] k2 pt2) pos.line X.env = pure false := by rfl) (hc : X.calm = true := by rfl) :
    SW X (.Assign [.Tuple [.Name x px, .Name y py] kt pt] (.Tuple [e, .List [] p0] k2 pt2) pos) (tPar i j (tCons te (tCons (tLst tNil) tNil))) (wParDO i j W) := sw_parDO hW (ps_par hc hN hi hj hij hx hy (pa_cons hW.pe (pa_cons (pe_lst pa_nil) pa_nil hs2) hs1) hw hs) hij
theorem tchain {e3 : Expr} {te3 : TE} {W3 : WE} {op op' : CmpOp} {r r' : R2} {f g : D → D → Option D} (ho : OpR X (compareOp op) r) (ho' : OpR X (compareOp op') r') (lo : LOp X.K r f) (lo' : LOp X.K r' g) (ha : EW X e te W) (hb : EW X e2 te2 W2) (hc : EW X e3 te3 W3)
    (hm : lastMarks [op, op'] [e2, e3] = false := by with_unfolding_all rfl) : TW X (.Compare e [op, op'] [e2, e3] pos) (tTest (tChain r r' te te2 te3)) (wB (wChain f g W W2 W3)) := ⟨pt_chain ho ho' ha.pe hb.pe hc.pe hm, fun R hw q =>
  (ew_chain (pos := pos) ho ho' lo lo' ha hb hc hm).li (k := fun x => blD x _) R hw fun v d G1 H1 R1 g1 r h1 => by
    obtain ⟨b, rfl, _, h2⟩ := rp_bl r h1
    exact ⟨b, rfl, q b G1 H1 R1 g1 h2⟩⟩
end
section
variable {X : Cx} {elt tg iter : Expr} {ifs : List Expr} {scope : Scope} {pos : Pos} {wi : TI} {g : TG} {tt : TT} {te : TE} {W : WA} {Wg : WG} {T : WT} {We : WE} {ix : List Nat}
theorem ssetLc {i : Nat} {y : Str} {py spos : Pos} (own : List (Str × Nat)) (hN : X.N.Nodup) (hi : IW X tg iter wi W) (ok : blkC X.N X.env.scope scope own = true)
    (hg : ∀ (s : Shared) (H : Hp) (C : Addr) (cl : List (Str × Addr)) (fp : List Addr), GW (X.blk s H scope (compEnvC scope cl C X.env) fp) tg g Wg ix) (ht : ∀ (s : Shared) (H : Hp) (C : Addr) (cl : List (Str × Addr)) (fp : List Addr), QW (X.blk s H scope (compEnvC scope cl C X.env) fp) ifs tt T)
    (he : ∀ (s : Shared) (H : Hp) (C : Addr) (cl : List (Str × Addr)) (fp : List Addr), EW (X.blk s H scope (compEnvC scope cl C X.env) fp) elt te We)
    (hy : X.N[i]? = some y := by rfl) (hyl : X.env.scope.names.lookup y = some .local := by rfl) (hsw : swapsWith (.ListComp elt [⟨tg, iter, ifs, 0⟩] scope pos) (some (.Name y py)) spos.line X.env = pure true := by exact sw_true rfl rfl rfl (by decide +kernel)) (hv : ∀ j ∈ ix, j ∈ own.map (·.2) := by decide) (hc : X.calm = true := by rfl)
    (hs : ∀ x, foldedSetIterable iter X.env x = pure x := by intro _; rfl) :
    SW X (.Assign [.Name y py] (.ListComp elt [⟨tg, iter, ifs, 0⟩] scope pos) spos) (tAsg (tLc wi g tt te (own.map (·.2))) (gName i)) (wAsg (wLc W Wg T We (own.map (·.2))) (gwName i)) :=
  sw_setLc own hN hi ok hg ht he (ps_setLc hc hN hy hyl hsw hi.pi (blkOk_by ok) (fun s H C cl fp => (hg s H C cl fp).pg) (fun s H C cl fp => (ht s H C cl fp).pt) (fun s H C cl fp => (he s H C cl fp).pe) hs) hv
end
end Wd
namespace Wd
open PySem PySem.Spec PyProof.Rows L2
/-! ### a text, sign by sign -/
def signs (x : Str) : List D := x.cps.toList.map fun c => .str ⟨#[c]⟩
def wiS (W : WE) : WA := fun ρ k => W ρ fun d => match d with
  | .str x => k (signs x)
  | _ => False
theorem wlk_str {K : PySem.W.Frag} {x : Str} {G : Hp} : Wlk K (Its x) G (signs x) := fun G2 H i s1 s2 => by
  unfold signs
  refine ⟨fun hl => by rw [List.length_map, Array.length_toList] at hl; exact hl, fun d hd => ?_⟩
  rw [List.getElem?_map, Array.getElem?_toList] at hd
  cases e : x.cps[i]? with
  | none => rw [e] at hd; cases hd
  | some c =>
    rw [e] at hd
    cases hd
    refine ⟨(Array.getElem?_eq_some_iff.mp e).1, fun v H' y => ?_⟩
    obtain ⟨e2, c', e3, e4⟩ := y
    rw [e] at e3
    cases e3
    subst e2 e4
    exact ⟨G2, s2, Gr.refl .., .str _⟩
theorem iw_str {X : Cx} {tg l : Expr} {te : TE} {W : WE} (h : EW X l te W) : IW X tg l (iStr te) (wiS W) := ⟨pi_str h.pe, fun R hw q => h.li R hw fun v d G' H' R' g r hk => by
  cases d with
  | str x => cases r; exact ⟨_, rfl, q _ _ G' H' R' g wlk_str hk⟩
  | _ => cases hk⟩
end Wd
set_option maxRecDepth 100000
set_option maxHeartbeats 2000000
namespace Wd
open PySem PySem.Spec PyProof.Rows L2
/-! ### the program's text by places -/
def top (i : Nat) : Stmt := PySem.Challenge.pw_whichfirst_k80_whole_days_and_windows.main.body.getD i (.Pass ⟨0, 0, 0, 0⟩)
def d_is_integer : He.DefD := ⟨("is_integer", none), "is_integer", "is_integer", defArgs (top 6), defBody (top 6), defScope (top 6), [], []⟩
def d_is_number : He.DefD := ⟨("is_number", none), "is_number", "is_number", defArgs (top 7), defBody (top 7), defScope (top 7), [], []⟩
def d_is_amount : He.DefD := ⟨("is_amount", none), "is_amount", "is_amount", defArgs (top 8), defBody (top 8), defScope (top 8), [], []⟩
def d_is_name : He.DefD := ⟨("is_name", none), "is_name", "is_name", defArgs (top 9), defBody (top 9), defScope (top 9), [], []⟩
def d_are_numbers : He.DefD := ⟨("are_numbers", none), "are_numbers", "are_numbers", defArgs (top 10), defBody (top 10), defScope (top 10), [], []⟩
def d_is_use : He.DefD := ⟨("is_use", none), "is_use", "is_use", defArgs (top 11), defBody (top 11), defScope (top 11), [], []⟩
def d_are_uses : He.DefD := ⟨("are_uses", none), "are_uses", "are_uses", defArgs (top 12), defBody (top 12), defScope (top 12), [], []⟩
def d_limit_word : He.DefD := ⟨("limit_word", none), "limit_word", "limit_word", defArgs (top 13), defBody (top 13), defScope (top 13), [], []⟩
def d_inner_pairs : He.DefD := ⟨("inner_pairs", none), "inner_pairs", "inner_pairs", defArgs (top 14), defBody (top 14), defScope (top 14), [], []⟩
def d_limit_fault : He.DefD := ⟨("limit_fault", none), "limit_fault", "limit_fault", defArgs (top 15), defBody (top 15), defScope (top 15), [], []⟩
def d_is_limit : He.DefD := ⟨("is_limit", none), "is_limit", "is_limit", defArgs (top 16), defBody (top 16), defScope (top 16), [], []⟩
def d_require_usable : He.DefD := ⟨("require_usable", none), "require_usable", "require_usable", defArgs (top 23), defBody (top 23), defScope (top 23), [], []⟩
def d_all_pairs : He.DefD := ⟨("all_pairs", none), "all_pairs", "all_pairs", defArgs (top 24), defBody (top 24), defScope (top 24), [], []⟩
def d_number_for : He.DefD := ⟨("number_for", none), "number_for", "number_for", defArgs (top 25), defBody (top 25), defScope (top 25), [], []⟩
def d_passes_less : He.DefD := ⟨("passes_less", none), "passes_less", "passes_less", defArgs (top 26), defBody (top 26), defScope (top 26), [], []⟩
def d_is_passed : He.DefD := ⟨("is_passed", none), "is_passed", "is_passed", defArgs (top 27), defBody (top 27), defScope (top 27), [], []⟩
def d_is_reached : He.DefD := ⟨("is_reached", none), "is_reached", "is_reached", defArgs (top 28), defBody (top 28), defScope (top 28), [], []⟩
def d_widened : He.DefD := ⟨("widened", none), "widened", "widened", defArgs (top 29), defBody (top 29), defScope (top 29), [], []⟩
def d_machine_names : He.DefD := ⟨("machine_names", none), "machine_names", "machine_names", defArgs (top 31), defBody (top 31), defScope (top 31), [], []⟩
def d_part_names : He.DefD := ⟨("part_names", none), "part_names", "part_names", defArgs (top 32), defBody (top 32), defScope (top 32), [], []⟩
def d_index_among : He.DefD := ⟨("index_among", none), "index_among", "index_among", defArgs (top 33), defBody (top 33), defScope (top 33), [], []⟩
def d_uses_of : He.DefD := ⟨("uses_of", none), "uses_of", "uses_of", defArgs (top 34), defBody (top 34), defScope (top 34), [], []⟩
def d_stays_of : He.DefD := ⟨("stays_of", none), "stays_of", "stays_of", defArgs (top 35), defBody (top 35), defScope (top 35), [], []⟩
def d_require_day : He.DefD := ⟨("require_day", none), "require_day", "require_day", defArgs (top 36), defBody (top 36), defScope (top 36), [], []⟩
def d_place_on : He.DefD := ⟨("place_on", none), "place_on", "place_on", defArgs (top 37), defBody (top 37), defScope (top 37), [], []⟩
def d_use_on : He.DefD := ⟨("use_on", none), "use_on", "use_on", defArgs (top 38), defBody (top 38), defScope (top 38), [], []⟩
def d_place_of : He.DefD := ⟨("place_of", none), "place_of", "place_of", defArgs (top 39), defBody (top 39), defScope (top 39), [], []⟩
def d_use_of : He.DefD := ⟨("use_of", none), "use_of", "use_of", defArgs (top 40), defBody (top 40), defScope (top 40), [], []⟩
def d_part_use : He.DefD := ⟨("part_use", none), "part_use", "part_use", defArgs (top 43), defBody (top 43), defScope (top 43), [], []⟩
def d_steady_day : He.DefD := ⟨("steady_day", none), "steady_day", "steady_day", defArgs (top 44), defBody (top 44), defScope (top 44), [], []⟩
def d_plain_counts : He.DefD := ⟨("plain_counts", none), "plain_counts", "plain_counts", defArgs (top 45), defBody (top 45), defScope (top 45), [], []⟩
def d_counts_between : He.DefD := ⟨("counts_between", none), "counts_between", "counts_between", defArgs (top 46), defBody (top 46), defScope (top 46), [], []⟩
def d_plain_passing : He.DefD := ⟨("plain_passing", none), "plain_passing", "plain_passing", defArgs (top 47), defBody (top 47), defScope (top 47), [], []⟩
def d_first_passing : He.DefD := ⟨("first_passing", none), "first_passing", "first_passing", defArgs (top 48), defBody (top 48), defScope (top 48), [], []⟩
def d_passing_day : He.DefD := ⟨("passing_day", none), "passing_day", "passing_day", defArgs (top 49), defBody (top 49), defScope (top 49), [], []⟩
def d_task_named : He.DefD := ⟨("task_named", none), "task_named", "task_named", defArgs (top 52), defBody (top 52), defScope (top 52), [], []⟩
def d_moved_limit : He.DefD := ⟨("moved_limit", none), "moved_limit", "moved_limit", defArgs (top 53), defBody (top 53), defScope (top 53), [], []⟩
def d_lasting : He.DefD := ⟨("lasting", none), "lasting", "lasting", defArgs (top 54), defBody (top 54), defScope (top 54), [], []⟩
def d_task_due : He.DefD := ⟨("task_due", none), "task_due", "task_due", defArgs (top 55), defBody (top 55), defScope (top 55), [], []⟩
def d_task_late : He.DefD := ⟨("task_late", none), "task_late", "task_late", defArgs (top 56), defBody (top 56), defScope (top 56), [], []⟩
def d_task_early : He.DefD := ⟨("task_early", none), "task_early", "task_early", defArgs (top 57), defBody (top 57), defScope (top 57), [], []⟩
def d_named_base : He.DefD := ⟨("named_base", none), "named_base", "named_base", defArgs (top 58), defBody (top 58), defScope (top 58), [], []⟩
def d_due_day : He.DefD := ⟨("due_day", none), "due_day", "due_day", defArgs (top 59), defBody (top 59), defScope (top 59), [], []⟩
def d_late_day : He.DefD := ⟨("late_day", none), "late_day", "late_day", defArgs (top 60), defBody (top 60), defScope (top 60), [], []⟩
def d_early_day : He.DefD := ⟨("early_day", none), "early_day", "early_day", defArgs (top 61), defBody (top 61), defScope (top 61), [], []⟩
def d_task_window : He.DefD := ⟨("task_window", none), "task_window", "task_window", defArgs (top 62), defBody (top 62), defScope (top 62), [], []⟩
def d_window_of : He.DefD := ⟨("window_of", none), "window_of", "window_of", defArgs (top 63), defBody (top 63), defScope (top 63), [], []⟩
def d_check_bases : He.DefD := ⟨("check_bases", none), "check_bases", "check_bases", defArgs (top 66), defBody (top 66), defScope (top 66), [], []⟩
def d_plain_limits : He.DefD := ⟨("plain_limits", none), "plain_limits", "plain_limits", defArgs (top 68), defBody (top 68), defScope (top 68), [], []⟩
def d_least_due : He.DefD := ⟨("least_due", none), "least_due", "least_due", defArgs (top 70), defBody (top 70), defScope (top 70), [], []⟩
def d_replaced : He.DefD := ⟨("replaced", none), "replaced", "replaced", defArgs (top 72), defBody (top 72), defScope (top 72), [], []⟩
def d_with_uses : He.DefD := ⟨("with_uses", none), "with_uses", "with_uses", defArgs (top 73), defBody (top 73), defScope (top 73), [], []⟩
def d__law_feed : He.DefD := ⟨("_law_feed", none), "_law_feed", "_law_feed", defArgs (top 75), defBody (top 75), defScope (top 75), [], []⟩
def d__law_draw : He.DefD := ⟨("_law_draw", none), "_law_draw", "_law_draw", defArgs (top 76), defBody (top 76), defScope (top 76), [], []⟩
def d__law_pick : He.DefD := ⟨("_law_pick", none), "_law_pick", "_law_pick", defArgs (top 77), defBody (top 77), defScope (top 77), [], []⟩
def d__law_plain : He.DefD := ⟨("_law_plain", none), "_law_plain", "_law_plain", defArgs (top 78), defBody (top 78), defScope (top 78), [], []⟩
def d__law_limit : He.DefD := ⟨("_law_limit", none), "_law_limit", "_law_limit", defArgs (top 79), defBody (top 79), defScope (top 79), [], []⟩
def d__law_machines : He.DefD := ⟨("_law_machines", none), "_law_machines", "_law_machines", defArgs (top 80), defBody (top 80), defScope (top 80), [], []⟩
def d__law_parts : He.DefD := ⟨("_law_parts", none), "_law_parts", "_law_parts", defArgs (top 81), defBody (top 81), defScope (top 81), [], []⟩
def d__law_tasks : He.DefD := ⟨("_law_tasks", none), "_law_tasks", "_law_tasks", defArgs (top 82), defBody (top 82), defScope (top 82), [], []⟩
def d__law_site : He.DefD := ⟨("_law_site", none), "_law_site", "_law_site", defArgs (top 83), defBody (top 83), defScope (top 83), [], []⟩
def d__law_use : He.DefD := ⟨("_law_use", none), "_law_use", "_law_use", defArgs (top 84), defBody (top 84), defScope (top 84), [], []⟩
def d__law_counts : He.DefD := ⟨("_law_counts", none), "_law_counts", "_law_counts", defArgs (top 85), defBody (top 85), defScope (top 85), [], []⟩
def d__law_passed : He.DefD := ⟨("_law_passed", none), "_law_passed", "_law_passed", defArgs (top 86), defBody (top 86), defScope (top 86), [], []⟩
def d__law_more : He.DefD := ⟨("_law_more", none), "_law_more", "_law_more", defArgs (top 87), defBody (top 87), defScope (top 87), [], []⟩
def d__law_passing : He.DefD := ⟨("_law_passing", none), "_law_passing", "_law_passing", defArgs (top 88), defBody (top 88), defScope (top 88), [], []⟩
def d__law_three : He.DefD := ⟨("_law_three", none), "_law_three", "_law_three", defArgs (top 89), defBody (top 89), defScope (top 89), [], []⟩
def d__law_counts_right : He.DefD := ⟨("_law_counts_right", none), "_law_counts_right", "_law_counts_right", defArgs (top 90), defBody (top 90), defScope (top 90), [], []⟩
def d__law_limit_right : He.DefD := ⟨("_law_limit_right", none), "_law_limit_right", "_law_limit_right", defArgs (top 91), defBody (top 91), defScope (top 91), [], []⟩
def d__law_behind : He.DefD := ⟨("_law_behind", none), "_law_behind", "_law_behind", defArgs (top 92), defBody (top 92), defScope (top 92), [], []⟩
def d__law_days_right : He.DefD := ⟨("_law_days_right", none), "_law_days_right", "_law_days_right", defArgs (top 93), defBody (top 93), defScope (top 93), [], []⟩
def d__law_rows_right : He.DefD := ⟨("_law_rows_right", none), "_law_rows_right", "_law_rows_right", defArgs (top 94), defBody (top 94), defScope (top 94), [], []⟩
def d__law_plains : He.DefD := ⟨("_law_plains", none), "_law_plains", "_law_plains", defArgs (top 95), defBody (top 95), defScope (top 95), [], []⟩
def d__law_due_right : He.DefD := ⟨("_law_due_right", none), "_law_due_right", "_law_due_right", defArgs (top 96), defBody (top 96), defScope (top 96), [], []⟩
def d__law_far_right : He.DefD := ⟨("_law_far_right", none), "_law_far_right", "_law_far_right", defArgs (top 97), defBody (top 97), defScope (top 97), [], []⟩
def d_law : He.DefD := ⟨("law", none), "law", "law", defArgs (top 98), defBody (top 98), defScope (top 98), [], []⟩
def clsBody : List Stmt := match top 69 with
  | .ClassDef (body := b) .. => b
  | _ => []
def mDue (i : Nat) : Stmt := clsBody.getD i (.Pass ⟨0, 0, 0, 0⟩)
def d_Due___init__ : He.DefD := ⟨("Due", some "__init__"), "__init__", "Due.__init__", defArgs (mDue 1), defBody (mDue 1), defScope (mDue 1), [], []⟩

def d_Due___call__ : He.DefD := ⟨("Due", some "__call__"), "__call__", "Due.__call__", defArgs (mDue 9), defBody (mDue 9), defScope (mDue 9), [], []⟩

def d_Due___eq__ : He.DefD := ⟨("Due", some "__eq__"), "__eq__", "Due.__eq__", defArgs (mDue 10), defBody (mDue 10), defScope (mDue 10), [], []⟩

def d_Due___lt__ : He.DefD := ⟨("Due", some "__lt__"), "__lt__", "Due.__lt__", defArgs (mDue 11), defBody (mDue 11), defScope (mDue 11), [], []⟩

def d_Due___le__ : He.DefD := ⟨("Due", some "__le__"), "__le__", "Due.__le__", defArgs (mDue 12), defBody (mDue 12), defScope (mDue 12), [], []⟩
def d_Due_name : He.DefD := ⟨("Due", some "name"), "name", "Due.name", defArgs (mDue 4), defBody (mDue 4), defScope (mDue 4), [], []⟩
def d_Due_early_on : He.DefD := ⟨("Due", some "early_on"), "early_on", "Due.early_on", defArgs (mDue 6), defBody (mDue 6), defScope (mDue 6), [], []⟩
def d_Due_due_on : He.DefD := ⟨("Due", some "due_on"), "due_on", "Due.due_on", defArgs (mDue 7), defBody (mDue 7), defScope (mDue 7), [], []⟩
def d_Due_late_on : He.DefD := ⟨("Due", some "late_on"), "late_on", "Due.late_on", defArgs (mDue 8), defBody (mDue 8), defScope (mDue 8), [], []⟩
def d_Due_nearest : He.DefD := ⟨("Due", some "nearest"), "nearest", "Due.nearest", defArgs (mDue 2), defBody (mDue 2), defScope (mDue 2), [], []⟩
def d_windows_of : He.DefD := ⟨("windows_of", none), "windows_of", "windows_of", defArgs (top 64), defBody (top 64), defScope (top 64), [], []⟩
def fn0 : List He.DefD := [d_is_integer, d_is_number, d_is_amount, d_is_name, d_are_numbers, d_is_use, d_are_uses, d_limit_word, d_inner_pairs, d_limit_fault, d_is_limit, d_require_usable, d_all_pairs, d_number_for]
def fa0 : List He.Fa := [.glo "is_integer", .glo "is_number", .glo "is_amount", .glo "is_name", .glo "are_numbers", .glo "is_use", .glo "are_uses", .glo "limit_word", .glo "inner_pairs", .glo "limit_fault", .glo "is_limit", .glo "require_usable", .glo "all_pairs", .glo "number_for"]
def fn1 : List He.DefD := [d_passes_less, d_is_passed, d_is_reached, d_widened, d_machine_names, d_part_names, d_index_among, d_uses_of, d_stays_of, d_require_day, d_place_on, d_use_on, d_place_of, d_use_of]
def fa1 : List He.Fa := [.glo "passes_less", .glo "is_passed", .glo "is_reached", .glo "widened", .glo "machine_names", .glo "part_names", .glo "index_among", .glo "uses_of", .glo "stays_of", .glo "require_day", .glo "place_on", .glo "use_on", .glo "place_of", .glo "use_of"]
def fn2 : List He.DefD := [d_part_use, d_steady_day, d_plain_counts, d_counts_between, d_plain_passing, d_first_passing, d_passing_day, d_task_named, d_moved_limit, d_lasting, d_task_due, d_task_late, d_task_early, d_named_base]
def fa2 : List He.Fa := [.glo "part_use", .glo "steady_day", .glo "plain_counts", .glo "counts_between", .glo "plain_passing", .glo "first_passing", .glo "passing_day", .glo "task_named", .glo "moved_limit", .glo "lasting", .glo "task_due", .glo "task_late", .glo "task_early", .glo "named_base"]
def fn3 : List He.DefD := [d_due_day, d_late_day, d_early_day, d_task_window, d_window_of, d_check_bases, d_plain_limits, d_least_due, d_replaced, d_with_uses, d__law_feed, d__law_draw, d__law_pick, d__law_plain]
def fa3 : List He.Fa := [.glo "due_day", .glo "late_day", .glo "early_day", .glo "task_window", .glo "window_of", .glo "check_bases", .glo "plain_limits", .glo "least_due", .glo "replaced", .glo "with_uses", .glo "_law_feed", .glo "_law_draw", .glo "_law_pick", .glo "_law_plain"]
def fn4 : List He.DefD := [d__law_limit, d__law_machines, d__law_parts, d__law_tasks, d__law_site, d__law_use, d__law_counts, d__law_passed, d__law_more, d__law_passing, d__law_three, d__law_counts_right, d__law_limit_right, d__law_behind]
def fa4 : List He.Fa := [.glo "_law_limit", .glo "_law_machines", .glo "_law_parts", .glo "_law_tasks", .glo "_law_site", .glo "_law_use", .glo "_law_counts", .glo "_law_passed", .glo "_law_more", .glo "_law_passing", .glo "_law_three", .glo "_law_counts_right", .glo "_law_limit_right", .glo "_law_behind"]
def fn5 : List He.DefD := [d__law_days_right, d__law_rows_right, d__law_plains, d__law_due_right, d__law_far_right, d_law]
def fa5 : List He.Fa := [.glo "_law_days_right", .glo "_law_rows_right", .glo "_law_plains", .glo "_law_due_right", .glo "_law_far_right", .glo "law"]
def fn6 : List He.DefD := [d_windows_of, d_Due___init__, d_Due___call__, d_Due___eq__, d_Due___lt__, d_Due___le__]
def fa6 : List He.Fa := [.glo "windows_of", .meth "Due" "__init__", .meth "Due" "__call__", .meth "Due" "__eq__", .meth "Due" "__lt__", .meth "Due" "__le__"]
def fn : List He.DefD := fn0 ++ fn1 ++ fn2 ++ fn3 ++ fn4 ++ fn5 ++ fn6
def fa : List He.Fa := fa0 ++ fa1 ++ fa2 ++ fa3 ++ fa4 ++ fa5 ++ fa6
/-! ### the class Due: what the top has left -/
abbrev duC (K : PySem.W.Frag) : Addr := He.ga K "Due"
def duN : List Str := ["own_base", "own_key", "own_late", "own_site", "own_task"]
/-- a property's getter, the classmethod's def -/
def prG (K : PySem.W.Frag) (f : Str) : Addr := match PySem.W.recIn K (He.ma K (duC K) f) "property" with
  | some (.ref g :: _) => g
  | _ => 0
def cmG (K : PySem.W.Frag) (f : Str) : Addr := match PySem.W.recIn K (He.ma K (duC K) f) "classmethod" with
  | some (.ref g :: _) => g
  | _ => 0
structure PropK (K : PySem.W.Frag) (d : He.DefD) : Prop where
  at_ : PySem.W.findIn K (.ref (duC K)) d.name = some (some (.ref (He.ma K (duC K) d.name)))
  get : PySem.W.specialIn K (.ref (He.ma K (duC K) d.name)) "__get__" = some (some (.builtin "property.__get__"))
  tk : PySem.W.takesIn K (.ref (He.ma K (duC K) d.name)) = some true
  rc : ∃ rest, PySem.W.recIn K (He.ma K (duC K) d.name) "property" = some (.ref (prG K d.name) :: rest)
  fn : ∃ fd, FunD K d.name d.qual d.params d.body d.scope [] [] (prG K d.name) fd
structure NearK (K : PySem.W.Frag) : Prop where
  rd : ClX.CRead K (duC K) (.type "type")
  met : ClX.CMet K (duC K) (.type "type") "nearest" (He.ma K (duC K) "nearest") (cmG K "nearest")
  fn : ∃ fd, FunD K d_Due_nearest.name d_Due_nearest.qual d_Due_nearest.params d_Due_nearest.body d_Due_nearest.scope [] [] (cmG K "nearest") fd
structure DueK (K : PySem.W.Frag) (mg : Str → Option Value) : Prop where
  gl : mg "Due" = some (.ref (duC K))
  mkr : L2.Mk K (duC K) (He.ma K (duC K) "__init__")
  sc : SlX.SCls K (duC K)
  sl : ∀ i f, duN[i]? = some f → SlX.Slot1 K (duC K) f (He.ma K (duC K) f) i
  isi : SlX.SIsi K (duC K)
  call : StX.CallO K (duC K) (He.ma K (duC K) "__call__")
  pn : PropK K d_Due_name
  pe : PropK K d_Due_early_on
  pd : PropK K d_Due_due_on
  pl : PropK K d_Due_late_on
  near : NearK K
/-- what the top has left, as the defs' proofs take it -/
structure En (K : PySem.W.Frag) (mg : Str → Option Value) : Prop where
  t : Txt K mg
  d : He.SaysD fa fn K
  du : DueK K mg
  g : ∀ x, (He.Fa.glo x).ok K = true → mg x = some (.ref (He.ga K x))
theorem mkOk {P : Program} {w : World} {K : PySem.W.Frag} {mg : Str → Option Value} {base : Heap} {x : Str} {ps : List Str} {k : Nat} {W : WF} (E : En K mg) (i : Nat) (d : He.DefD) (hi : fn[i]? = some d) (hj : fa[i]? = some (.glo x)) (hx : d.at_ = (x, none)) (h1 : d.dfl = []) (h2 : d.kwd = [])
    (H : ∀ fd, FunD K d.name d.qual d.params d.body d.scope [] [] (He.ga K x) fd → FnOk P w K mg base CX0 k (He.ga K x) fd ps (spW K W) ∧ Binds K fd ps []) : Ok P w K mg base k x ps W := by
  obtain ⟨fd, F⟩ := E.d.def_ i hi
  have e1 : d.dvs K = [] := by unfold He.DefD.dvs; rw [h1]; rfl
  have e2 : d.kws K = [] := by unfold He.DefD.kws; rw [h2]; rfl
  have e3 : He.fAd K d.at_ = He.ga K x := by rw [hx]; rfl
  rw [e1, e2, e3] at F
  exact ⟨⟨fd, H fd F⟩, E.g x (E.d.fact i hj), F.kp⟩
end Wd
set_option maxRecDepth 100000
set_option maxHeartbeats 2000000
namespace Wd
open PySem PySem.Spec PyProof.Rows L2
/-! ### what a def of so many parameters promises -/
def S1 (f : Ar → (D → Prop) → Prop) : WF := fun as k => match as with
  | [a] => f a k
  | _ => False
def S2 (f : Ar → Ar → (D → Prop) → Prop) : WF := fun as k => match as with
  | [a, b] => f a b k
  | _ => False
def S3 (f : Ar → Ar → Ar → (D → Prop) → Prop) : WF := fun as k => match as with
  | [a, b, c] => f a b c k
  | _ => False
def S4 (f : Ar → Ar → Ar → Ar → (D → Prop) → Prop) : WF := fun as k => match as with
  | [a, b, c, d] => f a b c d k
  | _ => False
def S5 (f : Ar → Ar → Ar → Ar → Ar → (D → Prop) → Prop) : WF := fun as k => match as with
  | [a, b, c, d, e] => f a b c d e k
  | _ => False
theorem S1.len {f} : ∀ as k, S1 f as k → as.length = 1 := fun as k h => by
  unfold S1 at h
  split at h
  · rfl
  · cases h
theorem S2.len {f} : ∀ as k, S2 f as k → as.length = 2 := fun as k h => by
  unfold S2 at h
  split at h
  · rfl
  · cases h
theorem S3.len {f} : ∀ as k, S3 f as k → as.length = 3 := fun as k h => by
  unfold S3 at h
  split at h
  · rfl
  · cases h
theorem S4.len {f} : ∀ as k, S4 f as k → as.length = 4 := fun as k h => by
  unfold S4 at h
  split at h
  · rfl
  · cases h
theorem S5.len {f} : ∀ as k, S5 f as k → as.length = 5 := fun as k h => by
  unfold S5 at h
  split at h
  · rfl
  · cases h
theorem S1.el {f} {R : List Ar → (D → Prop) → Prop} (h : ∀ a k, f a k → R [a] k) : ∀ as k, S1 f as k → R as k := fun as k q => by
  unfold S1 at q
  split at q
  · exact h _ _ q
  · cases q
theorem S2.el {f} {R : List Ar → (D → Prop) → Prop} (h : ∀ a b k, f a b k → R [a, b] k) : ∀ as k, S2 f as k → R as k := fun as k q => by
  unfold S2 at q
  split at q
  · exact h _ _ _ q
  · cases q
theorem S3.el {f} {R : List Ar → (D → Prop) → Prop} (h : ∀ a b c k, f a b c k → R [a, b, c] k) : ∀ as k, S3 f as k → R as k := fun as k q => by
  unfold S3 at q
  split at q
  · exact h _ _ _ _ q
  · cases q
theorem S4.el {f} {R : List Ar → (D → Prop) → Prop} (h : ∀ a b c d k, f a b c d k → R [a, b, c, d] k) : ∀ as k, S4 f as k → R as k := fun as k q => by
  unfold S4 at q
  split at q
  · exact h _ _ _ _ _ q
  · cases q
theorem S5.el {f} {R : List Ar → (D → Prop) → Prop} (h : ∀ a b c d e k, f a b c d e k → R [a, b, c, d, e] k) : ∀ as k, S5 f as k → R as k := fun as k q => by
  unfold S5 at q
  split at q
  · exact h _ _ _ _ _ _ q
  · cases q
theorem bb_len : bootBuiltins "len" = some (.builtin "len") := by decide +kernel
theorem bb_all : bootBuiltins "all" = some (.builtin "all") := by decide +kernel
theorem bb_any : bootBuiltins "any" = some (.builtin "any") := by decide +kernel
theorem bb_sum : bootBuiltins "sum" = some (.builtin "sum") := by decide +kernel
theorem bb_min : bootBuiltins "min" = some (.builtin "min") := by decide +kernel
theorem bb_max : bootBuiltins "max" = some (.builtin "max") := by decide +kernel
theorem bb_isinstance : bootBuiltins "isinstance" = some (.builtin "isinstance") := by decide +kernel
theorem bb_repr : bootBuiltins "repr" = some (.builtin "repr") := by decide +kernel
theorem bb_sorted : bootBuiltins "sorted" = some (.builtin "sorted") := by decide +kernel
theorem bb_int : bootBuiltins "int" = some (.type "int") := by decide +kernel
theorem bb_bool : bootBuiltins "bool" = some (.type "bool") := by decide +kernel
theorem bb_str : bootBuiltins "str" = some (.type "str") := by decide +kernel
theorem bb_tuple : bootBuiltins "tuple" = some (.type "tuple") := by decide +kernel
theorem bb_list : bootBuiltins "list" = some (.type "list") := by decide +kernel
theorem bb_dict : bootBuiltins "dict" = some (.type "dict") := by decide +kernel
theorem bb_range : bootBuiltins "range" = some (.type "range") := by decide +kernel
theorem bb_enumerate : bootBuiltins "enumerate" = some (.type "enumerate") := by decide +kernel
theorem bb_zip : bootBuiltins "zip" = some (.type "zip") := by decide +kernel
theorem kit_ii : kitB "int" "int" = some true := by decide +kernel
theorem kit_bi : kitB "bool" "int" = some true := by decide +kernel
theorem kit_bb : kitB "bool" "bool" = some true := by decide +kernel
theorem kit_ib : kitB "int" "bool" = some false := by decide +kernel
theorem kit_ss : kitB "str" "str" = some true := by decide +kernel
theorem kit_tt : kitB "tuple" "tuple" = some true := by decide +kernel
theorem kit_ts : kitB "tuple" "str" = some false := by decide +kernel
theorem kit_si : kitB "str" "int" = some false := by decide +kernel
end Wd
set_option maxRecDepth 100000
set_option maxHeartbeats 2000000
namespace Wd
open PySem PySem.Spec PyProof.Rows L2
/-! ### the rules with the written part K named: within a comprehension's block X.K is no letter -/
section
variable {X : Cx} {e e2 tg iter elt : Expr} {es : List Expr} {te te2 tk tv : TE} {W W2 Wk Wv : WE} {g : TG} {u : TGs} {Wg : WG} {r : List D → List Sl → (List Sl → Prop) → Prop} {ix iy : List Nat} {pos p p1 p2 p3 : Pos} {x y z : Str} {kk k2 : Nat} {A : WA} {ta : TA}
theorem ktup (K : PySem.W.Frag) {n : Nat} (h : GsW X es u r ix) (hK : X.K = K := by rfl) (hc : X.calm = true := by rfl) (hn : (assignEach es X.env).length = n := by rfl) (hst : (assignEach es X.env).findIdx? (·.1) = none := by rfl) : GW X (.Tuple es kk pos) (gTup K n u) (gwTup r n) ix := by
  subst hK
  exact gtup h hc hn hst
theorem kcall (K : PySem.W.Frag) {k : Nat} {ps : List Str} {Wf : WF} {tA : TA} {C : List Sl → (List Ar → Prop) → Prop} (F : Ok X.prog X.w K X.mg X.base k x ps Wf) (hr : Room k X.A) (ha : CW X (e :: es) tA C) (hK : X.K = K := by rfl) (hg : Gl X x := by rfl) (hd : (x == ("__debug__" : Str)) = false := by decide)
    (he : starEach (e :: es) X.env = (false, eval e X.env) :: starEach es X.env := by rfl) (hpl : (backTo pos (starEach es X.env)).any (·.1) = false := by rfl) : EW X (.Call (.Name x p) (e :: es) [] pos) (tCall (spW K Wf) [] E0 tA) (wCall Wf C) := by
  subst hK
  exact ew_call F hr ha hg hd he hpl
theorem kix (K : PySem.W.Frag) (ha : EW X e te W) (hb : EW X e2 te2 W2) (hs : PlainIx e2) (hK : X.K = K := by rfl) : EW X (.Subscript e e2 pos) (tOp (rIx K) te te2) (wOp ixD W W2) := by
  subst hK
  exact ew_ix ix_seq lo_ix ha hb hs
theorem keq (K : PySem.W.Frag) (hu : X.A.units + 64 < cLine) (ha : EW X e te W) (hb : EW X e2 te2 W2) (hK : X.K = K := by rfl) : EW X (.Compare e [.Eq] [e2] pos) (tOp (rEq2 K) te te2) (wOp eqD W W2) := by
  subst hK
  exact ew_cmp (op_eq.or (op_eqD hu)) lo_eq ha hb (nomark _)
theorem kne (K : PySem.W.Frag) (hu : X.A.units + 64 < cLine) (ha : EW X e te W) (hb : EW X e2 te2 W2) (hK : X.K = K := by rfl) : EW X (.Compare e [.NotEq] [e2] pos) (tOp (rNe2 K) te te2) (wOp neD W W2) := by
  subst hK
  exact ew_cmp (op_ne.or (op_neD hu)) lo_ne ha hb (nomark _)
theorem tkeq (K : PySem.W.Frag) (hu : X.A.units + 64 < cLine) (ha : EW X e te W) (hb : EW X e2 te2 W2) (hK : X.K = K := by rfl) : TW X (.Compare e [.Eq] [e2] pos) (tTest (tOp (rEq2 K) te te2)) (wB (wOp eqD W W2)) := by
  subst hK
  exact tw_cmp (op_eq.or (op_eqD hu)) lo_eq ha hb (nomark _)
theorem tkne (K : PySem.W.Frag) (hu : X.A.units + 64 < cLine) (ha : EW X e te W) (hb : EW X e2 te2 W2) (hK : X.K = K := by rfl) : TW X (.Compare e [.NotEq] [e2] pos) (tTest (tOp (rNe2 K) te te2)) (wB (wOp neD W W2)) := by
  subst hK
  exact tw_cmp (op_ne.or (op_neD hu)) lo_ne ha hb (nomark _)
theorem kin (K : PySem.W.Frag) (ha : EW X e te W) (hb : EW X e2 te2 W2) (hK : X.K = K := by rfl) (hm : behindInMarks .In e2 = false := by rfl) : EW X (.Compare e [.In] [e2] pos) (tOp (rIn K false) te te2) (wOp (inD false) W W2) := by
  subst hK
  exact ew_cmp op_in_seq (lo_in false) ha hb hm
theorem knin (K : PySem.W.Frag) (ha : EW X e te W) (hb : EW X e2 te2 W2) (hK : X.K = K := by rfl) (hm : behindInMarks .NotIn e2 = false := by rfl) : EW X (.Compare e [.NotIn] [e2] pos) (tOp (rIn K true) te te2) (wOp (inD true) W W2) := by
  subst hK
  exact ew_cmp op_notIn_seq (lo_in true) ha hb hm
theorem tkin (K : PySem.W.Frag) (ha : EW X e te W) (hb : EW X e2 te2 W2) (hK : X.K = K := by rfl) (hm : behindInMarks .In e2 = false := by rfl) : TW X (.Compare e [.In] [e2] pos) (tTest (tOp (rIn K false) te te2)) (wB (wOp (inD false) W W2)) := by
  subst hK
  exact tw_cmp op_in_seq (lo_in false) ha hb hm
theorem tknin (K : PySem.W.Frag) (ha : EW X e te W) (hb : EW X e2 te2 W2) (hK : X.K = K := by rfl) (hm : behindInMarks .NotIn e2 = false := by rfl) : TW X (.Compare e [.NotIn] [e2] pos) (tTest (tOp (rIn K true) te te2)) (wB (wOp (inD true) W W2)) := by
  subst hK
  exact tw_cmp op_notIn_seq (lo_in true) ha hb hm
theorem kcatK (K : PySem.W.Frag) (ha : EW X e te W) (hb : EW X e2 te2 W2) (hK : X.K = K := by rfl) : EW X (.BinOp e .Add e2 pos) (tOp (rCatA K) te te2) (wOp addK W W2) := by
  subst hK
  exact ew_op op_catA lo_addK ha hb
/-- a call of a built-in of one list of arguments -/
theorem kB {id : String} {f : List D → Option D} (K : PySem.W.Frag) {rr : PySem.W.Frag → List V → Hp → VK → Prop} (hc : CallR X (.builtin id) (rr X.K)) (lo : LCall X.K (rr X.K) f) (hm : X.mg x = none) (hv : bootBuiltins x = some (.builtin id)) (ha : AW X (e :: es) ta A) (hK : X.K = K := by rfl) (hg : Gl X x := by rfl) (hn : x ≠ "__name__" := by decide) (hdb : (x == ("__debug__" : Str)) = false := by decide)
    (he : starEach (e :: es) X.env = (false, eval e X.env) :: starEach es X.env := by rfl) (hpl : (backTo pos (starEach es X.env)).any (·.1) = false := by rfl) : EW X (.Call (.Name x p) (e :: es) [] pos) (tCB (rr K) ta) (wCB f A) := by
  subst hK
  exact ew_callB hc lo hg hm hv ha hn hdb he hpl
theorem kT {T : String} {f : List D → Option D} (K : PySem.W.Frag) {rr : PySem.W.Frag → List V → Hp → VK → Prop} (hc : CallR X (.type T) (rr X.K)) (lo : LCall X.K (rr X.K) f) (hm : X.mg x = none) (hv : bootBuiltins x = some (.type T)) (ha : AW X (e :: es) ta A) (hK : X.K = K := by rfl) (hg : Gl X x := by rfl) (hn : x ≠ "__name__" := by decide) (hdb : (x == ("__debug__" : Str)) = false := by decide)
    (he : starEach (e :: es) X.env = (false, eval e X.env) :: starEach es X.env := by rfl) (hpl : (backTo pos (starEach es X.env)).any (·.1) = false := by rfl) : EW X (.Call (.Name x p) (e :: es) [] pos) (tCB (rr K) ta) (wCB f A) := by
  subst hK
  exact ew_callTy hc lo hg hm hv ha hn hdb he hpl
abbrev rLenK (K : PySem.W.Frag) : List V → Hp → VK → Prop := fun xs H Q => ∃ x n, xs = [x] ∧ LenV K x H n ∧ Q (.int n) H
abbrev rLstK (K : PySem.W.Frag) : List V → Hp → VK → Prop := fun xs H Q => ∃ p ys, xs = [.ref p] ∧ (SqL K H p ys ∨ SqT K H p ys) ∧ ∀ l, H l = none → Q (.ref l) (upd H l (.lst ys))
abbrev rMin2K (_ : PySem.W.Frag) : List V → Hp → VK → Prop := fun xs H Q => ∃ i j, xs = [.int i, .int j] ∧ Q (.int (if j < i then j else i)) H
abbrev rMax2K (_ : PySem.W.Frag) : List V → Hp → VK → Prop := fun xs H Q => ∃ i j, xs = [.int i, .int j] ∧ Q (.int (if j > i then j else i)) H
abbrev rIntK (_ : PySem.W.Frag) : List V → Hp → VK → Prop := fun xs H Q => (∃ i, xs = [.int i] ∧ Q (.int i) H) ∨ ∃ k, xs = [.bl k] ∧ Q (.int (if k then 1 else 0)) H
theorem kisi (K : PySem.W.Frag) {T : String} (he : EW X e te W) (hm : X.mg "isinstance" = none) (hT : X.mg x = none) (hv : bootBuiltins x = some (.type T)) (hK : X.K = K := by rfl) (hg : Gl X "isinstance" := by rfl) (hgT : Gl X x := by rfl)
    (hn : x ≠ "__name__" := by decide) (hd : (x == ("__debug__" : Str)) = false := by decide)
    (hs1 : starEach (e :: [.Name x p2]) X.env = (false, eval e X.env) :: starEach [.Name x p2] X.env := by rfl) (hs2 : starEach (.Name x p2 :: []) X.env = (false, eval (.Name x p2) X.env) :: starEach [] X.env := by rfl)
    (hpl : (backTo pos (starEach [.Name x p2] X.env)).any (·.1) = false := by rfl) : EW X (.Call (.Name "isinstance" p) [e, .Name x p2] [] pos) (tCB (rIsi K) (tCons te (tCons (tC (.ty T)) tNil))) (wIsi T W) := by
  subst hK
  exact ew_isi he hm hT hv hg hgT hn hd hs1 hs2 hpl
theorem kktup (K : PySem.W.Frag) {ds : List D} (h : KTup K X.mg x ds) (hK : X.K = K := by rfl) (hg : Gl X x := by rfl) (hd : (x == ("__debug__" : Str)) = false := by decide) : EW X (.Name x pos) (tC (.ref (He.ga K x))) (wC (.tup ds)) := by
  subst hK
  exact ew_ktup h hg hd
theorem ktidx (K : PySem.W.Frag) {apos cpos : Pos} (ho : EW X e te W) (he : EW X e2 te2 W2) (hK : X.K = K := by rfl) (hbase : attributeBase e "index" X.env (eval e X.env) = eval e X.env := by rfl)
    (hfew : ((backTo cpos (starEach [e2] X.env)).all (fun x => !x.1) && (backToKw cpos (keywordEach [] X.env)).all (fun x => x.1.isSome) && decide ([e2].length + ([] : List Keyword).length + (if ([] : List Keyword).isEmpty then 0 else 1) < 30)) = true := by rfl)
    (hline : (apos.endLine == cpos.line) = true := by rfl) (hs : starEach [e2] X.env = (false, eval e2 X.env) :: starEach [] X.env := by rfl) (hplain : (backTo cpos (starEach [] X.env)).any (·.1) = false := by rfl) :
    EW X (.Call (.Attribute e "index" apos) [e2] [] cpos) (tBMT K (rTI K) te (tCons te2 tNil)) (wIdxT W W2) := by
  subst hK
  exact etidx ho he hbase hfew hline hs hplain
theorem klidx (K : PySem.W.Frag) {apos cpos : Pos} (ho : EW X e te W) (he : EW X e2 te2 W2) (hK : X.K = K := by rfl) (hbase : attributeBase e "index" X.env (eval e X.env) = eval e X.env := by rfl)
    (hfew : ((backTo cpos (starEach (e2 :: []) X.env)).all (fun x => !x.1) && (backToKw cpos (keywordEach [] X.env)).all (fun x => x.1.isSome) && decide ((e2 :: []).length + ([] : List Keyword).length + (if ([] : List Keyword).isEmpty then 0 else 1) < 30)) = true := by rfl)
    (hline : (apos.endLine == cpos.line) = true := by rfl) (hs : starEach (e2 :: []) X.env = (false, eval e2 X.env) :: starEach [] X.env := by rfl) (hplain : (backTo cpos (starEach [] X.env)).any (·.1) = false := by rfl) :
    EW X (.Call (.Attribute e "index" apos) [e2] [] cpos) (tBM K "list" (rIndex K) te (tCons te2 tNil)) (wIdxL W W2) := by
  subst hK
  exact elidx ho he hbase hfew hline hs hplain
theorem kslT (K : PySem.W.Frag) {lo hi : Option Expr} {tl th : TO} {L Hh : WO} (h : EW X e te W) (hl : OW X lo tl L) (hh : OW X hi th Hh) (hK : X.K = K := by rfl) : EW X (.Subscript e (.Slice lo hi none p2) pos) (tSl (rSlA K) te tl th) (wSlT W L Hh) := by
  subst hK
  exact ew_slT h hl hh
theorem kslL (K : PySem.W.Frag) {lo hi : Option Expr} {tl th : TO} {L Hh : WO} (h : EW X e te W) (hl : OW X lo tl L) (hh : OW X hi th Hh) (hK : X.K = K := by rfl) : EW X (.Subscript e (.Slice lo hi none p2) pos) (tSl (rSlL K) te tl th) (wSlL W L Hh) := by
  subst hK
  exact ew_slL h hl hh
theorem krev (K : PySem.W.Frag) {k : Nat} (h : EW X e te W) (hK : X.K = K := by rfl) : EW X (.Subscript e (.Slice none none (some (.UnaryOp .USub (.Constant (.int 1) k p1) p2)) p3) pos) (tRevL K te) (wRev W) := by
  subst hK
  exact ew_rev (p4 := ⟨0, 0, 0, 0⟩) h
theorem kstar (K : PySem.W.Frag) {t : TA} (h : EW X e te W) (hr : AW X es t A) (hK : X.K = K := by rfl) (hs : starEach (.Starred e p :: es) X.env = (true, eval e X.env) :: starEach es X.env := by rfl) : AW X (.Starred e p :: es) (StX.tStar K te t) (wStar W A) := by
  subst hK
  exact aw_star h hr hs
theorem kiL (K : PySem.W.Frag) (h : EW X e te W) (hK : X.K = K := by rfl) : IW X tg e (iList K te) (wiL W) := by
  subst hK
  exact iw_list h
theorem kiT (K : PySem.W.Frag) (h : EW X e te W) (hK : X.K = K := by rfl) : IW X tg e (iTup K te) (wiT W) := by
  subst hK
  exact iw_tup h
end
end Wd
set_option maxRecDepth 100000
set_option maxHeartbeats 2000000
namespace Wd
open PySem PySem.Spec PyProof.Rows L2
/-! ### comprehensions and loops over typed lists -/
theorem lc_map {α : Type} (enc : α → D) (f : α → D) {g : WG} {te : WE} {ρ : List Sl} {k : List D → Prop} : ∀ (xs : List α) (acc : List D), (∀ x ∈ xs, ∀ kk : D → Prop, kk (f x) → g (enc x) ρ fun ρ' => te ρ' kk) → k (acc ++ xs.map f) → lcGo g wYes te ρ (xs.map enc) acc k
  | [], acc, _, h => by
    rw [List.map_nil, List.append_nil] at h
    exact h
  | x :: xs, acc, hx, h => by
    refine hx x List.mem_cons_self _ ?_
    refine lc_map enc f xs (acc ++ [f x]) (fun y hy => hx y (List.mem_cons_of_mem _ hy)) ?_
    rw [List.append_assoc]
    exact h
theorem wLc_map {α : Type} (enc : α → D) (f : α → D) (xs : List α) {wi : WA} {g : WG} {te : WE} {vs : List Nat} {ρ : List Sl} {k : D → Prop} (hw : ∀ K' : List D → Prop, K' (xs.map enc) → wi ρ K') (hl : xs.length ≤ 1000)
    (h : ∀ x ∈ xs, ∀ kk : D → Prop, kk (f x) → g (enc x) (wipeW ρ vs) fun ρ' => te ρ' kk) (hk : k (.lst (xs.map f))) : wLc wi g wYes te vs ρ k := by
  refine hw _ ⟨by rw [List.length_map]; exact hl, lc_map enc f xs [] h ?_⟩
  rw [List.nil_append]
  exact hk
theorem lc_filter {α : Type} (enc : α → D) (c : α → Bool) (f : α → D) {g : WG} {tt : WT} {te : WE} {ρ : List Sl} {k : List D → Prop} : ∀ (xs : List α) (acc : List D), (∀ x ∈ xs, ∀ (kk : D → Prop) (kn : Prop), (c x = true → kk (f x)) → (c x = false → kn) → g (enc x) ρ fun ρ' => tt ρ' fun b => match b with | true => te ρ' kk | false => kn) →
    k (acc ++ (xs.filter c).map f) → lcGo g tt te ρ (xs.map enc) acc k
  | [], acc, _, h => by
    rw [List.filter_nil, List.map_nil, List.append_nil] at h
    exact h
  | x :: xs, acc, hx, h => by
    refine hx x List.mem_cons_self _ _ (fun hc => ?_) (fun hc => ?_)
    · refine lc_filter enc c f xs (acc ++ [f x]) (fun y hy => hx y (List.mem_cons_of_mem _ hy)) ?_
      rw [List.filter_cons_of_pos hc] at h
      rw [List.append_assoc]
      exact h
    · refine lc_filter enc c f xs acc (fun y hy => hx y (List.mem_cons_of_mem _ hy)) ?_
      rw [List.filter_cons_of_neg (by rw [hc]; decide)] at h
      exact h
theorem wLc_filter {α : Type} (enc : α → D) (c : α → Bool) (f : α → D) (xs : List α) {wi : WA} {g : WG} {tt : WT} {te : WE} {vs : List Nat} {ρ : List Sl} {k : D → Prop} (hw : ∀ K' : List D → Prop, K' (xs.map enc) → wi ρ K') (hl : xs.length ≤ 1000)
    (h : ∀ x ∈ xs, ∀ (kk : D → Prop) (kn : Prop), (c x = true → kk (f x)) → (c x = false → kn) → g (enc x) (wipeW ρ vs) fun ρ' => tt ρ' fun b => match b with | true => te ρ' kk | false => kn) (hk : k (.lst ((xs.filter c).map f))) : wLc wi g tt te vs ρ k := by
  refine hw _ ⟨by rw [List.length_map]; exact hl, lc_filter enc c f xs [] h ?_⟩
  rw [List.nil_append]
  exact hk
/-- a loop over a typed list: the invariant counts the elements that are done -/
theorem for_inv {α : Type} (enc : α → D) {g : WG} {tb : WSt} {E : EnW} (I : Nat → List Sl → Prop) : ∀ (xs : List α) (i : Nat) (ρ : List Sl),
    (∀ (j : Nat) (x : α) (ρ : List Sl) (nxt : List Sl → Prop), xs[j]? = some x → I (i + j) ρ → (∀ ρ', I (i + j + 1) ρ' → nxt ρ') → g (enc x) ρ fun ρ' => tb { E with nx := nxt, ct := nxt, bk := E.nx } ρ') →
    (∀ ρ, I (i + xs.length) ρ → E.nx ρ) → I i ρ → forGo g tb E (xs.map enc) ρ
  | [], i, ρ, _, he, h0 => he ρ h0
  | x :: xs, i, ρ, hs, he, h0 => by
    refine hs 0 x ρ _ rfl h0 fun ρ' h1 => ?_
    refine for_inv enc I xs (i + 1) ρ' (fun j y ρ nxt hy hj hn => ?_) (fun ρ h => he ρ ?_) h1
    · refine hs (j + 1) y ρ nxt hy ?_ (fun ρ' h => hn ρ' ?_)
      · rw [show i + (j + 1) = i + 1 + j by omega]; exact hj
      · rw [show i + 1 + j + 1 = i + (j + 1) + 1 by omega]; exact h
    · rw [List.length_cons, show i + (xs.length + 1) = i + 1 + xs.length by omega]; exact h
theorem wFor_inv {α : Type} (enc : α → D) (xs : List α) {wi : WA} {g : WG} {tb : WSt} {E : EnW} {ρ : List Sl} (I : Nat → List Sl → Prop) (hw : ∀ K' : List D → Prop, K' (xs.map enc) → wi ρ K')
    (h0 : I 0 ρ) (hs : ∀ (j : Nat) (x : α) (ρ : List Sl) (nxt : List Sl → Prop), xs[j]? = some x → I j ρ → (∀ ρ', I (j + 1) ρ' → nxt ρ') → g (enc x) ρ fun ρ' => tb { E with nx := nxt, ct := nxt, bk := E.nx } ρ')
    (he : ∀ ρ, I xs.length ρ → E.nx ρ) : wFor wi g tb E ρ := by
  refine hw _ (for_inv enc I xs 0 ρ (fun j x ρ nxt hx hj hn => hs j x ρ nxt hx ?_ fun ρ' h => hn ρ' ?_) (fun ρ h => he ρ ?_) h0)
  · rw [Nat.zero_add] at hj; exact hj
  · rw [Nat.zero_add]; exact h
  · rw [Nat.zero_add] at h; exact h
theorem blsD_map {α : Type} (p : α → Bool) (l : List α) : blsD (l.map fun x => D.bl (p x)) = some (l.map p) := by
  induction l with
  | nil => rfl
  | cons a l ih => rw [List.map_cons, List.map_cons]; unfold blsD; rw [ih]; rfl
theorem allD_map {α : Type} (p : α → Bool) (l : List α) : allD [.lst (l.map fun x => D.bl (p x))] = some (.bl (l.all p)) := by
  show (blsD (l.map fun x => D.bl (p x))).map _ = _
  rw [blsD_map]
  show some (D.bl ((l.map p).all id)) = _
  rw [List.all_map]
  rfl
theorem anyD_map {α : Type} (p : α → Bool) (l : List α) : anyD [.lst (l.map fun x => D.bl (p x))] = some (.bl (l.any p)) := by
  show (blsD (l.map fun x => D.bl (p x))).map _ = _
  rw [blsD_map]
  show some (D.bl ((l.map p).any id)) = _
  rw [List.any_map]
  rfl
theorem intsD_map {α : Type} (p : α → Int) (l : List α) : intsD (l.map fun x => D.int (p x)) = some (l.map p) := by
  induction l with
  | nil => rfl
  | cons a l ih => rw [List.map_cons, List.map_cons]; unfold intsD; rw [ih]; rfl
theorem sumD_map {α : Type} (p : α → Int) (l : List α) : sumD [.lst (l.map fun x => D.int (p x))] = some (.int (l.map p).sum) := by
  show (intsD (l.map fun x => D.int (p x))).map _ = _
  rw [intsD_map]
  rfl
theorem ilist_map : ∀ (n : Nat) (a : Int), ilist a n = (List.range n).map fun (i : Nat) => D.int (a + i)
  | 0, a => rfl
  | n + 1, a => by
    unfold ilist
    rw [ilist_map n (a + 1), List.range_succ_eq_map, List.map_cons, List.map_map]
    congr 1
    · simp
    · refine List.map_congr_left fun i _ => ?_
      show D.int (a + 1 + (i : Int)) = D.int (a + ((i + 1 : Nat) : Int))
      congr 1
      omega
theorem strsD_map {α : Type} (p : α → Str) (l : List α) : strsD (l.map fun x => D.str (p x)) = some (l.map p) := by
  induction l with
  | nil => rfl
  | cons a l ih => rw [List.map_cons, List.map_cons]; unfold strsD; rw [ih]; rfl
/-- a def that is never called with this promise -/
theorem falseS {n : Nat} : ∀ (as : List Ar) (k : D → Prop), (fun (_ : List Ar) (_ : D → Prop) => False) as k → as.length = n := fun _ _ h => h.elim
theorem Ok.imp {P : Program} {w : World} {K : PySem.W.Frag} {mg : Str → Option Value} {base : Heap} {k : Nat} {x : Str} {ps : List Str} {W W' : WF} (F : Ok P w K mg base k x ps W) (h : ∀ as k, W' as k → W as k) : Ok P w K mg base k x ps W' := by
  obtain ⟨⟨fd, h1, h2⟩, h3, h4⟩ := F
  exact ⟨⟨fd, h1.imp fun vs H Q E ⟨F, G, as, k, a, b, c, d, e⟩ => ⟨F, G, as, k, a, b, c, h _ _ d, e⟩, h2⟩, h3, h4⟩
/-! ### limits -/
inductive Word | hours | cycles | days
  deriving DecidableEq
def Word.s : Word → Str
  | .hours => "hours"
  | .cycles => "cycles"
  | .days => "days"
def Word.i : Word → Nat
  | .hours => 0
  | .cycles => 1
  | .days => 2
inductive Lim | pl (w : Word) (n : Int) | jo (first : Bool) (ls : List Lim)
def joS (b : Bool) : Str := if b then "first" else "later"
def Lim.s : Lim → Str
  | .pl w _ => w.s
  | .jo b _ => joS b
mutual
def encL : Lim → D
  | .pl w n => .tup [.str w.s, .int n]
  | .jo b ls => .tup [.str (joS b), .tup (encLs ls)]
def encLs : List Lim → List D
  | [] => []
  | l :: ls => encL l :: encLs ls
end
theorem encLs_eq : ∀ ls : List Lim, encLs ls = ls.map encL
  | [] => by unfold encLs; rfl
  | l :: ls => by unfold encLs; rw [encLs_eq ls]; rfl
mutual
def Lim.size : Lim → Nat
  | .pl _ _ => 1
  | .jo _ ls => 1 + sizes ls
def sizes : List Lim → Nat
  | [] => 0
  | l :: ls => l.size + sizes ls
end
mutual
/-- how deep a limit is at most, and what holds of its plain limits -/
def Lim.all (p : Word → Int → Prop) : Nat → Lim → Prop
  | 0, _ => False
  | _ + 1, .pl w n => p w n
  | d + 1, .jo _ ls => ls ≠ [] ∧ alls p d ls
def alls (p : Word → Int → Prop) : Nat → List Lim → Prop
  | _, [] => True
  | d, l :: ls => l.all p d ∧ alls p d ls
end
theorem alls_iff (p : Word → Int → Prop) (d : Nat) : ∀ ls : List Lim, alls p d ls ↔ ∀ l ∈ ls, l.all p d
  | [] => by unfold alls; simp
  | l :: ls => by unfold alls; rw [alls_iff p d ls]; simp
theorem all0 {p : Word → Int → Prop} {l : Lim} (h : l.all p 0) : False := by unfold Lim.all at h; exact h
theorem all_pl {p : Word → Int → Prop} {d : Nat} {w : Word} {n : Int} (h : (Lim.pl w n).all p d) : p w n := by
  cases d with
  | zero => exact (all0 h).elim
  | succ d => unfold Lim.all at h; exact h
theorem all_jo {p : Word → Int → Prop} {d : Nat} {b : Bool} {ls : List Lim} (h : (Lim.jo b ls).all p (d + 1)) : ls ≠ [] ∧ ∀ l ∈ ls, l.all p d := by
  unfold Lim.all at h
  exact ⟨h.1, (alls_iff p d ls).mp h.2⟩
theorem size_pos : ∀ l : Lim, 1 ≤ l.size
  | .pl _ _ => by unfold Lim.size; omega
  | .jo _ _ => by unfold Lim.size; omega
theorem sizes_mem {l : Lim} : ∀ {ls : List Lim}, l ∈ ls → l.size ≤ sizes ls
  | x :: ls, h => by
    unfold sizes
    rcases List.mem_cons.mp h with e | e
    · subst e; omega
    · have := sizes_mem e; omega
theorem sizes_len : ∀ ls : List Lim, ls.length ≤ sizes ls
  | [] => by simp
  | l :: ls => by unfold sizes; have := size_pos l; have := sizes_len ls; simp; omega
end Wd
set_option maxRecDepth 100000
set_option maxHeartbeats 2000000
namespace Wd
open PySem PySem.Spec PyProof.Rows L2
local macro_rules | `(tactic| walk_at "wd") => `(tactic| simp only [startW, Ar.sl, List.map_cons, List.map_nil, List.replicate, List.cons_append, List.nil_append, List.length_cons, List.length_nil, Nat.reduceAdd, Nat.reduceSub, List.getElem?_cons_zero, List.getElem?_cons_succ, List.set_cons_zero, List.set_cons_succ,
  wSeq, wNext, wRet, wAsg, wIfS, wBreak, wNever, wExp, wVar, wC, wOp, wUn, wCB, wNil, wCons, wTup, wLst, wKey, intsD, Option.map_some, wIf, wB, wNot, wAnd, wOr, wAndV, wOrV, wNotV, wIsi, wChain, wCall, wcNil, wcCons, wcFeed, gwName, gwNil, gwCons, gwTup, wIdxT, wIdxL, tupK, lstK, wSlT, wSlL, wRev, wStar, spliceD, wLenO, wFrz, wOwnL, wOwnD, wApp, wExt, wPop, wDPut, wDGet, keyD, wPar, wPar3, wParOD, wParDO, blD, intK, strD, woNone, woSome, wiL, wiT, wiS, wiR1, wiR2, wiEnumT, wiZipT, tyOf, kit_ii, kit_bi, kit_bb, kit_ib, kit_ss, kit_tt, kit_ts, kit_si,
  addI, subI, ltI, leI, gtI, geI, negI, isN, notN, isNon, ixD, lenD, min2D, max2D, intD, tupD, lstD, wYes, wipeW, Bool.not_true, Bool.not_false, true_and, and_true, Nat.reduceLeDiff, Nat.zero_le])
/-! ### kinds -/
def s_is_integer : WF := S1 fun a k => ∃ i, a = .da (.int i) ∧ k (.bl true)
theorem sc_is_integer : FnScope ["thing"] ["thing"] (defScope (top 6)) := ⟨rfl, rfl, rfl, by decide +kernel, rfl, by decide +kernel, by decide +kernel⟩
theorem ok_is_integer {P : Program} {w : World} {K : PySem.W.Frag} {mg : Str → Option Value} {base : Heap} (E : En K mg) : Ok P w K mg base 1 "is_integer" ["thing"] s_is_integer := by
  have T := E.t
  refine mkOk E 0 d_is_integer rfl rfl rfl rfl rfl fun fd F => ⟨FunD.okW F sc_is_integer S1.len fun cdv A outer s H Er hr => ?_, F.bindsN fun _ _ _ _ _ _ us hl => match us, hl with | [_], _ => rfl⟩
  have nd := sc_is_integer.nd
  refine ⟨_, _, (ssw_one (sw_ret (ew_and (kisi K (T := "int") (ew_var 0) T.isinstance T.int bb_int) (ew_one (ew_not (kisi K (T := "bool") (ew_var 0) T.isinstance T.bool bb_bool)))))), S1.el ?_⟩
  rintro _ k ⟨i, rfl, h⟩
  exact h
def s_is_number : WF := S1 fun a k => ∃ i, a = .da (.int i) ∧ k (.bl (decide (0 ≤ i)))
theorem sc_is_number : FnScope ["thing"] ["thing"] (defScope (top 7)) := ⟨rfl, rfl, rfl, by decide +kernel, rfl, by decide +kernel, by decide +kernel⟩
theorem ok_is_number {P : Program} {w : World} {K : PySem.W.Frag} {mg : Str → Option Value} {base : Heap} (E : En K mg) : Ok P w K mg base 2 "is_number" ["thing"] s_is_number := by
  have T := E.t
  have G_is_integer := ok_is_integer (P := P) (w := w) (base := base) E
  refine mkOk E 1 d_is_number rfl rfl rfl rfl rfl fun fd F => ⟨FunD.okW F sc_is_number S1.len fun cdv A outer s H Er hr => ?_, F.bindsN fun _ _ _ _ _ _ us hl => match us, hl with | [_], _ => rfl⟩
  have nd := sc_is_number.nd
  refine ⟨_, _, (ssw_one (sw_ret (ew_and (kcall K G_is_integer (hr.mono (by omega)) (cw_cons (ew_var 0) cw_nil)) (ew_one (ew_cmp op_ge lo_ge (ew_var 0) ew_int (nomark _)))))), S1.el ?_⟩
  rintro _ k ⟨i, rfl, h⟩
  exact ⟨i, rfl, h⟩
def s_is_amount : WF := S1 fun a k => ∃ i, a = .da (.int i) ∧ k (.bl (decide (1 ≤ i)))
theorem sc_is_amount : FnScope ["thing"] ["thing"] (defScope (top 8)) := ⟨rfl, rfl, rfl, by decide +kernel, rfl, by decide +kernel, by decide +kernel⟩
theorem ok_is_amount {P : Program} {w : World} {K : PySem.W.Frag} {mg : Str → Option Value} {base : Heap} (E : En K mg) : Ok P w K mg base 2 "is_amount" ["thing"] s_is_amount := by
  have T := E.t
  have G_is_integer := ok_is_integer (P := P) (w := w) (base := base) E
  refine mkOk E 2 d_is_amount rfl rfl rfl rfl rfl fun fd F => ⟨FunD.okW F sc_is_amount S1.len fun cdv A outer s H Er hr => ?_, F.bindsN fun _ _ _ _ _ _ us hl => match us, hl with | [_], _ => rfl⟩
  have nd := sc_is_amount.nd
  refine ⟨_, _, (ssw_one (sw_ret (ew_and (kcall K G_is_integer (hr.mono (by omega)) (cw_cons (ew_var 0) cw_nil)) (ew_one (ew_cmp op_ge lo_ge (ew_var 0) ew_int (nomark _)))))), S1.el ?_⟩
  rintro _ k ⟨i, rfl, h⟩
  exact ⟨i, rfl, h⟩
/-- the names that the law's sites have -/
def theNames : List Str := ["axe", "bar", "cog", "pin", "fix", "oil", "wax"]
theorem lc_signs (G : WG) (te : WE) (ρ : List Sl) (f : D → D) (k : List D → Prop) : ∀ (ds acc : List D), (∀ d ∈ ds, ∀ kk : D → Prop, kk (f d) → G d ρ fun ρ' => te ρ' kk) → k (acc ++ ds.map f) → lcGo G wYes te ρ ds acc k
  | [], acc, _, h => by
    rw [List.map_nil, List.append_nil] at h
    exact h
  | d :: ds, acc, hd, h => by
    refine hd d List.mem_cons_self _ ?_
    refine lc_signs G te ρ f k ds (acc ++ [f d]) (fun e he => hd e (List.mem_cons_of_mem _ he)) ?_
    rw [List.append_assoc]
    exact h
theorem names_len : ∀ z ∈ theNames, z.length = 3 := by decide +kernel
theorem names_in : ∀ z ∈ theNames, ∀ c ∈ z.cps.toList, c ∈ ("abcdefghijklmnopqrstuvwxyz" : Str).cps.toList := by decide +kernel
theorem bls_all {α : Type} (l : List α) : blsD (l.map fun _ => D.bl true) = some (l.map fun _ => true) := by
  induction l with
  | nil => rfl
  | cons a l ih => rw [List.map_cons, List.map_cons]; unfold blsD; rw [ih]; rfl
theorem all_true {α : Type} (l : List α) : (l.map fun _ => true).all id = true := by
  induction l with
  | nil => rfl
  | cons a l ih => rw [List.map_cons, List.all_cons, ih]; rfl
def s_is_name : WF := S1 fun a k => ∃ z ∈ theNames, a = .da (.str z) ∧ k (.bl true)
theorem sc_is_name : FnScope ["thing", "sign"] ["thing"] (defScope (top 9)) := ⟨rfl, rfl, rfl, by decide +kernel, rfl, by decide +kernel, by decide +kernel⟩
theorem ok_is_name {P : Program} {w : World} {K : PySem.W.Frag} {mg : Str → Option Value} {base : Heap} (E : En K mg) : Ok P w K mg base 1 "is_name" ["thing"] s_is_name := by
  have T := E.t
  refine mkOk E 3 d_is_name rfl rfl rfl rfl rfl fun fd F => ⟨FunD.okW F sc_is_name S1.len fun cdv A outer s H Er hr => ?_, F.bindsN fun _ _ _ _ _ _ us hl => match us, hl with | [_], _ => rfl⟩
  have nd := sc_is_name.nd
  refine ⟨_, _, (ssw_cons (sw_if (BW.tw (bw_or (tw_not (tw_val (kisi K (T := "str") (ew_var 0) T.isinstance T.str bb_str))) (bw_or1 (tw_not (tchain op_le op_le lo_le lo_le ew_int (kB K (rr := rLenK) call_len lc_len T.len bb_len (aw_cons (ew_var 0) aw_nil)) (ew_kint T.LONGEST_NAME)))))) (ssw_one (sw_ret ew_bl)) ssw_nil) (ssw_one (sw_ret (kB K (rr := rAll) (cr_all rfl) lc_all T.all bb_all (aw_cons (ew_lc [("sign", 1)] nd (iw_str (ew_var 0)) (by show blkC ["thing", "sign"] (defScope (top 9)) _ _ = true; decide +kernel) (fun _ _ _ _ _ => (gw_name 1 nd)) (fun _ _ _ _ _ => qw_nil) (fun _ _ _ _ _ => (ew_cmp op_in_sign lo_inS (ew_var 1) (ew_kstr T.LETTERS) (by rfl)))) aw_nil))))), S1.el ?_⟩
  rintro _ k ⟨z, hz, rfl, h⟩
  have hl := names_len z hz
  have hs := names_in z hz
  walk_at "wd"
  rw [hl, if_pos (by decide)]
  show wLc _ _ _ _ _ _ _
  refine ⟨?_, lc_signs _ _ _ (fun _ => .bl true) _ _ [] (fun d hd kk hkk => ?_) ?_⟩
  · unfold signs
    rw [List.length_map, Array.length_toList]
    show z.length ≤ 1000
    rw [hl]
    decide
  · unfold signs at hd
    obtain ⟨c, hc, rfl⟩ := List.mem_map.mp hd
    have hin := hs c hc
    show (match (if (#[c] : Array Nat).size = 1 then some (D.bl (decide (c ∈ ("abcdefghijklmnopqrstuvwxyz" : Str).cps.toList))) else none) with | some d => kk d | none => False)
    rw [decide_eq_true hin]
    exact hkk
  · show (match (blsD ([] ++ (signs z).map fun _ => D.bl true)).map fun bs => D.bl (bs.all id) with | some d => k d | none => False)
    rw [List.nil_append, bls_all]
    show k (.bl (((signs z).map fun _ => true).all id))
    rw [all_true]
    exact h
def s_are_numbers : WF := S2 fun a b k => ∃ (x y : Int), 0 ≤ x ∧ 0 ≤ y ∧ a = .da (.tup [.int x, .int y]) ∧ b = .da (.int 2) ∧ k (.bl true)
theorem sc_are_numbers : FnScope ["thing", "many", "one"] ["thing", "many"] (defScope (top 10)) := ⟨rfl, rfl, rfl, by decide +kernel, rfl, by decide +kernel, by decide +kernel⟩
theorem ok_are_numbers {P : Program} {w : World} {K : PySem.W.Frag} {mg : Str → Option Value} {base : Heap} (E : En K mg) : Ok P w K mg base 3 "are_numbers" ["thing", "many"] s_are_numbers := by
  have T := E.t
  have G_is_number := ok_is_number (P := P) (w := w) (base := base) E
  refine mkOk E 4 d_are_numbers rfl rfl rfl rfl rfl fun fd F => ⟨FunD.okW F sc_are_numbers S2.len fun cdv A outer s H Er hr => ?_, F.bindsN fun _ _ _ _ _ _ us hl => match us, hl with | [_, _], _ => rfl⟩
  have nd := sc_are_numbers.nd
  refine ⟨_, _, (ssw_one (sw_ret (ew_and (kisi K (T := "tuple") (ew_var 0) T.isinstance T.tuple bb_tuple) (ew_and (keq K hr.units (kB K (rr := rLenK) call_len lc_len T.len bb_len (aw_cons (ew_var 0) aw_nil)) (ew_var 1)) (ew_one (kB K (rr := rAll) (cr_all rfl) lc_all T.all bb_all (aw_cons (ew_lc [("one", 2)] nd (kiT K (ew_var 0)) (by show blkC ["thing", "many", "one"] (defScope (top 10)) _ _ = true; decide +kernel) (fun _ _ _ _ _ => (gw_name 2 nd)) (fun _ _ _ _ _ => qw_nil) (fun _ _ _ _ _ => (kcall K G_is_number (hr.mono (by omega)) (cw_cons (ew_var 2) cw_nil)))) aw_nil))))))), S2.el ?_⟩
  rintro _ _ k ⟨x, y, hx, hy, rfl, rfl, h⟩
  walk_at "wd"
  refine ⟨show 2 ≤ 1000 by decide, x, rfl, y, rfl, ?_⟩
  rw [decide_eq_true hx, decide_eq_true hy]
  exact h
def s_is_use : WF := S1 fun a k => ∃ (x y : Int), 0 ≤ x ∧ 0 ≤ y ∧ a = .da (.tup [.int x, .int y]) ∧ k (.bl true)
theorem sc_is_use : FnScope ["thing"] ["thing"] (defScope (top 11)) := ⟨rfl, rfl, rfl, by decide +kernel, rfl, by decide +kernel, by decide +kernel⟩
theorem ok_is_use {P : Program} {w : World} {K : PySem.W.Frag} {mg : Str → Option Value} {base : Heap} (E : En K mg) : Ok P w K mg base 4 "is_use" ["thing"] s_is_use := by
  have T := E.t
  have G_are_numbers := ok_are_numbers (P := P) (w := w) (base := base) E
  refine mkOk E 5 d_is_use rfl rfl rfl rfl rfl fun fd F => ⟨FunD.okW F sc_is_use S1.len fun cdv A outer s H Er hr => ?_, F.bindsN fun _ _ _ _ _ _ us hl => match us, hl with | [_], _ => rfl⟩
  have nd := sc_is_use.nd
  refine ⟨_, _, (ssw_one (sw_ret (kcall K G_are_numbers (hr.mono (by omega)) (cw_cons (ew_var 0) (cw_cons ew_int cw_nil))))), S1.el ?_⟩
  rintro _ k ⟨x, y, hx, hy, rfl, h⟩
  exact ⟨x, y, hx, hy, rfl, rfl, h⟩
/-- the uses of a machine -/
def encU (u : Int × Int) : D := .tup [.int u.1, .int u.2]
def encUs (us : List (Int × Int)) : D := .tup (us.map encU)
def okUs (us : List (Int × Int)) : Prop := us ≠ [] ∧ us.length ≤ 10 ∧ ∀ u ∈ us, 0 ≤ u.1 ∧ 0 ≤ u.2 ∧ u.1 ≤ 1000 ∧ u.2 ≤ 1000
def s_are_uses : WF := S1 fun a k => ∃ us, okUs us ∧ a = .da (encUs us) ∧ k (.bl true)
theorem sc_are_uses : FnScope ["thing", "one"] ["thing"] (defScope (top 12)) := ⟨rfl, rfl, rfl, by decide +kernel, rfl, by decide +kernel, by decide +kernel⟩
theorem ok_are_uses {P : Program} {w : World} {K : PySem.W.Frag} {mg : Str → Option Value} {base : Heap} (E : En K mg) : Ok P w K mg base 5 "are_uses" ["thing"] s_are_uses := by
  have T := E.t
  have G_is_use := ok_is_use (P := P) (w := w) (base := base) E
  refine mkOk E 6 d_are_uses rfl rfl rfl rfl rfl fun fd F => ⟨FunD.okW F sc_are_uses S1.len fun cdv A outer s H Er hr => ?_, F.bindsN fun _ _ _ _ _ _ us hl => match us, hl with | [_], _ => rfl⟩
  have nd := sc_are_uses.nd
  refine ⟨_, _, (ssw_one (sw_ret (ew_and (kisi K (T := "tuple") (ew_var 0) T.isinstance T.tuple bb_tuple) (ew_and (ew_cmp op_gt lo_gt (kB K (rr := rLenK) call_len lc_len T.len bb_len (aw_cons (ew_var 0) aw_nil)) ew_int (nomark _)) (ew_one (kB K (rr := rAll) (cr_all rfl) lc_all T.all bb_all (aw_cons (ew_lc [("one", 1)] nd (kiT K (ew_var 0)) (by show blkC ["thing", "one"] (defScope (top 12)) _ _ = true; decide +kernel) (fun _ _ _ _ _ => (gw_name 1 nd)) (fun _ _ _ _ _ => qw_nil) (fun _ _ _ _ _ => (kcall K G_is_use (hr.mono (by omega)) (cw_cons (ew_var 1) cw_nil)))) aw_nil))))))), S1.el ?_⟩
  rintro _ k ⟨us, ⟨h0, hl, hu⟩, rfl, h⟩
  have hp : (0 : Int) < ((us.map encU).length : Nat) := by
    rw [List.length_map]
    have := List.length_pos_iff.mpr h0
    omega
  unfold encUs
  walk_at "wd"
  rw [decide_eq_true hp]
  refine wLc_map encU (fun _ => .bl true) us (fun _ h => h) (by omega) (fun u hx kk hk => ?_) ?_
  · obtain ⟨h1, h2, _⟩ := hu u hx
    exact ⟨u.1, u.2, h1, h2, rfl, hk⟩
  · show (match allD [.lst (us.map fun _ => .bl true)] with | some d => k d | none => False)
    rw [allD_map (fun _ => true)]
    rw [show (us.all fun _ => true) = true by rw [List.all_eq_true]; intros; rfl]
    exact h
def s_limit_word : WF := S1 fun a k => ∃ L, a = .da (encL L) ∧ k (.str L.s)
theorem sc_limit_word : FnScope ["thing"] ["thing"] (defScope (top 13)) := ⟨rfl, rfl, rfl, by decide +kernel, rfl, by decide +kernel, by decide +kernel⟩
theorem ok_limit_word {P : Program} {w : World} {K : PySem.W.Frag} {mg : Str → Option Value} {base : Heap} (E : En K mg) : Ok P w K mg base 1 "limit_word" ["thing"] s_limit_word := by
  have T := E.t
  refine mkOk E 7 d_limit_word rfl rfl rfl rfl rfl fun fd F => ⟨FunD.okW F sc_limit_word S1.len fun cdv A outer s H Er hr => ?_, F.bindsN fun _ _ _ _ _ _ us hl => match us, hl with | [_], _ => rfl⟩
  have nd := sc_limit_word.nd
  refine ⟨_, _, (ssw_cons (sw_if (BW.tw (bw_or (tw_not (tw_val (kisi K (T := "tuple") (ew_var 0) T.isinstance T.tuple bb_tuple))) (bw_or (tkne K hr.units (kB K (rr := rLenK) call_len lc_len T.len bb_len (aw_cons (ew_var 0) aw_nil)) ew_int) (bw_or1 (tw_not (tw_val (kisi K (T := "str") (kix K (ew_var 0) ew_int (fun _ _ => rfl)) T.isinstance T.str bb_str))))))) (ssw_one (sw_ret ew_non)) ssw_nil) (ssw_one (sw_ret (ew_if (BW.tw (bw_or (tkin K (kix K (ew_var 0) ew_int (fun _ _ => rfl)) (kktup K T.COUNT_WORDS)) (bw_or1 (tkin K (kix K (ew_var 0) ew_int (fun _ _ => rfl)) (kktup K T.JOINING_WORDS))))) (kix K (ew_var 0) ew_int (fun _ _ => rfl)) ew_non)))), S1.el ?_⟩
  rintro _ k ⟨L, rfl, h⟩
  cases L with
  | pl w n => cases w <;> exact h
  | jo b ls => cases b <;> exact h
def pairD (x : List Int × Lim) : D := .tup [.key x.1, encL x.2]
/-- the children of a limit, with their paths -/
def kids (p : List Int) : Int → List Lim → List (List Int × Lim)
  | _, [] => []
  | i, l :: ls => (p ++ [i], l) :: kids p (i + 1) ls
def Lim.kids (p : List Int) : Lim → List (List Int × Lim)
  | .pl _ _ => []
  | .jo _ ls => Wd.kids p 0 ls
theorem lc_kids {g : WG} {te : WE} {ρ : List Sl} {k : List D → Prop} (p : List Int) (h : ∀ (i : Int) (l : Lim) (kk : D → Prop), kk (pairD (p ++ [i], l)) → g (.wtp [.int i, encL l]) ρ fun ρ' => te ρ' kk) : ∀ (ls : List Lim) (i : Nat) (acc : List D), k (acc ++ (kids p i ls).map pairD) → lcGo g wYes te ρ (enumFrom i (encLs ls)) acc k
  | [], i, acc, hk => by
    unfold kids at hk
    rw [List.map_nil, List.append_nil] at hk
    exact hk
  | l :: ls, i, acc, hk => by
    unfold encLs
    refine h i l _ ?_
    refine lc_kids p h ls (i + 1) (acc ++ [pairD (p ++ [(i : Int)], l)]) ?_
    rw [List.append_assoc]
    exact hk
def s_inner_pairs : WF := S2 fun a b k => ∃ p L, a = .da (.key p) ∧ b = .da (encL L) ∧ p.length ≤ 100 ∧ L.size ≤ 100 ∧ k (.lst ((L.kids p).map pairD))
theorem intsD_ints : ∀ ks : List Int, intsD (ks.map D.int) = some ks := fun ks => by
  have := intsD_map (fun x : Int => x) ks
  rw [this, List.map_id']
theorem sc_inner_pairs : FnScope ["path", "limit", "k", "inner"] ["path", "limit"] (defScope (top 14)) := ⟨rfl, rfl, rfl, by decide +kernel, rfl, by decide +kernel, by decide +kernel⟩
theorem ok_inner_pairs {P : Program} {w : World} {K : PySem.W.Frag} {mg : Str → Option Value} {base : Heap} (E : En K mg) : Ok P w K mg base 1 "inner_pairs" ["path", "limit"] s_inner_pairs := by
  have T := E.t
  refine mkOk E 8 d_inner_pairs rfl rfl rfl rfl rfl fun fd F => ⟨FunD.okW F sc_inner_pairs S2.len fun cdv A outer s H Er hr => ?_, F.bindsN fun _ _ _ _ _ _ us hl => match us, hl with | [_, _], _ => rfl⟩
  have nd := sc_inner_pairs.nd
  refine ⟨_, _, (ssw_cons (sw_if (tkin K (kix K (ew_var 1) ew_int (fun _ _ => rfl)) (kktup K T.COUNT_WORDS)) (ssw_one (sw_ret (ew_lst aw_nil))) ssw_nil) (ssw_one (sw_ret (ew_lc [("k", 2), ("inner", 3)] nd (iw_enumT (aw_cons (kix K (ew_var 1) ew_int (fun _ _ => rfl)) aw_nil) T.enumerate) (by show blkC ["path", "limit", "k", "inner"] (defScope (top 14)) _ _ = true; decide +kernel) (fun _ _ _ _ _ => (ktup K (n := 2) (gsc (gw_name 2 nd) (gsc (gw_name 3 nd) gsw_nil)))) (fun _ _ _ _ _ => qw_nil) (fun _ _ _ _ _ => (ew_tup (aw_cons (ew_key (kstar K (ew_var 0) (aw_cons (ew_var 2) aw_nil))) (aw_cons (ew_var 3) aw_nil)))))))), S2.el ?_⟩
  rintro _ _ k ⟨p, L, rfl, rfl, hp, hs, h⟩
  cases L with
  | pl w n => cases w <;> exact ⟨show 0 ≤ 1000 by decide, h⟩
  | jo b ls =>
    have hl : ls.length ≤ 100 := by
      have := sizes_len ls
      unfold Lim.size at hs
      omega
    have hk : ∀ (i : Int) (l : Lim) (kk : D → Prop), kk (pairD (p ++ [i], l)) → (∃ ks, (p.map D.int ++ [.int i] : List D).length ≤ 1000 ∧ intsD (p.map D.int ++ [.int i]) = some ks ∧ kk (.tup [.key ks, encL l])) := fun i l kk hk => by
      refine ⟨p ++ [i], by rw [List.length_append, List.length_map]; show p.length + 1 ≤ 1000; omega, ?_, hk⟩
      have := intsD_ints (p ++ [i])
      rw [List.map_append] at this
      exact this
    cases b
    all_goals
      refine ⟨by rw [enumFrom_length, encLs_eq, List.length_map]; omega, lc_kids p (fun i l kk hkk => ?_) ls 0 [] h⟩
      obtain ⟨ks, h1, h2, h3⟩ := hk i l kk hkk
      refine ⟨rfl, h1, ?_⟩
      show (match intsD (p.map D.int ++ [.int i]) with | some ks => _ | none => False)
      rw [h2]
      exact ⟨show 2 ≤ 1000 by decide, h3⟩
theorem snoc_cases {α : Type} (l : List α) : l = [] ∨ ∃ l' x, l = l' ++ [x] := by
  cases h : l.reverse with
  | nil => exact .inl (List.reverse_eq_nil_iff.mp h)
  | cons x r => exact .inr ⟨r.reverse, x, by rw [← List.reverse_reverse l, h, List.reverse_cons]⟩
def tot (st : List (List Int × Lim)) : Nat := (st.map fun x => x.2.size).sum
theorem tot_app (a b : List (List Int × Lim)) : tot (a ++ b) = tot a + tot b := by unfold tot; rw [List.map_append, List.sum_append]
theorem tot_rev (a : List (List Int × Lim)) : tot a.reverse = tot a := by unfold tot; rw [List.map_reverse, List.sum_reverse]
theorem tot_one (x : List Int × Lim) : tot [x] = x.2.size := by unfold tot; simp
theorem tot_kids (p : List Int) : ∀ (ls : List Lim) (i : Int), tot (kids p i ls) = sizes ls
  | [], i => by unfold kids sizes tot; rfl
  | l :: ls, i => by
    unfold kids sizes
    rw [← tot_kids p ls (i + 1)]
    unfold tot
    simp
theorem len_tot : ∀ st : List (List Int × Lim), st.length ≤ tot st
  | [] => by simp
  | x :: st => by
    have h := len_tot st
    have := size_pos x.2
    have e : tot (x :: st) = x.2.size + tot st := by unfold tot; simp
    rw [e, List.length_cons]
    omega
theorem mem_kids (p : List Int) : ∀ (ls : List Lim) (i : Int) {x : List Int × Lim}, x ∈ kids p i ls → x.2 ∈ ls ∧ x.1.length = p.length + 1
  | [], i, x, h => by unfold kids at h; cases h
  | l :: ls, i, x, h => by
    unfold kids at h
    rcases List.mem_cons.mp h with e | e
    · subst e; exact ⟨List.mem_cons_self, by simp⟩
    · have := mem_kids p ls (i + 1) e
      exact ⟨List.mem_cons_of_mem _ this.1, this.2⟩
/-- what waits: limits that are right, with paths that are short -/
def okSt (p : Word → Int → Prop) (st : List (List Int × Lim)) : Prop := ∀ x ∈ st, ∃ d, x.2.all p d ∧ x.1.length + d ≤ 50
theorem okSt_kids {p : Word → Int → Prop} {st : List (List Int × Lim)} {q : List Int} {b : Bool} {ls : List Lim} (h : okSt p (st ++ [(q, .jo b ls)])) : okSt p (st ++ (kids q 0 ls).reverse) := fun x hx => by
  rcases List.mem_append.mp hx with e | e
  · exact h x (List.mem_append_left _ e)
  · obtain ⟨h1, h2⟩ := mem_kids q ls 0 (List.mem_reverse.mp e)
    obtain ⟨d, h3, h4⟩ := h (q, .jo b ls) (List.mem_append_right _ List.mem_cons_self)
    cases d with
    | zero => exact (all0 h3).elim
    | succ d =>
      refine ⟨d, (all_jo h3).2 _ h1, ?_⟩
      rw [h2]
      have : q.length + (d + 1) ≤ 50 := h4
      omega
theorem okSt_app {p : Word → Int → Prop} {st st2 : List (List Int × Lim)} (h : okSt p (st ++ st2)) : okSt p st := fun x hx => h x (List.mem_append_left _ hx)
def s_limit_fault : WF := S1 fun a k => ∃ L, a = .da (encL L) ∧ L.all (fun _ n => 1 ≤ n) 3 ∧ L.size ≤ 100 ∧ k .non
theorem sc_limit_fault : FnScope ["thing", "waiting", "path", "limit", "word"] ["thing"] (defScope (top 15)) := ⟨rfl, rfl, rfl, by decide +kernel, rfl, by decide +kernel, by decide +kernel⟩
theorem ok_limit_fault {P : Program} {w : World} {K : PySem.W.Frag} {mg : Str → Option Value} {base : Heap} (E : En K mg) : Ok P w K mg base 3 "limit_fault" ["thing"] s_limit_fault := by
  have T := E.t
  have G_limit_word := ok_limit_word (P := P) (w := w) (base := base) E
  have G_inner_pairs := ok_inner_pairs (P := P) (w := w) (base := base) E
  have G_is_amount := ok_is_amount (P := P) (w := w) (base := base) E
  refine mkOk E 9 d_limit_fault rfl rfl rfl rfl rfl fun fd F => ⟨FunD.okW F sc_limit_fault S1.len fun cdv A outer s H Er hr => ?_, F.bindsN fun _ _ _ _ _ _ us hl => match us, hl with | [_], _ => rfl⟩
  have nd := sc_limit_fault.nd
  refine ⟨_, _, (ssw_cons (sw_ownL 1 nd (aw_cons (ew_tup (aw_cons (ew_key aw_nil) (aw_cons (ew_var 0) aw_nil))) aw_nil)) (ssw_cons (sw_while PassesOwn.never (tw_cmp op_gt lo_gt (ew_lenO 1 T.len) ew_int (nomark _)) (ssw_cons (spop 1 (ktup K (n := 2) (gsc (gw_name 2 nd) (gsc (gw_name 3 nd) gsw_nil)))) (ssw_cons (sw_set 4 nd (kcall K G_limit_word (hr.mono (by omega)) (cw_cons (ew_var 3) cw_nil))) (ssw_cons (sw_if (tw_cmp op_isN lo_isN (ew_var 4) ew_non (nomark _)) (ssw_one (sw_ret (ew_tup (aw_cons ew_str (aw_cons (ew_var 2) aw_nil))))) ssw_nil) (ssw_one (sw_if (tkin K (ew_var 4) (kktup K T.COUNT_WORDS)) (ssw_one (sw_if (tw_not (tw_val (kcall K G_is_amount (hr.mono (by omega)) (cw_cons (kix K (ew_var 3) ew_int (fun _ _ => rfl)) cw_nil)))) (ssw_one (sw_ret (ew_tup (aw_cons ew_str (aw_cons (ew_var 2) aw_nil))))) ssw_nil)) (ssw_one (sw_if (BW.tw (bw_or (tw_not (tw_val (kisi K (T := "tuple") (kix K (ew_var 3) ew_int (fun _ _ => rfl)) T.isinstance T.tuple bb_tuple))) (bw_or1 (tkeq K hr.units (kB K (rr := rLenK) call_len lc_len T.len bb_len (aw_cons (kix K (ew_var 3) ew_int (fun _ _ => rfl)) aw_nil)) ew_int)))) (ssw_one (sw_ret (ew_tup (aw_cons ew_str (aw_cons (ew_var 2) aw_nil))))) (ssw_one (sext 1 (krev K (kcall K G_inner_pairs (hr.mono (by omega)) (cw_cons (ew_var 2) (cw_cons (ew_var 3) cw_nil)))))))))))))) (ssw_one (sw_ret ew_non)))), S1.el ?_⟩
  rintro _ k ⟨L, rfl, h1, h2, h⟩
  refine ⟨show 0 ≤ 1000 by decide, show 2 ≤ 1000 by decide, show 1 ≤ 1000 by decide, ?_⟩
  refine ⟨fun m ρ => ∃ st s2 s3 s4, ρ = [.da (encL L), .ow (st.map pairD), s2, s3, s4] ∧ okSt (fun _ n => 1 ≤ n) st ∧ tot st ≤ 100 ∧ m = tot st, ⟨_, [([], L)], _, _, _, rfl, fun x hx => ?_, ?_, rfl⟩, ?_⟩
  · rw [List.mem_singleton.mp hx]; exact ⟨3, h1, show 0 + 3 ≤ 50 by decide⟩
  · rw [tot_one]; exact h2
  rintro m ρ ⟨st, s2, s3, s4, rfl, ho, ht, rfl⟩
  rcases snoc_cases st with rfl | ⟨st, ⟨q, l⟩, rfl⟩
  · exact h
  · have hpos : (0 : Int) < ((st.map pairD ++ [pairD (q, l)]).length : Nat) := by rw [List.length_append]; show (0 : Int) < (((st.map pairD).length + 1 : Nat) : Int); omega
    have hle := len_tot st
    rw [tot_app, tot_one] at ht ⊢
    have ht : tot st + l.size ≤ 100 := ht
    have hgl := List.getLast?_concat (l := st.map pairD) (a := pairD (q, l))
    have hdl := List.dropLast_concat (l₁ := st.map pairD) (b := pairD (q, l))
    rw [List.map_append, List.map_cons, List.map_nil]
    walk_at "wd"
    rw [decide_eq_true hpos, hgl, hdl]
    cases l with
    | pl w n =>
      obtain ⟨d, h3, _⟩ := ho (q, .pl w n) (List.mem_append_right _ List.mem_cons_self)
      have h4 := all_pl h3
      have fin : ∀ s2 s3 s4, ∃ m', m' < tot st + (Lim.pl w n).size ∧ ∃ st' s2' s3' s4', [Sl.da (encL L), Sl.ow (st.map pairD), s2, s3, s4] = [Sl.da (encL L), Sl.ow (st'.map pairD), s2', s3', s4'] ∧ okSt (fun _ n => 1 ≤ n) st' ∧ tot st' ≤ 100 ∧ m' = tot st' := fun s2 s3 s4 =>
        ⟨tot st, by unfold Lim.size; omega, st, s2, s3, s4, rfl, okSt_app ho, by omega, rfl⟩
      cases w
      all_goals
        refine ⟨rfl, .pl _ n, rfl, n, rfl, ?_⟩
        rw [decide_eq_true h4]
        exact fin _ _ _
    | jo b ls =>
      obtain ⟨d, h3, h5⟩ := ho (q, .jo b ls) (List.mem_append_right _ List.mem_cons_self)
      have h5 : q.length + d ≤ 50 := h5
      have hne : ls ≠ [] := by
        cases d with
        | zero => exact (all0 h3).elim
        | succ d => exact (all_jo h3).1
      have hn0 : decide (((encLs ls).length : Int) = 0) = false := by
        rw [encLs_eq, List.length_map, decide_eq_false_iff_not]
        have := List.length_pos_iff.mpr hne
        omega
      have hsz : (Lim.jo b ls).size = 1 + sizes ls := by unfold Lim.size; rfl
      have hll := sizes_len ls
      have fin : ∀ s2 s3 s4, ∃ m', m' < tot st + (Lim.jo b ls).size ∧ ∃ st' s2' s3' s4', [Sl.da (encL L), Sl.ow (st.map pairD ++ ((kids q 0 ls).map pairD).reverse), s2, s3, s4] = [Sl.da (encL L), Sl.ow (st'.map pairD), s2', s3', s4'] ∧ okSt (fun _ n => 1 ≤ n) st' ∧ tot st' ≤ 100 ∧ m' = tot st' := fun s2 s3 s4 => by
        refine ⟨tot (st ++ (kids q 0 ls).reverse), ?_, st ++ (kids q 0 ls).reverse, s2, s3, s4, by rw [List.map_append, List.map_reverse], okSt_kids ho, ?_, rfl⟩
        all_goals
          rw [tot_app, tot_rev, tot_kids]
          omega
      have hlen : (st.map pairD).length + ((kids q 0 ls).map pairD).reverse.length ≤ 1000 := by
        have := len_tot (kids q 0 ls)
        rw [tot_kids] at this
        rw [List.length_map, List.length_reverse, List.length_map]
        omega
      cases b
      all_goals
        refine ⟨rfl, .jo _ ls, rfl, ?_⟩
        show (match decide (((encLs ls).length : Int) = 0) with | true => _ | false => _)
        rw [hn0]
        exact ⟨q, .jo _ ls, rfl, rfl, by omega, by omega, hlen, fin _ _ _⟩
def s_is_limit : WF := S1 fun a k => ∃ L, a = .da (encL L) ∧ L.all (fun _ n => 1 ≤ n) 3 ∧ L.size ≤ 100 ∧ k (.bl true)
theorem sc_is_limit : FnScope ["thing"] ["thing"] (defScope (top 16)) := ⟨rfl, rfl, rfl, by decide +kernel, rfl, by decide +kernel, by decide +kernel⟩
theorem ok_is_limit {P : Program} {w : World} {K : PySem.W.Frag} {mg : Str → Option Value} {base : Heap} (E : En K mg) : Ok P w K mg base 4 "is_limit" ["thing"] s_is_limit := by
  have T := E.t
  have G_limit_fault := ok_limit_fault (P := P) (w := w) (base := base) E
  refine mkOk E 10 d_is_limit rfl rfl rfl rfl rfl fun fd F => ⟨FunD.okW F sc_is_limit S1.len fun cdv A outer s H Er hr => ?_, F.bindsN fun _ _ _ _ _ _ us hl => match us, hl with | [_], _ => rfl⟩
  have nd := sc_is_limit.nd
  refine ⟨_, _, (ssw_one (sw_ret (ew_cmp op_isN lo_isN (kcall K G_limit_fault (hr.mono (by omega)) (cw_cons (ew_var 0) cw_nil)) ew_non (nomark _)))), S1.el ?_⟩
  rintro _ k ⟨L, rfl, h1, h2, h⟩
  exact ⟨L, rfl, h1, h2, h⟩
end Wd
set_option maxRecDepth 100000
set_option maxHeartbeats 2000000
namespace Wd
open PySem PySem.Spec PyProof.Rows L2
local macro_rules | `(tactic| walk_at "wd") => `(tactic| simp only [startW, Ar.sl, List.map_cons, List.map_nil, List.replicate, List.cons_append, List.nil_append, List.length_cons, List.length_nil, Nat.reduceAdd, Nat.reduceSub, List.getElem?_cons_zero, List.getElem?_cons_succ, List.set_cons_zero, List.set_cons_succ,
  wSeq, wNext, wRet, wAsg, wIfS, wBreak, wNever, wExp, wVar, wC, wOp, wUn, wCB, wNil, wCons, wTup, wLst, wKey, intsD, Option.map_some, wIf, wB, wNot, wAnd, wOr, wAndV, wOrV, wNotV, wIsi, wChain, wCall, wcNil, wcCons, wcFeed, gwName, gwNil, gwCons, gwTup, wIdxT, wIdxL, tupK, lstK, wSlT, wSlL, wRev, wStar, spliceD, wLenO, wFrz, wOwnL, wOwnD, wApp, wExt, wPop, wDPut, wDGet, keyD, wPar, wPar3, wParOD, wParDO, blD, intK, strD, woNone, woSome, wiL, wiT, wiS, wiR1, wiR2, wiEnumT, wiZipT, tyOf, kit_ii, kit_bi, kit_bb, kit_ib, kit_ss, kit_tt, kit_ts, kit_si,
  addI, subI, ltI, leI, gtI, geI, negI, isN, notN, isNon, ixD, lenD, min2D, max2D, intD, tupD, lstD, wYes, wipeW, Bool.not_true, Bool.not_false, true_and, and_true, Nat.reduceLeDiff, Nat.zero_le])
/-! ### limitparts -/
mutual
def pre : Lim → List Int → List (List Int × Lim)
  | .pl w n, q => [(q, .pl w n)]
  | .jo b ls, q => (q, .jo b ls) :: preL q 0 ls
def preL (q : List Int) : Int → List Lim → List (List Int × Lim)
  | _, [] => []
  | i, l :: ls => pre l (q ++ [i]) ++ preL q (i + 1) ls
end
theorem preL_kids (q : List Int) : ∀ (ls : List Lim) (i : Int), preL q i ls = ((kids q i ls).map fun x => pre x.2 x.1).flatten
  | [], i => by unfold preL kids; rfl
  | l :: ls, i => by unfold preL kids; rw [preL_kids q ls (i + 1)]; rfl
theorem pre_kids (q : List Int) (l : Lim) : pre l q = (q, l) :: ((l.kids q).map fun x => pre x.2 x.1).flatten := by
  cases l with
  | pl w n => unfold pre Lim.kids; rfl
  | jo b ls => rw [show pre (.jo b ls) q = (q, .jo b ls) :: preL q 0 ls by unfold pre; rfl, preL_kids]; rfl
mutual
theorem pre_len : ∀ (l : Lim) (q : List Int), (pre l q).length = l.size
  | .pl _ _, _ => by unfold pre Lim.size; rfl
  | .jo b ls, q => by unfold pre Lim.size; rw [List.length_cons, preL_len ls q 0]; omega
theorem preL_len : ∀ (ls : List Lim) (q : List Int) (i : Int), (preL q i ls).length = sizes ls
  | [], _, _ => by unfold preL sizes; rfl
  | l :: ls, q, i => by unfold preL sizes; rw [List.length_append, pre_len l (q ++ [i]), preL_len ls q (i + 1)]
end
def preS (st : List (List Int × Lim)) : List (List Int × Lim) := (st.reverse.map fun x => pre x.2 x.1).flatten
theorem preS_step (st : List (List Int × Lim)) (q : List Int) (l : Lim) : preS (st ++ [(q, l)]) = (q, l) :: preS (st ++ (l.kids q).reverse) := by
  unfold preS
  rw [List.reverse_append, List.reverse_append, List.reverse_reverse, List.map_append, List.flatten_append, List.map_append, List.flatten_append]
  show ([pre l q]).flatten ++ _ = _
  rw [List.flatten_cons, List.flatten_nil, List.append_nil, pre_kids q l]
  rfl
theorem tot_kids' (q : List Int) (l : Lim) : tot (l.kids q) + 1 = l.size := by
  cases l with
  | pl w n => rfl
  | jo b ls => unfold Lim.kids Lim.size; rw [tot_kids]; omega
def s_require_usable : WF := S3 fun a b c k => a = .da (.bl true) ∧ (∃ d, b = .da d) ∧ (∃ d, c = .da d) ∧ k .non
theorem sc_require_usable : FnScope ["truth", "word", "at"] ["truth", "word", "at"] (defScope (top 23)) := ⟨rfl, rfl, rfl, by decide +kernel, rfl, by decide +kernel, by decide +kernel⟩
theorem ok_require_usable {P : Program} {w : World} {K : PySem.W.Frag} {mg : Str → Option Value} {base : Heap} (E : En K mg) : Ok P w K mg base 1 "require_usable" ["truth", "word", "at"] s_require_usable := by
  have T := E.t
  refine mkOk E 11 d_require_usable rfl rfl rfl rfl rfl fun fd F => ⟨FunD.okW F sc_require_usable S3.len fun cdv A outer s H Er hr => ?_, F.bindsN fun _ _ _ _ _ _ us hl => match us, hl with | [_, _, _], _ => rfl⟩
  have nd := sc_require_usable.nd
  refine ⟨_, _, (ssw_one (sw_if (tw_not (tw_val (ew_var 0))) (ssw_one sw_never) ssw_nil)), S3.el ?_⟩
  rintro _ _ _ k ⟨rfl, ⟨x, rfl⟩, ⟨y, rfl⟩, h⟩
  exact h
def s_all_pairs : WF := S1 fun a k => ∃ L, a = .da (encL L) ∧ L.all (fun _ _ => True) 40 ∧ L.size ≤ 100 ∧ k (.lst ((pre L []).map pairD))
theorem sc_all_pairs : FnScope ["limit", "found", "waiting", "path", "part"] ["limit"] (defScope (top 24)) := ⟨rfl, rfl, rfl, by decide +kernel, rfl, by decide +kernel, by decide +kernel⟩
theorem ok_all_pairs {P : Program} {w : World} {K : PySem.W.Frag} {mg : Str → Option Value} {base : Heap} (E : En K mg) : Ok P w K mg base 2 "all_pairs" ["limit"] s_all_pairs := by
  have T := E.t
  have G_inner_pairs := ok_inner_pairs (P := P) (w := w) (base := base) E
  refine mkOk E 12 d_all_pairs rfl rfl rfl rfl rfl fun fd F => ⟨FunD.okW F sc_all_pairs S1.len fun cdv A outer s H Er hr => ?_, F.bindsN fun _ _ _ _ _ _ us hl => match us, hl with | [_], _ => rfl⟩
  have nd := sc_all_pairs.nd
  refine ⟨_, _, (ssw_cons (sw_ownL 1 nd aw_nil) (ssw_cons (sw_ownL 2 nd (aw_cons (ew_tup (aw_cons (ew_key aw_nil) (aw_cons (ew_var 0) aw_nil))) aw_nil)) (ssw_cons (sw_while PassesOwn.never (tw_cmp op_gt lo_gt (ew_lenO 2 T.len) ew_int (nomark _)) (ssw_cons (spop 2 (ktup K (n := 2) (gsc (gw_name 3 nd) (gsc (gw_name 4 nd) gsw_nil)))) (ssw_cons (sapp 1 (ew_tup (aw_cons (ew_var 3) (aw_cons (ew_var 4) aw_nil)))) (ssw_one (sext 2 (krev K (kcall K G_inner_pairs (hr.mono (by omega)) (cw_cons (ew_var 3) (cw_cons (ew_var 4) cw_nil))))))))) (ssw_frz 1 (ssw_one (sw_ret (ew_var 1))))))), S1.el ?_⟩
  rintro _ k ⟨L, rfl, h1, h2, h⟩
  refine ⟨show 0 ≤ 1000 by decide, show 0 ≤ 1000 by decide, show 2 ≤ 1000 by decide, show 1 ≤ 1000 by decide, ?_⟩
  refine ⟨fun m ρ => ∃ dn st s3 s4, ρ = [.da (encL L), .ow (dn.map pairD), .ow (st.map pairD), s3, s4] ∧ okSt (fun _ _ => True) st ∧ dn.length + tot st ≤ 100 ∧ dn ++ preS st = pre L [] ∧ m = tot st, ⟨_, [], [([], L)], _, _, rfl, fun x hx => ?_, ?_, ?_, rfl⟩, ?_⟩
  · rw [List.mem_singleton.mp hx]; exact ⟨40, h1, show 0 + 40 ≤ 50 by decide⟩
  · rw [tot_one]; show 0 + L.size ≤ 100; omega
  · show ([pre L []] : List _).flatten = _
    rw [List.flatten_cons, List.flatten_nil, List.append_nil]
  rintro m ρ ⟨dn, st, s3, s4, rfl, ho, ht, he, rfl⟩
  rcases snoc_cases st with rfl | ⟨st, ⟨q, l⟩, rfl⟩
  · have e : dn = pre L [] := by rw [← he]; show dn = dn ++ ([] : List _).flatten; rw [List.flatten_nil, List.append_nil]
    subst e
    exact h
  · have hpos : (0 : Int) < ((st.map pairD ++ [pairD (q, l)]).length : Nat) := by rw [List.length_append]; show (0 : Int) < (((st.map pairD).length + 1 : Nat) : Int); omega
    have hle := len_tot st
    rw [tot_app, tot_one] at ht ⊢
    have ht : dn.length + (tot st + l.size) ≤ 100 := ht
    have hk := tot_kids' q l
    have hgl := List.getLast?_concat (l := st.map pairD) (a := pairD (q, l))
    have hdl := List.dropLast_concat (l₁ := st.map pairD) (b := pairD (q, l))
    have hkl := len_tot (l.kids q)
    obtain ⟨d, h3, h5⟩ := ho (q, l) (List.mem_append_right _ List.mem_cons_self)
    have h5 : q.length + d ≤ 50 := h5
    have hok : okSt (fun _ _ => True) (st ++ (l.kids q).reverse) := by
      cases l with
      | pl w n => unfold Lim.kids; rw [List.reverse_nil, List.append_nil]; exact okSt_app ho
      | jo b ls => exact okSt_kids ho
    rw [List.map_append, List.map_cons, List.map_nil]
    walk_at "wd"
    rw [decide_eq_true hpos, hgl, hdl]
    refine ⟨rfl, by rw [List.length_map]; omega, q, l, rfl, rfl, by omega, by omega, by rw [List.length_map, List.length_reverse, List.length_map]; omega, ?_⟩
    refine ⟨tot (st ++ (l.kids q).reverse), ?_, dn ++ [(q, l)], st ++ (l.kids q).reverse, _, _, by rw [List.map_append, List.map_append, List.map_reverse]; rfl, hok, ?_, ?_, rfl⟩
    · rw [tot_app, tot_rev]; omega
    · rw [tot_app, tot_rev, List.length_append]; show dn.length + 1 + _ ≤ _; omega
    · rw [preS_step] at he
      rw [List.append_assoc]
      exact he
structure N3 where
  h : Int
  c : Int
  d : Int
def N3.get (n : N3) : Word → Int
  | .hours => n.h
  | .cycles => n.c
  | .days => n.d
def N3.ds (n : N3) : List D := [.int n.h, .int n.c, .int n.d]
def s_number_for : WF := S2 fun a b k => ∃ w n, a = .da (.str (Word.s w)) ∧ (b = .da (.tup (N3.ds n)) ∨ b = .da (.lst (N3.ds n))) ∧ k (.int (n.get w))
theorem sc_number_for : FnScope ["word", "numbers"] ["word", "numbers"] (defScope (top 25)) := ⟨rfl, rfl, rfl, by decide +kernel, rfl, by decide +kernel, by decide +kernel⟩
theorem ok_number_for {P : Program} {w : World} {K : PySem.W.Frag} {mg : Str → Option Value} {base : Heap} (E : En K mg) : Ok P w K mg base 1 "number_for" ["word", "numbers"] s_number_for := by
  have T := E.t
  refine mkOk E 13 d_number_for rfl rfl rfl rfl rfl fun fd F => ⟨FunD.okW F sc_number_for S2.len fun cdv A outer s H Er hr => ?_, F.bindsN fun _ _ _ _ _ _ us hl => match us, hl with | [_, _], _ => rfl⟩
  have nd := sc_number_for.nd
  refine ⟨_, _, (ssw_one (sw_ret (kix K (ew_var 1) (ktidx K (kktup K T.COUNT_WORDS) (ew_var 0)) (fun _ _ => rfl)))), S2.el ?_⟩
  rintro _ _ k ⟨w, n, rfl, hb, h⟩
  rcases hb with rfl | rfl <;> cases w <;> exact h
/-! the table by paths -/
def runT (v : Lim → D) : List (List Int × Lim) → List (List Int × D) → (List (List Int × D) → Prop) → Prop
  | [], t, k => k t
  | x :: r, t, k => (∀ y ∈ x.2.kids x.1, odGet t y.1 = some (v y.2)) ∧ t.length < 1000 ∧ x.1.length + x.2.size ≤ 500 ∧ runT v r (odPut t x.1 (v x.2)) k
theorem runT_app (v : Lim → D) : ∀ (a b : List (List Int × Lim)) (t : List (List Int × D)) (k : List (List Int × D) → Prop), runT v a t (fun t' => runT v b t' k) → runT v (a ++ b) t k
  | [], b, t, k, h => h
  | x :: a, b, t, k, h => ⟨h.1, h.2.1, h.2.2.1, runT_app v a b _ k h.2.2.2⟩
theorem find_putG {κ : Type} [DecidableEq κ] (t : List (κ × D)) (p : κ) (v : D) (q : κ) : ((if (t.any fun kv => decide (kv.1 = p)) = true then t.map (fun kv => if kv.1 = p then (kv.1, v) else kv) else t ++ [(p, v)]).find? fun kv => decide (kv.1 = q)).map (·.2) = if q = p then some v else (t.find? fun kv => decide (kv.1 = q)).map (·.2) := by
  split
  · rename_i h
    induction t with
    | nil => simp at h
    | cons a t ih =>
      by_cases ha : a.1 = p
      · by_cases hq : q = p
        · subst hq
          simp [ha]
        · have hqa : ¬ a.1 = q := fun e => hq (e.symm.trans ha)
          rw [List.map_cons, if_pos ha, List.find?_cons_of_neg (by simpa using fun e => hq (e.symm.trans ha)), List.find?_cons_of_neg (by simpa using hqa)]
          by_cases ht : (t.any fun kv => decide (kv.1 = p)) = true
          · exact ih ht
          · have hm : t.map (fun kv => if kv.1 = p then (kv.1, v) else kv) = t := by
              refine (List.map_congr_left (g := id) fun kv hkv => ?_).trans (List.map_id t)
              rw [if_neg]
              · rfl
              · intro e
                exact ht (List.any_eq_true.mpr ⟨kv, hkv, by simpa using e⟩)
            rw [hm, if_neg hq]
      · rw [List.map_cons, if_neg ha]
        have ht : (t.any fun kv => decide (kv.1 = p)) = true := by
          rw [List.any_cons, decide_eq_false ha, Bool.false_or] at h
          exact h
        by_cases hqa : a.1 = q
        · have hq : ¬ q = p := fun e => ha (hqa.trans e)
          rw [List.find?_cons_of_pos (by simpa using hqa), List.find?_cons_of_pos (by simpa using hqa), if_neg hq]
        · rw [List.find?_cons_of_neg (by simpa using hqa), List.find?_cons_of_neg (by simpa using hqa)]
          exact ih ht
  · rename_i h
    rw [List.find?_append]
    by_cases hq : q = p
    · subst hq
      have hn : t.find? (fun kv => decide (kv.1 = q)) = none := by
        rw [List.find?_eq_none]
        intro kv hkv e
        exact h (List.any_eq_true.mpr ⟨kv, hkv, e⟩)
      rw [hn, if_pos rfl]
      simp
    · have hn : [(p, v)].find? (fun kv => decide (kv.1 = q)) = none := by
        rw [List.find?_eq_none]
        intro kv hkv e
        rw [List.mem_singleton.mp hkv] at e
        exact hq (of_decide_eq_true e).symm
      rw [hn, Option.or_none, if_neg hq]
theorem find_put (t : List (List Int × D)) (p : List Int) (v : D) (q : List Int) : odGet (odPut t p v) q = if q = p then some v else odGet t q := find_putG t p v q
theorem put_len (t : List (List Int × D)) (p : List Int) (v : D) : (odPut t p v).length ≤ t.length + 1 := by
  unfold odPut
  split
  · rw [List.length_map]; omega
  · rw [List.length_append]; exact Nat.le_refl _
theorem ext_ne {p : List Int} {i j : Int} {q : List Int} (h : (p ++ [i]) <+: (p ++ [j])) : i = j := by
  obtain ⟨r, e⟩ := h
  rw [List.append_assoc] at e
  have e2 := List.append_cancel_left e
  cases e2
  rfl
theorem kids_path (p : List Int) : ∀ (ls : List Lim) (i : Int) {x : List Int × Lim}, x ∈ kids p i ls → ∃ j, i ≤ j ∧ x.1 = p ++ [j]
  | [], _, _, h => by unfold kids at h; cases h
  | l :: ls, i, x, h => by
    unfold kids at h
    rcases List.mem_cons.mp h with e | e
    · subst e; exact ⟨i, Int.le_refl _, rfl⟩
    · obtain ⟨j, h1, h2⟩ := kids_path p ls (i + 1) e
      exact ⟨j, by omega, h2⟩
mutual
theorem runT_pre (v : Lim → D) : ∀ (L : Lim) (p : List Int) (t : List (List Int × D)) (k : List (List Int × D) → Prop), t.length + L.size ≤ 1000 → p.length + L.size ≤ 500 →
    (∀ t', t'.length ≤ t.length + L.size → odGet t' p = some (v L) → (∀ q, ¬ p <+: q → odGet t' q = odGet t q) → k t') → runT v (pre L p).reverse t k
  | .pl w n, p, t, k, hl, hp, h => by
    unfold pre
    unfold Lim.size at hl hp h
    show runT v [(p, .pl w n)] t k
    refine ⟨fun y hy => (nomatch hy), by omega, hp, ?_⟩
    refine h _ (put_len _ _ _) (by rw [find_put, if_pos rfl]) fun q hq => ?_
    rw [find_put, if_neg (fun e => hq (by rw [e]; exact List.prefix_refl p))]
  | .jo b ls, p, t, k, hl, hp, h => by
    unfold pre
    unfold Lim.size at hl hp h
    rw [List.reverse_cons]
    refine runT_app v _ _ _ _ (runT_preL v ls p 0 t _ (by omega) (by omega) fun t1 hl1 hk1 ho1 => ?_)
    refine ⟨hk1, by omega, show p.length + (Lim.jo b ls).size ≤ 500 by unfold Lim.size; exact hp, ?_⟩
    refine h _ (Nat.le_trans (put_len _ _ _) (by omega)) (by rw [find_put, if_pos rfl]) fun q hq => ?_
    rw [find_put, if_neg (fun e => hq (by rw [e]; exact List.prefix_refl p))]
    refine ho1 q fun j _ hj => hq ?_
    exact List.IsPrefix.trans (List.prefix_append _ _) hj
theorem runT_preL (v : Lim → D) : ∀ (ls : List Lim) (p : List Int) (i : Int) (t : List (List Int × D)) (k : List (List Int × D) → Prop), t.length + sizes ls ≤ 1000 → p.length + 1 + sizes ls ≤ 500 →
    (∀ t', t'.length ≤ t.length + sizes ls → (∀ y ∈ kids p i ls, odGet t' y.1 = some (v y.2)) → (∀ q, (∀ j, i ≤ j → ¬ (p ++ [j]) <+: q) → odGet t' q = odGet t q) → k t') → runT v (preL p i ls).reverse t k
  | [], p, i, t, k, hl, hp, h => by
    unfold preL
    exact h t (by omega) (fun y hy => by unfold kids at hy; cases hy) fun q _ => rfl
  | l :: ls, p, i, t, k, hl, hp, h => by
    unfold preL
    unfold sizes at hl hp h
    rw [List.reverse_append]
    refine runT_app v _ _ _ _ (runT_preL v ls p (i + 1) t _ (by omega) (by omega) fun t1 hl1 hk1 ho1 => ?_)
    refine runT_pre v l (p ++ [i]) t1 _ (by omega) (by rw [List.length_append]; show p.length + 1 + l.size ≤ 500; omega) fun t2 hl2 hk2 ho2 => ?_
    refine h t2 (by omega) (fun y hy => ?_) fun q hq => ?_
    · unfold kids at hy
      rcases List.mem_cons.mp hy with e | e
      · subst e; exact hk2
      · obtain ⟨j, h1, h2⟩ := kids_path p ls (i + 1) e
        rw [ho2 y.1 (fun hp => ?_)]
        · exact hk1 y e
        · rw [h2] at hp
          have := ext_ne (q := []) hp
          omega
    · rw [ho2 q (hq i (Int.le_refl _)), ho1 q fun j hj => hq j (by omega)]
end
theorem for_runT (v : Lim → D) {g : WG} {tb : WSt} {E : EnW} (Inv : List (List Int × D) → List Sl → Prop)
    (hs : ∀ (x : List Int × Lim) (t : List (List Int × D)) (ρ : List Sl) (nxt : List Sl → Prop), (∀ y ∈ x.2.kids x.1, odGet t y.1 = some (v y.2)) → t.length < 1000 → x.1.length + x.2.size ≤ 500 → (∀ ρ', Inv (odPut t x.1 (v x.2)) ρ' → nxt ρ') → Inv t ρ → g (pairD x) ρ fun ρ' => tb { E with nx := nxt, ct := nxt, bk := E.nx } ρ') :
    ∀ (xs : List (List Int × Lim)) (t : List (List Int × D)) (ρ : List Sl), runT v xs t (fun t' => ∀ ρ, Inv t' ρ → E.nx ρ) → Inv t ρ → forGo g tb E (xs.map pairD) ρ
  | [], t, ρ, h, hi => h ρ hi
  | x :: xs, t, ρ, h, hi => hs x t ρ _ h.1 h.2.1 h.2.2.1 (fun ρ' hi' => for_runT v Inv hs xs _ ρ' h.2.2.2 hi') hi
end Wd
set_option maxRecDepth 100000
set_option maxHeartbeats 2000000
namespace Wd
open PySem PySem.Spec PyProof.Rows L2
local macro_rules | `(tactic| walk_at "wd") => `(tactic| simp only [startW, Ar.sl, List.map_cons, List.map_nil, List.replicate, List.cons_append, List.nil_append, List.length_cons, List.length_nil, Nat.reduceAdd, Nat.reduceSub, List.getElem?_cons_zero, List.getElem?_cons_succ, List.set_cons_zero, List.set_cons_succ,
  wSeq, wNext, wRet, wAsg, wIfS, wBreak, wNever, wExp, wVar, wC, wOp, wUn, wCB, wNil, wCons, wTup, wLst, wKey, intsD, Option.map_some, wIf, wB, wNot, wAnd, wOr, wAndV, wOrV, wNotV, wIsi, wChain, wCall, wcNil, wcCons, wcFeed, gwName, gwNil, gwCons, gwTup, wIdxT, wIdxL, tupK, lstK, wSlT, wSlL, wRev, wStar, spliceD, wLenO, wFrz, wOwnL, wOwnD, wApp, wExt, wPop, wDPut, wDGet, keyD, wPar, wPar3, wParOD, wParDO, blD, intK, strD, woNone, woSome, wiL, wiT, wiS, wiR1, wiR2, wiEnumT, wiZipT, tyOf, kit_ii, kit_bi, kit_bb, kit_ib, kit_ss, kit_tt, kit_ts, kit_si,
  addI, subI, ltI, leI, gtI, geI, negI, isN, notN, isNon, ixD, lenD, min2D, max2D, intD, tupD, lstD, wYes, wipeW, Bool.not_true, Bool.not_false, true_and, and_true, Nat.reduceLeDiff, Nat.zero_le])
mutual
def lessB (c m : N3) : Lim → Bool
  | .pl w r => decide (c.get w > r - m.get w)
  | .jo true ls => lessA c m ls
  | .jo false ls => lessE c m ls
def lessA (c m : N3) : List Lim → Bool
  | [] => false
  | l :: ls => lessB c m l || lessA c m ls
def lessE (c m : N3) : List Lim → Bool
  | [] => true
  | l :: ls => lessB c m l && lessE c m ls
end
theorem lessA_eq (c m : N3) : ∀ ls, lessA c m ls = ls.any (lessB c m)
  | [] => by unfold lessA; rfl
  | l :: ls => by unfold lessA; rw [lessA_eq c m ls]; rfl
theorem lessE_eq (c m : N3) : ∀ ls, lessE c m ls = ls.all (lessB c m)
  | [] => by unfold lessE; rfl
  | l :: ls => by unfold lessE; rw [lessE_eq c m ls]; rfl
theorem less_jo (c m : N3) (b : Bool) (ls : List Lim) : lessB c m (.jo b ls) = if b then ls.any (lessB c m) else ls.all (lessB c m) := by
  cases b
  · unfold lessB; rw [lessE_eq]; rfl
  · unfold lessB; rw [lessA_eq]; rfl
def s_passes_less : WF := S3 fun a b c k => ∃ L n m, a = .da (encL L) ∧ b = .da (.tup (N3.ds n)) ∧ (c = .da (.tup (N3.ds m)) ∨ c = .da (.lst (N3.ds m))) ∧ L.all (fun _ _ => True) 40 ∧ L.size ≤ 100 ∧ k (.bl (lessB n m L))
/-- the children of a join, in their order, as the table has them -/
theorem kids_get (p : List Int) : ∀ (ls : List Lim) (i : Nat) (j : Nat) (l : Lim), ls[j]? = some l → (p ++ [((i + j : Nat) : Int)], l) ∈ kids p (i : Nat) ls
  | [], _, _, _, h => by simp at h
  | x :: ls, i, 0, l, h => by
    unfold kids
    simp at h
    subst h
    exact List.mem_cons_self
  | x :: ls, i, j + 1, l, h => by
    unfold kids
    have := kids_get p ls (i + 1) j l (by simpa using h)
    rw [show i + (j + 1) = i + 1 + j by omega]
    exact List.mem_cons_of_mem _ this
theorem lc_told {g : WG} {te : WE} {ρ : List Sl} {k : List D → Prop} (v : Lim → D) (ls : List Lim) : ∀ (n i : Nat) (acc : List D), i + n = ls.length → (∀ (j : Nat) (l : Lim) (kk : D → Prop), ls[j]? = some l → kk (v l) → g (.int (j : Nat)) ρ fun ρ' => te ρ' kk) → k (acc ++ (ls.drop i).map v) → lcGo g wYes te ρ (ilist (i : Nat) n) acc k
  | 0, i, acc, hn, _, hk => by
    rw [List.drop_eq_nil_of_le (by omega), List.map_nil, List.append_nil] at hk
    exact hk
  | n + 1, i, acc, hn, h, hk => by
    have hlt : i < ls.length := by omega
    refine h i ls[i] _ (List.getElem?_eq_getElem hlt) ?_
    refine lc_told v ls n (i + 1) (acc ++ [v ls[i]]) (by omega) h ?_
    rw [List.append_assoc]
    rw [List.drop_eq_getElem_cons hlt] at hk
    exact hk
def told1 (t : List (List Int × D)) (p : List Int) (j : Int) (kk : D → Prop) : Prop := match intsD [.int j] with
  | some ks => (match addK (.key p) (.key ks) with
    | some d => keyD d fun ks => (match odGet t ks with
      | some d => kk d
      | none => False)
    | none => False)
  | none => False
theorem told1_of {t : List (List Int × D)} {p : List Int} {j : Int} {kk : D → Prop} {d : D} (hp : p.length ≤ 500) (h : odGet t (p ++ [j]) = some d) (hk : kk d) : told1 t p j kk := by
  show (match addK (.key p) (.key [j]) with | some d => _ | none => False)
  unfold addK
  show (match (if p.length + 1 ≤ 1000 then some (D.key (p ++ [j])) else none) with | some d => _ | none => False)
  rw [if_pos (by omega)]
  show (match odGet t (p ++ [j]) with | some d => kk d | none => False)
  rw [h]
  exact hk
theorem key_one (p : List Int) (j : Int) : intsD ([.int j] : List D) = some [j] := rfl
theorem sc_passes_less : FnScope ["limit", "counts", "less", "told", "path", "part", "word", "rest", "inner", "k"] ["limit", "counts", "less"] (defScope (top 26)) := ⟨rfl, rfl, rfl, by decide +kernel, rfl, by decide +kernel, by decide +kernel⟩
theorem ok_passes_less {P : Program} {w : World} {K : PySem.W.Frag} {mg : Str → Option Value} {base : Heap} (E : En K mg) : Ok P w K mg base 3 "passes_less" ["limit", "counts", "less"] s_passes_less := by
  have T := E.t
  have G_all_pairs := ok_all_pairs (P := P) (w := w) (base := base) E
  have G_number_for := ok_number_for (P := P) (w := w) (base := base) E
  refine mkOk E 14 d_passes_less rfl rfl rfl rfl rfl fun fd F => ⟨FunD.okW F sc_passes_less S3.len fun cdv A outer s H Er hr => ?_, F.bindsN fun _ _ _ _ _ _ us hl => match us, hl with | [_, _, _], _ => rfl⟩
  have nd := sc_passes_less.nd
  refine ⟨_, _, (ssw_cons (sw_ownD 3 nd) (ssw_cons (sw_for PassesOwn.never (kiL K (krev K (kcall K G_all_pairs (hr.mono (by omega)) (cw_cons (ew_var 0) cw_nil)))) (ktup K (n := 2) (gsc (gw_name 4 nd) (gsc (gw_name 5 nd) gsw_nil))) (ssw_cons (sasg (ew_var 5) (ktup K (n := 2) (gsc (gw_name 6 nd) (gsc (gw_name 7 nd) gsw_nil)))) (ssw_one (sw_if (tkin K (ew_var 6) (kktup K T.COUNT_WORDS)) (ssw_one (sdput 3 (hu_of hr) (ew_var 4) (ew_cmp op_gt lo_gt (kcall K G_number_for (hr.mono (by omega)) (cw_cons (ew_var 6) (cw_cons (ew_var 1) cw_nil))) (ew_op op_sub lo_sub (ew_var 7) (kcall K G_number_for (hr.mono (by omega)) (cw_cons (ew_var 6) (cw_cons (ew_var 2) cw_nil)))) (nomark _)))) (ssw_cons (ssetLc (i := 8) [("k", 9)] nd (iw_range1 (aw_cons (kB K (rr := rLenK) call_len lc_len T.len bb_len (aw_cons (ew_var 7) aw_nil)) aw_nil) T.range) (by show blkC ["limit", "counts", "less", "told", "path", "part", "word", "rest", "inner", "k"] (defScope (top 26)) _ _ = true; decide +kernel) (fun _ _ _ _ _ => (gw_name 9 nd)) (fun _ _ _ _ _ => qw_nil) (fun _ _ _ _ _ => (edgetO 3 (hu_of hr) (kcatK K (ew_var 4) (ew_key (aw_cons (ew_var 9) aw_nil)))))) (ssw_one (sdput 3 (hu_of hr) (ew_var 4) (ew_if (tkeq K hr.units (ew_var 6) ew_str) (kB K (rr := rAny) (cr_any rfl) lc_any T.any bb_any (aw_cons (ew_var 8) aw_nil)) (kB K (rr := rAll) (cr_all rfl) lc_all T.all bb_all (aw_cons (ew_var 8) aw_nil)))))))))) (ssw_one (sw_ret (edgetO 3 (hu_of hr) (ew_key aw_nil)))))), S3.el ?_⟩
  rintro _ _ _ k ⟨L, n, m, rfl, rfl, hm, h1, h2, h⟩
  obtain ⟨M, rfl, hM⟩ : ∃ M, ‹Ar› = .da M ∧ (M = .tup (N3.ds m) ∨ M = .lst (N3.ds m)) := by
    rcases hm with rfl | rfl
    · exact ⟨_, rfl, .inl rfl⟩
    · exact ⟨_, rfl, .inr rfl⟩
  refine ⟨L, rfl, h1, h2, ?_⟩
  show forGo _ _ _ ((pre L []).map pairD).reverse _
  rw [← List.map_reverse]
  refine for_runT (fun l => .bl (lessB n m l)) (fun t ρ => ∃ s4 s5 s6 s7 s8 s9, ρ = [.da (encL L), .da (.tup (N3.ds n)), .da M, .od t, s4, s5, s6, s7, s8, s9]) ?_ _ [] _ (runT_pre _ _ _ _ _ (by show 0 + _ ≤ 1000; omega) (by show 0 + _ ≤ 500; omega) fun t' _ hg _ => ?_) ⟨_, _, _, _, _, _, rfl⟩
  · rintro ⟨p, l⟩ t ρ nxt hk hl hsz hn ⟨s4, s5, s6, s7, s8, s9, rfl⟩
    cases l with
    | pl w r =>
      have hM' : (.da M = Ar.da (.tup (N3.ds m)) ∨ .da M = Ar.da (.lst (N3.ds m))) := by rcases hM with rfl | rfl; exact .inl rfl; exact .inr rfl
      cases w
      · exact ⟨rfl, rfl, .hours, n, rfl, .inl rfl, .hours, m, rfl, hM', hl, hn _ ⟨_, _, _, _, _, _, rfl⟩⟩
      · exact ⟨rfl, rfl, .cycles, n, rfl, .inl rfl, .cycles, m, rfl, hM', hl, hn _ ⟨_, _, _, _, _, _, rfl⟩⟩
      · exact ⟨rfl, rfl, .days, n, rfl, .inl rfl, .days, m, rfl, hM', hl, hn _ ⟨_, _, _, _, _, _, rfl⟩⟩
    | jo b ls =>
      have hsz : p.length + (1 + sizes ls) ≤ 500 := by have := hsz; unfold Lim.size at this; exact this
      have hll := sizes_len ls
      have hlc : ∀ (j : Nat) (l : Lim) (kk : D → Prop), ls[j]? = some l → kk (.bl (lessB n m l)) → told1 t p (j : Nat) kk := fun j l kk hj hkk => by
        have := hk _ (kids_get p ls 0 j l hj)
        rw [show ((0 + j : Nat) : Int) = ((j : Nat) : Int) by omega] at this
        exact told1_of (by omega) this hkk
      have hlen : (ilist 0 (encLs ls).length).length ≤ 1000 := by rw [ilist_map, List.length_map, List.length_range, encLs_eq, List.length_map]; omega
      have hfit : -2 ^ 62 ≤ ((encLs ls).length : Int) ∧ ((encLs ls).length : Int) < 2 ^ 62 := by rw [encLs_eq, List.length_map]; omega
      have hel : 0 + (encLs ls).length = ls.length := by rw [encLs_eq, List.length_map, Nat.zero_add]
      have hput : ∀ (d : D), d = .bl (lessB n m (.jo b ls)) → ∀ s4 s5 s6 s7 s8 s9 : Sl, t.length < 1000 ∧ nxt [.da (encL L), .da (.tup (N3.ds n)), .da M, .od (odPut t p d), s4, s5, s6, s7, s8, s9] := fun d hd s4 s5 s6 s7 s8 s9 => by
        subst hd
        exact ⟨hl, hn _ ⟨_, _, _, _, _, _, rfl⟩⟩
      rw [less_jo] at hput
      cases b
      · refine ⟨rfl, rfl, hfit, hlen, lc_told (fun l => .bl (lessB n m l)) ls _ 0 [] hel (fun j l kk hj hkk => ⟨show 1 ≤ 1000 by decide, hlc j l kk hj hkk⟩) ?_⟩
        show (match allD [.lst (ls.map fun l => .bl (lessB n m l))] with | some d => _ | none => False)
        rw [allD_map]
        exact hput _ rfl _ _ _ _ _ _
      · refine ⟨rfl, rfl, hfit, hlen, lc_told (fun l => .bl (lessB n m l)) ls _ 0 [] hel (fun j l kk hj hkk => ⟨show 1 ≤ 1000 by decide, hlc j l kk hj hkk⟩) ?_⟩
        show (match anyD [.lst (ls.map fun l => .bl (lessB n m l))] with | some d => _ | none => False)
        rw [anyD_map]
        exact hput _ rfl _ _ _ _ _ _
  · rintro ρ ⟨s4, s5, s6, s7, s8, s9, rfl⟩
    refine ⟨show 0 ≤ 1000 by decide, ?_⟩
    show (match odGet t' [] with | some d => k d | none => False)
    rw [hg]
    exact h
def N3.zero : N3 := ⟨0, 0, 0⟩
def N3.succ (n : N3) : N3 := ⟨n.h + 1, n.c + 1, n.d + 1⟩
def N3.add (n m : N3) : N3 := ⟨n.h + m.h, n.c + m.c, n.d + m.d⟩
def s_is_passed : WF := S2 fun a b k => ∃ L n, a = .da (encL L) ∧ b = .da (.tup (N3.ds n)) ∧ L.all (fun _ _ => True) 40 ∧ L.size ≤ 100 ∧ k (.bl (lessB n .zero L))
theorem sc_is_passed : FnScope ["limit", "counts"] ["limit", "counts"] (defScope (top 27)) := ⟨rfl, rfl, rfl, by decide +kernel, rfl, by decide +kernel, by decide +kernel⟩
theorem ok_is_passed {P : Program} {w : World} {K : PySem.W.Frag} {mg : Str → Option Value} {base : Heap} (E : En K mg) : Ok P w K mg base 4 "is_passed" ["limit", "counts"] s_is_passed := by
  have T := E.t
  have G_passes_less := ok_passes_less (P := P) (w := w) (base := base) E
  refine mkOk E 15 d_is_passed rfl rfl rfl rfl rfl fun fd F => ⟨FunD.okW F sc_is_passed S2.len fun cdv A outer s H Er hr => ?_, F.bindsN fun _ _ _ _ _ _ us hl => match us, hl with | [_, _], _ => rfl⟩
  have nd := sc_is_passed.nd
  refine ⟨_, _, (ssw_one (sw_ret (kcall K G_passes_less (hr.mono (by omega)) (cw_cons (ew_var 0) (cw_cons (ew_var 1) (cw_cons (kktup K T.NO_NUMBERS) cw_nil)))))), S2.el ?_⟩
  rintro _ _ k ⟨L, n, rfl, rfl, h1, h2, h⟩
  exact ⟨L, n, .zero, rfl, rfl, .inl rfl, h1, h2, h⟩
def s_is_reached : WF := S3 fun a b c k => ∃ L s n, a = .da (encL L) ∧ b = .da (.tup (N3.ds s)) ∧ c = .da (.tup (N3.ds n)) ∧ L.all (fun _ _ => True) 40 ∧ L.size ≤ 100 ∧ k (.bl (lessB n s.succ L))
theorem sc_is_reached : FnScope ["limit", "slack", "counts", "number"] ["limit", "slack", "counts"] (defScope (top 28)) := ⟨rfl, rfl, rfl, by decide +kernel, rfl, by decide +kernel, by decide +kernel⟩
theorem ok_is_reached {P : Program} {w : World} {K : PySem.W.Frag} {mg : Str → Option Value} {base : Heap} (E : En K mg) : Ok P w K mg base 4 "is_reached" ["limit", "slack", "counts"] s_is_reached := by
  have T := E.t
  have G_passes_less := ok_passes_less (P := P) (w := w) (base := base) E
  refine mkOk E 16 d_is_reached rfl rfl rfl rfl rfl fun fd F => ⟨FunD.okW F sc_is_reached S3.len fun cdv A outer s H Er hr => ?_, F.bindsN fun _ _ _ _ _ _ us hl => match us, hl with | [_, _, _], _ => rfl⟩
  have nd := sc_is_reached.nd
  refine ⟨_, _, (ssw_one (sw_ret (kcall K G_passes_less (hr.mono (by omega)) (cw_cons (ew_var 0) (cw_cons (ew_var 2) (cw_cons (ew_lc [("number", 3)] nd (kiT K (ew_var 1)) (by show blkC ["limit", "slack", "counts", "number"] (defScope (top 28)) _ _ = true; decide +kernel) (fun _ _ _ _ _ => (gw_name 3 nd)) (fun _ _ _ _ _ => qw_nil) (fun _ _ _ _ _ => (ew_op op_add lo_add (ew_var 3) ew_int))) cw_nil)))))), S3.el ?_⟩
  rintro _ _ _ k ⟨L, s, n, rfl, rfl, rfl, h1, h2, h⟩
  exact ⟨show 3 ≤ 1000 by decide, L, n, s.succ, rfl, rfl, .inr rfl, h1, h2, h⟩
mutual
/-- a limit that is more by m -/
def widL (m : N3) : Lim → Lim
  | .pl w r => .pl w (r + m.get w)
  | .jo b ls => .jo b (widLs m ls)
def widLs (m : N3) : List Lim → List Lim
  | [] => []
  | l :: ls => widL m l :: widLs m ls
end
theorem widLs_eq (m : N3) : ∀ ls, widLs m ls = ls.map (widL m)
  | [] => by unfold widLs; rfl
  | l :: ls => by unfold widLs; rw [widLs_eq m ls]; rfl
def s_widened : WF := S2 fun a b k => ∃ L s, a = .da (encL L) ∧ b = .da (.tup (N3.ds s)) ∧ L.all (fun _ _ => True) 40 ∧ L.size ≤ 100 ∧ k (encL (widL s L))
theorem sc_widened : FnScope ["limit", "slack", "made", "path", "part", "word", "rest", "k"] ["limit", "slack"] (defScope (top 29)) := ⟨rfl, rfl, rfl, by decide +kernel, rfl, by decide +kernel, by decide +kernel⟩
theorem ok_widened {P : Program} {w : World} {K : PySem.W.Frag} {mg : Str → Option Value} {base : Heap} (E : En K mg) : Ok P w K mg base 3 "widened" ["limit", "slack"] s_widened := by
  have T := E.t
  have G_all_pairs := ok_all_pairs (P := P) (w := w) (base := base) E
  have G_number_for := ok_number_for (P := P) (w := w) (base := base) E
  refine mkOk E 17 d_widened rfl rfl rfl rfl rfl fun fd F => ⟨FunD.okW F sc_widened S2.len fun cdv A outer s H Er hr => ?_, F.bindsN fun _ _ _ _ _ _ us hl => match us, hl with | [_, _], _ => rfl⟩
  have nd := sc_widened.nd
  refine ⟨_, _, (ssw_cons (sw_ownD 2 nd) (ssw_cons (sw_for PassesOwn.never (kiL K (krev K (kcall K G_all_pairs (hr.mono (by omega)) (cw_cons (ew_var 0) cw_nil)))) (ktup K (n := 2) (gsc (gw_name 3 nd) (gsc (gw_name 4 nd) gsw_nil))) (ssw_cons (sasg (ew_var 4) (ktup K (n := 2) (gsc (gw_name 5 nd) (gsc (gw_name 6 nd) gsw_nil)))) (ssw_one (sw_if (tkin K (ew_var 5) (kktup K T.COUNT_WORDS)) (ssw_one (sdput 2 (hu_of hr) (ew_var 3) (ew_tup (aw_cons (ew_var 5) (aw_cons (ew_op op_add lo_add (ew_var 6) (kcall K G_number_for (hr.mono (by omega)) (cw_cons (ew_var 5) (cw_cons (ew_var 1) cw_nil)))) aw_nil))))) (ssw_one (sdput 2 (hu_of hr) (ew_var 3) (ew_tup (aw_cons (ew_var 5) (aw_cons (kT K (rr := rTupF) call_tupF lc_tup T.tuple bb_tuple (aw_cons (ew_lc [("k", 7)] nd (iw_range1 (aw_cons (kB K (rr := rLenK) call_len lc_len T.len bb_len (aw_cons (ew_var 6) aw_nil)) aw_nil) T.range) (by show blkC ["limit", "slack", "made", "path", "part", "word", "rest", "k"] (defScope (top 29)) _ _ = true; decide +kernel) (fun _ _ _ _ _ => (gw_name 7 nd)) (fun _ _ _ _ _ => qw_nil) (fun _ _ _ _ _ => (edgetO 2 (hu_of hr) (kcatK K (ew_var 3) (ew_key (aw_cons (ew_var 7) aw_nil)))))) aw_nil)) aw_nil))))))))) (ssw_one (sw_ret (edgetO 2 (hu_of hr) (ew_key aw_nil)))))), S2.el ?_⟩
  rintro _ _ k ⟨L, m, rfl, rfl, h1, h2, h⟩
  refine ⟨L, rfl, h1, h2, ?_⟩
  show forGo _ _ _ ((pre L []).map pairD).reverse _
  rw [← List.map_reverse]
  refine for_runT (fun l => encL (widL m l)) (fun t ρ => ∃ s4 s5 s6 s7 s8, ρ = [.da (encL L), .da (.tup (N3.ds m)), .od t, s4, s5, s6, s7, s8]) ?_ _ [] _ (runT_pre _ _ _ _ _ (by show 0 + _ ≤ 1000; omega) (by show 0 + _ ≤ 500; omega) fun t' _ hg _ => ?_) ⟨_, _, _, _, _, rfl⟩
  · rintro ⟨p, l⟩ t ρ nxt hk hl hsz hn ⟨s4, s5, s6, s7, s8, rfl⟩
    cases l with
    | pl w r =>
      cases w
      · exact ⟨rfl, rfl, .hours, m, rfl, .inl rfl, show 2 ≤ 1000 by decide, hl, hn _ ⟨_, _, _, _, _, rfl⟩⟩
      · exact ⟨rfl, rfl, .cycles, m, rfl, .inl rfl, show 2 ≤ 1000 by decide, hl, hn _ ⟨_, _, _, _, _, rfl⟩⟩
      · exact ⟨rfl, rfl, .days, m, rfl, .inl rfl, show 2 ≤ 1000 by decide, hl, hn _ ⟨_, _, _, _, _, rfl⟩⟩
    | jo b ls =>
      have hsz : p.length + (1 + sizes ls) ≤ 500 := by have := hsz; unfold Lim.size at this; exact this
      have hll := sizes_len ls
      have hlc : ∀ (j : Nat) (l : Lim) (kk : D → Prop), ls[j]? = some l → kk (encL (widL m l)) → told1 t p (j : Nat) kk := fun j l kk hj hkk => by
        have := hk _ (kids_get p ls 0 j l hj)
        rw [show ((0 + j : Nat) : Int) = ((j : Nat) : Int) by omega] at this
        exact told1_of (by omega) this hkk
      have hlen : (ilist 0 (encLs ls).length).length ≤ 1000 := by rw [ilist_map, List.length_map, List.length_range, encLs_eq, List.length_map]; omega
      have hfit : -2 ^ 62 ≤ ((encLs ls).length : Int) ∧ ((encLs ls).length : Int) < 2 ^ 62 := by rw [encLs_eq, List.length_map]; omega
      have hel : 0 + (encLs ls).length = ls.length := by rw [encLs_eq, List.length_map, Nat.zero_add]
      have hput : ∀ (d : D), d = encL (widL m (.jo b ls)) → ∀ s4 s5 s6 s7 s8 : Sl, t.length < 1000 ∧ nxt [.da (encL L), .da (.tup (N3.ds m)), .od (odPut t p d), s4, s5, s6, s7, s8] := fun d hd s4 s5 s6 s7 s8 => by
        subst hd
        exact ⟨hl, hn _ ⟨_, _, _, _, _, rfl⟩⟩
      have hwe : .tup [.str (joS b), .tup (ls.map fun l => encL (widL m l))] = encL (widL m (.jo b ls)) := by
        rw [show widL m (.jo b ls) = .jo b (widLs m ls) by unfold widL; rfl, show encL (.jo b (widLs m ls)) = .tup [.str (joS b), .tup (encLs (widLs m ls))] by unfold encL; rfl, encLs_eq, widLs_eq, List.map_map]
        rfl
      cases b
      all_goals
        exact ⟨rfl, rfl, hfit, hlen, lc_told (fun l => encL (widL m l)) ls _ 0 [] hel (fun j l kk hj hkk => ⟨show 1 ≤ 1000 by decide, hlc j l kk hj hkk⟩) ⟨show 2 ≤ 1000 by decide, hput _ hwe _ _ _ _ _⟩⟩
  · rintro ρ ⟨s4, s5, s6, s7, s8, rfl⟩
    refine ⟨show 0 ≤ 1000 by decide, ?_⟩
    show (match odGet t' [] with | some d => k d | none => False)
    rw [hg]
    exact h
end Wd
set_option maxRecDepth 100000
set_option maxHeartbeats 2000000
namespace Wd
open PySem PySem.Spec PyProof.Rows L2
local macro_rules | `(tactic| walk_at "wd") => `(tactic| simp only [startW, Ar.sl, List.map_cons, List.map_nil, List.replicate, List.cons_append, List.nil_append, List.length_cons, List.length_nil, Nat.reduceAdd, Nat.reduceSub, List.getElem?_cons_zero, List.getElem?_cons_succ, List.set_cons_zero, List.set_cons_succ,
  wSeq, wNext, wRet, wAsg, wIfS, wBreak, wNever, wExp, wVar, wC, wOp, wUn, wCB, wNil, wCons, wTup, wLst, wKey, intsD, Option.map_some, wIf, wB, wNot, wAnd, wOr, wAndV, wOrV, wNotV, wIsi, wChain, wCall, wcNil, wcCons, wcFeed, gwName, gwNil, gwCons, gwTup, wIdxT, wIdxL, tupK, lstK, wSlT, wSlL, wRev, wStar, spliceD, wLenO, wFrz, wOwnL, wOwnD, wApp, wExt, wPop, wDPut, wDGet, keyD, wPar, wPar3, wParOD, wParDO, blD, intK, strD, woNone, woSome, wiL, wiT, wiS, wiR1, wiR2, wiEnumT, wiZipT, tyOf, kit_ii, kit_bi, kit_bb, kit_ib, kit_ss, kit_tt, kit_ts, kit_si,
  addI, subI, ltI, leI, gtI, geI, negI, isN, notN, isNon, ixD, lenD, min2D, max2D, intD, tupD, lstD, wYes, wipeW, Bool.not_true, Bool.not_false, true_and, and_true, Nat.reduceLeDiff, Nat.zero_le])
/-! ### sites -/
abbrev Uses := List (Int × Int)
abbrev Stays := List (Int × Option Str)
structure Task where
  nm : Str
  pt : Str
  way : Str
  lim : Lim
  sl : N3
structure Site where
  ms : List (Str × Uses)
  ps : List (Str × Stays)
  ts : List Task
def optS : Option Str → D
  | none => .non
  | some z => .str z
def encSt (s : Int × Option Str) : D := .tup [.int s.1, optS s.2]
def encSts (ss : Stays) : D := .tup (ss.map encSt)
def encM (m : Str × Uses) : D := .tup [.str m.1, encUs m.2]
def encP (m : Str × Stays) : D := .tup [.str m.1, encSts m.2]
def encT (t : Task) : D := .tup [.str t.nm, .str t.pt, .str t.way, encL t.lim, .tup t.sl.ds]
def encS (S : Site) : D := .tup [.tup (S.ms.map encM), .tup (S.ps.map encP), .tup (S.ts.map encT)]
structure OkSts (ms : List (Str × Uses)) (ss : Stays) : Prop where
  ne : ss ≠ []
  len : ss.length ≤ 10
  ini : ∃ s ∈ ss, s.1 ≤ 0
  rng : ∀ s ∈ ss, 0 ≤ s.1 ∧ s.1 ≤ 1000
  mem : ∀ s ∈ ss, ∀ z, s.2 = some z → ∃ us, (z, us) ∈ ms
structure OkT (S : Site) (t : Task) : Prop where
  pt : ∃ ss, (t.pt, ss) ∈ S.ps
  lim : t.lim.all (fun _ n => 1 ≤ n ∧ n ≤ 1000) 3
  siz : t.lim.size ≤ 100
  s0 : 0 ≤ t.sl.h ∧ 0 ≤ t.sl.c ∧ 0 ≤ t.sl.d
  s1 : t.sl.h ≤ 1000 ∧ t.sl.c ≤ 1000 ∧ t.sl.d ≤ 1000
structure OkS (S : Site) : Prop where
  msn : (S.ms.map (·.1)).Nodup
  msi : ∀ m ∈ S.ms, m.1 ∈ theNames ∧ okUs m.2
  msl : S.ms.length ≤ 10
  psn : (S.ps.map (·.1)).Nodup
  psi : ∀ p ∈ S.ps, p.1 ∈ theNames ∧ OkSts S.ms p.2
  psl : S.ps.length ≤ 10
  tsn : (S.ts.map (·.nm)).Nodup
  tsi : ∀ t ∈ S.ts, t.nm ∈ theNames ∧ OkT S t
  tsl : S.ts.length ≤ 10
theorem atI_get {α : Type} {l : List α} {j : Nat} {x : α} (h : l[j]? = some x) : atI l (j : Nat) = some x := by
  unfold atI
  have hl : j < l.length := by
    rcases Nat.lt_or_ge j l.length with h1 | h1
    · exact h1
    · rw [List.getElem?_eq_none h1] at h; cases h
  have e : ixN l.length (j : Nat) = some j := by
    unfold ixN
    rw [if_pos (by omega), if_pos (by omega)]
    rfl
  rw [e]
  exact h
theorem atI_map {α : Type} (f : α → D) {l : List α} {j : Nat} {x : α} (h : l[j]? = some x) : atI (l.map f) (j : Nat) = some (f x) := atI_get (by rw [List.getElem?_map, h]; rfl)
theorem atI_last {α : Type} {l : List α} {x : α} : atI (l ++ [x]) (-1) = some x := by
  unfold atI
  have e : ixN (l ++ [x]).length (-1) = some l.length := by
    unfold ixN
    have el : (l ++ [x]).length = l.length + 1 := List.length_append
    rw [el, if_neg (by omega), if_pos (by omega)]
    congr 1
    omega
  rw [e]
  simp
theorem idx_mem {β : Type} {z : Str} {b : β} : ∀ {l : List (Str × β)}, (l.map (·.1)).Nodup → (z, b) ∈ l → ∃ j, idxS z (l.map (·.1)) = some j ∧ l[j]? = some (z, b)
  | x :: l, hn, hm => by
    rw [List.map_cons] at hn ⊢
    unfold idxS
    by_cases e : x.1 = z
    · rw [if_pos e]
      rcases List.mem_cons.mp hm with h | h
      · exact ⟨0, rfl, by rw [h]; rfl⟩
      · exact absurd (List.mem_map_of_mem (f := (·.1)) h) (by rw [← e]; exact (List.nodup_cons.mp hn).1)
    · rw [if_neg e]
      rcases List.mem_cons.mp hm with h | h
      · exact absurd (by rw [← h]) e
      · obtain ⟨j, h1, h2⟩ := idx_mem (List.nodup_cons.mp hn).2 h
        exact ⟨j + 1, by rw [h1]; rfl, by simpa using h2⟩
theorem idxS_lt {z : Str} {l : List Str} {j : Nat} (h : idxS z l = some j) : z ∈ l := List.mem_of_getElem? (idxS_ok z l j h).1
theorem inD_strs {z : Str} {l : List Str} (h : z ∈ l) : inD false (.str z) (.lst (l.map D.str)) = some (.bl true) := by
  show (if flatD (.str z) = true ∧ (l.map D.str).all flatD = true then some (D.bl ((l.map D.str).any fun y => eqF y (.str z))) else none) = _
  rw [if_pos ⟨rfl, by rw [List.all_map, List.all_eq_true]; intros; rfl⟩]
  congr 2
  rw [List.any_map, List.any_eq_true]
  exact ⟨z, h, by show (z == z) = true; simp⟩
theorem strsD_ids (l : List Str) : strsD (l.map D.str) = some l := by
  have := strsD_map (fun x : Str => x) l
  rw [this, List.map_id']
def s_machine_names : WF := S1 fun a k => ∃ S, OkS S ∧ a = .da (encS S) ∧ k (.lst ((S.ms.map (·.1)).map D.str))
theorem sc_machine_names : FnScope ["site", "name", "uses"] ["site"] (defScope (top 31)) := ⟨rfl, rfl, rfl, by decide +kernel, rfl, by decide +kernel, by decide +kernel⟩
theorem ok_machine_names {P : Program} {w : World} {K : PySem.W.Frag} {mg : Str → Option Value} {base : Heap} (E : En K mg) : Ok P w K mg base 1 "machine_names" ["site"] s_machine_names := by
  have T := E.t
  refine mkOk E 18 d_machine_names rfl rfl rfl rfl rfl fun fd F => ⟨FunD.okW F sc_machine_names S1.len fun cdv A outer s H Er hr => ?_, F.bindsN fun _ _ _ _ _ _ us hl => match us, hl with | [_], _ => rfl⟩
  have nd := sc_machine_names.nd
  refine ⟨_, _, (ssw_one (sw_ret (ew_lc [("name", 1), ("uses", 2)] nd (kiT K (kix K (ew_var 0) ew_int (fun _ _ => rfl))) (by show blkC ["site", "name", "uses"] (defScope (top 31)) _ _ = true; decide +kernel) (fun _ _ _ _ _ => (ktup K (n := 2) (gsc (gw_name 1 nd) (gsc (gw_name 2 nd) gsw_nil)))) (fun _ _ _ _ _ => qw_nil) (fun _ _ _ _ _ => (ew_var 1))))), S1.el ?_⟩
  rintro _ k ⟨S, hS, rfl, h⟩
  refine wLc_map encM (fun m => .str m.1) S.ms (fun _ h => h) (by have := hS.msl; omega) (fun m _ kk hk => ⟨rfl, hk⟩) ?_
  rw [List.map_map] at h
  exact h
def s_part_names : WF := S1 fun a k => ∃ S, OkS S ∧ a = .da (encS S) ∧ k (.lst ((S.ps.map (·.1)).map D.str))
theorem sc_part_names : FnScope ["site", "name", "stays"] ["site"] (defScope (top 32)) := ⟨rfl, rfl, rfl, by decide +kernel, rfl, by decide +kernel, by decide +kernel⟩
theorem ok_part_names {P : Program} {w : World} {K : PySem.W.Frag} {mg : Str → Option Value} {base : Heap} (E : En K mg) : Ok P w K mg base 1 "part_names" ["site"] s_part_names := by
  have T := E.t
  refine mkOk E 19 d_part_names rfl rfl rfl rfl rfl fun fd F => ⟨FunD.okW F sc_part_names S1.len fun cdv A outer s H Er hr => ?_, F.bindsN fun _ _ _ _ _ _ us hl => match us, hl with | [_], _ => rfl⟩
  have nd := sc_part_names.nd
  refine ⟨_, _, (ssw_one (sw_ret (ew_lc [("name", 1), ("stays", 2)] nd (kiT K (kix K (ew_var 0) ew_int (fun _ _ => rfl))) (by show blkC ["site", "name", "stays"] (defScope (top 32)) _ _ = true; decide +kernel) (fun _ _ _ _ _ => (ktup K (n := 2) (gsc (gw_name 1 nd) (gsc (gw_name 2 nd) gsw_nil)))) (fun _ _ _ _ _ => qw_nil) (fun _ _ _ _ _ => (ew_var 1))))), S1.el ?_⟩
  rintro _ k ⟨S, hS, rfl, h⟩
  refine wLc_map encP (fun m => .str m.1) S.ps (fun _ h => h) (by have := hS.psl; omega) (fun m _ kk hk => ⟨rfl, hk⟩) ?_
  rw [List.map_map] at h
  exact h
def s_index_among : WF := S3 fun a b c k => ∃ l z j, z ∈ theNames ∧ idxS z l = some j ∧ a = .da (.lst (l.map D.str)) ∧ b = .da (.str z) ∧ (∃ d, c = .da d) ∧ k (.int (j : Nat))
theorem sc_index_among : FnScope ["names", "name", "word"] ["names", "name", "word"] (defScope (top 33)) := ⟨rfl, rfl, rfl, by decide +kernel, rfl, by decide +kernel, by decide +kernel⟩
theorem ok_index_among {P : Program} {w : World} {K : PySem.W.Frag} {mg : Str → Option Value} {base : Heap} (E : En K mg) : Ok P w K mg base 2 "index_among" ["names", "name", "word"] s_index_among := by
  have T := E.t
  have G_require_usable := ok_require_usable (P := P) (w := w) (base := base) E
  have G_is_name := ok_is_name (P := P) (w := w) (base := base) E
  refine mkOk E 20 d_index_among rfl rfl rfl rfl rfl fun fd F => ⟨FunD.okW F sc_index_among S3.len fun cdv A outer s H Er hr => ?_, F.bindsN fun _ _ _ _ _ _ us hl => match us, hl with | [_, _, _], _ => rfl⟩
  have nd := sc_index_among.nd
  refine ⟨_, _, (ssw_cons (sw_expr (kcall K G_require_usable (hr.mono (by omega)) (cw_cons (ew_and (kcall K G_is_name (hr.mono (by omega)) (cw_cons (ew_var 1) cw_nil)) (ew_one (kin K (ew_var 1) (ew_var 0)))) (cw_cons (ew_var 2) (cw_cons (ew_un un_neg lo_neg ew_int) cw_nil))))) (ssw_one (sw_ret (klidx K (ew_var 0) (ew_var 1))))), S3.el ?_⟩
  rintro _ _ _ k ⟨l, z, j, hz, hj, rfl, rfl, ⟨x, rfl⟩, h⟩
  refine ⟨z, hz, rfl, ?_⟩
  show (match inD false (.str z) (.lst (l.map D.str)) with | some d => _ | none => False)
  rw [inD_strs (idxS_lt hj)]
  refine ⟨rfl, ⟨_, rfl⟩, ⟨_, rfl⟩, ?_⟩
  show (match (strsD (l.map D.str)).bind (idxS z) with | some j => k (.int (j : Nat)) | none => False)
  rw [strsD_ids, Option.bind_some, hj]
  exact h
def s_uses_of : WF := S2 fun a b k => ∃ S z us, OkS S ∧ (z, us) ∈ S.ms ∧ a = .da (encS S) ∧ b = .da (.str z) ∧ k (encUs us)
theorem sc_uses_of : FnScope ["site", "machine"] ["site", "machine"] (defScope (top 34)) := ⟨rfl, rfl, rfl, by decide +kernel, rfl, by decide +kernel, by decide +kernel⟩
theorem ok_uses_of {P : Program} {w : World} {K : PySem.W.Frag} {mg : Str → Option Value} {base : Heap} (E : En K mg) : Ok P w K mg base 3 "uses_of" ["site", "machine"] s_uses_of := by
  have T := E.t
  have G_index_among := ok_index_among (P := P) (w := w) (base := base) E
  have G_machine_names := ok_machine_names (P := P) (w := w) (base := base) E
  refine mkOk E 21 d_uses_of rfl rfl rfl rfl rfl fun fd F => ⟨FunD.okW F sc_uses_of S2.len fun cdv A outer s H Er hr => ?_, F.bindsN fun _ _ _ _ _ _ us hl => match us, hl with | [_, _], _ => rfl⟩
  have nd := sc_uses_of.nd
  refine ⟨_, _, (ssw_one (sw_ret (kix K (kix K (kix K (ew_var 0) ew_int (fun _ _ => rfl)) (kcall K G_index_among (hr.mono (by omega)) (cw_cons (kcall K G_machine_names (hr.mono (by omega)) (cw_cons (ew_var 0) cw_nil)) (cw_cons (ew_var 1) (cw_cons ew_str cw_nil)))) (fun _ _ => rfl)) ew_int (fun _ _ => rfl)))), S2.el ?_⟩
  rintro _ _ k ⟨S, z, us, hS, hm, rfl, rfl, h⟩
  obtain ⟨j, h1, h2⟩ := idx_mem hS.msn hm
  refine ⟨S, hS, rfl, _, z, j, (hS.msi _ hm).1, h1, rfl, rfl, ⟨_, rfl⟩, ?_⟩
  show (match (match atI (S.ms.map encM) (j : Nat) with | some d => _ | none => False : Prop) with | p => p)
  rw [atI_map encM h2]
  exact h
def s_stays_of : WF := S2 fun a b k => ∃ S z ss, OkS S ∧ (z, ss) ∈ S.ps ∧ a = .da (encS S) ∧ b = .da (.str z) ∧ k (encSts ss)
theorem sc_stays_of : FnScope ["site", "part"] ["site", "part"] (defScope (top 35)) := ⟨rfl, rfl, rfl, by decide +kernel, rfl, by decide +kernel, by decide +kernel⟩
theorem ok_stays_of {P : Program} {w : World} {K : PySem.W.Frag} {mg : Str → Option Value} {base : Heap} (E : En K mg) : Ok P w K mg base 3 "stays_of" ["site", "part"] s_stays_of := by
  have T := E.t
  have G_index_among := ok_index_among (P := P) (w := w) (base := base) E
  have G_part_names := ok_part_names (P := P) (w := w) (base := base) E
  refine mkOk E 22 d_stays_of rfl rfl rfl rfl rfl fun fd F => ⟨FunD.okW F sc_stays_of S2.len fun cdv A outer s H Er hr => ?_, F.bindsN fun _ _ _ _ _ _ us hl => match us, hl with | [_, _], _ => rfl⟩
  have nd := sc_stays_of.nd
  refine ⟨_, _, (ssw_one (sw_ret (kix K (kix K (kix K (ew_var 0) ew_int (fun _ _ => rfl)) (kcall K G_index_among (hr.mono (by omega)) (cw_cons (kcall K G_part_names (hr.mono (by omega)) (cw_cons (ew_var 0) cw_nil)) (cw_cons (ew_var 1) (cw_cons ew_str cw_nil)))) (fun _ _ => rfl)) ew_int (fun _ _ => rfl)))), S2.el ?_⟩
  rintro _ _ k ⟨S, z, ss, hS, hm, rfl, rfl, h⟩
  obtain ⟨j, h1, h2⟩ := idx_mem hS.psn hm
  refine ⟨S, hS, rfl, _, z, j, (hS.psi _ hm).1, h1, rfl, rfl, ⟨_, rfl⟩, ?_⟩
  show (match (match atI (S.ps.map encP) (j : Nat) with | some d => _ | none => False : Prop) with | p => p)
  rw [atI_map encP h2]
  exact h
def s_require_day : WF := S1 fun a k => ∃ i : Int, 0 ≤ i ∧ a = .da (.int i) ∧ k .non
theorem sc_require_day : FnScope ["day"] ["day"] (defScope (top 36)) := ⟨rfl, rfl, rfl, by decide +kernel, rfl, by decide +kernel, by decide +kernel⟩
theorem ok_require_day {P : Program} {w : World} {K : PySem.W.Frag} {mg : Str → Option Value} {base : Heap} (E : En K mg) : Ok P w K mg base 3 "require_day" ["day"] s_require_day := by
  have T := E.t
  have G_require_usable := ok_require_usable (P := P) (w := w) (base := base) E
  have G_is_number := ok_is_number (P := P) (w := w) (base := base) E
  refine mkOk E 23 d_require_day rfl rfl rfl rfl rfl fun fd F => ⟨FunD.okW F sc_require_day S1.len fun cdv A outer s H Er hr => ?_, F.bindsN fun _ _ _ _ _ _ us hl => match us, hl with | [_], _ => rfl⟩
  have nd := sc_require_day.nd
  refine ⟨_, _, (ssw_one (sw_expr (kcall K G_require_usable (hr.mono (by omega)) (cw_cons (kcall K G_is_number (hr.mono (by omega)) (cw_cons (ew_var 0) cw_nil)) (cw_cons ew_str (cw_cons (ew_un un_neg lo_neg ew_int) cw_nil)))))), S1.el ?_⟩
  rintro _ k ⟨i, hi, rfl, h⟩
  exact ⟨i, rfl, by rw [decide_eq_true hi], ⟨_, rfl⟩, ⟨_, rfl⟩, h⟩
def placeOn (ss : Stays) (day : Int) : Option Str := match (ss.filter fun s => decide (s.1 ≤ day)).getLast? with
  | some s => s.2
  | none => none
def s_place_on : WF := S2 fun a b k => ∃ ss day, ss.length ≤ 10 ∧ (∃ s ∈ ss, s.1 ≤ day) ∧ a = .da (encSts ss) ∧ b = .da (.int day) ∧ k (optS (placeOn ss day))
theorem sc_place_on : FnScope ["stays", "day", "begin", "place"] ["stays", "day"] (defScope (top 37)) := ⟨rfl, rfl, rfl, by decide +kernel, rfl, by decide +kernel, by decide +kernel⟩
theorem ok_place_on {P : Program} {w : World} {K : PySem.W.Frag} {mg : Str → Option Value} {base : Heap} (E : En K mg) : Ok P w K mg base 1 "place_on" ["stays", "day"] s_place_on := by
  have T := E.t
  refine mkOk E 24 d_place_on rfl rfl rfl rfl rfl fun fd F => ⟨FunD.okW F sc_place_on S2.len fun cdv A outer s H Er hr => ?_, F.bindsN fun _ _ _ _ _ _ us hl => match us, hl with | [_, _], _ => rfl⟩
  have nd := sc_place_on.nd
  refine ⟨_, _, (ssw_one (sw_ret (kix K (ew_lc [("begin", 2), ("place", 3)] nd (kiT K (ew_var 0)) (by show blkC ["stays", "day", "begin", "place"] (defScope (top 37)) _ _ = true; decide +kernel) (fun _ _ _ _ _ => (ktup K (n := 2) (gsc (gw_name 2 nd) (gsc (gw_name 3 nd) gsw_nil)))) (fun _ _ _ _ _ => (qw_one (tw_cmp op_le lo_le (ew_var 2) (ew_var 1) (nomark _)))) (fun _ _ _ _ _ => (ew_var 3))) (ew_un un_neg lo_neg ew_int) (fun _ _ => rfl)))), S2.el ?_⟩
  rintro _ _ k ⟨ss, day, hl, hm, rfl, rfl, h⟩
  simp only [wRet, wOp]
  refine wLc_filter encSt (fun s => decide (s.1 ≤ day)) (fun s => optS s.2) ss (fun _ h => h) (by omega) (fun s _ kk kn h1 h2 => ⟨rfl, ?_⟩) ?_
  · show (match decide (s.1 ≤ day) with | true => kk (optS s.2) | false => kn)
    split
    · rename_i e; exact h1 e
    · rename_i e; exact h2 e
  · unfold placeOn at h
    rcases snoc_cases (ss.filter fun s => decide (s.1 ≤ day)) with e | ⟨l, s, e⟩
    · obtain ⟨s, h1, h2⟩ := hm
      have : s ∈ ss.filter fun s => decide (s.1 ≤ day) := List.mem_filter.mpr ⟨h1, decide_eq_true h2⟩
      rw [e] at this
      cases this
    · rw [e] at h ⊢
      rw [List.getLast?_concat] at h
      show (match atI ((l ++ [s]).map fun s => optS s.2) (-1) with | some d => k d | none => False)
      rw [List.map_append]
      rw [show ([s].map fun s : Int × Option Str => optS s.2) = [optS s.2] from rfl, atI_last]
      exact h
def useOn (us : Uses) (day : Int) : Int × Int := us.getD (min day ((us.length : Int) - 1)).toNat (0, 0)
def s_use_on : WF := S2 fun a b k => ∃ us day, us ≠ [] ∧ 0 ≤ day ∧ a = .da (encUs us) ∧ b = .da (.int day) ∧ k (encU (useOn us day))
theorem sc_use_on : FnScope ["uses", "day"] ["uses", "day"] (defScope (top 38)) := ⟨rfl, rfl, rfl, by decide +kernel, rfl, by decide +kernel, by decide +kernel⟩
theorem ok_use_on {P : Program} {w : World} {K : PySem.W.Frag} {mg : Str → Option Value} {base : Heap} (E : En K mg) : Ok P w K mg base 1 "use_on" ["uses", "day"] s_use_on := by
  have T := E.t
  refine mkOk E 25 d_use_on rfl rfl rfl rfl rfl fun fd F => ⟨FunD.okW F sc_use_on S2.len fun cdv A outer s H Er hr => ?_, F.bindsN fun _ _ _ _ _ _ us hl => match us, hl with | [_, _], _ => rfl⟩
  have nd := sc_use_on.nd
  refine ⟨_, _, (ssw_one (sw_ret (kix K (ew_var 0) (kB K (rr := rMin2K) (call_min2 rfl) lc_min2 T.min bb_min (aw_cons (ew_var 1) (aw_cons (ew_op op_sub lo_sub (kB K (rr := rLenK) call_len lc_len T.len bb_len (aw_cons (ew_var 0) aw_nil)) ew_int) aw_nil))) (fun _ _ => rfl)))), S2.el ?_⟩
  rintro _ _ k ⟨us, day, hl, hd, rfl, rfl, h⟩
  have hlen := List.length_pos_iff.mpr hl
  have hmin : (if ((us.length : Int) - 1) < day then ((us.length : Int) - 1) else day) = ((min day ((us.length : Int) - 1)).toNat : Nat) := by
    split <;> omega
  have hlt : (min day ((us.length : Int) - 1)).toNat < us.length := by omega
  have hg : us[(min day ((us.length : Int) - 1)).toNat]? = some (useOn us day) := by
    unfold useOn
    rw [List.getD_eq_getElem?_getD, List.getElem?_eq_getElem hlt]
    rfl
  show (match atI (us.map encU) (if ((us.map encU).length : Int) - 1 < day then ((us.map encU).length : Int) - 1 else day) with | some d => k d | none => False)
  rw [List.length_map, hmin, atI_map encU hg]
  exact h
/-- what stands of a site's part -/
def s_place_of : WF := S3 fun a b c k => ∃ S z ss day, OkS S ∧ (z, ss) ∈ S.ps ∧ 0 ≤ day ∧ a = .da (encS S) ∧ b = .da (.str z) ∧ c = .da (.int day) ∧ k (optS (placeOn ss day))
theorem OkSts.ini_on {ms : List (Str × Uses)} {ss : Stays} (h : OkSts ms ss) {day : Int} (hd : 0 ≤ day) : ∃ s ∈ ss, s.1 ≤ day := by
  obtain ⟨s, h1, h2⟩ := h.ini
  exact ⟨s, h1, by omega⟩
theorem sc_place_of : FnScope ["site", "part", "day", "stays"] ["site", "part", "day"] (defScope (top 39)) := ⟨rfl, rfl, rfl, by decide +kernel, rfl, by decide +kernel, by decide +kernel⟩
theorem ok_place_of {P : Program} {w : World} {K : PySem.W.Frag} {mg : Str → Option Value} {base : Heap} (E : En K mg) : Ok P w K mg base 4 "place_of" ["site", "part", "day"] s_place_of := by
  have T := E.t
  have G_stays_of := ok_stays_of (P := P) (w := w) (base := base) E
  have G_require_day := ok_require_day (P := P) (w := w) (base := base) E
  have G_place_on := ok_place_on (P := P) (w := w) (base := base) E
  refine mkOk E 26 d_place_of rfl rfl rfl rfl rfl fun fd F => ⟨FunD.okW F sc_place_of S3.len fun cdv A outer s H Er hr => ?_, F.bindsN fun _ _ _ _ _ _ us hl => match us, hl with | [_, _, _], _ => rfl⟩
  have nd := sc_place_of.nd
  refine ⟨_, _, (ssw_cons (sw_set 3 nd (kcall K G_stays_of (hr.mono (by omega)) (cw_cons (ew_var 0) (cw_cons (ew_var 1) cw_nil)))) (ssw_cons (sw_expr (kcall K G_require_day (hr.mono (by omega)) (cw_cons (ew_var 2) cw_nil))) (ssw_one (sw_ret (kcall K G_place_on (hr.mono (by omega)) (cw_cons (ew_var 3) (cw_cons (ew_var 2) cw_nil))))))), S3.el ?_⟩
  rintro _ _ _ k ⟨S, z, ss, day, hS, hm, hd, rfl, rfl, rfl, h⟩
  have o := (hS.psi _ hm).2
  exact ⟨S, z, ss, hS, hm, rfl, rfl, day, hd, rfl, ss, day, o.len, o.ini_on hd, rfl, rfl, h⟩
def s_use_of : WF := S3 fun a b c k => ∃ S z us day, OkS S ∧ (z, us) ∈ S.ms ∧ 0 ≤ day ∧ a = .da (encS S) ∧ b = .da (.str z) ∧ c = .da (.int day) ∧ k (encU (useOn us day))
theorem sc_use_of : FnScope ["site", "machine", "day", "uses"] ["site", "machine", "day"] (defScope (top 40)) := ⟨rfl, rfl, rfl, by decide +kernel, rfl, by decide +kernel, by decide +kernel⟩
theorem ok_use_of {P : Program} {w : World} {K : PySem.W.Frag} {mg : Str → Option Value} {base : Heap} (E : En K mg) : Ok P w K mg base 4 "use_of" ["site", "machine", "day"] s_use_of := by
  have T := E.t
  have G_uses_of := ok_uses_of (P := P) (w := w) (base := base) E
  have G_require_day := ok_require_day (P := P) (w := w) (base := base) E
  have G_use_on := ok_use_on (P := P) (w := w) (base := base) E
  refine mkOk E 27 d_use_of rfl rfl rfl rfl rfl fun fd F => ⟨FunD.okW F sc_use_of S3.len fun cdv A outer s H Er hr => ?_, F.bindsN fun _ _ _ _ _ _ us hl => match us, hl with | [_, _, _], _ => rfl⟩
  have nd := sc_use_of.nd
  refine ⟨_, _, (ssw_cons (sw_set 3 nd (kcall K G_uses_of (hr.mono (by omega)) (cw_cons (ew_var 0) (cw_cons (ew_var 1) cw_nil)))) (ssw_cons (sw_expr (kcall K G_require_day (hr.mono (by omega)) (cw_cons (ew_var 2) cw_nil))) (ssw_one (sw_ret (kcall K G_use_on (hr.mono (by omega)) (cw_cons (ew_var 3) (cw_cons (ew_var 2) cw_nil))))))), S3.el ?_⟩
  rintro _ _ _ k ⟨S, z, us, day, hS, hm, hd, rfl, rfl, rfl, h⟩
  exact ⟨S, z, us, hS, hm, rfl, rfl, day, hd, rfl, us, day, (hS.msi _ hm).2.1, hd, rfl, rfl, h⟩
end Wd
set_option maxRecDepth 100000
set_option maxHeartbeats 2000000
namespace Wd
open PySem PySem.Spec PyProof.Rows L2
/-! ### sums over days -/
def sumU (f : Int → Int) (a b : Int) : Int := ((List.range (b - a).toNat).map fun (i : Nat) => f (a + i)).sum
theorem sumU_nil {f : Int → Int} {a b : Int} (h : b ≤ a) : sumU f a b = 0 := by
  unfold sumU
  rw [show (b - a).toNat = 0 by omega]
  rfl
theorem sumU_succ {f : Int → Int} {a b : Int} (h : a ≤ b) : sumU f a (b + 1) = sumU f a b + f b := by
  unfold sumU
  rw [show (b + 1 - a).toNat = (b - a).toNat + 1 by omega, List.range_succ, List.map_append, List.sum_append]
  congr 1
  simp
  congr 1
  omega
theorem int_ind {P : Int → Prop} (a : Int) (h0 : P a) (hs : ∀ b, a ≤ b → P b → P (b + 1)) : ∀ b, a ≤ b → P b := by
  have : ∀ n : Nat, P (a + n) := by
    intro n
    induction n with
    | zero => simpa using h0
    | succ n ih =>
      have := hs (a + n) (by omega) ih
      rw [show a + ((n + 1 : Nat) : Int) = a + n + 1 by omega]
      exact this
  intro b hb
  have := this (b - a).toNat
  rw [show a + (((b - a).toNat : Nat) : Int) = b by omega] at this
  exact this
theorem sumU_split {f : Int → Int} {a m : Int} (h : a ≤ m) : ∀ b, m ≤ b → sumU f a b = sumU f a m + sumU f m b := by
  refine int_ind m ?_ fun b hb ih => ?_
  · rw [sumU_nil (Int.le_refl m)]; omega
  · rw [sumU_succ (by omega), sumU_succ hb, ih]; omega
theorem sumU_const {f : Int → Int} {m c : Int} (hc : ∀ d, m ≤ d → f d = c) : ∀ b, m ≤ b → sumU f m b = (b - m) * c := by
  refine int_ind m ?_ fun b hb ih => ?_
  · rw [sumU_nil (Int.le_refl m), Int.sub_self, Int.zero_mul]
  · rw [sumU_succ hb, ih, hc b hb, show b + 1 - m = (b - m) + 1 by omega, Int.add_mul, Int.one_mul]
theorem sumU_mono {f : Int → Int} {a b : Int} (hf : ∀ d, a ≤ d → 0 ≤ f d) (hb : a ≤ b) : ∀ c, b ≤ c → sumU f a b ≤ sumU f a c := by
  refine int_ind b (Int.le_refl _) fun c hc ih => ?_
  rw [sumU_succ (by omega)]
  have := hf c (by omega)
  omega
theorem sumU_le {f g : Int → Int} {a : Int} (h : ∀ d, a ≤ d → f d ≤ g d) : ∀ b, a ≤ b → sumU f a b ≤ sumU g a b := by
  refine int_ind a ?_ fun b hb ih => ?_
  · rw [sumU_nil (Int.le_refl _), sumU_nil (Int.le_refl _)]; exact Int.le_refl _
  · rw [sumU_succ hb, sumU_succ hb]
    have := h b hb
    omega
theorem sumU_later {f : Int → Int} {a a' b : Int} (hf : ∀ d, a ≤ d → 0 ≤ f d) (h : a ≤ a') (hb : a' ≤ b) : sumU f a' b ≤ sumU f a b := by
  rw [sumU_split h b hb]
  have := sumU_mono hf (Int.le_refl a) a' h
  rw [sumU_nil (Int.le_refl a)] at this
  omega
/-! ### the least day from a base on -/
def Least (P : Int → Prop) (b : Int) : Option Int → Prop
  | none => ∀ d, b ≤ d → ¬ P d
  | some d => b ≤ d ∧ P d ∧ ∀ e, b ≤ e → e < d → ¬ P e
theorem least_ex (P : Int → Prop) (b : Int) : ∃ r, Least P b r := by
  by_cases h : ∃ d, b ≤ d ∧ P d
  · have key : ∀ n : Nat, (∃ d, b ≤ d ∧ d < b + n ∧ P d) → ∃ r, Least P b r := by
      intro n
      induction n with
      | zero => rintro ⟨d, h1, h2, _⟩; omega
      | succ n ih =>
        rintro ⟨d, h1, h2, h3⟩
        by_cases hh : ∃ d, b ≤ d ∧ d < b + n ∧ P d
        · exact ih hh
        · refine ⟨some d, h1, h3, fun e he1 he2 hp => hh ⟨e, he1, by omega, hp⟩⟩
    obtain ⟨d, h1, h2⟩ := h
    exact key ((d - b).toNat + 1) ⟨d, h1, by omega, h2⟩
  · exact ⟨none, fun d hd hp => h ⟨d, hd, hp⟩⟩
theorem least_uniq {P : Int → Prop} {b : Int} : ∀ {r r' : Option Int}, Least P b r → Least P b r' → r = r'
  | none, none, _, _ => rfl
  | none, some d, h, h' => absurd h'.2.1 (h d h'.1)
  | some d, none, h, h' => absurd h.2.1 (h' d h.1)
  | some d, some e, h, h' => by
    rcases Int.lt_trichotomy d e with q | q | q
    · exact absurd h.2.1 (h'.2.2 d h.1 q)
    · rw [q]
    · exact absurd h'.2.1 (h.2.2 e h'.1 q)
noncomputable def leastOf (P : Int → Prop) (b : Int) : Option Int := Classical.choose (least_ex P b)
theorem leastOf_spec (P : Int → Prop) (b : Int) : Least P b (leastOf P b) := Classical.choose_spec (least_ex P b)
theorem leastOf_eq {P : Int → Prop} {b : Int} {r : Option Int} (h : Least P b r) : leastOf P b = r := least_uniq (leastOf_spec P b) h
theorem leastOf_iff {P Q : Int → Prop} {b : Int} (h : ∀ d, b ≤ d → (P d ↔ Q d)) : leastOf P b = leastOf Q b := by
  refine leastOf_eq ?_
  have q := leastOf_spec Q b
  cases e : leastOf Q b with
  | none => rw [e] at q; exact fun d hd hp => q d hd ((h d hd).mp hp)
  | some x => rw [e] at q; exact ⟨q.1, (h x q.1).mpr q.2.1, fun y h1 h2 hp => q.2.2 y h1 h2 ((h y h1).mp hp)⟩
def optI : Option Int → D
  | none => .non
  | some i => .int i
/-! ### the use of a part -/
def Site.uses (S : Site) (z : Str) : Uses := match S.ms.find? (fun m => decide (m.1 = z)) with
  | some m => m.2
  | none => []
def useAt (S : Site) (ss : Stays) (day : Int) : Int × Int := match placeOn ss day with
  | none => (0, 0)
  | some z => useOn (S.uses z) day
def cnt (S : Site) (ss : Stays) (a b : Int) : N3 := ⟨sumU (fun d => (useAt S ss d).1) a b, sumU (fun d => (useAt S ss d).2) a b, b - a⟩
theorem find_mem {β : Type} {z : Str} {b : β} : ∀ {l : List (Str × β)}, (l.map (·.1)).Nodup → (z, b) ∈ l → l.find? (fun m => decide (m.1 = z)) = some (z, b)
  | x :: l, hn, hm => by
    rw [List.map_cons] at hn
    by_cases e : x.1 = z
    · rcases List.mem_cons.mp hm with h | h
      · rw [List.find?_cons_of_pos (by simpa using e), h]
      · exact absurd (List.mem_map_of_mem (f := (·.1)) h) (by rw [← e]; exact (List.nodup_cons.mp hn).1)
    · rw [List.find?_cons_of_neg (by simpa using e)]
      rcases List.mem_cons.mp hm with h | h
      · exact absurd (by rw [← h]) e
      · exact find_mem (List.nodup_cons.mp hn).2 h
theorem uses_mem {S : Site} (hn : (S.ms.map (·.1)).Nodup) {z : Str} {us : Uses} (h : (z, us) ∈ S.ms) : S.uses z = us := by
  unfold Site.uses
  rw [find_mem hn h]
def steady (S : Site) (ss : Stays) : Int := match ss.getLast? with
  | none => 0
  | some s => match s.2 with
    | none => s.1
    | some z => max s.1 (((S.uses z).length : Int) - 1)
theorem placeOn_mem {ss : Stays} {day : Int} {z : Str} (h : placeOn ss day = some z) : ∃ s ∈ ss, s.2 = some z := by
  unfold placeOn at h
  cases e : (ss.filter fun s => decide (s.1 ≤ day)).getLast? with
  | none => rw [e] at h; cases h
  | some s =>
    rw [e] at h
    exact ⟨s, (List.mem_filter.mp (List.mem_of_getLast? e)).1, h⟩
theorem placeOn_last {ss : Stays} {s : Int × Option Str} {day : Int} (h : s.1 ≤ day) : placeOn (ss ++ [s]) day = s.2 := by
  unfold placeOn
  rw [List.filter_append, List.filter_cons_of_pos (by simpa using h), List.filter_nil, List.getLast?_concat]
theorem useOn_mem {us : Uses} (h : us ≠ []) {day : Int} (hd : 0 ≤ day) : useOn us day ∈ us := by
  have hlen := List.length_pos_iff.mpr h
  have hlt : (min day ((us.length : Int) - 1)).toNat < us.length := by omega
  unfold useOn
  rw [List.getD_eq_getElem?_getD, List.getElem?_eq_getElem hlt]
  exact List.getElem_mem hlt
theorem useAt_rng {S : Site} (hS : OkS S) {ss : Stays} (hs : OkSts S.ms ss) {day : Int} (hd : 0 ≤ day) : 0 ≤ (useAt S ss day).1 ∧ 0 ≤ (useAt S ss day).2 ∧ (useAt S ss day).1 ≤ 1000 ∧ (useAt S ss day).2 ≤ 1000 := by
  unfold useAt
  cases e : placeOn ss day with
  | none => exact ⟨Int.le_refl _, Int.le_refl _, by show (0 : Int) ≤ 1000; omega, by show (0 : Int) ≤ 1000; omega⟩
  | some z =>
    obtain ⟨s, h1, h2⟩ := placeOn_mem e
    obtain ⟨us, h3⟩ := hs.mem s h1 z h2
    show 0 ≤ (useOn (S.uses z) day).1 ∧ 0 ≤ (useOn (S.uses z) day).2 ∧ (useOn (S.uses z) day).1 ≤ 1000 ∧ (useOn (S.uses z) day).2 ≤ 1000
    rw [uses_mem hS.msn h3]
    have o := (hS.msi _ h3).2
    exact o.2.2 _ (useOn_mem o.1 hd)
theorem steady_rng {S : Site} (hS : OkS S) {ss : Stays} (hs : OkSts S.ms ss) : 0 ≤ steady S ss ∧ steady S ss ≤ 1000 := by
  unfold steady
  cases e : ss.getLast? with
  | none => exact ⟨Int.le_refl _, by show (0 : Int) ≤ 1000; omega⟩
  | some s =>
    have hm := List.mem_of_getLast? e
    have hr := hs.rng s hm
    show 0 ≤ (match s.2 with | none => s.1 | some z => max s.1 (((S.uses z).length : Int) - 1)) ∧ (match s.2 with | none => s.1 | some z => max s.1 (((S.uses z).length : Int) - 1)) ≤ 1000
    cases e2 : s.2 with
    | none => exact hr
    | some z =>
      obtain ⟨us, h3⟩ := hs.mem s hm z e2
      have o := (hS.msi _ h3).2
      have hu := uses_mem hS.msn h3
      have h10 : us.length ≤ 10 := o.2.1
      show 0 ≤ max s.1 (((S.uses z).length : Int) - 1) ∧ max s.1 (((S.uses z).length : Int) - 1) ≤ 1000
      rw [hu]
      omega
theorem useAt_steady {S : Site} (hS : OkS S) {ss : Stays} (hs : OkSts S.ms ss) {day : Int} (hd : steady S ss ≤ day) : useAt S ss day = useAt S ss (steady S ss) := by
  have h0 := (steady_rng hS hs).1
  rcases snoc_cases ss with e | ⟨l, s, e⟩
  · exact absurd e hs.ne
  subst e
  have hst : steady S (l ++ [s]) = match s.2 with | none => s.1 | some z => max s.1 (((S.uses z).length : Int) - 1) := by
    unfold steady
    rw [List.getLast?_concat]
  have h1 : s.1 ≤ steady S (l ++ [s]) := by
    rw [hst]
    cases s.2 with
    | none => exact Int.le_refl _
    | some z => show s.1 ≤ max s.1 (((S.uses z).length : Int) - 1); omega
  unfold useAt
  rw [placeOn_last h1, placeOn_last (Int.le_trans h1 hd)]
  cases e2 : s.2 with
  | none => rfl
  | some z =>
    show useOn (S.uses z) day = useOn (S.uses z) (steady S (l ++ [s]))
    have h2 : ((S.uses z).length : Int) - 1 ≤ steady S (l ++ [s]) := by
      rw [hst, e2]
      show ((S.uses z).length : Int) - 1 ≤ max s.1 (((S.uses z).length : Int) - 1)
      omega
    unfold useOn
    rw [show min day (((S.uses z).length : Int) - 1) = ((S.uses z).length : Int) - 1 by omega, show min (steady S (l ++ [s])) (((S.uses z).length : Int) - 1) = ((S.uses z).length : Int) - 1 by omega]
end Wd
set_option maxRecDepth 100000
set_option maxHeartbeats 2000000
namespace Wd
open PySem PySem.Spec PyProof.Rows L2
local macro_rules | `(tactic| walk_at "wd") => `(tactic| simp only [startW, Ar.sl, List.map_cons, List.map_nil, List.replicate, List.cons_append, List.nil_append, List.length_cons, List.length_nil, Nat.reduceAdd, Nat.reduceSub, List.getElem?_cons_zero, List.getElem?_cons_succ, List.set_cons_zero, List.set_cons_succ,
  wSeq, wNext, wRet, wAsg, wIfS, wBreak, wNever, wExp, wVar, wC, wOp, wUn, wCB, wNil, wCons, wTup, wLst, wKey, intsD, Option.map_some, wIf, wB, wNot, wAnd, wOr, wAndV, wOrV, wNotV, wIsi, wChain, wCall, wcNil, wcCons, wcFeed, gwName, gwNil, gwCons, gwTup, wIdxT, wIdxL, tupK, lstK, wSlT, wSlL, wRev, wStar, spliceD, wLenO, wFrz, wOwnL, wOwnD, wApp, wExt, wPop, wDPut, wDGet, keyD, wPar, wPar3, wParOD, wParDO, blD, intK, strD, woNone, woSome, wiL, wiT, wiS, wiR1, wiR2, wiEnumT, wiZipT, tyOf, kit_ii, kit_bi, kit_bb, kit_ib, kit_ss, kit_tt, kit_ts, kit_si,
  addI, subI, ltI, leI, gtI, geI, negI, isN, notN, isNon, ixD, lenD, min2D, max2D, intD, tupD, lstD, wYes, wipeW, Bool.not_true, Bool.not_false, true_and, and_true, Nat.reduceLeDiff, Nat.zero_le])
/-! ### counting -/
theorem dic_put (t : List (Str × D)) (p : Str) (v : D) (q : Str) : dicGet (dicPut t p v) q = if q = p then some v else dicGet t q := find_putG t p v q
theorem merge_out {q : Str} : ∀ (kvs acc : List (Str × D)), q ∉ kvs.map (·.1) → dicGet (dicMerge acc kvs) q = dicGet acc q
  | [], acc, _ => rfl
  | x :: kvs, acc, h => by
    rw [List.map_cons] at h
    show dicGet (dicMerge (dicPut acc x.1 x.2) kvs) q = _
    rw [merge_out kvs _ (fun hm => h (List.mem_cons_of_mem _ hm)), dic_put, if_neg (fun e => h (by rw [e]; exact List.mem_cons_self))]
theorem merge_in {q : Str} {v : D} : ∀ (kvs acc : List (Str × D)), (kvs.map (·.1)).Nodup → (q, v) ∈ kvs → dicGet (dicMerge acc kvs) q = some v
  | x :: kvs, acc, hn, hm => by
    rw [List.map_cons] at hn
    show dicGet (dicMerge (dicPut acc x.1 x.2) kvs) q = _
    rcases List.mem_cons.mp hm with e | e
    · subst e
      rw [merge_out kvs _ (List.nodup_cons.mp hn).1, dic_put, if_pos rfl]
    · exact merge_in kvs _ (List.nodup_cons.mp hn).2 e
theorem pairs_map {α : Type} (p : α → Str) (f : α → D) : ∀ l : List α, pairsD (l.map fun x => .tup [.str (p x), f x]) = some (l.map fun x => (p x, f x))
  | [] => rfl
  | x :: l => by
    show (pairsD (l.map fun x => .tup [.str (p x), f x])).map _ = _
    rw [pairs_map p f l]
    rfl
def dicM (S : Site) : D := .dic (dicMerge [] (S.ms.map fun m => (m.1, encUs m.2)))
theorem dict_ms (S : Site) : dictD [.tup (S.ms.map encM)] = some (dicM S) := by
  show (pairsD (S.ms.map fun m => .tup [.str m.1, encUs m.2])).map _ = _
  rw [pairs_map (fun m : Str × Uses => m.1) (fun m => encUs m.2)]
  rfl
theorem dget_ms {S : Site} (hn : (S.ms.map (·.1)).Nodup) {z : Str} {us : Uses} (h : (z, us) ∈ S.ms) : dgetD (dicM S) (.str z) = some (encUs us) :=
  merge_in _ _ (by rw [List.map_map]; exact hn) (List.mem_map_of_mem (f := fun m : Str × Uses => (m.1, encUs m.2)) h)
def s_part_use : WF := S3 fun a b c k => ∃ S ss day, OkS S ∧ OkSts S.ms ss ∧ 0 ≤ day ∧ a = .da (encS S) ∧ b = .da (encSts ss) ∧ c = .da (.int day) ∧ k (encU (useAt S ss day))
theorem sc_part_use : FnScope ["site", "stays", "day", "place"] ["site", "stays", "day"] (defScope (top 43)) := ⟨rfl, rfl, rfl, by decide +kernel, rfl, by decide +kernel, by decide +kernel⟩
theorem ok_part_use {P : Program} {w : World} {K : PySem.W.Frag} {mg : Str → Option Value} {base : Heap} (E : En K mg) : Ok P w K mg base 2 "part_use" ["site", "stays", "day"] s_part_use := by
  have T := E.t
  have G_place_on := ok_place_on (P := P) (w := w) (base := base) E
  have G_use_on := ok_use_on (P := P) (w := w) (base := base) E
  refine mkOk E 28 d_part_use rfl rfl rfl rfl rfl fun fd F => ⟨FunD.okW F sc_part_use S3.len fun cdv A outer s H Er hr => ?_, F.bindsN fun _ _ _ _ _ _ us hl => match us, hl with | [_, _, _], _ => rfl⟩
  have nd := sc_part_use.nd
  refine ⟨_, _, (ssw_cons (sw_set 3 nd (kcall K G_place_on (hr.mono (by omega)) (cw_cons (ew_var 1) (cw_cons (ew_var 2) cw_nil)))) (ssw_cons (sw_if (tw_cmp op_isN lo_isN (ew_var 3) ew_non (nomark _)) (ssw_one (sw_ret (kktup K T.NO_USE))) ssw_nil) (ssw_one (sw_ret (kcall K G_use_on (hr.mono (by omega)) (cw_cons (ew_dget (hu_of hr) (kT K (rr := rDict2) (call_dict2 rfl) lc_dict T.dict bb_dict (aw_cons (kix K (ew_var 0) ew_int (fun _ _ => rfl)) aw_nil)) (ew_var 3)) (cw_cons (ew_var 2) cw_nil))))))), S3.el ?_⟩
  rintro _ _ _ k ⟨S, ss, day, hS, hs, hd, rfl, rfl, rfl, h⟩
  refine ⟨ss, day, hs.len, hs.ini_on hd, rfl, rfl, ?_⟩
  unfold useAt at h
  cases e : placeOn ss day with
  | none =>
    rw [e] at h
    exact h
  | some z =>
    rw [e] at h
    obtain ⟨s, h1, h2⟩ := placeOn_mem e
    obtain ⟨us, h3⟩ := hs.mem s h1 z h2
    have o := (hS.msi _ h3).2
    have h : k (encU (useOn (S.uses z) day)) := h
    rw [show S.uses z = us from uses_mem hS.msn h3] at h
    show (match dictD [.tup (S.ms.map encM)] with | some d => (match dgetD d (.str z) with | some d => _ | none => False) | none => False)
    rw [dict_ms]
    show (match dgetD (dicM S) (.str z) with | some d => _ | none => False)
    rw [dget_ms hS.msn h3]
    exact ⟨us, day, o.1, hd, rfl, rfl, h⟩
def s_steady_day : WF := S2 fun a b k => ∃ S ss, OkS S ∧ OkSts S.ms ss ∧ a = .da (encS S) ∧ b = .da (encSts ss) ∧ k (.int (steady S ss))
theorem sc_steady_day : FnScope ["site", "stays", "begin", "place"] ["site", "stays"] (defScope (top 44)) := ⟨rfl, rfl, rfl, by decide +kernel, rfl, by decide +kernel, by decide +kernel⟩
theorem ok_steady_day {P : Program} {w : World} {K : PySem.W.Frag} {mg : Str → Option Value} {base : Heap} (E : En K mg) : Ok P w K mg base 2 "steady_day" ["site", "stays"] s_steady_day := by
  have T := E.t
  refine mkOk E 29 d_steady_day rfl rfl rfl rfl rfl fun fd F => ⟨FunD.okW F sc_steady_day S2.len fun cdv A outer s H Er hr => ?_, F.bindsN fun _ _ _ _ _ _ us hl => match us, hl with | [_, _], _ => rfl⟩
  have nd := sc_steady_day.nd
  refine ⟨_, _, (ssw_cons (sasg (kix K (ew_var 1) (ew_un un_neg lo_neg ew_int) (fun _ _ => rfl)) (ktup K (n := 2) (gsc (gw_name 2 nd) (gsc (gw_name 3 nd) gsw_nil)))) (ssw_one (sw_ret (ew_if (tw_cmp op_isN lo_isN (ew_var 3) ew_non (nomark _)) (ew_var 2) (kB K (rr := rMax2K) (call_max2 rfl) lc_max2 T.max bb_max (aw_cons (ew_var 2) (aw_cons (ew_op op_sub lo_sub (kB K (rr := rLenK) call_len lc_len T.len bb_len (aw_cons (ew_dget (hu_of hr) (kT K (rr := rDict2) (call_dict2 rfl) lc_dict T.dict bb_dict (aw_cons (kix K (ew_var 0) ew_int (fun _ _ => rfl)) aw_nil)) (ew_var 3)) aw_nil)) ew_int) aw_nil))))))), S2.el ?_⟩
  rintro _ _ k ⟨S, ss, hS, hs, rfl, rfl, h⟩
  rcases snoc_cases ss with e | ⟨l, s, e⟩
  · exact absurd e hs.ne
  subst e
  unfold steady at h
  rw [List.getLast?_concat] at h
  show (match atI ((l ++ [s]).map encSt) (-1) with | some d => _ | none => False)
  rw [List.map_append]
  rw [show ([s].map encSt) = [encSt s] from rfl, atI_last]
  obtain ⟨b, p⟩ := s
  cases p with
  | none => exact ⟨rfl, h⟩
  | some z =>
    obtain ⟨us, h3⟩ := hs.mem (b, some z) (List.mem_append_right _ List.mem_cons_self) z rfl
    refine ⟨rfl, ?_⟩
    show (match dictD [.tup (S.ms.map encM)] with | some d => (match dgetD d (.str z) with | some d => _ | none => False) | none => False)
    rw [dict_ms]
    show (match dgetD (dicM S) (.str z) with | some d => _ | none => False)
    rw [dget_ms hS.msn h3]
    have hu : S.uses z = us := uses_mem hS.msn h3
    have h : k (.int (max b (((S.uses z).length : Int) - 1))) := h
    rw [hu] at h
    show k (.int (if ((us.map encU).length : Int) - 1 > b then ((us.map encU).length : Int) - 1 else b))
    rw [List.length_map]
    rw [show (if (us.length : Int) - 1 > b then (us.length : Int) - 1 else b) = max b ((us.length : Int) - 1) by split <;> omega]
    exact h
theorem range_get {n j : Nat} {x : Nat} (h : (List.range n)[j]? = some x) : x = j ∧ j < n := by
  have hl : j < n := by
    rcases Nat.lt_or_ge j n with q | q
    · exact q
    · rw [List.getElem?_eq_none (by rw [List.length_range]; exact q)] at h; cases h
  rw [List.getElem?_eq_getElem (by rw [List.length_range]; exact hl)] at h
  exact ⟨by have := Option.some.inj h; simp at this; omega, hl⟩
theorem fit62 {a : Int} (h : -1000000 ≤ a ∧ a ≤ 1000000) : -2 ^ 62 ≤ a ∧ a < 2 ^ 62 := by omega
def s_plain_counts : WF := S4 fun a b c e k => ∃ S ss x y, OkS S ∧ OkSts S.ms ss ∧ 0 ≤ x ∧ x ≤ y ∧ y ≤ 100000 ∧ a = .da (encS S) ∧ b = .da (encSts ss) ∧ c = .da (.int x) ∧ e = .da (.int y) ∧ k (.tup (cnt S ss x y).ds)
/-- sums as the code makes them -/
theorem sum_code {S : Site} (hS : OkS S) {ss : Stays} (hs : OkSts S.ms ss) {x y m : Int} (h0 : 0 ≤ x) (hx : x ≤ m) (hy : m ≤ y) (hm : m = y ∨ steady S ss ≤ m) (p : Int × Int → Int) :
    sumU (fun d => p (useAt S ss d)) x m + (y - m) * p (useAt S ss m) = sumU (fun d => p (useAt S ss d)) x y := by
  rw [sumU_split (f := fun d => p (useAt S ss d)) hx y hy]
  congr 1
  rcases hm with e | e
  · subst e
    rw [sumU_nil (Int.le_refl _), Int.sub_self, Int.zero_mul]
  · rw [sumU_const (c := p (useAt S ss m)) (fun d hd => by rw [useAt_steady hS hs (Int.le_trans e hd), useAt_steady hS hs e]) y hy]
theorem sc_plain_counts : FnScope ["site", "stays", "first", "last", "steady", "uses", "day", "hours", "cycles", "more", "use"] ["site", "stays", "first", "last"] (defScope (top 45)) := ⟨rfl, rfl, rfl, by decide +kernel, rfl, by decide +kernel, by decide +kernel⟩
theorem ok_plain_counts {P : Program} {w : World} {K : PySem.W.Frag} {mg : Str → Option Value} {base : Heap} (E : En K mg) : Ok P w K mg base 3 "plain_counts" ["site", "stays", "first", "last"] s_plain_counts := by
  have T := E.t
  have G_steady_day := ok_steady_day (P := P) (w := w) (base := base) E
  have G_part_use := ok_part_use (P := P) (w := w) (base := base) E
  refine mkOk E 30 d_plain_counts rfl rfl rfl rfl rfl fun fd F => ⟨FunD.okW F sc_plain_counts S4.len fun cdv A outer s H Er hr => ?_, F.bindsN fun _ _ _ _ _ _ us hl => match us, hl with | [_, _, _, _], _ => rfl⟩
  have nd := sc_plain_counts.nd
  refine ⟨_, _, (ssw_cons (sw_set 4 nd (kB K (rr := rMin2K) (call_min2 rfl) lc_min2 T.min bb_min (aw_cons (ew_var 3) (aw_cons (kB K (rr := rMax2K) (call_max2 rfl) lc_max2 T.max bb_max (aw_cons (ew_var 2) (aw_cons (kcall K G_steady_day (hr.mono (by omega)) (cw_cons (ew_var 0) (cw_cons (ew_var 1) cw_nil))) aw_nil))) aw_nil)))) (ssw_cons (ssetLc (i := 5) [("day", 6)] nd (iw_range2 (aw_cons (ew_var 2) (aw_cons (ew_var 4) aw_nil)) T.range) (by show blkC ["site", "stays", "first", "last", "steady", "uses", "day", "hours", "cycles", "more", "use"] (defScope (top 45)) _ _ = true; decide +kernel) (fun _ _ _ _ _ => (gw_name 6 nd)) (fun _ _ _ _ _ => qw_nil) (fun _ _ _ _ _ => (kcall K G_part_use (hr.mono (by omega)) (cw_cons (ew_var 0) (cw_cons (ew_var 1) (cw_cons (ew_var 6) cw_nil)))))) (ssw_cons (sasg (kcall K G_part_use (hr.mono (by omega)) (cw_cons (ew_var 0) (cw_cons (ew_var 1) (cw_cons (ew_var 4) cw_nil)))) (ktup K (n := 2) (gsc (gw_name 7 nd) (gsc (gw_name 8 nd) gsw_nil)))) (ssw_cons (sw_set 9 nd (ew_op op_sub lo_sub (ew_var 3) (ew_var 4))) (ssw_one (sw_ret (ew_tup (aw_cons (ew_op op_add lo_add (kB K (rr := rSum) (cr_sum rfl) lc_sum T.sum bb_sum (aw_cons (ew_lc [("use", 10)] nd (kiL K (ew_var 5)) (by show blkC ["site", "stays", "first", "last", "steady", "uses", "day", "hours", "cycles", "more", "use"] (defScope (top 45)) _ _ = true; decide +kernel) (fun _ _ _ _ _ => (gw_name 10 nd)) (fun _ _ _ _ _ => qw_nil) (fun _ _ _ _ _ => (kix K (ew_var 10) ew_int (fun _ _ => rfl)))) aw_nil)) (ew_op op_mul lo_mul (ew_var 9) (ew_var 7))) (aw_cons (ew_op op_add lo_add (kB K (rr := rSum) (cr_sum rfl) lc_sum T.sum bb_sum (aw_cons (ew_lc [("use", 10)] nd (kiL K (ew_var 5)) (by show blkC ["site", "stays", "first", "last", "steady", "uses", "day", "hours", "cycles", "more", "use"] (defScope (top 45)) _ _ = true; decide +kernel) (fun _ _ _ _ _ => (gw_name 10 nd)) (fun _ _ _ _ _ => qw_nil) (fun _ _ _ _ _ => (kix K (ew_var 10) ew_int (fun _ _ => rfl)))) aw_nil)) (ew_op op_mul lo_mul (ew_var 9) (ew_var 8))) (aw_cons (ew_op op_sub lo_sub (ew_var 3) (ew_var 2)) aw_nil)))))))))), S4.el ?_⟩
  rintro _ _ _ _ k ⟨S, ss, x, y, hS, hs, h0, hxy, hy, rfl, rfl, rfl, rfl, h⟩
  have hr := steady_rng hS hs
  refine ⟨S, ss, hS, hs, rfl, rfl, ?_⟩
  walk_at "wd"
  generalize hm : (if (if steady S ss > x then steady S ss else x) < y then if steady S ss > x then steady S ss else x else y) = m
  have hxm : x ≤ m := by rw [← hm]; split <;> split <;> omega
  have hmy : m ≤ y := by rw [← hm]; split <;> split <;> omega
  have hst : m = y ∨ steady S ss ≤ m := by rw [← hm]; split <;> split <;> omega
  have hml : m - x ≤ 1000 := by rw [← hm]; split <;> split <;> omega
  refine wLc_map (fun i : Nat => .int (x + i)) (fun i : Nat => encU (useAt S ss (x + i))) (List.range (m - x).toNat) (fun K' h => ⟨⟨(fit62 (by omega)).1, (fit62 (by omega)).2, (fit62 (by omega)).1, (fit62 (by omega)).2⟩, ?_⟩) (by rw [List.length_range]; omega) (fun i hi kk hk => ?_) ?_
  · rw [ilist_map]; exact h
  · exact ⟨S, ss, x + i, hS, hs, by omega, rfl, rfl, rfl, hk⟩
  refine ⟨S, ss, m, hS, hs, by omega, rfl, rfl, rfl, rfl, ?_⟩
  have fin : ∀ (p : Int × Int → Int), ((List.range (m - x).toNat).map fun i : Nat => p (useAt S ss (x + i))).sum = sumU (fun d => p (useAt S ss d)) x m := fun p => rfl
  refine wLc_map (fun i : Nat => encU (useAt S ss (x + i))) (fun i : Nat => .int (useAt S ss (x + i)).1) (List.range (m - x).toNat) (fun K' h => h) (by rw [List.length_range]; omega) (fun i hi kk hk => hk) ?_
  rw [sumD_map, fin (·.1)]
  have hmul : ∀ c : Int, mulI (.int (y - m)) (.int c) = some (.int ((y - m) * c)) := fun c => by
    show (if -2 ^ 64 < y - m ∧ y - m < 2 ^ 64 then some (D.int ((y - m) * c)) else none) = _
    rw [if_pos (by omega)]
  rw [hmul]
  refine wLc_map (fun i : Nat => encU (useAt S ss (x + i))) (fun i : Nat => .int (useAt S ss (x + i)).2) (List.range (m - x).toNat) (fun K' h => h) (by rw [List.length_range]; omega) (fun i hi kk hk => hk) ?_
  rw [sumD_map, fin (·.2), hmul]
  have e1 := sum_code hS hs h0 hxm hmy hst (·.1)
  have e2 := sum_code hS hs h0 hxm hmy hst (·.2)
  show k (.tup [.int (sumU (fun d => (useAt S ss d).1) x m + (y - m) * (useAt S ss m).1), .int (sumU (fun d => (useAt S ss d).2) x m + (y - m) * (useAt S ss m).2), .int (y - x)])
  rw [e1, e2]
  exact h
def s_counts_between : WF := S4 fun a b c e k => ∃ S z ss x y, OkS S ∧ (z, ss) ∈ S.ps ∧ 0 ≤ x ∧ x ≤ y ∧ y ≤ 100000 ∧ a = .da (encS S) ∧ b = .da (.str z) ∧ c = .da (.int x) ∧ e = .da (.int y) ∧ k (.tup (cnt S ss x y).ds)
theorem sc_counts_between : FnScope ["site", "part", "first", "last", "stays"] ["site", "part", "first", "last"] (defScope (top 46)) := ⟨rfl, rfl, rfl, by decide +kernel, rfl, by decide +kernel, by decide +kernel⟩
theorem ok_counts_between {P : Program} {w : World} {K : PySem.W.Frag} {mg : Str → Option Value} {base : Heap} (E : En K mg) : Ok P w K mg base 4 "counts_between" ["site", "part", "first", "last"] s_counts_between := by
  have T := E.t
  have G_stays_of := ok_stays_of (P := P) (w := w) (base := base) E
  have G_require_usable := ok_require_usable (P := P) (w := w) (base := base) E
  have G_is_number := ok_is_number (P := P) (w := w) (base := base) E
  have G_plain_counts := ok_plain_counts (P := P) (w := w) (base := base) E
  refine mkOk E 31 d_counts_between rfl rfl rfl rfl rfl fun fd F => ⟨FunD.okW F sc_counts_between S4.len fun cdv A outer s H Er hr => ?_, F.bindsN fun _ _ _ _ _ _ us hl => match us, hl with | [_, _, _, _], _ => rfl⟩
  have nd := sc_counts_between.nd
  refine ⟨_, _, (ssw_cons (sw_set 4 nd (kcall K G_stays_of (hr.mono (by omega)) (cw_cons (ew_var 0) (cw_cons (ew_var 1) cw_nil)))) (ssw_cons (sw_expr (kcall K G_require_usable (hr.mono (by omega)) (cw_cons (kcall K G_is_number (hr.mono (by omega)) (cw_cons (ew_var 2) cw_nil)) (cw_cons ew_str (cw_cons (ew_un un_neg lo_neg ew_int) cw_nil))))) (ssw_cons (sw_expr (kcall K G_require_usable (hr.mono (by omega)) (cw_cons (ew_and (kcall K G_is_number (hr.mono (by omega)) (cw_cons (ew_var 3) cw_nil)) (ew_one (ew_cmp op_ge lo_ge (ew_var 3) (ew_var 2) (nomark _)))) (cw_cons ew_str (cw_cons (ew_un un_neg lo_neg ew_int) cw_nil))))) (ssw_one (sw_ret (kcall K G_plain_counts (hr.mono (by omega)) (cw_cons (ew_var 0) (cw_cons (ew_var 4) (cw_cons (ew_var 2) (cw_cons (ew_var 3) cw_nil)))))))))), S4.el ?_⟩
  rintro _ _ _ _ k ⟨S, z, ss, x, y, hS, hm, h0, hxy, hy, rfl, rfl, rfl, rfl, h⟩
  have h0y : 0 ≤ y := by omega
  refine ⟨S, z, ss, hS, hm, rfl, rfl, x, rfl, by rw [decide_eq_true h0], ⟨_, rfl⟩, ⟨_, rfl⟩, y, rfl, ?_⟩
  rw [decide_eq_true h0y]
  refine ⟨by rw [show (D.bl (decide (y ≥ x))) = .bl true by rw [decide_eq_true hxy]], ⟨_, rfl⟩, ⟨_, rfl⟩, ?_⟩
  exact ⟨S, ss, x, y, hS, (hS.psi _ hm).2, h0, hxy, hy, rfl, rfl, rfl, rfl, h⟩
def s_plain_passing : WF := S5 fun a b c e f k => ∃ S ss w n x, OkS S ∧ OkSts S.ms ss ∧ 0 ≤ x ∧ x ≤ 100000 ∧ n ≤ 100000 ∧ -100000 ≤ n ∧ a = .da (encS S) ∧ b = .da (encSts ss) ∧ c = .da (.str (Word.s w)) ∧ e = .da (.int n) ∧ f = .da (.int x) ∧
  k (optI (leastOf (fun d => (cnt S ss x d).get w > n) x))
theorem pp_end {f : Int → Int} {x M n : Int} (hf : ∀ d, x ≤ d → 0 ≤ f d) (hxM : x ≤ M) (hc : ∀ d, M ≤ d → f d = f M) (hle : sumU f x M ≤ n) :
    Least (fun d => sumU f x d > n) x (if f M = 0 then none else some (M + (n - sumU f x M) / f M + 1)) := by
  have hs : ∀ d, M ≤ d → sumU f x d = sumU f x M + (d - M) * f M := fun d hd => by rw [sumU_split hxM d hd, sumU_const hc d hd]
  have hu := hf M hxM
  by_cases hz : f M = 0
  · rw [if_pos hz]
    intro d hd hp
    have hp : sumU f x d > n := hp
    rcases (by omega : d < M ∨ M ≤ d) with q | q
    · have := sumU_mono hf hd M (by omega); omega
    · rw [hs d q, hz, Int.mul_zero] at hp; omega
  · rw [if_neg hz]
    have hup : 0 < f M := by omega
    have hq : 0 ≤ (n - sumU f x M) / f M := Int.ediv_nonneg (by omega) (by omega)
    refine ⟨by omega, ?_, fun e h1 h2 hp => ?_⟩
    · show sumU f x (M + (n - sumU f x M) / f M + 1) > n
      rw [hs _ (by omega), show M + (n - sumU f x M) / f M + 1 - M = (n - sumU f x M) / f M + 1 by omega]
      have := Int.lt_ediv_add_one_mul_self (n - sumU f x M) hup
      omega
    · have hp : sumU f x e > n := hp
      rcases (by omega : e < M ∨ M ≤ e) with q | q
      · have := sumU_mono hf h1 M (by omega); omega
      · rw [hs e q] at hp
        have h3 : (e - M) * f M ≤ (n - sumU f x M) / f M * f M := Int.mul_le_mul_of_nonneg_right (by omega) hu
        have h4 := Int.ediv_mul_le (n - sumU f x M) hz
        omega
theorem sc_plain_passing : FnScope ["site", "stays", "word", "most", "base", "k", "total", "steady", "day", "use"] ["site", "stays", "word", "most", "base"] (defScope (top 47)) := ⟨rfl, rfl, rfl, by decide +kernel, rfl, by decide +kernel, by decide +kernel⟩
theorem ok_plain_passing {P : Program} {w : World} {K : PySem.W.Frag} {mg : Str → Option Value} {base : Heap} (E : En K mg) : Ok P w K mg base 3 "plain_passing" ["site", "stays", "word", "most", "base"] s_plain_passing := by
  have T := E.t
  have G_steady_day := ok_steady_day (P := P) (w := w) (base := base) E
  have G_part_use := ok_part_use (P := P) (w := w) (base := base) E
  refine mkOk E 32 d_plain_passing rfl rfl rfl rfl rfl fun fd F => ⟨FunD.okW F sc_plain_passing S5.len fun cdv A outer s H Er hr => ?_, F.bindsN fun _ _ _ _ _ _ us hl => match us, hl with | [_, _, _, _, _], _ => rfl⟩
  have nd := sc_plain_passing.nd
  refine ⟨_, _, (ssw_cons (sw_if (tw_cmp op_lt lo_lt (ew_var 3) ew_int (nomark _)) (ssw_one (sw_ret (ew_var 4))) ssw_nil) (ssw_cons (sw_if (tkeq K hr.units (ew_var 2) ew_str) (ssw_one (sw_ret (ew_op op_add lo_add (ew_op op_add lo_add (ew_var 4) (ew_var 3)) ew_int))) ssw_nil) (ssw_cons (sw_set 5 nd (ktidx K (kktup K T.COUNT_WORDS) (ew_var 2))) (ssw_cons (sw_set 6 nd ew_int) (ssw_cons (sw_set 7 nd (kB K (rr := rMax2K) (call_max2 rfl) lc_max2 T.max bb_max (aw_cons (ew_var 4) (aw_cons (kcall K G_steady_day (hr.mono (by omega)) (cw_cons (ew_var 0) (cw_cons (ew_var 1) cw_nil))) aw_nil)))) (ssw_cons (sw_for PassesOwn.never (iw_range2 (aw_cons (ew_var 4) (aw_cons (ew_var 7) aw_nil)) T.range) (gw_name 8 nd) (ssw_cons (sw_set 6 nd (ew_op op_add lo_add (ew_var 6) (kix K (kcall K G_part_use (hr.mono (by omega)) (cw_cons (ew_var 0) (cw_cons (ew_var 1) (cw_cons (ew_var 8) cw_nil)))) (ew_var 5) (fun _ _ => rfl)))) (ssw_one (sw_if (tw_cmp op_gt lo_gt (ew_var 6) (ew_var 3) (nomark _)) (ssw_one (sw_ret (ew_op op_add lo_add (ew_var 8) ew_int))) ssw_nil)))) (ssw_cons (sw_set 9 nd (kix K (kcall K G_part_use (hr.mono (by omega)) (cw_cons (ew_var 0) (cw_cons (ew_var 1) (cw_cons (ew_var 7) cw_nil)))) (ew_var 5) (fun _ _ => rfl))) (ssw_one (sw_ret (ew_if (tkeq K hr.units (ew_var 9) ew_int) ew_non (ew_op op_add lo_add (ew_op op_add lo_add (ew_var 7) (ew_op op_fdiv lo_div (ew_op op_sub lo_sub (ew_var 3) (ew_var 6)) (ew_var 9))) ew_int))))))))))), S5.el ?_⟩
  rintro _ _ _ _ _ k ⟨S, ss, w, n, x, hS, hs, h0, hx, hn, hn0, rfl, rfl, rfl, rfl, rfl, h⟩
  have hr := steady_rng hS hs
  cases w with
  | hours =>
    have h : k (optI (leastOf (fun d => sumU (fun d => (useAt S ss d).1) x d > n) x)) := h
    walk_at "wd"
    by_cases hneg : n < 0
    · rw [decide_eq_true hneg]
      rw [leastOf_eq (r := some x) ⟨Int.le_refl _, by show sumU _ x x > n; rw [sumU_nil (Int.le_refl _)]; omega, fun e h1 h2 => by omega⟩] at h
      exact h
    rw [decide_eq_false hneg]
    refine ⟨S, ss, hS, hs, rfl, rfl, ?_⟩
    have hf : ∀ d, x ≤ d → 0 ≤ (useAt S ss d).1 := fun d hd => (useAt_rng hS hs (by omega)).1
    dsimp only
    generalize hM : (if steady S ss > x then steady S ss else x) = M
    have hxM : x ≤ M := by rw [← hM]; split <;> omega
    have hsM : steady S ss ≤ M := by rw [← hM]; split <;> omega
    have hMl : M - x ≤ 1000 := by rw [← hM]; split <;> omega
    have hcM : ∀ d, M ≤ d → (useAt S ss d).1 = (useAt S ss M).1 := fun d hd => by rw [useAt_steady hS hs (Int.le_trans hsM hd), useAt_steady hS hs hsM]
    refine wFor_inv (fun i : Nat => .int (x + i)) (List.range (M - x).toNat) (fun j ρ => ∃ s8 s9, ρ = [.da (encS S), .da (encSts ss), .da (.str "hours"), .da (.int n), .da (.int x), .da (.int 0), .da (.int (sumU (fun d => (useAt S ss d).1) x (x + j))), .da (.int M), s8, s9] ∧ sumU (fun d => (useAt S ss d).1) x (x + j) ≤ n) (fun K' h => ⟨⟨(fit62 (by omega)).1, (fit62 (by omega)).2, (fit62 (by omega)).1, (fit62 (by omega)).2⟩, ?_⟩) ⟨_, _, by rw [sumU_nil (by omega)]; rfl, by rw [sumU_nil (by omega)]; omega⟩ ?_ ?_
    · rw [ilist_map]; exact h
    · rintro j i ρ nxt hj ⟨s8, s9, rfl, hle⟩ hn
      obtain ⟨rfl, hjl⟩ := range_get hj
      refine ⟨S, ss, x + i, hS, hs, by omega, rfl, rfl, rfl, ?_⟩
      have es : sumU (fun d => (useAt S ss d).1) x (x + ((i + 1 : Nat) : Int)) = sumU (fun d => (useAt S ss d).1) x (x + i) + (useAt S ss (x + i)).1 := by
        rw [show x + ((i + 1 : Nat) : Int) = x + i + 1 by omega, sumU_succ (by omega)]
      show (match decide (n < sumU (fun d => (useAt S ss d).1) x (x + i) + (useAt S ss (x + i)).1) with | true => k (.int (x + i + 1)) | false => nxt [.da (encS S), .da (encSts ss), .da (.str "hours"), .da (.int n), .da (.int x), .da (.int 0), .da (.int (sumU (fun d => (useAt S ss d).1) x (x + i) + (useAt S ss (x + i)).1)), .da (.int M), .da (.int (x + i)), s9])
      by_cases hgt : n < sumU (fun d => (useAt S ss d).1) x (x + i) + (useAt S ss (x + i)).1
      · rw [decide_eq_true hgt]
        rw [leastOf_eq (r := some (x + i + 1)) ⟨by omega, by show n < sumU _ x (x + i + 1); rw [sumU_succ (by omega)]; exact hgt, fun e h1 h2 hp => by
          have : sumU (fun d => (useAt S ss d).1) x e ≤ sumU (fun d => (useAt S ss d).1) x (x + i) := sumU_mono hf h1 _ (by omega)
          have hp : n < sumU (fun d => (useAt S ss d).1) x e := hp
          omega⟩] at h
        exact h
      · rw [decide_eq_false hgt]
        refine hn _ ⟨_, _, by rw [es], by rw [es]; omega⟩
    · rintro ρ ⟨s8, s9, rfl, hle⟩
      rw [List.length_range] at hle ⊢
      have eM : x + (((M - x).toNat : Nat) : Int) = M := by omega
      rw [eM] at hle ⊢
      refine ⟨S, ss, M, hS, hs, by omega, rfl, rfl, rfl, ?_⟩
      have q := pp_end hf hxM hcM hle
      rw [leastOf_eq q] at h
      have hu := hf M hxM
      have hu2 := (useAt_rng hS hs (day := M) (by omega)).2.2.1
      show (match decide ((useAt S ss M).1 = 0) with | true => k .non | false => (match divI (.int (n - sumU (fun d => (useAt S ss d).1) x M)) (.int (useAt S ss M).1) with | some d => _ | none => False))
      by_cases hz : (useAt S ss M).1 = 0
      · rw [decide_eq_true hz]
        rw [if_pos hz] at h
        exact h
      · rw [decide_eq_false hz]
        rw [if_neg hz] at h
        show (match (if 0 < (useAt S ss M).1 ∧ (useAt S ss M).1 < 1073741824 then some (D.int ((n - sumU (fun d => (useAt S ss d).1) x M) / (useAt S ss M).1)) else none) with | some d => _ | none => False)
        rw [if_pos (by omega)]
        exact h
  | cycles =>
    have h : k (optI (leastOf (fun d => sumU (fun d => (useAt S ss d).2) x d > n) x)) := h
    walk_at "wd"
    by_cases hneg : n < 0
    · rw [decide_eq_true hneg]
      rw [leastOf_eq (r := some x) ⟨Int.le_refl _, by show sumU _ x x > n; rw [sumU_nil (Int.le_refl _)]; omega, fun e h1 h2 => by omega⟩] at h
      exact h
    rw [decide_eq_false hneg]
    refine ⟨S, ss, hS, hs, rfl, rfl, ?_⟩
    have hf : ∀ d, x ≤ d → 0 ≤ (useAt S ss d).2 := fun d hd => (useAt_rng hS hs (by omega)).2.1
    dsimp only
    generalize hM : (if steady S ss > x then steady S ss else x) = M
    have hxM : x ≤ M := by rw [← hM]; split <;> omega
    have hsM : steady S ss ≤ M := by rw [← hM]; split <;> omega
    have hMl : M - x ≤ 1000 := by rw [← hM]; split <;> omega
    have hcM : ∀ d, M ≤ d → (useAt S ss d).2 = (useAt S ss M).2 := fun d hd => by rw [useAt_steady hS hs (Int.le_trans hsM hd), useAt_steady hS hs hsM]
    refine wFor_inv (fun i : Nat => .int (x + i)) (List.range (M - x).toNat) (fun j ρ => ∃ s8 s9, ρ = [.da (encS S), .da (encSts ss), .da (.str "cycles"), .da (.int n), .da (.int x), .da (.int 1), .da (.int (sumU (fun d => (useAt S ss d).2) x (x + j))), .da (.int M), s8, s9] ∧ sumU (fun d => (useAt S ss d).2) x (x + j) ≤ n) (fun K' h => ⟨⟨(fit62 (by omega)).1, (fit62 (by omega)).2, (fit62 (by omega)).1, (fit62 (by omega)).2⟩, ?_⟩) ⟨_, _, by rw [sumU_nil (by omega)]; rfl, by rw [sumU_nil (by omega)]; omega⟩ ?_ ?_
    · rw [ilist_map]; exact h
    · rintro j i ρ nxt hj ⟨s8, s9, rfl, hle⟩ hn
      obtain ⟨rfl, hjl⟩ := range_get hj
      refine ⟨S, ss, x + i, hS, hs, by omega, rfl, rfl, rfl, ?_⟩
      have es : sumU (fun d => (useAt S ss d).2) x (x + ((i + 1 : Nat) : Int)) = sumU (fun d => (useAt S ss d).2) x (x + i) + (useAt S ss (x + i)).2 := by
        rw [show x + ((i + 1 : Nat) : Int) = x + i + 1 by omega, sumU_succ (by omega)]
      show (match decide (n < sumU (fun d => (useAt S ss d).2) x (x + i) + (useAt S ss (x + i)).2) with | true => k (.int (x + i + 1)) | false => nxt [.da (encS S), .da (encSts ss), .da (.str "cycles"), .da (.int n), .da (.int x), .da (.int 1), .da (.int (sumU (fun d => (useAt S ss d).2) x (x + i) + (useAt S ss (x + i)).2)), .da (.int M), .da (.int (x + i)), s9])
      by_cases hgt : n < sumU (fun d => (useAt S ss d).2) x (x + i) + (useAt S ss (x + i)).2
      · rw [decide_eq_true hgt]
        rw [leastOf_eq (r := some (x + i + 1)) ⟨by omega, by show n < sumU _ x (x + i + 1); rw [sumU_succ (by omega)]; exact hgt, fun e h1 h2 hp => by
          have : sumU (fun d => (useAt S ss d).2) x e ≤ sumU (fun d => (useAt S ss d).2) x (x + i) := sumU_mono hf h1 _ (by omega)
          have hp : n < sumU (fun d => (useAt S ss d).2) x e := hp
          omega⟩] at h
        exact h
      · rw [decide_eq_false hgt]
        refine hn _ ⟨_, _, by rw [es], by rw [es]; omega⟩
    · rintro ρ ⟨s8, s9, rfl, hle⟩
      rw [List.length_range] at hle ⊢
      have eM : x + (((M - x).toNat : Nat) : Int) = M := by omega
      rw [eM] at hle ⊢
      refine ⟨S, ss, M, hS, hs, by omega, rfl, rfl, rfl, ?_⟩
      have q := pp_end hf hxM hcM hle
      rw [leastOf_eq q] at h
      have hu := hf M hxM
      have hu2 := (useAt_rng hS hs (day := M) (by omega)).2.2.2
      show (match decide ((useAt S ss M).2 = 0) with | true => k .non | false => (match divI (.int (n - sumU (fun d => (useAt S ss d).2) x M)) (.int (useAt S ss M).2) with | some d => _ | none => False))
      by_cases hz : (useAt S ss M).2 = 0
      · rw [decide_eq_true hz]
        rw [if_pos hz] at h
        exact h
      · rw [decide_eq_false hz]
        rw [if_neg hz] at h
        show (match (if 0 < (useAt S ss M).2 ∧ (useAt S ss M).2 < 1073741824 then some (D.int ((n - sumU (fun d => (useAt S ss d).2) x M) / (useAt S ss M).2)) else none) with | some d => _ | none => False)
        rw [if_pos (by omega)]
        exact h
  | days =>
    walk_at "wd"
    by_cases hneg : n < 0
    · rw [decide_eq_true hneg]
      rw [leastOf_eq (r := some x) ⟨Int.le_refl _, by show x - x > n; omega, fun e h1 h2 => by omega⟩] at h
      exact h
    rw [decide_eq_false hneg]
    rw [leastOf_eq (r := some (x + n + 1)) ⟨by omega, by show x + n + 1 - x > n; omega, fun e h1 h2 hp => by have hp : e - x > n := hp; omega⟩] at h
    exact h
end Wd
set_option maxRecDepth 100000
set_option maxHeartbeats 2000000
namespace Wd
open PySem PySem.Spec PyProof.Rows L2
/-! ### limits grow with counts -/
def N3.le (a b : N3) : Prop := a.h ≤ b.h ∧ a.c ≤ b.c ∧ a.d ≤ b.d
theorem N3.le.get {a b : N3} (h : a.le b) : ∀ w : Word, a.get w ≤ b.get w
  | .hours => h.1
  | .cycles => h.2.1
  | .days => h.2.2
mutual
theorem lessB_mono {c c' m m' : N3} (h : ∀ w r, c.get w > r - m.get w → c'.get w > r - m'.get w) : ∀ L : Lim, lessB c m L = true → lessB c' m' L = true
  | .pl w r, q => by
    unfold lessB at q ⊢
    exact decide_eq_true (h w r (of_decide_eq_true q))
  | .jo true ls, q => by unfold lessB at q ⊢; exact lessA_mono h ls q
  | .jo false ls, q => by unfold lessB at q ⊢; exact lessE_mono h ls q
theorem lessA_mono {c c' m m' : N3} (h : ∀ w r, c.get w > r - m.get w → c'.get w > r - m'.get w) : ∀ ls : List Lim, lessA c m ls = true → lessA c' m' ls = true
  | [], q => by unfold lessA at q; cases q
  | l :: ls, q => by
    unfold lessA at q ⊢
    rcases Bool.or_eq_true_iff.mp q with e | e
    · rw [lessB_mono h l e]; rfl
    · rw [lessA_mono h ls e, Bool.or_true]
theorem lessE_mono {c c' m m' : N3} (h : ∀ w r, c.get w > r - m.get w → c'.get w > r - m'.get w) : ∀ ls : List Lim, lessE c m ls = true → lessE c' m' ls = true
  | [], q => by unfold lessE; rfl
  | l :: ls, q => by
    unfold lessE at q ⊢
    obtain ⟨e1, e2⟩ := Bool.and_eq_true_iff.mp q
    rw [lessB_mono h l e1, lessE_mono h ls e2]; rfl
end
mutual
/-- what is less by m in the counts is more in the limit -/
theorem lessB_wid (c m k : N3) (h : ∀ w r, c.get w > r - m.get w ↔ c.get w > r + k.get w) : ∀ L : Lim, lessB c m L = lessB c .zero (widL k L)
  | .pl w r => by
    unfold widL lessB
    have := h w r
    have e0 : N3.zero.get w = 0 := by cases w <;> rfl
    rw [e0]
    exact decide_eq_decide.mpr (by omega)
  | .jo true ls => by unfold widL lessB; exact lessA_wid c m k h ls
  | .jo false ls => by unfold widL lessB; exact lessE_wid c m k h ls
theorem lessA_wid (c m k : N3) (h : ∀ w r, c.get w > r - m.get w ↔ c.get w > r + k.get w) : ∀ ls : List Lim, lessA c m ls = lessA c .zero (widLs k ls)
  | [] => by unfold widLs lessA; rfl
  | l :: ls => by unfold widLs lessA; rw [lessB_wid c m k h l, lessA_wid c m k h ls]
theorem lessE_wid (c m k : N3) (h : ∀ w r, c.get w > r - m.get w ↔ c.get w > r + k.get w) : ∀ ls : List Lim, lessE c m ls = lessE c .zero (widLs k ls)
  | [] => by unfold widLs lessE; rfl
  | l :: ls => by unfold widLs lessE; rw [lessB_wid c m k h l, lessE_wid c m k h ls]
end
theorem cnt_le {S : Site} (hS : OkS S) {ss : Stays} (hs : OkSts S.ms ss) {x a b : Int} (hx : 0 ≤ x) (ha : x ≤ a) (hb : a ≤ b) : (cnt S ss x a).le (cnt S ss x b) :=
  have h1 := sumU_mono (f := fun d => (useAt S ss d).1) (fun d hd => (useAt_rng hS hs (Int.le_trans hx hd)).1) ha b hb
  have h2 := sumU_mono (f := fun d => (useAt S ss d).2) (fun d hd => (useAt_rng hS hs (Int.le_trans hx hd)).2.1) ha b hb
  have h3 : a - x ≤ b - x := by omega
  ⟨h1, h2, h3⟩
/-- passing days -/
def PassB (S : Site) (ss : Stays) (x : Int) (L : Lim) (d : Int) : Prop := lessB (cnt S ss x d) .zero L = true
theorem passB_mono {S : Site} (hS : OkS S) {ss : Stays} (hs : OkSts S.ms ss) {x a b : Int} (hx : 0 ≤ x) (ha : x ≤ a) (hb : a ≤ b) {L : Lim} (h : PassB S ss x L a) : PassB S ss x L b :=
  lessB_mono (fun w r q => by have := (cnt_le hS hs hx ha hb).get w; omega) L h
noncomputable def fpS (S : Site) (ss : Stays) (L : Lim) (x : Int) : Option Int := leastOf (PassB S ss x L) x
/-! ### joins -/
theorem least_any {α : Type} {P : α → Int → Prop} {f : α → Option Int} {x : Int} : ∀ (ls : List α), (∀ l ∈ ls, Least (P l) x (f l)) → Least (fun d => ∃ l ∈ ls, P l d) x (ls.filterMap f).min?
  | [], _ => fun d _ ⟨l, hl, _⟩ => by cases hl
  | l :: ls, h => by
    have ih := least_any ls fun y hy => h y (List.mem_cons_of_mem _ hy)
    have hl := h l List.mem_cons_self
    cases e : f l with
    | none =>
      rw [e] at hl
      rw [List.filterMap_cons_none e]
      have imp : ∀ d, x ≤ d → ((∃ y ∈ l :: ls, P y d) ↔ ∃ y ∈ ls, P y d) := fun d hd => ⟨fun ⟨y, hy, p⟩ => by
        rcases List.mem_cons.mp hy with q | q
        · subst q; exact absurd p (hl d hd)
        · exact ⟨y, q, p⟩, fun ⟨y, hy, p⟩ => ⟨y, List.mem_cons_of_mem _ hy, p⟩⟩
      cases e2 : (ls.filterMap f).min? with
      | none => rw [e2] at ih; exact fun d hd q => ih d hd ((imp d hd).mp q)
      | some m => rw [e2] at ih; exact ⟨ih.1, (imp m ih.1).mpr ih.2.1, fun d h1 h2 q => ih.2.2 d h1 h2 ((imp d h1).mp q)⟩
    | some a =>
      rw [e] at hl
      rw [List.filterMap_cons_some e]
      cases e2 : (ls.filterMap f).min? with
      | none =>
        rw [e2] at ih
        have e3 := List.min?_eq_none_iff.mp e2
        rw [e3]
        exact ⟨hl.1, ⟨l, List.mem_cons_self, hl.2.1⟩, fun d h1 h2 ⟨y, hy, p⟩ => by
          rcases List.mem_cons.mp hy with q | q
          · subst q; exact hl.2.2 d h1 h2 p
          · exact ih d h1 ⟨y, q, p⟩⟩
      | some m =>
        rw [e2] at ih
        have e3 : (a :: ls.filterMap f).min? = some (min a m) := by
          rw [List.min?_cons, e2]; rfl
        rw [e3]
        refine ⟨by have := hl.1; have := ih.1; omega, ?_, fun d h1 h2 ⟨y, hy, p⟩ => ?_⟩
        · rcases (by omega : min a m = a ∨ min a m = m) with q | q
          · rw [q]; exact ⟨l, List.mem_cons_self, hl.2.1⟩
          · rw [q]; obtain ⟨y, hy, p⟩ := ih.2.1; exact ⟨y, List.mem_cons_of_mem _ hy, p⟩
        · rcases List.mem_cons.mp hy with q | q
          · subst q; exact hl.2.2 d h1 (by omega) p
          · exact ih.2.2 d h1 (by omega) ⟨y, q, p⟩
theorem least_all {α : Type} {P : α → Int → Prop} {f : α → Option Int} {x : Int} (hm : ∀ l a b, x ≤ a → a ≤ b → P l a → P l b) : ∀ (ls : List α), ls ≠ [] → (∀ l ∈ ls, Least (P l) x (f l)) →
    Least (fun d => ∀ l ∈ ls, P l d) x (if (ls.filterMap f).length = ls.length then (ls.filterMap f).max? else none)
  | [], h, _ => absurd rfl h
  | [l], _, h => by
    have hl := h l List.mem_cons_self
    cases e : f l with
    | none =>
      rw [e] at hl
      rw [List.filterMap_cons_none e]
      exact fun d hd q => hl d hd (q l List.mem_cons_self)
    | some a =>
      rw [e] at hl
      rw [List.filterMap_cons_some e]
      exact ⟨hl.1, fun y hy => by rw [List.mem_singleton.mp hy]; exact hl.2.1, fun d h1 h2 q => hl.2.2 d h1 h2 (q l List.mem_cons_self)⟩
  | l :: l2 :: ls, _, h => by
    have ih := least_all hm (l2 :: ls) (by simp) fun y hy => h y (List.mem_cons_of_mem _ hy)
    have hl := h l List.mem_cons_self
    generalize hls : l2 :: ls = r at ih h ⊢
    have hle : (r.filterMap f).length ≤ r.length := List.length_filterMap_le f r
    cases e : f l with
    | none =>
      rw [e] at hl
      rw [List.filterMap_cons_none e, List.length_cons, if_neg (by omega)]
      exact fun d hd q => hl d hd (q l List.mem_cons_self)
    | some a =>
      rw [e] at hl
      rw [List.filterMap_cons_some e, List.length_cons, List.length_cons]
      by_cases hq : (r.filterMap f).length = r.length
      · rw [if_pos hq] at ih
        rw [if_pos (by omega)]
        cases e2 : (r.filterMap f).max? with
        | none =>
          have e3 := List.max?_eq_none_iff.mp e2
          rw [e3, ← hls] at hq
          simp at hq
        | some m =>
          rw [e2] at ih
          have e3 : (a :: r.filterMap f).max? = some (max a m) := by
            rw [List.max?_cons, e2]; rfl
          rw [e3]
          refine ⟨by have := hl.1; omega, fun y hy => ?_, fun d h1 h2 q => ?_⟩
          · rcases List.mem_cons.mp hy with q | q
            · subst q; exact hm _ a _ hl.1 (by omega) hl.2.1
            · exact hm _ m _ ih.1 (by omega) (ih.2.1 y q)
          · rcases (by omega : d < a ∨ d < m) with z | z
            · exact hl.2.2 d h1 z (q l List.mem_cons_self)
            · exact ih.2.2 d h1 z fun y hy => q y (List.mem_cons_of_mem _ hy)
      · rw [if_neg hq] at ih
        rw [if_neg (by omega)]
        exact fun d hd q => ih d hd fun y hy => q y (List.mem_cons_of_mem _ hy)
theorem fp_jo {S : Site} (hS : OkS S) {ss : Stays} (hs : OkSts S.ms ss) {x : Int} (hx : 0 ≤ x) (b : Bool) {ls : List Lim} (hne : ls ≠ []) :
    fpS S ss (.jo b ls) x = if b then (ls.filterMap fun l => fpS S ss l x).min? else if (ls.filterMap fun l => fpS S ss l x).length = ls.length then (ls.filterMap fun l => fpS S ss l x).max? else none := by
  have hl : ∀ l ∈ ls, Least (PassB S ss x l) x (fpS S ss l x) := fun l _ => leastOf_spec _ _
  unfold fpS
  cases b with
  | true =>
    rw [if_pos rfl]
    refine leastOf_eq ?_
    have q := least_any (P := fun l => PassB S ss x l) (f := fun l => fpS S ss l x) ls hl
    have e : (fun d => ∃ l ∈ ls, PassB S ss x l d) = PassB S ss x (.jo true ls) := by
      funext d
      unfold PassB
      rw [less_jo, if_pos rfl, List.any_eq_true]
    rw [e] at q
    exact q
  | false =>
    rw [if_neg (by decide)]
    refine leastOf_eq ?_
    have q := least_all (P := fun l => PassB S ss x l) (f := fun l => fpS S ss l x) (fun l a b h1 h2 h3 => passB_mono hS hs hx h1 h2 h3) ls hne hl
    have e : (fun d => ∀ l ∈ ls, PassB S ss x l d) = PassB S ss x (.jo false ls) := by
      funext d
      unfold PassB
      rw [less_jo, if_neg (by decide), List.all_eq_true]
    rw [e] at q
    exact q
theorem fp_pl {S : Site} {ss : Stays} {w : Word} {n x : Int} : leastOf (fun d => (cnt S ss x d).get w > n) x = fpS S ss (.pl w n) x := by
  unfold fpS
  refine leastOf_iff fun d _ => ?_
  unfold PassB lessB
  rw [decide_eq_true_iff, show N3.zero.get w = 0 by cases w <;> rfl, Int.sub_zero]
end Wd
set_option maxRecDepth 100000
set_option maxHeartbeats 2000000
namespace Wd
open PySem PySem.Spec PyProof.Rows L2
/-! ### data that == reads -/
def PyOk (n : Nat) (d : D) : Prop := ∃ p, toPy d = some p ∧ p.canLay0 = true ∧ p.depth ≤ n
theorem PyOk.mono {n m : Nat} {d : D} (h : PyOk n d) (hn : n ≤ m) : PyOk m d := by
  obtain ⟨p, a, b, c⟩ := h
  exact ⟨p, a, b, by omega⟩
theorem py_int (n : Nat) (i : Int) : PyOk n (.int i) := ⟨.int i, rfl, rfl, Nat.zero_le _⟩
theorem py_bl (n : Nat) (i : Bool) : PyOk n (.bl i) := ⟨.bool i, rfl, rfl, Nat.zero_le _⟩
theorem py_non (n : Nat) : PyOk n .non := ⟨.none, rfl, rfl, Nat.zero_le _⟩
theorem py_str (n : Nat) {z : Str} (h : PySem.PyData.strOk z = true) : PyOk n (.str z) := ⟨.str z, rfl, h, Nat.zero_le _⟩
theorem py_all {n : Nat} : ∀ {ds : List D}, (∀ d ∈ ds, PyOk n d) → ∃ ps, toPyL ds = some ps ∧ PyData.canLayAll0 ps = true ∧ PyData.depthAll ps ≤ n
  | [], _ => ⟨[], by unfold toPyL; rfl, by unfold PyData.canLayAll0; rfl, by unfold PyData.depthAll; exact Nat.zero_le _⟩
  | d :: ds, h => by
    obtain ⟨p, a, b, c⟩ := h d List.mem_cons_self
    obtain ⟨ps, a2, b2, c2⟩ := py_all (ds := ds) fun x hx => h x (List.mem_cons_of_mem _ hx)
    refine ⟨p :: ps, by unfold toPyL; rw [a, a2], by unfold PyData.canLayAll0; rw [b, b2]; rfl, ?_⟩
    unfold PyData.depthAll
    exact Nat.max_le.mpr ⟨c, c2⟩
theorem py_tup {n : Nat} {ds : List D} (h : ∀ d ∈ ds, PyOk n d) : PyOk (n + 1) (.tup ds) := by
  obtain ⟨ps, a, b, c⟩ := py_all h
  refine ⟨.tuple ps, by unfold toPy; rw [a]; rfl, by unfold PyData.canLay0; exact b, by unfold PyData.depth; omega⟩
theorem py_wtp {n : Nat} {ds : List D} (h : ∀ d ∈ ds, PyOk n d) : PyOk (n + 1) (.wtp ds) := by
  obtain ⟨ps, a, b, c⟩ := py_all h
  refine ⟨.tuple ps, by unfold toPy; rw [a]; rfl, by unfold PyData.canLay0; exact b, by unfold PyData.depth; omega⟩
theorem py_lst {n : Nat} {ds : List D} (h : ∀ d ∈ ds, PyOk n d) : PyOk (n + 1) (.lst ds) := by
  obtain ⟨ps, a, b, c⟩ := py_all h
  refine ⟨.list ps, by unfold toPy; rw [a]; rfl, by unfold PyData.canLay0; exact b, by unfold PyData.depth; omega⟩
theorem sh_ok {d : D} {p : PyData} (a : toPy d = some p) (b : p.canLay0 = true) (c : p.depth ≤ 64) (k : PyData → Option D) : shD d k = k p := by
  unfold shD
  rw [a]
  show (if SeqAt.shaped p = true then k p else none) = k p
  rw [if_pos]
  unfold SeqAt.shaped
  rw [b, decide_eq_true c]
  rfl
theorem eqD_sh {x y : D} {p q : PyData} (hx : toPy x = some p) (hy : toPy y = some q) (bx : p.canLay0 = true) (by_ : q.canLay0 = true) (cx : p.depth ≤ 64) (cy : q.depth ≤ 64) : (shD x fun p => shD y fun q => some (D.bl (PyData.eqv p q))) = some (.bl (PyData.eqv p q)) := by
  rw [sh_ok hx bx cx, sh_ok hy by_ cy]
theorem eqD_same {d : D} (h : PyOk 64 d) : eqD d d = some (.bl true) := by
  obtain ⟨p, a, b, c⟩ := h
  have e := eqD_sh a a b b c c
  rw [PySem.SeqAt.eqv_refl p b] at e
  cases d with
  | int i => show some (D.bl (decide (i = i))) = _; rw [decide_eq_true rfl]
  | str i => show some (D.bl (decide (i = i))) = _; rw [decide_eq_true rfl]
  | bl i => show some (D.bl (decide (i = i))) = _; rw [decide_eq_true rfl]
  | _ => exact e
theorem neD_same {d : D} (h : PyOk 64 d) : neD d d = some (.bl false) := by
  obtain ⟨p, a, b, c⟩ := h
  have e : (shD d fun p => shD d fun q => some (D.bl (!PyData.eqv p q))) = some (.bl (!PyData.eqv p p)) := by rw [sh_ok a b c, sh_ok a b c]
  rw [PySem.SeqAt.eqv_refl p b] at e
  cases d with
  | int i => show some (D.bl (!decide (i = i))) = _; rw [decide_eq_true rfl]; rfl
  | str i => show some (D.bl (!decide (i = i))) = _; rw [decide_eq_true rfl]; rfl
  | bl i => show some (D.bl (!decide (i = i))) = _; rw [decide_eq_true rfl]; rfl
  | _ => exact e
theorem ne_nil {ds : List D} (h : ∀ d ∈ ds, PyOk 60 d) : neD (.lst ds) (.lst []) = some (.bl (!ds.isEmpty)) := by
  obtain ⟨ps, a, b, c⟩ := py_all h
  have a1 : toPy (.lst ds) = some (.list ps) := by unfold toPy; rw [a]; rfl
  have a2 : toPy (.lst []) = some (.list []) := by unfold toPy toPyL; rfl
  show (shD (.lst ds) fun p => shD (.lst []) fun q => some (D.bl (!PyData.eqv p q))) = _
  rw [sh_ok a1 (by unfold PyData.canLay0; exact b) (by unfold PyData.depth; omega), sh_ok a2 rfl (by decide)]
  cases ds with
  | nil => unfold toPyL at a; cases a; rfl
  | cons d ds =>
    unfold toPyL at a
    split at a
    · cases a
      rw [show PyData.eqv (.list (_ :: _)) (.list []) = false by unfold PyData.eqv PyData.eqvAll; rfl]
      rfl
    · cases a
theorem word_ok : ∀ w : Word, PySem.PyData.strOk w.s = true := fun w => by cases w <;> decide +kernel
theorem jo_ok : ∀ b : Bool, PySem.PyData.strOk (joS b) = true := fun b => by cases b <;> decide +kernel
theorem py_encL {p : Word → Int → Prop} : ∀ (n : Nat) (L : Lim), L.all p n → PyOk (2 * n) (encL L)
  | 0, _, h => (all0 h).elim
  | n + 1, .pl w r, h => by
    unfold encL
    refine PyOk.mono (py_tup (n := 0) fun d hd => ?_) (by omega)
    rcases List.mem_cons.mp hd with e | e
    · subst e; exact py_str _ (word_ok w)
    · rw [List.mem_singleton.mp e]; exact py_int _ _
  | n + 1, .jo b ls, h => by
    unfold encL
    refine py_tup (n := 2 * n + 1) fun d hd => ?_
    rcases List.mem_cons.mp hd with e | e
    · subst e; exact py_str _ (jo_ok b)
    · rw [List.mem_singleton.mp e]
      refine py_tup fun d hd => ?_
      rw [encLs_eq] at hd
      obtain ⟨l, hl, rfl⟩ := List.mem_map.mp hd
      exact py_encL n l ((all_jo h).2 l hl)
end Wd
set_option maxRecDepth 100000
set_option maxHeartbeats 2000000
namespace Wd
open PySem PySem.Spec PyProof.Rows L2
section
variable {X : Cx} {kx vx tg iter : Expr} {scope : Scope} {pos : Pos} {wi : TI} {g : TG} {tk tv : TE} {W : WA} {Wg : WG} {Wk Wv : WE} {ix : List Nat}
/-- name = {k: v for ..} on one line, the name a local -/
theorem ps_setDc {i : Nat} {y : Str} {py : Pos} {own : List (Str × Nat)} {spos : Pos} {tt : TT} {ifs : List Expr} (hc : X.calm = true) (hN : X.N.Nodup) (hy : X.N[i]? = some y) (hyl : X.env.scope.names.lookup y = some .local)
    (hsw : swapsWith (.DictComp kx vx [⟨tg, iter, ifs, 0⟩] scope pos) (some (.Name y py)) spos.line X.env = pure true) (hi : PI X tg iter wi) (ok : BlkOk X.N X.env.scope scope own)
    (hg : ∀ (s : Shared) (H : Hp) (C : Addr) (cl : List (Str × Addr)) (fp : List Addr), PG (X.blk s H scope (compEnvC scope cl C X.env) fp) tg g)
    (ht : ∀ (s : Shared) (H : Hp) (C : Addr) (cl : List (Str × Addr)) (fp : List Addr), PTs (X.blk s H scope (compEnvC scope cl C X.env) fp) ifs tt)
    (hk : ∀ (s : Shared) (H : Hp) (C : Addr) (cl : List (Str × Addr)) (fp : List Addr), PE (X.blk s H scope (compEnvC scope cl C X.env) fp) kx tk)
    (he : ∀ (s : Shared) (H : Hp) (C : Addr) (cl : List (Str × Addr)) (fp : List Addr), PE (X.blk s H scope (compEnvC scope cl C X.env) fp) vx tv) (hs : ∀ x, foldedSetIterable iter X.env x = pure x := by intro _; rfl) :
    PS X (.Assign [.Name y py] (.DictComp kx vx [⟨tg, iter, ifs, 0⟩] scope pos) spos) (tAsg (tDc wi g tt tk tv (own.map (·.2))) (gName i)) := by
  constructor
  intro pins s σ H D I h
  rw [exec_Assign_Name_used _ _ _ _ hsw]
  refine wpAny_bind (wpAny_standAt (wpAny_bind ?_))
  show wpAny _ X.A (do let _ ← comprehension (.DictComp kx vx [⟨tg, iter, ifs, 0⟩] scope pos) scope X.env (firstIterPos [⟨tg, iter, ifs, 0⟩] pos) newDict false (eval iter X.env) (some (assign (.Name y py) X.env))) _ _ s
  have h2 : tDc wi g tt tk tv (own.map (·.2)) σ H (fun x H1 => gName i x σ H1 D.nx) := h
  refine wpAny_bind (thn (dc_core (Qf := fun _ s2 => SP X pins D .next s2) hc hN I hi ok hg ht hk he hs h2 fun L C s2 m H2 I2 q hn f => ?_) fun _ s2 hq => wpAny_pure (wpAny_pure hq))
  show wpAny _ _ (assign (.Name y py) X.env (.ref L)) _ _ _
  refine wpAny_assign_Name (store_ok2 (v := V.ref L) I2 hN hy (.inl hyl) rfl (fun s3 I3 z => ?_) (.inr hyl))
  obtain ⟨a, sb, ha⟩ := z
  obtain ⟨f0, f1, f2, f3, f4, f5⟩ := f
  have haC : C ≠ a := by
    rcases ha with z | z
    · rw [z]
      exact f1
    · intro e
      exact f4 y a z e.symm
  refine ⟨m, hn.sameBut sb haC, fun h3 sb3 => ?_⟩
  refine ⟨_, H2, I3.turned (t' := s3.toks) (fun b o hb e => ?_) f0 f1 f3 f4 f5, q⟩
  exact (sb3.2 b hb).trans e
theorem swd_true {gs : List Comprehension} {py : Pos} {y : Str} {l : Nat} {env : Env} (hk : env.scope.kind = .function) (hy : env.scope.names.lookup y = some .local) (hl : (py.line == pos.line) = true)
    (ha : (scope.names.any fun (n, k) => n == y && (k == .local || k == .cell)) = false) : swapsWith (.DictComp kx vx gs scope pos) (some (.Name y py)) l env = pure true := by
  have ky : env.kindOf y = some .local := hy
  have hb : env.blockKind = .function := by
    unfold Env.blockKind
    rw [hk]
    rfl
  unfold swapsWith
  simp only [hb, ky, ha, Expr.pos, hl]
  rfl
theorem ssetDc {i : Nat} {y : Str} {py spos : Pos} (own : List (Str × Nat)) (hN : X.N.Nodup) (hi : IW X tg iter wi W) (ok : blkC X.N X.env.scope scope own = true)
    (hg : ∀ (s : Shared) (H : Hp) (C : Addr) (cl : List (Str × Addr)) (fp : List Addr), GW (X.blk s H scope (compEnvC scope cl C X.env) fp) tg g Wg ix)
    (hk : ∀ (s : Shared) (H : Hp) (C : Addr) (cl : List (Str × Addr)) (fp : List Addr), EW (X.blk s H scope (compEnvC scope cl C X.env) fp) kx tk Wk)
    (he : ∀ (s : Shared) (H : Hp) (C : Addr) (cl : List (Str × Addr)) (fp : List Addr), EW (X.blk s H scope (compEnvC scope cl C X.env) fp) vx tv Wv)
    (hy : X.N[i]? = some y := by rfl) (hyl : X.env.scope.names.lookup y = some .local := by rfl) (hsw : swapsWith (.DictComp kx vx [⟨tg, iter, [], 0⟩] scope pos) (some (.Name y py)) spos.line X.env = pure true := by exact swd_true rfl rfl rfl (by decide +kernel)) (hv : ∀ j ∈ ix, j ∈ own.map (·.2) := by decide) (hc : X.calm = true := by rfl)
    (hs : ∀ x, foldedSetIterable iter X.env x = pure x := by intro _; rfl) :
    SW X (.Assign [.Name y py] (.DictComp kx vx [⟨tg, iter, [], 0⟩] scope pos) spos) (tAsg (tDc wi g tYes tk tv (own.map (·.2))) (gName i)) (wAsg (wDc W Wg Wk Wv (own.map (·.2))) (gwName i)) :=
  ⟨ps_setDc hc hN hy hyl hsw hi.pi (blkOk_by ok) (fun s H C cl fp => (hg s H C cl fp).pg) (fun s H C cl fp => pts_nil) (fun s H C cl fp => (hk s H C cl fp).pe) (fun s H C cl fp => (he s H C cl fp).pe) hs,
    li_asg (K := X.K) (ix := [i]) (ew_dc (pos := pos) own hN hi ok hg hk he hv hc hs).li fun R r h q => q _ _ (R.set r) (took_set i _ _ R.len) h⟩
end
end Wd
set_option maxRecDepth 100000
set_option maxHeartbeats 2000000
namespace Wd
open PySem PySem.Spec PyProof.Rows L2
/-! ### a comprehension of two clauses, no own things about -/
def noOw : List Sl → Bool
  | [] => true
  | .ow _ :: _ => false
  | .od _ :: _ => false
  | _ :: r => noOw r
theorem noOw_at : ∀ {ρ : List Sl} {j : Nat} {s : Sl}, noOw ρ = true → ρ[j]? = some s → (∀ ds, s ≠ .ow ds) ∧ ∀ ds, s ≠ .od ds
  | x :: r, 0, s, h, e => by
    simp at e
    subst e
    cases x <;> first | cases h | exact ⟨fun _ z => (nomatch z), fun _ z => (nomatch z)⟩
  | x :: r, j + 1, s, h, e => by
    have e2 : r[j]? = some s := by simpa using e
    cases x <;> first | cases h | exact noOw_at (ρ := r) h e2
section
variable {K : PySem.W.Frag} {F : Option Addr} {G H : Hp} {w : Addr → Nat} {σ : L2.St} {ρ : List Sl}
theorem Rs.updN {p : Addr} {o : HO} (R : Rs K F G H w σ ρ) (hn : noOw ρ = true) (hG : G p = none) (hF : F ≠ some p) (ht : NTE (H p) := by first | exact nteL (by assumption) | exact nteT (by assumption) | exact nteK (by assumption)) : Rs K F G (upd H p o) w σ ρ := by
  refine ⟨R.sub.updH hG, R.len, fun j s h => ?_, fun f ef => ?_⟩
  · have q := R.at_ j s h
    obtain ⟨h1, h2⟩ := noOw_at hn h
    cases s with
    | un => trivial
    | da d => exact q
    | ow ds => exact absurd rfl (h1 ds)
    | od ds => exact absurd rfl (h2 ds)
    | fd => exact q
    | ob _ => exact q
  · obtain ⟨c, ns, i, l, n, k1, k2, k3, k4, kt⟩ := R.fok f ef
    refine ⟨c, ns, i, l, n, k1, k2, k3, ?_, kt.updH ht⟩
    rw [upd_ne (fun z => hF (by rw [ef, z]))]
    exact k4
/-- the new list joins the data -/
theorem Rs.joinN {p : Addr} {o : HO} (R : Rs K F G H w σ ρ) (hn : noOw ρ = true) (hG : G p = none) (hH : H p = some o) (hF : F ≠ some p) (hN : NTE (H p) := by first | exact nteL (by assumption) | exact nteT (by assumption) | exact nteK (by assumption)) : Rs K F (upd G p o) H w σ ρ := by
  have s1 : Sub G (upd G p o) := fun b u e => by
    rw [upd_ne (ne_of_none e hG)]
    exact e
  refine ⟨fun b u e => ?_, R.len, fun j s h => ?_, fun f ef => ?_⟩
  · by_cases z : b = p
    · rw [z, upd_same] at e
      rw [z, hH]
      exact e
    · rw [upd_ne z] at e
      exact R.sub b u e
  · have q := R.at_ j s h
    obtain ⟨h1, h2⟩ := noOw_at hn h
    cases s with
    | un => trivial
    | da d =>
      obtain ⟨v, e2, r⟩ := q
      exact ⟨v, e2, Rp.mono s1 _ _ r⟩
    | ow ds => exact absurd rfl (h1 ds)
    | od ds => exact absurd rfl (h2 ds)
    | fd => exact q
    | ob _ => exact q
  · obtain ⟨c, ns, i, l, n, k1, k2, k3, k4, kt⟩ := R.fok f ef
    refine ⟨c, ns, i, l, n, ?_, s1 _ _ k2, k3, k4, kt.updG hN⟩
    rw [upd_ne (fun z => hF (by rw [ef, z]))]
    exact k1
end
def lc2Go (g : WG) (wi1 : WA) (g1 : WG) (te : WE) (vs1 : List Nat) (ρ : List Sl) : List D → List D → (List D → Prop) → Prop
  | [], acc, k => k acc
  | x :: r, acc, k => g x ρ fun ρ2 => noOw ρ2 = true ∧ wi1 ρ2 fun es => acc.length + es.length ≤ 1000 ∧ lcGo g1 wYes te (wipeW ρ2 vs1) es acc fun acc2 => acc2.length ≤ 1000 ∧ lc2Go g wi1 g1 te vs1 ρ r acc2 k
def wLc2 (wi : WA) (g : WG) (wi1 : WA) (g1 : WG) (te : WE) (vs vs1 : List Nat) : WE := fun ρ k => noOw ρ = true ∧ wi ρ fun ds => lc2Go g wi1 g1 te vs1 (wipeW ρ vs) ds [] fun acc => k (.lst acc)
section
variable {K : PySem.W.Frag} {wi wi1 : TI} {g g1 : TG} {te : TE} {W W1 : WA} {Wg Wg1 : WG} {We : WE} {vs vs1 ix ix1 : List Nat}
theorem li_lc2
    (hi : ∀ {F G H w σ ρ k R}, Rs K F G H w σ ρ → W ρ k → (∀ J ds G' H', Rs K F G' H' w σ ρ → Gr F G H G' H' → Wlk K J G' ds → k ds → R J H') → wi σ H R)
    (hg : ∀ {F G H w σ ρ v d k Q}, Rs K F G H w σ ρ → Rp K G v d → Wg d ρ k → (∀ σ' ρ', Rs K F G H w σ' ρ' → Took ix σ ρ σ' ρ' → k ρ' → Q σ' H) → g v σ H Q)
    (hi1 : ∀ {F G H w σ ρ k R}, Rs K F G H w σ ρ → W1 ρ k → (∀ J ds G' H', Rs K F G' H' w σ ρ → Gr F G H G' H' → Wlk K J G' ds → k ds → R J H') → wi1 σ H R)
    (hg1 : ∀ {F G H w σ ρ v d k Q}, Rs K F G H w σ ρ → Rp K G v d → Wg1 d ρ k → (∀ σ' ρ', Rs K F G H w σ' ρ' → Took ix1 σ ρ σ' ρ' → k ρ' → Q σ' H) → g1 v σ H Q)
    (he : ∀ {F G H w σ ρ k Q}, Rs K F G H w σ ρ → We ρ k → (∀ v d G' H', Rs K F G' H' w σ ρ → Gr F G H G' H' → Rp K G' v d → k d → Q v H') → te σ H Q)
    (hv : ∀ j ∈ ix, j ∈ vs) (hv1 : ∀ j ∈ ix1, j ∈ vs1) :
    ∀ {F G H w σ ρ k Q}, Rs K F G H w σ ρ → wLc2 W Wg W1 Wg1 We vs vs1 ρ k → (∀ v d G' H', Rs K F G' H' w σ ρ → Gr F G H G' H' → Rp K G' v d → k d → Q v H') → tLc2 wi g tYes wi1 g1 tYes te vs vs1 σ H Q := by
  intro F G H w σ ρ k Q R hw q
  obtain ⟨hno, hw⟩ := hw
  refine hi R hw fun J ds G1 H1 R1 g1' wl hk => ?_
  intro p hp
  have hF : F ≠ some p := R1.noF hp
  refine ⟨fun i m H => m = ds.length - i ∧ i ≤ ds.length ∧ ∃ G xs acc, Rs K F G H w σ ρ ∧ Gr F G1 H1 G H ∧ G p = none ∧ H p = some (.lst xs) ∧ RpL K G xs acc ∧ acc.length ≤ 1000 ∧ lc2Go Wg W1 Wg1 We vs1 (wipeW ρ vs) (ds.drop i) acc fun acc => k (.lst acc),
    ⟨_, rfl, Nat.zero_le _, G1, [], [], R1.out hp, Gr.newH hp, sub_none R1.sub hp, upd_same, .nil, Nat.zero_le _, hk⟩, ?_⟩
  rintro i m H2 ⟨rfl, hil, G2, xs, acc, R2, g2, p2, e2, r2, l2, h2⟩
  obtain ⟨hstop, hgo⟩ := wl G2 H2 i g2.gs R2.sub
  by_cases hlt : i < ds.length
  · right
    have hd : ds[i]? = some ds[i] := List.getElem?_eq_getElem hlt
    obtain ⟨go, hy⟩ := hgo _ hd
    refine ⟨go, fun H' => i + 1 ≤ ds.length ∧ ∃ G xs acc, Rs K F G H' w σ ρ ∧ Gr F G1 H1 G H' ∧ G p = none ∧ H' p = some (.lst xs) ∧ RpL K G xs acc ∧ acc.length ≤ 1000 ∧ lc2Go Wg W1 Wg1 We vs1 (wipeW ρ vs) (ds.drop (i + 1)) acc fun acc => k (.lst acc),
      fun H' z => ⟨ds.length - (i + 1), by omega, rfl, z.1, z.2⟩, fun x H3 y => ?_⟩
    obtain ⟨G3, s3, g3, r3⟩ := hy x H3 y
    rw [List.drop_eq_getElem_cons hlt] at h2
    have R3 : Rs K F G3 H3 w σ ρ := R2.grow0 g3 s3
    have e3 : H3 p = some (.lst xs) := g3.hp _ _ (fun z => nomatch z) e2
    have p3 : G3 p = none := gr_out g3 p2 e2
    refine hg (R3.wipe vs) r3 h2 fun σ4 ρ4 R4 t4 h4 => ⟨wipe_took t4 hv, ?_⟩
    obtain ⟨hno4, h4⟩ := h4
    simp only [tYes, if_true]
    refine hi1 R4 h4 fun J5 es G5 H5 R5 g5 wl5 h5 => ?_
    obtain ⟨hl5, h5⟩ := h5
    have e5 : H5 p = some (.lst xs) := g5.hp _ _ hF e3
    have p5 : G5 p = none := gr_out g5 p3 e3
    have R5' : Rs K F G5 H5 w σ ρ := R3.grow g5 R5.sub R5.fok
    have gg5 : Gr F G1 H1 G5 H5 := (g2.trans g3.any).trans g5
    have r5 : RpL K G5 xs acc := RpL.mono (g3.gs.trans g5.gs) _ _ r2
    refine ⟨fun j m H => m = es.length - j ∧ j ≤ es.length ∧ ∃ G xs acc2, Rs K F G H w σ ρ ∧ Rs K F G H w σ4 ρ4 ∧ Gr F G1 H1 G H ∧ Sub G5 G ∧ G p = none ∧ H p = some (.lst xs) ∧ RpL K G xs acc2 ∧ acc2.length ≤ acc.length + j ∧ lcGo Wg1 wYes We (wipeW ρ4 vs1) (es.drop j) acc2 fun acc2 => acc2.length ≤ 1000 ∧ lc2Go Wg W1 Wg1 We vs1 (wipeW ρ vs) (ds.drop (i + 1)) acc2 fun acc => k (.lst acc),
      ⟨_, rfl, Nat.zero_le _, G5, xs, acc, R5', R5, gg5, Sub.refl _, p5, e5, r5, Nat.le_refl _, h5⟩, ?_⟩
    rintro j m H6 ⟨rfl, hjl, G6, ys, acc2, R6, S6, g6, b6, p6, e6, r6, l6, h6⟩
    obtain ⟨hstop6, hgo6⟩ := wl5 G6 H6 j b6 R6.sub
    by_cases hjt : j < es.length
    · right
      have hd6 : es[j]? = some es[j] := List.getElem?_eq_getElem hjt
      obtain ⟨go6, hy6⟩ := hgo6 _ hd6
      refine ⟨go6, fun H' => j + 1 ≤ es.length ∧ ∃ G xs acc2, Rs K F G H' w σ ρ ∧ Rs K F G H' w σ4 ρ4 ∧ Gr F G1 H1 G H' ∧ Sub G5 G ∧ G p = none ∧ H' p = some (.lst xs) ∧ RpL K G xs acc2 ∧ acc2.length ≤ acc.length + (j + 1) ∧ lcGo Wg1 wYes We (wipeW ρ4 vs1) (es.drop (j + 1)) acc2 fun acc2 => acc2.length ≤ 1000 ∧ lc2Go Wg W1 Wg1 We vs1 (wipeW ρ vs) (ds.drop (i + 1)) acc2 fun acc => k (.lst acc),
        fun H' z => ⟨es.length - (j + 1), by omega, rfl, z.1, z.2⟩, fun x H7 y => ?_⟩
      obtain ⟨G7, s7, g7, r7⟩ := hy6 x H7 y
      rw [List.drop_eq_getElem_cons hjt] at h6
      have R7 : Rs K F G7 H7 w σ ρ := R6.grow0 g7 s7
      have S7 : Rs K F G7 H7 w σ4 ρ4 := S6.grow0 g7 s7
      have e7 : H7 p = some (.lst ys) := g7.hp _ _ (fun z => nomatch z) e6
      have p7 : G7 p = none := gr_out g7 p6 e6
      refine hg1 (S7.wipe vs1) r7 h6 fun σ8 ρ8 R8 t8 h8 => ⟨wipe_took t8 hv1, ?_⟩
      simp only [tYes, if_true]
      refine he R8 h8 fun v d G9 H9 R9 g9 rv h9 => ?_
      have e9 : H9 p = some (.lst ys) := g9.hp _ _ hF e7
      have p9 : G9 p = none := gr_out g9 p7 e7
      have A9 : Rs K F G9 H9 w σ ρ := R7.grow g9 R9.sub R9.fok
      have B9 : Rs K F G9 H9 w σ4 ρ4 := S7.grow g9 R9.sub R9.fok
      have r9 : RpL K G9 ys acc2 := RpL.mono (g7.gs.trans g9.gs) _ _ r6
      refine ⟨ys, e9, ?_, hjt, G9, ys ++ [v], acc2 ++ [d], A9.updN hno p9 hF, B9.updN hno4 p9 hF, ((g6.trans g7.any).trans g9).out hp, (b6.trans g7.gs).trans g9.gs, p9, upd_same, r9.snoc rv, by rw [List.length_append, List.length_singleton]; omega, h9⟩
      rw [r9.length]
      exact Nat.lt_of_lt_of_le (show acc2.length < 1001 by omega) (by decide)
    · left
      have ej : j = es.length := by omega
      subst ej
      rw [List.drop_length] at h6
      exact ⟨hstop6 (Nat.le_refl _), hlt, G6, ys, acc2, R6, g6, p6, e6, r6, h6.1, h6.2⟩
  · left
    have e : i = ds.length := by omega
    subst e
    rw [List.drop_length] at h2
    refine ⟨hstop (Nat.le_refl _), ?_⟩
    have s1 : Sub G2 (upd G2 p (.lst xs)) := fun b u e => by
      rw [upd_ne (ne_of_none e p2)]
      exact e
    refine q _ _ _ _ (R2.joinN hno p2 e2 hF) (g1'.trans ⟨g2.hq, g2.tb, g2.th, g2.gs.trans s1, fun b u e => ?_⟩) (.lst upd_same (RpL.mono s1 _ _ r2)) h2
    by_cases z : b = p
    · rw [z]
      exact .inr hp
    · rw [upd_ne z] at e
      exact g2.fr b u e
end
section
variable {X : Cx} {elt tg iter tg1 iter1 : Expr} {scope : Scope} {pos : Pos} {wi wi1 : TI} {g g1 : TG} {te : TE} {W W1 : WA} {Wg Wg1 : WG} {We : WE} {ix ix1 : List Nat}
theorem ew_lc2 (own : List (Str × Nat)) (vs1 : List Nat) (hN : X.N.Nodup) (hi : IW X tg iter wi W) (ok : blkC X.N X.env.scope scope own = true)
    (hg : ∀ (s : Shared) (H : Hp) (C : Addr) (cl : List (Str × Addr)) (fp : List Addr), GW (X.blk s H scope (compEnvC scope cl C X.env) fp) tg g Wg ix)
    (hi1 : ∀ (s : Shared) (H : Hp) (C : Addr) (cl : List (Str × Addr)) (fp : List Addr), IW (X.blk s H scope (compEnvC scope cl C X.env) fp) tg1 iter1 wi1 W1)
    (hg1 : ∀ (s : Shared) (H : Hp) (C : Addr) (cl : List (Str × Addr)) (fp : List Addr), GW (X.blk s H scope (compEnvC scope cl C X.env) fp) tg1 g1 Wg1 ix1)
    (he : ∀ (s : Shared) (H : Hp) (C : Addr) (cl : List (Str × Addr)) (fp : List Addr), EW (X.blk s H scope (compEnvC scope cl C X.env) fp) elt te We) (hv : ∀ j ∈ ix, j ∈ own.map (·.2) := by decide) (hv1 : ∀ j ∈ ix1, j ∈ vs1 := by decide) (hvv : ∀ i ∈ vs1, i ∈ own.map (·.2) := by decide) (hc : X.calm = true := by rfl)
    (hs : ∀ x, foldedSetIterable iter X.env x = pure x := by intro _; rfl) (hs1 : ∀ env x, foldedSetIterable iter1 env x = pure x := by intro _ _; rfl) :
    EW X (.ListComp elt [⟨tg, iter, [], 0⟩, ⟨tg1, iter1, [], 0⟩] scope pos) (tLc2 wi g tYes wi1 g1 tYes te (own.map (·.2)) vs1) (wLc2 W Wg W1 Wg1 We (own.map (·.2)) vs1) :=
  ⟨pe_lc2 hc hN hi.pi (blkOk_by ok) hvv (fun s H C cl fp => (hg s H C cl fp).pg) (fun s H C cl fp => pts_nil) (fun s H C cl fp => (hi1 s H C cl fp).pi) (fun s H C cl fp => (hg1 s H C cl fp).pg) (fun s H C cl fp => pts_nil) (fun s H C cl fp => (he s H C cl fp).pe) hs hs1,
    li_lc2 (K := X.K) hi.li (hg X.s_0 X.H_0 0 [] []).li (hi1 X.s_0 X.H_0 0 [] []).li (hg1 X.s_0 X.H_0 0 [] []).li (he X.s_0 X.H_0 0 [] []).li hv hv1⟩
end
end Wd
set_option maxRecDepth 100000
set_option maxHeartbeats 2000000
namespace Wd
open PySem PySem.Spec PyProof.Rows L2
local macro_rules | `(tactic| walk_at "wd") => `(tactic| simp only [startW, Ar.sl, List.map_cons, List.map_nil, List.replicate, List.cons_append, List.nil_append, List.length_cons, List.length_nil, Nat.reduceAdd, Nat.reduceSub, List.getElem?_cons_zero, List.getElem?_cons_succ, List.set_cons_zero, List.set_cons_succ,
  wSeq, wNext, wRet, wAsg, wIfS, wBreak, wNever, wExp, wVar, wC, wOp, wUn, wCB, wNil, wCons, wTup, wLst, wKey, intsD, Option.map_some, wIf, wB, wNot, wAnd, wOr, wAndV, wOrV, wNotV, wIsi, wChain, wCall, wcNil, wcCons, wcFeed, gwName, gwNil, gwCons, gwTup, wIdxT, wIdxL, tupK, lstK, wSlT, wSlL, wRev, wStar, spliceD, wLenO, wFrz, wOwnL, wOwnD, wApp, wExt, wPop, wDPut, wDGet, keyD, wPar, wPar3, wParOD, wParDO, blD, intK, strD, woNone, woSome, wiL, wiT, wiS, wiR1, wiR2, wiEnumT, wiZipT, tyOf, kit_ii, kit_bi, kit_bb, kit_ib, kit_ss, kit_tt, kit_ts, kit_si,
  addI, subI, ltI, leI, gtI, geI, negI, isN, notN, isNon, ixD, lenD, min2D, max2D, intD, tupD, lstD, wYes, wipeW, Bool.not_true, Bool.not_false, true_and, and_true, Nat.reduceLeDiff, Nat.zero_le])
def okN (_ : Word) (n : Int) : Prop := -100000 ≤ n ∧ n ≤ 100000
def s_first_passing (n : Nat) : WF := S4 fun a b c e k => ∃ S ss L x, OkS S ∧ OkSts S.ms ss ∧ 0 ≤ x ∧ x ≤ 100000 ∧ L.all okN n ∧ L.size ≤ 100 ∧ a = .da (encS S) ∧ b = .da (encSts ss) ∧ c = .da (encL L) ∧ e = .da (.int x) ∧ k (optI (fpS S ss L x))
theorem z_first_passing : ∀ as k, s_first_passing 0 as k → False := S4.el fun a b c e k ⟨S, ss, L, x, _, _, _, _, h, _⟩ => all0 h
theorem known_map {α : Type} (f : α → Option Int) : ∀ ls : List α, ((ls.filter fun l => (f l).isSome).map fun l => optI (f l)) = (ls.filterMap f).map D.int
  | [] => rfl
  | l :: ls => by
    cases e : f l with
    | none => rw [List.filter_cons_of_neg (by rw [e]; decide), List.filterMap_cons_none e, known_map f ls]
    | some a => rw [List.filter_cons_of_pos (by rw [e]; rfl), List.filterMap_cons_some e, List.map_cons, List.map_cons, known_map f ls, e]; rfl
theorem maxD_ints (ks : List Int) : maxD [.lst (ks.map D.int)] = ks.max?.map D.int := by
  show (intsD (ks.map D.int)).bind _ = _
  rw [intsD_ints]
  rfl
theorem minD_ints (ks : List Int) : minD [.lst (ks.map D.int)] = ks.min?.map D.int := by
  show (intsD (ks.map D.int)).bind _ = _
  rw [intsD_ints]
  rfl
theorem all_imp {p q : Word → Int → Prop} (h : ∀ w n, p w n → q w n) : ∀ (n : Nat) (L : Lim), L.all p n → L.all q n
  | 0, _, hl => (all0 hl).elim
  | n + 1, .pl w r, hl => by unfold Lim.all; exact h w r (all_pl hl)
  | n + 1, .jo b ls, hl => by
    unfold Lim.all
    exact ⟨(all_jo hl).1, (alls_iff q n ls).mpr fun l hm => all_imp h n l ((all_jo hl).2 l hm)⟩
theorem sc_first_passing : FnScope ["site", "stays", "limit", "base", "word", "own", "found", "one", "known", "day"] ["site", "stays", "limit", "base"] (defScope (top 48)) := ⟨rfl, rfl, rfl, by decide +kernel, rfl, by decide +kernel, by decide +kernel⟩
theorem okZ_first_passing {P : Program} {w : World} {K : PySem.W.Frag} {mg : Str → Option Value} {base : Heap} (E : En K mg) : Ok P w K mg base 4 "first_passing" ["site", "stays", "limit", "base"] (fun _ _ => False) := by
  refine mkOk E 33 d_first_passing rfl rfl rfl rfl rfl fun fd F => ⟨FunD.okW F sc_first_passing falseS fun cdv A outer s H Er hr => ⟨tNever, wNever, ssw_never, fun _ _ h => h.elim⟩, F.bindsN fun _ _ _ _ _ _ us hl => match us, hl with | [_, _, _, _], _ => rfl⟩
theorem okS_first_passing {P : Program} {w : World} {K : PySem.W.Frag} {mg : Str → Option Value} {base : Heap} (E : En K mg) (n : Nat) (G_first_passing : Ok P w K mg base (4 + n) "first_passing" ["site", "stays", "limit", "base"] (s_first_passing n)) : Ok P w K mg base (4 + n + 1) "first_passing" ["site", "stays", "limit", "base"] (s_first_passing (n + 1)) := by
  have T := E.t
  have G_plain_passing := ok_plain_passing (P := P) (w := w) (base := base) E
  refine mkOk E 33 d_first_passing rfl rfl rfl rfl rfl fun fd F => ⟨FunD.okW F sc_first_passing S4.len fun cdv A outer s H Er hr => ?_, F.bindsN fun _ _ _ _ _ _ us hl => match us, hl with | [_, _, _, _], _ => rfl⟩
  have nd := sc_first_passing.nd
  refine ⟨_, _, (ssw_cons (sasg (ew_var 2) (ktup K (n := 2) (gsc (gw_name 4 nd) (gsc (gw_name 5 nd) gsw_nil)))) (ssw_cons (sw_if (tkin K (ew_var 4) (kktup K T.COUNT_WORDS)) (ssw_one (sw_ret (kcall K G_plain_passing (hr.mono (by omega)) (cw_cons (ew_var 0) (cw_cons (ew_var 1) (cw_cons (ew_var 4) (cw_cons (ew_var 5) (cw_cons (ew_var 3) cw_nil)))))))) ssw_nil) (ssw_cons (ssetLc (i := 6) [("one", 7)] nd (kiT K (ew_var 5)) (by show blkC ["site", "stays", "limit", "base", "word", "own", "found", "one", "known", "day"] (defScope (top 48)) _ _ = true; decide +kernel) (fun _ _ _ _ _ => (gw_name 7 nd)) (fun _ _ _ _ _ => qw_nil) (fun _ _ _ _ _ => (kcall K G_first_passing (hr.mono (by omega)) (cw_cons (ew_var 0) (cw_cons (ew_var 1) (cw_cons (ew_var 7) (cw_cons (ew_var 3) cw_nil))))))) (ssw_cons (ssetLc (i := 8) [("day", 9)] nd (kiL K (ew_var 6)) (by show blkC ["site", "stays", "limit", "base", "word", "own", "found", "one", "known", "day"] (defScope (top 48)) _ _ = true; decide +kernel) (fun _ _ _ _ _ => (gw_name 9 nd)) (fun _ _ _ _ _ => (qw_one (tw_cmp op_notN lo_notN (ew_var 9) ew_non (nomark _)))) (fun _ _ _ _ _ => (ew_var 9))) (ssw_cons (sw_if (tkeq K hr.units (ew_var 4) ew_str) (ssw_one (sw_ret (ew_if (tkne K hr.units (ew_var 8) (ew_lst aw_nil)) (kB K (rr := rMin) (cr_min rfl) lc_min T.min bb_min (aw_cons (ew_var 8) aw_nil)) ew_non))) ssw_nil) (ssw_one (sw_ret (ew_if (tkeq K hr.units (kB K (rr := rLenK) call_len lc_len T.len bb_len (aw_cons (ew_var 8) aw_nil)) (kB K (rr := rLenK) call_len lc_len T.len bb_len (aw_cons (ew_var 6) aw_nil))) (kB K (rr := rMax) (cr_max rfl) lc_max T.max bb_max (aw_cons (ew_var 8) aw_nil)) ew_non)))))))), S4.el ?_⟩
  rintro _ _ _ _ k ⟨S, ss, L, x, hS, hs, h0, hx, hL, hz, rfl, rfl, rfl, rfl, h⟩
  cases L with
  | pl w r =>
    have hr := all_pl hL
    rw [← fp_pl] at h
    cases w
    · exact ⟨rfl, S, ss, .hours, r, x, hS, hs, h0, hx, hr.2, hr.1, rfl, rfl, rfl, rfl, rfl, h⟩
    · exact ⟨rfl, S, ss, .cycles, r, x, hS, hs, h0, hx, hr.2, hr.1, rfl, rfl, rfl, rfl, rfl, h⟩
    · exact ⟨rfl, S, ss, .days, r, x, hS, hs, h0, hx, hr.2, hr.1, rfl, rfl, rfl, rfl, rfl, h⟩
  | jo b ls =>
    obtain ⟨hne, hall⟩ := all_jo hL
    rw [fp_jo hS hs h0 b hne] at h
    have hz : 1 + sizes ls ≤ 100 := by unfold Lim.size at hz; exact hz
    have hll := sizes_len ls
    have hkl : (ls.filterMap fun l => fpS S ss l x).length ≤ ls.length := List.length_filterMap_le _ _
    have key : ∀ (d0 : List Sl → Prop), d0 = d0 := fun _ => rfl
    cases b
    all_goals
      refine ⟨rfl, by rw [encLs_eq, List.length_map]; omega, ?_⟩
      rw [encLs_eq]
      refine lc_map encL (fun l => optI (fpS S ss l x)) ls [] (fun l hl kk hk => ⟨S, ss, l, x, hS, hs, h0, hx, hall l hl, by have := sizes_mem hl; omega, rfl, rfl, rfl, rfl, hk⟩) ?_
      refine ⟨show (ls.map fun l => optI (fpS S ss l x)).length ≤ 1000 by rw [List.length_map]; omega, ?_⟩
      refine lc_filter (fun l => optI (fpS S ss l x)) (fun l => (fpS S ss l x).isSome) (fun l => optI (fpS S ss l x)) ls [] (fun l hl kk kn h1 h2 => ?_) ?_
      · cases e : fpS S ss l x with
        | none => exact h2 (by rw [e]; rfl)
        | some a =>
          have := h1 (by rw [e]; rfl)
          rw [e] at this
          exact this
      rw [List.nil_append, known_map (fun l => fpS S ss l x) ls]
    · rw [if_neg (by decide)] at h
      show (match decide ((((ls.filterMap fun l => fpS S ss l x).map D.int).length : Int) = ((ls.map fun l => optI (fpS S ss l x)).length : Int)) with | true => (match maxD [.lst ((ls.filterMap fun l => fpS S ss l x).map D.int)] with | some d => k d | none => False) | false => k .non)
      rw [List.length_map, List.length_map, maxD_ints]
      generalize hks : (ls.filterMap fun l => fpS S ss l x) = ks at h hkl ⊢
      by_cases he : ks.length = ls.length
      · rw [decide_eq_true (by omega)]
        rw [if_pos he] at h
        cases em : ks.max? with
        | none =>
          have := List.max?_eq_none_iff.mp em
          subst this
          exact absurd (List.length_eq_zero_iff.mp he.symm) hne
        | some a =>
          rw [em] at h
          exact h
      · rw [decide_eq_false (by omega)]
        rw [if_neg he] at h
        exact h
    · rw [if_pos rfl] at h
      refine ⟨show 0 ≤ 1000 by decide, ?_⟩
      show (match neD (.lst ((ls.filterMap fun l => fpS S ss l x).map D.int)) (.lst []) with | some d => _ | none => False)
      rw [ne_nil (fun d hd => by obtain ⟨i, _, rfl⟩ := List.mem_map.mp hd; exact py_int _ _)]
      generalize hks : (ls.filterMap fun l => fpS S ss l x) = ks at h hkl ⊢
      cases ks with
      | nil => exact h
      | cons a r =>
        show (match minD [.lst ((a :: r).map D.int)] with | some d => k d | none => False)
        rw [minD_ints]
        cases em : (a :: r).min? with
        | none => cases List.min?_eq_none_iff.mp em
        | some m =>
          rw [em] at h
          exact h
theorem okR_first_passing {P : Program} {w : World} {K : PySem.W.Frag} {mg : Str → Option Value} {base : Heap} (E : En K mg) : ∀ n, Ok P w K mg base (4 + n) "first_passing" ["site", "stays", "limit", "base"] (s_first_passing n)
  | 0 => (okZ_first_passing E).imp z_first_passing
  | n + 1 => okS_first_passing E n (okR_first_passing E n)
theorem ok_first_passing {P : Program} {w : World} {K : PySem.W.Frag} {mg : Str → Option Value} {base : Heap} (E : En K mg) : Ok P w K mg base (4 + 3) "first_passing" ["site", "stays", "limit", "base"] (s_first_passing 3) := okR_first_passing E 3
def s_passing_day : WF := S4 fun a b c e k => ∃ S z ss L x, OkS S ∧ (z, ss) ∈ S.ps ∧ 0 ≤ x ∧ x ≤ 100000 ∧ L.all (fun _ n => 1 ≤ n ∧ n ≤ 1000) 3 ∧ L.size ≤ 100 ∧ a = .da (encS S) ∧ b = .da (.str z) ∧ c = .da (encL L) ∧ e = .da (.int x) ∧ k (optI (fpS S ss L x))
theorem sc_passing_day : FnScope ["site", "part", "limit", "base", "stays"] ["site", "part", "limit", "base"] (defScope (top 49)) := ⟨rfl, rfl, rfl, by decide +kernel, rfl, by decide +kernel, by decide +kernel⟩
theorem ok_passing_day {P : Program} {w : World} {K : PySem.W.Frag} {mg : Str → Option Value} {base : Heap} (E : En K mg) : Ok P w K mg base 8 "passing_day" ["site", "part", "limit", "base"] s_passing_day := by
  have T := E.t
  have G_stays_of := ok_stays_of (P := P) (w := w) (base := base) E
  have G_require_usable := ok_require_usable (P := P) (w := w) (base := base) E
  have G_is_limit := ok_is_limit (P := P) (w := w) (base := base) E
  have G_is_number := ok_is_number (P := P) (w := w) (base := base) E
  have G_first_passing := ok_first_passing (P := P) (w := w) (base := base) E
  refine mkOk E 34 d_passing_day rfl rfl rfl rfl rfl fun fd F => ⟨FunD.okW F sc_passing_day S4.len fun cdv A outer s H Er hr => ?_, F.bindsN fun _ _ _ _ _ _ us hl => match us, hl with | [_, _, _, _], _ => rfl⟩
  have nd := sc_passing_day.nd
  refine ⟨_, _, (ssw_cons (sw_set 4 nd (kcall K G_stays_of (hr.mono (by omega)) (cw_cons (ew_var 0) (cw_cons (ew_var 1) cw_nil)))) (ssw_cons (sw_expr (kcall K G_require_usable (hr.mono (by omega)) (cw_cons (kcall K G_is_limit (hr.mono (by omega)) (cw_cons (ew_var 2) cw_nil)) (cw_cons ew_str (cw_cons (ew_un un_neg lo_neg ew_int) cw_nil))))) (ssw_cons (sw_expr (kcall K G_require_usable (hr.mono (by omega)) (cw_cons (kcall K G_is_number (hr.mono (by omega)) (cw_cons (ew_var 3) cw_nil)) (cw_cons ew_str (cw_cons (ew_un un_neg lo_neg ew_int) cw_nil))))) (ssw_one (sw_ret (kcall K G_first_passing (hr.mono (by omega)) (cw_cons (ew_var 0) (cw_cons (ew_var 4) (cw_cons (ew_var 2) (cw_cons (ew_var 3) cw_nil)))))))))), S4.el ?_⟩
  rintro _ _ _ _ k ⟨S, z, ss, L, x, hS, hm, h0, hx, hL, hz, rfl, rfl, rfl, rfl, h⟩
  refine ⟨S, z, ss, hS, hm, rfl, rfl, L, rfl, all_imp (fun w n h => h.1) 3 L hL, hz, rfl, ⟨_, rfl⟩, ⟨_, rfl⟩, x, rfl, by rw [decide_eq_true h0], ⟨_, rfl⟩, ⟨_, rfl⟩, ?_⟩
  exact ⟨S, ss, L, x, hS, (hS.psi _ hm).2, h0, hx, all_imp (fun w n h => ⟨by omega, by omega⟩) 3 L hL, hz, rfl, rfl, rfl, rfl, h⟩
end Wd
set_option maxRecDepth 100000
set_option maxHeartbeats 2000000
namespace Wd
open PySem PySem.Spec PyProof.Rows L2
local macro_rules | `(tactic| walk_at "wd") => `(tactic| simp only [startW, Ar.sl, List.map_cons, List.map_nil, List.replicate, List.cons_append, List.nil_append, List.length_cons, List.length_nil, Nat.reduceAdd, Nat.reduceSub, List.getElem?_cons_zero, List.getElem?_cons_succ, List.set_cons_zero, List.set_cons_succ,
  wSeq, wNext, wRet, wAsg, wIfS, wBreak, wNever, wExp, wVar, wC, wOp, wUn, wCB, wNil, wCons, wTup, wLst, wKey, intsD, Option.map_some, wIf, wB, wNot, wAnd, wOr, wAndV, wOrV, wNotV, wIsi, wChain, wCall, wcNil, wcCons, wcFeed, gwName, gwNil, gwCons, gwTup, wIdxT, wIdxL, tupK, lstK, wSlT, wSlL, wRev, wStar, spliceD, wLenO, wFrz, wOwnL, wOwnD, wApp, wExt, wPop, wDPut, wDGet, keyD, wPar, wPar3, wParOD, wParDO, blD, intK, strD, woNone, woSome, wiL, wiT, wiS, wiR1, wiR2, wiEnumT, wiZipT, tyOf, kit_ii, kit_bi, kit_bb, kit_ib, kit_ss, kit_tt, kit_ts, kit_si,
  addI, subI, ltI, leI, gtI, geI, negI, isN, notN, isNon, ixD, lenD, min2D, max2D, intD, tupD, lstD, wYes, wipeW, Bool.not_true, Bool.not_false, true_and, and_true, Nat.reduceLeDiff, Nat.zero_le])
/-! ### duedays -/
theorem dc_map {α : Type} (enc : α → D) (p : α → Str) (f : α → D) {g : WG} {tk tv : WE} {ρ : List Sl} {k : List (Str × D) → Prop} : ∀ (xs : List α) (acc : List (Str × D)),
    (∀ x ∈ xs, ∀ kk : Str → D → Prop, kk (p x) (f x) → g (enc x) ρ fun ρ' => tk ρ' fun kd => strD kd fun ks => tv ρ' fun d => kk ks d) → k (dicMerge acc (xs.map fun x => (p x, f x))) → dcGo g tk tv ρ (xs.map enc) acc k
  | [], acc, _, h => h
  | x :: xs, acc, h2, h => by
    refine h2 x List.mem_cons_self (fun ks d => dcGo g tk tv ρ (xs.map enc) (dicPut acc ks d) k) ?_
    exact dc_map enc p f xs _ (fun y hy => h2 y (List.mem_cons_of_mem _ hy)) h
def s_task_named : WF := S2 fun a b k => ∃ S t, OkS S ∧ t ∈ S.ts ∧ a = .da (encS S) ∧ b = .da (.str (Task.nm t)) ∧ k (encT t)
theorem sc_task_named : FnScope ["site", "name", "machines", "parts", "tasks", "known", "task"] ["site", "name"] (defScope (top 52)) := ⟨rfl, rfl, rfl, by decide +kernel, rfl, by decide +kernel, by decide +kernel⟩
theorem ok_task_named {P : Program} {w : World} {K : PySem.W.Frag} {mg : Str → Option Value} {base : Heap} (E : En K mg) : Ok P w K mg base 2 "task_named" ["site", "name"] s_task_named := by
  have T := E.t
  have G_require_usable := ok_require_usable (P := P) (w := w) (base := base) E
  refine mkOk E 35 d_task_named rfl rfl rfl rfl rfl fun fd F => ⟨FunD.okW F sc_task_named S2.len fun cdv A outer s H Er hr => ?_, F.bindsN fun _ _ _ _ _ _ us hl => match us, hl with | [_, _], _ => rfl⟩
  have nd := sc_task_named.nd
  refine ⟨_, _, (ssw_cons (sasg (ew_var 0) (ktup K (n := 3) (gsc (gw_name 2 nd) (gsc (gw_name 3 nd) (gsc (gw_name 4 nd) gsw_nil))))) (ssw_cons (ssetDc (i := 5) [("task", 6)] nd (kiT K (ew_var 4)) (by show blkC ["site", "name", "machines", "parts", "tasks", "known", "task"] (defScope (top 52)) _ _ = true; decide +kernel) (fun _ _ _ _ _ => (gw_name 6 nd)) (fun _ _ _ _ _ => (kix K (ew_var 6) ew_int (fun _ _ => rfl))) (fun _ _ _ _ _ => (ew_var 6))) (ssw_cons (sw_expr (kcall K G_require_usable (hr.mono (by omega)) (cw_cons (ew_and (kisi K (T := "str") (ew_var 1) T.isinstance T.str bb_str) (ew_one (edin (hu_of hr) (ew_var 1) (ew_var 5)))) (cw_cons ew_str (cw_cons (ew_un un_neg lo_neg ew_int) cw_nil))))) (ssw_one (sw_ret (ew_dget (hu_of hr) (ew_var 5) (ew_var 1))))))), S2.el ?_⟩
  rintro _ _ k ⟨S, t, hS, ht, rfl, rfl, h⟩
  have hg : dicGet (dicMerge [] (S.ts.map fun t => (t.nm, encT t))) t.nm = some (encT t) :=
    merge_in _ _ (by rw [List.map_map]; exact hS.tsn) (List.mem_map_of_mem (f := fun t : Task => (t.nm, encT t)) ht)
  refine ⟨rfl, by rw [List.length_map]; have := hS.tsl; omega, dc_map encT Task.nm encT S.ts [] (fun x _ kk hk => hk) ?_⟩
  show s_require_usable [.da (.bl (dicGet (dicMerge [] (S.ts.map fun t => (t.nm, encT t))) t.nm).isSome), _, _] fun _ => (match dicGet (dicMerge [] (S.ts.map fun t => (t.nm, encT t))) t.nm with | some d => k d | none => False)
  rw [hg]
  exact ⟨rfl, ⟨_, rfl⟩, ⟨_, rfl⟩, h⟩
def s_moved_limit (n : Nat) : WF := S2 fun a b k => ∃ L m, L.all (fun _ _ => True) n ∧ L.size ≤ 100 ∧ a = .da (encL L) ∧ b = .da (.tup (N3.ds m)) ∧ k (encL (widL m L))
theorem z_moved_limit : ∀ as k, s_moved_limit 0 as k → False := S2.el fun a b k ⟨L, m, h, _⟩ => all0 h
theorem wid_jo (m : N3) (b : Bool) (ls : List Lim) : encL (widL m (.jo b ls)) = .tup [.str (joS b), .tup (ls.map fun l => encL (widL m l))] := by
  rw [show widL m (.jo b ls) = .jo b (widLs m ls) by unfold widL; rfl, show encL (.jo b (widLs m ls)) = .tup [.str (joS b), .tup (encLs (widLs m ls))] by unfold encL; rfl, encLs_eq, widLs_eq, List.map_map]
  rfl
theorem sc_moved_limit : FnScope ["limit", "steps", "word", "own", "one"] ["limit", "steps"] (defScope (top 53)) := ⟨rfl, rfl, rfl, by decide +kernel, rfl, by decide +kernel, by decide +kernel⟩
theorem okZ_moved_limit {P : Program} {w : World} {K : PySem.W.Frag} {mg : Str → Option Value} {base : Heap} (E : En K mg) : Ok P w K mg base 1 "moved_limit" ["limit", "steps"] (fun _ _ => False) := by
  refine mkOk E 36 d_moved_limit rfl rfl rfl rfl rfl fun fd F => ⟨FunD.okW F sc_moved_limit falseS fun cdv A outer s H Er hr => ⟨tNever, wNever, ssw_never, fun _ _ h => h.elim⟩, F.bindsN fun _ _ _ _ _ _ us hl => match us, hl with | [_, _], _ => rfl⟩
theorem okS_moved_limit {P : Program} {w : World} {K : PySem.W.Frag} {mg : Str → Option Value} {base : Heap} (E : En K mg) (n : Nat) (G_moved_limit : Ok P w K mg base (1 + n) "moved_limit" ["limit", "steps"] (s_moved_limit n)) : Ok P w K mg base (1 + n + 1) "moved_limit" ["limit", "steps"] (s_moved_limit (n + 1)) := by
  have T := E.t
  refine mkOk E 36 d_moved_limit rfl rfl rfl rfl rfl fun fd F => ⟨FunD.okW F sc_moved_limit S2.len fun cdv A outer s H Er hr => ?_, F.bindsN fun _ _ _ _ _ _ us hl => match us, hl with | [_, _], _ => rfl⟩
  have nd := sc_moved_limit.nd
  refine ⟨_, _, (ssw_cons (sasg (ew_var 0) (ktup K (n := 2) (gsc (gw_name 2 nd) (gsc (gw_name 3 nd) gsw_nil)))) (ssw_cons (sw_if (tkin K (ew_var 2) (kktup K T.COUNT_WORDS)) (ssw_one (sw_ret (ew_tup (aw_cons (ew_var 2) (aw_cons (ew_op op_add lo_add (ew_var 3) (kix K (ew_var 1) (ktidx K (kktup K T.COUNT_WORDS) (ew_var 2)) (fun _ _ => rfl))) aw_nil))))) ssw_nil) (ssw_one (sw_ret (ew_tup (aw_cons (ew_var 2) (aw_cons (kT K (rr := rTupF) call_tupF lc_tup T.tuple bb_tuple (aw_cons (ew_lc [("one", 4)] nd (kiT K (ew_var 3)) (by show blkC ["limit", "steps", "word", "own", "one"] (defScope (top 53)) _ _ = true; decide +kernel) (fun _ _ _ _ _ => (gw_name 4 nd)) (fun _ _ _ _ _ => qw_nil) (fun _ _ _ _ _ => (kcall K G_moved_limit (hr.mono (by omega)) (cw_cons (ew_var 4) (cw_cons (ew_var 1) cw_nil))))) aw_nil)) aw_nil))))))), S2.el ?_⟩
  rintro _ _ k ⟨L, m, hL, hz, rfl, rfl, h⟩
  cases L with
  | pl w r => cases w <;> exact ⟨rfl, show 2 ≤ 1000 by decide, h⟩
  | jo b ls =>
    obtain ⟨hne, hall⟩ := all_jo hL
    have hz : 1 + sizes ls ≤ 100 := by unfold Lim.size at hz; exact hz
    have hll := sizes_len ls
    rw [wid_jo] at h
    cases b
    all_goals
      refine ⟨rfl, by rw [encLs_eq, List.length_map]; omega, ?_⟩
      rw [encLs_eq]
      refine lc_map encL (fun l => encL (widL m l)) ls [] (fun l hl kk hk => ⟨l, m, hall l hl, by have := sizes_mem hl; omega, rfl, rfl, hk⟩) ?_
      exact ⟨show 2 ≤ 1000 by decide, h⟩
theorem okR_moved_limit {P : Program} {w : World} {K : PySem.W.Frag} {mg : Str → Option Value} {base : Heap} (E : En K mg) : ∀ n, Ok P w K mg base (1 + n) "moved_limit" ["limit", "steps"] (s_moved_limit n)
  | 0 => (okZ_moved_limit E).imp z_moved_limit
  | n + 1 => okS_moved_limit E n (okR_moved_limit E n)
theorem ok_moved_limit {P : Program} {w : World} {K : PySem.W.Frag} {mg : Str → Option Value} {base : Heap} (E : En K mg) : Ok P w K mg base (1 + 3) "moved_limit" ["limit", "steps"] (s_moved_limit 3) := okR_moved_limit E 3
def Site.stays (S : Site) (z : Str) : Stays := match S.ps.find? (fun m => decide (m.1 = z)) with
  | some m => m.2
  | none => []
theorem stays_mem {S : Site} (hS : OkS S) {z : Str} {ss : Stays} (h : (z, ss) ∈ S.ps) : S.stays z = ss := by
  unfold Site.stays
  rw [find_mem hS.psn h]
theorem task_stays {S : Site} (hS : OkS S) {t : Task} (h : OkT S t) : (t.pt, S.stays t.pt) ∈ S.ps ∧ OkSts S.ms (S.stays t.pt) := by
  obtain ⟨ss, hm⟩ := h.pt
  rw [stays_mem hS hm]
  exact ⟨hm, (hS.psi _ hm).2⟩
noncomputable def lastS (S : Site) (t : Task) (L : Lim) (x : Int) : Option Int := (fpS S (S.stays t.pt) L x).map (· - 1)
def s_lasting : WF := S4 fun a b c e k => ∃ S t L x, OkS S ∧ OkT S t ∧ 0 ≤ x ∧ x ≤ 100000 ∧ L.all okN 3 ∧ L.size ≤ 100 ∧ a = .da (encS S) ∧ b = .da (encT t) ∧ c = .da (encL L) ∧ e = .da (.int x) ∧ k (optI (lastS S t L x))
theorem sc_lasting : FnScope ["site", "task", "limit", "base", "passing"] ["site", "task", "limit", "base"] (defScope (top 54)) := ⟨rfl, rfl, rfl, by decide +kernel, rfl, by decide +kernel, by decide +kernel⟩
theorem ok_lasting {P : Program} {w : World} {K : PySem.W.Frag} {mg : Str → Option Value} {base : Heap} (E : En K mg) : Ok P w K mg base 8 "lasting" ["site", "task", "limit", "base"] s_lasting := by
  have T := E.t
  have G_first_passing := ok_first_passing (P := P) (w := w) (base := base) E
  have G_stays_of := ok_stays_of (P := P) (w := w) (base := base) E
  refine mkOk E 37 d_lasting rfl rfl rfl rfl rfl fun fd F => ⟨FunD.okW F sc_lasting S4.len fun cdv A outer s H Er hr => ?_, F.bindsN fun _ _ _ _ _ _ us hl => match us, hl with | [_, _, _, _], _ => rfl⟩
  have nd := sc_lasting.nd
  refine ⟨_, _, (ssw_cons (sw_set 4 nd (kcall K G_first_passing (hr.mono (by omega)) (cw_cons (ew_var 0) (cw_cons (kcall K G_stays_of (hr.mono (by omega)) (cw_cons (ew_var 0) (cw_cons (kix K (ew_var 1) ew_int (fun _ _ => rfl)) cw_nil))) (cw_cons (ew_var 2) (cw_cons (ew_var 3) cw_nil)))))) (ssw_one (sw_ret (ew_if (tw_cmp op_isN lo_isN (ew_var 4) ew_non (nomark _)) ew_non (ew_op op_sub lo_sub (ew_var 4) ew_int))))), S4.el ?_⟩
  rintro _ _ _ _ k ⟨S, t, L, x, hS, ht, h0, hx, hL, hz, rfl, rfl, rfl, rfl, h⟩
  obtain ⟨h1, h2⟩ := task_stays hS ht
  refine ⟨S, t.pt, S.stays t.pt, hS, h1, rfl, rfl, S, S.stays t.pt, L, x, hS, h2, h0, hx, hL, hz, rfl, rfl, rfl, rfl, ?_⟩
  unfold lastS at h
  cases e : fpS S (S.stays t.pt) L x with
  | none =>
    rw [e] at h
    exact h
  | some d =>
    rw [e] at h
    exact h
mutual
theorem wid_size (m : N3) : ∀ L : Lim, (widL m L).size = L.size
  | .pl w r => by unfold widL Lim.size; rfl
  | .jo b ls => by unfold widL Lim.size; rw [wid_sizes m ls]
theorem wid_sizes (m : N3) : ∀ ls : List Lim, sizes (widLs m ls) = sizes ls
  | [] => by unfold widLs sizes; rfl
  | l :: ls => by unfold widLs sizes; rw [wid_size m l, wid_sizes m ls]
end
theorem wid_all {p q : Word → Int → Prop} {m : N3} (h : ∀ w r, p w r → q w (r + m.get w)) : ∀ (n : Nat) (L : Lim), L.all p n → (widL m L).all q n
  | 0, _, hl => (all0 hl).elim
  | n + 1, .pl w r, hl => by unfold widL Lim.all; exact h w r (all_pl hl)
  | n + 1, .jo b ls, hl => by
    unfold widL Lim.all
    rw [widLs_eq]
    refine ⟨fun e => (all_jo hl).1 (List.map_eq_nil_iff.mp e), (alls_iff q n _).mpr fun l hm => ?_⟩
    obtain ⟨y, hy, rfl⟩ := List.mem_map.mp hm
    exact wid_all h n y ((all_jo hl).2 y hy)
theorem all_more {p : Word → Int → Prop} : ∀ (n m : Nat) (L : Lim), n ≤ m → L.all p n → L.all p m
  | 0, _, _, _, hl => (all0 hl).elim
  | n + 1, 0, _, h, _ => by omega
  | n + 1, m + 1, .pl w r, h, hl => by unfold Lim.all; exact all_pl hl
  | n + 1, m + 1, .jo b ls, h, hl => by
    unfold Lim.all
    exact ⟨(all_jo hl).1, (alls_iff p m ls).mpr fun l hm => all_more n m l (by omega) ((all_jo hl).2 l hm)⟩
def N3.less (s : N3) : N3 := ⟨0 - s.h - 1, 0 - s.c - 1, 0 - s.d - 1⟩
noncomputable def dueS (S : Site) (t : Task) (x : Int) : Option Int := lastS S t t.lim x
noncomputable def lateS (S : Site) (t : Task) (x : Int) : Option Int := lastS S t (widL t.sl t.lim) x
noncomputable def reachS (S : Site) (t : Task) (x : Int) : Option Int := fpS S (S.stays t.pt) (widL t.sl.less t.lim) x
noncomputable def earlyS (S : Site) (t : Task) (x : Int) : Option Int := match reachS S t x, lateS S t x with
  | none, none => none
  | some a, none => some (max (x + 1) a)
  | none, some b => some b
  | some a, some b => some (min (max (x + 1) a) b)
theorem OkT.ok0 {S : Site} {t : Task} (h : OkT S t) : t.lim.all okN 3 := all_imp (fun w n h => ⟨by omega, by omega⟩) 3 _ h.lim
theorem OkT.ok1 {S : Site} {t : Task} (h : OkT S t) : (widL t.sl t.lim).all okN 3 := wid_all (fun w r q => by
  have h0 := h.s0
  have h1 := h.s1
  cases w
  · exact ⟨show -100000 ≤ r + t.sl.h by omega, show r + t.sl.h ≤ 100000 by omega⟩
  · exact ⟨show -100000 ≤ r + t.sl.c by omega, show r + t.sl.c ≤ 100000 by omega⟩
  · exact ⟨show -100000 ≤ r + t.sl.d by omega, show r + t.sl.d ≤ 100000 by omega⟩) 3 _ h.lim
theorem OkT.ok2 {S : Site} {t : Task} (h : OkT S t) : (widL t.sl.less t.lim).all okN 3 := wid_all (fun w r q => by
  have h0 := h.s0
  have h1 := h.s1
  cases w
  · exact ⟨show -100000 ≤ r + (0 - t.sl.h - 1) by omega, show r + (0 - t.sl.h - 1) ≤ 100000 by omega⟩
  · exact ⟨show -100000 ≤ r + (0 - t.sl.c - 1) by omega, show r + (0 - t.sl.c - 1) ≤ 100000 by omega⟩
  · exact ⟨show -100000 ≤ r + (0 - t.sl.d - 1) by omega, show r + (0 - t.sl.d - 1) ≤ 100000 by omega⟩) 3 _ h.lim
def s_task_due : WF := S3 fun a b c k => ∃ S t x, OkS S ∧ OkT S t ∧ 0 ≤ x ∧ x ≤ 100000 ∧ a = .da (encS S) ∧ b = .da (encT t) ∧ c = .da (.int x) ∧ k (optI (dueS S t x))
theorem sc_task_due : FnScope ["site", "task", "base"] ["site", "task", "base"] (defScope (top 55)) := ⟨rfl, rfl, rfl, by decide +kernel, rfl, by decide +kernel, by decide +kernel⟩
theorem ok_task_due {P : Program} {w : World} {K : PySem.W.Frag} {mg : Str → Option Value} {base : Heap} (E : En K mg) : Ok P w K mg base 9 "task_due" ["site", "task", "base"] s_task_due := by
  have T := E.t
  have G_lasting := ok_lasting (P := P) (w := w) (base := base) E
  refine mkOk E 38 d_task_due rfl rfl rfl rfl rfl fun fd F => ⟨FunD.okW F sc_task_due S3.len fun cdv A outer s H Er hr => ?_, F.bindsN fun _ _ _ _ _ _ us hl => match us, hl with | [_, _, _], _ => rfl⟩
  have nd := sc_task_due.nd
  refine ⟨_, _, (ssw_one (sw_ret (kcall K G_lasting (hr.mono (by omega)) (cw_cons (ew_var 0) (cw_cons (ew_var 1) (cw_cons (kix K (ew_var 1) ew_int (fun _ _ => rfl)) (cw_cons (ew_var 2) cw_nil))))))), S3.el ?_⟩
  rintro _ _ _ k ⟨S, t, x, hS, ht, h0, hx, rfl, rfl, rfl, h⟩
  exact ⟨S, t, t.lim, x, hS, ht, h0, hx, ht.ok0, ht.siz, rfl, rfl, rfl, rfl, h⟩
def s_task_late : WF := S3 fun a b c k => ∃ S t x, OkS S ∧ OkT S t ∧ 0 ≤ x ∧ x ≤ 100000 ∧ a = .da (encS S) ∧ b = .da (encT t) ∧ c = .da (.int x) ∧ k (optI (lateS S t x))
theorem sc_task_late : FnScope ["site", "task", "base"] ["site", "task", "base"] (defScope (top 56)) := ⟨rfl, rfl, rfl, by decide +kernel, rfl, by decide +kernel, by decide +kernel⟩
theorem ok_task_late {P : Program} {w : World} {K : PySem.W.Frag} {mg : Str → Option Value} {base : Heap} (E : En K mg) : Ok P w K mg base 9 "task_late" ["site", "task", "base"] s_task_late := by
  have T := E.t
  have G_lasting := ok_lasting (P := P) (w := w) (base := base) E
  have G_widened := ok_widened (P := P) (w := w) (base := base) E
  refine mkOk E 39 d_task_late rfl rfl rfl rfl rfl fun fd F => ⟨FunD.okW F sc_task_late S3.len fun cdv A outer s H Er hr => ?_, F.bindsN fun _ _ _ _ _ _ us hl => match us, hl with | [_, _, _], _ => rfl⟩
  have nd := sc_task_late.nd
  refine ⟨_, _, (ssw_one (sw_ret (kcall K G_lasting (hr.mono (by omega)) (cw_cons (ew_var 0) (cw_cons (ew_var 1) (cw_cons (kcall K G_widened (hr.mono (by omega)) (cw_cons (kix K (ew_var 1) ew_int (fun _ _ => rfl)) (cw_cons (kix K (ew_var 1) ew_int (fun _ _ => rfl)) cw_nil))) (cw_cons (ew_var 2) cw_nil))))))), S3.el ?_⟩
  rintro _ _ _ k ⟨S, t, x, hS, ht, h0, hx, rfl, rfl, rfl, h⟩
  exact ⟨t.lim, t.sl, rfl, rfl, all_more 3 40 _ (by decide) (all_imp (fun _ _ _ => trivial) 3 _ ht.lim), ht.siz, S, t, widL t.sl t.lim, x, hS, ht, h0, hx, ht.ok1, by rw [wid_size]; exact ht.siz, rfl, rfl, rfl, rfl, h⟩
def s_task_early : WF := S3 fun a b c k => ∃ S t x, OkS S ∧ OkT S t ∧ 0 ≤ x ∧ x ≤ 100000 ∧ a = .da (encS S) ∧ b = .da (encT t) ∧ c = .da (.int x) ∧ k (optI (earlyS S t x))
theorem sc_task_early : FnScope ["site", "task", "base", "lessened", "own", "reached", "late", "days"] ["site", "task", "base"] (defScope (top 57)) := ⟨rfl, rfl, rfl, by decide +kernel, rfl, by decide +kernel, by decide +kernel⟩
theorem ok_task_early {P : Program} {w : World} {K : PySem.W.Frag} {mg : Str → Option Value} {base : Heap} (E : En K mg) : Ok P w K mg base 10 "task_early" ["site", "task", "base"] s_task_early := by
  have T := E.t
  have G_moved_limit := ok_moved_limit (P := P) (w := w) (base := base) E
  have G_task_late := ok_task_late (P := P) (w := w) (base := base) E
  have G_first_passing := ok_first_passing (P := P) (w := w) (base := base) E
  have G_stays_of := ok_stays_of (P := P) (w := w) (base := base) E
  refine mkOk E 40 d_task_early rfl rfl rfl rfl rfl fun fd F => ⟨FunD.okW F sc_task_early S3.len fun cdv A outer s H Er hr => ?_, F.bindsN fun _ _ _ _ _ _ us hl => match us, hl with | [_, _, _], _ => rfl⟩
  have nd := sc_task_early.nd
  refine ⟨_, _, (ssw_cons (sw_set 3 nd (kcall K G_moved_limit (hr.mono (by omega)) (cw_cons (kix K (ew_var 1) ew_int (fun _ _ => rfl)) (cw_cons (kT K (rr := rTupF) call_tupF lc_tup T.tuple bb_tuple (aw_cons (ew_lc [("own", 4)] nd (kiT K (kix K (ew_var 1) ew_int (fun _ _ => rfl))) (by show blkC ["site", "task", "base", "lessened", "own", "reached", "late", "days"] (defScope (top 57)) _ _ = true; decide +kernel) (fun _ _ _ _ _ => (gw_name 4 nd)) (fun _ _ _ _ _ => qw_nil) (fun _ _ _ _ _ => (ew_op op_sub lo_sub (ew_op op_sub lo_sub ew_int (ew_var 4)) ew_int))) aw_nil)) cw_nil)))) (ssw_cons (spar (i := 5) (j := 6) nd (aw_cons (kcall K G_first_passing (hr.mono (by omega)) (cw_cons (ew_var 0) (cw_cons (kcall K G_stays_of (hr.mono (by omega)) (cw_cons (ew_var 0) (cw_cons (kix K (ew_var 1) ew_int (fun _ _ => rfl)) cw_nil))) (cw_cons (ew_var 3) (cw_cons (ew_var 2) cw_nil))))) (aw_cons (kcall K G_task_late (hr.mono (by omega)) (cw_cons (ew_var 0) (cw_cons (ew_var 1) (cw_cons (ew_var 2) cw_nil)))) aw_nil))) (ssw_cons (sw_set 7 nd (ew_if (tw_cmp op_notN lo_notN (ew_var 5) ew_non (nomark _)) (ew_lst (aw_cons (kB K (rr := rMax2K) (call_max2 rfl) lc_max2 T.max bb_max (aw_cons (ew_op op_add lo_add (ew_var 2) ew_int) (aw_cons (ew_var 5) aw_nil))) aw_nil)) (ew_lst aw_nil))) (ssw_cons (sw_set 7 nd (ew_if (tw_cmp op_notN lo_notN (ew_var 6) ew_non (nomark _)) (ew_op op_cat lo_addL (ew_var 7) (ew_lst (aw_cons (ew_var 6) aw_nil))) (ew_var 7))) (ssw_one (sw_ret (ew_if (tkne K hr.units (ew_var 7) (ew_lst aw_nil)) (kB K (rr := rMin) (cr_min rfl) lc_min T.min bb_min (aw_cons (ew_var 7) aw_nil)) ew_non))))))), S3.el ?_⟩
  rintro _ _ _ k ⟨S, t, x, hS, ht, h0, hx, rfl, rfl, rfl, h⟩
  obtain ⟨h1, h2⟩ := task_stays hS ht
  refine ⟨show 3 ≤ 1000 by decide, t.lim, t.sl.less, all_imp (fun _ _ _ => trivial) 3 _ ht.lim, ht.siz, rfl, rfl, S, t.pt, S.stays t.pt, hS, h1, rfl, rfl, S, S.stays t.pt, widL t.sl.less t.lim, x, hS, h2, h0, hx, ht.ok2, by rw [wid_size]; exact ht.siz, rfl, rfl, rfl, rfl, S, t, x, hS, ht, h0, hx, rfl, rfl, rfl, ?_⟩
  have er : fpS S (S.stays t.pt) (widL t.sl.less t.lim) x = reachS S t x := rfl
  rw [er]
  unfold earlyS at h
  have hm : ∀ a : Int, (if a > x + 1 then a else x + 1) = max (x + 1) a := fun a => by split <;> omega
  cases e1 : reachS S t x with
  | none =>
    cases e2 : lateS S t x with
    | none =>
      rw [e1, e2] at h
      walk_at "wd"
      simp only [optI]
      rw [ne_nil (ds := []) (fun d hd => by cases hd)]
      exact h
    | some b =>
      rw [e1, e2] at h
      walk_at "wd"
      simp only [optI, addL, List.length_nil, List.length_cons, Nat.reduceAdd, Nat.reduceLeDiff, if_true, List.nil_append]
      rw [ne_nil (fun d hd => by rw [List.mem_singleton.mp hd]; exact py_int _ _)]
      exact h
  | some a =>
    cases e2 : lateS S t x with
    | none =>
      rw [e1, e2] at h
      walk_at "wd"
      simp only [optI]
      rw [ne_nil (fun d hd => by rw [List.mem_singleton.mp hd]; exact py_int _ _)]
      have h : k (.int (max (x + 1) a)) := h
      rw [← hm] at h
      exact h
    | some b =>
      rw [e1, e2] at h
      walk_at "wd"
      simp only [optI, addL, List.length_nil, List.length_cons, Nat.reduceAdd, Nat.reduceLeDiff, if_true, List.nil_append, List.cons_append]
      rw [ne_nil (fun d hd => by
        rcases List.mem_cons.mp hd with q | q
        · rw [q]; exact py_int _ _
        · rw [List.mem_singleton.mp q]; exact py_int _ _)]
      have h : k (.int (min (max (x + 1) a) b)) := h
      rw [← hm] at h
      exact h
def s_named_base : WF := S3 fun a b c k => ∃ S t x, OkS S ∧ t ∈ S.ts ∧ 0 ≤ x ∧ x ≤ 100000 ∧ a = .da (encS S) ∧ b = .da (.str (Task.nm t)) ∧ c = .da (.int x) ∧ k (encT t)
theorem sc_named_base : FnScope ["site", "name", "base", "task"] ["site", "name", "base"] (defScope (top 58)) := ⟨rfl, rfl, rfl, by decide +kernel, rfl, by decide +kernel, by decide +kernel⟩
theorem ok_named_base {P : Program} {w : World} {K : PySem.W.Frag} {mg : Str → Option Value} {base : Heap} (E : En K mg) : Ok P w K mg base 3 "named_base" ["site", "name", "base"] s_named_base := by
  have T := E.t
  have G_task_named := ok_task_named (P := P) (w := w) (base := base) E
  have G_require_usable := ok_require_usable (P := P) (w := w) (base := base) E
  have G_is_number := ok_is_number (P := P) (w := w) (base := base) E
  refine mkOk E 41 d_named_base rfl rfl rfl rfl rfl fun fd F => ⟨FunD.okW F sc_named_base S3.len fun cdv A outer s H Er hr => ?_, F.bindsN fun _ _ _ _ _ _ us hl => match us, hl with | [_, _, _], _ => rfl⟩
  have nd := sc_named_base.nd
  refine ⟨_, _, (ssw_cons (sw_set 3 nd (kcall K G_task_named (hr.mono (by omega)) (cw_cons (ew_var 0) (cw_cons (ew_var 1) cw_nil)))) (ssw_cons (sw_expr (kcall K G_require_usable (hr.mono (by omega)) (cw_cons (kcall K G_is_number (hr.mono (by omega)) (cw_cons (ew_var 2) cw_nil)) (cw_cons ew_str (cw_cons (ew_un un_neg lo_neg ew_int) cw_nil))))) (ssw_one (sw_ret (ew_var 3))))), S3.el ?_⟩
  rintro _ _ _ k ⟨S, t, x, hS, ht, h0, hx, rfl, rfl, rfl, h⟩
  exact ⟨S, t, hS, ht, rfl, rfl, x, rfl, by rw [decide_eq_true h0], ⟨_, rfl⟩, ⟨_, rfl⟩, h⟩
def s_due_day : WF := S3 fun a b c k => ∃ S t x, OkS S ∧ t ∈ S.ts ∧ 0 ≤ x ∧ x ≤ 100000 ∧ a = .da (encS S) ∧ b = .da (.str (Task.nm t)) ∧ c = .da (.int x) ∧ k (optI (dueS S t x))
theorem sc_due_day : FnScope ["site", "name", "base"] ["site", "name", "base"] (defScope (top 59)) := ⟨rfl, rfl, rfl, by decide +kernel, rfl, by decide +kernel, by decide +kernel⟩
theorem ok_due_day {P : Program} {w : World} {K : PySem.W.Frag} {mg : Str → Option Value} {base : Heap} (E : En K mg) : Ok P w K mg base 10 "due_day" ["site", "name", "base"] s_due_day := by
  have T := E.t
  have G_task_due := ok_task_due (P := P) (w := w) (base := base) E
  have G_named_base := ok_named_base (P := P) (w := w) (base := base) E
  refine mkOk E 42 d_due_day rfl rfl rfl rfl rfl fun fd F => ⟨FunD.okW F sc_due_day S3.len fun cdv A outer s H Er hr => ?_, F.bindsN fun _ _ _ _ _ _ us hl => match us, hl with | [_, _, _], _ => rfl⟩
  have nd := sc_due_day.nd
  refine ⟨_, _, (ssw_one (sw_ret (kcall K G_task_due (hr.mono (by omega)) (cw_cons (ew_var 0) (cw_cons (kcall K G_named_base (hr.mono (by omega)) (cw_cons (ew_var 0) (cw_cons (ew_var 1) (cw_cons (ew_var 2) cw_nil)))) (cw_cons (ew_var 2) cw_nil)))))), S3.el ?_⟩
  rintro _ _ _ k ⟨S, t, x, hS, ht, h0, hx, rfl, rfl, rfl, h⟩
  exact ⟨S, t, x, hS, ht, h0, hx, rfl, rfl, rfl, S, t, x, hS, (hS.tsi t ht).2, h0, hx, rfl, rfl, rfl, h⟩
def s_late_day : WF := S3 fun a b c k => ∃ S t x, OkS S ∧ t ∈ S.ts ∧ 0 ≤ x ∧ x ≤ 100000 ∧ a = .da (encS S) ∧ b = .da (.str (Task.nm t)) ∧ c = .da (.int x) ∧ k (optI (lateS S t x))
theorem sc_late_day : FnScope ["site", "name", "base"] ["site", "name", "base"] (defScope (top 60)) := ⟨rfl, rfl, rfl, by decide +kernel, rfl, by decide +kernel, by decide +kernel⟩
theorem ok_late_day {P : Program} {w : World} {K : PySem.W.Frag} {mg : Str → Option Value} {base : Heap} (E : En K mg) : Ok P w K mg base 10 "late_day" ["site", "name", "base"] s_late_day := by
  have T := E.t
  have G_task_late := ok_task_late (P := P) (w := w) (base := base) E
  have G_named_base := ok_named_base (P := P) (w := w) (base := base) E
  refine mkOk E 43 d_late_day rfl rfl rfl rfl rfl fun fd F => ⟨FunD.okW F sc_late_day S3.len fun cdv A outer s H Er hr => ?_, F.bindsN fun _ _ _ _ _ _ us hl => match us, hl with | [_, _, _], _ => rfl⟩
  have nd := sc_late_day.nd
  refine ⟨_, _, (ssw_one (sw_ret (kcall K G_task_late (hr.mono (by omega)) (cw_cons (ew_var 0) (cw_cons (kcall K G_named_base (hr.mono (by omega)) (cw_cons (ew_var 0) (cw_cons (ew_var 1) (cw_cons (ew_var 2) cw_nil)))) (cw_cons (ew_var 2) cw_nil)))))), S3.el ?_⟩
  rintro _ _ _ k ⟨S, t, x, hS, ht, h0, hx, rfl, rfl, rfl, h⟩
  exact ⟨S, t, x, hS, ht, h0, hx, rfl, rfl, rfl, S, t, x, hS, (hS.tsi t ht).2, h0, hx, rfl, rfl, rfl, h⟩
def s_early_day : WF := S3 fun a b c k => ∃ S t x, OkS S ∧ t ∈ S.ts ∧ 0 ≤ x ∧ x ≤ 100000 ∧ a = .da (encS S) ∧ b = .da (.str (Task.nm t)) ∧ c = .da (.int x) ∧ k (optI (earlyS S t x))
theorem sc_early_day : FnScope ["site", "name", "base"] ["site", "name", "base"] (defScope (top 61)) := ⟨rfl, rfl, rfl, by decide +kernel, rfl, by decide +kernel, by decide +kernel⟩
theorem ok_early_day {P : Program} {w : World} {K : PySem.W.Frag} {mg : Str → Option Value} {base : Heap} (E : En K mg) : Ok P w K mg base 11 "early_day" ["site", "name", "base"] s_early_day := by
  have T := E.t
  have G_task_early := ok_task_early (P := P) (w := w) (base := base) E
  have G_named_base := ok_named_base (P := P) (w := w) (base := base) E
  refine mkOk E 44 d_early_day rfl rfl rfl rfl rfl fun fd F => ⟨FunD.okW F sc_early_day S3.len fun cdv A outer s H Er hr => ?_, F.bindsN fun _ _ _ _ _ _ us hl => match us, hl with | [_, _, _], _ => rfl⟩
  have nd := sc_early_day.nd
  refine ⟨_, _, (ssw_one (sw_ret (kcall K G_task_early (hr.mono (by omega)) (cw_cons (ew_var 0) (cw_cons (kcall K G_named_base (hr.mono (by omega)) (cw_cons (ew_var 0) (cw_cons (ew_var 1) (cw_cons (ew_var 2) cw_nil)))) (cw_cons (ew_var 2) cw_nil)))))), S3.el ?_⟩
  rintro _ _ _ k ⟨S, t, x, hS, ht, h0, hx, rfl, rfl, rfl, h⟩
  exact ⟨S, t, x, hS, ht, h0, hx, rfl, rfl, rfl, S, t, x, hS, (hS.tsi t ht).2, h0, hx, rfl, rfl, rfl, h⟩
end Wd
set_option maxRecDepth 100000
set_option maxHeartbeats 2000000
namespace Wd
open PySem PySem.Spec PyProof.Rows L2
local macro_rules | `(tactic| walk_at "wd") => `(tactic| simp only [startW, Ar.sl, List.map_cons, List.map_nil, List.replicate, List.cons_append, List.nil_append, List.length_cons, List.length_nil, Nat.reduceAdd, Nat.reduceSub, List.getElem?_cons_zero, List.getElem?_cons_succ, List.set_cons_zero, List.set_cons_succ,
  wSeq, wNext, wRet, wAsg, wIfS, wBreak, wNever, wExp, wVar, wC, wOp, wUn, wCB, wNil, wCons, wTup, wLst, wKey, intsD, Option.map_some, wIf, wB, wNot, wAnd, wOr, wAndV, wOrV, wNotV, wIsi, wChain, wCall, wcNil, wcCons, wcFeed, gwName, gwNil, gwCons, gwTup, wIdxT, wIdxL, tupK, lstK, wSlT, wSlL, wRev, wStar, spliceD, wLenO, wFrz, wOwnL, wOwnD, wApp, wExt, wPop, wDPut, wDGet, keyD, wPar, wPar3, wParOD, wParDO, blD, intK, strD, woNone, woSome, wiL, wiT, wiS, wiR1, wiR2, wiEnumT, wiZipT, tyOf, kit_ii, kit_bi, kit_bb, kit_ib, kit_ss, kit_tt, kit_ts, kit_si,
  addI, subI, ltI, leI, gtI, geI, negI, isN, notN, isNon, ixD, lenD, min2D, max2D, intD, tupD, lstD, wYes, wipeW, Bool.not_true, Bool.not_false, true_and, and_true, Nat.reduceLeDiff, Nat.zero_le])
/-! ### windows -/
def N3.neg (k : N3) : N3 := ⟨-k.h, -k.c, -k.d⟩
theorem neg_get (k : N3) : ∀ w : Word, k.neg.get w = - k.get w
  | .hours => rfl
  | .cycles => rfl
  | .days => rfl
theorem zero_get : ∀ w : Word, N3.zero.get w = 0
  | .hours => rfl
  | .cycles => rfl
  | .days => rfl
theorem passW (c k : N3) (L : Lim) : lessB c .zero (widL k L) = lessB c k.neg L :=
  (lessB_wid c k.neg k (fun w r => by rw [neg_get]; omega) L).symm
theorem wid_le {c k m : N3} {L : Lim} (h : m.le k) (q : lessB c .zero (widL k L) = true) : lessB c .zero (widL m L) = true := by
  rw [passW] at q ⊢
  exact lessB_mono (fun w r z => by rw [neg_get] at z ⊢; have := h.get w; omega) L q
mutual
theorem wid_zero : ∀ L : Lim, widL .zero L = L
  | .pl w r => by unfold widL; rw [zero_get, Int.add_zero]
  | .jo b ls => by unfold widL; rw [wid_zeros ls]
theorem wid_zeros : ∀ ls : List Lim, widLs .zero ls = ls
  | [] => by unfold widLs; rfl
  | l :: ls => by unfold widLs; rw [wid_zero l, wid_zeros ls]
end
theorem fp_some {S : Site} {ss : Stays} {L : Lim} {x d : Int} (h : fpS S ss L x = some d) : x ≤ d ∧ PassB S ss x L d ∧ ∀ e, x ≤ e → e < d → ¬ PassB S ss x L e := by
  have q := leastOf_spec (PassB S ss x L) x
  unfold fpS at h
  rw [h] at q
  exact q
theorem fp_none {S : Site} {ss : Stays} {L : Lim} {x : Int} (h : fpS S ss L x = none) : ∀ d, x ≤ d → ¬ PassB S ss x L d := by
  have q := leastOf_spec (PassB S ss x L) x
  unfold fpS at h
  rw [h] at q
  exact q
theorem OkT.less_le {S : Site} {t : Task} (h : OkT S t) : t.sl.less.le .zero := by
  have := h.s0
  exact ⟨show 0 - t.sl.h - 1 ≤ 0 by omega, show 0 - t.sl.c - 1 ≤ 0 by omega, show 0 - t.sl.d - 1 ≤ 0 by omega⟩
theorem early_of_due {S : Site} {t : Task} (ht : OkT S t) {x d : Int} (h : dueS S t x = some d) : ∃ e, earlyS S t x = some e := by
  unfold dueS lastS at h
  cases e : fpS S (S.stays t.pt) t.lim x with
  | none => rw [e] at h; cases h
  | some d0 =>
    obtain ⟨h1, h2, _⟩ := fp_some e
    unfold earlyS
    cases e1 : reachS S t x with
    | some a =>
      cases lateS S t x with
      | none => exact ⟨_, rfl⟩
      | some b => exact ⟨_, rfl⟩
    | none =>
      refine absurd ?_ (fp_none e1 d0 h1)
      unfold PassB at h2 ⊢
      rw [← wid_zero t.lim] at h2
      exact wid_le ht.less_le h2
noncomputable def windowS (S : Site) (t : Task) (x : Int) : Option (Int × Option Int) :=
  if t.way = "kept" then match dueS S t x, earlyS S t x, lateS S t x with
    | some _, some e, some l => if l < max (x + 1) e then none else some (max (x + 1) e, some l)
    | some _, some e, none => some (max (x + 1) e, none)
    | _, _, _ => none
  else none
def optW : Option (Int × Option Int) → D
  | none => .non
  | some w => .tup [.int w.1, optI w.2]
def s_task_window : WF := S3 fun a b c k => ∃ S t x, OkS S ∧ OkT S t ∧ 0 ≤ x ∧ x ≤ 100000 ∧ a = .da (encS S) ∧ b = .da (encT t) ∧ c = .da (.int x) ∧ k (optW (windowS S t x))
theorem sc_task_window : FnScope ["site", "task", "base", "first", "late"] ["site", "task", "base"] (defScope (top 62)) := ⟨rfl, rfl, rfl, by decide +kernel, rfl, by decide +kernel, by decide +kernel⟩
theorem ok_task_window {P : Program} {w : World} {K : PySem.W.Frag} {mg : Str → Option Value} {base : Heap} (E : En K mg) : Ok P w K mg base 11 "task_window" ["site", "task", "base"] s_task_window := by
  have T := E.t
  have G_task_due := ok_task_due (P := P) (w := w) (base := base) E
  have G_task_late := ok_task_late (P := P) (w := w) (base := base) E
  have G_task_early := ok_task_early (P := P) (w := w) (base := base) E
  refine mkOk E 45 d_task_window rfl rfl rfl rfl rfl fun fd F => ⟨FunD.okW F sc_task_window S3.len fun cdv A outer s H Er hr => ?_, F.bindsN fun _ _ _ _ _ _ us hl => match us, hl with | [_, _, _], _ => rfl⟩
  have nd := sc_task_window.nd
  refine ⟨_, _, (ssw_cons (sw_if (BW.tw (bw_or (tkne K hr.units (kix K (ew_var 1) ew_int (fun _ _ => rfl)) (ew_kstr T.KEPT)) (bw_or1 (tw_cmp op_isN lo_isN (kcall K G_task_due (hr.mono (by omega)) (cw_cons (ew_var 0) (cw_cons (ew_var 1) (cw_cons (ew_var 2) cw_nil)))) ew_non (nomark _))))) (ssw_one (sw_ret ew_non)) ssw_nil) (ssw_cons (spar (i := 3) (j := 4) nd (aw_cons (kB K (rr := rMax2K) (call_max2 rfl) lc_max2 T.max bb_max (aw_cons (ew_op op_add lo_add (ew_var 2) ew_int) (aw_cons (kcall K G_task_early (hr.mono (by omega)) (cw_cons (ew_var 0) (cw_cons (ew_var 1) (cw_cons (ew_var 2) cw_nil)))) aw_nil))) (aw_cons (kcall K G_task_late (hr.mono (by omega)) (cw_cons (ew_var 0) (cw_cons (ew_var 1) (cw_cons (ew_var 2) cw_nil)))) aw_nil))) (ssw_one (sw_ret (ew_if (BW.tw (bw_and (tw_cmp op_notN lo_notN (ew_var 4) ew_non (nomark _)) (bw_and1 (tw_cmp op_lt lo_lt (ew_var 4) (ew_var 3) (nomark _))))) ew_non (ew_tup (aw_cons (ew_var 3) (aw_cons (ew_var 4) aw_nil)))))))), S3.el ?_⟩
  rintro _ _ _ k ⟨S, t, x, hS, ht, h0, hx, rfl, rfl, rfl, h⟩
  unfold windowS at h
  show (match (!decide (t.way = "kept")) with | true => k .non | false => _)
  by_cases hw : t.way = "kept"
  · rw [decide_eq_true hw]
    rw [if_pos hw] at h
    refine ⟨S, t, x, hS, ht, h0, hx, rfl, rfl, rfl, ?_⟩
    cases e1 : dueS S t x with
    | none =>
      rw [e1] at h
      exact h
    | some d =>
      obtain ⟨e, e2⟩ := early_of_due ht e1
      rw [e1, e2] at h
      refine ⟨S, t, x, hS, ht, h0, hx, rfl, rfl, rfl, ?_⟩
      rw [e2]
      have hm : (if e > x + 1 then e else x + 1) = max (x + 1) e := by split <;> omega
      refine ⟨S, t, x, hS, ht, h0, hx, rfl, rfl, rfl, ?_⟩
      cases e3 : lateS S t x with
      | none =>
        rw [e3] at h
        have h : k (.tup [.int (max (x + 1) e), .non]) := h
        rw [← hm] at h
        exact ⟨show 2 ≤ 1000 by decide, h⟩
      | some l =>
        rw [e3] at h
        have h : k (optW (if l < max (x + 1) e then none else some (max (x + 1) e, some l))) := h
        rw [← hm] at h
        show (match decide (l < (if e > x + 1 then e else x + 1)) with | true => k .non | false => _)
        by_cases hl : l < (if e > x + 1 then e else x + 1)
        · rw [decide_eq_true hl]
          rw [if_pos hl] at h
          exact h
        · rw [decide_eq_false hl]
          rw [if_neg hl] at h
          exact ⟨show 2 ≤ 1000 by decide, h⟩
  · rw [decide_eq_false hw]
    rw [if_neg hw] at h
    exact h
def s_window_of : WF := S3 fun a b c k => ∃ S t x, OkS S ∧ t ∈ S.ts ∧ 0 ≤ x ∧ x ≤ 100000 ∧ a = .da (encS S) ∧ b = .da (.str (Task.nm t)) ∧ c = .da (.int x) ∧ k (optW (windowS S t x))
theorem sc_window_of : FnScope ["site", "name", "base"] ["site", "name", "base"] (defScope (top 63)) := ⟨rfl, rfl, rfl, by decide +kernel, rfl, by decide +kernel, by decide +kernel⟩
theorem ok_window_of {P : Program} {w : World} {K : PySem.W.Frag} {mg : Str → Option Value} {base : Heap} (E : En K mg) : Ok P w K mg base 12 "window_of" ["site", "name", "base"] s_window_of := by
  have T := E.t
  have G_task_window := ok_task_window (P := P) (w := w) (base := base) E
  have G_named_base := ok_named_base (P := P) (w := w) (base := base) E
  refine mkOk E 46 d_window_of rfl rfl rfl rfl rfl fun fd F => ⟨FunD.okW F sc_window_of S3.len fun cdv A outer s H Er hr => ?_, F.bindsN fun _ _ _ _ _ _ us hl => match us, hl with | [_, _, _], _ => rfl⟩
  have nd := sc_window_of.nd
  refine ⟨_, _, (ssw_one (sw_ret (kcall K G_task_window (hr.mono (by omega)) (cw_cons (ew_var 0) (cw_cons (kcall K G_named_base (hr.mono (by omega)) (cw_cons (ew_var 0) (cw_cons (ew_var 1) (cw_cons (ew_var 2) cw_nil)))) (cw_cons (ew_var 2) cw_nil)))))), S3.el ?_⟩
  rintro _ _ _ k ⟨S, t, x, hS, ht, h0, hx, rfl, rfl, rfl, h⟩
  exact ⟨S, t, x, hS, ht, h0, hx, rfl, rfl, rfl, S, t, x, hS, (hS.tsi t ht).2, h0, hx, rfl, rfl, rfl, h⟩
/-! ### goingby, sitechanges -/
def s_check_bases : WF := S2 fun a b k => ∃ S xs, OkS S ∧ List.length xs = S.ts.length ∧ (∀ x ∈ xs, 0 ≤ x) ∧ a = .da (encS S) ∧ b = .da (.tup (xs.map D.int)) ∧ k .non
theorem sc_check_bases : FnScope ["site", "bases", "is_row", "base"] ["site", "bases"] (defScope (top 66)) := ⟨rfl, rfl, rfl, by decide +kernel, rfl, by decide +kernel, by decide +kernel⟩
theorem ok_check_bases {P : Program} {w : World} {K : PySem.W.Frag} {mg : Str → Option Value} {base : Heap} (E : En K mg) : Ok P w K mg base 3 "check_bases" ["site", "bases"] s_check_bases := by
  have T := E.t
  have G_require_usable := ok_require_usable (P := P) (w := w) (base := base) E
  have G_is_number := ok_is_number (P := P) (w := w) (base := base) E
  refine mkOk E 47 d_check_bases rfl rfl rfl rfl rfl fun fd F => ⟨FunD.okW F sc_check_bases S2.len fun cdv A outer s H Er hr => ?_, F.bindsN fun _ _ _ _ _ _ us hl => match us, hl with | [_, _], _ => rfl⟩
  have nd := sc_check_bases.nd
  refine ⟨_, _, (ssw_cons (sw_set 2 nd (ew_and (kisi K (T := "tuple") (ew_var 1) T.isinstance T.tuple bb_tuple) (ew_one (keq K hr.units (kB K (rr := rLenK) call_len lc_len T.len bb_len (aw_cons (ew_var 1) aw_nil)) (kB K (rr := rLenK) call_len lc_len T.len bb_len (aw_cons (kix K (ew_var 0) ew_int (fun _ _ => rfl)) aw_nil)))))) (ssw_one (sw_expr (kcall K G_require_usable (hr.mono (by omega)) (cw_cons (ew_and (ew_var 2) (ew_one (kB K (rr := rAll) (cr_all rfl) lc_all T.all bb_all (aw_cons (ew_lc [("base", 3)] nd (kiT K (ew_var 1)) (by show blkC ["site", "bases", "is_row", "base"] (defScope (top 66)) _ _ = true; decide +kernel) (fun _ _ _ _ _ => (gw_name 3 nd)) (fun _ _ _ _ _ => qw_nil) (fun _ _ _ _ _ => (kcall K G_is_number (hr.mono (by omega)) (cw_cons (ew_var 3) cw_nil)))) aw_nil)))) (cw_cons ew_str (cw_cons (ew_un un_neg lo_neg ew_int) cw_nil))))))), S2.el ?_⟩
  rintro _ _ k ⟨S, xs, hS, hl, hx, rfl, rfl, h⟩
  have hlen := hS.tsl
  show (match decide (((xs.map D.int).length : Int) = ((S.ts.map encT).length : Int)) with | true => _ | false => _)
  rw [List.length_map, List.length_map, decide_eq_true (by omega)]
  refine ⟨by rw [List.length_map]; omega, lc_map D.int (fun _ => .bl true) xs [] (fun x hxm kk hk => ⟨x, rfl, by rw [decide_eq_true (hx x hxm)]; exact hk⟩) ?_⟩
  show (match allD [.lst (xs.map fun _ => .bl true)] with | some d => _ | none => False)
  rw [allD_map (fun _ => true), show (xs.all fun _ => true) = true by rw [List.all_eq_true]; intros; rfl]
  exact ⟨rfl, ⟨_, rfl⟩, ⟨_, rfl⟩, h⟩
def s_replaced : WF := S3 fun a b c k => ∃ ds j d, j < List.length ds ∧ ds.length ≤ 10 ∧ a = .da (.tup ds) ∧ b = .da (.int (j : Nat)) ∧ c = .da d ∧ k (.tup (ds.set j d))
theorem sc_replaced : FnScope ["some", "spot", "late"] ["some", "spot", "late"] (defScope (top 72)) := ⟨rfl, rfl, rfl, by decide +kernel, rfl, by decide +kernel, by decide +kernel⟩
theorem ok_replaced {P : Program} {w : World} {K : PySem.W.Frag} {mg : Str → Option Value} {base : Heap} (E : En K mg) : Ok P w K mg base 1 "replaced" ["some", "spot", "late"] s_replaced := by
  have T := E.t
  refine mkOk E 50 d_replaced rfl rfl rfl rfl rfl fun fd F => ⟨FunD.okW F sc_replaced S3.len fun cdv A outer s H Er hr => ?_, F.bindsN fun _ _ _ _ _ _ us hl => match us, hl with | [_, _, _], _ => rfl⟩
  have nd := sc_replaced.nd
  refine ⟨_, _, (ssw_one (sw_ret (ew_tup (kstar K (kslT K (ew_var 0) ow_none (ow_some (ew_var 1))) (aw_cons (ew_var 2) (kstar K (kslT K (ew_var 0) (ow_some (ew_op op_add lo_add (ew_var 1) ew_int)) ow_none) aw_nil)))))), S3.el ?_⟩
  rintro _ _ _ k ⟨ds, j, d, hj, hl, rfl, rfl, rfl, h⟩
  have e1 : cutD ds none (some (j : Nat)) = ds.take j := by
    unfold cutD
    rw [HT.sIx_none, HT.sIx_nat, List.drop_zero, Nat.sub_zero, Nat.min_eq_left (by omega)]
  have e2 : cutD ds (some ((j : Int) + 1)) none = ds.drop (j + 1) := by
    unfold cutD
    rw [HT.sIx_none, show ((j : Int) + 1) = ((j + 1 : Nat) : Int) by omega, HT.sIx_nat, Nat.min_eq_left (by omega)]
    exact List.take_of_length_le (by rw [List.length_drop]; exact Nat.le_refl _)
  show (cutD ds none (some (j : Nat)) ++ (d :: (cutD ds (some ((j : Int) + 1)) none ++ []))).length ≤ 1000 ∧ k (.tup (cutD ds none (some (j : Nat)) ++ (d :: (cutD ds (some ((j : Int) + 1)) none ++ []))))
  have es : ds.take j ++ d :: ds.drop (j + 1) = ds.set j d := by rw [List.set_eq_take_append_cons_drop, if_pos hj]
  rw [e1, e2, List.append_nil, es, List.length_set]
  exact ⟨by omega, h⟩
def Site.withU (S : Site) (z : Str) (us : Uses) : Site := { S with ms := S.ms.map fun m => if m.1 = z then (z, us) else m }
theorem set_map {β : Type} {z : Str} {b b' : β} : ∀ {l : List (Str × β)} {j : Nat}, (l.map (·.1)).Nodup → l[j]? = some (z, b) → l.set j (z, b') = l.map fun m => if m.1 = z then (z, b') else m
  | x :: l, 0, hn, h => by
    simp at h
    subst h
    rw [List.map_cons, if_pos rfl, List.set_cons_zero]
    congr 1
    refine ((List.map_congr_left (g := id) fun m hm => ?_).trans (List.map_id l)).symm
    rw [if_neg]
    · rfl
    · intro e
      rw [List.map_cons] at hn
      have hz : m.1 ∈ l.map (·.1) := List.mem_map_of_mem (f := (·.1)) hm
      rw [e] at hz
      exact (List.nodup_cons.mp hn).1 hz
  | x :: l, j + 1, hn, h => by
    rw [List.map_cons] at hn
    have h1 : l[j]? = some (z, b) := by simpa using h
    have hx : ¬ x.1 = z := fun e => (List.nodup_cons.mp hn).1 (by rw [e]; exact List.mem_map_of_mem (f := (·.1)) (List.mem_of_getElem? h1))
    rw [List.map_cons, if_neg hx, List.set_cons_succ, set_map (List.nodup_cons.mp hn).2 h1]
def s_with_uses : WF := S3 fun a b c k => ∃ S z us us', OkS S ∧ (z, us) ∈ S.ms ∧ okUs us' ∧ a = .da (encS S) ∧ b = .da (.str z) ∧ c = .da (encUs us') ∧ k (encS (S.withU z us'))
theorem sc_with_uses : FnScope ["site", "machine", "uses", "machines", "parts", "tasks", "spot"] ["site", "machine", "uses"] (defScope (top 73)) := ⟨rfl, rfl, rfl, by decide +kernel, rfl, by decide +kernel, by decide +kernel⟩
theorem ok_with_uses {P : Program} {w : World} {K : PySem.W.Frag} {mg : Str → Option Value} {base : Heap} (E : En K mg) : Ok P w K mg base 6 "with_uses" ["site", "machine", "uses"] s_with_uses := by
  have T := E.t
  have G_index_among := ok_index_among (P := P) (w := w) (base := base) E
  have G_machine_names := ok_machine_names (P := P) (w := w) (base := base) E
  have G_require_usable := ok_require_usable (P := P) (w := w) (base := base) E
  have G_are_uses := ok_are_uses (P := P) (w := w) (base := base) E
  have G_replaced := ok_replaced (P := P) (w := w) (base := base) E
  refine mkOk E 51 d_with_uses rfl rfl rfl rfl rfl fun fd F => ⟨FunD.okW F sc_with_uses S3.len fun cdv A outer s H Er hr => ?_, F.bindsN fun _ _ _ _ _ _ us hl => match us, hl with | [_, _, _], _ => rfl⟩
  have nd := sc_with_uses.nd
  refine ⟨_, _, (ssw_cons (sasg (ew_var 0) (ktup K (n := 3) (gsc (gw_name 3 nd) (gsc (gw_name 4 nd) (gsc (gw_name 5 nd) gsw_nil))))) (ssw_cons (sw_set 6 nd (kcall K G_index_among (hr.mono (by omega)) (cw_cons (kcall K G_machine_names (hr.mono (by omega)) (cw_cons (ew_var 0) cw_nil)) (cw_cons (ew_var 1) (cw_cons ew_str cw_nil))))) (ssw_cons (sw_expr (kcall K G_require_usable (hr.mono (by omega)) (cw_cons (kcall K G_are_uses (hr.mono (by omega)) (cw_cons (ew_var 2) cw_nil)) (cw_cons ew_str (cw_cons (ew_un un_neg lo_neg ew_int) cw_nil))))) (ssw_one (sw_ret (ew_tup (aw_cons (kcall K G_replaced (hr.mono (by omega)) (cw_cons (ew_var 3) (cw_cons (ew_var 6) (cw_cons (ew_tup (aw_cons (ew_var 1) (aw_cons (ew_var 2) aw_nil))) cw_nil)))) (aw_cons (ew_var 4) (aw_cons (ew_var 5) aw_nil))))))))), S3.el ?_⟩
  rintro _ _ _ k ⟨S, z, us, us', hS, hm, hu, rfl, rfl, rfl, h⟩
  obtain ⟨j, h1, h2⟩ := idx_mem hS.msn hm
  refine ⟨rfl, S, hS, rfl, _, z, j, (hS.msi _ hm).1, h1, rfl, rfl, ⟨_, rfl⟩, us', hu, rfl, rfl, ⟨_, rfl⟩, ⟨_, rfl⟩, ?_⟩
  have hj : j < S.ms.length := by
    rcases Nat.lt_or_ge j S.ms.length with q | q
    · exact q
    · rw [List.getElem?_eq_none q] at h2; cases h2
  have hl := hS.msl
  refine ⟨show 2 ≤ 1000 by decide, _, j, _, by rw [List.length_map]; exact hj, by rw [List.length_map]; exact hl, rfl, rfl, rfl, show 3 ≤ 1000 by decide, ?_⟩
  have e : (S.ms.map encM).set j (encM (z, us')) = (S.withU z us').ms.map encM := by
    rw [← List.map_set, set_map hS.msn h2]
    rfl
  show k (.tup [.tup ((S.ms.map encM).set j (encM (z, us'))), .tup (S.ps.map encP), .tup (S.ts.map encT)])
  rw [e]
  exact h
end Wd
set_option maxRecDepth 100000
set_option maxHeartbeats 2000000
namespace Wd
open PySem PySem.Spec PyProof.Rows L2
local macro_rules | `(tactic| walk_at "wd") => `(tactic| simp only [startW, Ar.sl, List.map_cons, List.map_nil, List.replicate, List.cons_append, List.nil_append, List.length_cons, List.length_nil, Nat.reduceAdd, Nat.reduceSub, List.getElem?_cons_zero, List.getElem?_cons_succ, List.set_cons_zero, List.set_cons_succ,
  wSeq, wNext, wRet, wAsg, wIfS, wBreak, wNever, wExp, wVar, wC, wOp, wUn, wCB, wNil, wCons, wTup, wLst, wKey, intsD, Option.map_some, wIf, wB, wNot, wAnd, wOr, wAndV, wOrV, wNotV, wIsi, wChain, wCall, wcNil, wcCons, wcFeed, gwName, gwNil, gwCons, gwTup, wIdxT, wIdxL, tupK, lstK, wSlT, wSlL, wRev, wStar, spliceD, wLenO, wFrz, wOwnL, wOwnD, wApp, wExt, wPop, wDPut, wDGet, keyD, wPar, wPar3, wParOD, wParDO, blD, intK, strD, woNone, woSome, wiL, wiT, wiS, wiR1, wiR2, wiEnumT, wiZipT, tyOf, kit_ii, kit_bi, kit_bb, kit_ib, kit_ss, kit_tt, kit_ts, kit_si,
  addI, subI, ltI, leI, gtI, geI, negI, isN, notN, isNon, ixD, lenD, min2D, max2D, intD, tupD, lstD, wYes, wipeW, Bool.not_true, Bool.not_false, true_and, and_true, Nat.reduceLeDiff, Nat.zero_le])
/-! ### dues -/
mutual
def plains : Lim → List (Word × Int)
  | .pl w n => [(w, n)]
  | .jo _ ls => plainsL ls
def plainsL : List Lim → List (Word × Int)
  | [] => []
  | l :: ls => plains l ++ plainsL ls
end
mutual
theorem plains_len : ∀ L : Lim, (plains L).length ≤ L.size
  | .pl w n => by unfold plains Lim.size; exact Nat.le_refl _
  | .jo b ls => by unfold plains Lim.size; have := plainsL_len ls; omega
theorem plainsL_len : ∀ ls : List Lim, (plainsL ls).length ≤ sizes ls
  | [] => by unfold plainsL sizes; exact Nat.le_refl _
  | l :: ls => by unfold plainsL sizes; rw [List.length_append]; have := plains_len l; have := plainsL_len ls; omega
end
def encPl (p : Word × Int) : D := .tup [.str p.1.s, .int p.2]
def s_plain_limits (n : Nat) : WF := S1 fun a k => ∃ L, L.all (fun _ _ => True) n ∧ L.size ≤ 100 ∧ a = .da (encL L) ∧ k (.lst ((plains L).map encPl))
theorem z_plain_limits : ∀ as k, s_plain_limits 0 as k → False := S1.el fun a k ⟨L, h, _⟩ => all0 h
theorem lc2_plain {n : Nat} (d0 d1 d2 : D) {k : List D → Prop} : ∀ (ls : List Lim) (acc : List D), (∀ l ∈ ls, l.all (fun _ _ => True) n) → acc.length + sizes ls ≤ 100 → k (acc ++ (plainsL ls).map encPl) →
    lc2Go (gwName 3) (wiL (wCall (s_plain_limits n) (wcCons (wVar 3) wcNil))) (gwName 4) (wVar 4) [4] [.da d0, .da d1, .da d2, .un, .un] (encLs ls) acc k
  | [], acc, _, _, h => by
    unfold plainsL at h
    rw [List.map_nil, List.append_nil] at h
    exact h
  | l :: ls, acc, ha, hz, h => by
    unfold plainsL at h
    unfold sizes at hz
    have hl := plains_len l
    refine ⟨rfl, l, ha l List.mem_cons_self, by omega, rfl, by rw [List.length_map]; omega, ?_⟩
    refine lc_map encPl encPl (plains l) acc (fun x _ kk hk => hk) ⟨by rw [List.length_append, List.length_map]; omega, ?_⟩
    refine lc2_plain d0 d1 d2 ls _ (fun y hy => ha y (List.mem_cons_of_mem _ hy)) (by rw [List.length_append, List.length_map]; omega) ?_
    rw [List.append_assoc, ← List.map_append]
    exact h
theorem sc_plain_limits : FnScope ["limit", "word", "own", "other", "one"] ["limit"] (defScope (top 68)) := ⟨rfl, rfl, rfl, by decide +kernel, rfl, by decide +kernel, by decide +kernel⟩
theorem okZ_plain_limits {P : Program} {w : World} {K : PySem.W.Frag} {mg : Str → Option Value} {base : Heap} (E : En K mg) : Ok P w K mg base 1 "plain_limits" ["limit"] (fun _ _ => False) := by
  refine mkOk E 48 d_plain_limits rfl rfl rfl rfl rfl fun fd F => ⟨FunD.okW F sc_plain_limits falseS fun cdv A outer s H Er hr => ⟨tNever, wNever, ssw_never, fun _ _ h => h.elim⟩, F.bindsN fun _ _ _ _ _ _ us hl => match us, hl with | [_], _ => rfl⟩
theorem okS_plain_limits {P : Program} {w : World} {K : PySem.W.Frag} {mg : Str → Option Value} {base : Heap} (E : En K mg) (n : Nat) (G_plain_limits : Ok P w K mg base (1 + n) "plain_limits" ["limit"] (s_plain_limits n)) : Ok P w K mg base (1 + n + 1) "plain_limits" ["limit"] (s_plain_limits (n + 1)) := by
  have T := E.t
  refine mkOk E 48 d_plain_limits rfl rfl rfl rfl rfl fun fd F => ⟨FunD.okW F sc_plain_limits S1.len fun cdv A outer s H Er hr => ?_, F.bindsN fun _ _ _ _ _ _ us hl => match us, hl with | [_], _ => rfl⟩
  have nd := sc_plain_limits.nd
  refine ⟨_, _, (ssw_cons (sasg (ew_var 0) (ktup K (n := 2) (gsc (gw_name 1 nd) (gsc (gw_name 2 nd) gsw_nil)))) (ssw_cons (sw_if (tkin K (ew_var 1) (kktup K T.COUNT_WORDS)) (ssw_one (sw_ret (ew_lst (aw_cons (ew_var 0) aw_nil)))) ssw_nil) (ssw_one (sw_ret (ew_lc2 [("other", 3), ("one", 4)] [4] nd (kiT K (ew_var 2)) (by show blkC ["limit", "word", "own", "other", "one"] (defScope (top 68)) _ _ = true; decide +kernel) (fun _ _ _ _ _ => (gw_name 3 nd)) (fun _ _ _ _ _ => (kiL K (kcall K G_plain_limits (hr.mono (by omega)) (cw_cons (ew_var 3) cw_nil)))) (fun _ _ _ _ _ => (gw_name 4 nd)) (fun _ _ _ _ _ => (ew_var 4))))))), S1.el ?_⟩
  rintro _ k ⟨L, hL, hz, rfl, h⟩
  cases L with
  | pl w r => cases w <;> exact ⟨rfl, show 1 ≤ 1000 by decide, h⟩
  | jo b ls =>
    obtain ⟨hne, hall⟩ := all_jo hL
    have hz : 1 + sizes ls ≤ 100 := by unfold Lim.size at hz; exact hz
    unfold plains at h
    cases b
    all_goals exact ⟨rfl, rfl, lc2_plain _ _ _ ls [] hall (by show 0 + sizes ls ≤ 100; omega) h⟩
theorem okR_plain_limits {P : Program} {w : World} {K : PySem.W.Frag} {mg : Str → Option Value} {base : Heap} (E : En K mg) : ∀ n, Ok P w K mg base (1 + n) "plain_limits" ["limit"] (s_plain_limits n)
  | 0 => (okZ_plain_limits E).imp z_plain_limits
  | n + 1 => okS_plain_limits E n (okR_plain_limits E n)
theorem ok_plain_limits {P : Program} {w : World} {K : PySem.W.Frag} {mg : Str → Option Value} {base : Heap} (E : En K mg) : Ok P w K mg base (1 + 3) "plain_limits" ["limit"] (s_plain_limits 3) := okR_plain_limits E 3
end Wd
set_option maxRecDepth 100000
set_option maxHeartbeats 2000000
namespace Wd
open PySem PySem.Spec PyProof.Rows L2
local macro_rules | `(tactic| walk_at "wd") => `(tactic| simp only [startW, Ar.sl, List.map_cons, List.map_nil, List.replicate, List.cons_append, List.nil_append, List.length_cons, List.length_nil, Nat.reduceAdd, Nat.reduceSub, List.getElem?_cons_zero, List.getElem?_cons_succ, List.set_cons_zero, List.set_cons_succ,
  wSeq, wNext, wRet, wAsg, wIfS, wBreak, wNever, wExp, wVar, wC, wOp, wUn, wCB, wNil, wCons, wTup, wLst, wKey, intsD, Option.map_some, wIf, wB, wNot, wAnd, wOr, wAndV, wOrV, wNotV, wIsi, wChain, wCall, wcNil, wcCons, wcFeed, gwName, gwNil, gwCons, gwTup, wIdxT, wIdxL, tupK, lstK, wSlT, wSlL, wRev, wStar, spliceD, wLenO, wFrz, wOwnL, wOwnD, wApp, wExt, wPop, wDPut, wDGet, keyD, wPar, wPar3, wParOD, wParDO, blD, intK, strD, woNone, woSome, wiL, wiT, wiS, wiR1, wiR2, wiEnumT, wiZipT, tyOf, kit_ii, kit_bi, kit_bb, kit_ib, kit_ss, kit_tt, kit_ts, kit_si,
  addI, subI, ltI, leI, gtI, geI, negI, isN, notN, isNon, ixD, lenD, min2D, max2D, intD, tupD, lstD, wYes, wipeW, Bool.not_true, Bool.not_false, true_and, and_true, Nat.reduceLeDiff, Nat.zero_le])
/-! ### the law's own days -/
theorem for_inv0 {α : Type} (enc : α → D) (xs : List α) {g : WG} {tb : WSt} {E : EnW} {ρ : List Sl} (I : Nat → List Sl → Prop) (h0 : I 0 ρ)
    (hs : ∀ (j : Nat) (x : α) (ρ : List Sl) (nxt : List Sl → Prop), xs[j]? = some x → I j ρ → (∀ ρ', I (j + 1) ρ' → nxt ρ') → g (enc x) ρ fun ρ' => tb { E with nx := nxt, ct := nxt, bk := E.nx } ρ')
    (he : ∀ ρ, I xs.length ρ → E.nx ρ) : forGo g tb E (xs.map enc) ρ :=
  wFor_inv (wi := fun _ K => K (xs.map enc)) enc xs I (fun _ h => h) h0 hs he
theorem place_fold (day : Int) : ∀ (ss : Stays) (p : Option Str), ss.foldl (fun p s => if s.1 ≤ day then s.2 else p) p = match (ss.filter fun s => decide (s.1 ≤ day)).getLast? with
    | some s => s.2
    | none => p
  | [], p => rfl
  | s :: ss, p => by
    rw [List.foldl_cons, place_fold day ss]
    by_cases h : s.1 ≤ day
    · rw [if_pos h, List.filter_cons_of_pos (by simpa using h), List.getLast?_cons]
      cases e : (ss.filter fun s => decide (s.1 ≤ day)).getLast? with
      | none => rfl
      | some y => rfl
    · rw [if_neg h, List.filter_cons_of_neg (by simpa using h)]
def dicP (S : Site) : D := .dic (dicMerge [] (S.ps.map fun m => (m.1, encSts m.2)))
theorem dict_ps (S : Site) : dictD [.lst (S.ps.map encP)] = some (dicP S) := by
  show (pairsD (S.ps.map fun m => .tup [.str m.1, encSts m.2])).map _ = _
  rw [pairs_map (fun m : Str × Stays => m.1) (fun m => encSts m.2)]
  rfl
theorem dict_ms2 (S : Site) : dictD [.lst (S.ms.map encM)] = some (dicM S) := by
  show (pairsD (S.ms.map fun m => .tup [.str m.1, encUs m.2])).map _ = _
  rw [pairs_map (fun m : Str × Uses => m.1) (fun m => encUs m.2)]
  rfl
theorem dget_ps {S : Site} (hn : (S.ps.map (·.1)).Nodup) {z : Str} {ss : Stays} (h : (z, ss) ∈ S.ps) : dgetD (dicP S) (.str z) = some (encSts ss) :=
  merge_in _ _ (by rw [List.map_map]; exact hn) (List.mem_map_of_mem (f := fun m : Str × Stays => (m.1, encSts m.2)) h)
def s__law_use : WF := S3 fun a b c k => ∃ S z ss day, OkS S ∧ (z, ss) ∈ S.ps ∧ 0 ≤ day ∧ a = .da (encS S) ∧ b = .da (.str z) ∧ c = .da (.int day) ∧ k (encU (useAt S ss day))
theorem sc__law_use : FnScope ["_law_site_here", "_law_part", "_law_day", "_law_place", "_law_tables", "_law_first", "_law_where", "_law_uses"] ["_law_site_here", "_law_part", "_law_day"] (defScope (top 84)) := ⟨rfl, rfl, rfl, by decide +kernel, rfl, by decide +kernel, by decide +kernel⟩
theorem ok__law_use {P : Program} {w : World} {K : PySem.W.Frag} {mg : Str → Option Value} {base : Heap} (E : En K mg) : Ok P w K mg base 1 "_law_use" ["_law_site_here", "_law_part", "_law_day"] s__law_use := by
  have T := E.t
  refine mkOk E 61 d__law_use rfl rfl rfl rfl rfl fun fd F => ⟨FunD.okW F sc__law_use S3.len fun cdv A outer s H Er hr => ?_, F.bindsN fun _ _ _ _ _ _ us hl => match us, hl with | [_, _, _], _ => rfl⟩
  have nd := sc__law_use.nd
  refine ⟨_, _, (ssw_cons (spar (i := 3) (j := 4) nd (aw_cons ew_non (aw_cons (kT K (rr := rDict2) (call_dict2 rfl) lc_dict T.dict bb_dict (aw_cons (kT K (rr := rLstK) call_list_of lc_lst T.list bb_list (aw_cons (kix K (ew_var 0) ew_int (fun _ _ => rfl)) aw_nil)) aw_nil)) aw_nil))) (ssw_cons (sw_for PassesOwn.never (kiT K (ew_dget (hu_of hr) (kT K (rr := rDict2) (call_dict2 rfl) lc_dict T.dict bb_dict (aw_cons (kT K (rr := rLstK) call_list_of lc_lst T.list bb_list (aw_cons (kix K (ew_var 0) ew_int (fun _ _ => rfl)) aw_nil)) aw_nil)) (ew_var 1))) (ktup K (n := 2) (gsc (gw_name 5 nd) (gsc (gw_name 6 nd) gsw_nil))) (ssw_one (sw_set 3 nd (ew_if (tw_cmp op_le lo_le (ew_var 5) (ew_var 2) (nomark _)) (ew_var 6) (ew_var 3))))) (ssw_cons (sw_if (tw_cmp op_isN lo_isN (ew_var 3) ew_non (nomark _)) (ssw_one (sw_ret (ew_tup (aw_cons ew_int (aw_cons ew_int aw_nil))))) ssw_nil) (ssw_cons (sw_set 7 nd (ew_dget (hu_of hr) (ew_var 4) (ew_var 3))) (ssw_one (sw_ret (kix K (ew_var 7) (kB K (rr := rMin2K) (call_min2 rfl) lc_min2 T.min bb_min (aw_cons (ew_var 2) (aw_cons (ew_op op_sub lo_sub (kB K (rr := rLenK) call_len lc_len T.len bb_len (aw_cons (ew_var 7) aw_nil)) ew_int) aw_nil))) (fun _ _ => rfl)))))))), S3.el ?_⟩
  rintro _ _ _ k ⟨S, z, ss, day, hS, hm, hd, rfl, rfl, rfl, h⟩
  have hs := (hS.psi _ hm).2
  have hs : OkSts S.ms ss := hs
  walk_at "wd"
  show (match dictD [.lst (S.ms.map encM)] with | some d => _ | none => False)
  rw [dict_ms2]
  refine wFor_inv encSt ss (fun j ρ => ∃ s5 s6 s7, ρ = [.da (encS S), .da (.str z), .da (.int day), .da (optS ((ss.take j).foldl (fun p s => if s.1 ≤ day then s.2 else p) none)), .da (dicM S), s5, s6, s7]) (fun K' hK => ?_) ⟨_, _, _, rfl⟩ ?_ ?_
  · show (match dictD [.lst (S.ps.map encP)] with | some d => (match dgetD d (.str z) with | some d => _ | none => False) | none => False)
    rw [dict_ps]
    show (match dgetD (dicP S) (.str z) with | some d => _ | none => False)
    rw [dget_ps hS.psn hm]
    exact hK
  · rintro j s ρ nxt hj ⟨s5, s6, s7, rfl⟩ hn
    have et : ss.take (j + 1) = ss.take j ++ [s] := by
      rw [List.take_add_one, hj]
      rfl
    have hn := fun s5 s6 s7 => hn _ ⟨s5, s6, s7, rfl⟩
    rw [et, List.foldl_append] at hn
    refine ⟨rfl, ?_⟩
    show (match decide (s.1 ≤ day) with | true => _ | false => _)
    by_cases hle : s.1 ≤ day
    · rw [decide_eq_true hle]
      have hn := fun s5 s6 s7 => hn s5 s6 s7
      simp only [List.foldl_cons, List.foldl_nil, if_pos hle] at hn
      exact hn _ _ _
    · rw [decide_eq_false hle]
      simp only [List.foldl_cons, List.foldl_nil, if_neg hle] at hn
      exact hn _ _ _
  · rintro ρ ⟨s5, s6, s7, rfl⟩
    rw [List.take_length, place_fold]
    unfold useAt at h
    have ep : (match (ss.filter fun s => decide (s.1 ≤ day)).getLast? with | some s => s.2 | none => none) = placeOn ss day := rfl
    rw [ep]
    cases e : placeOn ss day with
    | none =>
      rw [e] at h
      exact ⟨show 2 ≤ 1000 by decide, h⟩
    | some y =>
      rw [e] at h
      obtain ⟨s, h1, h2⟩ := placeOn_mem e
      obtain ⟨us, h3⟩ := hs.mem s h1 y h2
      have o := (hS.msi _ h3).2
      have h : k (encU (useOn (S.uses y) day)) := h
      rw [show S.uses y = us from uses_mem hS.msn h3] at h
      show (match dgetD (dicM S) (.str y) with | some d => _ | none => False)
      rw [dget_ms hS.msn h3]
      have hlen := List.length_pos_iff.mpr o.1
      have hmin : (if ((us.length : Int) - 1) < day then ((us.length : Int) - 1) else day) = ((min day ((us.length : Int) - 1)).toNat : Nat) := by
        have hlen : 0 < us.length := hlen
        split <;> omega
      have hlt : (min day ((us.length : Int) - 1)).toNat < us.length := by
        have hlen : 0 < us.length := hlen
        omega
      have hg : us[(min day ((us.length : Int) - 1)).toNat]? = some (useOn us day) := by
        unfold useOn
        rw [List.getD_eq_getElem?_getD, List.getElem?_eq_getElem hlt]
        rfl
      show (match atI (us.map encU) (if ((us.map encU).length : Int) - 1 < day then ((us.map encU).length : Int) - 1 else day) with | some d => k d | none => False)
      rw [List.length_map, hmin, atI_map encU hg]
      exact h
theorem near_fit {a : Int} (h0 : 0 ≤ a) (h1 : a ≤ 100000) : -2 ^ 62 ≤ a ∧ a < 2 ^ 62 := by omega
def s__law_counts : WF := S4 fun a b c e k => ∃ S z ss x y, OkS S ∧ (z, ss) ∈ S.ps ∧ 0 ≤ x ∧ x ≤ y ∧ y ≤ x + 500 ∧ x ≤ 10000 ∧ a = .da (encS S) ∧ b = .da (.str z) ∧ c = .da (.int x) ∧ e = .da (.int y) ∧ k (.tup (cnt S ss x y).ds)
theorem sc__law_counts : FnScope ["_law_site_here", "_law_part", "_law_a", "_law_b", "_law_uses", "_law_day", "_law_use_here"] ["_law_site_here", "_law_part", "_law_a", "_law_b"] (defScope (top 85)) := ⟨rfl, rfl, rfl, by decide +kernel, rfl, by decide +kernel, by decide +kernel⟩
theorem ok__law_counts {P : Program} {w : World} {K : PySem.W.Frag} {mg : Str → Option Value} {base : Heap} (E : En K mg) : Ok P w K mg base 2 "_law_counts" ["_law_site_here", "_law_part", "_law_a", "_law_b"] s__law_counts := by
  have T := E.t
  have G__law_use := ok__law_use (P := P) (w := w) (base := base) E
  refine mkOk E 62 d__law_counts rfl rfl rfl rfl rfl fun fd F => ⟨FunD.okW F sc__law_counts S4.len fun cdv A outer s H Er hr => ?_, F.bindsN fun _ _ _ _ _ _ us hl => match us, hl with | [_, _, _, _], _ => rfl⟩
  have nd := sc__law_counts.nd
  refine ⟨_, _, (ssw_cons (ssetLc (i := 4) [("_law_day", 5)] nd (iw_range2 (aw_cons (ew_var 2) (aw_cons (ew_var 3) aw_nil)) T.range) (by show blkC ["_law_site_here", "_law_part", "_law_a", "_law_b", "_law_uses", "_law_day", "_law_use_here"] (defScope (top 85)) _ _ = true; decide +kernel) (fun _ _ _ _ _ => (gw_name 5 nd)) (fun _ _ _ _ _ => qw_nil) (fun _ _ _ _ _ => (kcall K G__law_use (hr.mono (by omega)) (cw_cons (ew_var 0) (cw_cons (ew_var 1) (cw_cons (ew_var 5) cw_nil)))))) (ssw_one (sw_ret (ew_tup (aw_cons (kB K (rr := rSum) (cr_sum rfl) lc_sum T.sum bb_sum (aw_cons (ew_lc [("_law_use_here", 6)] nd (kiL K (ew_var 4)) (by show blkC ["_law_site_here", "_law_part", "_law_a", "_law_b", "_law_uses", "_law_day", "_law_use_here"] (defScope (top 85)) _ _ = true; decide +kernel) (fun _ _ _ _ _ => (gw_name 6 nd)) (fun _ _ _ _ _ => qw_nil) (fun _ _ _ _ _ => (kix K (ew_var 6) ew_int (fun _ _ => rfl)))) aw_nil)) (aw_cons (kB K (rr := rSum) (cr_sum rfl) lc_sum T.sum bb_sum (aw_cons (ew_lc [("_law_use_here", 6)] nd (kiL K (ew_var 4)) (by show blkC ["_law_site_here", "_law_part", "_law_a", "_law_b", "_law_uses", "_law_day", "_law_use_here"] (defScope (top 85)) _ _ = true; decide +kernel) (fun _ _ _ _ _ => (gw_name 6 nd)) (fun _ _ _ _ _ => qw_nil) (fun _ _ _ _ _ => (kix K (ew_var 6) ew_int (fun _ _ => rfl)))) aw_nil)) (aw_cons (ew_op op_sub lo_sub (ew_var 3) (ew_var 2)) aw_nil))))))), S4.el ?_⟩
  rintro _ _ _ _ k ⟨S, z, ss, x, y, hS, hm, h0, hxy, hy, hx, rfl, rfl, rfl, rfl, h⟩
  have hi : ilist x (y - x).toNat = (List.range (y - x).toNat).map fun i : Nat => .int (x + i) := ilist_map _ _
  have hl : (List.range (y - x).toNat).length ≤ 1000 := by rw [List.length_range]; omega
  have fin : ∀ (p : Int × Int → Int), ((List.range (y - x).toNat).map fun i : Nat => p (useAt S ss (x + i))).sum = sumU (fun d => p (useAt S ss d)) x y := fun p => rfl
  walk_at "wd"
  refine wLc_map (fun i : Nat => .int (x + i)) (fun i : Nat => encU (useAt S ss (x + i))) (List.range (y - x).toNat) (fun K' h => ⟨⟨(near_fit (by omega) (by omega)).1, (near_fit (by omega) (by omega)).2, (near_fit (by omega) (by omega)).1, (near_fit (by omega) (by omega)).2⟩, by rw [hi]; exact h⟩) hl (fun i hi kk hk => ⟨S, z, ss, x + i, hS, hm, by omega, rfl, rfl, rfl, hk⟩) ?_
  refine wLc_map (fun i : Nat => encU (useAt S ss (x + i))) (fun i : Nat => .int (useAt S ss (x + i)).1) (List.range (y - x).toNat) (fun K' h => h) hl (fun i hi kk hk => hk) ?_
  show (match sumD [.lst ((List.range (y - x).toNat).map fun i : Nat => .int (useAt S ss (x + i)).1)] with | some d => _ | none => False)
  rw [sumD_map, fin (·.1)]
  refine wLc_map (fun i : Nat => encU (useAt S ss (x + i))) (fun i : Nat => .int (useAt S ss (x + i)).2) (List.range (y - x).toNat) (fun K' h => h) hl (fun i hi kk hk => hk) ?_
  show (match sumD [.lst ((List.range (y - x).toNat).map fun i : Nat => .int (useAt S ss (x + i)).2)] with | some d => _ | none => False)
  rw [sumD_map, fin (·.2)]
  exact h
theorem flat_bls {α : Type} (p : α → Bool) (ls : List α) : (ls.map fun l => D.bl (p l)).all flatD = true := by
  rw [List.all_map, List.all_eq_true]
  intros
  rfl
theorem in_bls {α : Type} (neg b : Bool) (p : α → Bool) (ls : List α) : inD neg (.bl b) (.lst (ls.map fun l => .bl (p l))) = some (.bl (if neg then !(ls.any fun l => p l == b) else ls.any fun l => p l == b)) := by
  show (if flatD (.bl b) = true ∧ (ls.map fun l => D.bl (p l)).all flatD = true then some (D.bl (if neg then !((ls.map fun l => D.bl (p l)).any fun z => eqF z (.bl b)) else (ls.map fun l => D.bl (p l)).any fun z => eqF z (.bl b))) else none) = _
  rw [if_pos ⟨rfl, flat_bls p ls⟩, List.any_map]
  rfl
def s__law_passed (n : Nat) : WF := S2 fun a b k => ∃ L c, L.all (fun _ _ => True) n ∧ L.size ≤ 100 ∧ a = .da (encL L) ∧ b = .da (.tup (N3.ds c)) ∧ k (.bl (lessB c .zero L))
theorem z__law_passed : ∀ as k, s__law_passed 0 as k → False := S2.el fun a b k ⟨L, m, h, _⟩ => all0 h
theorem sc__law_passed : FnScope ["_law_limit_here", "_law_counts_here", "_law_told", "_law_one"] ["_law_limit_here", "_law_counts_here"] (defScope (top 86)) := ⟨rfl, rfl, rfl, by decide +kernel, rfl, by decide +kernel, by decide +kernel⟩
theorem okZ__law_passed {P : Program} {w : World} {K : PySem.W.Frag} {mg : Str → Option Value} {base : Heap} (E : En K mg) : Ok P w K mg base 1 "_law_passed" ["_law_limit_here", "_law_counts_here"] (fun _ _ => False) := by
  refine mkOk E 63 d__law_passed rfl rfl rfl rfl rfl fun fd F => ⟨FunD.okW F sc__law_passed falseS fun cdv A outer s H Er hr => ⟨tNever, wNever, ssw_never, fun _ _ h => h.elim⟩, F.bindsN fun _ _ _ _ _ _ us hl => match us, hl with | [_, _], _ => rfl⟩
theorem okS__law_passed {P : Program} {w : World} {K : PySem.W.Frag} {mg : Str → Option Value} {base : Heap} (E : En K mg) (n : Nat) (G__law_passed : Ok P w K mg base (1 + n) "_law_passed" ["_law_limit_here", "_law_counts_here"] (s__law_passed n)) : Ok P w K mg base (1 + n + 1) "_law_passed" ["_law_limit_here", "_law_counts_here"] (s__law_passed (n + 1)) := by
  have T := E.t
  refine mkOk E 63 d__law_passed rfl rfl rfl rfl rfl fun fd F => ⟨FunD.okW F sc__law_passed S2.len fun cdv A outer s H Er hr => ?_, F.bindsN fun _ _ _ _ _ _ us hl => match us, hl with | [_, _], _ => rfl⟩
  have nd := sc__law_passed.nd
  refine ⟨_, _, (ssw_cons (sw_if (tkin K (kix K (ew_var 0) ew_int (fun _ _ => rfl)) (ew_tup (aw_cons ew_str (aw_cons ew_str aw_nil)))) (ssw_cons (ssetLc (i := 2) [("_law_one", 3)] nd (kiT K (kix K (ew_var 0) ew_int (fun _ _ => rfl))) (by show blkC ["_law_limit_here", "_law_counts_here", "_law_told", "_law_one"] (defScope (top 86)) _ _ = true; decide +kernel) (fun _ _ _ _ _ => (gw_name 3 nd)) (fun _ _ _ _ _ => qw_nil) (fun _ _ _ _ _ => (kcall K G__law_passed (hr.mono (by omega)) (cw_cons (ew_var 3) (cw_cons (ew_var 1) cw_nil))))) (ssw_one (sw_ret (ew_if (tkeq K hr.units (kix K (ew_var 0) ew_int (fun _ _ => rfl)) ew_str) (kin K ew_bl (ew_var 2)) (knin K ew_bl (ew_var 2)))))) ssw_nil) (ssw_one (sw_ret (ew_cmp op_gt lo_gt (kix K (ew_var 1) (ktidx K (ew_tup (aw_cons ew_str (aw_cons ew_str (aw_cons ew_str aw_nil)))) (kix K (ew_var 0) ew_int (fun _ _ => rfl))) (fun _ _ => rfl)) (kix K (ew_var 0) ew_int (fun _ _ => rfl)) (nomark _))))), S2.el ?_⟩
  rintro _ _ k ⟨L, c, hL, hz, rfl, rfl, h⟩
  cases L with
  | pl w r =>
    unfold lessB at h
    rw [zero_get, Int.sub_zero] at h
    cases w <;> exact ⟨show 2 ≤ 1000 by decide, show 3 ≤ 1000 by decide, h⟩
  | jo b ls =>
    obtain ⟨hne, hall⟩ := all_jo hL
    have hz : 1 + sizes ls ≤ 100 := by unfold Lim.size at hz; exact hz
    have hll := sizes_len ls
    rw [less_jo] at h
    cases b
    all_goals
      refine ⟨show 2 ≤ 1000 by decide, by rw [encLs_eq, List.length_map]; omega, ?_⟩
      rw [encLs_eq]
      refine lc_map encL (fun l => .bl (lessB c .zero l)) ls [] (fun l hl kk hk => ⟨l, c, hall l hl, by have := sizes_mem hl; omega, rfl, rfl, hk⟩) ?_
    · show (match inD true (.bl false) (.lst (ls.map fun l => .bl (lessB c .zero l))) with | some d => k d | none => False)
      rw [in_bls]
      have e : (!(ls.any fun l => lessB c .zero l == false)) = ls.all (lessB c .zero) := by
        rw [List.all_eq_not_any_not]
        congr 2
        funext l
        cases lessB c .zero l <;> rfl
      show k (.bl (!(ls.any fun l => lessB c .zero l == false)))
      rw [e]
      exact h
    · show (match inD false (.bl true) (.lst (ls.map fun l => .bl (lessB c .zero l))) with | some d => k d | none => False)
      rw [in_bls]
      have e : (ls.any fun l => lessB c .zero l == true) = ls.any (lessB c .zero) := by
        congr 1
        funext l
        cases lessB c .zero l <;> rfl
      show k (.bl (ls.any fun l => lessB c .zero l == true))
      rw [e]
      exact h
theorem okR__law_passed {P : Program} {w : World} {K : PySem.W.Frag} {mg : Str → Option Value} {base : Heap} (E : En K mg) : ∀ n, Ok P w K mg base (1 + n) "_law_passed" ["_law_limit_here", "_law_counts_here"] (s__law_passed n)
  | 0 => (okZ__law_passed E).imp z__law_passed
  | n + 1 => okS__law_passed E n (okR__law_passed E n)
theorem ok__law_passed {P : Program} {w : World} {K : PySem.W.Frag} {mg : Str → Option Value} {base : Heap} (E : En K mg) : Ok P w K mg base (1 + 3) "_law_passed" ["_law_limit_here", "_law_counts_here"] (s__law_passed 3) := okR__law_passed E 3
def s__law_more (n : Nat) : WF := S2 fun a b k => ∃ L m, L.all (fun _ _ => True) n ∧ L.size ≤ 100 ∧ a = .da (encL L) ∧ b = .da (.tup (N3.ds m)) ∧ k (encL (widL m L))
theorem z__law_more : ∀ as k, s__law_more 0 as k → False := S2.el fun a b k ⟨L, m, h, _⟩ => all0 h
theorem sc__law_more : FnScope ["_law_limit_here", "_law_more_here", "_law_one"] ["_law_limit_here", "_law_more_here"] (defScope (top 87)) := ⟨rfl, rfl, rfl, by decide +kernel, rfl, by decide +kernel, by decide +kernel⟩
theorem okZ__law_more {P : Program} {w : World} {K : PySem.W.Frag} {mg : Str → Option Value} {base : Heap} (E : En K mg) : Ok P w K mg base 1 "_law_more" ["_law_limit_here", "_law_more_here"] (fun _ _ => False) := by
  refine mkOk E 64 d__law_more rfl rfl rfl rfl rfl fun fd F => ⟨FunD.okW F sc__law_more falseS fun cdv A outer s H Er hr => ⟨tNever, wNever, ssw_never, fun _ _ h => h.elim⟩, F.bindsN fun _ _ _ _ _ _ us hl => match us, hl with | [_, _], _ => rfl⟩
theorem okS__law_more {P : Program} {w : World} {K : PySem.W.Frag} {mg : Str → Option Value} {base : Heap} (E : En K mg) (n : Nat) (G__law_more : Ok P w K mg base (1 + n) "_law_more" ["_law_limit_here", "_law_more_here"] (s__law_more n)) : Ok P w K mg base (1 + n + 1) "_law_more" ["_law_limit_here", "_law_more_here"] (s__law_more (n + 1)) := by
  have T := E.t
  refine mkOk E 64 d__law_more rfl rfl rfl rfl rfl fun fd F => ⟨FunD.okW F sc__law_more S2.len fun cdv A outer s H Er hr => ?_, F.bindsN fun _ _ _ _ _ _ us hl => match us, hl with | [_, _], _ => rfl⟩
  have nd := sc__law_more.nd
  refine ⟨_, _, (ssw_cons (sw_if (tkin K (kix K (ew_var 0) ew_int (fun _ _ => rfl)) (ew_tup (aw_cons ew_str (aw_cons ew_str aw_nil)))) (ssw_one (sw_ret (ew_tup (aw_cons (kix K (ew_var 0) ew_int (fun _ _ => rfl)) (aw_cons (kT K (rr := rTupF) call_tupF lc_tup T.tuple bb_tuple (aw_cons (ew_lc [("_law_one", 2)] nd (kiT K (kix K (ew_var 0) ew_int (fun _ _ => rfl))) (by show blkC ["_law_limit_here", "_law_more_here", "_law_one"] (defScope (top 87)) _ _ = true; decide +kernel) (fun _ _ _ _ _ => (gw_name 2 nd)) (fun _ _ _ _ _ => qw_nil) (fun _ _ _ _ _ => (kcall K G__law_more (hr.mono (by omega)) (cw_cons (ew_var 2) (cw_cons (ew_var 1) cw_nil))))) aw_nil)) aw_nil))))) ssw_nil) (ssw_one (sw_ret (ew_tup (aw_cons (kix K (ew_var 0) ew_int (fun _ _ => rfl)) (aw_cons (ew_op op_add lo_add (kix K (ew_var 0) ew_int (fun _ _ => rfl)) (kix K (ew_var 1) (ktidx K (ew_tup (aw_cons ew_str (aw_cons ew_str (aw_cons ew_str aw_nil)))) (kix K (ew_var 0) ew_int (fun _ _ => rfl))) (fun _ _ => rfl))) aw_nil)))))), S2.el ?_⟩
  rintro _ _ k ⟨L, m, hL, hz, rfl, rfl, h⟩
  cases L with
  | pl w r => cases w <;> exact ⟨show 2 ≤ 1000 by decide, show 3 ≤ 1000 by decide, show 2 ≤ 1000 by decide, h⟩
  | jo b ls =>
    obtain ⟨hne, hall⟩ := all_jo hL
    have hz : 1 + sizes ls ≤ 100 := by unfold Lim.size at hz; exact hz
    have hll := sizes_len ls
    rw [wid_jo] at h
    cases b
    all_goals
      refine ⟨show 2 ≤ 1000 by decide, by rw [encLs_eq, List.length_map]; omega, ?_⟩
      rw [encLs_eq]
      refine lc_map encL (fun l => encL (widL m l)) ls [] (fun l hl kk hk => ⟨l, m, hall l hl, by have := sizes_mem hl; omega, rfl, rfl, hk⟩) ?_
      exact ⟨show 2 ≤ 1000 by decide, h⟩
theorem okR__law_more {P : Program} {w : World} {K : PySem.W.Frag} {mg : Str → Option Value} {base : Heap} (E : En K mg) : ∀ n, Ok P w K mg base (1 + n) "_law_more" ["_law_limit_here", "_law_more_here"] (s__law_more n)
  | 0 => (okZ__law_more E).imp z__law_more
  | n + 1 => okS__law_more E n (okR__law_more E n)
theorem ok__law_more {P : Program} {w : World} {K : PySem.W.Frag} {mg : Str → Option Value} {base : Heap} (E : En K mg) : Ok P w K mg base (1 + 3) "_law_more" ["_law_limit_here", "_law_more_here"] (s__law_more 3) := okR__law_more E 3
def s__law_behind : WF := S2 fun a b k => ∃ x y, a = .da (optI x) ∧ b = .da (optI y) ∧ k (.bl (match x, y with
  | none, _ => true
  | some _, none => false
  | some i, some j => decide (i ≥ j)))
theorem sc__law_behind : FnScope ["_law_one", "_law_other"] ["_law_one", "_law_other"] (defScope (top 92)) := ⟨rfl, rfl, rfl, by decide +kernel, rfl, by decide +kernel, by decide +kernel⟩
theorem ok__law_behind {P : Program} {w : World} {K : PySem.W.Frag} {mg : Str → Option Value} {base : Heap} (E : En K mg) : Ok P w K mg base 1 "_law_behind" ["_law_one", "_law_other"] s__law_behind := by
  have T := E.t
  refine mkOk E 69 d__law_behind rfl rfl rfl rfl rfl fun fd F => ⟨FunD.okW F sc__law_behind S2.len fun cdv A outer s H Er hr => ?_, F.bindsN fun _ _ _ _ _ _ us hl => match us, hl with | [_, _], _ => rfl⟩
  have nd := sc__law_behind.nd
  refine ⟨_, _, (ssw_one (sw_ret (ew_or (ew_cmp op_isN lo_isN (ew_var 0) ew_non (nomark _)) (ew_one (ew_and (ew_cmp op_notN lo_notN (ew_var 1) ew_non (nomark _)) (ew_one (ew_cmp op_ge lo_ge (ew_var 0) (ew_var 1) (nomark _)))))))), S2.el ?_⟩
  rintro _ _ k ⟨x, y, rfl, rfl, h⟩
  cases x with
  | none => exact h
  | some i =>
    cases y with
    | none => exact h
    | some j => exact h
theorem sizes_app : ∀ a b : List Lim, sizes (a ++ b) = sizes a + sizes b
  | [], b => by rw [show sizes [] = 0 by unfold sizes; rfl]; simp
  | l :: a, b => by rw [List.cons_append, show sizes (l :: (a ++ b)) = l.size + sizes (a ++ b) by rw [sizes], sizes_app a b, show sizes (l :: a) = l.size + sizes a by rw [sizes]]; omega
theorem plainsL_snoc : ∀ (a : List Lim) (l : Lim), plainsL (a ++ [l]) = plainsL a ++ plains l
  | [], l => by rw [List.nil_append]; simp [plainsL]
  | x :: a, l => by rw [List.cons_append, plainsL, plainsL, plainsL_snoc a l, List.append_assoc]
def s__law_plains (n : Nat) : WF := S1 fun a k => ∃ L, L.all (fun _ _ => True) n ∧ L.size ≤ 100 ∧ a = .da (encL L) ∧ k (.lst ((plains L).map encPl))
theorem z__law_plains : ∀ as k, s__law_plains 0 as k → False := S1.el fun a k ⟨L, h, _⟩ => all0 h
theorem sc__law_plains : FnScope ["_law_limit_here", "_law_found", "_law_one"] ["_law_limit_here"] (defScope (top 95)) := ⟨rfl, rfl, rfl, by decide +kernel, rfl, by decide +kernel, by decide +kernel⟩
theorem okZ__law_plains {P : Program} {w : World} {K : PySem.W.Frag} {mg : Str → Option Value} {base : Heap} (E : En K mg) : Ok P w K mg base 1 "_law_plains" ["_law_limit_here"] (fun _ _ => False) := by
  refine mkOk E 72 d__law_plains rfl rfl rfl rfl rfl fun fd F => ⟨FunD.okW F sc__law_plains falseS fun cdv A outer s H Er hr => ⟨tNever, wNever, ssw_never, fun _ _ h => h.elim⟩, F.bindsN fun _ _ _ _ _ _ us hl => match us, hl with | [_], _ => rfl⟩
theorem okS__law_plains {P : Program} {w : World} {K : PySem.W.Frag} {mg : Str → Option Value} {base : Heap} (E : En K mg) (n : Nat) (G__law_plains : Ok P w K mg base (1 + n) "_law_plains" ["_law_limit_here"] (s__law_plains n)) : Ok P w K mg base (1 + n + 1) "_law_plains" ["_law_limit_here"] (s__law_plains (n + 1)) := by
  have T := E.t
  refine mkOk E 72 d__law_plains rfl rfl rfl rfl rfl fun fd F => ⟨FunD.okW F sc__law_plains S1.len fun cdv A outer s H Er hr => ?_, F.bindsN fun _ _ _ _ _ _ us hl => match us, hl with | [_], _ => rfl⟩
  have nd := sc__law_plains.nd
  refine ⟨_, _, (ssw_cons (sw_if (tknin K (kix K (ew_var 0) ew_int (fun _ _ => rfl)) (ew_tup (aw_cons ew_str (aw_cons ew_str aw_nil)))) (ssw_one (sw_ret (ew_lst (aw_cons (ew_var 0) aw_nil)))) ssw_nil) (ssw_cons (sw_ownL 1 nd aw_nil) (ssw_cons (sw_for PassesOwn.never (kiT K (kix K (ew_var 0) ew_int (fun _ _ => rfl))) (gw_name 2 nd) (ssw_one (sext 1 (kcall K G__law_plains (hr.mono (by omega)) (cw_cons (ew_var 2) cw_nil))))) (ssw_frz 1 (ssw_one (sw_ret (ew_var 1))))))), S1.el ?_⟩
  rintro _ k ⟨L, hL, hz, rfl, h⟩
  cases L with
  | pl w r => cases w <;> exact ⟨show 2 ≤ 1000 by decide, show 1 ≤ 1000 by decide, h⟩
  | jo b ls =>
    have hz : 1 + sizes ls ≤ 100 := by unfold Lim.size at hz; exact hz
    obtain ⟨hne, hall⟩ := all_jo hL
    unfold plains at h
    cases b
    all_goals
      refine ⟨show 2 ≤ 1000 by decide, show 0 ≤ 1000 by decide, ?_⟩
      show forGo _ _ _ (encLs ls) _
      rw [encLs_eq]
      refine for_inv0 encL ls (fun j ρ => ∃ d0 s2, ρ = [.da d0, .ow ((plainsL (ls.take j)).map encPl), s2]) ⟨_, _, rfl⟩ ?_ ?_
      · rintro j l ρ nxt hj ⟨d0, s2, rfl⟩ hn
        have hl := List.mem_of_getElem? hj
        have hn := fun d0 s2 => hn _ ⟨d0, s2, rfl⟩
        have et : ls.take (j + 1) = ls.take j ++ [l] := by
          rw [List.take_add_one, hj]
          rfl
        rw [et, plainsL_snoc, List.map_append] at hn
        have h1 := plainsL_len (ls.take j)
        have h2 := plains_len l
        have h3 := sizes_mem hl
        have h4 : sizes (ls.take j) ≤ sizes ls := by
          have e : sizes ls = sizes (ls.take j ++ ls.drop j) := by rw [List.take_append_drop]
          rw [e, sizes_app]
          omega
        exact ⟨l, hall l hl, by omega, rfl, by rw [List.length_map, List.length_map]; omega, hn _ _⟩
      · rintro ρ ⟨d0, s2, rfl⟩
        rw [List.take_length]
        exact h
theorem okR__law_plains {P : Program} {w : World} {K : PySem.W.Frag} {mg : Str → Option Value} {base : Heap} (E : En K mg) : ∀ n, Ok P w K mg base (1 + n) "_law_plains" ["_law_limit_here"] (s__law_plains n)
  | 0 => (okZ__law_plains E).imp z__law_plains
  | n + 1 => okS__law_plains E n (okR__law_plains E n)
theorem ok__law_plains {P : Program} {w : World} {K : PySem.W.Frag} {mg : Str → Option Value} {base : Heap} (E : En K mg) : Ok P w K mg base (1 + 3) "_law_plains" ["_law_limit_here"] (s__law_plains 3) := okR__law_plains E 3
end Wd
set_option maxRecDepth 100000
set_option maxHeartbeats 2000000
namespace Wd
open PySem PySem.Spec PyProof.Rows L2
local macro_rules | `(tactic| walk_at "wd") => `(tactic| simp only [startW, Ar.sl, List.map_cons, List.map_nil, List.replicate, List.cons_append, List.nil_append, List.length_cons, List.length_nil, Nat.reduceAdd, Nat.reduceSub, List.getElem?_cons_zero, List.getElem?_cons_succ, List.set_cons_zero, List.set_cons_succ,
  wSeq, wNext, wRet, wAsg, wIfS, wBreak, wNever, wExp, wVar, wC, wOp, wUn, wCB, wNil, wCons, wTup, wLst, wKey, intsD, Option.map_some, wIf, wB, wNot, wAnd, wOr, wAndV, wOrV, wNotV, wIsi, wChain, wCall, wcNil, wcCons, wcFeed, gwName, gwNil, gwCons, gwTup, wIdxT, wIdxL, tupK, lstK, wSlT, wSlL, wRev, wStar, spliceD, wLenO, wFrz, wOwnL, wOwnD, wApp, wExt, wPop, wDPut, wDGet, keyD, wPar, wPar3, wParOD, wParDO, blD, intK, strD, woNone, woSome, wiL, wiT, wiS, wiR1, wiR2, wiEnumT, wiZipT, tyOf, kit_ii, kit_bi, kit_bb, kit_ib, kit_ss, kit_tt, kit_ts, kit_si,
  addI, subI, ltI, leI, gtI, geI, negI, isN, notN, isNon, ixD, lenD, min2D, max2D, intD, tupD, lstD, wYes, wipeW, Bool.not_true, Bool.not_false, true_and, and_true, Nat.reduceLeDiff, Nat.zero_le])
def s__law_passing : WF := S4 fun a b c e k => ∃ S z ss L x, OkS S ∧ (z, ss) ∈ S.ps ∧ 0 ≤ x ∧ x ≤ 10000 ∧ L.all (fun _ _ => True) 3 ∧ L.size ≤ 100 ∧ (∀ d, fpS S ss L x = some d → d < x + 60) ∧ a = .da (encS S) ∧ b = .da (.str z) ∧ c = .da (encL L) ∧ e = .da (.int x) ∧ k (optI (fpS S ss L x))
theorem sc__law_passing : FnScope ["_law_site_here", "_law_part", "_law_limit_here", "_law_base", "_law_counts_here", "_law_day", "_law_use_here"] ["_law_site_here", "_law_part", "_law_limit_here", "_law_base"] (defScope (top 88)) := ⟨rfl, rfl, rfl, by decide +kernel, rfl, by decide +kernel, by decide +kernel⟩
theorem ok__law_passing {P : Program} {w : World} {K : PySem.W.Frag} {mg : Str → Option Value} {base : Heap} (E : En K mg) : Ok P w K mg base 5 "_law_passing" ["_law_site_here", "_law_part", "_law_limit_here", "_law_base"] s__law_passing := by
  have T := E.t
  have G__law_passed := ok__law_passed (P := P) (w := w) (base := base) E
  have G__law_use := ok__law_use (P := P) (w := w) (base := base) E
  refine mkOk E 65 d__law_passing rfl rfl rfl rfl rfl fun fd F => ⟨FunD.okW F sc__law_passing S4.len fun cdv A outer s H Er hr => ?_, F.bindsN fun _ _ _ _ _ _ us hl => match us, hl with | [_, _, _, _], _ => rfl⟩
  have nd := sc__law_passing.nd
  refine ⟨_, _, (ssw_cons (sw_set 4 nd (ew_tup (aw_cons ew_int (aw_cons ew_int (aw_cons ew_int aw_nil))))) (ssw_cons (sw_for PassesOwn.never (iw_range2 (aw_cons (ew_var 3) (aw_cons (ew_op op_add lo_add (ew_var 3) ew_int) aw_nil)) T.range) (gw_name 5 nd) (ssw_cons (sw_if (tw_val (kcall K G__law_passed (hr.mono (by omega)) (cw_cons (ew_var 2) (cw_cons (ew_var 4) cw_nil)))) (ssw_one (sw_ret (ew_var 5))) ssw_nil) (ssw_cons (sw_set 6 nd (kcall K G__law_use (hr.mono (by omega)) (cw_cons (ew_var 0) (cw_cons (ew_var 1) (cw_cons (ew_var 5) cw_nil))))) (ssw_one (sw_set 4 nd (ew_tup (aw_cons (ew_op op_add lo_add (kix K (ew_var 4) ew_int (fun _ _ => rfl)) (kix K (ew_var 6) ew_int (fun _ _ => rfl))) (aw_cons (ew_op op_add lo_add (kix K (ew_var 4) ew_int (fun _ _ => rfl)) (kix K (ew_var 6) ew_int (fun _ _ => rfl))) (aw_cons (ew_op op_add lo_add (kix K (ew_var 4) ew_int (fun _ _ => rfl)) ew_int) aw_nil))))))))) (ssw_one (sw_ret ew_non)))), S4.el ?_⟩
  rintro _ _ _ _ k ⟨S, z, ss, L, x, hS, hm, h0, hx, hL, hz, hb, rfl, rfl, rfl, rfl, h⟩
  refine ⟨show 3 ≤ 1000 by decide, ⟨(near_fit (by omega) (by omega)).1, (near_fit (by omega) (by omega)).2, (near_fit (a := x + 60) (by omega) (by omega)).1, (near_fit (a := x + 60) (by omega) (by omega)).2⟩, ?_⟩
  show forGo _ _ _ (ilist x (x + 60 - x).toNat) _
  rw [show (x + 60 - x).toNat = 60 by omega, ilist_map]
  refine for_inv0 (fun i : Nat => .int (x + i)) (List.range 60) (fun j ρ => ∃ s5 s6, ρ = [.da (encS S), .da (.str z), .da (encL L), .da (.int x), .da (.tup (cnt S ss x (x + j)).ds), s5, s6] ∧ ∀ d, x ≤ d → d < x + j → ¬ PassB S ss x L d) ⟨.un, .un, ?_, fun d h1 h2 => by omega⟩ ?_ ?_
  · have e0 : (cnt S ss x (x + ((0 : Nat) : Int))).ds = [.int 0, .int 0, .int 0] := by
      unfold cnt N3.ds
      rw [sumU_nil (by omega), sumU_nil (by omega)]
      show [D.int 0, D.int 0, D.int (x + ((0 : Nat) : Int) - x)] = _
      rw [show x + ((0 : Nat) : Int) - x = 0 by omega]
    rw [e0]
    rfl
  · rintro j i ρ nxt hj ⟨s5, s6, rfl, hno⟩ hn
    obtain ⟨rfl, hjl⟩ := range_get hj
    have hn := fun s5 s6 hh => hn _ ⟨s5, s6, rfl, hh⟩
    refine ⟨L, cnt S ss x (x + i), hL, hz, rfl, rfl, ?_⟩
    show (match lessB (cnt S ss x (x + i)) .zero L with | true => k (.int (x + i)) | false => _)
    cases e : lessB (cnt S ss x (x + i)) .zero L with
    | true =>
      have : fpS S ss L x = some (x + i) := leastOf_eq ⟨by omega, e, hno⟩
      rw [this] at h
      exact h
    | false =>
      refine ⟨S, z, ss, x + i, hS, hm, by omega, rfl, rfl, rfl, show 3 ≤ 1000 by decide, ?_⟩
      have ec : (cnt S ss x (x + ((i + 1 : Nat) : Int))).ds = [.int (sumU (fun d => (useAt S ss d).1) x (x + i) + (useAt S ss (x + i)).1), .int (sumU (fun d => (useAt S ss d).2) x (x + i) + (useAt S ss (x + i)).2), .int (x + i - x + 1)] := by
        have e1 : x + ((i + 1 : Nat) : Int) = x + i + 1 := by omega
        unfold cnt N3.ds
        rw [e1, sumU_succ (by omega), sumU_succ (by omega)]
        show [_, _, D.int (x + i + 1 - x)] = _
        rw [show x + (i : Int) + 1 - x = x + i - x + 1 by omega]
      rw [ec] at hn
      refine hn _ _ fun d h1 h2 => ?_
      rcases (by omega : d < x + i ∨ d = x + i) with q | q
      · exact hno d h1 q
      · rw [q]
        unfold PassB
        rw [e]
        decide
  · rintro ρ ⟨s5, s6, rfl, hno⟩
    rw [List.length_range] at hno
    have : fpS S ss L x = none := by
      cases e : fpS S ss L x with
      | none => rfl
      | some d =>
        obtain ⟨h1, h2, _⟩ := fp_some e
        have := hb d e
        exact absurd h2 (hno d h1 (by omega))
    rw [this] at h
    exact h
end Wd
set_option maxRecDepth 100000
set_option maxHeartbeats 2000000
namespace Wd
open PySem PySem.Spec PyProof.Rows L2
local macro_rules | `(tactic| walk_at "wd") => `(tactic| simp only [startW, Ar.sl, List.map_cons, List.map_nil, List.replicate, List.cons_append, List.nil_append, List.length_cons, List.length_nil, Nat.reduceAdd, Nat.reduceSub, List.getElem?_cons_zero, List.getElem?_cons_succ, List.set_cons_zero, List.set_cons_succ,
  wSeq, wNext, wRet, wAsg, wIfS, wBreak, wNever, wExp, wVar, wC, wOp, wUn, wCB, wNil, wCons, wTup, wLst, wKey, intsD, Option.map_some, wIf, wB, wNot, wAnd, wOr, wAndV, wOrV, wNotV, wIsi, wChain, wCall, wcNil, wcCons, wcFeed, gwName, gwNil, gwCons, gwTup, wIdxT, wIdxL, tupK, lstK, wSlT, wSlL, wRev, wStar, spliceD, wLenO, wFrz, wOwnL, wOwnD, wApp, wExt, wPop, wDPut, wDGet, keyD, wPar, wPar3, wParOD, wParDO, blD, intK, strD, woNone, woSome, wiL, wiT, wiS, wiR1, wiR2, wiEnumT, wiZipT, tyOf, kit_ii, kit_bi, kit_bb, kit_ib, kit_ss, kit_tt, kit_ts, kit_si,
  addI, subI, ltI, leI, gtI, geI, negI, isN, notN, isNon, ixD, lenD, min2D, max2D, intD, tupD, lstD, wYes, wipeW, Bool.not_true, Bool.not_false, true_and, and_true, Nat.reduceLeDiff, Nat.zero_le])
/-- all passing days of a task lie near -/
def Near (S : Site) (t : Task) (x : Int) : Prop := ∀ L, (L = t.lim ∨ L = widL t.sl t.lim ∨ L = widL t.sl.less t.lim) → ∀ d, fpS S (S.stays t.pt) L x = some d → d < x + 60
def s__law_three : WF := S3 fun a b c k => ∃ S t x, OkS S ∧ OkT S t ∧ Near S t x ∧ 0 ≤ x ∧ x ≤ 10000 ∧ a = .da (encS S) ∧ b = .da (encT t) ∧ c = .da (.int x) ∧ k (.tup [optI (earlyS S t x), optI (dueS S t x), optI (lateS S t x)])
theorem sc__law_three : FnScope ["_law_site_here", "_law_task", "_law_base", "_law_name", "_law_part", "_law_way", "_law_limit_here", "_law_slack", "_law_due", "_law_late", "_law_early", "_law_n"] ["_law_site_here", "_law_task", "_law_base"] (defScope (top 89)) := ⟨rfl, rfl, rfl, by decide +kernel, rfl, by decide +kernel, by decide +kernel⟩
theorem ok__law_three {P : Program} {w : World} {K : PySem.W.Frag} {mg : Str → Option Value} {base : Heap} (E : En K mg) : Ok P w K mg base 6 "_law_three" ["_law_site_here", "_law_task", "_law_base"] s__law_three := by
  have T := E.t
  have G__law_passing := ok__law_passing (P := P) (w := w) (base := base) E
  have G__law_more := ok__law_more (P := P) (w := w) (base := base) E
  refine mkOk E 66 d__law_three rfl rfl rfl rfl rfl fun fd F => ⟨FunD.okW F sc__law_three S3.len fun cdv A outer s H Er hr => ?_, F.bindsN fun _ _ _ _ _ _ us hl => match us, hl with | [_, _, _], _ => rfl⟩
  have nd := sc__law_three.nd
  refine ⟨_, _, (ssw_cons (sasg (ew_var 1) (ktup K (n := 5) (gsc (gw_name 3 nd) (gsc (gw_name 4 nd) (gsc (gw_name 5 nd) (gsc (gw_name 6 nd) (gsc (gw_name 7 nd) gsw_nil))))))) (ssw_cons (spar (i := 8) (j := 9) nd (aw_cons (kcall K G__law_passing (hr.mono (by omega)) (cw_cons (ew_var 0) (cw_cons (ew_var 4) (cw_cons (ew_var 6) (cw_cons (ew_var 2) cw_nil))))) (aw_cons (kcall K G__law_passing (hr.mono (by omega)) (cw_cons (ew_var 0) (cw_cons (ew_var 4) (cw_cons (kcall K G__law_more (hr.mono (by omega)) (cw_cons (ew_var 6) (cw_cons (ew_var 7) cw_nil))) (cw_cons (ew_var 2) cw_nil))))) aw_nil))) (ssw_cons (sw_set 10 nd (kcall K G__law_passing (hr.mono (by omega)) (cw_cons (ew_var 0) (cw_cons (ew_var 4) (cw_cons (kcall K G__law_more (hr.mono (by omega)) (cw_cons (ew_var 6) (cw_cons (kT K (rr := rTupF) call_tupF lc_tup T.tuple bb_tuple (aw_cons (ew_lc [("_law_n", 11)] nd (kiT K (ew_var 7)) (by show blkC ["_law_site_here", "_law_task", "_law_base", "_law_name", "_law_part", "_law_way", "_law_limit_here", "_law_slack", "_law_due", "_law_late", "_law_early", "_law_n"] (defScope (top 89)) _ _ = true; decide +kernel) (fun _ _ _ _ _ => (gw_name 11 nd)) (fun _ _ _ _ _ => qw_nil) (fun _ _ _ _ _ => (ew_op op_sub lo_sub (ew_un un_neg lo_neg ew_int) (ew_var 11)))) aw_nil)) cw_nil))) (cw_cons (ew_var 2) cw_nil)))))) (ssw_cons (sw_set 8 nd (ew_if (tw_cmp op_isN lo_isN (ew_var 8) ew_non (nomark _)) ew_non (ew_op op_sub lo_sub (ew_var 8) ew_int))) (ssw_cons (sw_set 9 nd (ew_if (tw_cmp op_isN lo_isN (ew_var 9) ew_non (nomark _)) ew_non (ew_op op_sub lo_sub (ew_var 9) ew_int))) (ssw_cons (sw_set 10 nd (ew_if (tw_cmp op_isN lo_isN (ew_var 10) ew_non (nomark _)) ew_non (kB K (rr := rMax2K) (call_max2 rfl) lc_max2 T.max bb_max (aw_cons (ew_var 10) (aw_cons (ew_op op_add lo_add (ew_var 2) ew_int) aw_nil))))) (ssw_cons (sw_if (BW.tw (bw_and (tw_cmp op_notN lo_notN (ew_var 9) ew_non (nomark _)) (bw_and1 (BW.tw (bw_or (tw_cmp op_isN lo_isN (ew_var 10) ew_non (nomark _)) (bw_or1 (tw_cmp op_lt lo_lt (ew_var 9) (ew_var 10) (nomark _)))))))) (ssw_one (sw_set 10 nd (ew_var 9))) ssw_nil) (ssw_one (sw_ret (ew_tup (aw_cons (ew_var 10) (aw_cons (ew_var 8) (aw_cons (ew_var 9) aw_nil))))))))))))), S3.el ?_⟩
  rintro _ _ _ k ⟨S, t, x, hS, ht, hn, h0, hx, rfl, rfl, rfl, h⟩
  obtain ⟨h1, h2⟩ := task_stays hS ht
  have hT : t.lim.all (fun _ _ => True) 3 := all_imp (fun _ _ _ => trivial) 3 _ ht.lim
  refine ⟨rfl, S, t.pt, S.stays t.pt, t.lim, x, hS, h1, h0, hx, hT, ht.siz, hn _ (.inl rfl), rfl, rfl, rfl, rfl, ?_⟩
  refine ⟨t.lim, t.sl, hT, ht.siz, rfl, rfl, S, t.pt, S.stays t.pt, widL t.sl t.lim, x, hS, h1, h0, hx, wid_all (fun _ _ _ => trivial) 3 _ hT, by rw [wid_size]; exact ht.siz, hn _ (.inr (.inl rfl)), rfl, rfl, rfl, rfl, ?_⟩
  have el : t.sl.less = ⟨-1 - t.sl.h, -1 - t.sl.c, -1 - t.sl.d⟩ := by
    unfold N3.less
    rw [show 0 - t.sl.h - 1 = -1 - t.sl.h by omega, show 0 - t.sl.c - 1 = -1 - t.sl.c by omega, show 0 - t.sl.d - 1 = -1 - t.sl.d by omega]
  have h3 := hn _ (.inr (.inr rfl))
  walk_at "wd"
  refine ⟨show 3 ≤ 1000 by decide, t.lim, ⟨-1 - t.sl.h, -1 - t.sl.c, -1 - t.sl.d⟩, hT, ht.siz, rfl, rfl, S, t.pt, S.stays t.pt, _, x, hS, h1, h0, hx, wid_all (fun _ _ _ => trivial) 3 _ hT, by rw [wid_size]; exact ht.siz, by rw [← el]; exact h3, rfl, rfl, rfl, rfl, ?_⟩
  rw [← el]
  walk_at "wd"
  have hd : dueS S t x = (fpS S (S.stays t.pt) t.lim x).map (· - 1) := rfl
  have hla : lateS S t x = (fpS S (S.stays t.pt) (widL t.sl t.lim) x).map (· - 1) := rfl
  have hre : reachS S t x = fpS S (S.stays t.pt) (widL t.sl.less t.lim) x := rfl
  have hea : earlyS S t x = match reachS S t x, lateS S t x with
    | none, none => none
    | some a, none => some (max (x + 1) a)
    | none, some b => some b
    | some a, some b => some (min (max (x + 1) a) b) := rfl
  rw [hea, hd, hla, hre] at h
  have hm : ∀ a : Int, max (x + 1) a = (if x + 1 > a then x + 1 else a) := fun a => by split <;> omega
  generalize fpS S (S.stays t.pt) t.lim x = a0 at h ⊢
  generalize fpS S (S.stays t.pt) (widL t.sl t.lim) x = l0 at h ⊢
  generalize fpS S (S.stays t.pt) (widL t.sl.less t.lim) x = r0 at h ⊢
  cases r0 with
  | none =>
    cases l0 with
    | none => cases a0 <;> exact h
    | some l => cases a0 <;> exact h
  | some r =>
    cases l0 with
    | none =>
      have h : k (.tup [.int (max (x + 1) r), optI (a0.map (· - 1)), .non]) := h
      rw [hm] at h
      cases a0 <;> exact h
    | some l =>
      have h : k (.tup [.int (min (max (x + 1) r) (l - 1)), optI (a0.map (· - 1)), .int (l - 1)]) := h
      rw [hm] at h
      by_cases hlt : l - 1 < (if x + 1 > r then x + 1 else r)
      · rw [show min (if x + 1 > r then x + 1 else r) (l - 1) = l - 1 by omega] at h
        cases a0
        all_goals
          show (match decide (l - 1 < (if x + 1 > r then x + 1 else r)) with | true => _ | false => _)
          rw [decide_eq_true hlt]
          exact h
      · rw [show min (if x + 1 > r then x + 1 else r) (l - 1) = (if x + 1 > r then x + 1 else r) by omega] at h
        cases a0
        all_goals
          show (match decide (l - 1 < (if x + 1 > r then x + 1 else r)) with | true => _ | false => _)
          rw [decide_eq_false hlt]
          exact h
end Wd
set_option maxRecDepth 100000
set_option maxHeartbeats 2000000
namespace Wd
open PySem PySem.Spec PyProof.Rows L2
/-! ### the feed -/
abbrev feedL (c : Addr) (i l n : Int) : List (Key × V) := [(Sum.inr "cells", .ref c), (Sum.inr "at", .int i), (Sum.inr "left", .int l), (Sum.inr "count", .int n)]
/-- a number that the feed holds: any -/
def wFInt (i : Nat) : WE := fun ρ k => match ρ[i]? with
  | some .fd => ∀ n : Int, k (.int n)
  | _ => False
def wFCells (i : Nat) : WE := fun ρ k => match ρ[i]? with
  | some .fd => ∀ ns : List Int, ns.length ≤ 1000 → k (.lst (ns.map D.int))
  | _ => False
def wFSet (i : Nat) (W : WE) : WSt := fun D ρ => match ρ[i]? with
  | some .fd => W ρ fun d => (match d with
    | .int _ => D.nx ρ
    | _ => False)
  | _ => False
theorem rpl_intsL {K : PySem.W.Frag} {G : Hp} : ∀ ns : List Int, RpL K G (ns.map V.int) (ns.map D.int)
  | [] => .nil
  | n :: ns => .cons (.int n) (rpl_intsL ns)
section
variable {X : Cx} {x key : Str} {e2 : Expr} {tv : TE} {Wv : WE} {pos npos spos kp : Pos} {kk : Option Str}
theorem ew_fint (i : Nat) {kn : Nat} (hu : X.A.units + 1 < cLine) (hk : ∀ c a l n, ∃ j : Int, valV (feedL c a l n) (Sum.inr key) = some (.int j)) (hN : X.N[i]? = some x := by rfl) (hvis : Vis X.env.scope x := by first | exact Or.inl rfl | exact Or.inr (Or.inl rfl) | exact Or.inr (Or.inr rfl)) (hd : (x == ("__debug__" : Str)) = false := by decide) (hcd : (x == ("__classdict__" : Str)) = false := by decide) :
    EW X (.Subscript (.Name x npos) (.Constant (.str key) kn kp) pos) (tDGet (tVar i) (tC (.str key))) (wFInt i) := by
  refine ⟨pe_dget hu (pe_var hN hvis hd hcd) (ew_str (j := kn) (pos := kp)).pe (fun _ _ => rfl), fun {F G H w σ ρ k Q} R h q => ?_⟩
  unfold wFInt at h
  split at h
  · rename_i e1
    obtain ⟨f, ef, es⟩ := R.at_ i _ e1
    obtain ⟨c, ns, a, l, n, k1, k2, k3, k4, kt⟩ := R.fok f ef
    obtain ⟨j, ej⟩ := hk c a l n
    have z := DGet.k (k := Sum.inr key) k4
    rw [ej] at z
    exact ⟨_, es, f, _, rfl, z, q _ _ G H R (Gr.refl ..) (.int j) (h j)⟩
  · cases h
theorem ew_fcells (i : Nat) {kn : Nat} (hu : X.A.units + 1 < cLine) (hk : key = "cells") (hN : X.N[i]? = some x := by rfl) (hvis : Vis X.env.scope x := by first | exact Or.inl rfl | exact Or.inr (Or.inl rfl) | exact Or.inr (Or.inr rfl)) (hd : (x == ("__debug__" : Str)) = false := by decide) (hcd : (x == ("__classdict__" : Str)) = false := by decide) :
    EW X (.Subscript (.Name x npos) (.Constant (.str key) kn kp) pos) (tDGet (tVar i) (tC (.str key))) (wFCells i) := by
  subst hk
  refine ⟨pe_dget hu (pe_var hN hvis hd hcd) (ew_str (j := kn) (pos := kp)).pe (fun _ _ => rfl), fun {F G H w σ ρ k Q} R h q => ?_⟩
  unfold wFCells at h
  split at h
  · rename_i e1
    obtain ⟨f, ef, es⟩ := R.at_ i _ e1
    obtain ⟨c, ns, a, l, n, k1, k2, k3, k4, kt⟩ := R.fok f ef
    have z := DGet.k (k := Sum.inr ("cells" : Str)) k4
    exact ⟨_, es, f, _, rfl, z, q _ _ G H R (Gr.refl ..) (.lst k2 (rpl_intsL ns)) (h ns k3)⟩
  · cases h
theorem sw_fset (i : Nat) {kn : Nat} (hu : X.A.units + 1 < cLine) (hk : ∀ c a l n v, ∃ a2 l2 n2 : Int, putK (feedL c a l n) (Sum.inr key) (.int v) = feedL c a2 l2 n2) (hv : EW X e2 tv Wv) (hN : X.N[i]? = some x := by rfl) (hvis : Vis X.env.scope x := by first | exact Or.inl rfl | exact Or.inr (Or.inl rfl) | exact Or.inr (Or.inr rfl)) (hd : (x == ("__debug__" : Str)) = false := by decide) (hcd : (x == ("__classdict__" : Str)) = false := by decide)
    (hs : swapsWith e2 (some (.Subscript (.Name x npos) (.Constant (.str key) kn kp) spos)) pos.line X.env = pure false := by rfl) :
    SW X (.Assign [.Subscript (.Name x npos) (.Constant (.str key) kn kp) spos] e2 pos) (sDPut (tVar i) (tC (.str key)) tv) (wFSet i Wv) := by
  refine ⟨ps_dput hu (pe_var hN hvis hd hcd) (ew_str (j := kn) (pos := kp)).pe hv.pe hs, fun {F G0 H0 G H w σ ρ D E} R hw q => ?_⟩
  unfold wFSet at hw
  split at hw
  · rename_i e1
    refine hv.li R.rs hw fun v d G1 H1 R1 g1 rv h1 => ?_
    split at h1
    · rename_i m
      cases rv
      obtain ⟨f, ef, es⟩ := R1.at_ i _ e1
      obtain ⟨c, ns, a, l, n, k1, k2, k3, k4, kt⟩ := R1.fok f ef
      obtain ⟨a2, l2, n2, ep⟩ := hk c a l n m
      refine ⟨_, es, f, _, rfl, DPut.k (k := Sum.inr key) k4 (show 4 < sizeLine by decide), ?_⟩
      rw [ep]
      refine q.nx w _ _ _ _ ⟨⟨R1.sub.updH k1, R1.len, fun j s hj => ?_, fun f2 e2 => ?_⟩, ?_, R.own⟩ h1
      · have qq := R1.at_ j s hj
        cases s with
        | un => trivial
        | da d => exact qq
        | ow es2 =>
          obtain ⟨b, xs, z1, z2, z3, z4, z5, z6⟩ := qq
          exact ⟨b, xs, z1, by rw [upd_ne (fun z => z5 (by rw [ef, z]))]; exact z2, z3, z4, z5, z6⟩
        | od es2 =>
          obtain ⟨b, xs, z1, z2, z3, z4, z5, z6⟩ := qq
          exact ⟨b, xs, z1, by rw [upd_ne (fun z => z5 (by rw [ef, z]))]; exact z2, z3, z4, z5, z6⟩
        | fd => exact qq
        | ob _ => exact qq
      · rw [ef] at e2
        cases e2
        exact ⟨c, ns, a2, l2, n2, k1, k2, k3, upd_same, kt.updH (nteK k4)⟩
      · have g := R.gr.trans g1
        refine ⟨fun b o hb n e => ?_, fun P t => tabS_upd (g.tb P t) (nteK k4), fun b e => ?_, g.gs, g.fr⟩
        · rw [upd_ne (fun z => hb (by rw [ef, z]))]
          exact g.hq b o hb n e
        · by_cases z : b = f
          · rw [z, upd_same]
            exact fun z => nomatch z
          · rw [upd_ne z]
            exact g.th b e
    · cases h1
  · cases hw
end
/-- a cell of the feed, or 151 -/
def wFCell (i a : Nat) : WE := fun ρ k => ρ[i]? = some .fd ∧ ∃ n : Int, ρ[a]? = some (.da (.int n)) ∧ ∀ m : Int, k (.int m)
section
variable {X : Cx} {e : Expr} {W0 : WE}
abbrev tCells (i : Nat) : TE := tDGet (tVar i) (tC (.str "cells"))
abbrev tFCell (K : PySem.W.Frag) (i a : Nat) : TE := tIf (tTest (tOp (rNe2 K) (tCells i) (tLst tNil))) (tOp (rIx K) (tCells i) (tOp (rI (fun _ j => 0 < j) fun i j => .int (i % j)) (tCB (rIntK K) (tCons (tVar a) tNil)) (tCB (rLenK K) (tCons (tCells i) tNil)))) (tC (.int 151))
theorem li_fcell {F : Option Addr} {G H : Hp} {w : Addr → Nat} {σ : L2.St} {ρ : List Sl} {i a : Nat} {k : D → Prop} {Q : VK} (R : Rs X.K F G H w σ ρ) (h : wFCell i a ρ k) (q : ∀ v d G' H', Rs X.K F G' H' w σ ρ → Gr F G H G' H' → Rp X.K G' v d → k d → Q v H') : tFCell X.K i a σ H Q := by
  obtain ⟨h0, n, ha, hk⟩ := h
  obtain ⟨f, ef, es⟩ := R.at_ i _ h0
  obtain ⟨c, ns, at_, l, m, k1, k2, k3, k4, kt⟩ := R.fok f ef
  have getc : ∀ H', H' f = some (.dK (feedL c at_ l m)) → DGet H' f (.str "cells") (some (.ref c)) := fun H' z => DGet.k (k := Sum.inr ("cells" : Str)) z
  have zi : LCall X.K (rIntK X.K) intD := lc_int
  have zl : LCall X.K (rLenK X.K) lenD := lc_len
  have zm : LOp X.K (rI (fun _ j => 0 < j) fun i j => .int (i % j)) modI := lo_mod
  have zx : LOp X.K (rIx X.K) ixD := lo_ix
  refine ⟨_, es, f, _, rfl, getc H k4, ?_⟩
  refine ⟨Nat.zero_le _, fun p hp => ?_⟩
  have g1 : Gr none G H (upd G p (.lst [])) (upd H p (.lst [])) := Gr.new hp R.sub
  refine lo_ne (G := upd G p (.lst [])) R.sub.new (.lst (g1.gs _ _ k2) (rpl_intsL ns)) (.lst upd_same .nil) (ne_nil (fun d hd => ?_)) fun v G2 H2 s2 g2 r2 => ?_
  · obtain ⟨j, _, rfl⟩ := List.mem_map.mp hd
    exact py_int _ _
  have g12 : Gr none G H G2 H2 := g1.trans g2
  have R2 : Rs X.K F G2 H2 w σ ρ := R.grow0 g12 s2
  cases r2
  refine ⟨_, rfl, ?_⟩
  have k42 : H2 f = some (.dK (feedL c at_ l m)) := g12.hp _ _ (fun z => nomatch z) k4
  cases ns with
  | nil =>
    show tC (.int 151) σ H2 Q
    exact q _ _ G2 H2 R2 g12.any (.int 151) (hk 151)
  | cons n0 ns =>
    show tOp (rIx X.K) (tCells i) (tOp (rI (fun _ j => 0 < j) fun i j => .int (i % j)) (tCB (rIntK X.K) (tCons (tVar a) tNil)) (tCB (rLenK X.K) (tCons (tCells i) tNil))) σ H2 Q
    refine ⟨_, es, f, _, rfl, getc H2 k42, ?_⟩
    obtain ⟨v, ev, rv⟩ := R2.at_ a _ ha
    cases rv
    refine ⟨_, ev, ?_⟩
    simp only [tNil]
    refine zi s2 (.cons (.int n) .nil) rfl fun v G3 H3 s3 g3 r3 => ?_
    cases r3
    have g13 := g12.trans g3
    have k43 : H3 f = some (.dK (feedL c at_ l m)) := g13.hp _ _ (fun z => nomatch z) k4
    refine ⟨_, es, f, _, rfl, getc H3 k43, ?_⟩
    simp only [tNil]
    refine zl s3 (.cons (.lst (g13.gs _ _ k2) (rpl_intsL (n0 :: ns))) .nil) rfl fun v G4 H4 s4 g4 r4 => ?_
    cases r4
    have g14 := g13.trans g4
    have hlen : (((n0 :: ns).map D.int).length : Int) = ((ns.length + 1 : Nat) : Int) := by rw [List.length_map]; rfl
    rw [hlen]
    refine zm s4 (.int n) (.int _) (show (if 0 < ((ns.length + 1 : Nat) : Int) then some (D.int (n % ((ns.length + 1 : Nat) : Int))) else none) = some (D.int (n % ((ns.length + 1 : Nat) : Int))) by rw [if_pos (by omega)]) fun v G5 H5 s5 g5 r5 => ?_
    cases r5
    have g15 := g14.trans g5
    have hj0 := Int.emod_nonneg n (b := ((ns.length + 1 : Nat) : Int)) (by omega)
    have hj1 := Int.emod_lt_of_pos n (b := ((ns.length + 1 : Nat) : Int)) (by omega)
    obtain ⟨y, ey⟩ : ∃ y, (n0 :: ns)[(n % ((ns.length + 1 : Nat) : Int)).toNat]? = some y := ⟨_, List.getElem?_eq_getElem (by rw [List.length_cons]; omega)⟩
    have eix : ixD (.lst ((n0 :: ns).map D.int)) (.int (n % ((ns.length + 1 : Nat) : Int))) = some (.int y) := by
      have z := atI_map D.int ey
      rw [show (((n % ((ns.length + 1 : Nat) : Int)).toNat : Nat) : Int) = n % ((ns.length + 1 : Nat) : Int) by omega] at z
      exact z
    refine zx s5 (.lst (g15.gs _ _ k2) (rpl_intsL (n0 :: ns))) (.int _) eix fun v G6 H6 s6 g6 r6 => ?_
    have g16 := g15.trans g6
    exact q _ _ G6 H6 (R.grow0 g16 s6) g16.any r6 (hk y)
theorem ew_fcell (i a : Nat) (h : EW X e (tFCell X.K i a) W0) : EW X e (tFCell X.K i a) (wFCell i a) := ⟨h.pe, li_fcell⟩
end
end Wd
set_option maxRecDepth 100000
set_option maxHeartbeats 2000000
namespace Wd
open PySem PySem.Spec PyProof.Rows L2
local macro_rules | `(tactic| walk_at "wd") => `(tactic| simp only [startW, Ar.sl, List.map_cons, List.map_nil, List.replicate, List.cons_append, List.nil_append, List.length_cons, List.length_nil, Nat.reduceAdd, Nat.reduceSub, List.getElem?_cons_zero, List.getElem?_cons_succ, List.set_cons_zero, List.set_cons_succ,
  wSeq, wNext, wRet, wAsg, wIfS, wBreak, wNever, wExp, wVar, wC, wOp, wUn, wCB, wNil, wCons, wTup, wLst, wKey, intsD, Option.map_some, wIf, wB, wNot, wAnd, wOr, wAndV, wOrV, wNotV, wIsi, wChain, wCall, wcNil, wcCons, wcFeed, gwName, gwNil, gwCons, gwTup, wIdxT, wIdxL, tupK, lstK, wSlT, wSlL, wRev, wStar, spliceD, wLenO, wFrz, wOwnL, wOwnD, wApp, wExt, wPop, wDPut, wDGet, keyD, wPar, wPar3, wParOD, wParDO, blD, intK, strD, woNone, woSome, wiL, wiT, wiS, wiR1, wiR2, wiEnumT, wiZipT, wFInt, wFCells, wFSet, tyOf, kit_ii, kit_bi, kit_bb, kit_ib, kit_ss, kit_tt, kit_ts, kit_si,
  addI, subI, ltI, leI, gtI, geI, negI, isN, notN, isNon, ixD, lenD, min2D, max2D, intD, tupD, lstD, wYes, wipeW, Bool.not_true, Bool.not_false, true_and, and_true, Nat.reduceLeDiff, Nat.zero_le])
/-! ### the law's feed -/
def s__law_draw : WF := S2 fun a b k => a = .fd ∧ ∃ n : Int, b = .da (.int n) ∧ 0 < n ∧ n < 1000000 ∧ ∀ j : Int, 0 ≤ j → j < n → k (.int j)
theorem sc__law_draw : FnScope ["_law_feed_here", "_law_many", "_law_figure", "_law_at", "_law_cell", "_law_mixed"] ["_law_feed_here", "_law_many"] (defScope (top 76)) := ⟨rfl, rfl, rfl, by decide +kernel, rfl, by decide +kernel, by decide +kernel⟩
theorem ok__law_draw {P : Program} {w : World} {K : PySem.W.Frag} {mg : Str → Option Value} {base : Heap} (E : En K mg) : Ok P w K mg base 1 "_law_draw" ["_law_feed_here", "_law_many"] s__law_draw := by
  have T := E.t
  refine mkOk E 53 d__law_draw rfl rfl rfl rfl rfl fun fd F => ⟨FunD.okW F sc__law_draw S2.len fun cdv A outer s H Er hr => ?_, F.bindsN fun _ _ _ _ _ _ us hl => match us, hl with | [_, _], _ => rfl⟩
  have nd := sc__law_draw.nd
  refine ⟨_, _, (ssw_cons (sw_fset 0 (hu_of hr) (fun _ a l n v => ⟨a, l, v, rfl⟩) (ew_op op_add lo_add (ew_fint 0 (hu_of hr) (fun _ _ _ _ => ⟨_, rfl⟩)) ew_int)) (ssw_cons (sw_if (tw_cmp op_gt lo_gt (ew_fint 0 (hu_of hr) (fun _ _ _ _ => ⟨_, rfl⟩)) ew_int (nomark _)) (ssw_cons (sw_set 2 nd (ew_op op_mod lo_mod (kT K (rr := rIntK) call_int1 lc_int T.int bb_int (aw_cons (ew_fint 0 (hu_of hr) (fun _ _ _ _ => ⟨_, rfl⟩)) aw_nil)) (ew_var 1))) (ssw_cons (sw_fset 0 (hu_of hr) (fun _ a l n v => ⟨a, v, n, rfl⟩) (ew_op op_fdiv lo_div (ew_fint 0 (hu_of hr) (fun _ _ _ _ => ⟨_, rfl⟩)) (ew_var 1))) (ssw_one (sw_ret (ew_var 2))))) ssw_nil) (ssw_cons (sw_set 3 nd (ew_fint 0 (hu_of hr) (fun _ _ _ _ => ⟨_, rfl⟩))) (ssw_cons (sw_fset 0 (hu_of hr) (fun _ a l n v => ⟨v, l, n, rfl⟩) (ew_op op_add lo_add (ew_var 3) ew_int)) (ssw_cons (sw_set 4 nd (ew_fcell 0 3 (ew_if (tkne K hr.units (ew_fcells 0 (hu_of hr) rfl) (ew_lst aw_nil)) (kix K (ew_fcells 0 (hu_of hr) rfl) (ew_op op_mod lo_mod (kT K (rr := rIntK) call_int1 lc_int T.int bb_int (aw_cons (ew_var 3) aw_nil)) (kB K (rr := rLenK) call_len lc_len T.len bb_len (aw_cons (ew_fcells 0 (hu_of hr) rfl) aw_nil))) (fun _ _ => rfl)) ew_int))) (ssw_cons (sw_if (BW.tw (bw_and (tw_cmp op_ge lo_ge (ew_var 4) (ew_op op_pow lo_pow ew_int ew_int) (nomark _)) (bw_and1 (tw_cmp op_lt lo_lt (ew_var 3) (kB K (rr := rLenK) call_len lc_len T.len bb_len (aw_cons (ew_fcells 0 (hu_of hr) rfl) aw_nil)) (nomark _))))) (ssw_cons (sw_fset 0 (hu_of hr) (fun _ a l n v => ⟨a, v, n, rfl⟩) (ew_op op_fdiv lo_div (ew_var 4) (ew_var 1))) (ssw_one (sw_ret (ew_op op_mod lo_mod (kT K (rr := rIntK) call_int1 lc_int T.int bb_int (aw_cons (ew_var 4) aw_nil)) (ew_var 1))))) ssw_nil) (ssw_cons (sw_set 5 nd (ew_op op_mod lo_mod (kT K (rr := rIntK) call_int1 lc_int T.int bb_int (aw_cons (ew_op op_add lo_add (ew_op op_add lo_add (ew_op op_mod lo_mod (kT K (rr := rIntK) call_int1 lc_int T.int bb_int (aw_cons (ew_var 4) aw_nil)) ew_int) (ew_op op_mul lo_mul ew_int (ew_fint 0 (hu_of hr) (fun _ _ _ _ => ⟨_, rfl⟩)))) ew_int) aw_nil)) ew_int)) (ssw_cons (sw_set 5 nd (ew_op op_mod lo_mod (kT K (rr := rIntK) call_int1 lc_int T.int bb_int (aw_cons (ew_op op_add lo_add (ew_op op_add lo_add (ew_op op_mul lo_mul (ew_var 5) (ew_var 5)) (ew_op op_mul lo_mul ew_int (ew_fint 0 (hu_of hr) (fun _ _ _ _ => ⟨_, rfl⟩)))) ew_int) aw_nil)) ew_int)) (ssw_one (sw_ret (ew_op op_mod lo_mod (kT K (rr := rIntK) call_int1 lc_int T.int bb_int (aw_cons (ew_op op_fdiv lo_div (ew_op op_mod lo_mod (kT K (rr := rIntK) call_int1 lc_int T.int bb_int (aw_cons (ew_op op_add lo_add (ew_op op_mul lo_mul (ew_var 5) (ew_var 5)) (ew_op op_mul lo_mul ew_int (ew_var 5))) aw_nil)) ew_int) ew_int) aw_nil)) (ew_var 1)))))))))))), S2.el ?_⟩
  rintro _ _ k ⟨rfl, n, rfl, h0, h1, h⟩
  have hm : ∀ a : Int, modI (.int a) (.int n) = some (.int (a % n)) := fun a => by
    show (if 0 < n then some (D.int (a % n)) else none) = _
    rw [if_pos h0]
  have hdv : ∀ a : Int, divI (.int a) (.int n) = some (.int (a / n)) := fun a => by
    show (if 0 < n ∧ n < 1073741824 then some (D.int (a / n)) else none) = _
    rw [if_pos ⟨h0, by omega⟩]
  have hr : ∀ a : Int, k (.int (a % n)) := fun a => h _ (Int.emod_nonneg a (by omega)) (Int.emod_lt_of_pos a h0)
  walk_at "wd"
  have hmL : ∀ m : Int, 0 < m → ∀ a : Int, modI (.int a) (.int m) = some (.int (a % m)) := fun m h2 a => by
    show (if 0 < m then some (D.int (a % m)) else none) = _
    rw [if_pos h2]
  have hmu : ∀ a b : Int, -2 ^ 64 < a → a < 2 ^ 64 → mulI (.int a) (.int b) = some (.int (a * b)) := fun a b q1 q2 => by
    show (if -2 ^ 64 < a ∧ a < 2 ^ 64 then some (D.int (a * b)) else none) = _
    rw [if_pos ⟨q1, q2⟩]
  have m1 := hmL 1000000931 (by decide)
  have m2 := hmL 2147483579 (by decide)
  have m3 := hmL 2147483549 (by decide)
  have m4 := hmL 2147483543 (by decide)
  have u1 := fun b => hmu 50153 b (by decide) (by decide)
  have u2 := fun b => hmu 5300153 b (by decide) (by decide)
  have u3 := fun b => hmu 197 b (by decide) (by decide)
  have u4 : ∀ a b : Int, mulI (.int (a % 2147483579)) (.int b) = some (.int (a % 2147483579 * b)) := fun a b => hmu _ b (by omega) (by omega)
  have u5 : ∀ a b : Int, mulI (.int (a % 2147483549)) (.int b) = some (.int (a % 2147483549 * b)) := fun a b => hmu _ b (by omega) (by omega)
  have d16 : ∀ a : Int, divI (.int a) (.int 16) = some (.int (a / 16)) := fun a => by
    show (if 0 < (16 : Int) ∧ (16 : Int) < 1073741824 then some (D.int (a / 16)) else none) = _
    rw [if_pos (by decide)]
  obtain ⟨p, hp⟩ : ∃ p, powI (.int 10) (.int 18) = some (.int p) := ⟨_, rfl⟩
  intro c1 c2
  by_cases hc : 0 < c2
  · rw [decide_eq_true hc]
    simp only [hm, hdv]
    intro _ _
    exact hr _
  · rw [decide_eq_false hc]
    intro at_
    refine ⟨rfl, at_, rfl, fun v => ?_⟩
    rw [hp]
    simp only [hm, hdv, m1, m2, m3, m4, u1, u2, u3, u4, u5, d16]
    by_cases hv : p ≤ v
    · rw [decide_eq_true hv]
      intro ns _
      by_cases ha : at_ < ((ns.map D.int).length : Int)
      · rw [decide_eq_true ha]
        exact hr _
      · rw [decide_eq_false ha]
        intro _ _
        exact hr _
    · rw [decide_eq_false hv]
      intro _ _
      exact hr _
def s__law_pick : WF := S2 fun a b k => a = .fd ∧ ∃ ds : List D, b = .da (.lst ds) ∧ 0 < ds.length ∧ ds.length ≤ 1000 ∧ ∀ d ∈ ds, k d
theorem sc__law_pick : FnScope ["_law_feed_here", "_law_things"] ["_law_feed_here", "_law_things"] (defScope (top 77)) := ⟨rfl, rfl, rfl, by decide +kernel, rfl, by decide +kernel, by decide +kernel⟩
theorem ok__law_pick {P : Program} {w : World} {K : PySem.W.Frag} {mg : Str → Option Value} {base : Heap} (E : En K mg) : Ok P w K mg base 2 "_law_pick" ["_law_feed_here", "_law_things"] s__law_pick := by
  have T := E.t
  have G__law_draw := ok__law_draw (P := P) (w := w) (base := base) E
  refine mkOk E 54 d__law_pick rfl rfl rfl rfl rfl fun fd F => ⟨FunD.okW F sc__law_pick S2.len fun cdv A outer s H Er hr => ?_, F.bindsN fun _ _ _ _ _ _ us hl => match us, hl with | [_, _], _ => rfl⟩
  have nd := sc__law_pick.nd
  refine ⟨_, _, (ssw_one (sw_ret (kix K (ew_var 1) (kcall K G__law_draw (hr.mono (by omega)) (cw_feed 0 (cw_cons (kB K (rr := rLenK) call_len lc_len T.len bb_len (aw_cons (ew_var 1) aw_nil)) cw_nil))) (fun _ _ => rfl)))), S2.el ?_⟩
  rintro _ _ k ⟨rfl, ds, rfl, h0, h1, h⟩
  refine ⟨rfl, _, rfl, by omega, by omega, fun j hj0 hj1 => ?_⟩
  obtain ⟨d, hd⟩ : ∃ d, ds[j.toNat]? = some d := ⟨_, List.getElem?_eq_getElem (by omega)⟩
  have z := atI_get hd
  rw [show ((j.toNat : Nat) : Int) = j by omega] at z
  show (match atI ds j with | some d => k d | none => False)
  rw [z]
  exact h d (List.mem_of_getElem? hd)
def okD (_ : Word) (n : Int) : Prop := 3 ≤ n ∧ n ≤ 9
def s__law_plain : WF := S1 fun a k => a = .fd ∧ ∀ w n, okD w n → k (encL (.pl w n))
theorem sc__law_plain : FnScope ["_law_feed_here", "_law_word"] ["_law_feed_here"] (defScope (top 78)) := ⟨rfl, rfl, rfl, by decide +kernel, rfl, by decide +kernel, by decide +kernel⟩
theorem ok__law_plain {P : Program} {w : World} {K : PySem.W.Frag} {mg : Str → Option Value} {base : Heap} (E : En K mg) : Ok P w K mg base 3 "_law_plain" ["_law_feed_here"] s__law_plain := by
  have T := E.t
  have G__law_pick := ok__law_pick (P := P) (w := w) (base := base) E
  have G__law_draw := ok__law_draw (P := P) (w := w) (base := base) E
  refine mkOk E 55 d__law_plain rfl rfl rfl rfl rfl fun fd F => ⟨FunD.okW F sc__law_plain S1.len fun cdv A outer s H Er hr => ?_, F.bindsN fun _ _ _ _ _ _ us hl => match us, hl with | [_], _ => rfl⟩
  have nd := sc__law_plain.nd
  refine ⟨_, _, (ssw_cons (sw_set 1 nd (kcall K G__law_pick (hr.mono (by omega)) (cw_feed 0 (cw_cons (ew_lst (aw_cons ew_str (aw_cons ew_str (aw_cons ew_str (aw_cons ew_str aw_nil))))) cw_nil)))) (ssw_one (sw_ret (ew_tup (aw_cons (ew_var 1) (aw_cons (ew_op op_add lo_add (ew_if (tkeq K hr.units (ew_var 1) ew_str) ew_int ew_int) (kcall K G__law_draw (hr.mono (by omega)) (cw_feed 0 (cw_cons ew_int cw_nil)))) aw_nil)))))), S1.el ?_⟩
  rintro _ k ⟨rfl, h⟩
  refine ⟨show 4 ≤ 1000 by decide, rfl, _, rfl, by decide, by decide, fun d hd => ?_⟩
  have hd : d = .str "hours" ∨ d = .str "cycles" ∨ d = .str "days" := by
    simp only [List.mem_cons, List.not_mem_nil, or_false] at hd
    rcases hd with q | q | q | q
    · exact .inl q
    · exact .inl q
    · exact .inr (.inl q)
    · exact .inr (.inr q)
  rcases hd with rfl | rfl | rfl
  · exact ⟨rfl, 6, rfl, by decide, by decide, fun j h0 h1 => ⟨show 2 ≤ 1000 by decide, h .hours (4 + j) ⟨by omega, by omega⟩⟩⟩
  · exact ⟨rfl, 6, rfl, by decide, by decide, fun j h0 h1 => ⟨show 2 ≤ 1000 by decide, h .cycles (4 + j) ⟨by omega, by omega⟩⟩⟩
  · exact ⟨rfl, 6, rfl, by decide, by decide, fun j h0 h1 => ⟨show 2 ≤ 1000 by decide, h .days (3 + j) ⟨by omega, by omega⟩⟩⟩
theorem lc_each {α : Type} {P : α → Prop} (f : α → D) {g : WG} {te : WE} {ρ : List Sl} {k : List D → Prop} : ∀ (xs acc : List D), (∀ x ∈ xs, ∀ kk : D → Prop, (∀ y, P y → kk (f y)) → g x ρ fun ρ' => te ρ' kk) → (∀ ys : List α, ys.length = xs.length → (∀ y ∈ ys, P y) → k (acc ++ ys.map f)) → lcGo g wYes te ρ xs acc k
  | [], acc, _, h => by
    have := h [] rfl (fun y hy => by cases hy)
    rw [List.map_nil, List.append_nil] at this
    exact this
  | x :: xs, acc, hx, h => by
    refine hx x List.mem_cons_self _ fun y hy => ?_
    refine lc_each f xs (acc ++ [f y]) (fun z hz => hx z (List.mem_cons_of_mem _ hz)) fun ys hl hp => ?_
    have := h (y :: ys) (by rw [List.length_cons, List.length_cons, hl]) fun z hz => by
      rcases List.mem_cons.mp hz with q | q
      · rw [q]; exact hy
      · exact hp z q
    rw [List.append_assoc]
    exact this
def s__law_limit (n : Nat) : WF := S2 fun a b k => a = .fd ∧ ∃ m : Nat, n = m + 1 ∧ m ≤ 5 ∧ b = .da (.int (m : Nat)) ∧ ∀ L : Lim, L.all okD n → L.size + 1 ≤ 2 ^ n → k (encL L)
theorem z__law_limit : ∀ as k, s__law_limit 0 as k → False := S2.el fun a b k ⟨_, m, h, _⟩ => by cases h
theorem sizes_le {c : Nat} : ∀ ls : List Lim, (∀ l ∈ ls, l.size ≤ c) → sizes ls ≤ ls.length * c
  | [], _ => by unfold sizes; exact Nat.zero_le _
  | l :: ls, h => by
    unfold sizes
    have h1 := h l List.mem_cons_self
    have h2 := sizes_le ls fun x hx => h x (List.mem_cons_of_mem _ hx)
    rw [List.length_cons, Nat.add_mul, Nat.one_mul]
    omega
theorem sc__law_limit : FnScope ["_law_feed_here", "_law_deep", "_law_way", "_law_limits", "_law_k"] ["_law_feed_here", "_law_deep"] (defScope (top 79)) := ⟨rfl, rfl, rfl, by decide +kernel, rfl, by decide +kernel, by decide +kernel⟩
theorem okZ__law_limit {P : Program} {w : World} {K : PySem.W.Frag} {mg : Str → Option Value} {base : Heap} (E : En K mg) : Ok P w K mg base 4 "_law_limit" ["_law_feed_here", "_law_deep"] (fun _ _ => False) := by
  refine mkOk E 56 d__law_limit rfl rfl rfl rfl rfl fun fd F => ⟨FunD.okW F sc__law_limit falseS fun cdv A outer s H Er hr => ⟨tNever, wNever, ssw_never, fun _ _ h => h.elim⟩, F.bindsN fun _ _ _ _ _ _ us hl => match us, hl with | [_, _], _ => rfl⟩
theorem okS__law_limit {P : Program} {w : World} {K : PySem.W.Frag} {mg : Str → Option Value} {base : Heap} (E : En K mg) (n : Nat) (G__law_limit : Ok P w K mg base (4 + n) "_law_limit" ["_law_feed_here", "_law_deep"] (s__law_limit n)) : Ok P w K mg base (4 + n + 1) "_law_limit" ["_law_feed_here", "_law_deep"] (s__law_limit (n + 1)) := by
  have T := E.t
  have G__law_draw := ok__law_draw (P := P) (w := w) (base := base) E
  have G__law_plain := ok__law_plain (P := P) (w := w) (base := base) E
  refine mkOk E 56 d__law_limit rfl rfl rfl rfl rfl fun fd F => ⟨FunD.okW F sc__law_limit S2.len fun cdv A outer s H Er hr => ?_, F.bindsN fun _ _ _ _ _ _ us hl => match us, hl with | [_, _], _ => rfl⟩
  have nd := sc__law_limit.nd
  refine ⟨_, _, (ssw_cons (sw_set 2 nd (kcall K G__law_draw (hr.mono (by omega)) (cw_feed 0 (cw_cons ew_int cw_nil)))) (ssw_cons (sw_if (BW.tw (bw_or (tkeq K hr.units (ew_var 1) ew_int) (bw_or1 (tw_cmp op_lt lo_lt (ew_var 2) ew_int (nomark _))))) (ssw_one (sw_ret (kcall K G__law_plain (hr.mono (by omega)) (cw_feed 0 cw_nil)))) ssw_nil) (ssw_cons (sw_set 3 nd (kT K (rr := rTupF) call_tupF lc_tup T.tuple bb_tuple (aw_cons (ew_lc [("_law_k", 4)] nd (iw_range1 (aw_cons (ew_op op_add lo_add ew_int (kcall K G__law_draw (hr.mono (by omega)) (cw_feed 0 (cw_cons ew_int cw_nil)))) aw_nil) T.range) (by show blkC ["_law_feed_here", "_law_deep", "_law_way", "_law_limits", "_law_k"] (defScope (top 79)) _ _ = true; decide +kernel) (fun _ _ _ _ _ => (gw_name 4 nd)) (fun _ _ _ _ _ => qw_nil) (fun _ _ _ _ _ => (kcall K G__law_limit (hr.mono (by omega)) (cw_feed 0 (cw_cons (ew_op op_sub lo_sub (ew_var 1) ew_int) cw_nil))))) aw_nil))) (ssw_one (sw_ret (ew_tup (aw_cons (ew_if (tkeq K hr.units (ew_var 2) ew_int) ew_str ew_str) (aw_cons (ew_var 3) aw_nil)))))))), S2.el ?_⟩
  rintro _ _ k ⟨rfl, m, hm, hm5, rfl, h⟩
  have hm : n = m := by omega
  subst hm
  refine ⟨rfl, 5, rfl, by decide, by decide, fun way hw0 hw5 => ?_⟩
  have hpl : ∀ w r, okD w r → k (encL (.pl w r)) := fun w r hr => h (.pl w r) (by unfold Lim.all; exact hr) (by
    unfold Lim.size
    have : 2 ^ 1 ≤ 2 ^ (n + 1) := Nat.pow_le_pow_right (by decide) (by omega)
    omega)
  show (match decide (((n : Nat) : Int) = 0) with | true => _ | false => _)
  by_cases h0 : ((n : Nat) : Int) = 0
  · rw [decide_eq_true h0]
    exact ⟨rfl, hpl⟩
  · rw [decide_eq_false h0]
    show (match decide (way < 2) with | true => _ | false => _)
    by_cases h2 : way < 2
    · rw [decide_eq_true h2]
      exact ⟨rfl, hpl⟩
    · rw [decide_eq_false h2]
      obtain ⟨n', rfl⟩ : ∃ n', n = n' + 1 := ⟨n - 1, by omega⟩
      refine ⟨rfl, 2, rfl, by decide, by decide, fun j hj0 hj1 => ⟨⟨show -2 ^ 62 ≤ 1 + j by omega, show 1 + j < 2 ^ 62 by omega⟩, ?_⟩⟩
      refine ⟨by rw [ilist_length]; omega, ?_⟩
      refine lc_each (P := fun L => L.all okD (n' + 1) ∧ L.size + 1 ≤ 2 ^ (n' + 1)) encL _ [] (fun x hx kk hk => ?_) fun Ls hl hp => ?_
      · refine ⟨rfl, n', rfl, by omega, ?_, fun L h1 h2 => hk L ⟨h1, h2⟩⟩
        show Ar.da (.int (((n' + 1 : Nat) : Int) - 1)) = _
        rw [show ((n' + 1 : Nat) : Int) - 1 = ((n' : Nat) : Int) by omega]
      · rw [ilist_length] at hl
        have hfin : ∀ b : Bool, k (.tup [.str (joS b), .tup (Ls.map encL)]) := fun b => by
          have z := h (.jo b Ls) (by
            unfold Lim.all
            refine ⟨fun e => ?_, (alls_iff _ _ _).mpr fun l hm => (hp l hm).1⟩
            rw [e] at hl
            simp at hl
            omega) (by
            unfold Lim.size
            have s1 := sizes_le (c := 2 ^ (n' + 1) - 1) Ls fun l hm => by have := (hp l hm).2; omega
            have s2 : Ls.length * (2 ^ (n' + 1) - 1) ≤ 2 * (2 ^ (n' + 1) - 1) := Nat.mul_le_mul_right _ (by omega)
            have s3 : 2 ^ (n' + 1 + 1) = 2 * 2 ^ (n' + 1) := by rw [Nat.pow_succ, Nat.mul_comm]
            have s4 : 1 ≤ 2 ^ (n' + 1) := Nat.one_le_two_pow
            omega)
          unfold encL at z
          rw [encLs_eq] at z
          exact z
        show (match decide (way = 4) with | true => _ | false => _)
        by_cases h4 : way = 4
        · rw [decide_eq_true h4]
          exact ⟨show 2 ≤ 1000 by decide, hfin false⟩
        · rw [decide_eq_false h4]
          exact ⟨show 2 ≤ 1000 by decide, hfin true⟩
theorem okR__law_limit {P : Program} {w : World} {K : PySem.W.Frag} {mg : Str → Option Value} {base : Heap} (E : En K mg) : ∀ n, Ok P w K mg base (4 + n) "_law_limit" ["_law_feed_here", "_law_deep"] (s__law_limit n)
  | 0 => (okZ__law_limit E).imp z__law_limit
  | n + 1 => okS__law_limit E n (okR__law_limit E n)
theorem ok__law_limit {P : Program} {w : World} {K : PySem.W.Frag} {mg : Str → Option Value} {base : Heap} (E : En K mg) : Ok P w K mg base (4 + 3) "_law_limit" ["_law_feed_here", "_law_deep"] (s__law_limit 3) := okR__law_limit E 3
end Wd
set_option maxRecDepth 100000
set_option maxHeartbeats 2000000
namespace Wd
open PySem PySem.Spec PyProof.Rows L2
local macro_rules | `(tactic| walk_at "wd") => `(tactic| simp only [startW, Ar.sl, List.map_cons, List.map_nil, List.replicate, List.cons_append, List.nil_append, List.length_cons, List.length_nil, Nat.reduceAdd, Nat.reduceSub, List.getElem?_cons_zero, List.getElem?_cons_succ, List.set_cons_zero, List.set_cons_succ,
  wSeq, wNext, wRet, wAsg, wIfS, wBreak, wNever, wExp, wVar, wC, wOp, wUn, wCB, wNil, wCons, wTup, wLst, wKey, intsD, Option.map_some, wIf, wB, wNot, wAnd, wOr, wAndV, wOrV, wNotV, wIsi, wChain, wCall, wcNil, wcCons, wcFeed, gwName, gwNil, gwCons, gwTup, wIdxT, wIdxL, tupK, lstK, wSlT, wSlL, wRev, wStar, spliceD, wLenO, wFrz, wOwnL, wOwnD, wApp, wExt, wPop, wDPut, wDGet, keyD, wPar, wPar3, wParOD, wParDO, blD, intK, strD, woNone, woSome, wiL, wiT, wiS, wiR1, wiR2, wiEnumT, wiZipT, wFInt, wFCells, wFSet, tyOf, kit_ii, kit_bi, kit_bb, kit_ib, kit_ss, kit_tt, kit_ts, kit_si,
  addI, subI, ltI, leI, gtI, geI, negI, isN, notN, isNon, ixD, lenD, min2D, max2D, intD, tupD, lstD, wYes, wipeW, Bool.not_true, Bool.not_false, true_and, and_true, Nat.reduceLeDiff, Nat.zero_le])
/-! ### drawn sites -/
def okDU (us : Uses) : Prop := us ≠ [] ∧ us.length ≤ 3 ∧ ∀ u ∈ us, 0 ≤ u.1 ∧ u.1 ≤ 4 ∧ 0 ≤ u.2 ∧ u.2 ≤ 3
def s__law_machines : WF := S1 fun a k => a = .fd ∧ ∀ ua ub, okDU ua → okDU ub → k (.tup [encM ("axe", ua), encM ("bar", ub)])
/-- the uses of a machine, drawn -/
theorem lc_uses {g : WG} {te : WE} {ρ : List Sl} {k : List D → Prop} (n : Nat) (hn : 1 ≤ n) (hn3 : n ≤ 3) (he : ∀ (x : D) (kk : D → Prop), (∀ i j : Int, 0 ≤ i → i < 5 → 0 ≤ j → j < 4 → kk (encU (i, j))) → g x ρ fun ρ' => te ρ' kk) (hk : ∀ us, okDU us → k (us.map encU)) : lcGo g wYes te ρ (ilist 0 n) [] k := by
  refine lc_each (P := fun u : Int × Int => 0 ≤ u.1 ∧ u.1 ≤ 4 ∧ 0 ≤ u.2 ∧ u.2 ≤ 3) encU _ [] (fun x _ kk hkk => he x kk fun i j h1 h2 h3 h4 => hkk (i, j) ⟨h1, show i ≤ 4 by omega, h3, show j ≤ 3 by omega⟩) fun us hl hp => ?_
  rw [ilist_length] at hl
  exact hk us ⟨fun e => by rw [e] at hl; simp at hl; omega, by omega, hp⟩
theorem sc__law_machines : FnScope ["_law_feed_here", "_law_found", "_law_name", "_law_uses", "_law_k"] ["_law_feed_here"] (defScope (top 80)) := ⟨rfl, rfl, rfl, by decide +kernel, rfl, by decide +kernel, by decide +kernel⟩
theorem ok__law_machines {P : Program} {w : World} {K : PySem.W.Frag} {mg : Str → Option Value} {base : Heap} (E : En K mg) : Ok P w K mg base 2 "_law_machines" ["_law_feed_here"] s__law_machines := by
  have T := E.t
  have G__law_draw := ok__law_draw (P := P) (w := w) (base := base) E
  refine mkOk E 57 d__law_machines rfl rfl rfl rfl rfl fun fd F => ⟨FunD.okW F sc__law_machines S1.len fun cdv A outer s H Er hr => ?_, F.bindsN fun _ _ _ _ _ _ us hl => match us, hl with | [_], _ => rfl⟩
  have nd := sc__law_machines.nd
  refine ⟨_, _, (ssw_cons (sw_ownL 1 nd aw_nil) (ssw_cons (sw_for PassesOwn.never (kiT K (ew_tup (aw_cons ew_str (aw_cons ew_str aw_nil)))) (gw_name 2 nd) (ssw_cons (ssetLc (i := 3) [("_law_k", 4)] nd (iw_range1 (aw_cons (ew_op op_add lo_add ew_int (kcall K G__law_draw (hr.mono (by omega)) (cw_feed 0 (cw_cons ew_int cw_nil)))) aw_nil) T.range) (by show blkC ["_law_feed_here", "_law_found", "_law_name", "_law_uses", "_law_k"] (defScope (top 80)) _ _ = true; decide +kernel) (fun _ _ _ _ _ => (gw_name 4 nd)) (fun _ _ _ _ _ => qw_nil) (fun _ _ _ _ _ => (ew_tup (aw_cons (kcall K G__law_draw (hr.mono (by omega)) (cw_feed 0 (cw_cons ew_int cw_nil))) (aw_cons (kcall K G__law_draw (hr.mono (by omega)) (cw_feed 0 (cw_cons ew_int cw_nil))) aw_nil))))) (ssw_one (sapp 1 (ew_tup (aw_cons (ew_var 2) (aw_cons (kT K (rr := rTupF) call_tupF lc_tup T.tuple bb_tuple (aw_cons (ew_var 3) aw_nil)) aw_nil))))))) (ssw_frz 1 (ssw_one (sw_ret (kT K (rr := rTupF) call_tupF lc_tup T.tuple bb_tuple (aw_cons (ew_var 1) aw_nil))))))), S1.el ?_⟩
  rintro _ k ⟨rfl, h⟩
  refine ⟨show 0 ≤ 1000 by decide, show 2 ≤ 1000 by decide, ?_⟩
  refine ⟨rfl, 3, rfl, by decide, by decide, fun j1 a0 a1 => ⟨⟨show -2 ^ 62 ≤ 1 + j1 by omega, show 1 + j1 < 2 ^ 62 by omega⟩, by rw [ilist_length]; omega, lc_uses _ (by omega) (by omega) (fun x kk hk => ⟨rfl, 5, rfl, by decide, by decide, fun i b0 b1 => ⟨rfl, 4, rfl, by decide, by decide, fun j c0 c1 => ⟨show 2 ≤ 1000 by decide, hk i j b0 b1 c0 c1⟩⟩⟩) fun ua hua => ?_⟩⟩
  refine ⟨show 2 ≤ 1000 by decide, show 0 < 1000 by decide, ?_⟩
  refine ⟨rfl, 3, rfl, by decide, by decide, fun j1 a0 a1 => ⟨⟨show -2 ^ 62 ≤ 1 + j1 by omega, show 1 + j1 < 2 ^ 62 by omega⟩, by rw [ilist_length]; omega, lc_uses _ (by omega) (by omega) (fun x kk hk => ⟨rfl, 5, rfl, by decide, by decide, fun i b0 b1 => ⟨rfl, 4, rfl, by decide, by decide, fun j c0 c1 => ⟨show 2 ≤ 1000 by decide, hk i j b0 b1 c0 c1⟩⟩⟩) fun ub hub => ?_⟩⟩
  exact ⟨show 2 ≤ 1000 by decide, show 1 < 1000 by decide, h ua ub hua hub⟩
def okDS (ss : Stays) : Prop := ∃ p0 : Str, (p0 = "axe" ∨ p0 = "bar") ∧ (ss = [(0, some p0)] ∨ ∃ (b : Int) (p1 : Option Str), 1 ≤ b ∧ b ≤ 5 ∧ (p1 = none ∨ p1 = some "axe" ∨ p1 = some "bar") ∧ ss = [(0, some p0), (b, p1)])
def s__law_parts : WF := S1 fun a k => a = .fd ∧ ∀ sc sp, okDS sc → okDS sp → k (.tup [encP ("cog", sc), encP ("pin", sp)])
theorem sc__law_parts : FnScope ["_law_feed_here", "_law_found", "_law_name", "_law_stays"] ["_law_feed_here"] (defScope (top 81)) := ⟨rfl, rfl, rfl, by decide +kernel, rfl, by decide +kernel, by decide +kernel⟩
theorem ok__law_parts {P : Program} {w : World} {K : PySem.W.Frag} {mg : Str → Option Value} {base : Heap} (E : En K mg) : Ok P w K mg base 3 "_law_parts" ["_law_feed_here"] s__law_parts := by
  have T := E.t
  have G__law_pick := ok__law_pick (P := P) (w := w) (base := base) E
  have G__law_draw := ok__law_draw (P := P) (w := w) (base := base) E
  refine mkOk E 58 d__law_parts rfl rfl rfl rfl rfl fun fd F => ⟨FunD.okW F sc__law_parts S1.len fun cdv A outer s H Er hr => ?_, F.bindsN fun _ _ _ _ _ _ us hl => match us, hl with | [_], _ => rfl⟩
  have nd := sc__law_parts.nd
  refine ⟨_, _, (ssw_cons (sw_ownL 1 nd aw_nil) (ssw_cons (sw_for PassesOwn.never (kiT K (ew_tup (aw_cons ew_str (aw_cons ew_str aw_nil)))) (gw_name 2 nd) (ssw_cons (sw_ownL 3 nd (aw_cons (ew_tup (aw_cons ew_int (aw_cons (kcall K G__law_pick (hr.mono (by omega)) (cw_feed 0 (cw_cons (ew_lst (aw_cons ew_str (aw_cons ew_str aw_nil))) cw_nil))) aw_nil))) aw_nil)) (ssw_cons (sw_if (tkeq K hr.units (kcall K G__law_draw (hr.mono (by omega)) (cw_feed 0 (cw_cons ew_int cw_nil))) ew_int) (ssw_one (sapp 3 (ew_tup (aw_cons (ew_op op_add lo_add ew_int (kcall K G__law_draw (hr.mono (by omega)) (cw_feed 0 (cw_cons ew_int cw_nil)))) (aw_cons (kcall K G__law_pick (hr.mono (by omega)) (cw_feed 0 (cw_cons (ew_lst (aw_cons ew_str (aw_cons ew_str (aw_cons ew_non aw_nil)))) cw_nil))) aw_nil))))) ssw_nil) (ssw_frz 3 (ssw_one (sapp 1 (ew_tup (aw_cons (ew_var 2) (aw_cons (kT K (rr := rTupF) call_tupF lc_tup T.tuple bb_tuple (aw_cons (ew_var 3) aw_nil)) aw_nil))))))))) (ssw_frz 1 (ssw_one (sw_ret (kT K (rr := rTupF) call_tupF lc_tup T.tuple bb_tuple (aw_cons (ew_var 1) aw_nil))))))), S1.el ?_⟩
  rintro _ k ⟨rfl, h⟩
  refine ⟨show 0 ≤ 1000 by decide, show 2 ≤ 1000 by decide, ?_⟩
  show forGo _ _ _ ([("cog" : Str), "pin"].map D.str) _
  refine for_inv0 D.str [("cog" : Str), "pin"] (fun j ρ => ∃ L : List (Str × Stays), L.map (·.1) = [("cog" : Str), "pin"].take j ∧ (∀ p ∈ L, okDS p.2) ∧ ∃ s2 s3, ρ = [.fd, .ow (L.map encP), s2, s3]) ⟨[], rfl, fun p hp => (by cases hp), .un, .un, rfl⟩ ?_ ?_
  · rintro j z ρ nxt hj ⟨L, hL, hp, s2, s3, rfl⟩ hn
    have hLl : L.length ≤ 2 := by
      have := congrArg List.length hL
      rw [List.length_map, List.length_take] at this
      have : L.length = min j 2 := this
      omega
    have fin : ∀ ss : Stays, okDS ss → ∀ s2 s3, (L.map encP).length < 1000 ∧ nxt [.fd, .ow (L.map encP ++ [encP (z, ss)]), s2, s3] := fun ss hss s2 s3 => by
      refine ⟨by rw [List.length_map]; omega, hn _ ⟨L ++ [(z, ss)], ?_, ?_, s2, s3, ?_⟩⟩
      · rw [List.map_append, hL, List.take_add_one, hj]
        rfl
      · intro p hpm
        rcases List.mem_append.mp hpm with q | q
        · exact hp p q
        · rw [List.mem_singleton.mp q]; exact hss
      · rw [List.map_append]; rfl
    refine ⟨show 2 ≤ 1000 by decide, rfl, _, rfl, show 0 < 2 by decide, show 2 ≤ 1000 by decide, fun d hd => ?_⟩
    obtain ⟨p0, hp0, rfl⟩ : ∃ p0 : Str, (p0 = "axe" ∨ p0 = "bar") ∧ d = .str p0 := by
      rcases List.mem_cons.mp hd with q | q
      · exact ⟨_, .inl rfl, q⟩
      · exact ⟨_, .inr rfl, List.mem_singleton.mp q⟩
    refine ⟨show 2 ≤ 1000 by decide, show 1 ≤ 1000 by decide, rfl, 3, rfl, by decide, by decide, fun j hj0 hj1 => ?_⟩
    show (match decide (j = 0) with | true => _ | false => _)
    by_cases h0 : j = 0
    · rw [decide_eq_true h0]
      refine ⟨rfl, 5, rfl, by decide, by decide, fun b hb0 hb1 => ⟨show 3 ≤ 1000 by decide, rfl, _, rfl, show 0 < 3 by decide, show 3 ≤ 1000 by decide, fun d2 hd2 => ?_⟩⟩
      obtain ⟨p1, hp1, rfl⟩ : ∃ p1 : Option Str, (p1 = none ∨ p1 = some "axe" ∨ p1 = some "bar") ∧ d2 = optS p1 := by
        rcases List.mem_cons.mp hd2 with q | q
        · exact ⟨_, .inr (.inl rfl), q⟩
        · rcases List.mem_cons.mp q with q | q
          · exact ⟨_, .inr (.inr rfl), q⟩
          · exact ⟨_, .inl rfl, List.mem_singleton.mp q⟩
      exact ⟨show 2 ≤ 1000 by decide, show 1 < 1000 by decide, show 2 ≤ 1000 by decide, fin [(0, some p0), (1 + b, p1)] ⟨p0, hp0, .inr ⟨1 + b, p1, by omega, by omega, hp1, rfl⟩⟩ _ _⟩
    · rw [decide_eq_false h0]
      exact ⟨show 2 ≤ 1000 by decide, fin [(0, some p0)] ⟨p0, hp0, .inl rfl⟩ _ _⟩
  · rintro ρ ⟨L, hL, hp, s2, s3, rfl⟩
    obtain ⟨sc, sp, rfl⟩ : ∃ sc sp, L = [(("cog" : Str), sc), (("pin" : Str), sp)] := by
      match L, hL with
      | [], hL => simp at hL
      | [_], hL => simp at hL
      | [(a, x), (b, y)], hL =>
        simp at hL
        exact ⟨x, y, by rw [hL.1, hL.2]⟩
      | _ :: _ :: _ :: _, hL => simp at hL
    exact h sc sp (hp _ List.mem_cons_self) (hp _ (List.mem_cons_of_mem _ List.mem_cons_self))
structure okDT (t : Task) : Prop where
  pt : t.pt = "cog" ∨ t.pt = "pin"
  way : t.way = "fresh" ∨ t.way = "kept"
  lim : t.lim.all okD 3
  siz : t.lim.size ≤ 7
  sl : 0 ≤ t.sl.h ∧ t.sl.h ≤ 3 ∧ 0 ≤ t.sl.c ∧ t.sl.c ≤ 2 ∧ 0 ≤ t.sl.d ∧ t.sl.d ≤ 2
def s__law_tasks : WF := S3 fun a b c k => a = .fd ∧ ∃ m : Nat, (m = 2 ∨ m = 3) ∧ b = .da (.int (m : Nat)) ∧ c = .da (.lst [.str "fresh", .str "kept", .str "kept"]) ∧ ∀ ts : List Task, ts.map (·.nm) = [("fix" : Str), "oil", "wax"].take m → (∀ t ∈ ts, okDT t) → k (.tup (ts.map encT))
theorem sc__law_tasks : FnScope ["_law_feed_here", "_law_many", "_law_ways", "_law_found", "_law_name", "_law_slack", "_law_part", "_law_way"] ["_law_feed_here", "_law_many", "_law_ways"] (defScope (top 82)) := ⟨rfl, rfl, rfl, by decide +kernel, rfl, by decide +kernel, by decide +kernel⟩
theorem ok__law_tasks {P : Program} {w : World} {K : PySem.W.Frag} {mg : Str → Option Value} {base : Heap} (E : En K mg) : Ok P w K mg base 8 "_law_tasks" ["_law_feed_here", "_law_many", "_law_ways"] s__law_tasks := by
  have T := E.t
  have G__law_draw := ok__law_draw (P := P) (w := w) (base := base) E
  have G__law_pick := ok__law_pick (P := P) (w := w) (base := base) E
  have G__law_limit := ok__law_limit (P := P) (w := w) (base := base) E
  refine mkOk E 59 d__law_tasks rfl rfl rfl rfl rfl fun fd F => ⟨FunD.okW F sc__law_tasks S3.len fun cdv A outer s H Er hr => ?_, F.bindsN fun _ _ _ _ _ _ us hl => match us, hl with | [_, _, _], _ => rfl⟩
  have nd := sc__law_tasks.nd
  refine ⟨_, _, (ssw_cons (sw_ownL 3 nd aw_nil) (ssw_cons (sw_for PassesOwn.never (kiL K (kslL K (ew_lst (aw_cons ew_str (aw_cons ew_str (aw_cons ew_str aw_nil)))) ow_none (ow_some (ew_var 1)))) (gw_name 4 nd) (ssw_cons (sw_set 5 nd (ew_tup (aw_cons (kcall K G__law_draw (hr.mono (by omega)) (cw_feed 0 (cw_cons ew_int cw_nil))) (aw_cons (kcall K G__law_draw (hr.mono (by omega)) (cw_feed 0 (cw_cons ew_int cw_nil))) (aw_cons (kcall K G__law_draw (hr.mono (by omega)) (cw_feed 0 (cw_cons ew_int cw_nil))) aw_nil))))) (ssw_cons (spar (i := 6) (j := 7) nd (aw_cons (kcall K G__law_pick (hr.mono (by omega)) (cw_feed 0 (cw_cons (ew_lst (aw_cons ew_str (aw_cons ew_str aw_nil))) cw_nil))) (aw_cons (kcall K G__law_pick (hr.mono (by omega)) (cw_feed 0 (cw_cons (ew_var 2) cw_nil))) aw_nil))) (ssw_one (sapp 3 (ew_tup (aw_cons (ew_var 4) (aw_cons (ew_var 6) (aw_cons (ew_var 7) (aw_cons (kcall K G__law_limit (hr.mono (by omega)) (cw_feed 0 (cw_cons ew_int cw_nil))) (aw_cons (ew_var 5) aw_nil))))))))))) (ssw_frz 3 (ssw_one (sw_ret (kT K (rr := rTupF) call_tupF lc_tup T.tuple bb_tuple (aw_cons (ew_var 3) aw_nil))))))), S3.el ?_⟩
  rintro _ _ _ k ⟨rfl, m, hm, rfl, rfl, h⟩
  have hcut : cutD ([("fix" : Str), "oil", "wax"].map D.str) none (some (m : Nat)) = ([("fix" : Str), "oil", "wax"].take m).map D.str := by
    unfold cutD
    rw [HT.sIx_none, HT.sIx_nat, List.drop_zero, Nat.sub_zero, List.map_take]
    show List.take (min m 3) _ = _
    rw [Nat.min_eq_left (by omega)]
  refine ⟨show 0 ≤ 1000 by decide, show 3 ≤ 1000 by decide, ?_⟩
  show forGo _ _ _ (cutD ([("fix" : Str), "oil", "wax"].map D.str) none (some (m : Nat))) _
  rw [hcut]
  refine for_inv0 D.str ([("fix" : Str), "oil", "wax"].take m) (fun j ρ => ∃ L : List Task, L.map (·.nm) = ([("fix" : Str), "oil", "wax"].take m).take j ∧ (∀ t ∈ L, okDT t) ∧ ∃ s4 s5 s6 s7, ρ = [.fd, .da (.int (m : Nat)), .da (.lst [.str "fresh", .str "kept", .str "kept"]), .ow (L.map encT), s4, s5, s6, s7]) ⟨[], rfl, fun p hp => (by cases hp), .un, .un, .un, .un, rfl⟩ ?_ ?_
  · rintro j z ρ nxt hj ⟨L, hL, hp, s4, s5, s6, s7, rfl⟩ hn
    have hLl : L.length ≤ 3 := by
      have := congrArg List.length hL
      rw [List.length_map, List.length_take, List.length_take] at this
      have : L.length = min j (min m 3) := this
      omega
    have fin : ∀ t : Task, t.nm = z → okDT t → ∀ s4 s5 s6 s7, (L.map encT).length < 1000 ∧ nxt [.fd, .da (.int (m : Nat)), .da (.lst [.str "fresh", .str "kept", .str "kept"]), .ow (L.map encT ++ [encT t]), s4, s5, s6, s7] := fun t ht hss s4 s5 s6 s7 => by
      refine ⟨by rw [List.length_map]; omega, hn _ ⟨L ++ [t], ?_, ?_, s4, s5, s6, s7, ?_⟩⟩
      · rw [List.map_append, hL, List.take_add_one, hj]
        show _ = _ ++ [z]
        rw [← ht]
        rfl
      · intro p hpm
        rcases List.mem_append.mp hpm with q | q
        · exact hp p q
        · rw [List.mem_singleton.mp q]; exact hss
      · rw [List.map_append]; rfl
    refine ⟨rfl, 4, rfl, by decide, by decide, fun x1 a0 a1 => ⟨rfl, 3, rfl, by decide, by decide, fun x2 b0 b1 => ⟨rfl, 3, rfl, by decide, by decide, fun x3 c0 c1 => ?_⟩⟩⟩
    refine ⟨show 3 ≤ 1000 by decide, show 2 ≤ 1000 by decide, rfl, _, rfl, show 0 < 2 by decide, show 2 ≤ 1000 by decide, fun d hd => ?_⟩
    obtain ⟨p0, hp0, rfl⟩ : ∃ p0 : Str, (p0 = "cog" ∨ p0 = "pin") ∧ d = .str p0 := by
      rcases List.mem_cons.mp hd with q | q
      · exact ⟨_, .inl rfl, q⟩
      · exact ⟨_, .inr rfl, List.mem_singleton.mp q⟩
    refine ⟨rfl, _, rfl, show 0 < 3 by decide, show 3 ≤ 1000 by decide, fun d hd => ?_⟩
    obtain ⟨w0, hw0, rfl⟩ : ∃ w0 : Str, (w0 = "fresh" ∨ w0 = "kept") ∧ d = .str w0 := by
      rcases List.mem_cons.mp hd with q | q
      · exact ⟨_, .inl rfl, q⟩
      · rcases List.mem_cons.mp q with q | q
        · exact ⟨_, .inr rfl, q⟩
        · exact ⟨_, .inr rfl, List.mem_singleton.mp q⟩
    refine ⟨rfl, 2, rfl, by decide, rfl, fun l hl hs => ?_⟩
    exact ⟨show 5 ≤ 1000 by decide, fin ⟨z, p0, w0, l, ⟨x1, x2, x3⟩⟩ rfl ⟨hp0, hw0, hl, show l.size ≤ 7 by omega, ⟨a0, show x1 ≤ 3 by omega, b0, show x2 ≤ 2 by omega, c0, show x3 ≤ 2 by omega⟩⟩ _ _ _ _⟩
  · rintro ρ ⟨L, hL, hp, s4, s5, s6, s7, rfl⟩
    rw [List.take_length] at hL
    exact h L hL hp
structure DSite (m : Nat) (S : Site) : Prop where
  ms : ∃ ua ub, okDU ua ∧ okDU ub ∧ S.ms = [(("axe" : Str), ua), (("bar" : Str), ub)]
  ps : ∃ sc sp, okDS sc ∧ okDS sp ∧ S.ps = [(("cog" : Str), sc), (("pin" : Str), sp)]
  tn : S.ts.map (·.nm) = [("fix" : Str), "oil", "wax"].take m
  tk : ∀ t ∈ S.ts, okDT t
def s__law_site : WF := S3 fun a b c k => a = .fd ∧ ∃ m : Nat, (m = 2 ∨ m = 3) ∧ b = .da (.int (m : Nat)) ∧ c = .da (.lst [.str "fresh", .str "kept", .str "kept"]) ∧ ∀ S, DSite m S → k (encS S)
theorem sc__law_site : FnScope ["_law_feed_here", "_law_many", "_law_ways"] ["_law_feed_here", "_law_many", "_law_ways"] (defScope (top 83)) := ⟨rfl, rfl, rfl, by decide +kernel, rfl, by decide +kernel, by decide +kernel⟩
theorem ok__law_site {P : Program} {w : World} {K : PySem.W.Frag} {mg : Str → Option Value} {base : Heap} (E : En K mg) : Ok P w K mg base 9 "_law_site" ["_law_feed_here", "_law_many", "_law_ways"] s__law_site := by
  have T := E.t
  have G__law_tasks := ok__law_tasks (P := P) (w := w) (base := base) E
  have G__law_parts := ok__law_parts (P := P) (w := w) (base := base) E
  have G__law_machines := ok__law_machines (P := P) (w := w) (base := base) E
  refine mkOk E 60 d__law_site rfl rfl rfl rfl rfl fun fd F => ⟨FunD.okW F sc__law_site S3.len fun cdv A outer s H Er hr => ?_, F.bindsN fun _ _ _ _ _ _ us hl => match us, hl with | [_, _, _], _ => rfl⟩
  have nd := sc__law_site.nd
  refine ⟨_, _, (ssw_one (sw_ret (ew_tup (aw_cons (kcall K G__law_machines (hr.mono (by omega)) (cw_feed 0 cw_nil)) (aw_cons (kcall K G__law_parts (hr.mono (by omega)) (cw_feed 0 cw_nil)) (aw_cons (kcall K G__law_tasks (hr.mono (by omega)) (cw_feed 0 (cw_cons (ew_var 1) (cw_cons (ew_var 2) cw_nil)))) aw_nil)))))), S3.el ?_⟩
  rintro _ _ _ k ⟨rfl, m, hm, rfl, rfl, h⟩
  exact ⟨rfl, fun ua ub hua hub => ⟨rfl, fun sc sp hsc hsp => ⟨rfl, m, hm, rfl, rfl, fun ts hts htk => ⟨show 3 ≤ 1000 by decide, h ⟨[("axe", ua), ("bar", ub)], [("cog", sc), ("pin", sp)], ts⟩ ⟨⟨ua, ub, hua, hub, rfl⟩, ⟨sc, sp, hsc, hsp, rfl⟩, hts, htk⟩⟩⟩⟩⟩
end Wd
set_option maxRecDepth 100000
set_option maxHeartbeats 2000000
namespace Wd
open PySem PySem.Spec PyProof.Rows L2
/-! ### defs that run where no repr is under way -/
/-- a def's promise, kept wherever no repr is under way -/
structure FnG (P : Program) (w : World) (K : PySem.W.Frag) (mg : Str → Option Value) (base : Heap) (k : Nat) (f : Addr) (fd : FuncData) (ps : List Str) (sp : Sp) : Prop where
  arity : ∀ vs H Q E, sp vs H Q E → vs.length = ps.length
  go : ∀ (A : Around) (outer : List Env) (s : Shared) (H : Hp) (args : Args) (us : List Value) (vs : List V) (Q : VK) (E : XK),
    Room k A → A.guards = some [] → Env0 P w K mg base A outer s H → BindsTo s fd args (ps.zip us) → Vals vs us →
    sp vs H Q E → codeAny (model P w) A (.call (.ref f) args) (CR CX0 outer P w H s Q E) s
theorem FnG.mono {P : Program} {w : World} {K : PySem.W.Frag} {mg : Str → Option Value} {base : Heap} {j k : Nat} {f : Addr} {fd : FuncData} {ps : List Str} {sp : Sp} (F : FnG P w K mg base j f fd ps sp) (h : j ≤ k) : FnG P w K mg base k f fd ps sp :=
  ⟨F.arity, fun A outer s H args us vs Q E r => F.go A outer s H args us vs Q E (r.mono h)⟩
section
variable {P : Program} {w : World} {K : PySem.W.Frag} {mg : Str → Option Value} {base : Heap}
theorem FunD.okG {x qual : Str} {params : Arguments} {body : List Stmt} {scope : Scope} {f : Addr} {fd : FuncData} {N ps : List Str} {k : Nat} {sp : Sp} (Fd : FunD K x qual params body scope [] [] f fd) (S : FnScope N ps scope)
    (arity : ∀ vs H Q E, sp vs H Q E → vs.length = ps.length)
    (hb : ∀ (cdv : Value) (A : Around) (outer : List Env) (s : Shared) (H : Hp) (vs : List V) (Q : VK) (E : XK), Room k (A.deeper (envOfC qual scope s.heap.objs.size f cdv)) → A.guards = some [] → sp vs H Q E →
      ∃ t, PSs (cxOf CX0 P w K mg base N qual scope f cdv A outer s H E) body t ∧ t { nx := fun _ H' => Q .non H', rt := Q } (L2.start N vs) H) : FnG P w K mg base (k + 1) f fd ps sp := by
  obtain ⟨oc, od, dV, kV, doc, pm, an, cdv, ct, osl, rfl, look, code, _, _⟩ := Fd.ex
  constructor
  · exact arity
  intro A outer s H args us vs Q E room gd env0 binds rel want
  have n1 := arity _ _ _ _ want
  have inK : K.In s.heap := env0.mod.kin.keeps fun b o e => (env0.bs b o e).1
  have noL : s.heap.NoLimit := env0.mod.nolimit.keeps fun b o e => (env0.bs b o e).1
  have kinds : ∀ y ∈ ps.zip us, scope.names.lookup y.1 = some .local ∨ (scope.names.lookup y.1 = some .cell ∧ ((cellsFrom (s.heap.objs.size + 1) scope.names []).lookup y.1).isSome = true) := by
    intro y hy
    rcases S.par y.1 (List.of_mem_zip (a := y.1) (b := y.2) hy).1 with z | z
    · exact .inl z
    · exact .inr ⟨z, PySem.W.cellsFrom_some _ _ _ (.inl z)⟩
  refine codeAny_call_function room.depth (inK _ _ look) rfl S.co S.gen rfl (PySem.W.codeRec_of inK code) (binds _ _ _ _ ?_)
  refine wpAny_newFunctionEnv_cells S.kind kinds fun env ee s1 x => ?_
  subst ee
  refine ⟨noL.keeps x.toInCall.keep, codeAny_func ?_⟩
  obtain ⟨t, pt, ht⟩ := hb cdv A outer s H vs Q E (room.deeper _) gd want
  have I := inv_start (CX := CX0) (P := P) (w := w) (qual := qual) (f := f) (E := E) S room.hd env0 n1 rel x
  refine wpAny_mono (pt.run [] s1 _ H _ I ht) (fun fl s2 z => ?_) (fun e s2 z => z)
  cases fl with
  | next =>
    obtain ⟨τ, H2, J, q⟩ := z
    exact ⟨V.non, H2, J.os, J.bare, J.base, J.hok, rfl, q⟩
  | ret u =>
    obtain ⟨v, τ, H2, J, rv, q⟩ := z
    exact ⟨v, H2, J.os, J.bare, J.base, J.hok, rv, q⟩
  | brk =>
    obtain ⟨_, _, _, q⟩ := z
    exact q.elim
  | cont =>
    obtain ⟨_, _, _, q⟩ := z
    exact q.elim
theorem FunD.okWG {x qual : Str} {params : Arguments} {body : List Stmt} {scope : Scope} {f : Addr} {fd : FuncData} {N ps : List Str} {k : Nat} {Wf : WF} (Fd : FunD K x qual params body scope [] [] f fd) (S : FnScope N ps scope)
    (len : ∀ as kk, Wf as kk → as.length = ps.length)
    (hb : ∀ (cdv : Value) (A : Around) (outer : List Env) (s : Shared) (H : Hp) (E : XK), Room k (A.deeper (envOfC qual scope s.heap.objs.size f cdv)) → A.guards = some [] →
      ∃ t T, SsW (cxOf CX0 P w K mg base N qual scope f cdv A outer s H E).nox body t T ∧ ∀ as kk, Wf as kk → T { nx := fun _ => kk .non, rt := kk } (startW N.length as)) : FnG P w K mg base (k + 1) f fd ps (spW K Wf) := by
  refine Wd.FunD.okG Fd S (fun vs H Q E z => ?_) (fun cdv A outer s H vs Q E hr gd z => ?_)
  · obtain ⟨F, G, as, kk, _, _, r, h, _⟩ := z
    rw [r.len]
    exact len as kk h
  · obtain ⟨F, G, as, kk, hsub, hf, r, h, q⟩ := z
    obtain ⟨t, T, hS, hT⟩ := hb cdv A outer s H E hr gd
    refine ⟨t, hS.ps.nox, ?_⟩
    refine @SsW.li _ _ _ _ hS F G H G H _ _ _ _ _ ⟨rs_start hsub hf r, Gr.refl .., fun i a h => absurd h startW_un⟩ (hT as kk h) ⟨fun w G' H' σ ρ R hk => ?_, fun v d G' H' g s2 f2 rv hk => q v d G' H' g s2 f2 rv hk, fun _ _ _ _ _ _ hk => False.elim hk, fun _ _ _ _ _ _ hk => False.elim hk⟩
    exact q .non .non G' H' R.gr R.rs.sub R.rs.fok .non hk
end
structure OkG (P : Program) (w : World) (K : PySem.W.Frag) (mg : Str → Option Value) (base : Heap) (k : Nat) (x : Str) (ps : List Str) (W : WF) : Prop where
  ok : ∃ fd, FnG P w K mg base k (He.ga K x) fd ps (spW K W) ∧ Binds K fd ps []
  mg : mg x = some (.ref (He.ga K x))
  kp : PySem.W.keepIn K (.ref (He.ga K x)) = true
theorem mkOkG {P : Program} {w : World} {K : PySem.W.Frag} {mg : Str → Option Value} {base : Heap} {x : Str} {ps : List Str} {k : Nat} {W : WF} (E : En K mg) (i : Nat) (d : He.DefD) (hi : fn[i]? = some d) (hj : fa[i]? = some (.glo x)) (hx : d.at_ = (x, none)) (h1 : d.dfl = []) (h2 : d.kwd = [])
    (H : ∀ fd, FunD K d.name d.qual d.params d.body d.scope [] [] (He.ga K x) fd → FnG P w K mg base k (He.ga K x) fd ps (spW K W) ∧ Binds K fd ps []) : OkG P w K mg base k x ps W := by
  obtain ⟨fd, F⟩ := E.d.def_ i hi
  have e1 : d.dvs K = [] := by unfold He.DefD.dvs; rw [h1]; rfl
  have e2 : d.kws K = [] := by unfold He.DefD.kws; rw [h2]; rfl
  have e3 : He.fAd K d.at_ = He.ga K x := by rw [hx]; rfl
  rw [e1, e2, e3] at F
  exact ⟨⟨fd, H fd F⟩, E.g x (E.d.fact i hj), F.kp⟩
section
variable {X : Cx} {x : Str} {p pos : Pos} {e : Expr} {es : List Expr} {tA : TA} {C : List Sl → (List Ar → Prop) → Prop} {k : Nat} {ps : List Str} {Wf : WF}
/-- a call of such a def -/
theorem kcallG (K : PySem.W.Frag) (F : OkG X.prog X.w K X.mg X.base k x ps Wf) (hr : Room k X.A) (gd : X.A.guards = some []) (ha : CW X (e :: es) tA C) (hK : X.K = K := by rfl) (hg : Gl X x := by rfl) (hd : (x == ("__debug__" : Str)) = false := by decide)
    (he : starEach (e :: es) X.env = (false, eval e X.env) :: starEach es X.env := by rfl) (hpl : (backTo pos (starEach es X.env)).any (·.1) = false := by rfl) : EW X (.Call (.Name x p) (e :: es) [] pos) (tCall (spW K Wf) [] E0 tA) (wCall Wf C) := by
  subst hK
  obtain ⟨fd, f1, f2⟩ := F.ok
  refine ⟨⟨fun pins s σ H Q I want => ?_⟩, fun R h q => ha.li R h fun vs as G1 H1 R1 g1 r h1 => ?_⟩
  · refine wpAny_Call_Name_kw (ld_glob I hg F.mg ?_ hd)
    refine PySem.W.callWith_K (h₀ := X.base) I.ok.mod.kin F.kp (thn (ha.pa.run pos pins s σ H _ I want) fun us s1 ⟨vs, H1, I1, r, q⟩ => ⟨I1.kIn, ?_⟩) he hpl
    have q : spW X.K Wf (vs ++ []) H1 Q E0 := q
    rw [List.append_nil] at q
    have nl : us.length = ps.length := by
      rw [← r.length]
      exact f1.arity _ _ _ _ q
    have bd := f2 s1 us I1.kIn (by rw [List.append_nil]; exact nl)
    rw [List.append_nil] at bd
    refine wpAny_call (codeAny_mono (f1.go X.A X.stack s1 H1 ⟨us, []⟩ us vs Q E0 hr gd I1.env0 bd r q) fun res s2 z => ?_)
    cases res with
    | error ex => exact pass0 pins σ H1 s1 ex s2 I1 z
    | ok fl =>
      cases fl with
      | ret u => exact I1.after z
      | next => exact z.elim
      | brk => exact z.elim
      | cont => exact z.elim
  · rw [List.append_nil]
    exact ⟨_, G1, as, _, R1.sub, R1.fok, r, h1, fun v d G2 H2 g2 s2 f2 rv hk => q v d G2 H2 (R1.grow g2 s2 f2) (g1.trans g2) rv hk⟩
end
/-! ### repr -/
abbrev rRepr (K : PySem.W.Frag) : List V → Hp → VK → Prop := fun xs H Q => ∃ v p, xs = [v] ∧ Dp K H v p ∧ p.canLay0 = true ∧ p.showable = true ∧ p.depth ≤ 60 ∧ p.shown.length ≤ sizeLine ∧ (∀ b, p ≠ .bool b) ∧ Q (.str p.shown) H
theorem call_reprD {X : Cx} (gd : X.A.guards = some []) (hu : X.A.units + 64 < cLine) : CallR X (.builtin "repr") (rRepr X.K) := by
  intro pins s σ H xs us Q I r h
  obtain ⟨v, p, rfl, hd, hl, hs, hdp, hz, hnb, q⟩ := h
  obtain ⟨u, rfl, rv⟩ := vals1 r
  have reads := Dp.reads I p v u hd rv
  have onref : ∀ a, u = Value.ref a → wpAny (model X.prog X.w) X.A (call (.builtin "repr") [u]) (EP X pins σ Q) X.xe s := by
    rintro a rfl
    obtain ⟨as, rd⟩ := reads
    exact repr_of_reads' rd hs (PyData.noDict_hsm (PyData.hasDict_of_canLay p hl)) gd (by omega) (fun _ _ e => e) (fun h2 t2 tk hk => ⟨.str p.shown, H, I.kept hk, ⟨_, rfl⟩, q⟩) hz
  cases hd with
  | non =>
    cases rv
    exact PySem.P.repr_of_none ⟨.str _, H, I.tok _, ⟨_, rfl⟩, q⟩
  | bl b => exact absurd rfl (hnb b)
  | int i =>
    obtain ⟨t, rfl⟩ := rv
    exact PySem.P.repr_of_int (of_decide_eq_true hs) ⟨.str _, H, I.tok _, ⟨_, rfl⟩, q⟩
  | str z =>
    obtain ⟨t, rfl⟩ := rv
    exact PySem.P.repr_of_str ⟨.str _, H, I.tok _, ⟨_, rfl⟩, q⟩ hz
  | lst h1 h2 => exact onref _ rv
  | tup h1 h2 => exact onref _ rv
end Wd
set_option maxRecDepth 100000
set_option maxHeartbeats 2000000
namespace Wd
open PySem PySem.Spec PyProof.Rows L2
/-! ### how long a text is shown -/
def ShOk (n m : Nat) (d : D) : Prop := ∃ p, toPy d = some p ∧ p.canLay0 = true ∧ p.showable = true ∧ p.depth ≤ n ∧ p.shown.length ≤ m
theorem ShOk.mono {n m n2 m2 : Nat} {d : D} (h : ShOk n m d) (hn : n ≤ n2) (hm : m ≤ m2) : ShOk n2 m2 d := by
  obtain ⟨p, a, b, c, e, f⟩ := h
  exact ⟨p, a, b, c, by omega, by omega⟩
theorem sh_non : ShOk 0 4 .non := ⟨.none, rfl, rfl, rfl, Nat.zero_le _, by decide +kernel⟩
theorem sh_int {i : Int} (h : -1000000000 < i ∧ i < 1000000000) : ShOk 0 10 (.int i) := by
  refine ⟨.int i, rfl, rfl, ?_, Nat.zero_le _, ?_⟩
  · show decide (i.natAbs.log2 < 1920) = true
    rw [decide_eq_true_iff]
    have h1 : i.natAbs.log2 < 30 := by
      by_cases h0 : i.natAbs = 0
      · rw [h0]; decide
      · exact (Nat.log2_lt h0).mpr (by have : (2 : Nat) ^ 30 = 1073741824 := by decide
                                       omega)
    omega
  · show (Str.ofString (toString i)).length ≤ 10
    rw [PySem.ofString_length]
    exact int_text_length_le10 (k := 9) (by decide) (by have : (10 : Nat) ^ 9 = 1000000000 := by decide
                                                        omega)
theorem sh_opt {i : Option Int} (h : ∀ x, i = some x → -1000000000 < x ∧ x < 1000000000) : ShOk 0 10 (optI i) := by
  cases i with
  | none => exact sh_non.mono (Nat.le_refl _) (by decide)
  | some x => exact sh_int (h x rfl)
theorem sh_all {n m : Nat} : ∀ {ds : List D}, (∀ d ∈ ds, ShOk n m d) → ∃ ps, toPyL ds = some ps ∧ PyData.canLayAll0 ps = true ∧ PyData.showableAll ps = true ∧ PyData.depthAll ps ≤ n ∧ piled (PyData.shownAll ps) ≤ ds.length * (m + 2)
  | [], _ => ⟨[], by unfold toPyL; rfl, by unfold PyData.canLayAll0; rfl, by unfold PyData.showableAll; rfl, by unfold PyData.depthAll; exact Nat.zero_le _, by unfold PyData.shownAll; exact Nat.zero_le _⟩
  | d :: ds, h => by
    obtain ⟨p, a, b, c, e, f⟩ := h d List.mem_cons_self
    obtain ⟨ps, a2, b2, c2, e2, f2⟩ := sh_all (ds := ds) fun x hx => h x (List.mem_cons_of_mem _ hx)
    refine ⟨p :: ps, by unfold toPyL; rw [a, a2], by unfold PyData.canLayAll0; rw [b, b2]; rfl, by unfold PyData.showableAll; rw [c, c2]; rfl, ?_, ?_⟩
    · unfold PyData.depthAll
      exact Nat.max_le.mpr ⟨e, e2⟩
    · unfold PyData.shownAll
      rw [piled_cons, List.length_cons, Nat.add_mul, Nat.one_mul]
      omega
theorem tuple_len (ts : List Str) : (tupleText ts).length ≤ piled ts + 3 := by
  unfold tupleText
  rw [strLen_append, strLen_append]
  have e1 : ((("(" : String) : Str)).length = 1 := rfl
  have e3 : (((if ts.length == 1 then ",)" else ")" : String) : Str)).length ≤ 2 := by split <;> decide
  rw [e1]
  by_cases h : ts = []
  · subst h
    show 1 + 0 + _ ≤ 0 + 3
    omega
  · have := join_length_add ts h
    omega
theorem list_len (ts : List Str) : (listText ts).length ≤ piled ts + 2 := by
  unfold listText
  rw [strLen_append]
  have e1 : ((("]" : String) : Str)).length = 1 := rfl
  rw [e1]
  cases ts with
  | nil => exact Nat.le_refl _
  | cons t r =>
    show (textFrom (0 + 1) (("[" : Str) ++ (if 0 > 0 then ", " else "" : String) ++ t) r).length + 1 ≤ _
    rw [textFrom_length_pos r _ _ (Nat.succ_pos 0), strLen_append, strLen_append, piled_cons]
    have e2 : ((("[" : String) : Str)).length = 1 := rfl
    have e3 : ((((if 0 > 0 then ", " else "") : String) : Str)).length = 0 := rfl
    rw [e2, e3]
    omega
theorem sh_tup {n m : Nat} {ds : List D} (h : ∀ d ∈ ds, ShOk n m d) : ShOk (n + 1) (ds.length * (m + 2) + 3) (.tup ds) := by
  obtain ⟨ps, a, b, c, e, f⟩ := sh_all h
  refine ⟨.tuple ps, by unfold toPy; rw [a]; rfl, by unfold PyData.canLay0; exact b, by unfold PyData.showable; exact c, by unfold PyData.depth; omega, ?_⟩
  unfold PyData.shown
  have := tuple_len (PyData.shownAll ps)
  omega
theorem sh_wtp {n m : Nat} {ds : List D} (h : ∀ d ∈ ds, ShOk n m d) : ShOk (n + 1) (ds.length * (m + 2) + 3) (.wtp ds) := by
  obtain ⟨ps, a, b, c, e, f⟩ := sh_all h
  refine ⟨.tuple ps, by unfold toPy; rw [a]; rfl, by unfold PyData.canLay0; exact b, by unfold PyData.showable; exact c, by unfold PyData.depth; omega, ?_⟩
  unfold PyData.shown
  have := tuple_len (PyData.shownAll ps)
  omega
theorem sh_lst {n m : Nat} {ds : List D} (h : ∀ d ∈ ds, ShOk n m d) : ShOk (n + 1) (ds.length * (m + 2) + 3) (.lst ds) := by
  obtain ⟨ps, a, b, c, e, f⟩ := sh_all h
  refine ⟨.list ps, by unfold toPy; rw [a]; rfl, by unfold PyData.canLay0; exact b, by unfold PyData.showable; exact c, by unfold PyData.depth; omega, ?_⟩
  unfold PyData.shown
  have := list_len (PyData.shownAll ps)
  omega
/-! ### repr of data -/
def shownD (d : D) : Str := match toPy d with
  | some p => p.shown
  | none => ""
def notB : PyData → Bool
  | .bool _ => false
  | _ => true
def reprD : List D → Option D
  | [d] => match toPy d with
    | some p => if p.canLay0 = true ∧ p.showable = true ∧ p.depth ≤ 60 ∧ p.shown.length ≤ sizeLine ∧ notB p = true then some (.str p.shown) else none
    | none => none
  | _ => none
theorem lc_repr {K : PySem.W.Frag} : LCall K (rRepr K) reprD := fun {G H xs ds d Q} s r e q => by
  unfold reprD at e
  split at e
  · rename_i x
    obtain ⟨v, rfl, r1⟩ := rpl1 r
    split at e
    · rename_i p ep
      split at e
      · rename_i hc
        cases e
        refine ⟨v, p, rfl, toPy_dp s x v p ep r1, hc.1, hc.2.1, hc.2.2.1, hc.2.2.2.1, fun b eb => ?_, q _ G H s (Gr.refl ..) (.str _)⟩
        have := hc.2.2.2.2
        rw [eb] at this
        cases this
      · cases e
    · cases e
  · cases e
def notBD : D → Bool
  | .bl _ => false
  | _ => true
theorem repr_ok {n m : Nat} {d : D} (h : ShOk n m d) (hn : n ≤ 60) (hm : m ≤ 1000000) (hb : notBD d = true) : reprD [d] = some (.str (shownD d)) := by
  obtain ⟨p, a, b, c, e, f⟩ := h
  have hnb : notB p = true := by
    cases d with
    | bl _ => cases hb
    | non => cases a; rfl
    | int _ => cases a; rfl
    | str _ => cases a; rfl
    | key _ => cases a; rfl
    | tup ds => unfold toPy at a; cases q : toPyL ds with | none => rw [q] at a; cases a | some l => rw [q] at a; cases a; rfl
    | wtp ds => unfold toPy at a; cases q : toPyL ds with | none => rw [q] at a; cases a | some l => rw [q] at a; cases a; rfl
    | lst ds => unfold toPy at a; cases q : toPyL ds with | none => rw [q] at a; cases a | some l => rw [q] at a; cases a; rfl
    | dic _ => unfold toPy at a; cases a
    | due _ => unfold toPy at a; cases a
  have hz : p.shown.length ≤ sizeLine := Nat.le_trans f (Nat.le_trans hm (by decide))
  show (match toPy d with | some p => _ | none => none) = _
  unfold shownD
  rw [a]
  show (if p.canLay0 = true ∧ p.showable = true ∧ p.depth ≤ 60 ∧ p.shown.length ≤ sizeLine ∧ notB p = true then some (D.str p.shown) else none) = _
  rw [if_pos ⟨b, c, by omega, hz, hnb⟩]
end Wd
set_option maxRecDepth 100000
set_option maxHeartbeats 2000000
namespace Wd
open PySem PySem.Spec PyProof.Rows L2
/-! ### drawn sites are sites -/
theorem okDU.us {us : Uses} (h : okDU us) : okUs us := ⟨h.1, by have := h.2.1; omega, fun u hu => by
  have := h.2.2 u hu
  exact ⟨this.1, this.2.2.1, by omega, by omega⟩⟩
theorem okDS.ne {ss : Stays} (h : okDS ss) : ss ≠ [] := by
  obtain ⟨p0, _, e | ⟨b, p1, _, _, _, e⟩⟩ := h <;> rw [e] <;> simp
theorem okDS.rng {ss : Stays} (h : okDS ss) : ∀ s ∈ ss, 0 ≤ s.1 ∧ s.1 ≤ 5 := by
  obtain ⟨p0, _, e | ⟨b, p1, hb0, hb1, _, e⟩⟩ := h
  · intro s hs
    rw [e] at hs
    rw [List.mem_singleton.mp hs]
    exact ⟨Int.le_refl _, by show (0 : Int) ≤ 5; omega⟩
  · intro s hs
    rw [e] at hs
    rcases List.mem_cons.mp hs with q | q
    · rw [q]; exact ⟨Int.le_refl _, by show (0 : Int) ≤ 5; omega⟩
    · rw [List.mem_singleton.mp q]; exact ⟨by show 0 ≤ b; omega, hb1⟩
theorem okDS.sts {ss : Stays} (h : okDS ss) {ms : List (Str × Uses)} {ua ub : Uses} (hms : ms = [(("axe" : Str), ua), (("bar" : Str), ub)]) : OkSts ms ss := by
  have key : ∀ z : Str, (z = "axe" ∨ z = "bar") → ∃ us, (z, us) ∈ ms := fun z hz => by
    rcases hz with rfl | rfl
    · exact ⟨ua, by rw [hms]; exact List.mem_cons_self⟩
    · exact ⟨ub, by rw [hms]; exact List.mem_cons_of_mem _ List.mem_cons_self⟩
  have hrng := h.rng
  refine ⟨h.ne, ?_, ?_, fun s hs => by have := hrng s hs; omega, ?_⟩
  · obtain ⟨p0, _, e | ⟨b, p1, _, _, _, e⟩⟩ := h <;> rw [e]
    · show 1 ≤ 10; decide
    · show 2 ≤ 10; decide
  · obtain ⟨p0, _, e | ⟨b, p1, _, _, _, e⟩⟩ := h <;> rw [e] <;> exact ⟨_, List.mem_cons_self, Int.le_refl _⟩
  · obtain ⟨p0, hp0, e | ⟨b, p1, _, _, hp1, e⟩⟩ := h
    · intro s hs z hz
      rw [e] at hs
      rw [List.mem_singleton.mp hs] at hz
      cases hz
      exact key _ hp0
    · intro s hs z hz
      rw [e] at hs
      rcases List.mem_cons.mp hs with q | q
      · rw [q] at hz; cases hz; exact key _ hp0
      · rw [List.mem_singleton.mp q] at hz
        rcases hp1 with r | r | r
        · rw [r] at hz; cases hz
        · rw [r] at hz; cases hz; exact key _ (.inl rfl)
        · rw [r] at hz; cases hz; exact key _ (.inr rfl)
theorem DSite.part {m : Nat} {S : Site} (D : DSite m S) {z : Str} (hz : z = "cog" ∨ z = "pin") : ∃ ss, (z, ss) ∈ S.ps ∧ okDS ss := by
  obtain ⟨sc, sp, h1, h2, e⟩ := D.ps
  rcases hz with rfl | rfl
  · exact ⟨sc, by rw [e]; exact List.mem_cons_self, h1⟩
  · exact ⟨sp, by rw [e]; exact List.mem_cons_of_mem _ List.mem_cons_self, h2⟩
theorem mem_take3 {m : Nat} {z : Str} (h : z ∈ [("fix" : Str), "oil", "wax"].take m) : z ∈ theNames := by
  have := List.mem_of_mem_take h
  simp only [List.mem_cons, List.not_mem_nil, or_false] at this
  rcases this with rfl | rfl | rfl <;> decide +kernel
theorem okDT.ok {m : Nat} {S : Site} (D : DSite m S) {t : Task} (h : okDT t) : OkT S t := by
  have hs := h.sl
  refine ⟨?_, all_imp (fun w n q => ⟨by have := q.1; omega, by have := q.2; omega⟩) 3 _ h.lim, by have := h.siz; omega, ⟨hs.1, hs.2.2.1, hs.2.2.2.2.1⟩, ⟨by omega, by omega, by omega⟩⟩
  obtain ⟨ss, hm, _⟩ := D.part h.pt
  exact ⟨ss, hm⟩
theorem DSite.ok {m : Nat} {S : Site} (D : DSite m S) : OkS S := by
  obtain ⟨ua, ub, hua, hub, ems⟩ := D.ms
  obtain ⟨sc, sp, hsc, hsp, eps⟩ := D.ps
  refine ⟨?_, ?_, ?_, ?_, ?_, ?_, ?_, ?_, ?_⟩
  · rw [ems]; show [("axe" : Str), "bar"].Nodup; decide +kernel
  · intro p hp
    rw [ems] at hp
    rcases List.mem_cons.mp hp with q | q
    · rw [q]; exact ⟨by show ("axe" : Str) ∈ theNames; decide +kernel, hua.us⟩
    · rw [List.mem_singleton.mp q]; exact ⟨by show ("bar" : Str) ∈ theNames; decide +kernel, hub.us⟩
  · rw [ems]; show 2 ≤ 10; decide
  · rw [eps]; show [("cog" : Str), "pin"].Nodup; decide +kernel
  · intro p hp
    rw [eps] at hp
    rcases List.mem_cons.mp hp with q | q
    · rw [q]; exact ⟨by show ("cog" : Str) ∈ theNames; decide +kernel, hsc.sts ems⟩
    · rw [List.mem_singleton.mp q]; exact ⟨by show ("pin" : Str) ∈ theNames; decide +kernel, hsp.sts ems⟩
  · rw [eps]; show 2 ≤ 10; decide
  · rw [D.tn]
    exact List.Nodup.sublist (List.take_sublist _ _) (by decide +kernel)
  · intro t ht
    refine ⟨mem_take3 (m := m) ?_, (D.tk t ht).ok D⟩
    rw [← D.tn]
    exact List.mem_map_of_mem ht
  · have := congrArg List.length D.tn
    rw [List.length_map, List.length_take] at this
    have e3 : [("fix" : Str), "oil", "wax"].length = 3 := rfl
    rw [e3] at this
    omega
theorem sumU_bd {f : Int → Int} {a c : Int} (hf : ∀ d, a ≤ d → 0 ≤ f d ∧ f d ≤ c) (hc : 0 ≤ c) : ∀ b, a ≤ b → 0 ≤ sumU f a b ∧ sumU f a b ≤ (b - a) * c := by
  refine int_ind a ?_ fun b hb ih => ?_
  · rw [sumU_nil (Int.le_refl _), Int.sub_self, Int.zero_mul]; exact ⟨Int.le_refl _, Int.le_refl _⟩
  · rw [sumU_succ hb, show b + 1 - a = (b - a) + 1 by omega, Int.add_mul, Int.one_mul]
    have := hf b hb
    omega
theorem cnt_sh {S : Site} (hS : OkS S) {ss : Stays} (hs : OkSts S.ms ss) {x y : Int} (hx : 0 ≤ x) (hy : x ≤ y) (hl : y ≤ x + 1000) : ShOk 1 39 (.tup (cnt S ss x y).ds) := by
  have h1 := sumU_bd (f := fun d => (useAt S ss d).1) (a := x) (c := 1000) (fun d hd => by have := useAt_rng hS hs (Int.le_trans hx hd); exact ⟨this.1, this.2.2.1⟩) (by omega) y hy
  have h2 := sumU_bd (f := fun d => (useAt S ss d).2) (a := x) (c := 1000) (fun d hd => by have := useAt_rng hS hs (Int.le_trans hx hd); exact ⟨this.2.1, this.2.2.2⟩) (by omega) y hy
  refine sh_tup (n := 0) (m := 10) (ds := (cnt S ss x y).ds) fun d hd => ?_
  unfold N3.ds cnt at hd
  rcases List.mem_cons.mp hd with q | q
  · rw [q]; exact sh_int (i := sumU (fun d => (useAt S ss d).1) x y) ⟨by omega, by omega⟩
  · rcases List.mem_cons.mp q with q | q
    · rw [q]; exact sh_int (i := sumU (fun d => (useAt S ss d).2) x y) ⟨by omega, by omega⟩
    · rw [List.mem_singleton.mp q]; exact sh_int (by show _ < y - x ∧ y - x < _; omega)
theorem ne_str (z : Str) : neD (.str z) (.str z) = some (.bl false) := by
  show some (D.bl (!decide (z = z))) = _
  rw [decide_eq_true rfl]
  rfl
theorem eq_str (z : Str) : eqD (.str z) (.str z) = some (.bl true) := by
  show some (D.bl (decide (z = z))) = _
  rw [decide_eq_true rfl]
theorem py_U (u : Int × Int) : PyOk 1 (encU u) := py_tup (n := 0) fun d hd => by
  rcases List.mem_cons.mp hd with q | q
  · rw [q]; exact py_int _ _
  · rw [List.mem_singleton.mp q]; exact py_int _ _
theorem mOk {o : Option D} {d : D} {P : D → Prop} : o = some d → P d → (match o with
    | some d => P d
    | none => False) := fun h hp => by
  subst h
  exact hp
end Wd
set_option maxRecDepth 100000
set_option maxHeartbeats 2000000
namespace Wd
open PySem PySem.Spec PyProof.Rows L2
local macro_rules | `(tactic| walk_at "wd") => `(tactic| simp only [startW, Ar.sl, List.map_cons, List.map_nil, List.replicate, List.cons_append, List.nil_append, List.length_cons, List.length_nil, Nat.reduceAdd, Nat.reduceSub, List.getElem?_cons_zero, List.getElem?_cons_succ, List.set_cons_zero, List.set_cons_succ,
  wSeq, wNext, wRet, wAsg, wIfS, wBreak, wNever, wExp, wVar, wC, wOp, wUn, wCB, wNil, wCons, wTup, wLst, wKey, intsD, Option.map_some, wIf, wB, wNot, wAnd, wOr, wAndV, wOrV, wNotV, wIsi, wChain, wCall, wcNil, wcCons, wcFeed, gwName, gwNil, gwCons, gwTup, wIdxT, wIdxL, tupK, lstK, wSlT, wSlL, wRev, wStar, spliceD, wLenO, wFrz, wOwnL, wOwnD, wApp, wExt, wPop, wDPut, wDGet, keyD, wPar, wPar3, wParOD, wParDO, blD, intK, strD, woNone, woSome, wiL, wiT, wiS, wiR1, wiR2, wiEnumT, wiZipT, wFInt, wFCells, wFSet, tyOf, kit_ii, kit_bi, kit_bb, kit_ib, kit_ss, kit_tt, kit_ts, kit_si,
  addI, subI, ltI, leI, gtI, geI, negI, isN, notN, isNon, ixD, lenD, min2D, max2D, intD, tupD, lstD, wYes, wipeW, Bool.not_true, Bool.not_false, true_and, and_true, Nat.reduceLeDiff, Nat.zero_le])
/-! ### limits right -/
theorem ne_bl (b : Bool) : neD (.bl b) (.bl b) = some (.bl false) := by cases b <;> rfl
theorem eq_bl (b : Bool) : eqD (.bl b) (.bl b) = some (.bl true) := by cases b <;> rfl
theorem less_eq (s : N3) : s.less = ⟨-1 - s.h, -1 - s.c, -1 - s.d⟩ := by
  unfold N3.less
  rw [show 0 - s.h - 1 = -1 - s.h by omega, show 0 - s.c - 1 = -1 - s.c by omega, show 0 - s.d - 1 = -1 - s.d by omega]
theorem reached_eq (c s : N3) (L : Lim) : lessB c s.succ L = lessB c .zero (widL ⟨-1 - s.h, -1 - s.c, -1 - s.d⟩ L) := by
  refine lessB_wid c s.succ _ (fun w r => ?_) L
  cases w
  · show c.h > r - (s.h + 1) ↔ c.h > r + (-1 - s.h); omega
  · show c.c > r - (s.c + 1) ↔ c.c > r + (-1 - s.c); omega
  · show c.d > r - (s.d + 1) ↔ c.d > r + (-1 - s.d); omega
def s__law_limit_right : WF := S2 fun a b k => a = .fd ∧ ∃ t, okDT t ∧ b = .da (encT t) ∧ k (.bl true)
theorem sc__law_limit_right : FnScope ["_law_feed_here", "_law_task", "_law_limit_here", "_law_slack", "_law_counts_here", "_law_n"] ["_law_feed_here", "_law_task"] (defScope (top 91)) := ⟨rfl, rfl, rfl, by decide +kernel, rfl, by decide +kernel, by decide +kernel⟩
theorem ok__law_limit_right {P : Program} {w : World} {K : PySem.W.Frag} {mg : Str → Option Value} {base : Heap} (E : En K mg) : Ok P w K mg base 6 "_law_limit_right" ["_law_feed_here", "_law_task"] s__law_limit_right := by
  have T := E.t
  have G__law_draw := ok__law_draw (P := P) (w := w) (base := base) E
  have G_widened := ok_widened (P := P) (w := w) (base := base) E
  have G__law_more := ok__law_more (P := P) (w := w) (base := base) E
  have G_is_passed := ok_is_passed (P := P) (w := w) (base := base) E
  have G__law_passed := ok__law_passed (P := P) (w := w) (base := base) E
  have G_is_reached := ok_is_reached (P := P) (w := w) (base := base) E
  refine mkOk E 68 d__law_limit_right rfl rfl rfl rfl rfl fun fd F => ⟨FunD.okW F sc__law_limit_right S2.len fun cdv A outer s H Er hr => ?_, F.bindsN fun _ _ _ _ _ _ us hl => match us, hl with | [_, _], _ => rfl⟩
  have nd := sc__law_limit_right.nd
  refine ⟨_, _, (ssw_cons (spar (i := 2) (j := 3) nd (aw_cons (kix K (ew_var 1) ew_int (fun _ _ => rfl)) (aw_cons (kix K (ew_var 1) ew_int (fun _ _ => rfl)) aw_nil))) (ssw_cons (sw_set 4 nd (ew_tup (aw_cons (kcall K G__law_draw (hr.mono (by omega)) (cw_feed 0 (cw_cons ew_int cw_nil))) (aw_cons (kcall K G__law_draw (hr.mono (by omega)) (cw_feed 0 (cw_cons ew_int cw_nil))) (aw_cons (kcall K G__law_draw (hr.mono (by omega)) (cw_feed 0 (cw_cons ew_int cw_nil))) aw_nil))))) (ssw_cons (sw_if (BW.tw (bw_or (tkne K hr.units (kcall K G_is_passed (hr.mono (by omega)) (cw_cons (ew_var 2) (cw_cons (ew_var 4) cw_nil))) (kcall K G__law_passed (hr.mono (by omega)) (cw_cons (ew_var 2) (cw_cons (ew_var 4) cw_nil)))) (bw_or1 (tkne K hr.units (kcall K G_widened (hr.mono (by omega)) (cw_cons (ew_var 2) (cw_cons (ew_var 3) cw_nil))) (kcall K G__law_more (hr.mono (by omega)) (cw_cons (ew_var 2) (cw_cons (ew_var 3) cw_nil))))))) (ssw_one (sw_ret ew_bl)) ssw_nil) (ssw_one (sw_ret (keq K hr.units (kcall K G_is_reached (hr.mono (by omega)) (cw_cons (ew_var 2) (cw_cons (ew_var 3) (cw_cons (ew_var 4) cw_nil)))) (kcall K G__law_passed (hr.mono (by omega)) (cw_cons (kcall K G__law_more (hr.mono (by omega)) (cw_cons (ew_var 2) (cw_cons (kT K (rr := rTupF) call_tupF lc_tup T.tuple bb_tuple (aw_cons (ew_lc [("_law_n", 5)] nd (kiT K (ew_var 3)) (by show blkC ["_law_feed_here", "_law_task", "_law_limit_here", "_law_slack", "_law_counts_here", "_law_n"] (defScope (top 91)) _ _ = true; decide +kernel) (fun _ _ _ _ _ => (gw_name 5 nd)) (fun _ _ _ _ _ => qw_nil) (fun _ _ _ _ _ => (ew_op op_sub lo_sub (ew_un un_neg lo_neg ew_int) (ew_var 5)))) aw_nil)) cw_nil))) (cw_cons (ew_var 4) cw_nil))))))))), S2.el ?_⟩
  rintro _ _ k ⟨rfl, t, ht, rfl, h⟩
  have hT : t.lim.all (fun _ _ => True) 3 := all_imp (fun _ _ _ => trivial) 3 _ ht.lim
  have hT4 : t.lim.all (fun _ _ => True) 40 := all_more 3 40 _ (by decide) hT
  have hz : t.lim.size ≤ 100 := by have := ht.siz; omega
  have hp : PyOk 64 (encL (widL t.sl t.lim)) := (py_encL (p := fun _ _ => True) 3 _ (wid_all (fun _ _ _ => trivial) 3 _ hT)).mono (by decide)
  refine ⟨rfl, 14, rfl, by decide, by decide, fun x1 _ _ => ⟨rfl, 14, rfl, by decide, by decide, fun x2 _ _ => ⟨rfl, 14, rfl, by decide, by decide, fun x3 _ _ => ⟨show 3 ≤ 1000 by decide, ?_⟩⟩⟩⟩
  refine ⟨t.lim, ⟨x1, x2, x3⟩, rfl, rfl, hT4, hz, t.lim, ⟨x1, x2, x3⟩, hT, hz, rfl, rfl, ?_⟩
  dsimp only
  rw [ne_bl]
  refine ⟨t.lim, t.sl, rfl, rfl, hT4, hz, t.lim, t.sl, hT, hz, rfl, rfl, ?_⟩
  dsimp only
  rw [neD_same hp]
  refine ⟨t.lim, t.sl, ⟨x1, x2, x3⟩, rfl, rfl, rfl, hT4, hz, ?_⟩
  refine ⟨show 3 ≤ 1000 by decide, t.lim, ⟨-1 - t.sl.h, -1 - t.sl.c, -1 - t.sl.d⟩, hT, hz, rfl, rfl, _, ⟨x1, x2, x3⟩, wid_all (fun _ _ _ => trivial) 3 _ hT, by rw [wid_size]; exact hz, rfl, rfl, ?_⟩
  rw [reached_eq]
  dsimp only
  rw [eq_bl]
  exact h
end Wd
set_option maxRecDepth 100000
set_option maxHeartbeats 2000000
namespace Wd
open PySem PySem.Spec PyProof.Rows L2
/-! ### passing days lie near -/
theorem lessB_monoP {p : Word → Int → Prop} {c c' m m' : N3} (h : ∀ w r, p w r → c.get w > r - m.get w → c'.get w > r - m'.get w) : ∀ (n : Nat) (L : Lim), L.all p n → lessB c m L = true → lessB c' m' L = true
  | 0, _, hl, _ => (all0 hl).elim
  | n + 1, .pl w r, hl, q => by
    unfold lessB at q ⊢
    exact decide_eq_true (h w r (all_pl hl) (of_decide_eq_true q))
  | n + 1, .jo b ls, hl, q => by
    obtain ⟨_, hall⟩ := all_jo hl
    rw [less_jo] at q ⊢
    cases b with
    | true =>
      rw [if_pos rfl, List.any_eq_true] at q ⊢
      obtain ⟨l, h1, h2⟩ := q
      exact ⟨l, h1, lessB_monoP h n l (hall l h1) h2⟩
    | false =>
      rw [if_neg (by decide), List.all_eq_true] at q ⊢
      exact fun l h1 => lessB_monoP h n l (hall l h1) (q l h1)
theorem sum_far {f : Int → Int} {x M n d : Int} (hf : ∀ d, x ≤ d → 0 ≤ f d) (hx : x ≤ M) (hc : ∀ d, M ≤ d → f d = f M) (hn : n ≤ 12) (hd : x ≤ d) (h : sumU f x d > n) : sumU f x (M + 13) > n := by
  rcases (by omega : d ≤ M + 13 ∨ M + 13 < d) with q | q
  · have := sumU_mono hf hd (M + 13) q
    omega
  · have h1 := sumU_split (f := f) hx d (by omega)
    have h2 := sumU_split (f := f) hx (M + 13) (by omega)
    have h3 := sumU_const hc d (by omega)
    have h4 := sumU_const hc (M + 13) (by omega)
    have h5 := hf M hx
    have h6 := sumU_mono hf (Int.le_refl x) M hx
    rw [sumU_nil (Int.le_refl x)] at h6
    rw [show M + 13 - M = 13 by omega] at h4
    rcases (by omega : f M = 0 ∨ 1 ≤ f M) with z | z
    · rw [z, Int.mul_zero] at h3
      omega
    · omega
theorem fp_le {S : Site} (hS : OkS S) {ss : Stays} (hs : OkSts S.ms ss) (h5 : steady S ss ≤ 5) {L : Lim} {k : Nat} (hL : L.all (fun _ n => n ≤ 12) k) {x d : Int} (hx : 0 ≤ x) (h : fpS S ss L x = some d) : d ≤ max x 5 + 13 := by
  obtain ⟨h1, h2, h3⟩ := fp_some h
  rcases (by omega : d ≤ max x 5 + 13 ∨ max x 5 + 13 < d) with q | q
  · exact q
  · refine absurd ?_ (h3 (max x 5 + 13) (by omega) q)
    refine lessB_monoP (p := fun _ n => n ≤ 12) (fun w r hr z => ?_) k L hL h2
    rw [zero_get, Int.sub_zero] at z ⊢
    have hst : ∀ (p : Int × Int → Int) (e : Int), max x 5 ≤ e → p (useAt S ss e) = p (useAt S ss (max x 5)) := fun p e he => by
      rw [useAt_steady hS hs (day := e) (by omega), useAt_steady hS hs (day := max x 5) (by omega)]
    cases w with
    | hours => exact sum_far (f := fun d => (useAt S ss d).1) (fun e he => (useAt_rng hS hs (by omega)).1) (by omega) (fun e he => hst (·.1) e he) hr h1 z
    | cycles => exact sum_far (f := fun d => (useAt S ss d).2) (fun e he => (useAt_rng hS hs (by omega)).2.1) (by omega) (fun e he => hst (·.2) e he) hr h1 z
    | days =>
      show max x 5 + 13 - x > r
      have hr : r ≤ 12 := hr
      omega
theorem steady5 {m : Nat} {S : Site} (D : DSite m S) {ss : Stays} (h : okDS ss) : steady S ss ≤ 5 := by
  obtain ⟨ua, ub, hua, hub, ems⟩ := D.ms
  have hS := D.ok
  have hs := h.sts ems
  have hu : ∀ z us, (z, us) ∈ S.ms → us.length ≤ 3 := fun z us hm => by
    rw [ems] at hm
    rcases List.mem_cons.mp hm with q | q
    · cases q; exact hua.2.1
    · cases List.mem_singleton.mp q; exact hub.2.1
  unfold steady
  cases e : ss.getLast? with
  | none => show (0 : Int) ≤ 5; omega
  | some s =>
    have hm := List.mem_of_getLast? e
    have hr := h.rng s hm
    show (match s.2 with | none => s.1 | some z => max s.1 (((S.uses z).length : Int) - 1)) ≤ 5
    cases e2 : s.2 with
    | none => exact hr.2
    | some z =>
      obtain ⟨us, h3⟩ := hs.mem s hm z e2
      have h4 := hu z us h3
      have h5 := uses_mem hS.msn h3
      show max s.1 (((S.uses z).length : Int) - 1) ≤ 5
      rw [h5]
      omega
theorem DSite.stays {m : Nat} {S : Site} (D : DSite m S) {t : Task} (ht : okDT t) : okDS (S.stays t.pt) := by
  obtain ⟨ss, h1, h2⟩ := D.part ht.pt
  rw [stays_mem D.ok h1]
  exact h2
theorem okDT.n12 {t : Task} (h : okDT t) : t.lim.all (fun _ n => n ≤ 12) 3 ∧ (widL t.sl t.lim).all (fun _ n => n ≤ 12) 3 ∧ (widL t.sl.less t.lim).all (fun _ n => n ≤ 12) 3 := by
  have hs := h.sl
  refine ⟨all_imp (fun w n q => by have := q.2; omega) 3 _ h.lim, wid_all (fun w r q => ?_) 3 _ h.lim, wid_all (fun w r q => ?_) 3 _ h.lim⟩
  · have := q.2
    cases w
    · show r + t.sl.h ≤ 12; omega
    · show r + t.sl.c ≤ 12; omega
    · show r + t.sl.d ≤ 12; omega
  · have := q.2
    cases w
    · show r + (0 - t.sl.h - 1) ≤ 12; omega
    · show r + (0 - t.sl.c - 1) ≤ 12; omega
    · show r + (0 - t.sl.d - 1) ≤ 12; omega
theorem DSite.fp {m : Nat} {S : Site} (D : DSite m S) {t : Task} (ht : okDT t) {L : Lim} (hL : L = t.lim ∨ L = widL t.sl t.lim ∨ L = widL t.sl.less t.lim) {x d : Int} (hx : 0 ≤ x) (h : fpS S (S.stays t.pt) L x = some d) : x ≤ d ∧ d ≤ max x 5 + 13 := by
  have hS := D.ok
  have hT := ht.ok D
  refine ⟨(fp_some h).1, ?_⟩
  have n12 := ht.n12
  rcases hL with rfl | rfl | rfl
  · exact fp_le hS (task_stays hS hT).2 (steady5 D (D.stays ht)) n12.1 hx h
  · exact fp_le hS (task_stays hS hT).2 (steady5 D (D.stays ht)) n12.2.1 hx h
  · exact fp_le hS (task_stays hS hT).2 (steady5 D (D.stays ht)) n12.2.2 hx h
theorem DSite.near {m : Nat} {S : Site} (D : DSite m S) {t : Task} (ht : okDT t) {x : Int} (hx : 0 ≤ x) : Near S t x := fun L hL d h => by
  have := D.fp ht hL hx h
  omega
/-! ### none is earlier, none is later -/
def Beh (a b : Option Int) : Bool := match a, b with
  | none, _ => true
  | some _, none => false
  | some i, some j => decide (i ≥ j)
theorem beh_fp {S S' : Site} {ss ss' : Stays} {L : Lim} {x x' : Int} (hx : x ≤ x') (h : ∀ d, x' ≤ d → PassB S' ss' x' L d → PassB S ss x L d) : Beh (fpS S' ss' L x') (fpS S ss L x) = true := by
  cases e : fpS S' ss' L x' with
  | none => rfl
  | some i =>
    obtain ⟨h1, h2, _⟩ := fp_some e
    have h3 := h i h1 h2
    cases e2 : fpS S ss L x with
    | none => exact absurd h3 (fp_none e2 i (by omega))
    | some j =>
      obtain ⟨q1, q2, q3⟩ := fp_some e2
      show decide (i ≥ j) = true
      rw [decide_eq_true_iff]
      rcases (by omega : j ≤ i ∨ i < j) with z | z
      · exact z
      · exact absurd h3 (q3 i (by omega) z)
theorem beh_less {a b : Option Int} (h : Beh a b = true) : Beh (a.map (· - 1)) (b.map (· - 1)) = true := by
  cases a with
  | none => rfl
  | some i =>
    cases b with
    | none => cases h
    | some j =>
      have h : decide (i ≥ j) = true := h
      rw [decide_eq_true_iff] at h
      show decide (i - 1 ≥ j - 1) = true
      rw [decide_eq_true_iff]
      omega
def earlyO (x : Int) (r l : Option Int) : Option Int := match r, l with
  | none, none => none
  | some a, none => some (max (x + 1) a)
  | none, some b => some b
  | some a, some b => some (min (max (x + 1) a) b)
theorem beh_early {x x' : Int} (hx : x ≤ x') {r r' l l' : Option Int} (hr : Beh r' r = true) (hl : Beh l' l = true) : Beh (earlyO x' r' l') (earlyO x r l) = true := by
  cases r' with
  | none =>
    cases l' with
    | none => rfl
    | some b' =>
      cases l with
      | none => cases hl
      | some b =>
        have hl : b' ≥ b := of_decide_eq_true hl
        cases r with
        | none => exact decide_eq_true hl
        | some a => exact decide_eq_true (show b' ≥ min (max (x + 1) a) b by omega)
  | some a' =>
    cases r with
    | none => cases hr
    | some a =>
      have hr : a' ≥ a := of_decide_eq_true hr
      cases l' with
      | none =>
        cases l with
        | none => exact decide_eq_true (show max (x' + 1) a' ≥ max (x + 1) a by omega)
        | some b => exact decide_eq_true (show max (x' + 1) a' ≥ min (max (x + 1) a) b by omega)
      | some b' =>
        cases l with
        | none => cases hl
        | some b =>
          have hl : b' ≥ b := of_decide_eq_true hl
          exact decide_eq_true (show min (max (x' + 1) a') b' ≥ min (max (x + 1) a) b by omega)
theorem early_O (S : Site) (t : Task) (x : Int) : earlyS S t x = earlyO x (reachS S t x) (lateS S t x) := rfl
/-- all three days of a task -/
theorem beh3 {S S' : Site} {t : Task} {x x' : Int} (hx : x ≤ x') (h : ∀ L d, x' ≤ d → PassB S' (S'.stays t.pt) x' L d → PassB S (S.stays t.pt) x L d) :
    Beh (earlyS S' t x') (earlyS S t x) = true ∧ Beh (dueS S' t x') (dueS S t x) = true ∧ Beh (lateS S' t x') (lateS S t x) = true := by
  have h1 : ∀ L, Beh (fpS S' (S'.stays t.pt) L x') (fpS S (S.stays t.pt) L x) = true := fun L => beh_fp hx (h L)
  have hl : Beh (lateS S' t x') (lateS S t x) = true := beh_less (h1 _)
  refine ⟨?_, beh_less (h1 _), hl⟩
  rw [early_O, early_O]
  exact beh_early hx (h1 _) hl
theorem pass_later {S : Site} (hS : OkS S) {ss : Stays} (hs : OkSts S.ms ss) {x x' d : Int} (h0 : 0 ≤ x) (hx : x ≤ x') (hd : x' ≤ d) {L : Lim} (h : PassB S ss x' L d) : PassB S ss x L d :=
  lessB_mono (fun w r q => by
    have h1 := sumU_later (f := fun d => (useAt S ss d).1) (fun e he => (useAt_rng hS hs (Int.le_trans h0 he)).1) hx hd
    have h2 := sumU_later (f := fun d => (useAt S ss d).2) (fun e he => (useAt_rng hS hs (Int.le_trans h0 he)).2.1) hx hd
    have h3 : d - x' ≤ d - x := by omega
    cases w
    · exact Int.lt_of_lt_of_le q h1
    · exact Int.lt_of_lt_of_le q h2
    · exact Int.lt_of_lt_of_le q h3) L h
theorem pass_busy {S S' : Site} {ss : Stays} {x d : Int} (hu : ∀ e, x ≤ e → (useAt S ss e).1 ≤ (useAt S' ss e).1 ∧ (useAt S ss e).2 ≤ (useAt S' ss e).2) (hd : x ≤ d) {L : Lim} (h : PassB S ss x L d) : PassB S' ss x L d :=
  lessB_mono (fun w r q => by
    have h1 := sumU_le (f := fun d => (useAt S ss d).1) (g := fun d => (useAt S' ss d).1) (fun e he => (hu e he).1) d hd
    have h2 := sumU_le (f := fun d => (useAt S ss d).2) (g := fun d => (useAt S' ss d).2) (fun e he => (hu e he).2) d hd
    cases w
    · exact Int.lt_of_lt_of_le q h1
    · exact Int.lt_of_lt_of_le q h2
    · exact q) L h
end Wd
set_option maxRecDepth 100000
set_option maxHeartbeats 2000000
namespace Wd
open PySem PySem.Spec PyProof.Rows L2
/-! ### a busier site -/
def incU (us : Uses) : Uses := us.map fun u => (u.1 + 1, u.2 + 1)
def Site.wm (S : Site) (ua ub : Uses) : Site := { S with ms := [(("axe" : Str), ua), (("bar" : Str), ub)] }
theorem okDU.inc {us : Uses} (h : okDU us) : okUs (incU us) := by
  refine ⟨fun e => h.1 (List.map_eq_nil_iff.mp e), by unfold incU; rw [List.length_map]; have := h.2.1; omega, fun u hu => ?_⟩
  obtain ⟨v, hv, rfl⟩ := List.mem_map.mp hu
  have := h.2.2 v hv
  exact ⟨show 0 ≤ v.1 + 1 by omega, show 0 ≤ v.2 + 1 by omega, show v.1 + 1 ≤ 1000 by omega, show v.2 + 1 ≤ 1000 by omega⟩
theorem DSite.wm_ok {m : Nat} {S : Site} (D : DSite m S) {ua ub : Uses} (ha : okUs ua) (hb : okUs ub) : OkS (S.wm ua ub) := by
  have hS := D.ok
  obtain ⟨sc, sp, hsc, hsp, eps⟩ := D.ps
  refine ⟨?_, ?_, ?_, hS.psn, ?_, hS.psl, hS.tsn, fun t ht => ?_, hS.tsl⟩
  · show [("axe" : Str), "bar"].Nodup; decide +kernel
  · intro p hp
    rcases List.mem_cons.mp hp with q | q
    · rw [q]; exact ⟨by show ("axe" : Str) ∈ theNames; decide +kernel, ha⟩
    · rw [List.mem_singleton.mp q]; exact ⟨by show ("bar" : Str) ∈ theNames; decide +kernel, hb⟩
  · show 2 ≤ 10; decide
  · intro p hp
    refine ⟨(hS.psi p hp).1, ?_⟩
    have hp : p ∈ S.ps := hp
    rw [eps] at hp
    rcases List.mem_cons.mp hp with q | q
    · rw [q]; exact hsc.sts rfl
    · rw [List.mem_singleton.mp q]; exact hsp.sts rfl
  · obtain ⟨h1, h2⟩ := hS.tsi t ht
    exact ⟨h1, ⟨h2.pt, h2.lim, h2.siz, h2.s0, h2.s1⟩⟩
theorem use_inc {us : Uses} (h : us ≠ []) (d : Int) (hd : 0 ≤ d) : (useOn us d).1 ≤ (useOn (incU us) d).1 ∧ (useOn us d).2 ≤ (useOn (incU us) d).2 := by
  have hlen := List.length_pos_iff.mpr h
  have hlt : (min d ((us.length : Int) - 1)).toNat < us.length := by omega
  have e1 : useOn us d = us[(min d ((us.length : Int) - 1)).toNat] := by
    unfold useOn
    rw [List.getD_eq_getElem?_getD, List.getElem?_eq_getElem hlt]
    rfl
  have e2 : useOn (incU us) d = ((useOn us d).1 + 1, (useOn us d).2 + 1) := by
    rw [e1]
    unfold useOn incU
    rw [List.length_map, List.getD_eq_getElem?_getD, List.getElem?_map, List.getElem?_eq_getElem hlt]
    rfl
  rw [e2]
  exact ⟨show (useOn us d).1 ≤ (useOn us d).1 + 1 by omega, show (useOn us d).2 ≤ (useOn us d).2 + 1 by omega⟩
theorem use_busy {m : Nat} {S : Site} (D : DSite m S) {ua ub : Uses} (ha : okDU ua) (hb : okDU ub) (ems : S.ms = [(("axe" : Str), ua), (("bar" : Str), ub)]) {ss : Stays} (h : okDS ss) (e : Int) (he : 0 ≤ e) :
    (useAt S ss e).1 ≤ (useAt (S.wm (incU ua) (incU ub)) ss e).1 ∧ (useAt S ss e).2 ≤ (useAt (S.wm (incU ua) (incU ub)) ss e).2 := by
  have hS := D.ok
  have hS2 := D.wm_ok ha.inc hb.inc
  unfold useAt
  cases ep : placeOn ss e with
  | none => exact ⟨Int.le_refl _, Int.le_refl _⟩
  | some z =>
    obtain ⟨s, h1, h2⟩ := placeOn_mem ep
    obtain ⟨us, h3⟩ := (h.sts ems).mem s h1 z h2
    show (useOn (S.uses z) e).1 ≤ (useOn ((S.wm (incU ua) (incU ub)).uses z) e).1 ∧ (useOn (S.uses z) e).2 ≤ (useOn ((S.wm (incU ua) (incU ub)).uses z) e).2
    rw [uses_mem hS.msn h3]
    rw [ems] at h3
    rcases List.mem_cons.mp h3 with q | q
    · cases q
      rw [uses_mem hS2.msn (us := incU ua) List.mem_cons_self]
      exact use_inc ha.1 e he
    · cases List.mem_singleton.mp q
      rw [uses_mem hS2.msn (us := incU ub) (List.mem_cons_of_mem _ List.mem_cons_self)]
      exact use_inc hb.1 e he
/-- the law's own window -/
theorem window_eq (S : Site) (t : Task) {x : Int} {d e : Int} (hw : t.way = "kept") (hd : dueS S t x = some d) (he : earlyS S t x = some e) (hr : ∃ r, reachS S t x = some r) :
    optW (windowS S t x) = match lateS S t x with
      | none => .tup [.int e, .non]
      | some l => if l > x then .tup [.int e, .int l] else .non := by
  unfold windowS
  rw [if_pos hw, hd, he]
  obtain ⟨r, er⟩ := hr
  rw [early_O, er] at he
  cases el : lateS S t x with
  | none =>
    rw [el] at he
    cases he
    show D.tup [.int (max (x + 1) (max (x + 1) r)), .non] = .tup [.int (max (x + 1) r), .non]
    rw [show max (x + 1) (max (x + 1) r) = max (x + 1) r by omega]
  | some l =>
    rw [el] at he
    have he : min (max (x + 1) r) l = e := Option.some.inj he
    show optW (if l < max (x + 1) e then none else some (max (x + 1) e, some l)) = if l > x then .tup [.int e, .int l] else .non
    by_cases hl : l > x
    · rw [if_neg (by omega), if_pos hl, show max (x + 1) e = e by omega]
      rfl
    · rw [if_pos (by omega), if_neg hl]
      rfl
theorem reach_of_due {S : Site} {t : Task} (ht : OkT S t) {x d : Int} (h : dueS S t x = some d) : ∃ r, reachS S t x = some r := by
  cases e1 : reachS S t x with
  | some a => exact ⟨a, rfl⟩
  | none =>
    unfold dueS lastS at h
    cases e : fpS S (S.stays t.pt) t.lim x with
    | none => rw [e] at h; cases h
    | some d0 =>
      obtain ⟨h1, h2, _⟩ := fp_some e
      refine absurd ?_ (fp_none e1 d0 h1)
      unfold PassB at h2 ⊢
      rw [← wid_zero t.lim] at h2
      exact wid_le ht.less_le h2
/-- how big the days are -/
theorem DSite.small {m : Nat} {S : Site} (D : DSite m S) {t : Task} (ht : okDT t) {x : Int} (hx : 0 ≤ x) (hx2 : x ≤ 10000) :
    (∀ d, earlyS S t x = some d → -1000000000 < d ∧ d < 1000000000) ∧ (∀ d, dueS S t x = some d → -1000000000 < d ∧ d < 1000000000) ∧ (∀ d, lateS S t x = some d → -1000000000 < d ∧ d < 1000000000) ∧ (∀ d, fpS S (S.stays t.pt) t.lim x = some d → -1000000000 < d ∧ d < 1000000000) := by
  have f1 := fun d => D.fp ht (L := t.lim) (.inl rfl) (x := x) (d := d) hx
  have f2 := fun d => D.fp ht (L := widL t.sl t.lim) (.inr (.inl rfl)) (x := x) (d := d) hx
  have f3 := fun d => D.fp ht (L := widL t.sl.less t.lim) (.inr (.inr rfl)) (x := x) (d := d) hx
  have hl : ∀ d, lateS S t x = some d → -1000000000 < d ∧ d < 1000000000 := fun d h => by
    unfold lateS lastS at h
    cases e : fpS S (S.stays t.pt) (widL t.sl t.lim) x with
    | none => rw [e] at h; cases h
    | some a =>
      rw [e] at h
      have h : a - 1 = d := Option.some.inj h
      have := f2 a e
      omega
  refine ⟨fun d h => ?_, fun d h => ?_, hl, fun d h => by have := f1 d h; omega⟩
  · rw [early_O] at h
    cases e3 : reachS S t x with
    | none =>
      cases e2 : lateS S t x with
      | none => rw [e3, e2] at h; cases h
      | some b => rw [e3, e2] at h; cases h; exact hl _ e2
    | some a =>
      have q := f3 a e3
      cases e2 : lateS S t x with
      | none =>
        rw [e3, e2] at h
        have h : max (x + 1) a = d := Option.some.inj h
        omega
      | some b =>
        rw [e3, e2] at h
        have h : min (max (x + 1) a) b = d := Option.some.inj h
        have := hl b e2
        omega
  · unfold dueS lastS at h
    cases e : fpS S (S.stays t.pt) t.lim x with
    | none => rw [e] at h; cases h
    | some a =>
      rw [e] at h
      have h : a - 1 = d := Option.some.inj h
      have := f1 a e
      omega
end Wd
set_option maxRecDepth 100000
set_option maxHeartbeats 4000000
namespace Wd
open PySem PySem.Spec PyProof.Rows L2
/-! ### the end of the law's days: a busier site, the six comparisons -/
abbrev tbody : WSt := wAsg (wCall s_with_uses (wcCons (wVar 12) (wcCons (wVar 13) (wcCons (wCB tupD (wCons (wLc (wiT (wVar 14)) (gwTup (gwCons (gwName 15) (gwCons (gwName 16) gwNil)) 2) wYes (wTup (wCons (wOp addI (wVar 15) (wC (D.int 1))) (wCons (wOp addI (wVar 16) (wC (D.int 1))) wNil))) [15, 16]) wNil)) wcNil)))) (gwName 12)
abbrev tcall (f : WF) : WE := wCall f (wcCons (wVar 12) (wcCons (wVar 3) (wcCons (wVar 4) wcNil)))
abbrev tbeh (a b : Nat) : WT := wNot (wB (wCall s__law_behind (wcCons (wOp ixD (wVar a) (wVar 18)) (wcCons (wOp ixD (wVar b) (wVar 18)) wcNil))))
abbrev tloop : WSt := wFor (wiR1 (wCons (wC (D.int 3)) wNil)) (gwName 18) (wIfS (wOr (tbeh 11 9) (tbeh 9 17)) (wRet (wC (D.bl false))) wNext)
abbrev tend : WSt := wSeq (wAsg (wTup (wCons (tcall s_early_day) (wCons (tcall s_due_day) (wCons (tcall s_late_day) wNil)))) (gwName 17)) (wSeq tloop (wRet (wC (D.bl true))))
theorem withU_axe {S : Site} {ua ub v : Uses} (e : S.ms = [(("axe" : Str), ua), (("bar" : Str), ub)]) : S.withU "axe" v = S.wm v ub := by
  unfold Site.withU Site.wm
  rw [e, List.map_cons, List.map_cons, List.map_nil, if_pos rfl, if_neg (show ¬ ("bar" : Str) = "axe" by decide +kernel)]
theorem withU_bar (S : Site) (ua ub v : Uses) : (S.wm ua ub).withU "bar" v = S.wm ua v := by
  unfold Site.withU Site.wm
  show Site.mk ([(("axe" : Str), ua), (("bar" : Str), ub)].map _) _ _ = _
  rw [List.map_cons, List.map_cons, List.map_nil, if_neg (show ¬ ("axe" : Str) = "bar" by decide +kernel), if_pos rfl]
theorem inc_map (us : Uses) : us.map (fun u => encU (u.1 + 1, u.2 + 1)) = (incU us).map encU := by
  unfold incU
  rw [List.map_map]
  rfl
theorem beh_at {o1 o2 : Option Int} (h : Beh o1 o2 = true) {A B : Prop} (hb : B) : (match !(Beh o1 o2) with
    | true => A
    | false => B) := by
  rw [h]
  exact hb
theorem loop_ok {s0 s1 s2 s3 s4 s5 s6 s7 s8 s10 s12 s13 s14 s15 s16 s18 : Sl} {e d l e1 d1 l1 e2 d2 l2 : Option Int} {E : EnW}
    (q1 : Beh e1 e = true) (q2 : Beh d1 d = true) (q3 : Beh l1 l = true) (q4 : Beh e e2 = true) (q5 : Beh d d2 = true) (q6 : Beh l l2 = true) (h : ∀ ρ, E.nx ρ) :
    tloop E [s0, s1, s2, s3, s4, s5, s6, s7, s8, .da (.tup [optI e, optI d, optI l]), s10, .da (.tup [optI e1, optI d1, optI l1]), s12, s13, s14, s15, s16, .da (.tup [optI e2, optI d2, optI l2]), s18] := by
  refine ⟨⟨show -2 ^ 62 ≤ (3 : Int) by decide, show (3 : Int) < 2 ^ 62 by decide⟩, ?_⟩
  refine ⟨e1, e, rfl, rfl, ?_⟩
  refine beh_at q1 ⟨e, e2, rfl, rfl, beh_at q4 ?_⟩
  refine ⟨d1, d, rfl, rfl, ?_⟩
  refine beh_at q2 ⟨d, d2, rfl, rfl, beh_at q5 ?_⟩
  refine ⟨l1, l, rfl, rfl, ?_⟩
  exact beh_at q3 ⟨l, l2, rfl, rfl, beh_at q6 (h _)⟩
theorem days_tail {m : Nat} {S : Site} {t : Task} (D : DSite m S) (htm : t ∈ S.ts) {x y : Int} (hx0 : 0 ≤ x) (hx1 : x < 13) (hy0 : 0 ≤ y) (hy1 : y < 4) {k : Wd.D → Prop} (h : k (.bl true)) (T w0 s6 s7 s8 : Wd.D) {o1 o2 o3 : Wd.D} (e1 : o1 = optI (earlyS S t x)) (e2 : o2 = optI (dueS S t x)) (e3 : o3 = optI (lateS S t x)) {s13 s14 s15 s16 s17 s18 : Sl} :
    wFor (wiT (wOp ixD (wVar 1) (wC (.int 0)))) (gwTup (gwCons (gwName 13) (gwCons (gwName 14) gwNil)) 2) tbody { nx := tend { nx := fun _ => k .non, rt := k }, rt := k }
      [.fd, .da (encS S), .da T, .da (.str t.nm), .da (.int x), .da (.int y), .da s6, .da s7, .da s8, .da (.tup [o1, o2, o3]), .da w0,
       .da (.tup [optI (earlyS S t (x + y)), optI (dueS S t (x + y)), optI (lateS S t (x + y))]), .da (encS S), s13, s14, s15, s16, s17, s18] := by
  subst e1
  subst e2
  subst e3
  have hS := D.ok
  have hd := D.tk t htm
  have ht := hd.ok D
  obtain ⟨hp1, hp2⟩ := task_stays hS ht
  obtain ⟨ua, ub, hua, hub, ems⟩ := D.ms
  have ma : (("axe" : Str), ua) ∈ S.ms := by rw [ems]; exact List.mem_cons_self
  have mb : (("bar" : Str), ub) ∈ (S.wm (incU ua) ub).ms := List.mem_cons_of_mem _ List.mem_cons_self
  have hS1 := D.wm_ok hua.inc hub.us
  have hS2 := D.wm_ok hua.inc hub.inc
  have la := hua.2.1
  have lb := hub.2.1
  show forGo _ _ _ (S.ms.map encM) _
  rw [ems]
  refine ⟨rfl, by rw [List.length_map]; show ua.length ≤ 1000; omega, ?_⟩
  refine lc_map encU (fun u => encU (u.1 + 1, u.2 + 1)) ua [] (fun u _ kk hk => ⟨rfl, show 2 ≤ 1000 by decide, hk⟩) ?_
  rw [List.nil_append, inc_map]
  refine ⟨S, "axe", ua, incU ua, hS, ma, hua.inc, rfl, rfl, rfl, ?_⟩
  rw [withU_axe ems]
  refine ⟨rfl, by rw [List.length_map]; show ub.length ≤ 1000; omega, ?_⟩
  refine lc_map encU (fun u => encU (u.1 + 1, u.2 + 1)) ub [] (fun u _ kk hk => ⟨rfl, show 2 ≤ 1000 by decide, hk⟩) ?_
  rw [List.nil_append, inc_map]
  refine ⟨S.wm (incU ua) ub, "bar", ub, incU ub, hS1, mb, hub.inc, rfl, rfl, rfl, ?_⟩
  rw [withU_bar]
  have a1 := beh3 (S := S) (S' := S) (t := t) (x := x) (x' := x + y) (by omega) (fun L d hd q => pass_later hS hp2 hx0 (by omega) hd q)
  have a2 := beh3 (S := S.wm (incU ua) (incU ub)) (S' := S) (t := t) (x := x) (x' := x) (Int.le_refl x) (fun L d hd q => pass_busy (fun e he => use_busy D hua hub ems (D.stays (D.tk t htm)) e (Int.le_trans hx0 he)) hd q)
  refine ⟨S.wm (incU ua) (incU ub), t, x, hS2, htm, hx0, by omega, rfl, rfl, rfl, S.wm (incU ua) (incU ub), t, x, hS2, htm, hx0, by omega, rfl, rfl, rfl, S.wm (incU ua) (incU ub), t, x, hS2, htm, hx0, by omega, rfl, rfl, rfl, show 3 ≤ 1000 by decide, ?_⟩
  exact loop_ok a1.1 a1.2.1 a1.2.2 a2.1 a2.2.1 a2.2.2 (fun _ => h)
end Wd
set_option maxRecDepth 100000
set_option maxHeartbeats 2000000
namespace Wd
open PySem PySem.Spec PyProof.Rows L2
/-! ### generators over data -/
abbrev GNx := List D → List Sl → Prop
abbrev WStG := GNx → List D → List Sl → Prop
def GenR (K : PySem.W.Frag) (F : Option Addr) (G0 H0 : Hp) (N : GNx) (E : GEnds) : Prop := ∀ (ys : List V) (dys : List D) (w : Addr → Nat) (G H : Hp) (σ : L2.St) (ρ : List Sl), RE K F G0 H0 G H w σ ρ → RpL K G ys dys → N dys ρ → E.nx ys σ H
def GLi (K : PySem.W.Frag) (t : TGn) (T : WStG) : Prop := ∀ {F : Option Addr} {G0 H0 G H : Hp} {w : Addr → Nat} {σ : L2.St} {ρ : List Sl} {ys : List V} {dys : List D} {N : GNx} {E : GEnds},
  RE K F G0 H0 G H w σ ρ → RpL K G ys dys → T N dys ρ → GenR K F G0 H0 N E → t E ys σ H
structure GSW (X : Cx) (st : Stmt) (t : TGn) (T : WStG) : Prop where
  gs : GS X st t
  li : GLi X.K t T
structure GSsW (X : Cx) (st : List Stmt) (t : TGn) (T : WStG) : Prop where
  gs : GSs X st t
  li : GLi X.K t T
theorem RE.again {K : PySem.W.Frag} {F : Option Addr} {G0 H0 G H : Hp} {w : Addr → Nat} {σ : L2.St} {ρ : List Sl} (R : RE K F G0 H0 G H w σ ρ) (hn : noOw ρ = true) : RE K F G H G H w σ ρ := by
  refine ⟨R.rs, Gr.refl .., fun i a h _ => ?_⟩
  rcases h with ⟨ds, e⟩ | ⟨kvs, e⟩
  · exact absurd rfl ((noOw_at hn e).1 ds)
  · exact absurd rfl ((noOw_at hn e).2 kvs)
theorem RE.behind {K : PySem.W.Frag} {F : Option Addr} {G0 H0 G H G2 H2 : Hp} {w : Addr → Nat} {σ : L2.St} {ρ : List Sl} (R : RE K F G H G2 H2 w σ ρ) (g : Gr F G0 H0 G H) : RE K F G0 H0 G2 H2 w σ ρ :=
  ⟨R.rs, g.trans R.gr, fun i a h e => none_of_th g.th (R.own i a h e)⟩
def wGPlain (T : WSt) : WStG := fun N dys ρ => noOw ρ = true ∧ T { nx := N dys, rt := fun _ => False } ρ
def wG0 : WStG := fun N dys ρ => N dys ρ
def wGThen (T U : WStG) : WStG := fun N dys ρ => T (U N) dys ρ
def wGYield (W : WE) : WStG := fun N dys ρ => dys.length < 1000 ∧ W ρ fun d => N (dys ++ [d]) ρ
def wGWhile (c : WT) (T : WStG) : WStG := fun N dys ρ => ∃ I : Nat → GNx, (∃ m, I m dys ρ) ∧ ∀ m dys ρ, I m dys ρ → c ρ fun b => match b with
  | true => T (fun dys2 ρ2 => ∃ m2, m2 < m ∧ I m2 dys2 ρ2) dys ρ
  | false => N dys ρ
section
variable {X : Cx} {st : Stmt} {rest : List Stmt} {ts : TS} {t u : TGn} {T U : WStG} {P : WSt} {e : Expr} {te : TE} {W : WE} {yp pos : Pos}
theorem gsw_plain (h : SW X st ts P) : GSW X st (tPlain ts) (wGPlain P) := ⟨gs_ps h.ps, fun {F G0 H0 G H w σ ρ ys dys N E} R r hw q => by
  obtain ⟨hn, hw⟩ := hw
  refine h.li (R.again hn) hw ⟨fun w2 G2 H2 σ2 ρ2 R2 h2 => ?_, fun _ _ _ _ _ _ _ _ z => z.elim, fun _ _ _ _ _ _ z => z.elim, fun _ _ _ _ _ _ z => z.elim⟩
  exact q ys dys w2 G2 H2 σ2 ρ2 (R2.behind R.gr) (RpL.mono R2.gr.gs _ _ r) h2⟩
theorem gssw_nil : GSsW X [] tG0 wG0 := ⟨gss_nil, fun R r h q => q _ _ _ _ _ _ _ R r h⟩
theorem gssw_cons (a : GSW X st t T) (b : GSsW X rest u U) : GSsW X (st :: rest) (tGThen t u) (wGThen T U) := ⟨gss_cons a.gs b.gs, fun R r h q => a.li R r h fun ys2 dys2 w2 G2 H2 σ2 ρ2 R2 r2 h2 => b.li R2 r2 h2 q⟩
theorem gsw_yield (he : EW X e te W) (hco : X.env.scope.isCoroutine = false := by rfl) (hi : interactive X.env = false := by rfl) : GSW X (.Expr (.Yield (some e) yp) pos) (tGYield te) (wGYield W) := ⟨gs_yield he.pe hco hi, fun {F G0 H0 G H w σ ρ ys dys N E} R r h q => by
  obtain ⟨hl, h⟩ := h
  refine ⟨by rw [r.length]; exact Nat.lt_of_lt_of_le hl (by decide), he.li R.rs h fun v d G2 H2 R2 g2 rv h2 => ?_⟩
  exact q _ _ w G2 H2 σ ρ (R.grow g2 R2) ((RpL.mono g2.gs _ _ r).snoc rv) h2⟩
theorem gsw_while {c : Expr} {tc : TT} {Wc : WT} {body : List Stmt} (hp : PassesOwn (model X.prog X.w) X.A X.env X.xe) (hc : TW X c tc Wc) (hb : GSsW X body t T) : GSW X (.While c body [] pos) (tGWhile tc t) (wGWhile Wc T) := ⟨gs_while hp hc.pt hb.gs, fun {F G0 H0 G H w σ ρ ys dys N E} R r h q => by
  obtain ⟨I, ⟨m0, h0⟩, hi⟩ := h
  refine ⟨fun m ys σ H => ∃ w G ρ dys, RE X.K F G0 H0 G H w σ ρ ∧ RpL X.K G ys dys ∧ I m dys ρ, ⟨m0, w, G, ρ, dys, R, r, h0⟩, ?_⟩
  rintro m ys1 σ1 H1 ⟨w1, G1, ρ1, dys1, R1, r1, h1⟩
  refine hc.li R1.rs (hi m dys1 ρ1 h1) fun b G2 H2 R2 g2 h2 => ?_
  have R3 := R1.grow g2 R2
  have r3 := RpL.mono g2.gs _ _ r1
  cases b with
  | true =>
    rw [if_pos rfl]
    refine ⟨fun ys2 σ2 H2 => ∃ m2, m2 < m ∧ ∃ w G ρ dys, RE X.K F G0 H0 G H2 w σ2 ρ ∧ RpL X.K G ys2 dys ∧ I m2 dys ρ, fun ys2 σ2 H2 z => z, ?_⟩
    refine hb.li R3 r3 h2 fun ys4 dys4 w4 G4 H4 σ4 ρ4 R4 r4 h4 => ?_
    obtain ⟨m2, hm, hI⟩ := h4
    exact ⟨m2, hm, w4, G4, ρ4, dys4, R4, r4, hI⟩
  | false =>
    rw [if_neg Bool.false_ne_true]
    exact q _ _ _ _ _ _ _ R3 r3 h2⟩
end
/-! ### a generator def's promise -/
abbrev WFG := List Ar → (List D → Prop) → Prop
def spGW (K : PySem.W.Frag) (W : WFG) : SpG := fun vs H cont _ => ∃ F G as k, Sub G H ∧ (∀ f, F = some f → FeedOk K G H f) ∧ ArL K F G vs as ∧ W as k ∧
  ∀ ys dys G2 H2, Gr F G H G2 H2 → Sub G2 H2 → (∀ f, F = some f → FeedOk K G2 H2 f) → RpL K G2 ys dys → k dys → cont ys H2
structure OkGen (P : Program) (w : World) (K : PySem.W.Frag) (mg : Str → Option Value) (base : Heap) (k : Nat) (x : Str) (ps : List Str) (W : WFG) : Prop where
  ok : ∃ fd, GFn P w K mg base k (He.ga K x) fd ps (spGW K W) ∧ Binds K fd ps []
  mg : mg x = some (.ref (He.ga K x))
  kp : PySem.W.keepIn K (.ref (He.ga K x)) = true
theorem FunD.gen {P : Program} {w : World} {K : PySem.W.Frag} {mg : Str → Option Value} {base : Heap} {x qual : Str} {params : Arguments} {body : List Stmt} {scope : Scope} {f : Addr} {fd : FuncData} {N ps : List Str} {k : Nat} {Wf : WFG} (Fd : FunD K x qual params body scope [] [] f fd) (S : GScope N ps scope)
    (len : ∀ as kk, Wf as kk → as.length = ps.length)
    (hb : ∀ (cdv : Value) (A : Around) (outer : List Env) (s : Shared) (H : Hp) (E : XK) (pn : List (Addr × Obj)), Room k (A.deeper (envOfC qual scope s.heap.objs.size f cdv)) →
      ∃ t T, GSsW (gcxOf P w K mg base N qual scope f cdv A outer s H E pn) body t T ∧ ∀ as kk, Wf as kk → T (fun dys _ => kk dys) [] (startW N.length as)) : GFn P w K mg base (k + 1) f fd ps (spGW K Wf) := by
  obtain ⟨oc, od, dV, kV, doc, pm, an, cdv, ct, osl, rfl, look, code, _, _⟩ := Fd.ex
  refine gfn_of look code S (fun vs H Q E z => ?_) fun A outer s H vs Q E pn hr z => ?_
  · obtain ⟨F, G, as, kk, _, _, r, h, _⟩ := z
    rw [r.len]
    exact len as kk h
  · obtain ⟨F, G, as, kk, hsub, hf, r, h, q⟩ := z
    obtain ⟨t, T, hS, hT⟩ := hb cdv A outer s H E pn hr
    refine ⟨t, hS.gs, ?_⟩
    refine @GSsW.li _ _ _ _ hS F G H G H _ _ _ _ _ _ _ ⟨rs_start hsub hf r, Gr.refl .., fun i a h => absurd h startW_un⟩ .nil (hT as kk h) fun ys dys w2 G2 H2 σ2 ρ2 R2 r2 h2 => ?_
    exact q ys dys G2 H2 R2.gr R2.rs.sub R2.rs.fok r2 h2
def wListG (W : WFG) (A : List Sl → (List Ar → Prop) → Prop) : WE := fun ρ k => A ρ fun as => W as fun dys => k (.lst dys)
theorem ew_listG {X : Cx} {x nm : Str} {p p2 pos pos2 : Pos} {e : Expr} {es : List Expr} {tA : TA} {C : List Sl → (List Ar → Prop) → Prop} {k : Nat} {ps : List Str} {Wf : WFG} (K : PySem.W.Frag) (F : OkGen X.prog X.w K X.mg X.base k x ps Wf) (hr : Room (k + 3) X.A) (ha : CW X (e :: es) tA C) (hmn : X.mg nm = none) (hv : bootBuiltins nm = some (.type "list")) (hK : X.K = K := by rfl) (hg : Gl X x := by rfl) (hgn : Gl X nm := by rfl) (hd : (x == ("__debug__" : Str)) = false := by decide)
    (hnm : nm ≠ "__name__" := by decide) (hdn : (nm == ("__debug__" : Str)) = false := by decide)
    (he : starEach (e :: es) X.env = (false, eval e X.env) :: starEach es X.env := by rfl) (hpl : (backTo pos (starEach es X.env)).any (·.1) = false := by rfl)
    (he2 : starEach [.Call (.Name x p) (e :: es) [] pos] X.env = (false, eval (.Call (.Name x p) (e :: es) [] pos) X.env) :: starEach [] X.env := by rfl) :
    EW X (.Call (.Name nm p2) [.Call (.Name x p) (e :: es) [] pos] [] pos2) (tListG (tCallG (spGW K Wf) [] E0 tA)) (wListG Wf C) := by
  subst hK
  obtain ⟨fd, f1, f2⟩ := F.ok
  refine ⟨pe_listG (pgen_call f1 (hr.mono (by omega)) hg F.mg F.kp f2 .nil ha.pa hd he hpl) (fun pins σ H s ex s2 I z => ?_) (fun cls d H z => z.elim) hr hgn hmn hv hnm hdn he2, fun {F G H w σ ρ kk Q} R h q => ?_⟩
  · obtain ⟨_, _, _, _, _, _, _, _, _, _, _, _, z⟩ := z
    exact z.elim
  · refine ha.li R h fun vs as G1 H1 R1 g1 r h1 => ?_
    rw [List.append_nil]
    refine ⟨F, G1, as, _, R1.sub, R1.fok, r, h1, fun ys dys G2 H2 g2 s2 f2 rv hk => fun pp hp => ?_⟩
    have R2 := R1.grow g2 s2 f2
    refine q _ _ _ _ (R2.grow0 (Gr.new hp s2) s2.new) ((g1.trans g2).trans (Gr.new hp s2)) (.lst upd_same (RpL.mono (Gr.new (F := none) hp s2).gs _ _ rv)) hk
theorem mkOkGen {P : Program} {w : World} {K : PySem.W.Frag} {mg : Str → Option Value} {base : Heap} {x : Str} {ps : List Str} {k : Nat} {W : WFG} {d : He.DefD} {fd : FuncData} (hg : mg x = some (.ref (He.ga K x))) (F : FunD K d.name d.qual d.params d.body d.scope [] [] (He.ga K x) fd)
    (H : ∀ fd, FunD K d.name d.qual d.params d.body d.scope [] [] (He.ga K x) fd → GFn P w K mg base k (He.ga K x) fd ps (spGW K W) ∧ Binds K fd ps []) : OkGen P w K mg base k x ps W := ⟨⟨fd, H fd F⟩, hg, F.kp⟩
end Wd
set_option maxRecDepth 100000
set_option maxHeartbeats 4000000
namespace Wd
open PySem PySem.Spec PyProof.Rows L2
local macro_rules | `(tactic| walk_at "wd") => `(tactic| simp only [startW, Ar.sl, List.map_cons, List.map_nil, List.replicate, List.cons_append, List.nil_append, List.length_cons, List.length_nil, Nat.reduceAdd, Nat.reduceSub, List.getElem?_cons_zero, List.getElem?_cons_succ, List.set_cons_zero, List.set_cons_succ,
  wSeq, wNext, wRet, wAsg, wIfS, wBreak, wNever, wExp, wVar, wC, wOp, wUn, wCB, wNil, wCons, wTup, wLst, wKey, intsD, Option.map_some, wIf, wB, wNot, wAnd, wOr, wAndV, wOrV, wNotV, wIsi, wChain, wCall, wcNil, wcCons, wcFeed, gwName, gwNil, gwCons, gwTup, wIdxT, wIdxL, tupK, lstK, wSlT, wSlL, wRev, wStar, spliceD, wLenO, wFrz, wOwnL, wOwnD, wApp, wExt, wPop, wDPut, wDGet, keyD, wPar, wPar3, wParOD, wParDO, blD, intK, strD, woNone, woSome, wiL, wiT, wiS, wiR1, wiR2, wiEnumT, wiZipT, wFInt, wFCells, wFSet, tyOf, kit_ii, kit_bi, kit_bb, kit_ib, kit_ss, kit_tt, kit_ts, kit_si,
  addI, subI, ltI, leI, gtI, geI, negI, isN, notN, isNon, ixD, lenD, min2D, max2D, intD, tupD, lstD, wYes, wipeW, Bool.not_true, Bool.not_false, true_and, and_true, Nat.reduceLeDiff, Nat.zero_le])
/-! ### days right -/
theorem at0 {α : Type} (a : α) (l : List α) : atI (a :: l) 0 = some a := atI_get (j := 0) rfl
theorem at1 {α : Type} (a b : α) (l : List α) : atI (a :: b :: l) 1 = some b := atI_get (j := 1) rfl
theorem at2 {α : Type} (a b c : α) (l : List α) : atI (a :: b :: c :: l) 2 = some c := atI_get (j := 2) rfl
theorem at3 {α : Type} (a b c d : α) (l : List α) : atI (a :: b :: c :: d :: l) 3 = some d := atI_get (j := 3) rfl
theorem at4 {α : Type} (a b c d e : α) (l : List α) : atI (a :: b :: c :: d :: e :: l) 4 = some e := atI_get (j := 4) rfl
theorem encT_eq (t : Task) : encT t = .tup [.str t.nm, .str t.pt, .str t.way, encL t.lim, .tup t.sl.ds] := rfl
theorem sh_opts {ds : List D} (h : ∀ d ∈ ds, ∃ o, d = optI o ∧ ∀ x, o = some x → -1000000000 < x ∧ x < 1000000000) : ShOk 1 (ds.length * 12 + 3) (.tup ds) := sh_tup (n := 0) (m := 10) fun d hd => by
  obtain ⟨o, e, ho⟩ := h d hd
  rw [e]
  exact sh_opt ho
theorem eq_kept {z : Str} : eqD (.str z) (.str "kept") = some (.bl (decide (z = "kept"))) := rfl
def s__law_days_right : WF := S3 fun a b c k => a = .fd ∧ ∃ m S t, DSite m S ∧ t ∈ S.ts ∧ b = .da (encS S) ∧ c = .da (encT t) ∧ k (.bl true)
theorem sc__law_days_right : FnScope ["_law_feed_here", "_law_site_here", "_law_task", "_law_name", "_law_base", "_law_more_here", "_law_early", "_law_due", "_law_late", "_law_told", "_law_window", "_law_after", "_law_busy", "_law_machine", "_law_uses", "_law_hours", "_law_cycles", "_law_sooner", "_law_k"] ["_law_feed_here", "_law_site_here", "_law_task"] (defScope (top 93)) := ⟨rfl, rfl, rfl, by decide +kernel, rfl, by decide +kernel, by decide +kernel⟩
theorem ok__law_days_right {P : Program} {w : World} {K : PySem.W.Frag} {mg : Str → Option Value} {base : Heap} (E : En K mg) : OkG P w K mg base 14 "_law_days_right" ["_law_feed_here", "_law_site_here", "_law_task"] s__law_days_right := by
  have T := E.t
  have G__law_draw := ok__law_draw (P := P) (w := w) (base := base) E
  have G__law_three := ok__law_three (P := P) (w := w) (base := base) E
  have G_late_day := ok_late_day (P := P) (w := w) (base := base) E
  have G_due_day := ok_due_day (P := P) (w := w) (base := base) E
  have G_early_day := ok_early_day (P := P) (w := w) (base := base) E
  have G_passing_day := ok_passing_day (P := P) (w := w) (base := base) E
  have G__law_passing := ok__law_passing (P := P) (w := w) (base := base) E
  have G_window_of := ok_window_of (P := P) (w := w) (base := base) E
  have G_with_uses := ok_with_uses (P := P) (w := w) (base := base) E
  have G__law_behind := ok__law_behind (P := P) (w := w) (base := base) E
  refine mkOkG E 70 d__law_days_right rfl rfl rfl rfl rfl fun fd F => ⟨FunD.okWG F sc__law_days_right S3.len fun cdv A outer s H Er hr gd => ?_, F.bindsN fun _ _ _ _ _ _ us hl => match us, hl with | [_, _, _], _ => rfl⟩
  have nd := sc__law_days_right.nd
  refine ⟨_, _, (ssw_cons (spar3 (i := 3) (j := 4) (l := 5) nd (aw_cons (kix K (ew_var 2) ew_int (fun _ _ => rfl)) (aw_cons (kcall K G__law_draw (hr.mono (by omega)) (cw_feed 0 (cw_cons ew_int cw_nil))) (aw_cons (kcall K G__law_draw (hr.mono (by omega)) (cw_feed 0 (cw_cons ew_int cw_nil))) aw_nil)))) (ssw_cons (sasg (kcall K G__law_three (hr.mono (by omega)) (cw_cons (ew_var 1) (cw_cons (ew_var 2) (cw_cons (ew_var 4) cw_nil)))) (ktup K (n := 3) (gsc (gw_name 6 nd) (gsc (gw_name 7 nd) (gsc (gw_name 8 nd) gsw_nil))))) (ssw_cons (sw_set 9 nd (ew_tup (aw_cons (kcall K G_early_day (hr.mono (by omega)) (cw_cons (ew_var 1) (cw_cons (ew_var 3) (cw_cons (ew_var 4) cw_nil)))) (aw_cons (kcall K G_due_day (hr.mono (by omega)) (cw_cons (ew_var 1) (cw_cons (ew_var 3) (cw_cons (ew_var 4) cw_nil)))) (aw_cons (kcall K G_late_day (hr.mono (by omega)) (cw_cons (ew_var 1) (cw_cons (ew_var 3) (cw_cons (ew_var 4) cw_nil)))) aw_nil))))) (ssw_cons (sw_if (tkne K hr.units (kB K (rr := rRepr) (call_reprD gd hr.units) lc_repr T.repr bb_repr (aw_cons (ew_var 9) aw_nil)) (kB K (rr := rRepr) (call_reprD gd hr.units) lc_repr T.repr bb_repr (aw_cons (ew_tup (aw_cons (ew_var 6) (aw_cons (ew_var 7) (aw_cons (ew_var 8) aw_nil)))) aw_nil))) (ssw_one (sw_ret ew_bl)) ssw_nil) (ssw_cons (sw_if (tkne K hr.units (kB K (rr := rRepr) (call_reprD gd hr.units) lc_repr T.repr bb_repr (aw_cons (kcall K G_passing_day (hr.mono (by omega)) (cw_cons (ew_var 1) (cw_cons (kix K (ew_var 2) ew_int (fun _ _ => rfl)) (cw_cons (kix K (ew_var 2) ew_int (fun _ _ => rfl)) (cw_cons (ew_var 4) cw_nil))))) aw_nil)) (kB K (rr := rRepr) (call_reprD gd hr.units) lc_repr T.repr bb_repr (aw_cons (kcall K G__law_passing (hr.mono (by omega)) (cw_cons (ew_var 1) (cw_cons (kix K (ew_var 2) ew_int (fun _ _ => rfl)) (cw_cons (kix K (ew_var 2) ew_int (fun _ _ => rfl)) (cw_cons (ew_var 4) cw_nil))))) aw_nil))) (ssw_one (sw_ret ew_bl)) ssw_nil) (ssw_cons (sw_set 10 nd ew_non) (ssw_cons (sw_if (BW.tw (bw_and (tkeq K hr.units (kix K (ew_var 2) ew_int (fun _ _ => rfl)) ew_str) (bw_and (tw_cmp op_notN lo_notN (ew_var 7) ew_non (nomark _)) (bw_and1 (BW.tw (bw_or (tw_cmp op_isN lo_isN (ew_var 8) ew_non (nomark _)) (bw_or1 (tw_cmp op_gt lo_gt (ew_var 8) (ew_var 4) (nomark _))))))))) (ssw_one (sw_set 10 nd (ew_tup (aw_cons (ew_var 6) (aw_cons (ew_var 8) aw_nil))))) ssw_nil) (ssw_cons (sw_if (tkne K hr.units (kB K (rr := rRepr) (call_reprD gd hr.units) lc_repr T.repr bb_repr (aw_cons (kcall K G_window_of (hr.mono (by omega)) (cw_cons (ew_var 1) (cw_cons (ew_var 3) (cw_cons (ew_var 4) cw_nil)))) aw_nil)) (kB K (rr := rRepr) (call_reprD gd hr.units) lc_repr T.repr bb_repr (aw_cons (ew_var 10) aw_nil))) (ssw_one (sw_ret ew_bl)) ssw_nil) (ssw_cons (sw_set 11 nd (ew_tup (aw_cons (kcall K G_early_day (hr.mono (by omega)) (cw_cons (ew_var 1) (cw_cons (ew_var 3) (cw_cons (ew_op op_add lo_add (ew_var 4) (ew_var 5)) cw_nil)))) (aw_cons (kcall K G_due_day (hr.mono (by omega)) (cw_cons (ew_var 1) (cw_cons (ew_var 3) (cw_cons (ew_op op_add lo_add (ew_var 4) (ew_var 5)) cw_nil)))) (aw_cons (kcall K G_late_day (hr.mono (by omega)) (cw_cons (ew_var 1) (cw_cons (ew_var 3) (cw_cons (ew_op op_add lo_add (ew_var 4) (ew_var 5)) cw_nil)))) aw_nil))))) (ssw_cons (sw_set 12 nd (ew_var 1)) (ssw_cons (sw_for PassesOwn.never (kiT K (kix K (ew_var 1) ew_int (fun _ _ => rfl))) (ktup K (n := 2) (gsc (gw_name 13 nd) (gsc (gw_name 14 nd) gsw_nil))) (ssw_one (sw_set 12 nd (kcall K G_with_uses (hr.mono (by omega)) (cw_cons (ew_var 12) (cw_cons (ew_var 13) (cw_cons (kT K (rr := rTupF) call_tupF lc_tup T.tuple bb_tuple (aw_cons (ew_lc [("_law_hours", 15), ("_law_cycles", 16)] nd (kiT K (ew_var 14)) (by show blkC ["_law_feed_here", "_law_site_here", "_law_task", "_law_name", "_law_base", "_law_more_here", "_law_early", "_law_due", "_law_late", "_law_told", "_law_window", "_law_after", "_law_busy", "_law_machine", "_law_uses", "_law_hours", "_law_cycles", "_law_sooner", "_law_k"] (defScope (top 93)) _ _ = true; decide +kernel) (fun _ _ _ _ _ => (ktup K (n := 2) (gsc (gw_name 15 nd) (gsc (gw_name 16 nd) gsw_nil)))) (fun _ _ _ _ _ => qw_nil) (fun _ _ _ _ _ => (ew_tup (aw_cons (ew_op op_add lo_add (ew_var 15) ew_int) (aw_cons (ew_op op_add lo_add (ew_var 16) ew_int) aw_nil))))) aw_nil)) cw_nil))))))) (ssw_cons (sw_set 17 nd (ew_tup (aw_cons (kcall K G_early_day (hr.mono (by omega)) (cw_cons (ew_var 12) (cw_cons (ew_var 3) (cw_cons (ew_var 4) cw_nil)))) (aw_cons (kcall K G_due_day (hr.mono (by omega)) (cw_cons (ew_var 12) (cw_cons (ew_var 3) (cw_cons (ew_var 4) cw_nil)))) (aw_cons (kcall K G_late_day (hr.mono (by omega)) (cw_cons (ew_var 12) (cw_cons (ew_var 3) (cw_cons (ew_var 4) cw_nil)))) aw_nil))))) (ssw_cons (sw_for PassesOwn.never (iw_range1 (aw_cons ew_int aw_nil) T.range) (gw_name 18 nd) (ssw_one (sw_if (BW.tw (bw_or (tw_not (tw_val (kcall K G__law_behind (hr.mono (by omega)) (cw_cons (kix K (ew_var 11) (ew_var 18) (fun _ _ => rfl)) (cw_cons (kix K (ew_var 9) (ew_var 18) (fun _ _ => rfl)) cw_nil))))) (bw_or1 (tw_not (tw_val (kcall K G__law_behind (hr.mono (by omega)) (cw_cons (kix K (ew_var 9) (ew_var 18) (fun _ _ => rfl)) (cw_cons (kix K (ew_var 17) (ew_var 18) (fun _ _ => rfl)) cw_nil)))))))) (ssw_one (sw_ret ew_bl)) ssw_nil))) (ssw_one (sw_ret ew_bl))))))))))))))), S3.el ?_⟩
  rintro _ _ _ k ⟨rfl, m, S, t, D, htm, rfl, rfl, h⟩
  have hS := D.ok
  have hd := D.tk t htm
  have ht := hd.ok D
  obtain ⟨hp1, hp2⟩ := task_stays hS ht
  refine ⟨rfl, 13, rfl, by decide, by decide, fun x hx0 hx1 => ⟨rfl, 4, rfl, by decide, by decide, fun y hy0 hy1 => ?_⟩⟩
  rw [encT_eq]
  walk_at "wd"
  simp only [at1, at2, at3]
  obtain ⟨b1, b2, b3, b4⟩ := D.small hd hx0 (by omega)
  have sh3 : ShOk 1 39 (.tup [optI (earlyS S t x), optI (dueS S t x), optI (lateS S t x)]) := sh_opts fun d hd => by
    simp only [List.mem_cons, List.not_mem_nil, or_false] at hd
    rcases hd with q | q | q
    · exact ⟨_, q, b1⟩
    · exact ⟨_, q, b2⟩
    · exact ⟨_, q, b3⟩
  have shp : ShOk 0 10 (optI (fpS S (S.stays t.pt) t.lim x)) := sh_opt b4
  refine ⟨S, t, x, hS, ht, D.near hd hx0, hx0, by omega, rfl, rfl, rfl, rfl, S, t, x, hS, htm, hx0, by omega, rfl, rfl, rfl, S, t, x, hS, htm, hx0, by omega, rfl, rfl, rfl, S, t, x, hS, htm, hx0, by omega, rfl, rfl, rfl, ?_⟩
  dsimp only
  rw [repr_ok sh3 (by decide) (by decide) rfl]
  dsimp only
  rw [ne_str]
  refine ⟨S, t.pt, S.stays t.pt, t.lim, x, hS, hp1, hx0, by omega, ht.lim, ht.siz, rfl, rfl, rfl, rfl, ?_⟩
  dsimp only
  rw [repr_ok shp (by decide) (by decide) (by cases fpS S (S.stays t.pt) t.lim x <;> rfl)]
  refine ⟨S, t.pt, S.stays t.pt, t.lim, x, hS, hp1, hx0, by omega, all_imp (fun _ _ _ => trivial) 3 _ ht.lim, ht.siz, D.near hd hx0 _ (.inl rfl), rfl, rfl, rfl, rfl, ?_⟩
  dsimp only
  rw [repr_ok shp (by decide) (by decide) (by cases fpS S (S.stays t.pt) t.lim x <;> rfl)]
  dsimp only
  rw [ne_str]
  dsimp only
  rw [eq_kept]
  have tail : ∀ wd : Wd.D, optW (windowS S t x) = wd → ShOk 1 39 wd ∧ notBD wd = true := fun wd hwd => by
    subst hwd
    cases ew : windowS S t x with
    | none => exact ⟨sh_non.mono (by decide) (by decide), rfl⟩
    | some w =>
      unfold windowS at ew
      refine ⟨?_, rfl⟩
      have bnd : (-1000000000 < w.1 ∧ w.1 < 1000000000) ∧ ∀ z, w.2 = some z → -1000000000 < z ∧ z < 1000000000 := by
        split at ew
        · split at ew
          · rename_i dd ee ll q1 q2 q3
            have := b1 _ q2
            split at ew
            · cases ew
            · cases ew
              refine ⟨?_, fun z hz => ?_⟩
              · show -1000000000 < max (x + 1) ee ∧ max (x + 1) ee < 1000000000; omega
              · cases hz; exact b3 _ q3
          · rename_i dd ee q1 q2 q3
            have := b1 _ q2
            cases ew
            refine ⟨?_, fun z hz => (nomatch hz)⟩
            show -1000000000 < max (x + 1) ee ∧ max (x + 1) ee < 1000000000; omega
          · cases ew
        · cases ew
      refine (sh_tup (n := 0) (m := 10) (ds := [.int w.1, optI w.2]) fun d hd => ?_).mono (by decide) (show 2 * 12 + 3 ≤ 39 by decide)
      rcases List.mem_cons.mp hd with q | q
      · rw [q]; exact sh_int bnd.1
      · rw [List.mem_singleton.mp q]; exact sh_opt bnd.2
  by_cases hw : t.way = "kept"
  · rw [decide_eq_true hw]
    cases e1 : dueS S t x with
    | none =>
      have hwd : optW (windowS S t x) = .non := by
        unfold windowS
        rw [if_pos hw, e1]
        rfl
      obtain ⟨shw, nb⟩ := tail _ hwd
      simp only [optI, Bool.not_true, Bool.not_false]
      refine ⟨S, t, x, hS, htm, hx0, by omega, rfl, rfl, rfl, ?_⟩
      dsimp only
      rw [hwd, repr_ok shw (by decide) (by decide) nb]
      dsimp only
      rw [ne_str]
      refine ⟨S, t, x + y, hS, htm, by omega, by omega, rfl, rfl, rfl, S, t, x + y, hS, htm, by omega, by omega, rfl, rfl, rfl, S, t, x + y, hS, htm, by omega, by omega, rfl, rfl, rfl, ?_⟩
      exact days_tail D htm hx0 hx1 hy0 hy1 h _ _ _ _ _ rfl (by rw [e1]; rfl) rfl
    | some dd =>
      obtain ⟨ee, e2⟩ := early_of_due ht e1
      have hwe := window_eq S t hw e1 e2 (reach_of_due ht e1)
      cases e3 : lateS S t x with
      | none =>
        rw [e3] at hwe
        have hwd : optW (windowS S t x) = .tup [.int ee, .non] := hwe
        obtain ⟨shw, nb⟩ := tail _ hwd
        rw [e2]
        simp only [optI, Bool.not_true, Bool.not_false]
        refine ⟨S, t, x, hS, htm, hx0, by omega, rfl, rfl, rfl, ?_⟩
        dsimp only
        rw [hwd, repr_ok shw (by decide) (by decide) nb]
        dsimp only
        rw [ne_str]
        refine ⟨S, t, x + y, hS, htm, by omega, by omega, rfl, rfl, rfl, S, t, x + y, hS, htm, by omega, by omega, rfl, rfl, rfl, S, t, x + y, hS, htm, by omega, by omega, rfl, rfl, rfl, ?_⟩
        exact days_tail D htm hx0 hx1 hy0 hy1 h _ _ _ _ _ (by rw [e2]; rfl) (by rw [e1]; rfl) (by rw [e3]; rfl)
      | some l =>
        rw [e3] at hwe
        have hwe : optW (windowS S t x) = if l > x then .tup [.int ee, .int l] else .non := hwe
        rw [e2]
        simp only [optI, Bool.not_true, Bool.not_false]
        by_cases hl : x < l
        · rw [if_pos hl] at hwe
          obtain ⟨shw, nb⟩ := tail _ hwe
          rw [decide_eq_true hl]
          refine ⟨S, t, x, hS, htm, hx0, by omega, rfl, rfl, rfl, ?_⟩
          dsimp only
          rw [hwe, repr_ok shw (by decide) (by decide) nb]
          dsimp only
          rw [ne_str]
          refine ⟨S, t, x + y, hS, htm, by omega, by omega, rfl, rfl, rfl, S, t, x + y, hS, htm, by omega, by omega, rfl, rfl, rfl, S, t, x + y, hS, htm, by omega, by omega, rfl, rfl, rfl, ?_⟩
          exact days_tail D htm hx0 hx1 hy0 hy1 h _ _ _ _ _ (by rw [e2]; rfl) (by rw [e1]; rfl) (by rw [e3]; rfl)
        · rw [if_neg hl] at hwe
          obtain ⟨shw, nb⟩ := tail _ hwe
          rw [decide_eq_false hl]
          refine ⟨S, t, x, hS, htm, hx0, by omega, rfl, rfl, rfl, ?_⟩
          dsimp only
          rw [hwe, repr_ok shw (by decide) (by decide) nb]
          dsimp only
          rw [ne_str]
          refine ⟨S, t, x + y, hS, htm, by omega, by omega, rfl, rfl, rfl, S, t, x + y, hS, htm, by omega, by omega, rfl, rfl, rfl, S, t, x + y, hS, htm, by omega, by omega, rfl, rfl, rfl, ?_⟩
          exact days_tail D htm hx0 hx1 hy0 hy1 h _ _ _ _ _ (by rw [e2]; rfl) (by rw [e1]; rfl) (by rw [e3]; rfl)
  · rw [decide_eq_false hw]
    have hwd : optW (windowS S t x) = .non := by
      unfold windowS
      rw [if_neg hw]
      rfl
    obtain ⟨shw, nb⟩ := tail _ hwd
    refine ⟨S, t, x, hS, htm, hx0, by omega, rfl, rfl, rfl, ?_⟩
    dsimp only
    rw [hwd, repr_ok shw (by decide) (by decide) nb]
    dsimp only
    rw [ne_str]
    refine ⟨S, t, x + y, hS, htm, by omega, by omega, rfl, rfl, rfl, S, t, x + y, hS, htm, by omega, by omega, rfl, rfl, rfl, S, t, x + y, hS, htm, by omega, by omega, rfl, rfl, rfl, ?_⟩
    exact days_tail D htm hx0 hx1 hy0 hy1 h _ _ _ _ _ rfl rfl rfl
end Wd
set_option maxRecDepth 100000
set_option maxHeartbeats 4000000
namespace Wd
open PySem PySem.Spec PyProof.Rows L2
local macro_rules | `(tactic| walk_at "wd") => `(tactic| simp only [startW, Ar.sl, List.map_cons, List.map_nil, List.replicate, List.cons_append, List.nil_append, List.length_cons, List.length_nil, Nat.reduceAdd, Nat.reduceSub, List.getElem?_cons_zero, List.getElem?_cons_succ, List.set_cons_zero, List.set_cons_succ,
  wSeq, wNext, wRet, wAsg, wIfS, wBreak, wNever, wExp, wVar, wC, wOp, wUn, wCB, wNil, wCons, wTup, wLst, wKey, intsD, Option.map_some, wIf, wB, wNot, wAnd, wOr, wAndV, wOrV, wNotV, wIsi, wChain, wCall, wcNil, wcCons, wcFeed, gwName, gwNil, gwCons, gwTup, wIdxT, wIdxL, tupK, lstK, wSlT, wSlL, wRev, wStar, spliceD, wLenO, wFrz, wOwnL, wOwnD, wApp, wExt, wPop, wDPut, wDGet, keyD, wPar, wPar3, wParOD, wParDO, blD, intK, strD, woNone, woSome, wiL, wiT, wiS, wiR1, wiR2, wiEnumT, wiZipT, wFInt, wFCells, wFSet, tyOf, kit_ii, kit_bi, kit_bb, kit_ib, kit_ss, kit_tt, kit_ts, kit_si,
  addI, subI, ltI, leI, gtI, geI, negI, isN, notN, isNon, ixD, lenD, min2D, max2D, intD, tupD, lstD, wYes, wipeW, Bool.not_true, Bool.not_false, true_and, and_true, Nat.reduceLeDiff, Nat.zero_le])
/-! ### windows along due days -/
theorem mkGen {P : Program} {w : World} {K : PySem.W.Frag} {mg : Str → Option Value} {base : Heap} {x : Str} {ps : List Str} {k : Nat} {W : WFG} (E : En K mg) (i : Nat) (d : He.DefD) (hi : fn[i]? = some d) (hj : fa[i]? = some (.glo x)) (hx : d.at_ = (x, none)) (h1 : d.dfl = []) (h2 : d.kwd = [])
    (H : ∀ fd, FunD K d.name d.qual d.params d.body d.scope [] [] (He.ga K x) fd → GFn P w K mg base k (He.ga K x) fd ps (spGW K W) ∧ Binds K fd ps []) : OkGen P w K mg base k x ps W := by
  obtain ⟨fd, F⟩ := E.d.def_ i hi
  have e1 : d.dvs K = [] := by unfold He.DefD.dvs; rw [h1]; rfl
  have e2 : d.kws K = [] := by unfold He.DefD.kws; rw [h2]; rfl
  have e3 : He.fAd K d.at_ = He.ga K x := by rw [hx]; rfl
  rw [e1, e2, e3] at F
  exact ⟨⟨fd, H fd F⟩, E.g x (E.d.fact i hj), F.kp⟩
noncomputable def basesL (S : Site) (t : Task) : Nat → Int → List Int
  | 0, _ => []
  | n + 1, b => b :: (match dueS S t b with
    | some d => if d > b ∧ d ≤ 20 then basesL S t n d else []
    | none => [])
noncomputable def encRow (S : Site) (t : Task) (b : Int) : D := .tup [.int b, optI (earlyS S t b), optI (lateS S t b), optI (dueS S t b)]
noncomputable def rowsD (S : Site) (t : Task) : List D := (basesL S t 30 0).map (encRow S t)
/-- what is still to come -/
noncomputable def restB (S : Site) (t : Task) (n : Nat) : Option Int → List Int
  | none => []
  | some b => if b ≤ 20 then basesL S t n b else []
noncomputable def nextB (S : Site) (t : Task) (b : Int) : Option Int := match dueS S t b with
  | some d => if d > b then some d else none
  | none => none
theorem rest_step {S : Site} {t : Task} {n : Nat} {b : Int} (hb : b ≤ 20) : restB S t (n + 1) (some b) = b :: restB S t n (nextB S t b) := by
  show (if b ≤ 20 then basesL S t (n + 1) b else []) = _
  rw [if_pos hb]
  unfold basesL nextB
  cases dueS S t b with
  | none => rfl
  | some d =>
    show b :: (if d > b ∧ d ≤ 20 then basesL S t n d else []) = b :: restB S t n (if d > b then some d else none)
    by_cases h1 : d > b
    · rw [if_pos h1]
      show _ = b :: (if d ≤ 20 then basesL S t n d else [])
      by_cases h2 : d ≤ 20
      · rw [if_pos ⟨h1, h2⟩, if_pos h2]
      · rw [if_neg (fun z => h2 z.2), if_neg h2]
    · rw [if_neg (fun z => h1 z.1), if_neg h1]
      rfl
theorem basesL_len (S : Site) (t : Task) : ∀ (n : Nat) (b : Int), (basesL S t n b).length ≤ n
  | 0, _ => Nat.le_refl _
  | n + 1, b => by
    unfold basesL
    rw [List.length_cons]
    cases dueS S t b with
    | none => exact Nat.succ_le_succ (Nat.zero_le _)
    | some d =>
      show (if d > b ∧ d ≤ 20 then basesL S t n d else []).length + 1 ≤ n + 1
      split
      · have := basesL_len S t n d
        omega
      · exact Nat.succ_le_succ (Nat.zero_le _)
def msB : Option Int → Nat
  | none => 0
  | some b => (21 - b).toNat
def s_windows_of : WFG := fun as k => ∃ m S t, DSite m S ∧ t ∈ S.ts ∧ as = [.da (encS S), .da (.str t.nm), .da (.int 20)] ∧ k (rowsD S t)
theorem len_windows_of : ∀ as k, s_windows_of as k → as.length = 3 := fun as k ⟨_, _, _, _, _, h, _⟩ => by rw [h]; rfl
theorem sc_windows_of : GScope ["site", "name", "upto", "task", "base", "due"] ["site", "name", "upto"] (defScope (top 64)) := ⟨rfl, rfl, rfl, by decide +kernel, rfl, by decide +kernel, by decide +kernel⟩
theorem ok_windows_of {P : Program} {w : World} {K : PySem.W.Frag} {mg : Str → Option Value} {base : Heap} (E : En K mg) : OkGen P w K mg base 11 "windows_of" ["site", "name", "upto"] s_windows_of := by
  have T := E.t
  have G_task_named := ok_task_named (P := P) (w := w) (base := base) E
  have G_require_usable := ok_require_usable (P := P) (w := w) (base := base) E
  have G_is_number := ok_is_number (P := P) (w := w) (base := base) E
  have G_task_due := ok_task_due (P := P) (w := w) (base := base) E
  have G_task_late := ok_task_late (P := P) (w := w) (base := base) E
  have G_task_early := ok_task_early (P := P) (w := w) (base := base) E
  refine mkGen E 76 d_windows_of rfl rfl rfl rfl rfl fun fd F => ⟨FunD.gen F sc_windows_of len_windows_of fun cdv A outer s H Er pn hr => ?_, F.bindsN fun _ _ _ _ _ _ us hl => match us, hl with | [_, _, _], _ => rfl⟩
  have nd := sc_windows_of.nd
  refine ⟨_, _, (gssw_cons (gsw_plain (sw_set 3 nd (kcall K G_task_named (hr.mono (by omega)) (cw_cons (ew_var 0) (cw_cons (ew_var 1) cw_nil))))) (gssw_cons (gsw_plain (sw_expr (kcall K G_require_usable (hr.mono (by omega)) (cw_cons (kcall K G_is_number (hr.mono (by omega)) (cw_cons (ew_var 2) cw_nil)) (cw_cons ew_str (cw_cons (ew_un un_neg lo_neg ew_int) cw_nil)))))) (gssw_cons (gsw_plain (sw_set 4 nd ew_int)) (gssw_cons (gsw_while owns_gcx (BW.tw (bw_and (tw_cmp op_notN lo_notN (ew_var 4) ew_non (nomark _)) (bw_and1 (tw_cmp op_le lo_le (ew_var 4) (ew_var 2) (nomark _))))) (gssw_cons (gsw_plain (sw_set 5 nd (kcall K G_task_due (hr.mono (by omega)) (cw_cons (ew_var 0) (cw_cons (ew_var 3) (cw_cons (ew_var 4) cw_nil)))))) (gssw_cons (gsw_yield (ew_tup (aw_cons (ew_var 4) (aw_cons (kcall K G_task_early (hr.mono (by omega)) (cw_cons (ew_var 0) (cw_cons (ew_var 3) (cw_cons (ew_var 4) cw_nil)))) (aw_cons (kcall K G_task_late (hr.mono (by omega)) (cw_cons (ew_var 0) (cw_cons (ew_var 3) (cw_cons (ew_var 4) cw_nil)))) (aw_cons (ew_var 5) aw_nil)))))) (gssw_cons (gsw_plain (sw_set 4 nd (ew_if (BW.tw (bw_and (tw_cmp op_notN lo_notN (ew_var 5) ew_non (nomark _)) (bw_and1 (tw_cmp op_gt lo_gt (ew_var 5) (ew_var 4) (nomark _))))) (ew_var 5) ew_non))) gssw_nil)))) gssw_nil)))), ?_⟩
  rintro _ k ⟨m, S, t, D, htm, rfl, h⟩
  have hS := D.ok
  have hd := D.tk t htm
  have ht := hd.ok D
  refine ⟨rfl, S, t, hS, htm, rfl, rfl, rfl, 20, rfl, rfl, ⟨_, rfl⟩, ⟨_, rfl⟩, rfl, ?_⟩
  refine ⟨fun q dys ρ => ∃ (n : Nat) (bo : Option Int) (s5 : Sl), ρ = [.da (encS S), .da (.str t.nm), .da (.int 20), .da (encT t), .da (optI bo), s5] ∧ (s5 = .un ∨ ∃ d, s5 = .da d) ∧ (∀ b, bo = some b → 0 ≤ b ∧ 30 ≤ (n : Int) + b) ∧ dys ++ (restB S t n bo).map (encRow S t) = rowsD S t ∧ q = msB bo,
    ⟨_, 30, some 0, .un, rfl, .inl rfl, fun b hb => by cases hb; omega, ?_, rfl⟩, ?_⟩
  · show [] ++ (if (0 : Int) ≤ 20 then basesL S t 30 0 else []).map (encRow S t) = _
    rw [if_pos (by decide)]
    rfl
  rintro q dys ρ ⟨n, bo, s5, rfl, h5, hb, he, rfl⟩
  have hno : noOw [.da (encS S), .da (.str t.nm), .da (.int 20), .da (encT t), .da (optI bo), s5] = true := by
    rcases h5 with rfl | ⟨d, rfl⟩ <;> rfl
  have stop : restB S t n bo = [] → k dys := fun hr => by
    rw [hr, List.map_nil, List.append_nil] at he
    rw [he]
    exact h
  cases bo with
  | none => exact stop rfl
  | some b =>
    obtain ⟨hb0, hbn⟩ := hb b rfl
    show (match decide (b ≤ 20) with | true => _ | false => _)
    by_cases h20 : b ≤ 20
    · rw [decide_eq_true h20]
      obtain ⟨n, rfl⟩ : ∃ n', n = n' + 1 := ⟨n - 1, by omega⟩
      have hlen : dys.length < 1000 := by
        have e1 := congrArg List.length he
        have e2 := basesL_len S t 30 0
        have e3 : (rowsD S t).length ≤ 30 := by
          unfold rowsD
          rw [List.length_map]
          exact e2
        rw [List.length_append] at e1
        omega
      rw [rest_step h20, List.map_cons] at he
      refine ⟨hno, S, t, b, hS, ht, hb0, by omega, rfl, rfl, rfl, ?_⟩
      refine ⟨hlen, S, t, b, hS, ht, hb0, by omega, rfl, rfl, rfl, S, t, b, hS, ht, hb0, by omega, rfl, rfl, rfl, show 4 ≤ 1000 by decide, ?_⟩
      have fin : ∀ bo2 : Option Int, bo2 = nextB S t b → ∃ m2, m2 < msB (some b) ∧ ∃ (n2 : Nat) (bo : Option Int) (s5 : Sl), [.da (encS S), .da (.str t.nm), .da (.int 20), .da (encT t), .da (optI bo2), .da (optI (dueS S t b))] = [.da (encS S), .da (.str t.nm), .da (.int 20), .da (encT t), .da (optI bo), s5] ∧ (s5 = .un ∨ ∃ d, s5 = .da d) ∧ (∀ b, bo = some b → 0 ≤ b ∧ 30 ≤ (n2 : Int) + b) ∧ (dys ++ [encRow S t b]) ++ (restB S t n2 bo).map (encRow S t) = rowsD S t ∧ m2 = msB bo := fun bo2 hbo => by
        refine ⟨msB bo2, ?_, n, bo2, .da (optI (dueS S t b)), rfl, .inr ⟨_, rfl⟩, ?_, ?_, rfl⟩
        · rw [hbo]
          unfold nextB
          cases dueS S t b with
          | none => show 0 < (21 - b).toNat; omega
          | some d =>
            show msB (if d > b then some d else none) < (21 - b).toNat
            split
            · show (21 - d).toNat < (21 - b).toNat; omega
            · show 0 < (21 - b).toNat; omega
        · intro c hc
          rw [hbo] at hc
          unfold nextB at hc
          cases ed : dueS S t b with
          | none => rw [ed] at hc; cases hc
          | some d =>
            rw [ed] at hc
            have hc : (if d > b then some d else none) = some c := hc
            split at hc
            · cases hc
              omega
            · cases hc
        · rw [hbo, List.append_assoc]
          exact he
      refine ⟨?_, ?_⟩
      · exact rfl
      · have fin0 := fin (nextB S t b) rfl
        unfold nextB at fin0
        cases ed : dueS S t b with
        | none =>
          rw [ed] at fin0
          show ∃ m2, _
          rw [show encRow S t b = .tup [.int b, optI (earlyS S t b), optI (lateS S t b), .non] by unfold encRow; rw [ed]; rfl] at fin0
          exact fin0
        | some d =>
          rw [ed] at fin0
          rw [show encRow S t b = .tup [.int b, optI (earlyS S t b), optI (lateS S t b), .int d] by unfold encRow; rw [ed]; rfl] at fin0
          have fin0 : ∃ m2, m2 < msB (some b) ∧ ∃ (n2 : Nat) (bo : Option Int) (s5 : Sl), [.da (encS S), .da (.str t.nm), .da (.int 20), .da (encT t), .da (optI (if d > b then some d else none)), .da (.int d)] = [.da (encS S), .da (.str t.nm), .da (.int 20), .da (encT t), .da (optI bo), s5] ∧ (s5 = .un ∨ ∃ d, s5 = .da d) ∧ (∀ b, bo = some b → 0 ≤ b ∧ 30 ≤ (n2 : Int) + b) ∧ (dys ++ [.tup [.int b, optI (earlyS S t b), optI (lateS S t b), .int d]]) ++ (restB S t n2 bo).map (encRow S t) = rowsD S t ∧ m2 = msB bo := fin0
          show (match decide (b < d) with | true => _ | false => _)
          by_cases hlt : d > b
          · rw [decide_eq_true hlt]
            rw [if_pos hlt] at fin0
            exact fin0
          · rw [decide_eq_false hlt]
            rw [if_neg hlt] at fin0
            exact fin0
    · rw [decide_eq_false h20]
      exact stop (if_neg h20)
end Wd
set_option maxRecDepth 100000
set_option maxHeartbeats 4000000
namespace Wd
open PySem PySem.Spec PyProof.Rows L2
local macro_rules | `(tactic| walk_at "wd") => `(tactic| simp only [startW, Ar.sl, List.map_cons, List.map_nil, List.replicate, List.cons_append, List.nil_append, List.length_cons, List.length_nil, Nat.reduceAdd, Nat.reduceSub, List.getElem?_cons_zero, List.getElem?_cons_succ, List.set_cons_zero, List.set_cons_succ,
  wSeq, wNext, wRet, wAsg, wIfS, wBreak, wNever, wExp, wVar, wC, wOp, wUn, wCB, wNil, wCons, wTup, wLst, wKey, intsD, Option.map_some, wIf, wB, wNot, wAnd, wOr, wAndV, wOrV, wNotV, wIsi, wChain, wCall, wcNil, wcCons, wcFeed, gwName, gwNil, gwCons, gwTup, wIdxT, wIdxL, tupK, lstK, wSlT, wSlL, wRev, wStar, spliceD, wLenO, wFrz, wOwnL, wOwnD, wApp, wExt, wPop, wDPut, wDGet, keyD, wPar, wPar3, wParOD, wParDO, blD, intK, strD, woNone, woSome, wiL, wiT, wiS, wiR1, wiR2, wiEnumT, wiZipT, wFInt, wFCells, wFSet, tyOf, kit_ii, kit_bi, kit_bb, kit_ib, kit_ss, kit_tt, kit_ts, kit_si,
  addI, subI, ltI, leI, gtI, geI, negI, isN, notN, isNon, ixD, lenD, min2D, max2D, intD, tupD, lstD, wYes, wipeW, Bool.not_true, Bool.not_false, true_and, and_true, Nat.reduceLeDiff, Nat.zero_le])
/-! ### rows right -/
theorem basesL_rng (S : Site) (t : Task) : ∀ (n : Nat) (b c : Int), 0 ≤ b → b ≤ 20 → c ∈ basesL S t n b → 0 ≤ c ∧ c ≤ 20
  | 0, _, _, _, _, h => by unfold basesL at h; cases h
  | n + 1, b, c, h0, h1, h => by
    unfold basesL at h
    rcases List.mem_cons.mp h with q | q
    · rw [q]; exact ⟨h0, h1⟩
    · cases e : dueS S t b with
      | none => rw [e] at q; cases q
      | some d =>
        rw [e] at q
        have q : c ∈ (if d > b ∧ d ≤ 20 then basesL S t n d else []) := q
        split at q
        · rename_i hc
          exact basesL_rng S t n d c (by omega) hc.2 q
        · cases q
theorem rows_sh {m : Nat} {S : Site} (D : DSite m S) {t : Task} (ht : okDT t) : ShOk 2 1593 (.lst (rowsD S t)) := by
  have hl : (rowsD S t).length ≤ 30 := by
    unfold rowsD
    rw [List.length_map]
    exact basesL_len S t 30 0
  refine (sh_lst (n := 1) (m := 51) fun d hd => ?_).mono (Nat.le_refl _) (by omega)
  obtain ⟨b, hb, rfl⟩ := List.mem_map.mp hd
  obtain ⟨hb0, hb1⟩ := basesL_rng S t 30 0 b (by decide) (by decide) hb
  obtain ⟨b1, b2, b3, _⟩ := D.small ht hb0 (by omega)
  refine sh_opts (ds := [.int b, optI (earlyS S t b), optI (lateS S t b), optI (dueS S t b)]) fun d hd => ?_
  simp only [List.mem_cons, List.not_mem_nil, or_false] at hd
  rcases hd with q | q | q | q
  · exact ⟨some b, q, fun x hx => by cases hx; omega⟩
  · exact ⟨_, q, b1⟩
  · exact ⟨_, q, b3⟩
  · exact ⟨_, q, b2⟩
noncomputable def tailB (S : Site) (t : Task) (n : Nat) (b : Int) : Option Int → List Int
  | some d => if d > b ∧ d ≤ 20 then basesL S t n d else []
  | none => []
theorem basesL_succ (S : Site) (t : Task) (n : Nat) (b : Int) : basesL S t (n + 1) b = b :: tailB S t n b (dueS S t b) := by
  unfold basesL
  cases dueS S t b <;> rfl
def s__law_rows_right : WF := S2 fun a b k => ∃ m S t, DSite m S ∧ t ∈ S.ts ∧ a = .da (encS S) ∧ b = .da (encT t) ∧ k (.bl true)
theorem sc__law_rows_right : FnScope ["_law_site_here", "_law_task", "_law_rows", "_law_base", "_law_turn", "_law_early", "_law_due", "_law_late"] ["_law_site_here", "_law_task"] (defScope (top 94)) := ⟨rfl, rfl, rfl, by decide +kernel, rfl, by decide +kernel, by decide +kernel⟩
theorem ok__law_rows_right {P : Program} {w : World} {K : PySem.W.Frag} {mg : Str → Option Value} {base : Heap} (E : En K mg) : OkG P w K mg base 16 "_law_rows_right" ["_law_site_here", "_law_task"] s__law_rows_right := by
  have T := E.t
  have G__law_three := ok__law_three (P := P) (w := w) (base := base) E
  have G_windows_of := ok_windows_of (P := P) (w := w) (base := base) E
  refine mkOkG E 71 d__law_rows_right rfl rfl rfl rfl rfl fun fd F => ⟨FunD.okWG F sc__law_rows_right S2.len fun cdv A outer s H Er hr gd => ?_, F.bindsN fun _ _ _ _ _ _ us hl => match us, hl with | [_, _], _ => rfl⟩
  have nd := sc__law_rows_right.nd
  refine ⟨_, _, (ssw_cons (sparOD (i := 2) (j := 3) nd ew_int) (ssw_cons (sw_for PassesOwn.never (iw_range1 (aw_cons ew_int aw_nil) T.range) (gw_name 4 nd) (ssw_cons (sasg (kcall K G__law_three (hr.mono (by omega)) (cw_cons (ew_var 0) (cw_cons (ew_var 1) (cw_cons (ew_var 3) cw_nil)))) (ktup K (n := 3) (gsc (gw_name 5 nd) (gsc (gw_name 6 nd) (gsc (gw_name 7 nd) gsw_nil))))) (ssw_cons (sapp 2 (ew_tup (aw_cons (ew_var 3) (aw_cons (ew_var 5) (aw_cons (ew_var 7) (aw_cons (ew_var 6) aw_nil)))))) (ssw_cons (sw_if (BW.tw (bw_or (tw_cmp op_isN lo_isN (ew_var 6) ew_non (nomark _)) (bw_or (tw_cmp op_le lo_le (ew_var 6) (ew_var 3) (nomark _)) (bw_or1 (tw_cmp op_gt lo_gt (ew_var 6) ew_int (nomark _)))))) (ssw_one sw_break) ssw_nil) (ssw_one (sw_set 3 nd (ew_var 6))))))) (ssw_frz 2 (ssw_one (sw_ret (keq K hr.units (kB K (rr := rRepr) (call_reprD gd hr.units) lc_repr T.repr bb_repr (aw_cons (ew_listG K G_windows_of (hr.mono (by omega)) (cw_cons (ew_var 0) (cw_cons (kix K (ew_var 1) ew_int (fun _ _ => rfl)) (cw_cons ew_int cw_nil))) T.list bb_list) aw_nil)) (kB K (rr := rRepr) (call_reprD gd hr.units) lc_repr T.repr bb_repr (aw_cons (ew_var 2) aw_nil)))))))), S2.el ?_⟩
  rintro _ _ k ⟨m, S, t, D, htm, rfl, rfl, h⟩
  have hS := D.ok
  have hd := D.tk t htm
  have ht := hd.ok D
  have hsh := rows_sh D hd
  rw [encT_eq]
  walk_at "wd"
  have hl30 : (rowsD S t).length ≤ 30 := by
    unfold rowsD
    rw [List.length_map]
    exact basesL_len S t 30 0
  have fin : ∀ s3 s4 s5 s6 s7 : Sl, (wFrz 2 (wRet (wOp eqD (wCB reprD (wCons (wListG s_windows_of (wcCons (wVar 0) (wcCons (wOp ixD (wVar 1) (wC (.int 0))) (wcCons (wC (.int 20)) wcNil)))) wNil)) (wCB reprD (wCons (wVar 2) wNil))))) { nx := fun _ => k .non, rt := k }
      [.da (encS S), .da (.tup [.str t.nm, .str t.pt, .str t.way, encL t.lim, .tup t.sl.ds]), .ow (rowsD S t), s3, s4, s5, s6, s7] := fun s3 s4 s5 s6 s7 => by
    refine ⟨m, S, t, D, htm, rfl, ?_⟩
    show (match reprD [.lst (rowsD S t)] with | some d => _ | none => False)
    rw [repr_ok hsh (by decide) (by decide) rfl]
    show (match reprD [.lst (rowsD S t)] with | some d => _ | none => False)
    rw [repr_ok hsh (by decide) (by decide) rfl]
    show (match eqD (.str (shownD (.lst (rowsD S t)))) (.str (shownD (.lst (rowsD S t)))) with | some d => k d | none => False)
    rw [eq_str]
    exact h
  refine ⟨⟨show -2 ^ 62 ≤ (30 : Int) by decide, show (30 : Int) < 2 ^ 62 by decide⟩, ?_⟩
  show forGo _ _ _ (ilist 0 30) _
  rw [ilist_map]
  refine for_inv0 (fun i : Nat => .int (0 + i)) (List.range 30) (fun j ρ => ∃ (b : Int) (done : List Wd.D) (s4 s5 s6 s7 : Sl), ρ = [.da (encS S), .da (.tup [.str t.nm, .str t.pt, .str t.way, encL t.lim, .tup t.sl.ds]), .ow done, .da (.int b), s4, s5, s6, s7] ∧ 0 ≤ b ∧ b ≤ 20 ∧ done ++ (basesL S t (30 - j) b).map (encRow S t) = rowsD S t)
    ⟨0, [], .un, .un, .un, .un, rfl, Int.le_refl _, by decide, rfl⟩ ?_ ?_
  · rintro j i ρ nxt hj ⟨b, done, s4, s5, s6, s7, rfl, hb0, hb1, he⟩ hn
    obtain ⟨rfl, hjl⟩ := range_get hj
    obtain ⟨n, hn30⟩ : ∃ n, 30 - i = n + 1 := ⟨29 - i, by omega⟩
    rw [hn30] at he
    rw [basesL_succ, List.map_cons] at he
    have hlen : done.length < 1000 := by
      have e1 := congrArg List.length he
      rw [List.length_append] at e1
      omega
    have hn : ∀ (b2 : Int) s4 s5 s6 s7, 0 ≤ b2 → b2 ≤ 20 → (done ++ [encRow S t b]) ++ (basesL S t n b2).map (encRow S t) = rowsD S t → nxt [.da (encS S), .da (.tup [.str t.nm, .str t.pt, .str t.way, encL t.lim, .tup t.sl.ds]), .ow (done ++ [encRow S t b]), .da (.int b2), s4, s5, s6, s7] := fun b2 s4 s5 s6 s7 q1 q2 q3 =>
      hn _ ⟨b2, _, s4, s5, s6, s7, rfl, q1, q2, by rw [show 30 - (i + 1) = n by omega]; exact q3⟩
    refine ⟨S, t, b, hS, ht, D.near hd hb0, hb0, by omega, rfl, rfl, rfl, rfl, show 4 ≤ 1000 by decide, hlen, ?_⟩
    have stop : tailB S t n b (dueS S t b) = [] → ∀ s3 s4 s5 s6 s7 : Sl, (wFrz 2 (wRet (wOp eqD (wCB reprD (wCons (wListG s_windows_of (wcCons (wVar 0) (wcCons (wOp ixD (wVar 1) (wC (.int 0))) (wcCons (wC (.int 20)) wcNil)))) wNil)) (wCB reprD (wCons (wVar 2) wNil))))) { nx := fun _ => k .non, rt := k }
      [.da (encS S), .da (.tup [.str t.nm, .str t.pt, .str t.way, encL t.lim, .tup t.sl.ds]), .ow (done ++ [encRow S t b]), s3, s4, s5, s6, s7] := fun hr s3 s4 s5 s6 s7 => by
      rw [hr, List.map_nil] at he
      rw [he]
      exact fin _ _ _ _ _
    cases ed : dueS S t b with
    | none =>
      rw [ed] at stop
      have stop := stop rfl
      rw [show encRow S t b = .tup [.int b, optI (earlyS S t b), optI (lateS S t b), .non] by unfold encRow; rw [ed]; rfl] at stop
      exact stop _ _ _ _ _
    | some d =>
      rw [ed] at stop he
      rw [show encRow S t b = .tup [.int b, optI (earlyS S t b), optI (lateS S t b), .int d] by unfold encRow; rw [ed]; rfl] at stop hn he
      have he : done ++ .tup [.int b, optI (earlyS S t b), optI (lateS S t b), .int d] :: (if d > b ∧ d ≤ 20 then basesL S t n d else []).map (encRow S t) = rowsD S t := he
      have stop : (if d > b ∧ d ≤ 20 then basesL S t n d else []) = [] → _ := stop
      show (match decide (d ≤ b) with | true => _ | false => _)
      by_cases h1 : d ≤ b
      · rw [decide_eq_true h1]
        exact stop (if_neg (by omega)) _ _ _ _ _
      · rw [decide_eq_false h1]
        show (match decide (20 < d) with | true => _ | false => _)
        by_cases h2 : 20 < d
        · rw [decide_eq_true h2]
          exact stop (if_neg (by omega)) _ _ _ _ _
        · rw [decide_eq_false h2]
          refine hn d _ _ _ _ (by omega) (by omega) ?_
          rw [if_pos ⟨by omega, by omega⟩] at he
          rw [List.append_assoc]
          exact he
  · rintro ρ ⟨b, done, s4, s5, s6, s7, rfl, hb0, hb1, he⟩
    rw [List.length_range] at he
    have he : done ++ [] = rowsD S t := he
    rw [List.append_nil] at he
    rw [he]
    exact fin _ _ _ _ _
end Wd
set_option maxRecDepth 100000
set_option maxHeartbeats 400000
namespace Wd
open PySem PySem.Spec PyProof.Rows L2
/-! ### a part that begins to run on day fifty -/
def S0 (f : (D → Prop) → Prop) : WF := fun as k => match as with
  | [] => f k
  | _ => False
theorem S0.len {f} : ∀ as k, S0 f as k → as.length = 0 := fun as k h => by
  unfold S0 at h
  split at h
  · rfl
  · cases h
theorem S0.el {f} {R : List Ar → (D → Prop) → Prop} (h : ∀ k, f k → R [] k) : ∀ as k, S0 f as k → R as k := fun as k q => by
  unfold S0 at q
  split at q
  · exact h _ q
  · cases q
def farT : Task := ⟨"fix", "cog", "kept", .pl .hours 5, ⟨0, 0, 0⟩⟩
def farS : Site := ⟨[("axe", [(1, 0)]), ("bar", [(0, 0)])], [("cog", [(0, some "bar"), (50, some "axe")])], [farT]⟩
theorem far_ok : OkS farS := by
  have mem : ∀ z : Str, z = "axe" ∨ z = "bar" → ∃ us, (z, us) ∈ farS.ms := fun z hz => by
    rcases hz with rfl | rfl
    · exact ⟨_, List.mem_cons_self⟩
    · exact ⟨_, List.mem_cons_of_mem _ List.mem_cons_self⟩
  refine ⟨?_, ?_, by decide, ?_, ?_, by decide, ?_, ?_, by decide⟩
  · show [("axe" : Str), "bar"].Nodup; decide +kernel
  · intro p hp
    rcases List.mem_cons.mp hp with q | q
    · rw [q]
      refine ⟨by show ("axe" : Str) ∈ theNames; decide +kernel, by simp, by show 1 ≤ 10; decide, fun u hu => ?_⟩
      rw [List.mem_singleton.mp hu]
      decide
    · rw [List.mem_singleton.mp q]
      refine ⟨by show ("bar" : Str) ∈ theNames; decide +kernel, by simp, by show 1 ≤ 10; decide, fun u hu => ?_⟩
      rw [List.mem_singleton.mp hu]
      decide
  · show [("cog" : Str)].Nodup; decide +kernel
  · intro p hp
    rw [List.mem_singleton.mp hp]
    refine ⟨by show ("cog" : Str) ∈ theNames; decide +kernel, by simp, by show 2 ≤ 10; decide, ⟨_, List.mem_cons_self, Int.le_refl _⟩, fun s hs => ?_, fun s hs z hz => ?_⟩
    · rcases List.mem_cons.mp hs with q | q
      · rw [q]; decide
      · rw [List.mem_singleton.mp q]; decide
    · rcases List.mem_cons.mp hs with q | q
      · rw [q] at hz; cases hz; exact mem _ (.inr rfl)
      · rw [List.mem_singleton.mp q] at hz; cases hz; exact mem _ (.inl rfl)
  · show [("fix" : Str)].Nodup; decide +kernel
  · intro t ht
    rw [List.mem_singleton.mp ht]
    refine ⟨by show ("fix" : Str) ∈ theNames; decide +kernel, ⟨_, List.mem_cons_self⟩, ?_, ?_, ?_, ?_⟩
    · show (Lim.pl .hours 5).all _ 3
      unfold Lim.all
      decide
    · show (Lim.pl .hours 5).size ≤ 100
      unfold Lim.size
      decide
    · decide
    · decide
def farW : Stays := [(0, some "bar"), (50, some "axe")]
theorem far_use (d : Int) (hd : 0 ≤ d) : (useAt farS farW d).1 = if d < 50 then 0 else 1 := by
  by_cases h : d < 50
  · have e : placeOn farW d = some "bar" := by
      unfold placeOn farW
      rw [List.filter_cons_of_pos (by simpa using hd), List.filter_cons_of_neg (by simpa using h)]
      rfl
    rw [if_pos h]
    unfold useAt
    rw [e]
    show (useOn (farS.uses "bar") d).1 = 0
    rw [uses_mem far_ok.msn (us := [(0, 0)]) (List.mem_cons_of_mem _ List.mem_cons_self)]
    unfold useOn
    rw [show (min d ((([(0, 0)] : Uses).length : Int) - 1)).toNat = 0 by show (min d ((1 : Int) - 1)).toNat = 0; omega]
    rfl
  · have e : placeOn farW d = some "axe" := by
      unfold placeOn farW
      rw [List.filter_cons_of_pos (by simpa using hd), List.filter_cons_of_pos (by simp; omega)]
      rfl
    rw [if_neg h]
    unfold useAt
    rw [e]
    show (useOn (farS.uses "axe") d).1 = 1
    rw [uses_mem far_ok.msn (us := [(1, 0)]) List.mem_cons_self]
    unfold useOn
    rw [show (min d ((([(1, 0)] : Uses).length : Int) - 1)).toNat = 0 by show (min d ((1 : Int) - 1)).toNat = 0; omega]
    rfl
theorem far_sum {x : Int} (h0 : 0 ≤ x) (hx : x ≤ 50) : ∀ d, x ≤ d → sumU (fun d => (useAt farS farW d).1) x d = if d ≤ 50 then 0 else d - 50 := by
  refine int_ind x ?_ fun b hb ih => ?_
  · rw [sumU_nil (Int.le_refl _), if_pos hx]
  · rw [sumU_succ hb, ih, far_use b (by omega)]
    split <;> split <;> split <;> omega
theorem far_fp {x n : Int} (h0 : 0 ≤ x) (hx : x ≤ 50) (hn : 0 ≤ n) : fpS farS farW (.pl .hours n) x = some (51 + n) := by
  rw [← fp_pl]
  rw [show (fun d => (cnt farS farW x d).get Word.hours > n) = fun d => sumU (fun d => (useAt farS farW d).1) x d > n from rfl]
  refine leastOf_eq ⟨by omega, ?_, fun e h1 h2 hp => ?_⟩
  · show sumU _ x (51 + n) > n
    rw [far_sum h0 hx _ (by omega), if_neg (by omega)]
    omega
  · have hp : sumU (fun d => (useAt farS farW d).1) x e > n := hp
    rw [far_sum h0 hx _ h1] at hp
    split at hp <;> omega
theorem far_stays : farS.stays "cog" = farW := stays_mem far_ok List.mem_cons_self
theorem far_late {x : Int} (h0 : 0 ≤ x) (hx : x ≤ 50) : lateS farS farT x = some 55 := by
  unfold lateS lastS
  show (fpS farS (farS.stays "cog") (widL ⟨0, 0, 0⟩ (.pl .hours 5)) x).map _ = _
  rw [far_stays, show widL ⟨0, 0, 0⟩ (.pl .hours 5) = .pl .hours 5 by unfold widL; rfl, far_fp h0 hx (by decide)]
  rfl
theorem far_due {x : Int} (h0 : 0 ≤ x) (hx : x ≤ 50) : dueS farS farT x = some 55 := by
  unfold dueS lastS
  show (fpS farS (farS.stays "cog") (.pl .hours 5) x).map _ = _
  rw [far_stays, far_fp h0 hx (by decide)]
  rfl
theorem far_early : earlyS farS farT 0 = some 55 := by
  rw [early_O, far_late (by decide) (by decide)]
  have e : reachS farS farT 0 = some 55 := by
    unfold reachS
    show fpS farS (farS.stays "cog") (widL (N3.less ⟨0, 0, 0⟩) (.pl .hours 5)) 0 = _
    rw [far_stays, show widL (N3.less ⟨0, 0, 0⟩) (.pl .hours 5) = .pl .hours 4 by unfold widL; rfl, far_fp (by decide) (by decide) (by decide)]
    rfl
  rw [e]
  rfl
end Wd
set_option maxRecDepth 100000
set_option maxHeartbeats 400000
namespace Wd
open PySem PySem.Spec PyProof.Rows L2
local macro_rules | `(tactic| walk_at "wd") => `(tactic| simp only [startW, Ar.sl, List.map_cons, List.map_nil, List.replicate, List.cons_append, List.nil_append, List.length_cons, List.length_nil, Nat.reduceAdd, Nat.reduceSub, List.getElem?_cons_zero, List.getElem?_cons_succ, List.set_cons_zero, List.set_cons_succ,
  wSeq, wNext, wRet, wAsg, wIfS, wBreak, wNever, wExp, wVar, wC, wOp, wUn, wCB, wNil, wCons, wTup, wLst, wKey, intsD, Option.map_some, wIf, wB, wNot, wAnd, wOr, wAndV, wOrV, wNotV, wIsi, wChain, wCall, wcNil, wcCons, wcFeed, gwName, gwNil, gwCons, gwTup, wIdxT, wIdxL, tupK, lstK, wSlT, wSlL, wRev, wStar, spliceD, wLenO, wFrz, wOwnL, wOwnD, wApp, wExt, wPop, wDPut, wDGet, keyD, wPar, wPar3, wParOD, wParDO, blD, intK, strD, woNone, woSome, wiL, wiT, wiS, wiR1, wiR2, wiEnumT, wiZipT, wFInt, wFCells, wFSet, tyOf, kit_ii, kit_bi, kit_bb, kit_ib, kit_ss, kit_tt, kit_ts, kit_si,
  addI, subI, ltI, leI, gtI, geI, negI, isN, notN, isNon, ixD, lenD, min2D, max2D, intD, tupD, lstD, wYes, wipeW, Bool.not_true, Bool.not_false, true_and, and_true, Nat.reduceLeDiff, Nat.zero_le])
def s__law_far_right : WF := S0 fun k => k (.bl true)
theorem sc__law_far_right : FnScope ["_law_machines_here", "_law_task", "_law_site_here"] [] (defScope (top 97)) := ⟨rfl, rfl, rfl, by decide +kernel, rfl, by decide +kernel, by decide +kernel⟩
theorem ok__law_far_right {P : Program} {w : World} {K : PySem.W.Frag} {mg : Str → Option Value} {base : Heap} (E : En K mg) : Ok P w K mg base 13 "_law_far_right" [] s__law_far_right := by
  have T := E.t
  have G_late_day := ok_late_day (P := P) (w := w) (base := base) E
  have G_due_day := ok_due_day (P := P) (w := w) (base := base) E
  have G_early_day := ok_early_day (P := P) (w := w) (base := base) E
  refine mkOk E 74 d__law_far_right rfl rfl rfl rfl rfl fun fd F => ⟨FunD.okW F sc__law_far_right S0.len fun cdv A outer s H Er hr => ?_, F.bindsN fun _ _ _ _ _ _ us hl => match us, hl with | [], _ => rfl⟩
  have nd := sc__law_far_right.nd
  refine ⟨_, _, (ssw_cons (sasg (ew_tup (aw_cons (ew_tup (aw_cons (ew_tup (aw_cons ew_str (aw_cons (ew_tup (aw_cons (ew_tup (aw_cons ew_int (aw_cons ew_int aw_nil))) aw_nil)) aw_nil))) (aw_cons (ew_tup (aw_cons ew_str (aw_cons (ew_tup (aw_cons (ew_tup (aw_cons ew_int (aw_cons ew_int aw_nil))) aw_nil)) aw_nil))) aw_nil))) (aw_cons (ew_tup (aw_cons ew_str (aw_cons ew_str (aw_cons ew_str (aw_cons (ew_tup (aw_cons ew_str (aw_cons ew_int aw_nil))) (aw_cons (ew_tup (aw_cons ew_int (aw_cons ew_int (aw_cons ew_int aw_nil)))) aw_nil)))))) aw_nil))) (ktup K (n := 2) (gsc (gw_name 0 nd) (gsc (gw_name 1 nd) gsw_nil)))) (ssw_cons (sw_set 2 nd (ew_tup (aw_cons (ew_var 0) (aw_cons (ew_tup (aw_cons (ew_tup (aw_cons ew_str (aw_cons (ew_tup (aw_cons (ew_tup (aw_cons ew_int (aw_cons ew_str aw_nil))) (aw_cons (ew_tup (aw_cons ew_int (aw_cons ew_str aw_nil))) aw_nil))) aw_nil))) aw_nil)) (aw_cons (ew_tup (aw_cons (ew_var 1) aw_nil)) aw_nil))))) (ssw_one (sw_ret (keq K hr.units (ew_tup (aw_cons (kcall K G_early_day (hr.mono (by omega)) (cw_cons (ew_var 2) (cw_cons ew_str (cw_cons ew_int cw_nil)))) (aw_cons (kcall K G_due_day (hr.mono (by omega)) (cw_cons (ew_var 2) (cw_cons ew_str (cw_cons ew_int cw_nil)))) (aw_cons (kcall K G_late_day (hr.mono (by omega)) (cw_cons (ew_var 2) (cw_cons ew_str (cw_cons ew_int cw_nil)))) aw_nil)))) (ew_tup (aw_cons ew_int (aw_cons ew_int (aw_cons ew_int aw_nil))))))))), S0.el ?_⟩
  rintro k h
  have hm : farT ∈ farS.ts := List.mem_cons_self
  refine ⟨show 2 ≤ 1000 by decide, show 1 ≤ 1000 by decide, show 2 ≤ 1000 by decide, show 2 ≤ 1000 by decide, show 1 ≤ 1000 by decide, show 2 ≤ 1000 by decide, show 2 ≤ 1000 by decide, show 2 ≤ 1000 by decide, show 3 ≤ 1000 by decide, show 5 ≤ 1000 by decide, show 2 ≤ 1000 by decide, rfl, show 2 ≤ 1000 by decide, show 2 ≤ 1000 by decide, show 2 ≤ 1000 by decide, show 2 ≤ 1000 by decide, show 1 ≤ 1000 by decide, show 1 ≤ 1000 by decide, show 3 ≤ 1000 by decide, ?_⟩
  refine ⟨farS, farT, 0, far_ok, hm, by decide, by decide, rfl, rfl, rfl, farS, farT, 0, far_ok, hm, by decide, by decide, rfl, rfl, rfl, farS, farT, 3, far_ok, hm, by decide, by decide, rfl, rfl, rfl, ?_⟩
  rw [far_early, far_due (by decide) (by decide), far_late (by decide) (by decide)]
  refine ⟨show 3 ≤ 1000 by decide, show 3 ≤ 1000 by decide, ?_⟩
  show (match eqD (.tup [.int 55, .int 55, .int 55]) (.tup [.int 55, .int 55, .int 55]) with | some d => k d | none => False)
  rw [eqD_same ((py_tup (n := 0) (ds := [.int 55, .int 55, .int 55]) (fun d hd => by
    simp only [List.mem_cons, List.not_mem_nil, or_false, or_self] at hd
    rw [hd]
    exact py_int _ _)).mono (by decide))]
  exact h
end Wd
set_option maxRecDepth 100000
set_option maxHeartbeats 400000
namespace Wd
open PySem PySem.Spec PyProof.Rows L2
/-! ### the feed's making -/
/-- a list of ints in, a feed out: two new objects -/
def spFeed (K : PySem.W.Frag) : Sp := fun vs H Q _ => ∃ (a : Addr) (ns : List Int), vs = [.ref a] ∧ SqL K H a (ns.map V.int) ∧ ∀ (H2 : Hp) (f c : Addr) (ms : List Int), ms.length ≤ 1000 → (∀ b o, H b = some o → H2 b = some o) → H f = none → H c = none → f ≠ c →
  H2 c = some (.lst (ms.map V.int)) → H2 f = some (.dK (feedL c 0 0 0)) → Q (.ref f) H2
theorem sc__law_feed : FnScope ["_law_script"] ["_law_script"] (defScope (top 75)) := ⟨rfl, rfl, rfl, by decide +kernel, rfl, by decide +kernel, by decide +kernel⟩
abbrev tFeed (K : PySem.W.Frag) : TE := tDisp [(tC (.str "cells"), tCB (rLstK K) (tCons (tSl (rSlL K) (tVar 0) tNoPart (tPart (tC (.int 62)))) tNil)), (tC (.str "at"), tC (.int 0)), (tC (.str "left"), tC (.int 0)), (tC (.str "count"), tC (.int 0))]
theorem sub_fresh {H : Hp} {p : Addr} {o : HO} (hp : H p = none) : Sub H (upd H p o) := fun b u e => by
  rw [upd_ne (ne_of_none e hp)]
  exact e
theorem feed_reads {K : PySem.W.Frag} {vs : List V} {H : Hp} {Q : VK} {E : XK} (h : spFeed K vs H Q E) : tFeed K (L2.start ["_law_script"] vs) H Q := by
  obtain ⟨a, ns, rfl, hs, hq⟩ := h
  intro p hp
  have s1 : Sub H (upd H p (.dK [])) := sub_fresh hp
  refine ⟨.ref a, rfl, ?_⟩
  refine ⟨62, rfl, a, ns.map V.int, rfl, s1.sqL hs, fun c1 hc1 => ?_⟩
  have s2 : Sub (upd H p (.dK [])) (upd (upd H p (.dK [])) c1 (.lst (cutV (ns.map V.int) none (some 62)))) := sub_fresh hc1
  refine ⟨c1, _, rfl, .inl (SqL.of upd_same), fun c hc => ?_⟩
  have s3 := sub_fresh (o := .lst (cutV (ns.map V.int) none (some 62))) hc
  have hpc : p ≠ c := fun z => by
    subst z
    have e := s2 p _ (upd_same (H := H) (o := .dK []))
    rw [hc] at e
    cases e
  have hHc : H c = none := by
    cases e : H c with
    | none => rfl
    | some u =>
      have e2 := s2 c u (s1 c u e)
      rw [hc] at e2
      cases e2
  refine ⟨s3 p _ (s2 p _ upd_same), [(Sum.inr "cells", .ref c), (Sum.inr "at", .int 0), (Sum.inr "left", .int 0), (Sum.inr "count", .int 0)], rfl, show 4 ≤ 15 by decide, ?_⟩
  have em : cutV (ns.map V.int) none (some 62) = (ns.take 62).map V.int := by
    unfold cutV
    rw [HT.sIx_none, show (62 : Int) = ((62 : Nat) : Int) from rfl, HT.sIx_nat, List.drop_zero, Nat.sub_zero, List.map_take, List.length_map]
    by_cases h62 : 62 ≤ ns.length
    · rw [Nat.min_eq_left h62]
    · rw [Nat.min_eq_right (by omega), List.take_of_length_le (by rw [List.length_map]; omega), List.take_of_length_le (by rw [List.length_map]; omega)]
  refine hq _ p c (ns.take 62) (by rw [List.length_take]; omega) (fun b o e => ?_) hp hHc hpc ?_ ?_
  · rw [upd_ne (ne_of_none e hp)]
    exact s3 b o (s2 b o (s1 b o e))
  · rw [upd_ne (fun z => hpc z.symm), upd_same, em]
  · rw [upd_same]
    rfl
structure OkSp (P : Program) (w : World) (K : PySem.W.Frag) (mg : Str → Option Value) (base : Heap) (k : Nat) (x : Str) (ps : List Str) (sp : Sp) : Prop where
  ok : ∃ fd, FnOk P w K mg base CX0 k (He.ga K x) fd ps sp ∧ Binds K fd ps []
  mg : mg x = some (.ref (He.ga K x))
  kp : PySem.W.keepIn K (.ref (He.ga K x)) = true
theorem mkOkSp {P : Program} {w : World} {K : PySem.W.Frag} {mg : Str → Option Value} {base : Heap} {x : Str} {ps : List Str} {k : Nat} {sp : Sp} (E : En K mg) (i : Nat) (d : He.DefD) (hi : fn[i]? = some d) (hj : fa[i]? = some (.glo x)) (hx : d.at_ = (x, none)) (h1 : d.dfl = []) (h2 : d.kwd = [])
    (H : ∀ fd, FunD K d.name d.qual d.params d.body d.scope [] [] (He.ga K x) fd → FnOk P w K mg base CX0 k (He.ga K x) fd ps sp ∧ Binds K fd ps []) : OkSp P w K mg base k x ps sp := by
  obtain ⟨fd, F⟩ := E.d.def_ i hi
  have e1 : d.dvs K = [] := by unfold He.DefD.dvs; rw [h1]; rfl
  have e2 : d.kws K = [] := by unfold He.DefD.kws; rw [h2]; rfl
  have e3 : He.fAd K d.at_ = He.ga K x := by rw [hx]; rfl
  rw [e1, e2, e3] at F
  exact ⟨⟨fd, H fd F⟩, E.g x (E.d.fact i hj), F.kp⟩
theorem ok__law_feed {P : Program} {w : World} {K : PySem.W.Frag} {mg : Str → Option Value} {base : Heap} (E : En K mg) : OkSp P w K mg base 1 "_law_feed" ["_law_script"] (spFeed K) := by
  have T := E.t
  refine mkOkSp E 52 d__law_feed rfl rfl rfl rfl rfl fun fd F => ⟨L2.FunD.ok F sc__law_feed (fun vs H Q E h => ?_) (fun cdv A outer s H vs Q Er hr h => ⟨tRet (tFeed K), PSs.nox ?_, feed_reads h⟩), F.bindsN fun _ _ _ _ _ _ us hl => match us, hl with | [_], _ => rfl⟩
  · obtain ⟨a, ns, rfl, _⟩ := h
    rfl
  · exact pss_one (ps_ret (pe_disp (pps_cons pe_str (pe_callTy call_list_of rfl T.list bb_list (pa_cons (pe_slice sl_list (pe_var (i := 0) rfl (.inl rfl)) po_none (po_some pe_int)) pa_nil)) (pps_cons pe_str pe_int (pps_cons pe_str pe_int (pps_cons pe_str pe_int pps_nil)))) rfl rfl (by simp) (by decide)))
end Wd
set_option maxRecDepth 100000
set_option maxHeartbeats 2000000
namespace Wd
open PySem PySem.Spec PyProof.Rows L2
/-! ### the class Due, over data -/
section
variable {P : Program} {w : World} {K : PySem.W.Frag} {mg : Str → Option Value} {base : Heap}
/-- a promise kept by the def at g -/
def OkA (P : Program) (w : World) (K : PySem.W.Frag) (mg : Str → Option Value) (base : Heap) (k : Nat) (g : Addr) (ps : List Str) (W : WF) : Prop := ∃ fd, FnOk P w K mg base CX0 k g fd ps (spW K W) ∧ Binds K fd ps []
theorem OkA.raw {k : Nat} {g : Addr} {ps : List Str} {W : WF} (h : OkA P w K mg base k g ps W) : FnR P w K mg base CX0 k g (spW K W) := by
  obtain ⟨fd, f, b⟩ := h
  exact (f.raw b .nil).imp fun vs H Q E q => by rw [List.append_nil]; exact q
theorem rp_due {G H : Hp} {v : V} {ds : List D} (r : Rp K G v (.due ds)) (s : Sub G H) : ∃ a dx xs, v = .ref a ∧ SlX.Slt H a (duC K) dx (xs.map some) ∧ RpL K G xs ds := by
  cases r with
  | due h1 h2 e hr =>
    subst e
    exact ⟨_, _, _, rfl, .inr ⟨s _ _ h1, s _ _ h2⟩, hr⟩
end
def wSlt (i : Nat) (W : WE) : WE := fun ρ k => W ρ fun d => match d with
  | .due ds => (match ds[i]? with
    | some e => k e
    | none => False)
  | _ => False
def wOb (Wf : WF) (W : WE) : WE := fun ρ k => W ρ fun d => match d with
  | .due ds => Wf [.da (.due ds)] k
  | _ => False
def wCallO (Wf : WF) (W : WE) (C : List Sl → (List Ar → Prop) → Prop) : WE := fun ρ k => W ρ fun d => match d with
  | .due ds => C ρ fun as => Wf (.da (.due ds) :: as) k
  | _ => False
def wIsD (W : WE) : WE := fun ρ k => W ρ fun d => match d with
  | .due _ => k (.bl true)
  | _ => False
section
variable {X : Cx} {e fe : Expr} {es : List Expr} {te tf : TE} {W : WE} {f : Str} {pos p p2 apos : Pos} {ta : TA} {k : Nat} {C : List Sl → (List Ar → Prop) → Prop} {Wf : WF} {ps : List Str}
theorem ew_slt (K : PySem.W.Frag) (D : DueK K X.mg) (i : Nat) (he : EW X e te W) (hf : duN[i]? = some f := by rfl) (hK : X.K = K := by rfl) (hb : attributeBase e f X.env (eval e X.env) = eval e X.env := by rfl) : EW X (.Attribute e f pos) (SlX.tSl K te f) (wSlt i W) := by
  subst hK
  refine ⟨SlX.pe_sl he.pe hb, fun {F G H w σ ρ k Q} R h q => he.li R h fun v d G' H' R' g r hk => ?_⟩
  cases d with
  | due ds =>
    obtain ⟨a, dx, xs, rfl, hs, hr⟩ := rp_due r R'.sub
    have hk : (match ds[i]? with | some e => k e | none => False) := hk
    cases e : ds[i]? with
    | none => rw [e] at hk; cases hk
    | some u =>
      rw [e] at hk
      obtain ⟨v, ev, rv⟩ := hr.get e
      exact ⟨a, duC X.K, dx, He.ma X.K (duC X.K) f, xs.map some, i, v, rfl, hs, D.sc, D.sl i f hf, by rw [List.getElem?_map, ev]; rfl, q v u G' H' R' g rv hk⟩
  | _ => cases hk
theorem ew_prop (K : PySem.W.Frag) {d : He.DefD} (D : DueK K X.mg) (Pk : PropK K d) (F : OkA X.prog X.w K X.mg X.base k (prG K d.name) ps Wf) (hr : Room (k + 1) X.A) (he : EW X e te W) (hf : d.name = f := by rfl) (hK : X.K = K := by rfl) (hb : attributeBase e f X.env (eval e X.env) = eval e X.env := by rfl) :
    EW X (.Attribute e f pos) (SlX.tPropSl (duC K) (spW K Wf) E0 te) (wOb Wf W) := by
  subst hK
  subst hf
  refine ⟨SlX.pe_propSl he.pe D.sc Pk.at_ Pk.get Pk.tk Pk.rc F.raw hr (fun _ _ _ _ h => h) hb, fun {F G H w σ ρ k Q} R h q => he.li R h fun v d G' H' R' g r hk => ?_⟩
  cases d with
  | due ds =>
    obtain ⟨a, dx, xs, rfl, hs, hr⟩ := rp_due r R'.sub
    exact ⟨a, dx, xs.map some, rfl, hs, F, G', [.da (.due ds)], _, R'.sub, R'.fok, .cons (d := .da (.due ds)) r .nil, hk, fun v d G2 H2 g2 s2 f2 rv hk => q v d G2 H2 (R'.grow g2 s2 f2) (g.trans g2) rv hk⟩
  | _ => cases hk
theorem ew_callO (K : PySem.W.Frag) (D : DueK K X.mg) (F : OkA X.prog X.w K X.mg X.base k (He.ma K (duC K) "__call__") ps Wf) (hr : Room k X.A) (hf : EW X fe tf W) (ha : CW X (e :: es) ta C) (hK : X.K = K := by rfl)
    (ht : eval (.Call fe (e :: es) [] pos) X.env = (do callWith pos (← eval fe X.env) [] (backTo pos (starEach (e :: es) X.env)) (backToKw pos (keywordEach [] X.env))) := by rfl)
    (he : starEach (e :: es) X.env = (false, eval e X.env) :: starEach es X.env := by rfl) (hpl : (backTo pos (starEach es X.env)).any (·.1) = false := by rfl) :
    EW X (.Call fe (e :: es) [] pos) (StX.tCallO X (duC K) (spW K Wf) E0 tf ta) (wCallO Wf W C) := by
  subst hK
  refine ⟨StX.pe_callO hf.pe D.call F.raw hr pass0 ha.pa ht he hpl, fun {F G H w σ ρ k Q} R h q => hf.li R h fun v d G1 H1 R1 g1 r hk => ?_⟩
  cases d with
  | due ds =>
    obtain ⟨a, dx, xs, rfl, hs, hr⟩ := rp_due r R1.sub
    refine ⟨a, rfl, ha.li R1 hk fun vs as G2 H2 R2 g2 r2 h2 => ?_⟩
    have r3 := Rp.mono g2.gs _ _ r
    obtain ⟨a', dx', xs', e', hs', _⟩ := rp_due r3 R2.sub
    cases e'
    exact ⟨.inl ⟨dx', _, hs'⟩, F, G2, .da (.due ds) :: as, _, R2.sub, R2.fok, .cons (d := .da (.due ds)) r3 r2, h2, fun v d G3 H3 g3 s3 f3 rv hk => q v d G3 H3 (R2.grow g3 s3 f3) ((g1.trans g2).trans g3) rv hk⟩
  | _ => cases hk
/-- isinstance(e, Due) -/
theorem ew_isD (K : PySem.W.Frag) (D : DueK K X.mg) (T : Txt K X.mg) (he : EW X e te W) (hK : X.K = K := by rfl) (hg : Gl X "isinstance" := by rfl) (hgT : Gl X "Due" := by rfl)
    (hs1 : starEach (e :: [.Name "Due" p2]) X.env = (false, eval e X.env) :: starEach [.Name "Due" p2] X.env := by rfl) (hs2 : starEach ((.Name "Due" p2) :: []) X.env = (false, eval (.Name "Due" p2) X.env) :: starEach [] X.env := by rfl)
    (hpl : (backTo pos (starEach [.Name "Due" p2] X.env)).any (·.1) = false := by rfl) : EW X (.Call (.Name "isinstance" p) [e, .Name "Due" p2] [] pos) (tCB (SlX.rIsiSl K (.ref (duC K))) (tCons te (tCons (tC (.ref (duC K))) tNil))) (wIsD W) := by
  subst hK
  refine ⟨pe_callB (SlX.call_isiSl _) hg T.isinstance bb_isinstance (pa_cons he.pe (pa_cons (pe_glob hgT D.gl rfl (by decide)) pa_nil hs2) hs1) (by decide) (by decide) hs1 hpl, fun {F G H w σ ρ k Q} R h q => he.li R h fun v d G' H' R' g r hk => ?_⟩
  cases d with
  | due ds =>
    obtain ⟨a, dx, xs, rfl, hs, hr⟩ := rp_due r R'.sub
    exact ⟨a, duC X.K, dx, xs.map some, .ref (duC X.K), true, rfl, rfl, fun w hw => hw, hs, D.sc, D.isi, by unfold PySem.W.kitOne; rw [if_pos (by simp)], q _ _ G' H' R' g (.bl true) hk⟩
  | _ => cases hk
end
/-! ### tuples compared -/
def notNP : PyData → Bool
  | .none => false
  | _ => true
def cmpOk (p q : PyData) : Bool := PySem.W.alike p q && notNP p && decide (min p.depth q.depth ≤ 60)
def cmpP (f : PyData → PyData → Bool) (x y : D) : Option D := match toPy x, toPy y with
  | some p, some q => if cmpOk p q = true then some (.bl (f p q)) else none
  | _, _ => none
abbrev leP (p q : PyData) : Bool := !PySem.W.dataLt q p
abbrev rCmpP (f : PyData → PyData → Bool) : PySem.W.Frag → R2 := fun K x y H Q => ∃ p q, Dp K H x p ∧ Dp K H y q ∧ cmpOk p q = true ∧ Q (.bl (f p q)) H
theorem cmpOk_of {p q : PyData} (h : cmpOk p q = true) : PySem.W.alike p q = true ∧ p ≠ .none ∧ min p.depth q.depth ≤ 60 := by
  unfold cmpOk at h
  simp only [Bool.and_eq_true, decide_eq_true_eq] at h
  refine ⟨h.1.1, fun z => ?_, h.2⟩
  rw [z] at h
  exact absurd h.1.2 (by decide)
theorem op_ltP {X : Cx} (hu : X.A.units + 64 < cLine) : OpR X (compareOp .Lt) (rCmpP PySem.W.dataLt X.K) := by
  intro pins s σ H x y u v Q I rx ry h
  obtain ⟨p, q, h1, h2, h3, hq⟩ := h
  obtain ⟨c1, c2, c3⟩ := cmpOk_of h3
  obtain ⟨as, ra⟩ := Dp.reads I p x u h1 rx
  obtain ⟨bs, rb⟩ := Dp.reads I q y v h2 ry
  exact PySem.W.lt_data ra rb c1 c2 (by omega) ⟨.bl _, H, I, rfl, hq⟩
theorem op_leP {X : Cx} (hu : X.A.units + 64 < cLine) : OpR X (compareOp .LtE) (rCmpP leP X.K) := by
  intro pins s σ H x y u v Q I rx ry h
  obtain ⟨p, q, h1, h2, h3, hq⟩ := h
  obtain ⟨c1, c2, c3⟩ := cmpOk_of h3
  obtain ⟨as, ra⟩ := Dp.reads I p x u h1 rx
  obtain ⟨bs, rb⟩ := Dp.reads I q y v h2 ry
  exact PySem.W.le_data ra rb c1 c2 (by omega) ⟨.bl _, H, I, rfl, hq⟩
theorem lo_cmpP {K : PySem.W.Frag} (f : PyData → PyData → Bool) : LOp K (rCmpP f K) (cmpP f) := fun {G H x y dx dy d Q} s rx ry e q => by
  unfold cmpP at e
  split at e
  · rename_i p1 p2 e1 e2
    split at e
    · rename_i hc
      cases e
      exact ⟨p1, p2, toPy_dp s _ _ _ e1 rx, toPy_dp s _ _ _ e2 ry, hc, q _ G H s (Gr.refl ..) (.bl _)⟩
    · cases e
  · cases e
/-! ### instances compared by their own defs -/
def s_cmpD (g : D → D → Option D) : WF := S2 fun a b k => ∃ x y u v d, a = .da (.due x) ∧ b = .da (.due y) ∧ x[1]? = some u ∧ y[1]? = some v ∧ g u v = some d ∧ k d
def cmpD (g : D → D → Option D) : D → D → Option D := fun x y => match x, y with
  | .due xs, .due ys => (match xs[1]?, ys[1]? with
    | some u, some v => g u v
    | _, _ => none)
  | _, _ => none
theorem cmpD_some {g : D → D → Option D} {x y d : D} (h : cmpD g x y = some d) : ∃ xs ys u v, x = .due xs ∧ y = .due ys ∧ xs[1]? = some u ∧ ys[1]? = some v ∧ g u v = some d := by
  unfold cmpD at h
  split at h
  · split at h
    · rename_i e1 e2
      exact ⟨_, _, _, _, rfl, rfl, e1, e2, h⟩
    · cases h
  · cases h
theorem lo_own {K : PySem.W.Frag} (g : D → D → Option D) : LOp K (SlX.rOwn K (duC K) (spW K (s_cmpD g)) E0) (cmpD g) := fun {G H x y dx dy d Q} s rx ry e q => by
  obtain ⟨xs, ys, u, v, rfl, rfl, e1, e2, e3⟩ := cmpD_some e
  obtain ⟨a, da, vs, ea, ha, _⟩ := rp_due rx s
  obtain ⟨b, db, ws, eb, hb, _⟩ := rp_due ry s
  refine ⟨a, da, vs.map some, b, duC K, db, ws.map some, ea, eb, ha, hb, by unfold PySem.W.notFirst; simp, none, G, [.da (.due xs), .da (.due ys)], fun d' => d' = d, s, fun _ z => (nomatch z), .cons (d := .da (.due xs)) rx (.cons (d := .da (.due ys)) ry .nil), ⟨xs, ys, u, v, d, rfl, rfl, e1, e2, e3, rfl⟩, fun w d' G' H' g2 s2 _ rv hk => ?_⟩
  subst hk
  exact q w G' H' s2 g2 rv
theorem mkOkA {P : Program} {w : World} {K : PySem.W.Frag} {mg : Str → Option Value} {base : Heap} {m : Str} {ps : List Str} {k : Nat} {W : WF} (E : En K mg) (i : Nat) (d : He.DefD) (hi : fn[i]? = some d) (hx : d.at_ = (("Due" : Str), some m)) (h1 : d.dfl = []) (h2 : d.kwd = [])
    (H : ∀ fd, FunD K d.name d.qual d.params d.body d.scope [] [] (He.ma K (duC K) m) fd → FnOk P w K mg base CX0 k (He.ma K (duC K) m) fd ps (spW K W) ∧ Binds K fd ps []) : OkA P w K mg base k (He.ma K (duC K) m) ps W := by
  obtain ⟨fd, F⟩ := E.d.def_ i hi
  have e1 : d.dvs K = [] := by unfold He.DefD.dvs; rw [h1]; rfl
  have e2 : d.kws K = [] := by unfold He.DefD.kws; rw [h2]; rfl
  have e3 : He.fAd K d.at_ = He.ma K (duC K) m := by rw [hx]; rfl
  rw [e1, e2, e3] at F
  exact ⟨fd, H fd F⟩
end Wd
set_option maxRecDepth 100000
set_option maxHeartbeats 2000000
namespace Wd
open PySem PySem.Spec PyProof.Rows L2
local macro_rules | `(tactic| walk_at "wd") => `(tactic| simp only [startW, Ar.sl, List.map_cons, List.map_nil, List.replicate, List.cons_append, List.nil_append, List.length_cons, List.length_nil, Nat.reduceAdd, Nat.reduceSub, List.getElem?_cons_zero, List.getElem?_cons_succ, List.set_cons_zero, List.set_cons_succ,
  wSeq, wNext, wRet, wAsg, wIfS, wBreak, wNever, wExp, wVar, wC, wOp, wUn, wCB, wNil, wCons, wTup, wLst, wKey, intsD, Option.map_some, wIf, wB, wNot, wAnd, wOr, wAndV, wOrV, wNotV, wIsi, wChain, wCall, wcNil, wcCons, wcFeed, gwName, gwNil, gwCons, gwTup, wIdxT, wIdxL, tupK, lstK, wSlT, wSlL, wRev, wStar, spliceD, wLenO, wFrz, wOwnL, wOwnD, wApp, wExt, wPop, wDPut, wDGet, keyD, wPar, wPar3, wParOD, wParDO, blD, intK, strD, woNone, woSome, wiL, wiT, wiS, wiR1, wiR2, wiEnumT, wiZipT, wFInt, wFCells, wFSet, tyOf, kit_ii, kit_bi, kit_bb, kit_ib, kit_ss, kit_tt, kit_ts, kit_si,
  addI, subI, ltI, leI, gtI, geI, negI, isN, notN, isNon, ixD, lenD, min2D, max2D, intD, tupD, lstD, wYes, wipeW, wSlt, wIsD, wOb, wCallO, Bool.not_true, Bool.not_false, true_and, and_true, Nat.reduceLeDiff, Nat.zero_le])
/-! ### the class Due: its defs -/
noncomputable def dkey (S : Site) (t : Task) (b : Int) : D := .tup [.bl (lateS S t b).isNone, .int ((lateS S t b).getD 0), .str t.nm, .int b]
noncomputable def dueL (S : Site) (t : Task) (b : Int) : List D := [.int b, dkey S t b, optI (lateS S t b), encS S, encT t]
def leftD (c : N3) (p : Word × Int) : D := .tup [.str p.1.s, .int p.2, .int (p.2 - c.get p.1)]
def s_Due_name : WF := S1 fun a k => ∃ S t b, a = .da (.due (dueL S t b)) ∧ k (.str (Task.nm t))
theorem sc_Due_name : FnScope ["self"] ["self"] (defScope (mDue 4)) := ⟨rfl, rfl, rfl, by decide +kernel, rfl, by decide +kernel, by decide +kernel⟩
theorem ok_Due_name {P : Program} {w : World} {K : PySem.W.Frag} {mg : Str → Option Value} {base : Heap} (E : En K mg) : OkA P w K mg base 1 (prG K "name") ["self"] s_Due_name := by
  have T := E.t
  obtain ⟨fd, F⟩ := E.du.pn.fn
  refine ⟨fd, FunD.okW F sc_Due_name S1.len fun cdv A outer s H Er hr => ?_, F.bindsN fun _ _ _ _ _ _ us hl => match us, hl with | [_], _ => rfl⟩
  have nd := sc_Due_name.nd
  refine ⟨_, _, (ssw_one (sw_ret (kix K (ew_slt K E.du 4 (ew_var 0)) ew_int (fun _ _ => rfl)))), S1.el ?_⟩
  rintro _ k ⟨S, t, b, rfl, h⟩
  exact h
def s_Due_early_on : WF := S1 fun a k => ∃ S t b, OkS S ∧ OkT S t ∧ 0 ≤ b ∧ b ≤ 100000 ∧ a = .da (.due (dueL S t b)) ∧ k (optI (earlyS S t b))
theorem sc_Due_early_on : FnScope ["self"] ["self"] (defScope (mDue 6)) := ⟨rfl, rfl, rfl, by decide +kernel, rfl, by decide +kernel, by decide +kernel⟩
theorem ok_Due_early_on {P : Program} {w : World} {K : PySem.W.Frag} {mg : Str → Option Value} {base : Heap} (E : En K mg) : OkA P w K mg base 11 (prG K "early_on") ["self"] s_Due_early_on := by
  have T := E.t
  have G_task_early := ok_task_early (P := P) (w := w) (base := base) E
  obtain ⟨fd, F⟩ := E.du.pe.fn
  refine ⟨fd, FunD.okW F sc_Due_early_on S1.len fun cdv A outer s H Er hr => ?_, F.bindsN fun _ _ _ _ _ _ us hl => match us, hl with | [_], _ => rfl⟩
  have nd := sc_Due_early_on.nd
  refine ⟨_, _, (ssw_one (sw_ret (kcall K G_task_early (hr.mono (by omega)) (cw_cons (ew_slt K E.du 3 (ew_var 0)) (cw_cons (ew_slt K E.du 4 (ew_var 0)) (cw_cons (ew_slt K E.du 0 (ew_var 0)) cw_nil)))))), S1.el ?_⟩
  rintro _ k ⟨S, t, b, hS, ht, hb, hb2, rfl, h⟩
  exact ⟨S, t, b, hS, ht, hb, hb2, rfl, rfl, rfl, h⟩
def s_Due_due_on : WF := S1 fun a k => ∃ S t b, OkS S ∧ OkT S t ∧ 0 ≤ b ∧ b ≤ 100000 ∧ a = .da (.due (dueL S t b)) ∧ k (optI (dueS S t b))
theorem sc_Due_due_on : FnScope ["self"] ["self"] (defScope (mDue 7)) := ⟨rfl, rfl, rfl, by decide +kernel, rfl, by decide +kernel, by decide +kernel⟩
theorem ok_Due_due_on {P : Program} {w : World} {K : PySem.W.Frag} {mg : Str → Option Value} {base : Heap} (E : En K mg) : OkA P w K mg base 10 (prG K "due_on") ["self"] s_Due_due_on := by
  have T := E.t
  have G_task_due := ok_task_due (P := P) (w := w) (base := base) E
  obtain ⟨fd, F⟩ := E.du.pd.fn
  refine ⟨fd, FunD.okW F sc_Due_due_on S1.len fun cdv A outer s H Er hr => ?_, F.bindsN fun _ _ _ _ _ _ us hl => match us, hl with | [_], _ => rfl⟩
  have nd := sc_Due_due_on.nd
  refine ⟨_, _, (ssw_one (sw_ret (kcall K G_task_due (hr.mono (by omega)) (cw_cons (ew_slt K E.du 3 (ew_var 0)) (cw_cons (ew_slt K E.du 4 (ew_var 0)) (cw_cons (ew_slt K E.du 0 (ew_var 0)) cw_nil)))))), S1.el ?_⟩
  rintro _ k ⟨S, t, b, hS, ht, hb, hb2, rfl, h⟩
  exact ⟨S, t, b, hS, ht, hb, hb2, rfl, rfl, rfl, h⟩
def s_Due_late_on : WF := S1 fun a k => ∃ S t b, a = .da (.due (dueL S t b)) ∧ k (optI (lateS S t b))
theorem sc_Due_late_on : FnScope ["self"] ["self"] (defScope (mDue 8)) := ⟨rfl, rfl, rfl, by decide +kernel, rfl, by decide +kernel, by decide +kernel⟩
theorem ok_Due_late_on {P : Program} {w : World} {K : PySem.W.Frag} {mg : Str → Option Value} {base : Heap} (E : En K mg) : OkA P w K mg base 1 (prG K "late_on") ["self"] s_Due_late_on := by
  have T := E.t
  obtain ⟨fd, F⟩ := E.du.pl.fn
  refine ⟨fd, FunD.okW F sc_Due_late_on S1.len fun cdv A outer s H Er hr => ?_, F.bindsN fun _ _ _ _ _ _ us hl => match us, hl with | [_], _ => rfl⟩
  have nd := sc_Due_late_on.nd
  refine ⟨_, _, (ssw_one (sw_ret (ew_slt K E.du 2 (ew_var 0)))), S1.el ?_⟩
  rintro _ k ⟨S, t, b, rfl, h⟩
  exact h
def s_Due_call : WF := S2 fun a b k => ∃ S t x y, OkS S ∧ OkT S t ∧ 0 ≤ x ∧ x ≤ y ∧ y ≤ 100000 ∧ a = .da (.due (dueL S t x)) ∧ b = .da (.int y) ∧ k (.tup ((plains t.lim).map (leftD (cnt S (S.stays t.pt) x y))))
theorem sc_Due___call__ : FnScope ["self", "day", "counts", "rows", "word", "most"] ["self", "day"] (defScope (mDue 9)) := ⟨rfl, rfl, rfl, by decide +kernel, rfl, by decide +kernel, by decide +kernel⟩
theorem ok_Due___call__ {P : Program} {w : World} {K : PySem.W.Frag} {mg : Str → Option Value} {base : Heap} (E : En K mg) : OkA P w K mg base 5 (He.ma K (duC K) "__call__") ["self", "day"] s_Due_call := by
  have T := E.t
  have G_require_usable := ok_require_usable (P := P) (w := w) (base := base) E
  have G_is_number := ok_is_number (P := P) (w := w) (base := base) E
  have G_plain_counts := ok_plain_counts (P := P) (w := w) (base := base) E
  have G_stays_of := ok_stays_of (P := P) (w := w) (base := base) E
  have G_plain_limits := ok_plain_limits (P := P) (w := w) (base := base) E
  refine mkOkA E 78 d_Due___call__ rfl rfl rfl rfl fun fd F => ⟨FunD.okW F sc_Due___call__ S2.len fun cdv A outer s H Er hr => ?_, F.bindsN fun _ _ _ _ _ _ us hl => match us, hl with | [_, _], _ => rfl⟩
  have nd := sc_Due___call__.nd
  refine ⟨_, _, (ssw_cons (sw_expr (kcall K G_require_usable (hr.mono (by omega)) (cw_cons (ew_and (kcall K G_is_number (hr.mono (by omega)) (cw_cons (ew_var 1) cw_nil)) (ew_one (ew_cmp op_ge lo_ge (ew_var 1) (ew_slt K E.du 0 (ew_var 0)) (nomark _)))) (cw_cons ew_str (cw_cons (ew_un un_neg lo_neg ew_int) cw_nil))))) (ssw_cons (sw_set 2 nd (kcall K G_plain_counts (hr.mono (by omega)) (cw_cons (ew_slt K E.du 3 (ew_var 0)) (cw_cons (kcall K G_stays_of (hr.mono (by omega)) (cw_cons (ew_slt K E.du 3 (ew_var 0)) (cw_cons (kix K (ew_slt K E.du 4 (ew_var 0)) ew_int (fun _ _ => rfl)) cw_nil))) (cw_cons (ew_slt K E.du 0 (ew_var 0)) (cw_cons (ew_var 1) cw_nil)))))) (ssw_cons (sw_set 3 nd (kcall K G_plain_limits (hr.mono (by omega)) (cw_cons (kix K (ew_slt K E.du 4 (ew_var 0)) ew_int (fun _ _ => rfl)) cw_nil))) (ssw_one (sw_ret (kT K (rr := rTupF) call_tupF lc_tup T.tuple bb_tuple (aw_cons (ew_lc [("word", 4), ("most", 5)] nd (kiL K (ew_var 3)) (by show blkC ["self", "day", "counts", "rows", "word", "most"] (defScope (mDue 9)) _ _ = true; decide +kernel) (fun _ _ _ _ _ => (ktup K (n := 2) (gsc (gw_name 4 nd) (gsc (gw_name 5 nd) gsw_nil)))) (fun _ _ _ _ _ => qw_nil) (fun _ _ _ _ _ => (ew_tup (aw_cons (ew_var 4) (aw_cons (ew_var 5) (aw_cons (ew_op op_sub lo_sub (ew_var 5) (kix K (ew_var 2) (ktidx K (kktup K T.COUNT_WORDS) (ew_var 4)) (fun _ _ => rfl))) aw_nil)))))) aw_nil))))))), S2.el ?_⟩
  rintro _ _ k ⟨S, t, x, y, hS, ht, h0, hxy, hy, rfl, rfl, h⟩
  obtain ⟨hp1, hp2⟩ := task_stays hS ht
  have h0y : 0 ≤ y := by omega
  refine ⟨y, rfl, ?_⟩
  rw [decide_eq_true h0y]
  refine ⟨by rw [show (D.bl (decide (y ≥ x))) = .bl true by rw [decide_eq_true hxy]], ⟨_, rfl⟩, ⟨_, rfl⟩, ?_⟩
  refine ⟨S, t.pt, S.stays t.pt, hS, hp1, rfl, rfl, S, S.stays t.pt, x, y, hS, hp2, h0, hxy, hy, rfl, rfl, rfl, rfl, t.lim, all_imp (fun _ _ _ => trivial) 3 _ ht.lim, ht.siz, rfl, ?_⟩
  have hl := plains_len t.lim
  have hz := ht.siz
  walk_at "wd"
  refine wLc_map encPl (leftD (cnt S (S.stays t.pt) x y)) (plains t.lim) (fun K' h => h) (by omega) (fun p hp kk hk => ?_) ?_
  · obtain ⟨wd, n⟩ := p
    cases wd <;> exact ⟨rfl, show 3 ≤ 1000 by decide, hk⟩
  · exact h
def s_cmpL : WF := s_cmpD (cmpP PySem.W.dataLt)
theorem sc_Due___lt__ : FnScope ["self", "other"] ["self", "other"] (defScope (mDue 11)) := ⟨rfl, rfl, rfl, by decide +kernel, rfl, by decide +kernel, by decide +kernel⟩
theorem ok_Due___lt__ {P : Program} {w : World} {K : PySem.W.Frag} {mg : Str → Option Value} {base : Heap} (E : En K mg) : OkA P w K mg base 1 (He.ma K (duC K) "__lt__") ["self", "other"] (s_cmpD (cmpP PySem.W.dataLt)) := by
  have T := E.t
  refine mkOkA E 80 d_Due___lt__ rfl rfl rfl rfl fun fd F => ⟨FunD.okW F sc_Due___lt__ S2.len fun cdv A outer s H Er hr => ?_, F.bindsN fun _ _ _ _ _ _ us hl => match us, hl with | [_, _], _ => rfl⟩
  have nd := sc_Due___lt__.nd
  refine ⟨_, _, (ssw_cons (sw_if (tw_not (tw_val (ew_isD K E.du T (ew_var 1)))) (ssw_one sw_never) ssw_nil) (ssw_one (sw_ret (ew_cmp (op_ltP hr.units) (lo_cmpP _) (ew_slt K E.du 1 (ew_var 0)) (ew_slt K E.du 1 (ew_var 1)) (nomark _))))), S2.el ?_⟩
  rintro _ _ k ⟨x, y, u, v, d, rfl, rfl, h1, h2, h3, h⟩
  walk_at "wd"
  rw [h1, h2]
  dsimp only
  rw [h3]
  exact h
theorem sc_Due___le__ : FnScope ["self", "other"] ["self", "other"] (defScope (mDue 12)) := ⟨rfl, rfl, rfl, by decide +kernel, rfl, by decide +kernel, by decide +kernel⟩
theorem ok_Due___le__ {P : Program} {w : World} {K : PySem.W.Frag} {mg : Str → Option Value} {base : Heap} (E : En K mg) : OkA P w K mg base 1 (He.ma K (duC K) "__le__") ["self", "other"] (s_cmpD (cmpP leP)) := by
  have T := E.t
  refine mkOkA E 81 d_Due___le__ rfl rfl rfl rfl fun fd F => ⟨FunD.okW F sc_Due___le__ S2.len fun cdv A outer s H Er hr => ?_, F.bindsN fun _ _ _ _ _ _ us hl => match us, hl with | [_, _], _ => rfl⟩
  have nd := sc_Due___le__.nd
  refine ⟨_, _, (ssw_cons (sw_if (tw_not (tw_val (ew_isD K E.du T (ew_var 1)))) (ssw_one sw_never) ssw_nil) (ssw_one (sw_ret (ew_cmp (op_leP hr.units) (lo_cmpP _) (ew_slt K E.du 1 (ew_var 0)) (ew_slt K E.du 1 (ew_var 1)) (nomark _))))), S2.el ?_⟩
  rintro _ _ k ⟨x, y, u, v, d, rfl, rfl, h1, h2, h3, h⟩
  walk_at "wd"
  rw [h1, h2]
  dsimp only
  rw [h3]
  exact h
theorem sc_Due___eq__ : FnScope ["self", "other"] ["self", "other"] (defScope (mDue 10)) := ⟨rfl, rfl, rfl, by decide +kernel, rfl, by decide +kernel, by decide +kernel⟩
theorem ok_Due___eq__ {P : Program} {w : World} {K : PySem.W.Frag} {mg : Str → Option Value} {base : Heap} (E : En K mg) : OkA P w K mg base 1 (He.ma K (duC K) "__eq__") ["self", "other"] (s_cmpD eqD) := by
  have T := E.t
  refine mkOkA E 79 d_Due___eq__ rfl rfl rfl rfl fun fd F => ⟨FunD.okW F sc_Due___eq__ S2.len fun cdv A outer s H Er hr => ?_, F.bindsN fun _ _ _ _ _ _ us hl => match us, hl with | [_, _], _ => rfl⟩
  have nd := sc_Due___eq__.nd
  refine ⟨_, _, (ssw_cons (sw_if (tw_not (tw_val (ew_isD K E.du T (ew_var 1)))) (ssw_one (sw_ret ew_bl)) ssw_nil) (ssw_one (sw_ret (keq K hr.units (ew_slt K E.du 1 (ew_var 0)) (ew_slt K E.du 1 (ew_var 1)))))), S2.el ?_⟩
  rintro _ _ k ⟨x, y, u, v, d, rfl, rfl, h1, h2, h3, h⟩
  walk_at "wd"
  rw [h1, h2]
  dsimp only
  rw [h3]
  exact h
end Wd
set_option maxRecDepth 100000
set_option maxHeartbeats 2000000
namespace Wd
open PySem PySem.Spec PySem.Calls PyProof.Rows L2
/-! ### a record of ours is tracked from now on -/
theorem inv_adopt {X : Cx} {pins : List (Addr × Obj)} {σ : L2.St} {H : Hp} {s : Shared} {D : Addr} {o : Obj} {u : HO} {h' : Heap} {t' : Nat} (I : Inv X ((D, o) :: pins) σ H s) (k : ∀ b v, b ≠ D → s.heap.get? b = some v → h'.get? b = some v)
    (hD : X.s_0.heap.objs.size ≤ D) (hc : ∀ x c, X.env.cells.lookup x = some c → c ≠ D) (hp : ∀ p ∈ X.pn ++ pins, p.1 ≠ D) (hy : ∃ v, h'.get? D = some v) (new : ObjOk X.prog X.w (upd H D u) h' D u) :
    Inv X pins σ (upd H D u) { s with heap := h', toks := t' } := by
  have nD : H D = none := ClX.pin_un I
  have nL : D ≠ X.env.locals := (I.pin (D, o) (List.mem_append_right _ List.mem_cons_self)).2.2.1
  have I0 := ClX.unpin I
  have nm : ∀ b : Addr, b ∉ [D] → b ≠ D := fun b h z => h (by rw [z]; exact List.mem_singleton.mpr rfl)
  have hn : ∀ b v, H b = some v → b ≠ D := fun b v e z => by
    rw [z, nD] at e
    cases e
  refine I0.step (g' := s.gens) (d' := s.drawn) (ch := [D]) (fun b hb => ?_) (fun b v _ _ h e _ => k b v (nm b h) e) (fun b v _ _ h e _ => ⟨v.slots, k b v (nm b h) e⟩) (fun b v h _ e => by rw [upd_ne (nm b h)]; exact e) (fun b v h e => ⟨v, k b v (nm b h) e⟩)
    (fun b xs e => by rw [upd_ne (hn b _ e)]; exact e) (fun b v w e => by rw [upd_ne (hn b _ e)]; exact e) (fun b ps e => ⟨#[], by rw [upd_ne (hn b _ e), e]; simp⟩) (fun m hm => ?_) (fun b v e => ?_) I0.bare
  · rw [List.mem_singleton.mp hb]
    exact ⟨.inr hD, nL, hc, hp⟩
  · obtain ⟨ob, es, ep, ho, r⟩ := hm
    exact ⟨ob, es, ep, k _ ob (fun z => nL z.symm) ho, r⟩
  · by_cases hb : b = D
    · rw [hb, upd_same] at e
      cases e
      rw [hb]
      exact new
    · rw [upd_ne hb] at e
      refine (I0.hok b v e).stay (fun c w hcb q => k c w ?_ q) (fun c q => by rw [upd_ne (hn c _ q)]; exact q) fun c xs q => by rw [upd_ne (hn c _ q)]; exact q
      rcases hcb with z | z
      · rw [z]; exact hb
      · exact hn c _ z
/-! ### xs.sort() by questions, over the heap -/
section
variable {prog : Program} {w : World} {A : Around} {E : Value → Shared → Prop} {s : Shared} {a : Addr} {vs : List Value} {T : Value}
theorem ask_sort {n : Nat} {P : PySem.Fin → Shared → Prop} (ho : s.heap.get? a = some (seqObj "list" vs.toArray n)) (h2 : 2 ≤ vs.length) (h64 : vs.length < 64)
    (hT : ∀ h, (∀ b o, b ≠ a → s.heap.get? b = some o → h.get? b = some o) → ∀ v ∈ vs, PySem.W.Looks (model prog w) h (typeOf v) T) (hT1 : (T != Value.type "tuple") = true) (hT2 : (T == T) = true)
    (h : ∀ e1 h', (∀ b o, b ≠ a → s.heap.get? b = some o → h'.get? b = some o) → h'.get? a = some (seqObj "list" #[] e1) →
      (PySem.W.kas_sort vs.length).kasWp (PySem.W.kas_ask prog w A oneType' vs) (fun p s' => p.size = vs.length → s'.heap.get? a = some (seqObj "list" #[] e1) ∧ ∀ h'' c, (∀ b o, b ≠ a → s'.heap.get? b = some o → h''.get? b = some o) →
        h''.get? a = some (seqObj "list" (p.toList.map fun i => vs.getD i Value.none).toArray c) → P (.done (.ret .none)) { s' with heap := h'' }) { s with heap := h' }) :
    wpAny (model prog w) A (Builtin.«list.sort» ⟨[.ref a], []⟩) P E s := by
  obtain ⟨e1, ho1⟩ : ∃ e1, (s.heap.update a (Obj.mapSeq fun _ => (#[] : Array Value))).get? a = some (seqObj "list" #[] e1) := ⟨_, get?_update_seq ho fun _ => #[]⟩
  have keep : ∀ b o, b ≠ a → s.heap.get? b = some o → (((s.heap.update a (Obj.mapSeq fun _ => (#[] : Array Value))).push (seqObj "tuple" vs.toArray 0)).push (seqObj "list" #[] 0)).get? b = some o := fun b o hb q =>
    Heap.get?_push_of_some _ (Heap.get?_push_of_some _ ((Heap.get?_update_ne _ _ _ _ hb).trans q))
  have at_ : (((s.heap.update a (Obj.mapSeq fun _ => (#[] : Array Value))).push (seqObj "tuple" vs.toArray 0)).push (seqObj "list" #[] 0)).get? a = some (seqObj "list" #[] e1) := Heap.get?_push_of_some _ (Heap.get?_push_of_some _ ho1)
  have go := h e1 _ keep at_
  rw [PySem.W.kas_ask_eq] at go
  rw [list_sort_plain]
  refine wpAny_bind (listItems_at ho rfl ?_)
  refine wpAny_bind (listUpdate_at ho rfl ?_ (by rw [List.size_toArray, sizeLine_eq]; omega) (Nat.zero_le _))
  refine wpAny_bind (seqEpoch_at ho1 rfl ?_)
  refine wpAny_bind (wpAny_newTuple ?_ (by show vs.length ≤ _; rw [sizeLine_eq]; omega))
  refine wpAny_bind (wpAny_newList ?_ (Nat.zero_le _))
  refine wpAny_holding ?_
  show wpAny (model prog w) A _ P E { s with heap := ((s.heap.update a (Obj.mapSeq fun _ => (#[] : Array Value))).push (seqObj "tuple" vs.toArray 0)).push (seqObj "list" #[] 0) }
  dsimp only
  have hn2 : ¬ vs.toArray.size < 2 := by rw [List.size_toArray]; omega
  rw [if_neg hn2, if_neg hn2]
  refine wpAny_bind (PySem.W.kas_kind h2 (hT _ keep) hT1 hT2 ?_)
  have est : SortSt.mk' oneType' (vs.toArray.zip vs.toArray) #[] 7 none = PySem.W.kas_st oneType' (pairsOf vs) (List.toArray (List.range vs.length)) := by
    have e := PySem.W.kas_range (pairsOf vs)
    rw [pairsOf_size] at e
    show SortSt.mk' oneType' (pairsOf vs) #[] 7 none = SortSt.mk' oneType' ((List.toArray (List.range vs.length)).map (PySem.W.kas_item (pairsOf vs))) #[] 7 none
    rw [e]
  have run := PySem.W.kas_runs (E := E) (Q := fun _ st' s' => ∃ p : Array Nat, p.size = vs.length ∧ arrOf st' = p.map (PySem.W.kas_item (pairsOf vs)) ∧ failedOf st' = none ∧ s'.heap.get? a = some (seqObj "list" #[] e1) ∧ ∀ h'' c, (∀ b o, b ≠ a → s'.heap.get? b = some o → h''.get? b = some o) →
        h''.get? a = some (seqObj "list" (p.toList.map fun i => vs.getD i Value.none).toArray c) → P (.done (.ret .none)) { s' with heap := h'' })
    h2 h64 (fun p' st' s' a1 a2 a3 a4 => ⟨p', a1, a2, a3, a4 a1⟩) go
  rw [← est] at run
  refine wpAny_bind (wpAny_mono run ?_ fun _ _ e => e)
  rintro ⟨⟨⟩, st'⟩ s' ⟨p, hp, har, hf, na, k⟩
  dsimp only
  have hout : (arrOf st').map (·.2) = List.toArray (p.toList.map fun i => vs.getD i Value.none) := by
    apply Array.toList_inj.mp
    rw [har, Array.map_map, Array.toList_map]
    exact List.map_congr_left fun i _ => by show (PySem.W.kas_item (pairsOf vs) i).2 = _; rw [PySem.W.kas_item_eq]
  have hsz : (List.toArray (p.toList.map fun i => vs.getD i Value.none)).size = vs.length := by rw [List.size_toArray, List.length_map, Array.length_toList, hp]
  rw [hout]
  obtain ⟨c2, hc2⟩ : ∃ c2, (s'.heap.update a (Obj.mapSeq fun _ => List.toArray (p.toList.map fun i => vs.getD i Value.none))).get? a = some (seqObj "list" (List.toArray (p.toList.map fun i => vs.getD i Value.none)) c2) := ⟨_, get?_update_seq na fun _ => List.toArray (p.toList.map fun i => vs.getD i Value.none)⟩
  refine wpAny_bind (seqEpoch_at na rfl ?_)
  refine wpAny_bind (listUpdate_at na rfl ?_ (Nat.zero_le _) (Nat.le_trans (Nat.le_of_eq hsz) (by rw [sizeLine_eq]; omega)))
  rw [hf]
  simp only [bne_self_eq_false, Bool.false_eq_true, if_false]
  exact wpAny_pure (k _ c2 (fun b o hb q => (Heap.get?_update_ne _ _ _ _ hb).trans q) hc2)
end
/-! ### sorted by the items' own __lt__ -/
/-- the questions, by values -/
def kasV {α : Type} (vs : List V) (ask : V → V → Hp → (Bool → Hp → Prop) → Prop) : PySem.W.KasT α → (α → Hp → Prop) → Hp → Prop
  | .ret a, Q, H => Q a H
  | .ask i j k, Q, H => ask (vs.getD i .non) (vs.getD j .non) H fun b H' => kasV vs ask (k b) Q H'
/-- x < y by the def of the class at C -/
def ownAsk (C : Addr) (sp : Sp) : V → V → Hp → (Bool → Hp → Prop) → Prop := fun x y H q => ∃ a dx vs b dy ws, x = .ref a ∧ y = .ref b ∧ SlX.Slt H a C dx vs ∧ SlX.Slt H b C dy ws ∧ sp [x, y] H (fun z H' => ∃ c, z = .bl c ∧ q c H') E0
abbrev rSortOwn (C : Addr) (sp : Sp) : PySem.W.Frag → List V → Hp → VK → Prop := fun K xs H Q => ∃ (l : Addr) (vs : List V), xs = [.ref l] ∧ SqL K H l vs ∧ 2 ≤ vs.length ∧ vs.length < 64 ∧ (∀ v ∈ vs, ∃ a dx sl, v = .ref a ∧ SlX.Slt H a C dx sl) ∧
  kasV vs (ownAsk C sp) (PySem.W.kas_sort vs.length) (fun p H' => ∀ q, H' q = none → Q (.ref q) (upd H' q (.lst (p.toList.map fun i => vs.getD i .non)))) H
theorem vals_getD {vs : List V} {us : List Value} (r : Vals vs us) (i : Nat) : RelV (vs.getD i .non) (us.getD i .none) := by
  rw [List.getD_eq_getElem?_getD, List.getD_eq_getElem?_getD]
  cases e : vs[i]? with
  | none => rw [Vals.none_of r e]; rfl
  | some v =>
    obtain ⟨u, e2, ru⟩ := r.get e
    rw [e2]
    exact ru
section
variable {X : Cx} {pins : List (Addr × Obj)} {σ : L2.St} {C g : Addr} {n : Nat} {sp : Sp}
/-- one question answered -/
theorem ask_own {A : Around} {H : Hp} {s : Shared} {x y : V} {u v : Value} {q : Bool → Hp → Prop} {Q : Bool → Shared → Prop} (hs : PySem.W.findIn X.K (.ref C) "__lt__" = some (some (.ref g))) (hf : PySem.W.isFn X.K (.ref g) = true) (F : FnR X.prog X.w X.K X.mg X.base CX0 n g sp) (hr : Room n A) (hA : A.frames = some X.stack)
    (I : Inv X pins σ H s) (rx : RelV x u) (ry : RelV y v) (h : ownAsk C sp x y H q) (hq : ∀ b H' s', Inv X pins σ H' s' → q b H' → Q b s') : wpAny (model X.prog X.w) A (keyLt' oneType' u v) Q (fun _ _ => False) s := by
  obtain ⟨a, dx, vs, b, dy, ws, rfl, rfl, ha, hb, h⟩ := h
  cases (show u = Value.ref a from rx)
  cases (show v = Value.ref b from ry)
  obtain ⟨sl, od, _, J, _⟩ := SlX.slt_inst I ha
  obtain ⟨m, hF⟩ := I.fr
  have e0 : Env0 X.prog X.w X.K X.mg X.base A X.stack s H := ⟨hA, I.env0.mod, I.env0.bs, I.env0.bsz, I.env0.funs, I.env0.frf, I.env0.hok, I.env0.bare⟩
  refine PySem.W.kas_lt_inst hr.units0 hF I.ok.mod.kin J hs hf (wpAny_call (codeAny_mono (F A X.stack s H [.ref a, .ref b] [.ref a, .ref b] _ E0 hr e0 (.cons rfl (.cons rfl .nil)) h) fun r s' z => ?_))
  cases r with
  | error e => exact (show False from z).elim
  | ok fl =>
    cases fl with
    | ret w =>
      obtain ⟨w', H', I', rw', c, ec, qc⟩ := I.after z
      subst ec
      cases (show w = Value.bool c from rw')
      exact hq c H' s' I' qc
    | next => exact False.elim z
    | brk => exact False.elim z
    | cont => exact False.elim z
theorem kas_go {α : Type} {A : Around} {vs : List V} {us : List Value} (hs : PySem.W.findIn X.K (.ref C) "__lt__" = some (some (.ref g))) (hf : PySem.W.isFn X.K (.ref g) = true) (F : FnR X.prog X.w X.K X.mg X.base CX0 n g sp) (hr : Room n A) (hA : A.frames = some X.stack) (r : Vals vs us)
    {Qv : α → Hp → Prop} {Qs : α → Shared → Prop} (hq : ∀ a H s, Inv X pins σ H s → Qv a H → Qs a s) : ∀ (t : PySem.W.KasT α) (H : Hp) (s : Shared), Inv X pins σ H s → kasV vs (ownAsk C sp) t Qv H → t.kasWp (PySem.W.kas_ask X.prog X.w A oneType' us) Qs s
  | .ret a, H, s, I, h => hq a H s I h
  | .ask i j k, H, s, I, h => ask_own hs hf F hr hA I (vals_getD r i) (vals_getD r j) h fun b H' s' I' h' => kas_go hs hf F hr hA r hq (k b) H' s' I' h'
theorem call_sortOwn (c : SlX.SCls X.K C) (hs : PySem.W.findIn X.K (.ref C) "__lt__" = some (some (.ref g))) (hf : PySem.W.isFn X.K (.ref g) = true) (F : FnR X.prog X.w X.K X.mg X.base CX0 n g sp) (hr : Room (n + 2) X.A) : CallR X (.builtin "sorted") (rSortOwn C sp X.K) := by
  intro pins s σ H xs us Q I r h
  obtain ⟨l, vs, rfl, hsq, h2, h64, hI, hk⟩ := h
  obtain ⟨its, rv, hl, hz⟩ := I.list hsq
  rw [Vals.ref1 r]
  have hlen : its.length = vs.length := rv.length.symm
  have hr2 : Room n X.A.in1.in1 := (show Room (n + 1) X.A.in1 from Room.in1 hr).in1
  have hA : X.A.in1.in1.frames = some X.stack := I.env0.in1.in1.frames
  have nH : H (s.heap.objs.size + 1) = none := I.hok.fresh (Nat.le_succ _)
  have lt : ∀ b o, s.heap.get? b = some o → b ≠ s.heap.objs.size + 1 := fun b o e => Nat.ne_of_lt (Nat.lt_succ_of_lt (Heap.lt_size e))
  refine PySem.W.sorted_of_sort hl.isList (by rw [hlen]; exact hz) (args_sorted1 _) (fun _ => args_list_sort _) fun E' => ?_
  have old : ∀ (h : Heap), (∀ b o, b ≠ s.heap.objs.size + 1 → (PySem.W.copyHeap s.heap its).get? b = some o → h.get? b = some o) → ∀ b o, s.heap.get? b = some o → h.get? b = some o := fun h k b o e => k b o (lt b o e) (PySem.W.copyHeap_old e)
  refine ask_sort (s := { s with heap := PySem.W.copyHeap s.heap its }) (T := .ref C) (PySem.W.copyHeap_at s.heap its) (by rw [hlen]; exact h2) (by rw [hlen]; exact h64) (fun h k v hv => ?_) rfl (by simp) fun e1 h' k hD => ?_
  · obtain ⟨i, hi, e⟩ := List.mem_iff_getElem.mp hv
    have ei : its[i]? = some v := by rw [List.getElem?_eq_getElem hi, e]
    have hiv : i < vs.length := by omega
    obtain ⟨u, eu, ru⟩ := rv.get (List.getElem?_eq_getElem hiv)
    rw [ei] at eu
    cases eu
    obtain ⟨a, dx, sl, ea, ha⟩ := hI _ (List.getElem_mem hiv)
    rw [ea] at ru
    cases (show v = Value.ref a from ru)
    obtain ⟨_, _, _, J, _⟩ := SlX.slt_inst (I.kept (t' := s.toks) (old h k)) ha
    exact J.type
  · have I1 : Inv X pins σ H { s with heap := h' } := I.kept (t' := s.toks) (old h' k)
    have I2 : Inv X ((s.heap.objs.size + 1, seqObj "list" #[] e1) :: pins) σ H { s with heap := h' } := by
      refine I1.pins_of fun p hp => ?_
      rcases List.mem_cons.mp hp with e | e
      · subst e
        exact ⟨hD, nH, Nat.ne_of_gt (Nat.lt_succ_of_lt I.lt), I.nofs (Nat.le_succ _), fun v z => nomatch z⟩
      · exact I1.pin p (List.mem_append_right _ e)
    have e0 : its.length = vs.length := hlen
    rw [e0]
    refine kas_go hs hf F hr2 hA rv (fun p H' s' I' hq hps => ⟨ClX.pin_at I', fun h'' c2 k2 hD2 => ⟨rfl, ?_⟩⟩) _ H { s with heap := h' } I2 hk
    refine ⟨.ref (s.heap.objs.size + 1), _, inv_adopt (t' := s'.toks) I' k2 (Nat.le_trans I.sz (Nat.le_succ _)) (fun x cc e z => ?_) (fun p hp z => ?_) ⟨_, hD2⟩ ?_, rfl, hq _ (ClX.pin_un I')⟩
    · obtain ⟨v, o, ho, _⟩ := I.cell x cc e
      exact lt _ o ho z
    · exact lt _ _ (I.pin p hp).1 z
    · have hm : Vals (p.toList.map fun i => vs.getD i .non) (p.toList.map fun i => its.getD i .none) := by
        generalize p.toList = l
        induction l with
        | nil => exact .nil
        | cons i l ih => exact .cons (vals_getD rv i) ih
      exact ⟨by rw [List.length_map, Array.length_toList, hps]; exact hz, _, c2, hm, hD2⟩
end
end Wd
set_option maxRecDepth 100000
set_option maxHeartbeats 2000000
namespace Wd
open PySem PySem.Spec PyProof.Rows L2
/-! ### a Due is made -/
theorem slO_code {a C dx c : Addr} {vs : List (Option V)} {q : Str} : SlX.SlO a C dx vs ≠ LamX.CodeO c q := fun z => by
  unfold SlX.SlO LamX.CodeO at z
  have z := HO.ext.inj z
  let o : Obj := ⟨.none, none, .fields #[.none, .str q 0], #[]⟩
  let h : Heap := { objs := Array.replicate (c + 1) o }
  have hg : ∀ b u, h.get? b = some u → u = o := fun b u e => by
    unfold Heap.get? at e
    have e1 : h.objs[b]? = if b < c + 1 then some o else none := Array.getElem?_replicate
    rw [e1] at e
    by_cases hb : b < c + 1
    · rw [if_pos hb] at e
      exact (Option.some.inj e).symm
    · rw [if_neg hb] at e
      cases e
  have hc : h.get? c = some o := by
    unfold Heap.get?
    have e1 : h.objs[c]? = if c < c + 1 then some o else none := Array.getElem?_replicate
    rw [e1, if_pos (Nat.lt_succ_self c)]
  have h2 : ∃ (oc : Obj) (vs : Array Value) (t : Tok), h.get? c = some oc ∧ oc.data = .fields vs ∧ vs[1]? = some (.str q t) := ⟨o, _, 0, hc, rfl, rfl⟩
  have h3 : ∃ sl : Array (Option Value), h.get? a = some { PySem.W.instObj C dx with slots := sl } ∧ SlX.SlR vs sl := by rw [congrFun z h]; exact h2
  obtain ⟨sl, e, _⟩ := h3
  have e4 := congrArg Obj.data (hg _ _ e)
  cases e4
theorem nteS {H : Hp} {a C dx x : Addr} {vs : List (Option V)} (h : H a = some (SlX.SlO x C dx vs)) : NTE (H a) := nte_of h (fun _ z => by unfold SlX.SlO at z; cases z) fun _ _ => slO_code
theorem nteX {H : Hp} {a : Addr} {fs : List (Str × V)} (h : H a = some (.xd fs)) : NTE (H a) := nte_of h (fun _ z => nomatch z) fun _ _ z => by unfold LamX.CodeO at z; cases z
theorem nteO {H : Hp} {a x : Addr} (h : H a = some (.own x)) : NTE (H a) := nte_of h (fun _ z => nomatch z) fun _ _ z => by unfold LamX.CodeO at z; cases z
theorem nteI {H : Hp} {a C dx : Addr} {fs : List (Str × V)} (h : H a = some (.ins C dx fs)) : NTE (H a) := nte_of h (fun _ z => nomatch z) fun _ _ z => by unfold LamX.CodeO at z; cases z
def spInit (K : PySem.W.Frag) : Sp := fun vs H Q _ => ∃ (F : Option Addr) (G H0 : Hp) (x dx : Addr) (v1 v2 : V) (S : Site) (t : Task) (b : Int), vs = [.ref x, v1, v2, .int b] ∧ H = upd (upd H0 dx (.own x)) x (.ins (duC K) dx []) ∧ H0 x = none ∧ H0 dx = none ∧ dx ≠ x ∧ Sub G H0 ∧ (∀ f, F = some f → FeedOk K G H0 f) ∧
  Rp K G v1 (encS S) ∧ Rp K G v2 (.str t.nm) ∧ OkS S ∧ t ∈ S.ts ∧ 0 ≤ b ∧ b ≤ 100000 ∧ ∀ G' H', Gr F G H0 G' H' → Sub G' H' → (∀ f, F = some f → FeedOk K G' H' f) → Rp K G' (.ref x) (.due (dueL S t b)) → Q .non H'
abbrev N_init : List Str := ["self", "site", "name", "base", "task", "late"]
abbrev W_key : WE := wTup (wCons (wOp isN (wVar 5) (wC .non)) (wCons (wIf (wB (wOp isN (wVar 5) (wC .non))) (wC (.int 0)) (wVar 5)) (wCons (wVar 2) (wCons (wVar 3) wNil))))
abbrev sV (K : PySem.W.Frag) (i : Nat) (f : Str) : TS := SlX.sSl K (tVar 0) (tVar i) f
theorem init_reads {K : PySem.W.Frag} {mg : Str → Option Value} (D : DueK K mg) {t1 t2 : TS} {te : TE} (h1 : SLi K t1 (wAsg (wCall s_named_base (wcCons (wVar 1) (wcCons (wVar 2) (wcCons (wVar 3) wcNil)))) (gwName 4)))
    (h2 : SLi K t2 (wAsg (wCall s_task_late (wcCons (wVar 1) (wcCons (wVar 4) (wcCons (wVar 3) wcNil)))) (gwName 5)))
    (h7 : ∀ {F G H w σ ρ k Q}, Rs K F G H w σ ρ → W_key ρ k → (∀ v d G' H', Rs K F G' H' w σ ρ → Gr F G H G' H' → Rp K G' v d → k d → Q v H') → te σ H Q)
    {vs : List V} {H : Hp} {Q : VK} {Ex : XK} (h : spInit K vs H Q Ex) :
    tSeq t1 (tSeq t2 (tSeq (sV K 1 "own_site") (tSeq (sV K 4 "own_task") (tSeq (sV K 3 "own_base") (tSeq (sV K 5 "own_late") (SlX.sSl K (tVar 0) te "own_key")))))) { nx := fun _ H' => Q .non H', rt := Q } (L2.start N_init vs) H := by
  obtain ⟨F, G, H0, x, dx, v1, v2, S, t, b, rfl, eH, x0, d0, hdx, hsub, hf, r1, r2, hS, htm, hb0, hb1, hq⟩ := h
  subst eH
  have fx : ∀ f, F = some f → f ≠ x ∧ f ≠ dx := fun f e => by
    obtain ⟨c, ns, i, l, n, _, _, _, k, _⟩ := hf f e
    exact ⟨ne_of_none k x0, ne_of_none k d0⟩
  have Fx : F ≠ some x := fun z => (fx x z).1 rfl
  have Fd : F ≠ some dx := fun z => (fx dx z).2 rfl
  have gr0 : Gr F G H0 G (upd (upd H0 dx (.own x)) x (.ins (duC K) dx [])) := (Gr.newH d0).trans (Gr.newH (by rw [upd_ne (Ne.symm hdx)]; exact x0))
  have grN : Gr none G H0 G (upd (upd H0 dx (.own x)) x (.ins (duC K) dx [])) := (Gr.newH d0).trans (Gr.newH (by rw [upd_ne (Ne.symm hdx)]; exact x0))
  have Gx : G x = none := sub_none hsub x0
  have Gd : G dx = none := sub_none hsub d0
  have R0 : Rs K F G (upd (upd H0 dx (.own x)) x (.ins (duC K) dx [])) (fun _ => 0) (L2.start N_init [.ref x, v1, v2, .int b]) [.ob x, .da (encS S), .da (.str t.nm), .da (.int b), .un, .un] := by
    refine ⟨fun a o e => ?_, rfl, fun i s e => ?_, fun f e => (hf f e).grow grN⟩
    · have e0 := hsub a o e
      rw [upd_ne (ne_of_none e0 x0), upd_ne (ne_of_none e0 d0)]
      exact e0
    · match i, e with
      | 0, e => cases e; exact rfl
      | 1, e => cases e; exact ⟨v1, rfl, r1⟩
      | 2, e => cases e; exact ⟨v2, rfl, r2⟩
      | 3, e => cases e; exact ⟨.int b, rfl, .int b⟩
      | 4, e => cases e; trivial
      | 5, e => cases e; trivial
      | i + 6, e => cases e
  have never : ∀ {G1 H1 : Hp} {n : List Sl → Prop} {m : L2.St → Hp → Prop}, (∀ w G H σ ρ, RE K F G1 H1 G H w σ ρ → n ρ → m σ H) → EnR K F G1 H1 { nx := n, rt := fun _ => False } { nx := m, rt := Q } := fun h => ⟨h, fun _ _ _ _ _ _ _ _ z => z.elim, fun _ _ _ _ _ _ z => z.elim, fun _ _ _ _ _ _ z => z.elim⟩
  have RE0 : RE K F G (upd (upd H0 dx (.own x)) x (.ins (duC K) dx [])) G (upd (upd H0 dx (.own x)) x (.ins (duC K) dx [])) (fun _ => 0) (L2.start N_init [.ref x, v1, v2, .int b]) [.ob x, .da (encS S), .da (.str t.nm), .da (.int b), .un, .un] :=
    ⟨R0, Gr.refl .., fun i a h _ => by
      rcases h with ⟨ds, e⟩ | ⟨ds, e⟩
      · exact absurd rfl ((noOw_at (ρ := [.ob x, .da (encS S), .da (.str t.nm), .da (.int b), .un, .un]) rfl e).1 ds)
      · exact absurd rfl ((noOw_at (ρ := [.ob x, .da (encS S), .da (.str t.nm), .da (.int b), .un, .un]) rfl e).2 ds)⟩
  refine h1 (D := { nx := fun ρ => ρ = [.ob x, .da (encS S), .da (.str t.nm), .da (.int b), .da (encT t), .un], rt := fun _ => False }) RE0 ⟨S, t, b, hS, htm, hb0, hb1, rfl, rfl, rfl, rfl⟩ (never fun w1 G1 H1 σ1 ρ1 RE1 e1 => ?_)
  subst e1
  refine h2 (D := { nx := fun ρ => ρ = [.ob x, .da (encS S), .da (.str t.nm), .da (.int b), .da (encT t), .da (optI (lateS S t b))], rt := fun _ => False }) RE1 ⟨S, t, b, hS, (hS.tsi t htm).2, hb0, hb1, rfl, rfl, rfl, rfl⟩ (never fun w2 G2 H2 σ ρ RE2 e2 => ?_)
  subst e2
  have R := RE2.rs
  have g := RE2.gr
  have e0 : σ[0]? = some (some (.ref x)) := R.at_ 0 _ rfl
  obtain ⟨u1, e1, q1⟩ := R.da (i := 1) rfl
  obtain ⟨u3, e3, q3⟩ := R.da (i := 3) rfl
  obtain ⟨u4, e4, q4⟩ := R.da (i := 4) rfl
  obtain ⟨u5, e5, q5⟩ := R.da (i := 5) rfl
  have Hx : H2 x = some (.ins (duC K) dx []) := g.hp x _ Fx upd_same
  have Hd : H2 dx = some (.own x) := g.hp dx _ Fd (by rw [upd_ne hdx, upd_same])
  have G2x : G2 x = none := gr_out g Gx upd_same
  have G2d : G2 dx = none := gr_out g Gd (by rw [upd_ne hdx, upd_same])
  have hno : noOw [.ob x, .da (encS S), .da (.str t.nm), .da (.int b), .da (encT t), .da (optI (lateS S t b))] = true := rfl
  refine ⟨u1, e1, .ref x, e0, x, duC K, dx, _, [], 3, rfl, .inl ⟨Hx, rfl⟩, D.sc, D.sl 3 _ rfl, ?_⟩
  refine ⟨u4, e4, .ref x, e0, x, duC K, dx, _, [Option.none, Option.none, Option.none, some u1], 4, rfl, SlX.slH_slt hdx, D.sc, D.sl 4 _ rfl, ?_⟩
  rw [SlX.slH_twice hdx]
  refine ⟨u3, e3, .ref x, e0, x, duC K, dx, _, [Option.none, Option.none, Option.none, some u1, some u4], 0, rfl, SlX.slH_slt hdx, D.sc, D.sl 0 _ rfl, ?_⟩
  rw [SlX.slH_twice hdx]
  refine ⟨u5, e5, .ref x, e0, x, duC K, dx, _, [some u3, Option.none, Option.none, some u1, some u4], 2, rfl, SlX.slH_slt hdx, D.sc, D.sl 2 _ rfl, ?_⟩
  rw [SlX.slH_twice hdx]
  show SlX.sSl K (tVar 0) te "own_key" _ σ (SlX.slH H2 x (duC K) dx [some u3, Option.none, some u5, some u1, some u4])
  have ns : ∀ vs (ps : Array Value), SlX.SlO x (duC K) dx vs ≠ .tbl ps := fun vs ps z => by
    unfold SlX.SlO at z
    cases z
  have Rs4 : Rs K F G2 (SlX.slH H2 x (duC K) dx [some u3, Option.none, some u5, some u1, some u4]) w2 σ [.ob x, .da (encS S), .da (.str t.nm), .da (.int b), .da (encT t), .da (optI (lateS S t b))] :=
    (R.updN (o := .xd []) hno G2d Fd (nteO Hd)).updN hno G2x Fx (by rw [upd_ne (Ne.symm hdx)]; exact nteI Hx)
  refine h7 (k := fun d => d = dkey S t b) Rs4 ?_ fun v d G3 H3 R3 g3 r3 ed => ?_
  · unfold dkey
    cases lateS S t b with
    | none => exact ⟨show 4 ≤ 1000 by decide, rfl⟩
    | some z => exact ⟨show 4 ≤ 1000 by decide, rfl⟩
  subst ed
  have H3x : H3 x = some (SlX.SlO x (duC K) dx [some u3, Option.none, some u5, some u1, some u4]) := g3.hq x _ Fx (ns _) upd_same
  have H3d : H3 dx = some (.xd []) := g3.hp dx _ Fd (by unfold SlX.slH; rw [upd_ne hdx, upd_same])
  have G3x : G3 x = none := gr_out g3 G2x upd_same
  have G3d : G3 dx = none := gr_out (o := .xd []) g3 G2d (by unfold SlX.slH; rw [upd_ne hdx, upd_same])
  refine ⟨.ref x, e0, x, duC K, dx, _, [some u3, Option.none, some u5, some u1, some u4], 1, rfl, .inr ⟨H3x, H3d⟩, D.sc, D.sl 1 _ rfl, ?_⟩
  show Q .non (SlX.slH H3 x (duC K) dx [some u3, some v, some u5, some u1, some u4])
  have in0 : ∀ a, H0 a ≠ none → a ≠ x ∧ a ≠ dx := fun a h => ⟨fun z => h (by rw [z]; exact x0), fun z => h (by rw [z]; exact d0)⟩
  have H1_ : ∀ a, a ≠ x → a ≠ dx → upd (upd H0 dx (.own x)) x (.ins (duC K) dx []) a = H0 a := fun a h1 h2 => by rw [upd_ne h1, upd_ne h2]
  have tb : ∀ P, LamX.TabS H0 P lamQ → LamX.TabS (SlX.slH H3 x (duC K) dx [some u3, some v, some u5, some u1, some u4]) P lamQ := fun P t => by
    have t1 := g.tb P (gr0.tb P t)
    have t2 : LamX.TabS (SlX.slH H2 x (duC K) dx [some u3, Option.none, some u5, some u1, some u4]) P lamQ := tabS_upd (tabS_upd t1 (nteO Hd)) (by rw [upd_ne (Ne.symm hdx)]; exact nteI Hx)
    exact tabS_upd (tabS_upd (g3.tb P t2) (nteX H3d)) (by rw [upd_ne (Ne.symm hdx)]; exact nteS H3x)
  have s3 : Sub G3 (upd (upd G3 dx (.xd [])) x (SlX.SlO x (duC K) dx [some u3, some v, some u5, some u1, some u4])) := fun a o e => by
    rw [upd_ne (ne_of_none e G3x), upd_ne (ne_of_none e G3d)]
    exact e
  have gr : Gr F G H0 (upd (upd G3 dx (.xd [])) x (SlX.SlO x (duC K) dx [some u3, some v, some u5, some u1, some u4])) (SlX.slH H3 x (duC K) dx [some u3, some v, some u5, some u1, some u4]) := by
    refine ⟨fun a o hF n e => ?_, tb, fun a h => ?_, fun a o e => s3 a o (g3.gs a o (g.gs a o e)), fun a o e => ?_⟩
    · obtain ⟨n1, n2⟩ := in0 a (by rw [e]; exact fun z => nomatch z)
      rw [SlX.slH_ne n1 n2]
      refine g3.hq a o hF n ?_
      rw [SlX.slH_ne n1 n2]
      exact g.hq a o hF n (by rw [H1_ a n1 n2]; exact e)
    · obtain ⟨n1, n2⟩ := in0 a h
      rw [SlX.slH_ne n1 n2]
      refine g3.th a ?_
      rw [SlX.slH_ne n1 n2]
      exact g.th a (by rw [H1_ a n1 n2]; exact h)
    · by_cases n1 : a = x
      · rw [n1]; exact .inr x0
      · by_cases n2 : a = dx
        · rw [n2]; exact .inr d0
        · rw [upd_ne n1, upd_ne n2] at e
          have back : H2 a = none → H0 a = none := fun h => by
            have := none_of_th g.th h
            rw [H1_ a n1 n2] at this
            exact this
          rcases g3.fr a o e with z | z
          · rcases g.fr a o z with z | z
            · exact .inl z
            · rw [H1_ a n1 n2] at z
              exact .inr z
          · rw [SlX.slH_ne n1 n2] at z
            exact .inr (back z)
  refine hq _ _ gr (fun a o e => ?_) (fun f e => ?_) (.due (xs := [u3, v, u5, u1, u4]) upd_same (by rw [upd_ne hdx, upd_same]) rfl ?_)
  · by_cases n1 : a = x
    · rw [n1, upd_same] at e
      rw [n1]
      unfold SlX.slH
      rw [upd_same]
      exact e
    · by_cases n2 : a = dx
      · rw [n2, upd_ne hdx, upd_same] at e
        rw [n2]
        unfold SlX.slH
        rw [upd_ne hdx, upd_same]
        exact e
      · rw [upd_ne n1, upd_ne n2] at e
        rw [SlX.slH_ne n1 n2]
        exact R3.sub a o e
  · obtain ⟨n1, n2⟩ := fx f e
    obtain ⟨c, ns, i, l, n, k1, k2, k3, k4, kt⟩ := R3.fok f e
    obtain ⟨_, _, _, _, _, _, _, _, _, kt0⟩ := hf f e
    exact ⟨c, ns, i, l, n, by rw [upd_ne n1, upd_ne n2]; exact k1, s3 _ _ k2, k3, by rw [SlX.slH_ne n1 n2]; exact k4, kt0.grow gr⟩
  · have m := g3.gs.trans s3
    exact .cons (Rp.mono m _ _ q3) (.cons (Rp.mono s3 _ _ r3) (.cons (Rp.mono m _ _ q5) (.cons (Rp.mono m _ _ q1) (.cons (Rp.mono m _ _ q4) .nil))))
def asgV : Stmt → Expr
  | .Assign _ e _ => e
  | _ => .Constant .none 0 ⟨0, 0, 0, 0⟩
theorem sc_Due___init__ : FnScope N_init ["self", "site", "name", "base"] (defScope (mDue 1)) := ⟨rfl, rfl, rfl, by decide +kernel, rfl, by decide +kernel, by decide +kernel⟩
theorem ok_Due___init__ {P : Program} {w : World} {K : PySem.W.Frag} {mg : Str → Option Value} {base : Heap} (E : En K mg) : ∃ fd, FnOk P w K mg base CX0 10 (He.ma K (duC K) "__init__") fd ["self", "site", "name", "base"] (spInit K) ∧ Binds K fd ["self", "site", "name", "base"] [] := by
  have T := E.t
  have G_named_base := ok_named_base (P := P) (w := w) (base := base) E
  have G_task_late := ok_task_late (P := P) (w := w) (base := base) E
  have nd := sc_Due___init__.nd
  obtain ⟨fd, F⟩ := E.d.def_ 77 (d := d_Due___init__) rfl
  refine ⟨fd, L2.FunD.ok F sc_Due___init__ (fun vs H Q E h => ?_) (fun cdv A outer s H vs Q Er hr h => ?_), F.bindsN fun _ _ _ _ _ _ us hl => match us, hl with | [_, _, _, _], _ => rfl⟩
  · obtain ⟨_, _, _, _, _, _, _, _, _, _, rfl, _⟩ := h
    rfl
  · obtain ⟨ta, hA⟩ : ∃ ta, SW (cxOf CX0 P w K mg base N_init d_Due___init__.qual d_Due___init__.scope (He.ma K (duC K) "__init__") cdv A outer s H Er).nox (d_Due___init__.body.getD 0 (.Pass ⟨0, 0, 0, 0⟩)) ta (wAsg (wCall s_named_base (wcCons (wVar 1) (wcCons (wVar 2) (wcCons (wVar 3) wcNil)))) (gwName 4)) :=
      ⟨_, sw_set 4 nd (kcall K G_named_base (hr.mono (by omega)) (cw_cons (ew_var 1) (cw_cons (ew_var 2) (cw_cons (ew_var 3) cw_nil))))⟩
    obtain ⟨tb, hB⟩ : ∃ tb, SW (cxOf CX0 P w K mg base N_init d_Due___init__.qual d_Due___init__.scope (He.ma K (duC K) "__init__") cdv A outer s H Er).nox (d_Due___init__.body.getD 1 (.Pass ⟨0, 0, 0, 0⟩)) tb (wAsg (wCall s_task_late (wcCons (wVar 1) (wcCons (wVar 4) (wcCons (wVar 3) wcNil)))) (gwName 5)) :=
      ⟨_, sw_set 5 nd (kcall K G_task_late (hr.mono (by omega)) (cw_cons (ew_var 1) (cw_cons (ew_var 4) (cw_cons (ew_var 3) cw_nil))))⟩
    obtain ⟨tc, hC⟩ : ∃ tc, EW (cxOf CX0 P w K mg base N_init d_Due___init__.qual d_Due___init__.scope (He.ma K (duC K) "__init__") cdv A outer s H Er).nox (asgV (d_Due___init__.body.getD 6 (.Pass ⟨0, 0, 0, 0⟩))) tc W_key :=
      ⟨_, ew_tup (aw_cons (ew_cmp op_isN lo_isN (ew_var 5) ew_non (nomark _)) (aw_cons (ew_if (tw_cmp op_isN lo_isN (ew_var 5) ew_non (nomark _)) ew_int (ew_var 5)) (aw_cons (ew_var 2) (aw_cons (ew_var 3) aw_nil))))⟩
    exact ⟨_, PSs.nox (pss_cons hA.ps (pss_cons hB.ps (pss_cons (SlX.ps_sl (pe_var (i := 0) rfl (.inl rfl)) (pe_var (i := 1) rfl (.inl rfl))) (pss_cons (SlX.ps_sl (pe_var (i := 0) rfl (.inl rfl)) (pe_var (i := 4) rfl (.inl rfl))) (pss_cons (SlX.ps_sl (pe_var (i := 0) rfl (.inl rfl)) (pe_var (i := 3) rfl (.inl rfl)))
      (pss_cons (SlX.ps_sl (pe_var (i := 0) rfl (.inl rfl)) (pe_var (i := 5) rfl (.inl rfl))) (pss_one (SlX.ps_sl (pe_var (i := 0) rfl (.inl rfl)) hC.pe)))))))), init_reads E.du hA.li hB.li hC.li h⟩
end Wd
set_option maxRecDepth 100000
set_option maxHeartbeats 2000000
namespace Wd
open PySem PySem.Spec PySem.Calls PyProof.Rows L2
/-! ### the least by the items' own __lt__ -/
/-- the questions, by values: the rest of the list at l, the best so far -/
def minGo (K : PySem.W.Frag) (l : Addr) (vs : List V) (ask : V → V → Hp → (Bool → Hp → Prop) → Prop) (Q : VK) : List V → V → Hp → Prop
  | [], b, H => SqL K H l vs ∧ Q b H
  | v :: r, b, H => SqL K H l vs ∧ ask v b H fun c H' => minGo K l vs ask Q r (if c = true then v else b) H'
def IsIt (o : Obj) (l : Addr) (i : Nat) : Prop := o.cls = .type "list_iterator" ∧ o.data = .fields #[.ref l, .int i 0]
section
variable {X : Cx} {pins : List (Addr × Obj)} {σ : L2.St} {C g : Addr} {n : Nat} {sp : Sp}
/-- two own records, both may turn -/
theorem pin2 {H : Hp} {s : Shared} {S I : Addr} {o1 o2 : Obj} (J : Inv X pins σ H s) (h1 : s.heap.get? S = some o1) (h2 : s.heap.get? I = some o2) (n1 : H S = none) (n2 : H I = none) (l1 : S ≠ X.env.locals) (l2 : I ≠ X.env.locals) (f1 : S ∉ X.fs) (f2 : I ∉ X.fs) (d1 : ∀ v, o1.data ≠ .cell v) (d2 : ∀ v, o2.data ≠ .cell v) :
    Inv X ((S, o1) :: (I, o2) :: pins) σ H s := by
  refine J.pins_of fun p hp => ?_
  rcases List.mem_cons.mp hp with e | hp
  · subst e; exact ⟨h1, n1, l1, f1, d1⟩
  · rcases List.mem_cons.mp hp with e | hp
    · subst e; exact ⟨h2, n2, l2, f2, d2⟩
    · exact J.pin p (List.mem_append_right _ hp)
/-- x < y by the class's def, as richCompare asks -/
theorem cmp_own {A : Around} {H : Hp} {s : Shared} {x y : V} {u v : Value} {q : Bool → Hp → Prop} {Q : Value → Shared → Prop} {E : Value → Shared → Prop} (hs : PySem.W.findIn X.K (.ref C) "__lt__" = some (some (.ref g))) (hf : PySem.W.isFn X.K (.ref g) = true) (F : FnR X.prog X.w X.K X.mg X.base CX0 n g sp) (hr : Room n A) (hA : A.frames = some X.stack)
    (I : Inv X pins σ H s) (rx : RelV x u) (ry : RelV y v) (h : ownAsk C sp x y H q) (hq : ∀ b H' s', Inv X pins σ H' s' → q b H' → Q (.bool b) s') : wpAny (model X.prog X.w) A (richCompare .Lt u v) Q E s := by
  obtain ⟨a, dx, vs, b, dy, ws, rfl, rfl, ha, hb, h⟩ := h
  cases (show u = Value.ref a from rx)
  cases (show v = Value.ref b from ry)
  obtain ⟨sl, od, _, J, _⟩ := SlX.slt_inst I ha
  obtain ⟨sl', od', _, J', _⟩ := SlX.slt_inst I hb
  obtain ⟨m, hF⟩ := I.fr
  have e0 : Env0 X.prog X.w X.K X.mg X.base A X.stack s H := ⟨hA, I.env0.mod, I.env0.bs, I.env0.bsz, I.env0.funs, I.env0.frf, I.env0.hok, I.env0.bare⟩
  refine PySem.W.cmp_K (op := .Lt) (tb := .ref C) hr.units0 hF I.ok.mod.kin J J'.type (by unfold PySem.W.notFirst; simp) hs hf (wpAny_call (codeAny_mono (F A X.stack s H [.ref a, .ref b] [.ref a, .ref b] _ E0 hr e0 (.cons rfl (.cons rfl .nil)) h) fun r s' z => ?_))
  cases r with
  | error e => exact (show False from z).elim
  | ok fl =>
    cases fl with
    | ret w =>
      obtain ⟨w', H', I', rw', c, ec, qc⟩ := I.after z
      subst ec
      cases (show w = Value.bool c from rw')
      exact hq c H' s' I' qc
    | next => exact False.elim z
    | brk => exact False.elim z
    | cont => exact False.elim z
theorem minOwn_loop {l I S : Addr} {vs : List V} {Qv : VK} {R : Result → Shared → Prop} (hs : PySem.W.findIn X.K (.ref C) "__lt__" = some (some (.ref g))) (hf : PySem.W.isFn X.K (.ref g) = true) (F : FnR X.prog X.w X.K X.mg X.base CX0 n g sp) (hr : Room n X.A.in1) (hh : X.A.handled = none) (hA : X.A.in1.frames = some X.stack)
    (hSI : S ≠ I) (oS : X.s_0.heap.objs.size ≤ S) (oI : X.s_0.heap.objs.size ≤ I) (cS : ∀ x c, X.env.cells.lookup x = some c → c ≠ S) (cI : ∀ x c, X.env.cells.lookup x = some c → c ≠ I) (pS : ∀ p ∈ X.pn ++ pins, p.1 ≠ S) (pI : ∀ p ∈ X.pn ++ pins, p.1 ≠ I)
    (hR : ∀ b u H s, Inv X pins σ H s → RelV b u → Qv b H → R (.ok (.ret u)) s) :
    ∀ (r : List V) (j : Nat) (H : Hp) (s : Shared) (b : V) (u : Value) (c : Nat) (o : Obj), vs.drop j = r → Inv X ((S, seqObj "list" #[u, u] c) :: (I, o) :: pins) σ H s → IsIt o l j → RelV b u → minGo X.K l vs (ownAsk C sp) Qv r b H →
      codeAny (model X.prog X.w) X.A (.builtin "min.loop" ⟨[.ref I, .none, .ref S], []⟩) R s := by
  have hname : (toString "min" ++ toString ".loop" : String) = "min.loop" := by decide
  have hh1 : X.A.in1.handled = none := hh
  intro r
  induction r with
  | nil =>
    intro j H s b u c o hd J hit rb h
    obtain ⟨hl, hq⟩ := h
    have gS := J.pin (S, seqObj "list" #[u, u] c) (List.mem_append_right _ List.mem_cons_self)
    have gI := J.pin (I, o) (List.mem_append_right _ (List.mem_cons_of_mem _ List.mem_cons_self))
    have J0 : Inv X pins σ H s := J.pins_of fun p hp => J.pin p (List.mem_append_right _ (List.mem_cons_of_mem _ (List.mem_cons_of_mem _ (by exact hp))))
    obtain ⟨its, rv, pl, hz⟩ := J0.list hl
    have hlen := rv.length
    have hj : vs.length ≤ j := List.drop_eq_nil_iff.mp hd
    refine codeAny_builtin PySem.F.entry_min_loop ?_
    rw [Around.under_plainId PySem.F.plain_min_loop _]
    show wpAny _ X.A.in1 (seqItems? (.ref S) >>= _) _ _ s
    refine wpAny_bind (wpAny_seqItems gS.1 rfl ?_)
    show wpAny _ X.A.in1 (tryCatch (pyNext (.ref I)) _ >>= _) _ _ s
    refine wpAny_bind (wpAny_tryCatch (wpAny_pyNext_list_end hh1 ⟨o, gI.1, hit.1, hit.2⟩ pl.isList (by simp; omega) fun h' eb => ?_))
    have J1 : Inv X pins σ H { s with heap := h' } := J0.turned (t' := s.toks) (fun b o hb e => eb b o hb e) gI.2.1 gI.2.2.1 (.inr oI) cI pI
    have hS' : h'.get? S = some (seqObj "list" #[u, u] c) := eb S _ hSI gS.1
    show wpAny _ X.A.in1 (updateSeq S (fun _ => #[]) >>= _) _ _ _
    refine wpAny_bind ?_
    refine wpAny_updateSeq hS' rfl (wpAny_bind (wpAny_letGo (wpAny_pure ?_)))
    exact hR b u H _ (J1.turned (h' := h'.update S (Obj.mapSeq fun _ => #[])) (t' := s.toks) (fun b o hb e => (Heap.get?_update_other _ _ (Ne.symm hb)).trans e) gS.2.1 gS.2.2.1 (.inr oS) cS pS) rb hq
  | cons v r ih =>
    intro j H s b u c o hd J hit rb h
    obtain ⟨hl, h⟩ := h
    have gS := J.pin (S, seqObj "list" #[u, u] c) (List.mem_append_right _ List.mem_cons_self)
    have gI := J.pin (I, o) (List.mem_append_right _ (List.mem_cons_of_mem _ List.mem_cons_self))
    have J0 : Inv X pins σ H s := J.pins_of fun p hp => J.pin p (List.mem_append_right _ (List.mem_cons_of_mem _ (List.mem_cons_of_mem _ (by exact hp))))
    obtain ⟨its, rv, pl, hz⟩ := J0.list hl
    have hj : vs[j]? = some v := by
      have e := congrArg (fun z : List V => z[0]?) hd
      simpa using e
    have hd2 : vs.drop (j + 1) = r := by
      have e := congrArg List.tail hd
      simpa using e
    obtain ⟨z, hz1, rz⟩ := rv.get hj
    refine codeAny_builtin PySem.F.entry_min_loop ?_
    rw [Around.under_plainId PySem.F.plain_min_loop _]
    show wpAny _ X.A.in1 (seqItems? (.ref S) >>= _) _ _ s
    refine wpAny_bind (wpAny_seqItems gS.1 rfl ?_)
    show wpAny _ X.A.in1 (tryCatch (pyNext (.ref I)) _ >>= _) _ _ s
    refine wpAny_bind (wpAny_tryCatch (wpAny_pyNext_list_item ⟨o, gI.1, hit.1, hit.2⟩ pl.isList (x := z) (by simpa using hz1) fun h' hit' sb => ?_))
    have J1 : Inv X pins σ H { s with heap := h' } := J0.turned (t' := s.toks) (fun b o hb e => (sb.2 b hb).trans e) gI.2.1 gI.2.2.1 (.inr oI) cI pI
    obtain ⟨o', ho', hc', hd'⟩ := hit'
    have hS' : h'.get? S = some (seqObj "list" #[u, u] c) := (sb.2 S hSI).trans gS.1
    have J2 := pin2 J1 hS' ho' gS.2.1 gI.2.1 gS.2.2.1 gI.2.2.1 gS.2.2.2.1 gI.2.2.2.1 (fun v z => nomatch z) (fun v z => by rw [hd'] at z; cases z)
    show wpAny _ X.A.in1 (tryCatch (holding [z, z] (richCompare .Lt z u >>= _)) _ >>= _) _ _ _
    refine wpAny_bind (wpAny_tryCatch (wpAny_holding (wpAny_bind (cmp_own hs hf F hr hA J2 rz rb h fun d H3 s3 J3 hq3 => ?_))))
    refine wpAny_bind (wpAny_holding (wpAny_truthy_bool ?_))
    refine wpAny_bind (wpAny_letGo (wpAny_pure ?_))
    have kS := J3.pin (S, seqObj "list" #[u, u] c) (List.mem_append_right _ List.mem_cons_self)
    have kI := J3.pin (I, o') (List.mem_append_right _ (List.mem_cons_of_mem _ List.mem_cons_self))
    cases d with
    | true =>
      simp only [if_true]
      have J30 : Inv X pins σ H3 s3 := J3.pins_of fun p hp => J3.pin p (List.mem_append_right _ (List.mem_cons_of_mem _ (List.mem_cons_of_mem _ (by exact hp))))
      obtain ⟨c2, hc2⟩ : ∃ c2, (s3.heap.update S (Obj.mapSeq fun _ => #[z, z])).get? S = some (seqObj "list" #[z, z] c2) := ⟨_, get?_update_seq kS.1 fun _ => #[z, z]⟩
      have J4 : Inv X pins σ H3 { s3 with heap := s3.heap.update S (Obj.mapSeq fun _ => #[z, z]) } := J30.turned (t' := s3.toks) (fun b o hb e => (Heap.get?_update_other _ _ (Ne.symm hb)).trans e) kS.2.1 kS.2.2.1 (.inr oS) cS pS
      have J5 := pin2 J4 hc2 ((Heap.get?_update_other _ _ hSI).trans kI.1) kS.2.1 kI.2.1 kS.2.2.1 kI.2.2.1 kS.2.2.2.1 kI.2.2.2.1 (fun v z => nomatch z) (fun v z => by rw [hd'] at z; cases z)
      refine wpAny_bind ?_
      refine wpAny_updateSeq kS.1 rfl (wpAny_bind (wpAny_letGo ?_))
      rw [hname]
      exact wpAny_pure ⟨plainId_quiet PySem.F.plain_min_loop _, ih (j + 1) H3 _ v z c2 o' hd2 J5 ⟨hc', hd'⟩ rz hq3⟩
    | false =>
      simp only [Bool.false_eq_true, if_false]
      refine wpAny_bind (wpAny_letGo ?_)
      rw [hname]
      exact wpAny_pure ⟨plainId_quiet PySem.F.plain_min_loop _, ih (j + 1) H3 _ b u c o' hd2 J3 ⟨hc', hd'⟩ rb hq3⟩
abbrev rMinOwn (C : Addr) (sp : Sp) : PySem.W.Frag → List V → Hp → VK → Prop := fun K xs H Q => ∃ (l : Addr) (v : V) (r : List V), xs = [.ref l] ∧ SqL K H l (v :: r) ∧ minGo K l (v :: r) (ownAsk C sp) Q r v H
theorem call_minOwn (hs : PySem.W.findIn X.K (.ref C) "__lt__" = some (some (.ref g))) (hf : PySem.W.isFn X.K (.ref g) = true) (F : FnR X.prog X.w X.K X.mg X.base CX0 n g sp) (hr : Room (n + 1) X.A) (hc : X.calm = true) : CallR X (.builtin "min") (rMinOwn C sp X.K) := by
  intro pins s σ H xs us Q I r h
  obtain ⟨l, v, rest, rfl, hsq, hk⟩ := h
  obtain ⟨its, rv, hl, hz⟩ := I.list hsq
  rw [Vals.ref1 r]
  have hname : (toString "min" ++ toString ".loop" : String) = "min.loop" := by decide
  have hh : X.A.handled = none := I.ok.hd hc
  have hh1 : X.A.in1.handled = none := hh
  refine call_function_tree PySem.F.kind_min PySem.F.plain_min PySem.F.entry_min (PySem.F.args_min1 _) ?_
  show wpAny _ X.A.in1 (Builtin.Builtins.bindParams "min" ["key", "default"] 0 ⟨[], []⟩ >>= _) _ _ s
  refine wpAny_bind (wpAny_of_eq (show Builtin.Builtins.bindParams "min" ["key", "default"] 0 ⟨[], []⟩ = pure [none, none] from rfl) ?_)
  refine wpAny_bind (wpAny_pure ?_)
  refine wpAny_bind (wpAny_pyIter_list hl.isList ?_)
  refine wpAny_bind (wpAny_newObj_type ?_)
  rw [hname]
  have szI : (s.heap.push { cls := .type "list_iterator", data := .fields #[.ref l, .int 0 0] }).objs.size = s.heap.objs.size + 1 := size_push' _ _
  have gI : ((s.heap.push { cls := .type "list_iterator", data := .fields #[.ref l, .int 0 0] }).push { cls := .type "list", data := .seq ([] : List Value).toArray }).get? s.heap.objs.size = some { cls := .type "list_iterator", data := .fields #[.ref l, .int 0 0] } := Heap.get?_push_of_some _ (Heap.get?_push_size _ rfl)
  have gS : ((s.heap.push { cls := .type "list_iterator", data := .fields #[.ref l, .int 0 0] }).push { cls := .type "list", data := .seq ([] : List Value).toArray }).get? (s.heap.objs.size + 1) = some (seqObj "list" #[] 0) := by
    rw [← szI]
    exact Heap.get?_push_size _ rfl
  have J0 : Inv X pins σ H { s with heap := (s.heap.push { cls := .type "list_iterator", data := .fields #[.ref l, .int 0 0] }).push { cls := .type "list", data := .seq ([] : List Value).toArray } } := I.kept (t' := s.toks) fun b u e => Heap.get?_push_of_some _ (Heap.get?_push_of_some _ e)
  obtain ⟨z, hz1, rz⟩ := rv.get (i := 0) (x := v) rfl
  have hSI : s.heap.objs.size + 1 ≠ s.heap.objs.size := Nat.succ_ne_self _
  have nS : H (s.heap.objs.size + 1) = none := I.hok.fresh (Nat.le_succ _)
  have nI : H s.heap.objs.size = none := I.hok.fresh (Nat.le_refl _)
  have lS : s.heap.objs.size + 1 ≠ X.env.locals := Nat.ne_of_gt (Nat.lt_succ_of_lt I.lt)
  have lI : s.heap.objs.size ≠ X.env.locals := Nat.ne_of_gt I.lt
  have oS : X.s_0.heap.objs.size ≤ s.heap.objs.size + 1 := Nat.le_trans I.sz (Nat.le_succ _)
  have ltc : ∀ x c, X.env.cells.lookup x = some c → c < s.heap.objs.size := fun x c e => by
    obtain ⟨v, o, ho, _⟩ := I.cell x c e
    exact Heap.lt_size ho
  have ltp : ∀ p ∈ X.pn ++ pins, p.1 < s.heap.objs.size := fun p hp => Heap.lt_size (I.pin p hp).1
  have cS : ∀ x c, X.env.cells.lookup x = some c → c ≠ s.heap.objs.size + 1 := fun x c e => Nat.ne_of_lt (Nat.lt_succ_of_lt (ltc x c e))
  have cI : ∀ x c, X.env.cells.lookup x = some c → c ≠ s.heap.objs.size := fun x c e => Nat.ne_of_lt (ltc x c e)
  have pS : ∀ p ∈ X.pn ++ pins, p.1 ≠ s.heap.objs.size + 1 := fun p hp => Nat.ne_of_lt (Nat.lt_succ_of_lt (ltp p hp))
  have pI : ∀ p ∈ X.pn ++ pins, p.1 ≠ s.heap.objs.size := fun p hp => Nat.ne_of_lt (ltp p hp)
  refine wpAny_pure ⟨plainId_quiet PySem.F.plain_min_loop _, codeAny_builtin PySem.F.entry_min_loop ?_⟩
  rw [Around.under_plainId PySem.F.plain_min_loop _]
  rw [szI]
  show wpAny _ X.A.in1 (seqItems? (.ref (s.heap.objs.size + 1)) >>= _) _ _ _
  refine wpAny_bind (wpAny_seqItems gS rfl ?_)
  show wpAny _ X.A.in1 (tryCatch (pyNext (.ref s.heap.objs.size)) _ >>= _) _ _ _
  obtain ⟨its', rv', pl', _⟩ := J0.list hsq
  obtain ⟨z', hz', rz'⟩ := rv'.get (i := 0) (x := v) rfl
  refine wpAny_bind (wpAny_tryCatch (wpAny_pyNext_list_item ⟨_, gI, rfl, rfl⟩ pl'.isList (x := z') (by simpa using hz') fun h' hit' sb => ?_))
  have J1 : Inv X pins σ H { s with heap := h' } := J0.turned (t' := s.toks) (fun b o hb e => (sb.2 b hb).trans e) nI lI (.inr I.sz) cI pI
  obtain ⟨o', ho', hc', hd'⟩ := hit'
  have hS' : h'.get? (s.heap.objs.size + 1) = some (seqObj "list" #[] 0) := (sb.2 _ hSI).trans gS
  obtain ⟨c2, hc2⟩ : ∃ c2, (h'.update (s.heap.objs.size + 1) (Obj.mapSeq fun _ => #[z', z'])).get? (s.heap.objs.size + 1) = some (seqObj "list" #[z', z'] c2) := ⟨_, get?_update_seq hS' fun _ => #[z', z']⟩
  have J4 : Inv X pins σ H { s with heap := h'.update (s.heap.objs.size + 1) (Obj.mapSeq fun _ => #[z', z']) } := J1.turned (t' := s.toks) (fun b o hb e => (Heap.get?_update_other _ _ (Ne.symm hb)).trans e) nS lS (.inr oS) cS pS
  have J5 := pin2 J4 hc2 ((Heap.get?_update_other _ _ hSI).trans ho') nS nI lS lI (I.nofs (Nat.le_succ _)) (I.nofs (Nat.le_refl _)) (fun v z => nomatch z) (fun v z => by rw [hd'] at z; cases z)
  show wpAny _ X.A.in1 (updateSeq (s.heap.objs.size + 1) (fun _ => #[z', z']) >>= _) _ _ _
  refine wpAny_bind ?_
  refine wpAny_updateSeq hS' rfl ?_
  rw [hname]
  refine wpAny_pure ⟨plainId_quiet PySem.F.plain_min_loop _, minOwn_loop (Qv := Q) hs hf F hr.in1 hh I.env0.in1.frames hSI oS I.sz cS cI pS pI (fun b u H s J rb hq => ⟨b, H, J, rb, hq⟩) rest 1 H _ v z' c2 o' rfl J5 ⟨hc', hd'⟩ rz' hk⟩
end
end Wd
set_option maxRecDepth 100000
set_option maxHeartbeats 2000000
namespace Wd
open PySem PySem.Spec PyProof.Rows L2
/-! ### sorted and min of Due objects, over data -/
abbrev ltC : D → D → Option D := cmpD (cmpP PySem.W.dataLt)
def ltB (x y : D) : Bool := match ltC x y with
  | some (.bl b) => b
  | _ => false
def kasRun {α : Type} (lt : Nat → Nat → Bool) : PySem.W.KasT α → α
  | .ret a => a
  | .ask i j k => kasRun lt (k (lt i j))
def kasOk {α : Type} (n : Nat) : PySem.W.KasT α → Bool
  | .ret _ => true
  | .ask i j k => decide (i < n) && decide (j < n) && kasOk n (k true) && kasOk n (k false)
theorem kasOk2 : kasOk 2 (PySem.W.kas_sort 2) = true := by decide +kernel
theorem kasOk3 : kasOk 3 (PySem.W.kas_sort 3) = true := by decide +kernel
theorem kasOk_ask {α : Type} {n i j : Nat} {k : Bool → PySem.W.KasT α} (h : kasOk n (.ask i j k) = true) : i < n ∧ j < n ∧ ∀ b, kasOk n (k b) = true := by
  unfold kasOk at h
  simp only [Bool.and_eq_true, decide_eq_true_eq] at h
  exact ⟨h.1.1.1, h.1.1.2, fun b => by cases b; exact h.2; exact h.1.2⟩
theorem kasRun_congr {α : Type} {n : Nat} {lt lt' : Nat → Nat → Bool} (h : ∀ i j, i < n → j < n → lt i j = lt' i j) : ∀ t : PySem.W.KasT α, kasOk n t = true → kasRun lt t = kasRun lt' t
  | .ret _, _ => rfl
  | .ask i j k, ho => by
    obtain ⟨h1, h2, h3⟩ := kasOk_ask ho
    show kasRun lt (k (lt i j)) = kasRun lt' (k (lt' i j))
    rw [h i j h1 h2]
    exact kasRun_congr h _ (h3 _)
def SortOk (ds : List D) : Prop := (ds.length = 2 ∨ ds.length = 3) ∧ (∀ x ∈ ds, ∃ l, x = .due l) ∧ ∀ x ∈ ds, ∀ y ∈ ds, ∃ b, ltC x y = some (.bl b)
def sortDu (ds : List D) : List D := (kasRun (fun i j => ltB (ds.getD i .non) (ds.getD j .non)) (PySem.W.kas_sort ds.length)).toList.map fun i => ds.getD i .non
def minDu (x : D) : List D → D
  | [] => x
  | y :: r => minDu (if ltB y x = true then y else x) r
open Classical in
noncomputable def sortF : List D → Option D
  | [.lst ds] => if SortOk ds then some (.lst (sortDu ds)) else none
  | _ => none
open Classical in
noncomputable def minF : List D → Option D
  | [.lst (x :: r)] => if SortOk (x :: r) then some (minDu x r) else none
  | _ => none
section
variable {K : PySem.W.Frag}
abbrev spLt (K : PySem.W.Frag) : Sp := spW K (s_cmpD (cmpP PySem.W.dataLt))
/-- one question, over data -/
theorem ask_data {G H : Hp} {x y : V} {dx dy : D} {q : Bool → Hp → Prop} {b : Bool} (s : Sub G H) (rx : Rp K G x dx) (ry : Rp K G y dy) (h : ltC dx dy = some (.bl b)) (hq : ∀ G' H', Sub G' H' → Gr none G H G' H' → q b H') : ownAsk (duC K) (spLt K) x y H q := by
  obtain ⟨xs, ys, u, v, rfl, rfl, e1, e2, e3⟩ := cmpD_some h
  obtain ⟨a, da, vs, ea, ha, _⟩ := rp_due rx s
  obtain ⟨c, dc, ws, ec, hc, _⟩ := rp_due ry s
  refine ⟨a, da, vs.map some, c, dc, ws.map some, ea, ec, ha, hc, none, G, [.da (.due xs), .da (.due ys)], fun d' => d' = .bl b, s, fun _ z => (nomatch z), .cons (d := .da (.due xs)) rx (.cons (d := .da (.due ys)) ry .nil), ⟨xs, ys, u, v, _, rfl, rfl, e1, e2, e3, rfl⟩, fun w d' G' H' g2 s2 _ rv hk => ?_⟩
  subst hk
  cases rv
  exact ⟨b, rfl, hq G' H' s2 g2⟩
theorem kasV_data {α : Type} {ds : List D} {vs : List V} {Qv : α → Hp → Prop} (hc : ∀ x ∈ ds, ∀ y ∈ ds, ∃ b, ltC x y = some (.bl b)) : ∀ (t : PySem.W.KasT α), kasOk ds.length t = true → ∀ (G H : Hp), Sub G H → RpL K G vs ds →
    (∀ G' H', Sub G' H' → Gr none G H G' H' → Qv (kasRun (fun i j => ltB (ds.getD i .non) (ds.getD j .non)) t) H') → kasV vs (ownAsk (duC K) (spLt K)) t Qv H
  | .ret a, _, G, H, s, r, h => h G H s (Gr.refl ..)
  | .ask i j k, ho, G, H, s, r, h => by
    obtain ⟨h1, h2, h3⟩ := kasOk_ask ho
    have ei : ds[i]? = some ds[i] := List.getElem?_eq_getElem h1
    have ej : ds[j]? = some ds[j] := List.getElem?_eq_getElem h2
    obtain ⟨x, ex, rx⟩ := r.get ei
    obtain ⟨y, ey, ry⟩ := r.get ej
    obtain ⟨b, hb⟩ := hc _ (List.getElem_mem h1) _ (List.getElem_mem h2)
    have e1 : vs.getD i .non = x := by rw [List.getD_eq_getElem?_getD, ex]; rfl
    have e2 : vs.getD j .non = y := by rw [List.getD_eq_getElem?_getD, ey]; rfl
    have d1 : ds.getD i .non = ds[i] := by rw [List.getD_eq_getElem?_getD, ei]; rfl
    have d2 : ds.getD j .non = ds[j] := by rw [List.getD_eq_getElem?_getD, ej]; rfl
    have hl : ltB (ds.getD i .non) (ds.getD j .non) = b := by
      unfold ltB
      rw [d1, d2, hb]
    show ownAsk (duC K) (spLt K) (vs.getD i .non) (vs.getD j .non) H _
    rw [e1, e2]
    refine ask_data s rx ry hb fun G' H' s' g' => kasV_data hc (k b) (h3 b) G' H' s' (RpL.mono g'.gs _ _ r) fun G2 H2 s2 g2 => ?_
    have z := h G2 H2 s2 (g'.trans g2)
    rw [show kasRun (fun i j => ltB (ds.getD i .non) (ds.getD j .non)) (.ask i j k) = kasRun (fun i j => ltB (ds.getD i .non) (ds.getD j .non)) (k (ltB (ds.getD i .non) (ds.getD j .non))) from rfl, hl] at z
    exact z
theorem rpl_perm {G : Hp} {vs : List V} {ds : List D} (r : RpL K G vs ds) : ∀ l : List Nat, RpL K G (l.map fun i => vs.getD i .non) (l.map fun i => ds.getD i .non)
  | [] => .nil
  | i :: l => by
    refine .cons ?_ (rpl_perm r l)
    show Rp K G (vs.getD i .non) (ds.getD i .non)
    rw [List.getD_eq_getElem?_getD, List.getD_eq_getElem?_getD]
    cases e : ds[i]? with
    | none =>
      have e2 : vs[i]? = none := by
        rw [List.getElem?_eq_none_iff, r.length]
        exact List.getElem?_eq_none_iff.mp e
      rw [e2]
      exact .non
    | some d =>
      obtain ⟨v, e2, rv⟩ := r.get e
      rw [e2]
      exact rv
theorem lc_sortD : LCall K (rSortOwn (duC K) (spLt K) K) sortF := fun {G H xs ds d Q} s r e q => by
  unfold sortF at e
  split at e
  · rename_i es
    obtain ⟨v, rfl, r1⟩ := rpl1 r
    split at e
    · rename_i hs
      cases e
      obtain ⟨hn, hdu, hc⟩ := hs
      cases r1 with
      | lst h hr =>
        have hl := hr.length
        refine ⟨_, _, rfl, SqL.of (s _ _ h), by omega, by omega, fun v hv => ?_, ?_⟩
        · obtain ⟨i, hi, ei⟩ := List.mem_iff_getElem.mp hv
          obtain ⟨d, ed, rd⟩ := hr.getV (List.getElem?_eq_getElem hi)
          obtain ⟨l, rfl⟩ := hdu d (List.mem_of_getElem? ed)
          rw [ei] at rd
          obtain ⟨a, dx, xs, ea, ha, _⟩ := rp_due rd s
          exact ⟨a, dx, _, ea, ha⟩
        · have ok : kasOk es.length (PySem.W.kas_sort es.length) = true := by
            rcases hn with e | e
            · rw [e]; exact kasOk2
            · rw [e]; exact kasOk3
          rw [hl]
          refine kasV_data hc _ ok G H s hr fun G' H' s' g' p hp => ?_
          exact q _ _ _ s'.new (g'.trans (Gr.new hp s')) (.lst upd_same (RpL.mono (Gr.new (F := none) hp s').gs _ _ (rpl_perm (RpL.mono g'.gs _ _ hr) _)))
    · cases e
  · cases e
theorem minGo_data {l : Addr} {all : List D} {vs : List V} {Q : VK} (hc : ∀ x ∈ all, ∀ y ∈ all, ∃ b, ltC x y = some (.bl b)) : ∀ (rs : List D) (rv : List V) (x : D) (v : V) (G H : Hp), (∀ y ∈ rs, y ∈ all) → x ∈ all → Sub G H → G l = some (.lst vs) → RpL K G rv rs → Rp K G v x →
    (∀ w G' H', Sub G' H' → Gr none G H G' H' → Rp K G' w (minDu x rs) → Q w H') → minGo K l vs (ownAsk (duC K) (spLt K)) Q rv v H
  | [], _, x, v, G, H, _, _, s, hl, .nil, r, h => ⟨SqL.of (s _ _ hl), h v G H s (Gr.refl ..) r⟩
  | y :: rs, _, x, v, G, H, hm, hx, s, hl, .cons ry rr, r, h => by
    obtain ⟨b, hb⟩ := hc y (hm y List.mem_cons_self) x hx
    have hlt : ltB y x = b := by unfold ltB; rw [hb]
    refine ⟨SqL.of (s _ _ hl), ask_data s ry r hb fun G' H' s' g' => ?_⟩
    have hq : ∀ w G2 H2, Sub G2 H2 → Gr none G' H' G2 H2 → Rp K G2 w (minDu (if ltB y x = true then y else x) rs) → Q w H2 := fun w G2 H2 s2 g2 rw' => h w G2 H2 s2 (g'.trans g2) rw'
    rw [hlt] at hq
    cases b with
    | true => exact minGo_data hc rs _ y _ G' H' (fun z hz => hm z (List.mem_cons_of_mem _ hz)) (hm y List.mem_cons_self) s' (g'.gs _ _ hl) (RpL.mono g'.gs _ _ rr) (Rp.mono g'.gs _ _ ry) hq
    | false => exact minGo_data hc rs _ x _ G' H' (fun z hz => hm z (List.mem_cons_of_mem _ hz)) hx s' (g'.gs _ _ hl) (RpL.mono g'.gs _ _ rr) (Rp.mono g'.gs _ _ r) hq
theorem lc_minD : LCall K (rMinOwn (duC K) (spLt K) K) minF := fun {G H xs ds d Q} s r e q => by
  unfold minF at e
  split at e
  · rename_i x es
    obtain ⟨v, rfl, r1⟩ := rpl1 r
    split at e
    · rename_i hs
      cases e
      cases r1 with
      | lst h hr =>
        cases hr with
        | cons rx rr =>
          exact ⟨_, _, _, rfl, SqL.of (s _ _ h), minGo_data hs.2.2 es _ x _ G H (fun y hy => List.mem_cons_of_mem _ hy) List.mem_cons_self s h rr rx fun w G' H' s' g' rw' => q w G' H' s' g' rw'⟩
    · cases e
  · cases e
end
section
variable {X : Cx} {e : Expr} {es : List Expr} {tA : TA} {A : WA} {p pos : Pos} {k : Nat} {ps : List Str}
theorem kSortD (K : PySem.W.Frag) (D : DueK K X.mg) (T : Txt K X.mg) (F : OkA X.prog X.w K X.mg X.base k (He.ma K (duC K) "__lt__") ps (s_cmpD (cmpP PySem.W.dataLt))) (hm : L2.Meth K (duC K) "__lt__" (He.ma K (duC K) "__lt__")) (hr : Room (k + 2) X.A) (ha : AW X (e :: es) tA A) (hK : X.K = K := by rfl) (hg : Gl X "sorted" := by rfl)
    (he : starEach (e :: es) X.env = (false, eval e X.env) :: starEach es X.env := by rfl) (hpl : (backTo pos (starEach es X.env)).any (·.1) = false := by rfl) : EW X (.Call (.Name "sorted" p) (e :: es) [] pos) (tCB (rSortOwn (duC K) (spLt K) K) tA) (wCB sortF A) := by
  subst hK
  exact ew_callB (call_sortOwn D.sc hm.at_ hm.fn F.raw hr) lc_sortD hg T.sorted bb_sorted ha (by decide) (by decide) he hpl
theorem kMinD (K : PySem.W.Frag) (D : DueK K X.mg) (T : Txt K X.mg) (F : OkA X.prog X.w K X.mg X.base k (He.ma K (duC K) "__lt__") ps (s_cmpD (cmpP PySem.W.dataLt))) (hm : L2.Meth K (duC K) "__lt__" (He.ma K (duC K) "__lt__")) (hr : Room (k + 1) X.A) (ha : AW X (e :: es) tA A) (hK : X.K = K := by rfl) (hc : X.calm = true := by rfl) (hg : Gl X "min" := by rfl)
    (he : starEach (e :: es) X.env = (false, eval e X.env) :: starEach es X.env := by rfl) (hpl : (backTo pos (starEach es X.env)).any (·.1) = false := by rfl) : EW X (.Call (.Name "min" p) (e :: es) [] pos) (tCB (rMinOwn (duC K) (spLt K) K) tA) (wCB minF A) := by
  subst hK
  exact ew_callB (call_minOwn hm.at_ hm.fn F.raw hr hc) lc_minD hg T.min bb_min ha (by decide) (by decide) he hpl
end
end Wd
set_option maxRecDepth 100000
set_option maxHeartbeats 2000000
namespace Wd
open PySem PySem.Spec PyProof.Rows L2
/-! ### a lambda as the key of a sort -/
section
variable {X : Cx} {pins : List (Addr × Obj)} {σ : L2.St} {H : Hp} {s : Shared}
/-- what the making of a lambda leaves -/
structure Made (P0 : Addr) (q : Str) (H H1 : Hp) : Prop where
  ex : ∀ b o, b ≠ P0 → H b = some o → H1 b = some o
  tb : ∀ P, LamX.TabS H P q → LamX.TabS H1 P q
  th : ∀ a, H a ≠ none → H1 a ≠ none
theorem Made.refl (P0 : Addr) (q : Str) (H : Hp) : Made P0 q H H := ⟨fun _ _ _ h => h, fun _ t => t, fun _ h => h⟩
theorem lam_make3 {c P : Addr} {params : Arguments} {body : Expr} {scope : Scope} {pos : Pos} {E : Value → Shared → Prop} {Q : Value → Shared → Prop} (I : Inv X pins σ H s) (TB : LamX.TabB X.base X.mg c P) (hcode : X.env.code = .ref c)
    (hT : LamX.TabS H P (X.env.qual ++ "<lambda>")) (hdef : defaultsOf params X.env = ([], [])) (hfree : ∀ y ∈ scope.names, y.2 = .free → ∃ c, X.env.cells.lookup y.1 = some c)
    (h : ∀ (f c' : Addr) (pm ctv : Value) (H1 : Hp) (s' : Shared), Inv X pins σ H1 s' → Made P (X.env.qual ++ "<lambda>") H H1 →
      s'.heap.get? f = some (PySem.W.kla_obj "<lambda>" (X.env.qual ++ "<lambda>") params body scope (cloFrom X.env.cells scope.names []) pm c' ctv) → H1 c' = some (LamX.CodeO c' (X.env.qual ++ "<lambda>")) → Q (.ref f) s') :
    wpAny (model X.prog X.w) X.A (eval (.Lambda params body scope pos) X.env) Q E s := by
  obtain ⟨ps, hP, ht, ha⟩ := hT
  refine PySem.W.kla_eval hdef ?_
  have bP : s.heap.BuiltinsAt X.mg P := TB.bm.keeps I.bk
  have hP' : s.heap.get? P = some { cls := .none, data := .fields ps } := I.hok P _ hP
  cases hc : codeAmong pos ps.toList with
  | none =>
    refine PySem.W.kla_makeFunction (mg := X.mg) (c := c) (P := P) (ps := ps) (closure_ok hfree) I.ok.glob (I.mod.glob.keeps I.bk) hcode (TB.code.keeps I.bk) hP' ht hc TB.gP bP fun c' ctv h' tk hx hge hlt hrec htb => ?_
    obtain ⟨c2, oc, vs, t, e2, hoc, hd, hv⟩ := hrec
    cases e2
    have nC : H c' = none := I.hok.fresh hge
    have I1 := LamX.inv_table (t' := tk) (more := #[rawInt pos.line, rawInt pos.col, .ref c']) (h' := h'.push (PySem.W.kla_obj "<lambda>" (X.env.qual ++ "<lambda>") params body scope (cloFrom X.env.cells scope.names []) ((X.mg "__name__").getD .none) c' ctv)) I hP
      (fun b o hb e => Heap.get?_push_of_some _ (hx b o hb e)) (Heap.get?_push_of_some _ htb) hge ⟨oc, vs, t, Heap.get?_push_of_some _ hoc, hd, hv⟩
    have hE : LamX.ExtN H (upd (upd H P (.tbl (ps ++ #[rawInt pos.line, rawInt pos.col, .ref c']))) c' (LamX.CodeO c' (X.env.qual ++ "<lambda>"))) := fun b o e n => by
      rw [upd_ne (ne_of_none e nC), upd_ne (fun z => n ps (Option.some.inj (e.symm.trans (by rw [z]; exact hP))))]
      exact e
    have eL : (ps ++ #[rawInt pos.line, rawInt pos.col, .ref c']).toList = ps.toList ++ [rawInt pos.line, rawInt pos.col, .ref c'] := by simp
    refine h h'.objs.size c' ((X.mg "__name__").getD .none) ctv _ _ I1 ⟨fun b o hb e => by rw [upd_ne (ne_of_none e nC), upd_ne hb]; exact e, fun P2 hT2 => ?_, fun a e => ?_⟩ (Heap.get?_push_size _ rfl) upd_same
    · obtain ⟨ps', a1, a2, a3⟩ := hT2
      by_cases hb : P2 = P
      · rw [hb]
        refine ⟨_, by rw [upd_ne (ne_of_none hP nC), upd_same], by rw [eL]; exact PySem.TriplesOk_snoc _ _ _ _ ht, fun p' cv hcv => ?_⟩
        rw [eL] at hcv
        rcases LamX.among_app _ ht hcv with z | z
        · obtain ⟨c0, e1, e2⟩ := ha p' cv z
          exact ⟨c0, e1, hE _ _ e2 LamX.codeO_ne⟩
        · exact ⟨c', z, upd_same⟩
      · refine ⟨ps', by rw [upd_ne (ne_of_none a1 nC), upd_ne hb]; exact a1, a2, fun p' cv hcv => ?_⟩
        obtain ⟨c0, e1, e2⟩ := a3 p' cv hcv
        exact ⟨c0, e1, hE _ _ e2 LamX.codeO_ne⟩
    · by_cases z1 : a = c'
      · rw [z1, upd_same]; exact fun z => nomatch z
      · rw [upd_ne z1]
        by_cases z2 : a = P
        · rw [z2, upd_same]; exact fun z => nomatch z
        · rw [upd_ne z2]; exact e
  | some cv =>
    obtain ⟨c', e, hco⟩ := ha pos cv hc
    subst e
    refine PySem.W.kla_makeFunctionHit (mg := X.mg) (c := c) (P := P) (ps := ps) (closure_ok hfree) I.ok.glob (I.mod.glob.keeps I.bk) hcode (TB.code.keeps I.bk) hP' ht hc bP fun ctv h' tk hx hsz => ?_
    have I1 : Inv X pins σ H { s with heap := h'.push (PySem.W.kla_obj "<lambda>" (X.env.qual ++ "<lambda>") params body scope (cloFrom X.env.cells scope.names []) ((X.mg "__name__").getD .none) c' ctv), toks := tk } := I.kept fun b o e => Heap.get?_push_of_some _ (hx b o e)
    exact h h'.objs.size c' ((X.mg "__name__").getD .none) ctv H _ I1 (Made.refl _ _ H) (Heap.get?_push_size _ rfl) hco
end
section
variable {prog : Program} {w : World} {A : Around} {E : Value → Shared → Prop} {s : Shared} {Q : Value → Shared → Prop}
theorem eachIs_range_from {R : Value → Nat → Prop} : ∀ (vs : List Value) (k : Nat), (∀ j v, vs[j]? = some v → R v (k + j)) → PySem.W.EachIs R vs ((List.range vs.length).map fun j => k + j)
  | [], k, _ => .nil
  | v :: vs, k, h => by
    rw [List.length_cons, List.range_succ_eq_map, List.map_cons, List.map_map]
    refine .cons (h 0 v rfl) ?_
    have := eachIs_range_from vs (k + 1) fun j u e => by
      have := h (j + 1) u (by simpa using e)
      rwa [show k + 1 + j = k + (j + 1) by omega]
    rwa [show (fun j => k + 1 + j) = ((fun j => k + j) ∘ Nat.succ) from funext fun j => by show k + 1 + j = k + (j + 1); omega] at this
theorem eachIs_range {R : Value → Nat → Prop} {vs : List Value} {n : Nat} (hl : vs.length = n) (h : ∀ j v, vs[j]? = some v → R v j) : PySem.W.EachIs R vs ((List.range n).map id) := by
  subst hl
  have := eachIs_range_from (R := R) vs 0 fun j v e => by rw [Nat.zero_add]; exact h j v e
  rwa [show (fun j => 0 + j) = (id : Nat → Nat) from funext fun j => Nat.zero_add j] at this
/-- sorted(range(n), key=f) -/
theorem sorted_range_key {r f : Addr} {n : Nat} {t u v : Tok} {kz : Nat → PyData} (hh : A.handled = none) (hr : IsRange s.heap r 0 (n : Int) 1 t u v) (hn : n ≤ 1000)
    (hal : PySem.W.AllAlike ((List.range n).map kz)) (hk : PySem.W.Sortable ((List.range n).map kz)) (hu : ∀ j ∈ List.range n, A.units + 2 + (kz j).depth < cLine)
    (turn : ∀ (j : Nat) (t : Tok), j < n → ∀ (h : Heap) (tk : Nat), (∀ b o, s.heap.get? b = some o → h.get? b = some o) →
      wpAny (model prog w) A.in1.in1 (call (.ref f) [.int (j : Int) t]) (PySem.W.KeyPure (kz j) { s with heap := h, toks := tk }) (fun _ _ => False) { s with heap := h, toks := tk })
    (h : ∀ a out c (h1 h' : Heap) tk, (∀ b o, s.heap.get? b = some o → h1.get? b = some o) → h1.objs.size = a → (∀ b o, h1.get? b = some o → h'.get? b = some o) → h'.get? a = some (seqObj "list" (List.toArray out) c) →
      PySem.W.EachIs (fun (v : Value) (j : Nat) => ∃ t, v = .int (j : Int) t) out ((List.range n).mergeSort (PySem.W.dataLe false kz)) → out.length = n → Q (.ref a) { s with heap := h', toks := tk }) :
    wpAny (model prog w) A (call (.builtin "sorted") [.ref r] [(Str.ofString "key", .ref f)]) Q E s := by
  refine call_function_entry_kw kind_sorted plain_sorted entry_sorted (ksk_s1 _ _) ?_
  unfold Builtin.«sorted»
  refine wpAny_bind (m := checkCount "sorted" 1 1 _) (wpAny_pure ?_)
  refine wpAny_bind (collect_range (n := n) (show A.in1.handled = none from hh) hr (small_one (by omega) (by omega) (by omega) (by omega)) (by rw [rangeSize_one]; split <;> omega) (by omega) fun h1 tk1 acc keep items => ?_)
  have hlen : acc.toList.length = n := by rw [Array.length_toList]; exact items.1
  have hszl := sizeLine_eq
  refine wpAny_bind (wpAny_newList ?_ (by omega))
  have hp : (h1.push { cls := .type "list", data := .seq acc.toList.toArray }).get? h1.objs.size = some { cls := .type "list", data := .seq acc.toList.toArray } := Heap.get?_push_size _ rfl
  have up0 : ∀ b o, s.heap.get? b = some o → (h1.push { cls := .type "list", data := .seq acc.toList.toArray }).get? b = some o := fun b o e => Heap.get?_push_of_some _ (keep b o e)
  have ne0 : ∀ b o, s.heap.get? b = some o → b ≠ h1.objs.size := fun b o e => Nat.ne_of_lt (Heap.lt_size (keep b o e))
  refine wpAny_bind (wpAny_holding (wpAny_call_entry_kw slot_list_sort ⟨_, hp, rfl⟩ entry_list_sort ?_ (ksk_l1 _ _)))
  have hE : PySem.W.EachIs (fun (v : Value) (j : Nat) => j < n ∧ ∃ t, v = .int (j : Int) t) acc.toList (List.range n) := by
    have e : (List.range n).map id = List.range n := List.map_id _
    rw [← e]
    refine eachIs_range hlen fun j v hj => ?_
    have hjn : j < n := by
      rw [← hlen]
      exact (List.getElem?_eq_some_iff.mp hj).1
    obtain ⟨t, et⟩ := items.2 j v (by rw [← hj, Array.getElem?_toList])
    exact ⟨hjn, t, by rw [et]; congr 1; omega⟩
  refine wpAny_mono (PySem.W.keyH_tree (a := h1.objs.size) (vs := acc.toList) (kz := (List.range n).map kz) (b := false) (f := .ref f) (P := fun fin s' => fin = .done (.ret .none) ∧ Q (.ref h1.objs.size) s') (E := fun _ _ => False) hp (by rw [List.length_map, List.length_range]; exact hlen.symm) (by omega) hal hk (fun d hd => ?_) (PySem.W.keyH_turns hE fun v j hv hj h tk kp => ?_) fun h' tk out c kp hD ko => ⟨rfl, ?_⟩) (fun fin s' hf => ?_) fun _ _ z => z.elim
  · obtain ⟨j, hj, rfl⟩ := List.mem_map.mp hd
    exact hu j hj
  · obtain ⟨hjn, t, rfl⟩ := hv
    exact turn j t hjn h tk fun b o e => kp b o (ne0 b o e) (up0 b o e)
  · refine h _ out c h1 h' tk keep rfl (fun b o e => kp b o (Nat.ne_of_lt (Heap.lt_size e)) (Heap.get?_push_of_some _ e)) hD ?_ ((ko.length (by rw [List.length_map, List.length_range]; exact hlen.symm)).trans hlen)
    exact (PySem.W.keyedOut_each kz ko hE).mono fun v j hv => hv.2
  · obtain ⟨rfl, hq⟩ := hf
    exact ⟨_, rfl, wpAny_pure ⟨_, rfl, hq⟩⟩
end
/-! ### the lambda of the law -/
abbrev kyN : Str := "_law_keys"
def lamSc : Scope := { kind := .function, names := [(Str.ofString "_law_k", .local), (Str.ofString "_law_keys", .free)], isGenerator := false, isCoroutine := false, more := [] }
abbrev lamPs (p : Pos) : Arguments := { posonlyargs := [], args := [{ arg := "_law_k", annotation := none, pos := p }], vararg := none, kwonlyargs := [], kw_defaults := [], kwarg := none, defaults := [] }
abbrev lamBd (p1 p2 p3 : Pos) : Expr := .Subscript (.Name "_law_keys" p1) (.Name "_law_k" p2) p3
theorem lam_bind (p q1 q2 q3 : Pos) (q : Str) (cl : List (Str × Addr)) (pm cv ctv : Value) (v : Value) : bindArgs (PySem.W.kla_fn "<lambda>" q (lamPs p) (lamBd q1 q2 q3) lamSc cl pm cv ctv) ⟨[v], []⟩ = pure [(Str.ofString "_law_k", v)] := by rfl
/-- a flat tuple -/
inductive At : V → PyData → Prop
  | int (i : Int) : At (.int i) (.int i)
  | str (x : Str) : At (.str x) (.str x)
inductive AtL : List V → List PyData → Prop
  | nil : AtL [] []
  | cons {v : V} {vs : List V} {d : PyData} {ds : List PyData} : At v d → AtL vs ds → AtL (v :: vs) (d :: ds)
def FlatT (K : PySem.W.Frag) (H : Hp) (v : V) (d : PyData) : Prop := ∃ a xs ds, v = .ref a ∧ d = .tuple ds ∧ SqT K H a xs ∧ AtL xs ds
theorem At.reads {h : Heap} {v : V} {d : PyData} {u : Value} (a : At v d) (r : RelV v u) : Reads h u d [] := by
  cases a with
  | int i => obtain ⟨t, rfl⟩ := r; exact .int i t
  | str x => obtain ⟨t, rfl⟩ := r; exact .str x t
theorem AtL.reads {h : Heap} : ∀ {vs : List V} {ds : List PyData} {us : List Value}, AtL vs ds → Vals vs us → ReadsAll h us ds []
  | _, _, _, .nil, .nil => .nil
  | _, _, _, .cons a t, .cons r rs => ReadsAll.cons (as := []) (bs := []) (a.reads r) (t.reads rs)
section
variable {X : Cx} {pins : List (Addr × Obj)} {σ : L2.St} {H : Hp} {s : Shared}
theorem FlatT.reads {v : V} {d : PyData} {u : Value} (I : Inv X pins σ H s) (h : FlatT X.K H v d) (r : RelV v u) : Reads s.heap u d [] := by
  obtain ⟨a, xs, ds, rfl, rfl, hs, ha⟩ := h
  cases r
  obtain ⟨its, rv, ⟨o, ho, hc, n, hd⟩, _⟩ := I.tuple hs
  exact Reads.tuple ho hc hd (ha.reads rv)
theorem lamSc_nc : ∀ y ∈ lamSc.names, y.2 ≠ .cell := by decide +kernel
/-- one turn of the key -/
theorem key_turn {A : Around} {f c' l : Addr} {pm ctv : Value} {i j : Nat} {p q1 q2 q3 : Pos} {xs : List V} {v : V} {kz : PyData} (I : Inv X pins σ H s) (hdp : A.depth < recursionLimit)
    (hf : s.heap.get? f = some (PySem.W.kla_obj "<lambda>" (X.env.qual ++ "<lambda>") (lamPs p) (lamBd q1 q2 q3) lamSc (cloFrom X.env.cells lamSc.names []) pm c' ctv)) (hco : H c' = some (LamX.CodeO c' (X.env.qual ++ "<lambda>")))
    (hN : X.N[i]? = some kyN) (hcell : X.env.scope.names.lookup kyN = some .cell) (hσ : σ[i]? = some (some (.ref l))) (hl : SqL X.K H l xs) (hj : xs[j]? = some v) (hd : FlatT X.K H v kz) (t : Tok) {h : Heap} {tk : Nat} (keep : ∀ b o, s.heap.get? b = some o → h.get? b = some o) :
    wpAny (model X.prog X.w) A (call (.ref f) [.int (j : Int) t]) (PySem.W.KeyPure kz { s with heap := h, toks := tk }) (fun _ _ => False) { s with heap := h, toks := tk } := by
  have I' : Inv X pins σ H { s with heap := h, toks := tk } := I.kept keep
  obtain ⟨⟨oc, vs, tq, hoc, hdc, hvc⟩, _, _⟩ := I'.hok c' _ hco
  refine wpAny_call (PySem.W.kla_callFunE hdp (keep _ _ hf) rfl rfl rfl rfl ⟨c', oc, vs, tq, rfl, hoc, hdc, hvc⟩ ?_)
  rw [lam_bind]
  refine wpAny_pure (wpAny_newFunctionEnv lamSc_nc (fun y hy => ?_) (fun h₁ hns hsb => ⟨I'.nolimit.fresh _ hsb, ?_⟩) rfl)
  · rw [List.mem_singleton.mp hy]; rfl
  have kp : ∀ b o, h.get? b = some o → h₁.get? b = some o := fun b o e => hsb.extBut b o (Nat.ne_of_lt (Heap.lt_size e)) (Heap.get?_push_of_some _ e)
  obtain ⟨m, hn, hlk⟩ := I'.loc
  obtain ⟨u, ru, q⟩ := hlk i kyN (.ref l) hN hσ (.inr (.inl hcell))
  cases (show u = Value.ref l from ru)
  have hc : ∃ c, X.env.cells.lookup kyN = some c ∧ h.IsCell c (some (.ref l)) := by
    rcases q with ⟨k, _⟩ | ⟨_, c, e, z⟩
    · rw [show X.env.scope.names.lookup kyN = _ from k] at hcell; cases hcell
    · exact ⟨c, e, z⟩
  obtain ⟨c, hc1, oc2, hc2, hc3⟩ := hc
  obtain ⟨its, rv, pl, hz⟩ := I'.list hl
  obtain ⟨w2, ew, rw2⟩ := rv.get hj
  have hlen := rv.length
  have hjl : j < its.length := (List.getElem?_eq_some_iff.mp ew).1
  have hl63 := line63
  show codeAny _ _ (.expr (lamBd q1 q2 q3) (LamX.lamEnv X lamSc h.objs.size f c')) _ _
  refine PySem.W.kla_codeExpr (wpAny_Subscript_Name (T := "list") slot_list_getitem.lookup (wpAny_Name (wpAny_loadName_free (c := c) rfl rfl ?_ ⟨oc2, kp _ _ hc2, hc3⟩ (wpAny_Name (wpAny_loadName_local rfl rfl hns rfl ?_)))))
  · show (cloFrom X.env.cells lamSc.names []).lookup kyN = some c
    have e : cloFrom X.env.cells lamSc.names [] = [(Str.ofString "_law_keys", (X.env.cells.lookup kyN).getD 0)] := rfl
    rw [e, hc1]
    rfl
  · have pl1 : h₁.IsList l its.toArray := by
      obtain ⟨o, h1, h2⟩ := pl.isList
      exact ⟨o, kp _ _ h1, h2⟩
    refine ⟨pl1.typeIs, wpAny_getItem_list pl1 (by omega) (by omega) (x := w2) (by simpa using ew) ?_⟩
    exact ⟨h₁, _, rfl, kp, PyProof.Rows.Reads.keeps kp (hd.reads I' rw2)⟩
def tSortKey (K : PySem.W.Frag) (P : Addr) (q : Str) (i : Nat) (ta : TE) : TE := fun σ H Q => ta σ H fun x H1 => ∃ n : Nat, x = .int (n : Int) ∧ n ≤ 1000 ∧ LamX.TabS H1 P q ∧ ∀ H2, Made P q H1 H2 → ∃ (l : Addr) (xs : List V) (kz : Nat → PyData),
  σ[i]? = some (some (.ref l)) ∧ SqL K H2 l xs ∧ (∀ j, j < n → ∃ v, xs[j]? = some v ∧ FlatT K H2 v (kz j)) ∧ PySem.W.AllAlike ((List.range n).map kz) ∧ PySem.W.Sortable ((List.range n).map kz) ∧ (∀ j ∈ List.range n, (kz j).depth ≤ 100) ∧
  ∀ p, H2 p = none → Q (.ref p) (upd H2 p (.lst (((List.range n).mergeSort (PySem.W.dataLe false kz)).map fun (j : Nat) => V.int (j : Int))))
theorem vals_each : ∀ {vs : List Value} {js : List Nat}, PySem.W.EachIs (fun (v : Value) (j : Nat) => ∃ t, v = .int (j : Int) t) vs js → Vals (js.map fun (j : Nat) => V.int (j : Int)) vs
  | _, _, .nil => .nil
  | _, _, .cons h t => .cons h (vals_each t)
theorem lam_has (hcell : X.env.scope.names.lookup kyN = some .cell) (ok : X.Ok) : ∀ y ∈ lamSc.names, y.2 = .free → ∃ c, X.env.cells.lookup y.1 = some c := by
  intro y hy e
  rcases List.mem_cons.mp hy with z | z
  · subst z; cases e
  · rw [List.mem_singleton.mp z]
    exact ok.has _ (.inl hcell)
theorem pe_sortKey {c P : Addr} {k i : Nat} {a : Expr} {ta : TE} {p p2 p3 pl pa q1 q2 q3 kpos pos : Pos} (hc : X.calm = true) (hg : Gl X "sorted") (hm : X.mg "sorted" = none) (hgr : Gl X "range") (hmr : X.mg "range" = none) (ha : PE X a ta)
    (TB : LamX.TabB X.base X.mg c P) (hcode : X.env.code = .ref c) (hN : X.N[i]? = some kyN) (hcell : X.env.scope.names.lookup kyN = some .cell) (hr : Room (k + 1) X.A)
    (na : starEach [a] X.env = (false, eval a X.env) :: starEach [] X.env := by rfl) :
    PE X (.Call (.Name "sorted" p) [.Call (.Name "range" p2) [a] [] p3] [⟨some "key", .Lambda (lamPs pa) (lamBd q1 q2 q3) lamSc pl, kpos⟩] pos) (tSortKey X.K P (X.env.qual ++ "<lambda>") i ta) := by
  refine ⟨fun pins s σ H Q I h => ?_⟩
  refine wpAny_Call_Name_kw (ld_blt I hg hm bb_sorted ?_)
  refine PyProof.Rows.callWith_kw (args_cons (wpAny_mono (Q := fun x s1 => ∃ (r : Addr) (n : Nat) (t u v : Tok) (H1 : Hp), x = .ref r ∧ Inv X ((r, { cls := .type "range", dict := none, data := .fields #[.int 0 t, .int (n : Int) u, .int 1 v], slots := #[] }) :: pins) σ H1 s1 ∧
      n ≤ 1000 ∧ LamX.TabS H1 P (X.env.qual ++ "<lambda>") ∧ ∀ H2, Made P (X.env.qual ++ "<lambda>") H1 H2 → ∃ (l : Addr) (xs : List V) (kz : Nat → PyData),
        σ[i]? = some (some (.ref l)) ∧ SqL X.K H2 l xs ∧ (∀ j, j < n → ∃ v, xs[j]? = some v ∧ FlatT X.K H2 v (kz j)) ∧ PySem.W.AllAlike ((List.range n).map kz) ∧ PySem.W.Sortable ((List.range n).map kz) ∧ (∀ j ∈ List.range n, (kz j).depth ≤ 100) ∧
        ∀ p, H2 p = none → Q (.ref p) (upd H2 p (.lst (((List.range n).mergeSort (PySem.W.dataLe false kz)).map fun (j : Nat) => V.int (j : Int))))) ?_ (fun x s1 z => ?_) fun _ _ z => z) (by rfl)) (by rfl) (by rfl) (by rfl) (by rfl)
  · refine Call_ (ld_blt I hgr hmr boot_range (PyProof.Rows.callWith_type1 (one_arg ha I h (fun v s2 x H2 I2 r q => ?_) na) na))
    obtain ⟨n, rfl, q1, q2, q3⟩ := q
    obtain ⟨t, rfl⟩ := r
    exact call_range_1 ⟨_, n, _, _, _, H2, rfl, ClX.pin_new (t' := _) I2 (fun b u e => Heap.get?_push_of_some _ e) (Nat.le_refl _) (IsRange.new _ _ _ _ _ _ _) (fun v z => nomatch z), q1, q2, q3⟩
  · obtain ⟨r, n, t, u, v, H1, rfl, I1, hn, hT, hq⟩ := z
    refine args_nil ?_
    show wpAny _ _ (evalAll ((do let v ← eval (.Lambda (lamPs pa) (lamBd q1 q2 q3) lamSc pl) X.env; standAt pos; pure v) :: [])) _ _ _
    refine wpAny_evalAll_cons (wpAny_bind (lam_make3 I1 TB hcode hT (by rfl) (lam_has hcell I1.ok) fun f c' pm ctv H2 s2 I2 M hf hco => wpAny_bind (wpAny_standAt (wpAny_pure (wpAny_evalAll_nil ?_)))))
    obtain ⟨l, xs, kz, k1, k2, k3, k4, k5, k6, k7⟩ := hq H2 M
    have hr1 := ClX.pin_at I2
    have I3 := ClX.unpin I2
    have hdp : X.A.in1.in1.depth < recursionLimit := by have := hr.dp; show X.A.depth < _; omega
    show wpAny _ _ (call (.builtin "sorted") [.ref r] [(Str.ofString "key", .ref f)]) _ _ _
    refine sorted_range_key (n := n) (kz := kz) (I3.ok.hd hc) hr1 hn k4 k5 (fun j hj => ?_) (fun j t hj h tk kp => ?_) fun a out cc h1 h' tk kp1 ea kp2 ho hE hlo => ?_
    · have h1 := k6 j hj
      have h2 := hr.un
      omega
    · obtain ⟨v, hv, hd⟩ := k3 j hj
      exact key_turn I3 hdp hf hco hN hcell k1 k2 hv hd t kp
    · have I4 : Inv X pins σ H2 { s2 with heap := h1 } := I3.kept (t' := s2.toks) kp1
      have I5 : Inv X pins σ (upd H2 a (.lst (((List.range n).mergeSort (PySem.W.dataLe false kz)).map fun (j : Nat) => V.int (j : Int)))) { s2 with heap := h', toks := tk } := I4.laid (t' := tk) kp2 (by rw [← ea]; exact Nat.le_refl _) (show ObjOk X.prog X.w _ _ _ (.lst _) from ⟨?_, out, cc, vals_each hE, ho⟩)
      · refine ⟨.ref a, _, I5, rfl, k7 a ?_⟩
        exact I4.hok.fresh (by rw [← ea]; exact Nat.le_refl _)
      · have e := hE.length
        have hz := sizeLine_eq
        rw [List.length_map]
        omega
end
/-! ### over data -/
def fkA : D → Option PyData
  | .int i => some (.int i)
  | .str x => some (.str x)
  | _ => none
def fkL : List D → Option (List PyData)
  | [] => some []
  | d :: ds => match fkA d, fkL ds with
    | some p, some ps => some (p :: ps)
    | _, _ => none
def fkD : D → Option PyData
  | .tup ds => (fkL ds).map .tuple
  | _ => none
section
variable {K : PySem.W.Frag}
theorem fkA_at {G : Hp} {v : V} : ∀ {d : D} {p : PyData}, Rp K G v d → fkA d = some p → At v p
  | .int i, _, .int _, e => by cases e; exact .int i
  | .str x, _, .str _, e => by cases e; exact .str x
  | .non, _, _, e => by cases e
  | .bl _, _, _, e => by cases e
  | .tup _, _, _, e => by cases e
  | .wtp _, _, _, e => by cases e
  | .key _, _, _, e => by cases e
  | .lst _, _, _, e => by cases e
  | .dic _, _, _, e => by cases e
  | .due _, _, _, e => by cases e
theorem fkL_at {G : Hp} : ∀ {ds : List D} {vs : List V} {ps : List PyData}, RpL K G vs ds → fkL ds = some ps → AtL vs ps
  | [], _, _, .nil, e => by cases e; exact .nil
  | d :: ds, _, _, .cons r rs, e => by
    unfold fkL at e
    split at e
    · rename_i p ps e1 e2
      cases e
      exact .cons (fkA_at r e1) (fkL_at rs e2)
    · cases e
theorem fkD_t {G H : Hp} {v : V} {d : D} {p : PyData} (r : Rp K G v d) (e : fkD d = some p) (s : Sub G H) : FlatT K H v p := by
  cases d with
  | tup ds =>
    cases r with
    | tup h hr =>
      have e : (fkL ds).map PyData.tuple = some p := e
      cases e2 : fkL ds with
      | none => rw [e2] at e; cases e
      | some ps =>
        rw [e2] at e
        cases e
        exact ⟨_, _, ps, rfl, rfl, (s.tupG h).sq, fkL_at hr e2⟩
  | _ => cases e
theorem rpl_ns {G : Hp} : ∀ js : List Nat, RpL K G (js.map fun (j : Nat) => V.int (j : Int)) (js.map fun (j : Nat) => D.int (j : Int))
  | [] => .nil
  | _ :: js => .cons (.int _) (rpl_ns js)
end
def wSortKey (i : Nat) (Wa : WE) : WE := fun ρ k => ρ[0]? = some .fd ∧ Wa ρ fun d => ∃ (m : Nat) (ks : List D) (kz : Nat → PyData), d = .int (m : Int) ∧ m ≤ 1000 ∧ ρ[i]? = some (.da (.lst ks)) ∧ (∀ j, j < m → ∃ d, ks[j]? = some d ∧ fkD d = some (kz j)) ∧
  PySem.W.AllAlike ((List.range m).map kz) ∧ PySem.W.Sortable ((List.range m).map kz) ∧ (∀ j ∈ List.range m, (kz j).depth ≤ 100) ∧ k (.lst (((List.range m).mergeSort (PySem.W.dataLe false kz)).map fun (j : Nat) => D.int (j : Int)))
theorem ew_sortKey {X : Cx} {c : Addr} {k i : Nat} {a : Expr} {ta : TE} {Wa : WE} {p p2 p3 pl pa q1 q2 q3 kpos pos : Pos} (K : PySem.W.Frag) (T : Txt K X.mg) (ha : EW X a ta Wa)
    (TB : LamX.TabB X.base X.mg c (lamP K)) (hcode : X.env.code = .ref c) (hr : Room (k + 1) X.A) (hN : X.N[i]? = some kyN := by rfl) (hK : X.K = K := by rfl) (hq : X.env.qual ++ "<lambda>" = lamQ := by rfl) (hc : X.calm = true := by rfl) (hg : Gl X "sorted" := by rfl) (hgr : Gl X "range" := by rfl) (hcell : X.env.scope.names.lookup kyN = some .cell := by rfl)
    (na : starEach [a] X.env = (false, eval a X.env) :: starEach [] X.env := by rfl) :
    EW X (.Call (.Name "sorted" p) [.Call (.Name "range" p2) [a] [] p3] [⟨some "key", .Lambda (lamPs pa) (lamBd q1 q2 q3) lamSc pl, kpos⟩] pos) (tSortKey K (lamP K) lamQ i ta) (wSortKey i Wa) := by
  subst hK
  refine ⟨by rw [← hq]; exact pe_sortKey hc hg T.sorted hgr T.range ha.pe TB hcode hN hcell hr na, fun {F G H w σ ρ k Q} R h q => ?_⟩
  obtain ⟨h0, h⟩ := h
  obtain ⟨f, hF, _⟩ := R.at_ 0 _ h0
  refine ha.li R h fun v d G1 H1 R1 g1 r hk => ?_
  obtain ⟨m, ks, kz, rfl, hm, hi, hf, k4, k5, k6, hk⟩ := hk
  cases r
  obtain ⟨_, _, _, _, _, _, _, _, _, ht⟩ := R1.fok f hF
  refine ⟨m, rfl, hm, ht.1, fun H2 M => ?_⟩
  obtain ⟨P0, hP0, _, _⟩ := id ht.1
  have s2 : Sub G1 H2 := fun a o e => M.ex a o (fun z => by rw [z, ht.2] at e; cases e) (R1.sub a o e)
  have g2 : Gr none G1 H1 G1 H2 := ⟨fun a o _ n e => M.ex a o (fun z => n P0 (by rw [z, hP0] at e; exact (Option.some.inj e).symm)) e, M.tb, M.th, Sub.refl _, fun _ _ h => .inl h⟩
  have R2 := R1.grow0 g2 s2
  obtain ⟨v, hv, rv⟩ := R2.da hi
  cases rv with
  | lst hl hr2 =>
    refine ⟨_, _, kz, hv, SqL.of (s2 _ _ hl), fun j hj => ?_, k4, k5, k6, fun pp hp => ?_⟩
    · obtain ⟨d, hd, hfl⟩ := hf j hj
      obtain ⟨u, hu, ru⟩ := hr2.get hd
      exact ⟨u, hu, fkD_t ru hfl s2⟩
    · exact q _ _ _ _ (R2.grow0 (Gr.new hp s2) s2.new) ((g1.trans g2.any).trans (Gr.new hp s2)) (.lst upd_same (rpl_ns _)) hk
end Wd
set_option maxRecDepth 100000
set_option maxHeartbeats 2000000
namespace Wd
open PySem PySem.Spec PyProof.Rows L2
/-! ### Due(..), cls(..), Due.nearest(..) -/
def s_Due_make : WF := S3 fun a b c k => ∃ S t x, OkS S ∧ t ∈ S.ts ∧ 0 ≤ x ∧ x ≤ 100000 ∧ a = .da (encS S) ∧ b = .da (.str (Task.nm t)) ∧ c = .da (.int x) ∧ k (.due (dueL S t x))
theorem meth_lt {K : PySem.W.Frag} {mg : Str → Option Value} (E : En K mg) : L2.Meth K (duC K) "__lt__" (He.ma K (duC K) "__lt__") := He.meth_ok (E.d.fact 80 rfl)
theorem meth_le {K : PySem.W.Frag} {mg : Str → Option Value} (E : En K mg) : L2.Meth K (duC K) "__le__" (He.ma K (duC K) "__le__") := He.meth_ok (E.d.fact 81 rfl)
theorem meth_eq {K : PySem.W.Frag} {mg : Str → Option Value} (E : En K mg) : L2.Meth K (duC K) "__eq__" (He.ma K (duC K) "__eq__") := He.meth_ok (E.d.fact 79 rfl)
section
variable {K : PySem.W.Frag} {F : Option Addr} {G H : Hp}
theorem init_sp {vs : List V} {as : List Ar} {kk : D → Prop} {Q : VK} {Ex : XK} (s : Sub G H) (f : ∀ f, F = some f → FeedOk K G H f) (r : ArL K F G vs as) (h : s_Due_make as kk)
    (q : ∀ v d G' H', Gr F G H G' H' → Sub G' H' → (∀ f, F = some f → FeedOk K G' H' f) → Rp K G' v d → kk d → Q v H') : ∀ x dx, H x = none → H dx = none → dx ≠ x →
    spInit K (.ref x :: (vs ++ [])) (upd (upd H dx (.own x)) x (.ins (duC K) dx [])) (fun v H2 => v = .non ∧ Q (.ref x) H2) Ex := by
  intro x dx hx hdx hne
  rw [List.append_nil]
  refine S3.el (R := fun as kk => ArL K F G vs as → (∀ v d G' H', Gr F G H G' H' → Sub G' H' → (∀ f, F = some f → FeedOk K G' H' f) → Rp K G' v d → kk d → Q v H') → spInit K (.ref x :: vs) (upd (upd H dx (.own x)) x (.ins (duC K) dx [])) (fun v H2 => v = .non ∧ Q (.ref x) H2) Ex) (fun a b c kk h r q => ?_) as kk h r q
  obtain ⟨S, t, y, hS, ht, h0, h1, rfl, rfl, rfl, hk⟩ := h
  obtain ⟨v1, v2, v3, rfl, r1, r2, r3⟩ : ∃ v1 v2 v3, vs = [v1, v2, v3] ∧ Rp K G v1 (encS S) ∧ Rp K G v2 (.str t.nm) ∧ Rp K G v3 (.int y) := by
    cases r with
    | cons r1 r => cases r with
      | cons r2 r => cases r with
        | cons r3 r => cases r; exact ⟨_, _, _, rfl, r1, r2, r3⟩
  cases r3
  exact ⟨F, G, H, x, dx, v1, v2, S, t, y, rfl, rfl, hx, hdx, hne, s, f, r1, r2, hS, ht, h0, h1, fun G' H' g s' f' rr => ⟨rfl, q _ _ G' H' g s' f' rr hk⟩⟩
end
abbrev OkInit (P : Program) (w : World) (K : PySem.W.Frag) (mg : Str → Option Value) (base : Heap) (n : Nat) : Prop := ∃ fd, FnOk P w K mg base CX0 n (He.ma K (duC K) "__init__") fd ["self", "site", "name", "base"] (spInit K) ∧ Binds K fd ["self", "site", "name", "base"] []
section
variable {X : Cx} {e : Expr} {es : List Expr} {ta : TA} {p pos : Pos} {n : Nat} {C : List Sl → (List Ar → Prop) → Prop}
theorem ew_make (K : PySem.W.Frag) (D : DueK K X.mg) (F : OkInit X.prog X.w K X.mg X.base n) (hr : Room (n + 1) X.A) (ha : CW X (e :: es) ta C) (hK : X.K = K := by rfl) (hg : Gl X "Due" := by rfl)
    (he : starEach (e :: es) X.env = (false, eval e X.env) :: starEach es X.env := by rfl) (hpl : (backTo pos (starEach es X.env)).any (·.1) = false := by rfl) :
    EW X (.Call (.Name "Due" p) (e :: es) [] pos) (tMake (duC K) (spInit K) [] E0 ta) (wCall s_Due_make C) := by
  subst hK
  obtain ⟨fd, F, hb⟩ := F
  refine ⟨pe_make D.mkr F hr hg D.gl hb .nil pass0 ha.pa (by decide) he hpl, fun {F G H w σ ρ k Q} R h q => ha.li R h fun vs as G1 H1 R1 g1 r h1 => ?_⟩
  exact init_sp R1.sub R1.fok r h1 fun v d G2 H2 g2 s2 f2 rv hk => q v d G2 H2 (R1.grow g2 s2 f2) (g1.trans g2) rv hk
/-- cls(..), cls a local that holds the class -/
theorem pe_makeL {x : Str} {i : Nat} {C f : Addr} {fd : FuncData} {ps : List Str} {sp : Sp} {E : XK} {CX : CXT} (M : L2.Mk X.K C f) (F : FnOk X.prog X.w X.K X.mg X.base CX n f fd ps sp) (hr : Room (n + 1) X.A) (hb : Binds X.K fd ps []) (hx : Passes CX X E) (hN : X.N[i]? = some x) (hv : Vis X.env.scope x)
    (ha : PA X (e :: es) ta) (hd : (x == ("__debug__" : Str)) = false) (hcd : (x == ("__classdict__" : Str)) = false) (he : starEach (e :: es) X.env = (false, eval e X.env) :: starEach es X.env) (hpl : (backTo pos (starEach es X.env)).any (·.1) = false) :
    PE X (.Call (.Name x p) (e :: es) [] pos) (fun σ H Q => σ[i]? = some (some (.ref C)) ∧ tMake C sp [] E ta σ H Q) := by
  refine ⟨fun pins s σ H Q I h => ?_⟩
  obtain ⟨h1, h2⟩ := h
  refine wpAny_Call_Name_kw (thn ((pe_var (pos := p) (i := i) hN hv hd hcd).run pins s σ H (fun v H1 => v = .ref C ∧ H1 = H) I ⟨.ref C, h1, rfl, rfl⟩) fun u s1 ⟨v, H1, I1, r1, q1⟩ => ?_)
  obtain ⟨ev, eH⟩ := q1
  subst ev
  subst eH
  obtain rfl : u = Value.ref C := r1
  refine PySem.W.callWith_K (h₀ := X.base) I1.ok.mod.kin M.kp (thn (ha.run pos pins s1 σ _ _ I1 h2) fun us s2 ⟨vs, H2, I2, r, q⟩ => ⟨I2.kIn, ?_⟩) he hpl
  exact run_make M F hr hb .nil hx I2 r q
def wMakeL (K : PySem.W.Frag) (i : Nat) (C : List Sl → (List Ar → Prop) → Prop) : WE := fun ρ k => ρ[i]? = some (.ob (duC K)) ∧ wCall s_Due_make C ρ k
theorem ew_makeL {x : Str} (K : PySem.W.Frag) (i : Nat) (D : DueK K X.mg) (F : OkInit X.prog X.w K X.mg X.base n) (hr : Room (n + 1) X.A) (ha : CW X (e :: es) ta C) (hK : X.K = K := by rfl) (hN : X.N[i]? = some x := by rfl) (hv : Vis X.env.scope x := by first | exact Or.inl rfl | exact Or.inr (Or.inl rfl) | exact Or.inr (Or.inr rfl)) (hd : (x == ("__debug__" : Str)) = false := by decide) (hcd : (x == ("__classdict__" : Str)) = false := by decide)
    (he : starEach (e :: es) X.env = (false, eval e X.env) :: starEach es X.env := by rfl) (hpl : (backTo pos (starEach es X.env)).any (·.1) = false := by rfl) :
    EW X (.Call (.Name x p) (e :: es) [] pos) (fun σ H Q => σ[i]? = some (some (.ref (duC K))) ∧ tMake (duC K) (spInit K) [] E0 ta σ H Q) (wMakeL K i C) := by
  subst hK
  obtain ⟨fd, F, hb⟩ := F
  refine ⟨pe_makeL D.mkr F hr hb pass0 hN hv ha.pa hd hcd he hpl, fun {F G H w σ ρ k Q} R h q => ⟨R.at_ i _ h.1, ha.li R h.2 fun vs as G1 H1 R1 g1 r h1 => ?_⟩⟩
  exact init_sp R1.sub R1.fok r h1 fun v d G2 H2 g2 s2 f2 rv hk => q v d G2 H2 (R1.grow g2 s2 f2) (g1.trans g2) rv hk
/-- f() -/
def wCall0 (Wf : WF) : WE := fun ρ k => Wf [] k
theorem ew_call0 {x : Str} {ps : List Str} {Wf : WF} (K : PySem.W.Frag) (F : Ok X.prog X.w K X.mg X.base n x ps Wf) (hr : Room n X.A) (hK : X.K = K := by rfl) (hg : Gl X x := by rfl) (hd : (x == ("__debug__" : Str)) = false := by decide) :
    EW X (.Call (.Name x p) [] [] pos) (tCall (spW K Wf) [] E0 tNil) (wCall0 Wf) := by
  subst hK
  obtain ⟨fd, f1, f2⟩ := F.ok
  refine ⟨pe_call0 f1 hr hg F.mg F.kp f2 .nil pass0 hd, fun {F G H w σ ρ k Q} R h q => ?_⟩
  exact ⟨F, G, [], _, R.sub, R.fok, .nil, h, fun v d G2 H2 g2 s2 f2 rv hk => q v d G2 H2 (R.grow g2 s2 f2) g2 rv hk⟩
end
/-! ### a, b, c = [], [], [] -/
section
variable {K : PySem.W.Frag} {F : Option Addr} {G0 H0 G H : Hp} {w : Addr → Nat} {σ : L2.St} {ρ : List Sl} {i : Nat} {p b : Addr}
theorem NoOwn.own (h : NoOwn σ ρ p) {ds : List D} (hb : b ≠ p) : NoOwn (σ.set i (some (.ref b))) (ρ.set i (.ow ds)) p := fun j a ho e => by
  by_cases ej : i = j
  · subst ej
    by_cases hi : i < σ.length
    · rw [List.getElem?_set_self hi] at e
      cases e
      exact hb
    · rw [List.getElem?_eq_none (by rw [List.length_set]; omega)] at e
      cases e
  · rw [List.getElem?_set_ne ej] at ho e
    exact h j a ho e
theorem RE.outN {o : HO} (R : RE K F G0 H0 G H w σ ρ) (h : H p = none) : RE K F G0 H0 G (upd H p o) w σ ρ := ⟨R.rs.out h, R.gr.trans (Gr.newH h), R.own⟩
end
def wOwn3 (i j l : Nat) : WSt := fun D ρ => D.nx (((ρ.set i (.ow [])).set j (.ow [])).set l (.ow []))
abbrev tL3 : TA := tCons (tLst tNil) (tCons (tLst tNil) (tCons (tLst tNil) tNil))
abbrev gT3 (i j l : Nat) : TGs := gCons (gName i) (gCons (gName j) (gCons (gName l) gNil))
theorem sw_own3 {X : Cx} {x y z : Str} {k1 k2 : Nat} {p1 p2 p3 p4 p5 p6 p7 p8 pos : Pos} (K : PySem.W.Frag) (i j l : Nat) (hN : X.N.Nodup) (hK : X.K = K := by rfl) (hi : X.N[i]? = some x := by rfl) (hj : X.N[j]? = some y := by rfl) (hl : X.N[l]? = some z := by rfl)
    (hx : Loc X.env.scope x := by first | exact Or.inl rfl | exact Or.inr rfl) (hy : Loc X.env.scope y := by first | exact Or.inl rfl | exact Or.inr rfl) (hz : Loc X.env.scope z := by first | exact Or.inl rfl | exact Or.inr rfl)
    (fx : X.fn x = true ∨ X.env.scope.names.lookup x = some .local := by first | exact .inl rfl | exact .inr rfl) (fy : X.fn y = true ∨ X.env.scope.names.lookup y = some .local := by first | exact .inl rfl | exact .inr rfl) (fz : X.fn z = true ∨ X.env.scope.names.lookup z = some .local := by first | exact .inl rfl | exact .inr rfl)
    (hc : X.calm = true := by rfl) (hs : swapsWithSole [.Tuple [.Name x p1, .Name y p2, .Name z p3] k1 p4] (.Tuple [.List [] p5, .List [] p6, .List [] p7] k2 p8) pos.line X.env = pure false := by rfl) (hw : swappedStores [.Tuple [.Name x p1, .Name y p2, .Name z p3] k1 p4] (.Tuple [.List [] p5, .List [] p6, .List [] p7] k2 p8) X.env = pure none := by rfl)
    (n1 : starEach [.List [] p5, .List [] p6, .List [] p7] X.env = (false, eval (.List [] p5) X.env) :: starEach [.List [] p6, .List [] p7] X.env := by rfl) (n2 : starEach [.List [] p6, .List [] p7] X.env = (false, eval (.List [] p6) X.env) :: starEach [.List [] p7] X.env := by rfl) (n3 : starEach [.List [] p7] X.env = (false, eval (.List [] p7) X.env) :: starEach [] X.env := by rfl)
    (m1 : (assignEach [.Name x p1, .Name y p2, .Name z p3] X.env).map (·.2) = assign (.Name x p1) X.env :: (assignEach [.Name y p2, .Name z p3] X.env).map (·.2) := by rfl) (m2 : (assignEach [.Name y p2, .Name z p3] X.env).map (·.2) = assign (.Name y p2) X.env :: (assignEach [.Name z p3] X.env).map (·.2) := by rfl) (m3 : (assignEach [.Name z p3] X.env).map (·.2) = assign (.Name z p3) X.env :: (assignEach [] X.env).map (·.2) := by rfl)
    (hn : (assignEach [.Name x p1, .Name y p2, .Name z p3] X.env).length = 3 := by rfl) (hst : (assignEach [.Name x p1, .Name y p2, .Name z p3] X.env).findIdx? (·.1) = none := by rfl)
    (h1 : (assignEach [.Tuple [.Name x p1, .Name y p2, .Name z p3] k1 p4] X.env).map (·.2) = [assign (.Tuple [.Name x p1, .Name y p2, .Name z p3] k1 p4) X.env] := by rfl) :
    SW X (.Assign [.Tuple [.Name x p1, .Name y p2, .Name z p3] k1 p4] (.Tuple [.List [] p5, .List [] p6, .List [] p7] k2 p8) pos) (tAsg (tTup tL3) (gTup K 3 (gT3 i j l))) (wOwn3 i j l) := by
  subst hK
  refine ⟨ps_asg (pe_tup (pa_cons (pe_lst pa_nil) (pa_cons (pe_lst pa_nil) (pa_cons (pe_lst pa_nil) pa_nil n3) n2) n1)) (pg_tup hc (pgs_cons (pg_name hN hi hx fx) (pgs_cons (pg_name hN hj hy fy) (pgs_cons (pg_name hN hl hz fz) pgs_nil m3) m2) m1) hn hst) hs hw h1, fun {F G0 H0 G H w σ ρ D E} R hw q => ?_⟩
  have z3 : (3 : Nat) ≤ sizeLine := by have := sizeLine_eq; omega
  refine ⟨Nat.zero_le _, fun a ha => ⟨Nat.zero_le _, fun b hb => ⟨Nat.zero_le _, fun c hc => ⟨z3, fun t ht => ⟨t, [.ref a, .ref b, .ref c], rfl, .inl (.inl upd_same), rfl, _, _, rfl, _, _, rfl, _, _, rfl, rfl, ?_⟩⟩⟩⟩⟩
  have Ra := R.outN (o := .lst []) ha
  have Rb := Ra.outN (o := .lst []) hb
  have Rc := Rb.outN (o := .lst []) hc
  have Rt := Rc.outN (o := .tup [.ref a, .ref b, .ref c]) ht
  have hb0 : H b = none := none_of_th (Gr.newH (F := none) (G := G) (o := .lst []) ha).th hb
  have hc1 : upd H a (.lst []) c = none := none_of_th (Gr.newH (F := none) (G := G) (o := .lst []) hb).th hc
  have hc0 : H c = none := none_of_th (Gr.newH (F := none) (G := G) (o := .lst []) ha).th hc1
  have ab : a ≠ b := ne_of_none upd_same hb
  have ac : a ≠ c := ne_of_none upd_same hc1
  have bc : b ≠ c := ne_of_none upd_same hc
  have ea : upd (upd (upd H a (.lst [])) b (.lst [])) c (.lst []) a = some (.lst []) := by rw [upd_ne ac, upd_ne ab, upd_same]
  have eb : upd (upd (upd H a (.lst [])) b (.lst [])) c (.lst []) b = some (.lst []) := by rw [upd_ne bc, upd_same]
  have ec : upd (upd (upd H a (.lst [])) b (.lst [])) c (.lst []) c = some (.lst []) := upd_same
  have A1 := Rt.adopt (i := i) (p := a) (none_of_th R.gr.th ha) (by rw [upd_ne (ne_of_none ea ht)]; exact ea) (sub_none R.rs.sub ha) (R.rs.noF ha) (R.rs.noOwn ha) .nil
  have A2 := A1.adopt (i := j) (p := b) (none_of_th R.gr.th hb0) (by rw [upd_ne (ne_of_none eb ht)]; exact eb) (sub_none R.rs.sub hb0) (R.rs.noF hb0) ((R.rs.noOwn hb0).own ab) .nil
  have A3 := A2.adopt (i := l) (p := c) (none_of_th R.gr.th hc0) (by rw [upd_ne (ne_of_none ec ht)]; exact ec) (sub_none R.rs.sub hc0) (R.rs.noF hc0) (((R.rs.noOwn hc0).own ac).own bc) .nil
  exact q.nx _ _ _ _ _ A3 hw
/-! ### the def that makes a lambda: its code object is known -/
section
variable {P : Program} {w : World} {K : PySem.W.Frag} {mg : Str → Option Value} {base : Heap}
theorem code_ref {cdv : Value} {q : Str} (h : PySem.W.codeIn K cdv q = true) : ∃ c, cdv = .ref c := by
  unfold PySem.W.codeIn at h
  split at h
  · exact ⟨_, rfl⟩
  · cases h
theorem FunD.okWGc {x qual : Str} {params : Arguments} {body : List Stmt} {scope : Scope} {fd : FuncData} {N ps : List Str} {k : Nat} {Wf : WF} {d : Str × Option Str} (Fd : FunD K x qual params body scope [] [] (He.fAd K d) fd) (S : FnScope N ps scope)
    (len : ∀ as kk, Wf as kk → as.length = ps.length)
    (hb : ∀ (A : Around) (outer : List Env) (s : Shared) (H : Hp) (E : XK), Room k (A.deeper (envOfC qual scope s.heap.objs.size (He.fAd K d) (.ref (He.codeOf K d)))) → A.guards = some [] →
      ∃ t T, SsW (cxOf CX0 P w K mg base N qual scope (He.fAd K d) (.ref (He.codeOf K d)) A outer s H E).nox body t T ∧ ∀ as kk, Wf as kk → T { nx := fun _ => kk .non, rt := kk } (startW N.length as)) : FnG P w K mg base (k + 1) (He.fAd K d) fd ps (spW K Wf) := by
  obtain ⟨oc, od, dV, kV, doc, pm, an, cdv, ct, osl, rfl, look, code, h4, h5⟩ := id Fd.ex
  obtain ⟨c, rfl⟩ := code_ref code
  have ec : He.codeOf K d = c := He.codeOf_eq look rfl
  have arity : ∀ vs H Q E, spW K Wf vs H Q E → vs.length = ps.length := fun vs H Q E z => by
    obtain ⟨F, G, as, kk, _, _, r, h, _⟩ := z
    rw [r.len]
    exact len as kk h
  constructor
  · exact arity
  intro A outer s H args us vs Q E room gd env0 binds rel want
  have n1 := arity _ _ _ _ want
  have inK : K.In s.heap := env0.mod.kin.keeps fun b o e => (env0.bs b o e).1
  have noL : s.heap.NoLimit := env0.mod.nolimit.keeps fun b o e => (env0.bs b o e).1
  have kinds : ∀ y ∈ ps.zip us, scope.names.lookup y.1 = some .local ∨ (scope.names.lookup y.1 = some .cell ∧ ((cellsFrom (s.heap.objs.size + 1) scope.names []).lookup y.1).isSome = true) := by
    intro y hy
    rcases S.par y.1 (List.of_mem_zip (a := y.1) (b := y.2) hy).1 with z | z
    · exact .inl z
    · exact .inr ⟨z, PySem.W.cellsFrom_some _ _ _ (.inl z)⟩
  refine codeAny_call_function room.depth (inK _ _ look) rfl S.co S.gen rfl (PySem.W.codeRec_of inK code) (binds _ _ _ _ ?_)
  refine wpAny_newFunctionEnv_cells S.kind kinds fun env ee s1 x => ?_
  subst ee
  refine ⟨noL.keeps x.toInCall.keep, codeAny_func ?_⟩
  have hb' := hb A outer s H E
  rw [ec] at hb'
  obtain ⟨t, T, hS, hT⟩ := hb' (room.deeper _) gd
  obtain ⟨F, G, as, kk, hsub, hf, r, h, q⟩ := want
  have ht : t { nx := fun _ H' => Q .non H', rt := Q } (L2.start N vs) H := by
    refine @SsW.li _ _ _ _ hS F G H G H _ _ _ _ _ ⟨rs_start hsub hf r, Gr.refl .., fun i a h => absurd h startW_un⟩ (hT as kk h) ⟨fun w G' H' σ ρ R hk => ?_, fun v d G' H' g s2 f2 rv hk => q v d G' H' g s2 f2 rv hk, fun _ _ _ _ _ _ hk => False.elim hk, fun _ _ _ _ _ _ hk => False.elim hk⟩
    exact q .non .non G' H' R.gr R.rs.sub R.rs.fok .non hk
  have I := inv_start (CX := CX0) (P := P) (w := w) (qual := qual) (f := He.fAd K d) (E := E) S room.hd env0 n1 rel x
  refine wpAny_mono (hS.ps.nox.run [] s1 _ H _ I ht) (fun fl s2 z => ?_) (fun e s2 z => z)
  cases fl with
  | next =>
    obtain ⟨τ, H2, J, q⟩ := z
    exact ⟨V.non, H2, J.os, J.bare, J.base, J.hok, rfl, q⟩
  | ret u =>
    obtain ⟨v, τ, H2, J, rv, q⟩ := z
    exact ⟨v, H2, J.os, J.bare, J.base, J.hok, rv, q⟩
  | brk =>
    obtain ⟨_, _, _, q⟩ := z
    exact q.elim
  | cont =>
    obtain ⟨_, _, _, q⟩ := z
    exact q.elim
end
section
variable {X : Cx} {e e2 : Expr} {es : List Expr} {te te2 : TE} {W W2 : WE} {ta : TA} {C : List Sl → (List Ar → Prop) → Prop} {p pos apos : Pos} {k : Nat} {ps : List Str}
/-- dues compared -/
theorem kcmpO (K : PySem.W.Frag) {op : CmpOp} {g : D → D → Option D} {nm : Str} (hn : (cmpInfo op).2.1 = nm) (hop : ∀ a b, compareOp op a b = richCompare op a b) (F : OkA X.prog X.w K X.mg X.base k (He.ma K (duC K) nm) ps (s_cmpD g)) (hm : L2.Meth K (duC K) nm (He.ma K (duC K) nm)) (hr : Room k X.A) (ha : EW X e te W) (hb : EW X e2 te2 W2)
    (hK : X.K = K := by rfl) (hb' : behindInMarks op e2 = false := by exact nomark _) : EW X (.Compare e [op] [e2] pos) (tOp (SlX.rOwn K (duC K) (spW K (s_cmpD g)) E0) te te2) (wOp (cmpD g) W W2) := by
  subst hK
  subst hn
  exact ew_cmp (SlX.op_own hop hm.at_ hm.fn F.raw hr pass0) (lo_own g) ha hb hb'
/-- tuples compared -/
theorem kltP (K : PySem.W.Frag) (hu : X.A.units + 64 < cLine) (ha : EW X e te W) (hb : EW X e2 te2 W2) (hK : X.K = K := by rfl) (hb' : behindInMarks .Lt e2 = false := by exact nomark _) : EW X (.Compare e [.Lt] [e2] pos) (tOp (rCmpP PySem.W.dataLt K) te te2) (wOp (cmpP PySem.W.dataLt) W W2) := by
  subst hK
  exact ew_cmp (op_ltP hu) (lo_cmpP _) ha hb hb'
theorem kleP (K : PySem.W.Frag) (hu : X.A.units + 64 < cLine) (ha : EW X e te W) (hb : EW X e2 te2 W2) (hK : X.K = K := by rfl) (hb' : behindInMarks .LtE e2 = false := by exact nomark _) : EW X (.Compare e [.LtE] [e2] pos) (tOp (rCmpP leP K) te te2) (wOp (cmpP leP) W W2) := by
  subst hK
  exact ew_cmp (op_leP hu) (lo_cmpP _) ha hb hb'
/-- Due.nearest(..) -/
def spNear (K : PySem.W.Frag) (Wf : WF) : Sp := fun vs H Q _ => ∃ ws F G as k, vs = .ref (duC K) :: ws ∧ Sub G H ∧ (∀ f, F = some f → FeedOk K G H f) ∧ ArL K F G ws as ∧ Wf as k ∧
  ∀ v d G' H', Gr F G H G' H' → Sub G' H' → (∀ f, F = some f → FeedOk K G' H' f) → Rp K G' v d → k d → Q v H'
def OkNear (P : Program) (w : World) (K : PySem.W.Frag) (mg : Str → Option Value) (base : Heap) (n : Nat) (Wf : WF) : Prop := ∃ fd, FnOk P w K mg base CX0 n (cmG K "nearest") fd ["cls", "site", "bases"] (spNear K Wf) ∧ Binds K fd ["cls", "site", "bases"] []
theorem ew_near (K : PySem.W.Frag) {Wf : WF} (D : DueK K X.mg) (F : OkNear X.prog X.w K X.mg X.base k Wf) (hr : Room k X.A) (ha : CW X (e :: es) ta C) {pl : Sem Bool} (hK : X.K = K := by rfl) (hg : Gl X "Due" := by rfl)
    (hst : starEach (e :: es) X.env = (false, eval e X.env) :: starEach es X.env := by rfl) (hpl : (backTo pos (starEach es X.env)).any (·.1) = false := by rfl)
    (ht : eval (.Call (.Attribute (.Name "Due" p) "nearest" apos) (e :: es) [] pos) X.env = (do
      let ov ← eval (.Name "Due" p) X.env
      standAt apos.atName
      let (f, first) ← holding [ov] (getMethod ov "nearest" pl)
      callWith pos f first (backTo pos (starEach (e :: es) X.env)) (backToKw pos (keywordEach [] X.env))) := by rfl) :
    EW X (.Call (.Attribute (.Name "Due" p) "nearest" apos) (e :: es) [] pos) (ClX.tCMeth (duC K) (spNear K Wf) E0 (tC (.ref (duC K))) ta) (wCall Wf C) := by
  subst hK
  obtain ⟨fd, F, hb⟩ := F
  refine ⟨ClX.pe_cmeth (pl := pl) (pe_glob hg D.gl rfl (by decide)) D.near.rd D.near.met ((F.raw hb .nil).imp fun vs H Q E q => by rw [List.append_nil]; exact q) hr pass0 ha.pa hst hpl ht, fun {F G H w σ ρ k Q} R h q => ⟨rfl, ha.li R h fun vs as G1 H1 R1 g1 r h1 => ?_⟩⟩
  exact ⟨vs, F, G1, as, _, rfl, R1.sub, R1.fok, r, h1, fun v d G2 H2 g2 s2 f2 rv hk => q v d G2 H2 (R1.grow g2 s2 f2) (g1.trans g2) rv hk⟩
end
end Wd
set_option maxRecDepth 100000
set_option maxHeartbeats 2000000
namespace Wd
open PySem PySem.Spec PyProof.Rows L2
local macro_rules | `(tactic| walk_at "wd") => `(tactic| simp only [startW, Ar.sl, List.map_cons, List.map_nil, List.replicate, List.cons_append, List.nil_append, List.length_cons, List.length_nil, Nat.reduceAdd, Nat.reduceSub, List.getElem?_cons_zero, List.getElem?_cons_succ, List.set_cons_zero, List.set_cons_succ,
  wSeq, wNext, wRet, wAsg, wIfS, wBreak, wNever, wExp, wVar, wC, wOp, wUn, wCB, wNil, wCons, wTup, wLst, wKey, intsD, Option.map_some, wIf, wB, wNot, wAnd, wOr, wAndV, wOrV, wNotV, wIsi, wChain, wCall, wcNil, wcCons, wcFeed, gwName, gwNil, gwCons, gwTup, wIdxT, wIdxL, tupK, lstK, wSlT, wSlL, wRev, wStar, spliceD, wLenO, wFrz, wOwnL, wOwnD, wApp, wExt, wPop, wDPut, wDGet, keyD, wPar, wPar3, wParOD, wParDO, blD, intK, strD, woNone, woSome, wiL, wiT, wiS, wiR1, wiR2, wiEnumT, wiZipT, wFInt, wFCells, wFSet, tyOf, kit_ii, kit_bi, kit_bb, kit_ib, kit_ss, kit_tt, kit_ts, kit_si,
  addI, subI, ltI, leI, gtI, geI, negI, isN, notN, isNon, ixD, lenD, min2D, max2D, intD, tupD, lstD, wYes, wipeW, wSlt, wIsD, wOb, wCallO, wMakeL, wOwn3, Bool.not_true, Bool.not_false, true_and, and_true, Nat.reduceLeDiff, Nat.zero_le])
def s_least_due : WF := S1 fun a k => ∃ x r d, a = .da (.lst (x :: r)) ∧ List.length r < 1000 ∧ minF [.lst (x :: r)] = some d ∧ k d
theorem sc_least_due : FnScope ["dues"] ["dues"] (defScope (top 70)) := ⟨rfl, rfl, rfl, by decide +kernel, rfl, by decide +kernel, by decide +kernel⟩
theorem ok_least_due {P : Program} {w : World} {K : PySem.W.Frag} {mg : Str → Option Value} {base : Heap} (E : En K mg) : Ok P w K mg base 4 "least_due" ["dues"] s_least_due := by
  have T := E.t
  have G_lt := ok_Due___lt__ (P := P) (w := w) (base := base) E
  refine mkOk E 49 d_least_due rfl rfl rfl rfl rfl fun fd F => ⟨FunD.okW F sc_least_due S1.len fun cdv A outer s H Er hr => ?_, F.bindsN fun _ _ _ _ _ _ us hl => match us, hl with | [_], _ => rfl⟩
  have nd := sc_least_due.nd
  refine ⟨_, _, (ssw_one (sw_ret (ew_if (tw_cmp op_gt lo_gt (kB K (rr := rLenK) call_len lc_len T.len bb_len (aw_cons (ew_var 0) aw_nil)) ew_int (nomark _)) (kMinD K E.du T G_lt (meth_lt E) (hr.mono (by omega)) (aw_cons (ew_var 0) aw_nil)) ew_non))), S1.el ?_⟩
  rintro _ k ⟨x, r, d, rfl, hl, hd, h⟩
  walk_at "wd"
  rw [decide_eq_true (by omega), hd]
  exact h
end Wd
set_option maxRecDepth 100000
set_option maxHeartbeats 2000000
namespace Wd
open PySem PySem.Spec PyProof.Rows L2
local macro_rules | `(tactic| walk_at "wd") => `(tactic| simp only [startW, Ar.sl, List.map_cons, List.map_nil, List.replicate, List.cons_append, List.nil_append, List.length_cons, List.length_nil, Nat.reduceAdd, Nat.reduceSub, List.getElem?_cons_zero, List.getElem?_cons_succ, List.set_cons_zero, List.set_cons_succ,
  wSeq, wNext, wRet, wAsg, wIfS, wBreak, wNever, wExp, wVar, wC, wOp, wUn, wCB, wNil, wCons, wTup, wLst, wKey, intsD, Option.map_some, wIf, wB, wNot, wAnd, wOr, wAndV, wOrV, wNotV, wIsi, wChain, wCall, wcNil, wcCons, wcFeed, gwName, gwNil, gwCons, gwTup, wIdxT, wIdxL, tupK, lstK, wSlT, wSlL, wRev, wStar, spliceD, wLenO, wFrz, wOwnL, wOwnD, wApp, wExt, wPop, wDPut, wDGet, keyD, wPar, wPar3, wParOD, wParDO, blD, intK, strD, woNone, woSome, wiL, wiT, wiS, wiR1, wiR2, wiEnumT, wiZipT, wFInt, wFCells, wFSet, tyOf, kit_ii, kit_bi, kit_bb, kit_ib, kit_ss, kit_tt, kit_ts, kit_si,
  addI, subI, ltI, leI, gtI, geI, negI, isN, notN, isNon, ixD, lenD, min2D, max2D, intD, tupD, lstD, wYes, wipeW, wSlt, wIsD, wOb, wCallO, wMakeL, wOwn3, Bool.not_true, Bool.not_false, true_and, and_true, Nat.reduceLeDiff, Nat.zero_le])
/-! ### Due.nearest -/
noncomputable def pkD (S : Site) (t : Task) (x : Int) : PyData := .tuple [.bool (lateS S t x).isNone, .int ((lateS S t x).getD 0), .str t.nm, .int x]
theorem toPy_dkey (S : Site) (t : Task) (x : Int) : toPy (dkey S t x) = some (pkD S t x) := by
  unfold dkey pkD
  simp [toPy, toPyL]
theorem ltC_due (S S' : Site) (t u : Task) (x y : Int) : ltC (.due (dueL S t x)) (.due (dueL S' u y)) = some (.bl (PySem.W.dataLt (pkD S t x) (pkD S' u y))) := by
  show cmpP PySem.W.dataLt (dkey S t x) (dkey S' u y) = _
  unfold cmpP
  rw [toPy_dkey, toPy_dkey]
  dsimp only
  rw [if_pos]
  unfold cmpOk pkD
  simp [PySem.W.alike, PySem.W.alikeAll, notNP, PyData.depth, PyData.depthAll]
noncomputable def dueP (S : Site) (p : Task × Int) : D := .due (dueL S p.1 p.2)
noncomputable def duesD (S : Site) (ts : List Task) (xs : List Int) : List D := (ts.zip xs).map (dueP S)
theorem duesD_mem {S : Site} {ts : List Task} {xs : List Int} {d : D} (h : d ∈ duesD S ts xs) : ∃ t x, t ∈ ts ∧ x ∈ xs ∧ d = .due (dueL S t x) := by
  obtain ⟨⟨t, x⟩, hp, rfl⟩ := List.mem_map.mp h
  exact ⟨t, x, (List.of_mem_zip hp).1, (List.of_mem_zip hp).2, rfl⟩
theorem duesD_len {S : Site} {ts : List Task} {xs : List Int} (h : xs.length = ts.length) : (duesD S ts xs).length = ts.length := by
  unfold duesD
  rw [List.length_map, List.length_zip, h, Nat.min_self]
theorem sortOk_dues {S : Site} {ts : List Task} {xs : List Int} (hl : xs.length = ts.length) (h2 : ts.length = 2 ∨ ts.length = 3) : SortOk (duesD S ts xs) := by
  refine ⟨by rw [duesD_len hl]; exact h2, fun d hd => ?_, fun d hd e he => ?_⟩
  · obtain ⟨t, x, _, _, rfl⟩ := duesD_mem hd
    exact ⟨_, rfl⟩
  · obtain ⟨t, x, _, _, rfl⟩ := duesD_mem hd
    obtain ⟨u, y, _, _, rfl⟩ := duesD_mem he
    exact ⟨_, ltC_due ..⟩
theorem minF_ok {d : D} {r : List D} (h : SortOk (d :: r)) : minF [.lst (d :: r)] = some (minDu d r) := if_pos h
theorem sortF_ok {ds : List D} (h : SortOk ds) : sortF [.lst ds] = some (.lst (sortDu ds)) := if_pos h
noncomputable def leastD : List D → D
  | x :: r => minDu x r
  | [] => .non
def s_Due_nearest : WF := S2 fun a b k => ∃ S xs, OkS S ∧ List.length xs = S.ts.length ∧ (S.ts.length = 2 ∨ S.ts.length = 3) ∧ (∀ x ∈ xs, 0 ≤ x ∧ x ≤ 100000) ∧ a = .da (encS S) ∧ b = .da (.tup (xs.map D.int)) ∧ k (leastD (duesD S S.ts xs))
abbrev N_near : List Str := ["cls", "site", "bases", "task", "base"]
theorem sc_Due_nearest : FnScope N_near ["cls", "site", "bases"] (defScope (mDue 2)) := ⟨rfl, rfl, rfl, by decide +kernel, rfl, by decide +kernel, by decide +kernel⟩
def encPr (p : Task × Int) : D := .wtp [encT p.1, .int p.2]
theorem zip_enc : ∀ (ts : List Task) (xs : List Int), zipL (ts.map encT) (xs.map D.int) = (ts.zip xs).map encPr
  | [], _ => by simp [zipL]
  | _ :: _, [] => by simp [zipL]
  | t :: ts, x :: xs => by
    show D.wtp [encT t, .int x] :: zipL (ts.map encT) (xs.map D.int) = encPr (t, x) :: (ts.zip xs).map encPr
    rw [zip_enc]
    rfl
theorem ok_Due_nearest {P : Program} {w : World} {K : PySem.W.Frag} {mg : Str → Option Value} {base : Heap} (E : En K mg) : OkNear P w K mg base 13 s_Due_nearest := by
  have T := E.t
  have G_check_bases := ok_check_bases (P := P) (w := w) (base := base) E
  have G_least_due := ok_least_due (P := P) (w := w) (base := base) E
  have G_mk := ok_Due___init__ (P := P) (w := w) (base := base) E
  have nd := sc_Due_nearest.nd
  obtain ⟨fd, F⟩ := E.du.near.fn
  refine ⟨fd, L2.FunD.ok F sc_Due_nearest (fun vs H Q E h => ?_) (fun cdv A outer s H vs Q Er hr h => ?_), F.bindsN fun _ _ _ _ _ _ us hl => match us, hl with | [_, _, _], _ => rfl⟩
  · obtain ⟨ws, F, G, as, k, rfl, _, _, r, h, _⟩ := h
    rw [List.length_cons, r.len, S2.len as k h]
    rfl
  · obtain ⟨ws, F, G, as, k, rfl, hsub, hf, r, h, q⟩ := h
    obtain ⟨t, T', hS, hT⟩ : ∃ t T', SsW (cxOf CX0 P w K mg base N_near d_Due_nearest.qual d_Due_nearest.scope (cmG K "nearest") cdv A outer s H Er).nox d_Due_nearest.body t T' ∧ ∀ as kk, s_Due_nearest as kk → T' { nx := fun _ => kk .non, rt := kk } (.ob (duC K) :: as.map Ar.sl ++ [.un, .un]) := by
      refine ⟨_, _, (ssw_cons (sw_expr (kcall K G_check_bases (hr.mono (by omega)) (cw_cons (ew_var 1) (cw_cons (ew_var 2) cw_nil)))) (ssw_one (sw_ret (kcall K G_least_due (hr.mono (by omega)) (cw_cons (ew_lc [("task", 3), ("base", 4)] nd (iw_zipT (aw_cons (kix K (ew_var 1) ew_int (fun _ _ => rfl)) (aw_cons (ew_var 2) aw_nil)) T.zip) (by show blkC ["cls", "site", "bases", "task", "base"] (defScope (mDue 2)) _ _ = true; decide +kernel) (fun _ _ _ _ _ => (ktup K (n := 2) (gsc (gw_name 3 nd) (gsc (gw_name 4 nd) gsw_nil)))) (fun _ _ _ _ _ => qw_nil) (fun _ _ _ _ _ => (ew_makeL K 0 E.du G_mk (hr.mono (by omega)) (cw_cons (ew_var 1) (cw_cons (kix K (ew_var 3) ew_int (fun _ _ => rfl)) (cw_cons (ew_var 4) cw_nil)))))) cw_nil))))), S2.el ?_⟩
      rintro a b k ⟨S, xs, hS, hl, h23, hx, rfl, rfl, h⟩
      walk_at "wd"
      refine ⟨S, xs, hS, hl, fun x hm => (hx x hm).1, rfl, rfl, ?_⟩
      refine wLc_map encPr (dueP S) (S.ts.zip xs) (fun K' hk => ?_) (by rw [List.length_zip, hl, Nat.min_self]; omega) (fun pr hp kk hk => ?_) ?_
      · show K' (zipL (S.ts.map encT) (xs.map D.int))
        rw [zip_enc]
        exact hk
      · obtain ⟨t, x⟩ := pr
        obtain ⟨h1, h2⟩ := List.of_mem_zip hp
        refine ⟨rfl, rfl, ?_⟩
        exact ⟨S, t, x, hS, h1, (hx x h2).1, (hx x h2).2, rfl, rfl, rfl, hk⟩
      · have hok := sortOk_dues (S := S) hl h23
        show s_least_due [.da (.lst (duesD S S.ts xs))] k
        cases e : duesD S S.ts xs with
        | nil =>
          have := duesD_len (S := S) hl
          rw [e] at this
          rw [List.length_nil] at this
          omega
        | cons d r =>
          rw [e] at hok h
          refine ⟨d, r, minDu d r, rfl, ?_, ?_, h⟩
          · have := duesD_len (S := S) hl
            rw [e, List.length_cons] at this
            omega
          · exact minF_ok hok
    obtain ⟨v1, v2, d1, d2, rfl, rfl, r1, r2, h⟩ : ∃ v1 v2 d1 d2, ws = [v1, v2] ∧ as = [.da d1, .da d2] ∧ Rp K G v1 d1 ∧ Rp K G v2 d2 ∧ s_Due_nearest [.da d1, .da d2] k := by
      refine S2.el (R := fun as k => ArL K F G ws as → ∃ v1 v2 d1 d2, ws = [v1, v2] ∧ as = [.da d1, .da d2] ∧ Rp K G v1 d1 ∧ Rp K G v2 d2 ∧ s_Due_nearest [.da d1, .da d2] k) (fun a b k h r => ?_) as k h r
      obtain ⟨S, xs, hS, hl, h23, hx, rfl, rfl, hk⟩ := h
      cases r with
      | cons r1 r => cases r with
        | cons r2 r => cases r; exact ⟨_, _, _, _, rfl, rfl, r1, r2, S, xs, hS, hl, h23, hx, rfl, rfl, hk⟩
    have R0 : Rs K F G H (fun _ => 0) (L2.start N_near [.ref (duC K), v1, v2]) [.ob (duC K), .da d1, .da d2, .un, .un] := by
      refine ⟨hsub, rfl, fun i s e => ?_, hf⟩
      match i, e with
      | 0, e => cases e; exact rfl
      | 1, e => cases e; exact ⟨v1, rfl, r1⟩
      | 2, e => cases e; exact ⟨v2, rfl, r2⟩
      | 3, e => cases e; trivial
      | 4, e => cases e; trivial
      | i + 5, e => cases e
    refine ⟨t, hS.ps.nox, ?_⟩
    refine @SsW.li _ _ _ _ hS F G H G H _ _ _ _ _ ⟨R0, Gr.refl .., fun i a h _ => ?_⟩ (hT _ k h) ⟨fun w G' H' σ ρ R hk => ?_, fun v d G' H' g s2 f2 rv hk => q v d G' H' g s2 f2 rv hk, fun _ _ _ _ _ _ hk => False.elim hk, fun _ _ _ _ _ _ hk => False.elim hk⟩
    · rcases h with ⟨ds, e⟩ | ⟨ds, e⟩
      · exact absurd rfl ((noOw_at (ρ := [.ob (duC K), .da d1, .da d2, .un, .un]) rfl e).1 ds)
      · exact absurd rfl ((noOw_at (ρ := [.ob (duC K), .da d1, .da d2, .un, .un]) rfl e).2 ds)
    · exact q .non .non G' H' R.gr R.rs.sub R.rs.fok .non hk
end Wd
set_option maxRecDepth 100000
set_option maxHeartbeats 2000000
namespace Wd
open PySem PySem.Spec PyProof.Rows L2
/-! ### two or three things, ordered: sorted by own order, by a key, the least -/
theorem ms2 (le : Nat → Nat → Bool) : (List.range 2).mergeSort le = if le 0 1 = true then [0, 1] else [1, 0] := by
  show [0, 1].mergeSort le = _
  simp [List.mergeSort, List.merge, List.MergeSort.Internal.splitInTwo]
theorem ms3 (le : Nat → Nat → Bool) : (List.range 3).mergeSort le = if le 0 1 = true then (if le 0 2 = true then (if le 1 2 = true then [0, 1, 2] else [0, 2, 1]) else [2, 0, 1]) else (if le 1 2 = true then (if le 0 2 = true then [1, 0, 2] else [1, 2, 0]) else [2, 1, 0]) := by
  show [0, 1, 2].mergeSort le = _
  simp [List.mergeSort, List.merge, List.MergeSort.Internal.splitInTwo]
  by_cases h1 : le 0 1 = true <;> by_cases h2 : le 0 2 = true <;> by_cases h3 : le 1 2 = true <;> simp [List.merge, h1, h2, h3]
def tab3 (a b c : Bool) (i j : Nat) : Bool := match i, j with
  | 0, 1 => a
  | 1, 0 => !a
  | 0, 2 => b
  | 2, 0 => !b
  | 1, 2 => c
  | 2, 1 => !c
  | _, _ => false
theorem k2 : ∀ a : Bool, (kasRun (tab3 a false false) (PySem.W.kas_sort 2)).toList = if a = true then [0, 1] else [1, 0] := by decide +kernel
theorem k3 : ∀ a b c : Bool, (a = true → c = true → b = true) → (a = false → c = false → b = false) → (kasRun (tab3 a b c) (PySem.W.kas_sort 3)).toList = if a = true then (if c = true then [0, 1, 2] else if b = true then [0, 2, 1] else [2, 0, 1]) else (if b = true then [1, 0, 2] else if c = true then [1, 2, 0] else [2, 1, 0]) := by decide +kernel
/-- a strict total order of the first n -/
structure Ord (lt : Nat → Nat → Bool) (n : Nat) : Prop where
  irr : ∀ i, lt i i = false
  opp : ∀ i j, i < n → j < n → i ≠ j → lt j i = !lt i j
  tr : ∀ i j k, lt i j = true → lt j k = true → lt i k = true
theorem ord2 {lt : Nat → Nat → Bool} (o : Ord lt 2) : (kasRun lt (PySem.W.kas_sort 2)).toList = (List.range 2).mergeSort (fun i j => !lt j i) := by
  have e : ∀ i j, i < 2 → j < 2 → lt i j = tab3 (lt 0 1) false false i j := fun i j hi hj => by
    have h1 := o.opp 0 1 (by omega) (by omega) (by omega)
    match i, j, hi, hj with
    | 0, 0, _, _ => exact o.irr 0
    | 0, 1, _, _ => rfl
    | 1, 0, _, _ => exact h1
    | 1, 1, _, _ => exact o.irr 1
  rw [kasRun_congr e _ kasOk2, k2, ms2]
  have h1 := o.opp 0 1 (by omega) (by omega) (by omega)
  rw [h1, Bool.not_not]
theorem ord3 {lt : Nat → Nat → Bool} (o : Ord lt 3) : (kasRun lt (PySem.W.kas_sort 3)).toList = (List.range 3).mergeSort (fun i j => !lt j i) := by
  have h1 := o.opp 0 1 (by omega) (by omega) (by omega)
  have h2 := o.opp 0 2 (by omega) (by omega) (by omega)
  have h3 := o.opp 1 2 (by omega) (by omega) (by omega)
  have e : ∀ i j, i < 3 → j < 3 → lt i j = tab3 (lt 0 1) (lt 0 2) (lt 1 2) i j := fun i j hi hj => by
    match i, j, hi, hj with
    | 0, 0, _, _ => exact o.irr 0
    | 0, 1, _, _ => rfl
    | 0, 2, _, _ => rfl
    | 1, 0, _, _ => exact h1
    | 1, 1, _, _ => exact o.irr 1
    | 1, 2, _, _ => rfl
    | 2, 0, _, _ => exact h2
    | 2, 1, _, _ => exact h3
    | 2, 2, _, _ => exact o.irr 2
  have t1 := o.tr 0 1 2
  have t2 := o.tr 2 1 0
  rw [kasRun_congr e _ kasOk3, k3 _ _ _ t1 ?_, ms3]
  · show _ = if (!lt 1 0) = true then (if (!lt 2 0) = true then (if (!lt 2 1) = true then [0, 1, 2] else [0, 2, 1]) else [2, 0, 1]) else (if (!lt 2 1) = true then (if (!lt 2 0) = true then [1, 0, 2] else [1, 2, 0]) else [2, 1, 0])
    rw [h1, h2, h3] at t2
    rw [h1, h2, h3, Bool.not_not, Bool.not_not, Bool.not_not]
    cases q1 : lt 0 1 <;> cases q2 : lt 0 2 <;> cases q3 : lt 1 2 <;> rw [q1, q2, q3] at t1 t2 <;> simp at t1 t2 ⊢
  · intro a b
    rw [h1, h2, h3, a, b] at t2
    have := t2 rfl rfl
    simpa using this
/-! ### the keys -/
noncomputable def kkD (S : Site) (t : Task) (x : Int) : PyData := .tuple [.int ((lateS S t x).getD 1000000), .str t.nm, .int x]
noncomputable def keyP (S : Site) (p : Task × Int) : D := .tup [.int ((lateS S p.1 p.2).getD 1000000), .str p.1.nm, .int p.2]
theorem eqv_int (a b : Int) : PyData.eqv (.int a) (.int b) = decide (a = b) := by
  simp [PyData.eqv]
  rfl
theorem lt_int_cons (a b : Int) (xs ys : List PyData) : PySem.W.dataLt (.tuple (.int a :: xs)) (.tuple (.int b :: ys)) = if a = b then PySem.W.dataLt (.tuple xs) (.tuple ys) else decide (a < b) := by
  rw [PySem.W.dataLt_tuple, PySem.W.dataLt_tuple]
  by_cases h : a = b
  · rw [if_pos h, PySem.W.dataLt_all_yes (by simp [PySem.W.alike]) (by rw [eqv_int, decide_eq_true h])]
  · rw [if_neg h, PySem.W.dataLt_all_no (by simp [PySem.W.alike]) (by rw [eqv_int, decide_eq_false h]), PySem.W.dataLt_int]
theorem lt_bool_cons (a b : Bool) (xs ys : List PyData) : PySem.W.dataLt (.tuple (.bool a :: xs)) (.tuple (.bool b :: ys)) = if a = b then PySem.W.dataLt (.tuple xs) (.tuple ys) else PySem.W.dataLt (.bool a) (.bool b) := by
  rw [PySem.W.dataLt_tuple, PySem.W.dataLt_tuple]
  by_cases h : a = b
  · rw [if_pos h, PySem.W.dataLt_all_yes (by simp [PySem.W.alike]) (by subst h; simp [PyData.eqv])]
  · rw [if_neg h, PySem.W.dataLt_all_no (by simp [PySem.W.alike]) (by cases a <;> cases b <;> simp [PyData.eqv] at h ⊢)]
theorem lt_pk_kk {S : Site} {t u : Task} {x y : Int} (ht : ∀ d, lateS S t x = some d → d < 1000000) (hu : ∀ d, lateS S u y = some d → d < 1000000) : PySem.W.dataLt (pkD S t x) (pkD S u y) = PySem.W.dataLt (kkD S t x) (kkD S u y) := by
  unfold pkD kkD
  rw [lt_bool_cons, lt_int_cons, lt_int_cons]
  cases e1 : lateS S t x with
  | none =>
    cases e2 : lateS S u y with
    | none => simp
    | some e =>
      have := hu e e2
      simp [PySem.W.dataLt_bool]
      rw [if_neg (by omega), decide_eq_false (by omega : ¬ 1000000 < e)]
      rfl
  | some d =>
    have hd := ht d e1
    cases e2 : lateS S u y with
    | none =>
      simp [PySem.W.dataLt_bool]
      rw [if_neg (by omega), decide_eq_true hd]
      rfl
    | some e => simp
/-- the places in the law's order -/
noncomputable def kzD (S : Site) (ps : List (Task × Int)) (p0 : Task × Int) (i : Nat) : PyData := kkD S (ps.getD i p0).1 (ps.getD i p0).2
noncomputable def ordD (S : Site) (ps : List (Task × Int)) (p0 : Task × Int) : List Nat := (List.range ps.length).mergeSort (PySem.W.dataLe false (kzD S ps p0))
noncomputable def ltO (S : Site) (ps : List (Task × Int)) (p0 : Task × Int) (i j : Nat) : Bool := PySem.W.dataLt (kzD S ps p0 i) (kzD S ps p0 j)
theorem toks_nm {S : Site} {t u : Task} {x y : Int} (h : PySem.W.keyToks (kkD S t x) = PySem.W.keyToks (kkD S u y)) : t.nm = u.nm := by
  unfold kkD at h
  simp [PySem.W.keyToks, PySem.W.keyToksAll] at h
  exact PySem.W.str_of_cps (by simpa using h.2.1)
theorem ltO_ord {S : Site} {ps : List (Task × Int)} {p0 : Task × Int} (hn : ∀ i j, i < ps.length → j < ps.length → (ps.getD i p0).1.nm = (ps.getD j p0).1.nm → i = j) : Ord (ltO S ps p0) ps.length := by
  have irr : ∀ i, ltO S ps p0 i i = false := fun i => (listOrd itemOrd).irrefl (PySem.W.keyToks (kzD S ps p0 i))
  have tr : ∀ i j k, ltO S ps p0 i j = true → ltO S ps p0 j k = true → ltO S ps p0 i k = true := fun i j k => (listOrd itemOrd).trans (PySem.W.keyToks (kzD S ps p0 i)) (PySem.W.keyToks (kzD S ps p0 j)) (PySem.W.keyToks (kzD S ps p0 k))
  refine ⟨irr, fun i j hi hj hne => ?_, tr⟩
  cases e : ltO S ps p0 i j with
  | true =>
    cases e2 : ltO S ps p0 j i with
    | true =>
      have := tr i j i e e2
      rw [irr] at this
      cases this
    | false => rfl
  | false =>
    cases e2 : ltO S ps p0 j i with
    | true => rfl
    | false => exact absurd (hn i j hi hj (toks_nm (S := S) ((listOrd itemOrd).total (PySem.W.keyToks (kzD S ps p0 i)) (PySem.W.keyToks (kzD S ps p0 j)) e e2))) hne
theorem ltB_due {S : Site} {p q : Task × Int} (h1 : ∀ d, lateS S p.1 p.2 = some d → d < 1000000) (h2 : ∀ d, lateS S q.1 q.2 = some d → d < 1000000) : ltB (dueP S p) (dueP S q) = PySem.W.dataLt (kkD S p.1 p.2) (kkD S q.1 q.2) := by
  unfold ltB dueP
  rw [ltC_due, lt_pk_kk h1 h2]
theorem getD_dues (S : Site) {ps : List (Task × Int)} {p0 : Task × Int} {i : Nat} (hi : i < ps.length) : (ps.map (dueP S)).getD i .non = dueP S (ps.getD i p0) := by
  rw [List.getD_eq_getElem?_getD, List.getD_eq_getElem?_getD, List.getElem?_map, List.getElem?_eq_getElem hi]
  rfl
structure Prs (S : Site) (ps : List (Task × Int)) (p0 : Task × Int) : Prop where
  n : ps.length = 2 ∨ ps.length = 3
  nm : ∀ i j, i < ps.length → j < ps.length → (ps.getD i p0).1.nm = (ps.getD j p0).1.nm → i = j
  lt : ∀ i, ∀ d, lateS S (ps.getD i p0).1 (ps.getD i p0).2 = some d → d < 1000000
section
variable {S : Site} {ps : List (Task × Int)} {p0 : Task × Int}
theorem Prs.ltB (h : Prs S ps p0) {i j : Nat} (hi : i < ps.length) (hj : j < ps.length) : Wd.ltB ((ps.map (dueP S)).getD i .non) ((ps.map (dueP S)).getD j .non) = ltO S ps p0 i j := by
  rw [getD_dues S (p0 := p0) hi, getD_dues S (p0 := p0) hj, ltB_due (h.lt i) (h.lt j)]
  rfl
theorem Prs.kas (h : Prs S ps p0) : (kasRun (ltO S ps p0) (PySem.W.kas_sort ps.length)).toList = ordD S ps p0 := by
  have o := ltO_ord (S := S) h.nm
  unfold ordD
  rcases h.n with e | e
  · rw [e] at o ⊢; exact ord2 o
  · rw [e] at o ⊢; exact ord3 o
theorem Prs.sort (h : Prs S ps p0) : sortDu (ps.map (dueP S)) = (ordD S ps p0).map fun i => (ps.map (dueP S)).getD i .non := by
  unfold sortDu
  rw [List.length_map]
  have ok : kasOk ps.length (PySem.W.kas_sort ps.length) = true := by
    rcases h.n with e | e
    · rw [e]; exact kasOk2
    · rw [e]; exact kasOk3
  rw [kasRun_congr (fun i j hi hj => h.ltB hi hj) _ ok, h.kas]
theorem Prs.ord_lt (h : Prs S ps p0) {i : Nat} (hi : i ∈ ordD S ps p0) : i < ps.length := by
  unfold ordD at hi
  exact List.mem_range.mp ((List.mergeSort_perm _ _).mem_iff.mp hi)
theorem Prs.ord_len (h : Prs S ps p0) : (ordD S ps p0).length = ps.length := by
  unfold ordD
  rw [List.length_mergeSort, List.length_range]
theorem Prs.least (h : Prs S ps p0) : ∃ i r, ordD S ps p0 = i :: r ∧ leastD (ps.map (dueP S)) = (ps.map (dueP S)).getD i .non := by
  have o := ltO_ord (S := S) h.nm
  have hB : ∀ i j, i < ps.length → j < ps.length → Wd.ltB ((ps.map (dueP S)).getD i .non) ((ps.map (dueP S)).getD j .non) = ltO S ps p0 i j := fun i j hi hj => h.ltB hi hj
  have el : ordD S ps p0 = (List.range ps.length).mergeSort (fun i j => !ltO S ps p0 j i) := rfl
  rw [el]
  match ps, h.n, o, hB with
  | [a, b], _, o, hB =>
    have b1 : Wd.ltB (dueP S b) (dueP S a) = ltO S [a, b] p0 1 0 := hB 1 0 (by show 1 < 2; omega) (by show 0 < 2; omega)
    show ∃ i r, (List.range 2).mergeSort (fun i j => !ltO S [a, b] p0 j i) = i :: r ∧ (if Wd.ltB (dueP S b) (dueP S a) = true then dueP S b else dueP S a) = ([a, b].map (dueP S)).getD i .non
    rw [ms2, b1]
    cases e : ltO S [a, b] p0 1 0 with
    | true => exact ⟨1, [0], by simp, by simp⟩
    | false => exact ⟨0, [1], by simp, by simp⟩
  | [a, b, c], _, o, hB =>
    have b1 : Wd.ltB (dueP S b) (dueP S a) = ltO S [a, b, c] p0 1 0 := hB 1 0 (by show 1 < 3; omega) (by show 0 < 3; omega)
    have b2 : Wd.ltB (dueP S c) (dueP S a) = ltO S [a, b, c] p0 2 0 := hB 2 0 (by show 2 < 3; omega) (by show 0 < 3; omega)
    have b3 : Wd.ltB (dueP S c) (dueP S b) = ltO S [a, b, c] p0 2 1 := hB 2 1 (by show 2 < 3; omega) (by show 1 < 3; omega)
    show ∃ i r, (List.range 3).mergeSort (fun i j => !ltO S [a, b, c] p0 j i) = i :: r ∧ (if Wd.ltB (dueP S c) (if Wd.ltB (dueP S b) (dueP S a) = true then dueP S b else dueP S a) = true then dueP S c else (if Wd.ltB (dueP S b) (dueP S a) = true then dueP S b else dueP S a)) = ([a, b, c].map (dueP S)).getD i .non
    have t1 := o.tr 2 1 0
    have t2 := o.tr 0 1 2
    rw [o.opp 1 0 (by show 1 < 3; omega) (by show 0 < 3; omega) (by omega), o.opp 2 1 (by show 2 < 3; omega) (by show 1 < 3; omega) (by omega), o.opp 2 0 (by show 2 < 3; omega) (by show 0 < 3; omega) (by omega)] at t2
    rw [ms3, b1]
    cases e1 : ltO S [a, b, c] p0 1 0 <;> cases e2 : ltO S [a, b, c] p0 2 0 <;> cases e3 : ltO S [a, b, c] p0 2 1 <;> rw [e1, e2, e3] at t1 t2 <;> simp [b2, b3, e2, e3] at t1 t2 ⊢
end
end Wd
set_option maxRecDepth 100000
set_option maxHeartbeats 4000000
namespace Wd
open PySem PySem.Spec PyProof.Rows L2
local macro_rules | `(tactic| walk_at "wd") => `(tactic| simp only [startW, Ar.sl, List.map_cons, List.map_nil, List.replicate, List.cons_append, List.nil_append, List.length_cons, List.length_nil, Nat.reduceAdd, Nat.reduceSub, List.getElem?_cons_zero, List.getElem?_cons_succ, List.set_cons_zero, List.set_cons_succ,
  wSeq, wNext, wRet, wAsg, wIfS, wBreak, wNever, wExp, wVar, wC, wOp, wUn, wCB, wNil, wCons, wTup, wLst, wKey, intsD, Option.map_some, wIf, wB, wNot, wAnd, wOr, wAndV, wOrV, wNotV, wIsi, wChain, wCall, wcNil, wcCons, wcFeed, gwName, gwNil, gwCons, gwTup, wIdxT, wIdxL, tupK, lstK, wSlT, wSlL, wRev, wStar, spliceD, wLenO, wFrz, wOwnL, wOwnD, wApp, wExt, wPop, wDPut, wDGet, keyD, wPar, wPar3, wParOD, wParDO, blD, intK, strD, woNone, woSome, wiL, wiT, wiS, wiR1, wiR2, wiEnumT, wiZipT, wFInt, wFCells, wFSet, tyOf, kit_ii, kit_bi, kit_bb, kit_ib, kit_ss, kit_tt, kit_ts, kit_si,
  addI, subI, ltI, leI, gtI, geI, negI, isN, notN, isNon, ixD, lenD, min2D, max2D, intD, tupD, lstD, wYes, wipeW, wSlt, wIsD, wOb, wCallO, wMakeL, wOwn3, Bool.not_true, Bool.not_false, true_and, and_true, Nat.reduceLeDiff, Nat.zero_le])
mutual
theorem plains_all {q : Word → Int → Prop} : ∀ (n : Nat) (L : Lim), L.all q n → ∀ p ∈ plains L, q p.1 p.2
  | 0, _, h, _, _ => (all0 h).elim
  | _ + 1, .pl w m, h, p, hp => by
    rw [List.mem_singleton.mp (show p ∈ [(w, m)] by unfold plains at hp; exact hp)]
    exact all_pl h
  | n + 1, .jo b ls, h, p, hp => by
    unfold plains at hp
    exact plainsL_all n ls (all_jo h).2 p hp
theorem plainsL_all {q : Word → Int → Prop} : ∀ (n : Nat) (ls : List Lim), (∀ l ∈ ls, l.all q n) → ∀ p ∈ plainsL ls, q p.1 p.2
  | _, [], _, p, hp => by unfold plainsL at hp; cases hp
  | n, l :: ls, h, p, hp => by
    unfold plainsL at hp
    rcases List.mem_append.mp hp with z | z
    · exact plains_all n l (h l List.mem_cons_self) p z
    · exact plainsL_all n ls (fun l hl => h l (List.mem_cons_of_mem _ hl)) p z
end
theorem cnt_small {S : Site} (hS : OkS S) {ss : Stays} (hs : OkSts S.ms ss) {x y : Int} (hx : 0 ≤ x) (hy : x ≤ y) (hl : y ≤ x + 1000) (w : Word) : 0 ≤ (cnt S ss x y).get w ∧ (cnt S ss x y).get w ≤ 1000000 := by
  have h1 := sumU_bd (f := fun d => (useAt S ss d).1) (a := x) (c := 1000) (fun d hd => by have := useAt_rng hS hs (Int.le_trans hx hd); exact ⟨this.1, this.2.2.1⟩) (by omega) y hy
  have h2 := sumU_bd (f := fun d => (useAt S ss d).2) (a := x) (c := 1000) (fun d hd => by have := useAt_rng hS hs (Int.le_trans hx hd); exact ⟨this.2.1, this.2.2.2⟩) (by omega) y hy
  cases w
  · show 0 ≤ sumU (fun d => (useAt S ss d).1) x y ∧ sumU (fun d => (useAt S ss d).1) x y ≤ 1000000
    omega
  · show 0 ≤ sumU (fun d => (useAt S ss d).2) x y ∧ sumU (fun d => (useAt S ss d).2) x y ≤ 1000000
    omega
  · show 0 ≤ y - x ∧ y - x ≤ 1000000
    omega
theorem sh_word (w : Word) : ShOk 0 10 (.str w.s) := by
  cases w
  · exact ⟨.str "hours", rfl, by simp [PyData.canLay0]; decide +kernel, by decide +kernel, Nat.zero_le _, by decide +kernel⟩
  · exact ⟨.str "cycles", rfl, by simp [PyData.canLay0]; decide +kernel, by decide +kernel, Nat.zero_le _, by decide +kernel⟩
  · exact ⟨.str "days", rfl, by simp [PyData.canLay0]; decide +kernel, by decide +kernel, Nat.zero_le _, by decide +kernel⟩
theorem left_sh {t : Task} (hd : okDT t) {c : N3} (hc : ∀ w, 0 ≤ c.get w ∧ c.get w ≤ 1000000) : ShOk 2 290 (.tup ((plains t.lim).map (leftD c))) := by
  have hl : ((plains t.lim).map (leftD c)).length ≤ 7 := by
    rw [List.length_map]
    have := plains_len t.lim
    have := hd.siz
    omega
  refine (sh_tup (n := 1) (m := 39) fun d h => ?_).mono (Nat.le_refl _) (by omega)
  obtain ⟨p, hp, rfl⟩ := List.mem_map.mp h
  have h1 := plains_all 3 t.lim hd.lim p hp
  have h2 := hc p.1
  have h3 : 3 ≤ p.2 ∧ p.2 ≤ 9 := h1
  refine sh_tup (n := 0) (m := 10) (ds := [.str p.1.s, .int p.2, .int (p.2 - c.get p.1)]) fun d hd => ?_
  simp only [List.mem_cons, List.not_mem_nil, or_false] at hd
  rcases hd with q | q | q
  · rw [q]; exact sh_word _
  · rw [q]; exact sh_int ⟨by omega, by omega⟩
  · rw [q]; exact sh_int ⟨by omega, by omega⟩
/-! ### the law's dues: its loop's body -/
noncomputable abbrev dueBody : WSt := (wSeq (wAsg (wCall s__law_draw (wcFeed 0 (wcCons (wC (Wd.D.int 9)) wcNil))) (gwName 6))
      (wSeq
        (wPar 7 8
          (wCons
            (wCall s_Due_make (wcCons (wVar 1) (wcCons (wOp ixD (wVar 5) (wC (Wd.D.int 0))) (wcCons (wVar 6) wcNil))))
            (wCons (wOp addI (wVar 6) (wCall s__law_draw (wcFeed 0 (wcCons (wC (Wd.D.int 6)) wcNil)))) wNil)))
        (wSeq
          (wParDO 9 10
            (wCall s__law_counts
              (wcCons (wVar 1)
                (wcCons (wOp ixD (wVar 5) (wC (Wd.D.int 1))) (wcCons (wVar 6) (wcCons (wVar 8) wcNil))))))
          (wSeq
            (wFor (wiL (wCall (s__law_plains 3) (wcCons (wOp ixD (wVar 5) (wC (Wd.D.int 3))) wcNil)))
              (gwTup (gwCons (gwName 11) (gwCons (gwName 12) gwNil)) 2)
              (wApp 10
                (wTup
                  (wCons (wVar 11)
                    (wCons (wVar 12)
                      (wCons
                        (wOp subI (wVar 12)
                          (wOp ixD (wVar 9)
                            (wIdxT
                              (wTup
                                (wCons (wC (Wd.D.str (Str.ofString "hours")))
                                  (wCons (wC (Wd.D.str (Str.ofString "cycles")))
                                    (wCons (wC (Wd.D.str (Str.ofString "days"))) wNil))))
                              (wVar 11))))
                        wNil))))))
            (wSeq
              (wAsg (wCall s__law_three (wcCons (wVar 1) (wcCons (wVar 5) (wcCons (wVar 6) wcNil))))
                (gwTup (gwCons (gwName 13) (gwCons (gwName 14) (gwCons (gwName 15) gwNil))) 3))
              (wSeq
                (wAsg
                  (wTup
                    (wCons (wOb s_Due_early_on (wVar 7))
                      (wCons (wOb s_Due_due_on (wVar 7)) (wCons (wOb s_Due_late_on (wVar 7)) wNil))))
                  (gwName 16))
                (wFrz 10
                  (wSeq
                    (wIfS
                      (wOr
                        (wB
                          (wOp neD (wCB reprD (wCons (wCallO s_Due_call (wVar 7) (wcCons (wVar 8) wcNil)) wNil))
                            (wCB reprD (wCons (wCB tupD (wCons (wVar 10) wNil)) wNil))))
                        (wB
                          (wOp neD (wCB reprD (wCons (wVar 16) wNil))
                            (wCB reprD
                              (wCons (wTup (wCons (wVar 13) (wCons (wVar 14) (wCons (wVar 15) wNil)))) wNil)))))
                      (wRet (wC (Wd.D.bl false))) wNext)
                    (wSeq (wApp 2 (wVar 6))
                      (wSeq (wApp 3 (wVar 7))
                        (wApp 4
                          (wTup
                            (wCons
                              (wIf (wB (wOp isN (wVar 15) (wC Wd.D.non)))
                                (wOp powI (wC (Wd.D.int 10)) (wC (Wd.D.int 6))) (wVar 15))
                              (wCons (wOp ixD (wVar 5) (wC (Wd.D.int 0))) (wCons (wVar 6) wNil)))))))))))))))
noncomputable abbrev dueTail : WSt := (wFrz 2
          (wFrz 3
            (wFrz 4
              (wSeq (wAsg (wSortKey 4 (wCB lenD (wCons (wVar 3) wNil))) (gwName 17))
                (wSeq
                  (wIfS
                    (wB
                      (wOp neD
                        (wLc (wiL (wCB sortF (wCons (wVar 3) wNil))) (gwName 18) wYes (wOb s_Due_name (wVar 18)) [18])
                        (wLc (wiL (wVar 17)) (gwName 19) wYes (wOb s_Due_name (wOp ixD (wVar 3) (wVar 19))) [19])))
                    (wRet (wC (Wd.D.bl false))) wNext)
                  (wSeq
                    (wIfS
                      (wOr
                        (wB
                          (wOp neD
                            (wOp (cmpD (cmpP W.dataLt)) (wOp ixD (wVar 3) (wC (Wd.D.int 0)))
                              (wOp ixD (wVar 3) (wC (Wd.D.int 1))))
                            (wOp (cmpP W.dataLt) (wOp ixD (wVar 4) (wC (Wd.D.int 0)))
                              (wOp ixD (wVar 4) (wC (Wd.D.int 1))))))
                        (wB
                          (wOp neD
                            (wOp (cmpD (cmpP leP)) (wOp ixD (wVar 3) (wC (Wd.D.int 0)))
                              (wOp ixD (wVar 3) (wC (Wd.D.int 1))))
                            (wOp (cmpP leP) (wOp ixD (wVar 4) (wC (Wd.D.int 0)))
                              (wOp ixD (wVar 4) (wC (Wd.D.int 1)))))))
                      (wRet (wC (Wd.D.bl false))) wNext)
                    (wRet
                      (wAndV
                        (wOp (cmpD eqD) (wCB minF (wCons (wVar 3) wNil))
                          (wCall s_Due_nearest (wcCons (wVar 1) (wcCons (wCB tupD (wCons (wVar 2) wNil)) wcNil))))
                        (wOp eqD (wOb s_Due_name (wCB minF (wCons (wVar 3) wNil)))
                          (wOb s_Due_name (wOp ixD (wVar 3) (wOp ixD (wVar 17) (wC (Wd.D.int 0))))))))))))))
noncomputable abbrev dueRho (S : Site) (xs : List Int) (r : List Sl) : List Sl := .fd :: .da (encS S) :: .ow (xs.map Wd.D.int) :: .ow ((S.ts.zip xs).map (dueP S)) :: .ow ((S.ts.zip xs).map (keyP S)) :: r
theorem zip_snoc : ∀ (ts : List Task) (xs : List Int) (t : Task) (x : Int), ts[xs.length]? = some t → ts.zip (xs ++ [x]) = ts.zip xs ++ [(t, x)]
  | t :: ts, [], u, x, h => by simp at h; subst h; simp
  | t :: ts, y :: xs, u, x, h => by
    rw [List.cons_append, List.zip_cons_cons, List.zip_cons_cons, zip_snoc ts xs u x (by simpa using h)]
    rfl
  | [], xs, _, _, h => by simp at h
theorem due_step {m : Nat} {S : Site} (D : DSite m S) {E : EnW} {nxt bk : List Sl → Prop} {xs : List Int} {t : Task} (hj : S.ts[xs.length]? = some t) {s6 s7 s8 s9 s10 s11 s12 s13 s14 s15 s16 s17 s18 s19 : Sl}
    (hn : ∀ (x : Int) (s5 s6 s7 s8 s9 s10 s11 s12 s13 s14 s15 s16 s17 s18 s19 : Sl), 0 ≤ x → x < 9 → nxt (dueRho S (xs ++ [x]) [s5, s6, s7, s8, s9, s10, s11, s12, s13, s14, s15, s16, s17, s18, s19])) :
    dueBody { E with nx := nxt, ct := nxt, bk := bk } (dueRho S xs [.da (encT t), s6, s7, s8, s9, s10, s11, s12, s13, s14, s15, s16, s17, s18, s19]) := by
  have hS := D.ok
  have htm : t ∈ S.ts := List.mem_of_getElem? hj
  have hd := D.tk t htm
  have ht := hd.ok D
  obtain ⟨hp1, hp2⟩ := task_stays hS ht
  rw [encT_eq]
  refine ⟨rfl, 9, rfl, by decide, by decide, fun x hx0 hx1 => ?_⟩
  refine ⟨S, t, x, hS, htm, hx0, by omega, rfl, rfl, rfl, ?_⟩
  refine ⟨rfl, 6, rfl, by decide, by decide, fun y hy0 hy1 => ?_⟩
  refine ⟨S, t.pt, S.stays t.pt, x, x + y, hS, hp1, hx0, by omega, by omega, by omega, rfl, rfl, rfl, rfl, ?_⟩
  refine ⟨t.lim, all_imp (fun _ _ _ => trivial) 3 _ hd.lim, by have := hd.siz; omega, rfl, ?_⟩
  have hpl := plains_len t.lim
  have hsz := hd.siz
  have hcs := cnt_small hS hp2 hx0 (show x ≤ x + y by omega) (show x + y ≤ x + 1000 by omega)
  have hshL : ShOk 2 290 (.tup ((plains t.lim).map (leftD (cnt S (S.stays t.pt) x (x + y))))) := left_sh hd hcs
  obtain ⟨b1, b2, b3, _⟩ := D.small hd hx0 (show x ≤ 10000 by omega)
  have hshT : ShOk 1 39 (.tup [optI (earlyS S t x), optI (dueS S t x), optI (lateS S t x)]) := sh_opts (ds := [optI (earlyS S t x), optI (dueS S t x), optI (lateS S t x)]) fun d hd => by
    simp only [List.mem_cons, List.not_mem_nil, or_false] at hd
    rcases hd with q | q | q
    · exact ⟨_, q, b1⟩
    · exact ⟨_, q, b2⟩
    · exact ⟨_, q, b3⟩
  show forGo _ _ _ ((plains t.lim).map encPl) _
  refine for_inv0 encPl (plains t.lim) (fun i ρ => ∃ s11 s12 : Sl, ρ = [.fd, .da (encS S), .ow (xs.map Wd.D.int), .ow ((S.ts.zip xs).map (dueP S)), .ow ((S.ts.zip xs).map (keyP S)), .da (.tup [.str t.nm, .str t.pt, .str t.way, encL t.lim, .tup t.sl.ds]), .da (.int x), .da (.due (dueL S t x)), .da (.int (x + y)), .da (.tup (cnt S (S.stays t.pt) x (x + y)).ds), .ow (((plains t.lim).take i).map (leftD (cnt S (S.stays t.pt) x (x + y)))), s11, s12, s13, s14, s15, s16, s17, s18, s19])
    ⟨s11, s12, rfl⟩ ?_ ?_
  · rintro i ⟨wd, n⟩ ρ nxt2 hp ⟨s11, s12, rfl⟩ hn2
    have e : ((plains t.lim).take i).map (leftD (cnt S (S.stays t.pt) x (x + y))) ++ [leftD (cnt S (S.stays t.pt) x (x + y)) (wd, n)] = ((plains t.lim).take (i + 1)).map (leftD (cnt S (S.stays t.pt) x (x + y))) := by
      rw [List.take_add_one, hp]
      simp
    have el : (((plains t.lim).take i).map (leftD (cnt S (S.stays t.pt) x (x + y)))).length < 1000 := by
      rw [List.length_map, List.length_take]
      omega
    have hn3 := fun a b : Sl => hn2 _ ⟨a, b, rfl⟩
    simp only [← e] at hn3
    cases wd <;> exact ⟨rfl, show 3 ≤ 1000 by decide, show 3 ≤ 1000 by decide, el, hn3 _ _⟩
  · rintro ρ ⟨s11, s12, rfl⟩
    rw [List.take_length]
    refine ⟨S, t, x, hS, ht, D.near hd hx0, hx0, by omega, rfl, rfl, rfl, rfl, ?_⟩
    refine ⟨S, t, x, hS, ht, hx0, by omega, rfl, S, t, x, hS, ht, hx0, by omega, rfl, S, t, x, rfl, show 3 ≤ 1000 by decide, ?_⟩
    refine ⟨S, t, x, x + y, hS, ht, hx0, by omega, by omega, rfl, rfl, ?_⟩
    show (match reprD [.tup ((plains t.lim).map (leftD (cnt S (S.stays t.pt) x (x + y))))] with | some d => _ | none => False)
    rw [repr_ok hshL (by decide) (by decide) rfl]
    show (match reprD [.tup ((plains t.lim).map (leftD (cnt S (S.stays t.pt) x (x + y))))] with | some d => _ | none => False)
    rw [repr_ok hshL (by decide) (by decide) rfl]
    show (match !decide ((shownD (.tup ((plains t.lim).map (leftD (cnt S (S.stays t.pt) x (x + y)))))) = (shownD (.tup ((plains t.lim).map (leftD (cnt S (S.stays t.pt) x (x + y))))))) with | true => _ | false => _)
    rw [decide_eq_true rfl]
    show (match reprD [.tup [optI (earlyS S t x), optI (dueS S t x), optI (lateS S t x)]] with | some d => _ | none => False)
    rw [repr_ok hshT (by decide) (by decide) rfl]
    refine ⟨show 3 ≤ 1000 by decide, ?_⟩
    show (match reprD [.tup [optI (earlyS S t x), optI (dueS S t x), optI (lateS S t x)]] with | some d => _ | none => False)
    rw [repr_ok hshT (by decide) (by decide) rfl]
    show (match !decide ((shownD (.tup [optI (earlyS S t x), optI (dueS S t x), optI (lateS S t x)])) = (shownD (.tup [optI (earlyS S t x), optI (dueS S t x), optI (lateS S t x)]))) with | true => _ | false => _)
    rw [decide_eq_true rfl]
    have hl3 : S.ts.length ≤ 10 := hS.tsl
    have hlx : xs.length < S.ts.length := (List.getElem?_eq_some_iff.mp hj).1
    have lx : (xs.map Wd.D.int).length < 1000 := by rw [List.length_map]; omega
    have lz : (S.ts.zip xs).length < 1000 := by rw [List.length_zip]; omega
    have ld : ((S.ts.zip xs).map (dueP S)).length < 1000 := by rw [List.length_map]; exact lz
    have lk : ((S.ts.zip xs).map (keyP S)).length < 1000 := by rw [List.length_map]; exact lz
    have hn' : ∀ s5 s6 s7 s8 s9 s10 s11 s12 s13 s14 s15 s16 s17 s18 s19 : Sl, nxt (.fd :: .da (encS S) :: .ow (xs.map Wd.D.int ++ [.int x]) :: .ow ((S.ts.zip xs).map (dueP S) ++ [.due (dueL S t x)]) :: .ow ((S.ts.zip xs).map (keyP S) ++ [keyP S (t, x)]) :: [s5, s6, s7, s8, s9, s10, s11, s12, s13, s14, s15, s16, s17, s18, s19]) := by
      intro s5 s6 s7 s8 s9 s10 s11 s12 s13 s14 s15 s16 s17 s18 s19
      have := hn x s5 s6 s7 s8 s9 s10 s11 s12 s13 s14 s15 s16 s17 s18 s19 hx0 hx1
      unfold dueRho at this
      rw [zip_snoc _ _ _ _ hj, List.map_append, List.map_append, List.map_append] at this
      exact this
    refine ⟨lx, ld, ?_⟩
    cases e : lateS S t x with
    | none =>
      have hn' := hn'
      rw [show keyP S (t, x) = .tup [.int 1000000, .str t.nm, .int x] by unfold keyP; rw [e]; rfl] at hn'
      exact ⟨show 3 ≤ 1000 by decide, lk, hn' _ _ _ _ _ _ _ _ _ _ _ _ _ _ _⟩
    | some d =>
      have hn' := hn'
      rw [show keyP S (t, x) = .tup [.int d, .str t.nm, .int x] by unfold keyP; rw [e]; rfl] at hn'
      exact ⟨show 3 ≤ 1000 by decide, lk, hn' _ _ _ _ _ _ _ _ _ _ _ _ _ _ _⟩
theorem dsite_len {m : Nat} {S : Site} (D : DSite m S) (hm : m = 2 ∨ m = 3) : S.ts.length = m := by
  have := congrArg List.length D.tn
  rw [List.length_map] at this
  rw [this]
  rcases hm with rfl | rfl <;> rfl
theorem dsite_nd {m : Nat} {S : Site} (D : DSite m S) (hm : m = 2 ∨ m = 3) : (S.ts.map (·.nm)).Nodup := by
  rw [D.tn]
  rcases hm with rfl | rfl <;> decide +kernel
theorem late_lt {m : Nat} {S : Site} (D : DSite m S) {t : Task} (ht : t ∈ S.ts) {x : Int} (h0 : 0 ≤ x) (h1 : x < 9) : ∀ d, lateS S t x = some d → d < 1000000 := fun d h => by
  have f := fun d => D.fp (D.tk t ht) (L := widL t.sl t.lim) (.inr (.inl rfl)) (x := x) (d := d) h0
  unfold lateS lastS at h
  cases e : fpS S (S.stays t.pt) (widL t.sl t.lim) x with
  | none => rw [e] at h; cases h
  | some a =>
    rw [e] at h
    have h : a - 1 = d := Option.some.inj h
    have := f a e
    omega
theorem prs_of {m : Nat} {S : Site} (D : DSite m S) (hm : m = 2 ∨ m = 3) {xs : List Int} (hl : xs.length = S.ts.length) (hx : ∀ x ∈ xs, 0 ≤ x ∧ x < 9) : ∃ p0, p0 ∈ S.ts.zip xs ∧ Prs S (S.ts.zip xs) p0 := by
  have hlen : (S.ts.zip xs).length = S.ts.length := by rw [List.length_zip, hl, Nat.min_self]
  have hm2 := dsite_len D hm
  obtain ⟨p0, r, e⟩ : ∃ p0 r, S.ts.zip xs = p0 :: r := by
    cases e : S.ts.zip xs with
    | nil =>
      rw [e, List.length_nil] at hlen
      omega
    | cons p0 r => exact ⟨p0, r, rfl⟩
  have h0 : p0 ∈ S.ts.zip xs := by rw [e]; exact List.mem_cons_self
  have mem : ∀ i, (S.ts.zip xs).getD i p0 ∈ S.ts.zip xs := fun i => by
    rw [List.getD_eq_getElem?_getD]
    cases q : (S.ts.zip xs)[i]? with
    | none => exact h0
    | some p => exact List.mem_of_getElem? q
  refine ⟨p0, h0, by rw [hlen, hm2]; exact hm, fun i j hi hj hne => ?_, fun i => ?_⟩
  · rw [hlen] at hi hj
    have nd := dsite_nd D hm
    have g : ∀ i (h : i < S.ts.length), ((S.ts.zip xs).getD i p0).1.nm = (S.ts.map (·.nm))[i]'(by rw [List.length_map]; exact h) := fun i h => by
      rw [List.getD_eq_getElem?_getD, List.getElem?_eq_getElem (by rw [hlen]; exact h)]
      simp
    rw [g i hi, g j hj] at hne
    exact (List.getElem_inj nd).mp hne
  · obtain ⟨h1, h2⟩ := List.of_mem_zip (mem i)
    exact late_lt D h1 (hx _ h2).1 (hx _ h2).2
theorem cmpP_key {S : Site} (f : PyData → PyData → Bool) (p q : Task × Int) : cmpP f (keyP S p) (keyP S q) = some (.bl (f (kkD S p.1 p.2) (kkD S q.1 q.2))) := by
  have e : ∀ p, toPy (keyP S p) = some (kkD S p.1 p.2) := fun p => by
    unfold keyP kkD
    simp [toPy, toPyL]
  unfold cmpP
  rw [e, e]
  dsimp only
  rw [if_pos]
  unfold cmpOk kkD
  simp [PySem.W.alike, PySem.W.alikeAll, notNP, PyData.depth, PyData.depthAll]
theorem cmpP_dkey {S : Site} (f : PyData → PyData → Bool) (p q : Task × Int) : cmpD (cmpP f) (dueP S p) (dueP S q) = some (.bl (f (pkD S p.1 p.2) (pkD S q.1 q.2))) := by
  show cmpP f (dkey S p.1 p.2) (dkey S q.1 q.2) = _
  unfold cmpP
  rw [toPy_dkey, toPy_dkey]
  dsimp only
  rw [if_pos]
  unfold cmpOk pkD
  simp [PySem.W.alike, PySem.W.alikeAll, notNP, PyData.depth, PyData.depthAll]
theorem ne_blS (b : Bool) : neD (.bl b) (.bl b) = some (.bl false) := by
  show some (D.bl (!decide (b = b))) = _
  rw [decide_eq_true rfl]
  rfl
theorem minF_dues {ds : List D} (h : SortOk ds) : minF [.lst ds] = some (leastD ds) := by
  cases ds with
  | nil => rcases h.1 with z | z <;> simp at z
  | cons d r => exact minF_ok h
theorem nm_ok {m : Nat} {S : Site} (D : DSite m S) {t : Task} (ht : t ∈ S.ts) : PySem.PyData.strOk t.nm = true := by
  have h : t.nm ∈ S.ts.map (·.nm) := List.mem_map_of_mem ht
  rw [D.tn] at h
  have := List.mem_of_mem_take h
  simp only [List.mem_cons, List.not_mem_nil, or_false] at this
  rcases this with q | q | q <;> rw [q] <;> decide +kernel
theorem cmpD_eq {m : Nat} {S : Site} (p : Task × Int) (h : PySem.PyData.strOk p.1.nm = true) : cmpD eqD (dueP S p) (dueP S p) = some (.bl true) := by
  show eqD (dkey S p.1 p.2) (dkey S p.1 p.2) = _
  refine eqD_same ((py_tup (n := 0) fun d hd => ?_).mono (by decide))
  simp only [List.mem_cons, List.not_mem_nil, or_false] at hd
  rcases hd with q | q | q | q <;> rw [q]
  · exact py_bl _ _
  · exact py_int _ _
  · exact py_str _ h
  · exact py_int _ _
theorem due_tail {m : Nat} {S : Site} (D : DSite m S) (hm : m = 2 ∨ m = 3) {xs : List Int} (hl : xs.length = S.ts.length) (hx : ∀ x ∈ xs, 0 ≤ x ∧ x < 9) {k : Wd.D → Prop} (h : k (.bl true)) {n : List Sl → Prop} {s5 s6 s7 s8 s9 s10 s11 s12 s13 s14 s15 s16 s17 s18 s19 : Sl} :
    dueTail { nx := n, rt := k } (dueRho S xs [s5, s6, s7, s8, s9, s10, s11, s12, s13, s14, s15, s16, s17, s18, s19]) := by
  have hS := D.ok
  have hm2 := dsite_len D hm
  obtain ⟨p0, hp0, PR⟩ := prs_of D hm hl hx
  have hsort : SortOk (duesD S S.ts xs) := sortOk_dues hl (by rw [hm2]; exact hm)
  have hlen : (S.ts.zip xs).length = S.ts.length := by rw [List.length_zip, hl, Nat.min_self]
  generalize hps : S.ts.zip xs = ps at *
  have hds : duesD S S.ts xs = ps.map (dueP S) := by unfold duesD; rw [hps]
  rw [hds] at hsort
  have hln : ps.length ≤ 10 := by rw [hlen]; exact hS.tsl
  have mem : ∀ i, ps.getD i p0 ∈ ps := fun i => by
    rw [List.getD_eq_getElem?_getD]
    cases q : ps[i]? with
    | none => exact hp0
    | some p => exact List.mem_of_getElem? q
  have at_ : ∀ j, j < ps.length → ps[j]? = some (ps.getD j p0) := fun j hj => by
    rw [List.getD_eq_getElem?_getD, List.getElem?_eq_getElem hj]
    rfl
  have hnm : ∀ i, PySem.PyData.strOk (ps.getD i p0).1.nm = true := fun i => by
    have h9 : ps.getD i p0 ∈ S.ts.zip xs := by rw [hps]; exact mem i
    generalize ps.getD i p0 = z at *
    exact nm_ok D (List.of_mem_zip (a := z.1) (b := z.2) h9).1
  obtain ⟨i0, r0, ho, hle⟩ := PR.least
  unfold dueRho
  rw [hps]
  walk_at "wd"
  refine ⟨rfl, ps.length, ps.map (keyP S), kzD S ps p0, ?_⟩
  refine ⟨by rw [← List.length_map (f := dueP S)], by omega, rfl, fun j hj => ⟨keyP S (ps.getD j p0), by rw [List.getElem?_map, at_ j hj]; rfl, rfl⟩, fun d hd d' hd' => ?_, .inl fun d hd => ?_, fun j hj => ?_, ?_⟩
  · obtain ⟨i, _, rfl⟩ := List.mem_map.mp hd
    obtain ⟨j, _, rfl⟩ := List.mem_map.mp hd'
    unfold kzD kkD
    simp [PySem.W.alike, PySem.W.alikeAll]
  · obtain ⟨i, _, rfl⟩ := List.mem_map.mp hd
    exact ⟨_, _, rfl⟩
  · unfold kzD kkD
    simp [PyData.depth, PyData.depthAll]
  have hol : (ordD S ps p0).length ≤ 1000 := by rw [PR.ord_len]; omega
  have h2 : 2 ≤ ps.length := by rcases PR.n with e | e <;> omega
  show wLc _ _ _ _ _ _ _
  refine wLc_map (fun i => dueP S (ps.getD i p0)) (fun i => Wd.D.str (ps.getD i p0).1.nm) (ordD S ps p0) (fun K' hk => ?_) hol (fun i hi kk hk => ?_) ?_
  · show (match sortF [.lst (ps.map (dueP S))] with | some d => _ | none => False)
    rw [sortF_ok hsort, PR.sort]
    have e : (ordD S ps p0).map (fun i => (ps.map (dueP S)).getD i .non) = (ordD S ps p0).map (fun i => dueP S (ps.getD i p0)) := List.map_congr_left fun i hi => getD_dues S (PR.ord_lt hi)
    rw [e]
    exact hk
  · exact ⟨S, _, _, rfl, hk⟩
  refine wLc_map (fun i : Nat => Wd.D.int (i : Int)) (fun i => Wd.D.str (ps.getD i p0).1.nm) (ordD S ps p0) (fun K' hk => hk) hol (fun i hi kk hk => ?_) ?_
  · show (match atI (ps.map (dueP S)) (i : Int) with | some d => _ | none => False)
    rw [atI_map (dueP S) (at_ i (PR.ord_lt hi))]
    exact ⟨S, _, _, rfl, hk⟩
  have a0 : atI (ps.map (dueP S)) 0 = some (dueP S (ps.getD 0 p0)) := atI_map (j := 0) _ (at_ 0 (by omega))
  have a1 : atI (ps.map (dueP S)) 1 = some (dueP S (ps.getD 1 p0)) := atI_map (j := 1) _ (at_ 1 (by omega))
  have k0 : atI (ps.map (keyP S)) 0 = some (keyP S (ps.getD 0 p0)) := atI_map (j := 0) _ (at_ 0 (by omega))
  have k1 : atI (ps.map (keyP S)) 1 = some (keyP S (ps.getD 1 p0)) := atI_map (j := 1) _ (at_ 1 (by omega))
  have hA : PySem.W.dataLt (pkD S (ps.getD 0 p0).1 (ps.getD 0 p0).2) (pkD S (ps.getD 1 p0).1 (ps.getD 1 p0).2) = PySem.W.dataLt (kkD S (ps.getD 0 p0).1 (ps.getD 0 p0).2) (kkD S (ps.getD 1 p0).1 (ps.getD 1 p0).2) := lt_pk_kk (PR.lt 0) (PR.lt 1)
  have hB : leP (pkD S (ps.getD 0 p0).1 (ps.getD 0 p0).2) (pkD S (ps.getD 1 p0).1 (ps.getD 1 p0).2) = leP (kkD S (ps.getD 0 p0).1 (ps.getD 0 p0).2) (kkD S (ps.getD 1 p0).1 (ps.getD 1 p0).2) := congrArg not (lt_pk_kk (PR.lt 1) (PR.lt 0))
  have hN : neD (.lst ((ordD S ps p0).map fun i => Wd.D.str (ps.getD i p0).1.nm)) (.lst ((ordD S ps p0).map fun i => Wd.D.str (ps.getD i p0).1.nm)) = some (.bl false) := neD_same ((py_lst (n := 0) fun d hd => by
    obtain ⟨i, _, rfl⟩ := List.mem_map.mp hd
    exact py_str 0 (hnm i)).mono (by decide))
  have hi0 : i0 < ps.length := PR.ord_lt (by rw [ho]; exact List.mem_cons_self)
  have hC : leastD (ps.map (dueP S)) = dueP S (ps.getD i0 p0) := hle.trans (getD_dues S hi0)
  have e0 : atI ((ordD S ps p0).map fun i : Nat => Wd.D.int (i : Int)) 0 = some (.int (i0 : Int)) := by rw [ho]; exact atI_get (j := 0) rfl
  have e1 : atI (ps.map (dueP S)) (i0 : Int) = some (dueP S (ps.getD i0 p0)) := atI_map (dueP S) (at_ i0 hi0)
  have h23 : S.ts.length = 2 ∨ S.ts.length = 3 := by rw [hm2]; exact hm
  simp only [hN, a0, a1, k0, k1, cmpP_dkey, cmpP_key, hA, hB, ne_blS, minF_dues hsort]
  refine ⟨S, xs, hS, hl, h23, fun x hx' => ⟨(hx x hx').1, by have := hx x hx'; omega⟩, rfl, rfl, ?_⟩
  rw [hds, hC]
  simp only [cmpD_eq (m := m) (ps.getD i0 p0) (hnm i0)]
  refine ⟨S, _, _, rfl, ?_⟩
  show (match atI ((ordD S ps p0).map fun i : Nat => Wd.D.int (i : Int)) 0 with | some d => _ | none => False)
  rw [e0]
  show (match atI (ps.map (dueP S)) (i0 : Int) with | some d => _ | none => False)
  rw [e1]
  refine ⟨S, _, _, rfl, ?_⟩
  show (match eqD (.str (ps.getD i0 p0).1.nm) (.str (ps.getD i0 p0).1.nm) with | some d => _ | none => False)
  rw [eq_str]
  exact h
end Wd
set_option maxRecDepth 100000
set_option maxHeartbeats 4000000
namespace Wd
open PySem PySem.Spec PyProof.Rows L2
local macro_rules | `(tactic| walk_at "wd") => `(tactic| simp only [startW, Ar.sl, List.map_cons, List.map_nil, List.replicate, List.cons_append, List.nil_append, List.length_cons, List.length_nil, Nat.reduceAdd, Nat.reduceSub, List.getElem?_cons_zero, List.getElem?_cons_succ, List.set_cons_zero, List.set_cons_succ,
  wSeq, wNext, wRet, wAsg, wIfS, wBreak, wNever, wExp, wVar, wC, wOp, wUn, wCB, wNil, wCons, wTup, wLst, wKey, intsD, Option.map_some, wIf, wB, wNot, wAnd, wOr, wAndV, wOrV, wNotV, wIsi, wChain, wCall, wcNil, wcCons, wcFeed, gwName, gwNil, gwCons, gwTup, wIdxT, wIdxL, tupK, lstK, wSlT, wSlL, wRev, wStar, spliceD, wLenO, wFrz, wOwnL, wOwnD, wApp, wExt, wPop, wDPut, wDGet, keyD, wPar, wPar3, wParOD, wParDO, blD, intK, strD, woNone, woSome, wiL, wiT, wiS, wiR1, wiR2, wiEnumT, wiZipT, wFInt, wFCells, wFSet, tyOf, kit_ii, kit_bi, kit_bb, kit_ib, kit_ss, kit_tt, kit_ts, kit_si,
  addI, subI, ltI, leI, gtI, geI, negI, isN, notN, isNon, ixD, lenD, min2D, max2D, intD, tupD, lstD, wYes, wipeW, wSlt, wIsD, wOb, wCallO, wMakeL, wOwn3, Bool.not_true, Bool.not_false, true_and, and_true, Nat.reduceLeDiff, Nat.zero_le])
def s__law_due_right : WF := S2 fun a b k => a = .fd ∧ ∃ m S, (m = 2 ∨ m = 3) ∧ DSite m S ∧ b = .da (encS S) ∧ k (.bl true)
theorem sc__law_due_right : FnScope ["_law_feed_here", "_law_site_here", "_law_bases", "_law_dues", "_law_keys", "_law_task", "_law_base", "_law_due", "_law_day", "_law_counts_here", "_law_left", "_law_word", "_law_n", "_law_early", "_law_own", "_law_late", "_law_told", "_law_order", "_law_one", "_law_k"] ["_law_feed_here", "_law_site_here"] (defScope (top 96)) := ⟨rfl, rfl, rfl, by decide +kernel, rfl, by decide +kernel, by decide +kernel⟩
theorem ok__law_due_right {P : Program} {w : World} {K : PySem.W.Frag} {mg : Str → Option Value} {base : Heap} (E : En K mg) (TB : LamX.TabB base mg (He.codeOf K ("_law_due_right", none)) (lamP K)) : OkG P w K mg base 17 "_law_due_right" ["_law_feed_here", "_law_site_here"] s__law_due_right := by
  have T := E.t
  have G__law_draw := ok__law_draw (P := P) (w := w) (base := base) E
  have G__law_counts := ok__law_counts (P := P) (w := w) (base := base) E
  have G__law_plains := ok__law_plains (P := P) (w := w) (base := base) E
  have G__law_three := ok__law_three (P := P) (w := w) (base := base) E
  have G_lt := ok_Due___lt__ (P := P) (w := w) (base := base) E
  have G_le := ok_Due___le__ (P := P) (w := w) (base := base) E
  have G_eq := ok_Due___eq__ (P := P) (w := w) (base := base) E
  have G_mk := ok_Due___init__ (P := P) (w := w) (base := base) E
  have G_co := ok_Due___call__ (P := P) (w := w) (base := base) E
  have GP_name := ok_Due_name (P := P) (w := w) (base := base) E
  have GP_early_on := ok_Due_early_on (P := P) (w := w) (base := base) E
  have GP_due_on := ok_Due_due_on (P := P) (w := w) (base := base) E
  have GP_late_on := ok_Due_late_on (P := P) (w := w) (base := base) E
  have G_near := ok_Due_nearest (P := P) (w := w) (base := base) E
  refine mkOkG E 73 d__law_due_right rfl rfl rfl rfl rfl fun fd F => ⟨FunD.okWGc (d := ("_law_due_right", none)) F sc__law_due_right S2.len fun A outer s H Er hr gd => ?_, F.bindsN fun _ _ _ _ _ _ us hl => match us, hl with | [_, _], _ => rfl⟩
  have nd := sc__law_due_right.nd
  refine ⟨_, _, (ssw_cons (sw_own3 K 2 3 4 nd) (ssw_cons (sw_for PassesOwn.never (kiT K (kix K (ew_var 1) ew_int (fun _ _ => rfl))) (gw_name 5 nd) (ssw_cons (sw_set 6 nd (kcall K G__law_draw (hr.mono (by omega)) (cw_feed 0 (cw_cons ew_int cw_nil)))) (ssw_cons (spar (i := 7) (j := 8) nd (aw_cons (ew_make K E.du G_mk (hr.mono (by omega)) (cw_cons (ew_var 1) (cw_cons (kix K (ew_var 5) ew_int (fun _ _ => rfl)) (cw_cons (ew_var 6) cw_nil)))) (aw_cons (ew_op op_add lo_add (ew_var 6) (kcall K G__law_draw (hr.mono (by omega)) (cw_feed 0 (cw_cons ew_int cw_nil)))) aw_nil))) (ssw_cons (sparDO (i := 9) (j := 10) nd (kcall K G__law_counts (hr.mono (by omega)) (cw_cons (ew_var 1) (cw_cons (kix K (ew_var 5) ew_int (fun _ _ => rfl)) (cw_cons (ew_var 6) (cw_cons (ew_var 8) cw_nil)))))) (ssw_cons (sw_for PassesOwn.never (kiL K (kcall K G__law_plains (hr.mono (by omega)) (cw_cons (kix K (ew_var 5) ew_int (fun _ _ => rfl)) cw_nil))) (ktup K (n := 2) (gsc (gw_name 11 nd) (gsc (gw_name 12 nd) gsw_nil))) (ssw_one (sapp 10 (ew_tup (aw_cons (ew_var 11) (aw_cons (ew_var 12) (aw_cons (ew_op op_sub lo_sub (ew_var 12) (kix K (ew_var 9) (ktidx K (ew_tup (aw_cons ew_str (aw_cons ew_str (aw_cons ew_str aw_nil)))) (ew_var 11)) (fun _ _ => rfl))) aw_nil))))))) (ssw_cons (sasg (kcall K G__law_three (hr.mono (by omega)) (cw_cons (ew_var 1) (cw_cons (ew_var 5) (cw_cons (ew_var 6) cw_nil)))) (ktup K (n := 3) (gsc (gw_name 13 nd) (gsc (gw_name 14 nd) (gsc (gw_name 15 nd) gsw_nil))))) (ssw_cons (sw_set 16 nd (ew_tup (aw_cons (ew_prop K E.du E.du.pe GP_early_on (hr.mono (by omega)) (ew_var 7)) (aw_cons (ew_prop K E.du E.du.pd GP_due_on (hr.mono (by omega)) (ew_var 7)) (aw_cons (ew_prop K E.du E.du.pl GP_late_on (hr.mono (by omega)) (ew_var 7)) aw_nil))))) (ssw_frz 10 (ssw_cons (sw_if (BW.tw (bw_or (tkne K hr.units (kB K (rr := rRepr) (call_reprD gd hr.units) lc_repr T.repr bb_repr (aw_cons (ew_callO K E.du G_co (hr.mono (by omega)) (ew_var 7) (cw_cons (ew_var 8) cw_nil)) aw_nil)) (kB K (rr := rRepr) (call_reprD gd hr.units) lc_repr T.repr bb_repr (aw_cons (kT K (rr := rTupF) call_tupF lc_tup T.tuple bb_tuple (aw_cons (ew_var 10) aw_nil)) aw_nil))) (bw_or1 (tkne K hr.units (kB K (rr := rRepr) (call_reprD gd hr.units) lc_repr T.repr bb_repr (aw_cons (ew_var 16) aw_nil)) (kB K (rr := rRepr) (call_reprD gd hr.units) lc_repr T.repr bb_repr (aw_cons (ew_tup (aw_cons (ew_var 13) (aw_cons (ew_var 14) (aw_cons (ew_var 15) aw_nil)))) aw_nil)))))) (ssw_one (sw_ret ew_bl)) ssw_nil) (ssw_cons (sapp 2 (ew_var 6)) (ssw_cons (sapp 3 (ew_var 7)) (ssw_one (sapp 4 (ew_tup (aw_cons (ew_if (tw_cmp op_isN lo_isN (ew_var 15) ew_non (nomark _)) (ew_op op_pow lo_pow ew_int ew_int) (ew_var 15)) (aw_cons (kix K (ew_var 5) ew_int (fun _ _ => rfl)) (aw_cons (ew_var 6) aw_nil))))))))))))))))) (ssw_frz 2 (ssw_frz 3 (ssw_frz 4 (ssw_cons (sw_set 17 nd (ew_sortKey (k := 1) (i := 4) K T (kB K (rr := rLenK) call_len lc_len T.len bb_len (aw_cons (ew_var 3) aw_nil)) TB rfl (hr.mono (by omega)))) (ssw_cons (sw_if (tkne K hr.units (ew_lc [("_law_one", 18)] nd (kiL K (kSortD K E.du T G_lt (meth_lt E) (hr.mono (by omega)) (aw_cons (ew_var 3) aw_nil))) (by show blkC ["_law_feed_here", "_law_site_here", "_law_bases", "_law_dues", "_law_keys", "_law_task", "_law_base", "_law_due", "_law_day", "_law_counts_here", "_law_left", "_law_word", "_law_n", "_law_early", "_law_own", "_law_late", "_law_told", "_law_order", "_law_one", "_law_k"] (defScope (top 96)) _ _ = true; decide +kernel) (fun _ _ _ _ _ => (gw_name 18 nd)) (fun _ _ _ _ _ => qw_nil) (fun _ _ _ _ _ => (ew_prop K E.du E.du.pn GP_name (hr.mono (by omega)) (ew_var 18)))) (ew_lc [("_law_k", 19)] nd (kiL K (ew_var 17)) (by show blkC ["_law_feed_here", "_law_site_here", "_law_bases", "_law_dues", "_law_keys", "_law_task", "_law_base", "_law_due", "_law_day", "_law_counts_here", "_law_left", "_law_word", "_law_n", "_law_early", "_law_own", "_law_late", "_law_told", "_law_order", "_law_one", "_law_k"] (defScope (top 96)) _ _ = true; decide +kernel) (fun _ _ _ _ _ => (gw_name 19 nd)) (fun _ _ _ _ _ => qw_nil) (fun _ _ _ _ _ => (ew_prop K E.du E.du.pn GP_name (hr.mono (by omega)) (kix K (ew_var 3) (ew_var 19) (fun _ _ => rfl)))))) (ssw_one (sw_ret ew_bl)) ssw_nil) (ssw_cons (sw_if (BW.tw (bw_or (tkne K hr.units (kcmpO K (by rfl) (fun _ _ => rfl) G_lt (meth_lt E) (hr.mono (by omega)) (kix K (ew_var 3) ew_int (fun _ _ => rfl)) (kix K (ew_var 3) ew_int (fun _ _ => rfl))) (kltP K hr.units (kix K (ew_var 4) ew_int (fun _ _ => rfl)) (kix K (ew_var 4) ew_int (fun _ _ => rfl)))) (bw_or1 (tkne K hr.units (kcmpO K (by rfl) (fun _ _ => rfl) G_le (meth_le E) (hr.mono (by omega)) (kix K (ew_var 3) ew_int (fun _ _ => rfl)) (kix K (ew_var 3) ew_int (fun _ _ => rfl))) (kleP K hr.units (kix K (ew_var 4) ew_int (fun _ _ => rfl)) (kix K (ew_var 4) ew_int (fun _ _ => rfl))))))) (ssw_one (sw_ret ew_bl)) ssw_nil) (ssw_one (sw_ret (ew_and (kcmpO K (by rfl) (fun _ _ => rfl) G_eq (meth_eq E) (hr.mono (by omega)) (kMinD K E.du T G_lt (meth_lt E) (hr.mono (by omega)) (aw_cons (ew_var 3) aw_nil)) (ew_near K E.du G_near (hr.mono (by omega)) (cw_cons (ew_var 1) (cw_cons (kT K (rr := rTupF) call_tupF lc_tup T.tuple bb_tuple (aw_cons (ew_var 2) aw_nil)) cw_nil)))) (ew_one (keq K hr.units (ew_prop K E.du E.du.pn GP_name (hr.mono (by omega)) (kMinD K E.du T G_lt (meth_lt E) (hr.mono (by omega)) (aw_cons (ew_var 3) aw_nil))) (ew_prop K E.du E.du.pn GP_name (hr.mono (by omega)) (kix K (ew_var 3) (kix K (ew_var 17) ew_int (fun _ _ => rfl)) (fun _ _ => rfl)))))))))))))))), S2.el ?_⟩
  rintro _ _ k ⟨rfl, m, S, hm, D, rfl, h⟩
  walk_at "wd"
  show forGo _ _ _ (S.ts.map encT) _
  refine for_inv0 encT S.ts (fun j ρ => ∃ (xs : List Int) (s5 s6 s7 s8 s9 s10 s11 s12 s13 s14 s15 s16 s17 s18 s19 : Sl), xs.length = j ∧ (∀ x ∈ xs, 0 ≤ x ∧ x < 9) ∧ ρ = dueRho S xs [s5, s6, s7, s8, s9, s10, s11, s12, s13, s14, s15, s16, s17, s18, s19])
    ⟨[], .un, .un, .un, .un, .un, .un, .un, .un, .un, .un, .un, .un, .un, .un, .un, rfl, fun _ z => (nomatch z), by unfold dueRho; rw [List.zip_nil_right]; rfl⟩ ?_ ?_
  · rintro j t ρ nxt hj ⟨xs, s5, s6, s7, s8, s9, s10, s11, s12, s13, s14, s15, s16, s17, s18, s19, hl, hx, rfl⟩ hn
    subst hl
    refine due_step D hj fun x s5 s6 s7 s8 s9 s10 s11 s12 s13 s14 s15 s16 s17 s18 s19 h0 h1 => hn _ ⟨xs ++ [x], s5, s6, s7, s8, s9, s10, s11, s12, s13, s14, s15, s16, s17, s18, s19, by rw [List.length_append]; rfl, fun z hz => ?_, rfl⟩
    rcases List.mem_append.mp hz with q | q
    · exact hx z q
    · rw [List.mem_singleton.mp q]
      exact ⟨h0, h1⟩
  · rintro ρ ⟨xs, s5, s6, s7, s8, s9, s10, s11, s12, s13, s14, s15, s16, s17, s18, s19, hl, hx, rfl⟩
    exact due_tail D hm hl hx h
end Wd
set_option maxRecDepth 100000
set_option maxHeartbeats 2000000
namespace Wd
open PySem PySem.Spec PyProof.Rows L2
local macro_rules | `(tactic| walk_at "wd") => `(tactic| simp only [startW, Ar.sl, List.map_cons, List.map_nil, List.replicate, List.cons_append, List.nil_append, List.length_cons, List.length_nil, Nat.reduceAdd, Nat.reduceSub, List.getElem?_cons_zero, List.getElem?_cons_succ, List.set_cons_zero, List.set_cons_succ,
  wSeq, wNext, wRet, wAsg, wIfS, wBreak, wNever, wExp, wVar, wC, wOp, wUn, wCB, wNil, wCons, wTup, wLst, wKey, intsD, Option.map_some, wIf, wB, wNot, wAnd, wOr, wAndV, wOrV, wNotV, wIsi, wChain, wCall, wcNil, wcCons, wcFeed, gwName, gwNil, gwCons, gwTup, wIdxT, wIdxL, tupK, lstK, wSlT, wSlL, wRev, wStar, spliceD, wLenO, wFrz, wOwnL, wOwnD, wApp, wExt, wPop, wDPut, wDGet, keyD, wPar, wPar3, wParOD, wParDO, blD, intK, strD, woNone, woSome, wiL, wiT, wiS, wiR1, wiR2, wiEnumT, wiZipT, wFInt, wFCells, wFSet, tyOf, kit_ii, kit_bi, kit_bb, kit_ib, kit_ss, kit_tt, kit_ts, kit_si,
  addI, subI, ltI, leI, gtI, geI, negI, isN, notN, isNon, ixD, lenD, min2D, max2D, intD, tupD, lstD, wYes, wipeW, Bool.not_true, Bool.not_false, true_and, and_true, Nat.reduceLeDiff, Nat.zero_le])
/-! ### counts right -/
theorem eq_UW (u : Int × Int) : eqD (encU u) (.wtp [.int u.1, .int u.2]) = some (.bl true) := by
  have a1 : toPy (encU u) = some (.tuple [.int u.1, .int u.2]) := by simp [encU, toPy, toPyL]
  have a2 : toPy (.wtp [.int u.1, .int u.2]) = some (.tuple [.int u.1, .int u.2]) := by simp [toPy, toPyL]
  have b : (PyData.tuple [.int u.1, .int u.2]).canLay0 = true := by simp [PyData.canLay0, PyData.canLayAll0]
  have c : (PyData.tuple [.int u.1, .int u.2]).depth ≤ 64 := by simp [PyData.depth, PyData.depthAll]
  have e := eqD_sh a1 a2 b b c c
  rw [SeqAt.eqv_refl _ b] at e
  exact e
def s__law_counts_right : WF := S2 fun a b k => a = .fd ∧ ∃ S m, DSite m S ∧ OkS S ∧ b = .da (encS S) ∧ k (.bl true)
theorem sc__law_counts_right : FnScope ["_law_feed_here", "_law_site_here", "_law_part", "_law_first", "_law_last", "_law_place", "_law_use_here"] ["_law_feed_here", "_law_site_here"] (defScope (top 90)) := ⟨rfl, rfl, rfl, by decide +kernel, rfl, by decide +kernel, by decide +kernel⟩
theorem ok__law_counts_right {P : Program} {w : World} {K : PySem.W.Frag} {mg : Str → Option Value} {base : Heap} (E : En K mg) : OkG P w K mg base 6 "_law_counts_right" ["_law_feed_here", "_law_site_here"] s__law_counts_right := by
  have T := E.t
  have G__law_draw := ok__law_draw (P := P) (w := w) (base := base) E
  have G__law_pick := ok__law_pick (P := P) (w := w) (base := base) E
  have G_counts_between := ok_counts_between (P := P) (w := w) (base := base) E
  have G__law_counts := ok__law_counts (P := P) (w := w) (base := base) E
  have G_place_of := ok_place_of (P := P) (w := w) (base := base) E
  have G_use_of := ok_use_of (P := P) (w := w) (base := base) E
  have G__law_use := ok__law_use (P := P) (w := w) (base := base) E
  refine mkOkG E 67 d__law_counts_right rfl rfl rfl rfl rfl fun fd F => ⟨FunD.okWG F sc__law_counts_right S2.len fun cdv A outer s H Er hr gd => ?_, F.bindsN fun _ _ _ _ _ _ us hl => match us, hl with | [_, _], _ => rfl⟩
  have nd := sc__law_counts_right.nd
  refine ⟨_, _, (ssw_cons (spar (i := 2) (j := 3) nd (aw_cons (kcall K G__law_pick (hr.mono (by omega)) (cw_feed 0 (cw_cons (ew_lst (aw_cons ew_str (aw_cons ew_str aw_nil))) cw_nil))) (aw_cons (kcall K G__law_draw (hr.mono (by omega)) (cw_feed 0 (cw_cons ew_int cw_nil))) aw_nil))) (ssw_cons (sw_set 4 nd (ew_op op_add lo_add (ew_var 3) (kcall K G__law_draw (hr.mono (by omega)) (cw_feed 0 (cw_cons ew_int cw_nil))))) (ssw_cons (sw_if (tkne K hr.units (kB K (rr := rRepr) (call_reprD gd hr.units) lc_repr T.repr bb_repr (aw_cons (kcall K G_counts_between (hr.mono (by omega)) (cw_cons (ew_var 1) (cw_cons (ew_var 2) (cw_cons (ew_var 3) (cw_cons (ew_var 4) cw_nil))))) aw_nil)) (kB K (rr := rRepr) (call_reprD gd hr.units) lc_repr T.repr bb_repr (aw_cons (kcall K G__law_counts (hr.mono (by omega)) (cw_cons (ew_var 1) (cw_cons (ew_var 2) (cw_cons (ew_var 3) (cw_cons (ew_var 4) cw_nil))))) aw_nil))) (ssw_one (sw_ret ew_bl)) ssw_nil) (ssw_cons (sw_set 5 nd (kcall K G_place_of (hr.mono (by omega)) (cw_cons (ew_var 1) (cw_cons (ew_var 2) (cw_cons (ew_var 3) cw_nil))))) (ssw_cons (sw_set 6 nd (ew_if (tw_cmp op_isN lo_isN (ew_var 5) ew_non (nomark _)) (ew_tup (aw_cons ew_int (aw_cons ew_int aw_nil))) (kcall K G_use_of (hr.mono (by omega)) (cw_cons (ew_var 1) (cw_cons (ew_var 5) (cw_cons (ew_var 3) cw_nil)))))) (ssw_one (sw_ret (ew_and (keq K hr.units (ew_var 6) (kcall K G__law_use (hr.mono (by omega)) (cw_cons (ew_var 1) (cw_cons (ew_var 2) (cw_cons (ew_var 3) cw_nil))))) (ew_one (keq K hr.units (ew_var 6) (kslT K (kcall K G_counts_between (hr.mono (by omega)) (cw_cons (ew_var 1) (cw_cons (ew_var 2) (cw_cons (ew_var 3) (cw_cons (ew_op op_add lo_add (ew_var 3) ew_int) cw_nil))))) ow_none (ow_some ew_int)))))))))))), S2.el ?_⟩
  rintro _ _ k ⟨rfl, S, m, hD, hS, rfl, h⟩
  refine ⟨show 2 ≤ 1000 by decide, rfl, _, rfl, show 0 < 2 by decide, show 2 ≤ 1000 by decide, fun d hd => ?_⟩
  obtain ⟨z, hz, rfl⟩ : ∃ z : Str, (z = "cog" ∨ z = "pin") ∧ d = .str z := by
    rcases List.mem_cons.mp hd with q | q
    · exact ⟨_, .inl rfl, q⟩
    · exact ⟨_, .inr rfl, List.mem_singleton.mp q⟩
  obtain ⟨ss, hm, _⟩ := hD.part hz
  have hs : OkSts S.ms ss := (hS.psi _ hm).2
  refine ⟨rfl, 9, rfl, by decide, by decide, fun x hx0 hx1 => ⟨rfl, 9, rfl, by decide, by decide, fun y hy0 hy1 => ?_⟩⟩
  walk_at "wd"
  have hsh := cnt_sh hS hs hx0 (y := x + y) (by omega) (by omega)
  refine ⟨S, z, ss, x, x + y, hS, hm, hx0, by omega, by omega, rfl, rfl, rfl, rfl, ?_⟩
  show (match reprD [.tup (cnt S ss x (x + y)).ds] with | some d => _ | none => False)
  rw [repr_ok hsh (by decide) (by decide) rfl]
  refine ⟨S, z, ss, x, x + y, hS, hm, hx0, by omega, by omega, by omega, rfl, rfl, rfl, rfl, ?_⟩
  show (match reprD [.tup (cnt S ss x (x + y)).ds] with | some d => _ | none => False)
  rw [repr_ok hsh (by decide) (by decide) rfl]
  show (match !decide (shownD (.tup (cnt S ss x (x + y)).ds) = shownD (.tup (cnt S ss x (x + y)).ds)) with | true => _ | false => _)
  rw [decide_eq_true rfl]
  refine ⟨S, z, ss, x, hS, hm, hx0, rfl, rfl, rfl, ?_⟩
  have fin : ∀ u, u = useAt S ss x → s__law_use [.da (encS S), .da (.str z), .da (.int x)] fun y => (match eqD (encU u) y with
      | some d => blD d fun b => (match b with
        | true => s_counts_between [.da (encS S), .da (.str z), .da (.int x), .da (.int (x + 1))] fun o => (match o with
          | .tup ds => (match eqD (encU u) (.wtp (cutD ds none (some 2))) with
            | some d => k d
            | none => False)
          | _ => False)
        | false => k (.bl false))
      | none => False) := fun u hu => by
    refine ⟨S, z, ss, x, hS, hm, hx0, rfl, rfl, rfl, ?_⟩
    rw [← hu]
    dsimp only
    rw [eqD_same ((py_U u).mono (by decide))]
    refine ⟨S, z, ss, x, x + 1, hS, hm, hx0, by omega, by omega, rfl, rfl, rfl, rfl, ?_⟩
    have ec : cutD (cnt S ss x (x + 1)).ds none (some 2) = [.int u.1, .int u.2] := by
      show [D.int (sumU (fun d => (useAt S ss d).1) x (x + 1)), D.int (sumU (fun d => (useAt S ss d).2) x (x + 1))] = _
      rw [sumU_succ (Int.le_refl x), sumU_succ (Int.le_refl x), sumU_nil (Int.le_refl x), sumU_nil (Int.le_refl x), hu, Int.zero_add, Int.zero_add]
    show (match eqD (encU u) (.wtp (cutD (cnt S ss x (x + 1)).ds none (some 2))) with | some d => k d | none => False)
    rw [ec, eq_UW]
    exact h
  cases e : placeOn ss x with
  | none =>
    have hu : ((0, 0) : Int × Int) = useAt S ss x := by
      unfold useAt
      rw [e]
    exact fin _ hu
  | some y =>
    obtain ⟨s, h1, h2⟩ := placeOn_mem e
    obtain ⟨us, h3⟩ := hs.mem s h1 y h2
    have hu : useOn us x = useAt S ss x := by
      unfold useAt
      rw [e]
      show useOn us x = useOn (S.uses y) x
      rw [uses_mem hS.msn h3]
    exact ⟨S, y, us, x, hS, h3, hx0, rfl, rfl, rfl, fin _ hu⟩
end Wd
set_option maxRecDepth 100000
set_option maxHeartbeats 4000000
namespace Wd
open PySem PySem.Spec PyProof.Rows L2
local macro_rules | `(tactic| walk_at "wd") => `(tactic| simp only [startW, Ar.sl, List.map_cons, List.map_nil, List.replicate, List.cons_append, List.nil_append, List.length_cons, List.length_nil, Nat.reduceAdd, Nat.reduceSub, List.getElem?_cons_zero, List.getElem?_cons_succ, List.set_cons_zero, List.set_cons_succ,
  wSeq, wNext, wRet, wAsg, wIfS, wBreak, wNever, wExp, wVar, wC, wOp, wUn, wCB, wNil, wCons, wTup, wLst, wKey, intsD, Option.map_some, wIf, wB, wNot, wAnd, wOr, wAndV, wOrV, wNotV, wIsi, wChain, wCall, wcNil, wcCons, wcFeed, gwName, gwNil, gwCons, gwTup, wIdxT, wIdxL, tupK, lstK, wSlT, wSlL, wRev, wStar, spliceD, wLenO, wFrz, wOwnL, wOwnD, wApp, wExt, wPop, wDPut, wDGet, keyD, wPar, wPar3, wParOD, wParDO, blD, intK, strD, woNone, woSome, wiL, wiT, wiS, wiR1, wiR2, wiEnumT, wiZipT, wFInt, wFCells, wFSet, tyOf, kit_ii, kit_bi, kit_bb, kit_ib, kit_ss, kit_tt, kit_ts, kit_si,
  addI, subI, ltI, leI, gtI, geI, negI, isN, notN, isNon, ixD, lenD, min2D, max2D, intD, tupD, lstD, wYes, wipeW, wSlt, wIsD, wOb, wCallO, wMakeL, wOwn3, wCall0, Bool.not_true, Bool.not_false, true_and, and_true, Nat.reduceLeDiff, Nat.zero_le])
/-! ### the law -/
abbrev N_law : List Str := ["_law_script", "_law_feed_here", "_law_lap", "_law_site_here", "_law_task"]
theorem sc_law : FnScope N_law ["_law_script"] (defScope (top 98)) := ⟨rfl, rfl, rfl, by decide +kernel, rfl, by decide +kernel, by decide +kernel⟩
def spLaw (K : PySem.W.Frag) : Sp := fun vs H Q _ => ∃ (a : Addr) (ns : List Int), vs = [.ref a] ∧ SqL K H a (ns.map V.int) ∧ TabQ K H ∧ ∀ H', Q (.bl true) H'
theorem ok_law {K : PySem.W.Frag} {mg : Str → Option Value} (E : En K mg) : ∃ fd, (∀ (P : Program) (w : World) (base : Heap), LamX.TabB base mg (He.codeOf K ("_law_due_right", none)) (lamP K) → FnG P w K mg base 19 (He.ga K "law") fd ["_law_script"] (spLaw K)) ∧ ∀ (s : Shared) (u : Value), BindsTo s fd ⟨[u], []⟩ [("_law_script", u)] := by
  obtain ⟨fd, F⟩ := E.d.def_ 75 (d := d_law) rfl
  refine ⟨fd, fun P w base TB => ?_, fun s v => FunD.bindsA (ps := ["_law_script"]) F (fun _ _ _ _ _ _ us hl => match us, hl with | [_], _ => rfl) s [v] rfl⟩
  have T := E.t
  have G__law_feed := ok__law_feed (P := P) (w := w) (base := base) E
  have G__law_far_right := ok__law_far_right (P := P) (w := w) (base := base) E
  have G__law_site := ok__law_site (P := P) (w := w) (base := base) E
  have G__law_draw := ok__law_draw (P := P) (w := w) (base := base) E
  have G__law_due_right := ok__law_due_right (P := P) (w := w) (base := base) E TB
  have G__law_counts_right := ok__law_counts_right (P := P) (w := w) (base := base) E
  have G__law_days_right := ok__law_days_right (P := P) (w := w) (base := base) E
  have G__law_limit_right := ok__law_limit_right (P := P) (w := w) (base := base) E
  have G__law_rows_right := ok__law_rows_right (P := P) (w := w) (base := base) E
  have nd := sc_law.nd
  refine Wd.FunD.okG F sc_law (fun vs H Q E h => ?_) (fun cdv A outer s H vs Q Er hr gd h => ?_)
  · obtain ⟨_, _, rfl, _⟩ := h
    rfl
  · obtain ⟨ff, hf1, hf2⟩ := G__law_feed.ok
    obtain ⟨t, T', hS, hT⟩ : ∃ t T', SsW (cxOf CX0 P w K mg base N_law d_law.qual d_law.scope (He.ga K "law") cdv A outer s H Er).nox (d_law.body.drop 1) t T' ∧ ∀ kk : D → Prop, kk (.bl true) → T' { nx := fun _ => kk .non, rt := kk } [.un, .fd, .un, .un, .un] := by
      refine ⟨_, _, (ssw_cons (sw_if (tw_not (tw_val (ew_call0 K G__law_far_right (hr.mono (by omega))))) (ssw_one (sw_ret ew_bl)) ssw_nil) (ssw_cons (sw_for PassesOwn.never (iw_range1 (aw_cons ew_int aw_nil) T.range) (gw_name 2 nd) (ssw_cons (sw_set 3 nd (kcall K G__law_site (hr.mono (by omega)) (cw_feed 1 (cw_cons (ew_op op_add lo_add ew_int (kcall K G__law_draw (hr.mono (by omega)) (cw_feed 1 (cw_cons ew_int cw_nil)))) (cw_cons (ew_lst (aw_cons ew_str (aw_cons ew_str (aw_cons ew_str aw_nil)))) cw_nil))))) (ssw_cons (sw_if (BW.tw (bw_or (tw_not (tw_val (kcallG K G__law_counts_right (hr.mono (by omega)) gd (cw_feed 1 (cw_cons (ew_var 3) cw_nil))))) (bw_or1 (tw_not (tw_val (kcallG K G__law_due_right (hr.mono (by omega)) gd (cw_feed 1 (cw_cons (ew_var 3) cw_nil)))))))) (ssw_one (sw_ret ew_bl)) ssw_nil) (ssw_one (sw_for PassesOwn.never (kiT K (kix K (ew_var 3) ew_int (fun _ _ => rfl))) (gw_name 4 nd) (ssw_cons (sw_if (BW.tw (bw_or (tw_not (tw_val (kcall K G__law_limit_right (hr.mono (by omega)) (cw_feed 1 (cw_cons (ew_var 4) cw_nil))))) (bw_or1 (tw_not (tw_val (kcallG K G__law_days_right (hr.mono (by omega)) gd (cw_feed 1 (cw_cons (ew_var 3) (cw_cons (ew_var 4) cw_nil))))))))) (ssw_one (sw_ret ew_bl)) ssw_nil) (ssw_one (sw_if (tw_not (tw_val (kcallG K G__law_rows_right (hr.mono (by omega)) gd (cw_cons (ew_var 3) (cw_cons (ew_var 4) cw_nil))))) (ssw_one (sw_ret ew_bl)) ssw_nil)))))))) (ssw_one (sw_ret ew_bl)))), fun k h => ?_⟩
      walk_at "wd"
      refine ⟨⟨show -2 ^ 62 ≤ (4 : Int) by decide, show (4 : Int) < 2 ^ 62 by decide⟩, ?_⟩
      show forGo _ _ _ (ilist 0 4) _
      rw [ilist_map]
      refine for_inv0 (fun i : Nat => .int (0 + i)) (List.range 4) (fun j ρ => ∃ s0 s2 s3 s4 : Sl, ρ = [s0, .fd, s2, s3, s4]) ⟨_, _, _, _, rfl⟩ ?_ ?_
      · rintro j i ρ nxt hj ⟨s0, s2, s3, s4, rfl⟩ hn
        refine ⟨rfl, 2, rfl, by decide, by decide, fun z z0 z1 => ?_⟩
        have key : ∀ m : Nat, (m = 2 ∨ m = 3) → (2 + z = (m : Int)) → ∀ (bk : List Sl → Prop) S, DSite m S → wSeq
            (wIfS
              (wOr (wNot (wB (wCall s__law_counts_right (wcFeed 1 (wcCons (wVar 3) wcNil)))))
                (wNot (wB (wCall s__law_due_right (wcFeed 1 (wcCons (wVar 3) wcNil))))))
              (wRet (wC (D.bl false))) wNext)
            (wFor (wiT (wOp ixD (wVar 3) (wC (D.int 2)))) (gwName 4)
              (wSeq
                (wIfS
                  (wOr (wNot (wB (wCall s__law_limit_right (wcFeed 1 (wcCons (wVar 4) wcNil)))))
                    (wNot (wB (wCall s__law_days_right (wcFeed 1 (wcCons (wVar 3) (wcCons (wVar 4) wcNil)))))))
                  (wRet (wC (D.bl false))) wNext)
                (wIfS (wNot (wB (wCall s__law_rows_right (wcCons (wVar 3) (wcCons (wVar 4) wcNil)))))
                  (wRet (wC (D.bl false))) wNext)))
            { nx := nxt, rt := k, ct := nxt, bk := bk } [s0, .fd, .da (.int (0 + i)), .da (encS S), s4] := fun m hm hz bk S Dm => by
          refine ⟨rfl, S, m, Dm, Dm.ok, rfl, rfl, m, S, hm, Dm, rfl, ?_⟩
          show forGo _ _ _ (S.ts.map encT) _
          refine for_inv0 encT S.ts (fun _ ρ => ∃ s0 s2 s4 : Sl, ρ = [s0, .fd, s2, .da (encS S), s4]) ⟨_, _, _, rfl⟩ ?_ ?_
          · rintro j2 t ρ nxt2 hj2 ⟨s0, s2, s4, rfl⟩ hn2
            have htm : t ∈ S.ts := List.mem_of_getElem? hj2
            exact ⟨rfl, t, Dm.tk t htm, rfl, rfl, m, S, t, Dm, htm, rfl, rfl, m, S, t, Dm, htm, rfl, rfl, hn2 _ ⟨_, _, _, rfl⟩⟩
          · rintro ρ ⟨s0, s2, s4, rfl⟩
            exact hn _ ⟨_, _, _, _, rfl⟩
        rcases (by omega : z = 0 ∨ z = 1) with rfl | rfl
        · exact ⟨show 3 ≤ 1000 by decide, rfl, 2, .inl rfl, rfl, rfl, fun S Dm => key 2 (.inl rfl) rfl _ S Dm⟩
        · exact ⟨show 3 ≤ 1000 by decide, rfl, 3, .inr rfl, rfl, rfl, fun S Dm => key 3 (.inr rfl) rfl _ S Dm⟩
      · rintro ρ ⟨s0, s2, s3, s4, rfl⟩
        exact h
    obtain ⟨a, ns, rfl, hSq, hTab, hq⟩ := h
    refine ⟨_, PSs.nox (pss_cons (ps_set (i := 1) nd rfl (.inl rfl) (pe_call hf1 (hr.mono (by omega)) rfl G__law_feed.mg G__law_feed.kp hf2 .nil pass0 (pa_cons (pe_var (i := 0) rfl (.inl rfl)) pa_nil))) hS.ps), ?_⟩
    refine ⟨.ref a, rfl, a, ns, rfl, hSq, fun H2 f c ms hms hext hf hc hne h2c h2f => ?_⟩
    have hPc : lamP K ≠ c := fun z => by
      obtain ⟨ps, h1, _, _⟩ := hTab
      rw [z, hc] at h1
      cases h1
    have R0 : Rs K (some f) (upd (fun _ => none) c (.lst (ms.map V.int))) H2 (fun _ => 0) ((L2.start N_law [.ref a]).set 1 (some (.ref f))) [.un, .fd, .un, .un, .un] := by
      refine ⟨fun b o e => ?_, rfl, fun i s e => ?_, fun f' e => ?_⟩
      · by_cases z : b = c
        · rw [z, upd_same] at e
          rw [z, h2c]
          exact e
        · rw [upd_ne z] at e
          cases e
      · match i, e with
        | 0, e => cases e; trivial
        | 1, e => cases e; exact ⟨f, rfl, rfl⟩
        | 2, e => cases e; trivial
        | 3, e => cases e; trivial
        | 4, e => cases e; trivial
        | i + 5, e => cases e
      · cases e
        exact ⟨c, ms, 0, 0, 0, by rw [upd_ne hne], upd_same, hms, h2f, hTab.ext hext, by rw [upd_ne hPc]⟩
    refine @SsW.li _ _ _ _ hS (some f) _ H2 _ H2 _ _ _ _ _ ⟨R0, Gr.refl .., fun i a h _ => ?_⟩ (hT (fun d => d = .bl true) rfl) ⟨fun w G' H' σ ρ R hk => ?_, fun v d G' H' g s2 f2 rv hk => ?_, fun _ _ _ _ _ _ hk => False.elim hk, fun _ _ _ _ _ _ hk => False.elim hk⟩
    · rcases h with ⟨ds, e⟩ | ⟨ds, e⟩
      · exact absurd rfl ((noOw_at (ρ := [.un, .fd, .un, .un, .un]) rfl e).1 ds)
      · exact absurd rfl ((noOw_at (ρ := [.un, .fd, .un, .un, .un]) rfl e).2 ds)
    · cases hk
    · subst hk
      cases rv
      exact hq H'
end Wd
set_option maxRecDepth 100000
set_option maxHeartbeats 2000000
namespace Wd
open PySem PySem.Spec PyProof.Rows L2
/-! ### the head: what is looked at -/
abbrev R : PySem.W.OpenRow := PySem.W.OpenLaw.row PySem.Challenge.rw_whichfirst_k80_whole_days_and_windows
def n1 : List Str := ["_wall", "LETTERS", "LONGEST_NAME", "COUNT_WORDS", "JOINING_WORDS", "is_integer", "is_number", "is_amount", "is_name", "are_numbers", "is_use", "are_uses", "limit_word", "inner_pairs"]
def n2 : List Str := ["limit_fault", "is_limit", "WhichError", "SiteError", "NotUsable", "NO_NUMBERS", "require_usable", "all_pairs", "number_for", "passes_less", "is_passed", "is_reached", "widened", "machine_names"]
def n3 : List Str := ["part_names", "index_among", "uses_of", "stays_of", "require_day", "place_on", "use_on", "place_of", "use_of", "NO_USE", "part_use", "steady_day", "plain_counts", "counts_between"]
def n4 : List Str := ["plain_passing", "first_passing", "passing_day", "KEPT", "task_named", "moved_limit", "lasting", "task_due", "task_late", "task_early", "named_base", "due_day", "late_day", "early_day"]
def n5 : List Str := ["task_window", "window_of", "windows_of", "check_bases", "plain_limits", "Due", "least_due", "replaced", "with_uses", "_law_feed", "_law_draw", "_law_pick", "_law_plain", "_law_limit"]
def n6 : List Str := ["_law_machines", "_law_parts", "_law_tasks", "_law_site", "_law_use", "_law_counts", "_law_passed", "_law_more", "_law_passing", "_law_three", "_law_counts_right", "_law_limit_right", "_law_behind", "_law_days_right"]
def n7 : List Str := ["_law_rows_right", "_law_plains", "_law_due_right", "_law_far_right"]
def lo : List Str := n1 ++ n2 ++ n3 ++ n4 ++ n5 ++ n6 ++ n7
def fb : List He.Fa := [.glo "Due", .mkr "Due", .free "len", .free "range", .free "isinstance", .free "int", .free "bool", .free "str", .free "tuple", .free "all", .free "any", .free "enumerate", .free "min", .free "max", .free "sum", .free "dict", .free "list", .free "repr", .free "sorted", .free "zip", .str "LETTERS" "abcdefghijklmnopqrstuvwxyz", .int "LONGEST_NAME" 8, .str "KEPT" "kept", .glo "COUNT_WORDS", .glo "JOINING_WORDS", .glo "NO_NUMBERS", .glo "NO_USE"]
def refsC (o : Obj) : List Addr := match o.data with
  | .func fd => He.refV fd.code
  | .cls cd => [cd.ns]
  | .fields vs => vs.toList.flatMap He.refV
  | _ => []
def refsN (o : Obj) : List Addr := match o.data with
  | .dict es _ => es.toList.flatMap fun e => He.refV e.val
  | _ => []
def lv (g : Addr → Option Obj) (r : Obj → List Addr) (as : List Addr) : List Addr := as.flatMap fun a => match g a with
  | some o => r o
  | none => []
/-- the module's dict, what it names, their code (a class: its dict), what this names, their code and fields, their code; the interpreter's own statics -/
def asW (g : Addr → Option Obj) : List Addr :=
  let l1 := lv g refsN [mainGlobals]
  let l2 := lv g refsC l1
  let l3 := lv g refsN l2
  let l4 := lv g refsC l3
  let l5 := lv g refsC l4
  mainGlobals :: cStatics :: (l1 ++ (l2 ++ (l3 ++ (l4 ++ l5))))
/-- getters, the classmethod -/
def daOf (d : He.DefD) (f : PySem.W.Frag → Addr) : He5.DefA := ⟨f, d.name, d.qual, d.params, d.body, d.scope, [], []⟩
def gA : List He5.DefA := [daOf d_Due_name fun K => prG K "name", daOf d_Due_early_on fun K => prG K "early_on", daOf d_Due_due_on fun K => prG K "due_on", daOf d_Due_late_on fun K => prG K "late_on", daOf d_Due_nearest fun K => cmG K "nearest"]
def tf : List He.Defn := [("_law_due_right", none)]
def isSome2 (o : Option (List Value)) : Bool := match o with
  | some (.ref _ :: _) => true
  | _ => false
def propB (K : PySem.W.Frag) (f : Str) : Bool := He.eqO (PySem.W.findIn K (.ref (duC K)) f) (some (some (.ref (He.ma K (duC K) f)))) && (He.eqO (PySem.W.specialIn K (.ref (He.ma K (duC K) f)) "__get__") (some (some (.builtin "property.__get__"))) && (decide (PySem.W.takesIn K (.ref (He.ma K (duC K) f)) = some true) && isSome2 (PySem.W.recIn K (He.ma K (duC K) f) "property")))
def slotB (K : PySem.W.Frag) (f : Str) (i : Nat) : Bool := He.eqO (PySem.W.findIn K (.ref (duC K)) f) (some (some (.ref (He.ma K (duC K) f)))) && (He.eqO (PySem.W.specialIn K (.ref (He.ma K (duC K) f)) "__get__") (some (some (.builtin "member_descriptor.__get__"))) && (decide (PySem.W.takesIn K (.ref (He.ma K (duC K) f)) = some true) &&
  (decide (PySem.W.typeIn K (.ref (He.ma K (duC K) f)) = some (.type "member_descriptor")) && (decide (PySem.W.slotIn K (He.ma K (duC K) f) (duC K) = some i) && decide (i < 1000)))))
def sclsB (K : PySem.W.Frag) : Bool := PySem.W.plainGet K (duC K) Str.empty && (PySem.W.isClsIn K (duC K) && (PySem.W.plainOver K (duC K) && He.eqO (PySem.W.findIn K (.ref (duC K)) "__setattr__") (some (some (.builtin "object.__setattr__")))))
def sisiB (K : PySem.W.Frag) : Bool := He.eqO (PySem.W.findIn K (.ref (duC K)) "__class__") (some (some (.builtin "object.__class__"))) && (He.eqO (PySem.W.specialIn K (.builtin "object.__class__") "__get__") (some (some (.builtin "getset_descriptor.__get__"))) && (decide (PySem.W.takesIn K (.builtin "object.__class__") = some true) && decide (PySem.W.mroIn K (duC K) (.type "object") = some true)))
def nearB (K : PySem.W.Frag) : Bool := PySem.W.readsIn K (duC K) (.type "type") && (He.eqO (PySem.W.specialIn K (.ref (duC K)) "__getattribute__") (some (some (.builtin "type.__getattribute__"))) && (He5.wrapB K (duC K) "classmethod" "classmethod.__get__" "nearest" && PySem.W.fnIn K (cmG K "nearest")))
/-- the module's name x is a tuple of these -/
def ktB (K : PySem.W.Frag) (x : Str) (vs : List V) : Bool := match K.lookup (He.ga K x) with
  | some ⟨.type c, none, .seq its _, _⟩ => decide (c = "tuple") && (decide (its.size ≤ sizeLine) && He.relAll vs its.toList)
  | _ => false
def callB (K : PySem.W.Frag) : Bool := PySem.W.fnIn K (He.ma K (duC K) "__call__")
def exL (K : PySem.W.Frag) : List Bool := [sclsB K, slotB K "own_base" 0, slotB K "own_key" 1, slotB K "own_late" 2, slotB K "own_site" 3, slotB K "own_task" 4, sisiB K, callB K, propB K "name", propB K "early_on", propB K "due_on", propB K "late_on", nearB K, ktB K "COUNT_WORDS" [.str "hours", .str "cycles", .str "days"], ktB K "JOINING_WORDS" [.str "first", .str "later"], ktB K "NO_NUMBERS" [.int 0, .int 0, .int 0], ktB K "NO_USE" [.int 0, .int 0]]
def exB (K : PySem.W.Frag) : Bool := (exL K).all id
abbrev AlW : Type := He.AlD × He.AlD × Bool
def obsK (g : Addr → Option Obj) (K : PySem.W.Frag) : AlW := (He.obsD (fa ++ fb) fn K, He5.obsA [] gA K, exB K && He.tabsB g tf K)
def obsW (g : Addr → Option Obj) : AlW := obsK g (He.frT g (asW g))
def valW : AlW := (He.valD fn, He5.valA gA, true)
/-- what is told at the head's heap -/
structure SaysW (h : Heap) (K : PySem.W.Frag) : Prop where
  d : He.SaysD (fa ++ fb) fn K
  a : He5.SaysA [] gA K
  ex : exB K = true
  hd : PySem.W.codeHdIn K (He.cT K ("_law_due_right", none)).1 (lamP K) = true
  out : K.lookup (lamP K) = none
  empty : h.get? (lamP K) = some { cls := .none, data := .fields #[] }
theorem saysW_of {h : Heap} (e : obsW h.get? = valW) : SaysW h (He.frT h.get? (asW h.get?)) := by
  unfold obsW at e
  generalize hK : He.frT h.get? (asW h.get?) = K at e
  have e1 : He.obsD (fa ++ fb) fn K = He.valD fn := congrArg (fun z : AlW => z.1) e
  have e2 : He5.obsA [] gA K = He5.valA gA := congrArg (fun z : AlW => z.2.1) e
  have e3 : (exB K && He.tabsB h.get? tf K) = true := congrArg (fun z : AlW => z.2.2) e
  obtain ⟨h1, h2⟩ := He.ba e3
  obtain ⟨h3, h4⟩ := He.ba (List.all_eq_true.mp h2 ("_law_due_right", none) List.mem_cons_self)
  cases q : h.get? (lamP K) with
  | none =>
    have h4 : (match h.get? (lamP K) with | some o => He.emptyTab o | none => false) = true := h4
    rw [q] at h4
    cases h4
  | some o =>
    have h4 : (match h.get? (lamP K) with | some o => He.emptyTab o | none => false) = true := h4
    rw [q] at h4
    refine ⟨e1, e2, h1, h3, ?_, by rw [q, He.emptyTab_eq h4]⟩
    rw [← hK] at q ⊢
    exact He.frT_none q h4
def hkW : PySem.W.Hook where
  α := AlW
  obs := fun s => obsW s.heap.get?
  val := fun _ => valW
  says := fun _ h => ∃ K : PySem.W.Frag, K.In h ∧ SaysW h K
  of := fun _ _ e => ⟨_, He.frT_in, saysW_of e⟩
  keeps := fun _ _ _ ⟨K, hK, c⟩ k => ⟨K, PySem.W.Frag.In.keeps hK k, ⟨c.d, c.a, c.ex, c.hd, c.out, k _ _ c.empty⟩⟩
theorem obsW_eq {g : Addr → Option Obj} {s : Shared} (h : ∀ a, g a = s.heap.get? a) : obsW g = hkW.obs s := by
  have e : g = s.heap.get? := funext h
  rw [e] <;> rfl
def obW (s : PySem.W.SharedT) : AlW := obsW (HandSHeadRun.getT s)
theorem obW_eq (s : PySem.W.SharedT) : obW s = hkW.obs s.abs := obsW_eq (HandSHeadRun.getT_eq s)
/-! ### what it says, as the proofs take it -/
section
variable {K : PySem.W.Frag} {h : Heap} {mg : Str → Option Value}
theorem SaysW.fact (c : SaysW h K) {f : He.Fa} (hf : f ∈ fb) : f.ok K = true := He.SaysD.facts c.d (List.mem_append_right _ hf)
theorem saysD_left (c : He.SaysD (fa ++ fb) fn K) : He.SaysD fa fn K := by
  have c1 : (((fa ++ fb).all fun f => f.ok K) && fn.all fun d => d.ok K) = true := congrArg (fun z : He.AlD => z.1) c
  have c2 : fn.map (fun d => He.fnW K d.at_) = fn.map He.DefD.val := congrArg (fun z : He.AlD => z.2) c
  obtain ⟨h1, h2⟩ := He.ba c1
  rw [List.all_append] at h1
  obtain ⟨h3, _⟩ := He.ba h1
  show (((fa.all fun f => f.ok K) && fn.all fun d => d.ok K), fn.map fun d => He.fnW K d.at_) = (true, fn.map He.DefD.val)
  rw [h3, h2, c2] <;> rfl
theorem SaysW.b (c : SaysW h K) {b : Bool} (hb : b ∈ exL K) : b = true := List.all_eq_true.mp c.ex b hb
theorem SaysW.def_ (c : SaysW h K) (i : Nat) {d : He5.DefA} (hd : gA[i]? = some d := by rfl) : ∃ fd, L2.FunD K d.name d.qual d.params d.body d.scope (d.dvs K) (d.kws K) (d.at_ K) fd := He5.SaysA.def_ c.a i hd
theorem kt_ok {x : Str} {vs : List V} {ds : List D} (h : ktB K x vs = true) (hg : mg x = some (.ref (He.ga K x))) (r : ∀ G, RpL K G vs ds) : KTup K mg x ds := by
  refine ⟨hg, fun G => .tup (xs := vs) ?_ (r G)⟩
  unfold ktB at h
  split at h
  · rename_i c its n sl e
    obtain ⟨h1, h2⟩ := He.ba h
    obtain ⟨h3, h4⟩ := He.ba h2
    exact .inr ⟨_, its, n, e, congrArg Value.type (of_decide_eq_true h1), rfl, rfl, of_decide_eq_true h3, He.relAll_ok h4⟩
  · cases h
theorem some2_ok {o : Option (List Value)} (h : isSome2 o = true) : ∃ g rest, o = some (.ref g :: rest) := by
  unfold isSome2 at h
  split at h
  · exact ⟨_, _, rfl⟩
  · cases h
theorem prop_ok {d : He.DefD} (h : propB K d.name = true) (hf : ∃ fd, FunD K d.name d.qual d.params d.body d.scope [] [] (prG K d.name) fd) : PropK K d := by
  obtain ⟨h1, h⟩ := He.ba h
  obtain ⟨h2, h⟩ := He.ba h
  obtain ⟨h3, h4⟩ := He.ba h
  obtain ⟨g, rest, e⟩ := some2_ok h4
  refine ⟨He.eqO_ok h1, He.eqO_ok h2, of_decide_eq_true h3, ⟨rest, ?_⟩, hf⟩
  unfold prG
  rw [e]
theorem slot_ok {f : Str} {i : Nat} (h : slotB K f i = true) : SlX.Slot1 K (duC K) f (He.ma K (duC K) f) i := by
  obtain ⟨h1, h⟩ := He.ba h
  obtain ⟨h2, h⟩ := He.ba h
  obtain ⟨h3, h⟩ := He.ba h
  obtain ⟨h4, h⟩ := He.ba h
  obtain ⟨h5, h6⟩ := He.ba h
  exact ⟨He.eqO_ok h1, He.eqO_ok h2, of_decide_eq_true h3, of_decide_eq_true h4, of_decide_eq_true h5, of_decide_eq_true h6⟩
theorem near_ok (h : nearB K = true) (hf : ∃ fd, FunD K d_Due_nearest.name d_Due_nearest.qual d_Due_nearest.params d_Due_nearest.body d_Due_nearest.scope [] [] (cmG K "nearest") fd) : NearK K := by
  obtain ⟨h1, h⟩ := He.ba h
  obtain ⟨h2, h⟩ := He.ba h
  obtain ⟨h3, h4⟩ := He.ba h
  obtain ⟨k1, k2⟩ := He5.wrapB_ok h3
  exact ⟨⟨h1, He.eqO_ok h2⟩, ⟨k1, k2, h4⟩, hf⟩
theorem en_of (X : K.In h) (G : h.Ns mainGlobals mg) (c : SaysW h K) : En K mg := by
  have glo : ∀ x, (He.Fa.glo x).ok K = true → mg x = some (.ref (He.ga K x)) := fun x hx => He.glo_ok X G hx
  have d := saysD_left c.d
  refine ⟨⟨He.free_ok X G (c.fact (f := .free "len") (by simp [fb])), He.free_ok X G (c.fact (f := .free "range") (by simp [fb])), He.free_ok X G (c.fact (f := .free "isinstance") (by simp [fb])), He.free_ok X G (c.fact (f := .free "int") (by simp [fb])), He.free_ok X G (c.fact (f := .free "bool") (by simp [fb])), He.free_ok X G (c.fact (f := .free "str") (by simp [fb])), He.free_ok X G (c.fact (f := .free "tuple") (by simp [fb])), He.free_ok X G (c.fact (f := .free "all") (by simp [fb])), He.free_ok X G (c.fact (f := .free "any") (by simp [fb])), He.free_ok X G (c.fact (f := .free "enumerate") (by simp [fb])), He.free_ok X G (c.fact (f := .free "min") (by simp [fb])), He.free_ok X G (c.fact (f := .free "max") (by simp [fb])), He.free_ok X G (c.fact (f := .free "sum") (by simp [fb])), He.free_ok X G (c.fact (f := .free "dict") (by simp [fb])), He.free_ok X G (c.fact (f := .free "list") (by simp [fb])), He.free_ok X G (c.fact (f := .free "repr") (by simp [fb])), He.free_ok X G (c.fact (f := .free "sorted") (by simp [fb])), He.free_ok X G (c.fact (f := .free "zip") (by simp [fb])),
    He.str_ok X G (c.fact (f := .str "LETTERS" "abcdefghijklmnopqrstuvwxyz") (by simp [fb])), He.int_ok X G (c.fact (f := .int "LONGEST_NAME" 8) (by simp [fb])), He.str_ok X G (c.fact (f := .str "KEPT" "kept") (by simp [fb])),
    kt_ok (vs := [.str "hours", .str "cycles", .str "days"]) (c.b (by simp [exL])) (glo _ (c.fact (f := .glo "COUNT_WORDS") (by simp [fb]))) (fun G => .cons (.str _) (.cons (.str _) (.cons (.str _) .nil))), kt_ok (vs := [.str "first", .str "later"]) (c.b (by simp [exL])) (glo _ (c.fact (f := .glo "JOINING_WORDS") (by simp [fb]))) (fun G => .cons (.str _) (.cons (.str _) .nil)), kt_ok (vs := [.int 0, .int 0, .int 0]) (c.b (by simp [exL])) (glo _ (c.fact (f := .glo "NO_NUMBERS") (by simp [fb]))) (fun G => .cons (.int _) (.cons (.int _) (.cons (.int _) .nil))), kt_ok (vs := [.int 0, .int 0]) (c.b (by simp [exL])) (glo _ (c.fact (f := .glo "NO_USE") (by simp [fb]))) (fun G => .cons (.int _) (.cons (.int _) .nil))⟩, d, ?_, glo⟩
  have m_call := He.meth_ok (d.fact 78 (f := .meth "Due" "__call__") rfl)
  refine ⟨glo _ (c.fact (f := .glo "Due") (by simp [fb])), He.mkr_ok (c.fact (f := .mkr "Due") (by simp [fb])), ?_, fun i f hf => ?_, ?_, ⟨m_call.at_, m_call.fn, c.b (b := callB K) (by simp [exL])⟩,
    prop_ok (c.b (b := propB K "name") (by simp [exL])) (c.def_ 0), prop_ok (c.b (b := propB K "early_on") (by simp [exL])) (c.def_ 1), prop_ok (c.b (b := propB K "due_on") (by simp [exL])) (c.def_ 2), prop_ok (c.b (b := propB K "late_on") (by simp [exL])) (c.def_ 3), near_ok (c.b (b := nearB K) (by simp [exL])) (c.def_ 4)⟩
  · have q := c.b (b := sclsB K) (by simp [exL])
    obtain ⟨h1, q⟩ := He.ba q
    obtain ⟨h2, q⟩ := He.ba q
    obtain ⟨h3, h4⟩ := He.ba q
    exact ⟨h1, h2, h3, He.eqO_ok h4⟩
  · have key : ∀ (i : Nat) (f : Str), slotB K f i ∈ exL K → SlX.Slot1 K (duC K) f (He.ma K (duC K) f) i := fun i f hm => slot_ok (c.b hm)
    match i, hf with
    | 0, hf => cases hf; exact key 0 _ (by simp [exL])
    | 1, hf => cases hf; exact key 1 _ (by simp [exL])
    | 2, hf => cases hf; exact key 2 _ (by simp [exL])
    | 3, hf => cases hf; exact key 3 _ (by simp [exL])
    | 4, hf => cases hf; exact key 4 _ (by simp [exL])
    | i + 5, hf => cases hf
  · have q := c.b (b := sisiB K) (by simp [exL])
    obtain ⟨h1, q⟩ := He.ba q
    obtain ⟨h2, q⟩ := He.ba q
    obtain ⟨h3, h4⟩ := He.ba q
    exact ⟨He.eqO_ok h1, He.eqO_ok h2, of_decide_eq_true h3, of_decide_eq_true h4⟩
end
end Wd
set_option maxRecDepth 100000
set_option maxHeartbeats 2000000
namespace Wd
open PySem PySem.Spec PyProof.Rows L2
/-! ### the law called by the one who asks: no repr is under way, one table of code objects -/
section
variable {P : Program} {w : World} {K : PySem.W.Frag} {mg mb : Str → Option Value} {k : Nat} {fa a c P0 : Addr} {fd : FuncData} {x : Str} {sp : Sp} {s₁ : Shared} {vs : List Value} {ns : List Int}
/-- what the asked one starts from -/
structure Asked (K : PySem.W.Frag) (mg mb : Str → Option Value) (a c P0 : Addr) (s₁ : Shared) (vs : List Value) (ns : List Int) : Prop where
  kin : K.In s₁.heap
  ns_ : s₁.heap.Ns mainGlobals mg
  nb : s₁.heap.Ns builtinsNs mb
  bb : ∀ x : Str, x ≠ "__name__" → mb x = bootBuiltins x
  lim : s₁.heap.NoLimit
  gens : s₁.gens = #[]
  tab : s₁.heap.get? P0 = some { cls := .none, data := .fields #[] }
  out : K.lookup P0 = none
  hd : PySem.W.CodeHd s₁.heap c P0
  bm : ∃ (bm : Addr) (ob : Obj), mg "__builtins__" = some (.ref bm) ∧ bm ≠ builtinsNs ∧ s₁.heap.get? bm = some ob ∧ ob.cls = .type "module" ∧ ob.dict = some builtinsNs ∧ ob.data = .plain
  lst : s₁.heap.get? a = some { cls := .type "list", data := .seq vs.toArray }
  isI : IntsAre vs ns
  len : ns.length ≤ sizeLine
open Classical in
/-- the tracked part: the table, the script (where the fragment does not hold it) -/
noncomputable def hp0 (K : PySem.W.Frag) (a P0 : Addr) (vs : List Value) (ns : List Int) : Hp := fun b => if b = P0 then some (.tbl #[]) else if b = a ∧ K.lookup a = none then some (.frz { cls := .type "list", data := .seq vs.toArray } (.lst (ns.map V.int))) else none
variable (S : Asked K mg mb a c P0 s₁ vs ns)
include S
theorem Asked.ne : a ≠ P0 := fun z => by
  have e := S.tab
  rw [← z, S.lst] at e
  have e2 : Data.seq vs.toArray _ = Data.fields #[] := congrArg Obj.data (Option.some.inj e)
  cases e2
theorem hp0_P : hp0 K a P0 vs ns P0 = some (.tbl #[]) := if_pos rfl
theorem hp0_at {b : Addr} {u : HO} (h : hp0 K a P0 vs ns b = some u) : (b = P0 ∧ u = .tbl #[]) ∨ (b = a ∧ K.lookup a = none ∧ u = .frz { cls := .type "list", data := .seq vs.toArray } (.lst (ns.map V.int))) := by
  unfold hp0 at h
  split at h
  · rename_i z
    exact .inl ⟨z, (Option.some.inj h).symm⟩
  · split at h
    · rename_i z
      exact .inr ⟨z.1, z.2, (Option.some.inj h).symm⟩
    · cases h
theorem Asked.sq : SqL K (hp0 K a P0 vs ns) a (ns.map V.int) := by
  have rv := vals_ints S.isI
  cases hk : K.lookup a with
  | none => exact .inl (.inr ⟨{ cls := .type "list", data := .seq vs.toArray }, by unfold hp0; rw [if_neg S.ne, if_pos ⟨rfl, hk⟩]⟩)
  | some o =>
    have e := S.kin a o hk
    rw [S.lst] at e
    cases e
    exact .inr ⟨_, vs.toArray, _, hk, rfl, rfl, rfl, by rw [List.size_toArray, S.isI.length]; exact S.len, by simpa using rv⟩
theorem Asked.hok : HOk P w (hp0 K a P0 vs ns) s₁.heap := fun b u h => by
  rcases hp0_at S h with ⟨e, e2⟩ | ⟨e, _, e2⟩
  · rw [e, e2]
    exact S.tab
  · rw [e, e2]
    exact ⟨S.lst, by rw [List.length_map]; exact S.len, vs, _, vals_ints S.isI, S.lst⟩
/-- what is no list and no table is not tracked -/
theorem Asked.free {b : Addr} {o : Obj} (e : s₁.heap.get? b = some o) (h1 : ∀ vs n, o.data ≠ .seq vs n) (h2 : o.data ≠ .fields #[]) : hp0 K a P0 vs ns b = none := by
  cases q : hp0 K a P0 vs ns b with
  | none => rfl
  | some u =>
    rcases hp0_at S q with ⟨z, _⟩ | ⟨z, _, _⟩
    · rw [z, S.tab] at e
      cases e
      exact absurd rfl h2
    · rw [z, S.lst] at e
      cases e
      exact absurd rfl (h1 _ _)
theorem Asked.nsK {b : Addr} {m : Str → Option Value} (h : s₁.heap.Ns b m) : (hidT s₁.heap (hp0 K a P0 vs ns)).Ns b m := by
  obtain ⟨o, es, ep, e, d, r⟩ := h
  exact ⟨o, es, ep, hidT_get e (S.free e (fun _ _ z => by rw [d] at z; cases z) fun z => by rw [d] at z; cases z), d, r⟩
theorem Asked.kinB : K.In (hidT s₁.heap (hp0 K a P0 vs ns)) := fun b o e => hidT_get (S.kin b o e) (by
  cases q : hp0 K a P0 vs ns b with
  | none => rfl
  | some u =>
    rcases hp0_at S q with ⟨z, _⟩ | ⟨z, z2, _⟩
    · rw [z, S.out] at e; cases e
    · rw [z, z2] at e; cases e)
theorem Asked.mod : L2.Mod K mg (hidT s₁.heap (hp0 K a P0 vs ns)) := ⟨S.kinB, S.nsK S.ns_, ⟨mb, S.nsK S.nb, S.bb⟩, by
  obtain ⟨mc, h1, h2⟩ := S.lim
  exact ⟨mc, S.nsK h1, h2⟩⟩
theorem Asked.tb : LamX.TabB (hidT s₁.heap (hp0 K a P0 vs ns)) mg c P0 := by
  refine ⟨?_, ?_, fun z => ?_⟩
  · obtain ⟨o, us, file, tf, flags, tg, inF, text, tt, e1, r1, r2, r3, r⟩ := S.hd
    exact ⟨o, us, file, tf, flags, tg, inF, text, tt, hidT_get e1 (S.free e1 (fun _ _ z => by rw [r2] at z; cases z) fun z => by rw [r2] at z; cases z; simp at r3), r1, r2, r3, r⟩
  · obtain ⟨bm, ob, b1, b2, b3, b4, b5, b6⟩ := S.bm
    have ng : bm ≠ mainGlobals := fun q => by
      obtain ⟨o, es, ep, e, hd, _⟩ := S.ns_
      rw [q, e] at b3
      cases b3
      rw [hd] at b6
      cases b6
    have np : bm ≠ P0 := fun q => by
      rw [q, S.tab] at b3
      cases b3
      cases b6
    exact ⟨bm, ob, b1, b2, ng, np, hidT_get b3 (S.free b3 (fun _ _ z => by rw [b6] at z; cases z) fun z => by rw [b6] at z; cases z), b4, b5, b6⟩
  · obtain ⟨o, es, ep, e, hd, _⟩ := S.ns_
    rw [z, S.tab] at e
    cases e
    cases hd
theorem law_callG (hr : Room k callerA) (F : ∀ base : Heap, K.In base → base.Ns mainGlobals mg → LamX.TabB base mg c P0 → FnG P w K mg base k fa fd [x] sp) (hbind : ∀ (s : Shared) (u : Value), BindsTo s fd ⟨[u], []⟩ [(x, u)])
    (hsp : ∀ H : Hp, H P0 = some (.tbl #[]) → SqL K H a (ns.map V.int) → sp [.ref a] H (fun v _ => v = .bl true) E0) :
    codeAny (model P w) callerA (.call (.ref fa) ⟨[.ref a], []⟩) (fun r s' => r = .ok (.ret (.bool true)) ∧ OldK s₁.heap s'.heap ∧ s'.os = s₁.os ∧ AllBare s'.gens) s₁ := by
  have e0 : Env0 P w K mg (hidT s₁.heap (hp0 K a P0 vs ns)) callerA [] s₁ (hp0 K a P0 vs ns) := { frames := rfl, mod := S.mod, bs := fun _ _ e => of_hidT e, bsz := Nat.le_of_eq (hidT_size _ _), funs := trivial, frf := fun _ z => (nomatch z), hok := S.hok, bare := .of_eq S.gens }
  refine codeAny_mono ((F _ S.kinB (S.nsK S.ns_) S.tb).go callerA [] s₁ _ ⟨[.ref a], []⟩ [.ref a] [.ref a] _ _ hr rfl e0 (hbind s₁ (.ref a)) (.cons rfl .nil) (hsp _ (hp0_P S) S.sq)) fun r s' h => ?_
  match r, h with
  | .error _, h => exact False.elim h
  | .ok .next, h => exact False.elim h
  | .ok .brk, h => exact False.elim h
  | .ok .cont, h => exact False.elim h
  | .ok (.ret u), h =>
    obtain ⟨v, H', os, bare, un, hok', rv, q⟩ := h
    have q : v = .bl true := q
    subst q
    obtain rfl : u = Value.bool true := rv
    have old : ∀ b o, b ≠ P0 → s₁.heap.get? b = some o → s'.heap.get? b = some o := fun b o nb e => by
      cases q : hp0 K a P0 vs ns b with
      | none => exact un.keep b o e q (by simp [frs]) (by simp)
      | some u =>
        rcases hp0_at S q with ⟨z, _⟩ | ⟨z, _, z2⟩
        · exact absurd z nb
        · rw [z2] at q
          have h1 := (S.hok (P := P) (w := w) b _ q).1
          rw [e] at h1
          cases h1
          exact (hok' b _ (un.frzs b _ _ q)).1
    obtain ⟨more, hm⟩ := un.tbls P0 #[] (hp0_P S)
    have hm := hok' P0 _ hm
    refine ⟨rfl, ⟨fun b o e => ?_, fun b o e => ?_⟩, os, bare⟩
    · by_cases hb : b = P0
      · rw [hb] at e ⊢
        rw [S.tab] at e
        cases e
        exact .inr (.inl ⟨(S.hd.tab S.tab).isCodeTable, rfl, #[], more, rfl, by rw [hm]⟩)
      · exact .inl (old b o hb e)
    · by_cases hb : b = P0
      · rw [hb]
        exact ⟨_, hm⟩
      · exact ⟨o, old b o hb e⟩
end
end Wd
set_option maxRecDepth 100000
set_option maxHeartbeats 0
namespace Wd
open PySem PySem.Spec PyProof.Rows L2
theorem run (w : World) : HandSHeadRun.RunEq R (PySem.W.view R.prog [98]) hkW obW 6000 lo w := by
  intro os
  kernel_rfl
end Wd
set_option maxRecDepth 100000
set_option maxHeartbeats 2000000
namespace Wd
open PySem PySem.Spec PyProof.Rows L2
/-! ### the end -/
theorem walk_end {q : Program} {loose : List Str} {XP : (Str → Option Value) → Heap → Prop} {d : DefRec} (hdf : d.params.defaults = []) (hnm : d.name = ("law" : Str)) (hmost : (PySem.Challenge.rw_whichfirst_k80_whole_days_and_windows).most = some 63) :
    PySem.W.WalkO q loose XP hkW.says (PySem.W.OpenLaw.row PySem.Challenge.rw_whichfirst_k80_whole_days_and_windows).toRowW d [] (fun f vs => PySem.call f vs) := by
  refine Att.attach_callB (l := PySem.Challenge.rw_whichfirst_k80_whole_days_and_windows) (n := 63) hmost hdf fun w s₀ s₁ mg mb fa' o pm cd doc a vs ns G Y ho hd hcd hmg hobj hints hlen hbits hg => ?_
  obtain ⟨K, KX, c⟩ := Y
  have E : En K mg := en_of KX G.T.g c
  have S : Asked K mg mb a (He.codeOf K ("_law_due_right", none)) (lamP K) s₁ vs ns := { kin := KX, ns_ := G.T.g, nb := G.T.b, bb := G.T.builtins, lim := G.T.nolimit, gens := hg, tab := c.empty, out := c.out, hd := PySem.W.codeHd_of_K KX c.hd, bm := G.T.bmain, lst := hobj, isI := hints, len := by have := sizeLine_eq; omega }
  rw [hnm] at hmg
  have e := hmg.symm.trans (E.g "law" (E.d.fact 75 (f := .glo "law") rfl))
  cases e
  obtain ⟨fd, hF, hb⟩ := ok_law E
  exact law_callG S ⟨rfl, by decide, by decide⟩ (fun base h1 h2 TB => hF _ w base TB) hb fun H hP hq => ⟨a, ns, rfl, hq, LamX.TabS.nil hP, fun _ => rfl⟩
end Wd
open PySem PySem.W PySem.Calls PyProof.Rows
theorem PySem.Challenge.cw_whichfirst_k80_whole_days_and_windows_holds : PySem.Challenge.rw_whichfirst_k80_whole_days_and_windows.Holds := by
  w_on; o_law
  refine HandSHeadRun.head_any (r := OpenLaw.row PySem.Challenge.rw_whichfirst_k80_whole_days_and_windows) (q := view (OpenLaw.row PySem.Challenge.rw_whichfirst_k80_whole_days_and_windows).prog [98]) (H := Wd.hkW) (ob := Wd.obW) (M := 6000) (loose := Wd.lo) (d := HandSHeadRun.topDef (OpenLaw.row PySem.Challenge.rw_whichfirst_k80_whole_days_and_windows).prog 98) (kwd := []) Wd.obW_eq
    (by kernel_rfl) (fun s => by kernel_rfl) Wd.run (by kernel_rfl) (by kernel_rfl) (by kernel_rfl) (by rfl) (by first | assumption | decide +kernel) (by decide +kernel) ⟨rfl, rfl, rfl, rfl, rfl, by decide +kernel⟩ ?hw ?hc
  case hw => w_witness2
  case hc => exact Wd.walk_end (by kernel_rfl) (by kernel_rfl) rfl
