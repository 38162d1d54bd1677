import PyProof.Rows.All
import Wide.All
import OpenK.AllK
import Wide.FinOn
import HandS.ForMost
import HandS.ForExc
import HandS.Walk
import HandS.IsInst
import HandS.Conv
import HandS.Zip
import HandS.Deep
import HandS.TupAny
import HandS.TupMul
import HandS.Flow
import KE.SortData
import KE.DataMinMax
import HandS.NamedTupSort
import HandS.SortOrd
import KE.KDictSum
import HandS.Iter
import HandS.Sort
import PyProof.TupleOfSeq
import KE.KDictPairs
import HandS.More
import KE.DataEq
import HandS.SetFor
import HandS.Style
import KE.GoesMore
import PyProof.RulesMatch
import KE.KRevSl
import HandS.SetKeys
import KE.KEqDict
import HandS.TryOnly
import HandS.TryMany
import HandS.Star
import KE.KStateDown
import HandS.Ends
import HandS.Words
import HandS.WordsExc
import HandS.Defaults
import HandS.Head0
import HandS.Head1
import HandS.Head2
import HandS.HeadEnd
import HandS.HeadHook1
import HandS.HeadHook2
import HandS.ExcOwn
import PySem.Challenge.RW_writebacks_k13_widest_table
set_option Elab.async false
set_option linter.all false
set_option maxRecDepth 100000
set_option maxHeartbeats 2000000
namespace L2.Gv
open PySem PySem.Spec PyProof.Rows L2

/-! ## Data and who owns what -/
abbrev D := PyData
/-- a value as the evaluator sees it: data that nobody changes any more, or a list | list of lists | dict | dict of lists that one slot (or one temporary) owns -/
inductive M where
  | im (d : D) | ml (xs : List D) | mm (xss : List (List D)) | md (kvs : List (Int × D)) | ms (kvs : List (Int × List D))
abbrev Sl := List (Option M)
/-- who owns an address: nobody (none), a slot (some (some i)), someone else (some none) -/
abbrev Wn := Addr → Option (Option Nat)

def keyD : Key → D
  | .inl i => .int i
  | .inr x => .str x
/-- a dict whose keys are ints: as it lies, as data -/
def dKL (ks : List Int) (vs : List V) : List (Key × V) := (ks.zip vs).map fun p => (Sum.inl p.1, p.2)
/-- what is not known any more -/
abbrev opqD : D := .dict [(.none, .none)]
/-- a list that is written in the text's own part -/
def KL (K : PySem.W.Frag) (a : Addr) (xs : List V) : Prop := SqL K (fun _ => none) a xs
theorem KL.sq {K : PySem.W.Frag} {a : Addr} {xs : List V} {H : Hp} (h : KL K a xs) : SqL K H a xs := by
  rcases h with (h | ⟨o, h⟩) | h
  · cases h
  · cases h
  · exact .inr h

/-- a tuple that is known to the object: it has no dict -/
def TupH (H : Hp) (a : Addr) (xs : List V) : Prop := ∃ o, H a = some (.frz o (.tup xs)) ∧ o.dict = none
theorem TupH.sq {K : PySem.W.Frag} {H : Hp} {a : Addr} {xs : List V} (h : TupH H a xs) : SqT K H a xs := by
  obtain ⟨o, h, _⟩ := h
  exact .inl (.inr ⟨o, h⟩)
mutual
inductive RD (K : PySem.W.Frag) (w : Wn) (H : Hp) : D → V → Prop
  | non : RD K w H .none .non
  | bl (b : Bool) : RD K w H (.bool b) (.bl b)
  | int (i : Int) : RD K w H (.int i) (.int i)
  | str (x : Str) : RD K w H (.str x) (.str x)
  | tup {a : Addr} {xs : List V} {ds : List D} : TupH H a xs → w a = none → xs.length ≤ sizeLine → RDs K w H ds xs → RD K w H (.tuple ds) (.ref a)
  | lst {a : Addr} {xs : List V} {ds : List D} : H a = some (.lst xs) → w a = none → xs.length ≤ sizeLine → RDs K w H ds xs → RD K w H (.list ds) (.ref a)
  | scr {a : Addr} {xs : List V} {ds : List D} : (KL K a xs ∨ (Rd H a (.lst xs) ∧ w a = none)) → xs.length ≤ sizeLine → RDs K w H ds xs → RD K w H (.dict [(.none, .list ds)]) (.ref a)
  | dK {a : Addr} {o : Obj} {kvs : List (Int × D)} {vs : List V} : H a = some (.frz o (.dK (dKL (kvs.map Prod.fst) vs))) → w a = none → kvs.length ≤ sizeLine → RDs K w H (kvs.map Prod.snd) vs → RD K w H (.dict (kvs.map fun p => (PyData.int p.1, p.2))) (.ref a)
  | opq {a : Addr} : RD K w H (.dict [(.none, .none)]) (.ref a)
  | dT {a : Addr} {kvs : List (List Key × V)} {ks ds : List D} : (H a = some (.dT kvs) ∧ kvs ≠ []) → w a = none → kvs.length ≤ sizeLine → ks = kvs.map (fun p => .tuple (p.1.map keyD)) → RDs K w H ds (kvs.map Prod.snd) → RD K w H (.dict (ks.zip ds)) (.ref a)
inductive RDs (K : PySem.W.Frag) (w : Wn) (H : Hp) : List D → List V → Prop
  | nil : RDs K w H [] []
  | cons {d : D} {v : V} {ds : List D} {vs : List V} : RD K w H d v → RDs K w H ds vs → RDs K w H (d :: ds) (v :: vs)
end

/-- what no slot owns stays, and stays so -/
def Step (H : Hp) (w : Wn) (H' : Hp) (w' : Wn) : Prop := ∀ a o, H a = some o → (∀ i, w a ≠ some (some i)) → H' a = some o ∧ w' a = w a
/-- everything stays -/
def Ext (H : Hp) (w : Wn) (H' : Hp) (w' : Wn) : Prop := ∀ a o, H a = some o → H' a = some o ∧ w' a = w a
/-- what nobody owns stays, and stays so -/
def K0 (H : Hp) (w : Wn) (H' : Hp) (w' : Wn) : Prop := ∀ a o, H a = some o → w a = none → H' a = some o ∧ w' a = none
/-- what is owned is there, and is no tuple -/
def Wf (w : Wn) (H : Hp) : Prop := ∀ a, w a ≠ none → ∃ o, H a = some o ∧ ∀ xs, o ≠ HO.tup xs
theorem Ext.step {H : Hp} {w : Wn} {H' : Hp} {w' : Wn} (e : Ext H w H' w') : Step H w H' w' := fun a o h _ => e a o h
theorem Ext.refl {H : Hp} {w : Wn} : Ext H w H w := fun _ _ h => ⟨h, rfl⟩
theorem Step.refl {H : Hp} {w : Wn} : Step H w H w := fun _ _ h _ => ⟨h, rfl⟩
theorem Ext.trans {H : Hp} {w : Wn} {H1 : Hp} {w1 : Wn} {H2 : Hp} {w2 : Wn} (a : Ext H w H1 w1) (b : Ext H1 w1 H2 w2) : Ext H w H2 w2 := fun c o h => by
  obtain ⟨h1, e1⟩ := a c o h
  obtain ⟨h2, e2⟩ := b c o h1
  exact ⟨h2, e2.trans e1⟩
theorem Step.trans {H : Hp} {w : Wn} {H1 : Hp} {w1 : Wn} {H2 : Hp} {w2 : Wn} (a : Step H w H1 w1) (b : Step H1 w1 H2 w2) : Step H w H2 w2 := fun c o h n => by
  obtain ⟨h1, e1⟩ := a c o h n
  obtain ⟨h2, e2⟩ := b c o h1 (by rw [e1]; exact n)
  exact ⟨h2, e2.trans e1⟩
theorem nslot_none {w : Wn} {a : Addr} (h : w a = none) : ∀ i, w a ≠ some (some i) := fun i e => by rw [h] at e; cases e
theorem nslot_zone {w : Wn} {a : Addr} (h : w a = some none) : ∀ i, w a ≠ some (some i) := fun i e => by rw [h] at e; cases e
section
variable {K : PySem.W.Frag} {H H' : Hp} {w w' : Wn}
theorem Step.k0 (s : Step H w H' w') : K0 H w H' w' := fun a o h n => by
  obtain ⟨h1, e⟩ := s a o h (nslot_none n)
  exact ⟨h1, e.trans n⟩
theorem K0.rd (s : K0 H w H' w') {a : Addr} {u : HO} (h : Rd H a u) (n : w a = none) : Rd H' a u ∧ w' a = none := by
  rcases h with h | ⟨o, h⟩
  · obtain ⟨h1, e⟩ := s a _ h n
    exact ⟨.inl h1, e⟩
  · obtain ⟨h1, e⟩ := s a _ h n
    exact ⟨.inr ⟨o, h1⟩, e⟩
theorem K0.tt (s : K0 H w H' w') {a : Addr} {xs : List V} (h : TupH H a xs) (n : w a = none) : TupH H' a xs ∧ w' a = none := by
  obtain ⟨o, h, hd⟩ := h
  exact ⟨⟨o, (s _ _ h n).1, hd⟩, (s _ _ h n).2⟩
mutual
theorem RD.mono (s : K0 H w H' w') : ∀ {d : D} {v : V}, RD K w H d v → RD K w' H' d v
  | _, _, .non => .non
  | _, _, .bl b => .bl b
  | _, _, .int i => .int i
  | _, _, .str x => .str x
  | _, _, .tup h n z r => .tup (s.tt h n).1 (s.tt h n).2 z (RDs.mono s r)
  | _, _, .lst h n z r => .lst (s _ _ h n).1 (s _ _ h n).2 z (RDs.mono s r)
  | _, _, .scr h z r => .scr (h.imp id fun h => s.rd h.1 h.2) z (RDs.mono s r)
  | _, _, .dK h n z r => .dK (s _ _ h n).1 (s _ _ h n).2 z (RDs.mono s r)
  | _, _, .opq => .opq
  | _, _, .dT h n z e r => .dT ⟨(s _ _ h.1 n).1, h.2⟩ (s _ _ h.1 n).2 z e (RDs.mono s r)
theorem RDs.mono (s : K0 H w H' w') : ∀ {ds : List D} {vs : List V}, RDs K w H ds vs → RDs K w' H' ds vs
  | _, _, .nil => .nil
  | _, _, .cons h t => .cons (RD.mono s h) (RDs.mono s t)
end
theorem RDs.length : ∀ {ds : List D} {vs : List V}, RDs K w H ds vs → ds.length = vs.length
  | _, _, .nil => rfl
  | _, _, .cons _ t => by rw [List.length_cons, List.length_cons, RDs.length t]
theorem RDs.get : ∀ {ds : List D} {vs : List V}, RDs K w H ds vs → ∀ (i : Nat) (d : D), ds[i]? = some d → ∃ v, vs[i]? = some v ∧ RD K w H d v
  | _, _, .nil, _, _, e => by simp at e
  | _, _, .cons h _, 0, _, e => by
    have e' := Option.some.inj e
    subst e'
    exact ⟨_, rfl, h⟩
  | _, _, .cons _ t, i + 1, d, e => RDs.get t i d e
theorem RDs.getV : ∀ {ds : List D} {vs : List V}, RDs K w H ds vs → ∀ (i : Nat) (v : V), vs[i]? = some v → ∃ d, ds[i]? = some d ∧ RD K w H d v
  | _, _, .nil, _, _, e => by simp at e
  | _, _, .cons h _, 0, _, e => by
    have e' := Option.some.inj e
    subst e'
    exact ⟨_, rfl, h⟩
  | _, _, .cons _ t, i + 1, d, e => RDs.getV t i d e
theorem RDs.append : ∀ {ds es : List D} {vs us : List V}, RDs K w H ds vs → RDs K w H es us → RDs K w H (ds ++ es) (vs ++ us)
  | _, _, _, _, .nil, s => s
  | _, _, _, _, .cons r t, s => .cons r (RDs.append t s)
theorem RDs.set {x : D} {u : V} (r : RD K w H x u) : ∀ {ds : List D} {vs : List V} (i : Nat), RDs K w H ds vs → RDs K w H (ds.set i x) (vs.set i u)
  | _, _, _, .nil => .nil
  | _, _, 0, .cons _ t => .cons r t
  | _, _, i + 1, .cons q t => .cons q (RDs.set r i t)
theorem RDs.take : ∀ {ds : List D} {vs : List V} (n : Nat), RDs K w H ds vs → RDs K w H (ds.take n) (vs.take n)
  | _, _, 0, _ => .nil
  | _, _, _ + 1, .nil => .nil
  | _, _, n + 1, .cons r t => .cons r (RDs.take n t)
theorem RDs.drop : ∀ {ds : List D} {vs : List V} (n : Nat), RDs K w H ds vs → RDs K w H (ds.drop n) (vs.drop n)
  | _, _, 0, r => r
  | _, _, _ + 1, .nil => .nil
  | _, _, n + 1, .cons _ t => RDs.drop n t
theorem RDs.eraseIdx : ∀ {ds : List D} {vs : List V} (n : Nat), RDs K w H ds vs → RDs K w H (ds.eraseIdx n) (vs.eraseIdx n)
  | _, _, _, .nil => .nil
  | _, _, 0, .cons _ t => t
  | _, _, n + 1, .cons r t => .cons r (RDs.eraseIdx n t)
theorem RDs.reverse : ∀ {ds : List D} {vs : List V}, RDs K w H ds vs → RDs K w H ds.reverse vs.reverse
  | _, _, .nil => .nil
  | _, _, .cons r t => by
    rw [List.reverse_cons, List.reverse_cons]
    exact (RDs.reverse t).append (.cons r .nil)
theorem RDs.snoc {ds : List D} {vs : List V} {d : D} {v : V} (h : RDs K w H ds vs) (r : RD K w H d v) : RDs K w H (ds ++ [d]) (vs ++ [v]) := h.append (.cons r .nil)
end

/-- rows of a list of lists, all owned by t -/
def Rows (K : PySem.W.Frag) (w : Wn) (H : Hp) (t : Option Nat) : List (List D) → List Addr → Prop
  | [], [] => True
  | xs :: xss, b :: bs => (∃ vs, H b = some (.lst vs) ∧ w b = some t ∧ vs.length ≤ sizeLine ∧ RDs K w H xs vs) ∧ b ∉ bs ∧ Rows K w H t xss bs
  | _, _ => False
/-- the value v stands for m, whose own objects are t's -/
def RM (K : PySem.W.Frag) (w : Wn) (H : Hp) (t : Option Nat) : M → V → Prop
  | .im d, v => RD K w H d v
  | .ml xs, v => ∃ a vs, v = .ref a ∧ H a = some (.lst vs) ∧ w a = some t ∧ vs.length ≤ sizeLine ∧ RDs K w H xs vs
  | .mm xss, v => ∃ (a : Addr) (bs : List Addr), v = .ref a ∧ H a = some (.lst (bs.map V.ref)) ∧ w a = some t ∧ bs.length ≤ sizeLine ∧ a ∉ bs ∧ Rows K w H t xss bs
  | .md kvs, v => ∃ a vs, v = .ref a ∧ H a = some (.dK (dKL (kvs.map Prod.fst) vs)) ∧ w a = some t ∧ kvs.length ≤ sizeLine ∧ RDs K w H (kvs.map Prod.snd) vs
  | .ms kvs, v => ∃ (a : Addr) (bs : List Addr), v = .ref a ∧ H a = some (.dK (dKL (kvs.map Prod.fst) (bs.map V.ref))) ∧ w a = some t ∧ kvs.length ≤ sizeLine ∧ a ∉ bs ∧ Rows K w H t (kvs.map Prod.snd) bs
/-- the addresses that m's value owns -/
def Owns (H : Hp) : M → V → Addr → Prop
  | .im _, _, _ => False
  | .ml _, v, a => v = .ref a
  | .mm _, v, a => v = .ref a ∨ ∃ (b : Addr) (bs : List Addr), v = .ref b ∧ H b = some (.lst (bs.map V.ref)) ∧ a ∈ bs
  | .md _, v, a => v = .ref a
  | .ms kvs, v, a => v = .ref a ∨ ∃ (b : Addr) (bs : List Addr), v = .ref b ∧ H b = some (.dK (dKL (kvs.map Prod.fst) (bs.map V.ref))) ∧ bs.length = kvs.length ∧ a ∈ bs
theorem dKL_inj : ∀ {ks : List Int} {vs us : List V}, vs.length = ks.length → us.length = ks.length → dKL ks vs = dKL ks us → vs = us
  | [], [], [], _, _, _ => rfl
  | k :: ks, v :: vs, u :: us, h1, h2, e => by
    have e' : ((Sum.inl k : Key), v) :: dKL ks vs = (Sum.inl k, u) :: dKL ks us := e
    injection e' with e1 e2
    injection e1 with _ e3
    rw [e3, dKL_inj (by simpa using h1) (by simpa using h2) e2]
theorem refs_inj {bs cs : List Addr} (h : bs.map V.ref = cs.map V.ref) : bs = cs := List.map_inj_right (fun x y z => by injection z) |>.mp h
section
variable {K : PySem.W.Frag} {H H' : Hp} {w w' : Wn} {t : Option Nat}
theorem Rows.length : ∀ {xss : List (List D)} {bs : List Addr}, Rows K w H t xss bs → xss.length = bs.length
  | [], [], _ => rfl
  | _ :: _, _ :: _, h => by rw [List.length_cons, List.length_cons, Rows.length h.2.2]
  | [], _ :: _, h => h.elim
  | _ :: _, [], h => h.elim
theorem Rows.own : ∀ {xss : List (List D)} {bs : List Addr}, Rows K w H t xss bs → ∀ b ∈ bs, w b = some t ∧ ∃ vs, H b = some (.lst vs)
  | [], [], _, _, hb => by cases hb
  | _ :: _, c :: cs, h, b, hb => by
    rcases List.mem_cons.mp hb with e | hb
    · subst e
      obtain ⟨vs, h1, h2, _⟩ := h.1
      exact ⟨h2, vs, h1⟩
    · exact Rows.own h.2.2 b hb
  | [], _ :: _, h, _, _ => h.elim
  | _ :: _, [], h, _, _ => h.elim
/-- the same rows elsewhere: each row's own object and owner as they were -/
theorem Rows.keep (s : K0 H w H' w') {t' : Option Nat} : ∀ {xss : List (List D)} {bs : List Addr}, Rows K w H t xss bs → (∀ b ∈ bs, H' b = H b ∧ w' b = some t') → Rows K w' H' t' xss bs
  | [], [], _, _ => True.intro
  | xs :: xss, b :: bs, h, k => by
    obtain ⟨⟨vs, h1, h2, h3, h4⟩, h5, h6⟩ := h
    exact ⟨⟨vs, by rw [(k b List.mem_cons_self).1]; exact h1, (k b List.mem_cons_self).2, h3, h4.mono s⟩, h5, Rows.keep s h6 fun c hc => k c (List.mem_cons_of_mem _ hc)⟩
  | [], _ :: _, h, _ => h.elim
  | _ :: _, [], h, _ => h.elim
theorem RM.owned {m : M} {v : V} (h : RM K w H t m v) : ∀ a, Owns H m v a → w a = some t ∧ ∃ o, H a = some o := fun a o => by
  cases m with
  | im d => exact o.elim
  | ml xs =>
    obtain ⟨b, vs, e, h1, h2, _⟩ := h
    have o' : v = .ref a := o
    rw [e] at o'
    cases o'
    exact ⟨h2, _, h1⟩
  | mm xss =>
    obtain ⟨b, bs, e, h1, h2, _, _, hr⟩ := h
    rcases (show v = .ref a ∨ ∃ (b : Addr) (bs : List Addr), v = .ref b ∧ H b = some (.lst (bs.map V.ref)) ∧ a ∈ bs from o) with o' | ⟨c, cs, e', h1', hm⟩
    · rw [e] at o'; cases o'
      exact ⟨h2, _, h1⟩
    · rw [e] at e'; cases e'
      rw [h1] at h1'
      have ec : bs = cs := by
        have q := Option.some.inj h1'
        injection q with q
        exact List.map_inj_right (fun x y z => by injection z) |>.mp q
      subst ec
      obtain ⟨p1, vs, p2⟩ := hr.own a hm
      exact ⟨p1, _, p2⟩
  | md kvs =>
    obtain ⟨b, vs, e, h1, h2, _⟩ := h
    have o' : v = .ref a := o
    rw [e] at o'
    cases o'
    exact ⟨h2, _, h1⟩
  | ms kvs =>
    obtain ⟨b, bs, e, h1, h2, _, _, hr⟩ := h
    have hlen := hr.length
    rw [List.length_map] at hlen
    rcases (show v = .ref a ∨ ∃ (b : Addr) (bs : List Addr), v = .ref b ∧ H b = some (.dK (dKL (kvs.map Prod.fst) (bs.map V.ref))) ∧ bs.length = kvs.length ∧ a ∈ bs from o) with o' | ⟨c, cs, e', h1', hl, hm⟩
    · rw [e] at o'; cases o'
      exact ⟨h2, _, h1⟩
    · rw [e] at e'; cases e'
      rw [h1] at h1'
      have ec : bs = cs := by
        have q := Option.some.inj h1'
        injection q with q
        exact refs_inj (dKL_inj (by simp [hlen]) (by simp [hl]) q)
      subst ec
      obtain ⟨p1, vs, p2⟩ := hr.own a hm
      exact ⟨p1, _, p2⟩
/-- kept: the own objects unchanged, their owner now t' -/
theorem RM.keep (s : K0 H w H' w') {t' : Option Nat} {m : M} {v : V} (h : RM K w H t m v) (k : ∀ a, Owns H m v a → H' a = H a ∧ w' a = some t') : RM K w' H' t' m v ∧ ∀ a, Owns H' m v a ↔ Owns H m v a := by
  cases m with
  | im d => exact ⟨RD.mono s h, fun _ => Iff.rfl⟩
  | ml xs =>
    obtain ⟨b, vs, e, h1, h2, h3, h4⟩ := h
    obtain ⟨k1, k2⟩ := k b e
    exact ⟨⟨b, vs, e, by rw [k1]; exact h1, k2, h3, h4.mono s⟩, fun _ => Iff.rfl⟩
  | mm xss =>
    obtain ⟨b, bs, e, h1, h2, h3, h4, h5⟩ := h
    obtain ⟨k1, k2⟩ := k b (.inl e)
    refine ⟨⟨b, bs, e, by rw [k1]; exact h1, k2, h3, h4, Rows.keep s h5 fun c hc => k c (.inr ⟨b, bs, e, h1, hc⟩)⟩, fun a => ?_⟩
    refine or_congr Iff.rfl ⟨fun ⟨c, cs, e', h', hm⟩ => ?_, fun ⟨c, cs, e', h', hm⟩ => ?_⟩
    · have : c = b := by rw [e] at e'; cases e'; rfl
      subst this
      exact ⟨c, cs, e', by rw [← k1]; exact h', hm⟩
    · have : c = b := by rw [e] at e'; cases e'; rfl
      subst this
      exact ⟨c, cs, e', by rw [k1]; exact h', hm⟩
  | md kvs =>
    obtain ⟨b, vs, e, h1, h2, h3, h4⟩ := h
    obtain ⟨k1, k2⟩ := k b e
    exact ⟨⟨b, vs, e, by rw [k1]; exact h1, k2, h3, h4.mono s⟩, fun _ => Iff.rfl⟩
  | ms kvs =>
    obtain ⟨b, bs, e, h1, h2, h3, h4, h5⟩ := h
    have hlen := h5.length
    rw [List.length_map] at hlen
    obtain ⟨k1, k2⟩ := k b (.inl e)
    refine ⟨⟨b, bs, e, by rw [k1]; exact h1, k2, h3, h4, Rows.keep s h5 fun c hc => k c (.inr ⟨b, bs, e, h1, hlen.symm, hc⟩)⟩, fun a => ?_⟩
    refine or_congr Iff.rfl ⟨fun ⟨c, cs, e', h', hl, hm⟩ => ?_, fun ⟨c, cs, e', h', hl, hm⟩ => ?_⟩
    · have : c = b := by rw [e] at e'; cases e'; rfl
      subst this
      exact ⟨c, cs, e', by rw [← k1]; exact h', hl, hm⟩
    · have : c = b := by rw [e] at e'; cases e'; rfl
      subst this
      exact ⟨c, cs, e', by rw [k1]; exact h', hl, hm⟩
/-- a temporary stays over a step -/
theorem RM.mono (s : Step H w H' w') {m : M} {v : V} (h : RM K w H none m v) : RM K w' H' none m v ∧ ∀ a, Owns H' m v a ↔ Owns H m v a :=
  h.keep s.k0 fun a o => by
    obtain ⟨e, u, q⟩ := h.owned a o
    obtain ⟨q', e'⟩ := s a u q (nslot_zone e)
    exact ⟨by rw [q', q], by rw [e', e]⟩
theorem RM.ext (s : Ext H w H' w') {m : M} {v : V} (h : RM K w H t m v) : RM K w' H' t m v ∧ ∀ a, Owns H' m v a ↔ Owns H m v a :=
  h.keep s.step.k0 fun a o => by
    obtain ⟨e, u, q⟩ := h.owned a o
    obtain ⟨q', e'⟩ := s a u q
    exact ⟨by rw [q', q], by rw [e', e]⟩
end

/-- the slots stand for Γ -/
structure ER (K : PySem.W.Frag) (w : Wn) (Γ : Sl) (σ : St) (H : Hp) : Prop where
  len : Γ.length = σ.length
  wf : Wf w H
  at_ : ∀ i m, Γ[i]? = some (some m) → ∃ v, σ[i]? = some (some v) ∧ RM K w H (some i) m v
section
variable {K : PySem.W.Frag} {H H' : Hp} {w w' : Wn} {Γ : Sl} {σ : St}
theorem ER.ext (e : ER K w Γ σ H) (s : Ext H w H' w') (wf : Wf w' H') : ER K w' Γ σ H' :=
  ⟨e.len, wf, fun i m h => by
    obtain ⟨v, h1, h2⟩ := e.at_ i m h
    exact ⟨v, h1, (h2.ext s).1⟩⟩
end

/-! ## Owners changed -/
open Classical in
/-- the addresses in S are t's from here on -/
noncomputable def own (w : Wn) (S : Addr → Prop) (t : Option (Option Nat)) : Wn := fun a => if S a then t else w a
section
variable {K : PySem.W.Frag} {H H' : Hp} {w w' : Wn} {Γ : Sl} {σ : St} {S : Addr → Prop} {t : Option (Option Nat)}
theorem own_in {a : Addr} (h : S a) : own w S t a = t := by unfold own; rw [if_pos h]
theorem own_out {a : Addr} (h : ¬ S a) : own w S t a = w a := by unfold own; rw [if_neg h]
end
/-- what is frozen of m -/
def frz : M → D
  | .im d => d
  | .ml xs => .list xs
  | .mm xss => .list (xss.map .list)
  | .md _ => opqD
  | .ms _ => opqD
end L2.Gv

set_option Elab.async false
set_option linter.all false
set_option maxRecDepth 100000
set_option maxHeartbeats 2000000
namespace L2.Gv
open PySem PySem.Spec PyProof.Rows L2

/-! ## The evaluator -/
/-- an exception: its class's name, its reason -/
structure Exn where
  cls : Str
  dat : Option D
inductive Rs (α : Type) where
  | ok (a : α) (Γ : Sl) | ex (x : Exn) (Γ : Sl) | no
def Rs.bind {α β : Type} (r : Rs α) (f : α → Sl → Rs β) : Rs β := match r with
  | .ok a Γ => f a Γ
  | .ex x Γ => .ex x Γ
  | .no => .no
inductive RF where
  | ok (r p : M) | ex (x : Exn) (p : M) | no
/-- a def's meaning: its first parameter in and out (io), the number of its parameters, what it makes of its arguments -/
structure Fn where
  io : Bool
  np : Nat
  sem : List M → RF
def lift (o : Option M) (Γ : Sl) : Rs M := match o with
  | some m => .ok m Γ
  | none => .no
def lineOk (n : Nat) : Bool := Nat.ble n 16777216

/-! ### operations on data -/
def seqD : D → Option (List D)
  | .list xs => some xs
  | .tuple xs => some xs
  | _ => none
def mulOk (i j : Int) : Bool := (decide (-(2 ^ 64) < i) && decide (i < 2 ^ 64)) || (decide (-(2 ^ 64) < j) && decide (j < 2 ^ 64))
def binD : Operator → D → D → Option M
  | .Add, .int i, .int j => some (.im (.int (i + j)))
  | .Add, .list xs, .list ys => if lineOk (xs.length + ys.length) then some (.ml (xs ++ ys)) else none
  | .Add, .tuple xs, .tuple ys => if lineOk (xs.length + ys.length) then some (.im (.tuple (xs ++ ys))) else none
  | .Sub, .int i, .int j => some (.im (.int (i - j)))
  | .Mult, .int i, .int j => if mulOk i j then some (.im (.int (i * j))) else none
  | .Mult, .list xs, .int j => if lineOk (xs.length * j.toNat) && decide (-(2 ^ 63) ≤ j) && decide (j < 2 ^ 63) then some (.ml (List.replicate j.toNat xs).flatten) else none
  | .Mult, .tuple xs, .int j => if !xs.isEmpty && decide (2 ≤ j) && decide (j ≤ 1000) && decide (xs.length ≤ 1000) then some (.im (.tuple (List.replicate j.toNat xs).flatten)) else none
  | .FloorDiv, .int i, .int j => if decide (0 < j) && decide (j < 1073741824) then some (.im (.int (i / j))) else none
  | .Mod, .int i, .int j => if decide (0 < j) then some (.im (.int (i % j))) else none
  | .Pow, .int i, .int j => if decide (0 ≤ j) && decide (j ≤ 1000000) && decide (i.natAbs < 2 ^ 64) then some (.im (.int (i ^ j.toNat))) else none
  | _, _, _ => none
/-- data without dicts, not too deep: == tells them apart -/
def shp (d : D) : Bool := SeqAt.shaped d
def intsD : List D → Option (List Int)
  | [] => some []
  | .int i :: r => (intsD r).map (i :: ·)
  | _ :: _ => none
def cmpD : CmpOp → D → D → Option Bool
  | .Eq, d, e => if shp d && shp e then some (PyData.eqv d e) else none
  | .NotEq, d, e => if shp d && shp e then some (!PyData.eqv d e) else none
  | .Lt, .int i, .int j => some (decide (i < j))
  | .Lt, .tuple xs, .tuple ys => match intsD xs, intsD ys with
    | some ns, some ms => some (HT.lexLt ns ms)
    | _, _ => none
  | .LtE, .int i, .int j => some (decide (i ≤ j))
  | .Gt, .int i, .int j => some (decide (j < i))
  | .GtE, .int i, .int j => some (decide (j ≤ i))
  | .In, d, e => match seqD e with
    | some xs => if shp d && xs.all shp then some (xs.any fun x => PyData.eqv x d) else none
    | none => none
  | .NotIn, d, e => match seqD e with
    | some xs => if shp d && xs.all shp then some (!xs.any fun x => PyData.eqv x d) else none
    | none => none
  | _, _, _ => none
def bM (o : Option Bool) : Option M := match o with
  | some b => some (.im (.bool b))
  | none => none
def idxD : D → D → Option D
  | .list xs, .int i => atI xs i
  | .tuple xs, .int i => atI xs i
  | .dict [(.none, .list xs)], .int i => atI xs i
  | _, _ => none
/-- a list or a tuple, or the law's script (written so) -/
def lenD : D → Option Nat
  | .list xs => some xs.length
  | .tuple xs => some xs.length
  | .dict [(.none, .list xs)] => some xs.length
  | _ => none
def cutD (xs : List D) (lo hi : Option Int) : List D := (xs.drop (HT.sIx xs.length 0 lo)).take (HT.sIx xs.length xs.length hi - HT.sIx xs.length 0 lo)
def slcD : D → Option Int → Option Int → Option M
  | .list xs, lo, hi => some (.ml (cutD xs lo hi))
  | .tuple xs, lo, hi => some (.im (.tuple (cutD xs lo hi)))
  | _, _, _ => none
def boolsD : List D → Option (List Bool)
  | [] => some []
  | .bool b :: r => (boolsD r).map (b :: ·)
  | _ :: _ => none
def maxL : List Int → Option Int
  | [] => none
  | x :: r => some (r.foldl max x)
def minL : List Int → Option Int
  | [] => none
  | x :: r => some (r.foldl min x)
/-- the kinds that sort: alike, none or tuples that are not empty -/
def alikeB (ds : List D) : Bool := ds.all fun d => ds.all fun e => PySem.W.alike d e
def nonEmptyT : D → Bool
  | .tuple (_ :: _) => true
  | _ => false
def plainK : D → Bool
  | .none => false
  | .tuple ds => (intsD ds).isSome
  | _ => true
def depthOk (ds : List D) : Bool := ds.all fun d => decide (d.depth < 50)
def sortB (ds : List D) : Bool := alikeB ds && (ds.all nonEmptyT || ds.all plainK) && depthOk ds
def sortD (ds : List D) : Option (List D) := if sortB ds then some (ds.mergeSort (PySem.W.dataLe false id)) else none
/-- a tuple of ints -/
def keyI : D → Option (List Int)
  | .tuple ds => intsD ds
  | _ => none
/-- a pair of such a tuple and True -/
def pairK : D → Option (List Int)
  | .tuple [k, .bool true] => keyI k
  | _ => none
def keysD : List D → Option (List (List Int))
  | [] => some []
  | d :: r => (pairK d).bind fun k => (keysD r).map (k :: ·)
def addKey (acc : List (List Int)) (k : List Int) : List (List Int) := if k ∈ acc then acc else acc ++ [k]
def dedupK (ks : List (List Int)) : List (List Int) := ks.foldl addKey []
def tupI (k : List Int) : D := .tuple (k.map .int)
def dictT : List (List Int) → D
  | [] => opqD
  | k :: ks => .dict ((k :: ks).map fun k => (tupI k, .bool true))
def keysT : List D → Option (List (List Int))
  | [] => some []
  | d :: r => (keyI d).bind fun k => (keysT r).map (k :: ·)
def dictKeys : List (D × D) → Option (List (List Int))
  | [] => some []
  | p :: r => (keyI p.1).bind fun k => (dictKeys r).map (k :: ·)
/-! dicts whose keys are ints -/
def getI {α : Type} (kvs : List (Int × α)) (k : Int) : Option α := (kvs.find? fun p => decide (p.1 = k)).map (·.2)
def putI {α : Type} (kvs : List (Int × α)) (k : Int) (x : α) : List (Int × α) := if (kvs.any fun p => decide (p.1 = k)) = true then kvs.map (fun p => if p.1 = k then (p.1, x) else p) else kvs ++ [(k, x)]
def dictD (kvs : List (Int × D)) : D := .dict (kvs.map fun p => (PyData.int p.1, p.2))
/-- the keys of a display, if they are ints -/
def mkD : List D → List D → Option (List (Int × D))
  | [], [] => some []
  | .int k :: ks, v :: vs => (mkD ks vs).map ((k, v) :: ·)
  | _, _ => none
/-- a dict as data: its entries -/
def kvsD : D → Option (List (Int × D))
  | .dict kvs => mkD (kvs.map Prod.fst) (kvs.map Prod.snd)
  | _ => none
def pairD (p : Int × D) : D := .tuple [.int p.1, p.2]
/-- the least of alike data: the first one -/
def minB (ds : List D) : Bool := alikeB ds && ds.all shp && ds.all (fun d => match d with | .none => false | _ => true) && depthOk ds
inductive Bi where
  | len | all | any | max | sum | sorted | tuple | list | repr | dict | min
  deriving DecidableEq
def biLen : List D → Option M
  | [d] => (lenD d).map fun n => .im (.int n)
  | _ => none
def biAll : List D → Option M
  | [.list xs] => (boolsD xs).map fun bs => .im (.bool (bs.all id))
  | _ => none
def biAny : List D → Option M
  | [.list xs] => (boolsD xs).map fun bs => .im (.bool (bs.any id))
  | _ => none
def biMax : List D → Option M
  | [d] => ((seqD d).bind intsD).bind fun ns => (maxL ns).map fun m => .im (.int m)
  | [.int i, .int j] => some (.im (.int (if j > i then j else i)))
  | _ => none
def biSum : List D → Option M
  | [.list xs] => (intsD xs).map fun ns => .im (.int ns.sum)
  | _ => none
def biSorted : List D → Option M
  | [.list xs] => (sortD xs).map .ml
  | [.tuple xs] => match keysT xs with
    | some ks => (sortD (ks.map tupI)).map .ml
    | none => (intsD xs).bind fun ns => (sortD (ns.map .int)).map .ml
  | _ => none
def biDict : List D → Option M
  | _ => none
def biTuple : List D → Option M
  | [d] => (seqD d).map fun xs => .im (.tuple xs)
  | _ => none
def biList : List D → Option M
  | [d] => match seqD d with
    | some xs => some (.ml xs)
    | none => (kvsD d).map fun kvs => .ml (kvs.map fun p => .int p.1)
  | _ => none
def biMin : List D → Option M
  | [.list (x :: xs)] => if minB (x :: xs) then some (.im (PySem.W.minD x xs)) else none
  | [d, e] => if minB [d, e] then some (.im (PySem.W.minD d [e])) else none
  | _ => none
/-- a dict from ints to ints -/
def iiB : D × D → Bool
  | (.int _, .int _) => true
  | _ => false
def fdB : D → Bool
  | .dict kvs => kvs.all iiB
  | _ => false
/-- such a dict, or a tuple of them -/
def dsh : D → Bool
  | .tuple xs => xs.all fdB
  | d => fdB d
def biRepr : List D → Option M
  | [d] => if (shp d || dsh d) && d.showable && lineOk d.shown.length then some (.im (.str d.shown)) else none
  | _ => none
def biD (b : Bi) (ds : List D) : Option M := match b with
  | .len => biLen ds
  | .all => biAll ds
  | .any => biAny ds
  | .max => biMax ds
  | .sum => biSum ds
  | .sorted => biSorted ds
  | .tuple => biTuple ds
  | .list => biList ds
  | .repr => biRepr ds
  | .dict => biDict ds
  | .min => biMin ds
/-- the built-in classes that isinstance asks for -/
inductive Ty where
  | int | bool | str | tuple | list
  deriving DecidableEq
def isiD : Ty → D → Bool
  | .int, .int _ => true
  | .int, .bool _ => true
  | .bool, .bool _ => true
  | .str, .str _ => true
  | .tuple, .tuple _ => true
  | .list, .list _ => true
  | _, _ => false
inductive Mt where
  | count | index
  deriving DecidableEq
def mtCount : D → List D → Option M
  | .list xs, [.int k] => (intsD xs).map fun ns => .im (.int ((ns.count k : Nat) : Int))
  | _, _ => none
def mtIndex : D → List D → Option M
  | .list xs, [d] => if shp d && shp (.list xs) then (xs.findIdx? fun x => PyData.eqv x d).map fun j => .im (.int (j : Nat)) else none
  | _, _ => none
def mtD (m : Mt) (d : D) (ds : List D) : Option M := match m with
  | .count => mtCount d ds
  | .index => mtIndex d ds
/-- methods of a list, count of a tuple -/
def mtT (m : Mt) (ys ds : List D) : Option M := match m, ds with
  | .count, [d] => if shp d && shp (.tuple ys) then some (.im (.int ((ys.countP fun y => PyData.eqv y d : Nat) : Int))) else none
  | _, _ => none
def mthB : Mt → D → Bool
  | _, .list _ => true
  | .count, .tuple _ => true
  | _, _ => false
def mthR (m : Mt) (d : D) (ds : List D) : Option M := match d with
  | .list ys => mtD m (.list ys) ds
  | .tuple ys => mtT m ys ds
  | _ => none
def rangeD (a b : Int) : List D := (List.range (b - a).toNat).map fun k => .int (a + (k : Nat))
def small62 (i : Int) : Bool := decide (-(2 ^ 62) ≤ i) && decide (i < 2 ^ 62)
def enumFrom (k : Nat) : List D → List D
  | [] => []
  | d :: r => .tuple [.int k, d] :: enumFrom (k + 1) r
def zipD : List D → List D → List D
  | x :: xs, y :: ys => .tuple [x, y] :: zipD xs ys
  | _, _ => []

/-! ### codes -/
/-- a target: a name, or names and tuples of names -/
inductive P1 where
  | nm (i : Nat) | tp (is : List Nat)
inductive Pt where
  | nm (i : Nat) | tp (ps : List P1)
mutual
inductive Ex where
  | nev | var (i : Nat) | mov (i : Nat) | con (d : D) | glb (x : Str) (d : D)
  | tup (es : Ar) | lst (es : Ar) | bin (op : Operator) (a b : Ex) | neg (a : Ex) | not (a : Ex) | and (es : Ar) | or (es : Ar) | ifx (c a b : Ex)
  | cmp (op : CmpOp) (a b : Ex) | chn (o1 o2 : CmpOp) (a b c : Ex) | isN (a : Ex) | notN (a : Ex)
  | idx (a i : Ex) | slc (a : Ex) (lo hi : Ar) | vidx (i : Nat) (e : Ex) | vlen (i : Nat)
  | call (f : Str) (F : Fn) (es : Ar) | cio (f : Str) (F : Fn) (i : Nat) (es : Ar) | cit (f : Str) (F : Fn) (e : Ex) (es : Ar)
  | bi (b : Bi) (es : Ar) | lrng (a : Ar) | isi (a : Ex) (t : Ty) | mth (m : Mt) (a : Ex) (es : Ar)
  | rev (a : Ex) | vmth (m : Mt) (i : Nat) (es : Ar) | vpop (i : Nat) (e : Ex) | vin (neg : Bool) (e : Ex) (i : Nat)
  | lc (ow : List Nat) (p : Pt) (it : It) (cs : Ar) (el : Ex) | lcm (ow : List Nat) (p : Pt) (it : It) (el : Ex)
  | vne (i : Nat) | dsp0 | dsp1 (k v : Ex) | dspS | vdne (i : Nat) | lk (a : Ex) | lkv (i : Nat) | vdin (neg : Bool) (e : Ex) (i : Nat) | vdget (i : Nat) (e : Ex) | vdgt (i : Nat) (e f : Ex) | isT (neg : Bool) (a : Ex)
  | two (a : Ex) | callk (f : Str) (F : Fn) (es : Ar) (ks : List Str) (kes : Ar)
  | trg (a : Ar) | sumv (a : Ex) | lstv (a : Ex)
  | lcr (ow : List Nat) (j i : Nat) (el : Ex) | lst2 (a b : Ex)
inductive Ar where
  | nil | cons (e : Ex) (r : Ar)
inductive It where
  | seq (e : Ex) | rng (a : Ar) | enm (e : Ex) | zip (a b : Ex) | itm (e : Ex) | vls (e : Ex)
end
inductive Sm where
  | nev | nil | seq (a b : Sm) | asg (i : Nat) (e : Ex) | asgP (ps : List P1) (e : Ex) | par (i j : Nat) (a b : Ex)
  | setI (i : Nat) (k e : Ex) | setII (i : Nat) (k l e : Ex) | app (i : Nat) (e : Ex) | ext (i : Nat) (e : Ex)
  | exp (e : Ex) | ret (e : Ex) | ifs (c : Ex) (a b : Sm) | for (p : Pt) (it : It) (b : Sm) | whl (n : Nat) (c : Ex) (b : Sm) | brk | cnt | pass | rais (c : Str) | tryN (b : Sm) | parM (i j : Nat) (a b : Ex) | par3 (i j l : Nat) (a b c : Ex) | dput (i : Nat) (k e : Ex) | sda (i : Nat) (k e : Ex) | appI (i : Nat) (k e : Ex)
  | ali (r i : Nat) (k l e : Ex) (b : Sm)
  | mat (e : Ex) (cs : Sm) | mcs (x : Str) (b r : Sm) | tryR (b : Sm) (ys : List Str) (hs : List (Str × Str)) | asgL (ps : List P1) (e : Ex)

/-! ### what they mean -/
def setNames : List Nat → List D → Sl → Option Sl
  | [], [], Γ => some Γ
  | i :: is, d :: ds, Γ => setNames is ds (Γ.set i (some (.im d)))
  | _, _, _ => none
def setP1 : P1 → D → Sl → Option Sl
  | .nm i, d, Γ => some (Γ.set i (some (.im d)))
  | .tp is, .tuple ds, Γ => setNames is ds Γ
  | _, _, _ => none
def setP1s : List P1 → List D → Sl → Option Sl
  | [], [], Γ => some Γ
  | p :: ps, d :: ds, Γ => (setP1 p d Γ).bind fun Γ' => setP1s ps ds Γ'
  | _, _, _ => none
def setPt : Pt → D → Sl → Option Sl
  | .nm i, d, Γ => some (Γ.set i (some (.im d)))
  | .tp ps, .tuple ds, Γ => setP1s ps ds Γ
  | _, _, _ => none
/-- the slots in ow forgotten -/
def wipeG (Γ : Sl) : List Nat → Sl
  | [] => Γ
  | i :: is => (wipeG Γ is).set i none
/-- the slots in ow as they were in Γ -/
def backG (Γ Γ' : Sl) : List Nat → Sl
  | [] => Γ'
  | i :: is => match Γ[i]? with
    | some o => (backG Γ Γ' is).set i o
    | none => backG Γ Γ' is
def plainM : Option M → Bool
  | some (.im _) => true
  | none => true
  | _ => false
/-- the loop of a comprehension -/
def loopC (f : D → Sl → Rs (Option D)) : List D → List D → Sl → Rs (List D)
  | [], acc, Γ => .ok acc Γ
  | d :: ds, acc, Γ => match f d Γ with
    | .ok (some y) Γ' => loopC f ds (acc ++ [y]) Γ'
    | .ok none Γ' => loopC f ds acc Γ'
    | _ => .no
def loopM (f : D → Sl → Rs (List D)) : List D → List (List D) → Sl → Rs (List (List D))
  | [], acc, Γ => .ok acc Γ
  | d :: ds, acc, Γ => match f d Γ with
    | .ok y Γ' => loopM f ds (acc ++ [y]) Γ'
    | _ => .no
/-- slot i holds something -/
def need {α : Type} (Γ : Sl) (i : Nat) (r : Rs α) : Rs α := match Γ[i]? with
  | some (some _) => r
  | _ => .no
/-- slot i holds a list of its own -/
def needL {α : Type} (Γ : Sl) (i : Nat) (r : Rs α) : Rs α := match Γ[i]? with
  | some (some (.ml _)) => r
  | _ => .no
/-- slot i holds a dict of its own -/
def needD {α : Type} (Γ : Sl) (i : Nat) (r : Rs α) : Rs α := match Γ[i]? with
  | some (some (.md _)) => r
  | _ => .no
/-- slot i holds a dict of lists of its own -/
def needDS {α : Type} (Γ : Sl) (i : Nat) (r : Rs α) : Rs α := match Γ[i]? with
  | some (some (.ms _)) => r
  | _ => .no
/-- slot i holds a list of lists of its own -/
def needLL {α : Type} (Γ : Sl) (i : Nat) (r : Rs α) : Rs α := match Γ[i]? with
  | some (some (.mm _)) => r
  | _ => .no
def isNoneM : M → Bool
  | .im .none => true
  | _ => false
def asB (r : Rs M) : Rs Bool := r.bind fun m Γ => match m with
  | .im (.bool b) => .ok b Γ
  | _ => .no
def asML (r : Rs M) : Rs (List D) := r.bind fun m Γ => match m with
  | .ml xs => .ok xs Γ
  | _ => .no
def asI : List D → Option (Option Int)
  | [] => some none
  | [.int i] => some (some i)
  | _ => none
def toI (ds : List D) (Γ : Sl) : Rs (Option Int) := match asI ds with
  | some o => .ok o Γ
  | none => .no
/-- xs.pop(k) of the list in slot i -/
def popD (xs : List D) (k : D) (Γ : Sl) (i : Nat) : Rs M := match k with
  | .int k => if decide (-(2 ^ 63) ≤ k) && decide (k < 2 ^ 63) then match seqIndex? k xs.length with
      | some j => match xs[j]? with
        | some d => .ok (.im d) (Γ.set i (some (.ml (xs.eraseIdx j))))
        | none => .no
      | none => .no
    else .no
  | _ => .no
def retF (r : RF) (Γ : Sl) : Rs M := match r with
  | .ok m _ => .ok m Γ
  | .ex x _ => .ex x Γ
  | .no => .no
def retIO (r : RF) (Γ : Sl) (i : Nat) : Rs M := match r with
  | .ok m p => .ok m (Γ.set i (some p))
  | .ex x p => .ex x (Γ.set i (some p))
  | .no => .no
mutual
def evE : Ex → Sl → Rs M
  | .nev, _ => .no
  | .var i, Γ => match Γ[i]? with
    | some (some (.im d)) => .ok (.im d) Γ
    | some (some m) => .ok (.im (frz m)) (Γ.set i (some (.im (frz m))))
    | _ => .no
  | .mov i, Γ => match Γ[i]? with
    | some (some (.im d)) => .ok (.im d) Γ
    | some (some m) => .ok m (Γ.set i none)
    | _ => .no
  | .con d, Γ => .ok (.im d) Γ
  | .glb _ d, Γ => .ok (.im d) Γ
  | .tup es, Γ => (evA es Γ).bind fun ds Γ => .ok (.im (.tuple ds)) Γ
  | .lst es, Γ => (evA es Γ).bind fun ds Γ => .ok (.ml ds) Γ
  | .bin op a b, Γ => (evE a Γ).bind fun x Γ => (evE b Γ).bind fun y Γ => lift (binD op (frz x) (frz y)) Γ
  | .neg a, Γ => (evE a Γ).bind fun x Γ => match x with
    | .im (.int i) => .ok (.im (.int (-i))) Γ
    | _ => .no
  | .not a, Γ => (asB (evE a Γ)).bind fun b Γ => .ok (.im (.bool (!b))) Γ
  | .and es, Γ => (evAnd es Γ).bind fun b Γ => .ok (.im (.bool b)) Γ
  | .or es, Γ => (evOr es Γ).bind fun b Γ => .ok (.im (.bool b)) Γ
  | .ifx c a b, Γ => (asB (evE c Γ)).bind fun x Γ => if x then evE a Γ else evE b Γ
  | .cmp op a b, Γ => (evE a Γ).bind fun x Γ => (evE b Γ).bind fun y Γ => lift (bM (cmpD op (frz x) (frz y))) Γ
  | .chn o1 o2 a b c, Γ => (evE a Γ).bind fun x Γ => (evE b Γ).bind fun y Γ => match cmpD o1 (frz x) (frz y) with
    | some true => (evE c Γ).bind fun z Γ => lift (bM (cmpD o2 (frz y) (frz z))) Γ
    | some false => .ok (.im (.bool false)) Γ
    | none => .no
  | .isN a, Γ => (evE a Γ).bind fun x Γ => .ok (.im (.bool (isNoneM x))) Γ
  | .notN a, Γ => (evE a Γ).bind fun x Γ => .ok (.im (.bool (!isNoneM x))) Γ
  | .idx a i, Γ => (evE a Γ).bind fun x Γ => (evE i Γ).bind fun y Γ => lift ((idxD (frz x) (frz y)).map .im) Γ
  | .slc a lo hi, Γ => (evE a Γ).bind fun x Γ => ((evA lo Γ).bind toI).bind fun l Γ => ((evA hi Γ).bind toI).bind fun h Γ => lift (slcD (frz x) l h) Γ
  | .vidx i e, Γ => need Γ i <| (evE e Γ).bind fun y Γ => match Γ[i]? with
    | some (some (.ml xs)) => lift ((idxD (.list xs) (frz y)).map .im) Γ
    | _ => .no
  | .vlen i, Γ => match Γ[i]? with
    | some (some (.ml xs)) => .ok (.im (.int xs.length)) Γ
    | some (some (.mm xs)) => .ok (.im (.int xs.length)) Γ
    | _ => .no
  | .call _ F es, Γ => (evA es Γ).bind fun ds Γ => if F.io then .no else retF (F.sem (ds.map .im)) Γ
  | .cio _ F i es, Γ => need Γ i <| (evA es Γ).bind fun ds Γ => match Γ[i]? with
    | some (some (.ml xs)) => if F.io then retIO (F.sem (.ml xs :: ds.map .im)) Γ i else .no
    | _ => .no
  | .cit _ F e es, Γ => (evE e Γ).bind fun x Γ => (evA es Γ).bind fun ds Γ => match x with
    | .ml xs => if F.io then retF (F.sem (.ml xs :: ds.map .im)) Γ else .no
    | _ => .no
  | .bi b es, Γ => (evA es Γ).bind fun ds Γ => lift (biD b ds) Γ
  | .lrng a, Γ => (evA a Γ).bind fun ds Γ => match ds with
    | [.int j] => if small62 j && lineOk j.toNat then .ok (.ml (rangeD 0 j)) Γ else .no
    | _ => .no
  | .isi a t, Γ => (evE a Γ).bind fun x Γ => match frz x with
    | .dict ((.none, _) :: _) => .no
    | d => .ok (.im (.bool (isiD t d))) Γ
  | .mth m a es, Γ => (evE a Γ).bind fun x Γ => if mthB m (frz x) then (evA es Γ).bind fun ds Γ => lift (mthR m (frz x) ds) Γ else .no
  | .rev a, Γ => (evE a Γ).bind fun x Γ => match frz x with
    | .list xs => .ok (.ml xs.reverse) Γ
    | .tuple xs => .ok (.im (.tuple xs.reverse)) Γ
    | _ => .no
  | .vmth m i es, Γ => needL Γ i <| (evA es Γ).bind fun ds Γ => match Γ[i]? with
    | some (some (.ml xs)) => lift (mtD m (.list xs) ds) Γ
    | _ => .no
  | .vpop i e, Γ => needL Γ i <| (evE e Γ).bind fun y Γ => match Γ[i]? with
    | some (some (.ml xs)) => popD xs (frz y) Γ i
    | _ => .no
  | .vin neg e i, Γ => (evE e Γ).bind fun y Γ => match Γ[i]? with
    | some (some (.ml xs)) => lift (bM (cmpD (if neg then .NotIn else .In) (frz y) (.list xs))) Γ
    | _ => .no
  | .lc ow p it cs el, Γ => (evI it Γ).bind fun ds Γ1 => if ow.all (fun i => plainM (Γ1[i]?.join)) then
      match loopC (fun d Γ => match setPt p d (wipeG Γ ow) with
          | some Γ' => (evC cs Γ').bind fun b Γ => if b then (evE el Γ).bind fun y Γ => .ok (some (frz y)) Γ else .ok none Γ
          | none => .no) ds [] Γ1 with
        | .ok xs Γ2 => .ok (.ml xs) (backG Γ1 Γ2 ow)
        | _ => .no
      else .no
  | .lcm ow p it el, Γ => (evI it Γ).bind fun ds Γ1 => if ow.all (fun i => plainM (Γ1[i]?.join)) then
      match loopM (fun d Γ => match setPt p d (wipeG Γ ow) with
          | some Γ' => asML (evE el Γ')
          | none => .no) ds [] Γ1 with
        | .ok xs Γ2 => .ok (.mm xs) (backG Γ1 Γ2 ow)
        | _ => .no
      else .no
  | .vne i, Γ => match Γ[i]? with
    | some (some (.ml xs)) => lift (bM (cmpD .NotEq (.list xs) (.list []))) Γ
    | _ => .no
  | .dsp0, Γ => .ok (.md []) Γ
  | .dsp1 k v, Γ => (evE k Γ).bind fun x Γ => (evE v Γ).bind fun y Γ => match frz x with
    | .int n => .ok (.md [(n, frz y)]) Γ
    | _ => .no
  | .vdne i, Γ => match Γ[i]? with
    | some (some (.md kvs)) => .ok (.im (.bool (!kvs.isEmpty))) Γ
    | some (some (.im d)) => match kvsD d with
      | some kvs => .ok (.im (.bool (!kvs.isEmpty))) Γ
      | none => .no
    | _ => .no
  | .dspS, Γ => .ok (.ms []) Γ
  | .lk a, Γ => (evE a Γ).bind fun x Γ => match x with
    | .md kvs => .ok (.im (dictD kvs)) Γ
    | .ms kvs => .ok (.im (dictD (kvs.map fun p => (p.1, .list p.2)))) Γ
    | .im d => .ok (.im d) Γ
    | _ => .no
  | .lkv i, Γ => match Γ[i]? with
    | some (some (.md kvs)) => .ok (.im (dictD kvs)) (Γ.set i (some (.im (dictD kvs))))
    | some (some (.ms kvs)) => .ok (.im (dictD (kvs.map fun p => (p.1, .list p.2)))) (Γ.set i (some (.im (dictD (kvs.map fun p => (p.1, .list p.2))))))
    | some (some (.im d)) => .ok (.im d) Γ
    | _ => .no
  | .vdin neg e i, Γ => (evE e Γ).bind fun y Γ => match Γ[i]?, frz y with
    | some (some (.md kvs)), .int k => .ok (.im (.bool ((getI kvs k).isSome != neg))) Γ
    | _, _ => .no
  | .vdget i e, Γ => need Γ i <| (evE e Γ).bind fun y Γ => match Γ[i]?, frz y with
    | some (some (.md kvs)), .int k => lift ((getI kvs k).map .im) Γ
    | _, _ => .no
  | .vdgt i e f, Γ => needD Γ i <| (evE e Γ).bind fun y Γ => (evE f Γ).bind fun z Γ => match Γ[i]?, frz y with
    | some (some (.md kvs)), .int k => .ok (.im ((getI kvs k).getD (frz z))) Γ
    | _, _ => .no
  | .isT neg a, Γ => (asB (evE a Γ)).bind fun b Γ => .ok (.im (.bool (b != neg))) Γ
  | .lcr ow j i el, Γ => match Γ[i]? with
    | some (some (.mm xss)) => if ow.all (fun k => plainM ((Γ.set i none)[k]?.join)) then
      match loopC (fun d Γ => match d with
          | .list xs => (evE el ((wipeG Γ ow).set j (some (.ml xs)))).bind fun y Γ => .ok (some (frz y)) Γ
          | _ => .no) (xss.map PyData.list) [] (Γ.set i none) with
        | .ok xs Γ2 => .ok (.ml xs) (backG (Γ.set i none) Γ2 ow)
        | _ => .no
      else .no
    | _ => .no
  | .lst2 a b, Γ => (evE a Γ).bind fun x Γ => match x with
    | .ml xs => (evE b Γ).bind fun y Γ => match y with
      | .ml ys => .ok (.mm [xs, ys]) Γ
      | _ => .no
    | _ => .no
  | .two a, Γ => (evE a Γ).bind fun x Γ => match frz x with
    | .tuple [u, _, z] => .ok (.im (.tuple [u, z])) Γ
    | _ => .no
  | .trg a, Γ => (evA a Γ).bind fun ds Γ => match ds with
    | [.int j] => if small62 j && lineOk j.toNat then .ok (.im (.tuple (rangeD 0 j))) Γ else .no
    | _ => .no
  | .sumv a, Γ => (evE a Γ).bind fun x Γ => match x with
    | .im d => match kvsD d with
      | some kvs => match intsD (kvs.map Prod.snd) with
        | some ns => .ok (.im (.int ns.sum)) Γ
        | none => .no
      | none => .no
    | _ => .no
  | .lstv a, Γ => (evE a Γ).bind fun x Γ => match x with
    | .im d => match kvsD d with
      | some kvs => .ok (.ml (kvs.map Prod.snd)) Γ
      | none => .no
    | _ => .no
  | .callk _ F es _ kes, Γ => (evA es Γ).bind fun ds Γ => (evA kes Γ).bind fun zs Γ => if F.io then .no else retF (F.sem ((ds ++ zs).map .im)) Γ
def evA : Ar → Sl → Rs (List D)
  | .nil, Γ => .ok [] Γ
  | .cons e r, Γ => (evE e Γ).bind fun x Γ => (evA r Γ).bind fun ds Γ => .ok (frz x :: ds) Γ
def evAnd : Ar → Sl → Rs Bool
  | .nil, _ => .no
  | .cons e .nil, Γ => asB (evE e Γ)
  | .cons e (.cons e2 r), Γ => (asB (evE e Γ)).bind fun b Γ => if b then evAnd (.cons e2 r) Γ else .ok false Γ
def evOr : Ar → Sl → Rs Bool
  | .nil, _ => .no
  | .cons e .nil, Γ => asB (evE e Γ)
  | .cons e (.cons e2 r), Γ => (asB (evE e Γ)).bind fun b Γ => if b then .ok true Γ else evOr (.cons e2 r) Γ
/-- conditions of a comprehension -/
def evC : Ar → Sl → Rs Bool
  | .nil, Γ => .ok true Γ
  | .cons e .nil, Γ => asB (evE e Γ)
  | .cons _ (.cons _ _), _ => .no
def evI : It → Sl → Rs (List D)
  | .seq e, Γ => (evE e Γ).bind fun x Γ => match seqD (frz x) with
    | some xs => .ok xs Γ
    | none => .no
  | .rng a, Γ => (evA a Γ).bind fun ds Γ => match ds with
    | [.int j] => if small62 j && lineOk j.toNat then .ok (rangeD 0 j) Γ else .no
    | [.int i, .int j] => if small62 i && small62 j && lineOk (j - i).toNat then .ok (rangeD i j) Γ else .no
    | _ => .no
  | .enm e, Γ => (evE e Γ).bind fun x Γ => match seqD (frz x) with
    | some xs => .ok (enumFrom 0 xs) Γ
    | none => .no
  | .zip a b, Γ => (evE a Γ).bind fun x Γ => (evE b Γ).bind fun y Γ => match frz x, frz y with
    | .list xs, .list ys => .ok (zipD xs ys) Γ
    | .tuple xs, .tuple ys => .ok (zipD xs ys) Γ
    | _, _ => .no
  | .itm e, Γ => (evE e Γ).bind fun x Γ => match x with
    | .im d => match kvsD d with
      | some kvs => .ok (kvs.map pairD) Γ
      | none => .no
    | _ => .no
  | .vls e, Γ => (evE e Γ).bind fun x Γ => match x with
    | .im d => match kvsD d with
      | some kvs => .ok (kvs.map Prod.snd) Γ
      | none => .no
    | _ => .no
end
/-- how a statement ends -/
inductive Fl where
  | nx | rt (m : M) | bk | ct
def loopF (f : D → Sl → Rs Fl) : List D → Sl → Rs Fl
  | [], Γ => .ok .nx Γ
  | d :: ds, Γ => match f d Γ with
    | .ok .nx Γ' => loopF f ds Γ'
    | .ok .ct Γ' => loopF f ds Γ'
    | .ok .bk Γ' => .ok .nx Γ'
    | .ok (.rt m) Γ' => .ok (.rt m) Γ'
    | .ex x Γ' => .ex x Γ'
    | .no => .no
def loopW (c : Sl → Rs Bool) (f : Sl → Rs Fl) : Nat → Sl → Rs Fl
  | 0, _ => .no
  | n + 1, Γ => (c Γ).bind fun b Γ => if b then match f Γ with
      | .ok .nx Γ' => loopW c f n Γ'
      | .ok .ct Γ' => loopW c f n Γ'
      | .ok .bk Γ' => .ok .nx Γ'
      | .ok (.rt m) Γ' => .ok (.rt m) Γ'
      | .ex x Γ' => .ex x Γ'
      | .no => .no
    else .ok .nx Γ
def liftΓ (o : Option Sl) : Rs Fl := match o with
  | some Γ => .ok .nx Γ
  | none => .no
/-- the reading of an exception that a try's clauses know: what is returned -/
def hanR (x : Exn) (ys : List Str) (hs : List (Str × Str)) : Option Str := if x.cls ∈ ys then (hs.find? fun p => decide (p.1 = x.cls) || p.1 == ("WriteError" : Str)).map (·.2) else none
mutual
def exS : Sm → Sl → Rs Fl
  | .nev, _ => .no
  | .nil, Γ => .ok .nx Γ
  | .seq a b, Γ => (exS a Γ).bind fun f Γ => match f with
    | .nx => exS b Γ
    | f => .ok f Γ
  | .asg i e, Γ => (evE e Γ).bind fun x Γ => .ok .nx (Γ.set i (some x))
  | .asgP ps e, Γ => (evE e Γ).bind fun x Γ => match frz x with
    | .tuple ds => liftΓ (setP1s ps ds Γ)
    | _ => .no
  | .asgL ps e, Γ => (evE e Γ).bind fun x Γ => match frz x with
    | .list ds => liftΓ (setP1s ps ds Γ)
    | _ => .no
  | .par i j a b, Γ => (evE a Γ).bind fun x Γ => (evE b Γ).bind fun y Γ => .ok .nx ((Γ.set i (some (.im (frz x)))).set j (some (.im (frz y))))
  | .setI i k e, Γ => (evE e Γ).bind fun y Γ => need Γ i <| (evE k Γ).bind fun x Γ => match Γ[i]?, frz x with
    | some (some (.ml xs)), .int n => match ixN xs.length n with
      | some j => .ok .nx (Γ.set i (some (.ml (xs.set j (frz y)))))
      | none => .no
    | _, _ => .no
  | .setII i k l e, Γ => (evE e Γ).bind fun y Γ => need Γ i <| (evE k Γ).bind fun x Γ => match Γ[i]?, frz x with
    | some (some (.mm xss)), .int n => match ixN xss.length n with
      | some j => match xss[j]? with
        | some xs => (evE l (Γ.set i none)).bind fun z Γ => match frz z with
          | .int n' => match ixN xs.length n' with
            | some j' => .ok .nx (Γ.set i (some (.mm (xss.set j (xs.set j' (frz y))))))
            | none => .no
          | _ => .no
        | none => .no
      | none => .no
    | _, _ => .no
  | .app i e, Γ => needL Γ i <| (evE e Γ).bind fun y Γ => match Γ[i]? with
    | some (some (.ml xs)) => if lineOk (xs.length + 1) then .ok .nx (Γ.set i (some (.ml (xs ++ [frz y])))) else .no
    | _ => .no
  | .ext i e, Γ => needL Γ i <| (evE e Γ).bind fun y Γ => match Γ[i]?, frz y with
    | some (some (.ml xs)), .list ys => if lineOk (xs.length + ys.length) then .ok .nx (Γ.set i (some (.ml (xs ++ ys)))) else .no
    | some (some (.ml xs)), .tuple ys => if lineOk (xs.length + ys.length) then .ok .nx (Γ.set i (some (.ml (xs ++ ys)))) else .no
    | _, _ => .no
  | .ali r i k l e b, Γ => need Γ i <| (evE k Γ).bind fun x Γ => match Γ[i]?, frz x with
    | some (some (.mm xss)), .int n => match ixN xss.length n with
      | some j => match xss[j]? with
        | some xs => (evE e ((Γ.set i none).set r (some (.ml xs)))).bind fun y Γ => need Γ r <| (evE l Γ).bind fun z Γ => match Γ[r]?, frz z with
          | some (some (.ml ys)), .int n' => match ixN ys.length n' with
            | some j' => exS b ((Γ.set r none).set i (some (.mm (xss.set j (ys.set j' (frz y))))))
            | none => .no
          | _, _ => .no
        | none => .no
      | none => .no
    | _, _ => .no
  | .exp e, Γ => (evE e Γ).bind fun _ Γ => .ok .nx Γ
  | .ret e, Γ => (evE e Γ).bind fun x Γ => .ok (.rt x) Γ
  | .ifs c a b, Γ => (asB (evE c Γ)).bind fun x Γ => if x then exS a Γ else exS b Γ
  | .for p it b, Γ => (evI it Γ).bind fun ds Γ => loopF (fun d Γ => match setPt p d Γ with
      | some Γ' => exS b Γ'
      | none => .no) ds Γ
  | .whl n c b, Γ => loopW (fun Γ => asB (evE c Γ)) (fun Γ => exS b Γ) n Γ
  | .brk, Γ => .ok .bk Γ
  | .cnt, Γ => .ok .ct Γ
  | .pass, Γ => .ok .nx Γ
  | .rais c, Γ => .ex ⟨c, none⟩ Γ
  | .parM i j a b, Γ => (evE a Γ).bind fun x Γ => (evE b Γ).bind fun y Γ => .ok .nx ((Γ.set i (some x)).set j (some y))
  | .par3 i j l a b c, Γ => (evE a Γ).bind fun x Γ => (evE b Γ).bind fun y Γ => (evE c Γ).bind fun z Γ => .ok .nx (((Γ.set i (some x)).set j (some y)).set l (some z))
  | .dput i k e, Γ => (evE e Γ).bind fun y Γ => need Γ i <| (evE k Γ).bind fun x Γ => match Γ[i]?, frz x with
    | some (some (.md kvs)), .int n => if lineOk (kvs.length + 1) then .ok .nx (Γ.set i (some (.md (putI kvs n (frz y))))) else .no
    | _, _ => .no
  | .sda i k e, Γ => needDS Γ i <| (evE k Γ).bind fun x Γ => match Γ[i]?, frz x with
    | some (some (.ms kvs)), .int n => if lineOk (kvs.length + 1) then match kvs.findIdx? (fun p => decide (p.1 = n)) with
      | some j => match kvs[j]? with
        | some q => (evE e (Γ.set i none)).bind fun y Γ => if lineOk (q.2.length + 1) then .ok .nx (Γ.set i (some (.ms (kvs.set j (n, q.2 ++ [frz y]))))) else .no
        | none => .no
      | none => (evE e (Γ.set i none)).bind fun y Γ => .ok .nx (Γ.set i (some (.ms (kvs ++ [(n, [frz y])]))))
      else .no
    | _, _ => .no
  | .appI i k e, Γ => needLL Γ i <| (evE k Γ).bind fun x Γ => match Γ[i]?, frz x with
    | some (some (.mm xss)), .int n => match ixN xss.length n with
      | some j => match xss[j]? with
        | some xs => (evE e (Γ.set i none)).bind fun y Γ => if lineOk (xs.length + 1) then .ok .nx (Γ.set i (some (.mm (xss.set j (xs ++ [frz y]))))) else .no
        | none => .no
      | none => .no
    | _, _ => .no
  | .tryN b, Γ => match exS b Γ with
    | .ok f Γ' => .ok f Γ'
    | _ => .no
  | .mat e cs, Γ => (evE e Γ).bind fun x Γ => exM (frz x) cs Γ
  | .mcs .., _ => .no
  | .tryR b ys hs, Γ => match exS b Γ with
    | .ok f Γ' => .ok f Γ'
    | .ex x Γ' => match hanR x ys hs with
      | some z => .ok (.rt (.im (.str z))) Γ'
      | none => .no
    | .no => .no
/-- the cases of a match over d -/
def exM (d : D) : Sm → Sl → Rs Fl
  | .mcs x b r, Γ => match cmpD .Eq d (.str x) with
    | some true => exS b Γ
    | some false => exM d r Γ
    | none => .no
  | .nil, Γ => .ok .nx Γ
  | _, _ => .no
end
/-- a def: the number of its slots -/
def fin (io : Bool) (r : M) (Γ : Sl) : RF := match io, (Γ[0]? : Option (Option M)) with
  | false, _ => .ok r (.im .none)
  | true, some (some (.ml xs)) => .ok r (.ml xs)
  | true, _ => .no
def finX (io : Bool) (x : Exn) (Γ : Sl) : RF := match io, (Γ[0]? : Option (Option M)) with
  | false, _ => .ex x (.im .none)
  | true, some (some (.ml xs)) => .ex x (.ml xs)
  | true, _ => .no
def mkFn (io : Bool) (np ns : Nat) (body : Sm) : Fn := ⟨io, np, fun ms => if ms.length = np then match exS body (ms.map some ++ List.replicate (ns - np) none) with
    | .ok (.rt r) Γ => fin io r Γ
    | .ok .nx Γ => fin io (.im .none) Γ
    | .ex x Γ => finX io x Γ
    | _ => .no
  else .no⟩
end L2.Gv

set_option Elab.async false
set_option linter.all false
set_option maxRecDepth 100000
set_option maxHeartbeats 2000000
namespace L2.Gv
open PySem PySem.Spec PyProof.Rows L2

section
variable {K : PySem.W.Frag} {w w' w1 : Wn} {H H' H1 : Hp} {Γ Γ' : Sl} {σ : St} {r m : M} {v : V} {t : Option Nat}
/-- what an expression leaves -/
structure Po (K : PySem.W.Frag) (w : Wn) (H : Hp) (Γ' : Sl) (σ : St) (r : M) (v : V) (H' : Hp) (w' : Wn) : Prop where
  st : Step H w H' w'
  er : ER K w' Γ' σ H'
  rm : RM K w' H' none r v
  nw : ∀ a, Owns H' r v a → w a ≠ some none
theorem Wf.alloc (h : Wf w H) {a : Addr} {t : Option Nat} (e : w a = some t) : ∃ o, H a = some o := by
  obtain ⟨o, q, _⟩ := h a (by rw [e]; intro z; cases z)
  exact ⟨o, q⟩
theorem Wf.fresh (h : Wf w H) {a : Addr} (e : H a = none) : w a = none := by
  cases q : w a with
  | none => rfl
  | some t =>
    obtain ⟨o, z, _⟩ := h a (by rw [q]; intro z; cases z)
    rw [e] at z; cases z
theorem zone_back (s : Step H w H1 w1) (wf : Wf w H) {a : Addr} (h : w1 a ≠ some none) : w a ≠ some none := fun e => by
  obtain ⟨o, q⟩ := wf.alloc e
  exact h ((s a o q (nslot_zone e)).2.trans e)
theorem Po.trans (s : Step H w H1 w1) (wf : Wf w H) (p : Po K w1 H1 Γ' σ r v H' w') : Po K w H Γ' σ r v H' w' :=
  ⟨s.trans p.st, p.er, p.rm, fun a o => zone_back s wf (p.nw a o)⟩
/-- the owners in S changed, all of them temporaries that are new since (H, w) -/
theorem step_own (s : Step H w H' w') {S : Addr → Prop} {t : Option (Option Nat)} (hz : ∀ a, S a → w' a = some none) (hn : ∀ a, S a → w a ≠ some none) : Step H w H' (own w' S t) := fun a o h n => by
  obtain ⟨h1, e⟩ := s a o h n
  refine ⟨h1, ?_⟩
  by_cases hs : S a
  · exact absurd (e.symm.trans (hz a hs)) (hn a hs)
  · rw [own_out hs, e]
theorem k0_own {S : Addr → Prop} {t : Option (Option Nat)} {q : Option Nat} (hz : ∀ a, S a → w a = some q) : K0 H w H (own w S t) := fun a o h n => by
  refine ⟨h, ?_⟩
  rw [own_out (fun z => by rw [hz a z] at n; cases n)]
  exact n
/-- the slots stand on when the owners of temporaries change -/
theorem er_own (e : ER K w Γ σ H) {S : Addr → Prop} {t : Option (Option Nat)} (hz : ∀ a, S a → w a = some none) : ER K (own w S t) Γ σ H := by
  refine ⟨e.len, fun a h => ?_, fun i m h => ?_⟩
  · by_cases hs : S a
    · exact e.wf a (by rw [hz a hs]; intro z; cases z)
    · rw [own_out hs] at h
      exact e.wf a h
  · obtain ⟨v, h1, h2⟩ := e.at_ i m h
    refine ⟨v, h1, (h2.keep (k0_own hz) fun a o => ⟨rfl, ?_⟩).1⟩
    have q := (h2.owned a o).1
    rw [own_out (fun z => by rw [hz a z] at q; cases q)]
    exact q
theorem rows_lists {bs : List Addr} : ∀ {xss : List (List D)} {bs : List Addr}, Rows K w H t xss bs → (∀ b ∈ bs, w' b = none) → K0 H w H w' → RDs K w' H (xss.map .list) (bs.map V.ref)
  | [], [], _, _, _ => .nil
  | xs :: xss, b :: bs, h, k, s => by
    obtain ⟨⟨vs, h1, h2, h3, h4⟩, h5, h6⟩ := h
    exact .cons (.lst h1 (k b List.mem_cons_self) h3 (h4.mono s)) (rows_lists (bs := bs) h6 (fun c hc => k c (List.mem_cons_of_mem _ hc)) s)
  | [], _ :: _, h, _, _ => h.elim
  | _ :: _, [], h, _, _ => h.elim
/-- what is owned is let go: data from here on -/
theorem rd_frz (h : RM K w H t m v) (hw : ∀ a, Owns H m v a → w' a = none) (s : K0 H w H w') : RD K w' H (frz m) v := by
  cases m with
  | im d => exact RD.mono s h
  | ml xs =>
    obtain ⟨a, vs, e, h1, h2, h3, h4⟩ := h
    subst e
    exact .lst h1 (hw a rfl) h3 (h4.mono s)
  | mm xss =>
    obtain ⟨a, bs, e, h1, h2, h3, h4, h5⟩ := h
    subst e
    exact .lst h1 (hw a (.inl rfl)) (by rw [List.length_map]; exact h3) (rows_lists (bs := bs) h5 (fun b hb => hw b (.inr ⟨a, bs, rfl, h1, hb⟩)) s)
  | md kvs => obtain ⟨a, vs, rfl, _⟩ := h; exact .opq
  | ms kvs => obtain ⟨a, vs, rfl, _⟩ := h; exact .opq
theorem Po.frz (p : Po K w H Γ' σ r v H' w') : ∃ w'', Step H w H' w'' ∧ ER K w'' Γ' σ H' ∧ RD K w'' H' (frz r) v := by
  have hz : ∀ a, Owns H' r v a → w' a = some none := fun a o => (p.rm.owned a o).1
  exact ⟨own w' (Owns H' r v) none, step_own p.st hz p.nw, er_own p.er hz, rd_frz p.rm (fun a o => own_in o) (k0_own hz)⟩
/-! ### new objects -/
theorem ext_upd {p : Addr} {o : HO} (hp : H p = none) : Ext H w (upd H p o) w := fun a u h => ⟨by rw [upd_ne (ne_of_none h hp)]; exact h, rfl⟩
theorem wf_upd {p : Addr} {o : HO} (wf : Wf w H) (hp : H p = none) : Wf w (upd H p o) := fun a h => by
  by_cases e : a = p
  · subst e; exact absurd (wf.fresh hp) h
  · rw [upd_ne e]; exact wf a h
theorem wf_put {p : Addr} {o : HO} (wf : Wf w H) (ho : ∀ xs, o ≠ HO.tup xs) : Wf w (upd H p o) := fun a h => by
  by_cases e : a = p
  · subst e; exact ⟨o, upd_same, ho⟩
  · rw [upd_ne e]; exact wf a h
theorem ext_own {p : Addr} {o : HO} {t : Option (Option Nat)} (hp : H p = none) : Ext H w (upd H p o) (own w (· = p) t) := fun a u h => by
  have ne : a ≠ p := ne_of_none h hp
  exact ⟨by rw [upd_ne ne]; exact h, own_out ne⟩
theorem wf_own {p : Addr} {o : HO} {t : Option (Option Nat)} (wf : Wf w H) (ho : ∀ xs, o ≠ HO.tup xs := by intro _ z; cases z) : Wf (own w (· = p) t) (upd H p o) := fun a h => by
  by_cases e : a = p
  · subst e; exact ⟨o, upd_same, ho⟩
  · rw [own_out (S := (· = p)) e] at h; rw [upd_ne e]; exact wf a h
/-- a new tuple -/
theorem new_tup {p : Addr} {o : Obj} {ds : List D} {vs : List V} (e : ER K w Γ σ H) (hp : H p = none) (ho : o.dict = none) (hl : vs.length ≤ sizeLine) (h : RDs K w H ds vs) : Po K w H Γ σ (.im (.tuple ds)) (.ref p) (upd H p (.frz o (.tup vs))) w :=
  ⟨(ext_upd hp).step, e.ext (ext_upd hp) (wf_upd e.wf hp), .tup ⟨o, upd_same, ho⟩ (e.wf.fresh hp) hl (h.mono (ext_upd hp).step.k0), fun _ o => o.elim⟩
/-- a new list, a temporary -/
theorem new_lst {p : Addr} {ds : List D} {vs : List V} (e : ER K w Γ σ H) (hp : H p = none) (hl : vs.length ≤ sizeLine) (h : RDs K w H ds vs) : Po K w H Γ σ (.ml ds) (.ref p) (upd H p (.lst vs)) (own w (· = p) (some none)) :=
  ⟨(ext_own hp).step, e.ext (ext_own hp) (wf_own e.wf), ⟨p, vs, rfl, upd_same, own_in rfl, hl, h.mono (ext_own hp).step.k0⟩, fun a o => by
    have o' : V.ref p = V.ref a := o
    cases o'
    rw [e.wf.fresh hp]; intro z; cases z⟩
/-- a new dict, a temporary -/
theorem new_dct {p : Addr} {kvs : List (Int × D)} {vs : List V} (e : ER K w Γ σ H) (hp : H p = none) (hl : kvs.length ≤ sizeLine) (h : RDs K w H (kvs.map Prod.snd) vs) : Po K w H Γ σ (.md kvs) (.ref p) (upd H p (.dK (dKL (kvs.map Prod.fst) vs))) (own w (· = p) (some none)) :=
  ⟨(ext_own hp).step, e.ext (ext_own hp) (wf_own e.wf), ⟨p, vs, rfl, upd_same, own_in rfl, hl, h.mono (ext_own hp).step.k0⟩, fun a o => by
    have o' : V.ref p = V.ref a := o
    cases o'
    rw [e.wf.fresh hp]; intro z; cases z⟩
theorem new_dcs {p : Addr} (e : ER K w Γ σ H) (hp : H p = none) : Po K w H Γ σ (.ms []) (.ref p) (upd H p (.dK [])) (own w (· = p) (some none)) :=
  ⟨(ext_own hp).step, e.ext (ext_own hp) (wf_own e.wf), ⟨p, [], rfl, upd_same, own_in rfl, Nat.zero_le _, by simp, trivial⟩, fun a o => by
    rcases (show V.ref p = .ref a ∨ ∃ (b : Addr) (bs : List Addr), V.ref p = .ref b ∧ _ ∧ bs.length = 0 ∧ a ∈ bs from o) with o' | ⟨b, bs, _, _, hl, hm⟩
    · cases o'
      rw [e.wf.fresh hp]; intro z; cases z
    · rw [List.length_eq_zero_iff.mp hl] at hm; cases hm⟩
/-- plain data, nothing new -/
theorem po_im {d : D} (e : ER K w Γ σ H) (h : RD K w H d v) : Po K w H Γ σ (.im d) v H w := ⟨Step.refl, e, h, fun _ o => o.elim⟩

/-! ### slots -/
theorem getElem?_set_opt {α : Type} {l : List α} {i j : Nat} {x y : α} (h : (l.set i x)[j]? = some y) : (i = j ∧ y = x) ∨ (i ≠ j ∧ l[j]? = some y) := by
  by_cases e : i = j
  · subst e
    have hl : i < (l.set i x).length := (List.getElem?_eq_some_iff.mp h).1
    rw [List.getElem?_set_self (by simpa using hl)] at h
    exact .inl ⟨rfl, (Option.some.inj h).symm⟩
  · rw [List.getElem?_set_ne e] at h
    exact .inr ⟨e, h⟩
/-- a name is stored: what the value owned is the slot's now -/
theorem er_set {i : Nat} (p : Po K w H Γ' σ r v H' w') : ∃ w'', Step H w H' w'' ∧ ER K w'' (Γ'.set i (some r)) (σ.set i (some v)) H' := by
  have hz : ∀ a, Owns H' r v a → w' a = some none := fun a o => (p.rm.owned a o).1
  refine ⟨own w' (Owns H' r v) (some (some i)), step_own p.st hz p.nw, ?_⟩
  have e := er_own (t := some (some i)) p.er hz
  refine ⟨by rw [List.length_set, List.length_set]; exact e.len, e.wf, fun j m h => ?_⟩
  have hi : j < σ.length := by
    have := (List.getElem?_eq_some_iff.mp h).1
    rw [List.length_set, e.len] at this
    exact this
  rcases getElem?_set_opt h with ⟨rfl, q⟩ | ⟨ne, q⟩
  · have q' : r = m := (Option.some.inj q).symm
    subst q'
    exact ⟨v, List.getElem?_set_self hi, (p.rm.keep (k0_own hz) fun a o => ⟨rfl, own_in o⟩).1⟩
  · obtain ⟨u, h1, h2⟩ := e.at_ j m q
    exact ⟨u, by rw [List.getElem?_set_ne ne]; exact h1, h2⟩
/-- a temporary is stored -/
theorem set_one (e : ER K w Γ σ H) (hr : RM K w H none r v) (i : Nat) : ∃ w', (∀ a, ¬ Owns H r v a → w' a = w a) ∧ (∀ a, Owns H r v a → w' a = some (some i)) ∧ ER K w' (Γ.set i (some r)) (σ.set i (some v)) H ∧
    ∀ r2 v2, RM K w H none r2 v2 → (∀ a, Owns H r2 v2 a → ¬ Owns H r v a) → RM K w' H none r2 v2 := by
  have hz : ∀ a, Owns H r v a → w a = some none := fun a o => (hr.owned a o).1
  refine ⟨own w (Owns H r v) (some (some i)), fun a h => own_out h, fun a h => own_in h, ?_, fun r2 v2 h2 hd => (h2.keep (k0_own hz) fun a o => ⟨rfl, by rw [own_out (hd a o)]; exact (h2.owned a o).1⟩).1⟩
  have e := er_own (t := some (some i)) e hz
  refine ⟨by rw [List.length_set, List.length_set]; exact e.len, e.wf, fun j m h => ?_⟩
  have hi : j < σ.length := by
    have := (List.getElem?_eq_some_iff.mp h).1
    rw [List.length_set, e.len] at this
    exact this
  rcases getElem?_set_opt h with ⟨rfl, q⟩ | ⟨ne, q⟩
  · have q' : r = m := (Option.some.inj q).symm
    subst q'
    exact ⟨v, List.getElem?_set_self hi, (hr.keep (k0_own hz) fun a o => ⟨rfl, own_in o⟩).1⟩
  · obtain ⟨u, h1, h2⟩ := e.at_ j m q
    exact ⟨u, by rw [List.getElem?_set_ne ne]; exact h1, h2⟩
theorem er_set2 {Γ1 Γ2 : Sl} {r1 r2 : M} {v1 v2 : V} {H2 : Hp} {w2 : Wn} {i j : Nat} (wf : Wf w H) (p1 : Po K w H Γ1 σ r1 v1 H1 w1) (p2 : Po K w1 H1 Γ2 σ r2 v2 H2 w2) : ∃ w4, Step H w H2 w4 ∧ ER K w4 ((Γ2.set i (some r1)).set j (some r2)) ((σ.set i (some v1)).set j (some v2)) H2 := by
  obtain ⟨rm1, ow1⟩ := p1.rm.mono p2.st
  have disj : ∀ a, Owns H2 r2 v2 a → ¬ Owns H2 r1 v1 a := fun a o2 o1 => p2.nw a o2 (p1.rm.owned a ((ow1 a).mp o1)).1
  obtain ⟨w3, a1, a2, e3, k3⟩ := set_one p2.er rm1 i
  obtain ⟨w4, b1, b2, e4, _⟩ := set_one e3 (k3 r2 v2 p2.rm disj) j
  refine ⟨w4, fun b ob hb n => ?_, e4⟩
  obtain ⟨q1, q2⟩ := p1.st b ob hb n
  obtain ⟨q3, q4⟩ := p2.st b ob q1 (by rw [q2]; exact n)
  have n2 : ¬ Owns H2 r2 v2 b := fun o => p2.nw b o (q4.symm.trans (p2.rm.owned b o).1)
  have n1 : ¬ Owns H2 r1 v1 b := fun o => p1.nw b ((ow1 b).mp o) (by rw [← q2, ← q4]; exact (rm1.owned b o).1)
  exact ⟨q3, by rw [b1 b n2, a1 b n1, q4, q2]⟩
theorem er_set3 {Γ1 Γ2 Γ3 : Sl} {r1 r2 r3 : M} {v1 v2 v3 : V} {H2 H3 : Hp} {w2 w3 : Wn} {i j l : Nat} (wf : Wf w H) (p1 : Po K w H Γ1 σ r1 v1 H1 w1) (p2 : Po K w1 H1 Γ2 σ r2 v2 H2 w2) (p3 : Po K w2 H2 Γ3 σ r3 v3 H3 w3) :
    ∃ w4, Step H w H3 w4 ∧ ER K w4 (((Γ3.set i (some r1)).set j (some r2)).set l (some r3)) (((σ.set i (some v1)).set j (some v2)).set l (some v3)) H3 := by
  obtain ⟨rm1, ow1⟩ := p1.rm.mono p2.st
  obtain ⟨rm1', ow1'⟩ := rm1.mono p3.st
  obtain ⟨rm2, ow2⟩ := p2.rm.mono p3.st
  have d12 : ∀ a, Owns H3 r2 v2 a → ¬ Owns H3 r1 v1 a := fun a o2 o1 => p2.nw a ((ow2 a).mp o2) (p1.rm.owned a ((ow1 a).mp ((ow1' a).mp o1))).1
  have d13 : ∀ a, Owns H3 r3 v3 a → ¬ Owns H3 r1 v1 a := fun a o2 o1 => p3.nw a o2 (rm1.owned a ((ow1' a).mp o1)).1
  have d23 : ∀ a, Owns H3 r3 v3 a → ¬ Owns H3 r2 v2 a := fun a o2 o1 => p3.nw a o2 (p2.rm.owned a ((ow2 a).mp o1)).1
  obtain ⟨w4, a1, a2, e4, k4⟩ := set_one p3.er rm1' i
  obtain ⟨w5, b1, b2, e5, k5⟩ := set_one e4 (k4 r2 v2 rm2 d12) j
  obtain ⟨w6, c1, c2, e6, _⟩ := set_one e5 (k5 r3 v3 (k4 r3 v3 p3.rm d13) d23) l
  refine ⟨w6, fun b ob hb n => ?_, e6⟩
  obtain ⟨q1, q2⟩ := p1.st b ob hb n
  obtain ⟨q3, q4⟩ := p2.st b ob q1 (by rw [q2]; exact n)
  obtain ⟨q5, q6⟩ := p3.st b ob q3 (by rw [q4, q2]; exact n)
  have n3 : ¬ Owns H3 r3 v3 b := fun o => p3.nw b o (q6.symm.trans (p3.rm.owned b o).1)
  have n2 : ¬ Owns H3 r2 v2 b := fun o => p2.nw b ((ow2 b).mp o) (by rw [← q4, ← q6]; exact (rm2.owned b o).1)
  have n1 : ¬ Owns H3 r1 v1 b := fun o => p1.nw b ((ow1 b).mp ((ow1' b).mp o)) (by rw [← q2, ← q4, ← q6]; exact (rm1'.owned b o).1)
  exact ⟨q5, by rw [c1 b n3, b1 b n2, a1 b n1, q6, q4, q2]⟩
/-- a name is stored, plain data -/
theorem er_setD {i : Nat} {d : D} (e : ER K w Γ σ H) (h : RD K w H d v) : ER K w (Γ.set i (some (.im d))) (σ.set i (some v)) H := by
  refine ⟨by rw [List.length_set, List.length_set]; exact e.len, e.wf, fun j m q => ?_⟩
  have hi : j < σ.length := by
    have := (List.getElem?_eq_some_iff.mp q).1
    rw [List.length_set, e.len] at this
    exact this
  rcases getElem?_set_opt q with ⟨rfl, q2⟩ | ⟨ne, q2⟩
  · have q' : M.im d = m := (Option.some.inj q2).symm
    subst q'
    exact ⟨v, List.getElem?_set_self hi, h⟩
  · obtain ⟨u, h1, h2⟩ := e.at_ j m q2
    exact ⟨u, by rw [List.getElem?_set_ne ne]; exact h1, h2⟩
/-- a slot forgotten -/
theorem er_forget {i : Nat} (e : ER K w Γ σ H) : ER K w (Γ.set i none) σ H := by
  refine ⟨by rw [List.length_set]; exact e.len, e.wf, fun j m q => ?_⟩
  rcases getElem?_set_opt q with ⟨rfl, q2⟩ | ⟨ne, q2⟩
  · cases q2
  · exact e.at_ j m q2
/-- the owners of slot i's own objects changed -/
theorem slot_own {i : Nat} (e : ER K w Γ σ H) (h : Γ[i]? = some (some m)) (hv : σ[i]? = some (some v)) (hr : RM K w H (some i) m v) (t : Option (Option Nat)) :
    Step H w H (own w (Owns H m v) t) ∧ Wf (own w (Owns H m v) t) H ∧ K0 H w H (own w (Owns H m v) t) ∧ ∀ j m' u, j ≠ i → RM K w H (some j) m' u → RM K (own w (Owns H m v) t) H (some j) m' u := by
  have hz : ∀ a, Owns H m v a → w a = some (some i) := fun a o => (hr.owned a o).1
  refine ⟨fun a o q n => ⟨q, own_out fun z => n i (hz a z)⟩, fun a q => ?_, k0_own hz, fun j m' u ne q => ?_⟩
  · by_cases hs : Owns H m v a
    · exact e.wf a (by rw [hz a hs]; intro z; cases z)
    · rw [own_out hs] at q
      exact e.wf a q
  · refine (q.keep (k0_own hz) fun a o => ⟨rfl, ?_⟩).1
    have q1 := (q.owned a o).1
    rw [own_out (fun z => by rw [hz a z] at q1; cases q1; exact ne rfl)]
    exact q1
/-- reading a slot whole: its value is data from now on -/
theorem slot_frz {i : Nat} (e : ER K w Γ σ H) (h : Γ[i]? = some (some m)) : ∃ v w', σ[i]? = some (some v) ∧ Po K w H (Γ.set i (some (.im (frz m)))) σ (.im (frz m)) v H w' := by
  obtain ⟨v, hv, hr⟩ := e.at_ i m h
  obtain ⟨s1, wf1, k1, oth⟩ := slot_own e h hv hr none
  have rd : RD K (own w (Owns H m v) none) H (frz m) v := rd_frz hr (fun a o => own_in o) k1
  refine ⟨v, own w (Owns H m v) none, hv, s1, ⟨by rw [List.length_set]; exact e.len, wf1, fun j m' q => ?_⟩, rd, fun _ o => o.elim⟩
  rcases getElem?_set_opt q with ⟨rfl, q2⟩ | ⟨ne, q2⟩
  · have q' : M.im (Gv.frz m) = m' := (Option.some.inj q2).symm
    subst q'
    exact ⟨v, hv, rd⟩
  · obtain ⟨u, h1, h2⟩ := e.at_ j m' q2
    exact ⟨u, h1, oth j m' u (Ne.symm ne) h2⟩
/-- a slot's value moved out -/
theorem slot_mov {i : Nat} (e : ER K w Γ σ H) (h : Γ[i]? = some (some m)) : ∃ v w', σ[i]? = some (some v) ∧ Po K w H (Γ.set i none) σ m v H w' := by
  obtain ⟨v, hv, hr⟩ := e.at_ i m h
  obtain ⟨s1, wf1, k1, oth⟩ := slot_own e h hv hr (some none)
  refine ⟨v, own w (Owns H m v) (some none), hv, s1, ⟨by rw [List.length_set]; exact e.len, wf1, fun j m' q => ?_⟩, (hr.keep k1 fun a o => ⟨rfl, own_in o⟩).1, fun a o => ?_⟩
  · rcases getElem?_set_opt q with ⟨rfl, q2⟩ | ⟨ne, q2⟩
    · cases q2
    · obtain ⟨u, h1, h2⟩ := e.at_ j m' q2
      exact ⟨u, h1, oth j m' u (Ne.symm ne) h2⟩
  · rw [(hr.owned a o).1]; intro z; cases z
/-- one object of slot i written -/
theorem k0_write {a : Addr} {o : HO} {q : Option Nat} (h : w a = some q) : K0 H w (upd H a o) w := fun b u hb n => by
  have ne : b ≠ a := fun e => by rw [e, h] at n; cases n
  exact ⟨by rw [upd_ne ne]; exact hb, n⟩
theorem step_write {a : Addr} {o : HO} {i : Nat} (h : w a = some (some i)) : Step H w (upd H a o) w := fun b u hb n => by
  have ne : b ≠ a := fun e => n i (by rw [e]; exact h)
  exact ⟨by rw [upd_ne ne]; exact hb, rfl⟩
theorem er_write {i : Nat} {a : Addr} {o : HO} {m' : M} (e : ER K w Γ σ H) (h : Γ[i]? = some (some m)) (hv : σ[i]? = some (some v)) (ha : w a = some (some i)) (new : RM K w (upd H a o) (some i) m' v) (ho : ∀ xs, o ≠ HO.tup xs := by intro _ z; cases z) : ER K w (Γ.set i (some m')) σ (upd H a o) := by
  refine ⟨by rw [List.length_set]; exact e.len, wf_put e.wf ho, fun j m2 q => ?_⟩
  rcases getElem?_set_opt q with ⟨rfl, q2⟩ | ⟨ne, q2⟩
  · have q' : m' = m2 := (Option.some.inj q2).symm
    subst q'
    exact ⟨v, hv, new⟩
  · obtain ⟨u, h1, h2⟩ := e.at_ j m2 q2
    refine ⟨u, h1, (h2.keep (k0_write ha) fun b ob => ?_).1⟩
    have q1 := (h2.owned b ob).1
    have nb : b ≠ a := fun z => by rw [z, ha] at q1; cases q1; exact ne rfl
    exact ⟨upd_ne nb, q1⟩
/-! ### dicts locked: data from here on -/
/-- what a dict of lists is as data -/
def listed (kvs : List (Int × List D)) : List (Int × D) := kvs.map fun p => (p.1, .list p.2)
theorem listed_fst (kvs : List (Int × List D)) : (listed kvs).map Prod.fst = kvs.map Prod.fst := by unfold listed; rw [List.map_map]; rfl
theorem listed_snd (kvs : List (Int × List D)) : (listed kvs).map Prod.snd = (kvs.map Prod.snd).map PyData.list := by unfold listed; rw [List.map_map, List.map_map]; rfl
/-- m is a dict: its address, what lies there, its entries as data -/
def LkM (m : M) (kvs' : List (Int × D)) : Prop := m = .md kvs' ∨ ∃ kvs, m = .ms kvs ∧ kvs' = listed kvs
theorem LkM.at {kvs' : List (Int × D)} (hm : LkM m kvs') (h : RM K w H t m v) : ∃ a us, v = .ref a ∧ H a = some (.dK us) ∧ w a = some t ∧ Owns H m v a ∧
    ∀ (o : Obj) (w' : Wn), (∀ b, Owns H m v b → w' b = none) → K0 H w H w' → RD K w' (upd H a (.frz o (.dK us))) (dictD kvs') (.ref a) := by
  have k0u : ∀ {a : Addr} {us : List (Key × V)} (o : Obj) (w' : Wn), w a = some t → K0 H w H w' → K0 H w (upd H a (.frz o (.dK us))) w' := fun {a us} o w' ha s b u hb n => by
    have ne : b ≠ a := fun z => by rw [z, ha] at n; cases n
    exact ⟨by rw [upd_ne ne]; exact hb, (s b u hb n).2⟩
  rcases hm with rfl | ⟨kvs, rfl, rfl⟩
  · obtain ⟨a, vs, rfl, h1, h2, h3, h4⟩ := h
    exact ⟨a, _, rfl, h1, h2, rfl, fun o w' hw s => .dK upd_same (hw a rfl) h3 (h4.mono (k0u o w' h2 s))⟩
  · obtain ⟨a, bs, rfl, h1, h2, h3, h4, h5⟩ := h
    have hlen := h5.length
    rw [List.length_map] at hlen
    have hb : ∀ b ∈ bs, b ≠ a := fun b hb z => h4 (z ▸ hb)
    refine ⟨a, _, rfl, h1, h2, .inl rfl, fun o w' hw s => ?_⟩
    refine .dK (kvs := listed kvs) (vs := bs.map V.ref) (by rw [upd_same, listed_fst]) (hw a (.inl rfl)) (by unfold listed; rw [List.length_map]; exact h3) ?_
    rw [listed_snd]
    have hr : Rows K w' (upd H a (.frz o (.dK (dKL (kvs.map Prod.fst) (bs.map V.ref))))) none (kvs.map Prod.snd) bs ∨ True := .inr trivial
    clear hr
    have key : ∀ {xss : List (List D)} {cs : List Addr}, Rows K w H t xss cs → (∀ b ∈ cs, b ≠ a ∧ w' b = none) → RDs K w' (upd H a (.frz o (.dK (dKL (kvs.map Prod.fst) (bs.map V.ref))))) (xss.map .list) (cs.map V.ref) := by
      intro xss
      induction xss with
      | nil =>
        intro cs r _
        cases cs with
        | nil => exact .nil
        | cons => exact r.elim
      | cons xs xss ih =>
        intro cs r hc
        cases cs with
        | nil => exact r.elim
        | cons c cs =>
          obtain ⟨⟨vs, q1, q2, q3, q4⟩, q5, q6⟩ := r
          obtain ⟨n1, n2⟩ := hc c List.mem_cons_self
          exact .cons (.lst (by rw [upd_ne n1]; exact q1) n2 q3 (q4.mono (k0u o w' h2 s))) (ih q6 fun b hb => hc b (List.mem_cons_of_mem _ hb))
    exact key h5 fun b hbm => ⟨hb b hbm, hw b (.inr ⟨a, bs, rfl, h1, hlen.symm, hbm⟩)⟩
/-- a temporary dict locked -/
theorem Po.lock {kvs' : List (Int × D)} (hm : LkM r kvs') (p : Po K w H Γ' σ r v H' w') : ∃ a us, v = .ref a ∧ H' a = some (.dK us) ∧ ∀ o, ∃ w2, Po K w H Γ' σ (.im (dictD kvs')) v (upd H' a (.frz o (.dK us))) w2 := by
  obtain ⟨a, us, rfl, h1, h2, h3, h4⟩ := hm.at p.rm
  have hz : ∀ b, Owns H' r (.ref a) b → w' b = some none := fun b o => (p.rm.owned b o).1
  refine ⟨a, us, rfl, h1, fun o => ⟨own w' (Owns H' r (.ref a)) none, ?_, ?_, h4 o _ (fun b ob => own_in ob) (k0_own hz), fun _ z => z.elim⟩⟩
  · intro b ob hb n
    obtain ⟨q1, q2⟩ := step_own (t := none) p.st hz p.nw b ob hb n
    have ne : b ≠ a := fun z => by
      subst z
      obtain ⟨_, q3⟩ := p.st b ob hb n
      exact p.nw b h3 (q3.symm.trans h2)
    exact ⟨by rw [upd_ne ne]; exact q1, q2⟩
  · have e1 : ER K w' Γ' σ (upd H' a (.frz o (.dK us))) := by
      refine ⟨p.er.len, wf_put p.er.wf (by intro _ z; cases z), fun i m h => ?_⟩
      obtain ⟨u, q1, q2⟩ := p.er.at_ i m h
      refine ⟨u, q1, (q2.keep (k0_write h2) fun b ob => ?_).1⟩
      have q3 := (q2.owned b ob).1
      exact ⟨upd_ne (fun z => by rw [z, h2] at q3; cases q3), q3⟩
    exact er_own e1 hz
/-- a slot's dict locked where it stands -/
theorem slot_lock {i : Nat} {kvs' : List (Int × D)} (hm : LkM m kvs') (e : ER K w Γ σ H) (h : Γ[i]? = some (some m)) : ∃ a us, σ[i]? = some (some (.ref a)) ∧ H a = some (.dK us) ∧
    ∀ o, ∃ w', Po K w H (Γ.set i (some (.im (dictD kvs')))) σ (.im (dictD kvs')) (.ref a) (upd H a (.frz o (.dK us))) w' := by
  obtain ⟨v, hv, hr⟩ := e.at_ i m h
  obtain ⟨a, us, rfl, h1, h2, h3, h4⟩ := hm.at hr
  obtain ⟨s1, wf1, k1, oth⟩ := slot_own e h hv hr none
  refine ⟨a, us, hv, h1, fun o => ⟨own w (Owns H m (.ref a)) none, fun b ob hb n => ?_, ⟨by rw [List.length_set]; exact e.len, ?_, fun j m' q => ?_⟩, h4 o _ (fun b ob => own_in ob) k1, fun _ z => z.elim⟩⟩
  · obtain ⟨q1, q2⟩ := s1 b ob hb n
    exact ⟨by rw [upd_ne (fun z => n i (by rw [z]; exact h2))]; exact q1, q2⟩
  · exact wf_put wf1 (by intro _ z; cases z)
  · rcases getElem?_set_opt q with ⟨rfl, q2⟩ | ⟨ne, q2⟩
    · have q' : M.im (dictD kvs') = m' := (Option.some.inj q2).symm
      subst q'
      exact ⟨_, hv, h4 o _ (fun b ob => own_in ob) k1⟩
    · obtain ⟨u, q3, q4⟩ := e.at_ j m' q2
      have hz : ∀ b, Owns H m (.ref a) b → w b = some (some i) := fun b ob => (hr.owned b ob).1
      have q5 : RM K w (upd H a (.frz o (.dK us))) (some j) m' u := (q4.keep (k0_write h2) fun b ob => by
        have q6 := (q4.owned b ob).1
        exact ⟨upd_ne (fun z => by rw [z, h2] at q6; cases q6; exact ne rfl), q6⟩).1
      refine ⟨u, q3, (q5.keep (k0_own hz) fun b ob => ⟨rfl, ?_⟩).1⟩
      have q6 := (q5.owned b ob).1
      rw [own_out (fun z => by rw [hz b z] at q6; cases q6; exact ne rfl)]
      exact q6
/-- slot i's list: where it stands, and what writing it whole makes -/
theorem slot_ml {i : Nat} {xs : List D} (e : ER K w Γ σ H) (h : Γ[i]? = some (some (.ml xs))) : ∃ a vs, σ[i]? = some (some (.ref a)) ∧ H a = some (.lst vs) ∧ w a = some (some i) ∧ vs.length ≤ sizeLine ∧ RDs K w H xs vs ∧
    ∀ xs' vs', vs'.length ≤ sizeLine → RDs K w H xs' vs' → Step H w (upd H a (.lst vs')) w ∧ ER K w (Γ.set i (some (.ml xs'))) σ (upd H a (.lst vs')) := by
  obtain ⟨v, hv, a, vs, rfl, h1, h2, h3, h4⟩ := e.at_ i _ h
  exact ⟨a, vs, hv, h1, h2, h3, h4, fun xs' vs' hl hr => ⟨step_write h2, er_write e h hv h2 ⟨a, vs', rfl, upd_same, h2, hl, hr.mono (k0_write h2)⟩⟩⟩
end
end L2.Gv

set_option Elab.async false
set_option linter.all false
set_option maxRecDepth 100000
set_option maxHeartbeats 2000000
/-! tuples that are known to their object: it has no dict (so that a method of theirs can be called) -/
namespace L2.Gv
open PySem PySem.Spec PyProof.Rows L2
/-- such a new tuple -/
def NT (Q : VK) (H : Hp) (xs : List V) : Prop := ∀ (p : Addr) (o : Obj), H p = none → o.dict = none → Q (.ref p) (upd H p (.frz o (.tup xs)))
section
variable {X : Cx} {pins : List (Addr × Obj)} {σ : St} {H : Hp} {s : Shared} {h' : Heap}
theorem laidT {Q : VK} {xs : List V} {its : List Value} {n tk : Nat} {p : Addr} {o : Obj} (I : Inv X pins σ H s) (k : ∀ b u, s.heap.get? b = some u → h'.get? b = some u) (hp : s.heap.objs.size ≤ p)
    (e : h'.get? p = some o) (hc : o.cls = .type "tuple") (hd : o.data = .seq its.toArray n) (hn : o.dict = none) (r : Vals xs its) (z : xs.length ≤ sizeLine) (q : NT Q H xs) : EP X pins σ Q (.ref p) { s with heap := h', toks := tk } :=
  ⟨.ref p, _, I.laid (o := .frz o (.tup xs)) k hp ⟨e, z, its, r, o, e, hc, n, hd⟩, rfl, q _ _ (I.hok.fresh hp) hn⟩
theorem laidP {Q : VK} {xs : List V} {its : List Value} (I : Inv X pins σ H s) (r : Vals xs its) (z : xs.length ≤ sizeLine) (q : NT Q H xs) : EP X pins σ Q (.ref s.heap.objs.size) { s with heap := s.heap.push { cls := .type "tuple", data := .seq its.toArray } } :=
  laidT (tk := s.toks) I (fun b ob q => Heap.get?_push_of_some _ q) (Nat.le_refl _) (Heap.get?_push_size _ rfl) rfl rfl rfl r z q
def tTupN (t : TA) : TE := fun σ H Q => t σ H fun xs H1 => xs.length ≤ sizeLine ∧ NT Q H1 xs
theorem pe_tupN {es : List Expr} {t : TA} {kk : Nat} {pos : Pos} (h : PA X es t) : PE X (.Tuple es kk pos) (tTupN t) :=
  ⟨fun pins s σ H Q I hq => wpAny_Tuple_spliced (thn (h.run pos pins s σ H _ I hq) fun us s1 ⟨xs, H1, I1, r, z, q⟩ => ⟨by rw [← r.length]; exact z, laidP I1 r z q⟩)⟩
def rSlN (K : PySem.W.Frag) : V → Option Int → Option Int → Hp → VK → Prop := fun x lo hi H Q => ∃ a xs, x = .ref a ∧ SqT K H a xs ∧
  (HT.sIx xs.length 0 lo = 0 ∧ HT.sIx xs.length xs.length hi = xs.length → Q (.ref a) H) ∧ (¬ (HT.sIx xs.length 0 lo = 0 ∧ HT.sIx xs.length xs.length hi = xs.length) → NT Q H (cutV xs lo hi))
theorem sl_tupN : SlR X (rSlN X.K) := by
  intro pins s σ H x v vl vu lo hi sl Q I rx hs pl pu h
  obtain ⟨a, xs, rfl, hx, q1, q2⟩ := h
  cases rx
  obtain ⟨its, r, ht, hz⟩ := I.tuple hx
  have hlen : its.toArray.size = xs.length := by rw [List.size_toArray]; exact r.length.symm
  refine ⟨"tuple", _, PyProof.Rows.slot_tuple_getitem.lookup, ht.typeIs, ?_⟩
  by_cases hw : HT.sIx xs.length 0 lo = 0 ∧ HT.sIx xs.length xs.length hi = xs.length
  · exact getItem_tuple_whole ht hs pl pu (by rw [hlen]; exact hw) ⟨.ref a, H, I, rfl, q1 hw⟩
  · refine HT.getItem_tuple_cut ht hs pl pu (by rw [hlen]; exact hw) ?_ (by rw [hlen]; exact hz)
    rw [hlen]
    exact laidP I ((r.drop (HT.sIx xs.length 0 lo)).take (HT.sIx xs.length xs.length hi - HT.sIx xs.length 0 lo)) (Nat.le_trans (cutV_length xs lo hi) hz) (q2 hw)
def rCatN (K : PySem.W.Frag) : R2 := fun x y H Q => ∃ a b xs ys, x = .ref a ∧ y = .ref b ∧ SqT K H a xs ∧ SqT K H b ys ∧ xs.length + ys.length ≤ sizeLine ∧
  (xs = [] → Q (.ref b) H) ∧ (xs ≠ [] → ys = [] → Q (.ref a) H) ∧ (xs ≠ [] → ys ≠ [] → NT Q H (xs ++ ys))
theorem op_catN : OpR X (binaryOp .Add) (rCatN X.K) := by
  intro pins s σ H x y v u Q I rx ry h
  obtain ⟨a, b, xs, ys, rfl, rfl, ha, hb, hz, q0, q1, q2⟩ := h
  cases rx
  cases ry
  obtain ⟨its, r1, p1, _⟩ := I.tuple ha
  obtain ⟨its2, r2, p2, _⟩ := I.tuple hb
  by_cases hx : xs = []
  · subst hx
    cases r1
    exact cat_tup0 p1 p2 ⟨.ref b, H, I, rfl, q0 rfl⟩
  · refine HT.cat_tup p1 p2 (fun z => hx (r1.nil_iff.mp z)) (fun z => ⟨.ref a, H, I, rfl, q1 hx (r2.nil_iff.mp z)⟩) (fun z => ?_) (by rw [← r1.length, ← r2.length]; exact hz)
    exact laidP I (r1.append r2) (by rw [List.length_append]; exact hz) (q2 hx fun w => z (r2.nil_iff.mpr w))
def rTupN (K : PySem.W.Frag) : List V → Hp → VK → Prop := fun xs H Q => ∃ p ys, xs = [.ref p] ∧ ((SqL K H p ys ∧ NT Q H ys) ∨ (SqT K H p ys ∧ Q (.ref p) H))
theorem call_tupN : CallR X (.type "tuple") (rTupN X.K) := by
  intro pins s σ H xs us Q I r h
  obtain ⟨p, ys, rfl, h⟩ := h
  obtain ⟨u, rfl, rx⟩ := vals1 r
  cases rx
  rcases h with ⟨hq, q⟩ | ⟨hq, q⟩
  · obtain ⟨its, rv, pl, hz⟩ := I.list hq
    refine call_tuple_list pl.isList (fun h' kp => ?_) (by rw [List.size_toArray, ← rv.length]; exact hz)
    have I1 : Inv X pins σ H { s with heap := h' } := I.kept (t' := s.toks) kp
    exact laidP I1 rv hz q
  · obtain ⟨its, rv, pl, hz⟩ := I.tuple hq
    exact call_tuple_same pl ⟨.ref p, H, I, rfl, q⟩
def rRepN (K : PySem.W.Frag) : R2 := fun x y H Q => ∃ l k xs, x = .ref l ∧ y = .int k ∧ SqT K H l xs ∧ xs ≠ [] ∧ 2 ≤ k ∧ k ≤ 1000 ∧ xs.length ≤ 1000 ∧ NT Q H (List.replicate k.toNat xs).flatten
theorem op_repN : OpR X (binaryOp .Mult) (rRepN X.K) := by
  intro pins s σ H x y v u Q I rx ry h
  obtain ⟨l, k, xs, rfl, rfl, hT, hne, h1, h2, hz, q⟩ := h
  cases rx
  obtain ⟨t, rfl⟩ := ry
  obtain ⟨its, r, ⟨⟨cls, dd, data, sl⟩, ho, hc, n, hd⟩, _⟩ := I.tuple hT
  dsimp only at hc hd
  subst hc hd
  have hle : its.length = xs.length := r.length.symm
  cases its with
  | nil => exact absurd (List.eq_nil_of_length_eq_zero hle.symm) hne
  | cons i0 its =>
    have sz : (i0 :: its).toArray.size = xs.length := by rw [List.size_toArray, hle]
    have small : ((xs.length : Nat) : Int) * k ≤ 1000000 := by
      have := Int.mul_le_mul_of_nonneg_right (show ((xs.length : Nat) : Int) ≤ 1000 by omega) (show 0 ≤ k by omega)
      omega
    have fl : k.toNat * xs.length ≤ 1000000 := by
      have := Nat.mul_le_mul (show k.toNat ≤ 1000 by omega) hz
      omega
    have em : (i0 :: its).toArray.isEmpty = false := rfl
    have W := tuple_mulW l (i0 :: its).toArray n dd sl k t (by rw [decide_eq_false (by omega), decide_eq_false (by omega)]; rfl)
      (by rw [em, Bool.false_or]; exact beq_eq_false_iff_ne.mpr (by omega)) (by rw [em, Bool.or_false]; exact decide_eq_false (by omega)) (by rw [sz]; omega)
      (by unfold Builtin.Tuple.tupleTooMany; rw [sizeLine_eq, sz]; exact decide_eq_false (by omega))
      (by rw [size_rep, List.size_toArray, PyProof.Rows.lm_len_rep_flat, hle, sizeLine_eq]; omega)
    refine wpAny_binaryOp_repeat_ref (T := "tuple") (U := "int") (by decide) ⟨_, ho, rfl⟩ (fun s' => typeIs_int s' k t) noFill_tuple_mul F.fills_int_mul F.slot_int_rmul repeat_tuple F.slot_int_index.lookup
      (call_meets F.slot_int_rmul (typeIs_int s k t) F.entry_int_rmul (F.args_int_rmul_2 _ _) (int_rmul_tuple k t l _ n dd sl)
        ⟨ho, rfl, ⟨_, ho, rfl⟩, call_meets F.slot_tuple_mul ⟨_, ho, rfl⟩ F.entry_tuple_mul (F.args_tuple_mul_2 _ _) W ⟨ho, ?_⟩⟩)
    rw [size_rep]
    exact laidP I (r.rep k.toNat) (by rw [PyProof.Rows.lm_len_rep_flat, sizeLine_eq]; omega) q
def tTupRgN (te : St → Hp → (Int → Int → Hp → Prop) → Prop) : TE := fun σ H Q => te σ H fun a b H1 => RgOk a b ∧ NT Q H1 (rgV a b)
theorem pe_tupRgN {e : Expr} {te : St → Hp → (Int → Int → Hp → Prop) → Prop} {p pos : Pos} (hc : X.calm = true) (hg : Gl X "tuple") (hm : X.mg "tuple" = none) (he : PRg X e te) (na : starEach [e] X.env = (false, eval e X.env) :: starEach [] X.env := by rfl) : PE X (.Call (.Name "tuple" p) [e] [] pos) (tTupRgN te) := by
  refine ⟨fun pins s σ H Q I h => Call_ (ld_blt I hg hm boot_tuple (PyProof.Rows.callWith_type1 (args_cons (thn (he pins s σ H _ I h) fun x s1 ⟨r, a, b, t, u, v, H1, ex, hr, I1, ok, q⟩ => args_nil ?_) na) na))⟩
  subst ex
  obtain ⟨b1, b2, b3, b4, b5⟩ := ok
  refine call_tuple_range (n := (b - a).toNat) (I1.ok.hd hc) hr (small_one b1 b2 b3 b4) (rangeSize_nat a b) b5 fun h' tk acc hk hi => ?_
  have I2 : Inv X pins σ H1 { s1 with heap := h', toks := tk } := I1.kept hk
  have := laidP I2 (vals_rg hi) (by rw [rgV_length, sizeLine_eq]; omega) q
  rwa [Array.toArray_toList] at this
end
end L2.Gv

set_option Elab.async false
set_option linter.all false
set_option maxRecDepth 100000
set_option maxHeartbeats 2000000
namespace L2.Gv
open PySem PySem.Spec PyProof.Rows L2

/-! ## Operations on data: what the machine does is what the evaluator says -/
section
variable {K : PySem.W.Frag} {w w' : Wn} {H H' : Hp} {Γ : Sl} {σ : St} {m : M} {v : V}
/-- what a pure operation leaves -/
structure Pr (K : PySem.W.Frag) (w : Wn) (H : Hp) (m : M) (v : V) (H' : Hp) (w' : Wn) : Prop where
  ext : Ext H w H' w'
  wf : Wf w' H'
  rm : RM K w' H' none m v
  nw : ∀ a, Owns H' m v a → H a = none
theorem Pr.po (e : ER K w Γ σ H) (p : Pr K w H m v H' w') : Po K w H Γ σ m v H' w' :=
  ⟨p.ext.step, e.ext p.ext p.wf, p.rm, fun a o z => by
    have := e.wf.fresh (p.nw a o)
    rw [z] at this; cases this⟩
theorem pr_im {d : D} (wf : Wf w H) (h : RD K w H d v) : Pr K w H (.im d) v H w := ⟨Ext.refl, wf, h, fun _ o => o.elim⟩
theorem pr_tup {p : Addr} {o : Obj} {ds : List D} {vs : List V} (wf : Wf w H) (hp : H p = none) (ho : o.dict = none) (hl : vs.length ≤ sizeLine) (h : RDs K w H ds vs) : Pr K w H (.im (.tuple ds)) (.ref p) (upd H p (.frz o (.tup vs))) w :=
  ⟨ext_upd hp, wf_upd wf hp, .tup ⟨o, upd_same, ho⟩ (wf.fresh hp) hl (h.mono (ext_upd hp).step.k0), fun _ o => o.elim⟩
theorem pr_lst {p : Addr} {ds : List D} {vs : List V} (wf : Wf w H) (hp : H p = none) (hl : vs.length ≤ sizeLine) (h : RDs K w H ds vs) : Pr K w H (.ml ds) (.ref p) (upd H p (.lst vs)) (own w (· = p) (some none)) :=
  ⟨ext_own hp, wf_own wf, ⟨p, vs, rfl, upd_same, own_in rfl, hl, h.mono (ext_own hp).step.k0⟩, fun a o => by
    have o' : V.ref p = V.ref a := o
    cases o'
    exact hp⟩
theorem lineOk_le {n : Nat} (h : lineOk n = true) : n ≤ sizeLine := by
  rw [sizeLine_eq]
  exact Nat.le_of_ble_eq_true h
mutual
theorem RD.dp : ∀ {d : D} {v : V}, RD K w H d v → d.canLay0 = true → Dp K H v d
  | _, _, .non, _ => .non
  | _, _, .bl b, _ => .bl b
  | _, _, .int i, _ => .int i
  | _, _, .str x, _ => .str x
  | _, _, .tup h n z r, c => .tup (h.sq) (RDs.dp r (by simpa [PyData.canLay0] using c))
  | _, _, .lst h n z r, c => .lst (SqL.of h) (RDs.dp r (by simpa [PyData.canLay0] using c))
  | _, _, .scr h z r, c => by simp [PyData.canLay0] at c
  | _, _, .dK h n z r, c => by simp [PyData.canLay0] at c
  | _, _, .opq, c => by simp [PyData.canLay0] at c
  | _, _, .dT h n z e r, c => by simp [PyData.canLay0] at c
theorem RDs.dp : ∀ {ds : List D} {vs : List V}, RDs K w H ds vs → PyData.canLayAll0 ds = true → DpAll K H vs ds
  | _, _, .nil, _ => .nil
  | _, _, .cons h t, c => by
    rw [PyData.canLayAll0, Bool.and_eq_true] at c
    exact .cons (RD.dp h c.1) (RDs.dp t c.2)
end
theorem RD.dp' {d : D} (h : RD K w H d v) (s : shp d = true) : Dp K H v d := h.dp (SeqAt.canLay_of_shaped s)
/-- ints, bools -/
theorem RDs.ints : ∀ {ds : List D} {vs : List V} {ns : List Int}, RDs K w H ds vs → intsD ds = some ns → vs = ns.map V.int
  | _, _, _, .nil, e => by cases e; rfl
  | d :: ds, _, _, .cons h t, e => by
    cases h with
    | int i =>
      simp only [intsD] at e
      cases q : intsD ds with
      | none => rw [q] at e; cases e
      | some ns =>
        rw [q] at e
        cases e
        rw [List.map_cons, ← RDs.ints t q]
    | _ => exact nomatch e
theorem RDs.bools : ∀ {ds : List D} {vs : List V} {ns : List Bool}, RDs K w H ds vs → boolsD ds = some ns → vs = ns.map V.bl
  | _, _, _, .nil, e => by cases e; rfl
  | d :: ds, _, _, .cons h t, e => by
    cases h with
    | bl i =>
      simp only [boolsD] at e
      cases q : boolsD ds with
      | none => rw [q] at e; cases e
      | some ns =>
        rw [q] at e
        cases e
        rw [List.map_cons, ← RDs.bools t q]
    | _ => exact nomatch e
theorem rd_ints : ∀ ns : List Int, RDs K w H (ns.map .int) (ns.map V.int)
  | [] => .nil
  | n :: ns => .cons (.int n) (rd_ints ns)
/-- a list or tuple of the data: where it stands -/
theorem RD.seq {d : D} {xs : List D} (h : RD K w H d v) (e : seqD d = some xs) : ∃ a vs, v = .ref a ∧ (SqL K H a vs ∧ d = .list xs ∨ SqT K H a vs ∧ d = .tuple xs) ∧ vs.length ≤ sizeLine ∧ RDs K w H xs vs := by
  cases h with
  | tup h n z r => cases e; exact ⟨_, _, rfl, .inr ⟨h.sq, rfl⟩, z, r⟩
  | lst h n z r => cases e; exact ⟨_, _, rfl, .inl ⟨SqL.of h, rfl⟩, z, r⟩
  | _ => cases e
theorem RD.len {d : D} {n : Nat} (h : RD K w H d v) (e : lenD d = some n) : ∃ a vs, v = .ref a ∧ (SqL K H a vs ∨ SqT K H a vs) ∧ n = vs.length := by
  cases h with
  | tup h _ z r => cases e; exact ⟨_, _, rfl, .inr (h.sq), r.length⟩
  | lst h _ z r => cases e; exact ⟨_, _, rfl, .inl (SqL.of h), r.length⟩
  | scr h z r =>
    cases e
    refine ⟨_, _, rfl, .inl ?_, r.length⟩
    rcases h with h | h
    · exact h.sq
    · exact .inl h.1
  | dK h n z r =>
    rename_i kvs vs
    exfalso
    cases kvs with
    | nil => cases e
    | cons p t => cases e
  | dT h n z e1 r =>
    rename_i kvs ks ds
    exfalso
    subst e1
    cases kvs with
    | nil => cases e
    | cons p t =>
      cases ds with
      | nil => cases e
      | cons d ds => cases e
  | _ => cases e
theorem RDs.atI {ds : List D} {vs : List V} {i : Int} {d : D} (r : RDs K w H ds vs) (e : L2.atI ds i = some d) : ∃ u, L2.atI vs i = some u ∧ RD K w H d u := by
  unfold L2.atI at e ⊢
  rw [r.length] at e
  cases q : ixN vs.length i with
  | none => rw [q] at e; cases e
  | some j =>
    rw [q] at e
    exact r.get j d e
end

section
variable {X : Cx}
def rBin (K : PySem.W.Frag) (op : Operator) : R2 := fun x y H Q => ∃ w d e m, Wf w H ∧ RD K w H d x ∧ RD K w H e y ∧ binD op d e = some m ∧ ∀ v H' w', Pr K w H m v H' w' → Q v H'
theorem op_bin (op : Operator) : OpR X (binaryOp op) (rBin X.K op) := by
  intro pins s σ H x y v u Q I rx ry h
  obtain ⟨w, d, e, m, wf, hd, he, hb, q⟩ := h
  unfold binD at hb
  split at hb
  · cases hb; cases hd; cases he
    exact op_add pins s σ H _ _ v u Q I rx ry ⟨_, _, rfl, rfl, q _ _ _ (pr_im wf (.int _))⟩
  · rename_i xs ys
    split at hb
    · rename_i hl
      cases hb
      cases hd with
      | lst h1 n1 z1 r1 =>
        cases he with
        | lst h2 n2 z2 r2 =>
          have hz := lineOk_le hl
          rw [r1.length, r2.length] at hz
          exact op_cat pins s σ H _ _ v u Q I rx ry ⟨_, _, _, _, rfl, rfl, h1, h2, hz, fun p hp => q _ _ _ (pr_lst wf hp (by rw [List.length_append]; exact hz) (r1.append r2))⟩
    · cases hb
  · rename_i xs ys
    split at hb
    · rename_i hl
      cases hb
      cases hd with
      | tup h1 n1 z1 r1 =>
        cases he with
        | tup h2 n2 z2 r2 =>
          rename_i a vs b us
          have hz := lineOk_le hl
          rw [r1.length, r2.length] at hz
          refine op_catN pins s σ H _ _ v u Q I rx ry ⟨_, _, _, _, rfl, rfl, h1.sq, h2.sq, hz, fun e0 => ?_, fun _ e0 => ?_, fun _ _ p o hp ho => q _ _ _ (pr_tup wf hp ho (by rw [List.length_append]; exact hz) (r1.append r2))⟩
          · subst e0
            cases r1
            exact q _ _ _ (pr_im wf (.tup h2 n2 z2 r2))
          · subst e0
            cases r2
            rw [List.append_nil] at q
            exact q _ _ _ (pr_im wf (.tup h1 n1 z1 r1))
    · cases hb
  · cases hb; cases hd; cases he
    exact op_sub pins s σ H _ _ v u Q I rx ry ⟨_, _, rfl, rfl, q _ _ _ (pr_im wf (.int _))⟩
  · rename_i i j
    split at hb
    · rename_i hc
      cases hb; cases hd; cases he
      have c : CMul i j := by
        unfold mulOk at hc
        simp only [Bool.or_eq_true, Bool.and_eq_true, decide_eq_true_eq] at hc
        exact hc
      exact op_mul pins s σ H _ _ v u Q I rx ry ⟨_, _, rfl, rfl, c, q _ _ _ (pr_im wf (.int _))⟩
    · cases hb
  · rename_i xs j
    split at hb
    · rename_i hc
      simp only [Bool.and_eq_true, decide_eq_true_eq] at hc
      cases hb
      cases he
      cases hd with
      | lst h1 n1 z1 r1 =>
        have hz := lineOk_le hc.1.1
        rw [r1.length] at hz
        refine op_rep pins s σ H _ _ v u Q I rx ry ⟨_, _, _, rfl, rfl, h1, hc.1.2, hc.2, hz, fun p hp => q _ _ _ (pr_lst wf hp ?_ ?_)⟩
        · simp only [List.length_flatten, List.map_replicate, List.sum_replicate_nat]
          rw [Nat.mul_comm]; exact hz
        · clear q hz
          induction j.toNat with
          | zero => exact .nil
          | succ n ih => rw [List.replicate_succ, List.replicate_succ, List.flatten_cons, List.flatten_cons]; exact r1.append ih
    · cases hb
  · rename_i xs j
    split at hb
    · rename_i hc
      simp only [Bool.and_eq_true, decide_eq_true_eq, Bool.not_eq_true'] at hc
      cases hb
      cases he
      cases hd with
      | tup h1 n1 z1 r1 =>
        rename_i a vs
        have ne : vs ≠ [] := fun e => by
          subst e
          cases r1
          exact absurd hc.1.1.1 (by decide)
        have hl : vs.length ≤ 1000 := by rw [← r1.length]; exact hc.2
        refine op_repN pins s σ H _ _ v u Q I rx ry ⟨_, _, _, rfl, rfl, h1.sq, ne, hc.1.1.2, hc.1.2, hl, fun p o hp ho => q _ _ _ (pr_tup wf hp ho ?_ ?_)⟩
        · simp only [List.length_flatten, List.map_replicate, List.sum_replicate_nat]
          have hj : j.toNat ≤ 1000 := by omega
          rw [sizeLine_eq]
          exact Nat.le_trans (Nat.mul_le_mul hj hl) (by decide)
        · clear q hl ne hc
          induction j.toNat with
          | zero => exact .nil
          | succ n ih => rw [List.replicate_succ, List.replicate_succ, List.flatten_cons, List.flatten_cons]; exact r1.append ih
    · cases hb
  · rename_i i j
    split at hb
    · rename_i hc
      simp only [Bool.and_eq_true, decide_eq_true_eq] at hc
      cases hb; cases hd; cases he
      exact op_fdiv pins s σ H _ _ v u Q I rx ry ⟨_, _, rfl, rfl, hc, q _ _ _ (pr_im wf (.int _))⟩
    · cases hb
  · rename_i i j
    split at hb
    · rename_i hc
      cases hb; cases hd; cases he
      exact op_mod pins s σ H _ _ v u Q I rx ry ⟨_, _, rfl, rfl, of_decide_eq_true hc, q _ _ _ (pr_im wf (.int _))⟩
    · cases hb
  · rename_i i j
    split at hb
    · rename_i hc
      simp only [Bool.and_eq_true, decide_eq_true_eq] at hc
      cases hb; cases hd; cases he
      exact op_pow pins s σ H _ _ v u Q I rx ry ⟨_, _, rfl, rfl, ⟨hc.1.1, hc.1.2, hc.2⟩, q _ _ _ (pr_im wf (.int _))⟩
    · cases hb
  · cases hb

def rCmp (K : PySem.W.Frag) (op : CmpOp) : R2 := fun x y H Q => ∃ w d e b, RD K w H d x ∧ RD K w H e y ∧ cmpD op d e = some b ∧ Q (.bl b) H
theorem op_cmp (op : CmpOp) (hu : X.A.units + 65 < cLine) : OpR X (compareOp op) (rCmp X.K op) := by
  intro pins s σ H x y v u Q I rx ry h
  obtain ⟨w, d, e, b, hd, he, hb, q⟩ := h
  have hu4 : X.A.units + 64 < cLine := Nat.lt_of_succ_lt hu
  unfold cmpD at hb
  split at hb
  · split at hb
    · rename_i hc
      rw [Bool.and_eq_true] at hc
      cases hb
      exact op_eqD hu4 pins s σ H _ _ v u Q I rx ry ⟨_, _, hd.dp' hc.1, he.dp' hc.2, hc.1, hc.2, q⟩
    · cases hb
  · split at hb
    · rename_i hc
      rw [Bool.and_eq_true] at hc
      cases hb
      exact op_neD hu4 pins s σ H _ _ v u Q I rx ry ⟨_, _, hd.dp' hc.1, he.dp' hc.2, hc.1, hc.2, q⟩
    · cases hb
  · cases hb; cases hd; cases he
    exact op_lt pins s σ H _ _ v u Q I rx ry ⟨_, _, rfl, rfl, q⟩
  · split at hb
    · rename_i ns ms e1 e2
      cases hb
      cases hd with
      | tup h1 n1 z1 r1 =>
        cases he with
        | tup h2 n2 z2 r2 =>
          have v1 := RDs.ints r1 e1
          have v2 := RDs.ints r2 e2
          subst v1
          subst v2
          exact op_ltT (Nat.lt_of_le_of_lt (Nat.le_add_right _ _) hu) pins s σ H _ _ v u Q I rx ry ⟨_, _, ns, ms, rfl, rfl, h1.sq, h2.sq, q⟩
    · cases hb
  · cases hb; cases hd; cases he
    exact op_le pins s σ H _ _ v u Q I rx ry ⟨_, _, rfl, rfl, q⟩
  · cases hb; cases hd; cases he
    exact op_gt pins s σ H _ _ v u Q I rx ry ⟨_, _, rfl, rfl, q⟩
  · cases hb; cases hd; cases he
    exact op_ge pins s σ H _ _ v u Q I rx ry ⟨_, _, rfl, rfl, q⟩
  · split at hb
    · rename_i xs hs
      split at hb
      · rename_i hc
        rw [Bool.and_eq_true] at hc
        cases hb
        obtain ⟨as, r1⟩ := Dp.reads I _ x v (hd.dp' hc.1) rx
        obtain ⟨hc1, hc2⟩ := hc
        have all : PyData.canLayAll0 xs = true := by
          clear hs q
          induction xs with
          | nil => rfl
          | cons z xs ih =>
            rw [List.all_cons, Bool.and_eq_true] at hc2
            rw [PyData.canLayAll0, SeqAt.canLay_of_shaped hc2.1, ih hc2.2]
            rfl
        cases e with
        | list ys =>
          cases hs
          obtain ⟨bs, r2⟩ := Dp.reads I _ y u (he.dp (by rw [PyData.canLay0]; exact all)) ry
          exact SeqAt.in_list_reads r2 r1 (by simpa [PyData.canLay0] using all) (SeqAt.canLay_of_shaped hc1) (room_in_shaped hc1 hu) ⟨.bl _, H, I, rfl, q⟩
        | tuple ys =>
          cases hs
          obtain ⟨bs, r2⟩ := Dp.reads I _ y u (he.dp (by rw [PyData.canLay0]; exact all)) ry
          exact SeqAt.in_tuple_reads r2 r1 (by simpa [PyData.canLay0] using all) (SeqAt.canLay_of_shaped hc1) (room_in_shaped hc1 hu) ⟨.bl _, H, I, rfl, q⟩
        | _ => cases hs
      · cases hb
    · cases hb
  · split at hb
    · rename_i xs hs
      split at hb
      · rename_i hc
        rw [Bool.and_eq_true] at hc
        cases hb
        obtain ⟨as, r1⟩ := Dp.reads I _ x v (hd.dp' hc.1) rx
        obtain ⟨hc1, hc2⟩ := hc
        have all : PyData.canLayAll0 xs = true := by
          clear hs q
          induction xs with
          | nil => rfl
          | cons z xs ih =>
            rw [List.all_cons, Bool.and_eq_true] at hc2
            rw [PyData.canLayAll0, SeqAt.canLay_of_shaped hc2.1, ih hc2.2]
            rfl
        cases e with
        | list ys =>
          cases hs
          obtain ⟨bs, r2⟩ := Dp.reads I _ y u (he.dp (by rw [PyData.canLay0]; exact all)) ry
          exact SeqAt.notIn_list_reads r2 r1 (by simpa [PyData.canLay0] using all) (SeqAt.canLay_of_shaped hc1) (room_in_shaped hc1 hu) ⟨.bl _, H, I, rfl, q⟩
        | tuple ys =>
          cases hs
          obtain ⟨bs, r2⟩ := Dp.reads I _ y u (he.dp (by rw [PyData.canLay0]; exact all)) ry
          exact SeqAt.notIn_tuple_reads r2 r1 (by simpa [PyData.canLay0] using all) (SeqAt.canLay_of_shaped hc1) (room_in_shaped hc1 hu) ⟨.bl _, H, I, rfl, q⟩
        | _ => cases hs
      · cases hb
    · cases hb
  · cases hb

def rIdx (K : PySem.W.Frag) : R2 := fun x y H Q => ∃ w d e r, RD K w H d x ∧ RD K w H e y ∧ idxD d e = some r ∧ ∀ u, RD K w H r u → Q u H
theorem ix_any : IxR X (rIdx X.K) := by
  intro value slice pins s σ H x y v u Q I rx ry h hs
  obtain ⟨w, d, e, r, hd, he, hb, q⟩ := h
  unfold idxD at hb
  split at hb
  · cases he
    cases hd with
    | lst h1 n1 z1 r1 =>
      obtain ⟨z, hz, rz⟩ := r1.atI hb
      exact ix_list value slice pins s σ H _ _ v u Q I rx ry ⟨_, _, _, _, rfl, rfl, SqL.of h1, hz, q _ rz⟩ hs
  · cases he
    cases hd with
    | tup h1 n1 z1 r1 =>
      obtain ⟨z, hz, rz⟩ := r1.atI hb
      exact ix_tup value slice pins s σ H _ _ v u Q I rx ry ⟨_, _, _, _, rfl, rfl, h1.sq, hz, q _ rz⟩ hs
  · rename_i xs i
    cases he
    generalize hq : PyData.dict [(PyData.none, PyData.list xs)] = dd at hd
    cases hd with
    | scr h1 z1 r1 =>
      cases hq
      obtain ⟨z, hz, rz⟩ := r1.atI hb
      refine ix_list value slice pins s σ H _ _ v u Q I rx ry ⟨_, _, _, _, rfl, rfl, ?_, hz, q _ rz⟩ hs
      rcases h1 with h1 | h1
      · exact h1.sq
      · exact .inl h1.1
    | dK h n z r =>
      rename_i kvs vs
      exfalso
      cases kvs with
      | nil => cases hq
      | cons p t => cases hq
    | dT h n z e1 r =>
      rename_i kvs ks ds
      exfalso
      subst e1
      cases kvs with
      | nil => cases hq
      | cons p t =>
        cases ds with
        | nil => cases hq
        | cons d ds => cases hq
    | _ => cases hq
  · cases hb

def rSlc (K : PySem.W.Frag) : V → Option Int → Option Int → Hp → VK → Prop := fun x lo hi H Q => ∃ w d m, Wf w H ∧ RD K w H d x ∧ slcD d lo hi = some m ∧ ∀ v H' w', Pr K w H m v H' w' → Q v H'
theorem RDs.cut {K : PySem.W.Frag} {w : Wn} {H : Hp} {ds : List D} {vs : List V} (r : RDs K w H ds vs) (lo hi : Option Int) : RDs K w H (cutD ds lo hi) (cutV vs lo hi) := by
  unfold cutD cutV
  rw [r.length]
  exact (r.drop _).take _
theorem cut_whole {vs : List V} {lo hi : Option Int} (h : HT.sIx vs.length 0 lo = 0 ∧ HT.sIx vs.length vs.length hi = vs.length) : cutV vs lo hi = vs := by
  unfold cutV
  rw [h.1, h.2]
  simp
theorem sl_any : SlR X (rSlc X.K) := by
  intro pins s σ H x v vl vu lo hi sl Q I rx hs pl pu h
  obtain ⟨w, d, m, wf, hd, hb, q⟩ := h
  unfold slcD at hb
  split at hb
  · cases hb
    cases hd with
    | lst h1 n1 z1 r1 =>
      exact sl_list pins s σ H _ v vl vu lo hi sl Q I rx hs pl pu ⟨_, _, rfl, SqL.of h1, fun p hp => q _ _ _ (pr_lst wf hp (Nat.le_trans (cutV_length _ _ _) z1) (r1.cut lo hi))⟩
  · cases hb
    cases hd with
    | tup h1 n1 z1 r1 =>
      rename_i a vs
      refine sl_tupN pins s σ H _ v vl vu lo hi sl Q I rx hs pl pu ⟨_, _, rfl, h1.sq, fun hw => ?_, fun _ p o hp ho => q _ _ _ (pr_tup wf hp ho (Nat.le_trans (cutV_length _ _ _) z1) (r1.cut lo hi))⟩
      refine q _ _ _ (pr_im wf (.tup h1 n1 z1 ?_))
      have := r1.cut lo hi
      rw [cut_whole hw] at this
      exact this
  · cases hb
end
end L2.Gv

set_option Elab.async false
set_option linter.all false
set_option maxRecDepth 100000
set_option maxHeartbeats 2000000
namespace L2.Gv
open PySem PySem.Spec PyProof.Rows L2 PySem.W
/-! ## Tuples of ints sorted, empty ones among them -/
def IsTi (h : Heap) (v : Value) (ns : List Int) : Prop := ∃ (a : Addr) (o : Obj) (items : Array Value) (n : Nat), v = .ref a ∧ h.get? a = some o ∧ o.cls = .type "tuple" ∧ o.data = .seq items n ∧ IntsAre items.toList ns
theorem IsTi.keeps {h h' : Heap} {v : Value} {ns : List Int} (x : IsTi h v ns) (k : ∀ b o, v = .ref b → h.get? b = some o → o.cls = .type "tuple" → h'.get? b = some o) : IsTi h' v ns := by
  obtain ⟨a, o, its, n, e, g, c, d, i⟩ := x
  exact ⟨a, o, its, n, e, k _ _ e g c, c, d, i⟩
theorem IsTi.type {M : Model} {h : Heap} {v : Value} {ns : List Int} (x : IsTi h v ns) : Looks M h (typeOf v) (.type "tuple") := by
  obtain ⟨a, o, its, n, rfl, g, c, d, i⟩ := x
  rw [← c]
  exact (Looks.ld g).andThen .now
section
variable {M : Model} {A : Around} {E : Value → Shared → Prop} {s : Shared}
theorem first_ti {v : Value} {ns : List Int} {Q : Option Value → Shared → Prop} (x : IsTi s.heap v ns) (h : ∀ f : Option Value, f.isSome = !ns.isEmpty → Q f s) : wpAny M A (firstOfTuple' v) Q E s := by
  obtain ⟨a, o, xs, n, rfl, ho, hc, hd, hi⟩ := x
  rw [kas_first_eq]
  refine wpAny_bind (Looks.here (show Looks M s.heap (typeOf (.ref a)) o.cls from (Looks.ld ho).andThen .now) ?_)
  rw [hc, if_neg (by first | decide | simp)]
  refine wpAny_bind (listItems_at ho hd (wpAny_pure (h _ ?_)))
  have hl := hi.length
  cases ns with
  | nil =>
    have : xs.size = 0 := by simpa using hl
    rw [Array.getElem?_eq_none (by omega)]; rfl
  | cons n r =>
    have : 0 < xs.size := by
      rw [← Array.length_toList, hl]; simp
    rw [Array.getElem?_eq_getElem this]; rfl
theorem firsts_ti {k : Value → List Int} : ∀ (vs : List Value) {Q : List (Option Value) → Shared → Prop}, (∀ v ∈ vs, IsTi s.heap v (k v)) → (∀ os : List (Option Value), os.map Option.isSome = vs.map (fun v => !(k v).isEmpty) → Q os s) → wpAny M A (vs.mapM firstOfTuple') Q E s
  | [], _, _, h => by rw [List.mapM_nil]; exact wpAny_pure (h [] rfl)
  | v :: vs, Q, hv, h => by
    rw [List.mapM_cons]
    refine wpAny_bind (first_ti (hv v List.mem_cons_self) fun f hf => ?_)
    refine wpAny_bind (firsts_ti vs (fun u hu => hv u (List.mem_cons_of_mem _ hu)) fun os ho => wpAny_pure (h _ ?_))
    rw [List.map_cons, List.map_cons, hf, ho]
theorem kind_ti {k : Value → List Int} {v0 : Value} {vs : List Value} {Q : SortKind → Shared → Prop} (hv : ∀ v ∈ v0 :: vs, IsTi s.heap v (k v)) (he : ∃ v ∈ v0 :: vs, k v = []) (h : Q (if (k v0).isEmpty then oneType' else general') s) : wpAny M A (keyKind' (v0 :: vs).toArray) Q E s := by
  rw [kat_kind_eq, List.mapM_toArray, map_eq_pure_bind]
  refine wpAny_bind (wpAny_bind (firsts_ti (v0 :: vs) hv fun os ho => wpAny_pure ?_))
  have hall : (os.toArray.all fun x => x.isSome) = false := by
    rw [List.all_toArray]
    have e : (os.all fun x => x.isSome) = (os.map Option.isSome).all id := by rw [List.all_map]; rfl
    rw [e, ho, List.all_eq_false]
    obtain ⟨v, h1, h2⟩ := he
    exact ⟨!(k v).isEmpty, List.mem_map.mpr ⟨v, h1, rfl⟩, by rw [h2]; simp⟩
  rw [if_neg (by rw [hall]; simp)]
  have h0 : (os.toArray[0]?.bind id).isSome = !(k v0).isEmpty := by
    cases os with
    | nil => cases ho
    | cons o r =>
      have h1 := (List.cons.inj (show o.isSome :: r.map Option.isSome = (!(k v0).isEmpty) :: vs.map (fun v => !(k v).isEmpty) from ho)).1
      simpa using h1
  cases hk : (k v0).isEmpty with
  | false =>
    rw [hk] at h0 h
    rw [if_pos (by rw [h0]; rfl)]
    exact wpAny_pure h
  | true =>
    rw [hk] at h0 h
    rw [if_neg (by rw [h0]; simp), oneTypeOnly'_eq, List.mapM_toArray, map_eq_pure_bind]
    refine wpAny_bind (wpAny_bind (wpAny_bind (kas_mapM (r := Value.type "tuple") _ (fun v hm Q' hq => ((hv v hm).type (M := M)).here hq) (wpAny_pure ?_))))
    have hall2 : ((List.map (fun _ => Value.type "tuple") (v0 :: vs)).toArray.all fun x => x == Value.type "tuple") = true := by
      simp only [List.all_toArray, List.all_map, List.all_eq_true]
      intro _ _
      rfl
    have h00 : (List.map (fun _ => Value.type "tuple") (v0 :: vs)).toArray[0]? = some (Value.type "tuple") := by simp
    rw [h00]
    simp only [hall2, if_true]
    exact wpAny_pure (wpAny_pure h)
end
section
variable {prog : Program} {w : World} {A : Around} {E : Value → Shared → Prop} {s : Shared}
theorem IsTi.tup {h : Heap} {v : Value} {ns : List Int} (x : IsTi h v ns) : ∃ a its, v = .ref a ∧ IsTup h a its ∧ IntsAre its.toList ns := by
  obtain ⟨a, o, its, n, e, g, c, d, i⟩ := x
  exact ⟨a, its, e, ⟨o, g, c, n, d⟩, i⟩
theorem lt_gen {v u : Value} {ns ms : List Int} {Q : Bool → Shared → Prop} (hu : A.units < cLine) (hv : IsTi s.heap v ns) (hw : IsTi s.heap u ms) (h : Q (HT.lexLt ns ms) s) : wpAny (model prog w) A (keyLt' general' v u) Q E s := by
  obtain ⟨a, i1, rfl, t1, e1⟩ := hv.tup
  obtain ⟨b, i2, rfl, t2, e2⟩ := hw.tup
  show wpAny (model prog w) A (oneLt' false (.ref a) (.ref b)) Q E s
  exact kat_one _ _ (HT.lt_tupInts t1 t2 e1 e2 hu h)
theorem lt_one {v u : Value} {ns ms : List Int} {Q : Bool → Shared → Prop} (hu : A.units < cLine) (hv : IsTi s.heap v ns) (hw : IsTi s.heap u ms) (h : Q (HT.lexLt ns ms) s) : wpAny (model prog w) A (keyLt' oneType' v u) Q E s := by
  have tv : Looks (model prog w) s.heap (typeOf v) (.type "tuple") := hv.type
  have sp : Looks (model prog w) s.heap (specialOf v "__lt__") (some (.builtin "tuple.__lt__")) := tv.andThen (Looks.of_pure PySem.F.slot_tuple_lt.lookup)
  obtain ⟨a, o, its, n, rfl, ga, ca, da, ia⟩ := hv
  obtain ⟨b, o2, its2, n2, rfl, gb, cb, db, ib⟩ := hw
  rw [keyLt'_oneType, oneLt'_eq]
  simp only [if_true]
  refine wpAny_bind (wpAny_cRoomFor hu ?_)
  have ea : s.heap.get? a = some { cls := .type "tuple", dict := o.dict, data := .seq its n, slots := o.slots } := by
    rw [ga]; cases o; dsimp only at ca da; rw [ca, da]
  have eb : s.heap.get? b = some { cls := .type "tuple", dict := o2.dict, data := .seq its2 n2, slots := o2.slots } := by
    rw [gb]; cases o2; dsimp only at cb db; rw [cb, db]
  refine wpAny_bind (NtL.csib (E := E) sp (PySem.F.slot_tuple_lt.bind _) (call_meets PySem.F.slot_tuple_lt ⟨_, ea, rfl⟩ PySem.F.entry_tuple_lt (PySem.F.args_tuple_lt_2 _ _) (HT.tuple_lt_ints a b its its2 n n2 o.dict o2.dict o.slots o2.slots _ _ ia ib) ⟨ea, eb, ?_⟩))
  exact wpAny_truthy_bool h
theorem ti_sortable {a : Addr} {k : Value → List Int} {vs : List Value} (hu : A.units < cLine) (h2 : 2 ≤ vs.length) (hv : ∀ v ∈ vs, IsTi s.heap v (k v)) (he : ∃ v ∈ vs, k v = []) (ha : ∀ o, s.heap.get? a = some o → o.cls ≠ .type "tuple") : SrtO.SortableO prog w A s a vs fun v u => HT.lexLt (k v) (k u) := by
  intro h' keep
  have hv' : ∀ v ∈ vs, IsTi h' v (k v) := fun v hm => (hv v hm).keeps fun b o e g c => keep b o (fun z => by subst z; exact ha o g c) g
  cases vs with
  | nil => simp at h2
  | cons v0 vs =>
    refine ⟨if (k v0).isEmpty then oneType' else general', fun Q E hq => kind_ti (s := { s with heap := h' }) hv' he hq, fun p q hp hq => ?_⟩
    cases (k v0).isEmpty with
    | true => exact lt_one (s := { s with heap := h' }) (Q := fun r s' => s' = _ ∧ r = HT.lexLt (k p.1) (k q.1)) (E := fun _ _ => False) hu (hv' p.1 hp) (hv' q.1 hq) ⟨rfl, rfl⟩
    | false => exact lt_gen (s := { s with heap := h' }) (Q := fun r s' => s' = _ ∧ r = HT.lexLt (k p.1) (k q.1)) (E := fun _ _ => False) hu (hv' p.1 hp) (hv' q.1 hq) ⟨rfl, rfl⟩
end
theorem lex_toks : ∀ a b : List Int, PyProof.Rows.lexLt PyProof.Rows.itemOrd (PySem.W.keyToksAll (a.map PyData.int)) (PySem.W.keyToksAll (b.map PyData.int)) = HT.lexLt a b
  | [], [] => by
    rw [List.map_nil, PySem.W.keyToksAll, PyProof.Rows.lex_self]; rfl
  | [], y :: b => by
    rw [List.map_nil, List.map_cons, PySem.W.keyToksAll, PySem.W.keyToksAll]
    exact PyProof.Rows.lex_diff (O := PyProof.Rows.itemOrd) fun q => by injection q with q; omega
  | x :: a, [] => by
    rw [List.map_nil, List.map_cons, PySem.W.keyToksAll, PySem.W.keyToksAll]
    exact PyProof.Rows.lex_diff (O := PyProof.Rows.itemOrd) fun q => by injection q with q; omega
  | x :: a, y :: b => by
    rw [List.map_cons, List.map_cons, PySem.W.keyToksAll, PySem.W.keyToksAll, PySem.W.keyToks, PySem.W.keyToks, List.singleton_append, List.singleton_append, PyProof.Rows.lex_self, HT.lexLt_cons]
    by_cases h : x = y
    · subst h
      rw [PyProof.Rows.lex_self, if_pos rfl, lex_toks a b]
    · rw [if_neg h]
      exact PyProof.Rows.lex_diff (O := PyProof.Rows.itemOrd) fun q => by injection q with q; exact h q
/-! ### the same data, as a sorted list -/
theorem lex_eq : ∀ a b : List Int, HT.lexLt a b = false → HT.lexLt b a = false → a = b
  | [], [], _, _ => rfl
  | [], y :: b, h, _ => by rw [HT.lexLt_nil_cons] at h; cases h
  | x :: a, [], _, h => by rw [HT.lexLt_nil_cons] at h; cases h
  | x :: a, y :: b, h1, h2 => by
    rw [HT.lexLt_cons] at h1 h2
    by_cases h : x = y
    · subst h
      rw [if_pos rfl] at h1 h2
      rw [lex_eq a b h1 h2]
    · rw [if_neg h, decide_eq_false_iff_not] at h1
      rw [if_neg (fun q => h q.symm), decide_eq_false_iff_not] at h2
      omega
theorem sorted_sameS {α : Type} {le : α → α → Prop} : ∀ {l1 l2 : List α}, l1.Perm l2 → l1.Pairwise le → l2.Pairwise le → (∀ a ∈ l1, ∀ b ∈ l1, le a b → le b a → a = b) → l1 = l2
  | [], l2, p, _, _, _ => (List.Perm.nil_eq p)
  | a :: r, [], p, _, _, _ => absurd p.length_eq (by simp)
  | a :: r, b :: r2, p, s1, s2, h => by
    have e : a = b := by
      have ha : a ∈ b :: r2 := p.mem_iff.mp List.mem_cons_self
      have hb : b ∈ a :: r := p.mem_iff.mpr List.mem_cons_self
      rcases List.mem_cons.mp ha with e | ha
      · exact e
      · rcases List.mem_cons.mp hb with e | hb
        · exact e.symm
        · exact h a List.mem_cons_self b (List.mem_cons_of_mem _ hb) ((List.pairwise_cons.mp s1).1 b hb) ((List.pairwise_cons.mp s2).1 a ha)
    subst e
    rw [sorted_sameS (List.Perm.cons_inv p) (List.pairwise_cons.mp s1).2 (List.pairwise_cons.mp s2).2 fun x hx y hy => h x (List.mem_cons_of_mem _ hx) y (List.mem_cons_of_mem _ hy)]
theorem le_tups (a b : List Int) : PySem.W.dataLe false (id : D → D) (tupI a) (tupI b) = !HT.lexLt b a := by
  show (!PyProof.Rows.lexLt PyProof.Rows.itemOrd (PySem.W.keyToks (tupI b)) (PySem.W.keyToks (tupI a))) = _
  unfold tupI
  rw [PySem.W.keyToks, PySem.W.keyToks, lex_toks]
theorem le_trans' (a b c : D) (h1 : PySem.W.dataLe false (id : D → D) a b = true) (h2 : PySem.W.dataLe false (id : D → D) b c = true) : PySem.W.dataLe false (id : D → D) a c = true := (PySem.W.sortLe_total _ false _).trans a b c h1 h2
theorem le_total' (a b : D) : (PySem.W.dataLe false (id : D → D) a b || PySem.W.dataLe false (id : D → D) b a) = true := by
  have := (PySem.W.sortLe_total (PyProof.Rows.listOrd PyProof.Rows.itemOrd) false (fun b : D => PySem.W.keyToks (id b))).total a b
  first | exact this | (rw [Bool.or_eq_true]; exact this)
theorem each_ofS {R : Value → D → Prop} {f : Value → D} : ∀ {out : List Value}, (∀ u ∈ out, R u (f u)) → PySem.W.EachIs R out (out.map f)
  | [], _ => .nil
  | u :: out, h => .cons (h u List.mem_cons_self) (each_ofS fun v hv => h v (List.mem_cons_of_mem _ hv))
theorem each_map_eq {R : Value → D → Prop} {f : Value → D} : ∀ {vs : List Value} {bs : List D}, PySem.W.EachIs R vs bs → (∀ v b, v ∈ vs → R v b → b = f v) → bs = vs.map f
  | [], [], _, _ => rfl
  | v :: vs, b :: bs, .cons h t, hf => by
    rw [List.map_cons, ← hf v b List.mem_cons_self h, ← each_map_eq t fun u c hu => hf u c (List.mem_cons_of_mem _ hu)]
theorem each_and {R S : Value → D → Prop} : ∀ {vs : List Value} {bs : List D}, PySem.W.EachIs R vs bs → PySem.W.EachIs S vs bs → PySem.W.EachIs (fun v b => R v b ∧ S v b) vs bs
  | [], [], _, _ => .nil
  | _ :: _, _ :: _, .cons h t, .cons h' t' => .cons ⟨h, h'⟩ (each_and t t')
theorem out_data {k : Value → List Int} {vs out : List Value} {bs : List D} {R : Value → D → Prop} (he : PySem.W.EachIs (fun v b => R v b ∧ b = tupI (k v)) vs bs) (hs : SrtO.Srtd (fun v u => HT.lexLt (k v) (k u)) out) (hb : SrtO.Stb (fun v u => HT.lexLt (k v) (k u)) out vs) : PySem.W.EachIs R out (bs.mergeSort (PySem.W.dataLe false id)) := by
  have e1 : bs = vs.map fun v => tupI (k v) := each_map_eq he fun v b _ h => h.2
  have hR : ∀ v ∈ vs, R v (tupI (k v)) := fun v hv => by
    obtain ⟨b, _, h1, h2⟩ := he.left v hv
    rw [← h2]; exact h1
  have e2 : bs.mergeSort (PySem.W.dataLe false id) = out.map fun v => tupI (k v) := by
    refine sorted_sameS (le := fun a b : D => PySem.W.dataLe false (id : D → D) a b = true) ((List.mergeSort_perm _ _).trans (by rw [e1]; exact (hb.perm.map _).symm)) (List.pairwise_mergeSort le_trans' le_total' _) ?_ ?_
    · rw [List.pairwise_map]
      refine List.Pairwise.imp ?_ hs
      intro a b h
      have h : HT.lexLt (k b) (k a) = false := h
      rw [le_tups, h]; rfl
    · intro a ha b hb' h1 h2
      have ha := (List.mergeSort_perm _ _).mem_iff.mp ha
      have hb' := (List.mergeSort_perm _ _).mem_iff.mp hb'
      rw [e1] at ha hb'
      obtain ⟨x, _, rfl⟩ := List.mem_map.mp ha
      obtain ⟨y, _, rfl⟩ := List.mem_map.mp hb'
      rw [le_tups, Bool.not_eq_true'] at h1 h2
      rw [lex_eq _ _ h2 h1]
  rw [e2]
  exact each_ofS fun u hu => hR u (hb.perm.mem_iff.mp hu)
theorem ints_reads {h : Heap} : ∀ {vs : List Value} {ns : List Int} {as : List Addr}, ReadsAll h vs (ns.map PyData.int) as → IntsAre vs ns
  | _, [], _, r => by cases r; exact .nil
  | _, n :: ns, _, r => by
    cases r with
    | cons r1 r2 =>
      cases r1
      exact .cons _ _ (ints_reads r2)
theorem ti_reads {h : Heap} {v : Value} {ns : List Int} {as : List Addr} (r : Reads h v (tupI ns) as) : IsTi h v ns := by
  cases r with
  | tuple h1 h2 h3 h4 => exact ⟨_, _, _, _, rfl, h1, h2, h3, ints_reads h4⟩
theorem ints_fun {vs : List Value} {ns ms : List Int} (h1 : IntsAre vs ns) (h2 : IntsAre vs ms) : ns = ms := by
  induction h1 generalizing ms with
  | nil => cases h2; rfl
  | cons n t _ ih =>
    cases h2 with
    | cons m t' h => rw [ih h]
theorem ti_fun {h : Heap} {v : Value} {ns ms : List Int} (h1 : IsTi h v ns) (h2 : IsTi h v ms) : ns = ms := by
  obtain ⟨a, o, its, n, rfl, g, c, d, i⟩ := h1
  obtain ⟨a', o', its', n', e, g', c', d', i'⟩ := h2
  cases e
  rw [g] at g'
  cases g'
  rw [d] at d'
  cases d'
  exact ints_fun i i'
open Classical in
noncomputable def kOf (h : Heap) (v : Value) : List Int := if q : ∃ ns, IsTi h v ns then q.choose else []
theorem kOf_eq {h : Heap} {v : Value} {ns : List Int} (x : IsTi h v ns) : kOf h v = ns := by
  have q : ∃ ns, IsTi h v ns := ⟨ns, x⟩
  unfold kOf
  rw [dif_pos q]
  exact ti_fun q.choose_spec x
def SortableX (ds : List D) : Prop := PySem.W.Sortable ds ∨ ((∀ d ∈ ds, ∃ ns, d = tupI ns) ∧ tupI [] ∈ ds)
section
variable {prog : Program} {w : World} {A : Around} {E : Value → Shared → Prop} {s : Shared} {vs : List Value} {bs : List D} {R : Value → D → Prop}
theorem keys_ti {h : Heap} (er : PySem.W.EachIs (fun v b => ∃ as, Reads h v b as) vs bs) (hT : ∀ d ∈ bs, ∃ ns, d = tupI ns) (hE : tupI [] ∈ bs) : PySem.W.EachIs (fun v b => b = tupI (kOf h v)) vs bs ∧ (∀ v ∈ vs, IsTi h v (kOf h v)) ∧ ∃ v ∈ vs, kOf h v = [] := by
  have key : ∀ v b, b ∈ bs → (∃ as, Reads h v b as) → b = tupI (kOf h v) ∧ IsTi h v (kOf h v) := fun v b hb ⟨as, r⟩ => by
    obtain ⟨ns, rfl⟩ := hT b hb
    have := ti_reads r
    rw [kOf_eq this]
    exact ⟨rfl, this⟩
  have e1 : ∀ {vs : List Value} {cs : List D}, PySem.W.EachIs (fun v b => ∃ as, Reads h v b as) vs cs → (∀ c ∈ cs, c ∈ bs) → PySem.W.EachIs (fun v b => b = tupI (kOf h v)) vs cs ∧ (∀ v ∈ vs, IsTi h v (kOf h v)) ∧ (tupI [] ∈ cs → ∃ v ∈ vs, kOf h v = []) := by
    intro vs cs hx
    induction hx with
    | nil => exact fun _ => ⟨.nil, (fun v hv => by cases hv), fun q => by cases q⟩
    | cons h1 _ ih =>
      intro hc
      obtain ⟨i1, i2, i3⟩ := ih fun c h => hc c (List.mem_cons_of_mem _ h)
      obtain ⟨k1, k2⟩ := key _ _ (hc _ List.mem_cons_self) h1
      refine ⟨.cons k1 i1, fun v hv => ?_, fun q => ?_⟩
      · rcases List.mem_cons.mp hv with rfl | hv
        · exact k2
        · exact i2 v hv
      · rcases List.mem_cons.mp q with q | q
        · rw [← q] at k1
          refine ⟨_, List.mem_cons_self, ?_⟩
          have k1 := PyData.tuple.inj k1
          exact (List.map_eq_nil_iff.mp k1.symm)
        · obtain ⟨v, hv, e⟩ := i3 q
          exact ⟨v, List.mem_cons_of_mem _ hv, e⟩
  obtain ⟨i1, i2, i3⟩ := e1 er fun c h => h
  exact ⟨i1, i2, i3 hE⟩
theorem list_sort_dataG {a : Addr} {n : Nat} {Q : Value → Shared → Prop} (ho : s.heap.get? a = some (seqObj "list" vs.toArray n)) (e : PySem.W.EachIs R vs bs) (er : PySem.W.EachIs (fun v b => ∃ as, Reads s.heap v b as ∧ a ∉ as) vs bs) (hal : PySem.W.AllAlike bs) (hk : SortableX bs) (hL : bs.length ≤ sizeLine) (hu0 : A.units + 2 < cLine)
    (hu : ∀ b, b ∈ bs → A.units + 1 + b.depth < cLine) (h : ∀ out, out.length = bs.length → PySem.W.EachIs R out (bs.mergeSort (PySem.W.dataLe false id)) → Q .none { s with heap := sortedHeap s.heap a vs (List.toArray out) }) :
    wpAny (model prog w) A (call (.builtin "list.sort") [.ref a]) Q E s := by
  rcases hk with hk | ⟨hT, hE⟩
  · exact PySem.W.list_sort_data (bs := bs) (enc := id) ho e er (by rw [List.map_id]; exact hal) (by rw [List.map_id]; exact hk) hL hu h
  · have er' : PySem.W.EachIs (fun v b => ∃ as, Reads s.heap v b as) vs bs := er.mono fun v b ⟨as, r, _⟩ => ⟨as, r⟩
    obtain ⟨k1, k2, k3⟩ := keys_ti er' hT hE
    refine wpAny_call_entry slot_list_sort ⟨_, ho, rfl⟩ entry_list_sort (SrtO.list_sort_ord (NtL.swo_lexL (kOf s.heap)) ho (by rw [e.length]; exact hL) (fun h2 => ti_sortable (A := A.in1) (by show A.units + 1 < cLine; omega) h2 k2 k3 fun o eo => ?_) fun out hs hb => ⟨_, rfl, h out ?_ ?_⟩) (args_list_sort _)
    · rw [ho] at eo
      cases eo
      intro c
      exact absurd (Value.type.inj c) (by decide)
    · rw [hb.perm.length_eq]; exact e.length
    · exact out_data (each_and e k1) hs hb
theorem sorted_dataG {l : Addr} {Q : Value → Shared → Prop} (hl : s.heap.IsList l vs.toArray) (e : PySem.W.EachIs R vs bs) (er : PySem.W.EachIs (fun v b => ∃ as, Reads s.heap v b as) vs bs) (hal : PySem.W.AllAlike bs) (hk : SortableX bs) (hL : bs.length ≤ sizeLine) (hu0 : A.units + 3 < cLine)
    (hu : ∀ b, b ∈ bs → A.units + 2 + b.depth < cLine) (h : ∀ out, out.length = bs.length → PySem.W.EachIs R out (bs.mergeSort (PySem.W.dataLe false id)) → Q (.ref (s.heap.objs.size + 1)) { s with heap := sortedAll s.heap vs (List.toArray out) }) :
    wpAny (model prog w) A (call (.builtin "sorted") [.ref l]) Q E s := by
  rcases hk with hk | ⟨hT, hE⟩
  · exact PySem.W.sorted_data (bs := bs) (enc := id) hl e er (by rw [List.map_id]; exact hal) (by rw [List.map_id]; exact hk) hL hu h
  · obtain ⟨k1, k2, k3⟩ := keys_ti er hT hE
    refine SrtO.sorted_ord (NtL.swo_lexL (kOf s.heap)) hl (by rw [e.length]; exact hL) (fun h2 h₁ a ha kk => ?_) fun out hs hb => h out ?_ ?_
    · refine ti_sortable (s := { s with heap := h₁ }) (A := A.in1.in1) (by show A.units + 1 + 1 < cLine; omega) h2 (fun v hv => (k2 v hv).keeps fun b o _ g _ => (kk b o g).2) k3 fun o eo => ?_
      have e' : some o = some (seqObj "list" vs.toArray 0) := eo.symm.trans ha
      cases e'
      intro c
      exact absurd (Value.type.inj c) (by decide)
    · rw [hb.perm.length_eq]; exact e.length
    · exact out_data (each_and e k1) hs hb
end
end L2.Gv

set_option Elab.async false
set_option linter.all false
set_option maxRecDepth 100000
set_option maxHeartbeats 2000000
namespace L2.Gv
open PySem PySem.Spec PyProof.Rows L2 PySem.W PySem.Calls PyProof.V
/-! ## sum(d.values()), list(d.values()) -/
section
variable {prog : Program} {w : World} {A : Around} {E : Value → Shared → Prop} {s : Shared} {T : String} {r d : Addr} {n : Nat} {P : Nat → Value → Prop} {OK : Heap → Prop} {Q : Value → Shared → Prop}
theorem sum_src (K : KdlSrc prog w T r d n P OK) (hh : A.handled = none) (hok : OK s.heap) (val : Nat → Int) (hval : ∀ (i : Nat) (v : Value), P i v → ∃ t : Tok, v = Value.int (val i) t)
    (h : ∀ (h' : Heap) (tk : Nat) (t' : Tok), (∀ b o, s.heap.get? b = some o → h'.get? b = some o) → Q (.int (preSum val n) t') { s with heap := h', toks := tk }) :
    wpAny (model prog w) A (call (.builtin "sum") [.ref r]) Q E s := by
  refine call_sum_walkAnyS ?_
  obtain ⟨oI, St, hit, W, st⟩ := K.iter A.in1 s hh hok
  refine hit _ _ ⟨s.heap.objs.size, _, _, _, n, P, _, val, rfl, W.toS, st, fun b hb => ?_, hval, fun s' t' hm => ?_⟩
  · show b < (s.heap.push oI).objs.size
    rw [Heap.size_push]
    rcases List.mem_cons.mp hb with e | hb
    · rw [e]; exact Nat.lt_succ_self _
    · rw [List.mem_singleton.mp hb]; exact Nat.lt_succ_of_lt (K.there _ hok).2
  · have hk : ∀ b o, s.heap.get? b = some o → s'.heap.get? b = some o := fun b o e =>
      hm.heap b o (fun hI => absurd (Heap.lt_size e) (by rw [List.mem_singleton.mp hI]; exact Nat.lt_irrefl _)) (Heap.get?_push_of_some _ e)
    rw [Moved.eq_with hm]
    exact h s'.heap s'.toks t' hk
end
theorem preSum_getD (is : List Int) : ∀ n, n ≤ is.length → preSum (fun i => is.getD i 0) n = (is.take n).sum
  | 0, _ => rfl
  | n + 1, h => by
    show preSum (fun i => is.getD i 0) n + is.getD n 0 = _
    rw [preSum_getD is n (by omega), List.take_add_one, List.getD_eq_getElem?_getD, List.getElem?_eq_getElem (by omega), List.sum_append]
    simp
section
variable {X : Cx} {o : Expr} {p pos apos mpos : Pos} {td : TE}
theorem vals_run {pins : List (Addr × Obj)} {s : Shared} {σ : St} {H : Hp} {R : Value → Shared → Prop} (hd : PE X o td) (hbase : attributeBase o "values" X.env (eval o X.env) = eval o X.env) (hline : (apos.endLine == mpos.line) = true) (I : Inv X pins σ H s)
    {S : V → Hp → Prop} (h : td σ H S) (hS : ∀ x H1, S x H1 → ∃ a ob kvs, x = V.ref a ∧ H1 a = some (.frz ob (.dK kvs)) ∧ ∀ (s2 : Shared) (v : Addr) (vs : List (Key × Value)) (ep : Nat), Inv X pins σ H1 s2 → KV kvs vs → s2.heap.IsValuesView v a → s2.heap.DictAt (mixKind X.prog X.w) a vs ep → R (.ref v) s2) :
    wpAny (model X.prog X.w) X.A (eval (.Call (.Attribute o "values" apos) [] [] mpos) X.env) R X.xe s := by
  refine wpAny_Call_method (T := "dict") (id := "dict.values") hbase rfl hline F.plainAttrs_dict F.slot_dict_values F.type_dict_values (thn (hd.run pins s σ H _ I h) fun u s1 ⟨x, H1, I1, rx, hs0⟩ => ?_)
  obtain ⟨a, ob, kvs, ex, ha, q⟩ := hS x H1 hs0
  subst ex
  obtain rfl : u = Value.ref a := rx
  obtain ⟨hs, hgd, hx, es, ep, vs, hdt, hsz, kv, hm⟩ := I1.frzK ha
  refine ⟨hm.dictOf.typeIs, hm.dictOf.mapOf.noDict, ?_⟩
  have I2 : Inv X pins σ H1 { s1 with heap := s1.heap.push { cls := .type "dict_values", data := .fields #[.ref a] } } := I1.kept (t' := s1.toks) fun b ob q => Heap.get?_push_of_some _ q
  show wpAny _ _ (callWith mpos (.builtin "dict.values") [.ref a] [] []) _ X.xe s1
  exact method_meetsIn F.slot_dict_values F.entry_dict_values rfl (PySem.evalArgs_none ⟨rfl, hm.dictOf.typeIs, F.args_dict_values_1 _, _, meets_dict_values (mixKind X.prog X.w) a hs, ⟨vs, hm.dictOf⟩, q _ _ vs ep I2 kv ⟨_, Heap.get?_push_size _ rfl, rfl, rfl⟩ (hm.push _)⟩)
/-- sum(o.values()), a frozen dict with int values -/
def tSumVals (td : TE) : TE := fun σ H Q => td σ H fun x H1 => ∃ (a : Addr) (ob : Obj) (kvs : List (Key × V)) (is : List Int), x = V.ref a ∧ H1 a = some (.frz ob (.dK kvs)) ∧ kvs.map (·.2) = is.map V.int ∧ Q (.int is.sum) H1
def tLstVals (td : TE) : TE := fun σ H Q => td σ H fun x H1 => ∃ (a : Addr) (ob : Obj) (kvs : List (Key × V)), x = V.ref a ∧ H1 a = some (.frz ob (.dK kvs)) ∧ kvs.length ≤ sizeLine ∧ ∀ q, H1 q = none → Q (.ref q) (upd H1 q (.lst (kvs.map (·.2))))
theorem pe_sumVals (hc : X.calm = true) (hg : Gl X "sum") (hm : X.mg "sum" = none) (hd : PE X o td) (hbase : attributeBase o "values" X.env (eval o X.env) = eval o X.env) (hline : (apos.endLine == mpos.line) = true)
    (hse : starEach [Expr.Call (.Attribute o "values" apos) [] [] mpos] X.env = [(false, eval (Expr.Call (.Attribute o "values" apos) [] [] mpos) X.env)] := by rfl) :
    PE X (.Call (.Name "sum" p) [.Call (.Attribute o "values" apos) [] [] mpos] [] pos) (tSumVals td) := by
  refine ⟨fun pins s σ H Q I h => ?_⟩
  refine wpAny_Call_Name_kw (ld_blt I hg hm (u := .builtin "sum") (by first | rfl | decide +kernel) ?_ (by first | decide +kernel | decide) (by first | decide +kernel | decide))
  rw [hse]
  refine PySem.callWith_builtin1 (vals_run (pins := pins) (σ := σ) (H := H) hd hbase hline I h fun x H1 q => ?_)
  obtain ⟨a, ob, kvs, is, ex, ha, hv, q⟩ := q
  refine ⟨a, ob, kvs, ex, ha, fun s2 v vs ep I2 rel hvw dat => ?_⟩
  have hlv : vs.length = is.length := by
    have e1 := congrArg List.length hv
    rw [List.length_map, List.length_map] at e1
    rw [← e1]
    exact (KV.length rel).symm
  have hval : ∀ (i : Nat) (v : Value), (∃ k, vs[i]? = some (k, v)) → ∃ t, v = Value.int (is.getD i 0) t := fun i v ⟨k, hk⟩ => by
    obtain ⟨x, h1, h2⟩ := KV.at' rel hk
    have e1 : (kvs.map (·.2))[i]? = some x := by rw [List.getElem?_map, h1] <;> rfl
    rw [hv, List.getElem?_map] at e1
    obtain ⟨j, hj, e2⟩ := Option.map_eq_some_iff.mp e1
    subst e2
    obtain ⟨t, e3⟩ := h2
    refine ⟨t, ?_⟩
    rw [e3, List.getD_eq_getElem?_getD, hj] <;> rfl
  refine sum_src (kdl_values (knd := mixKind X.prog X.w) (kvs := vs) (ep := ep)) (I.ok.hd hc) ⟨hvw, dat⟩ (fun i => is.getD i 0) hval fun h' tk t' hk => ?_
  refine ⟨.int _, H1, I2.kept (t' := tk) hk, ⟨t', rfl⟩, ?_⟩
  rw [hlv, preSum_getD is _ (Nat.le_refl _), List.take_length]
  exact q
theorem pe_listVals (hc : X.calm = true) (hg : Gl X "list") (hm : X.mg "list" = none) (hd : PE X o td) (hbase : attributeBase o "values" X.env (eval o X.env) = eval o X.env) (hline : (apos.endLine == mpos.line) = true)
    (na : starEach [Expr.Call (.Attribute o "values" apos) [] [] mpos] X.env = (false, eval (Expr.Call (.Attribute o "values" apos) [] [] mpos) X.env) :: starEach [] X.env := by rfl) :
    PE X (.Call (.Name "list" p) [.Call (.Attribute o "values" apos) [] [] mpos] [] pos) (tLstVals td) := by
  refine ⟨fun pins s σ H Q I h => ?_⟩
  refine Call_ (ld_blt I hg hm boot_list (PyProof.Rows.callWith_type1 (args_cons (vals_run (pins := pins) (σ := σ) (H := H) hd hbase hline I h fun x H1 q => ?_) na) na))
  obtain ⟨a, ob, kvs, ex, ha, hl, q⟩ := q
  refine ⟨a, ob, kvs, ex, ha, fun s2 v vs ep I2 rel hvw dat => args_nil ?_⟩
  have hlv : kvs.length = vs.length := KV.length rel
  refine kdl_call (kdl_values (knd := mixKind X.prog X.w) (kvs := vs) (ep := ep)) (I.ok.hd hc) ⟨hvw, dat⟩ (by rw [← hlv]; exact hl) fun h' tk acc c' hk e' hi => ?_
  refine ⟨.ref s2.heap.objs.size, upd H1 s2.heap.objs.size (.lst (kvs.map (·.2))), I2.laid hk (Nat.le_refl _) (show ObjOk X.prog X.w _ _ _ (.lst (kvs.map (·.2))) from ⟨by rw [List.length_map]; exact hl, acc.toList, c', ?_, ?_⟩), rfl, q _ (I2.hok.fresh (Nat.le_refl _))⟩
  · have hal : acc.toList.length = vs.length := by rw [Array.length_toList]; exact hi.1
    refine vals_of_at (by rw [List.length_map, hal, hlv]) fun j x u hx hu => ?_
    obtain ⟨k, hk2⟩ := hi.2 j u (by rw [← Array.getElem?_toList]; exact hu)
    obtain ⟨y, h1, h2⟩ := KV.at' rel hk2
    rw [List.getElem?_map, h1] at hx
    cases hx
    exact h2
  · rw [Array.toArray_toList]; exact e'
end
end L2.Gv

set_option Elab.async false
set_option linter.all false
set_option maxRecDepth 100000
set_option maxHeartbeats 2000000
namespace L2.Gv
open PySem PySem.Spec PyProof.Rows L2
theorem foldl_max_spec : ∀ (r : List Int) (x : Int), (r.foldl max x ∈ x :: r) ∧ ∀ y ∈ x :: r, y ≤ r.foldl max x
  | [], x => ⟨List.mem_cons_self, fun y h => by rcases List.mem_cons.mp h with rfl | h; exact Int.le_refl _; cases h⟩
  | z :: r, x => by
    obtain ⟨h1, h2⟩ := foldl_max_spec r (max x z)
    refine ⟨?_, fun y hy => ?_⟩
    · rw [List.foldl_cons]
      rcases List.mem_cons.mp h1 with e | e
      · rw [e]
        rcases Int.max_def x z ▸ (if h : x ≤ z then .inr (if_pos h) else .inl (if_neg h) : (if x ≤ z then z else x) = x ∨ (if x ≤ z then z else x) = z) with q | q
        · rw [q]; exact List.mem_cons_self
        · rw [q]; exact List.mem_cons_of_mem _ List.mem_cons_self
      · exact List.mem_cons_of_mem _ (List.mem_cons_of_mem _ e)
    · rw [List.foldl_cons]
      have hx : x ≤ max x z := Int.le_max_left x z
      have hz : z ≤ max x z := Int.le_max_right x z
      have hm := h2 (max x z) List.mem_cons_self
      rcases List.mem_cons.mp hy with rfl | hy
      · exact Int.le_trans hx hm
      · rcases List.mem_cons.mp hy with rfl | hy
        · exact Int.le_trans hz hm
        · exact h2 y (List.mem_cons_of_mem _ hy)
theorem max_is {x m : Int} {r : List Int} (h1 : m ∈ x :: r) (h2 : ∀ y, y ∈ x :: r → y ≤ m) : m = r.foldl max x := by
  obtain ⟨g1, g2⟩ := foldl_max_spec r x
  have a := h2 _ g1
  have b := g2 _ h1
  omega

section
variable {X : Cx}
theorem Vals.ref1' {a : Addr} {us : List Value} (r : Vals [V.ref a] us) : us = [.ref a] := by
  cases r with
  | cons h t => cases h; cases t; rfl
theorem each_both {K : PySem.W.Frag} {w : Wn} {H : Hp} {pins : List (Addr × Obj)} {σ : St} {s : Shared} (I : Inv X pins σ H s) : ∀ {ds : List D} {vs : List V} {us : List Value}, RDs X.K w H ds vs → Vals vs us →
    PySem.W.EachIs (fun u d => ∃ v, RelV v u ∧ RD X.K w H d v) us ds
  | _, _, _, .nil, .nil => .nil
  | _, _, _, .cons h t, .cons r q => .cons ⟨_, r, h⟩ (each_both (K := K) I t q)
theorem both_each {K : PySem.W.Frag} {w : Wn} {H : Hp} : ∀ {us : List Value} {ds : List D}, PySem.W.EachIs (fun u d => ∃ v, RelV v u ∧ RD K w H d v) us ds → ∃ vs, Vals vs us ∧ RDs K w H ds vs
  | _, _, .nil => ⟨[], .nil, .nil⟩
  | _, _, .cons ⟨v, r, h⟩ t => by
    obtain ⟨vs, r2, h2⟩ := both_each t
    exact ⟨v :: vs, .cons r r2, .cons h h2⟩
def rBi (K : PySem.W.Frag) (b : Bi) : List V → Hp → VK → Prop := fun xs H Q => ∃ w ds m, Wf w H ∧ RDs K w H ds xs ∧ biD b ds = some m ∧ ∀ v H' w', Pr K w H m v H' w' → Q v H'
theorem one_of {K : PySem.W.Frag} {w : Wn} {H : Hp} {d : D} {xs : List V} (r : RDs K w H [d] xs) : ∃ v, xs = [v] ∧ RD K w H d v := by
  cases r with
  | cons h t => cases t; exact ⟨_, rfl, h⟩
theorem two_of {K : PySem.W.Frag} {w : Wn} {H : Hp} {d e : D} {xs : List V} (r : RDs K w H [d, e] xs) : ∃ v u, xs = [v, u] ∧ RD K w H d v ∧ RD K w H e u := by
  cases r with
  | cons h t =>
    obtain ⟨u, rfl, h2⟩ := one_of t
    exact ⟨_, u, rfl, h, h2⟩
theorem cb_len : CallR X (.builtin "len") (rBi X.K .len) := by
  intro pins s σ H xs us Q I r h
  obtain ⟨w, ds, m, wf, hr, hb, q⟩ := h
  change biLen ds = some m at hb
  unfold biLen at hb
  split at hb
  case h_2 => cases hb
  rename_i d
  obtain ⟨v, rfl, hd⟩ := one_of hr
  cases e : lenD d with
  | none => rw [e] at hb; cases hb
  | some n =>
    rw [e] at hb
    cases hb
    obtain ⟨a, vs, rfl, hq, rfl⟩ := hd.len e
    exact call_len_seq pins s σ H _ us Q I r ⟨a, vs, rfl, hq, q _ _ _ (pr_im wf (.int _))⟩
theorem cb_all (hc : X.calm = true) : CallR X (.builtin "all") (rBi X.K .all) := by
  intro pins s σ H xs us Q I r h
  obtain ⟨w, ds, m, wf, hr, hb, q⟩ := h
  change biAll ds = some m at hb
  unfold biAll at hb
  split at hb
  case h_2 => cases hb
  rename_i ys
  obtain ⟨v, rfl, hd⟩ := one_of hr
  cases e : boolsD ys with
  | none => rw [e] at hb; cases hb
  | some bs =>
    rw [e] at hb
    cases hb
    cases hd with
    | lst h1 n1 z1 r1 =>
      rw [r1.bools e] at h1
      exact cr_all hc pins s σ H _ us Q I r ⟨_, bs, rfl, SqL.of h1, q _ _ _ (pr_im wf (.bl _))⟩
theorem cb_any (hc : X.calm = true) : CallR X (.builtin "any") (rBi X.K .any) := by
  intro pins s σ H xs us Q I r h
  obtain ⟨w, ds, m, wf, hr, hb, q⟩ := h
  change biAny ds = some m at hb
  unfold biAny at hb
  split at hb
  case h_2 => cases hb
  rename_i ys
  obtain ⟨v, rfl, hd⟩ := one_of hr
  cases e : boolsD ys with
  | none => rw [e] at hb; cases hb
  | some bs =>
    rw [e] at hb
    cases hb
    cases hd with
    | lst h1 n1 z1 r1 =>
      rw [r1.bools e] at h1
      exact cr_any hc pins s σ H _ us Q I r ⟨_, bs, rfl, SqL.of h1, q _ _ _ (pr_im wf (.bl _))⟩
theorem cb_sum (hc : X.calm = true) : CallR X (.builtin "sum") (rBi X.K .sum) := by
  intro pins s σ H xs us Q I r h
  obtain ⟨w, ds, m, wf, hr, hb, q⟩ := h
  change biSum ds = some m at hb
  unfold biSum at hb
  split at hb
  case h_2 => cases hb
  rename_i ys
  obtain ⟨v, rfl, hd⟩ := one_of hr
  cases e : intsD ys with
  | none => rw [e] at hb; cases hb
  | some ns =>
    rw [e] at hb
    cases hb
    cases hd with
    | lst h1 n1 z1 r1 =>
      rw [r1.ints e] at h1
      exact cr_sum hc pins s σ H _ us Q I r ⟨_, ns, rfl, SqL.of h1, q _ _ _ (pr_im wf (.int _))⟩
theorem ints_lay : ∀ {ds : List D} {ns : List Int}, intsD ds = some ns → ds = ns.map .int
  | [], _, e => by cases e; rfl
  | .int i :: r, ns, e => by
    simp only [intsD] at e
    cases q : intsD r with
    | none => rw [q] at e; cases e
    | some ms => rw [q] at e; cases e; rw [List.map_cons, ← ints_lay q]
theorem ints_lay0 : ∀ ns : List Int, PyData.canLayAll0 (ns.map .int) = true
  | [] => by simp [PyData.canLayAll0]
  | n :: ns => by rw [List.map_cons, PyData.canLayAll0, ints_lay0 ns]; simp [PyData.canLay0]
theorem ints_alike (ns : List Int) : PySem.W.AlikeAll (ns.map .int) := by
  refine ⟨fun x hx y hy => ?_, fun x hx e => ?_⟩
  · obtain ⟨i, _, rfl⟩ := List.mem_map.mp hx
    obtain ⟨j, _, rfl⟩ := List.mem_map.mp hy
    simp [PySem.W.alike]
  · obtain ⟨i, _, rfl⟩ := List.mem_map.mp hx
    cases e
theorem cb_max (hc : X.calm = true) (hu : X.A.units + 65 < cLine) : CallR X (.builtin "max") (rBi X.K .max) := by
  intro pins s σ H xs us Q I r h
  obtain ⟨w, ds, m, wf, hr, hb, q⟩ := h
  change biMax ds = some m at hb
  unfold biMax at hb
  split at hb
  case h_3 => cases hb
  · rename_i d
    obtain ⟨v, rfl, hd⟩ := one_of hr
    cases e : seqD d with
    | none => rw [e] at hb; cases hb
    | some ys =>
      rw [e] at hb
      cases e2 : intsD ys with
      | none => simp only [Option.bind_some, e2] at hb; cases hb
      | some ns =>
        simp only [Option.bind_some, e2] at hb
        cases ns with
        | nil => cases hb
        | cons n ns =>
          cases hb
          obtain ⟨a, vs, rfl, hq, hl, hrs⟩ := hd.seq e
          have ev := hrs.ints e2
          subst ev
          rcases hq with ⟨hq, rfl⟩ | ⟨hq, rfl⟩
          · refine cr_max hc pins s σ H _ us Q I r ⟨a, n :: ns, rfl, hq, by simp, fun m hm hle => ?_⟩
            rw [max_is hm hle]
            exact q _ _ _ (pr_im wf (.int _))
          · rw [Vals.ref1' r]
            obtain ⟨its, rv, p, hz⟩ := I.tuple hq
            have ey := ints_lay e2
            subst ey
            obtain ⟨as, hreads⟩ := Dp.readsAll I _ _ its (RDs.dp hrs (ints_lay0 _)) rv
            refine PySem.W.max_tuple_data (x := .int n) (xs := ns.map .int) (as := as) (I.ok.hd hc) (show s.heap.IsTuple a its.toArray from p) hreads (ints_alike (n :: ns)) ?_ fun i u h' tk bs hi hu' hk => ?_
            · have : PyData.depthAll ((n :: ns).map PyData.int) = 0 := PySem.W.depth_ints _
              show X.A.units + 1 + PyData.depthAll ((n :: ns).map PyData.int) < cLine
              rw [this]
              omega
            · rw [PySem.W.maxD_ints] at hu'
              cases hu' with
              | int t =>
                exact ⟨.int _, H, I.kept (h' := h') (t' := tk) hk, ⟨_, rfl⟩, q _ _ _ (pr_im wf (.int _))⟩
  · obtain ⟨v, u, rfl, hd, he⟩ := two_of hr
    cases hd
    cases he
    cases hb
    exact call_max2 hc pins s σ H _ us Q I r ⟨_, _, rfl, q _ _ _ (pr_im wf (.int _))⟩
theorem alikeAll_of {ds : List D} (h : alikeB ds = true) : PySem.W.AllAlike ds := fun d hd e he => by
  unfold alikeB at h
  rw [List.all_eq_true] at h
  have := h d hd
  rw [List.all_eq_true] at this
  exact this e he
theorem sortable_of {ds : List D} (hal : PySem.W.AllAlike ds) (h : (ds.all nonEmptyT || ds.all plainK) = true) : SortableX ds := by
  rw [Bool.or_eq_true, List.all_eq_true, List.all_eq_true] at h
  have nonE : (∀ d ∈ ds, nonEmptyT d = true) → SortableX ds := fun h => .inl <| .inl fun d hd => by
    have := h d hd
    unfold nonEmptyT at this
    split at this
    · exact ⟨_, _, rfl⟩
    · cases this
  rcases h with h | h
  · exact nonE h
  by_cases hT : ∃ d ∈ ds, ∃ xs, d = .tuple xs
  · obtain ⟨d0, hd0, xs0, rfl⟩ := hT
    have allT : ∀ d ∈ ds, ∃ ns, d = tupI ns := fun d hd => by
      have ha := hal _ hd0 d hd
      cases d with
      | tuple xs =>
        have := h _ hd
        have : (intsD xs).isSome = true := this
        obtain ⟨ns, e⟩ := Option.isSome_iff_exists.mp this
        exact ⟨ns, by unfold tupI; rw [ints_lay e]⟩
      | none => rw [PySem.W.alike] at ha <;> first | cases ha | (intros; contradiction)
      | int i => rw [PySem.W.alike] at ha <;> first | cases ha | (intros; contradiction)
      | bool i => rw [PySem.W.alike] at ha <;> first | cases ha | (intros; contradiction)
      | str i => rw [PySem.W.alike] at ha <;> first | cases ha | (intros; contradiction)
      | list i => rw [PySem.W.alike] at ha <;> first | cases ha | (intros; contradiction)
      | dict i => rw [PySem.W.alike] at ha <;> first | cases ha | (intros; contradiction)
    by_cases hE : tupI [] ∈ ds
    · exact .inr ⟨allT, hE⟩
    · refine nonE fun d hd => ?_
      obtain ⟨ns, rfl⟩ := allT d hd
      cases ns with
      | nil => exact absurd hd hE
      | cons n ns => rfl
  · refine .inl (.inr fun d hd => ?_)
    have := h d hd
    unfold plainK at this
    split at this
    · cases this
    · exact absurd ⟨_, hd, _, rfl⟩ hT
    · rename_i h1 h2
      exact ⟨h1, fun xs e => h2 xs e⟩
mutual
theorem lay_alike {K : PySem.W.Frag} {w : Wn} {H : Hp} : ∀ {d : D} {v : V}, RD K w H d v → PySem.W.alike d d = true → Dp K H v d
  | _, _, .non, _ => .non
  | _, _, .bl b, _ => .bl b
  | _, _, .int i, _ => .int i
  | _, _, .str x, _ => .str x
  | _, _, .tup h n z r, c => .tup h.sq (lay_alikes r (by simpa [PySem.W.alike] using c))
  | _, _, .lst h n z r, c => .lst (SqL.of h) (lay_alikes r (by simpa [PySem.W.alike] using c))
  | _, _, .scr h z r, c => by simp [PySem.W.alike] at c
  | _, _, .dK h n z r, c => by simp [PySem.W.alike] at c
  | _, _, .opq, c => by simp [PySem.W.alike] at c
  | _, _, .dT h n z e r, c => by simp [PySem.W.alike] at c
theorem lay_alikes {K : PySem.W.Frag} {w : Wn} {H : Hp} : ∀ {ds : List D} {vs : List V}, RDs K w H ds vs → PySem.W.alikeAll ds ds = true → DpAll K H vs ds
  | _, _, .nil, _ => .nil
  | _, _, .cons h t, c => by
    rw [PySem.W.alikeAll, Bool.and_eq_true] at c
    exact .cons (lay_alike h c.1) (lay_alikes t c.2)
end
theorem each_alike {w : Wn} {H : Hp} {pins : List (Addr × Obj)} {σ : St} {s : Shared} (I : Inv X pins σ H s) : ∀ {ds : List D} {vs : List V} {us : List Value}, RDs X.K w H ds vs → Vals vs us → (∀ d ∈ ds, PySem.W.alike d d = true) →
    PySem.W.EachIs (fun v d => ∃ as, Reads s.heap v d as) us ds
  | _, _, _, .nil, .nil, _ => .nil
  | _, _, _, .cons h t, .cons r q, c => .cons (Dp.reads I _ _ _ (lay_alike h (c _ List.mem_cons_self)) r) (each_alike I t q fun d hd => c d (List.mem_cons_of_mem _ hd))
/-! ### dicts with tuples of ints as keys -/
theorem rds_ints {K : PySem.W.Frag} {w : Wn} {H : Hp} : ∀ {ns : List Int} {vs : List V}, RDs K w H (ns.map .int) vs → vs = (ns.map Sum.inl : List Key).map kV
  | [], _, .nil => rfl
  | n :: ns, _, .cons h t => by
    cases h
    rw [rds_ints t]; rfl
theorem keyI_eq {d : D} {k : List Int} (h : keyI d = some k) : d = tupI k := by
  unfold keyI at h
  split at h
  · rename_i ds
    have := ints_lay h
    unfold tupI; rw [this]
  · cases h
theorem rd_key {K : PySem.W.Frag} {w : Wn} {H : Hp} {k : List Int} {v : V} (h : RD K w H (tupI k) v) : ∃ b, v = .ref b ∧ TupH H b ((k.map Sum.inl : List Key).map kV) := by
  unfold tupI at h
  cases h with
  | tup h1 h2 h3 h4 => exact ⟨_, rfl, by rw [← rds_ints h4]; exact h1⟩
def inlK (k : List Int) : List Key := k.map Sum.inl
theorem reads_ints {h : Heap} : ∀ {k : List Int} {its : List Value}, Vals ((inlK k).map kV) its → ReadsAll h its (k.map .int) []
  | [], _, .nil => .nil
  | n :: ns, _, .cons r t => by
    obtain ⟨tk, e⟩ : ∃ tk, _ = Value.int n tk := r
    subst e
    exact .cons (as := []) (.int n tk) (reads_ints t)
theorem rds_keysT {K : PySem.W.Frag} {w : Wn} {H : Hp} : ∀ {xs : List D} {vs : List V} {ks : List (List Int)}, RDs K w H xs vs → keysT xs = some ks →
    ∃ bs : List Addr, vs = bs.map V.ref ∧ bs.length = ks.length ∧ ∀ (j : Nat) (b : Addr) (k : List Int), bs[j]? = some b → ks[j]? = some k → RD K w H (tupI k) (.ref b) ∧ TupH H b ((inlK k).map kV)
  | [], _, ks, .nil, h => by
    cases h
    exact ⟨[], rfl, rfl, fun j p k e => by simp at e⟩
  | d :: xs, _, ks, .cons (v := v) hd ht, h => by
    unfold keysT at h
    cases e1 : keyI d with
    | none => rw [e1] at h; cases h
    | some k =>
      rw [e1] at h
      cases e2 : keysT xs with
      | none => rw [e2] at h; cases h
      | some ks' =>
        rw [e2] at h
        cases h
        obtain ⟨bs, h1, h2, h3⟩ := rds_keysT ht e2
        have ed := keyI_eq e1
        subst ed
        obtain ⟨b, rfl, hb⟩ := rd_key hd
        refine ⟨b :: bs, by rw [h1]; rfl, by simp [h2], fun j p k' e e' => ?_⟩
        cases j with
        | zero =>
          simp at e e'
          subst e e'
          exact ⟨hd, hb⟩
        | succ j => exact h3 j p k' (by simpa using e) (by simpa using e')
theorem cb_dict (hc : X.calm = true) (hu : X.A.units + 100 < cLine) : CallR X (.type "dict") (rBi X.K .dict) := by
  intro pins s σ H xs us Q I r h
  obtain ⟨w, ds, m, wf, hr, hb, q⟩ := h
  change biDict ds = some m at hb
  unfold biDict at hb
  cases hb
theorem cb_sorted (hc : X.calm = true) (hu : X.A.units + 100 < cLine) : CallR X (.builtin "sorted") (rBi X.K .sorted) := by
  intro pins s σ H xs us Q I r h
  obtain ⟨w, ds, m, wf, hr, hb, q⟩ := h
  change biSorted ds = some m at hb
  unfold biSorted at hb
  split at hb
  case h_3 => cases hb
  case h_2 =>
    rename_i ys
    obtain ⟨v, rfl, hd⟩ := one_of hr
    cases ek : keysT ys with
    | none =>
      rw [ek] at hb
      cases en : intsD ys with
      | none => simp only [en] at hb; cases hb
      | some ns =>
      simp only [en] at hb
      have hb : (sortD (ns.map .int)).map M.ml = some m := hb
      have eys := ints_lay en
      unfold sortD at hb
      split at hb
      case isFalse => cases hb
      rename_i hs
      cases hb
      unfold sortB at hs
      rw [Bool.and_eq_true, Bool.and_eq_true] at hs
      obtain ⟨⟨hal, hso⟩, hdp⟩ := hs
      have al := alikeAll_of hal
      cases hd with
      | tup h1 n1 z1 r1 =>
        rename_i a vs
        rw [Vals.ref1' r]
        have hvs := r1.ints en
        subst hvs
        obtain ⟨its, rv, ht, hz⟩ := I.tuple h1.sq
        obtain ⟨o, ho, hcl, n, hdat⟩ := ht
        have hzl : its.length ≤ sizeLine := by rw [← rv.length]; exact hz
        have hnl : ns.length = its.length := by rw [← rv.length, List.length_map]
        refine Calls.call_function_entry PyProof.Rows.kind_sorted PyProof.Rows.plain_sorted PyProof.Rows.entry_sorted (PyProof.Rows.args_sorted1 _) ?_
        unfold Builtin.«sorted»
        refine wpAny_bind (m := checkCount "sorted" 1 1 _) (wpAny_pure ?_)
        refine wpAny_bind (wpAny_collect_seq (A := X.A.in1) a (.inr rfl) ho hcl hdat (fun h' hk => ?_) (by simp; exact hzl))
        have I1 : Inv X pins σ H { s with heap := h' } := I.kept (t' := s.toks) hk
        have ea : its.toArray.toList = its := by simp
        rw [ea]
        refine wpAny_bind (wpAny_newList ?_ (by omega))
        have hoL : (h'.push (seqObj "list" its.toArray 0)).get? h'.objs.size = some (seqObj "list" its.toArray 0) := Heap.get?_push_size _ rfl
        show wpAny _ _ _ _ _ { s with heap := h'.push (seqObj "list" its.toArray 0) }
        have E1 : ∀ (l : List Value) (kl : List Int), Vals (kl.map V.int) l →
            PySem.W.EachIs (fun u d => (∃ v, RelV v u ∧ RD X.K w H d v)) l (kl.map .int) ∧ PySem.W.EachIs (fun u d => ∃ as, Reads (h'.push (seqObj "list" its.toArray 0)) u d as ∧ h'.objs.size ∉ as) l (kl.map .int) := by
          intro l
          induction l with
          | nil =>
            intro kl hk
            cases kl with
            | nil => exact ⟨.nil, .nil⟩
            | cons => cases hk
          | cons x rr ih =>
            intro kl hk
            cases kl with
            | nil => cases hk
            | cons k kr =>
              cases hk with
              | cons h1 h2 =>
                obtain ⟨i1, i2⟩ := ih kr h2
                obtain ⟨tk, e⟩ : ∃ tk, x = Value.int k tk := h1
                subst e
                exact ⟨.cons ⟨.int k, ⟨tk, rfl⟩, .int k⟩ i1, .cons ⟨[], .int k tk, by simp⟩ i2⟩
        obtain ⟨e1, e2⟩ := E1 its ns rv
        refine wpAny_bind (wpAny_holding (list_sort_dataG (s := { s with heap := h'.push (seqObj "list" its.toArray 0) }) (bs := ns.map .int) (R := fun u d => ∃ v, RelV v u ∧ RD X.K w H d v) hoL e1 e2 al (sortable_of al hso) (by rw [List.length_map]; omega) (by show X.A.units + 1 + 2 < cLine; omega) (fun b hb => ?_) fun out hlen he => ?_))
        · unfold depthOk at hdp
          rw [List.all_eq_true] at hdp
          have := of_decide_eq_true (hdp b hb)
          show X.A.in1.units + 1 + b.depth < cLine
          have : X.A.in1.units ≤ X.A.units + 1 := by first | exact Nat.le_refl _ | (unfold Around.in1; simp) | decide
          omega
        · obtain ⟨vs', rv', rd'⟩ := both_each he
          obtain ⟨e', he'⟩ := PyProof.Rows.sortedHeap_at (vs := its) (out := out.toArray) hoL
          have hlen' : vs'.length ≤ sizeLine := by
            rw [rv'.length, hlen, List.length_map]; omega
          have hp : H h'.objs.size = none := I1.hok.fresh (Nat.le_refl _)
          refine wpAny_pure ⟨_, rfl, .ref h'.objs.size, upd H h'.objs.size (.lst vs'), I1.laid (t' := s.toks) (fun b u e => ?_) (Nat.le_refl _)
            (show ObjOk X.prog X.w _ _ _ (.lst vs') from ⟨hlen', out, e', rv', he'⟩), rfl, q _ _ _ (pr_lst wf hp hlen' rd')⟩
          have hb : b < h'.objs.size := Heap.lt_size e
          rw [PyProof.Rows.sortedHeap_old (Nat.ne_of_lt hb) (by rw [size_push']; exact Nat.lt_succ_of_lt hb)]
          exact Heap.get?_push_of_some _ e
    | some ks =>
      rw [ek] at hb
      have hb : (sortD (ks.map tupI)).map M.ml = some m := hb
      unfold sortD at hb
      split at hb
      case isFalse => cases hb
      rename_i hs
      cases hb
      unfold sortB at hs
      rw [Bool.and_eq_true, Bool.and_eq_true] at hs
      obtain ⟨⟨hal, hso⟩, hdp⟩ := hs
      have al := alikeAll_of hal
      cases hd with
      | tup h1 n1 z1 r1 =>
        rename_i a vs
        rw [Vals.ref1' r]
        obtain ⟨bs, hvs, hbl, hbH⟩ := rds_keysT r1 ek
        subst hvs
        obtain ⟨its, rv, ht, hz⟩ := I.tuple h1.sq
        have ei := refs_at rv
        subst ei
        rw [List.length_map] at hz
        obtain ⟨o, ho, hcl, n, hdat⟩ := ht
        refine Calls.call_function_entry PyProof.Rows.kind_sorted PyProof.Rows.plain_sorted PyProof.Rows.entry_sorted (PyProof.Rows.args_sorted1 _) ?_
        unfold Builtin.«sorted»
        refine wpAny_bind (m := checkCount "sorted" 1 1 _) (wpAny_pure ?_)
        refine wpAny_bind (wpAny_collect_seq (A := X.A.in1) a (.inr rfl) ho hcl hdat (fun h' hk => ?_) (by simp; exact hz))
        have I1 : Inv X pins σ H { s with heap := h' } := I.kept (t' := s.toks) hk
        have ea : (bs.map Value.ref).toArray.toList = bs.map Value.ref := by simp
        rw [ea]
        refine wpAny_bind (wpAny_newList ?_ (by rw [List.length_map]; omega))
        have hoL : (h'.push (seqObj "list" (bs.map Value.ref).toArray 0)).get? h'.objs.size = some (seqObj "list" (bs.map Value.ref).toArray 0) := Heap.get?_push_size _ rfl
        show wpAny _ _ _ _ _ { s with heap := h'.push (seqObj "list" (bs.map Value.ref).toArray 0) }
        have E1 : ∀ (l : List Addr) (kl : List (List Int)), l.length = kl.length → (∀ (j : Nat) (b : Addr) (k : List Int), l[j]? = some b → kl[j]? = some k → RD X.K w H (tupI k) (.ref b) ∧ TupH H b ((inlK k).map kV)) →
            PySem.W.EachIs (fun u d => (∃ v, RelV v u ∧ RD X.K w H d v)) (l.map Value.ref) (kl.map tupI) ∧ PySem.W.EachIs (fun u d => ∃ as, Reads (h'.push (seqObj "list" (bs.map Value.ref).toArray 0)) u d as ∧ h'.objs.size ∉ as) (l.map Value.ref) (kl.map tupI) := by
          intro l
          induction l with
          | nil =>
            intro kl hk _
            cases kl with
            | nil => exact ⟨.nil, .nil⟩
            | cons => simp at hk
          | cons x rr ih =>
            intro kl hk hH
            cases kl with
            | nil => simp at hk
            | cons k kr =>
              obtain ⟨i1, i2⟩ := ih kr (by simpa using hk) fun j b k' e e' => hH (j + 1) b k' (by simpa using e) (by simpa using e')
              obtain ⟨hrd, hx⟩ := hH 0 x k rfl rfl
              obtain ⟨its, rv, ht, hz⟩ := I1.tuple hx.sq
              refine ⟨.cons ⟨.ref x, rfl, hrd⟩ i1, .cons ?_ i2⟩
              obtain ⟨ob, g1, g2, n, g3⟩ := ht
              exact ⟨[], .tuple (Heap.get?_push_of_some _ g1) g2 g3 (reads_ints rv), by simp⟩
        obtain ⟨e1, e2⟩ := E1 bs ks hbl hbH
        refine wpAny_bind (wpAny_holding (list_sort_dataG (s := { s with heap := h'.push (seqObj "list" (bs.map Value.ref).toArray 0) }) (bs := ks.map tupI) (R := fun u d => ∃ v, RelV v u ∧ RD X.K w H d v) hoL e1 e2 al (sortable_of al hso) (by rw [List.length_map]; omega) (by show X.A.units + 1 + 2 < cLine; omega) (fun b hb => ?_) fun out hlen he => ?_))
        · unfold depthOk at hdp
          rw [List.all_eq_true] at hdp
          have := of_decide_eq_true (hdp b hb)
          show X.A.in1.units + 1 + b.depth < cLine
          have : X.A.in1.units ≤ X.A.units + 1 := by first | exact Nat.le_refl _ | (unfold Around.in1; simp) | decide
          omega
        · obtain ⟨vs', rv', rd'⟩ := both_each he
          obtain ⟨e', he'⟩ := PyProof.Rows.sortedHeap_at (vs := bs.map Value.ref) (out := out.toArray) hoL
          have hlen' : vs'.length ≤ sizeLine := by
            rw [rv'.length, hlen, List.length_map]; omega
          have hp : H h'.objs.size = none := I1.hok.fresh (Nat.le_refl _)
          refine wpAny_pure ⟨_, rfl, .ref h'.objs.size, upd H h'.objs.size (.lst vs'), I1.laid (t' := s.toks) (fun b u e => ?_) (Nat.le_refl _)
            (show ObjOk X.prog X.w _ _ _ (.lst vs') from ⟨hlen', out, e', rv', he'⟩), rfl, q _ _ _ (pr_lst wf hp hlen' rd')⟩
          have hb : b < h'.objs.size := Heap.lt_size e
          rw [PyProof.Rows.sortedHeap_old (Nat.ne_of_lt hb) (by rw [size_push']; exact Nat.lt_succ_of_lt hb)]
          exact Heap.get?_push_of_some _ e
  rename_i ys
  obtain ⟨v, rfl, hd⟩ := one_of hr
  unfold sortD at hb
  split at hb
  case isFalse => cases hb
  rename_i hs
  cases hb
  unfold sortB at hs
  rw [Bool.and_eq_true, Bool.and_eq_true] at hs
  obtain ⟨⟨hal, hso⟩, hdp⟩ := hs
  have al := alikeAll_of hal
  cases hd with
  | lst h1 n1 z1 r1 =>
    rename_i a vs
    rw [Vals.ref1' r]
    obtain ⟨its, rv, hl, hz⟩ := I.list (SqL.of h1)
    have e1 := each_both (K := X.K) I r1 rv
    have e2 := each_alike I r1 rv fun d hd => al d hd d hd
    have hL : ys.length ≤ sizeLine := by rw [r1.length]; exact hz
    refine sorted_dataG (bs := ys) (R := fun u d => ∃ v, RelV v u ∧ RD X.K w H d v) hl.isList e1 e2 al (sortable_of al hso) hL (by omega) (fun b hb => ?_) fun out hlen he => ?_
    · unfold depthOk at hdp
      rw [List.all_eq_true] at hdp
      have := of_decide_eq_true (hdp b hb)
      show X.A.units + 2 + b.depth < cLine
      omega
    · obtain ⟨vs', rv', rd'⟩ := both_each he
      obtain ⟨ep, he'⟩ := PyProof.Rows.sortedAll_at s.heap its out.toArray
      have hlen' : vs'.length ≤ sizeLine := by
        rw [rv'.length, hlen]; exact hL
      have hp : H (s.heap.objs.size + 1) = none := I.hok.fresh (Nat.le_succ _)
      exact ⟨.ref _, upd H (s.heap.objs.size + 1) (.lst vs'), I.laid (t' := s.toks) (fun _ _ => PyProof.Rows.sortedAll_old) (Nat.le_succ _) ⟨hlen', out, ep, rv', he'⟩, rfl, q _ _ _ (pr_lst wf hp hlen' rd')⟩
theorem minB_of {ds : List D} (h : minB ds = true) : PySem.W.AlikeAll ds ∧ PyData.canLayAll0 ds = true ∧ (∀ d ∈ ds, shp d = true) ∧ PyData.depthAll ds < 51 := by
  unfold minB at h
  simp only [Bool.and_eq_true] at h
  obtain ⟨⟨⟨h1, h2⟩, h3⟩, h4⟩ := h
  refine ⟨⟨alikeAll_of h1, fun d hd e => ?_⟩, ?_, List.all_eq_true.mp h2, ?_⟩
  · have := List.all_eq_true.mp h3 d hd
    rw [e] at this
    cases this
  · clear h1 h3 h4
    induction ds with
    | nil => rfl
    | cons d r ih =>
      rw [List.all_cons, Bool.and_eq_true] at h2
      rw [PyData.canLayAll0, Bool.and_eq_true]
      exact ⟨SeqAt.canLay_of_shaped h2.1, ih h2.2⟩
  · clear h1 h2 h3
    unfold depthOk at h4
    induction ds with
    | nil => decide
    | cons d r ih =>
      rw [List.all_cons, Bool.and_eq_true, decide_eq_true_eq] at h4
      have := ih h4.2
      rw [PyData.depthAll]
      omega
theorem rds_pick {K : PySem.W.Frag} {w : Wn} {H : Hp} {pins : List (Addr × Obj)} {σ : St} {s : Shared} (I : Inv X pins σ H s) {ds : List D} {vs : List V} {us : List Value} (hr : RDs X.K w H ds vs) (rv : Vals vs us) (hs : ∀ d ∈ ds, shp d = true) {i : Nat} {u : Value} {e : D} {bs : List Addr} {h' : Heap} (hu : us[i]? = some u) (hk : ∀ b o, s.heap.get? b = some o → h'.get? b = some o) (hR : Reads h' u e bs) : ∃ v, RelV v u ∧ RD X.K w H e v := by
  have hl := rv.length
  have hi : i < us.length := (List.getElem?_eq_some_iff.mp hu).1
  have hv : ∃ v, vs[i]? = some v := ⟨vs[i], by simp [hl, hi]⟩
  obtain ⟨v, hv⟩ := hv
  obtain ⟨u', hu', rel⟩ := rv.get hv
  rw [hu] at hu'
  cases hu'
  obtain ⟨d, hd, rd⟩ := hr.getV i v hv
  have hsd := hs d (List.mem_of_getElem? hd)
  obtain ⟨as, r1⟩ := Dp.reads I _ v u (rd.dp' hsd) rel
  have pl := PyData.plain_of_canLay0 d (SeqAt.canLay_of_shaped hsd)
  have := PySem.SeqAt.plain_unique d e u _ _ pl (Reads.keeps hk r1) hR
  subst this
  exact ⟨v, rel, rd⟩
theorem call_min_twoH {prog : Program} {w : World} {A : Around} {E : Value → Shared → Prop} {s : Shared} {a b : Value} {Q : Value → Shared → Prop}
    (h : wpAny (model prog w) A.in1 (pyIter (.ref s.heap.objs.size)) (fun it s₂ => ∃ I fp wr G n P St H bt, it = .ref I ∧ WalksS prog w A.in1 I fp wr G n P St ∧ St 0 s₂ ∧ (∀ b ∈ fp, b < s₂.heap.objs.size) ∧ 0 < n ∧
      (∀ b o, H.get? b = some o → b ∉ wr) ∧ (∀ b o, H.get? b = some o → s₂.heap.get? b = some o) ∧ CmpIn prog w A.in1 .Lt H P bt ∧ ∀ v s', P (argBest bt (n - 1)) v → Moved wr G s₂ s' → Q v s') E
      { s with heap := s.heap.push { cls := .type "tuple", data := .seq #[a, b] } }) :
    wpAny (model prog w) A (call (.builtin "min") [a, b]) Q E s := by
  have hname : (toString "min" ++ toString ".loop" : String) = "min.loop" := by decide
  refine call_function_tree PySem.F.kind_min PySem.F.plain_min PySem.F.entry_min (PySem.F.args_min2 _ _) ?_
  show wpAny _ A.in1 (Builtin.Builtins.bindParams "min" ["key", "default"] 0 ⟨[], []⟩ >>= _) _ _ s
  refine wpAny_bind (wpAny_of_eq (show Builtin.Builtins.bindParams "min" ["key", "default"] 0 ⟨[], []⟩ = pure [none, none] from rfl) ?_)
  show wpAny _ A.in1 (newTuple [a, b] >>= _) _ _ s
  refine wpAny_bind (wpAny_newObj_type ?_)
  refine wpAny_bind (wpAny_mono h (fun it s₂ h₂ => ?_) fun _ _ e => e)
  obtain ⟨I, fp, wr, G, n, P, St, H, bt, rfl, W, hst, hfp, hn, hw, hkeep, hcmp, hQ⟩ := h₂
  refine wpAny_bind (wpAny_newObj_type ?_)
  have hSf : s₂.heap.objs.size ∉ fp := fun hm => Nat.lt_irrefl _ (hfp _ hm)
  rw [hname]
  refine wpAny_pure ⟨plainId_quiet PySem.F.plain_min_loop _, codeAny_min_loop_firstH W H hw bt hcmp s₂.heap.objs.size hSf (fresh_in hkeep) _ hn (fun b o e => Heap.get?_push_of_some _ (hkeep b o e)) (W.frame 0 s₂ _ s₂.toks hst (Nat.le_refl _) fun b _ o e => Heap.get?_push_of_some _ e) (Heap.get?_push_size _ rfl) fun v s' hP hm => ?_⟩
  exact hQ v s' hP (Moved.drop_new (tk := s₂.toks) hm (Nat.le_refl _))
theorem cb_min (hc : X.calm = true) (hu : X.A.units + 65 < cLine) : CallR X (.builtin "min") (rBi X.K .min) := by
  intro pins s σ H xs us Q I r h
  obtain ⟨w, ds, m, wf, hr, hb, q⟩ := h
  change biMin ds = some m at hb
  unfold biMin at hb
  split at hb
  case h_3 => cases hb
  · rename_i x ys
    obtain ⟨v, rfl, hd⟩ := one_of hr
    split at hb
    case isFalse => cases hb
    rename_i hm
    cases hb
    obtain ⟨al, lay, sh, dp⟩ := minB_of hm
    cases hd with
    | lst h1 n1 z1 r1 =>
      rename_i a vs
      rw [Vals.ref1' r]
      obtain ⟨its, rv, p, hz⟩ := I.list (SqL.of h1)
      obtain ⟨as, hreads⟩ := Dp.readsAll I _ _ its (RDs.dp r1 lay) rv
      refine PySem.W.min_list_data (x := x) (xs := ys) (as := as) (I.ok.hd hc) (show s.heap.IsList a its.toArray from p.isList) hreads al (by omega) fun i u h' tk bs hi hu' hk => ?_
      obtain ⟨v, rel, rd⟩ := rds_pick (K := X.K) I r1 rv sh (by simpa using hi) hk hu'
      exact ⟨v, H, I.kept (h' := h') (t' := tk) hk, rel, q _ _ _ (pr_im wf rd)⟩
  · rename_i d e
    obtain ⟨v, v2, rfl, hd, he⟩ := two_of hr
    split at hb
    case isFalse => cases hb
    rename_i hm
    cases hb
    obtain ⟨al, lay, sh, dp⟩ := minB_of hm
    have r1 : RDs X.K w H [d, e] [v, v2] := .cons hd (.cons he .nil)
    cases r with
    | cons ra rr =>
    cases rr with
    | cons rb rr =>
    cases rr
    rename_i ua ub
    have rv : Vals [v, v2] [ua, ub] := .cons ra (.cons rb .nil)
    obtain ⟨as, hreads⟩ := Dp.readsAll I _ _ [ua, ub] (RDs.dp r1 lay) rv
    have hT : (s.heap.push { cls := .type "tuple", data := .seq #[ua, ub] }).IsTuple s.heap.objs.size #[ua, ub] := ⟨_, Heap.get?_push_size _ rfl, rfl, 0, rfl⟩
    have hk0 : ∀ b o, s.heap.get? b = some o → (s.heap.push { cls := .type "tuple", data := .seq #[ua, ub] }).get? b = some o := fun b o q => Heap.get?_push_of_some _ q
    refine call_min_twoH (PySem.W.iter_tupleW (s := { s with heap := s.heap.push { cls := .type "tuple", data := .seq #[ua, ub] } }) (A := X.A.in1) (I.ok.hd hc) hT fun s₂ e2 W st hfp hw hk => ?_)
    have hreads' : ReadsAll (s.heap.push { cls := .type "tuple", data := .seq #[ua, ub] }) (#[ua, ub] : Array Value).toList (d :: [e]) as := ReadsAll.keeps hk0 hreads
    refine ⟨_, _, _, _, _, _, _, s.heap.push { cls := .type "tuple", data := .seq #[ua, ub] }, _, rfl, W, st, hfp, by simp, hw, hk, PySem.W.cmpIn_lt (A := X.A.in1) (s := { s with heap := s.heap.push { cls := .type "tuple", data := .seq #[ua, ub] } }) hreads' al (by show X.A.units + 1 + _ < _; omega), fun u s' hP m => ?_⟩
    obtain ⟨h', tk, rfl, hk'⟩ := PySem.W.moved_old e2 rfl m
    obtain ⟨bs, rr, _, _, _⟩ := PySem.W.readsAll_atA hreads' _ u hP
    have e3 := (PySem.W.argBest_fold PySem.W.dataLt PyData.none d [e] 1 (Nat.le_refl _)).2
    rw [show ([e] : List PyData).take 1 = [e] from rfl] at e3
    have hR : Reads h' u (PySem.W.minD d [e]) bs := PySem.W.reads_keeps hk' (by unfold PySem.W.minD; rw [← e3]; exact rr)
    obtain ⟨v, rel, rd⟩ := rds_pick (K := X.K) I r1 rv sh (i := _) (by simpa using hP) (fun b o q => hk' b o (hk0 b o q)) hR
    exact ⟨v, H, I.kept (h' := h') (t' := tk) (fun b o q => hk' b o (hk0 b o q)), rel, q _ _ _ (pr_im wf rd)⟩
theorem cb_tuple : CallR X (.type "tuple") (rBi X.K .tuple) := by
  intro pins s σ H xs us Q I r h
  obtain ⟨w, ds, m, wf, hr, hb, q⟩ := h
  change biTuple ds = some m at hb
  unfold biTuple at hb
  split at hb
  case h_2 => cases hb
  rename_i d
  obtain ⟨v, rfl, hd⟩ := one_of hr
  cases e : seqD d with
  | none => rw [e] at hb; cases hb
  | some ys =>
    rw [e] at hb
    cases hb
    obtain ⟨a, vs, rfl, hq, hl, hrs⟩ := hd.seq e
    rcases hq with ⟨hq, rfl⟩ | ⟨hq, rfl⟩
    · exact call_tupN pins s σ H _ us Q I r ⟨a, vs, rfl, .inl ⟨hq, fun p o hp ho => q _ _ _ (pr_tup wf hp ho hl hrs)⟩⟩
    · exact call_tupN pins s σ H _ us Q I r ⟨a, vs, rfl, .inr ⟨hq, q _ _ _ (pr_im wf hd)⟩⟩
theorem mkD_eq : ∀ {ks vs : List D} {kvs : List (Int × D)}, mkD ks vs = some kvs → ks = kvs.map (fun p => .int p.1) ∧ vs = kvs.map Prod.snd
  | [], [], _, e => by cases e; exact ⟨rfl, rfl⟩
  | .int k :: ks, v :: vs, kvs, e => by
    unfold mkD at e
    cases q : mkD ks vs with
    | none => rw [q] at e; cases e
    | some r =>
      rw [q] at e
      cases e
      obtain ⟨h1, h2⟩ := mkD_eq q
      rw [h1, h2]
      exact ⟨rfl, rfl⟩
theorem kvsD_eq {d : D} {kvs : List (Int × D)} (h : kvsD d = some kvs) : d = dictD kvs := by
  unfold kvsD at h
  split at h
  · rename_i ps
    obtain ⟨h1, h2⟩ := mkD_eq h
    unfold dictD
    congr 1
    apply List.ext_getElem?
    intro i
    have q1 := congrArg (fun l => l[i]?) h1
    have q2 := congrArg (fun l => l[i]?) h2
    simp only [List.getElem?_map] at q1 q2 ⊢
    cases e1 : ps[i]? with
    | none =>
      rw [e1] at q1
      cases e2 : kvs[i]? with
      | none => rfl
      | some y => rw [e2] at q1; cases q1
    | some x =>
      rw [e1] at q1 q2
      cases e2 : kvs[i]? with
      | none => rw [e2] at q1; cases q1
      | some y =>
        rw [e2] at q1 q2
        simp only [Option.map_some, Option.some.injEq] at q1 q2 ⊢
        rw [← q1, ← q2]
  · cases h
theorem dictD_inj {a b : List (Int × D)} (h : dictD a = dictD b) : a = b := by
  unfold dictD at h
  injection h with h
  refine List.map_inj_right (fun x y z => ?_) |>.mp h
  obtain ⟨x1, x2⟩ := x
  obtain ⟨y1, y2⟩ := y
  injection z with z1 z2
  injection z1 with z1
  dsimp only at z1 z2
  rw [z1, z2]
theorem rd_kvs {K : PySem.W.Frag} {w : Wn} {H : Hp} {d : D} {v : V} {kvs : List (Int × D)} (h : RD K w H d v) (e : kvsD d = some kvs) : ∃ a o vs, v = .ref a ∧ d = dictD kvs ∧ H a = some (.frz o (.dK (dKL (kvs.map Prod.fst) vs))) ∧ w a = none ∧ kvs.length ≤ sizeLine ∧ RDs K w H (kvs.map Prod.snd) vs := by
  have ed := kvsD_eq e
  cases h with
  | dK h1 n1 z1 r1 =>
    rename_i kvs' vs
    have := dictD_inj (a := kvs') ed
    subst this
    exact ⟨_, _, vs, rfl, rfl, h1, n1, z1, r1⟩
  | opq => cases e
  | scr => cases e
  | dT h1 n1 z1 e1 r1 =>
    rename_i a kvs' ks ds
    subst e1
    cases kvs' with
    | nil => exact absurd rfl h1.2
    | cons p t =>
      cases ds with
      | nil => have := r1.length; simp at this
      | cons d ds => cases e
  | _ => cases e
theorem dKL_keys : ∀ {ks : List Int} {vs : List V}, ks.length = vs.length → ((dKL ks vs).map fun kv => kV kv.1) = ks.map V.int
  | [], [], _ => rfl
  | k :: ks, v :: vs, h => by
    have := dKL_keys (ks := ks) (vs := vs) (by simpa using h)
    show V.int k :: ((dKL ks vs).map fun kv => kV kv.1) = _
    rw [this]; rfl
theorem cb_list (hc : X.calm = true) : CallR X (.type "list") (rBi X.K .list) := by
  intro pins s σ H xs us Q I r h
  obtain ⟨w, ds, m, wf, hr, hb, q⟩ := h
  change biList ds = some m at hb
  unfold biList at hb
  split at hb
  case h_2 => cases hb
  rename_i d
  obtain ⟨v, rfl, hd⟩ := one_of hr
  cases e : seqD d with
  | none =>
    rw [e] at hb
    dsimp only at hb
    cases ek : kvsD d with
    | none => rw [ek] at hb; cases hb
    | some kvs =>
      rw [ek] at hb
      cases hb
      obtain ⟨a, o, vs, rfl, rfl, h1, n1, z1, r1⟩ := rd_kvs hd ek
      refine call_listD hc pins s σ H _ us Q I r ⟨a, _, rfl, .inr ⟨o, h1⟩, fun p hp => ?_⟩
      have hlen : (kvs.map Prod.fst).length = vs.length := by have := r1.length; rw [List.length_map] at this ⊢; exact this
      rw [dKL_keys hlen, List.map_map]
      have := pr_lst (K := X.K) (w := w) (ds := kvs.map fun p => PyData.int p.1) (vs := kvs.map fun p => V.int p.1) wf hp (by rw [List.length_map]; exact z1) (by
        have := rd_ints (K := X.K) (w := w) (H := H) (kvs.map Prod.fst)
        rw [List.map_map, List.map_map] at this
        exact this)
      exact q _ _ _ this
  | some ys =>
    rw [e] at hb
    cases hb
    obtain ⟨a, vs, rfl, hq, hl, hrs⟩ := hd.seq e
    exact call_list_of pins s σ H _ us Q I r ⟨a, vs, rfl, hq.imp (·.1) (·.1), fun p hp => q _ _ _ (pr_lst wf hp hl hrs)⟩
/-! ### a dict's repr -/
theorem iiB_of {p : D × D} (h : iiB p = true) : ∃ i j, p = (.int i, .int j) := by
  unfold iiB at h
  split at h
  · exact ⟨_, _, rfl⟩
  · cases h
theorem fdB_kvs {kvs : List (D × D)} (h : fdB (.dict kvs) = true) : ∃ ks : List (Int × Int), kvs = ks.map fun p => (PyData.int p.1, PyData.int p.2) := by
  have h : kvs.all iiB = true := h
  induction kvs with
  | nil => exact ⟨[], rfl⟩
  | cons p r ih =>
    rw [List.all_cons, Bool.and_eq_true] at h
    obtain ⟨i, j, rfl⟩ := iiB_of h.1
    obtain ⟨ks, rfl⟩ := ih h.2 h.2
    exact ⟨(i, j) :: ks, rfl⟩
theorem rds_int2 : ∀ {ks : List (Int × Int)} {K : PySem.W.Frag} {w : Wn} {H : Hp} {vs : List V}, RDs K w H (ks.map fun p => PyData.int p.2) vs → vs = ks.map fun p => V.int p.2
  | [], _, _, _, _, h => by cases h; rfl
  | p :: ks, _, _, _, _, h => by
    cases h with
    | cons h t =>
      cases h
      rw [rds_int2 t]; rfl
theorem flat_kv : ∀ {ks : List (Int × Int)} {us : List (Key × Value)}, KV (dKL (ks.map Prod.fst) (ks.map fun p => V.int p.2)) us → PyProof.V.FlatPairs keyD us (ks.map fun p => (PyData.int p.1, PyData.int p.2))
  | [], _, h => by
    cases h
    exact .nil
  | p :: ks, _, h => by
    cases h with
    | cons h t =>
      rename_i u us
      obtain ⟨k, v⟩ := u
      obtain ⟨h1, t', h2⟩ := h
      dsimp only at h1 h2
      subst h1
      subst h2
      exact .cons (PyProof.V.Flat.int _ _) (flat_kv t)
theorem keyD_reads {h : Heap} (k : Key) (key : Value) (e : keyIs k key = true) : Reads h key (keyD k) [] := by
  rcases keyIs_shape e with ⟨i, t, rfl, rfl⟩ | ⟨x, t, rfl, rfl⟩
  · exact .int i t
  · exact .str x t
theorem mkD_ints : ∀ ks : List (Int × Int), kvsD (.dict (ks.map fun p => (PyData.int p.1, PyData.int p.2))) = some (ks.map fun p => (p.1, PyData.int p.2))
  | [] => rfl
  | p :: ks => by
    have ih := mkD_ints ks
    show (mkD ((ks.map fun p => (PyData.int p.1, PyData.int p.2)).map Prod.fst) ((ks.map fun p => (PyData.int p.1, PyData.int p.2)).map Prod.snd)).map ((p.1, PyData.int p.2) :: ·) = _
    have ih : mkD ((ks.map fun p => (PyData.int p.1, PyData.int p.2)).map Prod.fst) ((ks.map fun p => (PyData.int p.1, PyData.int p.2)).map Prod.snd) = _ := ih
    rw [ih]; rfl
section
variable {X : Cx} {pins : List (Addr × Obj)} {σ : St} {H : Hp} {s : Shared} {w : Wn}
theorem fd_reads (I : Inv X pins σ H s) {d : D} {v : V} {u : Value} (hd : RD X.K w H d v) (hf : fdB d = true) (ru : RelV v u) : ∃ a, u = .ref a ∧ Reads s.heap u d [a] ∧ a ≠ sysModules := by
  cases d with
  | dict kvs =>
    obtain ⟨ks, rfl⟩ := fdB_kvs hf
    obtain ⟨a, o, vs, rfl, _, h1, _, _, r1⟩ := rd_kvs hd (mkD_ints ks)
    have r1 : RDs X.K w H (ks.map fun p => PyData.int p.2) vs := by rw [List.map_map] at r1; exact r1
    have hv := rds_int2 r1
    subst hv
    cases ru
    obtain ⟨_, _, hne, us, hkv, hdo⟩ := I.hok a _ h1
    rw [List.map_map] at hkv
    exact ⟨a, rfl, PyProof.V.reads_dictOf keyD_reads hdo ((flat_kv hkv).pairsRead _), fun e => by rw [e] at hne; simp at hne⟩
  | none => cases hf
  | int i => cases hf
  | bool i => cases hf
  | str i => cases hf
  | list i => cases hf
  | tuple i => cases hf
theorem fds_reads (I : Inv X pins σ H s) : ∀ {ds : List D} {vs : List V} {us : List Value}, RDs X.K w H ds vs → ds.all fdB = true → Vals vs us → ∃ as, ReadsAll s.heap us ds as ∧ sysModules ∉ as
  | [], _, _, h, _, r => by
    cases h
    cases r
    exact ⟨_, .nil, by simp⟩
  | d :: ds, _, _, h, hf, r => by
    cases h with
    | cons h1 h2 =>
      cases r with
      | cons r1 r2 =>
        rw [List.all_cons, Bool.and_eq_true] at hf
        obtain ⟨a, _, q1, n1⟩ := fd_reads I h1 hf.1 r1
        obtain ⟨bs, q2, n2⟩ := fds_reads I h2 hf.2 r2
        exact ⟨_, .cons q1 q2, by
          intro hm
          rcases List.mem_append.mp hm with hm | hm
          · exact n1 (List.mem_singleton.mp hm).symm
          · exact n2 hm⟩
theorem dsh_reads (I : Inv X pins σ H s) {d : D} {v : V} {u : Value} (hd : RD X.K w H d v) (hf : dsh d = true) (ru : RelV v u) : ∃ a as, u = .ref a ∧ Reads s.heap u d as ∧ sysModules ∉ as := by
  cases d with
  | tuple ds =>
    cases hd with
    | tup h1 n1 z1 r1 =>
      cases ru
      obtain ⟨its, rv, ⟨o, ho, hc, n, hd⟩, _⟩ := I.tuple h1.sq
      obtain ⟨as, hr, hn⟩ := fds_reads I r1 hf rv
      exact ⟨_, _, rfl, Reads.tuple ho hc hd hr, hn⟩
  | dict kvs =>
    obtain ⟨a, e, q, n⟩ := fd_reads I hd hf ru
    exact ⟨a, _, e, q, fun hm => n (List.mem_singleton.mp hm).symm⟩
  | none => cases hf
  | int i => cases hf
  | bool i => cases hf
  | str i => cases hf
  | list i => cases hf
end
theorem dep_ints : ∀ ks : List (Int × Int), PyData.depthKv (ks.map fun p => (PyData.int p.1, PyData.int p.2)) = 0
  | [] => by rw [List.map_nil, PyData.depthKv]
  | p :: ks => by rw [List.map_cons, PyData.depthKv, dep_ints ks, PyData.depth]; rfl
theorem dep_fd {d : D} (h : fdB d = true) : d.depth ≤ 1 := by
  cases d with
  | dict kvs =>
    obtain ⟨ks, rfl⟩ := fdB_kvs h
    rw [PyData.depth, dep_ints]
    exact Nat.le_refl 1
  | none => cases h
  | int i => cases h
  | bool i => cases h
  | str i => cases h
  | list i => cases h
  | tuple i => cases h
theorem dep_fds : ∀ {ds : List D}, ds.all fdB = true → PyData.depthAll ds ≤ 1
  | [], _ => by rw [PyData.depthAll]; exact Nat.zero_le _
  | d :: ds, h => by
    rw [List.all_cons, Bool.and_eq_true] at h
    rw [PyData.depthAll]
    have := dep_fd h.1
    have := dep_fds h.2
    omega
theorem dep_dsh {d : D} (h : dsh d = true) : d.depth ≤ 2 := by
  cases d with
  | tuple ds =>
    have := dep_fds h
    rw [PyData.depth]
    omega
  | dict kvs => have := dep_fd (d := .dict kvs) h; omega
  | none => cases h
  | int i => cases h
  | bool i => cases h
  | str i => cases h
  | list i => cases h
theorem cb_repr (hg : X.A.guards = some []) (hu : X.A.units + 100 < cLine) : CallR X (.builtin "repr") (rBi X.K .repr) := by
  intro pins s σ H xs us Q I r h
  obtain ⟨w, ds, m, wf, hr, hb, q⟩ := h
  change biRepr ds = some m at hb
  unfold biRepr at hb
  split at hb
  case h_2 => cases hb
  rename_i d
  obtain ⟨v, rfl, hd⟩ := one_of hr
  split at hb
  case isFalse => cases hb
  rename_i hs
  cases hb
  rw [Bool.and_eq_true, Bool.and_eq_true] at hs
  obtain ⟨⟨hs1, hs2⟩, hs3⟩ := hs
  obtain ⟨u, rfl, ru⟩ := vals1 r
  have fin : ∀ {h' : Heap} {t : Tok} {tk : Nat}, (∀ b o, s.heap.get? b = some o → h'.get? b = some o) → EP X pins σ Q (.str d.shown t) { s with heap := h', toks := tk } := fun {h' t tk} hk =>
    ⟨.str d.shown, H, I.kept (h' := h') (t' := tk) hk, ⟨t, rfl⟩, q _ _ _ (pr_im wf (.str _))⟩
  have z := lineOk_le hs3
  by_cases hs0 : dsh d = true
  · obtain ⟨a, as, rfl, hread, hn⟩ := dsh_reads I hd hs0 ru
    have := dep_dsh hs0
    exact repr_of_reads' hread hs2 (fun _ => hn) hg (by omega) (fun _ _ e => e) (fun h' u tk hk => fin hk) z
  have hs1 : shp d = true := by
    rw [Bool.or_eq_true] at hs1
    exact hs1.resolve_right hs0
  obtain ⟨as, hread⟩ := Dp.reads I _ v u (hd.dp' hs1) ru
  have hdep := SeqAt.depth_of_shaped hs1
  cases hd with
  | non => cases ru; exact PySem.P.repr_of_none (fin fun _ _ e => e)
  | bl b => cases ru; exact PySem.P.repr_of_bool (fin fun _ _ e => e)
  | int i =>
    obtain ⟨t, rfl⟩ := ru
    exact PySem.P.repr_of_int (of_decide_eq_true hs2) (fin fun _ _ e => e)
  | str x =>
    obtain ⟨t, rfl⟩ := ru
    exact PySem.P.repr_of_str (fin fun _ _ e => e) z
  | tup h1 n1 z1 r1 =>
    cases ru
    exact repr_of_reads' hread hs2 (PyData.noDict_hsm (PyData.hasDict_of_canLay _ (SeqAt.canLay_of_shaped hs1))) hg (by omega) (fun _ _ e => e) (fun h' u tk hk => fin hk) z
  | lst h1 n1 z1 r1 =>
    cases ru
    exact repr_of_reads' hread hs2 (PyData.noDict_hsm (PyData.hasDict_of_canLay _ (SeqAt.canLay_of_shaped hs1))) hg (by omega) (fun _ _ e => e) (fun h' u tk hk => fin hk) z
  | scr h1 z1 r1 => exact absurd (SeqAt.canLay_of_shaped hs1) (by simp [PyData.canLay0])
  | dK h1 n1 z1 r1 => exact absurd (SeqAt.canLay_of_shaped hs1) (by simp [PyData.canLay0])
  | opq => exact absurd (SeqAt.canLay_of_shaped hs1) (by simp [PyData.canLay0])
  | dT h1 n1 z1 e1 r1 => exact absurd (SeqAt.canLay_of_shaped hs1) (by simp [PyData.canLay0])
/-! ### isinstance -/
def tyName : Ty → String
  | .int => "int"
  | .bool => "bool"
  | .str => "str"
  | .tuple => "tuple"
  | .list => "list"
def dName : D → Option String
  | .none => some "NoneType"
  | .bool _ => some "bool"
  | .int _ => some "int"
  | .str _ => some "str"
  | .list _ => some "list"
  | .tuple _ => some "tuple"
  | .dict _ => some "dict"
theorem isi_kit (t : Ty) (d : D) : ∃ n, dName d = some n ∧ kitB n (tyName t) = some (isiD t d) := by
  cases t <;> cases d <;> refine ⟨_, rfl, ?_⟩ <;> simp only [isiD, tyName] <;> decide +kernel
theorem rd_ty {K : PySem.W.Frag} {w : Wn} {H : Hp} {d : D} {v : V} {n : String} (h : RD K w H d v) (e : dName d = some n) : TyX K H v (.type n) ∨ ∃ z r, d = .dict ((.none, z) :: r) := by
  cases h with
  | non => cases e; exact .inl (.base .non)
  | bl b => cases e; exact .inl (.base (.bl b))
  | int i => cases e; exact .inl (.base (.int i))
  | str x => cases e; exact .inl (.base (.str x))
  | tup h1 n1 z1 r1 => cases e; obtain ⟨o, h1, _⟩ := h1; exact .inl (.fTuple h1)
  | lst h1 n1 z1 r1 => cases e; exact .inl (.base (.lst h1))
  | scr h1 z1 r1 => exact .inr ⟨_, _, rfl⟩
  | dK h1 n1 z1 r1 => cases e; exact .inl (.fDict h1)
  | opq => exact .inr ⟨_, _, rfl⟩
  | dT h1 n1 z1 e1 r1 => cases e; exact .inl (.base (.dT h1.1))
def rIsiD (K : PySem.W.Frag) (t : Ty) : List V → Hp → VK → Prop := fun xs H Q => ∃ w d x, xs = [x, .ty (tyName t)] ∧ RD K w H d x ∧ (∀ z r, d ≠ .dict ((.none, z) :: r)) ∧ Q (.bl (isiD t d)) H
theorem cb_isi (t : Ty) : CallR X (.builtin "isinstance") (rIsiD X.K t) := by
  intro pins s σ H xs us Q I r h
  obtain ⟨w, d, x, rfl, hd, nd, q⟩ := h
  obtain ⟨n, e1, e2⟩ := isi_kit t d
  rcases rd_ty hd e1 with ty | ⟨z, rr, e⟩
  · exact call_isi pins s σ H _ us Q I r ⟨x, _, _, _, _, rfl, .ty _, ty, kit_ty e2, q⟩
  · exact absurd e (nd z rr)
/-! ### methods of lists -/
def rMt (K : PySem.W.Frag) (m : Mt) : V → List V → Hp → VK → Prop := fun x xs H Q => ∃ w d ds r, Wf w H ∧ Dp K H x d ∧ (∃ ys vs, d = .list ys ∧ RDs K w H ys vs ∧ ∃ a, x = .ref a ∧ H a = some (.lst vs)) ∧ RDs K w H ds xs ∧ mtD m d ds = some r ∧ ∀ v H' w', Pr K w H r v H' w' → Q v H'
def mtName : Mt → String
  | .count => "list.count"
  | .index => "list.index"
theorem findIdx_spec {α : Type} (p : α → Bool) : ∀ (xs : List α) (j : Nat), xs.findIdx? p = some j → (∃ z, xs[j]? = some z ∧ p z = true) ∧ ∀ (m : Nat) (z : α), m < j → xs[m]? = some z → p z = false
  | [], _, h => by cases h
  | x :: xs, j, h => by
    rw [List.findIdx?_cons] at h
    by_cases hx : p x = true
    · rw [if_pos hx] at h
      cases h
      exact ⟨⟨x, rfl, hx⟩, fun m z hm => absurd hm (Nat.not_lt_zero _)⟩
    · rw [if_neg hx] at h
      cases q : xs.findIdx? p with
      | none => rw [q] at h; cases h
      | some k =>
        rw [q] at h
        cases h
        obtain ⟨⟨z, h1, h2⟩, h3⟩ := findIdx_spec p xs k q
        refine ⟨⟨z, h1, h2⟩, fun m z' hm hz => ?_⟩
        cases m with
        | zero =>
          have e := Option.some.inj hz
          subst e
          simpa using hx
        | succ m => exact h3 m z' (Nat.lt_of_succ_lt_succ hm) hz
theorem mt_any (m : Mt) (hu : X.A.units + 65 < cLine) : MtR X (mtName m) (rMt X.K m) := by
  intro pins s σ H x xs v us Q I rx rxs h
  obtain ⟨w, d, ds, r, wf, hd, ⟨ys, vs, rfl, hy, a, rfl, ha⟩, hr, hb, q⟩ := h
  cases m with
  | count =>
    change mtCount _ ds = some r at hb
    unfold mtCount at hb
    split at hb
    case h_2 => cases hb
    rename_i zs k he
    cases he
    obtain ⟨z, rfl, hz⟩ := one_of hr
    cases hz
    cases e : intsD ys with
    | none => rw [e] at hb; cases hb
    | some ns =>
      rw [e] at hb
      cases hb
      rw [hy.ints e] at ha
      exact mt_lcount pins s σ H _ _ v us Q I rx rxs ⟨a, ns, k, rfl, rfl, SqL.of ha, q _ _ _ (pr_im wf (.int _))⟩
  | index =>
    change mtIndex _ ds = some r at hb
    unfold mtIndex at hb
    split at hb
    case h_2 => cases hb
    rename_i zs e0 he
    cases he
    obtain ⟨z, rfl, hz⟩ := one_of hr
    split at hb
    case isFalse => cases hb
    rename_i hs
    rw [Bool.and_eq_true] at hs
    cases e : ys.findIdx? (fun x => PyData.eqv x e0) with
    | none => rw [e] at hb; cases hb
    | some j =>
      rw [e] at hb
      cases hb
      obtain ⟨⟨z', h1, h2⟩, h3⟩ := findIdx_spec _ ys j e
      exact mt_indexD hu pins s σ H _ _ v us Q I rx rxs ⟨a, z, e0, ys, j, z', rfl, rfl, hd, hz.dp' hs.1, hs.2, hs.1, h1, h2, h3, q _ _ _ (pr_im wf (.int _))⟩
end
end L2.Gv

set_option Elab.async false
set_option linter.all false
set_option maxRecDepth 100000
set_option maxHeartbeats 2000000
namespace L2.Gv
open PySem PySem.Spec PyProof.Rows L2

/-! ## Codes held against the given text -/
/-- the names by slot, the block's scope, whose cells are its own (none: all) -/
structure Ct where
  N : List Str
  sc : Scope
  fn : Option Scope
def fnOf : Option Scope → Str → Bool
  | none, _ => true
  | some s, x => s.names.lookup x == some .cell
def Ct.blk (ct : Ct) (scope : Scope) : Ct := ⟨ct.N, relS scope ct.sc, some scope⟩
def visB (sc : Scope) (x : Str) : Bool := match sc.names.lookup x with
  | some .local => true
  | some .cell => true
  | some .free => true
  | _ => false
def glB (sc : Scope) (x : Str) : Bool := match sc.names.lookup x with
  | some .globalImplicit => true
  | _ => false
def slotB (ct : Ct) (i : Nat) (x : Str) : Bool := decide (ct.N[i]? = some x) && visB ct.sc x && !(x == ("__debug__" : Str)) && !(x == ("__classdict__" : Str))
def storeB (ct : Ct) (i : Nat) (x : Str) : Bool := decide (ct.N[i]? = some x) && decide (i ≠ 0) && (match ct.sc.names.lookup x with
  | some .local => true
  | some .cell => fnOf ct.fn x
  | _ => false)
def okName (x : Str) : Bool := !(x == ("__debug__" : Str)) && !(x == ("__name__" : Str))
/-! ### views of an expression -/
def vName : Expr → Option Str
  | .Name x _ => some x
  | _ => none
def vBin : Expr → Option (Expr × Operator × Expr)
  | .BinOp a op b _ => some (a, op, b)
  | _ => none
def vUn : Expr → Option (UnaryOp × Expr)
  | .UnaryOp op a _ => some (op, a)
  | _ => none
def vBool : Expr → Option (BoolOp × List Expr)
  | .BoolOp op es _ => some (op, es)
  | _ => none
def vIf : Expr → Option (Expr × Expr × Expr)
  | .IfExp c a b _ => some (c, a, b)
  | _ => none
def vCmp1 : Expr → Option (Expr × CmpOp × Expr)
  | .Compare a [op] [b] _ => some (a, op, b)
  | _ => none
def vCmp2 : Expr → Option (Expr × CmpOp × Expr × CmpOp × Expr)
  | .Compare a [op, op'] [b, c] _ => some (a, op, b, op', c)
  | _ => none
def vSub : Expr → Option (Expr × Expr)
  | .Subscript a b _ => some (a, b)
  | _ => none
def vSlice : Expr → Option (Option Expr × Option Expr)
  | .Slice lo hi none _ => some (lo, hi)
  | _ => none
def vRev : Expr → Option Expr
  | .Subscript a (.Slice none none (some (.UnaryOp .USub (.Constant (.int 1) _ _) _)) _) _ => some a
  | _ => none
def vTup : Expr → Option (List Expr)
  | .Tuple es _ _ => some es
  | _ => none
def vLst : Expr → Option (List Expr)
  | .List es _ => some es
  | _ => none
def vCall : Expr → Option (Str × List Expr)
  | .Call (.Name x _) es [] _ => some (x, es)
  | _ => none
def vMeth : Expr → Option (Expr × Str × List Expr)
  | .Call (.Attribute o m ap) es [] p => if ap.endLine == p.line then some (o, m, es) else none
  | _ => none
def vLC : Expr → Option (Expr × Expr × Expr × List Expr × Scope)
  | .ListComp el [⟨tg, it, ifs, 0⟩] sc _ => some (el, tg, it, ifs, sc)
  | _ => none
def vNone : Expr → Bool
  | .Constant .none _ _ => true
  | _ => false
section
variable {e : Expr}
theorem vName_eq {x : Str} (h : vName e = some x) : ∃ p, e = .Name x p := by cases e <;> cases h; exact ⟨_, rfl⟩
theorem vBin_eq {x} (h : vBin e = some x) : ∃ p, e = .BinOp x.1 x.2.1 x.2.2 p := by cases e <;> cases h; exact ⟨_, rfl⟩
theorem vUn_eq {x} (h : vUn e = some x) : ∃ p, e = .UnaryOp x.1 x.2 p := by cases e <;> cases h; exact ⟨_, rfl⟩
theorem vBool_eq {x} (h : vBool e = some x) : ∃ p, e = .BoolOp x.1 x.2 p := by cases e <;> cases h; exact ⟨_, rfl⟩
theorem vIf_eq {x} (h : vIf e = some x) : ∃ p, e = .IfExp x.1 x.2.1 x.2.2 p := by cases e <;> cases h; exact ⟨_, rfl⟩
theorem vCmp1_eq {x} (h : vCmp1 e = some x) : ∃ p, e = .Compare x.1 [x.2.1] [x.2.2] p := by
  unfold vCmp1 at h; split at h
  · cases h; exact ⟨_, rfl⟩
  · cases h
theorem vCmp2_eq {x} (h : vCmp2 e = some x) : ∃ p, e = .Compare x.1 [x.2.1, x.2.2.2.1] [x.2.2.1, x.2.2.2.2] p := by
  unfold vCmp2 at h; split at h
  · cases h; exact ⟨_, rfl⟩
  · cases h
theorem vSub_eq {x} (h : vSub e = some x) : ∃ p, e = .Subscript x.1 x.2 p := by cases e <;> cases h; exact ⟨_, rfl⟩
theorem vSlice_eq {x} (h : vSlice e = some x) : ∃ p, e = .Slice x.1 x.2 none p := by
  unfold vSlice at h; split at h
  · cases h; exact ⟨_, rfl⟩
  · cases h
theorem vRev_eq {x} (h : vRev e = some x) : ∃ k p1 p2 p3 p, e = .Subscript x (.Slice none none (some (.UnaryOp .USub (.Constant (.int 1) k p1) p2)) p3) p := by
  unfold vRev at h; split at h
  · cases h; exact ⟨_, _, _, _, _, rfl⟩
  · cases h
theorem vTup_eq {x} (h : vTup e = some x) : ∃ k p, e = .Tuple x k p := by cases e <;> cases h; exact ⟨_, _, rfl⟩
theorem vLst_eq {x} (h : vLst e = some x) : ∃ p, e = .List x p := by cases e <;> cases h; exact ⟨_, rfl⟩
theorem vCall_eq {x} (h : vCall e = some x) : ∃ p q, e = .Call (.Name x.1 p) x.2 [] q := by
  unfold vCall at h; split at h
  · cases h; exact ⟨_, _, rfl⟩
  · cases h
theorem vMeth_eq {x} (h : vMeth e = some x) : ∃ ap p, e = .Call (.Attribute x.1 x.2.1 ap) x.2.2 [] p ∧ (ap.endLine == p.line) = true := by
  unfold vMeth at h; split at h
  · split at h
    · rename_i q
      cases h; exact ⟨_, _, rfl, q⟩
    · cases h
  · cases h
theorem vLC_eq {x} (h : vLC e = some x) : ∃ p, e = .ListComp x.1 [⟨x.2.1, x.2.2.1, x.2.2.2.1, 0⟩] x.2.2.2.2 p := by
  unfold vLC at h; split at h
  · cases h; exact ⟨_, rfl⟩
  · cases h
theorem vNone_eq (h : vNone e = true) : ∃ k p, e = .Constant .none k p := by
  unfold vNone at h; split at h
  · exact ⟨_, _, rfl⟩
  · cases h
end
/-- an argument, an index: neither starred nor a slice -/
def plainE : Expr → Bool
  | .Starred .. => false
  | .Slice .. => false
  | _ => true
theorem star_plain {e : Expr} {es : List Expr} {env : PySem.Env} (h : plainE e = true) : starEach (e :: es) env = (false, eval e env) :: starEach es env := by
  cases e <;> first | rfl | cases h
theorem ix_plain {e : Expr} (h : plainE e = true) : PlainIx e := by
  intro o i
  cases e <;> first | rfl | cases h
def attB : Expr → Bool
  | .Call (.Name ..) [] [] _ => false
  | _ => true
def vDict0 : Expr → Bool
  | .Dict [] [] _ => true
  | _ => false
theorem vDict0_eq {e : Expr} (h : vDict0 e = true) : ∃ p, e = .Dict [] [] p := by
  unfold vDict0 at h; split at h
  · exact ⟨_, rfl⟩
  · cases h
def vDict1 : Expr → Option (Expr × Expr)
  | .Dict [some k] [v] _ => some (k, v)
  | _ => none
theorem vDict1_eq {e : Expr} {x} (h : vDict1 e = some x) : ∃ p, e = .Dict [some x.1] [x.2] p := by
  unfold vDict1 at h; split at h
  · cases h; exact ⟨_, rfl⟩
  · cases h
def vFalse : Expr → Bool
  | .Constant (.bool false) _ _ => true
  | _ => false
theorem vFalse_eq {e : Expr} (h : vFalse e = true) : ∃ k p, e = .Constant (.bool false) k p := by
  unfold vFalse at h; split at h
  · exact ⟨_, _, rfl⟩
  · cases h
def vTwo : Expr → Option Expr
  | .Subscript a (.Slice none none (some (.Constant (.int 2) _ _)) _) _ => some a
  | _ => none
theorem vTwo_eq {e : Expr} {x} (h : vTwo e = some x) : ∃ k p1 p2 p, e = .Subscript x (.Slice none none (some (.Constant (.int 2) k p1)) p2) p := by
  unfold vTwo at h; split at h
  · cases h; exact ⟨_, _, _, _, rfl⟩
  · cases h
def vCallK : Expr → Option (Str × List Expr × List Keyword)
  | .Call (.Name x _) es ks _ => some (x, es, ks)
  | _ => none
theorem vCallK_eq {e : Expr} {x} (h : vCallK e = some x) : ∃ p q, e = .Call (.Name x.1 p) x.2.1 x.2.2 q := by
  unfold vCallK at h; split at h
  · cases h; exact ⟨_, _, rfl⟩
  · cases h
def vTrue : Expr → Bool
  | .Constant (.bool true) _ _ => true
  | _ => false
theorem vTrue_eq {e : Expr} (h : vTrue e = true) : ∃ k p, e = .Constant (.bool true) k p := by
  unfold vTrue at h; split at h
  · exact ⟨_, _, rfl⟩
  · cases h
/-- no display of a set -/
def nsetB : Expr → Bool
  | .Set .. => false
  | _ => true
theorem nset_fold {e : Expr} {env : PySem.Env} (h : nsetB e = true) : ∀ x, foldedSetIterable e env x = pure x := by
  intro x
  cases e <;> first | rfl | cases h
def arN : Ar → Nat
  | .nil => 0
  | .cons _ r => arN r + 1
def p1Slots : P1 → List Nat
  | .nm i => [i]
  | .tp is => is
def ptSlots : Pt → List Nat
  | .nm i => [i]
  | .tp ps => (ps.map p1Slots).flatten
def plainEs (es : List Expr) : Bool := es.all plainE
theorem star_none : ∀ {es : List Expr} {env : PySem.Env} {pos : Pos}, plainEs es = true → (backTo pos (starEach es env)).any (·.1) = false
  | [], _, _, _ => rfl
  | e :: es, env, pos, h => by
    have h' : plainE e = true ∧ plainEs es = true := by
      have := h
      unfold plainEs at this
      rw [List.all_cons, Bool.and_eq_true] at this
      exact this
    rw [star_plain h'.1]
    have ih := star_none (env := env) (pos := pos) h'.2
    show (false || (backTo pos (starEach es env)).any (·.1)) = false
    rw [ih]; rfl
/-! ### targets -/
def mP1 (ct : Ct) : P1 → Expr → Bool
  | .nm i, e => match vName e with
    | some x => storeB ct i x
    | none => false
  | .tp is, e => match vTup e with
    | some es => decide (es.length = is.length) && (is.zip es).all fun p => match vName p.2 with
      | some x => storeB ct p.1 x
      | none => false
    | none => false
def mPt (ct : Ct) : Pt → Expr → Bool
  | .nm i, e => match vName e with
    | some x => storeB ct i x
    | none => false
  | .tp ps, e => match vTup e with
    | some es => decide (es.length = ps.length) && (ps.zip es).all fun p => mP1 ct p.1 p.2
    | none => false
def biName : Bi → Str
  | .len => "len"
  | .all => "all"
  | .any => "any"
  | .max => "max"
  | .sum => "sum"
  | .sorted => "sorted"
  | .tuple => "tuple"
  | .list => "list"
  | .repr => "repr"
  | .dict => "dict"
  | .min => "min"
def tyStr : Ty → Str
  | .int => "int"
  | .bool => "bool"
  | .str => "str"
  | .tuple => "tuple"
  | .list => "list"
def mtStr : Mt → Str
  | .count => "count"
  | .index => "index"
def conB : D → Expr → Bool
  | .none, .Constant .none _ _ => true
  | .bool b, .Constant (.bool c) _ _ => b == c
  | .int i, .Constant (.int j) _ _ => i == j
  | .str x, .Constant (.str y) _ _ => x == y
  | _, _ => false
mutual
def mE (ct : Ct) : Ex → Expr → Bool
  | .nev, _ => true
  | .var i, e => match vName e with
    | some x => slotB ct i x
    | none => false
  | .mov i, e => match vName e with
    | some x => slotB ct i x
    | none => false
  | .con d, e => conB d e
  | .glb x _, e => match vName e with
    | some y => x == y && glB ct.sc x && okName x
    | none => false
  | .tup es, e => match vTup e with
    | some xs => mA ct es xs && decide (arN es ≤ 1000)
    | none => false
  | .lst es, e => match vLst e with
    | some xs => mA ct es xs && decide (arN es ≤ 1000)
    | none => false
  | .bin op a b, e => match vBin e with
    | some (x, o, y) => o == op && mE ct a x && mE ct b y
    | none => false
  | .neg a, e => match vUn e with
    | some (o, x) => o == .USub && mE ct a x
    | none => false
  | .not a, e => match vUn e with
    | some (o, x) => o == .Not && mE ct a x
    | none => false
  | .and es, e => match vBool e with
    | some (o, xs) => o == .And && mA ct es xs
    | none => false
  | .or es, e => match vBool e with
    | some (o, xs) => o == .Or && mA ct es xs
    | none => false
  | .ifx c a b, e => match vIf e with
    | some (x, y, z) => mE ct c x && mE ct a y && mE ct b z
    | none => false
  | .cmp op a b, e => match vCmp1 e with
    | some (x, o, y) => o == op && mE ct a x && mE ct b y && !behindInMarks o y
    | none => false
  | .chn o1 o2 a b c, e => match vCmp2 e with
    | some (x, o, y, o', z) => o == o1 && o' == o2 && mE ct a x && mE ct b y && mE ct c z && !behindInMarks o' z
    | none => false
  | .isN a, e => match vCmp1 e with
    | some (x, o, y) => o == .Is && mE ct a x && vNone y
    | none => false
  | .notN a, e => match vCmp1 e with
    | some (x, o, y) => o == .IsNot && mE ct a x && vNone y
    | none => false
  | .idx a i, e => match vSub e with
    | some (x, y) => mE ct a x && mE ct i y && plainE y
    | none => false
  | .slc a lo hi, e => match vSub e with
    | some (x, y) => match vSlice y with
      | some (l, h) => mE ct a x && mA ct lo l.toList && mA ct hi h.toList
      | none => false
    | none => false
  | .rev a, e => match vRev e with
    | some x => mE ct a x
    | none => false
  | .vidx i k, e => match vSub e with
    | some (x, y) => (match vName x with | some z => slotB ct i z | none => false) && mE ct k y && plainE y
    | none => false
  | .vlen i, e => match vCall e with
    | some (f, [x]) => f == "len" && glB ct.sc "len" && (match vName x with | some z => slotB ct i z | none => false)
    | _ => false
  | .call f F es, e => match vCall e with
    | some (g, x :: xs) => g == f && glB ct.sc f && okName f && mA ct es (x :: xs) && decide (arN es = F.np)
    | _ => false
  | .cio f F i es, e => match vCall e with
    | some (g, x :: xs) => g == f && glB ct.sc f && okName f && (match vName x with | some z => slotB ct i z | none => false) && mA ct es xs && decide (arN es + 1 = F.np) && F.io
    | _ => false
  | .cit f F a es, e => match vCall e with
    | some (g, x :: xs) => g == f && glB ct.sc f && okName f && mE ct a x && plainE x && mA ct es xs && decide (arN es + 1 = F.np) && F.io
    | _ => false
  | .bi b es, e => match vCall e with
    | some (g, x :: xs) => g == biName b && glB ct.sc (biName b) && mA ct es (x :: xs)
    | _ => false
  | .lrng es, e => match vCall e with
    | some (g, [y]) => match vCall y with
      | some (h, [x]) => g == "list" && h == "range" && glB ct.sc "list" && glB ct.sc "range" && mA ct es [x]
      | _ => false
    | _ => false
  | .trg es, e => match vCall e with
    | some (g, [y]) => match vCall y with
      | some (h, [x]) => g == "tuple" && h == "range" && glB ct.sc "tuple" && glB ct.sc "range" && mA ct es [x]
      | _ => false
    | _ => false
  | .sumv a, e => match vCall e with
    | some (g, [y]) => match vMeth y with
      | some (o, h, []) => g == "sum" && h == "values" && glB ct.sc "sum" && mE ct a o && attB o
      | _ => false
    | _ => false
  | .lstv a, e => match vCall e with
    | some (g, [y]) => match vMeth y with
      | some (o, h, []) => g == "list" && h == "values" && glB ct.sc "list" && mE ct a o && attB o
      | _ => false
    | _ => false
  | .isi a t, e => match vCall e with
    | some (g, [x, y]) => g == "isinstance" && glB ct.sc "isinstance" && mE ct a x && plainE x && (match vName y with | some z => z == tyStr t && glB ct.sc z | none => false)
    | _ => false
  | .mth m a es, e => match vMeth e with
    | some (o, g, [x]) => g == mtStr m && mE ct a o && attB o && mA ct es [x]
    | _ => false
  | .vmth m i es, e => match vMeth e with
    | some (o, g, [x]) => g == mtStr m && (match vName o with | some z => slotB ct i z | none => false) && attB o && mA ct es [x]
    | _ => false
  | .vpop i k, e => match vMeth e with
    | some (o, g, [x]) => g == "pop" && (match vName o with | some z => slotB ct i z | none => false) && attB o && mE ct k x && plainE x
    | _ => false
  | .vin neg a i, e => match vCmp1 e with
    | some (x, o, y) => o == (if neg then .NotIn else .In) && mE ct a x && (match vName y with | some z => slotB ct i z | none => false) && !behindInMarks (if neg then .NotIn else .In) y
    | none => false
  | .lc ow p it cs el, e => match vLC e with
    | some (x, tg, iter, ifs, sc) => blkC ct.N ct.sc sc (ow.map fun i => (ct.N.getD i ("" : Str), i)) && mPt (ct.blk sc) p tg && mI ct it tg iter && mA (ct.blk sc) cs ifs && mE (ct.blk sc) el x && (ptSlots p).all (fun i => decide (i ∈ ow)) && nsetB iter
    | none => false
  | .lcm ow p it el, e => match vLC e with
    | some (x, tg, iter, ifs, sc) => blkC ct.N ct.sc sc (ow.map fun i => (ct.N.getD i ("" : Str), i)) && mPt (ct.blk sc) p tg && mI ct it tg iter && ifs.isEmpty && mE (ct.blk sc) el x && (ptSlots p).all (fun i => decide (i ∈ ow)) && nsetB iter
    | none => false
  | .lcr ow j i el, e => match vLC e with
    | some (x, tg, iter, ifs, sc) => blkC ct.N ct.sc sc (ow.map fun i => (ct.N.getD i ("" : Str), i)) && mPt (ct.blk sc) (.nm j) tg && (match vName iter with | some z => slotB ct i z | none => false) && ifs.isEmpty && mE (ct.blk sc) el x && decide (j ∈ ow) && nsetB iter
    | none => false
  | .lst2 a b, e => match vLst e with
    | some [x, y] => mE ct a x && mE ct b y && plainE x && plainE y
    | _ => false
  | .vne i, e => match vCmp1 e with
    | some (x, o, y) => o == .NotEq && (match vName x with | some z => slotB ct i z | none => false) && (match vLst y with | some es => es.isEmpty | none => false)
    | none => false
  | .dsp0, e => vDict0 e
  | .dspS, e => vDict0 e
  | .dsp1 a b, e => match vDict1 e with
    | some (x, y) => mE ct a x && mE ct b y
    | none => false
  | .vdne i, e => match vCmp1 e with
    | some (x, o, y) => o == .NotEq && (match vName x with | some z => slotB ct i z | none => false) && vDict0 y
    | none => false
  | .lk a, e => mE ct a e
  | .lkv i, e => match vName e with
    | some x => slotB ct i x
    | none => false
  | .vdin neg a i, e => match vCmp1 e with
    | some (x, o, y) => o == (if neg then .NotIn else .In) && mE ct a x && (match vName y with | some z => slotB ct i z | none => false) && !behindInMarks (if neg then .NotIn else .In) y
    | none => false
  | .vdget i k, e => match vSub e with
    | some (x, y) => (match vName x with | some z => slotB ct i z | none => false) && mE ct k y && plainE y
    | none => false
  | .vdgt i a b, e => match vMeth e with
    | some (o, g, [x, y]) => g == "get" && (match vName o with | some z => slotB ct i z | none => false) && attB o && mE ct a x && plainE x && mE ct b y && plainE y
    | _ => false
  | .isT neg a, e => match vCmp1 e with
    | some (x, o, y) => mE ct a x && ((o == (if neg then .IsNot else .Is) && vTrue y) || (o == (if neg then .Is else .IsNot) && vFalse y))
    | none => false
  | .two a, e => match vTwo e with
    | some x => mE ct a x
    | none => false
  | .callk f F es ks kes, e => match vCallK e with
    | some (g, x :: xs, kws) => g == f && glB ct.sc f && okName f && mA ct es (x :: xs) && mK ct kes ks kws && decide (arN es + arN kes = F.np) && decide (arN kes = ks.length)
    | _ => false
def mK (ct : Ct) : Ar → List Str → List Keyword → Bool
  | .nil, [], [] => true
  | .cons e r, n :: ns, ⟨some m, x, _⟩ :: ks => m == n && mE ct e x && mK ct r ns ks
  | _, _, _ => false
def mA (ct : Ct) : Ar → List Expr → Bool
  | .nil, [] => true
  | .cons e r, x :: xs => mE ct e x && plainE x && mA ct r xs
  | _, _ => false
def mI (ct : Ct) : It → Expr → Expr → Bool
  | .seq a, _, e => mE ct a e
  | .rng es, _, e => match vCall e with
    | some (g, xs) => g == "range" && glB ct.sc "range" && mA ct es xs && (decide (arN es = 1) || decide (arN es = 2))
    | none => false
  | .enm a, tg, e => match vCall e with
    | some (g, [x]) => g == "enumerate" && glB ct.sc "enumerate" && mE ct a x && plainE x && (vTup tg).isSome
    | _ => false
  | .zip a b, tg, e => match vCall e with
    | some (g, [x, y]) => g == "zip" && glB ct.sc "zip" && mE ct a x && plainE x && mE ct b y && plainE y && (vTup tg).isSome
    | _ => false
  | .itm a, tg, e => match vMeth e with
    | some (o, g, []) => g == "items" && mE ct a o && attB o && (vTup tg).isSome
    | _ => false
  | .vls a, _, e => match vMeth e with
    | some (o, g, []) => g == "values" && mE ct a o && attB o
    | _ => false
end
end L2.Gv

set_option Elab.async false
set_option linter.all false
set_option maxRecDepth 100000
set_option maxHeartbeats 2000000
namespace L2.Gv
open PySem PySem.Spec PyProof.Rows L2

/-! ## Readings -/
structure Cn where
  K : PySem.W.Frag
  mg : Str → Option Value
  W : WX
/-- how an exception of the evaluator lies -/
def XR (mg : Str → Option Value) (x : Exn) (cls : Value) (d : Option Addr) : Prop := mg x.cls = some cls ∧ x.dat = none ∧ d = none
def rdg (q : Cn) {α : Type} (w : Wn) (H : Hp) (σ : St) (r : Rs α) (P : α → Sl → Prop) : Prop := match r with
  | .ok a Γ => P a Γ
  | .ex x Γ => ∀ cls d H' w', Step H w H' w' → ER q.K w' Γ σ H' → XR q.mg x cls d → q.W cls d σ H'
  | .no => False
section
variable {q : Cn} {α β : Type} {w w' : Wn} {H H' : Hp} {σ : St} {Γ : Sl} {P P' : α → Sl → Prop} {r : Rs α}
theorem rdg.step (h : rdg q w H σ r P) (s : Step H w H' w') : rdg q w' H' σ r P := by
  cases r with
  | ok a Γ => exact h
  | ex x Γ => exact fun cls d H2 w2 s2 e x => h cls d H2 w2 (s.trans s2) e x
  | no => exact h
theorem rdg.imp (h : rdg q w H σ r P) (f : ∀ a Γ, P a Γ → P' a Γ) : rdg q w H σ r P' := by
  cases r with
  | ok a Γ => exact f a Γ h
  | ex x Γ => exact h
  | no => exact h
/-- what a bind asks: the first part, then the rest -/
theorem rdg.bind {f : β → Sl → Rs α} {r : Rs β} (h : rdg q w H σ (r.bind f) P) : rdg q w H σ r fun b Γ => rdg q w H σ (f b Γ) P := by
  cases r with
  | ok a Γ => exact h
  | ex x Γ => exact h
  | no => exact h
end
def tE (q : Cn) (c : Ex) : TE := fun σ H Q => ∃ w Γ, ER q.K w Γ σ H ∧ rdg q w H σ (evE c Γ) fun r Γ' => ∀ v H' w', Po q.K w H Γ' σ r v H' w' → Q v H'
def tT (q : Cn) (f : Sl → Rs Bool) : TT := fun σ H Q => ∃ w Γ, ER q.K w Γ σ H ∧ rdg q w H σ (f Γ) fun b Γ' => ∀ H' w', Step H w H' w' → ER q.K w' Γ' σ H' → Q b H'
def tAs (q : Cn) (es : Ar) : TA := fun σ H Q => ∃ w Γ, ER q.K w Γ σ H ∧ rdg q w H σ (evA es Γ) fun ds Γ' => ∀ vs H' w', Step H w H' w' → ER q.K w' Γ' σ H' → RDs q.K w' H' ds vs → Q vs H'
section
variable {q : Cn} {α : Type} {w : Wn} {H : Hp} {σ : St} {Γ : Sl} {P : α → Sl → Prop} {Q : VK} {c : Ex} {es : Ar}
theorem tE_bind {f : M → Sl → Rs α} (e : ER q.K w Γ σ H) (h : rdg q w H σ ((evE c Γ).bind f) P)
    (k : ∀ r Γ' v H' w', Po q.K w H Γ' σ r v H' w' → rdg q w H σ (f r Γ') P → Q v H') : tE q c σ H Q :=
  ⟨w, Γ, e, h.bind.imp fun r Γ' z v H' w' po => k r Γ' v H' w' po z⟩
theorem tE_bindD {f : M → Sl → Rs α} (e : ER q.K w Γ σ H) (h : rdg q w H σ ((evE c Γ).bind f) P)
    (k : ∀ r Γ' v H' w', Step H w H' w' → ER q.K w' Γ' σ H' → RD q.K w' H' (frz r) v → rdg q w' H' σ (f r Γ') P → Q v H') : tE q c σ H Q :=
  tE_bind e h fun r Γ' v H' w' po z => by
    obtain ⟨w2, s2, e2, r2⟩ := po.frz
    exact k r Γ' v H' w2 s2 e2 r2 (z.step s2)
theorem tA_bind {Q : List V → Hp → Prop} {f : List D → Sl → Rs α} (e : ER q.K w Γ σ H) (h : rdg q w H σ ((evA es Γ).bind f) P)
    (k : ∀ ds Γ' vs H' w', Step H w H' w' → ER q.K w' Γ' σ H' → RDs q.K w' H' ds vs → rdg q w' H' σ (f ds Γ') P → Q vs H') : tAs q es σ H Q :=
  ⟨w, Γ, e, h.bind.imp fun ds Γ' z vs H' w' s e' r => k ds Γ' vs H' w' s e' r (z.step s)⟩
theorem tT_bind {Q : Bool → Hp → Prop} {g : Sl → Rs Bool} {f : Bool → Sl → Rs α} (e : ER q.K w Γ σ H) (h : rdg q w H σ ((g Γ).bind f) P)
    (k : ∀ b Γ' H' w', Step H w H' w' → ER q.K w' Γ' σ H' → rdg q w' H' σ (f b Γ') P → Q b H') : tT q g σ H Q :=
  ⟨w, Γ, e, h.bind.imp fun b Γ' z H' w' s e' => k b Γ' H' w' s e' (z.step s)⟩
end
theorem _root_.L2.PE.imp {X : Cx} {e : Expr} {t t' : TE} (h : PE X e t) (f : ∀ σ H Q, t' σ H Q → t σ H Q) : PE X e t' := ⟨fun pins s σ H Q I z => h.run pins s σ H Q I (f σ H Q z)⟩
theorem _root_.L2.PT.imp {X : Cx} {e : Expr} {t t' : TT} (h : PT X e t) (f : ∀ σ H Q, t' σ H Q → t σ H Q) : PT X e t' := ⟨fun pins s σ H Q I z => h.run pins s σ H Q I (f σ H Q z)⟩
theorem _root_.L2.PW.imp {X : Cx} {e : Expr} {t t' : TT} (h : PW X e t) (f : ∀ σ H Q, t' σ H Q → t σ H Q) : PW X e t' := ⟨fun wh pins s σ H Q I z => h.run wh pins s σ H Q I (f σ H Q z)⟩
theorem _root_.L2.PA.imp {X : Cx} {e : List Expr} {t t' : TA} (h : PA X e t) (f : ∀ σ H Q, t' σ H Q → t σ H Q) : PA X e t' := ⟨fun pos pins s σ H Q I z => h.run pos pins s σ H Q I (f σ H Q z)⟩
theorem _root_.L2.PI.imp {X : Cx} {tg e : Expr} {t t' : TI} (h : PI X tg e t) (f : ∀ σ H Q, t' σ H Q → t σ H Q) : PI X tg e t' := ⟨fun pins s σ H Q I z => h.run pins s σ H Q I (f σ H Q z)⟩
theorem _root_.L2.PS.imp {X : Cx} {e : Stmt} {t t' : TS} (h : PS X e t) (f : ∀ D σ H, t' D σ H → t D σ H) : PS X e t' := ⟨fun pins s σ H D I z => h.run pins s σ H D I (f D σ H z)⟩

/-! ## Calls: a def's promise from what the evaluator says of it; where no repr is under way -/
structure FnG (P : Program) (w : World) (K : PySem.W.Frag) (mg : Str → Option Value) (base : Heap) (k : Nat) (f : Addr) (fd : FuncData) (ps : List Str) (sp : Sp) : Prop where
  len : ∀ vs H Q E, sp vs H Q E → vs.length = ps.length
  go : ∀ (A : Around) (fs : List PySem.Env) (s : Shared) (H : Hp) (ar : Args) (us : List Value) (vs : List V) (Q : VK) (E : XK), Room k A → A.guards = some [] → Env0 P w K mg base A fs s H → BindsTo s fd ar (ps.zip us) → Vals vs us → sp vs H Q E →
    codeAny (model P w) A (.call (.ref f) ar) (CR (L2.CX P w) fs P w H s Q E) s
/-- the same by what is passed, however it is bound -/
structure FnQ (P : Program) (w : World) (K : PySem.W.Frag) (mg : Str → Option Value) (base : Heap) (k : Nat) (f : Addr) (sp : Sp) : Prop where
  go : ∀ (A : Around) (fs : List PySem.Env) (s : Shared) (H : Hp) (us : List Value) (vs : List V) (Q : VK) (E : XK), Room k A → A.guards = some [] → Env0 P w K mg base A fs s H → Vals vs us → sp vs H Q E →
    codeAny (model P w) A (.call (.ref f) ⟨us, []⟩) (CR (L2.CX P w) fs P w H s Q E) s
theorem FnQ.mono {P : Program} {w : World} {K : PySem.W.Frag} {mg : Str → Option Value} {base : Heap} {j k : Nat} {f : Addr} {sp : Sp} (F : FnQ P w K mg base j f sp) (h : j ≤ k) : FnQ P w K mg base k f sp :=
  ⟨fun A fs s H us vs Q E hr => F.go A fs s H us vs Q E (hr.mono h)⟩
theorem FnG.toQ {P : Program} {w : World} {K : PySem.W.Frag} {mg : Str → Option Value} {base : Heap} {k : Nat} {f : Addr} {fd : FuncData} {ps : List Str} {sp : Sp} (F : FnG P w K mg base k f fd ps sp) (bd : Binds K fd ps []) : FnQ P w K mg base k f sp :=
  ⟨fun A fs s H us vs Q E hr hg e0 r h => by
    have KX : K.In s.heap := e0.mod.kin.keeps fun b o e => (e0.bs b o e).1
    have n : (us ++ []).length = ps.length := by rw [List.append_nil, ← r.length]; exact F.len _ _ _ _ h
    have b := bd s us KX n
    rw [List.append_nil] at b
    exact F.go A fs s H ⟨us, []⟩ us vs Q E hr hg e0 b r h⟩
section
variable {X : Cx} {W : WX} {k : Nat} {f : Addr} {fd : FuncData} {ps : List Str} {sp : Sp} {x : Str} {p pos : Pos} {e : Expr} {es : List Expr} {t : TA}
theorem go_fn {pins : List (Addr × Obj)} {σ : St} {H : Hp} {s : Shared} {Q : VK} {us : List Value} {vs : List V} (F : FnQ X.prog X.w X.K X.mg X.base k f sp) (rm : Room k X.A) (gd : X.A.guards = some []) (tk : Takes X W)
    (I : Inv X pins σ H s) (r : Vals vs us) (h : sp vs H Q (WE W σ)) : wpAny (model X.prog X.w) X.A (call (.ref f) us) (EP X pins σ Q) X.xe s := by
  refine wpAny_call (codeAny_mono (F.go X.A X.stack s H us vs Q (WE W σ) rm gd I.env0 r h) fun res s' z => ?_)
  match res, z with
  | .error e, z => exact passAt tk σ pins H s e s' I z
  | .ok (.ret u), z => exact I.after z
theorem pe_callG (F : FnQ X.prog X.w X.K X.mg X.base k f sp) (rm : Room k X.A) (gd : X.A.guards = some []) (tk : Takes X W) (hg : Gl X x) (hm : X.mg x = some (.ref f)) (hk : PySem.W.keepIn X.K (.ref f) = true)
    (ha : PA X (e :: es) t) (hd : (x == ("__debug__" : Str)) = false) (he : starEach (e :: es) X.env = (false, eval e X.env) :: starEach es X.env) (hpl : (backTo pos (starEach es X.env)).any (·.1) = false) :
    PE X (.Call (.Name x p) (e :: es) [] pos) (fun σ H Q => t σ H fun vs H1 => sp vs H1 Q (WE W σ)) :=
  ⟨fun pins s σ H Q I h => wpAny_Call_Name_kw (ld_glob I hg hm (PySem.W.callWith_K (h₀ := X.base) I.ok.mod.kin hk (thn (ha.run pos pins s σ H _ I h) fun us s1 ⟨vs, H1, I1, r, z⟩ => ⟨I1.kIn, go_fn F rm gd tk I1 r z⟩) he hpl) hd)⟩
end
/-- the arguments stand for ms, each its own slot's -/
def ArgR (K : PySem.W.Frag) (w : Wn) (H : Hp) : Nat → List M → List V → Prop
  | _, [], [] => True
  | i, m :: ms, v :: vs => RM K w H (some i) m v ∧ ArgR K w H (i + 1) ms vs
  | _, _, _ => False
theorem ArgR.length {K : PySem.W.Frag} {w : Wn} {H : Hp} : ∀ {i : Nat} {ms : List M} {vs : List V}, ArgR K w H i ms vs → ms.length = vs.length
  | _, [], [], _ => rfl
  | _, _ :: _, _ :: _, h => by rw [List.length_cons, List.length_cons, ArgR.length h.2]
  | _, [], _ :: _, h => h.elim
  | _, _ :: _, [], h => h.elim
theorem ArgR.get {K : PySem.W.Frag} {w : Wn} {H : Hp} : ∀ {i : Nat} {ms : List M} {vs : List V}, ArgR K w H i ms vs → ∀ (j : Nat) (m : M), ms[j]? = some m → ∃ v, vs[j]? = some v ∧ RM K w H (some (i + j)) m v
  | _, [], [], _, _, _, e => by simp at e
  | _, _ :: _, v :: _, h, 0, m, e => by
    have e' := Option.some.inj e
    subst e'
    exact ⟨v, rfl, h.1⟩
  | i, _ :: _, _ :: _, h, j + 1, m, e => by
    obtain ⟨v, h1, h2⟩ := ArgR.get h.2 j m e
    exact ⟨v, h1, by rw [show i + (j + 1) = i + 1 + j by omega]; exact h2⟩
  | _, [], _ :: _, h, _, _, _ => h.elim
  | _, _ :: _, [], h, _, _, _ => h.elim
theorem argR_im {K : PySem.W.Frag} {w : Wn} {H : Hp} : ∀ {i : Nat} {ds : List D} {vs : List V}, RDs K w H ds vs → ArgR K w H i (ds.map .im) vs
  | _, _, _, .nil => True.intro
  | _, _, _, .cons h t => ⟨h, argR_im t⟩
/-- the io parameter behind the call -/
def IoR (K : PySem.W.Frag) (io : Bool) (vs : List V) (w : Wn) (H : Hp) (p : M) : Prop := io = true → ∃ v0, vs.head? = some v0 ∧ RM K w H (some 0) p v0
def spF (K : PySem.W.Frag) (mg : Str → Option Value) (F : Fn) : Sp := fun vs H Q E => ∃ w ms, Wf w H ∧ ms.length = F.np ∧ ArgR K w H 0 ms vs ∧ match F.sem ms with
  | .ok r p => ∀ v H' w', Step H w H' w' → Wf w' H' → RM K w' H' none r v → (∀ a, Owns H' r v a → w a ≠ some none) → IoR K F.io vs w' H' p → Q v H'
  | .ex x p => ∀ cls d H' w', Step H w H' w' → Wf w' H' → IoR K F.io vs w' H' p → XR mg x cls d → E cls d H'
  | .no => False
/-- the caller's own objects as a callee sees them: not its own -/
def zone (w : Wn) : Wn := fun a => match w a with
  | none => none
  | some _ => some none
/-- .. but for those of slot i, which are the callee's first parameter's -/
def zoneBut (w : Wn) (S : Addr → Prop) [DecidablePred S] : Wn := fun a => if S a then some (some 0) else zone w a
section
variable {K : PySem.W.Frag} {w wc wc' : Wn} {H H' : Hp} {Γ : Sl} {σ : St} {r : M} {v : V}
theorem zone_none {a : Addr} : zone w a = none ↔ w a = none := by
  unfold zone
  cases w a <;> simp
theorem zone_k0 : K0 H w H (zone w) := fun a o h n => ⟨h, zone_none.mpr n⟩
theorem zone_wf (h : Wf w H) : Wf (zone w) H := fun a z => h a fun e => z (zone_none.mpr e)
theorem zone_nslot {a : Addr} : ∀ i, zone w a ≠ some (some i) := fun i e => by
  unfold zone at e
  cases q : w a <;> rw [q] at e <;> cases e
/-- the caller's owners behind a call -/
def backW (w wc' : Wn) : Wn := fun a => match w a with
  | some t => some t
  | none => match wc' a with
    | some none => some none
    | _ => none
theorem back_none {a : Addr} (h : w a = none) (h2 : wc' a = none) : backW w wc' a = none := by unfold backW; rw [h]; simp only [h2]
theorem back_zone {a : Addr} (h : w a = none) (h2 : wc' a = some none) : backW w wc' a = some none := by unfold backW; rw [h]; simp only [h2]
theorem back_old {a : Addr} {t : Option Nat} (h : w a = some t) : backW w wc' a = some t := by unfold backW; rw [h]
theorem back_ext (wf : Wf w H) (s : Step H (zone w) H' wc') : Ext H w H' (backW w wc') := fun a o h => by
  obtain ⟨h1, e⟩ := s a o h zone_nslot
  refine ⟨h1, ?_⟩
  cases q : w a with
  | none => exact back_none q (e.trans (zone_none.mpr q))
  | some t => exact back_old q
theorem back_wf (wf : Wf w H) (s : Step H (zone w) H' wc') (wf' : Wf wc' H') : Wf (backW w wc') H' := fun a z => by
  cases q : w a with
  | some t =>
    obtain ⟨o, ho, hn⟩ := wf a (by rw [q]; intro z; cases z)
    exact ⟨o, (s a o ho zone_nslot).1, hn⟩
  | none =>
    refine wf' a fun e => z (back_none q e)
theorem call_po (e : ER K w Γ σ H) (s : Step H (zone w) H' wc') (wf' : Wf wc' H') (rm : RM K wc' H' none r v) (nw : ∀ a, Owns H' r v a → zone w a ≠ some none) : Po K w H Γ σ r v H' (backW w wc') := by
  have wn : ∀ a, zone w a ≠ some none → w a = none := fun a h => by
    cases q : w a with
    | none => rfl
    | some t => exact absurd (by unfold zone; rw [q]) h
  refine ⟨(back_ext e.wf s).step, e.ext (back_ext e.wf s) (back_wf e.wf s wf'), (rm.keep (fun a o h n => ⟨h, ?_⟩) fun a o => ⟨rfl, back_zone (wn a (nw a o)) (rm.owned a o).1⟩).1, fun a o z => ?_⟩
  · cases q : w a with
    | none => exact back_none q n
    | some t =>
      obtain ⟨o', ho⟩ := e.wf.alloc q
      have := (s a o' ho zone_nslot).2
      rw [n] at this
      rw [zone_none.mp this.symm] at q
      cases q
  · rw [wn a (nw a o)] at z; cases z
end
end L2.Gv

set_option Elab.async false
set_option linter.all false
set_option maxRecDepth 100000
set_option maxHeartbeats 2000000
namespace L2.Gv
open PySem PySem.Spec PyProof.Rows L2
/-! ## A call whose first argument is changed in place -/
section
variable {K : PySem.W.Frag} {w wc' : Wn} {H H' : Hp} {Γ : Sl} {σ : St} {r : M} {v : V} {S : Addr → Prop} {a0 : Addr} {tn : Option (Option Nat)}
/-- the callee's owners: S is its first parameter's -/
noncomputable def wIn (w : Wn) (S : Addr → Prop) : Wn := own (zone w) S (some (some 0))
/-- the caller's behind it: a0 is tn's -/
noncomputable def wOut (w wc' : Wn) (S : Addr → Prop) (a0 : Addr) (tn : Option (Option Nat)) : Wn := own (backW (own w S none) wc') (· = a0) tn
theorem in_out {a : Addr} (h : ¬ S a) : wIn w S a = zone w a := own_out h
theorem io_old (s : Step H (wIn w S) H' wc') (h0 : wc' a0 = some (some 0)) {a : Addr} {o : HO} (h : H a = some o) (ns : ¬ S a) : H' a = some o ∧ wc' a = zone w a ∧ a ≠ a0 ∧ wOut w wc' S a0 tn a = w a := by
  obtain ⟨h1, e⟩ := s a o h (by rw [in_out ns]; exact zone_nslot)
  rw [in_out ns] at e
  have ne : a ≠ a0 := fun z => by
    rw [z, h0] at e
    exact zone_nslot 0 e.symm
  refine ⟨h1, e, ne, ?_⟩
  unfold wOut
  rw [own_out (S := (· = a0)) ne]
  cases q : w a with
  | none => exact back_none (by rw [own_out ns]; exact q) (e.trans (zone_none.mpr q))
  | some t => exact back_old (by rw [own_out ns]; exact q)
theorem io_k0 (wf : Wf w H) (s : Step H (wIn w S) H' wc') (h0 : wc' a0 = some (some 0)) : K0 H' wc' H' (wOut w wc' S a0 tn) := fun a o h n => by
  refine ⟨h, ?_⟩
  have ne : a ≠ a0 := fun z => by rw [z, h0] at n; cases n
  unfold wOut
  rw [own_out (S := (· = a0)) ne]
  by_cases hs : S a
  · exact back_none (own_in hs) n
  · cases q : w a with
    | none => exact back_none (by rw [own_out hs]; exact q) n
    | some t =>
      obtain ⟨o', ho⟩ := wf.alloc q
      have e := (io_old (tn := tn) s h0 ho hs).2.1
      rw [n] at e
      rw [zone_none.mp e.symm] at q
      cases q
theorem io_new (h0 : wc' a0 = some (some 0)) {a : Addr} (h : wc' a = some none) (nw : wIn w S a ≠ some none) : wOut w wc' S a0 tn a = some none := by
  have ne : a ≠ a0 := fun z => by rw [z, h0] at h; cases h
  unfold wOut
  rw [own_out (S := (· = a0)) ne]
  by_cases hs : S a
  · exact back_zone (own_in hs) h
  · rw [in_out hs] at nw
    cases q : w a with
    | none => exact back_zone (by rw [own_out hs]; exact q) h
    | some t => exact absurd (by unfold zone; rw [q]) nw
theorem io_wf (wf : Wf w H) (s : Step H (wIn w S) H' wc') (wf' : Wf wc' H') (h0 : wc' a0 = some (some 0)) : Wf (wOut w wc' S a0 tn) H' := fun a z => by
  by_cases ne : a = a0
  · rw [ne]; exact wf' a0 (by rw [h0]; intro z; cases z)
  · by_cases hs : S a
    · refine wf' a fun e => z ?_
      unfold wOut
      rw [own_out (S := (· = a0)) ne]
      exact back_none (own_in hs) e
    · cases q : w a with
      | some t =>
        obtain ⟨o, ho, hn⟩ := wf a (by rw [q]; intro z; cases z)
        exact ⟨o, (io_old (tn := tn) s h0 ho hs).1, hn⟩
      | none =>
        refine wf' a fun e => z ?_
        unfold wOut
        rw [own_out (S := (· = a0)) ne]
        exact back_none (by rw [own_out hs]; exact q) e
theorem in_k0 (hS : ∀ a, S a → w a ≠ none) : K0 H w H (wIn w S) := fun a o h n => ⟨h, by
  rw [in_out (fun z => hS a z n)]
  exact zone_none.mpr n⟩
theorem in_wf (wf : Wf w H) (hS : ∀ a, S a → w a ≠ none) : Wf (wIn w S) H := fun a z => by
  by_cases hs : S a
  · exact wf a (hS a hs)
  · rw [in_out hs] at z
    exact zone_wf wf a z
theorem io_rm (wf : Wf w H) (s : Step H (wIn w S) H' wc') (h0 : wc' a0 = some (some 0)) (rm : RM K wc' H' none r v) (nw : ∀ a, Owns H' r v a → wIn w S a ≠ some none) : RM K (wOut w wc' S a0 tn) H' none r v :=
  (rm.keep (io_k0 wf s h0) fun a o => ⟨rfl, io_new h0 (rm.owned a o).1 (nw a o)⟩).1
/-- the first argument in slot i -/
theorem io_slot {i : Nat} {xs ys : List D} (e : ER K w Γ σ H) (hi : Γ[i]? = some (some (.ml xs))) (hv : σ[i]? = some (some (.ref a0))) (s : Step H (wIn w (fun a => w a = some (some i))) H' wc') (wf' : Wf wc' H') (io : RM K wc' H' (some 0) (.ml ys) (.ref a0)) :
    ER K (wOut w wc' (fun a => w a = some (some i)) a0 (some (some i))) (Γ.set i (some (.ml ys))) σ H' ∧ Step H w H' (wOut w wc' (fun a => w a = some (some i)) a0 (some (some i))) := by
  have h0 : wc' a0 = some (some 0) := (io.owned a0 rfl).1
  refine ⟨⟨by rw [List.length_set]; exact e.len, io_wf e.wf s wf' h0, fun j m q => ?_⟩, fun a o h n => ?_⟩
  · rcases getElem?_set_opt q with ⟨rfl, q2⟩ | ⟨ne, q2⟩
    · have q' : M.ml ys = m := (Option.some.inj q2).symm
      subst q'
      exact ⟨.ref a0, hv, (io.keep (io_k0 e.wf s h0) fun a o => ⟨rfl, by
        have o' : V.ref a0 = V.ref a := o
        cases o'
        exact own_in rfl⟩).1⟩
    · obtain ⟨u, h1, h2⟩ := e.at_ j m q2
      refine ⟨u, h1, (h2.keep (fun a o h n => ?_) fun a o => ?_).1⟩
      · have r := io_old (tn := some (some i)) s h0 h (fun z => by rw [n] at z; cases z)
        exact ⟨r.1, r.2.2.2.trans n⟩
      · obtain ⟨t1, o1, ho⟩ := h2.owned a o
        have r := io_old (tn := some (some i)) s h0 ho (fun z => by rw [t1] at z; cases z; exact ne rfl)
        exact ⟨r.1.trans ho.symm, r.2.2.2.trans t1⟩
  · have r := io_old (tn := some (some i)) s h0 h (n i)
    exact ⟨r.1, r.2.2.2⟩
/-- the first argument a temporary that is new since (H1, w1) -/
theorem io_temp {w1 : Wn} {H1 : Hp} {ys : List D} (s1 : Step H1 w1 H w) (n1 : w1 a0 ≠ some none) (hz : w a0 = some none) (e : ER K w Γ σ H) (s : Step H (wIn w (· = a0)) H' wc') (wf' : Wf wc' H') (io : RM K wc' H' (some 0) (.ml ys) (.ref a0)) :
    ER K (wOut w wc' (· = a0) a0 none) Γ σ H' ∧ Step H1 w1 H' (wOut w wc' (· = a0) a0 none) := by
  have h0 : wc' a0 = some (some 0) := (io.owned a0 rfl).1
  refine ⟨⟨e.len, io_wf e.wf s wf' h0, fun j m q => ?_⟩, fun a o h n => ?_⟩
  · obtain ⟨u, h1, h2⟩ := e.at_ j m q
    refine ⟨u, h1, (h2.keep (fun a o h n => ?_) fun a o => ?_).1⟩
    · have r := io_old (S := (· = a0)) (tn := none) s h0 h (fun z => by rw [show a = a0 from z, hz] at n; cases n)
      exact ⟨r.1, r.2.2.2.trans n⟩
    · obtain ⟨t1, o1, ho⟩ := h2.owned a o
      have r := io_old (S := (· = a0)) (tn := none) s h0 ho (fun z => by rw [show a = a0 from z, hz] at t1; cases t1)
      exact ⟨r.1.trans ho.symm, r.2.2.2.trans t1⟩
  · obtain ⟨h2, e2⟩ := s1 a o h n
    have r := io_old (S := (· = a0)) (tn := none) s h0 h2 (fun z => by
      rw [show a = a0 from z, hz] at e2
      exact n1 e2.symm)
    exact ⟨r.1, r.2.2.2.trans e2⟩
end
end L2.Gv

set_option Elab.async false
set_option linter.all false
set_option maxRecDepth 100000
set_option maxHeartbeats 2000000
namespace L2.Gv
open PySem PySem.Spec PyProof.Rows L2
open PySem.AutoSeq1 (wpAny_loadPart')
/-! ## enumerate of a tuple -/
theorem enumT_meets (t : Addr) (its : Array Value) (c : Nat) (dd : Option Addr) (sls : Array (Option Value)) :
    Meets (Builtin.«enumerate.__new__» ⟨[.type "enumerate", .ref t], []⟩) (fun _ R s => s.heap.get? t = some { cls := .type "tuple", dict := dd, data := .seq its c, slots := sls } ∧
      R (.ok (.ret (.ref (s.heap.push { cls := .type "tuple_iterator", data := .fields #[.ref t, .int 0 0] }).objs.size)))
        { s with heap := (s.heap.push { cls := .type "tuple_iterator", data := .fields #[.ref t, .int 0 0] }).push { cls := .type "enumerate", data := .fields #[.none, .bool false, .ref s.heap.objs.size, rawInt 0, .none, .none] } }) :=
  .of_wp fun prog w A R s h => by
    obtain ⟨hp, g, d, tk, os⟩ := s
    obtain ⟨hl, h⟩ := h
    have hsub := sub_enumerate
    have hT : Heap.IsTuple (Shared.heap ⟨hp, g, d, tk, os⟩) t its := ⟨_, hl, rfl, c, rfl⟩
    wp_walk using wpAny_loadPart' hl
    refine wpAny_stack_any fun st => wpAny_pure ?_
    split
    · rename_i cc _ _ _ _ _
      cases (cc == Value.type "enumerate") <;> (wp_walk using wpAny_loadPart' hl, wpAny_pyIter_tuple hT; exact ⟨_, rfl, h⟩)
    · wp_walk using wpAny_loadPart' hl, wpAny_pyIter_tuple hT
      exact ⟨_, rfl, h⟩
section
variable {prog : Program} {w : World} {A : Around} {E : Value → Shared → Prop} {s : Shared}
theorem enumT_call {t : Addr} {its : Array Value} {Q : Value → Shared → Prop} (hL : s.heap.IsTuple t its)
    (h : ∀ h', IsEnum h' (s.heap.objs.size + 1) s.heap.objs.size 0 .none → h'.IsTupleIter s.heap.objs.size t 0 → (∀ b o, s.heap.get? b = some o → h'.get? b = some o) → Q (.ref (s.heap.objs.size + 1)) { s with heap := h' }) :
    wpAny (model prog w) A (call (.type "enumerate") [.ref t]) Q E s := by
  obtain ⟨⟨cl, dd, dt, sls⟩, hl, e1, c, e2⟩ := hL
  have e1' : cl = .type "tuple" := e1
  have e2' : dt = .seq its c := e2
  subst e1' e2'
  refine callType_new F.called_enumerate (by decide) (F.typeCall_enumerate_1 _) (F.newCall_enumerate_1 _) (fun obj => F.args_object_init_2 obj _) F.entry_enumerate_new (enumT_meets t its c dd sls) ⟨hl, ?_⟩
  have sz : (s.heap.push { cls := .type "tuple_iterator", data := .fields #[.ref t, .int 0 0] }).objs.size = s.heap.objs.size + 1 := Heap.size_push ..
  show _ ∧ _
  rw [sz]
  have new : IsEnum ((s.heap.push { cls := .type "tuple_iterator", data := .fields #[.ref t, .int 0 0] }).push { cls := .type "enumerate", data := .fields #[.none, .bool false, .ref s.heap.objs.size, rawInt 0, .none, .none] }) (s.heap.objs.size + 1) s.heap.objs.size 0 .none := by
    have z := Heap.get?_push_size (s.heap.push { cls := .type "tuple_iterator", data := .fields #[.ref t, .int 0 0] }) (o := { cls := .type "enumerate", data := .fields #[.none, .bool false, .ref s.heap.objs.size, rawInt 0, .none, .none] }) rfl
    rw [sz] at z
    exact z
  exact ⟨⟨_, new, rfl⟩, h _ new ⟨_, Heap.get?_push_of_some _ (Heap.get?_push_size _ rfl), rfl, rfl⟩ fun b o x => Heap.get?_push_of_some _ (Heap.get?_push_of_some _ x)⟩
end
/-- the tuple at a, each item in a new pair -/
def IteT (K : PySem.W.Frag) (a : Addr) : L2.It :=
  ⟨fun i H => ∃ (xs : List V) (x : V), SqT K H a xs ∧ xs[i]? = some x, fun i H v H' => ∃ T x, v = .ref T ∧ H T = none ∧ H' = upd H T (.tup [.int (i : Nat), x]) ∧ ∀ xs, SqT K H a xs → xs[i]? = some x, fun i H => ∃ xs : List V, SqT K H a xs ∧ xs.length ≤ i⟩
theorem turn_enumT {P : Program} {w : World} {K : PySem.W.Frag} {elts : List Expr} {kk : Nat} {tpos : Pos} (a e it : Addr) :
    Turn P w K (.Tuple elts kk tpos) (IteT K a) [e, it] e (fun i h => (∃ old, IsEnum h e it ((i : Nat) : Int) old) ∧ h.IsTupleIter it a i ∧ e ≠ it ∧ a ≠ it ∧ a ≠ e) where
  mem := by simp
  obj := fun i h st b hb => by
    obtain ⟨⟨old, he⟩, ⟨o, ho, hc, hd⟩, _⟩ := st
    have q : b = e ∨ b = it := by simpa using hb
    rcases q with rfl | rfl
    · exact ⟨_, he, fun v q => nomatch q⟩
    · exact ⟨o, ho, fun v q => by rw [hd] at q; cases q⟩
  keep := fun i h h' st k => by
    obtain ⟨⟨old, he⟩, hi, hne⟩ := st
    exact ⟨⟨old, k e (by simp) _ he⟩, hi.at fun o q => k it (by simp) o q, hne⟩
  item := by
    intro X hP hw hK hc i pins s σ H E I hf st hg
    subst hP hw hK
    obtain ⟨⟨old, he⟩, hit, hne, hai, hae⟩ := st
    obtain ⟨xs, x, hq, hx⟩ := hg
    obtain ⟨its, rv, p, hz⟩ := I.tuple hq
    obtain ⟨u, hu, ru⟩ := rv.get hx
    have hel : e < s.heap.objs.size := Heap.lt_size he
    have hil : it < s.heap.objs.size := by obtain ⟨_, q, _⟩ := hit; exact Heap.lt_size q
    have hlt : i < its.toArray.size := by
      have := (List.getElem?_eq_some_iff.mp hu).1
      simpa using this
    have D := Draws.tuple (prog := X.prog) (w := X.w) (A := X.A.in1) (I.ok.hd hc) it a hai its.toArray
    refine wpAny_pyNext_enum_itemD D he ⟨hit, p⟩ hlt hne (by simp only [List.mem_cons, List.not_mem_nil, or_false, not_or]; exact ⟨hne, Ne.symm hae⟩) fun y h' tk hy ho st' hT hsz hk => ?_
    have ey : y = u := by
      have : its.toArray[i]? = some y := hy
      simp only [List.getElem?_toArray] at this
      rw [hu] at this
      exact (Option.some.inj this).symm
    subst ey
    refine ⟨_, rfl, wpAny_letOwnedTupleGo_enum (s := { s with heap := h', toks := tk + 1 }) ho fun h'' he' sb => ?_⟩
    have hT2 : h''.get? s.heap.objs.size = some { cls := .type "tuple", data := .seq #[.int i tk, y] } := (sb.2 _ (Nat.ne_of_gt hel)).trans hT
    have new : ObjOk X.prog X.w (upd H s.heap.objs.size (.tup [.int (i : Nat), x])) h'' s.heap.objs.size (.tup [.int (i : Nat), x]) :=
      ⟨by show 2 ≤ sizeLine; decide, [.int i tk, y], .cons ⟨_, rfl⟩ (.cons ru .nil), ⟨_, hT2, rfl, _, rfl⟩⟩
    have I1 : Inv X pins σ (upd H s.heap.objs.size (.tup [.int (i : Nat), x])) { s with heap := h'', toks := tk + 1 } :=
      I.turnedNew (ch := [e, it]) (fun b ob hb q => (sb.2 b (fun z => hb (by simp [z]))).trans (hk b ob (fun z => hb (by simp [z])) (fun z => hb (by simp [z])) q)) hf (Nat.le_refl _) new
    refine ⟨.ref s.heap.objs.size, _, I1, rfl, ⟨_, x, rfl, I.hok.fresh (Nat.le_refl _), rfl, fun ys hy => by rw [I.tuple_inj hy hq]; exact hx⟩, ⟨⟨y, ?_⟩, st'.1.at fun o q => (sb.2 it (Ne.symm hne)).trans q, hne, hai, hae⟩, fun b hb => ?_⟩
    · rw [show ((i + 1 : Nat) : Int) = (i : Int) + 1 by omega]; exact he'
    · have q : b = e ∨ b = it := by simpa using hb
      have hb' : b < s.heap.objs.size := by rcases q with rfl | rfl; exact hel; exact hil
      rw [upd_ne (Nat.ne_of_lt hb')]
      exact (hf b hb).1
  done := by
    intro X hP hw hK hc i pins s σ H E I hf st hg
    subst hP hw hK
    obtain ⟨⟨old, he⟩, hit, hne, hai, hae⟩ := st
    obtain ⟨xs, hq, hx⟩ := hg
    obtain ⟨its, rv, p, hz⟩ := I.tuple hq
    obtain ⟨f0, f1, f2, f3, f4, f5⟩ := hf it (by simp)
    have hl := rv.length
    have hx : its.toArray[i]? = none := by simp; omega
    have ty : s.TypeIs (.ref e) "enumerate" := ⟨_, he, rfl⟩
    unfold pyNext
    refine wpAny_bind (wpAny_attempt (wpAny_callSpecial?_slot (name := Str.ofString "__next__") ty F.slot_enumerate_next (wpAny_call_entry F.slot_enumerate_next ty F.entry_enumerate_next ?_ (F.args_enumerate_next_1 _))))
    show wpAny _ _ (field (.ref e) 2 >>= _) _ _ _
    refine wpAny_bind (wpAny_field he rfl (x := .ref it) rfl (wpAny_bind (wpAny_nextOf_tuple_end (I.ok.hd hc) hit p hx fun h' z eb hz' => ?_)))
    obtain ⟨o, ho, hcl⟩ := hz'
    exact wpAny_bind (wpAny_isInstance (T := "StopIteration") (b := true) ⟨o, ho, hcl⟩ isSubtype_stop (wpAny_pure ⟨rfl, I.turned (t' := s.toks) (fun b o hb q => eb b o hb q) f0 f1 f3 f4 f5⟩))
  self := fun A i s Q E st h => let ⟨⟨_, he⟩, _⟩ := st; wpAny_pyIter_enum he h
/-- enumerate of a list or of a tuple -/
def iEnumA (K : PySem.W.Frag) (ta : TA) : TI := fun σ H R => ta σ H fun vs H1 => ∃ a xs, vs = [.ref a] ∧ ((SqL K H1 a xs ∧ R (Ite K a) H1) ∨ (SqT K H1 a xs ∧ R (IteT K a) H1))
theorem pi_enumA {X : Cx} {e : Expr} {ta : TA} {p pos tpos : Pos} {elts : List Expr} {kk : Nat} (hg : Gl X "enumerate") (hm : X.mg "enumerate" = none) (ha : PA X [e] ta) (hs : starEach [e] X.env = [(false, eval e X.env)]) :
    PI X (.Tuple elts kk tpos) (.Call (.Name "enumerate" p) [e] [] pos) (iEnumA X.K ta) := by
  refine ⟨fun pins s σ H R I h => ?_⟩
  refine Call_ (ld_blt I hg hm boot_enumerate (PyProof.Rows.callWith_type1 (thn (ha.run pos pins s σ H _ I h) fun us s1 ⟨vs, H1, I1, r1, q1⟩ => ?_) hs rfl))
  obtain ⟨a, xs, ex, hq⟩ := q1
  subst ex
  rw [Vals.ref1' r1]
  have new : ∀ {b : Addr}, b ∈ [s1.heap.objs.size + 1, s1.heap.objs.size] → s1.heap.objs.size ≤ b := fun {b} hb => by
    have q : b = s1.heap.objs.size + 1 ∨ b = s1.heap.objs.size := by simpa using hb
    rcases q with z | z <;> rw [z]
    · exact Nat.le_add_right _ _
    · exact Nat.le_refl _
  rcases hq with ⟨hq, q⟩ | ⟨hq, q⟩
  · obtain ⟨its, rv, p', hz⟩ := I1.list hq
    refine call_enumerate_list p'.isList fun h' he hit hsz hk => wpAny_pyIter_enum he ?_
    exact ⟨s1.heap.objs.size + 1, [s1.heap.objs.size + 1, s1.heap.objs.size], _, _, H1, rfl, I1.kept (t' := s1.toks) hk, turn_enum a (s1.heap.objs.size + 1) s1.heap.objs.size, ⟨⟨.none, he⟩, hit, Nat.succ_ne_self _⟩, fun b hb => I1.fpOk (new hb) (I1.hok.fresh (new hb)), q⟩
  · obtain ⟨its, rv, p', hz⟩ := I1.tuple hq
    have hlt : a < s1.heap.objs.size := p'.lt
    refine enumT_call p' fun h' he hit hk => wpAny_pyIter_enum he ?_
    exact ⟨s1.heap.objs.size + 1, [s1.heap.objs.size + 1, s1.heap.objs.size], _, _, H1, rfl, I1.kept (t' := s1.toks) hk, turn_enumT a (s1.heap.objs.size + 1) s1.heap.objs.size, ⟨⟨.none, he⟩, hit, Nat.succ_ne_self _, Nat.ne_of_lt hlt, Nat.ne_of_lt (Nat.lt_succ_of_lt hlt)⟩, fun b hb => I1.fpOk (new hb) (I1.hok.fresh (new hb)), q⟩
theorem walk_enumT {K : PySem.W.Frag} {a : Addr} {xs : List V} : Walk (IteT K a) xs.length (fun H => SqT K H a xs) (YPair (fun i => some (.int (i : Nat))) (fun i => xs[i]?)) := by
  refine ⟨fun i _ hi q => ⟨xs, xs[i], q, by simp [hi]⟩, fun _ q => ⟨xs, q, Nat.le_refl _⟩, fun i H v H' _ q y => ?_⟩
  obtain ⟨T, x, h1, h2, h3, h4⟩ := y
  exact ⟨T, .int (i : Nat), x, h1, h2, h3, rfl, h4 xs q⟩
theorem walk_zipT {K : PySem.W.Frag} {a b : Addr} {xs ys : List V} : Walk (RZ.ItzT K a b) (min xs.length ys.length) (fun H => SqT K H a xs ∧ SqT K H b ys) (YPair (fun i => xs[i]?) (fun i => ys[i]?)) := by
  refine ⟨fun i _ hi q => ?_, fun _ q => ⟨xs, ys, q.1, q.2, by omega⟩, fun i H v H' _ q y => ?_⟩
  · have h1 : i < xs.length := by omega
    have h2 : i < ys.length := by omega
    exact ⟨xs, ys, xs[i], ys[i], q.1, q.2, by simp [h1], by simp [h2]⟩
  · obtain ⟨T, x, z, h1, h2, h3, h4, h5⟩ := y
    exact ⟨T, x, z, h1, h2, h3, h4 xs q.1, h5 ys q.2⟩

/-! ## What a loop walks, as data -/
/-- a pair that a loop's step makes: it is taken apart at once -/
def RP (K : PySem.W.Frag) (w : Wn) (H : Hp) (d : D) (v : V) : Prop := ∃ a x y d1 d2, v = .ref a ∧ d = .tuple [d1, d2] ∧ H a = some (.tup [x, y]) ∧ RD K w H d1 x ∧ RD K w H d2 y
/-- what a loop's step gives: b, to a target that takes it apart -/
def RW (K : PySem.W.Frag) (w : Wn) (H : Hp) (b : Bool) (d : D) (v : V) : Prop := RD K w H d v ∨ (b = true ∧ RP K w H d v)
/-- J yields the data ds, one by one, wherever (H, w) has gone by steps -/
structure WD (K : PySem.W.Frag) (w : Wn) (H : Hp) (b : Bool) (J : L2.It) (ds : List D) : Prop where
  len : ds.length ≤ sizeLine
  w : ∃ (G : Hp → Prop) (Y : Nat → Hp → V → Hp → Prop), Walk J ds.length G Y ∧ (∀ H' w', K0 H w H' w' → G H') ∧
    ∀ (i : Nat) (H' : Hp) (w' : Wn) (x : V) (H2 : Hp), i < ds.length → K0 H w H' w' → Wf w' H' → Y i H' x H2 → ∃ d, ds[i]? = some d ∧ Ext H' w' H2 w' ∧ Wf w' H2 ∧ RW K w' H2 b d x
section
variable {K : PySem.W.Frag} {w : Wn} {H : Hp} {tp : Bool} {a b : Addr} {xs ys : List V} {ds es : List D}
theorem k0_sqL {H' : Hp} {w' : Wn} (s : K0 H w H' w') (h : H a = some (.lst xs)) (n : w a = none) : SqL K H' a xs := SqL.of (s a _ h n).1
theorem k0_sqT {H' : Hp} {w' : Wn} (s : K0 H w H' w') (h : TupH H a xs) (n : w a = none) : SqT K H' a xs := (s.tt h n).1.sq
theorem wd_list (h : H a = some (.lst xs)) (n : w a = none) (z : xs.length ≤ sizeLine) (r : RDs K w H ds xs) : WD K w H tp (Itl K a) ds := by
  refine ⟨by rw [r.length]; exact z, _, _, by rw [r.length]; exact walk_list (xs := xs), fun H' w' s => k0_sqL s h n, fun i H' w' x H2 hi s wf y => ?_⟩
  obtain ⟨rfl, y⟩ := y
  obtain ⟨d, h1, h2⟩ := r.getV i x y
  exact ⟨d, h1, Ext.refl, wf, .inl (h2.mono s)⟩
theorem wd_tup (h : TupH H a xs) (n : w a = none) (z : xs.length ≤ sizeLine) (r : RDs K w H ds xs) : WD K w H tp (Itt K a) ds := by
  refine ⟨by rw [r.length]; exact z, _, _, by rw [r.length]; exact walk_tup (xs := xs), fun H' w' s => k0_sqT s h n, fun i H' w' x H2 hi s wf y => ?_⟩
  obtain ⟨rfl, y⟩ := y
  obtain ⟨d, h1, h2⟩ := r.getV i x y
  exact ⟨d, h1, Ext.refl, wf, .inl (h2.mono s)⟩
theorem rangeD_len (i j : Int) : (rangeD i j).length = (j - i).toNat := by unfold rangeD; rw [List.length_map, List.length_range]
theorem wd_range (i j : Int) (z : (j - i).toNat ≤ sizeLine) : WD K w H tp (Itr i (j - i).toNat) (rangeD i j) := by
  refine ⟨by rw [rangeD_len]; exact z, _, _, by rw [rangeD_len]; exact walk_range, fun _ _ _ => trivial, fun k H' w' x H2 hk s wf y => ?_⟩
  obtain ⟨rfl, rfl⟩ := y
  rw [rangeD_len] at hk
  refine ⟨.int (i + (k : Nat)), ?_, Ext.refl, wf, .inl (.int _)⟩
  unfold rangeD
  rw [List.getElem?_map, List.getElem?_range hk]
  rfl
theorem pair_new {x y : V} {d e : D} {T : Addr} {H' : Hp} {w' : Wn} (wf : Wf w' H') (hT : H' T = none) (h1 : RD K w' H' d x) (h2 : RD K w' H' e y) : Ext H' w' (upd H' T (.tup [x, y])) w' ∧ Wf w' (upd H' T (.tup [x, y])) ∧ RW K w' (upd H' T (.tup [x, y])) true (.tuple [d, e]) (.ref T) :=
  ⟨ext_upd hT, wf_upd wf hT, .inr ⟨rfl, T, x, y, d, e, rfl, rfl, upd_same, h1.mono (ext_upd hT).step.k0, h2.mono (ext_upd hT).step.k0⟩⟩
theorem enumFrom_len : ∀ (k : Nat) (ds : List D), (enumFrom k ds).length = ds.length
  | _, [] => rfl
  | k, _ :: ds => by rw [enumFrom, List.length_cons, List.length_cons, enumFrom_len (k + 1) ds]
theorem enumFrom_get : ∀ (k : Nat) (ds : List D) (i : Nat) (d : D), ds[i]? = some d → (enumFrom k ds)[i]? = some (.tuple [.int ((k + i : Nat) : Int), d])
  | _, [], _, _, e => by simp at e
  | k, _ :: ds, 0, d, e => by
    have e' := Option.some.inj e
    subst e'
    rfl
  | k, _ :: ds, i + 1, d, e => by
    have := enumFrom_get (k + 1) ds i d e
    rw [enumFrom, List.getElem?_cons_succ, this, show k + 1 + i = k + (i + 1) by omega]
theorem wd_enumL (h : H a = some (.lst xs)) (n : w a = none) (z : xs.length ≤ sizeLine) (r : RDs K w H ds xs) : WD K w H true (Ite K a) (enumFrom 0 ds) := by
  refine ⟨by rw [enumFrom_len, r.length]; exact z, _, _, by rw [enumFrom_len, r.length]; exact walk_enum (xs := xs), fun H' w' s => k0_sqL s h n, fun i H' w' x H2 hi s wf y => ?_⟩
  obtain ⟨T, x1, x2, rfl, hT, rfl, y1, y2⟩ := y
  cases y1
  obtain ⟨d, h1, h2⟩ := r.getV i x2 y2
  obtain ⟨g1, g2, g3⟩ := pair_new (K := K) wf hT (.int ((i : Nat) : Int)) (h2.mono s)
  exact ⟨_, by rw [enumFrom_get 0 ds i d h1, Nat.zero_add], g1, g2, g3⟩
theorem wd_enumT (h : TupH H a xs) (n : w a = none) (z : xs.length ≤ sizeLine) (r : RDs K w H ds xs) : WD K w H true (IteT K a) (enumFrom 0 ds) := by
  refine ⟨by rw [enumFrom_len, r.length]; exact z, _, _, by rw [enumFrom_len, r.length]; exact walk_enumT (xs := xs), fun H' w' s => k0_sqT s h n, fun i H' w' x H2 hi s wf y => ?_⟩
  obtain ⟨T, x1, x2, rfl, hT, rfl, y1, y2⟩ := y
  cases y1
  obtain ⟨d, h1, h2⟩ := r.getV i x2 y2
  obtain ⟨g1, g2, g3⟩ := pair_new (K := K) wf hT (.int ((i : Nat) : Int)) (h2.mono s)
  exact ⟨_, by rw [enumFrom_get 0 ds i d h1, Nat.zero_add], g1, g2, g3⟩
theorem zipD_len : ∀ ds es : List D, (zipD ds es).length = min ds.length es.length
  | [], es => by rw [zipD]; simp; intro _ _ _ _ h; cases h
  | d :: ds, [] => by rw [zipD]; simp; intro _ _ _ _ _ h; cases h
  | d :: ds, e :: es => by
    rw [zipD, List.length_cons, List.length_cons, List.length_cons, zipD_len ds es]
    omega
theorem zipD_get : ∀ (ds es : List D) (i : Nat) (d e : D), ds[i]? = some d → es[i]? = some e → (zipD ds es)[i]? = some (.tuple [d, e])
  | [], _, _, _, _, h, _ => by simp at h
  | _ :: _, [], _, _, _, _, h => by simp at h
  | _ :: _, _ :: _, 0, _, _, h, h2 => by
    cases Option.some.inj h
    cases Option.some.inj h2
    rfl
  | _ :: ds, _ :: es, i + 1, d, e, h, h2 => by
    rw [zipD, List.getElem?_cons_succ]
    exact zipD_get ds es i d e h h2
theorem wd_zipL (h : H a = some (.lst xs)) (n : w a = none) (z : xs.length ≤ sizeLine) (r : RDs K w H ds xs) (h2 : H b = some (.lst ys)) (n2 : w b = none) (r2 : RDs K w H es ys) : WD K w H true (Itz K a b) (zipD ds es) := by
  refine ⟨by rw [zipD_len, r.length]; omega, fun H => SqL K H a xs ∧ SqL K H b ys, _, by rw [zipD_len, r.length, r2.length]; exact walk_zip (xs := xs) (ys := ys) rfl, fun H' w' s => ⟨k0_sqL s h n, k0_sqL s h2 n2⟩, fun i H' w' x H2 hi s wf y => ?_⟩
  obtain ⟨T, x1, x2, rfl, hT, rfl, y1, y2⟩ := y
  obtain ⟨d, p1, p2⟩ := r.getV i x1 y1
  obtain ⟨e, q1, q2⟩ := r2.getV i x2 y2
  obtain ⟨g1, g2, g3⟩ := pair_new (K := K) wf hT (p2.mono s) (q2.mono s)
  exact ⟨_, zipD_get ds es i d e p1 q1, g1, g2, g3⟩
theorem wd_zipT (h : TupH H a xs) (n : w a = none) (z : xs.length ≤ sizeLine) (r : RDs K w H ds xs) (h2 : TupH H b ys) (n2 : w b = none) (r2 : RDs K w H es ys) : WD K w H true (RZ.ItzT K a b) (zipD ds es) := by
  refine ⟨by rw [zipD_len, r.length]; omega, fun H => SqT K H a xs ∧ SqT K H b ys, _, by rw [zipD_len, r.length, r2.length]; exact walk_zipT (xs := xs) (ys := ys), fun H' w' s => ⟨k0_sqT s h n, k0_sqT s h2 n2⟩, fun i H' w' x H2 hi s wf y => ?_⟩
  obtain ⟨T, x1, x2, rfl, hT, rfl, y1, y2⟩ := y
  obtain ⟨d, p1, p2⟩ := r.getV i x1 y1
  obtain ⟨e, q1, q2⟩ := r2.getV i x2 y2
  obtain ⟨g1, g2, g3⟩ := pair_new (K := K) wf hT (p2.mono s) (q2.mono s)
  exact ⟨_, zipD_get ds es i d e p1 q1, g1, g2, g3⟩
/-! dicts -/
theorem dKL_get : ∀ {ks : List Int} {vs : List V} {i : Nat} {p : Key × V}, (dKL ks vs)[i]? = some p → ∃ k, ks[i]? = some k ∧ p.1 = Sum.inl k ∧ vs[i]? = some p.2
  | [], _, _, _, e => by simp [dKL] at e
  | _ :: _, [], _, _, e => by simp [dKL] at e
  | k :: ks, v :: vs, 0, p, e => by
    have : p = (Sum.inl k, v) := (Option.some.inj e).symm
    subst this
    exact ⟨k, rfl, rfl, rfl⟩
  | k :: ks, v :: vs, i + 1, p, e => dKL_get (ks := ks) (vs := vs) (i := i) e
theorem dKL_len {ks : List Int} {vs : List V} (h : ks.length = vs.length) : (dKL ks vs).length = ks.length := by unfold dKL; rw [List.length_map, List.length_zip, h, Nat.min_self]
theorem k0_frz {H' : Hp} {w' : Wn} {o : Obj} {u : HO} (s : K0 H w H' w') (h : H a = some (.frz o u)) (n : w a = none) : H' a = some (.frz o u) := (s a _ h n).1
theorem wd_items {o : Obj} {kvs : List (Int × D)} (h : H a = some (.frz o (.dK (dKL (kvs.map Prod.fst) xs)))) (n : w a = none) (z : kvs.length ≤ sizeLine) (r : RDs K w H (kvs.map Prod.snd) xs) : WD K w H true (Iti a o (dKL (kvs.map Prod.fst) xs)) (kvs.map pairD) := by
  have hl : (kvs.map Prod.fst).length = xs.length := by have := r.length; rw [List.length_map] at this ⊢; exact this
  have hL := dKL_len hl
  rw [List.length_map] at hL
  refine ⟨by rw [List.length_map]; exact z, _, _, by rw [List.length_map, ← hL]; exact walk_items, fun H' w' s => k0_frz s h n, fun i H' w' x H2 hi s wf y => ?_⟩
  obtain ⟨T, x1, x2, rfl, hT, rfl, y1, y2⟩ := y
  dsimp only at y1 y2
  cases hp : (dKL (kvs.map Prod.fst) xs)[i]? with
  | none => rw [hp] at y1; cases y1
  | some p =>
    rw [hp] at y1 y2
    cases y1
    cases y2
    obtain ⟨kk, q1, q2, q3⟩ := dKL_get hp
    obtain ⟨d, h1, h2⟩ := r.getV i p.2 q3
    obtain ⟨p1, p2⟩ := p
    dsimp only at q2 q3 h2 ⊢
    subst q2
    obtain ⟨g1, g2, g3⟩ := pair_new (K := K) wf hT (.int kk) (h2.mono s)
    refine ⟨_, ?_, g1, g2, g3⟩
    rw [List.getElem?_map] at q1 h1 ⊢
    cases hk : kvs[i]? with
    | none => rw [hk] at q1; cases q1
    | some e =>
      rw [hk] at q1 h1
      cases q1
      cases h1
      rfl
theorem wd_vals {o : Obj} {kvs : List (Int × D)} (h : H a = some (.frz o (.dK (dKL (kvs.map Prod.fst) xs)))) (n : w a = none) (z : kvs.length ≤ sizeLine) (r : RDs K w H (kvs.map Prod.snd) xs) : WD K w H tp (Itd a o (dKL (kvs.map Prod.fst) xs)) (kvs.map Prod.snd) := by
  have hl : (kvs.map Prod.fst).length = xs.length := by have := r.length; rw [List.length_map] at this ⊢; exact this
  have hL := dKL_len hl
  rw [List.length_map] at hL
  refine ⟨by rw [List.length_map]; exact z, _, _, by rw [List.length_map, ← hL]; exact walk_values, fun H' w' s => k0_frz s h n, fun i H' w' x H2 hi s wf y => ?_⟩
  obtain ⟨rfl, kk, y⟩ := y
  obtain ⟨_, q1, q2, q3⟩ := dKL_get y
  obtain ⟨d, h1, h2⟩ := r.getV i x q3
  exact ⟨d, h1, Ext.refl, wf, .inl (h2.mono s)⟩
end
end L2.Gv

set_option Elab.async false
set_option linter.all false
set_option maxRecDepth 100000
set_option maxHeartbeats 2000000
namespace HT
open PySem PySem.Spec PyProof.Rows L2
section
variable {prog : Program} {w : World} {A : Around} {E : Value → Shared → Prop} {s : Shared}
/-- t[::2] of three -/
theorem getItem_tuple_two {t sl : Addr} {x y z c : Value} {Q : Value → Shared → Prop} (ht : IsTup s.heap t #[x, y, z]) (hs : s.heap.IsSliceOf sl .none .none c) (pc : IsPart c (some 2))
    (h : Q (.ref s.heap.objs.size) { s with heap := s.heap.push { cls := .type "tuple", data := .seq #[x, z] } }) : wpAny (model prog w) A (getItem (.ref t) (.ref sl)) Q E s := by
  have hsz : sizeOk (.seq #[x, z]) := by
    show (#[x, z] : Array Value).size ≤ sizeLine
    rw [sizeLine_eq]; show 2 ≤ 16777216; decide
  obtain ⟨os, hos, hcs, hds⟩ := id hs
  have hTs : s.TypeIs (.ref sl) "slice" := ⟨os, hos, hcs⟩
  unfold getItem
  try with_reducible refine wpAny_holding ?_
  first | refine wpAny_bind (wpAny_pure ?_) | skip
  refine wpAny_bind (wpAny_sequenceKey ht.typeIs (by decide) ?_)
  refine wpAny_bind (wpAny_callSpecial?_slot (name := Str.ofString "__getitem__") ht.typeIs PyProof.Rows.slot_tuple_getitem
    (wpAny_call_entry PyProof.Rows.slot_tuple_getitem ht.typeIs entry_tuple_getitem ?_ (args_tuple_getitem _ _)))
  show wpAny _ _ (Builtin.Tuple.tupleItemsOf (.ref t) >>= _) _ _ s
  refine wpAny_bind (tupleItemsOf_ ht ?_)
  refine wpAny_bind (wpAny_typeOf hTs ?_)
  rw [if_pos (by decide)]
  refine wpAny_bind ?_
  unfold Builtin.Slice.sliceApplied Builtin.Slice.sliceFields
  refine wpAny_bind (wpAny_bind (wpAny_field hos hds (x := .none) rfl (wpAny_bind (wpAny_field hos hds (x := .none) rfl (wpAny_bind (wpAny_field hos hds (x := c) rfl (wpAny_pure ?_)))))))
  refine wpAny_bind (slicePart_ pc ?_)
  show wpAny _ _ (if ((2 : Int) == 0) = true then _ else _) _ _ s
  rw [if_neg (by decide)]
  refine wpAny_bind (slicePart_ .none (wpAny_bind (slicePart_ .none (wpAny_bind (wpAny_pure ?_)))))
  have hadj : Builtin.Slice.sliceAdjust none none (2 : Int) ((3 : Nat) : Int) = (0, 3) := by decide
  have hpl : Builtin.Slice.slicePlaces 0 3 2 = 2 := by decide
  show wpAny _ _ (match Builtin.Slice.sliceAdjust none none (2 : Int) ((3 : Nat) : Int) with | (lo, hi) => pure (lo, (2 : Int), Builtin.Slice.slicePlaces lo hi 2)) _ _ s
  rw [hadj]
  show wpAny _ _ (pure ((0 : Int), (2 : Int), Builtin.Slice.slicePlaces 0 3 2)) _ _ s
  rw [hpl]
  refine wpAny_pure ?_
  show wpAny _ _ (if ((0 : Int) == 0 && (2 : Int) == 1 && (2 : Nat) == 3) = true then _ else _) _ _ s
  rw [if_neg (by decide)]
  first
    | exact wpAny_bind (m := Builtin.Tuple.tupleExact _) (wpAny_newObj_type (wpAny_pure ⟨_, rfl, wpAny_pure h⟩) hsz)
    | exact wpAny_bind (m := Builtin.Tuple.tupleExact _) (wpAny_newObj_type (wpAny_bind (wpAny_pure (wpAny_pure ⟨_, rfl, wpAny_pure h⟩))) hsz)
    | exact wpAny_bind (wpAny_bind (m := Builtin.Tuple.tupleExact _) (wpAny_newObj_type (wpAny_pure (wpAny_pure ⟨_, rfl, wpAny_pure h⟩)) hsz))
    | exact wpAny_bind (wpAny_bind (m := Builtin.Tuple.tupleExact _) (wpAny_newObj_type (wpAny_pure ⟨_, rfl, wpAny_pure h⟩) hsz))
/-- t[::-1] -/
theorem rev_adj (n : Nat) : Builtin.Slice.sliceAdjust none none (-1 : Int) (n : Int) = ((n : Int) - 1, -1) := rfl
theorem rev_places (n : Nat) : Builtin.Slice.slicePlaces ((n : Int) - 1) (-1) (-1) = n := by
  unfold Builtin.Slice.slicePlaces
  rw [if_neg (by decide)]
  by_cases h : (n : Int) - 1 > -1
  · rw [if_pos h]
    have e : ((n : Int) - 1 - -1 - 1) / (- -1) + 1 = (n : Int) := by
      rw [show (- -1 : Int) = 1 by decide, Int.ediv_one]
      omega
    rw [e, Int.toNat_natCast]
  · rw [if_neg h]
    have : n = 0 := by omega
    subst this; rfl
theorem fm_congr {α β : Type} {f g : α → Option β} : ∀ {l : List α}, (∀ k ∈ l, f k = g k) → l.filterMap f = l.filterMap g
  | [], _ => rfl
  | a :: l, h => by
    have ih := fm_congr (l := l) fun k hk => h k (List.mem_cons_of_mem _ hk)
    rw [List.filterMap_cons, List.filterMap_cons, h a List.mem_cons_self, ih]
theorem rev_pick (its : Array Value) : ((List.range its.size).filterMap fun (k : Nat) => its[(((its.size : Int) - 1) + (k : Int) * (-1)).toNat]?).toArray = its.toList.reverse.toArray := by
  have h1 : ((List.range its.size).filterMap fun (k : Nat) => its[(((its.size : Int) - 1) + (k : Int) * (-1)).toNat]?) = ((List.range its.size).map fun k => its.size - 1 - k).filterMap (its[·]?) := by
    rw [List.filterMap_map]
    refine fm_congr fun k hk => ?_
    have := List.mem_range.mp hk
    show its[(((its.size : Int) - 1) + (k : Int) * (-1)).toNat]? = its[its.size - 1 - k]?
    congr 1
    omega
  rw [h1, PySem.W.krv_range, List.filterMap_reverse, PySem.W.krv_all]
theorem getItem_tuple_rev {t sl : Addr} {its : Array Value} {c : Value} {Q : Value → Shared → Prop} (ht : IsTup s.heap t its) (hz : its.size ≤ sizeLine) (hs : s.heap.IsSliceOf sl .none .none c) (pc : IsPart c (some (-1)))
    (h : Q (.ref s.heap.objs.size) { s with heap := s.heap.push { cls := .type "tuple", data := .seq its.toList.reverse.toArray } }) : wpAny (model prog w) A (getItem (.ref t) (.ref sl)) Q E s := by
  have hsz : sizeOk (.seq its.toList.reverse.toArray) := by
    show (its.toList.reverse.toArray : Array Value).size ≤ sizeLine
    rw [List.size_toArray, List.length_reverse, Array.length_toList]; exact hz
  obtain ⟨os, hos, hcs, hds⟩ := id hs
  have hTs : s.TypeIs (.ref sl) "slice" := ⟨os, hos, hcs⟩
  unfold getItem
  try with_reducible refine wpAny_holding ?_
  first | refine wpAny_bind (wpAny_pure ?_) | skip
  refine wpAny_bind (wpAny_sequenceKey ht.typeIs (by decide) ?_)
  refine wpAny_bind (wpAny_callSpecial?_slot (name := Str.ofString "__getitem__") ht.typeIs PyProof.Rows.slot_tuple_getitem
    (wpAny_call_entry PyProof.Rows.slot_tuple_getitem ht.typeIs entry_tuple_getitem ?_ (args_tuple_getitem _ _)))
  show wpAny _ _ (Builtin.Tuple.tupleItemsOf (.ref t) >>= _) _ _ s
  refine wpAny_bind (tupleItemsOf_ ht ?_)
  refine wpAny_bind (wpAny_typeOf hTs ?_)
  rw [if_pos (by decide)]
  refine wpAny_bind ?_
  unfold Builtin.Slice.sliceApplied Builtin.Slice.sliceFields
  refine wpAny_bind (wpAny_bind (wpAny_field hos hds (x := .none) rfl (wpAny_bind (wpAny_field hos hds (x := .none) rfl (wpAny_bind (wpAny_field hos hds (x := c) rfl (wpAny_pure ?_)))))))
  refine wpAny_bind (slicePart_ pc ?_)
  show wpAny _ _ (if ((-1 : Int) == 0) = true then _ else _) _ _ s
  rw [if_neg (by decide)]
  refine wpAny_bind (slicePart_ .none (wpAny_bind (slicePart_ .none (wpAny_bind (wpAny_pure ?_)))))
  show wpAny _ _ (match Builtin.Slice.sliceAdjust none none (-1 : Int) ((its.size : Nat) : Int) with | (lo, hi) => pure (lo, (-1 : Int), Builtin.Slice.slicePlaces lo hi (-1))) _ _ s
  rw [rev_adj]
  show wpAny _ _ (pure (((its.size : Nat) : Int) - 1, (-1 : Int), Builtin.Slice.slicePlaces (((its.size : Nat) : Int) - 1) (-1) (-1))) _ _ s
  rw [rev_places]
  refine wpAny_pure ?_
  show wpAny _ _ (if ((((its.size : Nat) : Int) - 1 == 0) && ((-1 : Int) == 1) && (its.size == its.size)) = true then _ else _) _ _ s
  rw [if_neg (by rw [show ((-1 : Int) == 1) = false from rfl, Bool.and_false, Bool.false_and]; exact Bool.false_ne_true)]
  dsimp only
  rw [rev_pick]
  first
    | exact wpAny_bind (m := Builtin.Tuple.tupleExact _) (wpAny_newObj_type (wpAny_pure ⟨_, rfl, wpAny_pure h⟩) hsz)
    | exact wpAny_bind (m := Builtin.Tuple.tupleExact _) (wpAny_newObj_type (wpAny_bind (wpAny_pure (wpAny_pure ⟨_, rfl, wpAny_pure h⟩))) hsz)
    | exact wpAny_bind (wpAny_bind (m := Builtin.Tuple.tupleExact _) (wpAny_newObj_type (wpAny_pure (wpAny_pure ⟨_, rfl, wpAny_pure h⟩)) hsz))
    | exact wpAny_bind (wpAny_bind (m := Builtin.Tuple.tupleExact _) (wpAny_newObj_type (wpAny_pure ⟨_, rfl, wpAny_pure h⟩) hsz))
end
end HT
namespace L2.Gv
open PySem PySem.Spec PyProof.Rows L2
/-! ### x[::2] of a tuple of three -/
def tTwo (K : PySem.W.Frag) (te : TE) : TE := fun σ H Q => te σ H fun x H1 => ∃ a u v z, x = .ref a ∧ SqT K H1 a [u, v, z] ∧ NT Q H1 [u, z]
theorem pe_two {X : Cx} {e : Expr} {te : TE} {k : Nat} {p1 p3 pos : Pos} (he : PE X e te) : PE X (.Subscript e (.Slice none none (some (.Constant (.int 2) k p1)) p3) pos) (tTwo X.K te) := by
  refine ⟨fun pins s σ H Q I h => ?_⟩
  refine Subscript_ (thn (he.run pins s σ H _ I h) fun v s1 ⟨x, H1, I1, r1, q1⟩ => ?_)
  obtain ⟨a, u, v', z, ex, hx, q⟩ := q1
  subst ex
  cases r1
  have hst : PO X (some (.Constant (.int 2) k p1)) (tPart (tC (.int 2))) := po_some pe_int
  refine wpAny_Slice (thn (po_none.run pins s1 σ H1 (fun o H2 => o = none ∧ H2 = H1) I1 ⟨rfl, rfl⟩) fun vl s2 ⟨l, H2, I2, pl, el, e2⟩ => ?_)
  subst el e2
  refine thn (po_none.run pins s2 σ H2 (fun o H3 => o = none ∧ H3 = H2) I2 ⟨rfl, rfl⟩) fun vu s3 ⟨u', H3, I3, pu, eu, e3⟩ => ?_
  subst eu e3
  refine thn (hst.run pins s3 σ H3 (fun o H4 => o = some 2 ∧ H4 = H3) I3 ⟨2, rfl, rfl, rfl⟩) fun vs s4 ⟨o, H4, I4, ps, eo, e4⟩ => ?_
  subst eo e4
  cases pl
  cases pu
  have I5 : Inv X pins σ H4 { s4 with heap := s4.heap.push { cls := .type "slice", data := .fields #[.none, .none, vs] } } := I4.kept (t' := s4.toks) fun b ob q => Heap.get?_push_of_some _ q
  obtain ⟨its, r, ht, hz⟩ := I5.tuple hx
  cases r with
  | cons r1 r =>
  cases r with
  | cons r2 r =>
  cases r with
  | cons r3 r =>
  cases r
  rename_i b1 b2 b3
  show wpAny (model X.prog X.w) X.A (subscriptTail e (.Slice none none (some (.Constant (.int 2) k p1)) p3) (.ref a) (.ref s4.heap.objs.size)) (EP X pins σ Q) X.xe { s4 with heap := s4.heap.push { cls := .type "slice", data := .fields #[.none, .none, vs] } }
  refine tail_any (ops := [.ref a, .ref s4.heap.objs.size]) ht.typeIs (PyProof.Rows.slot_tuple_getitem.lookup) ?_ (by with_unfolding_all rfl)
  refine HT.getItem_tuple_two ht (Heap.IsSliceOf.new _ .none .none vs) ps ?_
  exact laidP (its := [b1, b3]) I5 (.cons r1 (.cons r3 .nil)) (by show 2 ≤ sizeLine; rw [sizeLine_eq]; decide) q
/-! ### x[::-1] of a list or a tuple -/
def tRevB (K : PySem.W.Frag) (te : TE) : TE := fun σ H Q => te σ H fun x H1 => ∃ a xs, x = .ref a ∧ ((SqL K H1 a xs ∧ ∀ p, H1 p = none → Q (.ref p) (upd H1 p (.lst xs.reverse))) ∨ (SqT K H1 a xs ∧ NT Q H1 xs.reverse))
theorem pe_revB {X : Cx} {e : Expr} {te : TE} {k : Nat} {p1 p2 p3 pos : Pos} (he : PE X e te) : PE X (.Subscript e (.Slice none none (some (.UnaryOp .USub (.Constant (.int 1) k p1) p2)) p3) pos) (tRevB X.K te) := by
  refine ⟨fun pins s σ H Q I h => ?_⟩
  refine Subscript_ (thn (he.run pins s σ H _ I h) fun v s1 ⟨x, H1, I1, r1, q1⟩ => ?_)
  obtain ⟨a, xs, ex, q⟩ := q1
  subst ex
  cases r1
  have hst : PO X (some (.UnaryOp .USub (.Constant (.int 1) k p1) p2)) (tPart (tUn (rU fun i => .int (-i)) (tC (.int 1)))) := po_some (pe_un un_neg pe_int)
  refine wpAny_Slice (thn (po_none.run pins s1 σ H1 (fun o H2 => o = none ∧ H2 = H1) I1 ⟨rfl, rfl⟩) fun vl s2 ⟨l, H2, I2, pl, el, e2⟩ => ?_)
  subst el e2
  refine thn (po_none.run pins s2 σ H2 (fun o H3 => o = none ∧ H3 = H2) I2 ⟨rfl, rfl⟩) fun vu s3 ⟨u, H3, I3, pu, eu, e3⟩ => ?_
  subst eu e3
  refine thn (hst.run pins s3 σ H3 (fun o H4 => o = some (-1) ∧ H4 = H3) I3 ⟨1, rfl, -1, rfl, rfl, rfl⟩) fun vs s4 ⟨o, H4, I4, ps, eo, e4⟩ => ?_
  subst eo e4
  have I5 : Inv X pins σ H4 { s4 with heap := s4.heap.push { cls := .type "slice", data := .fields #[vl, vu, vs] } } := I4.kept (t' := s4.toks) fun b ob q => Heap.get?_push_of_some _ q
  rcases q with ⟨hx, q⟩ | ⟨hx, q⟩
  · obtain ⟨its, r, ht, hz⟩ := I5.list hx
    have hlen := r.length
    show wpAny (model X.prog X.w) X.A (subscriptTail e (.Slice none none (some (.UnaryOp .USub (.Constant (.int 1) k p1) p2)) p3) (.ref a) (.ref s4.heap.objs.size)) (EP X pins σ Q) X.xe { s4 with heap := s4.heap.push { cls := .type "slice", data := .fields #[vl, vu, vs] } }
    refine tail_any (ops := [.ref a, .ref s4.heap.objs.size]) ht.isList.typeIs (PySem.slot_list_getitem.lookup) ?_ (by with_unfolding_all rfl)
    refine wpAny_getItem_list_slice ht.isList (Heap.IsSliceOf.new _ vl vu vs) pl pu ps (by decide) ?_ (by rw [List.size_toArray]; omega)
    rw [PySem.W.krv_pick]
    refine ⟨.ref _, _, I5.laid (t' := s4.toks) (o := .lst xs.reverse) (fun b ob q => Heap.get?_push_of_some _ q) (Nat.le_refl _) ?_, rfl, q _ (I5.hok.fresh (Nat.le_refl _))⟩
    exact ⟨by rw [List.length_reverse]; exact hz, _, 0, r.reverse, Heap.get?_push_size _ rfl⟩
  · cases pl
    cases pu
    obtain ⟨its, r, ht, hz⟩ := I5.tuple hx
    have hlen := r.length
    show wpAny (model X.prog X.w) X.A (subscriptTail e (.Slice none none (some (.UnaryOp .USub (.Constant (.int 1) k p1) p2)) p3) (.ref a) (.ref s4.heap.objs.size)) (EP X pins σ Q) X.xe { s4 with heap := s4.heap.push { cls := .type "slice", data := .fields #[.none, .none, vs] } }
    refine tail_any (ops := [.ref a, .ref s4.heap.objs.size]) ht.typeIs (PyProof.Rows.slot_tuple_getitem.lookup) ?_ (by with_unfolding_all rfl)
    refine HT.getItem_tuple_rev ht (by rw [List.size_toArray]; omega) (Heap.IsSliceOf.new _ .none .none vs) ps ?_
    exact laidP (its := its.reverse) I5 r.reverse (by rw [List.length_reverse]; exact hz) q
/-! ### match e: case "x": .. -/
inductive MCs (X : Cx) : List MatchCase → List (Str × TS) → Prop
  | nil : MCs X [] []
  | cons {x : Str} {k : Nat} {p1 p2 : Pos} {body : List Stmt} {ts : TS} {cs : List MatchCase} {l : List (Str × TS)} (hb : PSs X body ts) (r : MCs X cs l) : MCs X (⟨.MatchValue (.Constant (.str x) k p1) p2, none, body⟩ :: cs) ((x, ts) :: l)
def tMCs (r : R2) (v : V) : List (Str × TS) → TS
  | [], D, σ, H => D.nx σ H
  | (x, ts) :: l, D, σ, H => r v (.str x) H fun y H1 => ∃ b, y = .bl b ∧ (b = true → ts D σ H1) ∧ (b = false → tMCs r v l D σ H1)
def tMat (r : R2) (te : TE) (l : List (Str × TS)) : TS := fun D σ H => te σ H fun v H1 => tMCs r v l D σ H1
theorem mcs_run {X : Cx} {r : R2} (ho : OpR X (compareOp .Eq) r) {cs : List MatchCase} {l : List (Str × TS)} (h : MCs X cs l) : ∀ (first : Bool) (pins : List (Addr × Obj)) (s : Shared) (σ : St) (H : Hp) (D : Ends) (v : V) (u : Value), Inv X pins σ H s → RelV v u → tMCs r v l D σ H →
    wpAny (model X.prog X.w) X.A (matchCases cs X.env u first) (SP X pins D) X.xe s := by
  induction h with
  | nil => exact fun first pins s σ H D v u I rv q => wpAny_matchCases_nil ⟨σ, H, I, q⟩
  | cons hb _ ih =>
    intro first pins s σ H D v u I rv q
    refine wpAny_matchCases_cons (wpAny_matchPattern_Value (thn (pe_str.run pins s σ H (fun y H1 => y = .str _ ∧ H1 = H) I ⟨rfl, rfl⟩) fun c s1 ⟨y, H1, I1, rc, ey, eH⟩ => ?_))
    subst ey eH
    refine thn (ho pins s1 σ H1 v _ u c _ I1 rv rc q) fun w s2 ⟨z, H2, I2, rz, b, ez, q1, q2⟩ => ?_
    subst ez
    cases rz
    refine wpAny_truthy_bool ?_
    cases b with
    | true =>
      simp only [if_true]
      refine wpAny_assignInOrder_none ?_
      exact hb.run pins s2 σ H2 D I2 (q1 rfl)
    | false =>
      simp only [Bool.false_eq_true, if_false]
      exact ih false pins s2 σ H2 D v u I2 rv (q2 rfl)
theorem ps_mat {X : Cx} {r : R2} {e : Expr} {te : TE} {cs : List MatchCase} {l : List (Str × TS)} {pos : Pos} (ho : OpR X (compareOp .Eq) r) (he : PE X e te) (h : MCs X cs l) : PS X (.Match e cs pos) (tMat r te l) :=
  ⟨fun pins s σ H D I q => wpAny_Match (thn (he.run pins s σ H _ I q) fun u s1 ⟨v, H1, I1, rv, q1⟩ => mcs_run ho h true pins s1 σ H1 D v u I1 rv q1)⟩
/-! ### calls with keywords, bound in the parameters' order -/
structure FnQK (P : Program) (w : World) (K : PySem.W.Frag) (mg : Str → Option Value) (base : Heap) (k : Nat) (f : Addr) (ks : List Str) (sp : Sp) : Prop where
  go : ∀ (A : Around) (fs : List PySem.Env) (s : Shared) (H : Hp) (us ws : List Value) (vs zs : List V) (Q : VK) (E : XK), Room k A → A.guards = some [] → Env0 P w K mg base A fs s H → Vals vs us → Vals zs ws → ws.length = ks.length → sp (vs ++ zs) H Q E →
    codeAny (model P w) A (.call (.ref f) ⟨us, ks.zip ws⟩) (CR (L2.CX P w) fs P w H s Q E) s
section
variable {X : Cx} {W : WX} {k : Nat} {f : Addr} {ks : List Str} {sp : Sp} {x : Str} {p pos : Pos} {e : Expr} {es : List Expr} {kws : List Keyword} {t tk : TA}
theorem go_fnk {pins : List (Addr × Obj)} {σ : St} {H : Hp} {s : Shared} {Q : VK} {us ws : List Value} {vs zs : List V} (F : FnQK X.prog X.w X.K X.mg X.base k f ks sp) (rm : Room k X.A) (gd : X.A.guards = some []) (tk : Takes X W)
    (I : Inv X pins σ H s) (r : Vals vs us) (rz : Vals zs ws) (hl : ws.length = ks.length) (h : sp (vs ++ zs) H Q (WE W σ)) : wpAny (model X.prog X.w) X.A (call (.ref f) us (ks.zip ws)) (EP X pins σ Q) X.xe s := by
  refine wpAny_call (codeAny_mono (F.go X.A X.stack s H us ws vs zs Q (WE W σ) rm gd I.env0 r rz hl h) fun res s' z => ?_)
  match res, z with
  | .error e, z => exact passAt tk σ pins H s e s' I z
  | .ok (.ret u), z => exact I.after z
theorem pe_callGK (F : FnQK X.prog X.w X.K X.mg X.base k f ks sp) (rm : Room k X.A) (gd : X.A.guards = some []) (tt : Takes X W) (hg : Gl X x) (hm : X.mg x = some (.ref f)) (hk : PySem.W.keepIn X.K (.ref f) = true)
    (ha : PA X (e :: es) t) (hkw : PK X kws tk) (hd : (x == ("__debug__" : Str)) = false) (he : starEach (e :: es) X.env = (false, eval e X.env) :: starEach es X.env)
    (hall : (backToKw pos (keywordEach kws X.env)).all (·.1.isSome) = true) (hks : (backToKw pos (keywordEach kws X.env)).filterMap (·.1) = ks)
    (hpl : ((backTo pos (starEach (e :: es) X.env)).any (·.1) || (backToKw pos (keywordEach kws X.env)).any (·.1.isNone)) = false) :
    PE X (.Call (.Name x p) (e :: es) kws pos) (fun σ H Q => t σ H fun vs H1 => tk σ H1 fun zs H2 => zs.length = ks.length ∧ sp (vs ++ zs) H2 Q (WE W σ)) := by
  refine ⟨fun pins s σ H Q I h => ?_⟩
  refine wpAny_Call_Name_kw (ld_glob I hg hm ?_ hd)
  refine PySem.W.callWith_KW (h₀ := X.base) I.ok.mod.kin hk hall (thn (ha.run pos pins s σ H _ I h) fun us s1 ⟨vs, H1, I1, r, q⟩ => ?_) hpl he
  refine thn (hkw.run pos pins s1 σ H1 _ I1 q) fun ws s2 ⟨zs, H2, I2, rz, hl, q2⟩ => ⟨I2.kIn, ?_⟩
  rw [hks]
  exact go_fnk F rm gd tt I2 r rz (by rw [← rz.length]; exact hl) q2
end
end L2.Gv

set_option Elab.async false
set_option linter.all false
set_option maxRecDepth 100000
set_option maxHeartbeats 2000000
namespace L2.Gv
open PySem PySem.Spec PyProof.Rows L2
/-! ## Expressions, one lemma a code -/
/-- the built-in names that codes use: none is bound by the text -/
def biList' : List Str := ["len", "all", "any", "max", "sum", "sorted", "tuple", "list", "repr", "range", "enumerate", "zip", "isinstance", "int", "bool", "str", "dict", "min"]
structure XC (X : Cx) (ct : Ct) (W : WX) (k : Nat) : Prop where
  hN : X.N = ct.N
  hs : X.env.scope = ct.sc
  hf : X.fn = fnOf ct.fn
  nd : X.N.Nodup
  calm : X.calm = true
  tk : Takes X W
  rm : Room k X.A
  gd : X.A.guards = some []
  bi : ∀ x ∈ biList', X.mg x = none
abbrev qX (X : Cx) (W : WX) : Cn := ⟨X.K, X.mg, W⟩
section
variable {X : Cx} {ct : Ct} {W : WX} {k : Nat}
theorem XC.hu65 (x : XC X ct W k) : X.A.units + 65 < cLine := by have := x.rm.un; omega
theorem XC.hu100 (x : XC X ct W k) : X.A.units + 100 < cLine := by have := x.rm.un; omega
theorem XC.gl (x : XC X ct W k) {y : Str} (h : glB ct.sc y = true) : Gl X y := by
  unfold glB at h
  show X.env.scope.names.lookup y = some .globalImplicit
  rw [x.hs]
  split at h
  · assumption
  · cases h
theorem XC.vis (x : XC X ct W k) {i : Nat} {y : Str} {p : Pos} (h : slotB ct i y = true) : PE X (.Name y p) (tVar i) := by
  unfold slotB at h
  simp only [Bool.and_eq_true, decide_eq_true_eq, Bool.not_eq_true'] at h
  obtain ⟨⟨⟨h1, h2⟩, h3⟩, h4⟩ := h
  refine pe_var (by rw [x.hN]; exact h1) ?_ h3 h4
  unfold visB at h2
  unfold Vis
  rw [x.hs]
  split at h2
  · exact .inl (by assumption)
  · exact .inr (.inl (by assumption))
  · exact .inr (.inr (by assumption))
  · cases h2
theorem XC.sto (x : XC X ct W k) {i : Nat} {y : Str} (h : storeB ct i y = true) : X.N[i]? = some y ∧ i ≠ 0 ∧ Loc X.env.scope y ∧ (X.fn y = true ∨ X.env.scope.names.lookup y = some .local) := by
  unfold storeB at h
  simp only [Bool.and_eq_true, decide_eq_true_eq] at h
  obtain ⟨⟨h1, h2⟩, h3⟩ := h
  refine ⟨by rw [x.hN]; exact h1, h2, ?_⟩
  unfold Loc
  rw [x.hs, x.hf]
  split at h3
  · rename_i e; exact ⟨.inl e, .inr e⟩
  · rename_i e; exact ⟨.inr e, .inl h3⟩
  · cases h3
/-! ### names and constants -/
theorem s_var {i : Nat} {y : Str} {p : Pos} (h : PE X (.Name y p) (tVar i)) : PE X (.Name y p) (tE (qX X W) (.var i)) := h.imp fun σ H Q ⟨w, Γ, e, z⟩ => by
  simp only [evE] at z
  cases hg : Γ[i]? with
  | none => rw [hg] at z; exact z.elim
  | some o =>
    cases o with
    | none => rw [hg] at z; exact z.elim
    | some m =>
      rw [hg] at z
      cases m with
      | im d =>
        obtain ⟨v, h1, h2⟩ := e.at_ i _ hg
        exact ⟨v, h1, z v H w (po_im e h2)⟩
      | ml xs =>
        obtain ⟨v, w', h1, h2⟩ := slot_frz e hg
        exact ⟨v, h1, z v H w' h2⟩
      | mm xs =>
        obtain ⟨v, w', h1, h2⟩ := slot_frz e hg
        exact ⟨v, h1, z v H w' h2⟩
      | md xs =>
        obtain ⟨v, w', h1, h2⟩ := slot_frz e hg
        exact ⟨v, h1, z v H w' h2⟩
      | ms xs =>
        obtain ⟨v, w', h1, h2⟩ := slot_frz e hg
        exact ⟨v, h1, z v H w' h2⟩
theorem s_mov {i : Nat} {y : Str} {p : Pos} (h : PE X (.Name y p) (tVar i)) : PE X (.Name y p) (tE (qX X W) (.mov i)) := h.imp fun σ H Q ⟨w, Γ, e, z⟩ => by
  simp only [evE] at z
  cases hg : Γ[i]? with
  | none => rw [hg] at z; exact z.elim
  | some o =>
    cases o with
    | none => rw [hg] at z; exact z.elim
    | some m =>
      rw [hg] at z
      cases m with
      | im d =>
        obtain ⟨v, h1, h2⟩ := e.at_ i _ hg
        exact ⟨v, h1, z v H w (po_im e h2)⟩
      | ml xs =>
        obtain ⟨v, w', h1, h2⟩ := slot_mov e hg
        exact ⟨v, h1, z v H w' h2⟩
      | mm xs =>
        obtain ⟨v, w', h1, h2⟩ := slot_mov e hg
        exact ⟨v, h1, z v H w' h2⟩
      | md xs =>
        obtain ⟨v, w', h1, h2⟩ := slot_mov e hg
        exact ⟨v, h1, z v H w' h2⟩
      | ms xs =>
        obtain ⟨v, w', h1, h2⟩ := slot_mov e hg
        exact ⟨v, h1, z v H w' h2⟩
theorem s_con {d : D} {e : Expr} (h : conB d e = true) : PE X e (tE (qX X W) (.con d)) := by
  unfold conB at h
  split at h
  · exact pe_non.imp fun σ H Q ⟨w, Γ, e, z⟩ => z _ H w (po_im e .non)
  · rename_i b c _ _
    have e : b = c := by simpa using h
    subst e
    exact pe_bl.imp fun σ H Q ⟨w, Γ, e, z⟩ => z _ H w (po_im e (.bl _))
  · rename_i b c _ _
    have e : b = c := by simpa using h
    subst e
    exact pe_int.imp fun σ H Q ⟨w, Γ, e, z⟩ => z _ H w (po_im e (.int _))
  · rename_i b c _ _
    have e : b = c := by simpa using h
    subst e
    exact pe_str.imp fun σ H Q ⟨w, Γ, e, z⟩ => z _ H w (po_im e (.str _))
  · cases h
/-- a constant of the module -/
def GloOk (mg : Str → Option Value) (x : Str) (d : D) : Prop := ∃ u v, mg x = some u ∧ RelV v u ∧ ∀ K w H, RD K w H d v
theorem s_glb {x : Str} {d : D} {p : Pos} (hg : Gl X x) (h : GloOk X.mg x d) (hd : (x == ("__debug__" : Str)) = false) : PE X (.Name x p) (tE (qX X W) (.glb x d)) := by
  obtain ⟨u, v, h1, h2, h3⟩ := h
  exact (pe_glob hg h1 h2 hd).imp fun σ H Q ⟨w, Γ, e, z⟩ => z _ H w (po_im e (h3 _ _ _))
/-! ### displays, operators -/
theorem bind_ok {α β : Type} {r : Rs α} {f : α → Sl → Rs β} {b : β} {Γ : Sl} (h : r.bind f = .ok b Γ) : ∃ a Γ1, r = .ok a Γ1 ∧ f a Γ1 = .ok b Γ := by
  cases r with
  | ok a Γ1 => exact ⟨a, Γ1, rfl, h⟩
  | ex _ _ => cases h
  | no => cases h
theorem evA_len : ∀ (es : Ar) {Γ Γ' : Sl} {ds : List D}, evA es Γ = .ok ds Γ' → ds.length = arN es
  | .nil, Γ, Γ', ds, e => by simp only [evA] at e; cases e; rfl
  | .cons c r, Γ, Γ', ds, e => by
    simp only [evA] at e
    obtain ⟨m, Γ1, _, e⟩ := bind_ok e
    obtain ⟨ds2, Γ2, q, e⟩ := bind_ok e
    cases e
    rw [List.length_cons, evA_len r q]; rfl
theorem s_nil : PA X [] (tAs (qX X W) .nil) := pa_nil.imp fun σ H Q ⟨w, Γ, e, z⟩ => z [] H w Step.refl e .nil
theorem s_cons {c : Ex} {r : Ar} {x : Expr} {xs : List Expr} (h : PE X x (tE (qX X W) c)) (hr : PA X xs (tAs (qX X W) r)) (hp : plainE x = true) : PA X (x :: xs) (tAs (qX X W) (.cons c r)) :=
  (pa_cons h hr (star_plain hp)).imp fun σ H Q ⟨w, Γ, e, z⟩ => tE_bindD e z fun m Γ1 v H1 w1 s1 e1 r1 z1 => tA_bind e1 z1 fun ds Γ2 vs H2 w2 s2 e2 r2 z2 =>
    z2 (v :: vs) H2 w2 (s1.trans s2) e2 (.cons (r1.mono s2.k0) r2)
theorem tA_bindN {q : Cn} {α : Type} {w : Wn} {H : Hp} {σ : St} {Γ : Sl} {P : α → Sl → Prop} {es : Ar} {Q : List V → Hp → Prop} {f : List D → Sl → Rs α} (e : ER q.K w Γ σ H) (h : rdg q w H σ ((evA es Γ).bind f) P)
    (k : ∀ ds Γ' vs H' w', ds.length = arN es → Step H w H' w' → ER q.K w' Γ' σ H' → RDs q.K w' H' ds vs → rdg q w' H' σ (f ds Γ') P → Q vs H') : tAs q es σ H Q := by
  refine ⟨w, Γ, e, ?_⟩
  cases c : evA es Γ with
  | ok ds Γ1 => rw [c] at h; exact fun vs H' w' s e' r => k ds Γ1 vs H' w' (evA_len es c) s e' r (rdg.step (r := f ds Γ1) h s)
  | ex x Γ1 => rw [c] at h; exact h
  | no => rw [c] at h; exact h
theorem line1000 {n m : Nat} (h : n = m) (hl : m ≤ 1000) : n ≤ sizeLine := by rw [h, sizeLine_eq]; omega
theorem s_tup {es : Ar} {xs : List Expr} {kk : Nat} {p : Pos} (h : PA X xs (tAs (qX X W) es)) (hl : arN es ≤ 1000) : PE X (.Tuple xs kk p) (tE (qX X W) (.tup es)) :=
  (pe_tupN h).imp fun σ H Q ⟨w, Γ, e, z⟩ => tA_bindN e z fun ds Γ' vs H1 w1 hn s1 e1 r1 z1 =>
    ⟨line1000 (r1.length.symm.trans hn) hl, fun a o ha ho => z1 _ _ _ ((new_tup e1 ha ho (line1000 (r1.length.symm.trans hn) hl) r1).trans s1 e.wf)⟩
theorem s_lst {es : Ar} {xs : List Expr} {p : Pos} (h : PA X xs (tAs (qX X W) es)) (hl : arN es ≤ 1000) : PE X (.List xs p) (tE (qX X W) (.lst es)) :=
  (pe_lst h).imp fun σ H Q ⟨w, Γ, e, z⟩ => tA_bindN e z fun ds Γ' vs H1 w1 hn s1 e1 r1 z1 =>
    ⟨line1000 (r1.length.symm.trans hn) hl, fun a ha => z1 _ _ _ ((new_lst e1 ha (line1000 (r1.length.symm.trans hn) hl) r1).trans s1 e.wf)⟩
/-- what a pure operation that came out asks -/
theorem lift_some {q : Cn} {w : Wn} {H : Hp} {σ : St} {Γ : Sl} {o : Option M} {P : M → Sl → Prop} (h : rdg q w H σ (lift o Γ) P) : ∃ m, o = some m ∧ P m Γ := by
  cases o with
  | none => exact h.elim
  | some m => exact ⟨m, rfl, h⟩
variable {a b c : Ex} {x y z : Expr} {p : Pos}
theorem s_bin {op : Operator} (ha : PE X x (tE (qX X W) a)) (hb : PE X y (tE (qX X W) b)) : PE X (.BinOp x op y p) (tE (qX X W) (.bin op a b)) :=
  (pe_op (op_bin op) ha hb).imp fun σ H Q ⟨w, Γ, e, z⟩ => tE_bindD e z fun m1 Γ1 v1 H1 w1 s1 e1 r1 z1 => tE_bindD e1 z1 fun m2 Γ2 v2 H2 w2 s2 e2 r2 z2 => by
    obtain ⟨m, hm, z3⟩ := lift_some z2
    exact ⟨w2, _, _, m, e2.wf, r1.mono s2.k0, r2, hm, fun v H' w' pr => z3 v H' w' ((pr.po e2).trans (s1.trans s2) e.wf)⟩
theorem s_neg (ha : PE X x (tE (qX X W) a)) : PE X (.UnaryOp .USub x p) (tE (qX X W) (.neg a)) :=
  (pe_un un_neg ha).imp fun σ H Q ⟨w, Γ, e, z⟩ => tE_bind e z fun m1 Γ1 v1 H1 w1 po z1 => by
    match m1, po, z1 with
    | .im (.int i), po, z1 =>
      have hv : RD X.K w1 H1 (.int i) v1 := po.rm
      cases hv
      exact ⟨i, rfl, z1 _ _ _ ⟨po.st, po.er, .int _, fun _ o => o.elim⟩⟩
theorem asB_some {q : Cn} {w : Wn} {H H' : Hp} {w' : Wn} {σ : St} {Γ' : Sl} {P : Bool → Sl → Prop} {m : M} {v : V} (po : Po q.K w H Γ' σ m v H' w') (h : rdg q w H σ (match m with | .im (.bool b) => Rs.ok b Γ' | _ => .no) P) : ∃ b, m = .im (.bool b) ∧ v = .bl b ∧ P b Γ' := by
  match m, po, h with
  | .im (.bool b), po, h =>
    have hv : RD q.K w' H' (.bool b) v := po.rm
    cases hv
    exact ⟨b, rfl, rfl, h⟩
/-- a value that is a truth value, as a test -/
theorem bl_bind {q : Cn} {α : Type} {w : Wn} {H : Hp} {σ : St} {Γ : Sl} {P : α → Sl → Prop} {Q : VK} {c : Ex} {f : Bool → Sl → Rs α} (e : ER q.K w Γ σ H) (h : rdg q w H σ ((asB (evE c Γ)).bind f) P)
    (k : ∀ t Γ' H' w', Step H w H' w' → ER q.K w' Γ' σ H' → rdg q w' H' σ (f t Γ') P → Q (.bl t) H') : tE q c σ H Q := by
  have h2 : rdg q w H σ ((evE c Γ).bind fun m Γ => (match m with | .im (.bool b) => Rs.ok b Γ | _ => .no : Rs Bool).bind f) P := by
    have : (asB (evE c Γ)).bind f = (evE c Γ).bind fun m Γ => (match m with | .im (.bool b) => Rs.ok b Γ | _ => .no : Rs Bool).bind f := by
      unfold asB
      cases evE c Γ <;> rfl
    rw [← this]; exact h
  refine tE_bind e h2 fun m Γ1 v H1 w1 po z => ?_
  obtain ⟨t, rfl, rfl, z⟩ := asB_some po z.bind
  exact k t Γ1 H1 w1 po.st po.er (z.step po.st)
theorem bool_out {q : Cn} {w : Wn} {H : Hp} {σ : St} {Γ : Sl} (e : ER q.K w Γ σ H) (t : Bool) : Po q.K w H Γ σ (.im (.bool t)) (.bl t) H w := po_im e (.bl t)
theorem s_not (ha : PE X x (tE (qX X W) a)) : PE X (.UnaryOp .Not x p) (tE (qX X W) (.not a)) :=
  (pe_not ha).imp fun σ H Q ⟨w, Γ, e, z⟩ => bl_bind e z fun t Γ1 H1 w1 s1 e1 z1 => ⟨t, rfl, z1 _ _ _ ((bool_out e1 _).trans s1 e.wf)⟩
theorem s_ifx (hc : PT X z (tT (qX X W) fun Γ => asB (evE c Γ))) (ha : PE X x (tE (qX X W) a)) (hb : PE X y (tE (qX X W) b)) : PE X (.IfExp z x y p) (tE (qX X W) (.ifx c a b)) :=
  (pe_ifExp hc ha hb).imp fun σ H Q ⟨w, Γ, e, h⟩ => tT_bind (g := fun Γ => asB (evE c Γ)) e h fun t Γ1 H1 w1 s1 e1 z1 => by
    cases t with
    | true => exact iteT ⟨w1, Γ1, e1, z1.imp fun m Γ2 z2 v H2 w2 po => z2 v H2 w2 (po.trans s1 e.wf)⟩
    | false => exact iteF ⟨w1, Γ1, e1, z1.imp fun m Γ2 z2 v H2 w2 po => z2 v H2 w2 (po.trans s1 e.wf)⟩
theorem bM_some {o : Option Bool} {m : M} (h : bM o = some m) : ∃ t, o = some t ∧ m = .im (.bool t) := by
  cases o with
  | none => cases h
  | some t => cases h; exact ⟨t, rfl, rfl⟩
theorem s_cmp {op : CmpOp} (C : XC X ct W k) (ha : PE X x (tE (qX X W) a)) (hb : PE X y (tE (qX X W) b)) (hm : behindInMarks op y = false) : PE X (.Compare x [op] [y] p) (tE (qX X W) (.cmp op a b)) :=
  (pe_cmpR (op_cmp op C.hu65) ha hb hm).imp fun σ H Q ⟨w, Γ, e, z⟩ => tE_bindD e z fun m1 Γ1 v1 H1 w1 s1 e1 r1 z1 => tE_bindD e1 z1 fun m2 Γ2 v2 H2 w2 s2 e2 r2 z2 => by
    obtain ⟨m, h1, z3⟩ := lift_some z2
    obtain ⟨t, h2, rfl⟩ := bM_some h1
    exact ⟨w2, _, _, t, r1.mono s2.k0, r2, h2, z3 _ _ _ ((bool_out e2 t).trans (s1.trans s2) e.wf)⟩
theorem tst_of {q : Cn} {σ : St} {H : Hp} {Q : Bool → Hp → Prop} {w : Wn} {r : Rs M} (h : rdg q w H σ (asB r) fun b Γ' => ∀ H' w', Step H w H' w' → ER q.K w' Γ' σ H' → Q b H') :
    rdg q w H σ r fun m Γ' => ∀ v H' w', Po q.K w H Γ' σ m v H' w' → ∃ t, v = .bl t ∧ Q t H' := by
  refine (rdg.bind h).imp fun m Γ' z v H' w' po => ?_
  obtain ⟨t, rfl, rfl, z⟩ := asB_some po z
  exact ⟨t, rfl, z H' w' po.st po.er⟩
theorem t_cmp {op : CmpOp} (C : XC X ct W k) (ha : PE X x (tE (qX X W) a)) (hb : PE X y (tE (qX X W) b)) (hm : behindInMarks op y = false) : PT X (.Compare x [op] [y] p) (tT (qX X W) fun Γ => asB (evE (.cmp op a b) Γ)) :=
  (pt_cmpR (op_cmp op C.hu65) ha hb hm).imp fun σ H Q ⟨w, Γ, e, z⟩ => by
    have z := tst_of z
    refine tE_bindD (c := a) e z fun m1 Γ1 v1 H1 w1 s1 e1 r1 z1 => tE_bindD e1 z1 fun m2 Γ2 v2 H2 w2 s2 e2 r2 z2 => ?_
    obtain ⟨m, h1, z3⟩ := lift_some z2
    obtain ⟨t, h2, rfl⟩ := bM_some h1
    exact ⟨w2, _, _, t, r1.mono s2.k0, r2, h2, z3 _ _ _ ((bool_out e2 t).trans (s1.trans s2) e.wf)⟩
theorem noneM_eq {K : PySem.W.Frag} {w : Wn} {H : Hp} {m : M} {v : V} {t : Option Nat} (h : RM K w H t m v) : decide (v = V.non) = isNoneM m := by
  cases m with
  | im d => cases (show RD K w H d v from h) <;> simp [isNoneM]
  | ml xs => obtain ⟨aa, _, rfl, _⟩ := h; simp [isNoneM]
  | mm xs => obtain ⟨aa, _, rfl, _⟩ := h; simp [isNoneM]
  | md xs => obtain ⟨aa, _, rfl, _⟩ := h; simp [isNoneM]
  | ms xs => obtain ⟨aa, _, rfl, _⟩ := h; simp [isNoneM]
theorem s_isN {kk : Nat} {p2 : Pos} (ha : PE X x (tE (qX X W) a)) : PE X (.Compare x [.Is] [.Constant .none kk p2] p) (tE (qX X W) (.isN a)) :=
  (pe_cmp (pc_isN ha)).imp fun σ H Q ⟨w, Γ, e, z⟩ => tE_bind e z fun m1 Γ1 v1 H1 w1 po z1 => by
    rw [noneM_eq po.rm]
    obtain ⟨w2, s2, e2, _⟩ := po.frz
    exact z1 _ _ _ ((bool_out e2 _).trans s2 e.wf)
theorem s_notN {kk : Nat} {p2 : Pos} (ha : PE X x (tE (qX X W) a)) : PE X (.Compare x [.IsNot] [.Constant .none kk p2] p) (tE (qX X W) (.notN a)) :=
  (pe_cmp (pc_notN ha)).imp fun σ H Q ⟨w, Γ, e, z⟩ => tE_bind e z fun m1 Γ1 v1 H1 w1 po z1 => by
    rw [noneM_eq po.rm]
    obtain ⟨w2, s2, e2, _⟩ := po.frz
    exact z1 _ _ _ ((bool_out e2 _).trans s2 e.wf)
theorem t_isN {kk : Nat} {p2 : Pos} (ha : PE X x (tE (qX X W) a)) : PT X (.Compare x [.Is] [.Constant .none kk p2] p) (tT (qX X W) fun Γ => asB (evE (.isN a) Γ)) :=
  (pt_cmp (pc_isN ha)).imp fun σ H Q ⟨w, Γ, e, z⟩ => by
    have z := tst_of z
    refine tE_bind (c := a) e z fun m1 Γ1 v1 H1 w1 po z1 => ?_
    rw [noneM_eq po.rm]
    obtain ⟨w2, s2, e2, _⟩ := po.frz
    exact z1 _ _ _ ((bool_out e2 _).trans s2 e.wf)
theorem t_notN {kk : Nat} {p2 : Pos} (ha : PE X x (tE (qX X W) a)) : PT X (.Compare x [.IsNot] [.Constant .none kk p2] p) (tT (qX X W) fun Γ => asB (evE (.notN a) Γ)) :=
  (pt_cmp (pc_notN ha)).imp fun σ H Q ⟨w, Γ, e, z⟩ => by
    have z := tst_of z
    refine tE_bind (c := a) e z fun m1 Γ1 v1 H1 w1 po z1 => ?_
    rw [noneM_eq po.rm]
    obtain ⟨w2, s2, e2, _⟩ := po.frz
    exact z1 _ _ _ ((bool_out e2 _).trans s2 e.wf)
theorem chn_core {o1 o2 : CmpOp} {σ : St} {H : Hp} {Q : VK} {w : Wn} {Γ : Sl} (e : ER X.K w Γ σ H) (z : rdg (qX X W) w H σ (evE (.chn o1 o2 a b c) Γ) fun r Γ' => ∀ v H' w', Po X.K w H Γ' σ r v H' w' → Q v H') :
    tChain (rCmp X.K o1) (rCmp X.K o2) (tE (qX X W) a) (tE (qX X W) b) (tE (qX X W) c) σ H Q := by
  refine tE_bindD (q := qX X W) (c := a) e z fun m1 Γ1 v1 H1 w1 s1 e1 r1 z1 => tE_bindD e1 z1 fun m2 Γ2 v2 H2 w2 s2 e2 r2 z2 => ?_
  cases hc : cmpD o1 (frz m1) (frz m2) with
  | none => rw [hc] at z2; exact z2.elim
  | some t =>
    rw [hc] at z2
    refine ⟨w2, _, _, t, r1.mono s2.k0, r2, hc, t, rfl, ?_⟩
    cases t with
    | false => exact iteF (z2 _ _ _ ((bool_out (q := qX X W) e2 false).trans (s1.trans s2) e.wf))
    | true =>
      refine iteT (tE_bindD e2 z2 fun m3 Γ3 v3 H3 w3 s3 e3 r3 z3 => ?_)
      obtain ⟨m, h1, z4⟩ := lift_some z3
      obtain ⟨t2, h2, rfl⟩ := bM_some h1
      exact ⟨w3, _, _, t2, r2.mono s3.k0, r3, h2, z4 _ _ _ ((bool_out (q := qX X W) e3 t2).trans ((s1.trans s2).trans s3) e.wf)⟩
theorem s_chn {o1 o2 : CmpOp} (C : XC X ct W k) (ha : PE X x (tE (qX X W) a)) (hb : PE X y (tE (qX X W) b)) (hc : PE X z (tE (qX X W) c)) (hm : behindInMarks o2 z = false) : PE X (.Compare x [o1, o2] [y, z] p) (tE (qX X W) (.chn o1 o2 a b c)) :=
  (pe_chain (op_cmp o1 C.hu65) (op_cmp o2 C.hu65) ha hb hc (by show behindInMarks o2 z = false; exact hm)).imp fun σ H Q ⟨w, Γ, e, h⟩ => chn_core e h
theorem t_chn {o1 o2 : CmpOp} (C : XC X ct W k) (ha : PE X x (tE (qX X W) a)) (hb : PE X y (tE (qX X W) b)) (hc : PE X z (tE (qX X W) c)) (hm : behindInMarks o2 z = false) : PT X (.Compare x [o1, o2] [y, z] p) (tT (qX X W) fun Γ => asB (evE (.chn o1 o2 a b c) Γ)) :=
  (pt_chain (op_cmp o1 C.hu65) (op_cmp o2 C.hu65) ha hb hc (by show behindInMarks o2 z = false; exact hm)).imp fun σ H Q ⟨w, Γ, e, h⟩ => chn_core e (tst_of h)
/-- any expression whose test is its value's -/
theorem t_val {e : Expr} (h : PE X e (tE (qX X W) a)) (he : ∀ whole, isTrue e X.env whole = (do let v ← whole; standAt e.pos; holding [v] (truthy v))) : PT X e (tT (qX X W) fun Γ => asB (evE a Γ)) :=
  (pt_val h he).imp fun σ H Q ⟨w, Γ, e, z⟩ => ⟨w, Γ, e, tst_of z⟩
theorem t_not (ha : PT X x (tT (qX X W) fun Γ => asB (evE a Γ))) : PT X (.UnaryOp .Not x p) (tT (qX X W) fun Γ => asB (evE (.not a) Γ)) :=
  (pt_not ha).imp fun σ H Q ⟨w, Γ, e, z⟩ => by
    have z2 : rdg (qX X W) w H σ ((asB (evE a Γ)).bind fun b Γ => .ok (!b) Γ) fun b Γ' => ∀ H' w', Step H w H' w' → ER X.K w' Γ' σ H' → Q b H' := by
      have : asB (evE (.not a) Γ) = (asB (evE a Γ)).bind fun b Γ => .ok (!b) Γ := by
        simp only [evE]
        cases asB (evE a Γ) <;> rfl
      rw [← this]; exact z
    exact tT_bind (g := fun Γ => asB (evE a Γ)) e z2 fun t Γ1 H1 w1 s1 e1 z1 => z1 H1 w1 s1 e1
end
end L2.Gv

set_option Elab.async false
set_option linter.all false
set_option maxRecDepth 100000
set_option maxHeartbeats 2000000
/-! t.count(x) of a tuple that is known to have no dict -/
namespace L2.Gv
open PySem PySem.Spec PyProof.Rows L2
section
variable {X : Cx}
def tBMT (r : V → List V → Hp → VK → Prop) (to : TE) (t : TA) : TE := fun σ H Q => to σ H fun x H1 => (∃ a ys, x = .ref a ∧ TupH H1 a ys) ∧ t σ H1 fun xs H2 => r x xs H2 Q
theorem pe_bmT {o e : Expr} {es : List Expr} {to : TE} {t : TA} {name : Str} {apos cpos : Pos} {id : String} {r : V → List V → Hp → VK → Prop} (slot : Slot "tuple" name id) (hty : typeOf (.builtin id) = pure (.type "method_descriptor")) (hm : MtR X id r) (ho : PE X o to) (ha : PA X (e :: es) t)
    (hbase : attributeBase o name X.env (eval o X.env) = eval o X.env)
    (hfew : ((backTo cpos (starEach (e :: es) X.env)).all (fun x => !x.1) && (backToKw cpos (keywordEach [] X.env)).all (fun x => x.1.isSome)
      && decide ((e :: es).length + ([] : List Keyword).length + (if ([] : List Keyword).isEmpty then 0 else 1) < 30)) = true)
    (hline : (apos.endLine == cpos.line) = true) (hs : starEach (e :: es) X.env = (false, eval e X.env) :: starEach es X.env) (hplain : (backTo cpos (starEach es X.env)).any (·.1) = false) :
    PE X (.Call (.Attribute o name apos) (e :: es) [] cpos) (tBMT r to t) := by
  refine ⟨fun pins s σ H Q I h => wpAny_Call_method_late hbase hfew hline rfl (thn (ho.run pins s σ H _ I h) fun v s1 ⟨x, H1, I1, r1, ⟨a, ys, ex, ob, hk, hn⟩, q1⟩ => ?_)⟩
  subst ex
  obtain ⟨hg, _, its, _, ob2, h2, hc, _⟩ := (show ObjOk X.prog X.w H1 s1.heap a (.frz ob (.tup ys)) from I1.hok a _ hk)
  have e2 : ob = ob2 := Option.some.inj (hg.symm.trans h2)
  have rv : v = .ref a := r1
  refine ⟨"tuple", id, PySem.F.plainAttrs_tuple, slot, hty, by rw [rv]; exact ⟨ob2, h2, hc⟩, fun b eb => ?_, ?_⟩
  · rw [rv] at eb
    cases eb
    exact ⟨ob, hg, hn⟩
  have hA := ha.run cpos pins s1 σ H1 _ I1 q1
  rw [hs] at hA ⊢
  exact Calls.callWith_builtin (by show (false || (backTo cpos (starEach es X.env)).any (·.1)) = false; rw [hplain] <;> rfl) (Calls.evalArgs_plain (thn hA fun us s2 ⟨vs, H2, I2, r2, q2⟩ => hm pins s2 σ H2 _ vs v us Q I2 r1 r2 q2))
def rTC (K : PySem.W.Frag) : V → List V → Hp → VK → Prop := fun x xs H Q => ∃ a vs y d ds, x = .ref a ∧ xs = [y] ∧ SqT K H a vs ∧ DpAll K H vs ds ∧ Dp K H y d ∧ shp (.tuple ds) = true ∧ shp d = true ∧ Q (.int ((ds.countP fun z => PyData.eqv z d : Nat) : Int)) H
theorem mt_tcount (hu : X.A.units + 65 < cLine) : MtR X "tuple.count" (rTC X.K) := by
  intro pins s σ H x xs v us Q I rx rxs h
  obtain ⟨a, vs, y, d, ds, rfl, rfl, ht, ha, hy, sl, sd, q⟩ := h
  cases rx
  obtain ⟨uy, rfl, ry⟩ := rxs.one
  obtain ⟨bs, r1⟩ := Dp.reads I d y uy hy ry
  have hxs : PyData.canLayAll0 ds = true := by
    have := SeqAt.canLay_of_shaped sl
    simpa [PyData.canLay0] using this
  have hroom : X.A.units + 1 + min (PyData.depthAll ds) d.depth < cLine := room_in_shaped sd hu
  obtain ⟨its, rv, ⟨⟨cls, dd, data, sls⟩, ho, hc, n, hdt⟩, hz⟩ := I.tuple ht
  dsimp only at hc hdt
  subst hc hdt
  obtain ⟨as, h4⟩ := Dp.readsAll I ds _ its ha rv
  have hmap : its.map (SeqAt.readOf s.heap) = ds := SeqAt.readsAll_map ds its as hxs h4
  refine call_meets PySem.F.slot_tuple_count ⟨_, ho, rfl⟩ PySem.F.entry_tuple_count (PySem.F.args_tuple_count_2 _ _)
    (SeqAt.tuple_countAt a its.toArray n dd sls uy (fun u => PyData.eqv (SeqAt.readOf s.heap u) d)) ⟨ho, SeqAt.items_eqAt (vs := its.toArray) (show ReadsAll s.heap its.toArray.toList ds as from h4) r1 hxs (SeqAt.canLay_of_shaped sd) hroom, ?_⟩
  have ec : its.toArray.toList.countP (fun u => PyData.eqv (SeqAt.readOf s.heap u) d) = ds.countP fun z => PyData.eqv z d := by
    rw [← hmap, List.countP_map]; rfl
  refine ⟨.int ((ds.countP fun z => PyData.eqv z d : Nat) : Int), H, I.tok _, ⟨s.toks, ?_⟩, q⟩
  show Value.int ((its.toArray.toList.countP (fun u => PyData.eqv (SeqAt.readOf s.heap u) d) : Nat) : Int) s.toks = _
  rw [ec]
end
end L2.Gv

set_option Elab.async false
set_option linter.all false
set_option maxRecDepth 100000
set_option maxHeartbeats 2000000
namespace L2.Gv
open PySem PySem.Spec PyProof.Rows L2
section
variable {X : Cx} {ct : Ct} {W : WX} {k : Nat} {a b c : Ex} {x y z : Expr} {p : Pos} {es : Ar} {xs : List Expr}
/-! ### and, or -/
def tBv (q : Cn) (f : Sl → Rs Bool) : TE := fun σ H Q => ∃ w Γ, ER q.K w Γ σ H ∧ rdg q w H σ (f Γ) fun b Γ' => ∀ H' w', Step H w H' w' → ER q.K w' Γ' σ H' → Q (.bl b) H'
theorem tBv_of {σ : St} {H : Hp} {Q : VK} (h : tBv (qX X W) (fun Γ => asB (evE a Γ)) σ H Q) : tE (qX X W) a σ H Q := by
  obtain ⟨w, Γ, e, z⟩ := h
  refine ⟨w, Γ, e, (tst_of (Q := fun b H' => Q (.bl b) H') z).imp fun m Γ' z v H' w' po => ?_⟩
  obtain ⟨t, rfl, z⟩ := z v H' w' po
  exact z
theorem and_one (h : PE X x (tE (qX X W) a)) : PE X (.BoolOp .And [x] p) (tBv (qX X W) (evAnd (.cons a .nil))) := (pe_one h).imp fun σ H Q z => tBv_of z
theorem or_one (h : PE X x (tE (qX X W) a)) : PE X (.BoolOp .Or [x] p) (tBv (qX X W) (evOr (.cons a .nil))) := (pe_one h).imp fun σ H Q z => tBv_of z
theorem and_cons {r : Ar} (h : PE X x (tE (qX X W) a)) (hr : PE X (.BoolOp .And (y :: xs) p) (tBv (qX X W) (evAnd (.cons b r)))) : PE X (.BoolOp .And (x :: y :: xs) p) (tBv (qX X W) (evAnd (.cons a (.cons b r)))) :=
  (pe_and h hr).imp fun σ H Q ⟨w, Γ, e, z⟩ => bl_bind (q := qX X W) e z fun t Γ1 H1 w1 s1 e1 z1 => ⟨t, rfl, by
    cases t with
    | true => exact iteT ⟨w1, Γ1, e1, z1.imp fun b Γ2 z2 H2 w2 s2 e2 => z2 H2 w2 (s1.trans s2) e2⟩
    | false => exact iteF (z1 H1 w1 s1 e1)⟩
theorem or_cons {r : Ar} (h : PE X x (tE (qX X W) a)) (hr : PE X (.BoolOp .Or (y :: xs) p) (tBv (qX X W) (evOr (.cons b r)))) : PE X (.BoolOp .Or (x :: y :: xs) p) (tBv (qX X W) (evOr (.cons a (.cons b r)))) :=
  (pe_or h hr).imp fun σ H Q ⟨w, Γ, e, z⟩ => bl_bind (q := qX X W) e z fun t Γ1 H1 w1 s1 e1 z1 => ⟨t, rfl, by
    cases t with
    | false => exact iteF ⟨w1, Γ1, e1, z1.imp fun b Γ2 z2 H2 w2 s2 e2 => z2 H2 w2 (s1.trans s2) e2⟩
    | true => exact iteT (z1 H1 w1 s1 e1)⟩
theorem bool_bind {q : Cn} {w : Wn} {H : Hp} {σ : St} {Γ : Sl} {Q : VK} {f : Sl → Rs Bool} (e : ER q.K w Γ σ H) (z : rdg q w H σ ((f Γ).bind fun b Γ => .ok (.im (.bool b)) Γ) fun r Γ' => ∀ v H' w', Po q.K w H Γ' σ r v H' w' → Q v H') : tBv q f σ H Q :=
  ⟨w, Γ, e, (rdg.bind z).imp fun b Γ' z H' w' s e' => z _ _ _ ((bool_out e' b).trans s e.wf)⟩
theorem s_and (h : PE X (.BoolOp .And xs p) (tBv (qX X W) (evAnd es))) : PE X (.BoolOp .And xs p) (tE (qX X W) (.and es)) := h.imp fun σ H Q ⟨w, Γ, e, z⟩ => bool_bind e z
theorem s_or (h : PE X (.BoolOp .Or xs p) (tBv (qX X W) (evOr es))) : PE X (.BoolOp .Or xs p) (tE (qX X W) (.or es)) := h.imp fun σ H Q ⟨w, Γ, e, z⟩ => bool_bind e z
theorem asB_bool {r : Rs Bool} : asB (r.bind fun b Γ => .ok (.im (.bool b)) Γ) = r := by cases r <;> rfl
theorem tand_one (h : PT X x (tT (qX X W) fun Γ => asB (evE a Γ))) : PW X (.BoolOp .And [x] p) (tT (qX X W) (evAnd (.cons a .nil))) := (pw_and1 h).imp fun σ H Q z => z
theorem tor_one (h : PT X x (tT (qX X W) fun Γ => asB (evE a Γ))) : PW X (.BoolOp .Or [x] p) (tT (qX X W) (evOr (.cons a .nil))) := (pw_or1 h).imp fun σ H Q z => z
theorem tand_cons {r : Ar} (h : PT X x (tT (qX X W) fun Γ => asB (evE a Γ))) (hr : PW X (.BoolOp .And (y :: xs) p) (tT (qX X W) (evAnd (.cons b r)))) : PW X (.BoolOp .And (x :: y :: xs) p) (tT (qX X W) (evAnd (.cons a (.cons b r)))) :=
  (pw_and h hr).imp fun σ H Q ⟨w, Γ, e, z⟩ => tT_bind (q := qX X W) (g := fun Γ => asB (evE a Γ)) e z fun t Γ1 H1 w1 s1 e1 z1 => by
    cases t with
    | true => exact iteT ⟨w1, Γ1, e1, z1.imp fun b Γ2 z2 H2 w2 s2 e2 => z2 H2 w2 (s1.trans s2) e2⟩
    | false => exact iteF (z1 H1 w1 s1 e1)
theorem tor_cons {r : Ar} (h : PT X x (tT (qX X W) fun Γ => asB (evE a Γ))) (hr : PW X (.BoolOp .Or (y :: xs) p) (tT (qX X W) (evOr (.cons b r)))) : PW X (.BoolOp .Or (x :: y :: xs) p) (tT (qX X W) (evOr (.cons a (.cons b r)))) :=
  (pw_or h hr).imp fun σ H Q ⟨w, Γ, e, z⟩ => tT_bind (q := qX X W) (g := fun Γ => asB (evE a Γ)) e z fun t Γ1 H1 w1 s1 e1 z1 => by
    cases t with
    | false => exact iteF ⟨w1, Γ1, e1, z1.imp fun b Γ2 z2 H2 w2 s2 e2 => z2 H2 w2 (s1.trans s2) e2⟩
    | true => exact iteT (z1 H1 w1 s1 e1)
theorem t_and (h : PW X (.BoolOp .And xs p) (tT (qX X W) (evAnd es))) : PT X (.BoolOp .And xs p) (tT (qX X W) fun Γ => asB (evE (.and es) Γ)) := h.pt.imp fun σ H Q ⟨w, Γ, e, z⟩ => ⟨w, Γ, e, by
  have z2 : rdg (qX X W) w H σ (asB ((evAnd es Γ).bind fun b Γ => .ok (.im (.bool b)) Γ)) _ := z
  rw [asB_bool] at z2; exact z2⟩
theorem t_or (h : PW X (.BoolOp .Or xs p) (tT (qX X W) (evOr es))) : PT X (.BoolOp .Or xs p) (tT (qX X W) fun Γ => asB (evE (.or es) Γ)) := h.pt.imp fun σ H Q ⟨w, Γ, e, z⟩ => ⟨w, Γ, e, by
  have z2 : rdg (qX X W) w H σ (asB ((evOr es Γ).bind fun b Γ => .ok (.im (.bool b)) Γ)) _ := z
  rw [asB_bool] at z2; exact z2⟩
/-! ### subscripts -/
theorem map_im {o : Option D} {m : M} (h : o.map M.im = some m) : ∃ d, o = some d ∧ m = .im d := by
  cases o with
  | none => cases h
  | some d => cases h; exact ⟨d, rfl, rfl⟩
theorem s_idx (ha : PE X x (tE (qX X W) a)) (hb : PE X y (tE (qX X W) b)) (hp : plainE y = true) : PE X (.Subscript x y p) (tE (qX X W) (.idx a b)) :=
  (pe_ix ix_any ha hb (ix_plain hp)).imp fun σ H Q ⟨w, Γ, e, z⟩ => tE_bindD e z fun m1 Γ1 v1 H1 w1 s1 e1 r1 z1 => tE_bindD e1 z1 fun m2 Γ2 v2 H2 w2 s2 e2 r2 z2 => by
    obtain ⟨m, h1, z3⟩ := lift_some z2
    obtain ⟨d, h2, rfl⟩ := map_im h1
    exact ⟨w2, _, _, d, r1.mono s2.k0, r2, h2, fun u ru => z3 _ _ _ ((po_im e2 ru).trans (s1.trans s2) e.wf)⟩
theorem need_some {q : Cn} {α : Type} {w : Wn} {H : Hp} {σ : St} {Γ : Sl} {i : Nat} {r : Rs α} {P : α → Sl → Prop} (e : ER q.K w Γ σ H) (h : rdg q w H σ (need Γ i r) P) : (∃ v, σ[i]? = some (some v)) ∧ rdg q w H σ r P := by
  unfold need at h
  cases hg : Γ[i]? with
  | none => rw [hg] at h; exact h.elim
  | some o =>
    cases o with
    | none => rw [hg] at h; exact h.elim
    | some m =>
      rw [hg] at h
      obtain ⟨v, hv, _⟩ := e.at_ i m hg
      exact ⟨⟨v, hv⟩, h⟩
/-- the list in slot i, as it stands -/
theorem slot_at {K : PySem.W.Frag} {w : Wn} {H : Hp} {σ : St} {Γ : Sl} {i : Nat} {xs : List D} {v : V} (e : ER K w Γ σ H) (hg : Γ[i]? = some (some (.ml xs))) (hv : σ[i]? = some (some v)) :
    ∃ a vs, v = .ref a ∧ H a = some (.lst vs) ∧ w a = some (some i) ∧ vs.length ≤ sizeLine ∧ RDs K w H xs vs := by
  obtain ⟨u, hu, a, vs, rfl, h1, h2, h3, h4⟩ := e.at_ i _ hg
  rw [hv] at hu
  cases hu
  exact ⟨a, vs, rfl, h1, h2, h3, h4⟩
theorem ml_of {q : Cn} {α : Type} {w : Wn} {H : Hp} {σ : St} {Γ : Sl} {i : Nat} {f : List D → Rs α} {P : α → Sl → Prop} (h : rdg q w H σ (match Γ[i]? with | some (some (.ml xs)) => f xs | _ => .no) P) : ∃ xs, Γ[i]? = some (some (.ml xs)) ∧ rdg q w H σ (f xs) P := by
  split at h
  · rename_i xs hg
    exact ⟨xs, hg, h⟩
  · exact h.elim
theorem s_vidx {i : Nat} (ha : PE X x (tVar i)) (hb : PE X y (tE (qX X W) b)) (hp : plainE y = true) : PE X (.Subscript x y p) (tE (qX X W) (.vidx i b)) :=
  (pe_ix ix_list ha hb (ix_plain hp)).imp fun σ H Q ⟨w, Γ, e, z⟩ => by
    obtain ⟨⟨v, hv⟩, z⟩ := need_some (q := qX X W) e z
    refine ⟨v, hv, tE_bindD (q := qX X W) e z fun m1 Γ1 v1 H1 w1 s1 e1 r1 z1 => ?_⟩
    obtain ⟨xs, hg, z2⟩ := ml_of z1
    obtain ⟨m, h1, z3⟩ := lift_some z2
    obtain ⟨d, h2, rfl⟩ := map_im h1
    obtain ⟨aa, vs, rfl, g1, g2, g3, g4⟩ := slot_at e1 hg hv
    unfold idxD at h2
    split at h2
    · rename_i ys ii he1 he2
      cases he1
      rw [he2] at r1
      cases r1
      obtain ⟨u, h3, h4⟩ := g4.atI h2
      exact ⟨aa, vs, _, u, rfl, rfl, SqL.of g1, h3, z3 _ _ _ ((po_im e1 h4).trans s1 e.wf)⟩
    · rename_i he1 _; cases he1
    · rename_i he1 _; cases he1
    · cases h2
/-- the part of a slice -/
def tO (q : Cn) (es : Ar) : TO := fun σ H Q => ∃ w Γ, ER q.K w Γ σ H ∧ rdg q w H σ ((evA es Γ).bind toI) fun o Γ' => ∀ H' w', Step H w H' w' → ER q.K w' Γ' σ H' → Q o H'
theorem o_none : PO X none (tO (qX X W) .nil) := ⟨fun pins s σ H Q I ⟨w, Γ, e, z⟩ => po_none.run pins s σ H Q I (z H w Step.refl e)⟩
theorem o_some (h : PE X x (tE (qX X W) a)) : PO X (some x) (tO (qX X W) (.cons a .nil)) := ⟨fun pins s σ H Q I ⟨w, Γ, e, z⟩ => (po_some h).run pins s σ H Q I (by
  have z0 : rdg (qX X W) w H σ ((evE a Γ).bind fun m Γ => toI [frz m] Γ) fun o Γ' => ∀ H' w', Step H w H' w' → ER X.K w' Γ' σ H' → Q o H' := by
    have : (evA (.cons a .nil) Γ).bind toI = (evE a Γ).bind fun m Γ => toI [frz m] Γ := by
      simp only [evA]
      cases evE a Γ <;> rfl
    rw [← this]; exact z
  refine tE_bindD (q := qX X W) e z0 fun m Γ1 v H1 w1 s1 e1 r1 z1 => ?_
  unfold toI asI at z1
  split at z1
  · rename_i o ho
    split at ho
    · rename_i hq; cases hq
    · rename_i i hq
      cases ho
      have hf : frz m = .int i := by injection hq
      rw [hf] at r1
      cases r1
      exact ⟨i, rfl, z1 H1 w1 s1 e1⟩
    · cases ho
  · exact z1.elim)⟩
theorem s_slc {lo hi : Ar} {l h : Option Expr} {p2 : Pos} (ha : PE X x (tE (qX X W) a)) (hl : PO X l (tO (qX X W) lo)) (hh : PO X h (tO (qX X W) hi)) : PE X (.Subscript x (.Slice l h none p2) p) (tE (qX X W) (.slc a lo hi)) :=
  (pe_slice sl_any ha hl hh).imp fun σ H Q ⟨w, Γ, e, z⟩ => tE_bindD e z fun m1 Γ1 v1 H1 w1 s1 e1 r1 z1 =>
    ⟨w1, Γ1, e1, (rdg.bind z1).imp fun o1 Γ2 z2 H2 w2 s2 e2 => ⟨w2, Γ2, e2, (rdg.bind (rdg.step z2 s2)).imp fun o2 Γ3 z3 H3 w3 s3 e3 => by
      obtain ⟨m, h1, z4⟩ := lift_some z3
      exact ⟨w3, _, m, e3.wf, (r1.mono s2.k0).mono s3.k0, h1, fun v H' w' pr => z4 v H' w' ((pr.po e3).trans ((s1.trans s2).trans s3) e.wf)⟩⟩⟩
theorem s_rev {kk : Nat} {p1 p2 p3 : Pos} (ha : PE X x (tE (qX X W) a)) : PE X (.Subscript x (.Slice none none (some (.UnaryOp .USub (.Constant (.int 1) kk p1) p2)) p3) p) (tE (qX X W) (.rev a)) :=
  (pe_revB ha).imp fun σ H Q ⟨w, Γ, e, z⟩ => tE_bindD e z fun m1 Γ1 v1 H1 w1 s1 e1 r1 z1 => by
    split at z1
    · rename_i xs hx
      rw [hx] at r1
      cases r1 with
      | lst h1 n1 l1 rs => exact ⟨_, _, rfl, .inl ⟨SqL.of h1, fun pp hp => z1 _ _ _ ((new_lst e1 hp (by rw [List.length_reverse]; exact l1) rs.reverse).trans s1 e.wf)⟩⟩
    · rename_i xs hx
      rw [hx] at r1
      cases r1 with
      | tup h1 n1 l1 rs => exact ⟨_, _, rfl, .inr ⟨h1.sq, fun pp oo hp ho => z1 _ _ _ ((new_tup e1 hp ho (by rw [List.length_reverse]; exact l1) rs.reverse).trans s1 e.wf)⟩⟩
    · exact z1.elim
/-! ### built-ins -/
theorem s_vlen {i : Nat} {p2 : Pos} (C : XC X ct W k) (hg : Gl X "len") (ha : PE X x (tVar i)) (hp : plainE x = true) : PE X (.Call (.Name "len" p2) [x] [] p) (tE (qX X W) (.vlen i)) :=
  (pe_callB call_len_seq hg (C.bi "len" (by decide)) boot_len (pa_cons ha pa_nil (star_plain hp)) (by decide) (by decide) (star_plain hp) rfl).imp fun σ H Q ⟨w, Γ, e, z⟩ => by
    simp only [evE] at z
    split at z
    · rename_i xs hg
      obtain ⟨v, hv, aa, vs, rfl, g1, g2, g3, g4⟩ := e.at_ i _ hg
      refine ⟨_, hv, aa, vs, rfl, .inl (SqL.of g1), ?_⟩
      rw [← g4.length]
      exact z _ _ _ (po_im e (.int _))
    · rename_i xs hg
      obtain ⟨v, hv, aa, bs, rfl, g1, g2, g3, g4, g5⟩ := e.at_ i _ hg
      refine ⟨_, hv, aa, _, rfl, .inl (SqL.of g1), ?_⟩
      rw [List.length_map, ← g5.length]
      exact z _ _ _ (po_im e (.int _))
    · exact z.elim
def biId : Bi → String
  | .len => "len"
  | .all => "all"
  | .any => "any"
  | .max => "max"
  | .sum => "sum"
  | .sorted => "sorted"
  | .tuple => "tuple"
  | .list => "list"
  | .repr => "repr"
  | .dict => "dict"
  | .min => "min"
theorem bi_core {bb : Bi} {σ : St} {H : Hp} {Q : VK} (h : tE (qX X W) (.bi bb es) σ H Q) : tCB (rBi X.K bb) (tAs (qX X W) es) σ H Q := by
  obtain ⟨w, Γ, e, z⟩ := h
  refine tA_bind (q := qX X W) e z fun ds Γ1 vs H1 w1 s1 e1 r1 z1 => ?_
  obtain ⟨m, h1, z2⟩ := lift_some z1
  exact ⟨w1, ds, m, e1.wf, r1, h1, fun v H' w' pr => z2 v H' w' ((pr.po e1).trans s1 e.wf)⟩
theorem s_bi {bb : Bi} {p2 : Pos} (C : XC X ct W k) (hg : Gl X (biName bb)) (ha : PA X (x :: xs) (tAs (qX X W) es)) (hp : plainE x = true) (hps : plainEs xs = true) : PE X (.Call (.Name (biName bb) p2) (x :: xs) [] p) (tE (qX X W) (.bi bb es)) := by
  have st := star_plain (es := xs) (env := X.env) hp
  have sn := star_none (env := X.env) (pos := p) hps
  cases bb with
  | len => exact (pe_callB cb_len hg (C.bi "len" (by decide)) boot_len ha (by decide) (by decide) st sn).imp fun σ H Q h => bi_core h
  | all => exact (pe_callB (cb_all C.calm) hg (C.bi "all" (by decide)) (by decide +kernel) ha (by decide) (by decide) st sn).imp fun σ H Q h => bi_core h
  | any => exact (pe_callB (cb_any C.calm) hg (C.bi "any" (by decide)) (by decide +kernel) ha (by decide) (by decide) st sn).imp fun σ H Q h => bi_core h
  | max => exact (pe_callB (cb_max C.calm C.hu65) hg (C.bi "max" (by decide)) (by decide +kernel) ha (by decide) (by decide) st sn).imp fun σ H Q h => bi_core h
  | sum => exact (pe_callB (cb_sum C.calm) hg (C.bi "sum" (by decide)) (by decide +kernel) ha (by decide) (by decide) st sn).imp fun σ H Q h => bi_core h
  | sorted => exact (pe_callB (cb_sorted C.calm C.hu100) hg (C.bi "sorted" (by decide)) (by decide +kernel) ha (by decide) (by decide) st sn).imp fun σ H Q h => bi_core h
  | tuple => exact (pe_callTy cb_tuple hg (C.bi "tuple" (by decide)) (by decide +kernel) ha (by decide) (by decide) st sn).imp fun σ H Q h => bi_core h
  | list => exact (pe_callTy (cb_list C.calm) hg (C.bi "list" (by decide)) (by decide +kernel) ha (by decide) (by decide) st sn).imp fun σ H Q h => bi_core h
  | dict => exact (pe_callTy (cb_dict C.calm C.hu100) hg (C.bi "dict" (by decide)) (by decide +kernel) ha (by decide) (by decide) st sn).imp fun σ H Q h => bi_core h
  | min => exact (pe_callB (cb_min C.calm C.hu65) hg (C.bi "min" (by decide)) (by decide +kernel) ha (by decide) (by decide) st sn).imp fun σ H Q h => bi_core h
  | repr => exact (pe_callB (cb_repr C.gd C.hu100) hg (C.bi "repr" (by decide)) (by decide +kernel) ha (by decide) (by decide) st sn).imp fun σ H Q h => bi_core h
theorem s_lrng {p1 p2 p3 : Pos} (C : XC X ct W k) (hg : Gl X "list") (hg2 : Gl X "range") (ha : PE X x (tE (qX X W) a)) (hp : plainE x = true) : PE X (.Call (.Name "list" p1) [.Call (.Name "range" p2) [x] [] p3] [] p) (tE (qX X W) (.lrng (.cons a .nil))) :=
  (pe_listRg C.calm hg (C.bi "list" (by decide)) (prg_1 hg2 (C.bi "range" (by decide)) ha (star_plain hp)) rfl).imp fun σ H Q ⟨w, Γ, e, z⟩ => by
    have z0 : rdg (qX X W) w H σ ((evE a Γ).bind fun m Γ => match frz m with | .int j => (if small62 j && lineOk j.toNat then .ok (.ml (rangeD 0 j)) Γ else .no) | _ => .no) fun r Γ' => ∀ v H' w', Po X.K w H Γ' σ r v H' w' → Q v H' := by
      have : evE (.lrng (.cons a .nil)) Γ = (evE a Γ).bind fun m Γ => match frz m with | .int j => (if small62 j && lineOk j.toNat then .ok (.ml (rangeD 0 j)) Γ else .no) | _ => .no := by
        simp only [evE, evA]
        cases evE a Γ with
        | ok m Γ1 => simp only [Rs.bind]; cases frz m <;> rfl
        | ex _ _ => rfl
        | no => rfl
      rw [← this]; exact z
    refine tE_bindD (q := qX X W) e z0 fun m Γ1 v H1 w1 s1 e1 r1 z1 => ?_
    split at z1
    · rename_i j hj
      rw [hj] at r1
      cases r1
      split at z1
      · rename_i hc
        unfold small62 at hc
        simp only [Bool.and_eq_true, decide_eq_true_eq] at hc
        have hl := lineOk_le hc.2
        rw [sizeLine_eq] at hl
        have h0 : (j - 0).toNat = j.toNat := by rw [Int.sub_zero]
        refine ⟨j, rfl, ⟨by omega, by omega, hc.1.1, hc.1.2, by rw [h0]; exact hl⟩, fun pp hp => ?_⟩
        have hlen : (rgV 0 j).length ≤ sizeLine := by rw [rgV_length, h0, sizeLine_eq]; exact hl
        refine z1 _ _ _ ((new_lst e1 hp hlen ?_).trans s1 e.wf)
        unfold rangeD rgV
        generalize List.range (j - 0).toNat = l
        induction l with
        | nil => exact .nil
        | cons n l ih => exact .cons (.int _) ih
      · exact z1.elim
    · exact z1.elim
theorem s_trg {p1 p2 p3 : Pos} (C : XC X ct W k) (hg : Gl X "tuple") (hg2 : Gl X "range") (ha : PE X x (tE (qX X W) a)) (hp : plainE x = true) : PE X (.Call (.Name "tuple" p1) [.Call (.Name "range" p2) [x] [] p3] [] p) (tE (qX X W) (.trg (.cons a .nil))) :=
  (pe_tupRgN C.calm hg (C.bi "tuple" (by decide)) (prg_1 hg2 (C.bi "range" (by decide)) ha (star_plain hp)) rfl).imp fun σ H Q ⟨w, Γ, e, z⟩ => by
    have z0 : rdg (qX X W) w H σ ((evE a Γ).bind fun m Γ => match frz m with | .int j => (if small62 j && lineOk j.toNat then .ok (.im (.tuple (rangeD 0 j))) Γ else .no) | _ => .no) fun r Γ' => ∀ v H' w', Po X.K w H Γ' σ r v H' w' → Q v H' := by
      have : evE (.trg (.cons a .nil)) Γ = (evE a Γ).bind fun m Γ => match frz m with | .int j => (if small62 j && lineOk j.toNat then .ok (.im (.tuple (rangeD 0 j))) Γ else .no) | _ => .no := by
        simp only [evE, evA]
        cases evE a Γ with
        | ok m Γ1 => simp only [Rs.bind]; cases frz m <;> rfl
        | ex _ _ => rfl
        | no => rfl
      rw [← this]; exact z
    refine tE_bindD (q := qX X W) e z0 fun m Γ1 v H1 w1 s1 e1 r1 z1 => ?_
    split at z1
    · rename_i j hj
      rw [hj] at r1
      cases r1
      split at z1
      · rename_i hc
        unfold small62 at hc
        simp only [Bool.and_eq_true, decide_eq_true_eq] at hc
        have hl := lineOk_le hc.2
        rw [sizeLine_eq] at hl
        have h0 : (j - 0).toNat = j.toNat := by rw [Int.sub_zero]
        refine ⟨j, rfl, ⟨by omega, by omega, hc.1.1, hc.1.2, by rw [h0]; exact hl⟩, fun pp oo hp ho => ?_⟩
        have hlen : (rgV 0 j).length ≤ sizeLine := by rw [rgV_length, h0, sizeLine_eq]; exact hl
        refine z1 _ _ _ ((new_tup e1 hp ho hlen ?_).trans s1 e.wf)
        unfold rangeD rgV
        generalize List.range (j - 0).toNat = l
        induction l with
        | nil => exact .nil
        | cons n l ih => exact .cons (.int _) ih
      · exact z1.elim
    · exact z1.elim
theorem s_isi {t : Ty} {p1 p2 : Pos} (C : XC X ct W k) (hg : Gl X "isinstance") (hg2 : Gl X (tyStr t)) (ha : PE X x (tE (qX X W) a)) (hp : plainE x = true) : PE X (.Call (.Name "isinstance" p1) [x, .Name (tyStr t) p2] [] p) (tE (qX X W) (.isi a t)) := by
  have hty : PE X (.Name (tyStr t) p2) (tC (.ty (tyName t))) := by
    cases t with
    | int => exact pe_bltn hg2 (C.bi "int" (by decide)) (by decide +kernel) rfl
    | bool => exact pe_bltn hg2 (C.bi "bool" (by decide)) (by decide +kernel) rfl
    | str => exact pe_bltn hg2 (C.bi "str" (by decide)) (by decide +kernel) rfl
    | tuple => exact pe_bltn hg2 (C.bi "tuple" (by decide)) (by decide +kernel) rfl
    | list => exact pe_bltn hg2 (C.bi "list" (by decide)) (by decide +kernel) rfl
  refine (pe_callB (cb_isi t) hg (C.bi "isinstance" (by decide)) (by decide +kernel) (pa_cons ha (pa_cons hty pa_nil rfl) (star_plain hp)) (by decide) (by decide) (star_plain hp) rfl).imp fun σ H Q ⟨w, Γ, e, z⟩ => ?_
  refine tE_bindD (q := qX X W) e z fun m Γ1 v H1 w1 s1 e1 r1 z1 => ?_
  split at z1
  · exact z1.elim
  · rename_i hn
    exact ⟨w1, frz m, v, rfl, r1, fun z r q => hn z r q, z1 _ _ _ ((bool_out (q := qX X W) e1 _).trans s1 e.wf)⟩
/-! ### methods of lists -/
theorem att_plain {o : Expr} {nm : Str} {env : PySem.Env} (h : attB o = true) : attributeBase o nm env (eval o env) = eval o env := by
  unfold attB at h
  split at h
  · cases h
  · rename_i hn
    unfold attributeBase
    split
    · exact absurd rfl (hn _ _ _)
    · rfl
theorem few_one {pos : Pos} (hp : plainE x = true) : ((backTo pos (starEach [x] X.env)).all (fun x => !x.1) && (backToKw pos (keywordEach [] X.env)).all (fun x => x.1.isSome)
      && decide ([x].length + ([] : List Keyword).length + (if ([] : List Keyword).isEmpty then 0 else 1) < 30)) = true := by
  rw [star_plain hp]; rfl
theorem pe_bm1 {o : Expr} {to : TE} {t : TA} {name : Str} {ap cp : Pos} {T id : String} {r : V → List V → Hp → VK → Prop} (pa : PlainAttrs T) (slot : Slot T name id) (hty : typeOf (.builtin id) = pure (.type "method_descriptor")) (hm : MtR X id r) (ho : PE X o to) (ha : PA X [x] t)
    (hb : attB o = true) (hl : (ap.endLine == cp.line) = true) (hp : plainE x = true) : PE X (.Call (.Attribute o name ap) [x] [] cp) (tBM X.K T r to t) :=
  pe_bm pa slot hty hm ho ha (att_plain hb) (few_one hp) hl (star_plain hp) rfl
theorem mt_bm {m : Mt} {o : Expr} {to : TE} {t : TA} {ap cp : Pos} (C : XC X ct W k) (ho : PE X o to) (ha : PA X [x] t) (hb : attB o = true) (hl : (ap.endLine == cp.line) = true) (hp : plainE x = true) : PE X (.Call (.Attribute o (mtStr m) ap) [x] [] cp) (tBM X.K "list" (rMt X.K m) to t) := by
  cases m with
  | count => exact pe_bm1 PySem.F.plainAttrs_list PySem.F.slot_list_count PySem.F.type_list_count (mt_any .count C.hu65) ho ha hb hl hp
  | index => exact pe_bm1 PySem.F.plainAttrs_list PySem.F.slot_list_index PySem.F.type_list_index (mt_any .index C.hu65) ho ha hb hl hp
theorem mtD_lay {m : Mt} {ys : List D} {ds : List D} {r : M} (h : mtD m (.list ys) ds = some r) : PyData.canLayAll0 ys = true := by
  cases m with
  | count =>
    change mtCount _ ds = some r at h; unfold mtCount at h; split at h
    · rename_i zs k he
      cases he
      cases e : intsD ys with
      | none => rw [e] at h; cases h
      | some ns => rw [ints_lay e]; exact ints_lay0 ns
    · cases h
  | index =>
    change mtIndex _ ds = some r at h; unfold mtIndex at h; split at h
    · rename_i zs k he
      cases he
      split at h
      · rename_i hs
        rw [Bool.and_eq_true] at hs
        have := SeqAt.canLay_of_shaped hs.2
        simpa [PyData.canLay0] using this
      · cases h
    · cases h
theorem pe_or {e : Expr} {t t' : TE} (h : PE X e t) (h' : PE X e t') : PE X e (fun σ H Q => t σ H Q ∨ t' σ H Q) :=
  ⟨fun pins s σ H Q I z => z.elim (h.run pins s σ H Q I) (h'.run pins s σ H Q I)⟩
theorem tE_bindE {q : Cn} {α : Type} {w : Wn} {H : Hp} {σ : St} {Γ : Sl} {P : α → Sl → Prop} {c : Ex} {Q : VK} {f : M → Sl → Rs α} (e : ER q.K w Γ σ H) (h : rdg q w H σ ((evE c Γ).bind f) P)
    (k : ∀ r Γ' v H' w', evE c Γ = .ok r Γ' → Step H w H' w' → ER q.K w' Γ' σ H' → RD q.K w' H' (frz r) v → rdg q w' H' σ (f r Γ') P → Q v H') : tE q c σ H Q := by
  refine ⟨w, Γ, e, ?_⟩
  cases hc : evE c Γ with
  | ok r Γ1 =>
    rw [hc] at h
    exact fun v H' w' po => by
      obtain ⟨w2, s2, e2, r2⟩ := po.frz
      exact k r Γ1 v H' w2 hc s2 e2 r2 (rdg.step (r := f r Γ1) h s2)
  | ex x Γ1 => rw [hc] at h; exact h
  | no => rw [hc] at h; exact h
theorem s_mthL {m : Mt} {o : Expr} {ap cp : Pos} (C : XC X ct W k) (ho : PE X o (tE (qX X W) a)) (ha : PA X [x] (tAs (qX X W) es)) (hb : attB o = true) (hl : (ap.endLine == cp.line) = true) (hp : plainE x = true) {σ : St} {H : Hp} {Q : VK} {w : Wn} {Γ : Sl} (e : ER X.K w Γ σ H)
    (z : rdg (qX X W) w H σ ((evE a Γ).bind fun x Γ => if mthB m (frz x) then (evA es Γ).bind fun ds Γ => lift (mthR m (frz x) ds) Γ else .no) fun r Γ' => ∀ v H' w', Po X.K w H Γ' σ r v H' w' → Q v H')
    (nt : ∀ r Γ' ys, m = .count → evE a Γ = .ok r Γ' → frz r ≠ .tuple ys) : tBM X.K "list" (rMt X.K m) (tE (qX X W) a) (tAs (qX X W) es) σ H Q := by
  refine tE_bindE (q := qX X W) e z fun m1 Γ1 v1 H1 w1 he s1 e1 r1 z1 => ?_
  have nt := nt m1 Γ1
  generalize frz m1 = d at r1 z1 nt
  split at z1
  case isFalse => exact z1.elim
  rename_i hB
  cases r1 with
  | lst h1 n1 l1 rs =>
    rename_i aa us ys
    refine ⟨.inl ⟨rfl, _, SqL.of h1⟩, tA_bind e1 z1 fun ds Γ2 vs H2 w2 s2 e2 r2 z2 => ?_⟩
    obtain ⟨r, h2, z3⟩ := lift_some z2
    have h2 : mtD m (.list ys) ds = some r := h2
    obtain ⟨h1', n1'⟩ := s2.k0 _ _ h1 n1
    exact ⟨w2, _, ds, r, e2.wf, .lst (SqL.of h1') ((rs.mono s2.k0).dp (mtD_lay h2)), ⟨ys, _, rfl, rs.mono s2.k0, _, rfl, h1'⟩, r2, h2, fun v H' w' pr => z3 v H' w' ((pr.po e2).trans (s1.trans s2) e.wf)⟩
  | tup h1 n1 l1 rs =>
    cases m with
    | count => exact absurd rfl (nt _ rfl he)
    | index => cases hB
  | _ => cases m <;> cases hB
theorem s_mth {m : Mt} {o : Expr} {ap cp : Pos} (C : XC X ct W k) (ho : PE X o (tE (qX X W) a)) (ha : PA X [x] (tAs (qX X W) es)) (hb : attB o = true) (hl : (ap.endLine == cp.line) = true) (hp : plainE x = true) : PE X (.Call (.Attribute o (mtStr m) ap) [x] [] cp) (tE (qX X W) (.mth m a es)) := by
  cases m with
  | index => exact (mt_bm (m := .index) C ho ha hb hl hp).imp fun σ H Q ⟨w, Γ, e, z⟩ => s_mthL C ho ha hb hl hp e z fun _ _ _ h => by cases h
  | count =>
    refine (pe_or (mt_bm (m := .count) C ho ha hb hl hp) (pe_bmT PySem.F.slot_tuple_count PySem.F.type_tuple_count (mt_tcount C.hu65) ho ha (att_plain hb) (few_one hp) hl (star_plain hp) rfl)).imp fun σ H Q ⟨w, Γ, e, z⟩ => ?_
    by_cases hT : ∃ r Γ' ys, evE a Γ = .ok r Γ' ∧ frz r = .tuple ys
    · right
      obtain ⟨r0, Γ0, ys, h0, ht⟩ := hT
      refine tE_bindE (q := qX X W) e z fun m1 Γ1 v1 H1 w1 he s1 e1 r1 z1 => ?_
      rw [h0] at he
      cases he
      rw [ht] at r1 z1
      cases r1 with
      | tup h1 n1 l1 rs =>
        refine ⟨⟨_, _, rfl, h1⟩, tA_bind e1 z1 fun ds Γ2 vs H2 w2 s2 e2 r2 z2 => ?_⟩
        obtain ⟨r, h2, z3⟩ := lift_some z2
        have h3 : ∃ d, ds = [d] ∧ shp d = true ∧ shp (.tuple ys) = true ∧ r = .im (.int ((ys.countP fun y => PyData.eqv y d : Nat) : Int)) := by
          have h2 : mtT .count ys ds = some r := h2
          match ds, h2 with
          | [d], h2 =>
            unfold mtT at h2
            dsimp only at h2
            split at h2
            · rename_i hs
              rw [Bool.and_eq_true] at hs
              exact ⟨d, rfl, hs.1, hs.2, (Option.some.inj h2).symm⟩
            · cases h2
          | [], h2 => cases h2
          | _ :: _ :: _, h2 => cases h2
        obtain ⟨d, rfl, hs1, hs2, rfl⟩ := h3
        obtain ⟨h1', n1'⟩ := s2.k0.tt h1 n1
        obtain ⟨y, rfl, hy⟩ := one_of r2
        have hl0 : PyData.canLayAll0 ys = true := by
          have := SeqAt.canLay_of_shaped hs2
          simpa [PyData.canLay0] using this
        exact ⟨_, _, y, d, ys, rfl, rfl, h1'.sq, (rs.mono s2.k0).dp hl0, hy.dp' hs1, hs2, hs1, z3 _ _ _ ((po_im e2 (.int _)).trans (s1.trans s2) e.wf)⟩
    · left
      exact s_mthL C ho ha hb hl hp e z fun r Γ' ys _ he ht => hT ⟨r, Γ', ys, he, ht⟩
theorem needL_some {q : Cn} {α : Type} {w : Wn} {H : Hp} {σ : St} {Γ : Sl} {i : Nat} {r : Rs α} {P : α → Sl → Prop} (e : ER q.K w Γ σ H) (h : rdg q w H σ (needL Γ i r) P) : (∃ a vs, σ[i]? = some (some (.ref a)) ∧ H a = some (.lst vs)) ∧ rdg q w H σ r P := by
  unfold needL at h
  split at h
  · rename_i xs hg
    obtain ⟨v, hv, a, vs, rfl, h1, _⟩ := e.at_ i _ hg
    exact ⟨⟨a, vs, hv, h1⟩, h⟩
  · exact h.elim
theorem s_vmth {m : Mt} {o : Expr} {i : Nat} {ap cp : Pos} (C : XC X ct W k) (ho : PE X o (tVar i)) (ha : PA X [x] (tAs (qX X W) es)) (hb : attB o = true) (hl : (ap.endLine == cp.line) = true) (hp : plainE x = true) : PE X (.Call (.Attribute o (mtStr m) ap) [x] [] cp) (tE (qX X W) (.vmth m i es)) :=
  (mt_bm (m := m) C ho ha hb hl hp).imp fun σ H Q ⟨w, Γ, e, z⟩ => by
    obtain ⟨⟨a0, vs0, hv, h0⟩, z⟩ := needL_some (q := qX X W) e z
    refine ⟨_, hv, .inl ⟨rfl, _, SqL.of h0⟩, tA_bind (q := qX X W) e z fun ds Γ2 vs H2 w2 s2 e2 r2 z2 => ?_⟩
    obtain ⟨ys, hg, z3⟩ := ml_of z2
    obtain ⟨aa, us, h1, g1, g2, g3, g4⟩ := slot_at e2 hg hv
    cases h1
    obtain ⟨r, h2, z4⟩ := lift_some z3
    exact ⟨w2, _, ds, r, e2.wf, .lst (SqL.of g1) (g4.dp (mtD_lay h2)), ⟨ys, us, rfl, g4, _, rfl, g1⟩, r2, h2, fun v H' w' pr => z4 v H' w' ((pr.po e2).trans s2 e.wf)⟩
theorem s_vpop {o : Expr} {i : Nat} {ap cp : Pos} (C : XC X ct W k) (ho : PE X o (tVar i)) (ha : PE X x (tE (qX X W) a)) (hb : attB o = true) (hl : (ap.endLine == cp.line) = true) (hp : plainE x = true) : PE X (.Call (.Attribute o "pop" ap) [x] [] cp) (tE (qX X W) (.vpop i a)) :=
  (pe_bm1 PySem.F.plainAttrs_list PySem.F.slot_list_pop PySem.F.type_list_pop mt_popAt ho (pa_cons ha pa_nil (star_plain hp)) hb hl hp).imp fun σ H Q ⟨w, Γ, e, z⟩ => by
    obtain ⟨⟨a0, vs0, hv, h0⟩, z⟩ := needL_some (q := qX X W) e z
    refine ⟨_, hv, .inl ⟨rfl, _, SqL.of h0⟩, tE_bindD (q := qX X W) e z fun m Γ2 v2 H2 w2 s2 e2 r2 z2 => ?_⟩
    obtain ⟨ys, hg, z3⟩ := ml_of z2
    unfold popD at z3
    split at z3
    · rename_i kk hk
      rw [hk] at r2
      cases r2
      split at z3
      · rename_i hc
        simp only [Bool.and_eq_true, decide_eq_true_eq] at hc
        split at z3
        · rename_i j hj
          split at z3
          · rename_i d hd
            obtain ⟨aa, us, hσ, g1, g2, g3, g4, g5⟩ := slot_ml e2 hg
            rw [hv] at hσ
            cases hσ
            obtain ⟨u, hu, ru⟩ := g4.get j d hd
            obtain ⟨st, er⟩ := g5 _ _ (Nat.le_trans (List.length_eraseIdx_le us j) g3) (g4.eraseIdx j)
            refine ⟨_, us, kk, j, u, rfl, rfl, g1, hc.1, hc.2, by rw [← g4.length]; exact hj, hu, z3 _ _ w2 ⟨s2.trans st, er, RD.mono st.k0 ru, fun _ o => o.elim⟩⟩
          · exact z3.elim
        · exact z3.elim
      · exact z3.elim
    · exact z3.elim
theorem vin_core {neg : Bool} {i : Nat} {σ : St} {H : Hp} {Q : VK} {w : Wn} {Γ : Sl} (e : ER X.K w Γ σ H) (z : rdg (qX X W) w H σ (evE (.vin neg a i) Γ) fun r Γ' => ∀ v H' w', Po X.K w H Γ' σ r v H' w' → Q v H') :
    tOp (rCmp X.K (if neg then .NotIn else .In)) (tE (qX X W) a) (tVar i) σ H Q := by
  refine tE_bindD (q := qX X W) (c := a) e z fun m1 Γ1 v1 H1 w1 s1 e1 r1 z1 => ?_
  obtain ⟨ys, hg, z2⟩ := ml_of z1
  obtain ⟨v, hv, hr⟩ := e1.at_ i _ hg
  obtain ⟨m, h1, z3⟩ := lift_some z2
  obtain ⟨t, h2, rfl⟩ := bM_some h1
  -- for the while the list counts as data
  obtain ⟨v', w', hv', po⟩ := slot_frz e1 hg
  rw [hv] at hv'
  cases hv'
  exact ⟨v, hv, w', _, _, t, r1.mono po.st.k0, po.rm, h2, z3 _ _ _ ((bool_out (q := qX X W) e1 t).trans s1 e.wf)⟩
theorem s_vin {neg : Bool} {i : Nat} (C : XC X ct W k) (ha : PE X x (tE (qX X W) a)) (hv : PE X y (tVar i)) (hm : behindInMarks (if neg then .NotIn else .In) y = false) : PE X (.Compare x [if neg then .NotIn else .In] [y] p) (tE (qX X W) (.vin neg a i)) :=
  (pe_cmpR (op_cmp _ C.hu65) ha hv hm).imp fun σ H Q ⟨w, Γ, e, z⟩ => vin_core e z
theorem t_vin {neg : Bool} {i : Nat} (C : XC X ct W k) (ha : PE X x (tE (qX X W) a)) (hv : PE X y (tVar i)) (hm : behindInMarks (if neg then .NotIn else .In) y = false) : PT X (.Compare x [if neg then .NotIn else .In] [y] p) (tT (qX X W) fun Γ => asB (evE (.vin neg a i) Γ)) :=
  (pt_cmpR (op_cmp _ C.hu65) ha hv hm).imp fun σ H Q ⟨w, Γ, e, z⟩ => vin_core e (tst_of z)
/-! ### calls of defs -/
/-- the def that the module's name x holds does what F says -/
def CalOk (X : Cx) (k : Nat) (x : Str) (F : Fn) : Prop := ∃ f, FnQ X.prog X.w X.K X.mg X.base k f (spF X.K X.mg F) ∧ X.mg x = some (.ref f) ∧ PySem.W.keepIn X.K (.ref f) = true
theorem s_call {f : Str} {F : Fn} {p2 : Pos} (C : XC X ct W k) (hF : CalOk X k f F) (hg : Gl X f) (hd : (f == ("__debug__" : Str)) = false) (ha : PA X (x :: xs) (tAs (qX X W) es)) (hn : arN es = F.np) (hp : plainE x = true) (hps : plainEs xs = true) :
    PE X (.Call (.Name f p2) (x :: xs) [] p) (tE (qX X W) (.call f F es)) := by
  obtain ⟨fa, G, h1, h2⟩ := hF
  refine (pe_callG G C.rm C.gd C.tk hg h1 h2 ha hd (star_plain hp) (star_none hps)).imp fun σ H Q ⟨w, Γ, e, z⟩ => tA_bindN (q := qX X W) e z fun ds Γ1 vs H1 w1 hl s1 e1 r1 z1 => ?_
  cases hio : F.io with
  | true => rw [hio] at z1; exact z1.elim
  | false =>
    rw [hio] at z1
    refine ⟨zone w1, ds.map .im, zone_wf e1.wf, by rw [List.length_map, hl, hn], argR_im (r1.mono zone_k0), ?_⟩
    cases hs : F.sem (ds.map .im) with
    | no => rw [hs] at z1; exact z1.elim
    | ok r pm =>
      rw [hs] at z1
      exact fun v H' w' st wf rm nw _ => z1 v H' _ ((call_po e1 st wf rm nw).trans s1 e.wf)
    | ex xn pm =>
      rw [hs] at z1
      exact fun cls d H' w' st wf _ xr => z1 cls d H' _ (back_ext e1.wf st).step (e1.ext (back_ext e1.wf st) (back_wf e1.wf st wf)) xr
theorem ml_io {K : PySem.W.Frag} {w : Wn} {H : Hp} {pm : M} {a : Addr} {vs : List V} (h : IoR K true (.ref a :: vs) w H pm) : RM K w H (some 0) pm (.ref a) := by
  obtain ⟨v0, h1, h2⟩ := h rfl
  cases h1
  exact h2
theorem s_cio {f : Str} {F : Fn} {i : Nat} {p2 : Pos} (C : XC X ct W k) (hF : CalOk X k f F) (hg : Gl X f) (hd : (f == ("__debug__" : Str)) = false) (hv : PE X x (tVar i)) (ha : PA X xs (tAs (qX X W) es)) (hn : arN es + 1 = F.np) (hp : plainE x = true) (hps : plainEs xs = true)
    (hml : ∀ ms r pm, F.sem ms = .ok r pm → ∃ ys, pm = .ml ys) (hmx : ∀ ms r pm, F.sem ms = .ex r pm → ∃ ys, pm = .ml ys) : PE X (.Call (.Name f p2) (x :: xs) [] p) (tE (qX X W) (.cio f F i es)) := by
  obtain ⟨fa, G, h1, h2⟩ := hF
  refine (pe_callG G C.rm C.gd C.tk hg h1 h2 (pa_cons hv ha (star_plain hp)) hd (star_plain hp) (star_none hps)).imp fun σ H Q ⟨w, Γ, e, z⟩ => ?_
  obtain ⟨⟨v0, hσ⟩, z⟩ := need_some (q := qX X W) e z
  refine ⟨v0, hσ, tA_bindN (q := qX X W) e z fun ds Γ1 vs H1 w1 hl s1 e1 r1 z1 => ?_⟩
  obtain ⟨ys, hgi, z2⟩ := ml_of z1
  obtain ⟨a0, us, rfl, g1, g2, g3, g4⟩ := slot_at e1 hgi hσ
  cases hio : F.io with
  | false => rw [hio] at z2; exact z2.elim
  | true =>
    rw [hio] at z2
    have hS : ∀ b, w1 b = some (some i) → w1 b ≠ none := fun b q => by rw [q]; intro z; cases z
    have k0 := in_k0 (H := H1) hS
    refine ⟨wIn w1 (fun b => w1 b = some (some i)), .ml ys :: ds.map .im, in_wf e1.wf hS, by rw [List.length_cons, List.length_map, hl, hn], ⟨⟨a0, us, rfl, g1, own_in g2, g3, g4.mono k0⟩, argR_im (r1.mono k0)⟩, ?_⟩
    cases hs : F.sem (.ml ys :: ds.map .im) with
    | no => rw [hs] at z2; exact z2.elim
    | ok r pm =>
      rw [hs] at z2
      obtain ⟨ys', rfl⟩ := hml _ _ _ hs
      intro v H' w' st wf rm nw io
      have io' := ml_io (by rw [hio] at io; exact io)
      obtain ⟨er, st2⟩ := io_slot e1 hgi hσ st wf io'
      have h0 : w' a0 = some (some 0) := (io'.owned a0 rfl).1
      refine z2 v H' _ (Po.trans s1 e.wf ⟨st2, er, io_rm e1.wf st h0 rm nw, fun b ob q => nw b ob ?_⟩)
      show wIn w1 _ b = some none
      rw [in_out (fun z => by rw [q] at z; cases z)]
      unfold zone; rw [q]
    | ex xn pm =>
      rw [hs] at z2
      obtain ⟨ys', rfl⟩ := hmx _ _ _ hs
      intro cls d H' w' st wf io xr
      have io' := ml_io (by rw [hio] at io; exact io)
      obtain ⟨er, st2⟩ := io_slot e1 hgi hσ st wf io'
      exact z2 cls d H' _ st2 er xr
theorem tA_bindO {q : Cn} {α : Type} {w w' : Wn} {H H' : Hp} {σ : St} {Γ : Sl} {P : α → Sl → Prop} {es : Ar} {Q : List V → Hp → Prop} {f : List D → Sl → Rs α} (e : ER q.K w' Γ σ H') (s : Step H w H' w') (h : rdg q w H σ ((evA es Γ).bind f) P)
    (k : ∀ ds Γ' vs H2 w2, ds.length = arN es → Step H' w' H2 w2 → ER q.K w2 Γ' σ H2 → RDs q.K w2 H2 ds vs → rdg q w H σ (f ds Γ') P → Q vs H2) : tAs q es σ H' Q := by
  refine ⟨w', Γ, e, ?_⟩
  cases c : evA es Γ with
  | ok ds Γ1 => rw [c] at h; exact fun vs H' w' s e' r => k ds Γ1 vs H' w' (evA_len es c) s e' r h
  | ex x Γ1 => rw [c] at h; exact rdg.step (r := Rs.ex x Γ1) (P := fun (_ : List D) _ => True) h s
  | no => rw [c] at h; exact h
theorem s_cit {f : Str} {F : Fn} {p2 : Pos} (C : XC X ct W k) (hF : CalOk X k f F) (hg : Gl X f) (hd : (f == ("__debug__" : Str)) = false) (hv : PE X x (tE (qX X W) a)) (ha : PA X xs (tAs (qX X W) es)) (hn : arN es + 1 = F.np) (hp : plainE x = true) (hps : plainEs xs = true)
    (hml : ∀ ms r pm, F.sem ms = .ok r pm → ∃ ys, pm = .ml ys) (hmx : ∀ ms r pm, F.sem ms = .ex r pm → ∃ ys, pm = .ml ys) : PE X (.Call (.Name f p2) (x :: xs) [] p) (tE (qX X W) (.cit f F a es)) := by
  obtain ⟨fa, G, h1, h2⟩ := hF
  refine (pe_callG G C.rm C.gd C.tk hg h1 h2 (pa_cons hv ha (star_plain hp)) hd (star_plain hp) (star_none hps)).imp fun σ H Q ⟨w, Γ, e, z⟩ => ?_
  refine tE_bind (q := qX X W) e z fun m0 Γ0 v0 H0 w0 po0 z0 => tA_bindO (q := qX X W) po0.er po0.st z0 fun ds Γ1 vs H1 w1 hl s1 e1 r1 z1 => ?_
  cases m0 with
  | ml ys =>
    obtain ⟨a0, us, rfl, g1, g2, g3, g4⟩ := po0.rm
    have n0 : w a0 ≠ some none := po0.nw a0 rfl
    obtain ⟨g1', g2'⟩ := s1 a0 _ g1 (nslot_zone g2)
    rw [g2] at g2'
    cases hio : F.io with
    | false => simp only [hio] at z1; exact z1.elim
    | true =>
      simp only [hio, if_true] at z1
      have hS : ∀ b, b = a0 → w1 b ≠ none := fun b q => by rw [q, g2']; intro z; cases z
      have k0 := in_k0 (H := H1) (S := (· = a0)) hS
      refine ⟨wIn w1 (· = a0), .ml ys :: ds.map .im, in_wf e1.wf hS, by rw [List.length_cons, List.length_map, hl, hn], ⟨⟨a0, us, rfl, g1', own_in rfl, g3, (g4.mono s1.k0).mono k0⟩, argR_im (r1.mono k0)⟩, ?_⟩
      have s01 : Step H w H1 w1 := po0.st.trans s1
      cases hs : F.sem (.ml ys :: ds.map .im) with
      | no => rw [hs] at z1; exact z1.elim
      | ok r pm =>
        rw [hs] at z1
        obtain ⟨ys', rfl⟩ := hml _ _ _ hs
        intro v H' w' st wf rm nw io
        have io' := ml_io (by rw [hio] at io; exact io)
        obtain ⟨er, st2⟩ := io_temp s01 n0 g2' e1 st wf io'
        have h0 : w' a0 = some (some 0) := (io'.owned a0 rfl).1
        refine z1 v H' _ ⟨st2, er, io_rm e1.wf st h0 rm nw, fun b ob q => ?_⟩
        have hb : b ≠ a0 := fun z => by rw [z] at q; exact n0 q
        obtain ⟨o, qo⟩ := e.wf.alloc q
        have q1 := (s01 b o qo (nslot_zone q)).2
        refine nw b ob ?_
        show wIn w1 _ b = some none
        rw [in_out (S := (· = a0)) hb]
        unfold zone; rw [q1, q]
      | ex xn pm =>
        rw [hs] at z1
        obtain ⟨ys', rfl⟩ := hmx _ _ _ hs
        intro cls d H' w' st wf io xr
        have io' := ml_io (by rw [hio] at io; exact io)
        obtain ⟨er, st2⟩ := io_temp s01 n0 g2' e1 st wf io'
        exact z1 cls d H' _ st2 er xr
  | im _ => exact z1.elim
  | mm _ => exact z1.elim
  | md _ => exact z1.elim
  | ms _ => exact z1.elim
end
end L2.Gv

set_option Elab.async false
set_option linter.all false
set_option maxRecDepth 100000
set_option maxHeartbeats 2000000
namespace L2.Gv
open PySem PySem.Spec PyProof.Rows L2
/-! ## Dicts whose keys are ints -/
section
variable {K : PySem.W.Frag} {w : Wn} {H : Hp} {Γ : Sl} {σ : St}
theorem er_temp {a : Addr} {o : HO} (e : ER K w Γ σ H) (h : w a = some none) (ho : ∀ xs, o ≠ HO.tup xs := by intro _ z; cases z) : ER K w Γ σ (upd H a o) :=
  ⟨e.len, wf_put e.wf ho, fun i m q => by
    obtain ⟨v, h1, h2⟩ := e.at_ i m q
    refine ⟨v, h1, (h2.keep (k0_write h) fun b ob => ?_).1⟩
    have q1 := (h2.owned b ob).1
    have nb : b ≠ a := fun z => by rw [z, h] at q1; cases q1
    exact ⟨upd_ne nb, q1⟩⟩
end
section
variable {K : PySem.W.Frag} {w w' : Wn} {H H' : Hp}
theorem getI_cons {α : Type} (p : Int × α) (r : List (Int × α)) (k : Int) : getI (p :: r) k = if p.1 = k then some p.2 else getI r k := by
  unfold getI
  rw [List.find?_cons]
  by_cases e : p.1 = k
  · simp [e]
  · simp [e]
theorem anyI {α : Type} (k : Int) : ∀ kvs : List (Int × α), (kvs.any fun p => decide (p.1 = k)) = (getI kvs k).isSome
  | [] => rfl
  | p :: r => by
    rw [List.any_cons, getI_cons, anyI k r]
    by_cases e : p.1 = k
    · simp [e]
    · simp [e]
theorem get_rel {k : Int} : ∀ {kvs : List (Int × D)} {vs : List V}, RDs K w H (kvs.map Prod.snd) vs →
    (getI kvs k = none ∧ valV (dKL (kvs.map Prod.fst) vs) (Sum.inl k : Key) = none) ∨ ∃ d v, getI kvs k = some d ∧ valV (dKL (kvs.map Prod.fst) vs) (Sum.inl k : Key) = some v ∧ RD K w H d v
  | [], [], _ => .inl ⟨rfl, rfl⟩
  | p :: r, _, h => by
    cases h with
    | @cons d v ds vs h t =>
      have ih := get_rel (k := k) t
      rw [getI_cons]
      show (_ ∧ valV (((Sum.inl p.1 : Key), v) :: dKL (r.map Prod.fst) vs) (Sum.inl k : Key) = none) ∨ ∃ d u, _ ∧ valV (((Sum.inl p.1 : Key), v) :: dKL (r.map Prod.fst) vs) (Sum.inl k : Key) = some u ∧ _
      by_cases e : p.1 = k
      · rw [valV_pos (p := ((Sum.inl p.1 : Key), v)) (by rw [e]), if_pos e]
        exact .inr ⟨_, _, rfl, rfl, h⟩
      · rw [valV_neg (p := ((Sum.inl p.1 : Key), v)) (fun z => e (Sum.inl.inj z)), if_neg e]
        exact ih
theorem get_isSome {k : Int} {kvs : List (Int × D)} {vs : List V} (h : RDs K w H (kvs.map Prod.snd) vs) : (valV (dKL (kvs.map Prod.fst) vs) (Sum.inl k : Key)).isSome = (getI kvs k).isSome := by
  rcases get_rel (k := k) h with ⟨a, b⟩ | ⟨d, v, a, b, _⟩
  · rw [a, b]; rfl
  · rw [a, b]; rfl
theorem dKL_snoc : ∀ {ks : List Int} {vs : List V} {k : Int} {v : V}, ks.length = vs.length → dKL (ks ++ [k]) (vs ++ [v]) = dKL ks vs ++ [(Sum.inl k, v)]
  | [], [], _, _, _ => rfl
  | a :: ks, b :: vs, k, v, h => by
    have := dKL_snoc (ks := ks) (vs := vs) (k := k) (v := v) (by simpa using h)
    show (Sum.inl a, b) :: dKL (ks ++ [k]) (vs ++ [v]) = _
    rw [this]; rfl
theorem map_rel {k : Int} {d : D} {v : V} (hv : RD K w H d v) : ∀ {kvs : List (Int × D)} {vs : List V}, RDs K w H (kvs.map Prod.snd) vs →
    ∃ vs', (dKL (kvs.map Prod.fst) vs).map (fun kv => if kv.1 = (Sum.inl k : Key) then (kv.1, v) else kv) = dKL ((kvs.map fun p => if p.1 = k then (p.1, d) else p).map Prod.fst) vs' ∧ RDs K w H ((kvs.map fun p => if p.1 = k then (p.1, d) else p).map Prod.snd) vs'
  | [], [], _ => ⟨[], rfl, .nil⟩
  | p :: r, _, h => by
    cases h with
    | @cons e u ds vs h t =>
      obtain ⟨vs', e1, e2⟩ := map_rel hv (k := k) t
      by_cases c : p.1 = k
      · refine ⟨v :: vs', ?_, ?_⟩
        · show (if (Sum.inl p.1 : Key) = Sum.inl k then ((Sum.inl p.1 : Key), v) else (Sum.inl p.1, u)) :: List.map _ (dKL (r.map Prod.fst) vs) = _
          rw [e1, if_pos (by rw [c]), List.map_cons, List.map_cons, if_pos c]
          rfl
        · rw [List.map_cons, List.map_cons, if_pos c]
          exact .cons hv e2
      · refine ⟨u :: vs', ?_, ?_⟩
        · show (if (Sum.inl p.1 : Key) = Sum.inl k then ((Sum.inl p.1 : Key), v) else (Sum.inl p.1, u)) :: List.map _ (dKL (r.map Prod.fst) vs) = _
          rw [e1, if_neg (fun z => c (Sum.inl.inj z)), List.map_cons, List.map_cons, if_neg c]
          rfl
        · rw [List.map_cons, List.map_cons, if_neg c]
          exact .cons h e2
theorem any_dKL (k : Int) {kvs : List (Int × D)} {vs : List V} (h : RDs K w H (kvs.map Prod.snd) vs) : ((dKL (kvs.map Prod.fst) vs).any fun kv => decide (kv.1 = (Sum.inl k : Key))) = (kvs.any fun p => decide (p.1 = k)) := by
  rw [valV_any, get_isSome h, anyI]
theorem put_rel {k : Int} {d : D} {v : V} {kvs : List (Int × D)} {vs : List V} (h : RDs K w H (kvs.map Prod.snd) vs) (hv : RD K w H d v) :
    ∃ vs', putK (dKL (kvs.map Prod.fst) vs) (Sum.inl k : Key) v = dKL ((putI kvs k d).map Prod.fst) vs' ∧ RDs K w H ((putI kvs k d).map Prod.snd) vs' ∧ (putI kvs k d).length ≤ kvs.length + 1 := by
  unfold putK putI
  rw [any_dKL k h]
  by_cases c : (kvs.any fun p => decide (p.1 = k)) = true
  · rw [if_pos c, if_pos c]
    obtain ⟨vs', e1, e2⟩ := map_rel (k := k) hv h
    exact ⟨vs', e1, e2, by rw [List.length_map]; omega⟩
  · rw [if_neg c, if_neg c]
    have hl : (kvs.map Prod.fst).length = vs.length := by have := h.length; rw [List.length_map] at this ⊢; exact this
    refine ⟨vs ++ [v], ?_, ?_, by rw [List.length_append]; simp⟩
    · rw [List.map_append, ← dKL_snoc hl]; rfl
    · rw [List.map_append]; exact h.snoc hv
end
section
variable {X : Cx} {ct : Ct} {W : WX} {k : Nat} {a b c : Ex} {x y z : Expr} {p : Pos}
theorem s_dsp0 : PE X (.Dict [] [] p) (tE (qX X W) .dsp0) := pe_dnewK.imp fun σ H Q ⟨w, Γ, e, z⟩ q hq => z _ _ _ (new_dct (kvs := []) (vs := []) e hq (Nat.zero_le _) .nil)
theorem s_dspS : PE X (.Dict [] [] p) (tE (qX X W) .dspS) := pe_dnewK.imp fun σ H Q ⟨w, Γ, e, z⟩ q hq => z _ _ _ (new_dcs e hq)
theorem s_dsp1 (ha : PE X x (tE (qX X W) a)) (hb : PE X y (tE (qX X W) b)) : PE X (.Dict [some x] [y] p) (tE (qX X W) (.dsp1 a b)) :=
  (pe_disp (pps_cons ha hb pps_nil) rfl rfl (by intro z; cases z) (by simp)).imp fun σ H Q ⟨w, Γ, e, z⟩ q hq => by
    have e0 : ER X.K (own w (· = q) (some none)) Γ σ (upd H q (.dK [])) := e.ext (ext_own hq) (wf_own e.wf)
    have s0 : Step H w (upd H q (.dK [])) (own w (· = q) (some none)) := (ext_own hq).step
    refine tE_bindD (q := qX X W) e0 (rdg.step (r := evE (.dsp1 a b) Γ) z s0) fun m1 Γ1 v1 H1 w1 s1 e1 r1 z1 => tE_bindD (q := qX X W) e1 z1 fun m2 Γ2 v2 H2 w2 s2 e2 r2 z2 => ?_
    split at z2
    · rename_i n hn
      rw [hn] at r1
      cases r1
      obtain ⟨q1, q2⟩ := s1 q _ upd_same (nslot_zone (own_in rfl))
      rw [own_in (S := (· = q)) rfl] at q2
      obtain ⟨q3, q4⟩ := s2 q _ q1 (nslot_zone q2)
      rw [q2] at q4
      refine ⟨q3, [(Sum.inl n, v2)], rfl, by simp, ?_⟩
      refine z2 (.ref q) (upd H2 q (.dK [(Sum.inl n, v2)])) w2 ⟨fun c o hc nc => ?_, er_temp e2 q4, ⟨q, [v2], rfl, upd_same, q4, by rw [sizeLine_eq]; simp, (RDs.cons r2 .nil).mono (k0_write q4)⟩, fun c oc => ?_⟩
      · obtain ⟨t1, t2⟩ := ((s0.trans s1).trans s2) c o hc nc
        exact ⟨by rw [upd_ne (ne_of_none hc hq)]; exact t1, t2⟩
      · have oc' : V.ref q = V.ref c := oc
        cases oc'
        rw [e.wf.fresh hq]; intro z; cases z
    · exact z2.elim
/-! ### locked -/
theorem s_lk (ha : PE X x (tE (qX X W) a)) : PE X x (tE (qX X W) (.lk a)) := ⟨fun pins s σ H Q I ⟨w, Γ, e, z⟩ => by
  have t1 : tE (qX X W) a σ H (fun v H1 => (∃ d us, v = .ref d ∧ H1 d = some (.dK us) ∧ ∀ o, Q v (upd H1 d (.frz o (.dK us)))) ∨ Q v H1) := tE_bind (q := qX X W) e z fun m Γ1 v H1 w1 po z1 => by
    match m, po, z1 with
    | .md kvs, po, z1 =>
      obtain ⟨aa, us, rfl, h, f⟩ := po.lock (.inl rfl)
      exact .inl ⟨aa, us, rfl, h, fun o => let ⟨w2, p2⟩ := f o; z1 _ _ w2 p2⟩
    | .ms kvs, po, z1 =>
      obtain ⟨aa, us, rfl, h, f⟩ := po.lock (.inr ⟨kvs, rfl, rfl⟩)
      exact .inl ⟨aa, us, rfl, h, fun o => let ⟨w2, p2⟩ := f o; z1 _ _ w2 p2⟩
    | .im d, po, z1 => exact .inr (z1 v H1 w1 po)
    | .ml _, po, z1 => exact z1.elim
    | .mm _, po, z1 => exact z1.elim
  refine thn (ha.run pins s σ H _ I t1) fun u s1 ⟨v, H1, I1, r1, q⟩ => ?_
  rcases q with ⟨d, us, rfl, hd, q⟩ | q
  · obtain ⟨od, I2⟩ := I1.lock hd trivial
    exact ⟨_, _, I2, r1, q od⟩
  · exact ⟨v, H1, I1, r1, q⟩⟩
theorem asB_lk (Γ : Sl) : asB (evE (.lk a) Γ) = asB (evE a Γ) := by
  simp only [evE]
  unfold asB
  cases evE a Γ with
  | ok m Γ1 => cases m <;> rfl
  | ex _ _ => rfl
  | no => rfl
theorem t_lk (ha : PT X x (tT (qX X W) fun Γ => asB (evE a Γ))) : PT X x (tT (qX X W) fun Γ => asB (evE (.lk a) Γ)) := ha.imp fun σ H Q z => by
  rw [show (fun Γ => asB (evE (.lk a) Γ)) = fun Γ => asB (evE a Γ) from funext asB_lk] at z
  exact z
theorem s_lkv {i : Nat} {y : Str} (h : PE X (.Name y p) (tVar i)) : PE X (.Name y p) (tE (qX X W) (.lkv i)) := ⟨fun pins s σ H Q I ⟨w, Γ, e, z⟩ => by
  have t1 : tVar i σ H (fun v H1 => (∃ d us, v = .ref d ∧ H1 d = some (.dK us) ∧ ∀ o, Q v (upd H1 d (.frz o (.dK us)))) ∨ Q v H1) := by
    simp only [evE] at z
    split at z
    · rename_i kvs hg
      obtain ⟨aa, us, hv, h, f⟩ := slot_lock (.inl rfl) e hg
      exact ⟨_, hv, .inl ⟨aa, us, rfl, h, fun o => let ⟨w2, p2⟩ := f o; z _ _ w2 p2⟩⟩
    · rename_i kvs hg
      obtain ⟨aa, us, hv, h, f⟩ := slot_lock (.inr ⟨kvs, rfl, rfl⟩) e hg
      exact ⟨_, hv, .inl ⟨aa, us, rfl, h, fun o => let ⟨w2, p2⟩ := f o; z _ _ w2 p2⟩⟩
    · rename_i d hg
      obtain ⟨v, h1, h2⟩ := e.at_ i _ hg
      exact ⟨v, h1, .inr (z v H w (po_im e h2))⟩
    · exact z.elim
  refine thn (h.run pins s σ H _ I t1) fun u s1 ⟨v, H1, I1, r1, q⟩ => ?_
  rcases q with ⟨d, us, rfl, hd, q⟩ | q
  · obtain ⟨od, I2⟩ := I1.lock hd trivial
    exact ⟨_, _, I2, r1, q od⟩
  · exact ⟨v, H1, I1, r1, q⟩⟩
/-! ### read -/
theorem slot_md {K : PySem.W.Frag} {w : Wn} {H : Hp} {σ : St} {Γ : Sl} {i : Nat} {kvs : List (Int × D)} {v : V} (e : ER K w Γ σ H) (hg : Γ[i]? = some (some (.md kvs))) (hv : σ[i]? = some (some v)) :
    ∃ a vs, v = .ref a ∧ H a = some (.dK (dKL (kvs.map Prod.fst) vs)) ∧ w a = some (some i) ∧ kvs.length ≤ sizeLine ∧ RDs K w H (kvs.map Prod.snd) vs := by
  obtain ⟨u, hu, a, vs, rfl, h1, h2, h3, h4⟩ := e.at_ i _ hg
  rw [hv] at hu
  cases hu
  exact ⟨a, vs, rfl, h1, h2, h3, h4⟩
theorem vdin_core {neg : Bool} {i : Nat} {σ : St} {H : Hp} {Q : VK} {w : Wn} {Γ : Sl} (e : ER X.K w Γ σ H) (z : rdg (qX X W) w H σ (evE (.vdin neg a i) Γ) fun r Γ' => ∀ v H' w', Po X.K w H Γ' σ r v H' w' → Q v H') :
    tE (qX X W) a σ H fun y H1 => tVar i σ H1 fun x H2 => ∃ a o, x = .ref a ∧ DGet H2 a y o ∧ Q (.bl (o.isSome != neg)) H2 := by
  refine tE_bindD (q := qX X W) (c := a) e z fun m1 Γ1 v1 H1 w1 s1 e1 r1 z1 => ?_
  split at z1
  · rename_i kvs n hg hn
    rw [hn] at r1
    cases r1
    obtain ⟨v, hv, _⟩ := e1.at_ i _ hg
    obtain ⟨aa, vs, rfl, g1, g2, g3, g4⟩ := slot_md e1 hg hv
    refine ⟨_, hv, aa, _, rfl, DGet.k (k := Sum.inl n) g1, ?_⟩
    rw [get_isSome g4]
    exact z1 _ _ _ ((bool_out (q := qX X W) e1 _).trans s1 e.wf)
  · exact z1.elim
theorem s_vdin {neg : Bool} {i : Nat} (C : XC X ct W k) (ha : PE X x (tE (qX X W) a)) (hv : PE X y (tVar i)) (hm : behindInMarks (if neg then .NotIn else .In) y = false) : PE X (.Compare x [if neg then .NotIn else .In] [y] p) (tE (qX X W) (.vdin neg a i)) := by
  cases neg with
  | false =>
    exact (pe_cmp (pc_din (by have := C.hu65; omega) ha hv) hm).imp fun σ H Q ⟨w, Γ, e, z⟩ => by
      obtain ⟨w2, Γ2, e2, z2⟩ := vdin_core e z
      exact ⟨w2, Γ2, e2, z2.imp fun r Γ' f v H' w' po => by
        obtain ⟨x, hx, aa, o, h1, h2, h3⟩ := f v H' w' po
        exact ⟨x, hx, aa, o, h1, h2, by simpa using h3⟩⟩
  | true =>
    exact (pe_cmp (pc_dnotin (by have := C.hu65; omega) ha hv) hm).imp fun σ H Q ⟨w, Γ, e, z⟩ => by
      obtain ⟨w2, Γ2, e2, z2⟩ := vdin_core e z
      exact ⟨w2, Γ2, e2, z2.imp fun r Γ' f v H' w' po => by
        obtain ⟨x, hx, aa, o, h1, h2, h3⟩ := f v H' w' po
        exact ⟨x, hx, aa, o, h1, h2, by simpa using h3⟩⟩
theorem t_vdin {neg : Bool} {i : Nat} (C : XC X ct W k) (ha : PE X x (tE (qX X W) a)) (hv : PE X y (tVar i)) (hm : behindInMarks (if neg then .NotIn else .In) y = false) : PT X (.Compare x [if neg then .NotIn else .In] [y] p) (tT (qX X W) fun Γ => asB (evE (.vdin neg a i) Γ)) := by
  cases neg with
  | false =>
    exact (pt_cmp (pc_din (by have := C.hu65; omega) ha hv) hm).imp fun σ H Q ⟨w, Γ, e, z⟩ => by
      obtain ⟨w2, Γ2, e2, z2⟩ := vdin_core e (tst_of z)
      exact ⟨w2, Γ2, e2, z2.imp fun r Γ' f v H' w' po => by
        obtain ⟨x, hx, aa, o, h1, h2, h3⟩ := f v H' w' po
        exact ⟨x, hx, aa, o, h1, h2, by simpa using h3⟩⟩
  | true =>
    exact (pt_cmp (pc_dnotin (by have := C.hu65; omega) ha hv) hm).imp fun σ H Q ⟨w, Γ, e, z⟩ => by
      obtain ⟨w2, Γ2, e2, z2⟩ := vdin_core e (tst_of z)
      exact ⟨w2, Γ2, e2, z2.imp fun r Γ' f v H' w' po => by
        obtain ⟨x, hx, aa, o, h1, h2, h3⟩ := f v H' w' po
        exact ⟨x, hx, aa, o, h1, h2, by simpa using h3⟩⟩
theorem s_vdget {i : Nat} (C : XC X ct W k) (ha : PE X x (tVar i)) (hb : PE X y (tE (qX X W) b)) (hp : plainE y = true) : PE X (.Subscript x y p) (tE (qX X W) (.vdget i b)) :=
  (pe_dget (by have := C.hu65; omega) ha hb (ix_plain hp)).imp fun σ H Q ⟨w, Γ, e, z⟩ => by
    obtain ⟨⟨v, hv⟩, z⟩ := need_some (q := qX X W) e z
    refine ⟨v, hv, tE_bindD (q := qX X W) e z fun m1 Γ1 v1 H1 w1 s1 e1 r1 z1 => ?_⟩
    split at z1
    · rename_i kvs n hg hn
      rw [hn] at r1
      cases r1
      obtain ⟨m, h1, z3⟩ := lift_some z1
      obtain ⟨d, h2, rfl⟩ := map_im h1
      obtain ⟨aa, vs, rfl, g1, g2, g3, g4⟩ := slot_md e1 hg hv
      rcases get_rel (k := n) g4 with ⟨q1, q2⟩ | ⟨d', u, q1, q2, q3⟩
      · rw [q1] at h2; cases h2
      · rw [q1] at h2
        cases h2
        exact ⟨aa, u, rfl, by rw [← q2]; exact DGet.k (k := Sum.inl n) g1, z3 _ _ _ ((po_im e1 q3).trans s1 e.wf)⟩
    · exact z1.elim
theorem needD_some {q : Cn} {α : Type} {w : Wn} {H : Hp} {σ : St} {Γ : Sl} {i : Nat} {r : Rs α} {P : α → Sl → Prop} (e : ER q.K w Γ σ H) (h : rdg q w H σ (needD Γ i r) P) : (∃ a us, σ[i]? = some (some (.ref a)) ∧ H a = some (.dK us)) ∧ rdg q w H σ r P := by
  unfold needD at h
  split at h
  · rename_i kvs hg
    obtain ⟨v, hv, aa, vs, rfl, h1, _⟩ := e.at_ i _ hg
    exact ⟨⟨aa, _, hv, h1⟩, h⟩
  · exact h.elim
theorem few_two {pos : Pos} (hp : plainE x = true) (hp2 : plainE y = true) : ((backTo pos (starEach [x, y] X.env)).all (fun x => !x.1) && (backToKw pos (keywordEach [] X.env)).all (fun x => x.1.isSome)
      && decide ([x, y].length + ([] : List Keyword).length + (if ([] : List Keyword).isEmpty then 0 else 1) < 30)) = true := by
  rw [star_plain hp, star_plain hp2]; rfl
theorem m2_of {o : Expr} {m : Str} {ap cp : Pos} (hb : attB o = true) (hl : (ap.endLine == cp.line) = true) (hp : plainE x = true) (hp2 : plainE y = true) : M2 X o m ap x y cp :=
  ⟨att_plain hb, few_two hp hp2, hl, by rw [star_plain hp, star_plain hp2]; rfl⟩
theorem s_vdgt {i : Nat} {o : Expr} {ap cp : Pos} (C : XC X ct W k) (ho : PE X o (tVar i)) (ha : PE X x (tE (qX X W) a)) (hb : PE X y (tE (qX X W) b)) (hat : attB o = true) (hl : (ap.endLine == cp.line) = true) (hp : plainE x = true) (hp2 : plainE y = true) :
    PE X (.Call (.Attribute o "get" ap) [x, y] [] cp) (tE (qX X W) (.vdgt i a b)) :=
  (pe_dget2 (by have := C.hu65; omega) ho ha hb (m2_of hat hl hp hp2)).imp fun σ H Q ⟨w, Γ, e, z⟩ => by
    obtain ⟨⟨a0, us0, hv, h0⟩, z⟩ := needD_some (q := qX X W) e z
    refine ⟨_, hv, a0, rfl, .inl ⟨_, .inl h0⟩, tE_bindD (q := qX X W) e z fun m1 Γ1 v1 H1 w1 s1 e1 r1 z1 => tE_bindD (q := qX X W) e1 z1 fun m2 Γ2 v2 H2 w2 s2 e2 r2 z2 => ?_⟩
    split at z2
    · rename_i kvs n hg hn
      have r1 := r1.mono s2.k0
      rw [hn] at r1
      cases r1
      obtain ⟨aa, vs, ea, g1, g2, g3, g4⟩ := slot_md e2 hg hv
      cases ea
      refine ⟨_, DGet.k (k := Sum.inl n) g1, ?_⟩
      rcases get_rel (k := n) g4 with ⟨q1, q2⟩ | ⟨d', u, q1, q2, q3⟩
      · rw [q2]
        rw [q1] at z2
        exact z2 _ _ _ ((po_im e2 r2).trans (s1.trans s2) e.wf)
      · rw [q2]
        rw [q1] at z2
        exact z2 _ _ _ ((po_im e2 q3).trans (s1.trans s2) e.wf)
    · exact z2.elim
/-! ### d != {} -/
def rNeE : R2 := fun x y H Q => ∃ a b ks, x = .ref a ∧ y = .ref b ∧ Rd H a (.dK ks) ∧ H b = some (.dK []) ∧ Q (.bl (!ks.isEmpty)) H
theorem op_neE (hu : X.A.units < cLine) : OpR X (compareOp .NotEq) rNeE := by
  intro pins s σ H x y v u Q I rx ry h
  obtain ⟨a, b, ks, rfl, rfl, ea, eb, q⟩ := h
  obtain rfl : v = Value.ref a := rx
  obtain rfl : u = Value.ref b := ry
  obtain ⟨_, ya, va, ra, da⟩ := dk_rd I.hok ea
  obtain ⟨_, yb, vb, rb, db⟩ := (show ObjOk X.prog X.w H s.heap b (.dK []) from I.hok b _ eb)
  have hb : vb = [] := by cases rb; rfl
  subst hb
  have hl : ks.length = va.length := Paired.length ra
  refine PySem.W.keq_ne (knd := mixKind X.prog X.w) (r := true) ya yb da db hu (fun hz => ?_) ?_
  · have : va = [] := List.length_eq_zero_iff.mp hz
    subst this
    exact .nil
  · refine ⟨.bl _, H, I, ?_, q⟩
    show Value.bool _ = Value.bool _
    congr 1
    cases ks with
    | nil => have : va = [] := List.length_eq_zero_iff.mp hl.symm; subst this; rfl
    | cons p r => cases va with
      | nil => cases hl
      | cons => rfl
theorem vdne_core {i : Nat} {σ : St} {H : Hp} {Q : VK} {w : Wn} {Γ : Sl} (e : ER X.K w Γ σ H) (z : rdg (qX X W) w H σ (evE (.vdne i) Γ) fun r Γ' => ∀ v H' w', Po X.K w H Γ' σ r v H' w' → Q v H') :
    tOp rNeE (tVar i) tDNewK σ H Q := by
  have out : ∀ {aa : Addr} {us : List (Key × V)} {t : Bool}, σ[i]? = some (some (.ref aa)) → Rd H aa (.dK us) → (!us.isEmpty) = t → (∀ v H' w', Po X.K w H Γ σ (.im (.bool t)) v H' w' → Q v H') → tOp rNeE (tVar i) tDNewK σ H Q := fun {aa us t} hv hr ht z =>
    ⟨_, hv, fun q hq => ⟨aa, q, us, rfl, rfl, hr.imp (fun h => by rw [upd_ne (ne_of_none h hq)]; exact h) (fun ⟨o, h⟩ => ⟨o, by rw [upd_ne (ne_of_none h hq)]; exact h⟩), upd_same, by
      rw [ht]
      exact z _ _ w ⟨(ext_upd hq).step, e.ext (ext_upd hq) (wf_upd e.wf hq), .bl t, fun _ o => o.elim⟩⟩⟩
  have emp : ∀ {kvs : List (Int × D)} {vs : List V}, RDs X.K w H (kvs.map Prod.snd) vs → (!(dKL (kvs.map Prod.fst) vs).isEmpty) = !kvs.isEmpty := fun {kvs vs} r => by
    cases kvs with
    | nil => rfl
    | cons p t => cases r; rfl
  simp only [evE] at z
  split at z
  · rename_i kvs hg
    obtain ⟨v, hv, _⟩ := e.at_ i _ hg
    obtain ⟨aa, vs, rfl, g1, g2, g3, g4⟩ := slot_md e hg hv
    exact out hv (.inl g1) (emp g4) z
  · rename_i d hg
    obtain ⟨v, hv, hr⟩ := e.at_ i _ hg
    split at z
    · rename_i kvs hk
      obtain ⟨aa, o, vs, rfl, rfl, h1, n1, z1, r1⟩ := rd_kvs hr hk
      exact out hv (.inr ⟨o, h1⟩) (emp r1) z
    · exact z.elim
  · exact z.elim
theorem s_vdne {i : Nat} {p2 : Pos} (C : XC X ct W k) (hx : PE X x (tVar i)) : PE X (.Compare x [.NotEq] [.Dict [] [] p2] p) (tE (qX X W) (.vdne i)) :=
  (pe_cmpR (op_neE (by have := C.hu65; omega)) hx pe_dnewK rfl).imp fun σ H Q ⟨w, Γ, e, z⟩ => vdne_core e z
theorem t_vdne {i : Nat} {p2 : Pos} (C : XC X ct W k) (hx : PE X x (tVar i)) : PT X (.Compare x [.NotEq] [.Dict [] [] p2] p) (tT (qX X W) fun Γ => asB (evE (.vdne i) Γ)) :=
  (pt_cmpR (op_neE (by have := C.hu65; omega)) hx pe_dnewK rfl).imp fun σ H Q ⟨w, Γ, e, z⟩ => vdne_core e (tst_of z)
/-! ### xs != [] -/
theorem vne_core {i : Nat} {σ : St} {H : Hp} {Q : VK} {w : Wn} {Γ : Sl} (e : ER X.K w Γ σ H) (z : rdg (qX X W) w H σ (evE (.vne i) Γ) fun r Γ' => ∀ v H' w', Po X.K w H Γ' σ r v H' w' → Q v H') :
    tOp (rCmp X.K .NotEq) (tVar i) (tLst tNil) σ H Q := by
  simp only [evE] at z
  split at z
  · rename_i xs hg
    obtain ⟨m, h1, z3⟩ := lift_some z
    obtain ⟨t, h2, rfl⟩ := bM_some h1
    obtain ⟨v, w', hv, po⟩ := slot_frz e hg
    refine ⟨v, hv, Nat.zero_le _, fun q hq => ?_⟩
    refine ⟨w', _, _, t, RD.mono (ext_upd hq).step.k0 (show RD X.K w' H (.list xs) v from po.rm), RD.lst upd_same (po.er.wf.fresh hq) (Nat.zero_le _) .nil, h2, ?_⟩
    exact z3 _ _ w ⟨(ext_upd hq).step, e.ext (ext_upd hq) (wf_upd e.wf hq), .bl t, fun _ o => o.elim⟩
  · exact z.elim
theorem s_vne {i : Nat} {p2 : Pos} (C : XC X ct W k) (hx : PE X x (tVar i)) : PE X (.Compare x [.NotEq] [.List [] p2] p) (tE (qX X W) (.vne i)) :=
  (pe_cmpR (op_cmp _ C.hu65) hx (pe_lst pa_nil) (nobehind _ (by decide) (by decide))).imp fun σ H Q ⟨w, Γ, e, z⟩ => vne_core e z
theorem t_vne {i : Nat} {p2 : Pos} (C : XC X ct W k) (hx : PE X x (tVar i)) : PT X (.Compare x [.NotEq] [.List [] p2] p) (tT (qX X W) fun Γ => asB (evE (.vne i) Γ)) :=
  (pt_cmpR (op_cmp _ C.hu65) hx (pe_lst pa_nil) (nobehind _ (by decide) (by decide))).imp fun σ H Q ⟨w, Γ, e, z⟩ => vne_core e (tst_of z)
/-! ### x is True -/
theorem isT_core {neg : Bool} {σ : St} {H : Hp} {Q : VK} {w : Wn} {Γ : Sl} (e : ER X.K w Γ σ H) (z : rdg (qX X W) w H σ (evE (.isT neg a) Γ) fun r Γ' => ∀ v H' w', Po X.K w H Γ' σ r v H' w' → Q v H') :
    tE (qX X W) a σ H fun v H1 => ∃ t, v = .bl t ∧ Q (.bl (t != neg)) H1 :=
  bl_bind (q := qX X W) e z fun t Γ1 H1 w1 s1 e1 z1 => ⟨t, rfl, z1 _ _ _ ((bool_out (q := qX X W) e1 _).trans s1 e.wf)⟩
theorem s_isT {neg : Bool} {kk : Nat} {p2 : Pos} (ha : PE X x (tE (qX X W) a)) : PE X (.Compare x [if neg then .IsNot else .Is] [.Constant (.bool true) kk p2] p) (tE (qX X W) (.isT neg a)) := by
  cases neg with
  | false =>
    exact (pe_cmpR op_isBl ha pe_bl (nobehind _ (by decide) (by decide))).imp fun σ H Q ⟨w, Γ, e, z⟩ => by
      obtain ⟨w2, Γ2, e2, z2⟩ := isT_core e z
      exact ⟨w2, Γ2, e2, z2.imp fun r Γ' f v H' w' po => by
        obtain ⟨t, rfl, h3⟩ := f v H' w' po
        exact ⟨t, true, rfl, rfl, by cases t <;> exact h3⟩⟩
  | true =>
    exact (pe_cmpR op_notBl ha pe_bl (nobehind _ (by decide) (by decide))).imp fun σ H Q ⟨w, Γ, e, z⟩ => by
      obtain ⟨w2, Γ2, e2, z2⟩ := isT_core e z
      exact ⟨w2, Γ2, e2, z2.imp fun r Γ' f v H' w' po => by
        obtain ⟨t, rfl, h3⟩ := f v H' w' po
        exact ⟨t, true, rfl, rfl, by cases t <;> exact h3⟩⟩
theorem t_isT {neg : Bool} {kk : Nat} {p2 : Pos} (ha : PE X x (tE (qX X W) a)) : PT X (.Compare x [if neg then .IsNot else .Is] [.Constant (.bool true) kk p2] p) (tT (qX X W) fun Γ => asB (evE (.isT neg a) Γ)) := by
  cases neg with
  | false =>
    exact (pt_cmpR op_isBl ha pe_bl (nobehind _ (by decide) (by decide))).imp fun σ H Q ⟨w, Γ, e, z⟩ => by
      obtain ⟨w2, Γ2, e2, z2⟩ := isT_core e (tst_of z)
      exact ⟨w2, Γ2, e2, z2.imp fun r Γ' f v H' w' po => by
        obtain ⟨t, rfl, h3⟩ := f v H' w' po
        exact ⟨t, true, rfl, rfl, by cases t <;> exact h3⟩⟩
  | true =>
    exact (pt_cmpR op_notBl ha pe_bl (nobehind _ (by decide) (by decide))).imp fun σ H Q ⟨w, Γ, e, z⟩ => by
      obtain ⟨w2, Γ2, e2, z2⟩ := isT_core e (tst_of z)
      exact ⟨w2, Γ2, e2, z2.imp fun r Γ' f v H' w' po => by
        obtain ⟨t, rfl, h3⟩ := f v H' w' po
        exact ⟨t, true, rfl, rfl, by cases t <;> exact h3⟩⟩
theorem s_isF {neg : Bool} {kk : Nat} {p2 : Pos} (ha : PE X x (tE (qX X W) a)) : PE X (.Compare x [if neg then .Is else .IsNot] [.Constant (.bool false) kk p2] p) (tE (qX X W) (.isT neg a)) := by
  cases neg with
  | true =>
    exact (pe_cmpR op_isBl ha pe_bl (nobehind _ (by decide) (by decide))).imp fun σ H Q ⟨w, Γ, e, z⟩ => by
      obtain ⟨w2, Γ2, e2, z2⟩ := isT_core e z
      exact ⟨w2, Γ2, e2, z2.imp fun r Γ' f v H' w' po => by
        obtain ⟨t, rfl, h3⟩ := f v H' w' po
        exact ⟨t, false, rfl, rfl, by cases t <;> exact h3⟩⟩
  | false =>
    exact (pe_cmpR op_notBl ha pe_bl (nobehind _ (by decide) (by decide))).imp fun σ H Q ⟨w, Γ, e, z⟩ => by
      obtain ⟨w2, Γ2, e2, z2⟩ := isT_core e z
      exact ⟨w2, Γ2, e2, z2.imp fun r Γ' f v H' w' po => by
        obtain ⟨t, rfl, h3⟩ := f v H' w' po
        exact ⟨t, false, rfl, rfl, by cases t <;> exact h3⟩⟩
theorem t_isF {neg : Bool} {kk : Nat} {p2 : Pos} (ha : PE X x (tE (qX X W) a)) : PT X (.Compare x [if neg then .Is else .IsNot] [.Constant (.bool false) kk p2] p) (tT (qX X W) fun Γ => asB (evE (.isT neg a) Γ)) := by
  cases neg with
  | true =>
    exact (pt_cmpR op_isBl ha pe_bl (nobehind _ (by decide) (by decide))).imp fun σ H Q ⟨w, Γ, e, z⟩ => by
      obtain ⟨w2, Γ2, e2, z2⟩ := isT_core e (tst_of z)
      exact ⟨w2, Γ2, e2, z2.imp fun r Γ' f v H' w' po => by
        obtain ⟨t, rfl, h3⟩ := f v H' w' po
        exact ⟨t, false, rfl, rfl, by cases t <;> exact h3⟩⟩
  | false =>
    exact (pt_cmpR op_notBl ha pe_bl (nobehind _ (by decide) (by decide))).imp fun σ H Q ⟨w, Γ, e, z⟩ => by
      obtain ⟨w2, Γ2, e2, z2⟩ := isT_core e (tst_of z)
      exact ⟨w2, Γ2, e2, z2.imp fun r Γ' f v H' w' po => by
        obtain ⟨t, rfl, h3⟩ := f v H' w' po
        exact ⟨t, false, rfl, rfl, by cases t <;> exact h3⟩⟩
/-! ### x[::2] of three -/
theorem s_two {kk : Nat} {p1 p3 : Pos} (ha : PE X x (tE (qX X W) a)) : PE X (.Subscript x (.Slice none none (some (.Constant (.int 2) kk p1)) p3) p) (tE (qX X W) (.two a)) :=
  (pe_two ha).imp fun σ H Q ⟨w, Γ, e, z⟩ => tE_bindD e z fun m1 Γ1 v1 H1 w1 s1 e1 r1 z1 => by
    split at z1
    · rename_i d1 d2 d3 hx
      rw [hx] at r1
      cases r1 with
      | tup h1 n1 l1 rs =>
        cases rs with
        | cons q1 rs =>
        cases rs with
        | cons q2 rs =>
        cases rs with
        | cons q3 rs =>
        cases rs
        exact ⟨_, _, _, _, rfl, h1.sq, fun pp oo hp ho => z1 _ _ _ ((new_tup e1 hp ho (by show 2 ≤ sizeLine; rw [sizeLine_eq]; decide) (.cons q1 (.cons q3 .nil))).trans s1 e.wf)⟩
    · exact z1.elim
/-! ### calls with keywords -/
def CalKOk (X : Cx) (k : Nat) (x : Str) (ks : List Str) (F : Fn) : Prop := ∃ f, FnQK X.prog X.w X.K X.mg X.base k f ks (spF X.K X.mg F) ∧ X.mg x = some (.ref f) ∧ PySem.W.keepIn X.K (.ref f) = true
theorem kw_all {env : PySem.Env} {pos : Pos} : ∀ {kws : List Keyword} {ks : List Str}, kws.map (·.arg) = ks.map some → (backToKw pos (keywordEach kws env)).all (·.1.isSome) = true ∧ (backToKw pos (keywordEach kws env)).filterMap (·.1) = ks ∧ (backToKw pos (keywordEach kws env)).any (·.1.isNone) = false
  | [], [], _ => ⟨rfl, rfl, rfl⟩
  | [], _ :: _, h => by cases h
  | _ :: _, [], h => by cases h
  | ⟨nm, v, p⟩ :: kws, n :: ks, h => by
    injection h with h1 h2
    obtain ⟨a1, a2, a3⟩ := kw_all (env := env) (pos := pos) h2
    have h1 : nm = some n := h1
    subst h1
    refine ⟨?_, ?_, ?_⟩
    · show (true && _) = true
      rw [Bool.true_and]; exact a1
    · show n :: _ = n :: ks
      congr 1
    · show (false || _) = false
      rw [Bool.false_or]; exact a3
theorem s_callk {f : Str} {F : Fn} {p2 : Pos} {ks : List Str} {kes : Ar} {kws : List Keyword} (C : XC X ct W k) (hF : CalKOk X k f ks F) (hg : Gl X f) (hd : (f == ("__debug__" : Str)) = false) (ha : PA X (x :: xs) (tAs (qX X W) es)) (hk : PK X kws (tAs (qX X W) kes)) (hks : kws.map (·.arg) = ks.map some) (hn : arN es + arN kes = F.np) (hn2 : arN kes = ks.length) (hp : plainE x = true) (hps : plainEs xs = true) :
    PE X (.Call (.Name f p2) (x :: xs) kws p) (tE (qX X W) (.callk f F es ks kes)) := by
  obtain ⟨fa, G, h1, h2⟩ := hF
  obtain ⟨a1, a2, a3⟩ := kw_all (env := X.env) (pos := p) hks
  have pl : ((backTo p (starEach (x :: xs) X.env)).any (·.1) || (backToKw p (keywordEach kws X.env)).any (·.1.isNone)) = false := by
    rw [a3, Bool.or_false, star_plain hp]
    exact star_none hps
  refine PE.imp (pe_callGK G C.rm C.gd C.tk hg h1 h2 ha hk hd (star_plain hp) a1 a2 pl) fun σ H Q ⟨w, Γ, e, z⟩ => tA_bindN (q := qX X W) e z fun ds Γ1 vs H1 w1 hl s1 e1 r1 z1 => tA_bindN (q := qX X W) e1 z1 fun zs Γ2 us H2 w2 hl2 s2 e2 r2 z2 => ?_
  refine ⟨by rw [← r2.length, hl2, hn2], ?_⟩
  cases hio : F.io with
  | true => rw [hio] at z2; exact z2.elim
  | false =>
    rw [hio] at z2
    have r12 := (r1.mono s2.k0).append r2
    refine ⟨zone w2, (ds ++ zs).map .im, zone_wf e2.wf, by rw [List.length_map, List.length_append, hl, hl2, hn], argR_im (r12.mono zone_k0), ?_⟩
    cases hs : F.sem ((ds ++ zs).map .im) with
    | no => rw [hs] at z2; exact z2.elim
    | ok r pm =>
      rw [hs] at z2
      exact fun v H' w' st wf rm nw _ => z2 v H' _ ((call_po e2 st wf rm nw).trans (s1.trans s2) e.wf)
    | ex xn pm =>
      rw [hs] at z2
      exact fun cls d H' w' st wf _ xr => z2 cls d H' _ (back_ext e2.wf st).step (e2.ext (back_ext e2.wf st) (back_wf e2.wf st wf)) xr
end
end L2.Gv

set_option Elab.async false
set_option linter.all false
set_option maxRecDepth 100000
set_option maxHeartbeats 2000000
namespace L2.Gv
open PySem PySem.Spec PyProof.Rows L2
section
variable {bt : Bool} {X : Cx} {ct : Ct} {W : WX} {k : Nat} {a b c : Ex} {x y z tg : Expr} {p : Pos} {es : Ar} {xs : List Expr}
/-! ## What loops walk -/
def tI (q : Cn) (b : Bool) (it : Gv.It) : TI := fun σ H R => ∃ w Γ, ER q.K w Γ σ H ∧ rdg q w H σ (evI it Γ) fun ds Γ' => ∀ J H' w', Step H w H' w' → ER q.K w' Γ' σ H' → WD q.K w' H' b J ds → R J H'
def iSeq (K : PySem.W.Frag) (tl : TE) : TI := fun σ H R => tl σ H fun v H1 => ∃ a, v = .ref a ∧ (((∃ xs, SqL K H1 a xs) ∧ R (Itl K a) H1) ∨ ((∃ xs, SqT K H1 a xs) ∧ R (Itt K a) H1))
theorem pi_seq {l : Expr} {tl : TE} (hl : PE X l tl) : PI X tg l (iSeq X.K tl) := by
  refine ⟨fun pins s σ H R I h => thn (hl.run pins s σ H _ I h) fun v s1 ⟨u, H1, I1, r1, a, e, q⟩ => ?_⟩
  subst e
  cases r1
  have new : ∀ (o : Obj) (J : L2.It) (tn : Nat → Heap → Prop), Turn X.prog X.w X.K tg J [s1.heap.objs.size] s1.heap.objs.size tn → tn 0 (s1.heap.push o) → R J H1 → PIE X pins σ tg R (.ref s1.heap.objs.size) { s1 with heap := s1.heap.push o } := fun o J tn T t0 q =>
    ⟨_, _, tn, J, H1, rfl, I1.kept (t' := s1.toks) fun b u e => Heap.get?_push_of_some _ e, T, t0, fun b hb => by
      have e : b = s1.heap.objs.size := by simpa using hb
      subst e
      exact I1.fpOk (Nat.le_refl _) (I1.hok.fresh (Nat.le_refl _)), q⟩
  rcases q with ⟨⟨xs, hq⟩, q⟩ | ⟨⟨xs, hq⟩, q⟩
  · obtain ⟨its, rv, pl, _⟩ := I1.list hq
    exact wpAny_pyIter_list pl.isList (new _ _ _ (turn_list a _) ⟨_, Heap.get?_push_size _ rfl, rfl, rfl⟩ q)
  · obtain ⟨its, rv, pl, _⟩ := I1.tuple hq
    exact wpAny_pyIter_tuple (show s1.heap.IsTuple a its.toArray from pl) (new _ _ _ (turn_tuple a _) ⟨_, Heap.get?_push_size _ rfl, rfl, rfl⟩ q)
theorem i_seq (ha : PE X x (tE (qX X W) a)) : PI X tg x (tI (qX X W) bt (.seq a)) := (pi_seq ha).imp fun σ H R ⟨w, Γ, e, z⟩ => by
  refine tE_bindD (q := qX X W) e z fun m Γ1 v H1 w1 s1 e1 r1 z1 => ?_
  cases hs : seqD (frz m) with
  | none => rw [hs] at z1; exact z1.elim
  | some ds =>
    rw [hs] at z1
    generalize frz m = d at r1 hs
    cases r1 with
    | tup h n l r => cases hs; exact ⟨_, rfl, .inr ⟨⟨_, h.sq⟩, z1 _ _ _ s1 e1 (wd_tup h n l r)⟩⟩
    | lst h n l r => cases hs; exact ⟨_, rfl, .inl ⟨⟨_, SqL.of h⟩, z1 _ _ _ s1 e1 (wd_list h n l r)⟩⟩
    | _ => cases hs
theorem i_rng1 {p2 : Pos} (C : XC X ct W k) (hg : Gl X "range") (ha : PE X x (tE (qX X W) a)) (hp : plainE x = true) : PI X tg (.Call (.Name "range" p2) [x] [] p) (tI (qX X W) bt (.rng (.cons a .nil))) :=
  (pi_range1 hg (C.bi "range" (by decide)) (s_cons ha s_nil hp) (star_plain hp)).imp fun σ H R ⟨w, Γ, e, z⟩ => tA_bindN (q := qX X W) e z fun ds Γ1 vs H1 w1 hn s1 e1 r1 z1 => by
    split at z1
    · rename_i j
      obtain ⟨v, rfl, hv⟩ := one_of r1
      cases hv
      split at z1
      · rename_i hc
        unfold small62 at hc
        simp only [Bool.and_eq_true, decide_eq_true_eq] at hc
        refine ⟨j, rfl, hc.1.1, hc.1.2, z1 _ _ _ s1 e1 ?_⟩
        have := wd_range (K := X.K) (w := w1) (H := H1) (tp := bt) 0 j (by rw [Int.sub_zero]; exact lineOk_le hc.2)
        rw [Int.sub_zero] at this
        exact this
      · exact z1.elim
    · simp [arN] at hn
    · exact z1.elim
theorem i_rng2 {p2 : Pos} (C : XC X ct W k) (hg : Gl X "range") (ha : PE X x (tE (qX X W) a)) (hb : PE X y (tE (qX X W) b)) (hp : plainE x = true) (hp2 : plainE y = true) : PI X tg (.Call (.Name "range" p2) [x, y] [] p) (tI (qX X W) bt (.rng (.cons a (.cons b .nil)))) :=
  (pi_range2 hg (C.bi "range" (by decide)) (s_cons ha (s_cons hb s_nil hp2) hp) (by rw [star_plain hp, star_plain hp2]; rfl) (star_plain hp2)).imp fun σ H R ⟨w, Γ, e, z⟩ => tA_bindN (q := qX X W) e z fun ds Γ1 vs H1 w1 hn s1 e1 r1 z1 => by
    split at z1
    · simp [arN] at hn
    · rename_i i j
      obtain ⟨v, u, rfl, hv, hu⟩ := two_of r1
      cases hv
      cases hu
      split at z1
      · rename_i hc
        unfold small62 at hc
        simp only [Bool.and_eq_true, decide_eq_true_eq] at hc
        exact ⟨i, j, rfl, ⟨hc.1.1.1, hc.1.1.2, hc.1.2.1, hc.1.2.2⟩, z1 _ _ _ s1 e1 (wd_range i j (lineOk_le hc.2))⟩
      · exact z1.elim
    · exact z1.elim
theorem i_enm {p2 tp : Pos} {kk : Nat} {elts : List Expr} (C : XC X ct W k) (hg : Gl X "enumerate") (ha : PE X x (tE (qX X W) a)) (hp : plainE x = true) : PI X (.Tuple elts kk tp) (.Call (.Name "enumerate" p2) [x] [] p) (tI (qX X W) true (.enm a)) :=
  (pi_enumA hg (C.bi "enumerate" (by decide)) (pa_cons ha pa_nil (star_plain hp)) (star_plain hp)).imp fun σ H R ⟨w, Γ, e, z⟩ => by
    refine tE_bindD (q := qX X W) e z fun m Γ1 v H1 w1 s1 e1 r1 z1 => ?_
    cases hs : seqD (frz m) with
    | none => rw [hs] at z1; exact z1.elim
    | some ds =>
      rw [hs] at z1
      generalize frz m = d at r1 hs
      cases r1 with
      | tup h n l r => cases hs; exact ⟨_, _, rfl, .inr ⟨h.sq, z1 _ _ _ s1 e1 (wd_enumT h n l r)⟩⟩
      | lst h n l r => cases hs; exact ⟨_, _, rfl, .inl ⟨SqL.of h, z1 _ _ _ s1 e1 (wd_enumL h n l r)⟩⟩
      | _ => cases hs
theorem i_zip {p2 tp : Pos} {kk : Nat} {elts : List Expr} (C : XC X ct W k) (hg : Gl X "zip") (ha : PE X x (tE (qX X W) a)) (hb : PE X y (tE (qX X W) b)) (hp : plainE x = true) (hp2 : plainE y = true) : PI X (.Tuple elts kk tp) (.Call (.Name "zip" p2) [x, y] [] p) (tI (qX X W) true (.zip a b)) :=
  (RZ.pi_zipA hg (C.bi "zip" (by decide)) (pa_cons ha (pa_cons hb pa_nil (star_plain hp2)) (star_plain hp)) (star_plain hp) (star_none (by unfold plainEs; simp [hp2]))).imp fun σ H R ⟨w, Γ, e, z⟩ => by
    refine tE_bindD (q := qX X W) e z fun m Γ1 v H1 w1 s1 e1 r1 z1 => tE_bindD (q := qX X W) e1 z1 fun m2 Γ2 v2 H2 w2 s2 e2 r2 z2 => ?_
    have r1 := r1.mono s2.k0
    split at z2
    · rename_i xs ys hs hs2
      rw [hs] at r1
      rw [hs2] at r2
      cases r1 with
      | lst h n l r =>
        cases r2 with
        | lst h2 n2 l2 r2 => exact ⟨_, _, _, _, rfl, .inl ⟨SqL.of h, SqL.of h2, z2 _ _ _ (s1.trans s2) e2 (wd_zipL h n l r h2 n2 r2)⟩⟩
    · rename_i xs ys hs hs2
      rw [hs] at r1
      rw [hs2] at r2
      cases r1 with
      | tup h n l r =>
        cases r2 with
        | tup h2 n2 l2 r2 => exact ⟨_, _, _, _, rfl, .inr ⟨h.sq, h2.sq, z2 _ _ _ (s1.trans s2) e2 (wd_zipT h n l r h2 n2 r2)⟩⟩
    · exact z2.elim
theorem i_itm {tp ap cp : Pos} {kk : Nat} {elts : List Expr} (ha : PE X x (tE (qX X W) a)) (hb : attB x = true) (hl : (ap.endLine == cp.line) = true) : PI X (.Tuple elts kk tp) (.Call (.Attribute x "items" ap) [] [] cp) (tI (qX X W) true (.itm a)) :=
  (pi_items ha (att_plain hb) hl).imp fun σ H R ⟨w, Γ, e, z⟩ => tE_bind (q := qX X W) e z fun m Γ1 v H1 w1 po z1 => by
    match m, po, z1 with
    | .im d, po, z1 =>
      dsimp only at z1
      split at z1
      · rename_i kvs hk
        obtain ⟨aa, o, vs, rfl, rfl, h1, n1, l1, r1⟩ := rd_kvs (show RD X.K w1 H1 d v from po.rm) hk
        exact ⟨aa, o, _, rfl, h1, z1 _ _ _ po.st po.er (wd_items h1 n1 l1 r1)⟩
      · exact z1.elim
theorem i_vls {ap cp : Pos} (ha : PE X x (tE (qX X W) a)) (hb : attB x = true) (hl : (ap.endLine == cp.line) = true) : PI X tg (.Call (.Attribute x "values" ap) [] [] cp) (tI (qX X W) bt (.vls a)) :=
  (pi_values ha (att_plain hb) hl).imp fun σ H R ⟨w, Γ, e, z⟩ => tE_bind (q := qX X W) e z fun m Γ1 v H1 w1 po z1 => by
    match m, po, z1 with
    | .im d, po, z1 =>
      dsimp only at z1
      split at z1
      · rename_i kvs hk
        obtain ⟨aa, o, vs, rfl, rfl, h1, n1, l1, r1⟩ := rd_kvs (show RD X.K w1 H1 d v from po.rm) hk
        exact ⟨aa, o, _, rfl, h1, z1 _ _ _ po.st po.er (wd_vals h1 n1 l1 r1)⟩
      · exact z1.elim
theorem dKL_snd : ∀ {ks : List Int} {vs : List V}, ks.length = vs.length → (dKL ks vs).map (·.2) = vs
  | [], [], _ => rfl
  | k :: ks, v :: vs, h => by
    have := dKL_snd (ks := ks) (vs := vs) (by simpa using h)
    show v :: (dKL ks vs).map (·.2) = _
    rw [this]
  | [], _ :: _, h => by simp at h
  | _ :: _, [], h => by simp at h
theorem s_sumv {ap mp p1 p : Pos} (C : XC X ct W k) (hg : Gl X "sum") (ha : PE X x (tE (qX X W) a)) (hb : attB x = true) (hl : (ap.endLine == mp.line) = true) : PE X (.Call (.Name "sum" p1) [.Call (.Attribute x "values" ap) [] [] mp] [] p) (tE (qX X W) (.sumv a)) :=
  (pe_sumVals C.calm hg (C.bi "sum" (by decide)) ha (att_plain hb) hl).imp fun σ H Q ⟨w, Γ, e, z⟩ => tE_bind (q := qX X W) e z fun m Γ1 v H1 w1 po z1 => by
    match m, po, z1 with
    | .im d, po, z1 =>
      dsimp only at z1
      split at z1
      · rename_i kvs hk
        split at z1
        · rename_i ns hi
          obtain ⟨aa, o, vs, rfl, rfl, h1, n1, l1, r1⟩ := rd_kvs (show RD X.K w1 H1 d v from po.rm) hk
          have hlen : (kvs.map Prod.fst).length = vs.length := by have := r1.length; rw [List.length_map] at this ⊢; exact this
          refine ⟨aa, o, _, ns, rfl, h1, ?_, z1 _ _ _ ((po_im po.er (.int _)).trans po.st e.wf)⟩
          rw [dKL_snd hlen]
          exact r1.ints hi
        · exact z1.elim
      · exact z1.elim
theorem s_lstv {ap mp p1 p : Pos} (C : XC X ct W k) (hg : Gl X "list") (ha : PE X x (tE (qX X W) a)) (hb : attB x = true) (hl : (ap.endLine == mp.line) = true) : PE X (.Call (.Name "list" p1) [.Call (.Attribute x "values" ap) [] [] mp] [] p) (tE (qX X W) (.lstv a)) :=
  (pe_listVals C.calm hg (C.bi "list" (by decide)) ha (att_plain hb) hl).imp fun σ H Q ⟨w, Γ, e, z⟩ => tE_bind (q := qX X W) e z fun m Γ1 v H1 w1 po z1 => by
    match m, po, z1 with
    | .im d, po, z1 =>
      dsimp only at z1
      split at z1
      · rename_i kvs hk
        obtain ⟨aa, o, vs, rfl, rfl, h1, n1, l1, r1⟩ := rd_kvs (show RD X.K w1 H1 d v from po.rm) hk
        have hlen : (kvs.map Prod.fst).length = vs.length := by have := r1.length; rw [List.length_map] at this ⊢; exact this
        have hl2 : vs.length ≤ sizeLine := by rw [← hlen, List.length_map]; exact l1
        refine ⟨aa, o, _, rfl, h1, ?_, fun p hp => ?_⟩
        · have := congrArg List.length (dKL_snd hlen)
          rw [List.length_map] at this
          rw [this]; exact hl2
        · rw [dKL_snd hlen]
          exact z1 _ _ _ ((new_lst po.er hp hl2 r1).trans po.st e.wf)
      · exact z1.elim
/-! ## Targets -/
/-- slots but those in is as they were -/
def SameOut (is : List Nat) (σ σ' : St) : Prop := σ'.length = σ.length ∧ ∀ i, i ∉ is → σ'[i]? = σ[i]?
theorem SameOut.refl (is : List Nat) (σ : St) : SameOut is σ σ := ⟨rfl, fun _ _ => rfl⟩
theorem SameOut.trans {is js : List Nat} {σ σ1 σ2 : St} (h : SameOut is σ σ1) (h2 : SameOut js σ1 σ2) : SameOut (is ++ js) σ σ2 :=
  ⟨h2.1.trans h.1, fun i n => (h2.2 i fun z => n (List.mem_append_right _ z)).trans (h.2 i fun z => n (List.mem_append_left _ z))⟩
theorem SameOut.mono {is js : List Nat} {σ σ1 : St} (h : SameOut is σ σ1) (s : ∀ i ∈ is, i ∈ js) : SameOut js σ σ1 := ⟨h.1, fun i n => h.2 i fun z => n (s i z)⟩
theorem same_set (i : Nat) (σ : St) (v : Option V) : SameOut [i] σ (σ.set i v) := ⟨List.length_set, fun j n => List.getElem?_set_ne fun e => n (by simp [e])⟩
def tG (q : Cn) (f : D → Sl → Option Sl) (is : List Nat) : TG := fun v σ H Q => ∃ w Γ d Γ', ER q.K w Γ σ H ∧ RD q.K w H d v ∧ f d Γ = some Γ' ∧ ∀ σ', ER q.K w Γ' σ' H → SameOut is σ σ' → Q σ' H
def tGs (q : Cn) (f : List D → Sl → Option Sl) (is : List Nat) : TGs := fun vs σ H Q => ∃ w Γ ds Γ', ER q.K w Γ σ H ∧ RDs q.K w H ds vs ∧ f ds Γ = some Γ' ∧ ∀ σ', ER q.K w Γ' σ' H → SameOut is σ σ' → Q σ' H
theorem _root_.L2.PG.imp {X : Cx} {e : Expr} {t t' : TG} (h : PG X e t) (f : ∀ v σ H Q, t' v σ H Q → t v σ H Q) : PG X e t' := ⟨fun pins s σ H v u Q I r z => h.run pins s σ H v u Q I r (f v σ H Q z)⟩
theorem _root_.L2.PGs.imp {X : Cx} {e : List Expr} {t t' : TGs} (h : PGs X e t) (f : ∀ v σ H Q, t' v σ H Q → t v σ H Q) : PGs X e t' := ⟨fun pins s σ H v u Q I r z => h.run pins s σ H v u Q I r (f v σ H Q z)⟩
theorem g_nm {i : Nat} {y : Str} (C : XC X ct W k) (h : storeB ct i y = true) (q : Cn) (hq : q.K = X.K) : PG X (.Name y p) (tG q (fun d Γ => some (Γ.set i (some (.im d)))) [i]) := by
  obtain ⟨h1, _, h2, h3⟩ := C.sto h
  refine (pg_name C.nd h1 h2 h3).imp fun v σ H Q ⟨w, Γ, d, Γ', e, r, hf, z⟩ => ?_
  cases hf
  exact z _ (er_setD e r) (same_set i σ _)
theorem assign_plain {e : Expr} {es : List Expr} {env : PySem.Env} (h : plainE e = true) : (assignEach (e :: es) env).map (·.2) = assign e env :: (assignEach es env).map (·.2) := by
  cases e <;> first | rfl | cases h
theorem gs_nil (q : Cn) : PGs X [] (tGs q (fun ds Γ => match ds with | [] => some Γ | _ => none) []) := pgs_nil.imp fun vs σ H Q ⟨w, Γ, ds, Γ', e, r, hf, z⟩ => by
  cases r with
  | nil => cases hf; exact ⟨rfl, z σ e (SameOut.refl _ _)⟩
  | cons _ _ => cases hf
theorem gs_cons {q : Cn} {f : D → Sl → Option Sl} {g : List D → Sl → Option Sl} {is js : List Nat} (h : PG X x (tG q f is)) (hr : PGs X xs (tGs q g js)) (hp : plainE x = true) :
    PGs X (x :: xs) (tGs q (fun ds Γ => match ds with | d :: ds => (f d Γ).bind fun Γ' => g ds Γ' | [] => none) (is ++ js)) :=
  (pgs_cons h hr (assign_plain hp)).imp fun vs σ H Q ⟨w, Γ, ds, Γ', e, r, hf, z⟩ => by
    cases r with
    | nil => cases hf
    | cons r1 r2 =>
      rename_i d v ds vs _
      cases h1 : f d Γ with
      | none => simp [h1] at hf
      | some Γ1 =>
        simp only [h1, Option.bind_some] at hf
        exact ⟨v, vs, rfl, w, Γ, d, Γ1, e, r1, h1, fun σ1 e1 so1 => ⟨w, Γ1, ds, Γ', e1, r2, hf, fun σ2 e2 so2 => z σ2 e2 (so1.trans so2)⟩⟩
theorem assignEach_len : ∀ (es : List Expr) (env : PySem.Env), (assignEach es env).length = es.length
  | [], _ => rfl
  | e :: es, env => by
    cases e <;> simp [assignEach, assignEach_len es env]
theorem assignEach_star : ∀ (es : List Expr) (env : PySem.Env), plainEs es = true → (assignEach es env).findIdx? (·.1) = none
  | [], _, _ => rfl
  | e :: es, env, h => by
    have h' : plainE e = true ∧ plainEs es = true := by
      unfold plainEs at h ⊢
      rw [List.all_cons, Bool.and_eq_true] at h
      exact h
    have ih := assignEach_star es env h'.2
    cases e <;> first
      | (show List.findIdx? (·.1) ((false, _) :: assignEach es env) = none; rw [List.findIdx?_cons, ih]; rfl)
      | (exact absurd h'.1 (by decide))
      | (cases h'.1)
theorem g_tp {q : Cn} {f : List D → Sl → Option Sl} {is : List Nat} {kk : Nat} (C : XC X ct W k) (hq : q.K = X.K) (h : PGs X xs (tGs q f is)) (hp : plainEs xs = true) (hl : ∀ ds Γ Γ', f ds Γ = some Γ' → ds.length = xs.length) :
    PG X (.Tuple xs kk p) (tG q (fun d Γ => match d with | .tuple ds => f ds Γ | _ => none) is) :=
  (pg_tup C.calm h (assignEach_len _ _) (assignEach_star _ _ hp)).imp fun v σ H Q ⟨w, Γ, d, Γ', e, r, hf, z⟩ => by
    dsimp only at hf
    split at hf
    · rename_i ds
      cases r with
      | tup h1 n l r => exact ⟨_, _, rfl, by rw [← hq]; exact h1.sq, by rw [← r.length]; exact hl _ _ _ hf, w, Γ, ds, Γ', e, r, hf, z⟩
    · cases hf

theorem tGs_congr {q : Cn} {f g : List D → Sl → Option Sl} {is js : List Nat} (h : ∀ ds Γ, g ds Γ = f ds Γ) (hs : ∀ i ∈ is, i ∈ js) : ∀ v σ H Q, tGs q g js v σ H Q → tGs q f is v σ H Q :=
  fun v σ H Q ⟨w, Γ, ds, Γ', e, r, hf, z⟩ => ⟨w, Γ, ds, Γ', e, r, by rw [← h]; exact hf, fun σ' e' so => z σ' e' (so.mono hs)⟩
theorem tG_congr {q : Cn} {f g : D → Sl → Option Sl} {is js : List Nat} (h : ∀ ds Γ, g ds Γ = f ds Γ) (hs : ∀ i ∈ is, i ∈ js) : ∀ v σ H Q, tG q g js v σ H Q → tG q f is v σ H Q :=
  fun v σ H Q ⟨w, Γ, ds, Γ', e, r, hf, z⟩ => ⟨w, Γ, ds, Γ', e, r, by rw [← h]; exact hf, fun σ' e' so => z σ' e' (so.mono hs)⟩
theorem name_plain {e : Expr} {y : Str} (h : vName e = some y) : plainE e = true := by obtain ⟨p, rfl⟩ := vName_eq h; rfl
theorem tup_plain {e : Expr} {y} (h : vTup e = some y) : plainE e = true := by obtain ⟨k, p, rfl⟩ := vTup_eq h; rfl
theorem setNames_len : ∀ (is : List Nat) (ds : List D) (Γ Γ' : Sl), setNames is ds Γ = some Γ' → ds.length = is.length
  | [], [], _, _, _ => rfl
  | _ :: is, _ :: ds, Γ, Γ', h => by rw [List.length_cons, List.length_cons, setNames_len is ds _ _ h]
  | [], _ :: _, _, _, h => by cases h
  | _ :: _, [], _, _, h => by cases h
theorem setP1s_len : ∀ (is : List P1) (ds : List D) (Γ Γ' : Sl), setP1s is ds Γ = some Γ' → ds.length = is.length
  | [], [], _, _, _ => rfl
  | p :: is, d :: ds, Γ, Γ', h => by
    unfold setP1s at h
    cases e : setP1 p d Γ with
    | none => rw [e] at h; cases h
    | some Γ1 => rw [e] at h; rw [List.length_cons, List.length_cons, setP1s_len is ds _ _ h]
  | [], _ :: _, _, _, h => by cases h
  | _ :: _, [], _, _, h => by cases h
theorem gs_names {q : Cn} (C : XC X ct W k) (hq : q.K = X.K) : ∀ (is : List Nat) (es : List Expr), es.length = is.length → ((is.zip es).all fun p => match vName p.2 with | some x => storeB ct p.1 x | none => false) = true →
    PGs X es (tGs q (setNames is) is) ∧ plainEs es = true
  | [], [], _, _ => ⟨(gs_nil q).imp (tGs_congr (fun ds Γ => by cases ds <;> rfl) fun _ h => h), rfl⟩
  | i :: is, e :: es, hl, h => by
    rw [List.zip_cons_cons, List.all_cons, Bool.and_eq_true] at h
    obtain ⟨h1, h2⟩ := gs_names C hq is es (by simpa using hl) h.2
    have h0 := h.1
    cases hn : vName e with
    | none => simp only [hn] at h0; cases h0
    | some y =>
      simp only [hn] at h0
      have hp := name_plain hn
      obtain ⟨p, rfl⟩ := vName_eq hn
      refine ⟨(gs_cons (g_nm C h0 q hq) h1 hp).imp (tGs_congr (fun ds Γ => by cases ds <;> rfl) fun j hj => by simpa using hj), ?_⟩
      unfold plainEs at h2 ⊢
      rw [List.all_cons, hp, h2]; rfl
  | [], _ :: _, hl, _ => by cases hl
  | _ :: _, [], hl, _ => by cases hl
theorem g_p1 {q : Cn} {e : Expr} (C : XC X ct W k) (hq : q.K = X.K) (s : P1) (h : mP1 ct s e = true) : PG X e (tG q (setP1 s) (p1Slots s)) ∧ plainE e = true := by
  cases s with
  | nm i =>
    unfold mP1 at h
    cases hn : vName e with
    | none => simp only [hn] at h; cases h
    | some y =>
      simp only [hn] at h
      refine ⟨?_, name_plain hn⟩
      obtain ⟨p, rfl⟩ := vName_eq hn
      exact (g_nm C h q hq).imp (tG_congr (fun _ _ => rfl) fun _ h => h)
  | tp is =>
    unfold mP1 at h
    cases hn : vTup e with
    | none => simp only [hn] at h; cases h
    | some es =>
      simp only [hn, Bool.and_eq_true, decide_eq_true_eq] at h
      obtain ⟨h1, h2⟩ := gs_names (q := q) C hq is es h.1 h.2
      refine ⟨?_, tup_plain hn⟩
      obtain ⟨kk, p, rfl⟩ := vTup_eq hn
      exact (g_tp C hq h1 h2 fun ds Γ Γ' z => (setNames_len is ds Γ Γ' z).trans h.1.symm).imp (tG_congr (fun d Γ => by cases d <;> rfl) fun _ h => h)
theorem gs_p1s {q : Cn} (C : XC X ct W k) (hq : q.K = X.K) : ∀ (ps : List P1) (es : List Expr), es.length = ps.length → ((ps.zip es).all fun p => mP1 ct p.1 p.2) = true →
    PGs X es (tGs q (setP1s ps) (ps.map p1Slots).flatten) ∧ plainEs es = true
  | [], [], _, _ => ⟨(gs_nil q).imp (tGs_congr (fun ds Γ => by cases ds <;> rfl) fun _ h => h), rfl⟩
  | s :: ps, e :: es, hl, h => by
    rw [List.zip_cons_cons, List.all_cons, Bool.and_eq_true] at h
    obtain ⟨h1, h2⟩ := gs_p1s C hq ps es (by simpa using hl) h.2
    obtain ⟨h3, h4⟩ := g_p1 (q := q) C hq s h.1
    refine ⟨(gs_cons h3 h1 h4).imp (tGs_congr (fun ds Γ => by cases ds <;> rfl) fun j hj => hj), ?_⟩
    unfold plainEs at h2 ⊢
    rw [List.all_cons, h4, h2]; rfl
  | [], _ :: _, hl, _ => by cases hl
  | _ :: _, [], hl, _ => by cases hl
theorem g_pt {q : Cn} {e : Expr} (C : XC X ct W k) (hq : q.K = X.K) (s : Pt) (h : mPt ct s e = true) : PG X e (tG q (setPt s) (ptSlots s)) := by
  cases s with
  | nm i =>
    unfold mPt at h
    cases hn : vName e with
    | none => simp only [hn] at h; cases h
    | some y =>
      simp only [hn] at h
      obtain ⟨p, rfl⟩ := vName_eq hn
      exact (g_nm C h q hq).imp (tG_congr (fun _ _ => rfl) fun _ h => h)
  | tp is =>
    unfold mPt at h
    cases hn : vTup e with
    | none => simp only [hn] at h; cases h
    | some es =>
      simp only [hn, Bool.and_eq_true, decide_eq_true_eq] at h
      obtain ⟨h1, h2⟩ := gs_p1s (q := q) C hq is es h.1 h.2
      obtain ⟨kk, p, rfl⟩ := vTup_eq hn
      exact (g_tp C hq h1 h2 fun ds Γ Γ' z => (setP1s_len is ds Γ Γ' z).trans h.1.symm).imp (tG_congr (fun d Γ => by cases d <;> rfl) fun _ h => h)
/-- names and tuples of names, out of a list -/
theorem g_ptl {q : Cn} {e : Expr} (C : XC X ct W k) (hq : q.K = X.K) (is : List P1) (h : mPt ct (.tp is) e = true) : PG X e (tG q (fun d Γ => match d with | .list ds => setP1s is ds Γ | _ => none) (ptSlots (.tp is))) := by
  unfold mPt at h
  cases hn : vTup e with
  | none => simp only [hn] at h; cases h
  | some es =>
    simp only [hn, Bool.and_eq_true, decide_eq_true_eq] at h
    obtain ⟨h1, h2⟩ := gs_p1s (q := q) C hq is es h.1 h.2
    obtain ⟨kk, p, rfl⟩ := vTup_eq hn
    exact (pg_lst C.calm h1 (assignEach_len _ _) (assignEach_star _ _ h2)).imp fun v σ H Q ⟨w, Γ, d, Γ', e, r, hf, z⟩ => by
      dsimp only at hf
      split at hf
      · rename_i ds
        cases r with
        | lst h3 n l r => exact ⟨_, _, rfl, by rw [← hq]; exact SqL.of h3, by rw [← r.length]; exact (setP1s_len is ds Γ Γ' hf).trans h.1.symm, w, Γ, ds, Γ', e, r, hf, z⟩
      · cases hf
/-! targets of loops: what a step gives may be a pair that is taken apart at once -/
def isTupE : Expr → Bool
  | .Tuple .. => true
  | _ => false
def tGw (q : Cn) (b : Bool) (f : D → Sl → Option Sl) (is : List Nat) : TG := fun v σ H Q => ∃ w Γ d Γ', ER q.K w Γ σ H ∧ RW q.K w H b d v ∧ f d Γ = some Γ' ∧ ∀ σ', ER q.K w Γ' σ' H → SameOut is σ σ' → Q σ' H
theorem g_tpw {q : Cn} {b : Bool} {f : List D → Sl → Option Sl} {is : List Nat} {kk : Nat} (C : XC X ct W k) (hq : q.K = X.K) (h : PGs X xs (tGs q f is)) (hp : plainEs xs = true) (hl : ∀ ds Γ Γ', f ds Γ = some Γ' → ds.length = xs.length) :
    PG X (.Tuple xs kk p) (tGw q b (fun d Γ => match d with | .tuple ds => f ds Γ | _ => none) is) :=
  (pg_tup C.calm h (assignEach_len _ _) (assignEach_star _ _ hp)).imp fun v σ H Q ⟨w, Γ, d, Γ', e, r, hf, z⟩ => by
    dsimp only at hf
    split at hf
    · rename_i ds
      rcases r with r | ⟨_, a, x, y, d1, d2, rfl, ed, h1, r1, r2⟩
      · cases r with
        | tup h1 n l r => exact ⟨_, _, rfl, by rw [← hq]; exact h1.sq, by rw [← r.length]; exact hl _ _ _ hf, w, Γ, ds, Γ', e, r, hf, z⟩
      · cases ed
        have r : RDs q.K w H [d1, d2] [x, y] := .cons r1 (.cons r2 .nil)
        exact ⟨_, _, rfl, by rw [← hq]; exact SqT.of h1, by rw [← r.length]; exact hl _ _ _ hf, w, Γ, _, Γ', e, r, hf, z⟩
    · cases hf
theorem tGw_congr {q : Cn} {b : Bool} {f g : D → Sl → Option Sl} {is js : List Nat} (h : ∀ ds Γ, g ds Γ = f ds Γ) (hs : ∀ i ∈ is, i ∈ js) : ∀ v σ H Q, tGw q b g js v σ H Q → tGw q b f is v σ H Q :=
  fun v σ H Q ⟨w, Γ, ds, Γ', e, r, hf, z⟩ => ⟨w, Γ, ds, Γ', e, r, by rw [← h]; exact hf, fun σ' e' so => z σ' e' (so.mono hs)⟩
theorem g_ptw {q : Cn} {e : Expr} (C : XC X ct W k) (hq : q.K = X.K) (s : Pt) (h : mPt ct s e = true) : PG X e (tGw q (isTupE e) (setPt s) (ptSlots s)) := by
  cases s with
  | nm i =>
    unfold mPt at h
    cases hn : vName e with
    | none => simp only [hn] at h; cases h
    | some y =>
      simp only [hn] at h
      obtain ⟨p, rfl⟩ := vName_eq hn
      refine (g_nm C h q hq).imp fun v σ H Q ⟨w, Γ, d, Γ', e, r, hf, z⟩ => ⟨w, Γ, d, Γ', e, ?_, hf, z⟩
      rcases r with r | ⟨hb, _⟩
      · exact r
      · cases hb
  | tp is =>
    unfold mPt at h
    cases hn : vTup e with
    | none => simp only [hn] at h; cases h
    | some es =>
      simp only [hn, Bool.and_eq_true, decide_eq_true_eq] at h
      obtain ⟨h1, h2⟩ := gs_p1s (q := q) C hq is es h.1 h.2
      obtain ⟨kk, p, rfl⟩ := vTup_eq hn
      exact (g_tpw C hq h1 h2 fun ds Γ Γ' z => (setP1s_len is ds Γ Γ' z).trans h.1.symm).imp (tGw_congr (fun d Γ => by cases d <;> rfl) fun _ h => h)
end
end L2.Gv

set_option Elab.async false
set_option linter.all false
set_option maxRecDepth 100000
set_option maxHeartbeats 2000000
namespace L2.Gv
open PySem PySem.Spec PyProof.Rows L2
/-! ## Comprehensions -/
section
variable {K : PySem.W.Frag} {w : Wn} {H : Hp} {Γ Γ' : Sl} {σ : St}
theorem wipeG_length (Γ : Sl) : ∀ ow : List Nat, (wipeG Γ ow).length = Γ.length
  | [] => rfl
  | _ :: is => by unfold wipeG; rw [List.length_set, wipeG_length Γ is]
theorem wipeG_some {i : Nat} {m : M} : ∀ {ow : List Nat}, (wipeG Γ ow)[i]? = some (some m) → Γ[i]? = some (some m) ∧ i ∉ ow
  | [], h => ⟨h, by simp⟩
  | j :: is, h => by
    unfold wipeG at h
    rcases getElem?_set_opt h with ⟨_, q⟩ | ⟨ne, q⟩
    · cases q
    · obtain ⟨h1, h2⟩ := wipeG_some q
      exact ⟨h1, by simp only [List.mem_cons, not_or]; exact ⟨fun e => ne e.symm, h2⟩⟩
theorem wipeG_out {i : Nat} : ∀ {ow : List Nat}, i ∉ ow → (wipeG Γ ow)[i]? = Γ[i]?
  | [], _ => rfl
  | j :: is, h => by
    unfold wipeG
    simp only [List.mem_cons, not_or] at h
    rw [List.getElem?_set_ne (fun e => h.1 e.symm), wipeG_out h.2]
theorem er_wipe (e : ER K w Γ σ H) (ow : List Nat) : ER K w (wipeG Γ ow) (wipe σ ow) H := by
  refine ⟨by rw [wipeG_length, wipe_length]; exact e.len, e.wf, fun i m h => ?_⟩
  obtain ⟨h1, h2⟩ := wipeG_some h
  obtain ⟨v, h3, h4⟩ := e.at_ i m h1
  exact ⟨v, by rw [wipe_out h2]; exact h3, h4⟩
theorem backG_length (Γ Γ' : Sl) : ∀ ow : List Nat, (backG Γ Γ' ow).length = Γ'.length
  | [] => rfl
  | i :: is => by
    unfold backG
    split
    · rw [List.length_set, backG_length Γ Γ' is]
    · exact backG_length Γ Γ' is
theorem backG_get {i : Nat} {m : M} (hl : Γ'.length = Γ.length) : ∀ {ow : List Nat}, (backG Γ Γ' ow)[i]? = some (some m) → (i ∈ ow ∧ Γ[i]? = some (some m)) ∨ (i ∉ ow ∧ Γ'[i]? = some (some m))
  | [], h => .inr ⟨by simp, h⟩
  | j :: is, h => by
    unfold backG at h
    split at h
    · rename_i o ho
      rcases getElem?_set_opt h with ⟨rfl, q⟩ | ⟨ne, q⟩
      · exact .inl ⟨List.mem_cons_self, by rw [ho, ← q]⟩
      · rcases backG_get hl q with ⟨h1, h2⟩ | ⟨h1, h2⟩
        · exact .inl ⟨List.mem_cons_of_mem _ h1, h2⟩
        · exact .inr ⟨by simp only [List.mem_cons, not_or]; exact ⟨fun z => ne z.symm, h1⟩, h2⟩
    · rename_i ho
      rcases backG_get hl h with ⟨h1, h2⟩ | ⟨h1, h2⟩
      · exact .inl ⟨List.mem_cons_of_mem _ h1, h2⟩
      · refine .inr ⟨by
          simp only [List.mem_cons, not_or]
          refine ⟨fun z => ?_, h1⟩
          subst z
          have := (List.getElem?_eq_some_iff.mp h2).1
          rw [List.getElem?_eq_none_iff] at ho
          omega, h2⟩
/-- the block's names as they were -/
theorem er_back {w' : Wn} {H' : Hp} {ow : List Nat} (e : ER K w Γ σ H) (s : Step H w H' w') (e' : ER K w' (wipeG Γ' ow) (wipe σ ow) H') (hp : ow.all (fun i => plainM (Γ[i]?.join)) = true) : ER K w' (backG Γ Γ' ow) σ H' := by
  have hl : Γ'.length = Γ.length := by
    have := e'.len
    rw [wipeG_length, wipe_length] at this
    rw [this, e.len]
  refine ⟨by rw [backG_length, hl, e.len], e'.wf, fun i m h => ?_⟩
  rcases backG_get hl h with ⟨h1, h2⟩ | ⟨h1, h2⟩
  · have q := List.all_eq_true.mp hp i h1
    rw [h2] at q
    cases m with
    | im d =>
      obtain ⟨v, h3, h4⟩ := e.at_ i _ h2
      exact ⟨v, h3, RD.mono s.k0 h4⟩
    | _ => cases q
  · obtain ⟨v, h3, h4⟩ := e'.at_ i m (by rw [wipeG_out h1]; exact h2)
    exact ⟨v, by rw [wipe_out h1] at h3; exact h3, h4⟩
/-- a temporary written -/
theorem wipe_same {is : List Nat} {σ1 σ2 : St} {ow : List Nat} (h : SameOut is σ1 σ2) (s : ∀ i ∈ is, i ∈ ow) : wipe σ2 ow = wipe σ1 ow := by
  apply List.ext_getElem?
  intro i
  by_cases hi : i ∈ ow
  · have f : ∀ σ : St, (wipe σ ow)[i]? = if i < σ.length then some none else none := fun σ => by
      by_cases hl : i < σ.length
      · rw [if_pos hl]
        cases q : (wipe σ ow)[i]? with
        | none => rw [List.getElem?_eq_none_iff, wipe_length] at q; omega
        | some o =>
          cases o with
          | none => rfl
          | some v => exact absurd hi (wipe_some q).2
      · rw [if_neg hl, List.getElem?_eq_none_iff, wipe_length]; omega
    rw [f, f, h.1]
  · rw [wipe_out hi, wipe_out hi]
    exact h.2 i fun z => hi (s i z)
theorem wipe_wipe (σ : St) (ow : List Nat) : wipe (wipe σ ow) ow = wipe σ ow := by
  apply List.ext_getElem?
  intro i
  by_cases hi : i ∈ ow
  · have f : ∀ σ : St, (wipe σ ow)[i]? = if i < σ.length then some none else none := fun σ => by
      by_cases hl : i < σ.length
      · rw [if_pos hl]
        cases q : (wipe σ ow)[i]? with
        | none => rw [List.getElem?_eq_none_iff, wipe_length] at q; omega
        | some o =>
          cases o with
          | none => rfl
          | some v => exact absurd hi (wipe_some q).2
      · rw [if_neg hl, List.getElem?_eq_none_iff, wipe_length]; omega
    rw [f, f, wipe_length]
  · rw [wipe_out hi]
end
/-- no exception leaves a block -/
def W0 : WX := fun _ _ _ _ => False
theorem rdg0 {q : Cn} {α : Type} {w : Wn} {H : Hp} {σ : St} {r : Rs α} {P : α → Sl → Prop} {a : α} {Γ : Sl} (e : r = .ok a Γ) (h : P a Γ) : rdg q w H σ r P := by rw [e]; exact h
section
variable {bt : Bool} {X : Cx} {ct : Ct} {W : WX} {k : Nat} {x y tg iter : Expr} {p : Pos}
def bodyC (p : Pt) (cs : Ar) (el : Ex) (ow : List Nat) : D → Sl → Rs (Option D) := fun d Γ => match setPt p d (wipeG Γ ow) with
  | some Γ' => (evC cs Γ').bind fun b Γ => if b then (evE el Γ).bind fun y Γ => .ok (some (frz y)) Γ else .ok none Γ
  | none => .no
theorem loopC_cons {f : D → Sl → Rs (Option D)} {d : D} {ds acc xs : List D} {Γ Γ2 : Sl} (h : loopC f (d :: ds) acc Γ = .ok xs Γ2) : ∃ o Γ1, f d Γ = .ok o Γ1 ∧ loopC f ds (match o with | some y => acc ++ [y] | none => acc) Γ1 = .ok xs Γ2 := by
  unfold loopC at h
  split at h
  · rename_i y Γ1 e; exact ⟨_, _, e, h⟩
  · rename_i Γ1 e; exact ⟨_, _, e, h⟩
  · cases h
theorem lc_imp {ow : List Nat} {pt : Pt} {it : Gv.It} {cs : Ar} {el : Ex} (hp : ∀ i ∈ ptSlots pt, i ∈ ow) : ∀ σ H Q, tE (qX X W) (.lc ow pt it cs el) σ H Q → tLc (tI (qX X W) bt it) (tGw (qX X W0) bt (setPt pt) (ptSlots pt)) (tT (qX X W0) (evC cs)) (tE (qX X W0) el) ow σ H Q :=
  fun σ H Q ⟨w, Γ, e, z⟩ => by
    have z : rdg (qX X W) w H σ ((evI it Γ).bind fun ds Γ1 => if ow.all (fun i => plainM (Γ1[i]?.join)) then
      match loopC (bodyC pt cs el ow) ds [] Γ1 with
        | .ok xs Γ2 => .ok (.ml xs) (backG Γ1 Γ2 ow)
        | _ => .no
      else .no) fun r Γ' => ∀ v H' w', Po X.K w H Γ' σ r v H' w' → Q v H' := z
    refine ⟨w, Γ, e, z.bind.imp fun ds Γ1 z1 J H1 w1 s1 e1 wd D hD => ?_⟩
    split at z1
    case isFalse => exact z1.elim
    rename_i hpl
    cases hL : loopC (bodyC pt cs el ow) ds [] Γ1 with
    | no => rw [hL] at z1; exact z1.elim
    | ex _ _ => rw [hL] at z1; exact z1.elim
    | ok xs Γ2 =>
      rw [hL] at z1
      obtain ⟨hlen, G, Y, wk, hG, hY⟩ := wd
      have nD : w1 D = none := e1.wf.fresh hD
      refine lc_it wk (fun i Hc => ∃ wc Γc acc vs, Step H1 w1 Hc wc ∧ ER X.K wc (wipeG Γc ow) (wipe σ ow) Hc ∧ Hc D = some (.lst vs) ∧ wc D = some none ∧ acc.length ≤ i ∧ RDs X.K wc Hc acc vs ∧ loopC (bodyC pt cs el ow) (ds.drop i) acc Γc = .ok xs Γ2)
        ⟨Gv.own w1 (· = D) (some none), Γ1, [], [], (ext_own hD).step, er_wipe (e1.ext (ext_own hD) (wf_own e1.wf)) ow, upd_same, own_in rfl, Nat.le_refl _, .nil, hL⟩
        (fun i Hc hi ⟨wc, Γc, acc, vs, sc, _⟩ => hG Hc wc sc.k0) ?_ ?_
      · rintro i v Hc H2 hi ⟨wc, Γc, acc, vs, sc, ec, hDc, wD, hal, rda, hl⟩ hy
        obtain ⟨d, hd, ex2, wf2, rd⟩ := hY i Hc wc v H2 hi sc.k0 ec.wf hy
        have hdrop : ds.drop i = d :: ds.drop (i + 1) := by
          obtain ⟨hlt, hge⟩ := List.getElem?_eq_some_iff.mp hd
          rw [List.drop_eq_getElem_cons hlt, hge]
        rw [hdrop] at hl
        obtain ⟨o, Γn, hb, hl⟩ := loopC_cons hl
        unfold bodyC at hb
        cases hset : setPt pt d (wipeG Γc ow) with
        | none => rw [hset] at hb; cases hb
        | some Γp =>
          rw [hset] at hb
          obtain ⟨b, Γb, hc, hb⟩ := bind_ok hb
          refine ⟨wc, _, d, Γp, ec.ext ex2 wf2, rd, hset, fun σ2 e2 so => ?_⟩
          have hw : wipe σ2 ow = wipe σ ow := (wipe_same so hp).trans (wipe_wipe σ ow)
          refine ⟨hw, wc, Γp, e2, rdg0 hc fun H3 w3 s3 e3 => ?_⟩
          have s13 : Step H1 w1 H3 w3 := (sc.trans ex2.step).trans s3
          have hD2 := ex2 D _ hDc
          obtain ⟨hD3, wD3⟩ := s3 D _ hD2.1 (nslot_zone wD)
          rw [wD] at wD3
          have rda3 : RDs X.K w3 H3 acc vs := (rda.mono ex2.step.k0).mono s3.k0
          cases b with
          | false =>
            simp only [Bool.false_eq_true, if_false] at hb ⊢
            cases hb
            refine ⟨w3, Γn, acc, vs, s13, ?_, hD3, wD3, Nat.le_succ_of_le hal, rda3, hl⟩
            have := er_wipe e3 ow
            rw [hw] at this; exact this
          | true =>
            simp only [if_true] at hb ⊢
            obtain ⟨m, Γm, hm, hb⟩ := bind_ok hb
            cases hb
            refine ⟨w3, Γb, e3, rdg0 hm fun u H4 w4 po => ?_⟩
            obtain ⟨w5, s5, e5, r5⟩ := po.frz
            obtain ⟨hD5, wD5⟩ := s5 D _ hD3 (nslot_zone wD3)
            rw [wD3] at wD5
            have kw := k0_write (H := H4) (o := .lst (vs ++ [u])) wD5
            refine ⟨vs, hD5, by rw [← rda.length]; omega, w5, Γn, acc ++ [frz m], vs ++ [u], ?_, ?_, upd_same, wD5, by rw [List.length_append]; simp; omega, ((rda3.mono s5.k0).snoc r5).mono kw, hl⟩
            · intro a o ha hn
              have ne : a ≠ D := fun z => by rw [z, hD] at ha; cases ha
              obtain ⟨g1, g2⟩ := (s13.trans s5) a o ha hn
              exact ⟨by rw [upd_ne ne]; exact g1, g2⟩
            · have := er_temp (o := .lst (vs ++ [u])) (er_wipe e5 ow) wD5
              rw [hw] at this; exact this
      · rintro Hn ⟨wc, Γc, acc, vs, sc, ec, hDc, wD, hal, rda, hl⟩
        rw [List.drop_length] at hl
        cases hl
        refine z1 (.ref D) Hn wc ⟨s1.trans sc, er_back e1 sc ec hpl, ⟨D, vs, rfl, hDc, wD, by rw [← rda.length]; omega, rda⟩, fun a oa => ?_⟩
        have oa : V.ref D = V.ref a := oa
        cases oa
        exact zone_back s1 e.wf (by rw [nD]; intro q; cases q)
theorem s_lc {ow : List Nat} {pt : Pt} {it : Gv.It} {cs : Ar} {el : Ex} {ifs : List Expr} {scope : Scope} {own : List (Str × Nat)} (C : XC X ct W k) (hi : PI X tg iter (tI (qX X W) bt it)) (ok : BlkOk X.N X.env.scope scope own) (hown : own.map (·.2) = ow)
    (hg : ∀ (s : Shared) (H : Hp) (C : Addr) (cl : List (Str × Addr)) (fp : List Addr), PG (X.blk s H scope (compEnvC scope cl C X.env) fp) tg (tGw (qX X W0) bt (setPt pt) (ptSlots pt)))
    (ht : ∀ (s : Shared) (H : Hp) (C : Addr) (cl : List (Str × Addr)) (fp : List Addr), PTs (X.blk s H scope (compEnvC scope cl C X.env) fp) ifs (tT (qX X W0) (evC cs)))
    (he : ∀ (s : Shared) (H : Hp) (C : Addr) (cl : List (Str × Addr)) (fp : List Addr), PE (X.blk s H scope (compEnvC scope cl C X.env) fp) x (tE (qX X W0) el))
    (hs : ∀ z, foldedSetIterable iter X.env z = pure z) (hp : ∀ i ∈ ptSlots pt, i ∈ ow) : PE X (.ListComp x [⟨tg, iter, ifs, 0⟩] scope p) (tE (qX X W) (.lc ow pt it cs el)) :=
  (pe_lc C.calm C.nd hi ok hg ht he hs).imp fun σ H Q z => by
    rw [hown]; exact lc_imp hp σ H Q z
def bodyM (p : Pt) (el : Ex) (ow : List Nat) : D → Sl → Rs (List D) := fun d Γ => match setPt p d (wipeG Γ ow) with
  | some Γ' => asML (evE el Γ')
  | none => .no
theorem loopM_cons {f : D → Sl → Rs (List D)} {d : D} {ds : List D} {acc xs : List (List D)} {Γ Γ2 : Sl} (h : loopM f (d :: ds) acc Γ = .ok xs Γ2) : ∃ o Γ1, f d Γ = .ok o Γ1 ∧ loopM f ds (acc ++ [o]) Γ1 = .ok xs Γ2 := by
  unfold loopM at h
  split at h
  · rename_i y Γ1 e; exact ⟨_, _, e, h⟩
  · cases h
theorem Rows.snoc {K : PySem.W.Frag} {w : Wn} {H : Hp} {t : Option Nat} {xs : List D} {b : Addr} (hb : ∃ vs, H b = some (.lst vs) ∧ w b = some t ∧ vs.length ≤ sizeLine ∧ RDs K w H xs vs) : ∀ {xss : List (List D)} {bs : List Addr}, Rows K w H t xss bs → b ∉ bs → Rows K w H t (xss ++ [xs]) (bs ++ [b])
  | [], [], _, _ => ⟨hb, by simp, trivial⟩
  | _ :: _, c :: cs, h, n => ⟨h.1, fun z => by
      rcases List.mem_append.mp z with q | q
      · exact h.2.1 q
      · exact n (by rw [← List.mem_singleton.mp q]; exact List.mem_cons_self), Rows.snoc hb h.2.2 fun z => n (List.mem_cons_of_mem _ z)⟩
  | [], _ :: _, h, _ => h.elim
  | _ :: _, [], h, _ => h.elim
/-- rows of temporaries over a step -/
theorem Rows.step {K : PySem.W.Frag} {w w' : Wn} {H H' : Hp} {xss : List (List D)} {bs : List Addr} (h : Rows K w H none xss bs) (s : Step H w H' w') : Rows K w' H' none xss bs :=
  h.keep s.k0 fun b hb => by
    obtain ⟨h1, vs, h2⟩ := h.own b hb
    obtain ⟨h3, h4⟩ := s b _ h2 (nslot_zone h1)
    exact ⟨by rw [h3, h2], by rw [h4, h1]⟩
theorem asML_ok {r : Rs M} {ys : List D} {Γ : Sl} (h : asML r = .ok ys Γ) : r = .ok (.ml ys) Γ := by
  unfold asML at h
  obtain ⟨m, Γ1, h1, h2⟩ := bind_ok h
  split at h2
  · cases h2; exact h1
  · cases h2
theorem lcm_imp {ow : List Nat} {pt : Pt} {it : Gv.It} {el : Ex} (hp : ∀ i ∈ ptSlots pt, i ∈ ow) : ∀ σ H Q, tE (qX X W) (.lcm ow pt it el) σ H Q → tLc (tI (qX X W) bt it) (tGw (qX X W0) bt (setPt pt) (ptSlots pt)) tYes (tE (qX X W0) el) ow σ H Q :=
  fun σ H Q ⟨w, Γ, e, z⟩ => by
    have z : rdg (qX X W) w H σ ((evI it Γ).bind fun ds Γ1 => if ow.all (fun i => plainM (Γ1[i]?.join)) then
      match loopM (bodyM pt el ow) ds [] Γ1 with
        | .ok xs Γ2 => .ok (.mm xs) (backG Γ1 Γ2 ow)
        | _ => .no
      else .no) fun r Γ' => ∀ v H' w', Po X.K w H Γ' σ r v H' w' → Q v H' := z
    refine ⟨w, Γ, e, z.bind.imp fun ds Γ1 z1 J H1 w1 s1 e1 wd D hD => ?_⟩
    split at z1
    case isFalse => exact z1.elim
    rename_i hpl
    cases hL : loopM (bodyM pt el ow) ds [] Γ1 with
    | no => rw [hL] at z1; exact z1.elim
    | ex _ _ => rw [hL] at z1; exact z1.elim
    | ok xs Γ2 =>
      rw [hL] at z1
      obtain ⟨hlen, G, Y, wk, hG, hY⟩ := wd
      have nD : w1 D = none := e1.wf.fresh hD
      refine lc_it wk (fun i Hc => ∃ wc Γc acc bs, Step H1 w1 Hc wc ∧ ER X.K wc (wipeG Γc ow) (wipe σ ow) Hc ∧ Hc D = some (.lst (bs.map V.ref)) ∧ wc D = some none ∧ acc.length ≤ i ∧ Rows X.K wc Hc none acc bs ∧ D ∉ bs ∧ (∀ b ∈ bs, w1 b ≠ some none) ∧ loopM (bodyM pt el ow) (ds.drop i) acc Γc = .ok xs Γ2)
        ⟨Gv.own w1 (· = D) (some none), Γ1, [], [], (ext_own hD).step, er_wipe (e1.ext (ext_own hD) (wf_own e1.wf)) ow, upd_same, own_in rfl, Nat.le_refl _, trivial, by simp, by simp, hL⟩
        (fun i Hc hi ⟨wc, Γc, acc, vs, sc, _⟩ => hG Hc wc sc.k0) ?_ ?_
      · rintro i v Hc H2 hi ⟨wc, Γc, acc, bs, sc, ec, hDc, wD, hal, rda, nbD, nbz, hl⟩ hy
        obtain ⟨d, hd, ex2, wf2, rd⟩ := hY i Hc wc v H2 hi sc.k0 ec.wf hy
        have hdrop : ds.drop i = d :: ds.drop (i + 1) := by
          obtain ⟨hlt, hge⟩ := List.getElem?_eq_some_iff.mp hd
          rw [List.drop_eq_getElem_cons hlt, hge]
        rw [hdrop] at hl
        obtain ⟨o, Γn, hb, hl⟩ := loopM_cons hl
        unfold bodyM at hb
        cases hset : setPt pt d (wipeG Γc ow) with
        | none => rw [hset] at hb; cases hb
        | some Γp =>
          rw [hset] at hb
          have hm := asML_ok hb
          refine ⟨wc, _, d, Γp, ec.ext ex2 wf2, rd, hset, fun σ2 e2 so => ?_⟩
          have hw : wipe σ2 ow = wipe σ ow := (wipe_same so hp).trans (wipe_wipe σ ow)
          refine ⟨hw, ?_⟩
          simp only [tYes, if_true]
          have s12 : Step H1 w1 H2 wc := sc.trans ex2.step
          have hD2 := ex2 D _ hDc
          have rows2 := rda.step ex2.step
          refine ⟨wc, Γp, e2, rdg0 hm fun u H4 w4 po => ?_⟩
          obtain ⟨b, vs, rfl, g1, g2, g3, g4⟩ := po.rm
          have nb : wc b ≠ some none := po.nw b rfl
          obtain ⟨hD4, wD4⟩ := po.st D _ hD2.1 (nslot_zone wD)
          rw [wD] at wD4
          have kw := k0_write (H := H4) (o := .lst ((bs ++ [b]).map V.ref)) wD4
          have rows4 := rows2.step po.st
          have bD : b ≠ D := fun q => nb (by rw [q]; exact wD)
          have bbs : b ∉ bs := fun q => nb (rows2.own b q).1
          have rowsN := Rows.snoc ⟨vs, g1, g2, g3, g4⟩ rows4 bbs
          have hDN : D ∉ bs ++ [b] := by
            simp only [List.mem_append, List.mem_singleton, not_or]
            exact ⟨nbD, fun q => bD q.symm⟩
          have hl4 : (bs.map V.ref).length < sizeLine := by rw [List.length_map, ← rda.length]; omega
          have hme : bs.map V.ref ++ [V.ref b] = (bs ++ [b]).map V.ref := by rw [List.map_append]; rfl
          refine ⟨bs.map V.ref, hD4, hl4, ?_⟩
          rw [hme]
          refine ⟨w4, Γn, acc ++ [o], bs ++ [b], ?_, ?_, upd_same, wD4, by rw [List.length_append]; simp; omega, ?_, hDN, ?_, hl⟩
          · intro a oo ha hn
            have ne : a ≠ D := fun z => by rw [z, hD] at ha; cases ha
            obtain ⟨q1, q2⟩ := (s12.trans po.st) a oo ha hn
            exact ⟨by rw [upd_ne ne]; exact q1, q2⟩
          · have := er_temp (o := .lst ((bs ++ [b]).map V.ref)) (er_wipe po.er ow) wD4
            rw [hw] at this; exact this
          · refine rowsN.keep kw fun c hc => ⟨upd_ne fun q => hDN (by rw [← q]; exact hc), (rowsN.own c hc).1⟩
          · intro c hc
            rcases List.mem_append.mp hc with q | q
            · exact nbz c q
            · have : c = b := by simpa using q
              subst this
              exact zone_back s12 e1.wf nb
      · rintro Hn ⟨wc, Γc, acc, bs, sc, ec, hDc, wD, hal, rda, nbD, nbz, hl⟩
        rw [List.drop_length] at hl
        cases hl
        refine z1 (.ref D) Hn wc ⟨s1.trans sc, er_back e1 sc ec hpl, ⟨D, bs, rfl, hDc, wD, by rw [← rda.length]; omega, nbD, rda⟩, fun a oa => ?_⟩
        have wa1 : w1 a ≠ some none := by
          rcases (show V.ref D = V.ref a ∨ ∃ (b : Addr) (cs : List Addr), V.ref D = .ref b ∧ Hn b = some (.lst (cs.map V.ref)) ∧ a ∈ cs from oa) with q | ⟨b, cs, q, h1, h2⟩
          · cases q; rw [nD]; intro q; cases q
          · cases q
            rw [hDc] at h1
            have ec : bs = cs := by
              have q := Option.some.inj h1
              injection q with q
              exact List.map_inj_right (fun x y z => by injection z) |>.mp q
            subst ec
            exact nbz a h2
        exact zone_back s1 e.wf wa1
theorem s_lcm {ow : List Nat} {pt : Pt} {it : Gv.It} {el : Ex} {scope : Scope} {own : List (Str × Nat)} (C : XC X ct W k) (hi : PI X tg iter (tI (qX X W) bt it)) (ok : BlkOk X.N X.env.scope scope own) (hown : own.map (·.2) = ow)
    (hg : ∀ (s : Shared) (H : Hp) (C : Addr) (cl : List (Str × Addr)) (fp : List Addr), PG (X.blk s H scope (compEnvC scope cl C X.env) fp) tg (tGw (qX X W0) bt (setPt pt) (ptSlots pt)))
    (he : ∀ (s : Shared) (H : Hp) (C : Addr) (cl : List (Str × Addr)) (fp : List Addr), PE (X.blk s H scope (compEnvC scope cl C X.env) fp) x (tE (qX X W0) el))
    (hs : ∀ z, foldedSetIterable iter X.env z = pure z) (hp : ∀ i ∈ ptSlots pt, i ∈ ow) : PE X (.ListComp x [⟨tg, iter, [], 0⟩] scope p) (tE (qX X W) (.lcm ow pt it el)) :=
  (pe_lc C.calm C.nd hi ok hg (fun _ _ _ _ _ => pts_nil) he hs).imp fun σ H Q z => by
    rw [hown]; exact lcm_imp hp σ H Q z
/-! ### [f(x) for x in rows], the rows owned and forgotten -/
theorem er_set' {K : PySem.W.Frag} {w w' : Wn} {H H' : Hp} {Γ' : Sl} {σ : St} {r : M} {v : V} {i : Nat} (p : Po K w H Γ' σ r v H' w') : Step H w H' (Gv.own w' (Owns H' r v) (some (some i))) ∧ ER K (Gv.own w' (Owns H' r v) (some (some i))) (Γ'.set i (some r)) (σ.set i (some v)) H' ∧ K0 H' w' H' (Gv.own w' (Owns H' r v) (some (some i))) := by
  have hz : ∀ a, Owns H' r v a → w' a = some none := fun a o => (p.rm.owned a o).1
  refine ⟨step_own p.st hz p.nw, ?_, k0_own hz⟩
  have e := er_own (t := some (some i)) p.er hz
  refine ⟨by rw [List.length_set, List.length_set]; exact e.len, e.wf, fun j m h => ?_⟩
  have hi : j < σ.length := by
    have := (List.getElem?_eq_some_iff.mp h).1
    rw [List.length_set, e.len] at this
    exact this
  rcases getElem?_set_opt h with ⟨rfl, q⟩ | ⟨ne, q⟩
  · have q' : r = m := (Option.some.inj q).symm
    subst q'
    exact ⟨v, List.getElem?_set_self hi, (p.rm.keep (k0_own hz) fun a o => ⟨rfl, own_in o⟩).1⟩
  · obtain ⟨u, h1, h2⟩ := e.at_ j m q
    exact ⟨u, by rw [List.getElem?_set_ne (fun q => ne q)]; exact h1, h2⟩
def bodyR (j : Nat) (el : Ex) (ow : List Nat) : D → Sl → Rs (Option D) := fun d Γ => match d with
  | .list xs => (evE el ((wipeG Γ ow).set j (some (.ml xs)))).bind fun y Γ => .ok (some (frz y)) Γ
  | _ => .no
theorem lcr_imp {ow : List Nat} {j i : Nat} {el : Ex} (hj : j ∈ ow) : ∀ σ H Q, tE (qX X W) (.lcr ow j i el) σ H Q → tLc (iSeq X.K (tVar i)) (gName j) tYes (tE (qX X W0) el) ow σ H Q :=
  fun σ H Q ⟨w, Γ, e, z⟩ => by
    have z : rdg (qX X W) w H σ (match Γ[i]? with
      | some (some (.mm xss)) => if ow.all (fun k => plainM ((Γ.set i none)[k]?.join)) then
        match loopC (bodyR j el ow) (xss.map PyData.list) [] (Γ.set i none) with
          | .ok xs Γ2 => .ok (.ml xs) (backG (Γ.set i none) Γ2 ow)
          | _ => .no
        else .no
      | _ => .no) fun r Γ' => ∀ v H' w', Po X.K w H Γ' σ r v H' w' → Q v H' := z
    split at z
    case h_2 => exact z.elim
    rename_i xss hg
    split at z
    case isFalse => exact z.elim
    rename_i hpl
    cases hL : loopC (bodyR j el ow) (xss.map PyData.list) [] (Γ.set i none) with
    | no => rw [hL] at z; exact z.elim
    | ex _ _ => rw [hL] at z; exact z.elim
    | ok xs Γ2 =>
      rw [hL] at z
      obtain ⟨v', w3, hv3, po⟩ := slot_mov e hg
      obtain ⟨v0, hv0, hr0⟩ := e.at_ i _ hg
      rw [hv3] at hv0
      cases hv0
      have own0 := hr0.owned
      obtain ⟨aa, bs, rfl, g1, g2, g3, g4, g5⟩ := po.rm
      have oldB : ∀ c ∈ bs, w c = some (some i) := fun c hc => (own0 c (.inr ⟨aa, bs, rfl, g1, hc⟩)).1
      refine ⟨_, hv3, aa, rfl, .inl ⟨⟨_, SqL.of g1⟩, fun D hD => ?_⟩⟩
      have nD : w3 D = none := po.er.wf.fresh hD
      have aD : aa ≠ D := fun q => by rw [q, hD] at g1; cases g1
      have bD : ∀ c ∈ bs, c ≠ D := fun c hc q => by
        obtain ⟨_, vs, h2⟩ := g5.own c hc
        rw [q, hD] at h2; cases h2
      have ex0 := ext_own (w := w3) hD (t := some none) (o := .lst [])
      refine lc_it (walk_list (xs := bs.map V.ref)) (fun k Hc => ∃ wc Γc acc vs, Step H w Hc wc ∧ ER X.K wc (wipeG Γc ow) (wipe σ ow) Hc ∧ Hc D = some (.lst vs) ∧ wc D = some none ∧ Hc aa = some (.lst (bs.map V.ref)) ∧ wc aa = some none ∧ acc.length ≤ k ∧ RDs X.K wc Hc acc vs ∧ Rows X.K wc Hc none (xss.drop k) (bs.drop k) ∧ loopC (bodyR j el ow) ((xss.drop k).map PyData.list) acc Γc = .ok xs Γ2)
        ⟨Gv.own w3 (· = D) (some none), Γ.set i none, [], [], po.st.trans ex0.step, er_wipe (po.er.ext ex0 (wf_own po.er.wf)) ow, upd_same, own_in rfl, by rw [upd_ne aD]; exact g1, (own_out (S := fun x => x = D) aD).trans g2, Nat.le_refl _, .nil, g5.step ex0.step, hL⟩
        (fun k Hc hk ⟨wc, Γc, acc, vs, sc, ec, hDc, wD, haa, _⟩ => SqL.of haa) ?_ ?_
      · rintro k v Hc H2 hk ⟨wc, Γc, acc, vs, sc, ec, hDc, wD, haa, waa, hal, rda, rows, hl⟩ ⟨rfl, hx⟩
        rw [List.getElem?_map] at hx
        cases hb : bs[k]? with
        | none => rw [hb] at hx; cases hx
        | some b =>
          rw [hb] at hx
          cases hx
          have hbm := List.mem_of_getElem? hb
          have hdropB : bs.drop k = b :: bs.drop (k + 1) := by
            obtain ⟨hlt, hge⟩ := List.getElem?_eq_some_iff.mp hb
            rw [List.drop_eq_getElem_cons hlt, hge]
          rw [hdropB] at rows
          cases hxs : xss.drop k with
          | nil => rw [hxs] at rows; exact rows.elim
          | cons xs0 rest =>
            rw [hxs] at rows hl
            have hrest : xss.drop (k + 1) = rest := by
              rw [← List.tail_drop, hxs]; rfl
            obtain ⟨⟨vs0, r1, r2, r3, r4⟩, r5, r6⟩ := rows
            obtain ⟨o, Γ1, hbd, hl⟩ := loopC_cons hl
            obtain ⟨m, Γm, hm, hbd⟩ := bind_ok (show (evE el ((wipeG Γc ow).set j (some (.ml xs0)))).bind (fun y Γ => Rs.ok (some (frz y)) Γ) = .ok o Γ1 from hbd)
            cases hbd
            have pr : Po X.K w H (wipeG Γc ow) (wipe σ ow) (.ml xs0) (.ref b) H2 wc := ⟨sc, ec, ⟨b, vs0, rfl, r1, r2, r3, r4⟩, fun a oa => by
              have oa : V.ref b = V.ref a := oa
              cases oa
              rw [oldB b hbm]
              intro q; cases q⟩
            obtain ⟨s6, e6, k6⟩ := er_set' (i := j) pr
            have hout : ∀ c, c ≠ b → Gv.own wc (Owns H2 (.ml xs0) (.ref b)) (some (some j)) c = wc c := fun c hc => own_out fun (q : V.ref b = V.ref c) => by cases q; exact hc rfl
            generalize Gv.own wc (Owns H2 (.ml xs0) (.ref b)) (some (some j)) = w6 at s6 e6 k6 hout
            have wD6 : w6 D = some none := by rw [hout D fun q => bD b hbm q.symm]; exact wD
            have wa6 : w6 aa = some none := by rw [hout aa fun q => g4 (by rw [q]; exact hbm)]; exact waa
            have hw : wipe ((wipe σ ow).set j (some (.ref b))) ow = wipe σ ow := (wipe_same (same_set j (wipe σ ow) _) (fun c hc => by rw [List.mem_singleton.mp hc]; exact hj)).trans (wipe_wipe σ ow)
            refine ⟨hw, ?_⟩
            simp only [tYes, if_true]
            refine ⟨w6, _, e6, rdg0 hm fun u H4 w4 po4 => ?_⟩
            obtain ⟨w5, s5, e5, d5⟩ := po4.frz
            obtain ⟨hD5, wD5⟩ := s5 D _ hDc (nslot_zone wD6)
            rw [wD6] at wD5
            obtain ⟨ha5, wa5⟩ := s5 aa _ haa (nslot_zone wa6)
            rw [wa6] at wa5
            have rows6 : Rows X.K w6 H2 none rest (bs.drop (k + 1)) := r6.keep k6 fun c hc => ⟨rfl, by rw [hout c fun q => r5 (by rw [← q]; exact hc)]; exact (r6.own c hc).1⟩
            have rows5 := rows6.step s5
            have kw := k0_write (H := H4) (o := .lst (vs ++ [u])) wD5
            have inB : ∀ c ∈ bs.drop (k + 1), c ∈ bs := fun c hc => List.mem_of_mem_drop hc
            refine ⟨vs, hD5, by rw [← rda.length]; rw [List.length_map] at hk; omega, w5, Γ1, acc ++ [frz m], vs ++ [u], ?_, ?_, upd_same, wD5, by rw [upd_ne aD]; exact ha5, wa5, by rw [List.length_append]; simp; omega, (((rda.mono k6).mono s5.k0).snoc d5).mono kw, ?_, ?_⟩
            · intro a oo ha hn
              have ne : a ≠ D := fun q => by rw [q, hD] at ha; cases ha
              obtain ⟨q1, q2⟩ := (s6.trans s5) a oo ha hn
              exact ⟨by rw [upd_ne ne]; exact q1, q2⟩
            · have := er_temp (o := .lst (vs ++ [u])) (er_wipe e5 ow) wD5
              rw [hw] at this; exact this
            · rw [hrest]
              exact rows5.keep kw fun c hc => ⟨upd_ne (bD c (inB c hc)), (rows5.own c hc).1⟩
            · rw [hrest]; exact hl
      · rintro Hn ⟨wc, Γc, acc, vs, sc, ec, hDc, wD, haa, waa, hal, rda, rows, hl⟩
        have hlen : xss.length = bs.length := g5.length
        rw [List.length_map, ← hlen, List.drop_length] at hl
        cases hl
        rw [List.length_map] at hal
        refine z (.ref D) Hn wc ⟨sc, er_back (er_forget e) sc ec hpl, ⟨D, vs, rfl, hDc, wD, by rw [← rda.length]; omega, rda⟩, fun a oa => ?_⟩
        have oa : V.ref D = V.ref a := oa
        cases oa
        rw [e.wf.fresh hD]
        intro q; cases q
theorem g_row {X : Cx} {ct : Ct} {W : WX} {k : Nat} {tg : Expr} {j : Nat} (C : XC X ct W k) (h : mPt ct (.nm j) tg = true) : PG X tg (gName j) := by
  unfold mPt at h
  cases hn : vName tg with
  | none => simp only [hn] at h; cases h
  | some y =>
    simp only [hn] at h
    obtain ⟨p, rfl⟩ := vName_eq hn
    obtain ⟨h1, _, h2, h3⟩ := C.sto h
    exact pg_name C.nd h1 h2 h3
theorem s_lcr {ow : List Nat} {j i : Nat} {el : Ex} {scope : Scope} {own : List (Str × Nat)} (C : XC X ct W k) (hv : PE X iter (tVar i)) (ok : BlkOk X.N X.env.scope scope own) (hown : own.map (·.2) = ow)
    (hg : ∀ (s : Shared) (H : Hp) (C : Addr) (cl : List (Str × Addr)) (fp : List Addr), PG (X.blk s H scope (compEnvC scope cl C X.env) fp) tg (gName j))
    (he : ∀ (s : Shared) (H : Hp) (C : Addr) (cl : List (Str × Addr)) (fp : List Addr), PE (X.blk s H scope (compEnvC scope cl C X.env) fp) x (tE (qX X W0) el))
    (hs : ∀ z, foldedSetIterable iter X.env z = pure z) (hj : j ∈ ow) : PE X (.ListComp x [⟨tg, iter, [], 0⟩] scope p) (tE (qX X W) (.lcr ow j i el)) :=
  (pe_lc C.calm C.nd (pi_seq hv) ok hg (fun _ _ _ _ _ => pts_nil) he hs).imp fun σ H Q z => by
    rw [hown]; exact lcr_imp hj σ H Q z
/-! ### [f(..), g(..)], both fresh lists -/
theorem s_lst2 {a b : Ex} (ha : PE X x (tE (qX X W) a)) (hb : PE X y (tE (qX X W) b)) (hx : plainE x = true) (hy : plainE y = true) : PE X (.List [x, y] p) (tE (qX X W) (.lst2 a b)) :=
  (pe_lst (pa_cons ha (pa_cons hb pa_nil (star_plain hy)) (star_plain hx))).imp fun σ H Q ⟨w, Γ, e, z⟩ => by
    simp only [evE] at z
    refine ⟨w, Γ, e, z.bind.imp fun m1 Γ1 z1 v1 H1 w1 po1 => ?_⟩
    split at z1
    case h_2 => exact z1.elim
    rename_i xs
    refine ⟨w1, Γ1, po1.er, (rdg.step z1.bind po1.st).imp fun m2 Γ2 z2 v2 H2 w2 po2 => ?_⟩
    split at z2
    case h_2 => exact z2.elim
    rename_i ys
    obtain ⟨b1, vs1, rfl, f1, f2, f3, f4⟩ := po1.rm
    obtain ⟨b2, vs2, rfl, k1, k2, k3, k4⟩ := po2.rm
    have h2 : 2 ≤ sizeLine := by rw [sizeLine_eq]; decide
    refine ⟨h2, fun D hD => ?_⟩
    obtain ⟨f1', f2'⟩ := po2.st b1 _ f1 (nslot_zone f2)
    rw [f2] at f2'
    have n2 : w1 b2 ≠ some none := po2.nw b2 rfl
    have ne : b1 ≠ b2 := fun q => n2 (by rw [← q]; exact f2)
    have d1 : b1 ≠ D := fun q => by rw [q, hD] at f1'; cases f1'
    have d2 : b2 ≠ D := fun q => by rw [q, hD] at k1; cases k1
    have ex0 := ext_own (w := w2) hD (t := some none) (o := .lst [V.ref b1, V.ref b2])
    have hDn : w2 D = none := po2.er.wf.fresh hD
    refine z2 (.ref D) _ _ ⟨(po1.st.trans po2.st).trans ex0.step, po2.er.ext ex0 (wf_own po2.er.wf), ⟨D, [b1, b2], rfl, upd_same, own_in rfl, h2, by simp [d1.symm, d2.symm], ?_⟩, fun a oa => ?_⟩
    · refine ⟨⟨vs1, by rw [upd_ne d1]; exact f1', (own_out (S := fun x => x = D) d1).trans f2', f3, (f4.mono po2.st.k0).mono ex0.step.k0⟩, by simp [ne], ⟨vs2, by rw [upd_ne d2]; exact k1, (own_out (S := fun x => x = D) d2).trans k2, k3, k4.mono ex0.step.k0⟩, by simp, trivial⟩
    · rcases (show V.ref D = V.ref a ∨ ∃ (b : Addr) (cs : List Addr), V.ref D = .ref b ∧ upd H2 D (.lst [V.ref b1, V.ref b2]) b = some (.lst (cs.map V.ref)) ∧ a ∈ cs from oa) with q | ⟨b', cs, q, t1, t2⟩
      · cases q
        exact zone_back (po1.st.trans po2.st) e.wf (by rw [hDn]; intro q; cases q)
      · cases q
        rw [upd_same] at t1
        have ec : [b1, b2] = cs := by
          have q := Option.some.inj t1
          injection q with q
          exact List.map_inj_right (fun x y z => by injection z) |>.mp q
        subst ec
        simp only [List.mem_cons, List.mem_nil_iff, or_false] at t2
        rcases t2 with rfl | rfl
        · exact po1.nw _ rfl
        · exact zone_back po1.st e.wf n2
end
end L2.Gv

set_option Elab.async false
set_option linter.all false
set_option maxRecDepth 100000
set_option maxHeartbeats 2000000
namespace L2.Gv
open PySem PySem.Spec PyProof.Rows L2
theorem _root_.L2.PK.imp {X : Cx} {kws : List Keyword} {t t' : TA} (h : PK X kws t) (f : ∀ σ H Q, t' σ H Q → t σ H Q) : PK X kws t' := ⟨fun pos pins s σ H Q I z => h.run pos pins s σ H Q I (f σ H Q z)⟩
/-! ## All expressions -/
/-- an io def's parameter comes back as a list -/
def MlF (F : Fn) : Prop := F.io = true → (∀ ms r pm, F.sem ms = .ok r pm → ∃ ys, pm = .ml ys) ∧ ∀ ms r pm, F.sem ms = .ex r pm → ∃ ys, pm = .ml ys
/-- a call's name, with its keywords -/
inductive Cl where
  | n (f : Str) | k (f : Str) (ks : List Str)
mutual
def aE (cal : Cl → Fn → Prop) (glo : Str → D → Prop) : Ex → Prop
  | .nev => True
  | .var _ => True
  | .mov _ => True
  | .con _ => True
  | .glb x d => glo x d
  | .tup es => aA cal glo es
  | .lst es => aA cal glo es
  | .bin _ a b => aE cal glo a ∧ aE cal glo b
  | .neg a => aE cal glo a
  | .not a => aE cal glo a
  | .and es => aA cal glo es
  | .or es => aA cal glo es
  | .ifx c a b => aE cal glo c ∧ aE cal glo a ∧ aE cal glo b
  | .cmp _ a b => aE cal glo a ∧ aE cal glo b
  | .chn _ _ a b c => aE cal glo a ∧ aE cal glo b ∧ aE cal glo c
  | .isN a => aE cal glo a
  | .notN a => aE cal glo a
  | .idx a i => aE cal glo a ∧ aE cal glo i
  | .slc a lo hi => aE cal glo a ∧ aA cal glo lo ∧ aA cal glo hi
  | .vidx _ e => aE cal glo e
  | .vlen _ => True
  | .call f F es => cal (.n f) F ∧ aA cal glo es
  | .cio f F _ es => cal (.n f) F ∧ aA cal glo es
  | .cit f F e es => cal (.n f) F ∧ aE cal glo e ∧ aA cal glo es
  | .bi _ es => aA cal glo es
  | .lrng es => aA cal glo es
  | .trg es => aA cal glo es
  | .sumv a => aE cal glo a
  | .lstv a => aE cal glo a
  | .isi a _ => aE cal glo a
  | .mth _ a es => aE cal glo a ∧ aA cal glo es
  | .rev a => aE cal glo a
  | .vmth _ _ es => aA cal glo es
  | .vpop _ e => aE cal glo e
  | .vin _ e _ => aE cal glo e
  | .lc _ _ it cs el => aI cal glo it ∧ aA cal glo cs ∧ aE cal glo el
  | .lcm _ _ it el => aI cal glo it ∧ aE cal glo el
  | .vne _ => True
  | .dsp0 => True
  | .dspS => True
  | .dsp1 k v => aE cal glo k ∧ aE cal glo v
  | .vdne _ => True
  | .lk a => aE cal glo a
  | .lkv _ => True
  | .vdin _ e _ => aE cal glo e
  | .vdget _ e => aE cal glo e
  | .vdgt _ e f => aE cal glo e ∧ aE cal glo f
  | .isT _ a => aE cal glo a
  | .two a => aE cal glo a
  | .lcr _ _ _ el => aE cal glo el
  | .lst2 a b => aE cal glo a ∧ aE cal glo b
  | .callk f F es ks kes => cal (.k f ks) F ∧ aA cal glo es ∧ aA cal glo kes
def aA (cal : Cl → Fn → Prop) (glo : Str → D → Prop) : Ar → Prop
  | .nil => True
  | .cons e r => aE cal glo e ∧ aA cal glo r
def aI (cal : Cl → Fn → Prop) (glo : Str → D → Prop) : Gv.It → Prop
  | .seq e => aE cal glo e
  | .rng a => aA cal glo a
  | .enm e => aE cal glo e
  | .zip a b => aE cal glo a ∧ aE cal glo b
  | .itm e => aE cal glo e
  | .vls e => aE cal glo e
end
def calX (X : Cx) (k : Nat) : Cl → Fn → Prop := fun f F => match f with
  | .n f => CalOk X k f F ∧ MlF F
  | .k f ks => CalKOk X k f ks F
def gloX (X : Cx) : Str → D → Prop := fun x d => GloOk X.mg x d
section
variable {X : Cx} {ct : Ct} {W : WX} {k : Nat}
theorem XC.blk (C : XC X ct W k) (s : Shared) (H : Hp) (scope : Scope) (c : Addr) (cl : List (Str × Addr)) (fp : List Addr) : XC (X.blk s H scope (compEnvC scope cl c X.env) fp) (ct.blk scope) W0 k where
  hN := C.hN
  hs := by
    show relS scope X.env.scope = relS scope ct.sc
    rw [C.hs]
  hf := rfl
  nd := C.nd
  calm := C.calm
  tk := fun _ _ x => by
    obtain ⟨_, _, _, _, _, _, _, _, _, _, _, _, _, _, _, _, z⟩ := x
    exact z.elim
  rm := C.rm
  gd := C.gd
  bi := C.bi
theorem pt_ifExp {c a b : Expr} {tA tB tC' : TT} {pos : Pos} (hc : PT X c tC') (ha : PT X a tA) (hb : PT X b tB) : PT X (.IfExp c a b pos) (fun σ H Q => tC' σ H fun x H1 => if x = true then tA σ H1 Q else tB σ H1 Q) := by
  refine ⟨fun pins s σ H Q I h => ?_⟩
  rw [PySem.isTrue]
  refine wpAny_bind (thn (hc.run pins s σ H _ I h) fun d s1 ⟨H1, I1, q1⟩ => ?_)
  cases d with
  | true => exact ha.run pins s1 σ H1 Q I1 q1
  | false => exact hb.run pins s1 σ H1 Q I1 q1
theorem asB_ite {c a b : Ex} {Γ : Sl} : asB (evE (.ifx c a b) Γ) = (asB (evE c Γ)).bind fun x Γ => if x then asB (evE a Γ) else asB (evE b Γ) := by
  simp only [evE]
  cases asB (evE c Γ) with
  | ok x Γ1 => cases x <;> rfl
  | ex _ _ => rfl
  | no => rfl
theorem t_ifx {x y z : Expr} {a b c : Ex} {p : Pos} (hc : PT X z (tT (qX X W) fun Γ => asB (evE c Γ))) (ha : PT X x (tT (qX X W) fun Γ => asB (evE a Γ))) (hb : PT X y (tT (qX X W) fun Γ => asB (evE b Γ))) : PT X (.IfExp z x y p) (tT (qX X W) fun Γ => asB (evE (.ifx c a b) Γ)) :=
  (pt_ifExp hc ha hb).imp fun σ H Q ⟨w, Γ, e, h⟩ => by
    dsimp only at h
    rw [asB_ite] at h
    refine tT_bind (q := qX X W) (g := fun Γ => asB (evE c Γ)) e h fun t Γ1 H1 w1 s1 e1 z1 => ?_
    cases t with
    | true => exact iteT ⟨w1, Γ1, e1, z1.imp fun b Γ2 z2 H2 w2 s2 e2 => z2 H2 w2 (s1.trans s2) e2⟩
    | false => exact iteF ⟨w1, Γ1, e1, z1.imp fun b Γ2 z2 H2 w2 s2 e2 => z2 H2 w2 (s1.trans s2) e2⟩
/-- both readings from the value's -/
theorem both {e : Expr} {c : Ex} (h : PE X e (tE (qX X W) c)) (he : ∀ whole, isTrue e X.env whole = (do let v ← whole; standAt e.pos; holding [v] (truthy v))) : PE X e (tE (qX X W) c) ∧ PT X e (tT (qX X W) fun Γ => asB (evE c Γ)) := ⟨h, t_val h he⟩
theorem okN {x : Str} (h : okName x = true) : (x == ("__debug__" : Str)) = false := by
  unfold okName at h
  simp only [Bool.and_eq_true, Bool.not_eq_true'] at h
  exact h.1
/-- a name in slot i -/
theorem slot_name {i : Nat} {e : Expr} (C : XC X ct W k) (h : (match vName e with | some x => slotB ct i x | none => false) = true) : PE X e (tVar i) ∧ plainE e = true ∧ ∃ y p, e = .Name y p := by
  split at h
  · rename_i y hy
    have hp := name_plain hy
    obtain ⟨p, rfl⟩ := vName_eq hy
    exact ⟨C.vis h, hp, _, _, rfl⟩
  · cases h
theorem plainEs_cons {x : Expr} {xs : List Expr} : plainEs (x :: xs) = true ↔ plainE x = true ∧ plainEs xs = true := by
  unfold plainEs
  rw [List.all_cons, Bool.and_eq_true]
theorem PE.never {e : Expr} {t : TE} (h : ∀ σ H Q, ¬ t σ H Q) : PE X e t := ⟨fun pins s σ H Q I z => (h σ H Q z).elim⟩
theorem PW.never {e : Expr} {t : TT} (h : ∀ σ H Q, ¬ t σ H Q) : PW X e t := ⟨fun _ pins s σ H Q I z => (h σ H Q z).elim⟩
theorem PTs.never {e : List Expr} {t : TT} (h : ∀ σ H Q, ¬ t σ H Q) : PTs X e t := ⟨fun pins s σ H Q I z => (h σ H Q z).elim⟩
theorem tC_yes : ∀ σ H Q, tT (qX X W) (evC .nil) σ H Q → tYes σ H Q := fun σ H Q ⟨w, Γ, e, z⟩ => z H w Step.refl e
theorem _root_.L2.PTs.imp {e : List Expr} {t t' : TT} (h : PTs X e t) (f : ∀ σ H Q, t' σ H Q → t σ H Q) : PTs X e t' := ⟨fun pins s σ H Q I z => h.run pins s σ H Q I (f σ H Q z)⟩
theorem mA_cons {c : Ex} {r : Ar} {xs : List Expr} (h : mA ct (.cons c r) xs = true) : ∃ y ys, xs = y :: ys ∧ mE ct c y = true ∧ plainE y = true ∧ mA ct r ys = true := by
  cases xs with
  | nil => simp only [mA] at h; cases h
  | cons y ys =>
    simp only [mA, Bool.and_eq_true] at h
    exact ⟨y, ys, rfl, h.1.1, h.1.2, h.2⟩
theorem mA_nil {xs : List Expr} (h : mA ct .nil xs = true) : xs = [] := by
  cases xs with
  | nil => rfl
  | cons y ys => simp only [mA] at h; cases h
theorem ow_map (N : List Str) (ow : List Nat) : (ow.map fun i => (N.getD i ("" : Str), i)).map (·.2) = ow := by
  rw [List.map_map]
  exact List.map_id ow
end
mutual
theorem sE : ∀ (c : Ex) {X : Cx} {ct : Ct} {W : WX} {k : Nat} {e : Expr}, XC X ct W k → aE (calX X k) (gloX X) c → mE ct c e = true → PE X e (tE (qX X W) c) ∧ PT X e (tT (qX X W) fun Γ => asB (evE c Γ))
  | .nev, X, ct, W, k, e, C, _, h => ⟨PE.never fun σ H Q ⟨w, Γ, e, z⟩ => z, ⟨fun pins s σ H Q I ⟨w, Γ, e, z⟩ => z.elim⟩⟩
  | .var i, X, ct, W, k, e, C, _, h => by
    simp only [mE] at h
    obtain ⟨h1, _, y, p, rfl⟩ := slot_name C h
    exact both (s_var h1) fun _ => rfl
  | .mov i, X, ct, W, k, e, C, _, h => by
    simp only [mE] at h
    obtain ⟨h1, _, y, p, rfl⟩ := slot_name C h
    exact both (s_mov h1) fun _ => rfl
  | .con d, X, ct, W, k, e, C, _, h => by
    simp only [mE] at h
    have h1 := s_con (X := X) (W := W) h
    unfold conB at h
    split at h <;> first | exact both h1 fun _ => rfl | cases h
  | .glb x d, X, ct, W, k, e, C, ha, h => by
    simp only [mE] at h
    split at h
    · rename_i y hy
      simp only [Bool.and_eq_true, beq_iff_eq] at h
      obtain ⟨⟨rfl, h1⟩, h2⟩ := h
      obtain ⟨p, rfl⟩ := vName_eq hy
      exact both (s_glb (C.gl h1) ha (okN h2)) fun _ => rfl
    · cases h
  | .tup es, X, ct, W, k, e, C, ha, h => by
    simp only [mE] at h
    split at h
    · rename_i xs hy
      simp only [Bool.and_eq_true, decide_eq_true_eq] at h
      obtain ⟨kk, p, rfl⟩ := vTup_eq hy
      exact both (s_tup (sA es C ha h.1).1 h.2) fun _ => rfl
    · cases h
  | .lst es, X, ct, W, k, e, C, ha, h => by
    simp only [mE] at h
    split at h
    · rename_i xs hy
      simp only [Bool.and_eq_true, decide_eq_true_eq] at h
      obtain ⟨p, rfl⟩ := vLst_eq hy
      exact both (s_lst (sA es C ha h.1).1 h.2) fun _ => rfl
    · cases h
  | .bin op a b, X, ct, W, k, e, C, ha, h => by
    simp only [mE] at h
    split at h
    · rename_i x o y hy
      simp only [Bool.and_eq_true, beq_iff_eq] at h
      obtain ⟨⟨rfl, h1⟩, h2⟩ := h
      obtain ⟨p, rfl⟩ := vBin_eq hy
      exact both (s_bin (sE a C ha.1 h1).1 (sE b C ha.2 h2).1) fun _ => rfl
    · cases h
  | .neg a, X, ct, W, k, e, C, ha, h => by
    simp only [mE] at h
    split at h
    · rename_i o x hy
      simp only [Bool.and_eq_true, beq_iff_eq] at h
      obtain ⟨rfl, h1⟩ := h
      obtain ⟨p, rfl⟩ := vUn_eq hy
      exact both (s_neg (sE a C ha h1).1) fun _ => rfl
    · cases h
  | .not a, X, ct, W, k, e, C, ha, h => by
    simp only [mE] at h
    split at h
    · rename_i o x hy
      simp only [Bool.and_eq_true, beq_iff_eq] at h
      obtain ⟨rfl, h1⟩ := h
      obtain ⟨p, rfl⟩ := vUn_eq hy
      exact ⟨s_not (sE a C ha h1).1, t_not (sE a C ha h1).2⟩
    · cases h
  | .and es, X, ct, W, k, e, C, ha, h => by
    simp only [mE] at h
    split at h
    · rename_i o x hy
      simp only [Bool.and_eq_true, beq_iff_eq] at h
      obtain ⟨rfl, h1⟩ := h
      obtain ⟨p, rfl⟩ := vBool_eq hy
      exact ⟨s_and (sAnd es C ha h1).1, t_and (sAnd es C ha h1).2⟩
    · cases h
  | .or es, X, ct, W, k, e, C, ha, h => by
    simp only [mE] at h
    split at h
    · rename_i o x hy
      simp only [Bool.and_eq_true, beq_iff_eq] at h
      obtain ⟨rfl, h1⟩ := h
      obtain ⟨p, rfl⟩ := vBool_eq hy
      exact ⟨s_or (sOr es C ha h1).1, t_or (sOr es C ha h1).2⟩
    · cases h
  | .ifx c a b, X, ct, W, k, e, C, ha, h => by
    simp only [mE] at h
    split at h
    · rename_i x y z hy
      simp only [Bool.and_eq_true] at h
      obtain ⟨p, rfl⟩ := vIf_eq hy
      exact ⟨s_ifx (sE c C ha.1 h.1.1).2 (sE a C ha.2.1 h.1.2).1 (sE b C ha.2.2 h.2).1, t_ifx (sE c C ha.1 h.1.1).2 (sE a C ha.2.1 h.1.2).2 (sE b C ha.2.2 h.2).2⟩
    · cases h
  | .cmp op a b, X, ct, W, k, e, C, ha, h => by
    simp only [mE] at h
    split at h
    · rename_i x o y hy
      simp only [Bool.and_eq_true, beq_iff_eq, Bool.not_eq_true'] at h
      obtain ⟨⟨⟨rfl, h1⟩, h2⟩, h3⟩ := h
      obtain ⟨p, rfl⟩ := vCmp1_eq hy
      exact ⟨s_cmp C (sE a C ha.1 h1).1 (sE b C ha.2 h2).1 h3, t_cmp C (sE a C ha.1 h1).1 (sE b C ha.2 h2).1 h3⟩
    · cases h
  | .chn o1 o2 a b c, X, ct, W, k, e, C, ha, h => by
    simp only [mE] at h
    split at h
    · rename_i x o y o' z hy
      simp only [Bool.and_eq_true, beq_iff_eq, Bool.not_eq_true'] at h
      obtain ⟨⟨⟨⟨⟨rfl, rfl⟩, h1⟩, h2⟩, h3⟩, h4⟩ := h
      obtain ⟨p, rfl⟩ := vCmp2_eq hy
      exact ⟨s_chn C (sE a C ha.1 h1).1 (sE b C ha.2.1 h2).1 (sE c C ha.2.2 h3).1 h4, t_chn C (sE a C ha.1 h1).1 (sE b C ha.2.1 h2).1 (sE c C ha.2.2 h3).1 h4⟩
    · cases h
  | .isN a, X, ct, W, k, e, C, ha, h => by
    simp only [mE] at h
    split at h
    · rename_i x o y hy
      simp only [Bool.and_eq_true, beq_iff_eq] at h
      obtain ⟨⟨rfl, h1⟩, h2⟩ := h
      obtain ⟨p, rfl⟩ := vCmp1_eq hy
      obtain ⟨kk, p2, rfl⟩ := vNone_eq h2
      exact ⟨s_isN (sE a C ha h1).1, t_isN (sE a C ha h1).1⟩
    · cases h
  | .notN a, X, ct, W, k, e, C, ha, h => by
    simp only [mE] at h
    split at h
    · rename_i x o y hy
      simp only [Bool.and_eq_true, beq_iff_eq] at h
      obtain ⟨⟨rfl, h1⟩, h2⟩ := h
      obtain ⟨p, rfl⟩ := vCmp1_eq hy
      obtain ⟨kk, p2, rfl⟩ := vNone_eq h2
      exact ⟨s_notN (sE a C ha h1).1, t_notN (sE a C ha h1).1⟩
    · cases h
  | .idx a b, X, ct, W, k, e, C, ha, h => by
    simp only [mE] at h
    split at h
    · rename_i x y hy
      simp only [Bool.and_eq_true] at h
      obtain ⟨⟨h1, h2⟩, h3⟩ := h
      obtain ⟨p, rfl⟩ := vSub_eq hy
      exact both (s_idx (sE a C ha.1 h1).1 (sE b C ha.2 h2).1 h3) fun _ => rfl
    · cases h
  | .slc a lo hi, X, ct, W, k, e, C, ha, h => by
    simp only [mE] at h
    split at h
    · rename_i x y hy
      split at h
      · rename_i l hh hs
        simp only [Bool.and_eq_true] at h
        obtain ⟨⟨h1, h2⟩, h3⟩ := h
        obtain ⟨p, rfl⟩ := vSub_eq hy
        obtain ⟨p2, hs'⟩ := vSlice_eq hs
        dsimp only at hs'
        subst hs'
        exact both (s_slc (sE a C ha.1 h1).1 (sO lo C ha.2.1 h2) (sO hi C ha.2.2 h3)) fun _ => rfl
      · cases h
    · cases h
  | .rev a, X, ct, W, k, e, C, ha, h => by
    simp only [mE] at h
    split at h
    · rename_i x hy
      obtain ⟨kk, p1, p2, p3, p, rfl⟩ := vRev_eq hy
      exact both (s_rev (sE a C ha h).1) fun _ => rfl
    · cases h
  | .vidx i b, X, ct, W, k, e, C, ha, h => by
    simp only [mE] at h
    split at h
    · rename_i x y hy
      simp only [Bool.and_eq_true] at h
      obtain ⟨⟨h1, h2⟩, h3⟩ := h
      obtain ⟨p, rfl⟩ := vSub_eq hy
      exact both (s_vidx (slot_name C h1).1 (sE b C ha h2).1 h3) fun _ => rfl
    · cases h
  | .vlen i, X, ct, W, k, e, C, ha, h => by
    simp only [mE] at h
    split at h
    · rename_i f x hy
      simp only [Bool.and_eq_true, beq_iff_eq] at h
      obtain ⟨⟨rfl, h1⟩, h2⟩ := h
      obtain ⟨p, q, rfl⟩ := vCall_eq hy
      exact both (s_vlen C (C.gl h1) (slot_name C h2).1 (slot_name C h2).2.1) fun _ => rfl
    · cases h
  | .call f F es, X, ct, W, k, e, C, ha, h => by
    simp only [mE] at h
    split at h
    · rename_i g x xs hy
      simp only [Bool.and_eq_true, beq_iff_eq, decide_eq_true_eq] at h
      obtain ⟨⟨⟨⟨rfl, h1⟩, h2⟩, h3⟩, h4⟩ := h
      obtain ⟨p, q, rfl⟩ := vCall_eq hy
      obtain ⟨g1, g2⟩ := sA es C ha.2 h3
      obtain ⟨g3, g4⟩ := plainEs_cons.mp g2
      exact both (s_call C ha.1.1 (C.gl h1) (okN h2) g1 h4 g3 g4) fun _ => rfl
    · cases h
  | .cio f F i es, X, ct, W, k, e, C, ha, h => by
    simp only [mE] at h
    split at h
    · rename_i g x xs hy
      simp only [Bool.and_eq_true, beq_iff_eq, decide_eq_true_eq] at h
      obtain ⟨⟨⟨⟨⟨⟨rfl, h1⟩, h2⟩, h3⟩, h4⟩, h5⟩, h6⟩ := h
      obtain ⟨p, q, rfl⟩ := vCall_eq hy
      obtain ⟨g1, g2⟩ := sA es C ha.2 h4
      obtain ⟨g3, g4, _⟩ := slot_name C h3
      exact both (s_cio C ha.1.1 (C.gl h1) (okN h2) g3 g1 h5 g4 g2 (ha.1.2 h6).1 (ha.1.2 h6).2) fun _ => rfl
    · cases h
  | .cit f F a es, X, ct, W, k, e, C, ha, h => by
    simp only [mE] at h
    split at h
    · rename_i g x xs hy
      simp only [Bool.and_eq_true, beq_iff_eq, decide_eq_true_eq] at h
      obtain ⟨⟨⟨⟨⟨⟨⟨rfl, h1⟩, h2⟩, h3⟩, h4⟩, h5⟩, h6⟩, h7⟩ := h
      obtain ⟨p, q, rfl⟩ := vCall_eq hy
      obtain ⟨g1, g2⟩ := sA es C ha.2.2 h5
      exact both (s_cit C ha.1.1 (C.gl h1) (okN h2) (sE a C ha.2.1 h3).1 g1 h6 h4 g2 (ha.1.2 h7).1 (ha.1.2 h7).2) fun _ => rfl
    · cases h
  | .bi bb es, X, ct, W, k, e, C, ha, h => by
    simp only [mE] at h
    split at h
    · rename_i g x xs hy
      simp only [Bool.and_eq_true, beq_iff_eq] at h
      obtain ⟨⟨rfl, h1⟩, h3⟩ := h
      obtain ⟨p, q, rfl⟩ := vCall_eq hy
      obtain ⟨g1, g2⟩ := sA es C ha h3
      obtain ⟨g3, g4⟩ := plainEs_cons.mp g2
      exact both (s_bi C (C.gl h1) g1 g3 g4) fun _ => rfl
    · cases h
  | .lrng (.cons a .nil), X, ct, W, k, e, C, ha, h => by
    simp only [mE] at h
    split at h
    · rename_i g y hy
      split at h
      · rename_i g2 x hy2
        simp only [Bool.and_eq_true, beq_iff_eq] at h
        obtain ⟨⟨⟨⟨rfl, rfl⟩, h1⟩, h2⟩, h3⟩ := h
        obtain ⟨p, q, rfl⟩ := vCall_eq hy
        obtain ⟨p1, q1, hy3⟩ := vCall_eq hy2
        dsimp only at hy3
        subst hy3
        obtain ⟨z, zs, hz, m1, m2, m3⟩ := mA_cons h3
        cases hz
        exact both (s_lrng C (C.gl h1) (C.gl h2) (sE a C ha.1 m1).1 m2) fun _ => rfl
      · cases h
    · cases h
  | .lrng .nil, X, ct, W, k, e, C, ha, h => by
    simp only [mE] at h
    split at h
    · rename_i g y hy
      split at h
      · rename_i g2 x hy2
        simp only [Bool.and_eq_true, beq_iff_eq] at h
        have := mA_nil h.2
        cases this
      · cases h
    · cases h
  | .lrng (.cons a (.cons b r)), X, ct, W, k, e, C, ha, h => by
    simp only [mE] at h
    split at h
    · rename_i g y hy
      split at h
      · rename_i g2 x hy2
        simp only [Bool.and_eq_true, beq_iff_eq] at h
        obtain ⟨z, zs, hz, m1, m2, m3⟩ := mA_cons h.2
        cases hz
        obtain ⟨z, zs, hz, _⟩ := mA_cons m3
        cases hz
      · cases h
    · cases h
  | .trg (.cons a .nil), X, ct, W, k, e, C, ha, h => by
    simp only [mE] at h
    split at h
    · rename_i g y hy
      split at h
      · rename_i g2 x hy2
        simp only [Bool.and_eq_true, beq_iff_eq] at h
        obtain ⟨⟨⟨⟨rfl, rfl⟩, h1⟩, h2⟩, h3⟩ := h
        obtain ⟨p, q, rfl⟩ := vCall_eq hy
        obtain ⟨p1, q1, hy3⟩ := vCall_eq hy2
        dsimp only at hy3
        subst hy3
        obtain ⟨z, zs, hz, m1, m2, m3⟩ := mA_cons h3
        cases hz
        exact both (s_trg C (C.gl h1) (C.gl h2) (sE a C ha.1 m1).1 m2) fun _ => rfl
      · cases h
    · cases h
  | .trg .nil, X, ct, W, k, e, C, ha, h => by
    simp only [mE] at h
    split at h
    · rename_i g y hy
      split at h
      · rename_i g2 x hy2
        simp only [Bool.and_eq_true, beq_iff_eq] at h
        have := mA_nil h.2
        cases this
      · cases h
    · cases h
  | .trg (.cons a (.cons b r)), X, ct, W, k, e, C, ha, h => by
    simp only [mE] at h
    split at h
    · rename_i g y hy
      split at h
      · rename_i g2 x hy2
        simp only [Bool.and_eq_true, beq_iff_eq] at h
        obtain ⟨z, zs, hz, m1, m2, m3⟩ := mA_cons h.2
        cases hz
        obtain ⟨z, zs, hz, _⟩ := mA_cons m3
        cases hz
      · cases h
    · cases h
  | .sumv a, X, ct, W, k, e, C, ha, h => by
    simp only [mE] at h
    split at h
    · rename_i g y hy
      split at h
      · rename_i o g2 hy2
        simp only [Bool.and_eq_true, beq_iff_eq] at h
        obtain ⟨⟨⟨⟨rfl, rfl⟩, h1⟩, h2⟩, h3⟩ := h
        obtain ⟨p, q, rfl⟩ := vCall_eq hy
        obtain ⟨ap, p1, hy3, hl⟩ := vMeth_eq hy2
        dsimp only at hy3
        subst hy3
        exact both (s_sumv C (C.gl h1) (sE a C ha h2).1 h3 hl) fun _ => rfl
      · cases h
    · cases h
  | .lstv a, X, ct, W, k, e, C, ha, h => by
    simp only [mE] at h
    split at h
    · rename_i g y hy
      split at h
      · rename_i o g2 hy2
        simp only [Bool.and_eq_true, beq_iff_eq] at h
        obtain ⟨⟨⟨⟨rfl, rfl⟩, h1⟩, h2⟩, h3⟩ := h
        obtain ⟨p, q, rfl⟩ := vCall_eq hy
        obtain ⟨ap, p1, hy3, hl⟩ := vMeth_eq hy2
        dsimp only at hy3
        subst hy3
        exact both (s_lstv C (C.gl h1) (sE a C ha h2).1 h3 hl) fun _ => rfl
      · cases h
    · cases h
  | .isi a t, X, ct, W, k, e, C, ha, h => by
    simp only [mE] at h
    split at h
    · rename_i g x y hy
      simp only [Bool.and_eq_true, beq_iff_eq] at h
      obtain ⟨⟨⟨⟨rfl, h1⟩, h2⟩, h3⟩, h4⟩ := h
      obtain ⟨p, q, rfl⟩ := vCall_eq hy
      split at h4
      · rename_i z hz
        simp only [Bool.and_eq_true, beq_iff_eq] at h4
        obtain ⟨rfl, h5⟩ := h4
        obtain ⟨p2, hz'⟩ := vName_eq hz
        subst hz'
        exact both (s_isi C (C.gl h1) (C.gl h5) (sE a C ha h2).1 h3) fun _ => rfl
      · cases h4
    · cases h
  | .mth m a es, X, ct, W, k, e, C, ha, h => by
    simp only [mE] at h
    split at h
    · rename_i o g x hy
      simp only [Bool.and_eq_true, beq_iff_eq] at h
      obtain ⟨⟨⟨rfl, h1⟩, h2⟩, h3⟩ := h
      obtain ⟨ap, p, rfl, hl⟩ := vMeth_eq hy
      obtain ⟨g1, g2⟩ := sA es C ha.2 h3
      exact both (s_mth C (sE a C ha.1 h1).1 g1 h2 hl (plainEs_cons.mp g2).1) fun _ => rfl
    · cases h
  | .vmth m i es, X, ct, W, k, e, C, ha, h => by
    simp only [mE] at h
    split at h
    · rename_i o g x hy
      simp only [Bool.and_eq_true, beq_iff_eq] at h
      obtain ⟨⟨⟨rfl, h1⟩, h2⟩, h3⟩ := h
      obtain ⟨ap, p, rfl, hl⟩ := vMeth_eq hy
      obtain ⟨g1, g2⟩ := sA es C ha h3
      exact both (s_vmth C (slot_name C h1).1 g1 h2 hl (plainEs_cons.mp g2).1) fun _ => rfl
    · cases h
  | .vpop i b, X, ct, W, k, e, C, ha, h => by
    simp only [mE] at h
    split at h
    · rename_i o g x hy
      simp only [Bool.and_eq_true, beq_iff_eq] at h
      obtain ⟨⟨⟨⟨rfl, h1⟩, h2⟩, h3⟩, h4⟩ := h
      obtain ⟨ap, p, rfl, hl⟩ := vMeth_eq hy
      exact both (s_vpop C (slot_name C h1).1 (sE b C ha h3).1 h2 hl h4) fun _ => rfl
    · cases h
  | .vin neg a i, X, ct, W, k, e, C, ha, h => by
    simp only [mE] at h
    split at h
    · rename_i x o y hy
      simp only [Bool.and_eq_true, beq_iff_eq, Bool.not_eq_true'] at h
      obtain ⟨⟨⟨rfl, h1⟩, h2⟩, h3⟩ := h
      obtain ⟨p, rfl⟩ := vCmp1_eq hy
      exact ⟨s_vin C (sE a C ha h1).1 (slot_name C h2).1 h3, t_vin C (sE a C ha h1).1 (slot_name C h2).1 h3⟩
    · cases h
  | .lc ow pt it cs el, X, ct, W, k, e, C, ha, h => by
    simp only [mE] at h
    split at h
    · rename_i x tg iter ifs sc hy
      simp only [Bool.and_eq_true, List.all_eq_true, decide_eq_true_eq] at h
      obtain ⟨⟨⟨⟨⟨⟨h1, h2⟩, h3⟩, h4⟩, h5⟩, h6⟩, h7⟩ := h
      obtain ⟨p, rfl⟩ := vLC_eq hy
      refine both (s_lc C (sI it C ha.1 h3) (blkOk_by (by rw [C.hN, C.hs]; exact h1)) (ow_map _ _) ?_ ?_ ?_ (nset_fold h7) h6) fun _ => rfl
      · exact fun s H c cl fp => g_ptw (q := qX X W0) (C.blk s H sc c cl fp) rfl pt h2
      · exact fun s H c cl fp => sC cs (C.blk s H sc c cl fp) ha.2.1 h4
      · exact fun s H c cl fp => (sE el (C.blk s H sc c cl fp) ha.2.2 h5).1
    · cases h
  | .lcm ow pt it el, X, ct, W, k, e, C, ha, h => by
    simp only [mE] at h
    split at h
    · rename_i x tg iter ifs sc hy
      simp only [Bool.and_eq_true, List.all_eq_true, decide_eq_true_eq, List.isEmpty_iff] at h
      obtain ⟨⟨⟨⟨⟨⟨h1, h2⟩, h3⟩, rfl⟩, h5⟩, h6⟩, h7⟩ := h
      obtain ⟨p, rfl⟩ := vLC_eq hy
      refine both (s_lcm C (sI it C ha.1 h3) (blkOk_by (by rw [C.hN, C.hs]; exact h1)) (ow_map _ _) ?_ ?_ (nset_fold h7) h6) fun _ => rfl
      · exact fun s H c cl fp => g_ptw (q := qX X W0) (C.blk s H sc c cl fp) rfl pt h2
      · exact fun s H c cl fp => (sE el (C.blk s H sc c cl fp) ha.2 h5).1
    · cases h
  | .lcr ow j i el, X, ct, W, k, e, C, ha, h => by
    simp only [mE] at h
    split at h
    · rename_i x tg iter ifs sc hy
      simp only [Bool.and_eq_true, List.all_eq_true, decide_eq_true_eq, List.isEmpty_iff] at h
      obtain ⟨⟨⟨⟨⟨⟨h1, h2⟩, h3⟩, rfl⟩, h5⟩, h6⟩, h7⟩ := h
      obtain ⟨p, rfl⟩ := vLC_eq hy
      refine both (s_lcr C (slot_name C h3).1 (blkOk_by (by rw [C.hN, C.hs]; exact h1)) (ow_map _ _) ?_ ?_ (nset_fold h7) h6) fun _ => rfl
      · exact fun s H c cl fp => g_row (C.blk s H sc c cl fp) h2
      · exact fun s H c cl fp => (sE el (C.blk s H sc c cl fp) ha h5).1
    · cases h
  | .lst2 a b, X, ct, W, k, e, C, ha, h => by
    simp only [mE] at h
    split at h
    · rename_i x y hy
      simp only [Bool.and_eq_true] at h
      obtain ⟨⟨⟨h1, h2⟩, h3⟩, h4⟩ := h
      obtain ⟨p, rfl⟩ := vLst_eq hy
      exact both (s_lst2 (sE a C ha.1 h1).1 (sE b C ha.2 h2).1 h3 h4) fun _ => rfl
    · cases h
  | .vne i, X, ct, W, k, e, C, ha, h => by
    simp only [mE] at h
    split at h
    · rename_i x o y hy
      simp only [Bool.and_eq_true, beq_iff_eq] at h
      obtain ⟨⟨rfl, h1⟩, h2⟩ := h
      obtain ⟨p, rfl⟩ := vCmp1_eq hy
      split at h2
      · rename_i es hes
        obtain ⟨lp, hlx⟩ := vLst_eq hes
        have he : es = [] := List.isEmpty_iff.mp h2
        subst hlx he
        exact ⟨s_vne C (slot_name C h1).1, t_vne C (slot_name C h1).1⟩
      · cases h2
    · cases h
  | .dsp0, X, ct, W, k, e, C, ha, h => by
    simp only [mE] at h
    obtain ⟨p, rfl⟩ := vDict0_eq h
    exact both s_dsp0 fun _ => rfl
  | .dspS, X, ct, W, k, e, C, ha, h => by
    simp only [mE] at h
    obtain ⟨p, rfl⟩ := vDict0_eq h
    exact both s_dspS fun _ => rfl
  | .dsp1 a b, X, ct, W, k, e, C, ha, h => by
    simp only [mE] at h
    split at h
    · rename_i x y hy
      simp only [Bool.and_eq_true] at h
      obtain ⟨p, rfl⟩ := vDict1_eq hy
      exact both (s_dsp1 (sE a C ha.1 h.1).1 (sE b C ha.2 h.2).1) fun _ => rfl
    · cases h
  | .vdne i, X, ct, W, k, e, C, ha, h => by
    simp only [mE] at h
    split at h
    · rename_i x o y hy
      simp only [Bool.and_eq_true, beq_iff_eq] at h
      obtain ⟨⟨rfl, h1⟩, h2⟩ := h
      obtain ⟨p, rfl⟩ := vCmp1_eq hy
      obtain ⟨p2, h2'⟩ := vDict0_eq h2
      subst h2'
      exact ⟨s_vdne C (slot_name C h1).1, t_vdne C (slot_name C h1).1⟩
    · cases h
  | .lk a, X, ct, W, k, e, C, ha, h => by
    simp only [mE] at h
    exact ⟨s_lk (sE a C ha h).1, t_lk (sE a C ha h).2⟩
  | .lkv i, X, ct, W, k, e, C, ha, h => by
    simp only [mE] at h
    obtain ⟨h1, _, y, p, rfl⟩ := slot_name C h
    exact both (s_lkv h1) fun _ => rfl
  | .vdin neg a i, X, ct, W, k, e, C, ha, h => by
    simp only [mE] at h
    split at h
    · rename_i x o y hy
      simp only [Bool.and_eq_true, beq_iff_eq, Bool.not_eq_true'] at h
      obtain ⟨⟨⟨rfl, h1⟩, h2⟩, h3⟩ := h
      obtain ⟨p, rfl⟩ := vCmp1_eq hy
      exact ⟨s_vdin C (sE a C ha h1).1 (slot_name C h2).1 h3, t_vdin C (sE a C ha h1).1 (slot_name C h2).1 h3⟩
    · cases h
  | .vdget i b, X, ct, W, k, e, C, ha, h => by
    simp only [mE] at h
    split at h
    · rename_i x y hy
      simp only [Bool.and_eq_true] at h
      obtain ⟨p, rfl⟩ := vSub_eq hy
      exact both (s_vdget C (slot_name C h.1.1).1 (sE b C ha h.1.2).1 h.2) fun _ => rfl
    · cases h
  | .vdgt i a b, X, ct, W, k, e, C, ha, h => by
    simp only [mE] at h
    split at h
    · rename_i o g x y hy
      simp only [Bool.and_eq_true, beq_iff_eq] at h
      obtain ⟨⟨⟨⟨⟨⟨rfl, h1⟩, h2⟩, h3⟩, h4⟩, h5⟩, h6⟩ := h
      obtain ⟨ap, p, rfl, hl⟩ := vMeth_eq hy
      exact both (s_vdgt C (slot_name C h1).1 (sE a C ha.1 h3).1 (sE b C ha.2 h5).1 h2 hl h4 h6) fun _ => rfl
    · cases h
  | .isT neg a, X, ct, W, k, e, C, ha, h => by
    simp only [mE] at h
    split at h
    · rename_i x o y hy
      simp only [Bool.and_eq_true, beq_iff_eq] at h
      obtain ⟨h1, h2⟩ := h
      obtain ⟨p, rfl⟩ := vCmp1_eq hy
      simp only [Bool.or_eq_true, Bool.and_eq_true, beq_iff_eq] at h2
      rcases h2 with ⟨h3, h2⟩ | ⟨h3, h2⟩
      · obtain ⟨kk, p2, h2'⟩ := vTrue_eq h2
        subst h2' h3
        exact ⟨s_isT (sE a C ha h1).1, t_isT (sE a C ha h1).1⟩
      · obtain ⟨kk, p2, h2'⟩ := vFalse_eq h2
        subst h2' h3
        exact ⟨s_isF (sE a C ha h1).1, t_isF (sE a C ha h1).1⟩
    · cases h
  | .two a, X, ct, W, k, e, C, ha, h => by
    simp only [mE] at h
    split at h
    · rename_i x hy
      obtain ⟨kk, p1, p2, p, rfl⟩ := vTwo_eq hy
      exact both (s_two (sE a C ha h).1) fun _ => rfl
    · cases h
  | .callk f F es ks kes, X, ct, W, k, e, C, ha, h => by
    simp only [mE] at h
    split at h
    · rename_i g x xs kws hy
      simp only [Bool.and_eq_true, beq_iff_eq, decide_eq_true_eq] at h
      obtain ⟨⟨⟨⟨⟨⟨rfl, h1⟩, h2⟩, h3⟩, h4⟩, h5⟩, h6⟩ := h
      obtain ⟨p, q, rfl⟩ := vCallK_eq hy
      obtain ⟨g1, g2⟩ := sA es C ha.2.1 h3
      obtain ⟨g3, g4⟩ := plainEs_cons.mp g2
      obtain ⟨k1, k2⟩ := sK kes C ha.2.2 h4
      exact both (s_callk C ha.1 (C.gl h1) (okN h2) g1 k1 k2 h5 h6 g3 g4) fun _ => rfl
    · cases h
theorem sK : ∀ (es : Ar) {X : Cx} {ct : Ct} {W : WX} {k : Nat} {ks : List Str} {kws : List Keyword}, XC X ct W k → aA (calX X k) (gloX X) es → mK ct es ks kws = true → PK X kws (tAs (qX X W) es) ∧ kws.map (·.arg) = ks.map some
  | .nil, X, ct, W, k, ks, kws, C, ha, h => by
    cases ks with
    | cons n ns => cases kws <;> (simp only [mK] at h; cases h)
    | nil =>
      cases kws with
      | cons kw kws => simp only [mK] at h; cases h
      | nil => exact ⟨pk_nil.imp fun σ H Q ⟨w, Γ, e, z⟩ => z [] H w Step.refl e .nil, rfl⟩
  | .cons c r, X, ct, W, k, ks, kws, C, ha, h => by
    cases ks with
    | nil => simp only [mK] at h; cases h
    | cons n ns =>
      cases kws with
      | nil => simp only [mK] at h; cases h
      | cons kw kws =>
        obtain ⟨nm, x, p⟩ := kw
        cases nm with
        | none => simp only [mK] at h; cases h
        | some m =>
          simp only [mK, Bool.and_eq_true, beq_iff_eq] at h
          obtain ⟨⟨rfl, h1⟩, h2⟩ := h
          obtain ⟨g1, g2⟩ := sK r C ha.2 h2
          refine ⟨(pk_cons (sE c C ha.1 h1).1 g1).imp fun σ H Q ⟨w, Γ, e, z⟩ => tE_bindD e z fun m Γ1 v H1 w1 s1 e1 r1 z1 => tA_bind e1 z1 fun ds Γ2 vs H2 w2 s2 e2 r2 z2 => z2 (v :: vs) H2 w2 (s1.trans s2) e2 (.cons (r1.mono s2.k0) r2), ?_⟩
          show some m :: _ = some m :: _
          rw [g2]
theorem sA : ∀ (es : Ar) {X : Cx} {ct : Ct} {W : WX} {k : Nat} {xs : List Expr}, XC X ct W k → aA (calX X k) (gloX X) es → mA ct es xs = true → PA X xs (tAs (qX X W) es) ∧ plainEs xs = true
  | .nil, X, ct, W, k, xs, C, ha, h => by
    cases mA_nil h
    exact ⟨s_nil, rfl⟩
  | .cons c r, X, ct, W, k, xs, C, ha, h => by
    obtain ⟨y, ys, rfl, h1, h2, h3⟩ := mA_cons h
    obtain ⟨g1, g2⟩ := sA r C ha.2 h3
    exact ⟨s_cons (sE c C ha.1 h1).1 g1 h2, plainEs_cons.mpr ⟨h2, g2⟩⟩
theorem sAnd : ∀ (es : Ar) {X : Cx} {ct : Ct} {W : WX} {k : Nat} {xs : List Expr} {p : Pos}, XC X ct W k → aA (calX X k) (gloX X) es → mA ct es xs = true → PE X (.BoolOp .And xs p) (tBv (qX X W) (evAnd es)) ∧ PW X (.BoolOp .And xs p) (tT (qX X W) (evAnd es))
  | .nil, X, ct, W, k, xs, p, C, ha, h => ⟨PE.never fun σ H Q ⟨w, Γ, e, z⟩ => z, PW.never fun σ H Q ⟨w, Γ, e, z⟩ => z⟩
  | .cons c .nil, X, ct, W, k, xs, p, C, ha, h => by
    obtain ⟨y, ys, rfl, h1, h2, h3⟩ := mA_cons h
    cases mA_nil h3
    exact ⟨and_one (sE c C ha.1 h1).1, tand_one (sE c C ha.1 h1).2⟩
  | .cons c (.cons c2 r), X, ct, W, k, xs, p, C, ha, h => by
    obtain ⟨y, ys, rfl, h1, h2, h3⟩ := mA_cons h
    have ih := sAnd (.cons c2 r) (p := p) C ha.2 h3
    obtain ⟨y2, ys2, rfl, _⟩ := mA_cons h3
    exact ⟨and_cons (sE c C ha.1 h1).1 ih.1, tand_cons (sE c C ha.1 h1).2 ih.2⟩
theorem sOr : ∀ (es : Ar) {X : Cx} {ct : Ct} {W : WX} {k : Nat} {xs : List Expr} {p : Pos}, XC X ct W k → aA (calX X k) (gloX X) es → mA ct es xs = true → PE X (.BoolOp .Or xs p) (tBv (qX X W) (evOr es)) ∧ PW X (.BoolOp .Or xs p) (tT (qX X W) (evOr es))
  | .nil, X, ct, W, k, xs, p, C, ha, h => ⟨PE.never fun σ H Q ⟨w, Γ, e, z⟩ => z, PW.never fun σ H Q ⟨w, Γ, e, z⟩ => z⟩
  | .cons c .nil, X, ct, W, k, xs, p, C, ha, h => by
    obtain ⟨y, ys, rfl, h1, h2, h3⟩ := mA_cons h
    cases mA_nil h3
    exact ⟨or_one (sE c C ha.1 h1).1, tor_one (sE c C ha.1 h1).2⟩
  | .cons c (.cons c2 r), X, ct, W, k, xs, p, C, ha, h => by
    obtain ⟨y, ys, rfl, h1, h2, h3⟩ := mA_cons h
    have ih := sOr (.cons c2 r) (p := p) C ha.2 h3
    obtain ⟨y2, ys2, rfl, _⟩ := mA_cons h3
    exact ⟨or_cons (sE c C ha.1 h1).1 ih.1, tor_cons (sE c C ha.1 h1).2 ih.2⟩
theorem sC : ∀ (es : Ar) {X : Cx} {ct : Ct} {W : WX} {k : Nat} {xs : List Expr}, XC X ct W k → aA (calX X k) (gloX X) es → mA ct es xs = true → PTs X xs (tT (qX X W) (evC es))
  | .nil, X, ct, W, k, xs, C, ha, h => by
    cases mA_nil h
    exact pts_nil.imp tC_yes
  | .cons c .nil, X, ct, W, k, xs, C, ha, h => by
    obtain ⟨y, ys, rfl, h1, h2, h3⟩ := mA_cons h
    cases mA_nil h3
    exact (pts_one (sE c C ha.1 h1).2).imp fun σ H Q z => z
  | .cons c (.cons c2 r), X, ct, W, k, xs, C, ha, h => PTs.never fun σ H Q ⟨w, Γ, e, z⟩ => z
theorem sO : ∀ (es : Ar) {X : Cx} {ct : Ct} {W : WX} {k : Nat} {l : Option Expr}, XC X ct W k → aA (calX X k) (gloX X) es → mA ct es l.toList = true → PO X l (tO (qX X W) es)
  | .nil, X, ct, W, k, l, C, ha, h => by
    cases l with
    | none => exact o_none
    | some y => cases mA_nil h
  | .cons c .nil, X, ct, W, k, l, C, ha, h => by
    cases l with
    | none => obtain ⟨_, _, q, _⟩ := mA_cons h; cases q
    | some y =>
      obtain ⟨_, _, q, h1, _⟩ := mA_cons h
      cases q
      exact o_some (sE c C ha.1 h1).1
  | .cons c (.cons c2 r), X, ct, W, k, l, C, ha, h => by
    obtain ⟨y, ys, q, h1, h2, h3⟩ := mA_cons h
    obtain ⟨y2, ys2, q2, _⟩ := mA_cons h3
    cases l with
    | none => cases q
    | some z => cases q; cases q2
theorem sI : ∀ (it : Gv.It) {X : Cx} {ct : Ct} {W : WX} {k : Nat} {tg e : Expr}, XC X ct W k → aI (calX X k) (gloX X) it → mI ct it tg e = true → PI X tg e (tI (qX X W) (isTupE tg) it)
  | .seq a, X, ct, W, k, tg, e, C, ha, h => by
    simp only [mI] at h
    exact i_seq (sE a C ha h).1
  | .rng (.cons a .nil), X, ct, W, k, tg, e, C, ha, h => by
    simp only [mI] at h
    split at h
    · rename_i g xs hy
      simp only [Bool.and_eq_true, beq_iff_eq] at h
      obtain ⟨⟨⟨rfl, h1⟩, h2⟩, _⟩ := h
      obtain ⟨p, q, rfl⟩ := vCall_eq hy
      dsimp only at *
      obtain ⟨y, ys, rfl, m1, m2, m3⟩ := mA_cons h2
      cases mA_nil m3
      exact i_rng1 C (C.gl h1) (sE a C ha.1 m1).1 m2
    · cases h
  | .rng (.cons a (.cons b .nil)), X, ct, W, k, tg, e, C, ha, h => by
    simp only [mI] at h
    split at h
    · rename_i g xs hy
      simp only [Bool.and_eq_true, beq_iff_eq] at h
      obtain ⟨⟨⟨rfl, h1⟩, h2⟩, _⟩ := h
      obtain ⟨p, q, rfl⟩ := vCall_eq hy
      dsimp only at *
      obtain ⟨y, ys, rfl, m1, m2, m3⟩ := mA_cons h2
      obtain ⟨y2, ys2, rfl, n1, n2, n3⟩ := mA_cons m3
      cases mA_nil n3
      exact i_rng2 C (C.gl h1) (sE a C ha.1 m1).1 (sE b C ha.2.1 n1).1 m2 n2
    · cases h
  | .rng .nil, X, ct, W, k, tg, e, C, ha, h => by
    simp only [mI] at h
    split at h
    · simp [arN] at h
    · cases h
  | .rng (.cons a (.cons b (.cons c r))), X, ct, W, k, tg, e, C, ha, h => by
    simp only [mI] at h
    split at h
    · simp [arN] at h
    · cases h
  | .enm a, X, ct, W, k, tg, e, C, ha, h => by
    simp only [mI] at h
    split at h
    · rename_i g x hy
      simp only [Bool.and_eq_true, beq_iff_eq] at h
      obtain ⟨⟨⟨⟨rfl, h1⟩, h2⟩, h3⟩, h4⟩ := h
      obtain ⟨p, q, rfl⟩ := vCall_eq hy
      obtain ⟨es, he⟩ := Option.isSome_iff_exists.mp h4
      obtain ⟨kk, tp, rfl⟩ := vTup_eq he
      exact i_enm C (C.gl h1) (sE a C ha h2).1 h3
    · cases h
  | .zip a b, X, ct, W, k, tg, e, C, ha, h => by
    simp only [mI] at h
    split at h
    · rename_i g x y hy
      simp only [Bool.and_eq_true, beq_iff_eq] at h
      obtain ⟨⟨⟨⟨⟨⟨rfl, h1⟩, h2⟩, h3⟩, h4⟩, h5⟩, h6⟩ := h
      obtain ⟨p, q, rfl⟩ := vCall_eq hy
      obtain ⟨es, he⟩ := Option.isSome_iff_exists.mp h6
      obtain ⟨kk, tp, rfl⟩ := vTup_eq he
      exact i_zip C (C.gl h1) (sE a C ha.1 h2).1 (sE b C ha.2 h4).1 h3 h5
    · cases h
  | .itm a, X, ct, W, k, tg, e, C, ha, h => by
    simp only [mI] at h
    split at h
    · rename_i o g hy
      simp only [Bool.and_eq_true, beq_iff_eq] at h
      obtain ⟨⟨⟨rfl, h1⟩, h2⟩, h3⟩ := h
      obtain ⟨ap, p, rfl, hl⟩ := vMeth_eq hy
      obtain ⟨es, he⟩ := Option.isSome_iff_exists.mp h3
      obtain ⟨kk, tp, rfl⟩ := vTup_eq he
      exact i_itm (sE a C ha h1).1 h2 hl
    · cases h
  | .vls a, X, ct, W, k, tg, e, C, ha, h => by
    simp only [mI] at h
    split at h
    · rename_i o g hy
      simp only [Bool.and_eq_true, beq_iff_eq] at h
      obtain ⟨⟨rfl, h1⟩, h2⟩ := h
      obtain ⟨ap, p, rfl, hl⟩ := vMeth_eq hy
      exact i_vls (sE a C ha h1).1 h2 hl
    · cases h
end
end L2.Gv

set_option Elab.async false
set_option linter.all false
set_option maxRecDepth 100000
set_option maxHeartbeats 2000000
namespace L2.Gv
open PySem PySem.Spec PyProof.Rows L2
/-! ## Statements: readings -/
def rdS (q : Cn) (w : Wn) (H : Hp) (σ : St) (r : Rs Fl) (D : Ends) : Prop := match r with
  | .ok .nx Γ => ∀ σ' H' w', Step H w H' w' → ER q.K w' Γ σ' H' → σ'[0]? = σ[0]? → D.nx σ' H'
  | .ok (.rt m) Γ => ∀ v σ' H' w', Po q.K w H Γ σ' m v H' w' → σ'[0]? = σ[0]? → D.rt v H'
  | .ok .bk Γ => ∀ σ' H' w', Step H w H' w' → ER q.K w' Γ σ' H' → σ'[0]? = σ[0]? → D.bk σ' H'
  | .ok .ct Γ => ∀ σ' H' w', Step H w H' w' → ER q.K w' Γ σ' H' → σ'[0]? = σ[0]? → D.ct σ' H'
  | .ex x Γ => ∀ cls d σ' H' w', Step H w H' w' → ER q.K w' Γ σ' H' → σ'[0]? = σ[0]? → XR q.mg x cls d → q.W cls d σ' H'
  | .no => False
def tS (q : Cn) (c : Sm) : TS := fun D σ H => ∃ w Γ, ER q.K w Γ σ H ∧ rdS q w H σ (exS c Γ) D
section
variable {q : Cn} {α : Type} {w w' : Wn} {H H' : Hp} {σ σ' : St} {Γ : Sl} {D : Ends}
theorem rdS.step {r : Rs Fl} (h : rdS q w H σ r D) (wf : Wf w H) (s : Step H w H' w') (e0 : σ'[0]? = σ[0]?) : rdS q w' H' σ' r D := by
  match r, h with
  | .ok .nx Γ, h => exact fun σ2 H2 w2 s2 e2 q2 => h σ2 H2 w2 (s.trans s2) e2 (q2.trans e0)
  | .ok (.rt m) Γ, h => exact fun v σ2 H2 w2 po q2 => h v σ2 H2 w2 (po.trans s wf) (q2.trans e0)
  | .ok .bk Γ, h => exact fun σ2 H2 w2 s2 e2 q2 => h σ2 H2 w2 (s.trans s2) e2 (q2.trans e0)
  | .ok .ct Γ, h => exact fun σ2 H2 w2 s2 e2 q2 => h σ2 H2 w2 (s.trans s2) e2 (q2.trans e0)
  | .ex x Γ, h => exact fun cls d σ2 H2 w2 s2 e2 q2 xr => h cls d σ2 H2 w2 (s.trans s2) e2 (q2.trans e0) xr
theorem rdS.bind {f : α → Sl → Rs Fl} {r : Rs α} (h : rdS q w H σ (r.bind f) D) : rdg q w H σ r fun a Γ => rdS q w H σ (f a Γ) D := by
  match r, h with
  | .ok a Γ, h => exact h
  | .ex x Γ, h => exact fun cls d H' w' s e xr => h cls d σ H' w' s e rfl xr
  | .no, h => exact h
theorem sE_bind {c : Ex} {f : M → Sl → Rs Fl} {Q : VK} (e : ER q.K w Γ σ H) (h : rdS q w H σ ((evE c Γ).bind f) D)
    (k : ∀ r Γ' v H' w', Po q.K w H Γ' σ r v H' w' → rdS q w H σ (f r Γ') D → Q v H') : tE q c σ H Q :=
  ⟨w, Γ, e, h.bind.imp fun r Γ' z v H' w' po => k r Γ' v H' w' po z⟩
theorem sE_bindD {c : Ex} {f : M → Sl → Rs Fl} {Q : VK} (e : ER q.K w Γ σ H) (h : rdS q w H σ ((evE c Γ).bind f) D)
    (k : ∀ r Γ' v H' w', Step H w H' w' → ER q.K w' Γ' σ H' → RD q.K w' H' (frz r) v → rdS q w' H' σ (f r Γ') D → Q v H') : tE q c σ H Q :=
  sE_bind e h fun r Γ' v H' w' po z => by
    obtain ⟨w2, s2, e2, r2⟩ := po.frz
    exact k r Γ' v H' w2 s2 e2 r2 (z.step e.wf s2 rfl)
theorem sT_bind {g : Sl → Rs Bool} {f : Bool → Sl → Rs Fl} {Q : Bool → Hp → Prop} (e : ER q.K w Γ σ H) (h : rdS q w H σ ((g Γ).bind f) D)
    (k : ∀ b Γ' H' w', Step H w H' w' → ER q.K w' Γ' σ H' → rdS q w' H' σ (f b Γ') D → Q b H') : tT q g σ H Q :=
  ⟨w, Γ, e, h.bind.imp fun b Γ' z H' w' s e' => k b Γ' H' w' s e' (z.step e.wf s rfl)⟩
theorem tS_of {c : Sm} {f : Fl → Sl → Rs Fl} (e : ER q.K w Γ σ H) (h : rdS q w H σ ((exS c Γ).bind f) D) (D' : Ends)
    (k : ∀ Γ', exS c Γ = .ok .nx Γ' → rdS q w H σ (f .nx Γ') D → ∀ σ' H' w', Step H w H' w' → ER q.K w' Γ' σ' H' → σ'[0]? = σ[0]? → D'.nx σ' H')
    (hr : ∀ m Γ', exS c Γ = .ok (.rt m) Γ' → rdS q w H σ (f (.rt m) Γ') D → ∀ v σ' H' w', Po q.K w H Γ' σ' m v H' w' → σ'[0]? = σ[0]? → D'.rt v H')
    (hb : ∀ Γ', exS c Γ = .ok .bk Γ' → rdS q w H σ (f .bk Γ') D → ∀ σ' H' w', Step H w H' w' → ER q.K w' Γ' σ' H' → σ'[0]? = σ[0]? → D'.bk σ' H')
    (hc : ∀ Γ', exS c Γ = .ok .ct Γ' → rdS q w H σ (f .ct Γ') D → ∀ σ' H' w', Step H w H' w' → ER q.K w' Γ' σ' H' → σ'[0]? = σ[0]? → D'.ct σ' H') : tS q c D' σ H := by
  refine ⟨w, Γ, e, ?_⟩
  cases hx : exS c Γ with
  | no => rw [hx] at h; exact h
  | ex x Γ' => rw [hx] at h; exact h
  | ok fl Γ' =>
    rw [hx] at h
    cases fl with
    | nx => exact k Γ' hx h
    | rt m => exact hr m Γ' hx h
    | bk => exact hb Γ' hx h
    | ct => exact hc Γ' hx h
theorem seq_imp {a b : Sm} : ∀ σ H, tS q (.seq a b) D σ H → tSeq (tS q a) (tS q b) D σ H := fun σ H ⟨w, Γ, e, z⟩ => by
  refine tS_of e z { D with nx := tS q b D } (fun Γ' _ z σ' H' w' s e' q0 => ⟨w', Γ', e', rdS.step (r := exS b Γ') z e.wf s q0⟩) (fun m Γ' _ z => z) (fun Γ' _ z => z) fun Γ' _ z => z
theorem nil_imp : ∀ σ H, tS q .nil D σ H → tNext D σ H := fun σ H ⟨w, Γ, e, z⟩ => z σ H w Step.refl e rfl
theorem _root_.L2.PSs.imp {X : Cx} {e : List Stmt} {t t' : TS} (h : PSs X e t) (f : ∀ D σ H, t' D σ H → t D σ H) : PSs X e t' := ⟨fun pins s σ H D I z => h.run pins s σ H D I (f D σ H z)⟩
end
/-! ## What statements ask of their context -/
structure XS (X : Cx) (ct : Ct) (W : WX) (k : Nat) : Prop where
  c : XC X ct W k
  hp : PassesOwn (model X.prog X.w) X.A X.env X.xe
  stk : X.stack = X.env :: X.outer
  frm : X.env.frame = some X.env.locals
/-- a class that is raised without arguments -/
def RaiOk (X : Cx) (c : Str) : Prop := ∃ cls, X.mg c = some cls ∧ ∀ pn xe p p2, Gl X c → PMk (X.tr pn xe) (.Call (.Name c p) [] [] p2) (fun _ H Q => Q cls none H)
/-- what is asked of the module's exception classes: c may be raised; whether a clause over c catches y -/
inductive Rq where
  | cls (c : Str) | han (y c : Str)
def hanP (rai : Rq → Prop) (y : Str) : List (Str × Str) → Prop
  | [] => True
  | p :: r => rai (.han y p.1) ∧ hanP rai y r
def hanA (rai : Rq → Prop) (hs : List (Str × Str)) : List Str → Prop
  | [] => True
  | y :: ys => hanP rai y hs ∧ hanA rai hs ys
theorem hanP_of {rai : Rq → Prop} {y : Str} : ∀ {hs : List (Str × Str)}, hanP rai y hs → ∀ p ∈ hs, rai (.han y p.1)
  | [], _, _, h => by cases h
  | q :: r, h, p, hp => by
    rcases List.mem_cons.mp hp with e | hp
    · rw [e]; exact h.1
    · exact hanP_of h.2 p hp
theorem hanA_of {rai : Rq → Prop} {hs : List (Str × Str)} : ∀ {ys : List Str}, hanA rai hs ys → ∀ y ∈ ys, ∀ p ∈ hs, rai (.han y p.1)
  | [], _, _, h => by cases h
  | q :: r, h, y, hy => by
    rcases List.mem_cons.mp hy with e | hy
    · rw [e]; exact hanP_of h.1
    · exact hanA_of h.2 y hy
theorem hanP_mono {rai rai' : Rq → Prop} {y : Str} (f : ∀ q, rai q → rai' q) : ∀ {hs : List (Str × Str)}, hanP rai y hs → hanP rai' y hs
  | [], h => h
  | _ :: _, h => ⟨f _ h.1, hanP_mono f h.2⟩
theorem hanA_mono {rai rai' : Rq → Prop} {hs : List (Str × Str)} (f : ∀ q, rai q → rai' q) : ∀ {ys : List Str}, hanA rai hs ys → hanA rai' hs ys
  | [], h => h
  | _ :: _, h => ⟨hanP_mono f h.1, hanA_mono f h.2⟩
def aS (cal : Cl → Fn → Prop) (glo : Str → D → Prop) (rai : Rq → Prop) : Sm → Prop
  | .nev => True
  | .nil => True
  | .seq a b => aS cal glo rai a ∧ aS cal glo rai b
  | .asg _ e => aE cal glo e
  | .asgP _ e => aE cal glo e
  | .par _ _ a b => aE cal glo a ∧ aE cal glo b
  | .setI _ k e => aE cal glo k ∧ aE cal glo e
  | .ali _ _ k l e b => aE cal glo k ∧ aE cal glo l ∧ aE cal glo e ∧ aS cal glo rai b
  | .setII _ k l e => aE cal glo k ∧ aE cal glo l ∧ aE cal glo e
  | .app _ e => aE cal glo e
  | .ext _ e => aE cal glo e
  | .exp e => aE cal glo e
  | .ret e => aE cal glo e
  | .ifs c a b => aE cal glo c ∧ aS cal glo rai a ∧ aS cal glo rai b
  | .for _ it b => aI cal glo it ∧ aS cal glo rai b
  | .whl _ c b => aE cal glo c ∧ aS cal glo rai b
  | .brk => True
  | .cnt => True
  | .pass => True
  | .rais c => rai (.cls c)
  | .mat e cs => aE cal glo e ∧ aS cal glo rai cs
  | .mcs _ b r => aS cal glo rai b ∧ aS cal glo rai r
  | .tryR b ys hs => aS cal glo rai b ∧ hanA rai hs ys
  | .asgL _ e => aE cal glo e
  | .tryN b => aS cal glo (fun _ => False) b
  | .dput _ k e => aE cal glo k ∧ aE cal glo e
  | .sda _ k e => aE cal glo k ∧ aE cal glo e
  | .appI _ k e => aE cal glo k ∧ aE cal glo e
  | .parM _ _ a b => aE cal glo a ∧ aE cal glo b
  | .par3 _ _ _ a b c => aE cal glo a ∧ aE cal glo b ∧ aE cal glo c
theorem aS_rai {cal : Cl → Fn → Prop} {glo : Str → D → Prop} {rai : Rq → Prop} : ∀ c : Sm, aS cal glo (fun _ => False) c → aS cal glo rai c
  | .nev, h => h
  | .nil, h => h
  | .seq a b, h => ⟨aS_rai a h.1, aS_rai b h.2⟩
  | .asg .., h => h
  | .asgP .., h => h
  | .par .., h => h
  | .setI .., h => h
  | .setII .., h => h
  | .app .., h => h
  | .ext .., h => h
  | .exp .., h => h
  | .ret .., h => h
  | .ifs c a b, h => ⟨h.1, aS_rai a h.2.1, aS_rai b h.2.2⟩
  | .for _ it b, h => ⟨h.1, aS_rai b h.2⟩
  | .whl _ c b, h => ⟨h.1, aS_rai b h.2⟩
  | .brk, h => h
  | .cnt, h => h
  | .pass, h => h
  | .rais c, h => h.elim
  | .tryN b, h => h
  | .dput .., h => h
  | .sda .., h => h
  | .appI .., h => h
  | .parM .., h => h
  | .par3 .., h => h
  | .mat e cs, h => ⟨h.1, aS_rai cs h.2⟩
  | .mcs _ b r, h => ⟨aS_rai b h.1, aS_rai r h.2⟩
  | .tryR b ys hs, h => ⟨aS_rai b h.1, hanA_mono (fun _ z => z.elim) h.2⟩
  | .asgL .., h => h
  | .ali _ _ _ _ _ b, h => ⟨h.1, h.2.1, h.2.2.1, aS_rai b h.2.2.2⟩
/-! ## Statements held against the text -/
def vTry : Stmt → Option (List Stmt)
  | .Try b (_ :: _) [] [] _ => some b
  | _ => none
theorem vTry_eq {s : Stmt} {x} (h : vTry s = some x) : ∃ h0 hs p, s = .Try x (h0 :: hs) [] [] p := by
  unfold vTry at h
  split at h
  · cases h; exact ⟨_, _, _, rfl⟩
  · cases h
def vMat : Stmt → Option (Expr × List MatchCase)
  | .Match e cs _ => some (e, cs)
  | _ => none
theorem vMat_eq {s : Stmt} {x} (h : vMat s = some x) : ∃ p, s = .Match x.1 x.2 p := by cases s <;> cases h; exact ⟨_, rfl⟩
def vCase : MatchCase → Option (Str × List Stmt)
  | ⟨.MatchValue (.Constant (.str x) _ _) _, none, body⟩ => some (x, body)
  | _ => none
theorem vCase_eq {c : MatchCase} {x} (h : vCase c = some x) : ∃ k p1 p2, c = ⟨.MatchValue (.Constant (.str x.1) k p1) p2, none, x.2⟩ := by
  unfold vCase at h
  split at h
  · cases h; exact ⟨_, _, _, rfl⟩
  · cases h
/-- a clause 'except c: return z' -/
def vHan : ExceptHandler → Option (Str × Str)
  | .ExceptHandler (some (.Name c _)) none [.Return (some (.Constant (.str z) _ _)) _] _ => some (c, z)
  | _ => none
theorem vHan_eq {c : ExceptHandler} {x} (h : vHan c = some x) : ∃ p1 k p2 p3 p, c = .ExceptHandler (some (.Name x.1 p1)) none [.Return (some (.Constant (.str x.2) k p2)) p3] p := by
  unfold vHan at h
  split at h
  · cases h; exact ⟨_, _, _, _, _, rfl⟩
  · cases h
def vTryH : Stmt → Option (List Stmt × List ExceptHandler)
  | .Try b (h :: hs) [] [] _ => some (b, h :: hs)
  | _ => none
theorem vTryH_eq {s : Stmt} {x} (h : vTryH s = some x) : ∃ h0 hs p, x.2 = h0 :: hs ∧ s = .Try x.1 (h0 :: hs) [] [] p := by
  unfold vTryH at h
  split at h
  · cases h; exact ⟨_, _, _, rfl, rfl⟩
  · cases h
def mHs (ct : Ct) : List (Str × Str) → List ExceptHandler → Bool
  | [], [] => true
  | q :: r, h :: hs => (match vHan h with | some (c, z) => c == q.1 && z == q.2 && glB ct.sc c && okName c | none => false) && mHs ct r hs
  | _, _ => false
def vAsg : Stmt → Option (Expr × Expr × Pos)
  | .Assign [t] e p => some (t, e, p)
  | _ => none
theorem vAsg_eq {s : Stmt} {x} (h : vAsg s = some x) : s = .Assign [x.1] x.2.1 x.2.2 := by
  unfold vAsg at h
  split at h
  · cases h; rfl
  · cases h
def compB : Expr → Bool
  | .ListComp .. => true
  | .SetComp .. => true
  | .DictComp .. => true
  | _ => false
theorem sw_false {e : Expr} {t : Option Expr} {l : Nat} {env : PySem.Env} (h : compB e = false) : swapsWith e t l env = pure false := by
  cases e <;> first | rfl | cases h
theorem sw_sole {e t : Expr} {l : Nat} {env : PySem.Env} (h : compB e = false) : swapsWithSole [t] e l env = pure false := sw_false h
/-- x = [..]: the store is part of the comprehension -/
def swLc (sc : Scope) (x : Str) (px : Pos) (value : Expr) (scope : Scope) : Bool :=
  (match sc.kind with | .function => true | _ => false) && (match sc.names.lookup x with | some .local => true | _ => false) && (px.line == value.pos.line) && !(scope.names.any fun (n, k) => n == x && (k == .local || k == .cell))
/-- x is read in a block inside: the store is not part of the comprehension -/
def cellK (sc : Scope) (x : Str) : Bool := match sc.names.lookup x with
  | some .cell => true
  | _ => false
theorem sw_cell {env : PySem.Env} {sc : Scope} {y : Str} {py : Pos} {e : Expr} {l : Nat} (hs : env.scope = sc) (h : cellK sc y = true) : swapsWith e (some (.Name y py)) l env = pure false := by
  have hk : (env.kindOf y == some .local) = false := by
    unfold cellK at h
    split at h
    · rename_i q
      have : env.kindOf y = some .cell := by first | (unfold Env.kindOf; rw [hs]; exact q) | (show env.scope.names.lookup y = _; rw [hs]; exact q)
      rw [this]; rfl
    · cases h
  cases e <;> first | rfl | (unfold swapsWith; simp only [hk, Bool.and_false, Bool.false_and])
/-- x, y = a, b: stored from the right -/
def parB (sc : Scope) (x : Str) (px : Pos) (y : Str) (py : Pos) (a b : Expr) : Bool :=
  (match sc.kind with | .function => true | _ => false) && (match sc.names.lookup x with | some .local => true | _ => false) && (match sc.names.lookup y with | some .local => true | _ => false) && (py.line == px.line) && !(x == y) &&
  !([a, b].all (foldedForSure 8)) && !([a, b].all (constantsAlone 8))
def vPar : Stmt → Option (Str × Pos × Str × Pos × Expr × Expr)
  | .Assign [.Tuple [.Name x px, .Name y py] _ _] (.Tuple [a, b] _ _) _ => some (x, px, y, py, a, b)
  | _ => none
theorem vPar_eq {s : Stmt} {x} (h : vPar s = some x) : ∃ k1 p1 k2 p2 p, s = .Assign [.Tuple [.Name x.1 x.2.1, .Name x.2.2.1 x.2.2.2.1] k1 p1] (.Tuple [x.2.2.2.2.1, x.2.2.2.2.2] k2 p2) p := by
  unfold vPar at h
  split at h
  · cases h; exact ⟨_, _, _, _, _, rfl⟩
  · cases h
def par3B (sc : Scope) (x : Str) (px : Pos) (y : Str) (py : Pos) (z : Str) (pz : Pos) (a b c : Expr) : Bool :=
  (match sc.kind with | .function => true | _ => false) && (match sc.names.lookup x with | some .local => true | _ => false) && (match sc.names.lookup y with | some .local => true | _ => false) && (match sc.names.lookup z with | some .local => true | _ => false) &&
  (py.line == px.line) && (pz.line == px.line) && !(x == y) && !(x == z) && !(y == z) && !([a, b, c].all (foldedForSure 8)) && !([a, b, c].all (constantsAlone 8))
def vPar3 : Stmt → Option (Str × Pos × Str × Pos × Str × Pos × Expr × Expr × Expr)
  | .Assign [.Tuple [.Name x px, .Name y py, .Name z pz] _ _] (.Tuple [a, b, c] _ _) _ => some (x, px, y, py, z, pz, a, b, c)
  | _ => none
theorem vPar3_eq {s : Stmt} {x} (h : vPar3 s = some x) : ∃ k1 p1 k2 p2 p, s = .Assign [.Tuple [.Name x.1 x.2.1, .Name x.2.2.1 x.2.2.2.1, .Name x.2.2.2.2.1 x.2.2.2.2.2.1] k1 p1] (.Tuple [x.2.2.2.2.2.2.1, x.2.2.2.2.2.2.2.1, x.2.2.2.2.2.2.2.2] k2 p2) p := by
  unfold vPar3 at h
  split at h
  · cases h; exact ⟨_, _, _, _, _, rfl⟩
  · cases h
/-- no stores from the right -/
def noSw (sc : Scope) (tg value : Expr) : Bool := match tg, value with
  | .Tuple ts _ _, .Tuple _ _ _ => ts.any fun
    | .Name id _ => (match sc.names.lookup id with | some .local => false | _ => true)
    | _ => true
  | .Tuple _ _ _, _ => true
  | _, _ => false
def vExpr : Stmt → Option Expr
  | .Expr e _ => some e
  | _ => none
theorem vExpr_eq {s : Stmt} {x} (h : vExpr s = some x) : ∃ p, s = .Expr x p := by cases s <;> cases h; exact ⟨_, rfl⟩
def vRet : Stmt → Option (Option Expr)
  | .Return e _ => some e
  | _ => none
theorem vRet_eq {s : Stmt} {x} (h : vRet s = some x) : ∃ p, s = .Return x p := by cases s <;> cases h; exact ⟨_, rfl⟩
def vIfS : Stmt → Option (Expr × List Stmt × List Stmt)
  | .If c a b _ => some (c, a, b)
  | _ => none
theorem vIfS_eq {s : Stmt} {x} (h : vIfS s = some x) : ∃ p, s = .If x.1 x.2.1 x.2.2 p := by cases s <;> cases h; exact ⟨_, rfl⟩
def vFor : Stmt → Option (Expr × Expr × List Stmt)
  | .For t i b [] _ => some (t, i, b)
  | _ => none
theorem vFor_eq {s : Stmt} {x} (h : vFor s = some x) : ∃ p, s = .For x.1 x.2.1 x.2.2 [] p := by
  unfold vFor at h
  split at h
  · cases h; exact ⟨_, rfl⟩
  · cases h
def vWhl : Stmt → Option (Expr × List Stmt)
  | .While c b [] _ => some (c, b)
  | _ => none
theorem vWhl_eq {s : Stmt} {x} (h : vWhl s = some x) : ∃ p, s = .While x.1 x.2 [] p := by
  unfold vWhl at h
  split at h
  · cases h; exact ⟨_, rfl⟩
  · cases h
def vRai : Stmt → Option Str
  | .Raise (some (.Call (.Name c _) [] [] _)) none _ => some c
  | _ => none
theorem vRai_eq {s : Stmt} {x} (h : vRai s = some x) : ∃ p1 p2 p, s = .Raise (some (.Call (.Name x p1) [] [] p2)) none p := by
  unfold vRai at h
  split at h
  · cases h; exact ⟨_, _, _, rfl⟩
  · cases h
def isBrk : Stmt → Bool
  | .Break _ => true
  | _ => false
def isCnt : Stmt → Bool
  | .Continue _ => true
  | _ => false
def isPass : Stmt → Bool
  | .Pass _ => true
  | _ => false
mutual
def mS (ct : Ct) : Sm → Stmt → Bool
  | .nev, _ => true
  | .asg i e, s => match vAsg s with
    | some (t, v, _) => match t with
      | .Name x px => storeB ct i x && mE ct e v && (match v with | .ListComp _ _ scope _ => (swLc ct.sc x px v scope && (match e with | .lc .. => true | .lcm .. => true | .lcr .. => true | _ => false)) || (cellK ct.sc x && (match e with | .lc .. => true | _ => false)) | _ => !compB v)
      | _ => false
    | none => false
  | .asgP ps e, s => match vAsg s with
    | some (t, v, _) => mPt ct (.tp ps) t && mE ct e v && !compB v && noSw ct.sc t v && (ptSlots (.tp ps)).all (fun i => decide (i ≠ 0))
    | none => false
  | .asgL ps e, s => match vAsg s with
    | some (t, v, _) => mPt ct (.tp ps) t && mE ct e v && !compB v && noSw ct.sc t v && (ptSlots (.tp ps)).all (fun i => decide (i ≠ 0))
    | none => false
  | .par i j a b, s => match vPar s with
    | some (x, px, y, py, ea, eb) => storeB ct i x && storeB ct j y && decide (i ≠ j) && parB ct.sc x px y py ea eb && mE ct a ea && plainE ea && mE ct b eb && plainE eb
    | none => false
  | .ali .., _ => false
  | .setI i k e, s => match vAsg s with
    | some (t, v, _) => match vSub t with
      | some (o, ix) => (match vName o with | some x => slotB ct i x | none => false) && mE ct k ix && plainE ix && mE ct e v && !compB v
      | none => false
    | none => false
  | .setII i k l e, s => match vAsg s with
    | some (t, v, _) => match vSub t with
      | some (o, ix) => (match vSub o with
        | some (o2, ix2) => (match vName o2 with | some x => slotB ct i x | none => false) && mE ct k ix2 && plainE ix2
        | none => false) && mE ct l ix && plainE ix && mE ct e v && !compB v
      | none => false
    | none => false
  | .app i e, s => match vExpr s with
    | some x => match vMeth x with
      | some (o, g, [y]) => g == "append" && (match vName o with | some z => slotB ct i z | none => false) && attB o && mE ct e y && plainE y
      | _ => false
    | none => false
  | .ext i e, s => match vExpr s with
    | some x => match vMeth x with
      | some (o, g, [y]) => g == "extend" && (match vName o with | some z => slotB ct i z | none => false) && attB o && mE ct e y && plainE y
      | _ => false
    | none => false
  | .exp e, s => match vExpr s with
    | some x => mE ct e x && !compB x
    | none => false
  | .ret e, s => match vRet s with
    | some (some x) => mE ct e x
    | some none => (match e with | .con .none => true | _ => false)
    | none => false
  | .parM i j a b, s => match vPar s with
    | some (x, px, y, py, ea, eb) => storeB ct i x && storeB ct j y && decide (i ≠ j) && parB ct.sc x px y py ea eb && mE ct a ea && plainE ea && mE ct b eb && plainE eb
    | none => false
  | .par3 i j l a b c, s => match vPar3 s with
    | some (x, px, y, py, z, pz, ea, eb, ec) => storeB ct i x && storeB ct j y && storeB ct l z && decide (i ≠ j) && decide (i ≠ l) && decide (j ≠ l) && par3B ct.sc x px y py z pz ea eb ec && mE ct a ea && plainE ea && mE ct b eb && plainE eb && mE ct c ec && plainE ec
    | none => false
  | .dput i k e, s => match vAsg s with
    | some (t, v, _) => match vSub t with
      | some (o, ix) => (match vName o with | some x => slotB ct i x | none => false) && mE ct k ix && plainE ix && mE ct e v && !compB v
      | none => false
    | none => false
  | .sda i k e, s => match vExpr s with
    | some x => match vMeth x with
      | some (o2, g, [y]) => match vMeth o2 with
        | some (o, g2, [kx, lx]) => g == "append" && g2 == "setdefault" && (match vName o with | some z => slotB ct i z | none => false) && attB o && mE ct k kx && plainE kx && (match vLst lx with | some es => es.isEmpty | none => false) && mE ct e y && plainE y
        | _ => false
      | _ => false
    | none => false
  | .appI i k e, s => match vExpr s with
    | some x => match vMeth x with
      | some (o2, g, [y]) => match vSub o2 with
        | some (o, ix) => g == "append" && (match vName o with | some z => slotB ct i z | none => false) && mE ct k ix && plainE ix && mE ct e y && plainE y
        | none => false
      | _ => false
    | none => false
  | .tryN b, s => match vTry s with
    | some ss => mSs ct b ss
    | none => false
  | .ifs c a b, s => match vIfS s with
    | some (x, p, q) => mE ct c x && mSs ct a p && mSs ct b q
    | none => false
  | .for p it b, s => match vFor s with
    | some (t, x, bd) => mPt ct p t && mI ct it t x && nsetB x && mSs ct b bd && (ptSlots p).all (fun i => decide (i ≠ 0))
    | none => false
  | .whl _ c b, s => match vWhl s with
    | some (x, bd) => mE ct c x && mSs ct b bd
    | none => false
  | .brk, s => isBrk s
  | .cnt, s => isCnt s
  | .pass, s => isPass s
  | .rais c, s => match vRai s with
    | some x => x == c && glB ct.sc c
    | none => false
  | .mat e cs, s => match vMat s with
    | some (x, ms) => mE ct e x && mCs ct cs ms
    | none => false
  | .tryR b ys hs, s => match vTryH s with
    | some (ss, hds) => mSs ct b ss && mHs ct hs hds && !ys.isEmpty
    | none => false
  | .mcs .., _ => false
  | .nil, _ => false
  | .seq _ _, _ => false
def mCs (ct : Ct) : Sm → List MatchCase → Bool
  | .nil, cs => cs.isEmpty
  | .mcs x b r, c :: cs => (match vCase c with | some (y, body) => y == x && mSs ct b body | none => false) && mCs ct r cs
  | _, _ => false
def mSs (ct : Ct) : Sm → List Stmt → Bool
  | .nil, ss => ss.isEmpty
  | .seq a b, s :: ss => mS ct a s && mSs ct b ss
  | .ali r i k l e b, s1 :: s2 :: ss => (match vAsg s1 with
      | some (.Name y _, v, _) => (match vSub v with
        | some (o, ix) => storeB ct r y && (match vName o with | some x => slotB ct i x | none => false) && mE ct k ix && plainE ix && !compB v
        | none => false)
      | _ => false) && (match vAsg s2 with
      | some (t, v, _) => (match vSub t with
        | some (o, ix) => (match vName o with | some x => slotB ct r x | none => false) && mE ct l ix && plainE ix && mE ct e v && !compB v
        | none => false)
      | none => false) && !(r == i) && mSs ct b ss
  | .nev, _ => true
  | _, _ => false
end
/-! ## One lemma a statement -/
section
variable {X : Cx} {ct : Ct} {W : WX} {k : Nat} {a b c : Ex} {x y z tg : Expr} {p px py : Pos}
theorem store0 {i : Nat} {y : Str} (h : storeB ct i y = true) : i ≠ 0 := by
  unfold storeB at h
  simp only [Bool.and_eq_true, decide_eq_true_eq] at h
  exact h.1.2
theorem set0 {σ : St} {i : Nat} {v : Option V} (h : i ≠ 0) : (σ.set i v)[0]? = σ[0]? := List.getElem?_set_ne h
theorem asg_imp {i : Nat} (h0 : i ≠ 0) : ∀ D σ H, tS (qX X W) (.asg i a) D σ H → tE (qX X W) a σ H fun v H1 => gName i v σ H1 D.nx := fun D σ H ⟨w, Γ, e, z⟩ =>
  sE_bind e z fun r Γ' v H' w' po z1 => by
    obtain ⟨w2, s2, e2⟩ := er_set (i := i) po
    exact z1 _ _ w2 s2 e2 (set0 h0)
theorem st_asg {i : Nat} {y : Str} (C : XS X ct W k) (h : storeB ct i y = true) (ha : PE X x (tE (qX X W) a)) (hc : compB x = false) : PS X (.Assign [.Name y py] x p) (tS (qX X W) (.asg i a)) := by
  obtain ⟨h1, h2, h3, h4⟩ := C.c.sto h
  exact (ps_set C.c.nd h1 h3 ha (sw_false hc) h4).imp (asg_imp h2)
theorem st_asgC {i : Nat} {y : Str} (C : XS X ct W k) (h : storeB ct i y = true) (ha : PE X x (tE (qX X W) a)) (hc : cellK ct.sc y = true) : PS X (.Assign [.Name y py] x p) (tS (qX X W) (.asg i a)) := by
  obtain ⟨h1, h2, h3, h4⟩ := C.c.sto h
  exact (ps_set C.c.nd h1 h3 ha (sw_cell C.c.hs hc) h4).imp (asg_imp h2)
theorem sw_of {sc : Scope} {y : Str} {v : Expr} {scope : Scope} (h : swLc sc y py v scope = true) : sc.kind = .function ∧ sc.names.lookup y = some .local ∧ (py.line == v.pos.line) = true ∧ (scope.names.any fun (n, k) => n == y && (k == .local || k == .cell)) = false := by
  unfold swLc at h
  simp only [Bool.and_eq_true, Bool.not_eq_true'] at h
  obtain ⟨⟨⟨h1, h2⟩, h3⟩, h4⟩ := h
  refine ⟨?_, ?_, h3, h4⟩
  · split at h1
    · assumption
    · cases h1
  · split at h2
    · assumption
    · cases h2
theorem st_asgLc {i : Nat} {y : Str} {ow : List Nat} {pt : Pt} {it : Gv.It} {cs : Ar} {el : Ex} {scope : Scope} {elt : Expr} {gs : List Comprehension} {cp : Pos} (C : XS X ct W k) (h : storeB ct i y = true) (ha : aE (calX X k) (gloX X) (.lc ow pt it cs el)) (hm : mE ct (.lc ow pt it cs el) (.ListComp elt gs scope cp) = true)
    (hs : swLc ct.sc y py (.ListComp elt gs scope cp) scope = true) : PS X (.Assign [.Name y py] (.ListComp elt gs scope cp) p) (tS (qX X W) (.asg i (.lc ow pt it cs el))) := by
  obtain ⟨h1, h2, h3, h4⟩ := C.c.sto h
  obtain ⟨q1, q2, q3, q4⟩ := sw_of hs
  simp only [mE] at hm
  split at hm
  · rename_i x tg iter ifs sc hy
    simp only [Bool.and_eq_true, List.all_eq_true, decide_eq_true_eq] at hm
    obtain ⟨⟨⟨⟨⟨⟨m1, m2⟩, m3⟩, m4⟩, m5⟩, m6⟩, m7⟩ := hm
    obtain ⟨p', he⟩ := vLC_eq hy
    dsimp only at he
    injection he with he1 he2 he3 he4
    subst he1 he2 he3 he4
    have C0 := C.c
    refine (ps_setLc C0.calm C0.nd h1 (by rw [C0.hs]; exact q2) (sw_true (by rw [C0.hs]; exact q1) (by rw [C0.hs]; exact q2) q3 q4) (sI it C0 ha.1 m3) (blkOk_by (by rw [C0.hN, C0.hs]; exact m1))
      (fun s H c cl fp => g_ptw (q := qX X W0) (C0.blk s H scope c cl fp) rfl pt m2) (fun s H c cl fp => show PTs _ _ (tT (qX X W0) (evC cs)) from sC cs (C0.blk s H scope c cl fp) ha.2.1 m4) (fun s H c cl fp => show PE _ _ (tE (qX X W0) el) from (sE el (C0.blk s H scope c cl fp) ha.2.2 m5).1) (nset_fold m7)).imp fun D σ H z => ?_
    rw [ow_map]
    exact lc_imp m6 σ H _ (asg_imp h2 D σ H z)
  · cases hm
theorem st_asgLm {i : Nat} {y : Str} {ow : List Nat} {pt : Pt} {it : Gv.It} {el : Ex} {scope : Scope} {elt : Expr} {gs : List Comprehension} {cp : Pos} (C : XS X ct W k) (h : storeB ct i y = true) (ha : aE (calX X k) (gloX X) (.lcm ow pt it el)) (hm : mE ct (.lcm ow pt it el) (.ListComp elt gs scope cp) = true)
    (hs : swLc ct.sc y py (.ListComp elt gs scope cp) scope = true) : PS X (.Assign [.Name y py] (.ListComp elt gs scope cp) p) (tS (qX X W) (.asg i (.lcm ow pt it el))) := by
  obtain ⟨h1, h2, h3, h4⟩ := C.c.sto h
  obtain ⟨q1, q2, q3, q4⟩ := sw_of hs
  simp only [mE] at hm
  split at hm
  · rename_i x tg iter ifs sc hy
    simp only [Bool.and_eq_true, List.all_eq_true, decide_eq_true_eq, List.isEmpty_iff] at hm
    obtain ⟨⟨⟨⟨⟨⟨m1, m2⟩, m3⟩, rfl⟩, m5⟩, m6⟩, m7⟩ := hm
    obtain ⟨p', he⟩ := vLC_eq hy
    dsimp only at he
    injection he with he1 he2 he3 he4
    subst he1 he2 he3 he4
    have C0 := C.c
    refine (ps_setLc C0.calm C0.nd h1 (by rw [C0.hs]; exact q2) (sw_true (by rw [C0.hs]; exact q1) (by rw [C0.hs]; exact q2) q3 q4) (sI it C0 ha.1 m3) (blkOk_by (by rw [C0.hN, C0.hs]; exact m1))
      (fun s H c cl fp => g_ptw (q := qX X W0) (C0.blk s H scope c cl fp) rfl pt m2) (fun s H c cl fp => pts_nil) (fun s H c cl fp => show PE _ _ (tE (qX X W0) el) from (sE el (C0.blk s H scope c cl fp) ha.2 m5).1) (nset_fold m7)).imp fun D σ H z => ?_
    rw [ow_map]
    exact lcm_imp m6 σ H _ (asg_imp h2 D σ H z)
  · cases hm
theorem st_asgLr {i : Nat} {y : Str} {ow : List Nat} {j i2 : Nat} {el : Ex} {scope : Scope} {elt : Expr} {gs : List Comprehension} {cp : Pos} (C : XS X ct W k) (h : storeB ct i y = true) (ha : aE (calX X k) (gloX X) (.lcr ow j i2 el)) (hm : mE ct (.lcr ow j i2 el) (.ListComp elt gs scope cp) = true)
    (hs : swLc ct.sc y py (.ListComp elt gs scope cp) scope = true) : PS X (.Assign [.Name y py] (.ListComp elt gs scope cp) p) (tS (qX X W) (.asg i (.lcr ow j i2 el))) := by
  obtain ⟨h1, h2, h3, h4⟩ := C.c.sto h
  obtain ⟨q1, q2, q3, q4⟩ := sw_of hs
  simp only [mE] at hm
  split at hm
  · rename_i x tg iter ifs sc hy
    simp only [Bool.and_eq_true, List.all_eq_true, decide_eq_true_eq, List.isEmpty_iff] at hm
    obtain ⟨⟨⟨⟨⟨⟨m1, m2⟩, m3⟩, rfl⟩, m5⟩, m6⟩, m7⟩ := hm
    obtain ⟨p', he⟩ := vLC_eq hy
    dsimp only at he
    injection he with he1 he2 he3 he4
    subst he1 he2 he3 he4
    have C0 := C.c
    refine (ps_setLc C0.calm C0.nd h1 (by rw [C0.hs]; exact q2) (sw_true (by rw [C0.hs]; exact q1) (by rw [C0.hs]; exact q2) q3 q4) (pi_seq (slot_name C0 m3).1) (blkOk_by (by rw [C0.hN, C0.hs]; exact m1))
      (fun s H c cl fp => g_row (C0.blk s H scope c cl fp) m2) (fun s H c cl fp => pts_nil) (fun s H c cl fp => show PE _ _ (tE (qX X W0) el) from (sE el (C0.blk s H scope c cl fp) ha m5).1) (nset_fold m7)).imp fun D σ H z => ?_
    rw [ow_map]
    exact lcr_imp m6 σ H _ (asg_imp h2 D σ H z)
  · cases hm
theorem kindOf_eq (C : XS X ct W k) (y : Str) : X.env.kindOf y = ct.sc.names.lookup y := by
  show X.env.scope.names.lookup y = _
  rw [C.c.hs]
theorem noSw_none {t v : Expr} (C : XS X ct W k) (h : noSw ct.sc t v = true) : swappedStores [t] v X.env = pure none := by
  unfold noSw at h
  split at h
  · rename_i ts kk pp vs k2 p2
    unfold swappedStores
    simp only [kindOf_eq C]
    have hne : ∀ (line : Nat), (ts.filterMap fun
        | .Name id pos => if ct.sc.names.lookup id == some .local && pos.line == line then some id else none
        | _ => none).length ≠ ts.length := fun line he => by
      have := List.filterMap_length_eq_length.mp he
      obtain ⟨e, he1, he2⟩ := List.any_eq_true.mp h
      have h1 := this e he1
      cases e with
      | Name id pos =>
        dsimp only at he2 h1
        split at he2
        · cases he2
        · rename_i hn
          have hn' : (ct.sc.names.lookup id == some .local) = false := by
            cases q : ct.sc.names.lookup id with
            | none => rfl
            | some kd => cases kd <;> first | rfl | exact absurd q hn
          rw [hn'] at h1
          simp at h1
      | _ => simp at h1
    have hne' : ∀ (line : Nat), ((ts.filterMap fun
        | .Name id pos => if ct.sc.names.lookup id == some .local && pos.line == line then some id else none
        | _ => none).length != ts.length) = true := fun line => by
      rw [bne_iff_ne]; exact hne line
    split
    · rfl
    · split
      · rfl
      · refine if_pos ?_
        rw [Bool.or_eq_true]
        exact .inl (hne' _)
  · rename_i ts kk pp hv
    unfold swappedStores
    cases v <;> first | rfl | exact absurd rfl (hv _ _ _)
  · cases h
theorem lk_loc {sc : Scope} {x : Str} (h : (match sc.names.lookup x with | some .local => true | _ => false) = true) : sc.names.lookup x = some .local := by
  split at h
  · assumption
  · cases h
theorem par_some {x y : Str} {a b : Expr} {px py pt p2 : Pos} {k1 k2 : Nat} (C : XS X ct W k) (h : parB ct.sc x px y py a b = true) (ha : plainE a = true) (hb : plainE b = true) :
    swappedStores [.Tuple [.Name x px, .Name y py] k1 pt] (.Tuple [a, b] k2 p2) X.env = pure (some [x, y]) ∧ X.env.scope.names.lookup x = some .local ∧ X.env.scope.names.lookup y = some .local := by
  unfold parB at h
  simp only [Bool.and_eq_true, Bool.not_eq_true'] at h
  obtain ⟨⟨⟨⟨⟨⟨h1, h2⟩, h3⟩, h4⟩, h5⟩, h6⟩, h7⟩ := h
  have e1 := lk_loc h2
  have e2 := lk_loc h3
  have e0 : ct.sc.kind = .function := by
    split at h1
    · assumption
    · cases h1
  refine ⟨?_, by rw [C.c.hs]; exact e1, by rw [C.c.hs]; exact e2⟩
  have hbk : X.env.blockKind = .function := by
    unfold Env.blockKind
    rw [C.c.hs, e0]; rfl
  have st : (([a, b] : List Expr).any fun | .Starred .. => true | _ => false) = false := by
    have s1 : ∀ e : Expr, plainE e = true → (match e with | .Starred .. => true | _ => false) = false := fun e he => by
      cases e <;> first | rfl | cases he
    simp only [List.any_cons, List.any_nil, Bool.or_false]
    rw [Bool.or_eq_false_iff]
    exact ⟨s1 a ha, s1 b hb⟩
  have hne : x ≠ y := fun q => by rw [q] at h5; simp at h5
  unfold swappedStores
  simp only [kindOf_eq C]
  rw [hbk]
  have hn : ([Expr.Name x px, Expr.Name y py].filterMap fun
      | .Name id pos => if ct.sc.names.lookup id == some .local && pos.line == (([Expr.Name x px, Expr.Name y py].head?.map (·.pos.line)).getD 0) then some id else none
      | _ => none) = [x, y] := by
    simp only [List.filterMap_cons, List.filterMap_nil, e1, e2, List.head?_cons, Option.map_some, Option.getD_some, Expr.pos, h4, beq_self_eq_true, Bool.and_self, if_true]
  have hd : ([x, y].eraseDups.length != [x, y].length) = false := by
    have : ([x, y] : List Str).eraseDups = [x, y] := by
      simp [List.eraseDups_cons, hne, Ne.symm hne]
    rw [this]; rfl
  have hc3 : (([x, y] : List Str).length != 2 || [x, y].eraseDups.length != [x, y].length) = false := by rw [hd]; rfl
  rw [← hn] at hc3
  refine (if_neg fun h => Bool.false_ne_true h).trans ((if_neg fun h => Bool.false_ne_true (st.symm.trans h)).trans ((if_neg fun h => Bool.false_ne_true (hc3.symm.trans h)).trans ((if_neg fun h => Bool.false_ne_true (h6.symm.trans h)).trans ((if_neg fun h => Bool.false_ne_true (h7.symm.trans h)).trans ?_))))
  exact congrArg (fun n => pure (some n)) hn
theorem par3_some {x y z : Str} {a b c : Expr} {px py pz pt p2 : Pos} {k1 k2 : Nat} (C : XS X ct W k) (h : par3B ct.sc x px y py z pz a b c = true) (ha : plainE a = true) (hb : plainE b = true) (hc : plainE c = true) :
    swappedStores [.Tuple [.Name x px, .Name y py, .Name z pz] k1 pt] (.Tuple [a, b, c] k2 p2) X.env = pure (some [x, y, z]) ∧ X.env.scope.names.lookup x = some .local ∧ X.env.scope.names.lookup y = some .local ∧ X.env.scope.names.lookup z = some .local := by
  unfold par3B at h
  simp only [Bool.and_eq_true, Bool.not_eq_true'] at h
  obtain ⟨⟨⟨⟨⟨⟨⟨⟨⟨⟨h1, h2⟩, h3⟩, h3'⟩, h4⟩, h4'⟩, h5⟩, h5'⟩, h5''⟩, h6⟩, h7⟩ := h
  have e1 := lk_loc h2
  have e2 := lk_loc h3
  have e3 := lk_loc h3'
  have e0 : ct.sc.kind = .function := by
    split at h1
    · assumption
    · cases h1
  refine ⟨?_, by rw [C.c.hs]; exact e1, by rw [C.c.hs]; exact e2, by rw [C.c.hs]; exact e3⟩
  have hbk : X.env.blockKind = .function := by
    unfold Env.blockKind
    rw [C.c.hs, e0]; rfl
  have st : (([a, b, c] : List Expr).any fun | .Starred .. => true | _ => false) = false := by
    have s1 : ∀ e : Expr, plainE e = true → (match e with | .Starred .. => true | _ => false) = false := fun e he => by
      cases e <;> first | rfl | cases he
    simp only [List.any_cons, List.any_nil, Bool.or_false]
    rw [Bool.or_eq_false_iff, Bool.or_eq_false_iff]
    exact ⟨s1 a ha, s1 b hb, s1 c hc⟩
  have hne : x ≠ y := fun q => by rw [q] at h5; simp at h5
  have hne2 : x ≠ z := fun q => by rw [q] at h5'; simp at h5'
  have hne3 : y ≠ z := fun q => by rw [q] at h5''; simp at h5''
  unfold swappedStores
  simp only [kindOf_eq C]
  rw [hbk]
  have hn : ([Expr.Name x px, Expr.Name y py, Expr.Name z pz].filterMap fun
      | .Name id pos => if ct.sc.names.lookup id == some .local && pos.line == (([Expr.Name x px, Expr.Name y py, Expr.Name z pz].head?.map (·.pos.line)).getD 0) then some id else none
      | _ => none) = [x, y, z] := by
    simp only [List.filterMap_cons, List.filterMap_nil, e1, e2, e3, List.head?_cons, Option.map_some, Option.getD_some, Expr.pos, h4, h4', beq_self_eq_true, Bool.and_self, if_true]
  have hd : ([x, y, z].eraseDups.length != [x, y, z].length) = false := by
    have : ([x, y, z] : List Str).eraseDups = [x, y, z] := by
      simp [List.eraseDups_cons, hne, Ne.symm hne, hne2, Ne.symm hne2, hne3, Ne.symm hne3]
    rw [this]; rfl
  have hc3 : (([x, y, z] : List Str).length != 3 || [x, y, z].eraseDups.length != [x, y, z].length) = false := by rw [hd]; rfl
  rw [← hn] at hc3
  refine (if_neg fun h => Bool.false_ne_true h).trans ((if_neg fun h => Bool.false_ne_true (st.symm.trans h)).trans ((if_neg fun h => Bool.false_ne_true (hc3.symm.trans h)).trans ((if_neg fun h => Bool.false_ne_true (h6.symm.trans h)).trans ((if_neg fun h => Bool.false_ne_true (h7.symm.trans h)).trans ?_))))
  exact congrArg (fun n => pure (some n)) hn
end
end L2.Gv

set_option Elab.async false
set_option linter.all false
set_option maxRecDepth 100000
set_option maxHeartbeats 2000000
namespace HT
open PySem PySem.Spec PyProof.Rows L2
section
open PySem.SeqAt
open PySem.AutoSeq1 (wpAny_loadPart')
open PySem.MeetsSeq PySem.MeetsSeq2 PySem.MeetsSeq3 PySem.AutoSeq1
theorem ext_tupG (l : Addr) (items : Array Value) (n : Nat) (b : Addr) (items2 : Array Value) (n2 : Nat) (dd : Option Addr) (sl : Array (Option Value)) (hs0 : ¬(!items.isEmpty && Builtin.List.listTooLong (items.size + items2.size)) = true) (hs1 : items.size ≤ sizeLine) (hs2 : items.size + items2.size ≤ sizeLine + 1) :
    Meets (Builtin.«list.extend» ⟨[.ref l, .ref b], []⟩) (fun _ R s => s.heap.get? l = some { cls := .type "list", dict := none, data := .seq items n, slots := #[] } ∧ s.heap.get? b = some { cls := .type "tuple", dict := dd, data := .seq items2 n2, slots := sl } ∧ R (.ok (.ret Value.none)) { s with heap := s.heap.update l (Obj.mapSeq fun x => x ++ items2), toks := s.toks }) :=
  .of_wp fun prog w A R s h => by
    obtain ⟨hp, g, d, tk, os⟩ := s; obtain ⟨hl, hb, h⟩ := h; have f1 := AutoSeq1.idx_int; have f2 := AutoSeq1.sub_tuple_tuple; have f3 := AutoSeq1.sub_list_list; have f4 := AutoSeq1.sub_tuple_list; have f5 := AutoSeq1.sub_list_tuple;
    have hz' : (items ++ items2).size ≤ sizeLine + 1 := by rw [Array.size_append]; exact hs2
    wp_walk using (wpAny_updateSeq hl rfl (hz := hs1) (_hz' := hz')), wpAny_loadPart' hl, wpAny_loadPart' hb; exact ⟨_, rfl, h⟩
end
end HT
namespace L2.Gv
open PySem PySem.Spec PyProof.Rows L2
section
variable {X : Cx} {ct : Ct} {W : WX} {k : Nat} {a b c : Ex} {x y z tg : Expr} {p px py pz : Pos}
theorem needS {q : Cn} {w : Wn} {H : Hp} {σ : St} {Γ : Sl} {i : Nat} {r : Rs Fl} {D : Ends} (e : ER q.K w Γ σ H) (h : rdS q w H σ (need Γ i r) D) : (∃ v, σ[i]? = some (some v)) ∧ rdS q w H σ r D := by
  unfold need at h
  split at h
  · rename_i m hg
    obtain ⟨v, hv, _⟩ := e.at_ i m hg
    exact ⟨⟨v, hv⟩, h⟩
  · exact h.elim
theorem needLS {q : Cn} {w : Wn} {H : Hp} {σ : St} {Γ : Sl} {i : Nat} {r : Rs Fl} {D : Ends} (e : ER q.K w Γ σ H) (h : rdS q w H σ (needL Γ i r) D) : (∃ a vs, σ[i]? = some (some (.ref a)) ∧ H a = some (.lst vs)) ∧ rdS q w H σ r D := by
  unfold needL at h
  split at h
  · rename_i xs hg
    obtain ⟨v, hv, a, vs, rfl, h1, _⟩ := e.at_ i _ hg
    exact ⟨⟨a, vs, hv, h1⟩, h⟩
  · exact h.elim
theorem Rows.row {K : PySem.W.Frag} {w : Wn} {H : Hp} {t : Option Nat} : ∀ {xss : List (List D)} {bs : List Addr} (j : Nat) {xs : List D}, Rows K w H t xss bs → xss[j]? = some xs → ∃ b vs, bs[j]? = some b ∧ H b = some (.lst vs) ∧ w b = some t ∧ vs.length ≤ sizeLine ∧ RDs K w H xs vs
  | _ :: _, b :: _, 0, xs, h, e => by
    obtain ⟨vs, h1, h2, h3, h4⟩ := h.1
    have e' := Option.some.inj e
    subst e'
    exact ⟨b, vs, rfl, h1, h2, h3, h4⟩
  | _ :: _, _ :: _, j + 1, xs, h, e => Rows.row j h.2.2 e
  | [], _, _, _, _, e => by simp at e
  | _ :: _, [], _, _, h, _ => h.elim
theorem Rows.put {K : PySem.W.Frag} {w : Wn} {H : Hp} {t : Option Nat} {b : Addr} {xs' : List D} {vs' : List V} (hw : w b = some t) (hl : vs'.length ≤ sizeLine) (hr : RDs K w H xs' vs') : ∀ {xss : List (List D)} {bs : List Addr} (j : Nat), Rows K w H t xss bs → bs[j]? = some b →
    Rows K w (upd H b (.lst vs')) t (xss.set j xs') bs
  | _ :: xss, c :: bs, 0, h, e => by
    have e' : c = b := Option.some.inj e
    subst e'
    refine ⟨⟨vs', upd_same, hw, hl, hr.mono (k0_write hw)⟩, h.2.1, h.2.2.keep (k0_write hw) fun d hd => ⟨upd_ne fun q => h.2.1 (by rw [← q]; exact hd), (h.2.2.own d hd).1⟩⟩
  | _ :: xss, c :: bs, j + 1, h, e => by
    have hb : b ∈ bs := List.mem_of_getElem? (by simpa using e)
    obtain ⟨vs, h1, h2, h3, h4⟩ := h.1
    refine ⟨⟨vs, by rw [upd_ne fun q => h.2.1 (by rw [q]; exact hb)]; exact h1, h2, h3, h4.mono (k0_write hw)⟩, h.2.1, Rows.put hw hl hr j h.2.2 (by simpa using e)⟩
  | [], [], _, h, e => by simp at e
  | [], _ :: _, _, h, _ => h.elim
  | _ :: _, [], _, h, _ => h.elim
theorem set_id {σ : St} {i : Nat} {v : V} (h : σ[i]? = some (some v)) : σ.set i (some v) = σ := by
  apply List.ext_getElem?
  intro j
  by_cases e : i = j
  · subst e
    rw [h, List.getElem?_set_self (List.getElem?_eq_some_iff.mp h).1]
  · rw [List.getElem?_set_ne e]
theorem st_parM {i j : Nat} {x1 y1 : Str} {k1 k2 : Nat} {pt p2 : Pos} (C : XS X ct W k) (hi : storeB ct i x1 = true) (hj : storeB ct j y1 = true) (hij : i ≠ j) (hp : parB ct.sc x1 px y1 py x y = true) (ha : PE X x (tE (qX X W) a)) (pa : plainE x = true) (hb : PE X y (tE (qX X W) b)) (pb : plainE y = true) :
    PS X (.Assign [.Tuple [.Name x1 px, .Name y1 py] k1 pt] (.Tuple [x, y] k2 p2) p) (tS (qX X W) (.parM i j a b)) := by
  obtain ⟨h1, h2, h3⟩ := par_some (k1 := k1) (k2 := k2) (pt := pt) (p2 := p2) C hp pa pb
  refine (ps_par C.c.calm C.c.nd (C.c.sto hi).1 (C.c.sto hj).1 hij h2 h3 (pa_cons ha (pa_cons hb pa_nil (star_plain pb)) (star_plain pa)) h1 (sw_sole rfl)).imp fun D σ H ⟨w, Γ, e, z⟩ => ?_
  refine sE_bind (q := qX X W) e z fun r1 Γ1 v1 H1 w1 po1 z1 => ⟨w1, Γ1, po1.er, (rdg.step z1.bind po1.st).imp fun r2 Γ2 z2 v2 H2 w2 po2 => ?_⟩
  obtain ⟨w4, s4, e4⟩ := er_set2 (i := i) (j := j) e.wf po1 po2
  exact ⟨v1, v2, rfl, z2 _ _ w4 s4 e4 ((set0 (store0 hj)).trans (set0 (store0 hi)))⟩
theorem st_par3 {i j l : Nat} {x1 y1 z1 : Str} {k1 k2 : Nat} {pt p2 : Pos} (C : XS X ct W k) (hi : storeB ct i x1 = true) (hj : storeB ct j y1 = true) (hl : storeB ct l z1 = true) (hij : i ≠ j) (hil : i ≠ l) (hjl : j ≠ l) (hp : par3B ct.sc x1 px y1 py z1 pz x y z = true) (ha : PE X x (tE (qX X W) a)) (pa : plainE x = true) (hb : PE X y (tE (qX X W) b)) (pb : plainE y = true) (hc : PE X z (tE (qX X W) c)) (pc : plainE z = true) :
    PS X (.Assign [.Tuple [.Name x1 px, .Name y1 py, .Name z1 pz] k1 pt] (.Tuple [x, y, z] k2 p2) p) (tS (qX X W) (.par3 i j l a b c)) := by
  obtain ⟨h1, h2, h3, h4⟩ := par3_some (k1 := k1) (k2 := k2) (pt := pt) (p2 := p2) C hp pa pb pc
  refine (ps_par3 C.c.calm C.c.nd (C.c.sto hi).1 (C.c.sto hj).1 (C.c.sto hl).1 hij hil hjl h2 h3 h4 (pa_cons ha (pa_cons hb (pa_cons hc pa_nil (star_plain pc)) (star_plain pb)) (star_plain pa)) h1 (sw_sole rfl)).imp fun D σ H ⟨w, Γ, e, z⟩ => ?_
  refine sE_bind (q := qX X W) e z fun r1 Γ1 v1 H1 w1 po1 z1 => ⟨w1, Γ1, po1.er, (rdg.step z1.bind po1.st).imp fun r2 Γ2 z2 v2 H2 w2 po2 => ⟨w2, Γ2, po2.er, (rdg.step z2.bind (po1.st.trans po2.st)).imp fun r3 Γ3 z3 v3 H3 w3 po3 => ?_⟩⟩
  obtain ⟨w4, s4, e4⟩ := er_set3 (i := i) (j := j) (l := l) e.wf po1 po2 po3
  exact ⟨v1, v2, v3, rfl, z3 _ _ w4 s4 e4 ((set0 (store0 hl)).trans ((set0 (store0 hj)).trans (set0 (store0 hi))))⟩
theorem st_dput {i : Nat} {o : Expr} {sp : Pos} (C : XS X ct W k) (ho : PE X o (tVar i)) (hk : PE X y (tE (qX X W) b)) (hp : plainE y = true) (ha : PE X x (tE (qX X W) a)) (hc : compB x = false) : PS X (.Assign [.Subscript o y sp] x p) (tS (qX X W) (.dput i b a)) := by
  refine (ps_dput (by have := C.c.hu65; omega) ho hk ha (sw_false hc)).imp fun D σ H ⟨w, Γ, e, z⟩ => ?_
  refine sE_bindD (q := qX X W) e z fun r1 Γ1 v1 H1 w1 s1 e1 d1 z1 => ?_
  obtain ⟨⟨v0, hv⟩, z1⟩ := needS e1 z1
  refine ⟨v0, hv, sE_bindD (q := qX X W) e1 z1 fun r2 Γ2 v2 H2 w2 s2 e2 d2 z2 => ?_⟩
  split at z2
  · rename_i kvs n hg hn
    rw [hn] at d2
    cases d2
    split at z2
    · rename_i hln
      have hln := lineOk_le hln
      obtain ⟨aa, vs, rfl, g1, g2, g3, g4⟩ := slot_md e2 hg hv
      obtain ⟨vs', q1, q2, q3⟩ := put_rel (k := n) g4 (d1.mono s2.k0)
      have hll : (dKL (kvs.map Prod.fst) vs).length < sizeLine := by
        rw [dKL_len (by have := g4.length; rw [List.length_map] at this ⊢; exact this), List.length_map]; omega
      refine ⟨aa, _, rfl, DPut.k (k := Sum.inl n) g1 hll, z2 σ _ w2 (step_write g2) ?_ rfl⟩
      refine er_write e2 hg hv g2 ⟨aa, vs', rfl, by rw [upd_same, q1], g2, by omega, q2.mono (k0_write g2)⟩
    · exact z2.elim
  · exact z2.elim
theorem st_appI {i : Nat} {o : Expr} {sp ap cp : Pos} (C : XS X ct W k) (ho : PE X o (tVar i)) (hk : PE X y (tE (qX X W) b)) (hp : plainE y = true) (ha : PE X x (tE (qX X W) a)) (hp2 : plainE x = true) (hl : (ap.endLine == cp.line) = true) :
    PS X (.Expr (.Call (.Attribute (.Subscript o y sp) "append" ap) [x] [] cp) p) (tS (qX X W) (.appI i b a)) := by
  refine (ps_expr (pe_bm1 PySem.F.plainAttrs_list PySem.F.slot_list_append PySem.F.type_list_append mt_append (pe_ix ix_list ho hk (ix_plain hp)) (pa_cons ha pa_nil (star_plain hp2)) rfl hl hp2) (sw_false rfl)).imp fun D σ H ⟨w, Γ, e, z⟩ => ?_
  have z0 : (∃ xss, Γ[i]? = some (some (.mm xss))) ∧ rdS (qX X W) w H σ ((evE b Γ).bind fun x Γ => match Γ[i]?, frz x with
    | some (some (.mm xss)), .int n => match ixN xss.length n with
      | some j => match xss[j]? with
        | some xs => (evE a (Γ.set i none)).bind fun y Γ => if lineOk (xs.length + 1) then .ok .nx (Γ.set i (some (.mm (xss.set j (xs ++ [frz y]))))) else .no
        | none => .no
      | none => .no
    | _, _ => .no) D := by
    have z : rdS (qX X W) w H σ (needLL Γ i _) D := z
    unfold needLL at z
    split at z
    · rename_i xss hg
      exact ⟨⟨xss, hg⟩, z⟩
    · exact z.elim
  obtain ⟨⟨xss0, hg0⟩, z⟩ := z0
  obtain ⟨v0, hv, _⟩ := e.at_ i _ hg0
  refine ⟨v0, hv, sE_bindD (q := qX X W) e z fun r2 Γ2 v2 H2 w2 s2 e2 d2 z2 => ?_⟩
  split at z2
  case h_2 => exact z2.elim
  rename_i xss n hg hn
  rw [hn] at d2
  cases d2
  split at z2
  case h_2 => exact z2.elim
  rename_i j hj
  split at z2
  case h_2 => exact z2.elim
  rename_i xs hx
  obtain ⟨v, hv2, hr2⟩ := e2.at_ i _ hg
  have own2 := hr2.owned
  obtain ⟨v', w3, hv3, po⟩ := slot_mov e2 hg
  rw [hv2] at hv3
  cases hv3
  rw [hv] at hv2
  cases hv2
  obtain ⟨aa, bs, rfl, g1, g2, g3, g4, g5⟩ := po.rm
  obtain ⟨bb, vs, q1, q2, q3, q4, q5⟩ := g5.row j hx
  have hbm : bb ∈ bs := List.mem_of_getElem? q1
  have hab : aa ≠ bb := fun q => g4 (by rw [q]; exact hbm)
  have oldB : ∀ c ∈ bs, w2 c = some (some i) := fun c hc => (own2 c (.inr ⟨aa, bs, rfl, g1, hc⟩)).1
  have oldA : w2 aa = some (some i) := (own2 aa (.inl rfl)).1
  have hat : L2.atI (bs.map V.ref) n = some (V.ref bb) := by
    unfold L2.atI
    rw [List.length_map, ← g5.length, hj]
    show (bs.map V.ref)[j]? = _
    rw [List.getElem?_map, q1]; rfl
  refine ⟨aa, bs.map V.ref, n, V.ref bb, rfl, rfl, SqL.of g1, hat, .inl ⟨rfl, _, SqL.of q2⟩, ?_⟩
  refine ⟨w3, Γ2.set i none, po.er, (rdg.step z2.bind po.st).imp fun r3 Γ3 z3 v3 H3 w3' po3 => ?_⟩
  obtain ⟨w4, s4, e4, d4⟩ := po3.frz
  split at z3
  case isFalse => exact z3.elim
  rename_i hln
  have hln := lineOk_le hln
  obtain ⟨h3a, h3w⟩ := s4 aa _ g1 (nslot_zone g2)
  obtain ⟨h3b, h3bw⟩ := s4 bb _ q2 (nslot_zone q3)
  rw [g2] at h3w
  rw [q3] at h3bw
  have rows3 := g5.step s4
  have q5' := q5.mono s4.k0
  have hl2 : (vs ++ [v3]).length ≤ sizeLine := by rw [List.length_append, ← q5.length]; exact hln
  refine ⟨bb, vs, v3, rfl, rfl, h3b, by rw [List.length_append] at hl2; exact hl2, ?_⟩
  have rowsN := Rows.put h3bw hl2 (q5'.snoc d4) j rows3 q1
  have h4a : upd H3 bb (.lst (vs ++ [v3])) aa = some (.lst (bs.map V.ref)) := by rw [upd_ne hab]; exact h3a
  have poN : Po X.K w2 H2 Γ3 σ (.mm (xss.set j (xs ++ [frz r3]))) (.ref aa) (upd H3 bb (.lst (vs ++ [v3]))) w4 := by
    refine ⟨fun c oo hc nc => ?_, er_temp e4 h3bw, ⟨aa, bs, rfl, h4a, h3w, g3, g4, rowsN⟩, fun c oc => ?_⟩
    · have ne : c ≠ bb := fun q => nc i (by rw [q]; exact oldB bb hbm)
      obtain ⟨k1, k2⟩ := (po.st.trans s4) c oo hc nc
      exact ⟨by rw [upd_ne ne]; exact k1, k2⟩
    · rcases (show V.ref aa = V.ref c ∨ ∃ (b : Addr) (cs : List Addr), V.ref aa = .ref b ∧ upd H3 bb (.lst (vs ++ [v3])) b = some (.lst (cs.map V.ref)) ∧ c ∈ cs from oc) with q | ⟨b', cs, q, t1, t2⟩
      · cases q; rw [oldA]; intro q; cases q
      · cases q
        rw [h4a] at t1
        have ec : bs = cs := by
          have q := Option.some.inj t1
          injection q with q
          exact refs_inj q
        subst ec
        rw [oldB c t2]; intro q; cases q
  obtain ⟨w5, s5, e5⟩ := er_set (i := i) poN
  rw [set_id hv] at e5
  exact z3 σ _ w5 s5 e5 rfl
theorem findK {n : Int} : ∀ {kvs : List (Int × List D)} {bs : List Addr}, bs.length = kvs.length →
    (kvs.findIdx? (fun p => decide (p.1 = n)) = none ∧ valV (dKL (kvs.map Prod.fst) (bs.map V.ref)) (Sum.inl n : Key) = none) ∨ ∃ (j : Nat) (q : List D) (b : Addr), kvs.findIdx? (fun p => decide (p.1 = n)) = some j ∧ kvs[j]? = some (n, q) ∧ bs[j]? = some b ∧ valV (dKL (kvs.map Prod.fst) (bs.map V.ref)) (Sum.inl n : Key) = some (.ref b)
  | [], [], _ => .inl ⟨rfl, rfl⟩
  | p :: r, b :: bs, h => by
    have ih := findK (n := n) (kvs := r) (bs := bs) (by simpa using h)
    rw [List.findIdx?_cons]
    show (_ ∧ valV (((Sum.inl p.1 : Key), V.ref b) :: dKL (r.map Prod.fst) (bs.map V.ref)) (Sum.inl n : Key) = none) ∨ ∃ j q b', _ ∧ _ ∧ _ ∧ valV (((Sum.inl p.1 : Key), V.ref b) :: dKL (r.map Prod.fst) (bs.map V.ref)) (Sum.inl n : Key) = some (.ref b')
    by_cases e : p.1 = n
    · rw [valV_pos (p := ((Sum.inl p.1 : Key), V.ref b)) (by rw [e])]
      refine .inr ⟨0, p.2, b, by simp [e], ?_, rfl, rfl⟩
      obtain ⟨p1, p2⟩ := p
      dsimp only at e ⊢
      subst e
      rfl
    · rw [valV_neg (p := ((Sum.inl p.1 : Key), V.ref b)) (fun z => e (Sum.inl.inj z))]
      rcases ih with ⟨h1, h2⟩ | ⟨j, q, b', h1, h2, h3, h4⟩
      · exact .inl ⟨by simp [e, h1], h2⟩
      · exact .inr ⟨j + 1, q, b', by simp [e, h1], h2, h3, h4⟩
theorem set_fst {α : Type} {n : Int} {q q' : α} : ∀ {kvs : List (Int × α)} {j : Nat}, kvs[j]? = some (n, q) → (kvs.set j (n, q')).map Prod.fst = kvs.map Prod.fst
  | [], _, e => by simp at e
  | p :: r, 0, e => by
    have : p = (n, q) := Option.some.inj e
    subst this; rfl
  | p :: r, j + 1, e => by
    show p.1 :: (r.set j (n, q')).map Prod.fst = _
    rw [set_fst (kvs := r) (by simpa using e)]; rfl
theorem set_snd {α : Type} {n : Int} {q' : α} (kvs : List (Int × α)) (j : Nat) : (kvs.set j (n, q')).map Prod.snd = (kvs.map Prod.snd).set j q' := by rw [List.map_set]
theorem st_sda {i : Nat} {o : Expr} {ap cp ap2 cp2 lp : Pos} (C : XS X ct W k) (ho : PE X o (tVar i)) (hk : PE X y (tE (qX X W) b)) (hp : plainE y = true) (ha : PE X x (tE (qX X W) a)) (hp2 : plainE x = true) (hat : attB o = true) (hl2 : (ap2.endLine == cp2.line) = true) (hl : (ap.endLine == cp.line) = true) :
    PS X (.Expr (.Call (.Attribute (.Call (.Attribute o "setdefault" ap2) [y, .List [] lp] [] cp2) "append" ap) [x] [] cp) p) (tS (qX X W) (.sda i b a)) := by
  refine (ps_expr (pe_bm1 PySem.F.plainAttrs_list PySem.F.slot_list_append PySem.F.type_list_append mt_append (pe_dsetd ho hk (pe_lst pa_nil) (m2_of hat hl2 hp rfl)) (pa_cons ha pa_nil (star_plain hp2)) rfl hl hp2) (sw_false rfl)).imp fun D σ H ⟨w, Γ, e, z⟩ => ?_
  have z0 : (∃ kvs, Γ[i]? = some (some (.ms kvs))) ∧ rdS (qX X W) w H σ ((evE b Γ).bind fun x Γ => match Γ[i]?, frz x with
    | some (some (.ms kvs)), .int n => if lineOk (kvs.length + 1) then match kvs.findIdx? (fun p => decide (p.1 = n)) with
      | some j => match kvs[j]? with
        | some q => (evE a (Γ.set i none)).bind fun y Γ => if lineOk (q.2.length + 1) then .ok .nx (Γ.set i (some (.ms (kvs.set j (n, q.2 ++ [frz y]))))) else .no
        | none => .no
      | none => (evE a (Γ.set i none)).bind fun y Γ => .ok .nx (Γ.set i (some (.ms (kvs ++ [(n, [frz y])]))))
      else .no
    | _, _ => .no) D := by
    have z : rdS (qX X W) w H σ (needDS Γ i _) D := z
    unfold needDS at z
    split at z
    · rename_i xss hg
      exact ⟨⟨xss, hg⟩, z⟩
    · exact z.elim
  obtain ⟨⟨kvs0, hg0⟩, z⟩ := z0
  obtain ⟨v0, hv, a0, bs0, hv0, h00, _⟩ := e.at_ i _ hg0
  subst hv0
  refine ⟨_, hv, a0, rfl, .inl ⟨_, .inl h00⟩, sE_bindD (q := qX X W) e z fun r2 Γ2 v2 H2 w2 s2 e2 d2 z2 => ?_⟩
  split at z2
  case h_2 => exact z2.elim
  rename_i kvs n hg hn
  rw [hn] at d2
  cases d2
  split at z2
  case isFalse => exact z2.elim
  rename_i hln
  have hln := lineOk_le hln
  refine ⟨Nat.zero_le _, fun pn hpn => ?_⟩
  obtain ⟨v, hv2, hr2⟩ := e2.at_ i _ hg
  have own2 := hr2.owned
  obtain ⟨v', w3, hv3, po⟩ := slot_mov e2 hg
  rw [hv2] at hv3
  cases hv3
  rw [hv] at hv2
  cases hv2
  obtain ⟨aa, bs, haa, g1, g2, g3, g4, g5⟩ := po.rm
  cases haa
  have hlen := g5.length
  rw [List.length_map] at hlen
  have oldB : ∀ c ∈ bs, w2 c = some (some i) := fun c hc => (own2 c (.inr ⟨_, bs, rfl, g1, hlen.symm, hc⟩)).1
  have oldA : w2 a0 = some (some i) := (own2 a0 (.inl rfl)).1
  have hpa : a0 ≠ pn := ne_of_none g1 hpn
  have hpb : pn ∉ bs := fun hm => by
    obtain ⟨_, vs, q⟩ := g5.own pn hm
    rw [hpn] at q; cases q
  have hL : (dKL (kvs.map Prod.fst) (bs.map V.ref)).length = kvs.length := by rw [dKL_len (by rw [List.length_map, List.length_map]; exact hlen), List.length_map]
  -- the new list stands as a temporary
  have x5 : Ext H2 w3 (upd H2 pn (.lst [])) (own w3 (· = pn) (some none)) := ext_own hpn
  have e5 : ER X.K (own w3 (· = pn) (some none)) (Γ2.set i none) σ (upd H2 pn (.lst [])) := po.er.ext x5 (wf_own po.er.wf)
  have st5 : Step H2 w2 (upd H2 pn (.lst [])) (own w3 (· = pn) (some none)) := po.st.trans x5.step
  have a5 : own w3 (· = pn) (some none) a0 = some none := by rw [own_out (S := (· = pn)) hpa]; exact g2
  have rows5 : Rows X.K (own w3 (· = pn) (some none)) (upd H2 pn (.lst [])) none (kvs.map Prod.snd) bs := g5.step x5.step
  have g1' : upd H2 pn (.lst []) a0 = some (.dK (dKL (kvs.map Prod.fst) (bs.map V.ref))) := by rw [upd_ne hpa]; exact g1
  have hlt : (dKL (kvs.map Prod.fst) (bs.map V.ref)).length < sizeLine := by rw [hL]; omega
  -- what holds of the slot behind all
  have fin : ∀ {H6 : Hp} {w6 : Wn} {Γ6 : Sl} {kvs' : List (Int × List Gv.D)} {bs' : List Addr}, Step H2 w2 H6 w6 → ER X.K w6 Γ6 σ H6 → H6 a0 = some (.dK (dKL (kvs'.map Prod.fst) (bs'.map V.ref))) → w6 a0 = some none → kvs'.length ≤ sizeLine → a0 ∉ bs' → Rows X.K w6 H6 none (kvs'.map Prod.snd) bs' → (∀ c ∈ bs', w2 c ≠ some none) →
      ∃ w7, Step H2 w2 H6 w7 ∧ ER X.K w7 (Γ6.set i (some (.ms kvs'))) σ H6 := fun {H6 w6 Γ6 kvs' bs'} s6 e6 q1 q2 q3 q4 q5 q6 => by
    have hlen' := q5.length
    rw [List.length_map] at hlen'
    have poN : Po X.K w2 H2 Γ6 σ (.ms kvs') (.ref a0) H6 w6 := by
      refine ⟨s6, e6, ⟨a0, bs', rfl, q1, q2, q3, q4, q5⟩, fun c oc => ?_⟩
      rcases (show V.ref a0 = V.ref c ∨ ∃ (b : Addr) (cs : List Addr), V.ref a0 = .ref b ∧ H6 b = some (.dK (dKL (kvs'.map Prod.fst) (cs.map V.ref))) ∧ cs.length = kvs'.length ∧ c ∈ cs from oc) with q | ⟨b', cs, q, t1, t3, t2⟩
      · cases q; rw [oldA]; intro q; cases q
      · cases q
        rw [q1] at t1
        have ec : bs' = cs := by
          have q := Option.some.inj t1
          injection q with q
          exact refs_inj (dKL_inj (by rw [List.length_map, List.length_map]; exact hlen'.symm) (by rw [List.length_map, List.length_map]; exact t3) q)
        subst ec
        exact q6 c t2
    obtain ⟨w7, s7, e7⟩ := er_set (i := i) poN
    rw [set_id hv] at e7
    exact ⟨w7, s7, e7⟩
  have nb : ∀ c ∈ bs, w2 c ≠ some none := fun c hc z => by rw [oldB c hc] at z; cases z
  have np : w2 pn ≠ some none := fun z => by rw [e2.wf.fresh hpn] at z; cases z
  rcases findK (bs := bs) (n := n) hlen.symm with ⟨f1, f2⟩ | ⟨j, q, bb, f1, f2, f3, f4⟩
  · -- a new key
    rw [f1] at z2
    refine ⟨_, Sum.inl n, g1', rfl, hlt, fun v hv => (by rw [f2] at hv; cases hv), fun _ => ?_⟩
    have eK : putK (dKL (kvs.map Prod.fst) (bs.map V.ref)) (Sum.inl n : Key) (.ref pn) = dKL ((kvs.map Prod.fst) ++ [n]) ((bs ++ [pn]).map V.ref) := by
      rw [putK_new _ f2, List.map_append]
      exact (dKL_snoc (by rw [List.length_map, List.length_map]; exact hlen)).symm
    rw [eK]
    have p6 : upd (upd H2 pn (.lst [])) a0 (.dK (dKL ((kvs.map Prod.fst) ++ [n]) ((bs ++ [pn]).map V.ref))) pn = some (.lst []) := by rw [upd_ne (Ne.symm hpa)]; exact upd_same
    have e6 := er_temp (o := .dK (dKL ((kvs.map Prod.fst) ++ [n]) ((bs ++ [pn]).map V.ref))) e5 a5
    have st6 : Step H2 w2 (upd (upd H2 pn (.lst [])) a0 (.dK (dKL ((kvs.map Prod.fst) ++ [n]) ((bs ++ [pn]).map V.ref)))) (own w3 (· = pn) (some none)) := fun c oo hc nc => by
      obtain ⟨k1, k2⟩ := st5 c oo hc nc
      exact ⟨by rw [upd_ne (fun q => nc i (by rw [q]; exact oldA))]; exact k1, k2⟩
    have rows6 : Rows X.K (own w3 (· = pn) (some none)) (upd (upd H2 pn (.lst [])) a0 (.dK (dKL ((kvs.map Prod.fst) ++ [n]) ((bs ++ [pn]).map V.ref)))) none (kvs.map Prod.snd) bs :=
      rows5.keep (k0_write a5) fun c hc => ⟨upd_ne fun q => g4 (by rw [← q]; exact hc), (rows5.own c hc).1⟩
    refine ⟨.inl ⟨rfl, _, SqL.of p6⟩, _, Γ2.set i none, e6, (rdg.step z2.bind st6).imp fun r3 Γ3 z3 v3 H3 w3' po3 => ?_⟩
    obtain ⟨w4, s4, e4, d4⟩ := po3.frz
    obtain ⟨h3a, h3w⟩ := s4 a0 _ upd_same (nslot_zone a5)
    obtain ⟨h3p, h3pw⟩ := s4 pn _ p6 (nslot_zone (own_in rfl))
    rw [a5] at h3w
    rw [own_in (S := (· = pn)) rfl] at h3pw
    refine ⟨pn, [], v3, rfl, rfl, h3p, by rw [sizeLine_eq]; simp, ?_⟩
    have rows7 : Rows X.K w4 (upd H3 pn (.lst [v3])) none (kvs.map Prod.snd) bs := (rows6.step s4).keep (k0_write h3pw) fun c hc => ⟨upd_ne fun q => hpb (by rw [← q]; exact hc), ((rows6.step s4).own c hc).1⟩
    have rows8 : Rows X.K w4 (upd H3 pn (.lst [v3])) none ((kvs ++ [(n, [frz r3])]).map Prod.snd) (bs ++ [pn]) := by
      rw [List.map_append]
      exact Rows.snoc ⟨[v3], upd_same, h3pw, by rw [sizeLine_eq]; simp, (RDs.cons d4 .nil).mono (k0_write h3pw)⟩ rows7 hpb
    obtain ⟨w7, s7, e7⟩ := fin (kvs' := kvs ++ [(n, [frz r3])]) (bs' := bs ++ [pn]) (H6 := upd H3 pn (.lst [v3])) (w6 := w4) (Γ6 := Γ3) (fun c oo hc nc => by
      obtain ⟨k1, k2⟩ := (st6.trans s4) c oo hc nc
      exact ⟨by rw [upd_ne (ne_of_none hc hpn)]; exact k1, k2⟩) (er_temp e4 h3pw) (by rw [upd_ne hpa, List.map_append]; exact h3a) h3w (by rw [List.length_append]; exact hln)
      (fun hm => by
        rcases List.mem_append.mp hm with q | q
        · exact g4 q
        · exact hpa (List.mem_singleton.mp q)) rows8 (fun c hc => by
        rcases List.mem_append.mp hc with q | q
        · exact nb c q
        · rw [List.mem_singleton.mp q]; exact np)
    exact z3 σ _ w7 s7 e7 rfl
  · -- a key that is there
    rw [f1] at z2
    dsimp only at z2
    rw [f2] at z2
    refine ⟨_, Sum.inl n, g1', rfl, hlt, fun v hv => ?_, fun hv => (by rw [f4] at hv; cases hv)⟩
    rw [f4] at hv
    cases hv
    obtain ⟨b2, vs, q1, q2, q3, q4, q5⟩ := rows5.row j (by rw [List.getElem?_map, f2]; rfl)
    rw [f3] at q1
    cases q1
    have hbm : bb ∈ bs := List.mem_of_getElem? f3
    have hab : a0 ≠ bb := fun q => g4 (by rw [q]; exact hbm)
    refine ⟨.inl ⟨rfl, _, SqL.of q2⟩, _, Γ2.set i none, e5, (rdg.step z2.bind st5).imp fun r3 Γ3 z3 v3 H3 w3' po3 => ?_⟩
    obtain ⟨w4, s4, e4, d4⟩ := po3.frz
    split at z3
    case isFalse => exact z3.elim
    rename_i hl3
    have hl3 := lineOk_le hl3
    obtain ⟨h3a, h3w⟩ := s4 a0 _ g1' (nslot_zone a5)
    obtain ⟨h3b, h3bw⟩ := s4 bb _ q2 (nslot_zone q3)
    rw [a5] at h3w
    rw [q3] at h3bw
    have hl4 : (vs ++ [v3]).length ≤ sizeLine := by rw [List.length_append, ← q5.length]; exact hl3
    refine ⟨bb, vs, v3, rfl, rfl, h3b, by rw [List.length_append] at hl4; exact hl4, ?_⟩
    have rowsN := Rows.put h3bw hl4 ((q5.mono s4.k0).snoc d4) j (rows5.step s4) f3
    obtain ⟨w7, s7, e7⟩ := fin (kvs' := kvs.set j (n, q ++ [frz r3])) (bs' := bs) (H6 := upd H3 bb (.lst (vs ++ [v3]))) (w6 := w4) (Γ6 := Γ3) (fun c oo hc nc => by
      obtain ⟨k1, k2⟩ := (st5.trans s4) c oo hc nc
      exact ⟨by rw [upd_ne (fun q => nc i (by rw [q]; exact oldB bb hbm))]; exact k1, k2⟩) (er_temp e4 h3bw) (by rw [upd_ne hab, set_fst f2]; exact h3a) h3w (by rw [List.length_set]; exact g3) g4 (by rw [set_snd]; exact rowsN) nb
    exact z3 σ _ w7 s7 e7 rfl
end
end L2.Gv

set_option Elab.async false
set_option linter.all false
set_option maxRecDepth 100000
set_option maxHeartbeats 2000000
namespace L2.Gv
open PySem PySem.Spec PyProof.Rows L2
section
variable {X : Cx} {ct : Ct} {W : WX} {k : Nat} {a b c : Ex} {x y z tg : Expr} {p px py : Pos}
theorem SameOut.zero {is : List Nat} {σ σ' : St} (h : SameOut is σ σ') (n : ∀ i ∈ is, i ≠ 0) : σ'[0]? = σ[0]? := h.2 0 fun z => n 0 z rfl
theorem tup_assign {t : Expr} {env : PySem.Env} {y} (h : vTup t = some y) : (assignEach [t] env).map (·.2) = [assign t env] := by
  obtain ⟨k, p, rfl⟩ := vTup_eq h
  rfl
theorem st_asgP {ps : List P1} {t : Expr} (C : XS X ct W k) (ht : mPt ct (.tp ps) t = true) (ha : PE X x (tE (qX X W) a)) (hc : compB x = false) (hn : noSw ct.sc t x = true) (h0 : ∀ i ∈ ptSlots (.tp ps), i ≠ 0) : PS X (.Assign [t] x p) (tS (qX X W) (.asgP ps a)) := by
  have hv : ∃ y, vTup t = some y := by
    unfold mPt at ht
    cases q : vTup t with
    | none => simp only [q] at ht; cases ht
    | some y => exact ⟨y, rfl⟩
  obtain ⟨y, hv⟩ := hv
  refine (ps_asg ha (g_pt (q := qX X W) C.c rfl (.tp ps) ht) (sw_sole hc) (noSw_none C hn) (tup_assign hv)).imp fun D σ H ⟨w, Γ, e, z⟩ => ?_
  refine sE_bindD (q := qX X W) e z fun r Γ1 v H1 w1 s1 e1 r1 z1 => ?_
  split at z1
  · rename_i ds hd
    unfold liftΓ at z1
    split at z1
    · rename_i Γ2 hs
      exact ⟨w1, Γ1, .tuple ds, Γ2, e1, by rw [← hd]; exact r1, hs, fun σ' e' so => z1 σ' H1 w1 Step.refl e' (so.zero h0)⟩
    · exact z1.elim
  · exact z1.elim
theorem st_asgL {ps : List P1} {t : Expr} (C : XS X ct W k) (ht : mPt ct (.tp ps) t = true) (ha : PE X x (tE (qX X W) a)) (hc : compB x = false) (hn : noSw ct.sc t x = true) (h0 : ∀ i ∈ ptSlots (.tp ps), i ≠ 0) : PS X (.Assign [t] x p) (tS (qX X W) (.asgL ps a)) := by
  have hv : ∃ y, vTup t = some y := by
    unfold mPt at ht
    cases q : vTup t with
    | none => simp only [q] at ht; cases ht
    | some y => exact ⟨y, rfl⟩
  obtain ⟨y, hv⟩ := hv
  refine (ps_asg ha (g_ptl (q := qX X W) C.c rfl ps ht) (sw_sole hc) (noSw_none C hn) (tup_assign hv)).imp fun D σ H ⟨w, Γ, e, z⟩ => ?_
  refine sE_bindD (q := qX X W) e z fun r Γ1 v H1 w1 s1 e1 r1 z1 => ?_
  split at z1
  · rename_i ds hd
    unfold liftΓ at z1
    split at z1
    · rename_i Γ2 hs
      exact ⟨w1, Γ1, .list ds, Γ2, e1, by rw [← hd]; exact r1, hs, fun σ' e' so => z1 σ' H1 w1 Step.refl e' (so.zero h0)⟩
    · exact z1.elim
  · exact z1.elim
theorem st_par {i j : Nat} {x1 y1 : Str} {k1 k2 : Nat} {pt p2 : Pos} (C : XS X ct W k) (hi : storeB ct i x1 = true) (hj : storeB ct j y1 = true) (hij : i ≠ j) (hp : parB ct.sc x1 px y1 py x y = true) (ha : PE X x (tE (qX X W) a)) (pa : plainE x = true) (hb : PE X y (tE (qX X W) b)) (pb : plainE y = true) :
    PS X (.Assign [.Tuple [.Name x1 px, .Name y1 py] k1 pt] (.Tuple [x, y] k2 p2) p) (tS (qX X W) (.par i j a b)) := by
  obtain ⟨h1, h2, h3⟩ := par_some (k1 := k1) (k2 := k2) (pt := pt) (p2 := p2) C hp pa pb
  refine (ps_par C.c.calm C.c.nd (C.c.sto hi).1 (C.c.sto hj).1 hij h2 h3 (pa_cons ha (pa_cons hb pa_nil (star_plain pb)) (star_plain pa)) h1 (sw_sole rfl)).imp fun D σ H ⟨w, Γ, e, z⟩ => ?_
  refine sE_bindD (q := qX X W) e z fun r1 Γ1 v1 H1 w1 s1 e1 d1 z1 => sE_bindD (q := qX X W) e1 z1 fun r2 Γ2 v2 H2 w2 s2 e2 d2 z2 => ?_
  exact ⟨v1, v2, rfl, z2 _ _ w2 Step.refl (er_setD (er_setD e2 (d1.mono s2.k0)) d2) ((set0 (store0 hj)).trans (set0 (store0 hi)))⟩
theorem sub_assign {o i : Expr} {pos : Pos} {env : PySem.Env} (h : plainE i = true) : ∀ v, assign (.Subscript o i pos) env v = (do
      let ov ← holding [v] (eval o env)
      let iv ← holding [v, ov] (eval i env)
      standAt pos
      holding [v, ov, iv] (setItem ov iv v)
      release [v, ov, iv] []) := by
  intro v
  cases i <;> first | rfl | cases h
theorem st_setI {i : Nat} {o : Expr} {sp : Pos} (C : XS X ct W k) (ho : PE X o (tVar i)) (hk : PE X y (tE (qX X W) b)) (hp : plainE y = true) (ha : PE X x (tE (qX X W) a)) (hc : compB x = false) : PS X (.Assign [.Subscript o y sp] x p) (tS (qX X W) (.setI i b a)) := by
  refine (ps_asg ha (pg_sub ho hk set_list (sub_assign hp)) (sw_sole hc) (by cases x <;> rfl) rfl).imp fun D σ H ⟨w, Γ, e, z⟩ => ?_
  refine sE_bindD (q := qX X W) e z fun r1 Γ1 v1 H1 w1 s1 e1 d1 z1 => ?_
  obtain ⟨⟨v0, hv⟩, z1⟩ := needS e1 z1
  refine ⟨v0, hv, sE_bindD (q := qX X W) e1 z1 fun r2 Γ2 v2 H2 w2 s2 e2 d2 z2 => ?_⟩
  split at z2
  · rename_i xs n hg hn
    rw [hn] at d2
    cases d2
    split at z2
    · rename_i j hj
      obtain ⟨aa, vs, hσ, g1, g2, g3, g4, g5⟩ := slot_ml e2 hg
      rw [hv] at hσ
      cases hσ
      obtain ⟨st, er⟩ := g5 (xs.set j (frz r1)) (vs.set j v1) (by rw [List.length_set]; exact g3) (g4.set (d1.mono s2.k0) j)
      exact ⟨aa, vs, n, j, rfl, rfl, g1, by rw [← g4.length]; exact hj, z2 σ _ w2 st er rfl⟩
    · exact z2.elim
  · exact z2.elim
theorem st_setII {i : Nat} {o : Expr} {sp sp2 : Pos} {ix : Expr} {l : Ex} (C : XS X ct W k) (ho : PE X o (tVar i)) (hk : PE X y (tE (qX X W) b)) (hp : plainE y = true) (hl : PE X ix (tE (qX X W) l)) (hp2 : plainE ix = true) (ha : PE X x (tE (qX X W) a)) (hc : compB x = false) :
    PS X (.Assign [.Subscript (.Subscript o y sp2) ix sp] x p) (tS (qX X W) (.setII i b l a)) := by
  refine (ps_asg ha (pg_sub (pe_ix ix_list ho hk (ix_plain hp)) hl set_list (sub_assign hp2)) (sw_sole hc) (by cases x <;> rfl) rfl).imp fun D σ H ⟨w, Γ, e, z⟩ => ?_
  refine sE_bindD (q := qX X W) e z fun r1 Γ1 v1 H1 w1 s1 e1 d1 z1 => ?_
  obtain ⟨⟨v0, hv⟩, z1⟩ := needS e1 z1
  refine ⟨v0, hv, sE_bindD (q := qX X W) e1 z1 fun r2 Γ2 v2 H2 w2 s2 e2 d2 z2 => ?_⟩
  split at z2
  case h_2 => exact z2.elim
  rename_i xss n hg hn
  rw [hn] at d2
  cases d2
  split at z2
  case h_2 => exact z2.elim
  rename_i j hj
  split at z2
  case h_2 => exact z2.elim
  rename_i xs hx
  obtain ⟨v, hv2, hr2⟩ := e2.at_ i _ hg
  have own2 := hr2.owned
  obtain ⟨v', w3, hv3, po⟩ := slot_mov e2 hg
  rw [hv2] at hv3
  cases hv3
  rw [hv] at hv2
  cases hv2
  obtain ⟨aa, bs, rfl, g1, g2, g3, g4, g5⟩ := po.rm
  obtain ⟨bb, vs, q1, q2, q3, q4, q5⟩ := g5.row j hx
  have hbm : bb ∈ bs := List.mem_of_getElem? q1
  have hab : aa ≠ bb := fun q => g4 (by rw [q]; exact hbm)
  have oldB : ∀ c ∈ bs, w2 c = some (some i) := fun c hc => (own2 c (.inr ⟨aa, bs, rfl, g1, hc⟩)).1
  have oldA : w2 aa = some (some i) := (own2 aa (.inl rfl)).1
  have hat : L2.atI (bs.map V.ref) n = some (V.ref bb) := by
    unfold L2.atI
    rw [List.length_map, ← g5.length, hj]
    show (bs.map V.ref)[j]? = _
    rw [List.getElem?_map, q1]; rfl
  refine ⟨aa, bs.map V.ref, n, V.ref bb, rfl, rfl, SqL.of g1, hat, ?_⟩
  refine ⟨w3, Γ2.set i none, po.er, (rdg.step z2.bind po.st).imp fun r3 Γ3 z3 v3 H3 w3' po3 => ?_⟩
  obtain ⟨w4, s4, e4, d4⟩ := po3.frz
  split at z3
  case h_2 => exact z3.elim
  rename_i n' hn'
  rw [hn'] at d4
  cases d4
  split at z3
  case h_2 => exact z3.elim
  rename_i j' hj'
  obtain ⟨h3a, h3w⟩ := s4 aa _ g1 (nslot_zone g2)
  obtain ⟨h3b, h3bw⟩ := s4 bb _ q2 (nslot_zone q3)
  rw [g2] at h3w
  rw [q3] at h3bw
  have rows3 := g5.step s4
  have q5' := q5.mono s4.k0
  have d1' := ((d1.mono s2.k0).mono po.st.k0).mono s4.k0
  refine ⟨bb, vs, n', j', rfl, rfl, h3b, by rw [← q5.length]; exact hj', ?_⟩
  have rowsN := Rows.put h3bw (by rw [List.length_set]; exact q4) (q5'.set d1' j') j rows3 q1
  have h4a : upd H3 bb (.lst (vs.set j' v1)) aa = some (.lst (bs.map V.ref)) := by rw [upd_ne hab]; exact h3a
  have poN : Po X.K w2 H2 Γ3 σ (.mm (xss.set j (xs.set j' (frz r1)))) (.ref aa) (upd H3 bb (.lst (vs.set j' v1))) w4 := by
    refine ⟨fun c oo hc nc => ?_, er_temp e4 h3bw, ⟨aa, bs, rfl, h4a, h3w, g3, g4, rowsN⟩, fun c oc => ?_⟩
    · have ne : c ≠ bb := fun q => nc i (by rw [q]; exact oldB bb hbm)
      obtain ⟨k1, k2⟩ := (po.st.trans s4) c oo hc nc
      exact ⟨by rw [upd_ne ne]; exact k1, k2⟩
    · rcases (show V.ref aa = V.ref c ∨ ∃ (b : Addr) (cs : List Addr), V.ref aa = .ref b ∧ upd H3 bb (.lst (vs.set j' v1)) b = some (.lst (cs.map V.ref)) ∧ c ∈ cs from oc) with q | ⟨b', cs, q, t1, t2⟩
      · cases q; rw [oldA]; intro q; cases q
      · cases q
        rw [h4a] at t1
        have ec : bs = cs := by
          have q := Option.some.inj t1
          injection q with q
          exact List.map_inj_right (fun x y z => by injection z) |>.mp q
        subst ec
        rw [oldB c t2]; intro q; cases q
  obtain ⟨w5, s5, e5⟩ := er_set (i := i) poN
  rw [set_id hv] at e5
  exact z3 σ _ w5 s5 e5 rfl
theorem rdS.bind' {q : Cn} {α : Type} {w w' : Wn} {H H' : Hp} {σ σ' : St} {D : Ends} {f : α → Sl → Rs Fl} {r : Rs α} (h : rdS q w H σ (r.bind f) D) (s : Step H w H' w') (e0 : σ'[0]? = σ[0]?) : rdg q w' H' σ' r fun a Γ => rdS q w H σ (f a Γ) D := by
  match r, h with
  | .ok a Γ, h => exact h
  | .ex x Γ, h => exact fun cls d H2 w2 s2 e xr => h cls d σ' H2 w2 (s.trans s2) e e0 xr
  | .no, h => exact h
/-- rows over a change of them all, the j-th written -/
theorem Rows.upd1 {K : PySem.W.Frag} {w w' : Wn} {H H' : Hp} {t t' : Option Nat} {b : Addr} {xs' : List D} (s : K0 H w H' w') (new : ∃ vs, H' b = some (.lst vs) ∧ w' b = some t' ∧ vs.length ≤ sizeLine ∧ RDs K w' H' xs' vs) : ∀ {xss : List (List D)} {bs : List Addr} (j : Nat), Rows K w H t xss bs → bs[j]? = some b → (∀ c ∈ bs, c ≠ b → H' c = H c ∧ w' c = some t') →
    Rows K w' H' t' (xss.set j xs') bs
  | _ :: xss, c :: bs, 0, h, e, hk => by
    have e' : c = b := Option.some.inj e
    subst e'
    exact ⟨new, h.2.1, h.2.2.keep s fun d hd => hk d (List.mem_cons_of_mem _ hd) fun q => h.2.1 (by rw [← q]; exact hd)⟩
  | _ :: xss, c :: bs, j + 1, h, e, hk => by
    have hb : b ∈ bs := List.mem_of_getElem? (by simpa using e)
    obtain ⟨vs, h1, h2, h3, h4⟩ := h.1
    obtain ⟨k1, k2⟩ := hk c List.mem_cons_self fun q => h.2.1 (by rw [q]; exact hb)
    exact ⟨⟨vs, by rw [k1]; exact h1, k2, h3, h4.mono s⟩, h.2.1, Rows.upd1 s new j h.2.2 (by simpa using e) fun d hd => hk d (List.mem_cons_of_mem _ hd)⟩
  | [], [], _, _, e, _ => by simp at e
  | [], _ :: _, _, h, _, _ => h.elim
  | _ :: _, [], _, h, _, _ => h.elim
theorem st_ali {r i : Nat} {y : Str} {py sp sp2 p1 p2 : Pos} {cb : Sm} {kk l e : Ex} {o ix o2 ix2 v2 : Expr} {ss : List Stmt} (C : XS X ct W k) (hr : storeB ct r y = true) (ho : PE X o (tVar i)) (hk : PE X ix (tE (qX X W) kk)) (hp : plainE ix = true) (hc1 : compB (.Subscript o ix sp) = false)
    (ho2 : PE X o2 (tVar r)) (hl : PE X ix2 (tE (qX X W) l)) (hp2 : plainE ix2 = true) (he : PE X v2 (tE (qX X W) e)) (hc2 : compB v2 = false) (hne : r ≠ i) (hb : PSs X ss (tS (qX X W) cb)) :
    PSs X (.Assign [.Name y py] (.Subscript o ix sp) p1 :: .Assign [.Subscript o2 ix2 sp2] v2 p2 :: ss) (tS (qX X W) (.ali r i kk l e cb)) := by
  obtain ⟨h1, h2, h3, h4⟩ := C.c.sto hr
  refine (pss_cons (ps_set C.c.nd h1 h3 (pe_ix ix_list ho hk (ix_plain hp)) (sw_false hc1) h4) (pss_cons (ps_asg he (pg_sub ho2 hl set_list (sub_assign hp2)) (sw_sole hc2) (by cases v2 <;> rfl) rfl) hb)).imp fun D σ H ⟨w, Γ, e0, z⟩ => ?_
  obtain ⟨⟨v0, hv⟩, z1⟩ := needS e0 z
  refine ⟨v0, hv, sE_bindD (q := qX X W) e0 z1 fun r2 Γ2 v2' H2 w2 s2 e2 d2 z2 => ?_⟩
  split at z2
  case h_2 => exact z2.elim
  rename_i xss n hg hn
  rw [hn] at d2
  cases d2
  split at z2
  case h_2 => exact z2.elim
  rename_i j hj
  split at z2
  case h_2 => exact z2.elim
  rename_i xs hx
  obtain ⟨v, hv2, hr2⟩ := e2.at_ i _ hg
  have own2 := hr2.owned
  obtain ⟨v', w3, hv3, po⟩ := slot_mov e2 hg
  rw [hv2] at hv3
  cases hv3
  rw [hv] at hv2
  cases hv2
  obtain ⟨aa, bs, rfl, g1, g2, g3, g4, g5⟩ := po.rm
  obtain ⟨bb, vs, q1, q2, q3, q4, q5⟩ := g5.row j hx
  have hbm : bb ∈ bs := List.mem_of_getElem? q1
  have hab : aa ≠ bb := fun q => g4 (by rw [q]; exact hbm)
  have oldB : ∀ c ∈ bs, w2 c = some (some i) := fun c hc => (own2 c (.inr ⟨aa, bs, rfl, g1, hc⟩)).1
  have oldA : w2 aa = some (some i) := (own2 aa (.inl rfl)).1
  have hat : L2.atI (bs.map V.ref) n = some (V.ref bb) := by
    unfold L2.atI
    rw [List.length_map, ← g5.length, hj]
    show (bs.map V.ref)[j]? = _
    rw [List.getElem?_map, q1]; rfl
  refine ⟨aa, bs.map V.ref, n, V.ref bb, rfl, rfl, SqL.of g1, hat, ?_⟩
  have pr : Po X.K w2 H2 (Γ2.set i none) σ (.ml xs) (.ref bb) H2 w3 := ⟨po.st, po.er, ⟨bb, vs, rfl, q2, q3, q4, q5⟩, fun a oa => by
    have oa : V.ref bb = V.ref a := oa
    cases oa
    rw [oldB bb hbm]
    intro q; cases q⟩
  obtain ⟨s6, e6, k6⟩ := er_set' (i := r) pr
  have hout : ∀ c, c ≠ bb → Gv.own w3 (Owns H2 (.ml xs) (.ref bb)) (some (some r)) c = w3 c := fun c hc => own_out fun (q : V.ref bb = V.ref c) => by cases q; exact hc rfl
  generalize Gv.own w3 (Owns H2 (.ml xs) (.ref bb)) (some (some r)) = w6 at s6 e6 k6 hout
  have wa6 : w6 aa = some none := by rw [hout aa hab]; exact g2
  have h0 : (σ.set r (some (V.ref bb)))[0]? = σ[0]? := set0 h2
  have hset : (σ.set r (some (V.ref bb)))[i]? = some (some (V.ref aa)) := by rw [List.getElem?_set_ne hne]; exact hv
  refine ⟨w6, _, e6, (rdS.bind' z2 s6 h0).imp fun r4 Γ4 z4 v4 H4 w4 po4 => ?_⟩
  obtain ⟨w5, s5, e5, d5⟩ := po4.frz
  unfold need at z4
  split at z4
  case h_2 => exact z4.elim
  rename_i m4 hm4
  obtain ⟨v5, hv5, _⟩ := e5.at_ r m4 hm4
  refine ⟨v5, hv5, w5, Γ4, e5, (rdS.bind' z4 (s6.trans s5) h0).imp fun r7 Γ7 z7 v7 H7 w7 po7 => ?_⟩
  obtain ⟨w8, s8, e8, d8⟩ := po7.frz
  split at z7
  case h_2 => exact z7.elim
  rename_i ys n' hg' hn'
  rw [hn'] at d8
  cases d8
  split at z7
  case h_2 => exact z7.elim
  rename_i j' hj'
  obtain ⟨vr, w9, hvr, po9⟩ := slot_mov e8 hg'
  have hlt : r < (σ.set r (some (V.ref bb))).length := (List.getElem?_eq_some_iff.mp hvr).1
  have hrr : (σ.set r (some (V.ref bb)))[r]? = some (some (V.ref bb)) := List.getElem?_set_self (by rw [List.length_set] at hlt; exact hlt)
  rw [hrr] at hvr
  cases hvr
  rw [hrr] at hv5
  cases hv5
  obtain ⟨b9, us, hb9, f1, f2, f3, f4⟩ := po9.rm
  cases hb9
  obtain ⟨a5, wa5⟩ := s5 aa _ g1 (nslot_zone wa6)
  rw [wa6] at wa5
  obtain ⟨a8, wa8⟩ := s8 aa _ a5 (nslot_zone wa5)
  rw [wa5] at wa8
  obtain ⟨a9, wa9⟩ := po9.st aa _ a8 (nslot_zone wa8)
  rw [wa8] at wa9
  have oth : ∀ c ∈ bs, c ≠ bb → H7 c = H2 c ∧ w9 c = some none := fun c hc hn => by
    obtain ⟨t1, us, t2⟩ := g5.own c hc
    have t6 : w6 c = some none := by rw [hout c hn]; exact t1
    obtain ⟨c5, x5⟩ := s5 c _ t2 (nslot_zone t6)
    rw [t6] at x5
    obtain ⟨c8, x8⟩ := s8 c _ c5 (nslot_zone x5)
    rw [x5] at x8
    obtain ⟨c9, x9⟩ := po9.st c _ c8 (nslot_zone x8)
    rw [x8] at x9
    exact ⟨by rw [c9, t2], x9⟩
  have kw := k0_write (H := H7) (o := .lst (us.set j' v4)) f2
  have kall : K0 H2 w3 (upd H7 bb (.lst (us.set j' v4))) w9 := fun a o ha wa => by
    obtain ⟨x1, y1⟩ := k6 a o ha wa
    obtain ⟨x2, y2⟩ := s5.k0 a o x1 y1
    obtain ⟨x3, y3⟩ := s8.k0 a o x2 y2
    obtain ⟨x4, y4⟩ := po9.st.k0 a o x3 y3
    exact kw a o x4 y4
  have d9 := ((d5.mono s8.k0).mono po9.st.k0)
  have hl9 : (us.set j' v4).length ≤ sizeLine := by rw [List.length_set]; exact f3
  have rows9 : Rows X.K w9 (upd H7 bb (.lst (us.set j' v4))) none (xss.set j (ys.set j' (frz r4))) bs := Rows.upd1 kall ⟨_, upd_same, f2, hl9, (f4.set d9 j').mono kw⟩ j g5 q1 fun c hc hn => by
    obtain ⟨t1, t2⟩ := oth c hc hn
    exact ⟨by rw [upd_ne hn]; exact t1, t2⟩
  have a10 : upd H7 bb (.lst (us.set j' v4)) aa = some (.lst (bs.map V.ref)) := by rw [upd_ne hab]; exact a9
  have hb8 : H7 bb = some (.lst us) := f1
  refine ⟨bb, us, n', j', rfl, rfl, hb8, by rw [← f4.length]; exact hj', ?_⟩
  have poN : Po X.K w2 H2 (Γ7.set r none) (σ.set r (some (V.ref bb))) (.mm (xss.set j (ys.set j' (frz r4)))) (.ref aa) (upd H7 bb (.lst (us.set j' v4))) w9 := by
    refine ⟨fun c oo hc nc => ?_, er_temp po9.er f2, ⟨aa, bs, rfl, a10, wa9, g3, g4, rows9⟩, fun c oc => ?_⟩
    · have ne : c ≠ bb := fun q => nc i (by rw [q]; exact oldB bb hbm)
      obtain ⟨k1, k2⟩ := (((s6.trans s5).trans s8).trans po9.st) c oo hc nc
      exact ⟨by rw [upd_ne ne]; exact k1, k2⟩
    · rcases (show V.ref aa = V.ref c ∨ ∃ (b : Addr) (cs : List Addr), V.ref aa = .ref b ∧ upd H7 bb (.lst (us.set j' v4)) b = some (.lst (cs.map V.ref)) ∧ c ∈ cs from oc) with q | ⟨b', cs, q, t1, t2⟩
      · cases q; rw [oldA]; intro q; cases q
      · cases q
        rw [a10] at t1
        have ec : bs = cs := by
          have q := Option.some.inj t1
          injection q with q
          exact List.map_inj_right (fun x y z => by injection z) |>.mp q
        subst ec
        rw [oldB c t2]; intro q; cases q
  obtain ⟨w10, s10, e10⟩ := er_set (i := i) poN
  rw [set_id hset] at e10
  exact ⟨w10, _, e10, z7.step e2.wf s10 h0⟩
theorem st_app {i : Nat} {o : Expr} {ap cp : Pos} (C : XS X ct W k) (ho : PE X o (tVar i)) (ha : PE X x (tE (qX X W) a)) (hb : attB o = true) (hl : (ap.endLine == cp.line) = true) (hp : plainE x = true) : PS X (.Expr (.Call (.Attribute o "append" ap) [x] [] cp) p) (tS (qX X W) (.app i a)) := by
  refine (ps_expr (pe_bm1 PySem.F.plainAttrs_list PySem.F.slot_list_append PySem.F.type_list_append mt_append ho (pa_cons ha pa_nil (star_plain hp)) hb hl hp) (sw_false rfl)).imp fun D σ H ⟨w, Γ, e, z⟩ => ?_
  obtain ⟨⟨a0, vs0, hv, h0⟩, z⟩ := needLS (q := qX X W) e z
  refine ⟨_, hv, .inl ⟨rfl, _, SqL.of h0⟩, sE_bindD (q := qX X W) e z fun r1 Γ1 v1 H1 w1 s1 e1 d1 z1 => ?_⟩
  split at z1
  · rename_i xs hg
    split at z1
    · rename_i hln
      obtain ⟨aa, vs, hσ, g1, g2, g3, g4, g5⟩ := slot_ml e1 hg
      rw [hv] at hσ
      cases hσ
      have hl2 : (vs ++ [v1]).length ≤ sizeLine := by
        have := lineOk_le hln
        rw [List.length_append, ← g4.length]; exact this
      obtain ⟨st, er⟩ := g5 _ _ hl2 (g4.snoc d1)
      exact ⟨a0, vs, v1, rfl, rfl, g1, by rw [List.length_append] at hl2; exact hl2, z1 σ _ w1 st er rfl⟩
    · exact z1.elim
  · exact z1.elim
def rExtT (K : PySem.W.Frag) : V → List V → Hp → VK → Prop := fun x vs H Q => ∃ l b xs zs, x = .ref l ∧ vs = [.ref b] ∧ H l = some (.lst xs) ∧ SqT K H b zs ∧ xs.length + zs.length ≤ sizeLine ∧ Q .non (upd H l (.lst (xs ++ zs)))
theorem mt_ext2 : MtM X "list.extend" (fun x vs H Q => rExtend x vs H Q ∨ rExtT X.K x vs H Q) := by
  intro pins s σ H x vs v us Q I rx rv h
  rcases h with h | h
  · exact mt_extend pins s σ H x vs v us Q I rx rv h
  obtain ⟨l, b, xs, zs, rfl, rfl, hH, hB, hz, q⟩ := h
  cases rx
  obtain ⟨u, rfl, ru⟩ := rv.one
  cases ru
  obtain ⟨z, its, n, r, hl, e⟩ := I.lstM hH
  obtain ⟨its2, r2, ⟨o, ho, hcl, n2, hd⟩, hz2⟩ := I.tuple hB
  have hl2 := r2.length
  have e2 : s.heap.get? b = some { cls := .type "tuple", dict := o.dict, data := .seq its2.toArray n2, slots := o.slots } := by
    rw [ho]
    cases o
    dsimp only at hcl hd
    rw [hcl, hd]
  have hsz : its.toArray.size + its2.toArray.size ≤ sizeLine := by rw [List.size_toArray, List.size_toArray]; omega
  have hlong : ¬ (!its.toArray.isEmpty && Builtin.List.listTooLong (its.toArray.size + its2.toArray.size)) = true := by
    rw [notLongL hsz, Bool.and_false]
    exact Bool.false_ne_true
  refine call_meets F.slot_list_extend ⟨_, e, rfl⟩ F.entry_list_extend (F.args_list_extend_2 _ _)
    (HT.ext_tupG l its.toArray n b its2.toArray n2 o.dict o.slots hlong (by rw [List.size_toArray]; omega) (by omega)) ⟨e, e2, ?_⟩
  refine ⟨.non, _, I.lset (its' := its ++ its2) hH e (by simp) (r.append r2) ?_, rfl, q⟩
  rw [List.length_append]
  omega
theorem st_ext {i : Nat} {o : Expr} {ap cp : Pos} (C : XS X ct W k) (ho : PE X o (tVar i)) (ha : PE X x (tE (qX X W) a)) (hb : attB o = true) (hl : (ap.endLine == cp.line) = true) (hp : plainE x = true) : PS X (.Expr (.Call (.Attribute o "extend" ap) [x] [] cp) p) (tS (qX X W) (.ext i a)) := by
  refine (ps_expr (pe_bm1 PySem.F.plainAttrs_list PySem.F.slot_list_extend PySem.F.type_list_extend mt_ext2 ho (pa_cons ha pa_nil (star_plain hp)) hb hl hp) (sw_false rfl)).imp fun D σ H ⟨w, Γ, e, z⟩ => ?_
  obtain ⟨⟨a0, vs0, hv, h0⟩, z⟩ := needLS (q := qX X W) e z
  refine ⟨_, hv, .inl ⟨rfl, _, SqL.of h0⟩, sE_bindD (q := qX X W) e z fun r1 Γ1 v1 H1 w1 s1 e1 d1 z1 => ?_⟩
  split at z1
  · rename_i xs ys hg hy
    split at z1
    · rename_i hln
      obtain ⟨aa, vs, hσ, g1, g2, g3, g4, g5⟩ := slot_ml e1 hg
      rw [hv] at hσ
      cases hσ
      rw [hy] at d1
      cases d1 with
      | lst h1 n1 l1 rs =>
        rename_i b us
        have hl2 : (vs ++ us).length ≤ sizeLine := by
          have := lineOk_le hln
          rw [List.length_append, ← g4.length, ← rs.length]; exact this
        obtain ⟨st, er⟩ := g5 _ _ hl2 (g4.append rs)
        exact .inl ⟨a0, b, vs, us, rfl, rfl, g1, h1, by rw [List.length_append] at hl2; exact hl2, z1 σ _ w1 st er rfl⟩
    · exact z1.elim
  · rename_i xs ys hg hy
    split at z1
    · rename_i hln
      obtain ⟨aa, vs, hσ, g1, g2, g3, g4, g5⟩ := slot_ml e1 hg
      rw [hv] at hσ
      cases hσ
      rw [hy] at d1
      cases d1 with
      | tup h1 n1 l1 rs =>
        rename_i b us
        have hl2 : (vs ++ us).length ≤ sizeLine := by
          have := lineOk_le hln
          rw [List.length_append, ← g4.length, ← rs.length]; exact this
        obtain ⟨st, er⟩ := g5 _ _ hl2 (g4.append rs)
        exact .inr ⟨a0, b, vs, us, rfl, rfl, g1, h1.sq, by rw [List.length_append] at hl2; exact hl2, z1 σ _ w1 st er rfl⟩
    · exact z1.elim
  · exact z1.elim
theorem st_exp (ha : PE X x (tE (qX X W) a)) (hc : compB x = false) : PS X (.Expr x p) (tS (qX X W) (.exp a)) :=
  (ps_expr ha (sw_false hc)).imp fun D σ H ⟨w, Γ, e, z⟩ => sE_bindD (q := qX X W) e z fun r1 Γ1 v1 H1 w1 s1 e1 d1 z1 => z1 σ H1 w1 Step.refl e1 rfl
theorem st_ret (ha : PE X x (tE (qX X W) a)) : PS X (.Return (some x) p) (tS (qX X W) (.ret a)) :=
  (ps_ret ha).imp fun D σ H ⟨w, Γ, e, z⟩ => sE_bind (q := qX X W) e z fun r1 Γ1 v1 H1 w1 po z1 => z1 v1 σ H1 w1 po rfl
theorem st_retN : PS X (.Return none p) (tS (qX X W) (.ret (.con .none))) :=
  ps_retN.imp fun D σ H ⟨w, Γ, e, z⟩ => z .non σ H w (po_im e .non) rfl
theorem st_if {ca cb : Sm} {sa sb : List Stmt} (hc : PT X x (tT (qX X W) fun Γ => asB (evE c Γ))) (ha : PSs X sa (tS (qX X W) ca)) (hb : PSs X sb (tS (qX X W) cb)) : PS X (.If x sa sb p) (tS (qX X W) (.ifs c ca cb)) :=
  (ps_if hc ha hb).imp fun D σ H ⟨w, Γ, e, z⟩ => sT_bind (q := qX X W) (g := fun Γ => asB (evE c Γ)) e z fun t Γ1 H1 w1 s1 e1 z1 => by
    cases t with
    | true => exact iteT ⟨w1, Γ1, e1, z1⟩
    | false => exact iteF ⟨w1, Γ1, e1, z1⟩
def bodyF (p : Pt) (b : Sm) : D → Sl → Rs Fl := fun d Γ => match setPt p d Γ with
  | some Γ' => exS b Γ'
  | none => .no
theorem st_for {pt : Pt} {it : Gv.It} {cb : Sm} {sb : List Stmt} (C : XS X ct W k) (hi : PI X tg x (tI (qX X W) (isTupE tg) it)) (hg : PG X tg (tGw (qX X W) (isTupE tg) (setPt pt) (ptSlots pt))) (hs : ∀ z, foldedSetIterable x X.env z = pure z) (hb : PSs X sb (tS (qX X W) cb)) (h0 : ∀ i ∈ ptSlots pt, i ≠ 0) :
    PS X (.For tg x sb [] p) (tS (qX X W) (.for pt it cb)) :=
  (ps_for C.hp C.c.calm hi hg hb hs).imp fun D σ H ⟨w, Γ, e, z⟩ => by
    have z : rdS (qX X W) w H σ ((evI it Γ).bind fun ds Γ => loopF (bodyF pt cb) ds Γ) D := z
    refine ⟨w, Γ, e, z.bind.imp fun ds Γ1 z1 J H1 w1 s1 e1 wd => ?_⟩
    obtain ⟨hlen, G, Y, wk, hG, hY⟩ := wd
    have z1 := rdS.step z1 e.wf s1 (σ' := σ) rfl
    refine for_it wk (fun i σc Hc => ∃ wc Γc, Step H1 w1 Hc wc ∧ ER X.K wc Γc σc Hc ∧ rdS (qX X W) wc Hc σc (loopF (bodyF pt cb) (ds.drop i) Γc) D) ⟨w1, Γ1, Step.refl, e1, z1⟩ (fun i σc Hc hi ⟨wc, Γc, sc, _⟩ => hG Hc wc sc.k0) ?_ ?_
    · rintro i v σc Hc H2 hi ⟨wc, Γc, sc, ec, zc⟩ hy
      obtain ⟨d, hd, ex2, wf2, rd⟩ := hY i Hc wc v H2 hi sc.k0 ec.wf hy
      have hdrop : ds.drop i = d :: ds.drop (i + 1) := by
        obtain ⟨hlt, hge⟩ := List.getElem?_eq_some_iff.mp hd
        rw [List.drop_eq_getElem_cons hlt, hge]
      rw [hdrop] at zc
      unfold loopF at zc
      cases hset : setPt pt d Γc with
      | none =>
        have : bodyF pt cb d Γc = .no := by unfold bodyF; rw [hset]
        rw [this] at zc; exact zc.elim
      | some Γp =>
        have hbd : bodyF pt cb d Γc = exS cb Γp := by unfold bodyF; rw [hset]
        rw [hbd] at zc
        refine ⟨wc, Γc, d, Γp, ec.ext ex2 wf2, rd, hset, fun σ2 e2 so => ⟨wc, Γp, e2, ?_⟩⟩
        have q0 := so.zero h0
        have nx : ∀ {Γn : Sl}, rdS (qX X W) wc Hc σc (loopF (bodyF pt cb) (ds.drop (i + 1)) Γn) D → ∀ σ' H' w', Step H2 wc H' w' → ER X.K w' Γn σ' H' → σ'[0]? = σ2[0]? → ∃ wc Γc, Step H1 w1 H' wc ∧ ER X.K wc Γc σ' H' ∧ rdS (qX X W) wc H' σ' (loopF (bodyF pt cb) (ds.drop (i + 1)) Γc) D :=
          fun {Γn} zz σ' H' w' s' e' q => ⟨w', Γn, (sc.trans ex2.step).trans s', e', rdS.step zz ec.wf (ex2.step.trans s') (q.trans q0)⟩
        cases hx : exS cb Γp with
        | no => rw [hx] at zc; exact zc.elim
        | ex xn Γn => rw [hx] at zc; exact fun cls dd σ' H' w' s' e' q xr => zc cls dd σ' H' w' (ex2.step.trans s') e' (q.trans q0) xr
        | ok fl Γn =>
          rw [hx] at zc
          cases fl with
          | nx => exact nx zc
          | ct => exact nx zc
          | bk => exact fun σ' H' w' s' e' q => zc σ' H' w' (ex2.step.trans s') e' (q.trans q0)
          | rt m => exact fun vv σ' H' w' po q => zc vv σ' H' w' (po.trans ex2.step ec.wf) (q.trans q0)
    · rintro σn Hn ⟨wc, Γc, sc, ec, zc⟩
      rw [List.drop_length] at zc
      exact zc σn Hn wc Step.refl ec rfl
theorem st_whl {n : Nat} {cb : Sm} {sb : List Stmt} (C : XS X ct W k) (hc : PT X x (tT (qX X W) fun Γ => asB (evE c Γ))) (hb : PSs X sb (tS (qX X W) cb)) : PS X (.While x sb [] p) (tS (qX X W) (.whl n c cb)) :=
  (ps_while C.hp hc hb).imp fun D σ H ⟨w, Γ, e, z⟩ => by
    have z : rdS (qX X W) w H σ (loopW (fun Γ => asB (evE c Γ)) (fun Γ => exS cb Γ) n Γ) D := z
    refine ⟨fun m σc Hc => ∃ wc Γc, ER X.K wc Γc σc Hc ∧ rdS (qX X W) wc Hc σc (loopW (fun Γ => asB (evE c Γ)) (fun Γ => exS cb Γ) m Γc) D, ⟨n, w, Γ, e, z⟩, ?_⟩
    rintro m σc Hc ⟨wc, Γc, ec, zc⟩
    cases m with
    | zero => exact zc.elim
    | succ m =>
      unfold loopW at zc
      refine sT_bind (q := qX X W) (g := fun Γ => asB (evE c Γ)) ec zc fun t Γ1 H1 w1 s1 e1 z1 => ?_
      cases t with
      | false => exact iteF (z1 σc H1 w1 Step.refl e1 rfl)
      | true =>
        refine iteT ⟨fun σ' H' => ∃ wc Γc, ER X.K wc Γc σ' H' ∧ rdS (qX X W) wc H' σ' (loopW (fun Γ => asB (evE c Γ)) (fun Γ => exS cb Γ) m Γc) D, fun σ' H' h => ⟨m, Nat.lt_succ_self m, h⟩, w1, Γ1, e1, ?_⟩
        simp only [if_true] at z1
        cases hx : exS cb Γ1 with
        | no => rw [hx] at z1; exact z1.elim
        | ex xn Γn => rw [hx] at z1; exact z1
        | ok fl Γn =>
          rw [hx] at z1
          cases fl with
          | nx => exact fun σ' H' w' s' e' q => ⟨w', Γn, e', rdS.step z1 e1.wf s' q⟩
          | ct => exact fun σ' H' w' s' e' q => ⟨w', Γn, e', rdS.step z1 e1.wf s' q⟩
          | bk => exact z1
          | rt m => exact z1
theorem st_rais {cn : Str} {p1 p2 : Pos} (C : XS X ct W k) (hr : RaiOk X cn) (hg : Gl X cn) : PS X (.Raise (some (.Call (.Name cn p1) [] [] p2)) none p) (tS (qX X W) (.rais cn)) := by
  obtain ⟨cls, h1, h2⟩ := hr
  exact (L2.ps_raise C.c.calm C.c.tk (h2 X.pn X.xe p1 p2 hg)).imp fun D σ H ⟨w, Γ, e, z⟩ => z cls none σ H w Step.refl e rfl ⟨h1, rfl, rfl⟩
end
/-! ## All statements -/
/-- a clause over the class c catches an exception of the class y: where it is the same, or the one over all -/
def HanOk (X : Cx) (y c : Str) : Prop := ∃ yc cc, X.mg y = some yc ∧ X.mg c = some cc ∧ PySem.W.exmOne X.K yc cc = some (decide (c = y) || c == ("WriteError" : Str))
def raiX (X : Cx) : Rq → Prop := fun q => match q with
  | .cls c => RaiOk X c
  | .han y c => HanOk X y c
section
variable {X : Cx} {ct : Ct} {W : WX} {k : Nat}
theorem st_mat {x : Expr} {a : Ex} {cs : Sm} {ms : List MatchCase} {p : Pos} (C : XS X ct W k) (ha : PE X x (tE (qX X W) a)) (hc : ∃ l, MCs X ms l ∧ ∀ (E : Ends) (σ : St) (H : Hp) (w : Wn) (Γ : Sl) (v : V) (d : D), ER X.K w Γ σ H → RD X.K w H d v → rdS (qX X W) w H σ (exM d cs Γ) E → tMCs (rCmp X.K .Eq) v l E σ H) : PS X (.Match x ms p) (tS (qX X W) (.mat a cs)) := by
  obtain ⟨l, hl, hr⟩ := hc
  exact (ps_mat (op_cmp .Eq C.c.hu65) ha hl).imp fun D σ H ⟨w, Γ, e, z⟩ => sE_bindD (q := qX X W) e z fun r Γ1 v H1 w1 s1 e1 r1 z1 => hr D σ H1 w1 Γ1 v (frz r) e1 r1 z1
theorem han_all {ct : Ct} (C : XS X ct W k) {ys : List Str} : ∀ {hs : List (Str × Str)} {hds : List ExceptHandler}, mHs ct hs hds = true → (∀ y ∈ ys, ∀ p ∈ hs, HanOk X y p.1) → (∀ p ∈ hs, ∃ cc, X.mg p.1 = some cc) → ∃ l : List (Value × (Addr → Value → Option Addr → TS)), HdsOk X hds l ∧
    ∀ (D : Ends) (Wout : WX) (cls : Value) (d : Option Addr) (σ : St) (H : Hp) (xn : Exn) (z : Str), hanR xn ys hs = some z → X.mg xn.cls = some cls → D.rt (.str z) H → wMany X.K Wout D l cls d σ H
  | [], [], _, _, _ => ⟨[], .nil, fun D Wout cls d σ H xn z hz _ _ => by
    unfold hanR at hz
    split at hz <;> cases hz⟩
  | [], _ :: _, h, _, _ => by simp only [mHs] at h; cases h
  | _ :: _, [], h, _, _ => by simp only [mHs] at h; cases h
  | q :: r, hd :: hds, h, hh, hm => by
    simp only [mHs, Bool.and_eq_true] at h
    obtain ⟨h1, h2⟩ := h
    obtain ⟨l, hl, hw⟩ := han_all C (ys := ys) h2 (fun y hy p hp => hh y hy p (List.mem_cons_of_mem _ hp)) fun p hp => hm p (List.mem_cons_of_mem _ hp)
    split at h1
    case h_2 => cases h1
    rename_i c zz hv
    simp only [Bool.and_eq_true, beq_iff_eq] at h1
    obtain ⟨⟨⟨rfl, rfl⟩, g1⟩, g2⟩ := h1
    obtain ⟨p1, kk, p2, p3, p, rfl⟩ := vHan_eq hv
    obtain ⟨cc, hcc⟩ := hm q List.mem_cons_self
    refine ⟨(cc, fun _ _ _ => fun D σ H => D.rt (.str q.2) H) :: l, .cons ⟨C.c.gl g1, okN g2, .inl hcc⟩ (fun a oe cls d pn _ _ => ?_) hl, fun D Wout cls d σ H xn z hz hx hq => ?_⟩
    · exact (pss_one (ps_ret (pe_str (X := X.suite a ((a, oe) :: pn))))).imp fun D σ H z => z
    · unfold hanR at hz
      split at hz
      case isFalse => cases hz
      rename_i hy
      obtain ⟨yc, cc', e1, e2, e3⟩ := hh xn.cls hy q List.mem_cons_self
      rw [hx] at e1
      cases e1
      rw [hcc] at e2
      cases e2
      rw [List.find?_cons] at hz
      refine ⟨_, e3, fun hb a _ => ?_, fun hb => ?_⟩
      · rw [hb] at hz
        simp only [Option.map_some] at hz
        cases hz
        exact hq
      · rw [hb] at hz
        exact hw D Wout cls d σ H xn z (by unfold hanR; rw [if_pos hy]; exact hz) hx hq
theorem st_tryR {b : Sm} {ys : List Str} {hs : List (Str × Str)} {ss : List Stmt} {h0 : ExceptHandler} {hds : List ExceptHandler} {p : Pos} (C : XS X ct W k) (hstk : X.stack = X.env :: X.outer) (hfr : X.env.frame = some X.env.locals) (hm : mHs ct hs (h0 :: hds) = true) (hh : ∀ y ∈ ys, ∀ p ∈ hs, HanOk X y p.1) (hy : ys ≠ [])
    (hb : ∀ (W' : WX) (pn : List (Addr × Obj)) (xe : Value → Shared → Prop), Takes (X.tr pn xe) W' → PassesOwn (model X.prog X.w) X.A X.env xe → PSs (X.tr pn xe) ss (tS (qX (X.tr pn xe) W') b)) : PS X (.Try ss (h0 :: hds) [] [] p) (tS (qX X W) (.tryR b ys hs)) := by
  obtain ⟨y0, hy0⟩ := List.exists_mem_of_ne_nil ys hy
  obtain ⟨l, hl, hw⟩ := han_all C (ys := ys) hm hh fun p hp => by
    obtain ⟨_, cc, _, e2, _⟩ := hh y0 hy0 p hp
    exact ⟨cc, e2⟩
  refine (ps_try_many hstk hfr C.c.tk (tb := fun W' => tS (qX X W') b) (fun W' pn xe tk ps => hb W' pn xe tk ps) hl).imp fun D σ H ⟨w, Γ, e, z⟩ => ?_
  refine ⟨w, Γ, e, ?_⟩
  have z : rdS (qX X W) w H σ (match exS b Γ with | .ok f Γ' => .ok f Γ' | .ex x Γ' => (match hanR x ys hs with | some z => .ok (.rt (.im (.str z))) Γ' | none => .no) | .no => .no) D := z
  cases hx : exS b Γ with
  | no => rw [hx] at z; exact z.elim
  | ok f Γ' =>
    rw [hx] at z
    cases f <;> exact z
  | ex xn Γ' =>
    rw [hx] at z
    dsimp only at z
    cases hr : hanR xn ys hs with
    | none => rw [hr] at z; exact z.elim
    | some zz =>
      rw [hr] at z
      intro cls d σ' H' w' st er q0 xr
      refine hw D W cls d σ' H' xn zz hr xr.1 ?_
      exact z (.str zz) σ' H' w' ⟨st, er, .str zz, fun _ o => o.elim⟩ q0
end
theorem XS.tr {X : Cx} {ct : Ct} {W W' : WX} {k : Nat} (C : XS X ct W k) (pn : List (Addr × Obj)) (xe : Value → Shared → Prop) (tk : Takes (X.tr pn xe) W') (hp : PassesOwn (model X.prog X.w) X.A X.env xe) : XS (X.tr pn xe) ct W' k where
  c := {
    hN := C.c.hN
    hs := C.c.hs
    hf := C.c.hf
    nd := C.c.nd
    calm := C.c.calm
    tk := tk
    rm := C.c.rm
    gd := C.c.gd
    bi := C.c.bi }
  hp := hp
  stk := C.stk
  frm := C.frm
theorem XS.nox {X : Cx} {ct : Ct} {W : WX} {k : Nat} (C : XS X ct W k) : XS X.nox ct W0 k where
  c := {
    hN := C.c.hN
    hs := C.c.hs
    hf := C.c.hf
    nd := C.c.nd
    calm := C.c.calm
    tk := fun _ _ x => by
      obtain ⟨_, _, _, _, _, _, _, _, _, _, _, _, _, _, _, _, z⟩ := x
      exact z.elim
    rm := C.c.rm
    gd := C.c.gd
    bi := C.c.bi }
  hp := PassesOwn.never
  stk := C.stk
  frm := C.frm
theorem try_imp {X : Cx} {W : WX} {b : Sm} : ∀ D σ H, tS (qX X W) (.tryN b) D σ H → tS (qX X.nox W0) b D σ H := fun D σ H ⟨w, Γ, e, z⟩ => by
  refine ⟨w, Γ, e, ?_⟩
  have z : rdS (qX X W) w H σ (match exS b Γ with | .ok f Γ' => .ok f Γ' | _ => .no) D := z
  cases q : exS b Γ with
  | ok f Γ' =>
    rw [q] at z
    cases f <;> exact z
  | ex x Γ' => rw [q] at z; exact z.elim
  | no => rw [q] at z; exact z.elim
mutual
theorem sS : ∀ (c : Sm) {X : Cx} {ct : Ct} {W : WX} {k : Nat} {s : Stmt}, XS X ct W k → aS (calX X k) (gloX X) (raiX X) c → mS ct c s = true → PS X s (tS (qX X W) c)
  | .nev, X, ct, W, k, s, C, ha, h => ⟨fun pins s σ H D I ⟨w, Γ, e, z⟩ => z.elim⟩
  | .nil, X, ct, W, k, s, C, ha, h => by simp only [mS] at h; cases h
  | .seq a b, X, ct, W, k, s, C, ha, h => by simp only [mS] at h; cases h
  | .mcs .., X, ct, W, k, s, C, ha, h => by simp only [mS] at h; cases h
  | .mat e cs, X, ct, W, k, s, C, ha, h => by
    simp only [mS] at h
    split at h
    · rename_i x ms hv
      obtain ⟨p, rfl⟩ := vMat_eq hv
      simp only [Bool.and_eq_true] at h
      exact st_mat C (sE e C.c ha.1 h.1).1 (sMs cs C ha.2 h.2)
    · cases h
  | .tryR b ys hs, X, ct, W, k, s, C, ha, h => by
    simp only [mS] at h
    split at h
    · rename_i ss hds hv
      obtain ⟨h0, hds', p, e, hq⟩ := vTryH_eq hv
      dsimp only at e hq
      subst e hq
      simp only [Bool.and_eq_true, Bool.not_eq_true'] at h
      obtain ⟨⟨h1, h2⟩, h3⟩ := h
      refine st_tryR C C.stk C.frm h2 (hanA_of ha.2) (fun z => by rw [z] at h3; cases h3) fun W' pn xe tk hp => ?_
      have ha' : aS (calX (X.tr pn xe) k) (gloX (X.tr pn xe)) (raiX (X.tr pn xe)) b := ha.1
      exact sSs b (C.tr pn xe tk hp) ha' h1
    · cases h
  | .tryN b, X, ct, W, k, s, C, ha, h => by
    simp only [mS] at h
    split at h
    · rename_i ss hv
      obtain ⟨h0, hs, p, hv⟩ := vTry_eq hv
      subst hv
      have ha' : aS (calX X.nox k) (gloX X.nox) (raiX X.nox) b := aS_rai b ha
      exact (ps_try_thru0 (sSs b C.nox ha' h)).imp try_imp
    · cases h
  | .asg i e, X, ct, W, k, s, C, ha, h => by
    simp only [mS] at h
    split at h
    · rename_i t v pos hv
      have hv := vAsg_eq hv
      dsimp only at hv
      subst hv
      split at h
      · rename_i x px
        simp only [Bool.and_eq_true] at h
        obtain ⟨⟨h1, h2⟩, h3⟩ := h
        split at h3
        · rename_i elt gs scope cp
          rw [Bool.or_eq_true, Bool.and_eq_true, Bool.and_eq_true] at h3
          rcases h3 with h3 | h3
          · have h4 := h3.2
            cases e with
            | lc ow pt it cs el => exact st_asgLc C h1 ha h2 h3.1
            | lcm ow pt it el => exact st_asgLm C h1 ha h2 h3.1
            | lcr ow j i2 el => exact st_asgLr C h1 ha h2 h3.1
            | _ => cases h4
          · exact st_asgC C h1 (sE e C.c ha h2).1 h3.1
        · rw [Bool.not_eq_true'] at h3
          exact st_asg C h1 (sE e C.c ha h2).1 h3
      · cases h
    · cases h
  | .asgP ps e, X, ct, W, k, s, C, ha, h => by
    simp only [mS] at h
    split at h
    · rename_i t v pos hv
      have hv := vAsg_eq hv
      dsimp only at hv
      subst hv
      simp only [Bool.and_eq_true, Bool.not_eq_true', List.all_eq_true, decide_eq_true_eq] at h
      obtain ⟨⟨⟨⟨h1, h2⟩, h3⟩, h4⟩, h5⟩ := h
      exact st_asgP C h1 (sE e C.c ha h2).1 h3 h4 h5
    · cases h
  | .asgL ps e, X, ct, W, k, s, C, ha, h => by
    simp only [mS] at h
    split at h
    · rename_i t v pos hv
      have hv := vAsg_eq hv
      dsimp only at hv
      subst hv
      simp only [Bool.and_eq_true, Bool.not_eq_true', List.all_eq_true, decide_eq_true_eq] at h
      obtain ⟨⟨⟨⟨h1, h2⟩, h3⟩, h4⟩, h5⟩ := h
      exact st_asgL C h1 (sE e C.c ha h2).1 h3 h4 h5
    · cases h
  | .par i j a b, X, ct, W, k, s, C, ha, h => by
    simp only [mS] at h
    split at h
    · rename_i x px y py ea eb hv
      simp only [Bool.and_eq_true, decide_eq_true_eq] at h
      obtain ⟨⟨⟨⟨⟨⟨⟨h1, h2⟩, h3⟩, h4⟩, h5⟩, h6⟩, h7⟩, h8⟩ := h
      obtain ⟨k1, p1, k2, p2, p, rfl⟩ := vPar_eq hv
      exact st_par C h1 h2 h3 h4 (sE a C.c ha.1 h5).1 h6 (sE b C.c ha.2 h7).1 h8
    · cases h
  | .setI i b e, X, ct, W, k, s, C, ha, h => by
    simp only [mS] at h
    split at h
    · rename_i t v pos hv
      have hv := vAsg_eq hv
      dsimp only at hv
      subst hv
      split at h
      · rename_i o ix hs
        obtain ⟨sp, hs⟩ := vSub_eq hs
        dsimp only at hs
        subst hs
        simp only [Bool.and_eq_true, Bool.not_eq_true'] at h
        obtain ⟨⟨⟨⟨h1, h2⟩, h3⟩, h4⟩, h5⟩ := h
        exact st_setI C (slot_name C.c h1).1 (sE b C.c ha.1 h2).1 h3 (sE e C.c ha.2 h4).1 h5
      · cases h
    · cases h
  | .ali .., X, ct, W, k, s, C, ha, h => by simp only [mS] at h; cases h
  | .setII i b l e, X, ct, W, k, s, C, ha, h => by
    simp only [mS] at h
    split at h
    · rename_i t v pos hv
      have hv := vAsg_eq hv
      dsimp only at hv
      subst hv
      split at h
      · rename_i o ix hs
        obtain ⟨sp, hs⟩ := vSub_eq hs
        dsimp only at hs
        subst hs
        simp only [Bool.and_eq_true, Bool.not_eq_true'] at h
        obtain ⟨⟨⟨⟨h1, h2⟩, hpl⟩, h3⟩, h4⟩ := h
        split at h1
        · rename_i o2 ix2 hs2
          obtain ⟨sp2, hs2⟩ := vSub_eq hs2
          dsimp only at hs2
          subst hs2
          simp only [Bool.and_eq_true] at h1
          obtain ⟨⟨g1, g2⟩, g3⟩ := h1
          exact st_setII C (slot_name C.c g1).1 (sE b C.c ha.1 g2).1 g3 (sE l C.c ha.2.1 h2).1 hpl (sE e C.c ha.2.2 h3).1 h4
        · cases h1
      · cases h
    · cases h
  | .app i e, X, ct, W, k, s, C, ha, h => by
    simp only [mS] at h
    split at h
    · rename_i x hv
      obtain ⟨p, rfl⟩ := vExpr_eq hv
      split at h
      · rename_i o g y hm
        simp only [Bool.and_eq_true, beq_iff_eq] at h
        obtain ⟨⟨⟨⟨rfl, h1⟩, h2⟩, h3⟩, h4⟩ := h
        obtain ⟨ap, cp, hx, hl⟩ := vMeth_eq hm
        dsimp only at hx
        subst hx
        exact st_app C (slot_name C.c h1).1 (sE e C.c ha h3).1 h2 hl h4
      · cases h
    · cases h
  | .ext i e, X, ct, W, k, s, C, ha, h => by
    simp only [mS] at h
    split at h
    · rename_i x hv
      obtain ⟨p, rfl⟩ := vExpr_eq hv
      split at h
      · rename_i o g y hm
        simp only [Bool.and_eq_true, beq_iff_eq] at h
        obtain ⟨⟨⟨⟨rfl, h1⟩, h2⟩, h3⟩, h4⟩ := h
        obtain ⟨ap, cp, hx, hl⟩ := vMeth_eq hm
        dsimp only at hx
        subst hx
        exact st_ext C (slot_name C.c h1).1 (sE e C.c ha h3).1 h2 hl h4
      · cases h
    · cases h
  | .exp e, X, ct, W, k, s, C, ha, h => by
    simp only [mS] at h
    split at h
    · rename_i x hv
      obtain ⟨p, rfl⟩ := vExpr_eq hv
      simp only [Bool.and_eq_true, Bool.not_eq_true'] at h
      exact st_exp (sE e C.c ha h.1).1 h.2
    · cases h
  | .ret e, X, ct, W, k, s, C, ha, h => by
    simp only [mS] at h
    split at h
    · rename_i x hv
      obtain ⟨p, rfl⟩ := vRet_eq hv
      exact st_ret (sE e C.c ha h).1
    · rename_i hv
      obtain ⟨p, rfl⟩ := vRet_eq hv
      split at h
      · exact st_retN
      · cases h
    · cases h
  | .ifs c a b, X, ct, W, k, s, C, ha, h => by
    simp only [mS] at h
    split at h
    · rename_i x p q hv
      obtain ⟨pos, rfl⟩ := vIfS_eq hv
      simp only [Bool.and_eq_true] at h
      exact st_if (sE c C.c ha.1 h.1.1).2 (sSs a C ha.2.1 h.1.2) (sSs b C ha.2.2 h.2)
    · cases h
  | .for pt it b, X, ct, W, k, s, C, ha, h => by
    simp only [mS] at h
    split at h
    · rename_i t x bd hv
      obtain ⟨pos, rfl⟩ := vFor_eq hv
      simp only [Bool.and_eq_true, List.all_eq_true, decide_eq_true_eq] at h
      obtain ⟨⟨⟨⟨h1, h2⟩, h3⟩, h4⟩, h5⟩ := h
      exact st_for C (sI it C.c ha.1 h2) (g_ptw (q := qX X W) C.c rfl pt h1) (nset_fold h3) (sSs b C ha.2 h4) h5
    · cases h
  | .whl n c b, X, ct, W, k, s, C, ha, h => by
    simp only [mS] at h
    split at h
    · rename_i x bd hv
      obtain ⟨pos, rfl⟩ := vWhl_eq hv
      simp only [Bool.and_eq_true] at h
      exact st_whl C (sE c C.c ha.1 h.1).2 (sSs b C ha.2 h.2)
    · cases h
  | .brk, X, ct, W, k, s, C, ha, h => by
    simp only [mS] at h
    cases s <;> first | exact ps_break.imp fun D σ H ⟨w, Γ, e, z⟩ => z σ H w Step.refl e rfl | cases h
  | .cnt, X, ct, W, k, s, C, ha, h => by
    simp only [mS] at h
    cases s <;> first | exact ps_continue.imp fun D σ H ⟨w, Γ, e, z⟩ => z σ H w Step.refl e rfl | cases h
  | .pass, X, ct, W, k, s, C, ha, h => by
    simp only [mS] at h
    cases s <;> first | exact ps_pass.imp fun D σ H ⟨w, Γ, e, z⟩ => z σ H w Step.refl e rfl | cases h
  | .rais cn, X, ct, W, k, s, C, ha, h => by
    simp only [mS] at h
    split at h
    · rename_i x hv
      simp only [Bool.and_eq_true, beq_iff_eq] at h
      obtain ⟨rfl, h1⟩ := h
      obtain ⟨p1, p2, p, rfl⟩ := vRai_eq hv
      exact st_rais C ha (C.c.gl h1)
    · cases h
  | .dput i b a, X, ct, W, k, s, C, ha, h => by
    simp only [mS] at h
    split at h
    · rename_i t v pos hv
      split at h
      · rename_i o ix ht
        simp only [Bool.and_eq_true, Bool.not_eq_true'] at h
        obtain ⟨⟨⟨⟨h1, h2⟩, h3⟩, h4⟩, h5⟩ := h
        have hs := vAsg_eq hv
        obtain ⟨sp, rfl⟩ := vSub_eq ht
        dsimp only at hs
        subst hs
        exact st_dput C (slot_name C.c h1).1 (sE b C.c ha.1 h2).1 h3 (sE a C.c ha.2 h4).1 h5
      · cases h
    · cases h
  | .sda i b a, X, ct, W, k, s, C, ha, h => by
    simp only [mS] at h
    split at h
    · rename_i x hv
      split at h
      · rename_i o2 g y hm
        split at h
        · rename_i o g2 kx lx hm2
          simp only [Bool.and_eq_true, beq_iff_eq] at h
          obtain ⟨⟨⟨⟨⟨⟨⟨⟨rfl, rfl⟩, h1⟩, h2⟩, h3⟩, h4⟩, h5⟩, h6⟩, h7⟩ := h
          obtain ⟨pos, rfl⟩ := vExpr_eq hv
          obtain ⟨ap, cp, hx, hl⟩ := vMeth_eq hm
          obtain ⟨ap2, cp2, hx2, hl2⟩ := vMeth_eq hm2
          dsimp only at hx hx2
          subst hx hx2
          split at h5
          · rename_i es hes
            obtain ⟨lp, hlx⟩ := vLst_eq hes
            have he : es = [] := List.isEmpty_iff.mp h5
            subst hlx he
            exact st_sda C (slot_name C.c h1).1 (sE b C.c ha.1 h3).1 h4 (sE a C.c ha.2 h6).1 h7 h2 hl2 hl
          · cases h5
        · cases h
      · cases h
    · cases h
  | .appI i b a, X, ct, W, k, s, C, ha, h => by
    simp only [mS] at h
    split at h
    · rename_i x hv
      split at h
      · rename_i o2 g y hm
        split at h
        · rename_i o ix hm2
          simp only [Bool.and_eq_true, beq_iff_eq] at h
          obtain ⟨⟨⟨⟨⟨rfl, h1⟩, h2⟩, h3⟩, h4⟩, h5⟩ := h
          obtain ⟨pos, rfl⟩ := vExpr_eq hv
          obtain ⟨ap, cp, hx, hl⟩ := vMeth_eq hm
          obtain ⟨sp, hx2⟩ := vSub_eq hm2
          dsimp only at hx hx2
          subst hx hx2
          exact st_appI C (slot_name C.c h1).1 (sE b C.c ha.1 h2).1 h3 (sE a C.c ha.2 h4).1 h5 hl
        · cases h
      · cases h
    · cases h
  | .parM i j a b, X, ct, W, k, s, C, ha, h => by
    simp only [mS] at h
    split at h
    · rename_i x px y py ea eb hv
      simp only [Bool.and_eq_true, decide_eq_true_eq] at h
      obtain ⟨⟨⟨⟨⟨⟨⟨h1, h2⟩, h3⟩, h4⟩, h5⟩, h6⟩, h7⟩, h8⟩ := h
      obtain ⟨k1, p1, k2, p2, pos, rfl⟩ := vPar_eq hv
      exact st_parM C h1 h2 h3 h4 (sE a C.c ha.1 h5).1 h6 (sE b C.c ha.2 h7).1 h8
    · cases h
  | .par3 i j l a b c, X, ct, W, k, s, C, ha, h => by
    simp only [mS] at h
    split at h
    · rename_i x px y py z pz ea eb ec hv
      simp only [Bool.and_eq_true, decide_eq_true_eq] at h
      obtain ⟨⟨⟨⟨⟨⟨⟨⟨⟨⟨⟨⟨h1, h2⟩, h3⟩, h4⟩, h5⟩, h6⟩, h7⟩, h8⟩, h9⟩, h10⟩, h11⟩, h12⟩, h13⟩ := h
      obtain ⟨k1, p1, k2, p2, pos, rfl⟩ := vPar3_eq hv
      exact st_par3 C h1 h2 h3 h4 h5 h6 h7 (sE a C.c ha.1 h8).1 h9 (sE b C.c ha.2.1 h10).1 h11 (sE c C.c ha.2.2 h12).1 h13
    · cases h
theorem sSs : ∀ (c : Sm) {X : Cx} {ct : Ct} {W : WX} {k : Nat} {ss : List Stmt}, XS X ct W k → aS (calX X k) (gloX X) (raiX X) c → mSs ct c ss = true → PSs X ss (tS (qX X W) c)
  | .nil, X, ct, W, k, ss, C, ha, h => by
    simp only [mSs, List.isEmpty_iff] at h
    subst h
    exact pss_nil.imp fun D σ H z => nil_imp σ H z
  | .seq a b, X, ct, W, k, s :: ss, C, ha, h => by
    simp only [mSs, Bool.and_eq_true] at h
    exact (pss_cons (sS a C ha.1 h.1) (sSs b C ha.2 h.2)).imp fun D σ H z => seq_imp σ H z
  | .seq a b, X, ct, W, k, [], C, ha, h => by simp only [mSs] at h; cases h
  | .nev, X, ct, W, k, ss, C, ha, h => ⟨fun pins s σ H D I ⟨w, Γ, e, z⟩ => z.elim⟩
  | .ali r i kk l e b, X, ct, W, k, s1 :: s2 :: ss, C, ha, h => by
    simp only [mSs, Bool.and_eq_true, Bool.not_eq_true', beq_eq_false_iff_ne] at h
    obtain ⟨⟨⟨h1, h2⟩, h3⟩, h4⟩ := h
    split at h1
    case h_2 => cases h1
    rename_i y py v pos hv
    have hv := vAsg_eq hv
    dsimp only at hv
    subst hv
    split at h1
    case h_2 => cases h1
    rename_i o ix hs
    obtain ⟨sp, hs⟩ := vSub_eq hs
    dsimp only at hs
    subst hs
    simp only [Bool.and_eq_true, Bool.not_eq_true'] at h1
    obtain ⟨⟨⟨⟨a1, a2⟩, a3⟩, a4⟩, a5⟩ := h1
    split at h2
    case h_2 => cases h2
    rename_i t v2 pos2 hv2
    have hv2 := vAsg_eq hv2
    dsimp only at hv2
    subst hv2
    split at h2
    case h_2 => cases h2
    rename_i o2 ix2 hs2
    obtain ⟨sp2, hs2⟩ := vSub_eq hs2
    dsimp only at hs2
    subst hs2
    simp only [Bool.and_eq_true, Bool.not_eq_true'] at h2
    obtain ⟨⟨⟨⟨b1, b2⟩, b3⟩, b4⟩, b5⟩ := h2
    exact st_ali C a1 (slot_name C.c a2).1 (sE kk C.c ha.1 a3).1 a4 a5 (slot_name C.c b1).1 (sE l C.c ha.2.1 b2).1 b3 (sE e C.c ha.2.2.1 b4).1 b5 h3 (sSs b C ha.2.2.2 h4)
  | .ali r i kk l e b, X, ct, W, k, [s1], C, ha, h => by simp only [mSs] at h; cases h
  | .ali r i kk l e b, X, ct, W, k, [], C, ha, h => by simp only [mSs] at h; cases h
  | .asg .., X, ct, W, k, ss, C, ha, h => by simp only [mSs] at h; cases h
  | .asgP .., X, ct, W, k, ss, C, ha, h => by simp only [mSs] at h; cases h
  | .par .., X, ct, W, k, ss, C, ha, h => by simp only [mSs] at h; cases h
  | .setI .., X, ct, W, k, ss, C, ha, h => by simp only [mSs] at h; cases h
  | .setII .., X, ct, W, k, ss, C, ha, h => by simp only [mSs] at h; cases h
  | .app .., X, ct, W, k, ss, C, ha, h => by simp only [mSs] at h; cases h
  | .ext .., X, ct, W, k, ss, C, ha, h => by simp only [mSs] at h; cases h
  | .exp .., X, ct, W, k, ss, C, ha, h => by simp only [mSs] at h; cases h
  | .ret .., X, ct, W, k, ss, C, ha, h => by simp only [mSs] at h; cases h
  | .ifs .., X, ct, W, k, ss, C, ha, h => by simp only [mSs] at h; cases h
  | .for .., X, ct, W, k, ss, C, ha, h => by simp only [mSs] at h; cases h
  | .whl .., X, ct, W, k, ss, C, ha, h => by simp only [mSs] at h; cases h
  | .brk, X, ct, W, k, ss, C, ha, h => by simp only [mSs] at h; cases h
  | .cnt, X, ct, W, k, ss, C, ha, h => by simp only [mSs] at h; cases h
  | .pass, X, ct, W, k, ss, C, ha, h => by simp only [mSs] at h; cases h
  | .rais .., X, ct, W, k, ss, C, ha, h => by simp only [mSs] at h; cases h
  | .tryN .., X, ct, W, k, ss, C, ha, h => by simp only [mSs] at h; cases h
  | .dput .., X, ct, W, k, ss, C, ha, h => by simp only [mSs] at h; cases h
  | .sda .., X, ct, W, k, ss, C, ha, h => by simp only [mSs] at h; cases h
  | .appI .., X, ct, W, k, ss, C, ha, h => by simp only [mSs] at h; cases h
  | .parM .., X, ct, W, k, ss, C, ha, h => by simp only [mSs] at h; cases h
  | .par3 .., X, ct, W, k, ss, C, ha, h => by simp only [mSs] at h; cases h
  | .mat .., X, ct, W, k, ss, C, ha, h => by simp only [mSs] at h; cases h
  | .mcs .., X, ct, W, k, ss, C, ha, h => by simp only [mSs] at h; cases h
  | .tryR .., X, ct, W, k, ss, C, ha, h => by simp only [mSs] at h; cases h
  | .asgL .., X, ct, W, k, ss, C, ha, h => by simp only [mSs] at h; cases h
theorem sMs : ∀ (c : Sm) {X : Cx} {ct : Ct} {W : WX} {k : Nat} {ms : List MatchCase}, XS X ct W k → aS (calX X k) (gloX X) (raiX X) c → mCs ct c ms = true → ∃ l, MCs X ms l ∧ ∀ (E : Ends) (σ : St) (H : Hp) (w : Wn) (Γ : Sl) (v : V) (d : D), ER X.K w Γ σ H → RD X.K w H d v → rdS (qX X W) w H σ (exM d c Γ) E → tMCs (rCmp X.K .Eq) v l E σ H
  | .nil, X, ct, W, k, ms, C, ha, h => by
    simp only [mCs, List.isEmpty_iff] at h
    subst h
    exact ⟨[], .nil, fun D σ H w Γ v d e r z => z σ H w Step.refl e rfl⟩
  | .mcs x b r, X, ct, W, k, [], C, ha, h => by simp only [mCs] at h; cases h
  | .mcs x b r, X, ct, W, k, c :: ms, C, ha, h => by
    simp only [mCs, Bool.and_eq_true] at h
    obtain ⟨h1, h2⟩ := h
    obtain ⟨l, hl, hr⟩ := sMs r C ha.2 h2
    split at h1
    case h_2 => cases h1
    rename_i y body hv
    simp only [Bool.and_eq_true, beq_iff_eq] at h1
    obtain ⟨rfl, h1⟩ := h1
    obtain ⟨kk, p1, p2, rfl⟩ := vCase_eq hv
    refine ⟨(y, tS (qX X W) b) :: l, .cons (sSs b C ha.1 h1) hl, fun D σ H w Γ v d e rd z => ?_⟩
    have z : rdS (qX X W) w H σ (match cmpD .Eq d (.str y) with | some true => exS b Γ | some false => exM d r Γ | none => .no) D := z
    cases hc : cmpD .Eq d (.str y) with
    | none => rw [hc] at z; exact z.elim
    | some t =>
      rw [hc] at z
      refine ⟨w, d, .str y, t, rd, .str y, hc, t, rfl, fun ht => ?_, fun ht => ?_⟩
      · subst ht; exact ⟨w, Γ, e, z⟩
      · subst ht; exact hr D σ H w Γ v d e rd z
  | .nev, X, ct, W, k, ms, C, ha, h => by simp only [mCs] at h; cases h
  | .seq .., X, ct, W, k, ms, C, ha, h => by simp only [mCs] at h; cases h
  | .asg .., X, ct, W, k, ms, C, ha, h => by simp only [mCs] at h; cases h
  | .asgP .., X, ct, W, k, ms, C, ha, h => by simp only [mCs] at h; cases h
  | .par .., X, ct, W, k, ms, C, ha, h => by simp only [mCs] at h; cases h
  | .setI .., X, ct, W, k, ms, C, ha, h => by simp only [mCs] at h; cases h
  | .ali .., X, ct, W, k, ms, C, ha, h => by simp only [mCs] at h; cases h
  | .setII .., X, ct, W, k, ms, C, ha, h => by simp only [mCs] at h; cases h
  | .app .., X, ct, W, k, ms, C, ha, h => by simp only [mCs] at h; cases h
  | .ext .., X, ct, W, k, ms, C, ha, h => by simp only [mCs] at h; cases h
  | .exp .., X, ct, W, k, ms, C, ha, h => by simp only [mCs] at h; cases h
  | .ret .., X, ct, W, k, ms, C, ha, h => by simp only [mCs] at h; cases h
  | .ifs .., X, ct, W, k, ms, C, ha, h => by simp only [mCs] at h; cases h
  | .for .., X, ct, W, k, ms, C, ha, h => by simp only [mCs] at h; cases h
  | .whl .., X, ct, W, k, ms, C, ha, h => by simp only [mCs] at h; cases h
  | .brk, X, ct, W, k, ms, C, ha, h => by simp only [mCs] at h; cases h
  | .cnt, X, ct, W, k, ms, C, ha, h => by simp only [mCs] at h; cases h
  | .pass, X, ct, W, k, ms, C, ha, h => by simp only [mCs] at h; cases h
  | .rais .., X, ct, W, k, ms, C, ha, h => by simp only [mCs] at h; cases h
  | .tryN .., X, ct, W, k, ms, C, ha, h => by simp only [mCs] at h; cases h
  | .dput .., X, ct, W, k, ms, C, ha, h => by simp only [mCs] at h; cases h
  | .sda .., X, ct, W, k, ms, C, ha, h => by simp only [mCs] at h; cases h
  | .appI .., X, ct, W, k, ms, C, ha, h => by simp only [mCs] at h; cases h
  | .parM .., X, ct, W, k, ms, C, ha, h => by simp only [mCs] at h; cases h
  | .par3 .., X, ct, W, k, ms, C, ha, h => by simp only [mCs] at h; cases h
  | .mat .., X, ct, W, k, ms, C, ha, h => by simp only [mCs] at h; cases h
  | .tryR .., X, ct, W, k, ms, C, ha, h => by simp only [mCs] at h; cases h
  | .asgL .., X, ct, W, k, ms, C, ha, h => by simp only [mCs] at h; cases h
end
end L2.Gv

set_option Elab.async false
set_option linter.all false
set_option maxRecDepth 100000
set_option maxHeartbeats 2000000
namespace L2.Gv
open PySem PySem.Spec PyProof.Rows L2
/-! ## A def by its body -/
theorem fn_ofG {P : Program} {w : World} {K : PySem.W.Frag} {mg : Str → Option Value} {base : Heap} {k : Nat} {f : Addr} {name qual : Str} {params : Arguments} {body : List Stmt} {scope : Scope} {dV kV doc pm cdv ct oc : Value} {an od : Option Addr}
    {osl : Array (Option Value)} {N ps : List Str} {sp : Sp} (lk : K.lookup f = some ⟨oc, od, .func (PySem.W.fnOf name qual params body scope dV kV doc pm an cdv ct), osl⟩) (hcd : PySem.W.codeIn K cdv qual = true) (S : FnScope N ps scope)
    (len : ∀ vs H Q E, sp vs H Q E → vs.length = ps.length)
    (hbody : ∀ (A : Around) (outer : List Env) (s : Shared) (H : Hp) (vs : List V) (Q : VK) (E : XK), Room k (A.deeper (envOfC qual scope s.heap.objs.size f cdv)) → (A.deeper (envOfC qual scope s.heap.objs.size f cdv)).guards = some [] → sp vs H Q E →
      ∃ t, PSs (cxOf (L2.CX P w) P w K mg base N qual scope f cdv A outer s H E) body t ∧ t { nx := fun _ H' => Q .non H', rt := Q } (start N vs) H) :
    FnG P w K mg base (k + 1) f (PySem.W.fnOf name qual params body scope dV kV doc pm an cdv ct) ps sp := by
  refine ⟨len, fun A outer s H args us vs Q E hr hg e0 hb r hsp => ?_⟩
  have hl := len _ _ _ _ hsp
  have KX : K.In s.heap := e0.mod.kin.keeps fun b o e => (e0.bs b o e).1
  have lim : s.heap.NoLimit := e0.mod.nolimit.keeps fun b o e => (e0.bs b o e).1
  have hkind : ∀ y ∈ ps.zip us, scope.names.lookup y.1 = some .local ∨ (scope.names.lookup y.1 = some .cell ∧ ((cellsFrom (s.heap.objs.size + 1) scope.names []).lookup y.1).isSome = true) := fun ⟨n, v⟩ hy => by
    rcases S.par n (List.of_mem_zip hy).1 with q | q
    · exact .inl q
    · exact .inr ⟨q, PySem.W.cellsFrom_some _ _ _ (.inl q)⟩
  refine codeAny_call_function hr.depth (KX _ _ lk) rfl S.co S.gen rfl (PySem.W.codeRec_of KX hcd) (hb _ _ _ _ ?_)
  refine wpAny_newFunctionEnv_cells S.kind hkind fun env he s1 x => ?_
  subst he
  refine ⟨lim.keeps x.toInCall.keep, codeAny_func ?_⟩
  obtain ⟨t, ht, hq⟩ := hbody A outer s H vs Q E (hr.deeper _) hg hsp
  have I : Inv (cxOf (L2.CX P w) P w K mg base N qual scope f cdv A outer s H E) [] (start N vs) H s1 := inv_start S hr.hd e0 hl r x
  refine wpAny_mono (ht.run [] s1 (start N vs) H _ I hq) (fun fl s' hs => ?_) fun e s' hs => hs
  have fin : ∀ {σ' : St} {H' : Hp} {v : V} {u : Value}, Inv (cxOf (L2.CX P w) P w K mg base N qual scope f cdv A outer s H E) [] σ' H' s' → RelV v u → Q v H' → CE outer P w H s Q u s' :=
    fun {σ' H' v u} J rv q => ⟨v, H', J.os, J.bare, J.base, J.hok, rv, q⟩
  cases fl with
  | ret u =>
    obtain ⟨v, σ', H', J, rv, q⟩ := hs
    exact fin J rv q
  | next =>
    obtain ⟨σ', H', J, q⟩ := hs
    exact fin (v := V.non) (u := Value.none) J rfl q
  | brk =>
    obtain ⟨_, _, _, q⟩ := hs
    exact False.elim q
  | cont =>
    obtain ⟨_, _, _, q⟩ := hs
    exact False.elim q
def FOk (P : Program) (w : World) (K : PySem.W.Frag) (mg : Str → Option Value) (base : Heap) (k : Nat) (x : Str) (F : Fn) : Prop :=
  ∃ f, FnQ P w K mg base k f (spF K mg F) ∧ mg x = some (.ref f) ∧ PySem.W.keepIn K (.ref f) = true
theorem FOk.mono {P : Program} {w : World} {K : PySem.W.Frag} {mg : Str → Option Value} {base : Heap} {j k : Nat} {x : Str} {F : Fn} (h : FOk P w K mg base j x F) (hk : j ≤ k) : FOk P w K mg base k x F := by
  obtain ⟨f, h1, h2⟩ := h
  exact ⟨f, h1.mono hk, h2⟩
theorem mlF_mk (io : Bool) (np ns : Nat) (c : Sm) : MlF (mkFn io np ns c) := by
  intro h
  have h : io = true := h
  subst h
  have f1 : ∀ {r x : M} {Γ : Sl} {pm : M}, fin true r Γ = .ok x pm → ∃ ys, pm = .ml ys := fun {r x Γ pm} e => by
    unfold fin at e
    cases hg : (Γ[0]? : Option (Option M)) with
    | none => rw [hg] at e; cases e
    | some o =>
      cases o with
      | none => rw [hg] at e; cases e
      | some m => rw [hg] at e; cases m <;> first | (cases e; exact ⟨_, rfl⟩) | cases e
  have f2 : ∀ {r : M} {x : Exn} {Γ : Sl} {pm : M}, fin true r Γ = .ex x pm → False := fun {r x Γ pm} e => by
    unfold fin at e
    cases hg : (Γ[0]? : Option (Option M)) with
    | none => rw [hg] at e; cases e
    | some o =>
      cases o with
      | none => rw [hg] at e; cases e
      | some m => rw [hg] at e; cases m <;> cases e
  have f3 : ∀ {r : Exn} {x : Exn} {Γ : Sl} {pm : M}, finX true r Γ = .ex x pm → ∃ ys, pm = .ml ys := fun {r x Γ pm} e => by
    unfold finX at e
    cases hg : (Γ[0]? : Option (Option M)) with
    | none => rw [hg] at e; cases e
    | some o =>
      cases o with
      | none => rw [hg] at e; cases e
      | some m => rw [hg] at e; cases m <;> first | (cases e; exact ⟨_, rfl⟩) | cases e
  have f4 : ∀ {r : Exn} {x : M} {Γ : Sl} {pm : M}, finX true r Γ = .ok x pm → False := fun {r x Γ pm} e => by
    unfold finX at e
    cases hg : (Γ[0]? : Option (Option M)) with
    | none => rw [hg] at e; cases e
    | some o =>
      cases o with
      | none => rw [hg] at e; cases e
      | some m => rw [hg] at e; cases m <;> cases e
  refine ⟨fun ms r pm e => ?_, fun ms r pm e => ?_⟩
  · simp only [mkFn] at e
    split at e
    · split at e
      · exact f1 e
      · exact f1 e
      · exact (f4 e).elim
      · cases e
    · cases e
  · simp only [mkFn] at e
    split at e
    · split at e
      · exact (f2 e).elim
      · exact (f2 e).elim
      · exact f3 e
      · cases e
    · cases e
theorem start_get {N : List Str} {vs : List V} {i : Nat} {v : V} (h : vs[i]? = some v) : (start N vs)[i]? = some (some v) := by
  unfold start
  have hi : i < vs.length := (List.getElem?_eq_some_iff.mp h).1
  rw [List.getElem?_append_left (by simpa using hi), List.getElem?_map, h]; rfl
theorem er_start {K : PySem.W.Frag} {w : Wn} {H : Hp} {ms : List M} {vs : List V} {N : List Str} (wf : Wf w H) (ar : ArgR K w H 0 ms vs) : ER K w (ms.map some ++ List.replicate (N.length - ms.length) none) (start N vs) H := by
  refine ⟨?_, wf, fun i m h => ?_⟩
  · unfold start
    rw [List.length_append, List.length_append, List.length_map, List.length_map, List.length_replicate, List.length_replicate, ar.length]
  · have hi : i < ms.length := by
      by_cases hi : i < ms.length
      · exact hi
      · rw [List.getElem?_append_right (by simpa using hi), List.getElem?_replicate] at h
        split at h <;> cases h
    rw [List.getElem?_append_left (by simpa using hi), List.getElem?_map] at h
    cases q : ms[i]? with
    | none => rw [q] at h; cases h
    | some m' =>
      rw [q] at h
      cases h
      obtain ⟨v, h1, h2⟩ := ar.get i m q
      rw [Nat.zero_add] at h2
      exact ⟨v, start_get h1, h2⟩
theorem start0 {N : List Str} {vs : List V} {v : V} (h : (start N vs)[0]? = some (some v)) : vs.head? = some v := by
  cases vs with
  | nil =>
    unfold start at h
    rw [List.map_nil, List.nil_append, List.getElem?_replicate] at h
    split at h <;> cases h
  | cons u us => cases h; rfl
/-- a def's body by its code -/
theorem body_ok {P : Program} {w : World} {K : PySem.W.Frag} {mg : Str → Option Value} {base : Heap} {k : Nat} {f : Addr} {name qual : Str} {params : Arguments} {body : List Stmt} {scope : Scope} {dV kV doc pm cdv ct oc : Value} {an od : Option Addr}
    {osl : Array (Option Value)} {N ps : List Str} {io : Bool} {np ns : Nat} {c : Sm} (lk : K.lookup f = some ⟨oc, od, .func (PySem.W.fnOf name qual params body scope dV kV doc pm an cdv ct), osl⟩) (hcd : PySem.W.codeIn K cdv qual = true) (S : FnScope N ps scope) (hnp : np = ps.length) (hns : ns = N.length)
    (hm : mSs ⟨N, scope, none⟩ c body = true) (hbi : ∀ x ∈ biList', mg x = none) (ha : ∀ X : Cx, X.prog = P → X.w = w → X.K = K → X.mg = mg → X.base = base → aS (calX X k) (gloX X) (raiX X) c) :
    ∀ (A : Around) (outer : List Env) (s : Shared) (H : Hp) (vs : List V) (Q : VK) (E : XK), Room k (A.deeper (envOfC qual scope s.heap.objs.size f cdv)) → (A.deeper (envOfC qual scope s.heap.objs.size f cdv)).guards = some [] → spF K mg (mkFn io np ns c) vs H Q E →
      ∃ t, PSs (cxOf (L2.CX P w) P w K mg base N qual scope f cdv A outer s H E) body t ∧ t { nx := fun _ H' => Q .non H', rt := Q } (start N vs) H := by
  subst hnp hns
  intro A outer s H vs Q E rm gd ⟨wn, ms, wf, hl, ar, hsem⟩
  have hl : ms.length = ps.length := hl
  have XSx : XS (cxOf (L2.CX P w) P w K mg base N qual scope f cdv A outer s H E) ⟨N, scope, none⟩ (fun cls d _ H => E cls d H) k :=
    ⟨⟨rfl, rfl, rfl, S.nd, rfl, takes_of (E := E) rfl rfl rfl rfl, rm, gd, hbi⟩, passes_of rfl, rfl, rfl⟩
  refine ⟨_, sSs c XSx (ha _ rfl rfl rfl rfl rfl) hm, wn, ms.map some ++ List.replicate (N.length - ms.length) none, er_start wf ar, ?_⟩
  have hs : (mkFn io ps.length N.length c).sem ms = match exS c (ms.map some ++ List.replicate (N.length - ms.length) none) with
    | .ok (.rt r) Γ => fin io r Γ
    | .ok .nx Γ => fin io (.im .none) Γ
    | .ex x Γ => finX io x Γ
    | _ => .no := by
    show (if ms.length = ps.length then _ else _) = _
    rw [if_pos hl, hl] <;> rfl
  rw [hs] at hsem
  have ioOk : ∀ {xs : List D} {Γ : Sl} {σ' : St} {H' : Hp} {w' : Wn}, (Γ[0]? : Option (Option M)) = some (some (.ml xs)) → ER K w' Γ σ' H' → σ'[0]? = (start N vs)[0]? → IoR K io vs w' H' (.ml xs) := fun hg e q _ => by
    obtain ⟨v, h1, h2⟩ := e.at_ 0 _ hg
    exact ⟨v, start0 (by rw [← q]; exact h1), h2⟩
  cases hx : exS c (ms.map some ++ List.replicate (N.length - ms.length) none) with
  | no => rw [hx] at hsem; exact hsem.elim
  | ex xn Γ =>
    rw [hx] at hsem
    intro cls d σ' H' w' st er q xr
    dsimp only [finX] at hsem
    cases io with
    | false => exact hsem cls d H' w' st er.wf (fun h => by cases h) xr
    | true =>
      revert hsem
      cases hg : (Γ[0]? : Option (Option M)) with
      | none => exact fun h => h.elim
      | some o =>
        cases o with
        | none => exact fun h => h.elim
        | some m =>
          cases m with
          | ml xs => exact fun h => h cls d H' w' st er.wf (ioOk hg er q) xr
          | _ => exact fun h => h.elim
  | ok fl Γ =>
    rw [hx] at hsem
    have go : ∀ r : M, (match fin io r Γ with
        | .ok r p => ∀ v H' w', Step H wn H' w' → Wf w' H' → RM K w' H' none r v → (∀ a, Owns H' r v a → wn a ≠ some none) → IoR K io vs w' H' p → Q v H'
        | .ex x p => ∀ cls d H' w', Step H wn H' w' → Wf w' H' → IoR K io vs w' H' p → XR mg x cls d → E cls d H'
        | .no => False) → ∀ v σ' H' w', Po K wn H Γ σ' r v H' w' → σ'[0]? = (start N vs)[0]? → Q v H' := fun r h v σ' H' w' po q => by
      revert h
      unfold fin
      cases io with
      | false => exact fun h => h v H' w' po.st po.er.wf po.rm po.nw fun h => by cases h
      | true =>
        cases hg : (Γ[0]? : Option (Option M)) with
        | none => exact fun h => h.elim
        | some o =>
          cases o with
          | none => exact fun h => h.elim
          | some m =>
            cases m with
            | ml xs => exact fun h => h v H' w' po.st po.er.wf po.rm po.nw (ioOk hg po.er q)
            | _ => exact fun h => h.elim
    cases fl with
    | rt r => exact go r hsem
    | nx => exact fun σ' H' w' st er q => go (.im .none) hsem .non σ' H' w' ⟨st, er, .non, fun _ o => o.elim⟩ q
    | bk => exact hsem.elim
    | ct => exact hsem.elim
/-- THE RULE: a def whose body's code is c -/
theorem def_ok {P : Program} {w : World} {K : PySem.W.Frag} {mg : Str → Option Value} {base : Heap} {k : Nat} {f : Addr} {name qual : Str} {params : Arguments} {body : List Stmt} {scope : Scope} {dV kV doc pm cdv ct oc : Value} {an od : Option Addr}
    {osl : Array (Option Value)} {N ps : List Str} {io : Bool} {np ns : Nat} {c : Sm} (lk : K.lookup f = some ⟨oc, od, .func (PySem.W.fnOf name qual params body scope dV kV doc pm an cdv ct), osl⟩) (hcd : PySem.W.codeIn K cdv qual = true) (S : FnScope N ps scope) (hnp : np = ps.length) (hns : ns = N.length)
    (hm : mSs ⟨N, scope, none⟩ c body = true) (hbi : ∀ x ∈ biList', mg x = none) (ha : ∀ X : Cx, X.prog = P → X.w = w → X.K = K → X.mg = mg → X.base = base → aS (calX X k) (gloX X) (raiX X) c) :
    FnG P w K mg base (k + 1) f (PySem.W.fnOf name qual params body scope dV kV doc pm an cdv ct) ps (spF K mg (mkFn io np ns c)) :=
  fn_ofG lk hcd S (fun vs H Q E ⟨w, ms, _, hl, ar, _⟩ => by rw [← ar.length, hl, ← hnp]; rfl) (body_ok lk hcd S hnp hns hm hbi ha)
/-! ### a def with one starred parameter -/
def imD : M → Option D
  | .im d => some d
  | _ => none
def imDs : List M → Option (List D)
  | [] => some []
  | m :: ms => (imD m).bind fun d => (imDs ms).map (d :: ·)
/-- a def of one starred parameter, called with n arguments -/
def starF (n : Nat) (F : Fn) : Fn := ⟨false, n, fun ms => match imDs ms with
  | some ds => F.sem [.im (.tuple ds)]
  | none => .no⟩
end L2.Gv

set_option Elab.async false
set_option linter.all false
set_option maxRecDepth 100000
set_option maxHeartbeats 2000000
namespace L2.Gv
open PySem PySem.Spec PyProof.Rows L2
/-! ## The law's own call -/
/-- where nothing but the script may be tracked -/
theorem law_core {P : Program} {w : World} {K : PySem.W.Frag} {mg mb : Str → Option Value} {k : Nat} {fa a : Addr} {fd : FuncData} {x : Str} {sp : Sp} {s₁ : Shared} {vs : List Value} {ns : List Int} {H : Hp}
    (KX : K.In s₁.heap) (hns : s₁.heap.Ns mainGlobals mg) (hb : s₁.heap.Ns builtinsNs mb) (hbb : ∀ x : Str, x ≠ "__name__" → mb x = bootBuiltins x) (hlim : s₁.heap.NoLimit) (hg : s₁.gens = #[])
    (ha : s₁.heap.get? a = some { cls := .type "list", data := .seq vs.toArray }) (hr : Room k callerA)
    (F : ∀ base : Heap, K.In base → base.Ns mainGlobals mg → FnG P w K mg base k fa fd [x] sp) (hbind : ∀ (s : Shared) (u : Value), BindsTo s fd ⟨[u], []⟩ [(x, u)])
    (hsp : sp [.ref a] H (fun v _ => v = .bl true) fun _ _ _ => False) (hO : Only H) (hok : HOk P w H s₁.heap) (hA : ∀ b, H b ≠ none → b = a) (hK : H a ≠ none → K.lookup a = none) :
    codeAny (model P w) callerA (.call (.ref fa) ⟨[.ref a], []⟩) (fun r s' => r = .ok (.ret (.bool true)) ∧ OldK s₁.heap s'.heap ∧ s'.os = s₁.os ∧ AllBare s'.gens) s₁ := by
  have keepB : ∀ {b : Addr} {o : Obj}, s₁.heap.get? b = some o → H b = none → (hidT s₁.heap H).get? b = some o := fun e n => hidT_get e n
  have trackedIs : ∀ {b : Addr} {u : HO}, H b = some u → b = a := fun {b u} q => hA b fun z => by rw [q] at z; cases z
  have dictFree : ∀ {b : Addr} {o : Obj} {es : Array DictEntry} {ep : Nat}, s₁.heap.get? b = some o → o.data = .dict es ep → H b = none := by
    intro b o es ep e d
    cases q : H b with
    | none => rfl
    | some u =>
      cases trackedIs q
      rw [ha] at e
      cases e
      exact absurd d (by intro z; cases z)
  have nsB : ∀ {b : Addr} {m : Str → Option Value}, s₁.heap.Ns b m → (hidT s₁.heap H).Ns b m := by
    rintro b m ⟨o, es, ep, e, d, r⟩
    exact ⟨o, es, ep, keepB e (dictFree e d), d, r⟩
  have inB : K.In (hidT s₁.heap H) := by
    intro b o e
    refine keepB (KX b o e) ?_
    cases q : H b with
    | none => rfl
    | some u =>
      have eb := trackedIs q
      rw [eb] at e q
      rw [hK fun z => by rw [q] at z; cases z] at e
      cases e
  have mod : Mod K mg (hidT s₁.heap H) := by
    obtain ⟨mc, l1, l2⟩ := hlim
    exact ⟨inB, nsB hns, ⟨mb, nsB hb, hbb⟩, ⟨mc, nsB l1, l2⟩⟩
  have env0 : Env0 P w K mg (hidT s₁.heap H) callerA [] s₁ H :=
    ⟨rfl, mod, fun b o e => of_hidT e, Nat.le_of_eq (hidT_size _ _), trivial, (fun b hb => by cases hb), hok, .of_eq hg⟩
  have run := (F _ inB (nsB hns)).go callerA [] s₁ H ⟨[.ref a], []⟩ [.ref a] [.ref a] _ _ hr rfl env0 (hbind s₁ (.ref a)) (.cons rfl .nil) hsp
  refine codeAny_mono run fun r s' h => ?_
  match r, h with
  | .error e, h =>
    obtain ⟨_, _, _, _, _, _, _, _, _, _, _, _, z⟩ := h
    exact z.elim
  | .ok (.ret u), h =>
    obtain ⟨v, H', os, bare, un, hok', r', q⟩ := h
    have q : v = .bl true := q
    subst q
    obtain rfl : u = Value.bool true := r'
    refine ⟨rfl, OldK.of_keep fun b o e => ?_, os, bare⟩
    rcases hO b with z | ⟨ob, xs, z⟩
    · exact un.keep b o e z (by intro y; cases y) (by intro y; cases y)
    · obtain ⟨e1, _⟩ := hok b _ z
      obtain ⟨e2, _⟩ := hok' b _ (un.frzs b ob _ z)
      rw [e] at e1
      cases e1
      exact e2
theorem law_callG {P : Program} {w : World} {K : PySem.W.Frag} {mg mb : Str → Option Value} {k : Nat} {fa a : Addr} {fd : FuncData} {x : Str} {sp : Sp} {s₁ : Shared} {vs : List Value} {ns : List Int}
    (KX : K.In s₁.heap) (hns : s₁.heap.Ns mainGlobals mg) (hb : s₁.heap.Ns builtinsNs mb) (hbb : ∀ x : Str, x ≠ "__name__" → mb x = bootBuiltins x) (hlim : s₁.heap.NoLimit) (hg : s₁.gens = #[])
    (ha : s₁.heap.get? a = some { cls := .type "list", data := .seq vs.toArray }) (hi : IntsAre vs ns) (hl : ns.length ≤ sizeLine) (hr : Room k callerA)
    (F : ∀ base : Heap, K.In base → base.Ns mainGlobals mg → FnG P w K mg base k fa fd [x] sp) (hbind : ∀ (s : Shared) (u : Value), BindsTo s fd ⟨[u], []⟩ [(x, u)])
    (hsp : ∀ H : Hp, Only H → SqL K H a (ns.map V.int) → sp [.ref a] H (fun v _ => v = .bl true) fun _ _ _ => False) :
    codeAny (model P w) callerA (.call (.ref fa) ⟨[.ref a], []⟩) (fun r s' => r = .ok (.ret (.bool true)) ∧ OldK s₁.heap s'.heap ∧ s'.os = s₁.os ∧ AllBare s'.gens) s₁ := by
  have rv := vals_ints hi
  have lenV := hi.length
  cases hk : K.lookup a with
  | some o =>
    have e := KX a o hk
    rw [ha] at e
    cases e
    have sq : SqL K (fun _ => none) a (ns.map V.int) := .inr ⟨_, vs.toArray, _, hk, rfl, rfl, rfl, by rw [List.size_toArray, lenV]; exact hl, by simpa using rv⟩
    have only : Only fun _ => none := fun _ => .inl rfl
    exact law_core (ns := ns) KX hns hb hbb hlim hg ha hr F hbind (hsp _ only sq) only (fun b u z => by cases z) (fun b z => absurd rfl z) fun z => absurd rfl z
  | none =>
    let ob : Obj := { cls := .type "list", data := .seq vs.toArray }
    let H : Hp := fun b => if b = a then some (.frz ob (.lst (ns.map V.int))) else none
    have at_a : H a = some (.frz ob (.lst (ns.map V.int))) := if_pos rfl
    have off : ∀ b, b ≠ a → H b = none := fun b h => if_neg h
    have only : Only H := fun b => by
      by_cases h : b = a
      · subst h; exact .inr ⟨_, _, at_a⟩
      · exact .inl (off b h)
    refine law_core (ns := ns) KX hns hb hbb hlim hg ha hr F hbind (hsp H only (.inl (.inr ⟨ob, at_a⟩))) only (fun b u z => ?_) (fun b z => ?_) fun _ => hk
    · by_cases h : b = a
      · subst h
        rw [at_a] at z
        cases z
        exact ⟨ha, by rw [List.length_map]; exact hl, vs, _, rv, ha⟩
      · rw [off b h] at z; cases z
    · by_cases h : b = a
      · exact h
      · exact absurd (off b h) z
/-- the law's script, as data -/
def scrD (ns : List Int) : D := .dict [(.none, .list (ns.map .int))]
/-- what is left of a law: its code says True at every script -/
def Says (F : Fn) : Prop := F.io = false ∧ F.np = 1 ∧ ∀ ns : List Int, ns.length ≤ 63 → F.sem [.im (scrD ns)] = .ok (.im (.bool true)) (.im .none)
theorem sp_law {K : PySem.W.Frag} {mg : Str → Option Value} {F : Fn} (hF : Says F) {H : Hp} {a : Addr} {ns : List Int} (hl : ns.length ≤ 63) (hS : SqL K H a (ns.map V.int)) : spF K mg F [.ref a] H (fun v _ => v = .bl true) fun _ _ _ => False := by
  have r : RD K (fun _ => none) H (scrD ns) (.ref a) := by
    refine .scr ?_ (by rw [List.length_map, sizeLine_eq]; omega) (rd_ints ns)
    rcases hS with h | h
    · exact .inr ⟨h, rfl⟩
    · exact .inl (.inr h)
  refine ⟨fun _ => none, [.im (scrD ns)], fun _ z => absurd rfl z, hF.2.1.symm, ⟨r, trivial⟩, ?_⟩
  rw [hF.2.2 ns hl]
  intro v H' w' _ _ rm _ _
  have rm : RD K w' H' (.bool true) v := rm
  cases rm
  rfl
theorem walk_ofG {l : PySem.W.OpenLaw} {k : Nat} {q : Program} {loose : List Str} {XP : (Str → Option Value) → Heap → Prop} {YP : World → Heap → Prop} {d : DefRec} {x : Str} {F : Fn}
    (hn : l.most = some 63) (hdf : d.params.defaults = []) (hr : Room k callerA) (hF : Says F)
    (G : ∀ (w : World) (mg : Str → Option Value) (fa : Addr) (h : Heap), YP w h → h.Ns mainGlobals mg → mg d.name = some (.ref fa) →
      ∃ (K : PySem.W.Frag) (fd : FuncData), K.In h ∧ (∀ (s : Shared) (u : Value), BindsTo s fd ⟨[u], []⟩ [(x, u)]) ∧ ∀ base : Heap, K.In base → base.Ns mainGlobals mg → FnG l.prog w K mg base k fa fd [x] (spF K mg F)) :
    PySem.W.WalkO q loose XP YP l.row.toRowW d [] (fun f vs => PySem.call f vs) := by
  refine Att.attach_call hn hdf fun w s₀ s₁ mg mb fa o pm cd doc a vs ns G' Y ho hd hcd hmg hobj hints hlen hg => ?_
  obtain ⟨K, fd, KX, hb, hB⟩ := G w mg fa _ Y G'.T.g hmg
  exact law_callG KX G'.T.g G'.T.b G'.T.builtins G'.T.nolimit hg hobj hints (Nat.le_trans hlen (by decide)) hr hB hb fun H hO hS => sp_law hF hlen hS
/-! ## The table of defs -/
section
variable {P : Program} {w : World} {K : PySem.W.Frag} {mg : Str → Option Value} {base : Heap} {k : Nat} {x : Str} {params : Arguments} {body : List Stmt} {scope : Scope} {f : Addr} {fd : FuncData} {N ps : List Str} {io : Bool} {np ns : Nat} {c : Sm}
theorem fn_row (F : FunD K x x params body scope [] [] f fd) (S : FnScope N ps scope) (hnp : np = ps.length) (hns : ns = N.length) (hm : mSs ⟨N, scope, none⟩ c body = true) (hbi : ∀ x ∈ biList', mg x = none)
    (ha : ∀ X : Cx, X.prog = P → X.w = w → X.K = K → X.mg = mg → X.base = base → aS (calX X k) (gloX X) (raiX X) c) : FnG P w K mg base (k + 1) f fd ps (spF K mg (mkFn io np ns c)) := by
  obtain ⟨oc, od, dV, kV, doc, pm, an, cdv, ct, osl, rfl, lk, hcd, _, _⟩ := F.ex
  exact def_ok lk hcd S hnp hns hm hbi ha
theorem cal_of {X : Cx} (h : FOk X.prog X.w X.K X.mg X.base k x (mkFn io np ns c)) : calX X k (.n x) (mkFn io np ns c) := ⟨h, mlF_mk io np ns c⟩
theorem glo_int {X : Cx} {i : Int} (h : ∃ t, X.mg x = some (.int i t)) : gloX X x (.int i) := by
  obtain ⟨t, h⟩ := h
  exact ⟨_, .int i, h, ⟨t, rfl⟩, fun _ _ _ => .int i⟩
end
end L2.Gv

set_option Elab.async false
set_option linter.all false
set_option maxRecDepth 100000
set_option maxHeartbeats 2000000
namespace L2.Gv
open PySem PySem.Spec PyProof.Rows L2
/-! ## Own exception classes, called without arguments -/
theorem pmk_own0 {X : Cx} {C : Addr} {bmB : List Value} {B newId initId : String} {x : Str} {p pos : Pos} (F : ExcBaseFacts B newId initId bmB) (q : PySem.W.excIn X.K C bmB newId = true) (gC : X.mg x = some (.ref C)) (kC : PySem.W.keepIn X.K (.ref C) = true) (r : Raises X (.ref C)) (hg : Gl X x)
    (hdb : (x == ("__debug__" : Str)) = false) : PMk X (.Call (.Name x p) [] [] pos) (fun _ H Q => Q (.ref C) none H) := by
  intro pins s σ H Q I h
  refine wpAny_Call_Name_kw (ld_glob I hg gC ?_ hdb)
  refine PySem.W.callWith_K0 I.kIn kC ?_
  show wpAny _ _ (call (.ref C) []) _ _ _
  obtain ⟨bm, N, nm, qn, bs, hdct, sn, sub, ab, col, dd, k0, k1, k2, k3, k5, mN, hC, hN, hni, T⟩ := exc_obj I.kIn q
  refine wpAny_call_exc_subT F T hC hN hni (fun h' e hm => ?_) (by show 0 ≤ sizeLine; omega)
  exact mk_of I hm r h (I.hok.gone hm.new)
theorem rai_ok {X : Cx} {h : Heap} {x : Str} (KX : X.K.In h) (G : h.Ns mainGlobals X.mg) (c : (He.Fa.exc x).ok X.K = true) (g : (He.Fa.glo x).ok X.K = true) (hdb : (x == ("__debug__" : Str)) = false) : raiX X (.cls x) := by
  obtain ⟨c1, c2, c3, c4⟩ := He.exc_ok c
  have gC := He.glo_ok KX G g
  exact ⟨_, gC, fun pn xe p p2 hg => pmk_own0 (X := X.tr pn xe) PySem.F.excBase_ValueError c1 gC c2 (raises_own c3 c4) hg hdb⟩
/-! ## A def called with keywords -/
end L2.Gv

set_option Elab.async false
set_option linter.all false
set_option maxRecDepth 100000
set_option maxHeartbeats 2000000
namespace L2.Gv
open PySem PySem.Spec PyProof.Rows L2
/-! # Plain mathematics over the evaluator: loops -/
theorem loopF_run {f : D → Sl → Rs Fl} (I : Nat → Sl → Prop) : ∀ (ds : List D) (k : Nat) (Γ : Sl), I k Γ → (∀ i d Γ, ds[i]? = some d → I (k + i) Γ → ∃ Γ', f d Γ = .ok .nx Γ' ∧ I (k + i + 1) Γ') → ∃ Γ', loopF f ds Γ = .ok .nx Γ' ∧ I (k + ds.length) Γ'
  | [], k, Γ, h, _ => ⟨Γ, rfl, h⟩
  | d :: ds, k, Γ, h, hs => by
    obtain ⟨Γ1, e1, h1⟩ := hs 0 d Γ rfl h
    obtain ⟨Γ2, e2, h2⟩ := loopF_run I ds (k + 1) Γ1 h1 fun i d Γ hd hi => by
      have := hs (i + 1) d Γ hd (by rw [show k + (i + 1) = k + 1 + i by omega]; exact hi)
      rw [show k + (i + 1) + 1 = k + 1 + i + 1 by omega] at this
      exact this
    refine ⟨Γ2, ?_, by rw [List.length_cons, show k + (ds.length + 1) = k + 1 + ds.length by omega]; exact h2⟩
    unfold loopF
    rw [e1]; exact e2
theorem loopC_run {f : D → Sl → Rs (Option D)} (I : Nat → List D → Sl → Prop) : ∀ (ds : List D) (k : Nat) (acc : List D) (Γ : Sl), I k acc Γ → (∀ i d acc Γ, ds[i]? = some d → I (k + i) acc Γ → ∃ o Γ', f d Γ = .ok o Γ' ∧ I (k + i + 1) (acc ++ o.toList) Γ') →
    ∃ xs Γ', loopC f ds acc Γ = .ok xs Γ' ∧ I (k + ds.length) xs Γ'
  | [], k, acc, Γ, h, _ => ⟨acc, Γ, rfl, h⟩
  | d :: ds, k, acc, Γ, h, hs => by
    obtain ⟨o, Γ1, e1, h1⟩ := hs 0 d acc Γ rfl h
    obtain ⟨xs, Γ2, e2, h2⟩ := loopC_run I ds (k + 1) (acc ++ o.toList) Γ1 h1 fun i d acc Γ hd hi => by
      have := hs (i + 1) d acc Γ hd (by rw [show k + (i + 1) = k + 1 + i by omega]; exact hi)
      rw [show k + (i + 1) + 1 = k + 1 + i + 1 by omega] at this
      exact this
    refine ⟨xs, Γ2, ?_, by rw [List.length_cons, show k + (ds.length + 1) = k + 1 + ds.length by omega]; exact h2⟩
    unfold loopC
    rw [e1]
    cases o with
    | none => rw [Option.toList_none, List.append_nil] at e2; exact e2
    | some y => exact e2
theorem loopC_inv {f : D → Sl → Rs (Option D)} {ds : List D} {Γ : Sl} (I : Nat → List D → Sl → Prop) (h0 : I 0 [] Γ) (hs : ∀ i d acc Γ, ds[i]? = some d → I i acc Γ → ∃ o Γ', f d Γ = .ok o Γ' ∧ I (i + 1) (acc ++ o.toList) Γ') :
    ∃ xs Γ', loopC f ds [] Γ = .ok xs Γ' ∧ I ds.length xs Γ' := by
  obtain ⟨xs, Γ', h1, h2⟩ := loopC_run I ds 0 [] Γ h0 fun i d acc Γ hd hi => by
    rw [Nat.zero_add] at hi ⊢
    exact hs i d acc Γ hd hi
  exact ⟨xs, Γ', h1, by rw [Nat.zero_add] at h2; exact h2⟩
/-- the block's slots come back -/
theorem backG_same {Γ Γ2 : Sl} : ∀ {ow : List Nat}, (∀ i, i ∉ ow → Γ2[i]? = Γ[i]?) → Γ2.length = Γ.length → backG Γ Γ2 ow = Γ := by
  intro ow h hl
  apply List.ext_getElem?
  intro i
  have key : ∀ is : List Nat, (i ∈ is → (backG Γ Γ2 is)[i]? = Γ[i]?) ∧ (i ∉ is → (backG Γ Γ2 is)[i]? = Γ2[i]?) := by
    intro is
    induction is with
    | nil => exact ⟨(fun h => by cases h), fun _ => rfl⟩
    | cons j js ih =>
      unfold backG
      constructor
      · intro hi
        by_cases e : j = i
        · subst e
          cases q : (Γ[j]? : Option (Option M)) with
          | some o =>
            have hj : j < Γ.length := (List.getElem?_eq_some_iff.mp q).1
            simp only
            rw [List.getElem?_set_self (by rw [backG_length, hl]; exact hj)]
          | none =>
            simp only
            rw [List.getElem?_eq_none_iff] at q
            rw [List.getElem?_eq_none (by rw [backG_length, hl]; exact q)]
        · have hi' : i ∈ js := by
            rcases List.mem_cons.mp hi with q | q
            · exact absurd q.symm e
            · exact q
          split
          · rw [List.getElem?_set_ne e]; exact ih.1 hi'
          · exact ih.1 hi'
      · intro hi
        simp only [List.mem_cons, not_or] at hi
        split
        · rw [List.getElem?_set_ne (fun e => hi.1 e.symm)]; exact ih.2 hi.2
        · exact ih.2 hi.2
  by_cases hi : i ∈ ow
  · exact (key ow).1 hi
  · rw [(key ow).2 hi, h i hi]
theorem wipe_out_eq {Γ Γ2 : Sl} {ow : List Nat} (h : wipeG Γ2 ow = wipeG Γ ow) : (∀ i, i ∉ ow → Γ2[i]? = Γ[i]?) ∧ Γ2.length = Γ.length := by
  refine ⟨fun i hi => ?_, ?_⟩
  · rw [← wipeG_out (Γ := Γ2) hi, ← wipeG_out (Γ := Γ) hi, h]
  · rw [← wipeG_length Γ2 ow, ← wipeG_length Γ ow, h]
/-- a comprehension whose body leaves the slots but its own as they are -/
theorem lc_map {ow : List Nat} {p : Pt} {it : Gv.It} {cs : Ar} {el : Ex} {Γ : Sl} {ds : List D} (g : D → Option D) (hi : evI it Γ = .ok ds Γ) (hp : ow.all (fun i => plainM (Γ[i]?.join)) = true)
    (hb : ∀ d ∈ ds, ∃ Γp Γb b, setPt p d (wipeG Γ ow) = some Γp ∧ evC cs Γp = .ok b Γb ∧ ((b = false ∧ g d = none ∧ wipeG Γb ow = wipeG Γ ow) ∨ (b = true ∧ ∃ m Γe, evE el Γb = .ok m Γe ∧ g d = some (frz m) ∧ wipeG Γe ow = wipeG Γ ow))) :
    evE (.lc ow p it cs el) Γ = .ok (.ml (ds.filterMap g)) Γ := by
  have run := loopC_inv (f := bodyC p cs el ow) (ds := ds) (Γ := Γ) (fun i acc Γc => acc = (ds.take i).filterMap g ∧ wipeG Γc ow = wipeG Γ ow) ⟨rfl, rfl⟩ fun i d acc Γc hd ⟨ha, hw⟩ => by
    have hm : d ∈ ds := List.mem_of_getElem? hd
    have htk : (ds.take (i + 1)).filterMap g = (ds.take i).filterMap g ++ (g d).toList := by
      rw [List.take_add_one, hd, List.filterMap_append]
      cases q : g d <;> simp [q]
    obtain ⟨Γp, Γb, b, h1, h2, h3⟩ := hb d hm
    unfold bodyC
    rw [hw, h1]
    simp only [h2, Rs.bind]
    rcases h3 with ⟨rfl, h4, h5⟩ | ⟨rfl, m, Γe, h4, h5, h6⟩
    · exact ⟨none, Γb, rfl, by rw [htk, h4, ha], h5⟩
    · simp only [if_true, h4]
      exact ⟨some (frz m), Γe, rfl, by rw [htk, h5, ha], h6⟩
  obtain ⟨xs, Γ2, e, hx, hw⟩ := run
  obtain ⟨o1, o2⟩ := wipe_out_eq hw
  have hx' : xs = ds.filterMap g := by rw [hx, List.take_length]
  have : evE (.lc ow p it cs el) Γ = (evI it Γ).bind fun ds Γ1 => if ow.all (fun i => plainM (Γ1[i]?.join)) then
      match loopC (bodyC p cs el ow) ds [] Γ1 with
        | .ok xs Γ2 => .ok (.ml xs) (backG Γ1 Γ2 ow)
        | _ => .no
      else .no := rfl
  rw [this, hi]
  simp only [Rs.bind, hp, if_true, e, hx', backG_same o1 o2]
/-- .. without conditions -/
theorem lc_map1 {ow : List Nat} {p : Pt} {it : Gv.It} {el : Ex} {Γ : Sl} {ds : List D} (g : D → D) (hi : evI it Γ = .ok ds Γ) (hp : ow.all (fun i => plainM (Γ[i]?.join)) = true)
    (hb : ∀ d ∈ ds, ∃ Γp m Γe, setPt p d (wipeG Γ ow) = some Γp ∧ evE el Γp = .ok m Γe ∧ g d = frz m ∧ wipeG Γe ow = wipeG Γ ow) :
    evE (.lc ow p it .nil el) Γ = .ok (.ml (ds.map g)) Γ := by
  rw [lc_map (fun d => some (g d)) hi hp fun d hd => ?_]
  · rw [List.filterMap_eq_map']
  · obtain ⟨Γp, m, Γe, h1, h2, h3, h4⟩ := hb d hd
    exact ⟨Γp, Γp, true, h1, rfl, .inr ⟨rfl, m, Γe, h2, by rw [h3], h4⟩⟩
end L2.Gv

set_option Elab.async false
set_option linter.all false
set_option maxRecDepth 100000
set_option maxHeartbeats 2000000
namespace L2.Gv.Com
open PySem PySem.Spec PyProof.Rows L2 L2.Gv
/-! # Codes of functions that several laws reach -/
def c__law_cell_at : Sm := (.seq (.ifs (.cmp .Lt (.var 1) (.bi .len (.cons (.var 0) .nil))) (.seq (.ret (.idx (.var 0) (.var 1))) .nil) .nil) (.seq (.ret (.con (.int 0))) .nil))
def F__law_cell_at : Fn := mkFn false 2 2 c__law_cell_at

def c__law_draw : Sm := (.seq (.ifs (.cmp .Gt (.vidx 0 (.con (.int 0))) (.con (.int 0))) (.seq (.asg 2 (.bin .Mod (.vidx 0 (.con (.int 0))) (.var 1))) (.seq (.setI 0 (.con (.int 0)) (.bin .FloorDiv (.vidx 0 (.con (.int 0))) (.var 1))) (.seq (.ret (.mov 2)) .nil))) .nil) (.seq (.setI 0 (.con (.int 2)) (.bin .Add (.vidx 0 (.con (.int 2))) (.con (.int 1)))) (.seq (.asg 3 (.bin .Mod (.bin .Mult (.bin .Add (.vidx 0 (.con (.int 1))) (.bin .Mult (.con (.int 17)) (.vidx 0 (.con (.int 2))))) (.bin .Add (.con (.int 69621)) (.bin .Mult (.con (.int 2)) (.vidx 0 (.con (.int 2)))))) (.con (.int 2147483647)))) (.seq (.asg 3 (.bin .Mod (.bin .Add (.bin .Add (.bin .Mult (.var 3) (.var 3)) (.bin .Mult (.con (.int 40503)) (.vidx 0 (.con (.int 2))))) (.con (.int 5))) (.con (.int 2147483629)))) (.seq (.ret (.bin .Mod (.bin .FloorDiv (.bin .Mod (.bin .Mult (.var 3) (.con (.int 48271))) (.con (.int 2147483647))) (.con (.int 32))) (.var 1))) .nil)))))
def F__law_draw : Fn := mkFn true 2 4 c__law_draw

def c__law_parts : Sm := (.seq (.asg 2 (.lst .nil)) (.seq (.for (.nm 3) (.rng (.cons (.bi .len (.cons (.var 1) .nil)) .nil)) (.seq (.asg 4 (.lc [5] (.nm 5) (.rng (.cons (.vlen 2) .nil)) (.cons (.cmp .NotIn (.idx (.var 1) (.var 3)) (.lc [6] (.nm 6) (.seq (.vidx 2 (.var 5))) .nil (.idx (.var 1) (.var 6)))) .nil) (.var 5))) (.seq (.asg 7 (.cio (Str.ofString "_law_draw") F__law_draw 0 (.cons (.bin .Add (.bi .len (.cons (.var 4) .nil)) (.con (.int 2))) .nil))) (.seq (.ifs (.cmp .Lt (.var 7) (.bi .len (.cons (.var 4) .nil))) (.seq (.setI 2 (.idx (.var 4) (.var 7)) (.bin .Add (.vidx 2 (.idx (.var 4) (.var 7))) (.tup (.cons (.var 3) .nil)))) .nil) (.seq (.app 2 (.tup (.cons (.var 3) .nil))) .nil)) .nil)))) (.seq (.ret (.bi .tuple (.cons (.bi .sorted (.cons (.var 2) .nil)) .nil))) .nil)))
def F__law_parts : Fn := mkFn true 2 8 c__law_parts

def c__law_pen : Sm := (.seq (.ret (.lst (.cons (.bi .max (.cons (.con (.int 0)) (.cons (.bin .Sub (.var 0) (.bin .Pow (.con (.int 10)) (.con (.int 18)))) .nil))) (.cons (.bin .Mod (.var 0) (.con (.int 1000000007))) (.cons (.con (.int 0)) .nil))))) .nil)
def F__law_pen : Fn := mkFn false 1 1 c__law_pen

def c__law_size : Sm := (.seq (.ret (.idx (.tup (.cons (.con (.int 3)) (.cons (.con (.int 4)) (.cons (.con (.int 5)) (.cons (.con (.int 6)) (.cons (.con (.int 4)) (.cons (.con (.int 5)) (.cons (.con (.int 7)) (.cons (.con (.int 2)) (.cons (.con (.int 1)) (.cons (.con (.int 8)) (.cons (.con (.int 9)) .nil)))))))))))) (.cio (Str.ofString "_law_draw") F__law_draw 0 (.cons (.con (.int 11)) .nil)))) .nil)
def F__law_size : Fn := mkFn true 1 1 c__law_size

def c__law_table : Sm := (.seq (.asg 2 (.lcm [3] (.nm 3) (.seq (.var 0)) (.bin .Mult (.lst (.cons (.con .none) .nil)) (.bin .Add (.bi .max (.cons (.var 0) .nil)) (.con (.int 1)))))) (.seq (.for (.nm 4) (.seq (.var 1)) (.seq (.for (.nm 3) (.seq (.var 4)) (.seq (.for (.nm 5) (.seq (.var 4)) (.seq (.setII 2 (.var 3) (.idx (.var 0) (.var 5)) (.var 5)) .nil)) .nil)) .nil)) (.seq (.ret (.bi .tuple (.cons (.lc [6] (.nm 6) (.seq (.var 2)) .nil (.bi .tuple (.cons (.var 6) .nil))) .nil))) .nil)))
def F__law_table : Fn := mkFn false 2 7 c__law_table

def c__law_view_of : Sm := (.seq (.asg 3 (.lc [4] (.nm 4) (.rng (.cons (.var 1) .nil)) .nil (.cio (Str.ofString "_law_draw") F__law_draw 0 (.cons (.var 2) .nil)))) (.seq (.asg 5 (.lst .nil)) (.seq (.for (.nm 6) (.seq (.var 3)) (.seq (.ifs (.vin true (.var 6) 5) (.seq (.app 5 (.var 6)) .nil) .nil) .nil)) (.seq (.ifs (.cmp .Eq (.cio (Str.ofString "_law_draw") F__law_draw 0 (.cons (.con (.int 2)) .nil)) (.con (.int 0))) (.seq (.asg 5 (.rev (.var 5))) .nil) .nil) (.seq (.ret (.bi .tuple (.cons (.lc [6] (.nm 6) (.seq (.var 3)) .nil (.vmth .index 5 (.cons (.var 6) .nil))) .nil))) .nil)))))
def F__law_view_of : Fn := mkFn true 3 7 c__law_view_of

def c__law_wrote : Sm := (.seq (.ifs (.isN (.var 1)) (.seq (.ret (.con .none)) .nil) .nil) (.seq (.ret (.idx (.idx (.var 0) (.var 1)) (.var 2))) .nil))
def F__law_wrote : Fn := mkFn false 3 3 c__law_wrote

def c_is_whole : Sm := (.seq (.ret (.and (.cons (.isi (.var 0) .int) (.cons (.not (.isi (.var 0) .bool)) .nil)))) .nil)
def F_is_whole : Fn := mkFn false 1 1 c_is_whole

def c_is_among : Sm := (.seq (.ret (.and (.cons (.call (Str.ofString "is_whole") F_is_whole (.cons (.var 0) .nil)) (.cons (.chn .LtE .Lt (.con (.int 0)) (.var 0) (.var 1)) .nil)))) .nil)
def F_is_among : Fn := mkFn false 2 2 c_is_among

def c_is_row : Sm := (.seq (.ret (.and (.cons (.isi (.var 0) .tuple) (.cons (.chn .LtE .LtE (.var 1) (.bi .len (.cons (.var 0) .nil)) (.var 2)) .nil)))) .nil)
def F_is_row : Fn := mkFn false 3 3 c_is_row

def c_is_view : Sm := (.seq (.ifs (.or (.cons (.not (.call (Str.ofString "is_row") F_is_row (.cons (.var 0) (.cons (.con (.int 1)) (.cons (.glb (Str.ofString "MOST_STATES") (.int 9)) .nil))))) (.cons (.not (.bi .all (.cons (.lc [1] (.nm 1) (.seq (.var 0)) .nil (.call (Str.ofString "is_among") F_is_among (.cons (.var 1) (.cons (.bi .len (.cons (.var 0) .nil)) .nil)))) .nil))) .nil))) (.seq (.ret (.con (.bool false))) .nil) .nil) (.seq (.ret (.bi .all (.cons (.lc [1] (.nm 1) (.rng (.cons (.bi .max (.cons (.var 0) .nil)) .nil)) .nil (.cmp .In (.var 1) (.var 0))) .nil))) .nil))
def F_is_view : Fn := mkFn false 1 2 c_is_view

def c_many_values : Sm := (.seq (.ret (.bin .Add (.bi .max (.cons (.var 0) .nil)) (.con (.int 1)))) .nil)
def F_many_values : Fn := mkFn false 1 1 c_many_values

def c_broken_by : Sm := (.seq (.for (.tp [.nm 2, .nm 3]) (.enm (.var 0)) (.seq (.ifs (.cmp .NotEq (.idx (.idx (.var 1) (.var 2)) (.var 3)) (.var 2)) (.seq (.ret (.tup (.cons (.glb (Str.ofString "STAY") (.str (Str.ofString "stay"))) (.cons (.var 2) .nil)))) .nil) .nil) .nil)) (.seq (.for (.tp [.nm 2, .nm 4]) (.enm (.var 1)) (.seq (.for (.tp [.nm 3, .nm 5]) (.enm (.var 4)) (.seq (.ifs (.and (.cons (.notN (.var 5)) (.cons (.cmp .NotEq (.idx (.var 0) (.var 5)) (.var 3)) .nil))) (.seq (.ret (.tup (.cons (.glb (Str.ofString "SHOWN") (.str (Str.ofString "shown"))) (.cons (.var 2) (.cons (.var 3) .nil))))) .nil) .nil) .nil)) .nil)) (.seq (.for (.tp [.nm 2, .nm 4]) (.enm (.var 1)) (.seq (.for (.tp [.nm 3, .nm 5]) (.enm (.var 4)) (.seq (.ifs (.notN (.var 5)) (.seq (.for (.nm 6) (.rng (.cons (.bi .len (.cons (.var 4) .nil)) .nil)) (.seq (.ifs (.cmp .NotEq (.idx (.idx (.var 1) (.var 5)) (.var 6)) (.idx (.var 4) (.var 6))) (.seq (.ret (.tup (.cons (.glb (Str.ofString "FORGET") (.str (Str.ofString "forget"))) (.cons (.var 2) (.cons (.var 3) (.cons (.var 6) .nil)))))) .nil) .nil) .nil)) .nil) .nil) .nil)) .nil)) (.seq (.ret (.con .none)) .nil))))
def F_broken_by : Fn := mkFn false 2 7 c_broken_by

def c_is_entry : Sm := (.seq (.ret (.or (.cons (.isN (.var 1)) (.cons (.call (Str.ofString "is_among") F_is_among (.cons (.var 1) (.cons (.bi .len (.cons (.var 0) .nil)) .nil))) .nil)))) .nil)
def F_is_entry : Fn := mkFn false 2 2 c_is_entry

def c_is_table_by : Sm := (.seq (.asgP [.nm 2, .nm 3] (.tup (.cons (.bi .len (.cons (.var 0) .nil)) (.cons (.call (Str.ofString "many_values") F_many_values (.cons (.var 0) .nil)) .nil)))) (.seq (.ifs (.or (.cons (.not (.call (Str.ofString "is_row") F_is_row (.cons (.var 1) (.cons (.var 2) (.cons (.var 2) .nil))))) (.cons (.not (.bi .all (.cons (.lc [4] (.nm 4) (.seq (.var 1)) .nil (.call (Str.ofString "is_row") F_is_row (.cons (.var 4) (.cons (.var 3) (.cons (.var 3) .nil))))) .nil))) .nil))) (.seq (.ret (.con (.bool false))) .nil) .nil) (.seq (.ret (.bi .all (.cons (.lc [4] (.nm 4) (.seq (.var 1)) .nil (.bi .all (.cons (.lc [5] (.nm 5) (.seq (.var 4)) .nil (.call (Str.ofString "is_entry") F_is_entry (.cons (.var 0) (.cons (.var 5) .nil)))) .nil))) .nil))) .nil)))
def F_is_table_by : Fn := mkFn false 2 6 c_is_table_by

def c_need_view : Sm := (.seq (.ifs (.not (.call (Str.ofString "is_view") F_is_view (.cons (.var 0) .nil))) (.seq (.rais (Str.ofString "NoView")) .nil) .nil) .nil)
def F_need_view : Fn := mkFn false 1 1 c_need_view

def c_need_table : Sm := (.seq (.exp (.call (Str.ofString "need_view") F_need_view (.cons (.var 0) .nil))) (.seq (.ifs (.not (.call (Str.ofString "is_table_by") F_is_table_by (.cons (.var 0) (.cons (.var 1) .nil)))) (.seq (.rais (Str.ofString "NoTable")) .nil) .nil) .nil))
def F_need_table : Fn := mkFn false 2 2 c_need_table

def c_broken : Sm := (.seq (.exp (.call (Str.ofString "need_table") F_need_table (.cons (.var 0) (.cons (.var 1) .nil)))) (.seq (.ret (.call (Str.ofString "broken_by") F_broken_by (.cons (.var 0) (.cons (.var 1) .nil)))) .nil))
def F_broken : Fn := mkFn false 2 2 c_broken

def c_need_sound : Sm := (.seq (.ifs (.notN (.call (Str.ofString "broken") F_broken (.cons (.var 0) (.cons (.var 1) .nil)))) (.seq (.rais (Str.ofString "NotSound")) .nil) .nil) .nil)
def F_need_sound : Fn := mkFn false 2 2 c_need_sound

def c_chain : Sm := (.seq (.exp (.call (Str.ofString "need_sound") F_need_sound (.cons (.var 0) (.cons (.var 1) .nil)))) (.seq (.ifs (.or (.cons (.not (.call (Str.ofString "is_view") F_is_view (.cons (.var 2) .nil))) (.cons (.cmp .NotEq (.bi .len (.cons (.var 2) .nil)) (.call (Str.ofString "many_values") F_many_values (.cons (.var 0) .nil))) .nil))) (.seq (.rais (Str.ofString "NoView")) .nil) .nil) (.seq (.exp (.call (Str.ofString "need_sound") F_need_sound (.cons (.var 2) (.cons (.var 3) .nil)))) (.seq (.asg 4 (.lst .nil)) (.seq (.for (.tp [.nm 5, .nm 6]) (.enm (.var 0)) (.seq (.asg 7 (.idx (.var 3) (.var 6))) (.seq (.app 4 (.bi .tuple (.cons (.lc [8] (.nm 8) (.seq (.var 7)) .nil (.ifx (.isN (.var 8)) (.con .none) (.idx (.idx (.var 1) (.var 5)) (.var 8)))) .nil))) .nil))) (.seq (.ret (.tup (.cons (.bi .tuple (.cons (.lc [6] (.nm 6) (.seq (.var 0)) .nil (.idx (.var 2) (.var 6))) .nil)) (.cons (.bi .tuple (.cons (.var 4) .nil)) .nil)))) .nil))))))
def F_chain : Fn := mkFn false 4 9 c_chain

def c__law_moved : Sm := (.seq (.for (.nm 2) (.rng (.cons (.bi .len (.cons (.idx (.var 0) (.con (.int 0))) .nil)) .nil)) (.seq (.for (.nm 3) (.rng (.cons (.bin .Add (.bi .max (.cons (.idx (.var 0) (.con (.int 0))) .nil)) (.con (.int 1))) .nil)) (.seq (.asg 4 (.idx (.idx (.idx (.var 0) (.con (.int 1))) (.var 2)) (.var 3))) (.seq (.ifs (.and (.cons (.notN (.var 4)) (.cons (.cmp .NotEq (.idx (.idx (.var 1) (.con (.int 0))) (.var 4)) (.idx (.idx (.var 1) (.con (.int 0))) (.var 2))) .nil))) (.seq (.ret (.tup (.cons (.var 2) (.cons (.var 3) .nil)))) .nil) .nil) .nil))) .nil)) (.seq (.ret (.con .none)) .nil))
def F__law_moved : Fn := mkFn false 2 5 c__law_moved

def c__law_dependence : Sm := (.seq (.asg 2 (.call (Str.ofString "_law_moved") F__law_moved (.cons (.var 0) (.cons (.var 1) .nil)))) (.seq (.ifs (.notN (.var 2)) (.seq (.ret (.bin .Add (.tup (.cons (.con (.str (Str.ofString "moves"))) (.cons (.con (.int 0)) .nil))) (.var 2))) .nil) .nil) (.seq (.asg 3 (.call (Str.ofString "_law_moved") F__law_moved (.cons (.var 1) (.cons (.var 0) .nil)))) (.seq (.ifs (.notN (.var 3)) (.seq (.ret (.bin .Add (.tup (.cons (.con (.str (Str.ofString "moves"))) (.cons (.con (.int 1)) .nil))) (.var 3))) .nil) .nil) (.seq (.for (.nm 4) (.rng (.cons (.bi .len (.cons (.idx (.var 0) (.con (.int 0))) .nil)) .nil)) (.seq (.for (.nm 5) (.rng (.cons (.bin .Add (.bi .max (.cons (.idx (.var 0) (.con (.int 0))) .nil)) (.con (.int 1))) .nil)) (.seq (.for (.nm 6) (.rng (.cons (.bin .Add (.bi .max (.cons (.idx (.var 1) (.con (.int 0))) .nil)) (.con (.int 1))) .nil)) (.seq (.asg 7 (.call (Str.ofString "_law_wrote") F__law_wrote (.cons (.idx (.var 1) (.con (.int 1))) (.cons (.call (Str.ofString "_law_wrote") F__law_wrote (.cons (.idx (.var 0) (.con (.int 1))) (.cons (.var 4) (.cons (.var 5) .nil)))) (.cons (.var 6) .nil))))) (.seq (.asg 8 (.call (Str.ofString "_law_wrote") F__law_wrote (.cons (.idx (.var 0) (.con (.int 1))) (.cons (.call (Str.ofString "_law_wrote") F__law_wrote (.cons (.idx (.var 1) (.con (.int 1))) (.cons (.var 4) (.cons (.var 6) .nil)))) (.cons (.var 5) .nil))))) (.seq (.ifs (.cmp .NotEq (.var 7) (.var 8)) (.seq (.ret (.tup (.cons (.con (.str (Str.ofString "order"))) (.cons (.var 4) (.cons (.var 5) (.cons (.var 6) .nil)))))) .nil) .nil) .nil)))) .nil)) .nil)) (.seq (.ret (.con .none)) .nil))))))
def F__law_dependence : Fn := mkFn false 2 9 c__law_dependence

def c__law_shuffled : Sm := (.seq (.asg 2 (.bi .list (.cons (.var 1) .nil))) (.seq (.asg 3 (.lst .nil)) (.seq (.whl 1000 (.cmp .NotEq (.var 2) (.lst .nil)) (.seq (.asg 4 (.cio (Str.ofString "_law_draw") F__law_draw 0 (.cons (.bi .len (.cons (.var 2) .nil)) .nil))) (.seq (.app 3 (.idx (.var 2) (.var 4))) (.seq (.asg 2 (.bin .Add (.slc (.var 2) .nil (.cons (.var 4) .nil)) (.slc (.var 2) (.cons (.bin .Add (.var 4) (.con (.int 1))) .nil) .nil))) .nil)))) (.seq (.ret (.mov 3)) .nil))))
def F__law_shuffled : Fn := mkFn true 2 5 c__law_shuffled

def c__law_blocks : Sm := (.seq (.asg 1 (.lst .nil)) (.seq (.for (.nm 2) (.rng (.cons (.con (.int 3)) .nil)) (.seq (.asg 3 (.bin .Add (.con (.int 1)) (.cio (Str.ofString "_law_draw") F__law_draw 0 (.cons (.con (.int 3)) .nil)))) (.seq (.asg 4 (.bin .Add (.con (.int 1)) (.cio (Str.ofString "_law_draw") F__law_draw 0 (.cons (.con (.int 3)) .nil)))) (.seq (.ifs (.cmp .LtE (.bin .Add (.vlen 1) (.bin .Mult (.var 3) (.var 4))) (.con (.int 9))) (.seq (.for (.nm 5) (.rng (.cons (.var 3) .nil)) (.seq (.for (.nm 6) (.rng (.cons (.var 4) .nil)) (.seq (.app 1 (.tup (.cons (.var 2) (.cons (.var 5) (.cons (.var 6) .nil))))) .nil)) .nil)) .nil) .nil) .nil)))) (.seq (.ret (.cio (Str.ofString "_law_shuffled") F__law_shuffled 0 (.cons (.var 1) .nil))) .nil)))
def F__law_blocks : Fn := mkFn true 1 7 c__law_blocks

def c__law_parts_within : Sm := (.seq (.asg 3 (.lst .nil)) (.seq (.for (.nm 4) (.rng (.cons (.bi .len (.cons (.var 1) .nil)) .nil)) (.seq (.asg 5 (.lc [6] (.nm 6) (.rng (.cons (.vlen 3) .nil)) (.cons (.cmp .Eq (.idx (.var 2) (.idx (.vidx 3 (.var 6)) (.con (.int 0)))) (.idx (.var 2) (.var 4))) .nil) (.var 6))) (.seq (.asg 7 (.lc [6] (.nm 6) (.seq (.var 5)) (.cons (.cmp .NotIn (.idx (.var 1) (.var 4)) (.lc [8] (.nm 8) (.seq (.vidx 3 (.var 6))) .nil (.idx (.var 1) (.var 8)))) .nil) (.var 6))) (.seq (.asg 9 (.cio (Str.ofString "_law_draw") F__law_draw 0 (.cons (.bin .Add (.bi .len (.cons (.var 7) .nil)) (.con (.int 2))) .nil))) (.seq (.ifs (.cmp .Lt (.var 9) (.bi .len (.cons (.var 7) .nil))) (.seq (.setI 3 (.idx (.var 7) (.var 9)) (.bin .Add (.vidx 3 (.idx (.var 7) (.var 9))) (.tup (.cons (.var 4) .nil)))) .nil) (.seq (.app 3 (.tup (.cons (.var 4) .nil))) .nil)) .nil))))) (.seq (.ret (.bi .tuple (.cons (.bi .sorted (.cons (.var 3) .nil)) .nil))) .nil)))
def F__law_parts_within : Fn := mkFn true 3 10 c__law_parts_within

def c__law_groups : Sm := (.seq (.asg 3 (.lst .nil)) (.seq (.for (.nm 4) (.rng (.cons (.bi .len (.cons (.var 0) .nil)) .nil)) (.seq (.asg 5 (.tup (.cons (.idx (.idx (.var 0) (.var 4)) (.var 1)) (.cons (.idx (.idx (.var 0) (.var 4)) (.var 2)) .nil)))) (.seq (.asg 6 (.bi .tuple (.cons (.lc [7] (.nm 7) (.rng (.cons (.bi .len (.cons (.var 0) .nil)) .nil)) (.cons (.cmp .Eq (.tup (.cons (.idx (.idx (.var 0) (.var 7)) (.var 1)) (.cons (.idx (.idx (.var 0) (.var 7)) (.var 2)) .nil))) (.var 5)) .nil) (.var 7)) .nil))) (.seq (.ifs (.vin true (.var 6) 3) (.seq (.app 3 (.var 6)) .nil) .nil) .nil)))) (.seq (.ret (.bi .tuple (.cons (.bi .sorted (.cons (.var 3) .nil)) .nil))) .nil)))
def F__law_groups : Fn := mkFn false 3 8 c__law_groups

def c__law_rows_and_columns : Sm := (.seq (.asg 1 (.bi .tuple (.cons (.lc [2] (.nm 2) (.seq (.var 0)) .nil (.idx (.var 2) (.con (.int 1)))) .nil))) (.seq (.asg 3 (.bi .tuple (.cons (.lc [2] (.nm 2) (.seq (.var 0)) .nil (.idx (.var 2) (.con (.int 2)))) .nil))) (.seq (.asg 4 (.tup (.cons (.var 1) (.cons (.call (Str.ofString "_law_table") F__law_table (.cons (.var 1) (.cons (.call (Str.ofString "_law_groups") F__law_groups (.cons (.var 0) (.cons (.con (.int 0)) (.cons (.con (.int 2)) .nil)))) .nil))) .nil)))) (.seq (.asg 5 (.tup (.cons (.var 3) (.cons (.call (Str.ofString "_law_table") F__law_table (.cons (.var 3) (.cons (.call (Str.ofString "_law_groups") F__law_groups (.cons (.var 0) (.cons (.con (.int 0)) (.cons (.con (.int 1)) .nil)))) .nil))) .nil)))) (.seq (.ret (.lst (.cons (.var 4) (.cons (.var 5) .nil)))) .nil)))))
def F__law_rows_and_columns : Fn := mkFn false 1 6 c__law_rows_and_columns

def c__law_two : Sm := (.seq (.asg 1 (.cio (Str.ofString "_law_draw") F__law_draw 0 (.cons (.con (.int 4)) .nil))) (.seq (.ifs (.cmp .Eq (.var 1) (.con (.int 0))) (.seq (.ret (.call (Str.ofString "_law_rows_and_columns") F__law_rows_and_columns (.cons (.cio (Str.ofString "_law_blocks") F__law_blocks 0 .nil) .nil))) .nil) .nil) (.seq (.asg 2 (.cio (Str.ofString "_law_size") F__law_size 0 .nil)) (.seq (.asg 3 (.cio (Str.ofString "_law_view_of") F__law_view_of 0 (.cons (.var 2) (.cons (.bin .Add (.con (.int 2)) (.cio (Str.ofString "_law_draw") F__law_draw 0 (.cons (.con (.int 2)) .nil))) .nil)))) (.seq (.asg 4 (.cio (Str.ofString "_law_view_of") F__law_view_of 0 (.cons (.var 2) (.cons (.bin .Add (.con (.int 2)) (.cio (Str.ofString "_law_draw") F__law_draw 0 (.cons (.con (.int 2)) .nil))) .nil)))) (.seq (.ifs (.cmp .Eq (.var 1) (.con (.int 1))) (.seq (.asg 5 (.tup (.cons (.var 3) (.cons (.call (Str.ofString "_law_table") F__law_table (.cons (.var 3) (.cons (.cio (Str.ofString "_law_parts") F__law_parts 0 (.cons (.var 3) .nil)) .nil))) .nil)))) (.seq (.ret (.lst (.cons (.var 5) (.cons (.tup (.cons (.var 4) (.cons (.call (Str.ofString "_law_table") F__law_table (.cons (.var 4) (.cons (.cio (Str.ofString "_law_parts") F__law_parts 0 (.cons (.var 4) .nil)) .nil))) .nil))) .nil)))) .nil)) .nil) (.seq (.asg 5 (.tup (.cons (.var 3) (.cons (.call (Str.ofString "_law_table") F__law_table (.cons (.var 3) (.cons (.cio (Str.ofString "_law_parts_within") F__law_parts_within 0 (.cons (.var 3) (.cons (.var 4) .nil))) .nil))) .nil)))) (.seq (.ret (.lst (.cons (.var 5) (.cons (.tup (.cons (.var 4) (.cons (.call (Str.ofString "_law_table") F__law_table (.cons (.var 4) (.cons (.cio (Str.ofString "_law_parts_within") F__law_parts_within 0 (.cons (.var 4) (.cons (.var 3) .nil))) .nil))) .nil))) .nil)))) .nil))))))))
def F__law_two : Fn := mkFn true 1 6 c__law_two

def c_moved_by : Sm := (.seq (.asgP [.nm 2, .nm 3] (.var 0)) (.seq (.for (.tp [.nm 4, .nm 5]) (.enm (.var 3)) (.seq (.for (.tp [.nm 6, .nm 7]) (.enm (.var 5)) (.seq (.ifs (.and (.cons (.notN (.var 7)) (.cons (.cmp .NotEq (.idx (.idx (.var 1) (.con (.int 0))) (.var 7)) (.idx (.idx (.var 1) (.con (.int 0))) (.var 4))) .nil))) (.seq (.ret (.tup (.cons (.var 4) (.cons (.var 6) .nil)))) .nil) .nil) .nil)) .nil)) (.seq (.ret (.con .none)) .nil)))
def F_moved_by : Fn := mkFn false 2 8 c_moved_by

def c_is_pair : Sm := (.seq (.ifs (.or (.cons (.not (.call (Str.ofString "is_row") F_is_row (.cons (.var 0) (.cons (.con (.int 2)) (.cons (.con (.int 2)) .nil))))) (.cons (.not (.call (Str.ofString "is_view") F_is_view (.cons (.idx (.var 0) (.con (.int 0))) .nil))) (.cons (.not (.call (Str.ofString "is_table_by") F_is_table_by (.cons (.idx (.var 0) (.con (.int 0))) (.cons (.idx (.var 0) (.con (.int 1))) .nil)))) .nil)))) (.seq (.ret (.con (.bool false))) .nil) .nil) (.seq (.ret (.isN (.call (Str.ofString "broken_by") F_broken_by (.cons (.idx (.var 0) (.con (.int 0))) (.cons (.idx (.var 0) (.con (.int 1))) .nil))))) .nil))
def F_is_pair : Fn := mkFn false 1 1 c_is_pair

def c_need_pairs : Sm := (.seq (.ifs (.or (.cons (.not (.chn .LtE .LtE (.con (.int 1)) (.bi .len (.cons (.var 0) .nil)) (.glb (Str.ofString "MOST_PAIRS") (.int 4)))) (.cons (.not (.bi .all (.cons (.lc [1] (.nm 1) (.seq (.var 0)) .nil (.call (Str.ofString "is_pair") F_is_pair (.cons (.var 1) .nil))) .nil))) .nil))) (.seq (.rais (Str.ofString "NoPairs")) .nil) .nil) (.seq (.ifs (.bi .any (.cons (.lc [1] (.nm 1) (.seq (.var 0)) .nil (.cmp .NotEq (.bi .len (.cons (.idx (.var 1) (.con (.int 0))) .nil)) (.bi .len (.cons (.idx (.idx (.var 0) (.con (.int 0))) (.con (.int 0))) .nil)))) .nil)) (.seq (.rais (Str.ofString "NoPairs")) .nil) .nil) .nil))
def F_need_pairs : Fn := mkFn false 1 2 c_need_pairs

def c_written : Sm := (.seq (.ret (.ifx (.isN (.var 1)) (.con .none) (.idx (.idx (.var 0) (.var 1)) (.var 2)))) .nil)
def F_written : Fn := mkFn false 3 3 c_written

def c_order_of : Sm := (.seq (.for (.nm 2) (.rng (.cons (.bi .len (.cons (.idx (.var 0) (.con (.int 0))) .nil)) .nil)) (.seq (.for (.nm 3) (.rng (.cons (.call (Str.ofString "many_values") F_many_values (.cons (.idx (.var 0) (.con (.int 0))) .nil)) .nil)) (.seq (.for (.nm 4) (.rng (.cons (.call (Str.ofString "many_values") F_many_values (.cons (.idx (.var 1) (.con (.int 0))) .nil)) .nil)) (.seq (.asg 5 (.call (Str.ofString "written") F_written (.cons (.idx (.var 1) (.con (.int 1))) (.cons (.call (Str.ofString "written") F_written (.cons (.idx (.var 0) (.con (.int 1))) (.cons (.var 2) (.cons (.var 3) .nil)))) (.cons (.var 4) .nil))))) (.seq (.asg 6 (.call (Str.ofString "written") F_written (.cons (.idx (.var 0) (.con (.int 1))) (.cons (.call (Str.ofString "written") F_written (.cons (.idx (.var 1) (.con (.int 1))) (.cons (.var 2) (.cons (.var 4) .nil)))) (.cons (.var 3) .nil))))) (.seq (.ifs (.cmp .NotEq (.var 5) (.var 6)) (.seq (.ret (.tup (.cons (.var 2) (.cons (.var 3) (.cons (.var 4) .nil))))) .nil) .nil) .nil)))) .nil)) .nil)) (.seq (.ret (.con .none)) .nil))
def F_order_of : Fn := mkFn false 2 7 c_order_of

def c_dependence : Sm := (.seq (.exp (.call (Str.ofString "need_pairs") F_need_pairs (.cons (.tup (.cons (.var 0) (.cons (.var 1) .nil))) .nil))) (.seq (.for (.tp [.nm 2, .tp [3, 4]]) (.enm (.tup (.cons (.tup (.cons (.var 0) (.cons (.var 1) .nil))) (.cons (.tup (.cons (.var 1) (.cons (.var 0) .nil))) .nil)))) (.seq (.asg 5 (.call (Str.ofString "moved_by") F_moved_by (.cons (.var 3) (.cons (.var 4) .nil)))) (.seq (.ifs (.notN (.var 5)) (.seq (.ret (.bin .Add (.tup (.cons (.glb (Str.ofString "MOVES") (.str (Str.ofString "moves"))) (.cons (.var 2) .nil))) (.var 5))) .nil) .nil) .nil))) (.seq (.asg 5 (.call (Str.ofString "order_of") F_order_of (.cons (.var 0) (.cons (.var 1) .nil)))) (.seq (.ret (.ifx (.isN (.var 5)) (.con .none) (.bin .Add (.tup (.cons (.glb (Str.ofString "ORDER") (.str (Str.ofString "order"))) .nil)) (.var 5)))) .nil))))
def F_dependence : Fn := mkFn false 2 6 c_dependence

def c__law_is_turned : Sm := (.seq (.ifs (.or (.cons (.isN (.var 0)) (.cons (.isN (.var 1)) .nil))) (.seq (.ret (.and (.cons (.isN (.var 0)) (.cons (.isN (.var 1)) .nil)))) .nil) .nil) (.seq (.ifs (.or (.cons (.cmp .Eq (.idx (.var 0) (.con (.int 0))) (.con (.str (Str.ofString "order")))) (.cons (.cmp .Eq (.idx (.var 1) (.con (.int 0))) (.con (.str (Str.ofString "order")))) .nil))) (.seq (.ret (.and (.cons (.cmp .Eq (.idx (.var 0) (.con (.int 0))) (.idx (.var 1) (.con (.int 0)))) (.cons (.cmp .Eq (.idx (.var 0) (.con (.int 1))) (.idx (.var 1) (.con (.int 1)))) .nil)))) .nil) .nil) (.seq (.ifs (.cmp .Eq (.idx (.var 0) (.con (.int 1))) (.con (.int 1))) (.seq (.ret (.cmp .Eq (.bi .repr (.cons (.var 1) .nil)) (.bi .repr (.cons (.bin .Add (.tup (.cons (.con (.str (Str.ofString "moves"))) (.cons (.con (.int 0)) .nil))) (.slc (.var 0) (.cons (.con (.int 2)) .nil) .nil)) .nil)))) .nil) .nil) (.seq (.ret (.or (.cons (.cmp .Eq (.idx (.var 1) (.con (.int 1))) (.con (.int 0))) (.cons (.cmp .Eq (.bi .repr (.cons (.var 1) .nil)) (.bi .repr (.cons (.bin .Add (.tup (.cons (.con (.str (Str.ofString "moves"))) (.cons (.con (.int 1)) .nil))) (.slc (.var 0) (.cons (.con (.int 2)) .nil) .nil)) .nil))) .nil)))) .nil))))
def F__law_is_turned : Fn := mkFn false 2 2 c__law_is_turned

def c__law_place : Sm := (.seq (.ret (.mth .index (.lc [2] (.nm 2) (.seq (.var 0)) .nil (.cmp .In (.var 1) (.var 2))) (.cons (.con (.bool true)) .nil))) .nil)
def F__law_place : Fn := mkFn false 2 3 c__law_place

def c_parts_by : Sm := (.seq (.asg 1 (.bi .dict (.cons (.lc [3] (.nm 3) (.seq (.var 0)) .nil (.tup (.cons (.bi .tuple (.cons (.bi .sorted (.cons (.lc [2] (.nm 2) (.seq (.var 3)) (.cons (.notN (.var 2)) .nil) (.var 2)) .nil)) .nil)) (.cons (.con (.bool true)) .nil)))) .nil))) (.seq (.ret (.bi .tuple (.cons (.bi .sorted (.cons (.var 1) .nil)) .nil))) .nil))
def F_parts_by : Fn := mkFn false 1 4 c_parts_by

def c_parts_of : Sm := (.seq (.exp (.call (Str.ofString "need_sound") F_need_sound (.cons (.var 0) (.cons (.var 1) .nil)))) (.seq (.ret (.call (Str.ofString "parts_by") F_parts_by (.cons (.var 1) .nil))) .nil))
def F_parts_of : Fn := mkFn false 2 2 c_parts_of

def c__law_every_view : Sm := (.seq (.asg 2 (.bin .Add (.con (.int 1)) (.cio (Str.ofString "_law_draw") F__law_draw 0 (.cons (.var 1) .nil)))) (.seq (.asg 3 (.bin .Add (.con (.int 1)) (.cio (Str.ofString "_law_draw") F__law_draw 0 (.cons (.var 2) .nil)))) (.seq (.asg 4 (.bin .Add (.lrng (.cons (.var 3) .nil)) (.lc [5] (.nm 5) (.rng (.cons (.bin .Sub (.var 2) (.var 3)) .nil)) .nil (.cio (Str.ofString "_law_draw") F__law_draw 0 (.cons (.var 3) .nil))))) (.seq (.ret (.bi .tuple (.cons (.lc [5] (.nm 5) (.rng (.cons (.var 2) .nil)) .nil (.vpop 4 (.cio (Str.ofString "_law_draw") F__law_draw 0 (.cons (.vlen 4) .nil)))) .nil))) .nil))))
def F__law_every_view : Fn := mkFn true 2 6 c__law_every_view

def c__law_whole : Sm := (.seq (.ret (.and (.cons (.isi (.var 0) .int) (.cons (.not (.isi (.var 0) .bool)) .nil)))) .nil)
def F__law_whole : Fn := mkFn false 1 1 c__law_whole

def c__law_row : Sm := (.seq (.ret (.and (.cons (.isi (.var 0) .tuple) (.cons (.bi .all (.cons (.lc [1] (.nm 1) (.seq (.var 0)) .nil (.or (.cons (.isN (.var 1)) (.cons (.call (Str.ofString "_law_whole") F__law_whole (.cons (.var 1) .nil)) .nil)))) .nil)) .nil)))) .nil)
def F__law_row : Fn := mkFn false 1 2 c__law_row

def c__law_rows : Sm := (.seq (.ret (.and (.cons (.isi (.var 0) .tuple) (.cons (.bi .all (.cons (.lc [1] (.nm 1) (.seq (.var 0)) .nil (.call (Str.ofString "_law_row") F__law_row (.cons (.var 1) .nil))) .nil)) .nil)))) .nil)
def F__law_rows : Fn := mkFn false 1 2 c__law_rows

def c_places_of : Sm := (.seq (.asg 2 (.bin .Mult (.lst (.cons (.con (.int 0)) .nil)) (.var 0))) (.seq (.for (.tp [.nm 3, .nm 4]) (.enm (.var 1)) (.seq (.for (.nm 5) (.seq (.var 4)) (.seq (.setI 2 (.var 5) (.var 3)) .nil)) .nil)) (.seq (.ret (.bi .tuple (.cons (.var 2) .nil))) .nil)))
def F_places_of : Fn := mkFn false 2 6 c_places_of

def c_kept_by : Sm := (.seq (.asg 2 (.call (Str.ofString "parts_of") F_parts_of (.cons (.var 0) (.cons (.var 1) .nil)))) (.seq (.ret (.call (Str.ofString "places_of") F_places_of (.cons (.bi .len (.cons (.var 0) .nil)) (.cons (.var 2) .nil)))) .nil))
def F_kept_by : Fn := mkFn false 2 3 c_kept_by

def c_blocks_of : Sm := (.seq (.asg 1 (.lrng (.cons (.call (Str.ofString "many_values") F_many_values (.cons (.var 0) .nil)) .nil))) (.seq (.ret (.bi .tuple (.cons (.lc [4] (.nm 4) (.seq (.var 1)) .nil (.bi .tuple (.cons (.lc [2, 3] (.tp [.nm 2, .nm 3]) (.enm (.var 0)) (.cons (.cmp .Eq (.var 3) (.var 4)) .nil) (.var 2)) .nil))) .nil))) .nil))
def F_blocks_of : Fn := mkFn false 1 5 c_blocks_of

def c_has_twins : Sm := (.seq (.asg 2 (.lc [3] (.nm 3) (.seq (.var 1)) .nil (.idx (.var 0) (.var 3)))) (.seq (.ret (.bi .any (.cons (.lc [4] (.nm 4) (.seq (.var 2)) .nil (.cmp .Gt (.mth .count (.var 2) (.cons (.var 4) .nil)) (.con (.int 1)))) .nil))) .nil))
def F_has_twins : Fn := mkFn false 2 5 c_has_twins

def c_row_by : Sm := (.seq (.asg 2 (.bin .Mult (.lst (.cons (.con .none) .nil)) (.call (Str.ofString "many_values") F_many_values (.cons (.var 0) .nil)))) (.seq (.for (.nm 3) (.seq (.var 1)) (.seq (.setI 2 (.idx (.var 0) (.var 3)) (.var 3)) .nil)) (.seq (.ret (.bi .tuple (.cons (.var 2) .nil))) .nil)))
def F_row_by : Fn := mkFn false 2 4 c_row_by

def c_table_by : Sm := (.seq (.asg 2 (.lc [3] (.nm 3) (.seq (.var 1)) .nil (.call (Str.ofString "row_by") F_row_by (.cons (.var 0) (.cons (.var 3) .nil))))) (.seq (.ret (.bi .tuple (.cons (.lc [4] (.nm 4) (.seq (.call (Str.ofString "places_of") F_places_of (.cons (.bi .len (.cons (.var 0) .nil)) (.cons (.var 1) .nil)))) .nil (.idx (.var 2) (.var 4))) .nil))) .nil))
def F_table_by : Fn := mkFn false 2 5 c_table_by

def c_table_keeping : Sm := (.seq (.exp (.call (Str.ofString "need_view") F_need_view (.cons (.var 0) .nil))) (.seq (.ifs (.or (.cons (.not (.call (Str.ofString "is_view") F_is_view (.cons (.var 1) .nil))) (.cons (.cmp .NotEq (.bi .len (.cons (.var 1) .nil)) (.bi .len (.cons (.var 0) .nil))) .nil))) (.seq (.rais (Str.ofString "NoView")) .nil) .nil) (.seq (.asg 2 (.bi .tuple (.cons (.bi .sorted (.cons (.call (Str.ofString "blocks_of") F_blocks_of (.cons (.var 1) .nil)) .nil)) .nil))) (.seq (.ifs (.bi .any (.cons (.lc [3] (.nm 3) (.seq (.var 2)) .nil (.call (Str.ofString "has_twins") F_has_twins (.cons (.var 0) (.cons (.var 3) .nil)))) .nil)) (.seq (.rais (Str.ofString "Alike")) .nil) .nil) (.seq (.ret (.call (Str.ofString "table_by") F_table_by (.cons (.var 0) (.cons (.var 2) .nil)))) .nil)))))
def F_table_keeping : Fn := mkFn false 2 4 c_table_keeping

def c__law_agree : Sm := (.seq (.ret (.bi .all (.cons (.lc [3] (.nm 3) (.seq (.var 0)) .nil (.cmp .Eq (.idx (.var 3) (.var 1)) (.idx (.var 3) (.var 2)))) .nil))) .nil)
def F__law_agree : Fn := mkFn false 3 4 c__law_agree

def c__law_has_clash : Sm := (.seq (.for (.nm 2) (.seq (.var 1)) (.seq (.for (.nm 3) (.seq (.var 2)) (.seq (.for (.nm 4) (.seq (.var 2)) (.seq (.ifs (.and (.cons (.cmp .NotEq (.var 3) (.var 4)) (.cons (.call (Str.ofString "_law_agree") F__law_agree (.cons (.var 0) (.cons (.var 3) (.cons (.var 4) .nil)))) .nil))) (.seq (.ret (.con (.bool true))) .nil) .nil) .nil)) .nil)) .nil)) (.seq (.ret (.con (.bool false))) .nil))
def F__law_has_clash : Fn := mkFn false 2 5 c__law_has_clash

def c_all_shown : Sm := (.seq (.ret (.bi .tuple (.cons (.lc [2] (.nm 2) (.seq (.var 0)) .nil (.idx (.var 2) (.var 1))) .nil))) .nil)
def F_all_shown : Fn := mkFn false 2 3 c_all_shown

def c_first_of : Sm := (.seq (.ret (.ifx (.cmp .NotEq (.var 0) (.lst .nil)) (.idx (.bi .min (.cons (.lc [1] (.nm 1) (.seq (.var 0)) .nil (.tup (.cons (.bi .len (.cons (.var 1) .nil)) (.cons (.var 1) .nil)))) .nil)) (.con (.int 1))) (.con .none))) .nil)
def F_first_of : Fn := mkFn false 1 2 c_first_of

def c_traces_from : Sm := (.seq (.parM 2 3 (.dsp1 (.var 1) (.tup (.cons (.var 1) .nil))) (.lst (.cons (.var 1) .nil))) (.seq (.whl 1000 (.cmp .NotEq (.var 3) (.lst .nil)) (.seq (.asg 4 (.lst .nil)) (.seq (.for (.nm 5) (.seq (.var 3)) (.seq (.for (.nm 6) (.seq (.idx (.var 0) (.var 5))) (.seq (.ifs (.vdin true (.var 6) 2) (.seq (.dput 2 (.var 6) (.bin .Add (.vdget 2 (.var 5)) (.tup (.cons (.var 6) .nil)))) (.seq (.app 4 (.var 6)) .nil)) .nil) .nil)) .nil)) (.seq (.asg 3 (.mov 4)) .nil)))) (.seq (.ret (.mov 2)) .nil)))
def F_traces_from : Fn := mkFn false 2 7 c_traces_from

def c_clash_in : Sm := (.seq (.asg 2 (.lst .nil)) (.seq (.for (.nm 3) (.rng (.cons (.bi .len (.cons (.var 1) .nil)) .nil)) (.seq (.for (.tp [.nm 4, .nm 5]) (.itm (.lk (.call (Str.ofString "traces_from") F_traces_from (.cons (.var 1) (.cons (.var 3) .nil))))) (.seq (.ifs (.and (.cons (.cmp .NotEq (.var 4) (.var 3)) (.cons (.cmp .Eq (.call (Str.ofString "all_shown") F_all_shown (.cons (.var 0) (.cons (.var 4) .nil))) (.call (Str.ofString "all_shown") F_all_shown (.cons (.var 0) (.cons (.var 3) .nil)))) .nil))) (.seq (.app 2 (.var 5)) .nil) .nil) .nil)) .nil)) (.seq (.ret (.call (Str.ofString "first_of") F_first_of (.cons (.var 2) .nil))) .nil)))
def F_clash_in : Fn := mkFn false 2 6 c_clash_in

def c_shown_tuples : Sm := (.seq (.ret (.bi .sorted (.cons (.bi .dict (.cons (.lc [1] (.nm 1) (.rng (.cons (.bi .len (.cons (.idx (.var 0) (.con (.int 0))) .nil)) .nil)) .nil (.tup (.cons (.call (Str.ofString "all_shown") F_all_shown (.cons (.var 0) (.cons (.var 1) .nil))) (.cons (.con (.bool true)) .nil)))) .nil)) .nil))) .nil)
def F_shown_tuples : Fn := mkFn false 1 2 c_shown_tuples

def c_joined_view : Sm := (.seq (.asg 1 (.call (Str.ofString "shown_tuples") F_shown_tuples (.cons (.var 0) .nil))) (.seq (.ret (.bi .tuple (.cons (.lc [2] (.nm 2) (.rng (.cons (.bi .len (.cons (.idx (.var 0) (.con (.int 0))) .nil)) .nil)) .nil (.mth .index (.var 1) (.cons (.call (Str.ofString "all_shown") F_all_shown (.cons (.var 0) (.cons (.var 2) .nil))) .nil))) .nil))) .nil))
def F_joined_view : Fn := mkFn false 1 3 c_joined_view

def c_linked_parts : Sm := (.seq (.asg 2 (.lrng (.cons (.var 0) .nil))) (.seq (.for (.tp [.nm 3, .nm 4]) (.seq (.var 1)) (.seq (.asgP [.nm 5, .nm 6] (.tup (.cons (.idx (.var 2) (.var 3)) (.cons (.idx (.var 2) (.var 4)) .nil)))) (.seq (.asg 2 (.lc [7] (.nm 7) (.seq (.var 2)) .nil (.ifx (.cmp .Eq (.var 7) (.var 5)) (.var 6) (.var 7)))) .nil))) (.seq (.asg 8 .dspS) (.seq (.for (.tp [.nm 9, .nm 7]) (.enm (.var 2)) (.seq (.sda 8 (.var 7) (.var 9)) .nil)) (.seq (.ret (.bi .tuple (.cons (.bi .sorted (.cons (.lc [10] (.nm 10) (.vls (.lkv 8)) .nil (.bi .tuple (.cons (.var 10) .nil))) .nil)) .nil))) .nil)))))
def F_linked_parts : Fn := mkFn false 2 11 c_linked_parts

def c_links_by : Sm := (.seq (.asg 1 (.lst .nil)) (.seq (.for (.nm 2) (.seq (.var 0)) (.seq (.for (.tp [.nm 3, .nm 4]) (.enm (.var 2)) (.seq (.ext 1 (.lc [5] (.nm 5) (.seq (.var 4)) (.cons (.notN (.var 5)) .nil) (.tup (.cons (.var 3) (.cons (.var 5) .nil))))) .nil)) .nil)) (.seq (.ret (.mov 1)) .nil)))
def F_links_by : Fn := mkFn false 1 6 c_links_by

def c_near_by : Sm := (.seq (.asg 2 (.lst .nil)) (.seq (.for (.nm 3) (.rng (.cons (.var 0) .nil)) (.seq (.asg 4 (.bin .Add (.lc [5, 6] (.tp [.nm 5, .nm 6]) (.seq (.var 1)) (.cons (.cmp .Eq (.var 5) (.var 3)) .nil) (.var 6)) (.lc [5, 6] (.tp [.nm 5, .nm 6]) (.seq (.var 1)) (.cons (.cmp .Eq (.var 6) (.var 3)) .nil) (.var 5)))) (.seq (.app 2 (.lc [6] (.nm 6) (.rng (.cons (.var 0) .nil)) (.cons (.and (.cons (.cmp .In (.var 6) (.var 4)) (.cons (.cmp .NotEq (.var 6) (.var 3)) .nil))) .nil) (.var 6))) .nil))) (.seq (.ret (.mov 2)) .nil)))
def F_near_by : Fn := mkFn false 2 7 c_near_by

def c_joined_by : Sm := (.seq (.asg 1 (.lc [2, 3] (.tp [.nm 2, .nm 3]) (.seq (.var 0)) .nil (.var 2))) (.seq (.parM 4 5 (.call (Str.ofString "links_by") F_links_by (.cons (.lc [2, 3] (.tp [.nm 2, .nm 3]) (.seq (.var 0)) .nil (.var 3)) .nil)) (.bi .len (.cons (.idx (.var 1) (.con (.int 0))) .nil))) (.seq (.asg 6 (.call (Str.ofString "clash_in") F_clash_in (.cons (.var 1) (.cons (.call (Str.ofString "near_by") F_near_by (.cons (.var 5) (.cons (.var 4) .nil))) .nil)))) (.seq (.ifs (.notN (.var 6)) (.seq (.ret (.tup (.cons (.glb (Str.ofString "CLASH") (.str (Str.ofString "clash"))) (.cons (.var 6) .nil)))) .nil) .nil) (.seq (.asg 2 (.call (Str.ofString "joined_view") F_joined_view (.cons (.var 1) .nil))) (.seq (.ret (.tup (.cons (.glb (Str.ofString "TABLE") (.str (Str.ofString "table"))) (.cons (.var 2) (.cons (.call (Str.ofString "table_by") F_table_by (.cons (.var 2) (.cons (.call (Str.ofString "linked_parts") F_linked_parts (.cons (.var 5) (.cons (.var 4) .nil))) .nil))) .nil))))) .nil))))))
def F_joined_by : Fn := mkFn false 1 7 c_joined_by

def c_joined : Sm := (.seq (.exp (.call (Str.ofString "need_pairs") F_need_pairs (.cons (.var 0) .nil))) (.seq (.ret (.call (Str.ofString "joined_by") F_joined_by (.cons (.var 0) .nil))) .nil))
def F_joined : Fn := mkFn false 1 1 c_joined

def c__law_join : Sm := (.seq (.ifs (.cmp .Eq (.bi .len (.cons (.var 0) .nil)) (.con (.int 1))) (.seq (.ret (.call (Str.ofString "joined") (starF 1 F_joined) (.cons (.idx (.var 0) (.con (.int 0))) .nil))) .nil) .nil) (.seq (.ifs (.cmp .Eq (.bi .len (.cons (.var 0) .nil)) (.con (.int 2))) (.seq (.ret (.call (Str.ofString "joined") (starF 2 F_joined) (.cons (.idx (.var 0) (.con (.int 0))) (.cons (.idx (.var 0) (.con (.int 1))) .nil)))) .nil) .nil) (.seq (.ifs (.cmp .Eq (.bi .len (.cons (.var 0) .nil)) (.con (.int 3))) (.seq (.ret (.call (Str.ofString "joined") (starF 3 F_joined) (.cons (.idx (.var 0) (.con (.int 0))) (.cons (.idx (.var 0) (.con (.int 1))) (.cons (.idx (.var 0) (.con (.int 2))) .nil))))) .nil) .nil) (.seq (.ret (.call (Str.ofString "joined") (starF 4 F_joined) (.cons (.idx (.var 0) (.con (.int 0))) (.cons (.idx (.var 0) (.con (.int 1))) (.cons (.idx (.var 0) (.con (.int 2))) (.cons (.idx (.var 0) (.con (.int 3))) .nil)))))) .nil))))
def F__law_join : Fn := mkFn false 1 1 c__law_join

def c__law_linked : Sm := (.seq (.ret (.bi .any (.cons (.lc [3] (.nm 3) (.seq (.var 0)) .nil (.cmp .In (.var 2) (.idx (.var 3) (.var 1)))) .nil))) .nil)
def F__law_linked : Fn := mkFn false 3 4 c__law_linked

def c__law_component : Sm := (.seq (.asg 2 (.lst (.cons (.var 1) .nil))) (.seq (.for (.nm 3) (.rng (.cons (.bi .len (.cons (.idx (.var 0) (.con (.int 0))) .nil)) .nil)) (.seq (.asg 4 (.lst .nil)) (.seq (.for (.nm 5) (.rng (.cons (.bi .len (.cons (.idx (.var 0) (.con (.int 0))) .nil)) .nil)) (.seq (.ifs (.bi .any (.cons (.lc [6] (.nm 6) (.seq (.var 2)) .nil (.call (Str.ofString "_law_linked") F__law_linked (.cons (.var 0) (.cons (.var 6) (.cons (.var 5) .nil))))) .nil)) (.seq (.app 4 (.var 5)) .nil) .nil) .nil)) (.seq (.asg 2 (.mov 4)) .nil)))) (.seq (.ret (.bi .tuple (.cons (.var 2) .nil))) .nil)))
def F__law_component : Fn := mkFn false 2 7 c__law_component

def c__law_joined_parts : Sm := (.seq (.asg 1 (.lst .nil)) (.seq (.for (.nm 2) (.rng (.cons (.bi .len (.cons (.idx (.var 0) (.con (.int 0))) .nil)) .nil)) (.seq (.asg 3 (.call (Str.ofString "_law_component") F__law_component (.cons (.var 0) (.cons (.var 2) .nil)))) (.seq (.ifs (.vin true (.var 3) 1) (.seq (.app 1 (.var 3)) .nil) .nil) .nil))) (.seq (.ret (.bi .tuple (.cons (.bi .sorted (.cons (.var 1) .nil)) .nil))) .nil)))
def F__law_joined_parts : Fn := mkFn false 1 4 c__law_joined_parts

def c__law_joined_view : Sm := (.seq (.asg 1 (.lc [3] (.nm 3) (.rng (.cons (.bi .len (.cons (.idx (.var 0) (.con (.int 0))) .nil)) .nil)) .nil (.bi .tuple (.cons (.lc [2] (.nm 2) (.seq (.var 0)) .nil (.idx (.var 2) (.var 3))) .nil)))) (.seq (.asg 4 (.lst .nil)) (.seq (.for (.nm 5) (.seq (.bi .sorted (.cons (.var 1) .nil))) (.seq (.ifs (.vin true (.var 5) 4) (.seq (.app 4 (.var 5)) .nil) .nil) .nil)) (.seq (.ret (.bi .tuple (.cons (.lc [5] (.nm 5) (.seq (.var 1)) .nil (.vmth .index 4 (.cons (.var 5) .nil))) .nil))) .nil))))
def F__law_joined_view : Fn := mkFn false 1 6 c__law_joined_view

def c__law_pairs : Sm := (.seq (.asg 4 (.cio (Str.ofString "_law_view_of") F__law_view_of 0 (.cons (.var 1) (.cons (.bin .Add (.con (.int 1)) (.cio (Str.ofString "_law_draw") F__law_draw 0 (.cons (.con (.int 4)) .nil))) .nil)))) (.seq (.asg 5 (.lst .nil)) (.seq (.for (.nm 6) (.rng (.cons (.var 2) .nil)) (.seq (.asg 7 (.cio (Str.ofString "_law_view_of") F__law_view_of 0 (.cons (.var 1) (.cons (.var 3) .nil)))) (.seq (.app 5 (.tup (.cons (.var 7) (.cons (.call (Str.ofString "_law_table") F__law_table (.cons (.var 7) (.cons (.cio (Str.ofString "_law_parts_within") F__law_parts_within 0 (.cons (.var 7) (.cons (.var 4) .nil))) .nil))) .nil)))) .nil))) (.seq (.ret (.mov 5)) .nil))))
def F__law_pairs : Fn := mkFn true 4 8 c__law_pairs

def c__law_longer : Sm := (.seq (.asg 2 (.lst .nil)) (.seq (.for (.nm 3) (.seq (.var 1)) (.seq (.for (.nm 4) (.rng (.cons (.bi .len (.cons (.idx (.var 0) (.con (.int 0))) .nil)) .nil)) (.seq (.ifs (.and (.cons (.cmp .NotIn (.var 4) (.var 3)) (.cons (.call (Str.ofString "_law_linked") F__law_linked (.cons (.var 0) (.cons (.idx (.var 3) (.neg (.con (.int 1)))) (.cons (.var 4) .nil)))) .nil))) (.seq (.app 2 (.bin .Add (.var 3) (.tup (.cons (.var 4) .nil)))) .nil) .nil) .nil)) .nil)) (.seq (.ret (.mov 2)) .nil)))
def F__law_longer : Fn := mkFn false 2 5 c__law_longer

def c__law_clash : Sm := (.seq (.asg 2 (.lc [3] (.nm 3) (.rng (.cons (.bi .len (.cons (.idx (.var 0) (.con (.int 0))) .nil)) .nil)) .nil (.tup (.cons (.var 3) .nil)))) (.seq (.whl 1000 (.cmp .NotEq (.var 2) (.lst .nil)) (.seq (.asg 2 (.call (Str.ofString "_law_longer") F__law_longer (.cons (.var 1) (.cons (.var 2) .nil)))) (.seq (.asg 4 (.lc [5] (.nm 5) (.seq (.var 2)) (.cons (.call (Str.ofString "_law_agree") F__law_agree (.cons (.var 0) (.cons (.idx (.var 5) (.con (.int 0))) (.cons (.idx (.var 5) (.neg (.con (.int 1)))) .nil)))) .nil) (.var 5))) (.seq (.ifs (.cmp .NotEq (.var 4) (.lst .nil)) (.seq (.ret (.bi .min (.cons (.var 4) .nil))) .nil) .nil) .nil)))) (.seq (.ret (.con .none)) .nil)))
def F__law_clash : Fn := mkFn false 2 6 c__law_clash

def c__law_parts_or_clash : Sm := (.seq (.ifs (.cmp .Eq (.idx (.var 0) (.con (.int 0))) (.con (.str (Str.ofString "clash")))) (.seq (.ret (.con (.str (Str.ofString "clash")))) .nil) .nil) (.seq (.ret (.bi .repr (.cons (.call (Str.ofString "parts_of") F_parts_of (.cons (.idx (.var 0) (.con (.int 1))) (.cons (.idx (.var 0) (.con (.int 2))) .nil))) .nil))) .nil))
def F__law_parts_or_clash : Fn := mkFn false 1 1 c__law_parts_or_clash

def c__law_is_full : Sm := (.seq (.asg 3 (.lc [4] (.nm 4) (.seq (.var 0)) .nil (.tup (.cons (.idx (.var 1) (.var 4)) (.cons (.idx (.var 2) (.var 4)) .nil))))) (.seq (.for (.nm 5) (.seq (.var 0)) (.seq (.for (.nm 6) (.seq (.var 0)) (.seq (.ifs (.cmp .NotIn (.tup (.cons (.idx (.var 1) (.var 5)) (.cons (.idx (.var 2) (.var 6)) .nil))) (.var 3)) (.seq (.ret (.con (.bool false))) .nil) .nil) .nil)) .nil)) (.seq (.ret (.con (.bool true))) .nil)))
def F__law_is_full : Fn := mkFn false 3 7 c__law_is_full

def c__law_is_two_writes : Sm := (.seq (.asg 3 (.idx (.idx (.idx (.idx (.var 0) (.con (.int 0))) (.con (.int 1))) (.var 1)) (.idx (.idx (.idx (.var 0) (.con (.int 0))) (.con (.int 0))) (.var 2)))) (.seq (.ret (.cmp .Eq (.call (Str.ofString "_law_wrote") F__law_wrote (.cons (.idx (.idx (.var 0) (.con (.int 1))) (.con (.int 1))) (.cons (.var 3) (.cons (.idx (.idx (.idx (.var 0) (.con (.int 1))) (.con (.int 0))) (.var 2)) .nil)))) (.var 2))) .nil))
def F__law_is_two_writes : Fn := mkFn false 3 4 c__law_is_two_writes

def c__law_all_tables : Sm := (.seq (.asg 1 (.lst (.cons (.tup .nil) .nil))) (.seq (.for (.nm 2) (.rng (.cons (.bi .len (.cons (.var 0) .nil)) .nil)) (.seq (.asg 3 (.lst .nil)) (.seq (.for (.nm 4) (.seq (.var 1)) (.seq (.app 3 (.bin .Add (.var 4) (.tup (.cons (.tup (.cons (.var 2) .nil)) .nil)))) (.seq (.for (.tp [.nm 5, .nm 6]) (.enm (.var 4)) (.seq (.ifs (.cmp .NotIn (.idx (.var 0) (.var 2)) (.lc [7] (.nm 7) (.seq (.var 6)) .nil (.idx (.var 0) (.var 7)))) (.seq (.app 3 (.bin .Add (.bin .Add (.slc (.var 4) .nil (.cons (.var 5) .nil)) (.tup (.cons (.bin .Add (.var 6) (.tup (.cons (.var 2) .nil))) .nil))) (.slc (.var 4) (.cons (.bin .Add (.var 5) (.con (.int 1))) .nil) .nil))) .nil) .nil) .nil)) .nil))) (.seq (.asg 1 (.mov 3)) .nil)))) (.seq (.ret (.lc [4] (.nm 4) (.seq (.var 1)) .nil (.call (Str.ofString "_law_table") F__law_table (.cons (.var 0) (.cons (.var 4) .nil))))) .nil)))
def F__law_all_tables : Fn := mkFn false 1 8 c__law_all_tables

def c__law_granted : Sm := (.seq (.asg 3 (.tup .nil)) (.seq (.for (.nm 4) (.rng (.cons (.var 2) .nil)) (.seq (.parM 5 6 (.cio (Str.ofString "_law_draw") F__law_draw 0 (.cons (.bi .len (.cons (.var 1) .nil)) .nil)) (.cio (Str.ofString "_law_draw") F__law_draw 0 (.cons (.bi .len (.cons (.idx (.var 1) (.con (.int 0))) .nil)) .nil))) (.seq (.asg 3 (.bin .Add (.var 3) (.tup (.cons (.tup (.cons (.var 5) (.cons (.var 6) (.cons (.idx (.idx (.var 1) (.var 5)) (.var 6)) .nil)))) .nil)))) .nil))) (.seq (.ret (.mov 3)) .nil)))
def F__law_granted : Fn := mkFn true 3 7 c__law_granted

def c__law_grants : Sm := (.seq (.ret (.bi .all (.cons (.lc [2, 3, 4] (.tp [.nm 2, .nm 3, .nm 4]) (.seq (.var 1)) .nil (.cmp .Eq (.idx (.idx (.var 0) (.var 2)) (.var 3)) (.var 4))) .nil))) .nil)
def F__law_grants : Fn := mkFn false 2 5 c__law_grants

def c__law_is_within : Sm := (.seq (.for (.tp [.nm 2, .nm 3]) (.zip (.var 0) (.var 1)) (.seq (.ifs (.cmp .NotEq (.lc [4, 5] (.tp [.nm 4, .nm 5]) (.zip (.var 2) (.var 3)) (.cons (.and (.cons (.notN (.var 4)) (.cons (.cmp .NotEq (.var 4) (.var 5)) .nil))) .nil) (.con (.int 1))) (.lst .nil)) (.seq (.ret (.con (.bool false))) .nil) .nil) .nil)) (.seq (.ret (.con (.bool true))) .nil))
def F__law_is_within : Fn := mkFn false 2 6 c__law_is_within

def c__law_shown_wishes : Sm := (.seq (.asg 3 (.tup .nil)) (.seq (.for (.nm 4) (.rng (.cons (.var 2) .nil)) (.seq (.parM 5 6 (.cio (Str.ofString "_law_draw") F__law_draw 0 (.cons (.bi .len (.cons (.var 1) .nil)) .nil)) (.cio (Str.ofString "_law_draw") F__law_draw 0 (.cons (.bi .len (.cons (.var 1) .nil)) .nil))) (.seq (.ifs (.cmp .Eq (.cio (Str.ofString "_law_draw") F__law_draw 0 (.cons (.con (.int 4)) .nil)) (.con (.int 0))) (.seq (.asg 3 (.bin .Add (.var 3) (.tup (.cons (.tup (.cons (.var 5) (.cons (.cio (Str.ofString "_law_draw") F__law_draw 0 (.cons (.bin .Add (.bi .max (.cons (.var 1) .nil)) (.con (.int 1))) .nil)) (.cons (.con .none) .nil)))) .nil)))) .nil) (.seq (.asg 3 (.bin .Add (.var 3) (.tup (.cons (.tup (.cons (.var 5) (.cons (.idx (.var 1) (.var 6)) (.cons (.var 6) .nil)))) .nil)))) .nil)) .nil))) (.seq (.ret (.mov 3)) .nil)))
def F__law_shown_wishes : Fn := mkFn true 3 7 c__law_shown_wishes

def c__law_is_whole : Sm := (.seq (.ret (.and (.cons (.isi (.var 0) .int) (.cons (.not (.isi (.var 0) .bool)) .nil)))) .nil)
def F__law_is_whole : Fn := mkFn false 1 1 c__law_is_whole

def c__law_is_among : Sm := (.seq (.ret (.and (.cons (.call (Str.ofString "_law_is_whole") F__law_is_whole (.cons (.var 0) .nil)) (.cons (.chn .LtE .Lt (.con (.int 0)) (.var 0) (.var 1)) .nil)))) .nil)
def F__law_is_among : Fn := mkFn false 2 2 c__law_is_among

def c__law_same : Sm := (.seq (.ret (.cmp .Eq (.bi .repr (.cons (.var 0) .nil)) (.bi .repr (.cons (.var 1) .nil)))) .nil)
def F__law_same : Fn := mkFn false 2 2 c__law_same

def c__law_sound : Sm := (.seq (.for (.nm 2) (.rng (.cons (.bi .len (.cons (.var 0) .nil)) .nil)) (.seq (.ifs (.cmp .NotEq (.idx (.idx (.var 1) (.var 2)) (.idx (.var 0) (.var 2))) (.var 2)) (.seq (.ret (.con (.bool false))) .nil) .nil) (.seq (.for (.nm 3) (.rng (.cons (.bi .len (.cons (.idx (.var 1) (.var 2)) .nil)) .nil)) (.seq (.asg 4 (.idx (.idx (.var 1) (.var 2)) (.var 3))) (.seq (.ifs (.and (.cons (.notN (.var 4)) (.cons (.cmp .NotEq (.idx (.var 0) (.var 4)) (.var 3)) .nil))) (.seq (.ret (.con (.bool false))) .nil) .nil) (.seq (.ifs (.and (.cons (.notN (.var 4)) (.cons (.cmp .NotEq (.idx (.var 1) (.var 4)) (.idx (.var 1) (.var 2))) .nil))) (.seq (.ret (.con (.bool false))) .nil) .nil) .nil)))) .nil))) (.seq (.ret (.con (.bool true))) .nil))
def F__law_sound : Fn := mkFn false 2 5 c__law_sound

def c__law_told_table : Sm := (.seq (.ifs (.or (.cons (.not (.isi (.var 1) .tuple)) (.cons (.cmp .NotEq (.bi .len (.cons (.var 1) .nil)) (.con (.int 2))) (.cons (.not (.call (Str.ofString "_law_same") F__law_same (.cons (.idx (.var 1) (.con (.int 0))) (.cons (.con (.str (Str.ofString "table"))) .nil)))) .nil)))) (.seq (.ret (.con (.bool false))) .nil) .nil) (.seq (.asgP [.nm 2, .nm 3] (.tup (.cons (.idx (.var 1) (.con (.int 1))) (.cons (.bi .len (.cons (.var 0) .nil)) .nil)))) (.seq (.ifs (.or (.cons (.not (.isi (.var 2) .tuple)) (.cons (.cmp .NotEq (.bi .len (.cons (.var 2) .nil)) (.var 3)) .nil))) (.seq (.ret (.con (.bool false))) .nil) .nil) (.seq (.ifs (.not (.bi .all (.cons (.lc [4] (.nm 4) (.seq (.var 2)) .nil (.isi (.var 4) .tuple)) .nil))) (.seq (.ret (.con (.bool false))) .nil) .nil) (.seq (.for (.nm 4) (.seq (.var 2)) (.seq (.ifs (.cmp .NotEq (.bi .len (.cons (.var 4) .nil)) (.bin .Add (.bi .max (.cons (.var 0) .nil)) (.con (.int 1)))) (.seq (.ret (.con (.bool false))) .nil) .nil) (.seq (.ifs (.not (.bi .all (.cons (.lc [5] (.nm 5) (.seq (.var 4)) .nil (.or (.cons (.isN (.var 5)) (.cons (.call (Str.ofString "_law_is_among") F__law_is_among (.cons (.var 5) (.cons (.var 3) .nil))) .nil)))) .nil))) (.seq (.ret (.con (.bool false))) .nil) .nil) .nil))) (.seq (.ret (.call (Str.ofString "_law_sound") F__law_sound (.cons (.var 0) (.cons (.var 2) .nil)))) .nil))))))
def F__law_told_table : Fn := mkFn false 2 6 c__law_told_table

def c__law_writes : Sm := (.seq (.asg 3 (.tup .nil)) (.seq (.for (.nm 4) (.rng (.cons (.var 2) .nil)) (.seq (.asg 5 (.cio (Str.ofString "_law_draw") F__law_draw 0 (.cons (.bi .len (.cons (.var 1) .nil)) .nil))) (.seq (.asg 6 (.lc [7] (.nm 7) (.rng (.cons (.bi .len (.cons (.idx (.var 1) (.con (.int 0))) .nil)) .nil)) (.cons (.notN (.idx (.idx (.var 1) (.var 5)) (.var 7))) .nil) (.var 7))) (.seq (.asg 7 (.idx (.var 6) (.cio (Str.ofString "_law_draw") F__law_draw 0 (.cons (.bi .len (.cons (.var 6) .nil)) .nil)))) (.seq (.asg 3 (.bin .Add (.var 3) (.tup (.cons (.tup (.cons (.var 5) (.cons (.var 7) (.cons (.idx (.idx (.var 1) (.var 5)) (.var 7)) .nil)))) .nil)))) .nil))))) (.seq (.ret (.mov 3)) .nil)))
def F__law_writes : Fn := mkFn true 3 8 c__law_writes

def c_is_wish : Sm := (.seq (.ifs (.or (.cons (.not (.call (Str.ofString "is_row") F_is_row (.cons (.var 1) (.cons (.con (.int 3)) (.cons (.con (.int 3)) .nil))))) (.cons (.not (.call (Str.ofString "is_among") F_is_among (.cons (.idx (.var 1) (.con (.int 0))) (.cons (.bi .len (.cons (.var 0) .nil)) .nil)))) .nil))) (.seq (.ret (.con (.bool false))) .nil) .nil) (.seq (.ret (.and (.cons (.call (Str.ofString "is_among") F_is_among (.cons (.idx (.var 1) (.con (.int 1))) (.cons (.call (Str.ofString "many_values") F_many_values (.cons (.var 0) .nil)) .nil))) (.cons (.call (Str.ofString "is_entry") F_is_entry (.cons (.var 0) (.cons (.idx (.var 1) (.con (.int 2))) .nil))) .nil)))) .nil))
def F_is_wish : Fn := mkFn false 2 2 c_is_wish

def c_are_wishes_by : Sm := (.seq (.ret (.and (.cons (.call (Str.ofString "is_row") F_is_row (.cons (.var 1) (.cons (.con (.int 0)) (.cons (.glb (Str.ofString "MOST_WISHES") (.int 20)) .nil)))) (.cons (.bi .all (.cons (.lc [2] (.nm 2) (.seq (.var 1)) .nil (.call (Str.ofString "is_wish") F_is_wish (.cons (.var 0) (.cons (.var 2) .nil)))) .nil)) .nil)))) .nil)
def F_are_wishes_by : Fn := mkFn false 2 3 c_are_wishes_by

def c_are_wishes : Sm := (.seq (.exp (.call (Str.ofString "need_view") F_need_view (.cons (.var 0) .nil))) (.seq (.ret (.call (Str.ofString "are_wishes_by") F_are_wishes_by (.cons (.var 0) (.cons (.var 1) .nil)))) .nil))
def F_are_wishes : Fn := mkFn false 2 2 c_are_wishes

def c_need_wishes : Sm := (.seq (.ifs (.not (.call (Str.ofString "are_wishes") F_are_wishes (.cons (.var 0) (.cons (.var 1) .nil)))) (.seq (.rais (Str.ofString "NoWishes")) .nil) .nil) .nil)
def F_need_wishes : Fn := mkFn false 2 2 c_need_wishes

def c_is_unshown : Sm := (.seq (.ret (.and (.cons (.notN (.idx (.var 1) (.con (.int 2)))) (.cons (.cmp .NotEq (.idx (.var 0) (.idx (.var 1) (.con (.int 2)))) (.idx (.var 1) (.con (.int 1)))) .nil)))) .nil)
def F_is_unshown : Fn := mkFn false 2 2 c_is_unshown

def c_links_of : Sm := (.seq (.ret (.lc [1, 2, 3] (.tp [.nm 1, .nm 2, .nm 3]) (.seq (.var 0)) (.cons (.notN (.var 3)) .nil) (.tup (.cons (.var 1) (.cons (.var 3) .nil))))) .nil)
def F_links_of : Fn := mkFn false 1 4 c_links_of

def c_refused_in : Sm := (.seq (.asg 3 (.lst .nil)) (.seq (.for (.tp [.nm 4, .tp [5, 6, 7]]) (.enm (.var 2)) (.seq (.ifs (.isN (.var 7)) (.seq (.for (.tp [.nm 8, .nm 9]) (.itm (.lk (.call (Str.ofString "traces_from") F_traces_from (.cons (.var 1) (.cons (.var 5) .nil))))) (.seq (.ifs (.cmp .Eq (.idx (.var 0) (.var 8)) (.var 6)) (.seq (.app 3 (.tup (.cons (.bi .len (.cons (.var 9) .nil)) (.cons (.var 4) (.cons (.var 9) .nil))))) .nil) .nil) .nil)) .nil) .nil) .nil)) (.seq (.ret (.ifx (.vne 3) (.slc (.bi .min (.cons (.var 3) .nil)) (.cons (.con (.int 1)) .nil) .nil) (.con .none))) .nil)))
def F_refused_in : Fn := mkFn false 3 10 c_refused_in

def c_twice_in : Sm := (.seq (.asg 2 (.lst .nil)) (.seq (.for (.nm 3) (.rng (.cons (.bi .len (.cons (.var 0) .nil)) .nil)) (.seq (.for (.tp [.nm 4, .nm 5]) (.itm (.lk (.call (Str.ofString "traces_from") F_traces_from (.cons (.var 1) (.cons (.var 3) .nil))))) (.seq (.ifs (.and (.cons (.cmp .NotEq (.var 4) (.var 3)) (.cons (.cmp .Eq (.idx (.var 0) (.var 4)) (.idx (.var 0) (.var 3))) .nil))) (.seq (.app 2 (.var 5)) .nil) .nil) .nil)) .nil)) (.seq (.ret (.call (Str.ofString "first_of") F_first_of (.cons (.var 2) .nil))) .nil)))
def F_twice_in : Fn := mkFn false 2 6 c_twice_in

def c_smallest_by : Sm := (.seq (.for (.tp [.nm 2, .nm 3]) (.enm (.var 1)) (.seq (.ifs (.call (Str.ofString "is_unshown") F_is_unshown (.cons (.var 0) (.cons (.var 3) .nil))) (.seq (.ret (.tup (.cons (.glb (Str.ofString "SHOWN") (.str (Str.ofString "shown"))) (.cons (.var 2) .nil)))) .nil) .nil) .nil)) (.seq (.asg 4 (.call (Str.ofString "near_by") F_near_by (.cons (.bi .len (.cons (.var 0) .nil)) (.cons (.call (Str.ofString "links_of") F_links_of (.cons (.var 1) .nil)) .nil)))) (.seq (.asg 5 (.call (Str.ofString "twice_in") F_twice_in (.cons (.var 0) (.cons (.var 4) .nil)))) (.seq (.ifs (.notN (.var 5)) (.seq (.ret (.tup (.cons (.glb (Str.ofString "TWICE") (.str (Str.ofString "twice"))) (.cons (.var 5) .nil)))) .nil) .nil) (.seq (.asg 6 (.call (Str.ofString "refused_in") F_refused_in (.cons (.var 0) (.cons (.var 4) (.cons (.var 1) .nil))))) (.seq (.ifs (.notN (.var 6)) (.seq (.ret (.bin .Add (.tup (.cons (.glb (Str.ofString "REFUSED") (.str (Str.ofString "refused"))) .nil)) (.var 6))) .nil) .nil) (.seq (.ret (.tup (.cons (.glb (Str.ofString "TABLE") (.str (Str.ofString "table"))) (.cons (.call (Str.ofString "table_by") F_table_by (.cons (.var 0) (.cons (.call (Str.ofString "linked_parts") F_linked_parts (.cons (.bi .len (.cons (.var 0) .nil)) (.cons (.call (Str.ofString "links_of") F_links_of (.cons (.var 1) .nil)) .nil))) .nil))) .nil)))) .nil)))))))
def F_smallest_by : Fn := mkFn false 2 7 c_smallest_by

def c_smallest : Sm := (.seq (.exp (.call (Str.ofString "need_wishes") F_need_wishes (.cons (.var 0) (.cons (.var 1) .nil)))) (.seq (.ret (.call (Str.ofString "smallest_by") F_smallest_by (.cons (.var 0) (.cons (.var 1) .nil)))) .nil))
def F_smallest : Fn := mkFn false 2 2 c_smallest

def c__law_right : Sm := (.seq (.asg 2 (.call (Str.ofString "_law_all_tables") F__law_all_tables (.cons (.var 1) .nil))) (.seq (.asg 3 (.lst (.cons (.tup .nil) (.cons (.cio (Str.ofString "_law_shown_wishes") F__law_shown_wishes 0 (.cons (.var 1) (.cons (.con (.int 2)) .nil))) (.cons (.cio (Str.ofString "_law_shown_wishes") F__law_shown_wishes 0 (.cons (.var 1) (.cons (.con (.int 3)) .nil))) .nil))))) (.seq (.for (.nm 4) (.rng (.cons (.con (.int 4)) .nil)) (.seq (.asg 5 (.idx (.var 2) (.cio (Str.ofString "_law_draw") F__law_draw 0 (.cons (.bi .len (.cons (.var 2) .nil)) .nil)))) (.seq (.asg 3 (.bin .Add (.var 3) (.lst (.cons (.cio (Str.ofString "_law_granted") F__law_granted 0 (.cons (.var 5) (.cons (.bin .Add (.con (.int 1)) (.var 4)) .nil))) (.cons (.cio (Str.ofString "_law_writes") F__law_writes 0 (.cons (.var 5) (.cons (.bin .Add (.con (.int 1)) (.var 4)) .nil))) .nil))))) .nil))) (.seq (.for (.nm 6) (.seq (.var 3)) (.seq (.asg 7 (.lc [5] (.nm 5) (.seq (.var 2)) (.cons (.call (Str.ofString "_law_grants") F__law_grants (.cons (.var 5) (.cons (.var 6) .nil))) .nil) (.var 5))) (.seq (.ifs (.cmp .NotEq (.var 7) (.lst .nil)) (.seq (.asg 8 (.call (Str.ofString "smallest") F_smallest (.cons (.var 1) (.cons (.var 6) .nil)))) (.seq (.ifs (.or (.cons (.not (.call (Str.ofString "_law_told_table") F__law_told_table (.cons (.var 1) (.cons (.var 8) .nil)))) (.cons (.not (.call (Str.ofString "_law_grants") F__law_grants (.cons (.idx (.var 8) (.con (.int 1))) (.cons (.var 6) .nil)))) .nil))) (.seq (.ret (.con (.bool false))) .nil) .nil) (.seq (.ifs (.not (.bi .all (.cons (.lc [5] (.nm 5) (.seq (.var 7)) .nil (.call (Str.ofString "_law_is_within") F__law_is_within (.cons (.idx (.var 8) (.con (.int 1))) (.cons (.var 5) .nil)))) .nil))) (.seq (.ret (.con (.bool false))) .nil) .nil) .nil))) .nil) .nil))) (.seq (.ret (.con (.bool true))) .nil)))))
def F__law_right : Fn := mkFn true 2 9 c__law_right

def c__law_view : Sm := (.seq (.asg 3 (.lc [4] (.nm 4) (.rng (.cons (.bin .Add (.var 1) (.cio (Str.ofString "_law_draw") F__law_draw 0 (.cons (.bin .Add (.bin .Sub (.var 2) (.var 1)) (.con (.int 1))) .nil))) .nil)) .nil (.cio (Str.ofString "_law_draw") F__law_draw 0 (.cons (.con (.int 4)) .nil)))) (.seq (.asg 5 (.lst .nil)) (.seq (.for (.nm 6) (.seq (.var 3)) (.seq (.ifs (.vin true (.var 6) 5) (.seq (.app 5 (.var 6)) .nil) .nil) .nil)) (.seq (.ifs (.cmp .Eq (.cio (Str.ofString "_law_draw") F__law_draw 0 (.cons (.con (.int 2)) .nil)) (.con (.int 0))) (.seq (.asg 5 (.rev (.var 5))) .nil) .nil) (.seq (.ret (.bi .tuple (.cons (.lc [6] (.nm 6) (.seq (.var 3)) .nil (.vmth .index 5 (.cons (.var 6) .nil))) .nil))) .nil)))))
def F__law_view : Fn := mkFn true 3 7 c__law_view

def c__law_links : Sm := (.seq (.asg 2 (.lcm [3] (.nm 3) (.rng (.cons (.var 0) .nil)) (.lst .nil))) (.seq (.for (.tp [.nm 3, .nm 4, .nm 5]) (.seq (.var 1)) (.seq (.ifs (.and (.cons (.notN (.var 5)) (.cons (.cmp .NotEq (.var 5) (.var 3)) .nil))) (.seq (.appI 2 (.var 3) (.var 5)) (.seq (.appI 2 (.var 5) (.var 3)) .nil)) .nil) .nil)) (.seq (.ret (.mov 2)) .nil)))
def F__law_links : Fn := mkFn false 2 6 c__law_links

def c__law_is_against : Sm := (.seq (.ifs (.or (.cons (.not (.isi (.var 2) .tuple)) (.cons (.cmp .NotEq (.bi .len (.cons (.var 2) .nil)) (.con (.int 3))) (.cons (.not (.call (Str.ofString "_law_same") F__law_same (.cons (.slc (.var 2) .nil (.cons (.con (.int 2)) .nil)) (.cons (.tup (.cons (.con (.str (Str.ofString "refused"))) (.cons (.bi .len (.cons (.var 1) .nil)) .nil))) .nil)))) .nil)))) (.seq (.ret (.con (.bool false))) .nil) .nil) (.seq (.asgP [.nm 5, .nm 6] (.tup (.cons (.idx (.var 2) (.con (.int 2))) (.cons (.call (Str.ofString "_law_links") F__law_links (.cons (.bi .len (.cons (.var 0) .nil)) (.cons (.var 1) .nil))) .nil)))) (.seq (.ifs (.or (.cons (.not (.isi (.var 5) .tuple)) (.cons (.cmp .Eq (.bi .len (.cons (.var 5) .nil)) (.con (.int 0))) (.cons (.not (.bi .all (.cons (.lc [7] (.nm 7) (.seq (.var 5)) .nil (.call (Str.ofString "_law_is_among") F__law_is_among (.cons (.var 7) (.cons (.bi .len (.cons (.var 0) .nil)) .nil)))) .nil))) .nil)))) (.seq (.ret (.con (.bool false))) .nil) .nil) (.seq (.ifs (.cmp .NotEq (.tup (.cons (.idx (.var 5) (.con (.int 0))) (.cons (.idx (.var 5) (.neg (.con (.int 1)))) .nil))) (.tup (.cons (.var 3) (.cons (.var 4) .nil)))) (.seq (.ret (.con (.bool false))) .nil) .nil) (.seq (.ret (.bi .all (.cons (.lc [7, 8] (.tp [.nm 7, .nm 8]) (.zip (.var 5) (.slc (.var 5) (.cons (.con (.int 1)) .nil) .nil)) .nil (.cmp .In (.var 8) (.idx (.var 6) (.var 7)))) .nil))) .nil)))))
def F__law_is_against : Fn := mkFn false 5 9 c__law_is_against

def c__law_kept : Sm := (.seq (.for (.nm 3) (.rng (.cons (.bi .len (.cons (.var 0) .nil)) .nil)) (.seq (.for (.nm 4) (.rng (.cons (.bin .Add (.bi .max (.cons (.var 0) .nil)) (.con (.int 1))) .nil)) (.seq (.parM 5 6 (.call (Str.ofString "smallest") F_smallest (.cons (.var 0) (.cons (.bin .Add (.var 1) (.tup (.cons (.tup (.cons (.var 3) (.cons (.var 4) (.cons (.con .none) .nil)))) .nil))) .nil))) (.idx (.idx (.idx (.var 2) (.con (.int 1))) (.var 3)) (.var 4))) (.seq (.ifs (.and (.cons (.isN (.var 6)) (.cons (.not (.call (Str.ofString "_law_same") F__law_same (.cons (.var 5) (.cons (.var 2) .nil)))) .nil))) (.seq (.ret (.con (.bool false))) .nil) .nil) (.seq (.ifs (.and (.cons (.notN (.var 6)) (.cons (.not (.call (Str.ofString "_law_is_against") F__law_is_against (.cons (.var 0) (.cons (.var 1) (.cons (.var 5) (.cons (.var 3) (.cons (.var 6) .nil))))))) .nil))) (.seq (.ret (.con (.bool false))) .nil) .nil) .nil)))) .nil)) (.seq (.ret (.con (.bool true))) .nil))
def F__law_kept : Fn := mkFn false 3 7 c__law_kept

def c__law_lines : Sm := (.seq (.parM 2 3 (.dsp1 (.var 1) (.tup (.cons (.var 1) .nil))) (.dsp1 (.var 1) (.tup (.cons (.var 1) .nil)))) (.seq (.whl 1000 (.vdne 3) (.seq (.asg 4 .dsp0) (.seq (.for (.tp [.nm 5, .nm 6]) (.itm (.lkv 3)) (.seq (.for (.nm 7) (.seq (.idx (.var 0) (.var 5))) (.seq (.ifs (.vdin true (.var 7) 2) (.seq (.dput 4 (.var 7) (.bi .min (.cons (.vdgt 4 (.var 7) (.bin .Add (.var 6) (.tup (.cons (.var 7) .nil)))) (.cons (.bin .Add (.var 6) (.tup (.cons (.var 7) .nil))) .nil)))) .nil) .nil) .nil)) .nil)) (.seq (.for (.tp [.nm 7, .nm 6]) (.itm (.lkv 4)) (.seq (.dput 2 (.var 7) (.var 6)) .nil)) (.seq (.asg 3 (.mov 4)) .nil))))) (.seq (.ret (.mov 2)) .nil)))
def F__law_lines : Fn := mkFn false 2 8 c__law_lines

def c__law_order : Sm := (.seq (.parM 2 3 (.bi .list (.cons (.var 1) .nil)) (.tup .nil)) (.seq (.whl 1000 (.vne 2) (.seq (.asg 3 (.bin .Add (.var 3) (.tup (.cons (.vpop 2 (.cio (Str.ofString "_law_draw") F__law_draw 0 (.cons (.vlen 2) .nil))) .nil)))) .nil)) (.seq (.ret (.mov 3)) .nil)))
def F__law_order : Fn := mkFn true 2 4 c__law_order

def c__law_refusals : Sm := (.seq (.asg 3 (.lst .nil)) (.seq (.for (.tp [.nm 4, .nm 5]) (.enm (.var 1)) (.seq (.asg 3 (.bin .Add (.var 3) (.lc [6, 7] (.tp [.nm 6, .nm 7]) (.enm (.var 5)) (.cons (.isN (.var 7)) .nil) (.tup (.cons (.var 4) (.cons (.var 6) (.cons (.con .none) .nil))))))) .nil)) (.seq (.ret (.bi .tuple (.cons (.lc [8] (.nm 8) (.rng (.cons (.var 2) .nil)) (.cons (.cmp .NotEq (.var 3) (.lst .nil)) .nil) (.idx (.var 3) (.cio (Str.ofString "_law_draw") F__law_draw 0 (.cons (.bi .len (.cons (.var 3) .nil)) .nil)))) .nil))) .nil)))
def F__law_refusals : Fn := mkFn true 3 9 c__law_refusals

def c__law_reason : Sm := (.seq (.for (.tp [.nm 2, .tp [3, 4, 5]]) (.enm (.var 1)) (.seq (.ifs (.and (.cons (.notN (.var 5)) (.cons (.cmp .NotEq (.idx (.var 0) (.var 5)) (.var 4)) .nil))) (.seq (.ret (.tup (.cons (.con (.str (Str.ofString "shown"))) (.cons (.var 2) .nil)))) .nil) .nil) .nil)) (.seq (.asg 6 (.call (Str.ofString "_law_links") F__law_links (.cons (.bi .len (.cons (.var 0) .nil)) (.cons (.var 1) .nil)))) (.seq (.par3 7 8 9 (.lc [3] (.nm 3) (.rng (.cons (.bi .len (.cons (.var 0) .nil)) .nil)) .nil (.lk (.call (Str.ofString "_law_lines") F__law_lines (.cons (.var 6) (.cons (.var 3) .nil))))) (.lst .nil) (.lst .nil)) (.seq (.for (.nm 3) (.rng (.cons (.bi .len (.cons (.var 0) .nil)) .nil)) (.seq (.for (.tp [.nm 10, .nm 11]) (.itm (.idx (.var 7) (.var 3))) (.seq (.ifs (.and (.cons (.cmp .NotEq (.var 10) (.var 3)) (.cons (.cmp .Eq (.idx (.var 0) (.var 10)) (.idx (.var 0) (.var 3))) .nil))) (.seq (.app 8 (.tup (.cons (.bi .len (.cons (.var 11) .nil)) (.cons (.var 11) .nil)))) .nil) .nil) .nil)) .nil)) (.seq (.ifs (.vne 8) (.seq (.ret (.tup (.cons (.con (.str (Str.ofString "twice"))) (.cons (.idx (.bi .min (.cons (.var 8) .nil)) (.con (.int 1))) .nil)))) .nil) .nil) (.seq (.for (.tp [.nm 2, .tp [3, 4, 5]]) (.enm (.var 1)) (.seq (.for (.tp [.nm 10, .nm 11]) (.itm (.idx (.var 7) (.var 3))) (.seq (.ifs (.and (.cons (.isN (.var 5)) (.cons (.cmp .Eq (.idx (.var 0) (.var 10)) (.var 4)) .nil))) (.seq (.app 9 (.tup (.cons (.bi .len (.cons (.var 11) .nil)) (.cons (.var 2) (.cons (.var 11) .nil))))) .nil) .nil) .nil)) .nil)) (.seq (.ifs (.vne 9) (.seq (.ret (.bin .Add (.tup (.cons (.con (.str (Str.ofString "refused"))) .nil)) (.slc (.bi .min (.cons (.var 9) .nil)) (.cons (.con (.int 1)) .nil) .nil))) .nil) .nil) (.seq (.ret (.con .none)) .nil))))))))
def F__law_reason : Fn := mkFn false 2 12 c__law_reason

def c__law_due : Sm := (.seq (.asg 2 (.call (Str.ofString "_law_reason") F__law_reason (.cons (.var 0) (.cons (.var 1) .nil)))) (.seq (.ifs (.notN (.var 2)) (.seq (.ret (.mov 2)) .nil) .nil) (.seq (.ret (.tup (.cons (.con (.str (Str.ofString "table"))) (.cons (.call (Str.ofString "_law_table") F__law_table (.cons (.var 0) (.cons (.call (Str.ofString "_law_joined_parts") F__law_joined_parts (.cons (.bi .len (.cons (.var 0) .nil)) (.cons (.var 1) .nil))) .nil))) .nil)))) .nil)))
def F__law_due : Fn := mkFn false 2 3 c__law_due

def c__law_against : Sm := (.seq (.asg 3 (.cio (Str.ofString "_law_writes") F__law_writes 0 (.cons (.call (Str.ofString "_law_table") F__law_table (.cons (.var 1) (.cons (.cio (Str.ofString "_law_parts") F__law_parts 0 (.cons (.var 1) .nil)) .nil))) (.cons (.var 2) .nil)))) (.seq (.asg 4 (.call (Str.ofString "_law_table") F__law_table (.cons (.var 1) (.cons (.call (Str.ofString "_law_joined_parts") F__law_joined_parts (.cons (.bi .len (.cons (.var 1) .nil)) (.cons (.var 3) .nil))) .nil)))) (.seq (.asg 5 (.bi .tuple (.cons (.lc [6, 7, 8] (.tp [.nm 6, .nm 7, .nm 8]) (.seq (.cio (Str.ofString "_law_writes") F__law_writes 0 (.cons (.var 4) (.cons (.con (.int 4)) .nil)))) .nil (.tup (.cons (.var 6) (.cons (.var 7) (.cons (.con .none) .nil))))) .nil))) (.seq (.ret (.cio (Str.ofString "_law_order") F__law_order 0 (.cons (.bin .Add (.var 3) (.var 5)) .nil))) .nil))))
def F__law_against : Fn := mkFn true 3 9 c__law_against

def c__law_any_wishes : Sm := (.seq (.asg 3 (.tup .nil)) (.seq (.for (.nm 4) (.rng (.cons (.var 2) .nil)) (.seq (.asg 5 (.idx (.lst (.cons (.con .none) (.cons (.cio (Str.ofString "_law_draw") F__law_draw 0 (.cons (.bi .len (.cons (.var 1) .nil)) .nil)) (.cons (.cio (Str.ofString "_law_draw") F__law_draw 0 (.cons (.bi .len (.cons (.var 1) .nil)) .nil)) .nil)))) (.cio (Str.ofString "_law_draw") F__law_draw 0 (.cons (.con (.int 3)) .nil)))) (.seq (.parM 6 7 (.cio (Str.ofString "_law_draw") F__law_draw 0 (.cons (.bi .len (.cons (.var 1) .nil)) .nil)) (.cio (Str.ofString "_law_draw") F__law_draw 0 (.cons (.bin .Add (.bi .max (.cons (.var 1) .nil)) (.con (.int 1))) .nil))) (.seq (.asg 3 (.bin .Add (.var 3) (.tup (.cons (.tup (.cons (.var 6) (.cons (.var 7) (.cons (.var 5) .nil)))) .nil)))) .nil)))) (.seq (.ret (.mov 3)) .nil)))
def F__law_any_wishes : Fn := mkFn true 3 8 c__law_any_wishes

def c__law_row_of : Sm := (.seq (.parM 3 4 (.slc (.cio (Str.ofString "_law_order") F__law_order 0 (.cons (.lrng (.cons (.bi .len (.cons (.var 1) .nil)) .nil)) .nil)) .nil (.cons (.var 2) .nil)) (.tup .nil)) (.seq (.for (.tp [.nm 5, .nm 6]) (.zip (.var 3) (.slc (.var 3) (.cons (.con (.int 1)) .nil) .nil)) (.seq (.asg 7 (.idx (.lst (.cons (.tup (.cons (.var 5) (.cons (.var 6) .nil))) (.cons (.tup (.cons (.var 6) (.cons (.var 5) .nil))) .nil))) (.cio (Str.ofString "_law_draw") F__law_draw 0 (.cons (.con (.int 2)) .nil)))) (.seq (.asg 4 (.bin .Add (.var 4) (.tup (.cons (.tup (.cons (.idx (.var 7) (.con (.int 0))) (.cons (.idx (.var 1) (.idx (.var 7) (.con (.int 1)))) (.cons (.idx (.var 7) (.con (.int 1))) .nil)))) .nil)))) .nil))) (.seq (.ret (.cio (Str.ofString "_law_order") F__law_order 0 (.cons (.var 4) .nil))) .nil)))
def F__law_row_of : Fn := mkFn true 3 8 c__law_row_of

def c__law_sets : Sm := (.seq (.asg 2 (.lst (.cons (.cio (Str.ofString "_law_any_wishes") F__law_any_wishes 0 (.cons (.var 1) (.cons (.con (.int 6)) .nil))) (.cons (.cio (Str.ofString "_law_shown_wishes") F__law_shown_wishes 0 (.cons (.var 1) (.cons (.con (.int 4)) .nil))) (.cons (.cio (Str.ofString "_law_shown_wishes") F__law_shown_wishes 0 (.cons (.var 1) (.cons (.con (.int 9)) .nil))) .nil))))) (.seq (.asg 2 (.bin .Add (.var 2) (.lst (.cons (.cio (Str.ofString "_law_row_of") F__law_row_of 0 (.cons (.var 1) (.cons (.bi .len (.cons (.var 1) .nil)) .nil))) (.cons (.bin .Add (.cio (Str.ofString "_law_row_of") F__law_row_of 0 (.cons (.var 1) (.cons (.con (.int 3)) .nil))) (.cio (Str.ofString "_law_shown_wishes") F__law_shown_wishes 0 (.cons (.var 1) (.cons (.con (.int 2)) .nil)))) .nil))))) (.seq (.asg 2 (.bin .Add (.var 2) (.lst (.cons (.cio (Str.ofString "_law_against") F__law_against 0 (.cons (.var 1) (.cons (.con (.int 2)) .nil))) (.cons (.cio (Str.ofString "_law_against") F__law_against 0 (.cons (.var 1) (.cons (.con (.int 8)) .nil))) (.cons (.bin .Mult (.tup (.cons (.tup (.cons (.con (.int 0)) (.cons (.idx (.var 1) (.con (.int 0))) (.cons (.con .none) .nil)))) .nil)) (.con (.int 2))) .nil)))))) (.seq (.asg 3 (.tup (.cons (.tup (.cons (.con (.int 0)) (.cons (.idx (.var 1) (.con (.int 0))) (.cons (.bin .Sub (.bi .len (.cons (.var 1) .nil)) (.con (.int 1))) .nil)))) .nil))) (.seq (.ret (.bin .Add (.var 2) (.lst (.cons (.bin .Add (.var 3) (.idx (.var 2) (.con (.int 3)))) (.cons (.bin .Add (.idx (.var 2) (.con (.int 4))) (.bin .Mult (.var 3) (.con (.int 2)))) (.cons (.bin .Mult (.var 3) (.con (.int 3))) .nil)))))) .nil)))))
def F__law_sets : Fn := mkFn true 2 4 c__law_sets

def c__law_entries : Sm := (.seq (.parM 1 2 (.lst .nil) (.lst .nil)) (.seq (.for (.tp [.nm 3, .nm 4]) (.enm (.var 0)) (.seq (.asg 1 (.bin .Add (.var 1) (.lc [5, 6] (.tp [.nm 5, .nm 6]) (.enm (.var 4)) (.cons (.notN (.var 6)) .nil) (.tup (.cons (.var 3) (.cons (.var 5) (.cons (.var 6) .nil))))))) (.seq (.asg 2 (.bin .Add (.var 2) (.lc [5, 6] (.tp [.nm 5, .nm 6]) (.enm (.var 4)) (.cons (.isN (.var 6)) .nil) (.tup (.cons (.var 3) (.cons (.var 5) (.cons (.con .none) .nil))))))) .nil))) (.seq (.ret (.tup (.cons (.var 1) (.cons (.var 2) .nil)))) .nil)))
def F__law_entries : Fn := mkFn false 1 7 c__law_entries

def c__law_linking : Sm := (.seq (.asg 3 (.lst .nil)) (.seq (.for (.nm 4) (.seq (.var 2)) (.seq (.asg 5 (.cio (Str.ofString "_law_order") F__law_order 0 (.cons (.var 4) .nil))) (.seq (.for (.nm 6) (.rng (.cons (.con (.int 1)) (.cons (.bi .len (.cons (.var 5) .nil)) .nil))) (.seq (.parM 7 8 (.idx (.var 5) (.var 6)) (.idx (.var 5) (.cio (Str.ofString "_law_draw") F__law_draw 0 (.cons (.var 6) .nil)))) (.seq (.asg 9 (.idx (.lst (.cons (.tup (.cons (.var 7) (.cons (.var 8) .nil))) (.cons (.tup (.cons (.var 8) (.cons (.var 7) .nil))) .nil))) (.cio (Str.ofString "_law_draw") F__law_draw 0 (.cons (.con (.int 2)) .nil)))) (.seq (.app 3 (.tup (.cons (.idx (.var 9) (.con (.int 0))) (.cons (.idx (.var 1) (.idx (.var 9) (.con (.int 1)))) (.cons (.idx (.var 9) (.con (.int 1))) .nil))))) .nil)))) .nil))) (.seq (.ret (.mov 3)) .nil)))
def F__law_linking : Fn := mkFn true 3 10 c__law_linking

def c_grants : Sm := (.seq (.asgP [.nm 2, .nm 3, .nm 4] (.var 1)) (.seq (.ret (.cmp .Eq (.idx (.idx (.var 0) (.var 2)) (.var 3)) (.var 4))) .nil))
def F_grants : Fn := mkFn false 2 5 c_grants

def c_ungranted : Sm := (.seq (.exp (.call (Str.ofString "need_sound") F_need_sound (.cons (.var 0) (.cons (.var 1) .nil)))) (.seq (.exp (.call (Str.ofString "need_wishes") F_need_wishes (.cons (.var 0) (.cons (.var 2) .nil)))) (.seq (.ret (.bi .tuple (.cons (.lc [3, 4] (.tp [.nm 3, .nm 4]) (.enm (.var 2)) (.cons (.not (.call (Str.ofString "grants") F_grants (.cons (.var 1) (.cons (.var 4) .nil)))) .nil) (.var 3)) .nil))) .nil)))
def F_ungranted : Fn := mkFn false 3 5 c_ungranted

def c__law_alike : Sm := (.seq (.ifs (.or (.cons (.not (.isi (.var 0) .tuple)) (.cons (.not (.isi (.var 1) .tuple)) (.cons (.cmp .Lt (.bi .len (.cons (.var 0) .nil)) (.con (.int 2))) (.cons (.cmp .NotEq (.bi .len (.cons (.var 0) .nil)) (.bi .len (.cons (.var 1) .nil))) .nil))))) (.seq (.ret (.con (.bool false))) .nil) .nil) (.seq (.ifs (.call (Str.ofString "_law_same") F__law_same (.cons (.idx (.var 0) (.con (.int 0))) (.cons (.con (.str (Str.ofString "shown"))) .nil))) (.seq (.ret (.call (Str.ofString "_law_same") F__law_same (.cons (.idx (.var 1) (.con (.int 0))) (.cons (.con (.str (Str.ofString "shown"))) .nil)))) .nil) .nil) (.seq (.ifs (.call (Str.ofString "_law_same") F__law_same (.cons (.idx (.var 0) (.con (.int 0))) (.cons (.con (.str (Str.ofString "refused"))) .nil))) (.seq (.asg 2 (.lc [3] (.nm 3) (.seq (.tup (.cons (.var 0) (.cons (.var 1) .nil)))) .nil (.and (.cons (.isi (.idx (.var 3) (.neg (.con (.int 1)))) .tuple) (.cons (.cmp .Eq (.bi .len (.cons (.var 3) .nil)) (.con (.int 3))) .nil))))) (.seq (.ret (.and (.cons (.cmp .Eq (.var 2) (.lst (.cons (.con (.bool true)) (.cons (.con (.bool true)) .nil)))) (.cons (.call (Str.ofString "_law_same") F__law_same (.cons (.tup (.cons (.idx (.var 1) (.con (.int 0))) (.cons (.bi .len (.cons (.idx (.var 1) (.con (.int 2))) .nil)) .nil))) (.cons (.tup (.cons (.con (.str (Str.ofString "refused"))) (.cons (.bi .len (.cons (.idx (.var 0) (.con (.int 2))) .nil)) .nil))) .nil))) .nil)))) .nil)) .nil) (.seq (.ret (.call (Str.ofString "_law_same") F__law_same (.cons (.var 0) (.cons (.var 1) .nil)))) .nil))))
def F__law_alike : Fn := mkFn false 2 4 c__law_alike

def c__law_is_wish : Sm := (.seq (.ifs (.or (.cons (.not (.isi (.var 1) .tuple)) (.cons (.cmp .NotEq (.bi .len (.cons (.var 1) .nil)) (.con (.int 3))) .nil))) (.seq (.ret (.con (.bool false))) .nil) .nil) (.seq (.ifs (.or (.cons (.not (.call (Str.ofString "_law_is_among") F__law_is_among (.cons (.idx (.var 1) (.con (.int 0))) (.cons (.bi .len (.cons (.var 0) .nil)) .nil)))) (.cons (.not (.call (Str.ofString "_law_is_among") F__law_is_among (.cons (.idx (.var 1) (.con (.int 1))) (.cons (.bin .Add (.bi .max (.cons (.var 0) .nil)) (.con (.int 1))) .nil)))) .nil))) (.seq (.ret (.con (.bool false))) .nil) .nil) (.seq (.ret (.or (.cons (.isN (.idx (.var 1) (.con (.int 2)))) (.cons (.call (Str.ofString "_law_is_among") F__law_is_among (.cons (.idx (.var 1) (.con (.int 2))) (.cons (.bi .len (.cons (.var 0) .nil)) .nil))) .nil)))) .nil)))
def F__law_is_wish : Fn := mkFn false 2 2 c__law_is_wish

def c__law_are_wishes : Sm := (.seq (.ret (.and (.cons (.isi (.var 1) .tuple) (.cons (.cmp .LtE (.bi .len (.cons (.var 1) .nil)) (.con (.int 20))) (.cons (.bi .all (.cons (.lc [2] (.nm 2) (.seq (.var 1)) .nil (.call (Str.ofString "_law_is_wish") F__law_is_wish (.cons (.var 0) (.cons (.var 2) .nil)))) .nil)) .nil))))) .nil)
def F__law_are_wishes : Fn := mkFn false 2 3 c__law_are_wishes

def c__law_spoilt : Sm := (.seq (.asgP [.nm 3, .nm 4, .nm 5] (.tup (.cons (.bi .len (.cons (.var 1) .nil)) (.cons (.bin .Add (.bi .max (.cons (.var 1) .nil)) (.con (.int 1))) (.cons (.cio (Str.ofString "_law_draw") F__law_draw 0 (.cons (.bi .len (.cons (.var 2) .nil)) .nil)) .nil))))) (.seq (.asgP [.nm 6, .nm 7, .nm 8] (.idx (.var 2) (.var 5))) (.seq (.asg 9 (.lst (.cons (.tup (.cons (.var 3) (.cons (.var 7) (.cons (.var 8) .nil)))) (.cons (.tup (.cons (.neg (.con (.int 1))) (.cons (.var 7) (.cons (.var 8) .nil)))) (.cons (.tup (.cons (.var 6) (.cons (.var 4) (.cons (.var 8) .nil)))) (.cons (.tup (.cons (.var 6) (.cons (.neg (.con (.int 1))) (.cons (.var 8) .nil)))) .nil)))))) (.seq (.asg 9 (.bin .Add (.var 9) (.lst (.cons (.tup (.cons (.var 6) (.cons (.var 7) (.cons (.var 3) .nil)))) (.cons (.tup (.cons (.var 6) (.cons (.var 7) (.cons (.neg (.con (.int 1))) .nil)))) (.cons (.tup (.cons (.con .none) (.cons (.var 7) (.cons (.var 8) .nil)))) (.cons (.tup (.cons (.var 6) (.cons (.con .none) (.cons (.var 8) .nil)))) .nil))))))) (.seq (.asg 9 (.bin .Add (.var 9) (.lst (.cons (.tup (.cons (.con (.bool true)) (.cons (.var 7) (.cons (.var 8) .nil)))) (.cons (.tup (.cons (.var 6) (.cons (.con (.bool false)) (.cons (.var 8) .nil)))) (.cons (.tup (.cons (.var 6) (.cons (.var 7) (.cons (.con (.bool true)) .nil)))) (.cons (.tup (.cons (.var 6) (.cons (.var 7) (.cons (.bin .Pow (.con (.int 10)) (.con (.int 12))) .nil)))) .nil))))))) (.seq (.asg 9 (.bin .Add (.var 9) (.lst (.cons (.lst (.cons (.var 6) (.cons (.var 7) (.cons (.var 8) .nil)))) (.cons (.tup (.cons (.var 6) (.cons (.var 7) .nil))) (.cons (.tup (.cons (.var 6) (.cons (.var 7) (.cons (.var 8) (.cons (.con (.int 0)) .nil))))) (.cons (.con (.str (Str.ofString "abc"))) (.cons (.con .none) (.cons (.con (.int 7)) (.cons (.lk (.dsp1 (.con (.int 0)) (.con (.int 1)))) .nil)))))))))) (.seq (.ret (.lc [10] (.nm 10) (.seq (.var 9)) .nil (.bin .Add (.bin .Add (.slc (.var 2) .nil (.cons (.var 5) .nil)) (.tup (.cons (.var 10) .nil))) (.slc (.var 2) (.cons (.bin .Add (.var 5) (.con (.int 1))) .nil) .nil)))) .nil)))))))
def F__law_spoilt : Fn := mkFn true 3 11 c__law_spoilt

def c__law_things : Sm := (.seq (.asg 3 (.cio (Str.ofString "_law_any_wishes") F__law_any_wishes 0 (.cons (.var 1) (.cons (.con (.int 20)) .nil)))) (.seq (.asg 4 (.lst (.cons (.tup .nil) (.cons (.lst .nil) (.cons (.lk .dsp0) (.cons (.con (.str (Str.ofString ""))) (.cons (.con (.str (Str.ofString "wishes"))) (.cons (.con .none) (.cons (.con (.int 0)) (.cons (.con (.bool true)) (.cons (.var 2) (.cons (.bi .list (.cons (.var 2) .nil)) (.cons (.tup (.cons (.var 2) .nil)) (.cons (.var 1) (.cons (.var 3) (.cons (.bin .Add (.var 3) (.var 2)) .nil)))))))))))))))) (.seq (.ret (.bin .Add (.bin .Add (.var 4) (.lst (.cons (.bin .Add (.var 3) (.slc (.var 3) .nil (.cons (.con (.int 1)) .nil))) (.cons (.tup (.cons (.slc (.var 3) .nil (.cons (.con (.int 19)) .nil)) .nil)) (.cons (.tup (.cons (.con .none) .nil)) (.cons (.tup (.cons (.tup .nil) .nil)) .nil)))))) (.cio (Str.ofString "_law_spoilt") F__law_spoilt 0 (.cons (.var 1) (.cons (.var 2) .nil))))) .nil)))
def F__law_things : Fn := mkFn true 3 5 c__law_things

def c__law_is_table : Sm := (.seq (.ifs (.or (.cons (.not (.isi (.var 1) .tuple)) (.cons (.cmp .NotEq (.bi .len (.cons (.var 1) .nil)) (.bi .len (.cons (.var 0) .nil))) .nil))) (.seq (.ret (.con (.bool false))) .nil) .nil) (.seq (.for (.nm 2) (.seq (.var 1)) (.seq (.ifs (.or (.cons (.not (.isi (.var 2) .tuple)) (.cons (.cmp .NotEq (.bi .len (.cons (.var 2) .nil)) (.bin .Add (.bi .max (.cons (.var 0) .nil)) (.con (.int 1)))) .nil))) (.seq (.ret (.con (.bool false))) .nil) .nil) (.seq (.for (.nm 3) (.seq (.var 2)) (.seq (.ifs (.and (.cons (.notN (.var 3)) (.cons (.or (.cons (.not (.call (Str.ofString "_law_whole") F__law_whole (.cons (.var 3) .nil))) (.cons (.cmp .Lt (.var 3) (.con (.int 0))) (.cons (.cmp .GtE (.var 3) (.bi .len (.cons (.var 0) .nil))) .nil)))) .nil))) (.seq (.ret (.con (.bool false))) .nil) .nil) .nil)) .nil))) (.seq (.ret (.con (.bool true))) .nil)))
def F__law_is_table : Fn := mkFn false 2 4 c__law_is_table

def c__law_listing : Sm := (.seq (.asg 1 (.lst (.cons (.tup .nil) .nil))) (.seq (.for (.nm 2) (.rng (.cons (.bi .len (.cons (.var 0) .nil)) .nil)) (.seq (.asg 3 (.lst .nil)) (.seq (.for (.nm 4) (.seq (.var 1)) (.seq (.app 3 (.bin .Add (.var 4) (.tup (.cons (.tup (.cons (.var 2) .nil)) .nil)))) (.seq (.for (.nm 5) (.rng (.cons (.bi .len (.cons (.var 4) .nil)) .nil)) (.seq (.ifs (.cmp .NotIn (.idx (.var 0) (.var 2)) (.lc [6] (.nm 6) (.seq (.idx (.var 4) (.var 5))) .nil (.idx (.var 0) (.var 6)))) (.seq (.app 3 (.bin .Add (.bin .Add (.slc (.var 4) .nil (.cons (.var 5) .nil)) (.tup (.cons (.bin .Add (.idx (.var 4) (.var 5)) (.tup (.cons (.var 2) .nil))) .nil))) (.slc (.var 4) (.cons (.bin .Add (.var 5) (.con (.int 1))) .nil) .nil))) .nil) .nil) .nil)) .nil))) (.seq (.asg 1 (.mov 3)) .nil)))) (.seq (.ret (.bi .sorted (.cons (.var 1) .nil))) .nil)))
def F__law_listing : Fn := mkFn false 1 7 c__law_listing

def c__law_sizes : Sm := (.seq (.ret (.lc [1] (.nm 1) (.rng (.cons (.bin .Add (.bi .max (.cons (.var 0) .nil)) (.con (.int 1))) .nil)) .nil (.mth .count (.var 0) (.cons (.var 1) .nil)))) .nil)
def F__law_sizes : Fn := mkFn false 1 2 c__law_sizes

def c_widest : Sm := (.seq (.exp (.call (Str.ofString "need_view") F_need_view (.cons (.var 0) .nil))) (.seq (.asg 1 (.call (Str.ofString "blocks_of") F_blocks_of (.cons (.var 0) .nil))) (.seq (.asg 2 (.lst .nil)) (.seq (.for (.nm 3) (.rng (.cons (.bi .max (.cons (.lc [4] (.nm 4) (.seq (.var 1)) .nil (.bi .len (.cons (.var 4) .nil))) .nil)) .nil)) (.seq (.app 2 (.bi .tuple (.cons (.bi .sorted (.cons (.lc [4] (.nm 4) (.seq (.var 1)) (.cons (.cmp .Lt (.var 3) (.bi .len (.cons (.var 4) .nil))) .nil) (.idx (.var 4) (.var 3))) .nil)) .nil))) .nil)) (.seq (.ret (.tup (.cons (.bi .sum (.cons (.lc [5] (.nm 5) (.seq (.var 2)) .nil (.bin .Mult (.bi .len (.cons (.var 5) .nil)) (.bi .len (.cons (.var 5) .nil)))) .nil)) (.cons (.call (Str.ofString "table_by") F_table_by (.cons (.var 0) (.cons (.bi .tuple (.cons (.bi .sorted (.cons (.var 2) .nil)) .nil)) .nil))) .nil)))) .nil)))))
def F_widest : Fn := mkFn false 1 6 c_widest

def c__law_any_table : Sm := (.seq (.asg 2 (.lst .nil)) (.seq (.for (.nm 3) (.rng (.cons (.bi .len (.cons (.var 1) .nil)) .nil)) (.seq (.asg 4 (.lst .nil)) (.seq (.for (.nm 5) (.rng (.cons (.bin .Add (.bi .max (.cons (.var 1) .nil)) (.con (.int 1))) .nil)) (.seq (.asg 6 (.lc [7] (.nm 7) (.rng (.cons (.bi .len (.cons (.var 1) .nil)) .nil)) (.cons (.cmp .Eq (.idx (.var 1) (.var 7)) (.var 5)) .nil) (.var 7))) (.seq (.app 4 (.idx (.lst (.cons (.con .none) (.cons (.idx (.var 6) (.cio (Str.ofString "_law_draw") F__law_draw 0 (.cons (.bi .len (.cons (.var 6) .nil)) .nil))) (.cons (.var 3) (.cons (.cio (Str.ofString "_law_draw") F__law_draw 0 (.cons (.bi .len (.cons (.var 1) .nil)) .nil)) .nil))))) (.cio (Str.ofString "_law_draw") F__law_draw 0 (.cons (.con (.int 4)) .nil)))) .nil))) (.seq (.ifs (.cmp .Gt (.cio (Str.ofString "_law_draw") F__law_draw 0 (.cons (.con (.int 8)) .nil)) (.con (.int 0))) (.seq (.setI 4 (.idx (.var 1) (.var 3)) (.var 3)) .nil) .nil) (.seq (.app 2 (.bi .tuple (.cons (.var 4) .nil))) .nil))))) (.seq (.ret (.bi .tuple (.cons (.var 2) .nil))) .nil)))
def F__law_any_table : Fn := mkFn true 2 8 c__law_any_table

def c__law_bent_table : Sm := (.seq (.asg 3 (.lcm [4] (.nm 4) (.seq (.var 2)) (.bi .list (.cons (.var 4) .nil)))) (.seq (.for (.nm 5) (.rng (.cons (.bin .Add (.con (.int 1)) (.cio (Str.ofString "_law_draw") F__law_draw 0 (.cons (.con (.int 2)) .nil))) .nil)) (.ali 4 3 (.cio (Str.ofString "_law_draw") F__law_draw 0 (.cons (.bi .len (.cons (.var 1) .nil)) .nil)) (.cio (Str.ofString "_law_draw") F__law_draw 0 (.cons (.vlen 4) .nil)) (.idx (.lst (.cons (.con .none) (.cons (.cio (Str.ofString "_law_draw") F__law_draw 0 (.cons (.bi .len (.cons (.var 1) .nil)) .nil)) .nil))) (.cio (Str.ofString "_law_draw") F__law_draw 0 (.cons (.con (.int 2)) .nil))) .nil)) (.seq (.ret (.bi .tuple (.cons (.lc [4] (.nm 4) (.seq (.var 3)) .nil (.bi .tuple (.cons (.var 4) .nil))) .nil))) .nil)))
def F__law_bent_table : Fn := mkFn true 3 6 c__law_bent_table

def c__law_turned : Sm := (.seq (.asg 4 (.bin .Mult (.lst (.cons (.con (.int 0)) .nil)) (.bi .len (.cons (.var 0) .nil)))) (.seq (.asg 5 (.bin .Mult (.lst (.cons (.tup .nil) .nil)) (.bi .len (.cons (.var 0) .nil)))) (.seq (.for (.nm 6) (.rng (.cons (.bi .len (.cons (.var 0) .nil)) .nil)) (.seq (.asg 7 (.bin .Mult (.lst (.cons (.con .none) .nil)) (.bi .len (.cons (.var 3) .nil)))) (.seq (.for (.nm 8) (.rng (.cons (.bi .len (.cons (.var 3) .nil)) .nil)) (.seq (.asg 9 (.idx (.idx (.var 1) (.var 6)) (.var 8))) (.seq (.setI 7 (.idx (.var 3) (.var 8)) (.ifx (.isN (.var 9)) (.con .none) (.idx (.var 2) (.var 9)))) .nil))) (.seq (.setI 4 (.idx (.var 2) (.var 6)) (.idx (.var 3) (.idx (.var 0) (.var 6)))) (.seq (.setI 5 (.idx (.var 2) (.var 6)) (.bi .tuple (.cons (.var 7) .nil))) .nil))))) (.seq (.ret (.tup (.cons (.bi .tuple (.cons (.var 4) .nil)) (.cons (.bi .tuple (.cons (.var 5) .nil)) .nil)))) .nil))))
def F__law_turned : Fn := mkFn false 4 10 c__law_turned

def c_are_even : Sm := (.seq (.asg 1 (.lc [2] (.nm 2) (.seq (.call (Str.ofString "blocks_of") F_blocks_of (.cons (.var 0) .nil))) .nil (.bi .len (.cons (.var 2) .nil)))) (.seq (.ret (.cmp .Eq (.var 1) (.bin .Mult (.slc (.var 1) .nil (.cons (.con (.int 1)) .nil)) (.bi .len (.cons (.var 1) .nil))))) .nil))
def F_are_even : Fn := mkFn false 1 3 c_are_even

def c_product : Sm := (.seq (.asg 2 (.con (.int 1))) (.seq (.for (.nm 3) (.rng (.cons (.var 0) (.cons (.bin .Add (.var 1) (.con (.int 1))) .nil))) (.seq (.asg 2 (.bin .Mult (.var 2) (.var 3))) .nil)) (.seq (.ret (.mov 2)) .nil)))
def F_product : Fn := mkFn false 2 4 c_product

def c_count_full : Sm := (.seq (.exp (.call (Str.ofString "need_view") F_need_view (.cons (.var 0) .nil))) (.seq (.ifs (.not (.call (Str.ofString "are_even") F_are_even (.cons (.var 0) .nil))) (.seq (.ret (.con (.int 0))) .nil) .nil) (.seq (.parM 1 2 (.call (Str.ofString "blocks_of") F_blocks_of (.cons (.var 0) .nil)) (.con (.int 1))) (.seq (.for (.nm 3) (.seq (.slc (.var 1) (.cons (.con (.int 1)) .nil) .nil)) (.seq (.asg 2 (.bin .Mult (.var 2) (.call (Str.ofString "product") F_product (.cons (.con (.int 1)) (.cons (.bi .len (.cons (.var 3) .nil)) .nil))))) .nil)) (.seq (.ret (.mov 2)) .nil)))))
def F_count_full : Fn := mkFn false 1 4 c_count_full

def c_chosen : Sm := (.seq (.ret (.bin .FloorDiv (.call (Str.ofString "product") F_product (.cons (.bin .Add (.bin .Sub (.var 0) (.var 1)) (.con (.int 1))) (.cons (.var 0) .nil))) (.call (Str.ofString "product") F_product (.cons (.con (.int 1)) (.cons (.var 1) .nil))))) .nil)
def F_chosen : Fn := mkFn false 2 2 c_chosen

def c_count_tables : Sm := (.seq (.exp (.call (Str.ofString "need_view") F_need_view (.cons (.var 0) .nil))) (.seq (.asg 1 (.dsp1 (.con (.int 0)) (.con (.int 1)))) (.seq (.for (.nm 2) (.seq (.call (Str.ofString "blocks_of") F_blocks_of (.cons (.var 0) .nil))) (.seq (.parM 3 4 (.bi .len (.cons (.var 2) .nil)) .dsp0) (.seq (.for (.tp [.nm 5, .nm 6]) (.itm (.lkv 1)) (.seq (.for (.nm 7) (.rng (.cons (.bin .Add (.bi .min (.cons (.var 3) (.cons (.var 5) .nil))) (.con (.int 1))) .nil)) (.seq (.asg 8 (.bin .Sub (.bin .Add (.var 5) (.var 3)) (.var 7))) (.seq (.asg 9 (.bin .Mult (.bin .Mult (.var 6) (.call (Str.ofString "chosen") F_chosen (.cons (.var 3) (.cons (.var 7) .nil)))) (.call (Str.ofString "product") F_product (.cons (.bin .Add (.bin .Sub (.var 5) (.var 7)) (.con (.int 1))) (.cons (.var 5) .nil))))) (.seq (.dput 4 (.var 8) (.bin .Add (.vdgt 4 (.var 8) (.con (.int 0))) (.var 9))) .nil)))) .nil)) (.seq (.asg 1 (.mov 4)) .nil)))) (.seq (.ret (.sumv (.lkv 1))) .nil))))
def F_count_tables : Fn := mkFn false 1 10 c_count_tables

def c_permitted : Sm := (.seq (.exp (.call (Str.ofString "need_table") F_need_table (.cons (.var 0) (.cons (.var 1) .nil)))) (.seq (.ret (.bi .sum (.cons (.lc [3] (.nm 3) (.seq (.var 1)) .nil (.bi .len (.cons (.lc [2] (.nm 2) (.seq (.var 3)) (.cons (.notN (.var 2)) .nil) (.var 2)) .nil))) .nil))) .nil))
def F_permitted : Fn := mkFn false 2 4 c_permitted

def c__law_is_parts : Sm := (.seq (.ifs (.not (.isi (.var 1) .tuple)) (.seq (.ret (.con (.bool false))) .nil) .nil) (.seq (.asg 2 (.lst .nil)) (.seq (.for (.nm 3) (.seq (.var 1)) (.seq (.ifs (.or (.cons (.not (.isi (.var 3) .tuple)) (.cons (.cmp .Eq (.var 3) (.tup .nil)) .nil))) (.seq (.ret (.con (.bool false))) .nil) .nil) (.seq (.for (.nm 4) (.seq (.var 3)) (.seq (.ifs (.or (.cons (.not (.call (Str.ofString "_law_whole") F__law_whole (.cons (.var 4) .nil))) (.cons (.cmp .Lt (.var 4) (.con (.int 0))) (.cons (.cmp .GtE (.var 4) (.bi .len (.cons (.var 0) .nil))) .nil)))) (.seq (.ret (.con (.bool false))) .nil) .nil) .nil)) (.seq (.asg 5 (.lc [4] (.nm 4) (.seq (.var 3)) .nil (.idx (.var 0) (.var 4)))) (.seq (.ifs (.or (.cons (.cmp .NotEq (.bi .list (.cons (.var 3) .nil)) (.bi .sorted (.cons (.var 3) .nil))) (.cons (.cmp .NotEq (.lc [6] (.nm 6) (.seq (.var 5)) .nil (.mth .count (.var 5) (.cons (.var 6) .nil))) (.bin .Mult (.lst (.cons (.con (.int 1)) .nil)) (.bi .len (.cons (.var 5) .nil)))) .nil))) (.seq (.ret (.con (.bool false))) .nil) .nil) (.seq (.asg 2 (.bin .Add (.var 2) (.bi .list (.cons (.var 3) .nil)))) .nil)))))) (.seq (.ret (.and (.cons (.cmp .Eq (.bi .list (.cons (.var 1) .nil)) (.bi .sorted (.cons (.var 1) .nil))) (.cons (.cmp .Eq (.bi .sorted (.cons (.var 2) .nil)) (.lrng (.cons (.bi .len (.cons (.var 0) .nil)) .nil))) .nil)))) .nil))))
def F__law_is_parts : Fn := mkFn false 2 7 c__law_is_parts

def c__law_odd : Sm := (.seq (.asg 1 (.lst (.cons (.con .none) (.cons (.con (.bool true)) (.cons (.con (.bool false)) (.cons (.con (.int 0)) (.cons (.con (.int 1)) (.cons (.neg (.con (.int 1))) (.cons (.con (.int 9)) (.cons (.bin .Pow (.con (.int 10)) (.con (.int 12))) (.cons (.neg (.bin .Pow (.con (.int 10)) (.con (.int 12)))) (.cons (.con (.str (Str.ofString ""))) (.cons (.con (.str (Str.ofString "0"))) (.cons (.con (.str (Str.ofString "view"))) (.cons (.tup .nil) (.cons (.lst .nil) (.cons (.lk .dsp0) (.cons (.tup (.cons (.con (.int 0)) .nil)) (.cons (.lst (.cons (.con (.int 0)) .nil)) (.cons (.lk (.dsp1 (.con (.int 0)) (.con (.int 1)))) .nil)))))))))))))))))))) (.seq (.asg 1 (.bin .Add (.var 1) (.lst (.cons (.tup (.cons (.con (.int 0)) (.cons (.con (.int 0)) .nil))) (.cons (.tup (.cons (.con (.bool true)) .nil)) (.cons (.tup (.cons (.con .none) .nil)) (.cons (.tup (.cons (.tup (.cons (.con (.int 0)) .nil)) .nil)) (.cons (.tup (.cons (.tup .nil) .nil)) (.cons (.tup (.cons (.con (.str (Str.ofString "0"))) .nil)) (.cons (.lst (.cons (.tup (.cons (.con (.int 0)) .nil)) .nil)) (.cons (.tup (.cons (.con (.int 0)) (.cons (.tup (.cons (.con (.int 0)) .nil)) .nil))) (.cons (.tup (.cons (.con (.int 0)) (.cons (.con (.int 1)) .nil))) (.cons (.tup (.cons (.tup (.cons (.con (.int 0)) (.cons (.con (.int 1)) .nil))) .nil)) .nil))))))))))))) (.seq (.ret (.idx (.var 1) (.cio (Str.ofString "_law_draw") F__law_draw 0 (.cons (.con (.int 28)) .nil)))) .nil)))
def F__law_odd : Fn := mkFn true 1 2 c__law_odd

def c__law_near : Sm := (.seq (.asg 3 (.cio (Str.ofString "_law_draw") F__law_draw 0 (.cons (.bi .len (.cons (.var 2) .nil)) .nil))) (.seq (.asg 4 (.idx (.var 2) (.var 3))) (.seq (.asg 5 (.cio (Str.ofString "_law_draw") F__law_draw 0 (.cons (.bi .len (.cons (.var 4) .nil)) .nil))) (.seq (.parM 6 7 (.slc (.var 2) .nil (.cons (.var 3) .nil)) (.slc (.var 2) (.cons (.bin .Add (.var 3) (.con (.int 1))) .nil) .nil)) (.seq (.asg 8 (.idx (.lst (.cons (.neg (.con (.int 1))) (.cons (.bi .len (.cons (.var 1) .nil)) (.cons (.con (.bool true)) (.cons (.con .none) (.cons (.con (.str (Str.ofString "0"))) (.cons (.idx (.var 4) (.var 5)) (.cons (.con (.int 0)) (.cons (.bin .Pow (.con (.int 10)) (.con (.int 12))) .nil))))))))) (.cio (Str.ofString "_law_draw") F__law_draw 0 (.cons (.con (.int 8)) .nil)))) (.seq (.asg 9 (.lst (.cons (.var 2) (.cons (.rev (.var 2)) (.cons (.bin .Add (.var 6) (.var 7)) (.cons (.bin .Add (.bin .Add (.var 6) (.tup (.cons (.var 4) (.cons (.var 4) .nil)))) (.var 7)) (.cons (.bin .Add (.var 2) (.tup (.cons (.tup .nil) .nil))) (.cons (.bi .list (.cons (.var 2) .nil)) (.cons (.var 1) .nil))))))))) (.seq (.for (.nm 10) (.seq (.lst (.cons (.rev (.var 4)) (.cons (.bin .Add (.slc (.var 4) .nil (.cons (.var 5) .nil)) (.slc (.var 4) (.cons (.bin .Add (.var 5) (.con (.int 1))) .nil) .nil)) (.cons (.bin .Add (.bin .Add (.slc (.var 4) .nil (.cons (.var 5) .nil)) (.tup (.cons (.var 8) .nil))) (.slc (.var 4) (.cons (.bin .Add (.var 5) (.con (.int 1))) .nil) .nil)) (.cons (.bin .Add (.var 4) (.tup (.cons (.var 8) .nil))) .nil)))))) (.seq (.app 9 (.bin .Add (.bin .Add (.var 6) (.tup (.cons (.var 10) .nil))) (.var 7))) .nil)) (.seq (.app 9 (.bin .Add (.bin .Add (.var 6) (.tup (.cons (.bi .list (.cons (.var 4) .nil)) .nil))) (.var 7))) (.seq (.app 9 (.bi .tuple (.cons (.bi .sorted (.cons (.bin .Add (.bin .Add (.var 6) (.var 7)) (.tup (.cons (.slc (.var 4) .nil (.cons (.var 5) .nil)) (.cons (.slc (.var 4) (.cons (.var 5) .nil) .nil) .nil)))) .nil)) .nil))) (.seq (.for (.nm 11) (.seq (.slc (.bin .Add (.var 6) (.var 7)) .nil (.cons (.con (.int 1)) .nil))) (.seq (.asg 12 (.lc [13] (.nm 13) (.seq (.bin .Add (.var 6) (.var 7))) (.cons (.cmp .NotEq (.var 13) (.var 11)) .nil) (.var 13))) (.seq (.app 9 (.bi .tuple (.cons (.bi .sorted (.cons (.bin .Add (.var 12) (.lst (.cons (.bi .tuple (.cons (.bi .sorted (.cons (.bin .Add (.var 4) (.var 11)) .nil)) .nil)) .nil))) .nil)) .nil))) .nil))) (.seq (.asg 9 (.bin .Add (.var 9) (.lst (.cons (.bi .tuple (.cons (.lc [14] (.nm 14) (.rng (.cons (.bi .len (.cons (.var 1) .nil)) .nil)) .nil (.tup (.cons (.var 14) .nil))) .nil)) (.cons (.tup (.cons (.trg (.cons (.bi .len (.cons (.var 1) .nil)) .nil)) .nil)) .nil))))) (.seq (.ret (.bin .Add (.var 9) (.lst (.cons (.cio (Str.ofString "_law_odd") F__law_odd 0 .nil) (.cons (.cio (Str.ofString "_law_odd") F__law_odd 0 .nil) .nil))))) .nil))))))))))))
def F__law_near : Fn := mkFn true 3 15 c__law_near

def c_rises : Sm := (.seq (.ret (.bi .all (.cons (.lc [1, 2] (.tp [.nm 1, .nm 2]) (.zip (.var 0) (.slc (.var 0) (.cons (.con (.int 1)) .nil) .nil)) .nil (.cmp .Lt (.var 1) (.var 2))) .nil))) .nil)
def F_rises : Fn := mkFn false 1 3 c_rises

def c_is_part : Sm := (.seq (.ifs (.or (.cons (.not (.call (Str.ofString "is_row") F_is_row (.cons (.var 1) (.cons (.con (.int 1)) (.cons (.bi .len (.cons (.var 0) .nil)) .nil))))) (.cons (.not (.bi .all (.cons (.lc [2] (.nm 2) (.seq (.var 1)) .nil (.call (Str.ofString "is_among") F_is_among (.cons (.var 2) (.cons (.bi .len (.cons (.var 0) .nil)) .nil)))) .nil))) .nil))) (.seq (.ret (.con (.bool false))) .nil) .nil) (.seq (.ret (.and (.cons (.call (Str.ofString "rises") F_rises (.cons (.var 1) .nil)) (.cons (.not (.call (Str.ofString "has_twins") F_has_twins (.cons (.var 0) (.cons (.var 1) .nil)))) .nil)))) .nil))
def F_is_part : Fn := mkFn false 2 3 c_is_part

def c_is_parts_by : Sm := (.seq (.ifs (.or (.cons (.not (.call (Str.ofString "is_row") F_is_row (.cons (.var 1) (.cons (.con (.int 1)) (.cons (.bi .len (.cons (.var 0) .nil)) .nil))))) (.cons (.not (.bi .all (.cons (.lc [2] (.nm 2) (.seq (.var 1)) .nil (.call (Str.ofString "is_part") F_is_part (.cons (.var 0) (.cons (.var 2) .nil)))) .nil))) (.cons (.not (.call (Str.ofString "rises") F_rises (.cons (.var 1) .nil))) .nil)))) (.seq (.ret (.con (.bool false))) .nil) .nil) (.seq (.asg 3 (.lst .nil)) (.seq (.for (.nm 2) (.seq (.var 1)) (.seq (.ext 3 (.var 2)) .nil)) (.seq (.ret (.cmp .Eq (.bi .sorted (.cons (.var 3) .nil)) (.lrng (.cons (.bi .len (.cons (.var 0) .nil)) .nil)))) .nil))))
def F_is_parts_by : Fn := mkFn false 2 4 c_is_parts_by

def c_is_parts : Sm := (.seq (.exp (.call (Str.ofString "need_view") F_need_view (.cons (.var 0) .nil))) (.seq (.ret (.call (Str.ofString "is_parts_by") F_is_parts_by (.cons (.var 0) (.cons (.var 1) .nil)))) .nil))
def F_is_parts : Fn := mkFn false 2 2 c_is_parts

def c_table_of : Sm := (.seq (.ifs (.not (.call (Str.ofString "is_parts") F_is_parts (.cons (.var 0) (.cons (.var 1) .nil)))) (.seq (.rais (Str.ofString "NoParts")) .nil) .nil) (.seq (.ret (.call (Str.ofString "table_by") F_table_by (.cons (.var 0) (.cons (.var 1) .nil)))) .nil))
def F_table_of : Fn := mkFn false 2 2 c_table_of
end L2.Gv.Com

set_option Elab.async false
set_option linter.all false
set_option maxRecDepth 100000
set_option maxHeartbeats 0
namespace L2.Gv.Law
open PySem PySem.Spec PyProof.Rows L2 L2.Gv
open L2.Gv.Com
def c_law : Sm := (.seq (.asg 1 (.cit (Str.ofString "_law_every_view") F__law_every_view (.call (Str.ofString "_law_pen") F__law_pen (.cons (.call (Str.ofString "_law_cell_at") F__law_cell_at (.cons (.var 0) (.cons (.con (.int 0)) .nil))) .nil)) (.cons (.con (.int 6)) .nil))) (.seq (.asg 2 (.bi .max (.cons (.lc [4] (.nm 4) (.seq (.call (Str.ofString "_law_listing") F__law_listing (.cons (.var 1) .nil))) .nil (.bi .sum (.cons (.lc [3] (.nm 3) (.seq (.var 4)) .nil (.bin .Mult (.bi .len (.cons (.var 3) .nil)) (.bi .len (.cons (.var 3) .nil)))) .nil))) .nil))) (.seq (.for (.nm 5) (.seq (.lst (.cons (.var 1) (.cons (.cit (Str.ofString "_law_every_view") F__law_every_view (.call (Str.ofString "_law_pen") F__law_pen (.cons (.call (Str.ofString "_law_cell_at") F__law_cell_at (.cons (.var 0) (.cons (.con (.int 1)) .nil))) .nil)) (.cons (.con (.int 9)) .nil)) .nil)))) (.seq (.asg 6 (.call (Str.ofString "widest") F_widest (.cons (.var 5) .nil))) (.seq (.ifs (.or (.cons (.not (.isi (.var 6) .tuple)) (.cons (.cmp .NotEq (.bi .len (.cons (.var 6) .nil)) (.con (.int 2))) (.cons (.not (.call (Str.ofString "_law_whole") F__law_whole (.cons (.idx (.var 6) (.con (.int 0))) .nil))) .nil)))) (.seq (.ret (.con (.bool false))) .nil) .nil) (.seq (.asgP [.nm 7, .nm 8] (.var 6)) (.seq (.ifs (.or (.cons (.not (.call (Str.ofString "_law_is_table") F__law_is_table (.cons (.var 5) (.cons (.var 8) .nil)))) (.cons (.not (.call (Str.ofString "_law_sound") F__law_sound (.cons (.var 5) (.cons (.var 8) .nil)))) .nil))) (.seq (.ret (.con (.bool false))) .nil) .nil) (.seq (.ifs (.cmp .NotEq (.var 7) (.bi .sum (.cons (.lc [9] (.nm 9) (.seq (.var 8)) .nil (.bin .Sub (.bi .len (.cons (.var 9) .nil)) (.mth .count (.var 9) (.cons (.con .none) .nil)))) .nil))) (.seq (.ret (.con (.bool false))) .nil) .nil) (.seq (.asg 10 (.call (Str.ofString "_law_sizes") F__law_sizes (.cons (.var 5) .nil))) (.seq (.asg 11 (.lc [13] (.nm 13) (.rng (.cons (.bi .max (.cons (.var 10) .nil)) .nil)) .nil (.bi .len (.cons (.lc [12] (.nm 12) (.seq (.var 10)) (.cons (.cmp .Gt (.var 12) (.var 13)) .nil) (.var 12)) .nil)))) (.seq (.ifs (.cmp .NotEq (.var 7) (.bi .sum (.cons (.lc [14] (.nm 14) (.seq (.var 11)) .nil (.bin .Mult (.var 14) (.var 14))) .nil))) (.seq (.ret (.con (.bool false))) .nil) .nil) .nil))))))))) (.seq (.ret (.cmp .Eq (.idx (.call (Str.ofString "widest") F_widest (.cons (.var 1) .nil)) (.con (.int 0))) (.var 2))) .nil))))
def F_law : Fn := mkFn false 1 15 c_law

end L2.Gv.Law

set_option Elab.async false
set_option linter.all false
set_option maxRecDepth 100000
set_option maxHeartbeats 0
namespace L2.Gv.Law
open PySem PySem.Spec PyProof.Rows L2 L2.Gv
open L2.Gv.Com
def top (i : Nat) : Stmt := PySem.Challenge.pw_writebacks_k13_widest_table.main.body.getD i (.Pass ⟨0, 0, 0, 0⟩)
abbrev s__law_cell_at : Stmt := top 19
def N__law_cell_at : List Str := (["_law_script", "_law_k"] : List Str)
def P__law_cell_at : List Str := (["_law_script", "_law_k"] : List Str)
theorem sc__law_cell_at : FnScope N__law_cell_at P__law_cell_at (defScope s__law_cell_at) := ⟨by kernel_rfl, by kernel_rfl, by kernel_rfl, by decide +kernel, by kernel_rfl, by decide +kernel, by decide +kernel⟩
theorem m__law_cell_at : mSs ⟨N__law_cell_at, defScope s__law_cell_at, none⟩ c__law_cell_at (defBody s__law_cell_at) = true := by kernel_rfl
def d__law_cell_at : He.DefD := ⟨("_law_cell_at", none), "_law_cell_at", "_law_cell_at", defArgs s__law_cell_at, defBody s__law_cell_at, defScope s__law_cell_at, [], []⟩
abbrev s__law_draw : Stmt := top 21
def N__law_draw : List Str := (["_law_pen_here", "_law_many", "_law_digit", "_law_stir"] : List Str)
def P__law_draw : List Str := (["_law_pen_here", "_law_many"] : List Str)
theorem sc__law_draw : FnScope N__law_draw P__law_draw (defScope s__law_draw) := ⟨by kernel_rfl, by kernel_rfl, by kernel_rfl, by decide +kernel, by kernel_rfl, by decide +kernel, by decide +kernel⟩
theorem m__law_draw : mSs ⟨N__law_draw, defScope s__law_draw, none⟩ c__law_draw (defBody s__law_draw) = true := by kernel_rfl
def d__law_draw : He.DefD := ⟨("_law_draw", none), "_law_draw", "_law_draw", defArgs s__law_draw, defBody s__law_draw, defScope s__law_draw, [], []⟩
abbrev s__law_every_view : Stmt := top 23
def N__law_every_view : List Str := (["_law_pen_here", "_law_most", "_law_many", "_law_values", "_law_left", "_law_turn"] : List Str)
def P__law_every_view : List Str := (["_law_pen_here", "_law_most"] : List Str)
theorem sc__law_every_view : FnScope N__law_every_view P__law_every_view (defScope s__law_every_view) := ⟨by kernel_rfl, by kernel_rfl, by kernel_rfl, by decide +kernel, by kernel_rfl, by decide +kernel, by decide +kernel⟩
theorem m__law_every_view : mSs ⟨N__law_every_view, defScope s__law_every_view, none⟩ c__law_every_view (defBody s__law_every_view) = true := by kernel_rfl
def d__law_every_view : He.DefD := ⟨("_law_every_view", none), "_law_every_view", "_law_every_view", defArgs s__law_every_view, defBody s__law_every_view, defScope s__law_every_view, [], []⟩
abbrev s__law_whole : Stmt := top 22
def N__law_whole : List Str := (["_law_thing"] : List Str)
def P__law_whole : List Str := (["_law_thing"] : List Str)
theorem sc__law_whole : FnScope N__law_whole P__law_whole (defScope s__law_whole) := ⟨by kernel_rfl, by kernel_rfl, by kernel_rfl, by decide +kernel, by kernel_rfl, by decide +kernel, by decide +kernel⟩
theorem m__law_whole : mSs ⟨N__law_whole, defScope s__law_whole, none⟩ c__law_whole (defBody s__law_whole) = true := by kernel_rfl
def d__law_whole : He.DefD := ⟨("_law_whole", none), "_law_whole", "_law_whole", defArgs s__law_whole, defBody s__law_whole, defScope s__law_whole, [], []⟩
abbrev s__law_is_table : Stmt := top 25
def N__law_is_table : List Str := (["_law_view", "_law_thing", "_law_row", "_law_entry"] : List Str)
def P__law_is_table : List Str := (["_law_view", "_law_thing"] : List Str)
theorem sc__law_is_table : FnScope N__law_is_table P__law_is_table (defScope s__law_is_table) := ⟨by kernel_rfl, by kernel_rfl, by kernel_rfl, by decide +kernel, by kernel_rfl, by decide +kernel, by decide +kernel⟩
theorem m__law_is_table : mSs ⟨N__law_is_table, defScope s__law_is_table, none⟩ c__law_is_table (defBody s__law_is_table) = true := by kernel_rfl
def d__law_is_table : He.DefD := ⟨("_law_is_table", none), "_law_is_table", "_law_is_table", defArgs s__law_is_table, defBody s__law_is_table, defScope s__law_is_table, [], []⟩
abbrev s__law_listing : Stmt := top 27
def N__law_listing : List Str := (["_law_view", "_law_found", "_law_state", "_law_longer", "_law_parts", "_law_place", "_law_other"] : List Str)
def P__law_listing : List Str := (["_law_view"] : List Str)
theorem sc__law_listing : FnScope N__law_listing P__law_listing (defScope s__law_listing) := ⟨by kernel_rfl, by kernel_rfl, by kernel_rfl, by decide +kernel, by kernel_rfl, by decide +kernel, by decide +kernel⟩
theorem m__law_listing : mSs ⟨N__law_listing, defScope s__law_listing, none⟩ c__law_listing (defBody s__law_listing) = true := by kernel_rfl
def d__law_listing : He.DefD := ⟨("_law_listing", none), "_law_listing", "_law_listing", defArgs s__law_listing, defBody s__law_listing, defScope s__law_listing, [], []⟩
abbrev s__law_pen : Stmt := top 20
def N__law_pen : List Str := (["_law_cell"] : List Str)
def P__law_pen : List Str := (["_law_cell"] : List Str)
theorem sc__law_pen : FnScope N__law_pen P__law_pen (defScope s__law_pen) := ⟨by kernel_rfl, by kernel_rfl, by kernel_rfl, by decide +kernel, by kernel_rfl, by decide +kernel, by decide +kernel⟩
theorem m__law_pen : mSs ⟨N__law_pen, defScope s__law_pen, none⟩ c__law_pen (defBody s__law_pen) = true := by kernel_rfl
def d__law_pen : He.DefD := ⟨("_law_pen", none), "_law_pen", "_law_pen", defArgs s__law_pen, defBody s__law_pen, defScope s__law_pen, [], []⟩
abbrev s__law_sizes : Stmt := top 26
def N__law_sizes : List Str := (["_law_view", "_law_value"] : List Str)
def P__law_sizes : List Str := (["_law_view"] : List Str)
theorem sc__law_sizes : FnScope N__law_sizes P__law_sizes (defScope s__law_sizes) := ⟨by kernel_rfl, by kernel_rfl, by kernel_rfl, by decide +kernel, by kernel_rfl, by decide +kernel, by decide +kernel⟩
theorem m__law_sizes : mSs ⟨N__law_sizes, defScope s__law_sizes, none⟩ c__law_sizes (defBody s__law_sizes) = true := by kernel_rfl
def d__law_sizes : He.DefD := ⟨("_law_sizes", none), "_law_sizes", "_law_sizes", defArgs s__law_sizes, defBody s__law_sizes, defScope s__law_sizes, [], []⟩
abbrev s__law_sound : Stmt := top 24
def N__law_sound : List Str := (["_law_view", "_law_table", "_law_state", "_law_value", "_law_entry"] : List Str)
def P__law_sound : List Str := (["_law_view", "_law_table"] : List Str)
theorem sc__law_sound : FnScope N__law_sound P__law_sound (defScope s__law_sound) := ⟨by kernel_rfl, by kernel_rfl, by kernel_rfl, by decide +kernel, by kernel_rfl, by decide +kernel, by decide +kernel⟩
theorem m__law_sound : mSs ⟨N__law_sound, defScope s__law_sound, none⟩ c__law_sound (defBody s__law_sound) = true := by kernel_rfl
def d__law_sound : He.DefD := ⟨("_law_sound", none), "_law_sound", "_law_sound", defArgs s__law_sound, defBody s__law_sound, defScope s__law_sound, [], []⟩
abbrev s_many_values : Stmt := top 10
def N_many_values : List Str := (["view"] : List Str)
def P_many_values : List Str := (["view"] : List Str)
theorem sc_many_values : FnScope N_many_values P_many_values (defScope s_many_values) := ⟨by kernel_rfl, by kernel_rfl, by kernel_rfl, by decide +kernel, by kernel_rfl, by decide +kernel, by decide +kernel⟩
theorem m_many_values : mSs ⟨N_many_values, defScope s_many_values, none⟩ c_many_values (defBody s_many_values) = true := by kernel_rfl
def d_many_values : He.DefD := ⟨("many_values", none), "many_values", "many_values", defArgs s_many_values, defBody s_many_values, defScope s_many_values, [], []⟩
abbrev s_blocks_of : Stmt := top 15
def N_blocks_of : List Str := (["view", "values", "state", "own", "value"] : List Str)
def P_blocks_of : List Str := (["view"] : List Str)
theorem sc_blocks_of : FnScope N_blocks_of P_blocks_of (defScope s_blocks_of) := ⟨by kernel_rfl, by kernel_rfl, by kernel_rfl, by decide +kernel, by kernel_rfl, by decide +kernel, by decide +kernel⟩
theorem m_blocks_of : mSs ⟨N_blocks_of, defScope s_blocks_of, none⟩ c_blocks_of (defBody s_blocks_of) = true := by kernel_rfl
def d_blocks_of : He.DefD := ⟨("blocks_of", none), "blocks_of", "blocks_of", defArgs s_blocks_of, defBody s_blocks_of, defScope s_blocks_of, [], []⟩
abbrev s_is_whole : Stmt := top 5
def N_is_whole : List Str := (["thing"] : List Str)
def P_is_whole : List Str := (["thing"] : List Str)
theorem sc_is_whole : FnScope N_is_whole P_is_whole (defScope s_is_whole) := ⟨by kernel_rfl, by kernel_rfl, by kernel_rfl, by decide +kernel, by kernel_rfl, by decide +kernel, by decide +kernel⟩
theorem m_is_whole : mSs ⟨N_is_whole, defScope s_is_whole, none⟩ c_is_whole (defBody s_is_whole) = true := by kernel_rfl
def d_is_whole : He.DefD := ⟨("is_whole", none), "is_whole", "is_whole", defArgs s_is_whole, defBody s_is_whole, defScope s_is_whole, [], []⟩
abbrev s_is_among : Stmt := top 6
def N_is_among : List Str := (["thing", "many"] : List Str)
def P_is_among : List Str := (["thing", "many"] : List Str)
theorem sc_is_among : FnScope N_is_among P_is_among (defScope s_is_among) := ⟨by kernel_rfl, by kernel_rfl, by kernel_rfl, by decide +kernel, by kernel_rfl, by decide +kernel, by decide +kernel⟩
theorem m_is_among : mSs ⟨N_is_among, defScope s_is_among, none⟩ c_is_among (defBody s_is_among) = true := by kernel_rfl
def d_is_among : He.DefD := ⟨("is_among", none), "is_among", "is_among", defArgs s_is_among, defBody s_is_among, defScope s_is_among, [], []⟩
abbrev s_is_row : Stmt := top 7
def N_is_row : List Str := (["thing", "low", "high"] : List Str)
def P_is_row : List Str := (["thing", "low", "high"] : List Str)
theorem sc_is_row : FnScope N_is_row P_is_row (defScope s_is_row) := ⟨by kernel_rfl, by kernel_rfl, by kernel_rfl, by decide +kernel, by kernel_rfl, by decide +kernel, by decide +kernel⟩
theorem m_is_row : mSs ⟨N_is_row, defScope s_is_row, none⟩ c_is_row (defBody s_is_row) = true := by kernel_rfl
def d_is_row : He.DefD := ⟨("is_row", none), "is_row", "is_row", defArgs s_is_row, defBody s_is_row, defScope s_is_row, [], []⟩
abbrev s_is_view : Stmt := top 8
def N_is_view : List Str := (["thing", "value"] : List Str)
def P_is_view : List Str := (["thing"] : List Str)
theorem sc_is_view : FnScope N_is_view P_is_view (defScope s_is_view) := ⟨by kernel_rfl, by kernel_rfl, by kernel_rfl, by decide +kernel, by kernel_rfl, by decide +kernel, by decide +kernel⟩
theorem m_is_view : mSs ⟨N_is_view, defScope s_is_view, none⟩ c_is_view (defBody s_is_view) = true := by kernel_rfl
def d_is_view : He.DefD := ⟨("is_view", none), "is_view", "is_view", defArgs s_is_view, defBody s_is_view, defScope s_is_view, [], []⟩
abbrev s_need_view : Stmt := top 9
def N_need_view : List Str := (["thing"] : List Str)
def P_need_view : List Str := (["thing"] : List Str)
theorem sc_need_view : FnScope N_need_view P_need_view (defScope s_need_view) := ⟨by kernel_rfl, by kernel_rfl, by kernel_rfl, by decide +kernel, by kernel_rfl, by decide +kernel, by decide +kernel⟩
theorem m_need_view : mSs ⟨N_need_view, defScope s_need_view, none⟩ c_need_view (defBody s_need_view) = true := by kernel_rfl
def d_need_view : He.DefD := ⟨("need_view", none), "need_view", "need_view", defArgs s_need_view, defBody s_need_view, defScope s_need_view, [], []⟩
abbrev s_places_of : Stmt := top 12
def N_places_of : List Str := (["many", "parts", "found", "place", "part", "state"] : List Str)
def P_places_of : List Str := (["many", "parts"] : List Str)
theorem sc_places_of : FnScope N_places_of P_places_of (defScope s_places_of) := ⟨by kernel_rfl, by kernel_rfl, by kernel_rfl, by decide +kernel, by kernel_rfl, by decide +kernel, by decide +kernel⟩
theorem m_places_of : mSs ⟨N_places_of, defScope s_places_of, none⟩ c_places_of (defBody s_places_of) = true := by kernel_rfl
def d_places_of : He.DefD := ⟨("places_of", none), "places_of", "places_of", defArgs s_places_of, defBody s_places_of, defScope s_places_of, [], []⟩
abbrev s_row_by : Stmt := top 13
def N_row_by : List Str := (["view", "part", "row", "state"] : List Str)
def P_row_by : List Str := (["view", "part"] : List Str)
theorem sc_row_by : FnScope N_row_by P_row_by (defScope s_row_by) := ⟨by kernel_rfl, by kernel_rfl, by kernel_rfl, by decide +kernel, by kernel_rfl, by decide +kernel, by decide +kernel⟩
theorem m_row_by : mSs ⟨N_row_by, defScope s_row_by, none⟩ c_row_by (defBody s_row_by) = true := by kernel_rfl
def d_row_by : He.DefD := ⟨("row_by", none), "row_by", "row_by", defArgs s_row_by, defBody s_row_by, defScope s_row_by, [], []⟩
abbrev s_table_by : Stmt := top 14
def N_table_by : List Str := (["view", "parts", "rows", "part", "place"] : List Str)
def P_table_by : List Str := (["view", "parts"] : List Str)
theorem sc_table_by : FnScope N_table_by P_table_by (defScope s_table_by) := ⟨by kernel_rfl, by kernel_rfl, by kernel_rfl, by decide +kernel, by kernel_rfl, by decide +kernel, by decide +kernel⟩
theorem m_table_by : mSs ⟨N_table_by, defScope s_table_by, none⟩ c_table_by (defBody s_table_by) = true := by kernel_rfl
def d_table_by : He.DefD := ⟨("table_by", none), "table_by", "table_by", defArgs s_table_by, defBody s_table_by, defScope s_table_by, [], []⟩
abbrev s_widest : Stmt := top 17
def N_widest : List Str := (["view", "blocks", "parts", "place", "block", "part"] : List Str)
def P_widest : List Str := (["view"] : List Str)
theorem sc_widest : FnScope N_widest P_widest (defScope s_widest) := ⟨by kernel_rfl, by kernel_rfl, by kernel_rfl, by decide +kernel, by kernel_rfl, by decide +kernel, by decide +kernel⟩
theorem m_widest : mSs ⟨N_widest, defScope s_widest, none⟩ c_widest (defBody s_widest) = true := by kernel_rfl
def d_widest : He.DefD := ⟨("widest", none), "widest", "widest", defArgs s_widest, defBody s_widest, defScope s_widest, [], []⟩
abbrev s_law : Stmt := top 28
def N_law : List Str := (["_law_script", "_law_small", "_law_most", "_law_part", "_law_parts", "_law_view", "_law_found", "_law_number", "_law_table", "_law_row", "_law_sizes_here", "_law_many", "_law_size", "_law_least", "_law_one"] : List Str)
def P_law : List Str := (["_law_script"] : List Str)
theorem sc_law : FnScope N_law P_law (defScope s_law) := ⟨by kernel_rfl, by kernel_rfl, by kernel_rfl, by decide +kernel, by kernel_rfl, by decide +kernel, by decide +kernel⟩
theorem m_law : mSs ⟨N_law, defScope s_law, none⟩ c_law (defBody s_law) = true := by kernel_rfl
def d_law : He.DefD := ⟨("law", none), "law", "law", defArgs s_law, defBody s_law, defScope s_law, [], []⟩
def fn : List He.DefD := [d__law_cell_at, d__law_draw, d__law_every_view, d__law_whole, d__law_is_table, d__law_listing, d__law_pen, d__law_sizes, d__law_sound, d_many_values, d_blocks_of, d_is_whole, d_is_among, d_is_row, d_is_view, d_need_view, d_places_of, d_row_by, d_table_by, d_widest, d_law]
def fa_ : List He.Fa := [.free "len", .free "all", .free "any", .free "max", .free "sum", .free "sorted", .free "tuple", .free "list", .free "repr", .free "range", .free "enumerate", .free "zip", .free "isinstance", .free "int", .free "bool", .free "str", .free "dict", .free "min", .glo "_law_cell_at", .glo "_law_draw", .glo "_law_every_view", .glo "_law_whole", .glo "_law_is_table", .glo "_law_listing", .glo "_law_pen", .glo "_law_sizes", .glo "_law_sound", .glo "many_values", .glo "blocks_of", .glo "is_whole", .glo "is_among", .glo "is_row", .glo "is_view", .glo "need_view", .glo "places_of", .glo "row_by", .glo "table_by", .glo "widest", .glo "law", .int "MOST_STATES" 9, .exc "NoView", .glo "NoView"]
abbrev R : PySem.W.OpenRow := PySem.W.OpenLaw.row PySem.Challenge.rw_writebacks_k13_widest_table
abbrev hk : PySem.W.Hook := He.hookD 4 fa_ fn
def ob (s : PySem.W.SharedT) : He.AlD := He.obsDG 4 fa_ fn (HandSHeadRun.getT s)
theorem ob_eq (s : PySem.W.SharedT) : ob s = hk.obs s.abs := He.obsDG_eq (HandSHeadRun.getT_eq s)
def loose : List Str := (["WriteError", "NoView", "MOST_STATES", "is_whole", "is_among", "is_row", "is_view", "need_view", "many_values", "places_of", "row_by", "table_by", "blocks_of", "widest", "_law_cell_at", "_law_pen", "_law_draw", "_law_whole", "_law_every_view", "_law_sound", "_law_is_table", "_law_sizes", "_law_listing"] : List Str)
theorem run (w : World) : HandSHeadRun.RunEq R (PySem.W.view R.prog [28]) hk ob 6000 loose w := by
  intro os
  kernel_rfl
section
variable {P : Program} {w : World} {K : PySem.W.Frag} {h base : Heap} {mg : Str → Option Value}
theorem hbi (X : K.In h) (G : h.Ns mainGlobals mg) (c : He.SaysD fa_ fn K) : ∀ x ∈ biList', mg x = none := by
  intro x hx
  simp only [biList', List.mem_cons, List.mem_nil_iff, or_false] at hx
  rcases hx with rfl | rfl | rfl | rfl | rfl | rfl | rfl | rfl | rfl | rfl | rfl | rfl | rfl | rfl | rfl | rfl | rfl | rfl
  · exact He.free_ok X G (c.fact 0 rfl)
  · exact He.free_ok X G (c.fact 1 rfl)
  · exact He.free_ok X G (c.fact 2 rfl)
  · exact He.free_ok X G (c.fact 3 rfl)
  · exact He.free_ok X G (c.fact 4 rfl)
  · exact He.free_ok X G (c.fact 5 rfl)
  · exact He.free_ok X G (c.fact 6 rfl)
  · exact He.free_ok X G (c.fact 7 rfl)
  · exact He.free_ok X G (c.fact 8 rfl)
  · exact He.free_ok X G (c.fact 9 rfl)
  · exact He.free_ok X G (c.fact 10 rfl)
  · exact He.free_ok X G (c.fact 11 rfl)
  · exact He.free_ok X G (c.fact 12 rfl)
  · exact He.free_ok X G (c.fact 13 rfl)
  · exact He.free_ok X G (c.fact 14 rfl)
  · exact He.free_ok X G (c.fact 15 rfl)
  · exact He.free_ok X G (c.fact 16 rfl)
  · exact He.free_ok X G (c.fact 17 rfl)
theorem g__law_cell_at {fa : Addr} {fd : FuncData} (X : K.In h) (G : h.Ns mainGlobals mg) (c : He.SaysD fa_ fn K) (F : FunD K "_law_cell_at" "_law_cell_at" (defArgs s__law_cell_at) (defBody s__law_cell_at) (defScope s__law_cell_at) [] [] fa fd) : FnG P w K mg base 1 fa fd P__law_cell_at (spF K mg F__law_cell_at) := by
  refine fn_row (k := 0) F sc__law_cell_at rfl rfl m__law_cell_at (hbi X G c) (fun Y e1 e2 e3 e4 e5 => ?_)
  subst e1 e2 e3 e4 e5
  simp only [c__law_cell_at, aS, aE, aA, aI, hanA, hanP, and_true, true_and]
theorem t__law_cell_at (X : K.In h) (G : h.Ns mainGlobals mg) (c : He.SaysD fa_ fn K) : FOk P w K mg base 1 "_law_cell_at" F__law_cell_at := by
  obtain ⟨fd, F⟩ := c.def_ 0 (d := d__law_cell_at) rfl
  exact ⟨_, (g__law_cell_at X G c F).toQ (F.bindsN fun _ _ _ _ _ _ us hl => match us, hl with | [_, _], _ => rfl), He.glo_ok X G (c.fact 18 (f := .glo "_law_cell_at") rfl), F.kp⟩
theorem g__law_draw {fa : Addr} {fd : FuncData} (X : K.In h) (G : h.Ns mainGlobals mg) (c : He.SaysD fa_ fn K) (F : FunD K "_law_draw" "_law_draw" (defArgs s__law_draw) (defBody s__law_draw) (defScope s__law_draw) [] [] fa fd) : FnG P w K mg base 1 fa fd P__law_draw (spF K mg F__law_draw) := by
  refine fn_row (k := 0) F sc__law_draw rfl rfl m__law_draw (hbi X G c) (fun Y e1 e2 e3 e4 e5 => ?_)
  subst e1 e2 e3 e4 e5
  simp only [c__law_draw, aS, aE, aA, aI, hanA, hanP, and_true, true_and]
theorem t__law_draw (X : K.In h) (G : h.Ns mainGlobals mg) (c : He.SaysD fa_ fn K) : FOk P w K mg base 1 "_law_draw" F__law_draw := by
  obtain ⟨fd, F⟩ := c.def_ 1 (d := d__law_draw) rfl
  exact ⟨_, (g__law_draw X G c F).toQ (F.bindsN fun _ _ _ _ _ _ us hl => match us, hl with | [_, _], _ => rfl), He.glo_ok X G (c.fact 19 (f := .glo "_law_draw") rfl), F.kp⟩
theorem g__law_every_view {fa : Addr} {fd : FuncData} (X : K.In h) (G : h.Ns mainGlobals mg) (c : He.SaysD fa_ fn K) (F : FunD K "_law_every_view" "_law_every_view" (defArgs s__law_every_view) (defBody s__law_every_view) (defScope s__law_every_view) [] [] fa fd) : FnG P w K mg base 2 fa fd P__law_every_view (spF K mg F__law_every_view) := by
  refine fn_row (k := 1) F sc__law_every_view rfl rfl m__law_every_view (hbi X G c) (fun Y e1 e2 e3 e4 e5 => ?_)
  subst e1 e2 e3 e4 e5
  have q__law_draw : calX Y 1 (.n (Str.ofString "_law_draw")) F__law_draw := cal_of ((t__law_draw X G c).mono (by decide))
  simp only [c__law_every_view, aS, aE, aA, aI, hanA, hanP, and_true, true_and]
  repeat' first | assumption | apply And.intro
theorem t__law_every_view (X : K.In h) (G : h.Ns mainGlobals mg) (c : He.SaysD fa_ fn K) : FOk P w K mg base 2 "_law_every_view" F__law_every_view := by
  obtain ⟨fd, F⟩ := c.def_ 2 (d := d__law_every_view) rfl
  exact ⟨_, (g__law_every_view X G c F).toQ (F.bindsN fun _ _ _ _ _ _ us hl => match us, hl with | [_, _], _ => rfl), He.glo_ok X G (c.fact 20 (f := .glo "_law_every_view") rfl), F.kp⟩
theorem g__law_whole {fa : Addr} {fd : FuncData} (X : K.In h) (G : h.Ns mainGlobals mg) (c : He.SaysD fa_ fn K) (F : FunD K "_law_whole" "_law_whole" (defArgs s__law_whole) (defBody s__law_whole) (defScope s__law_whole) [] [] fa fd) : FnG P w K mg base 1 fa fd P__law_whole (spF K mg F__law_whole) := by
  refine fn_row (k := 0) F sc__law_whole rfl rfl m__law_whole (hbi X G c) (fun Y e1 e2 e3 e4 e5 => ?_)
  subst e1 e2 e3 e4 e5
  simp only [c__law_whole, aS, aE, aA, aI, hanA, hanP, and_true, true_and]
theorem t__law_whole (X : K.In h) (G : h.Ns mainGlobals mg) (c : He.SaysD fa_ fn K) : FOk P w K mg base 1 "_law_whole" F__law_whole := by
  obtain ⟨fd, F⟩ := c.def_ 3 (d := d__law_whole) rfl
  exact ⟨_, (g__law_whole X G c F).toQ (F.bindsN fun _ _ _ _ _ _ us hl => match us, hl with | [_], _ => rfl), He.glo_ok X G (c.fact 21 (f := .glo "_law_whole") rfl), F.kp⟩
theorem g__law_is_table {fa : Addr} {fd : FuncData} (X : K.In h) (G : h.Ns mainGlobals mg) (c : He.SaysD fa_ fn K) (F : FunD K "_law_is_table" "_law_is_table" (defArgs s__law_is_table) (defBody s__law_is_table) (defScope s__law_is_table) [] [] fa fd) : FnG P w K mg base 2 fa fd P__law_is_table (spF K mg F__law_is_table) := by
  refine fn_row (k := 1) F sc__law_is_table rfl rfl m__law_is_table (hbi X G c) (fun Y e1 e2 e3 e4 e5 => ?_)
  subst e1 e2 e3 e4 e5
  have q__law_whole : calX Y 1 (.n (Str.ofString "_law_whole")) F__law_whole := cal_of ((t__law_whole X G c).mono (by decide))
  simp only [c__law_is_table, aS, aE, aA, aI, hanA, hanP, and_true, true_and]
  repeat' first | assumption | apply And.intro
theorem t__law_is_table (X : K.In h) (G : h.Ns mainGlobals mg) (c : He.SaysD fa_ fn K) : FOk P w K mg base 2 "_law_is_table" F__law_is_table := by
  obtain ⟨fd, F⟩ := c.def_ 4 (d := d__law_is_table) rfl
  exact ⟨_, (g__law_is_table X G c F).toQ (F.bindsN fun _ _ _ _ _ _ us hl => match us, hl with | [_, _], _ => rfl), He.glo_ok X G (c.fact 22 (f := .glo "_law_is_table") rfl), F.kp⟩
theorem g__law_listing {fa : Addr} {fd : FuncData} (X : K.In h) (G : h.Ns mainGlobals mg) (c : He.SaysD fa_ fn K) (F : FunD K "_law_listing" "_law_listing" (defArgs s__law_listing) (defBody s__law_listing) (defScope s__law_listing) [] [] fa fd) : FnG P w K mg base 1 fa fd P__law_listing (spF K mg F__law_listing) := by
  refine fn_row (k := 0) F sc__law_listing rfl rfl m__law_listing (hbi X G c) (fun Y e1 e2 e3 e4 e5 => ?_)
  subst e1 e2 e3 e4 e5
  simp only [c__law_listing, aS, aE, aA, aI, hanA, hanP, and_true, true_and]
theorem t__law_listing (X : K.In h) (G : h.Ns mainGlobals mg) (c : He.SaysD fa_ fn K) : FOk P w K mg base 1 "_law_listing" F__law_listing := by
  obtain ⟨fd, F⟩ := c.def_ 5 (d := d__law_listing) rfl
  exact ⟨_, (g__law_listing X G c F).toQ (F.bindsN fun _ _ _ _ _ _ us hl => match us, hl with | [_], _ => rfl), He.glo_ok X G (c.fact 23 (f := .glo "_law_listing") rfl), F.kp⟩
theorem g__law_pen {fa : Addr} {fd : FuncData} (X : K.In h) (G : h.Ns mainGlobals mg) (c : He.SaysD fa_ fn K) (F : FunD K "_law_pen" "_law_pen" (defArgs s__law_pen) (defBody s__law_pen) (defScope s__law_pen) [] [] fa fd) : FnG P w K mg base 1 fa fd P__law_pen (spF K mg F__law_pen) := by
  refine fn_row (k := 0) F sc__law_pen rfl rfl m__law_pen (hbi X G c) (fun Y e1 e2 e3 e4 e5 => ?_)
  subst e1 e2 e3 e4 e5
  simp only [c__law_pen, aS, aE, aA, aI, hanA, hanP, and_true, true_and]
theorem t__law_pen (X : K.In h) (G : h.Ns mainGlobals mg) (c : He.SaysD fa_ fn K) : FOk P w K mg base 1 "_law_pen" F__law_pen := by
  obtain ⟨fd, F⟩ := c.def_ 6 (d := d__law_pen) rfl
  exact ⟨_, (g__law_pen X G c F).toQ (F.bindsN fun _ _ _ _ _ _ us hl => match us, hl with | [_], _ => rfl), He.glo_ok X G (c.fact 24 (f := .glo "_law_pen") rfl), F.kp⟩
theorem g__law_sizes {fa : Addr} {fd : FuncData} (X : K.In h) (G : h.Ns mainGlobals mg) (c : He.SaysD fa_ fn K) (F : FunD K "_law_sizes" "_law_sizes" (defArgs s__law_sizes) (defBody s__law_sizes) (defScope s__law_sizes) [] [] fa fd) : FnG P w K mg base 1 fa fd P__law_sizes (spF K mg F__law_sizes) := by
  refine fn_row (k := 0) F sc__law_sizes rfl rfl m__law_sizes (hbi X G c) (fun Y e1 e2 e3 e4 e5 => ?_)
  subst e1 e2 e3 e4 e5
  simp only [c__law_sizes, aS, aE, aA, aI, hanA, hanP, and_true, true_and]
theorem t__law_sizes (X : K.In h) (G : h.Ns mainGlobals mg) (c : He.SaysD fa_ fn K) : FOk P w K mg base 1 "_law_sizes" F__law_sizes := by
  obtain ⟨fd, F⟩ := c.def_ 7 (d := d__law_sizes) rfl
  exact ⟨_, (g__law_sizes X G c F).toQ (F.bindsN fun _ _ _ _ _ _ us hl => match us, hl with | [_], _ => rfl), He.glo_ok X G (c.fact 25 (f := .glo "_law_sizes") rfl), F.kp⟩
theorem g__law_sound {fa : Addr} {fd : FuncData} (X : K.In h) (G : h.Ns mainGlobals mg) (c : He.SaysD fa_ fn K) (F : FunD K "_law_sound" "_law_sound" (defArgs s__law_sound) (defBody s__law_sound) (defScope s__law_sound) [] [] fa fd) : FnG P w K mg base 1 fa fd P__law_sound (spF K mg F__law_sound) := by
  refine fn_row (k := 0) F sc__law_sound rfl rfl m__law_sound (hbi X G c) (fun Y e1 e2 e3 e4 e5 => ?_)
  subst e1 e2 e3 e4 e5
  simp only [c__law_sound, aS, aE, aA, aI, hanA, hanP, and_true, true_and]
theorem t__law_sound (X : K.In h) (G : h.Ns mainGlobals mg) (c : He.SaysD fa_ fn K) : FOk P w K mg base 1 "_law_sound" F__law_sound := by
  obtain ⟨fd, F⟩ := c.def_ 8 (d := d__law_sound) rfl
  exact ⟨_, (g__law_sound X G c F).toQ (F.bindsN fun _ _ _ _ _ _ us hl => match us, hl with | [_, _], _ => rfl), He.glo_ok X G (c.fact 26 (f := .glo "_law_sound") rfl), F.kp⟩
theorem g_many_values {fa : Addr} {fd : FuncData} (X : K.In h) (G : h.Ns mainGlobals mg) (c : He.SaysD fa_ fn K) (F : FunD K "many_values" "many_values" (defArgs s_many_values) (defBody s_many_values) (defScope s_many_values) [] [] fa fd) : FnG P w K mg base 1 fa fd P_many_values (spF K mg F_many_values) := by
  refine fn_row (k := 0) F sc_many_values rfl rfl m_many_values (hbi X G c) (fun Y e1 e2 e3 e4 e5 => ?_)
  subst e1 e2 e3 e4 e5
  simp only [c_many_values, aS, aE, aA, aI, hanA, hanP, and_true, true_and]
theorem t_many_values (X : K.In h) (G : h.Ns mainGlobals mg) (c : He.SaysD fa_ fn K) : FOk P w K mg base 1 "many_values" F_many_values := by
  obtain ⟨fd, F⟩ := c.def_ 9 (d := d_many_values) rfl
  exact ⟨_, (g_many_values X G c F).toQ (F.bindsN fun _ _ _ _ _ _ us hl => match us, hl with | [_], _ => rfl), He.glo_ok X G (c.fact 27 (f := .glo "many_values") rfl), F.kp⟩
theorem g_blocks_of {fa : Addr} {fd : FuncData} (X : K.In h) (G : h.Ns mainGlobals mg) (c : He.SaysD fa_ fn K) (F : FunD K "blocks_of" "blocks_of" (defArgs s_blocks_of) (defBody s_blocks_of) (defScope s_blocks_of) [] [] fa fd) : FnG P w K mg base 2 fa fd P_blocks_of (spF K mg F_blocks_of) := by
  refine fn_row (k := 1) F sc_blocks_of rfl rfl m_blocks_of (hbi X G c) (fun Y e1 e2 e3 e4 e5 => ?_)
  subst e1 e2 e3 e4 e5
  have q_many_values : calX Y 1 (.n (Str.ofString "many_values")) F_many_values := cal_of ((t_many_values X G c).mono (by decide))
  simp only [c_blocks_of, aS, aE, aA, aI, hanA, hanP, and_true, true_and]
  repeat' first | assumption | apply And.intro
theorem t_blocks_of (X : K.In h) (G : h.Ns mainGlobals mg) (c : He.SaysD fa_ fn K) : FOk P w K mg base 2 "blocks_of" F_blocks_of := by
  obtain ⟨fd, F⟩ := c.def_ 10 (d := d_blocks_of) rfl
  exact ⟨_, (g_blocks_of X G c F).toQ (F.bindsN fun _ _ _ _ _ _ us hl => match us, hl with | [_], _ => rfl), He.glo_ok X G (c.fact 28 (f := .glo "blocks_of") rfl), F.kp⟩
theorem g_is_whole {fa : Addr} {fd : FuncData} (X : K.In h) (G : h.Ns mainGlobals mg) (c : He.SaysD fa_ fn K) (F : FunD K "is_whole" "is_whole" (defArgs s_is_whole) (defBody s_is_whole) (defScope s_is_whole) [] [] fa fd) : FnG P w K mg base 1 fa fd P_is_whole (spF K mg F_is_whole) := by
  refine fn_row (k := 0) F sc_is_whole rfl rfl m_is_whole (hbi X G c) (fun Y e1 e2 e3 e4 e5 => ?_)
  subst e1 e2 e3 e4 e5
  simp only [c_is_whole, aS, aE, aA, aI, hanA, hanP, and_true, true_and]
theorem t_is_whole (X : K.In h) (G : h.Ns mainGlobals mg) (c : He.SaysD fa_ fn K) : FOk P w K mg base 1 "is_whole" F_is_whole := by
  obtain ⟨fd, F⟩ := c.def_ 11 (d := d_is_whole) rfl
  exact ⟨_, (g_is_whole X G c F).toQ (F.bindsN fun _ _ _ _ _ _ us hl => match us, hl with | [_], _ => rfl), He.glo_ok X G (c.fact 29 (f := .glo "is_whole") rfl), F.kp⟩
theorem g_is_among {fa : Addr} {fd : FuncData} (X : K.In h) (G : h.Ns mainGlobals mg) (c : He.SaysD fa_ fn K) (F : FunD K "is_among" "is_among" (defArgs s_is_among) (defBody s_is_among) (defScope s_is_among) [] [] fa fd) : FnG P w K mg base 2 fa fd P_is_among (spF K mg F_is_among) := by
  refine fn_row (k := 1) F sc_is_among rfl rfl m_is_among (hbi X G c) (fun Y e1 e2 e3 e4 e5 => ?_)
  subst e1 e2 e3 e4 e5
  have q_is_whole : calX Y 1 (.n (Str.ofString "is_whole")) F_is_whole := cal_of ((t_is_whole X G c).mono (by decide))
  simp only [c_is_among, aS, aE, aA, aI, hanA, hanP, and_true, true_and]
  repeat' first | assumption | apply And.intro
theorem t_is_among (X : K.In h) (G : h.Ns mainGlobals mg) (c : He.SaysD fa_ fn K) : FOk P w K mg base 2 "is_among" F_is_among := by
  obtain ⟨fd, F⟩ := c.def_ 12 (d := d_is_among) rfl
  exact ⟨_, (g_is_among X G c F).toQ (F.bindsN fun _ _ _ _ _ _ us hl => match us, hl with | [_, _], _ => rfl), He.glo_ok X G (c.fact 30 (f := .glo "is_among") rfl), F.kp⟩
theorem g_is_row {fa : Addr} {fd : FuncData} (X : K.In h) (G : h.Ns mainGlobals mg) (c : He.SaysD fa_ fn K) (F : FunD K "is_row" "is_row" (defArgs s_is_row) (defBody s_is_row) (defScope s_is_row) [] [] fa fd) : FnG P w K mg base 1 fa fd P_is_row (spF K mg F_is_row) := by
  refine fn_row (k := 0) F sc_is_row rfl rfl m_is_row (hbi X G c) (fun Y e1 e2 e3 e4 e5 => ?_)
  subst e1 e2 e3 e4 e5
  simp only [c_is_row, aS, aE, aA, aI, hanA, hanP, and_true, true_and]
theorem t_is_row (X : K.In h) (G : h.Ns mainGlobals mg) (c : He.SaysD fa_ fn K) : FOk P w K mg base 1 "is_row" F_is_row := by
  obtain ⟨fd, F⟩ := c.def_ 13 (d := d_is_row) rfl
  exact ⟨_, (g_is_row X G c F).toQ (F.bindsN fun _ _ _ _ _ _ us hl => match us, hl with | [_, _, _], _ => rfl), He.glo_ok X G (c.fact 31 (f := .glo "is_row") rfl), F.kp⟩
theorem g_is_view {fa : Addr} {fd : FuncData} (X : K.In h) (G : h.Ns mainGlobals mg) (c : He.SaysD fa_ fn K) (F : FunD K "is_view" "is_view" (defArgs s_is_view) (defBody s_is_view) (defScope s_is_view) [] [] fa fd) : FnG P w K mg base 3 fa fd P_is_view (spF K mg F_is_view) := by
  refine fn_row (k := 2) F sc_is_view rfl rfl m_is_view (hbi X G c) (fun Y e1 e2 e3 e4 e5 => ?_)
  subst e1 e2 e3 e4 e5
  have q_is_among : calX Y 2 (.n (Str.ofString "is_among")) F_is_among := cal_of ((t_is_among X G c).mono (by decide))
  have q_is_row : calX Y 2 (.n (Str.ofString "is_row")) F_is_row := cal_of ((t_is_row X G c).mono (by decide))
  have q_MOST_STATES : gloX Y (Str.ofString "MOST_STATES") (.int 9) := glo_int (He.int_ok X G (c.fact 39 (f := .int "MOST_STATES" 9) rfl))
  simp only [c_is_view, aS, aE, aA, aI, hanA, hanP, and_true, true_and]
  repeat' first | assumption | apply And.intro
theorem t_is_view (X : K.In h) (G : h.Ns mainGlobals mg) (c : He.SaysD fa_ fn K) : FOk P w K mg base 3 "is_view" F_is_view := by
  obtain ⟨fd, F⟩ := c.def_ 14 (d := d_is_view) rfl
  exact ⟨_, (g_is_view X G c F).toQ (F.bindsN fun _ _ _ _ _ _ us hl => match us, hl with | [_], _ => rfl), He.glo_ok X G (c.fact 32 (f := .glo "is_view") rfl), F.kp⟩
theorem g_need_view {fa : Addr} {fd : FuncData} (X : K.In h) (G : h.Ns mainGlobals mg) (c : He.SaysD fa_ fn K) (F : FunD K "need_view" "need_view" (defArgs s_need_view) (defBody s_need_view) (defScope s_need_view) [] [] fa fd) : FnG P w K mg base 4 fa fd P_need_view (spF K mg F_need_view) := by
  refine fn_row (k := 3) F sc_need_view rfl rfl m_need_view (hbi X G c) (fun Y e1 e2 e3 e4 e5 => ?_)
  subst e1 e2 e3 e4 e5
  have q_is_view : calX Y 3 (.n (Str.ofString "is_view")) F_is_view := cal_of ((t_is_view X G c).mono (by decide))
  have q_NoView : raiX Y (.cls (Str.ofString "NoView")) := rai_ok X G (c.fact 40 (f := .exc "NoView") rfl) (c.fact 41 (f := .glo "NoView") rfl) (by decide)
  simp only [c_need_view, aS, aE, aA, aI, hanA, hanP, and_true, true_and]
  repeat' first | assumption | apply And.intro
theorem t_need_view (X : K.In h) (G : h.Ns mainGlobals mg) (c : He.SaysD fa_ fn K) : FOk P w K mg base 4 "need_view" F_need_view := by
  obtain ⟨fd, F⟩ := c.def_ 15 (d := d_need_view) rfl
  exact ⟨_, (g_need_view X G c F).toQ (F.bindsN fun _ _ _ _ _ _ us hl => match us, hl with | [_], _ => rfl), He.glo_ok X G (c.fact 33 (f := .glo "need_view") rfl), F.kp⟩
theorem g_places_of {fa : Addr} {fd : FuncData} (X : K.In h) (G : h.Ns mainGlobals mg) (c : He.SaysD fa_ fn K) (F : FunD K "places_of" "places_of" (defArgs s_places_of) (defBody s_places_of) (defScope s_places_of) [] [] fa fd) : FnG P w K mg base 1 fa fd P_places_of (spF K mg F_places_of) := by
  refine fn_row (k := 0) F sc_places_of rfl rfl m_places_of (hbi X G c) (fun Y e1 e2 e3 e4 e5 => ?_)
  subst e1 e2 e3 e4 e5
  simp only [c_places_of, aS, aE, aA, aI, hanA, hanP, and_true, true_and]
theorem t_places_of (X : K.In h) (G : h.Ns mainGlobals mg) (c : He.SaysD fa_ fn K) : FOk P w K mg base 1 "places_of" F_places_of := by
  obtain ⟨fd, F⟩ := c.def_ 16 (d := d_places_of) rfl
  exact ⟨_, (g_places_of X G c F).toQ (F.bindsN fun _ _ _ _ _ _ us hl => match us, hl with | [_, _], _ => rfl), He.glo_ok X G (c.fact 34 (f := .glo "places_of") rfl), F.kp⟩
theorem g_row_by {fa : Addr} {fd : FuncData} (X : K.In h) (G : h.Ns mainGlobals mg) (c : He.SaysD fa_ fn K) (F : FunD K "row_by" "row_by" (defArgs s_row_by) (defBody s_row_by) (defScope s_row_by) [] [] fa fd) : FnG P w K mg base 2 fa fd P_row_by (spF K mg F_row_by) := by
  refine fn_row (k := 1) F sc_row_by rfl rfl m_row_by (hbi X G c) (fun Y e1 e2 e3 e4 e5 => ?_)
  subst e1 e2 e3 e4 e5
  have q_many_values : calX Y 1 (.n (Str.ofString "many_values")) F_many_values := cal_of ((t_many_values X G c).mono (by decide))
  simp only [c_row_by, aS, aE, aA, aI, hanA, hanP, and_true, true_and]
  repeat' first | assumption | apply And.intro
theorem t_row_by (X : K.In h) (G : h.Ns mainGlobals mg) (c : He.SaysD fa_ fn K) : FOk P w K mg base 2 "row_by" F_row_by := by
  obtain ⟨fd, F⟩ := c.def_ 17 (d := d_row_by) rfl
  exact ⟨_, (g_row_by X G c F).toQ (F.bindsN fun _ _ _ _ _ _ us hl => match us, hl with | [_, _], _ => rfl), He.glo_ok X G (c.fact 35 (f := .glo "row_by") rfl), F.kp⟩
theorem g_table_by {fa : Addr} {fd : FuncData} (X : K.In h) (G : h.Ns mainGlobals mg) (c : He.SaysD fa_ fn K) (F : FunD K "table_by" "table_by" (defArgs s_table_by) (defBody s_table_by) (defScope s_table_by) [] [] fa fd) : FnG P w K mg base 3 fa fd P_table_by (spF K mg F_table_by) := by
  refine fn_row (k := 2) F sc_table_by rfl rfl m_table_by (hbi X G c) (fun Y e1 e2 e3 e4 e5 => ?_)
  subst e1 e2 e3 e4 e5
  have q_places_of : calX Y 2 (.n (Str.ofString "places_of")) F_places_of := cal_of ((t_places_of X G c).mono (by decide))
  have q_row_by : calX Y 2 (.n (Str.ofString "row_by")) F_row_by := cal_of ((t_row_by X G c).mono (by decide))
  simp only [c_table_by, aS, aE, aA, aI, hanA, hanP, and_true, true_and]
  repeat' first | assumption | apply And.intro
theorem t_table_by (X : K.In h) (G : h.Ns mainGlobals mg) (c : He.SaysD fa_ fn K) : FOk P w K mg base 3 "table_by" F_table_by := by
  obtain ⟨fd, F⟩ := c.def_ 18 (d := d_table_by) rfl
  exact ⟨_, (g_table_by X G c F).toQ (F.bindsN fun _ _ _ _ _ _ us hl => match us, hl with | [_, _], _ => rfl), He.glo_ok X G (c.fact 36 (f := .glo "table_by") rfl), F.kp⟩
theorem g_widest {fa : Addr} {fd : FuncData} (X : K.In h) (G : h.Ns mainGlobals mg) (c : He.SaysD fa_ fn K) (F : FunD K "widest" "widest" (defArgs s_widest) (defBody s_widest) (defScope s_widest) [] [] fa fd) : FnG P w K mg base 5 fa fd P_widest (spF K mg F_widest) := by
  refine fn_row (k := 4) F sc_widest rfl rfl m_widest (hbi X G c) (fun Y e1 e2 e3 e4 e5 => ?_)
  subst e1 e2 e3 e4 e5
  have q_blocks_of : calX Y 4 (.n (Str.ofString "blocks_of")) F_blocks_of := cal_of ((t_blocks_of X G c).mono (by decide))
  have q_need_view : calX Y 4 (.n (Str.ofString "need_view")) F_need_view := cal_of ((t_need_view X G c).mono (by decide))
  have q_table_by : calX Y 4 (.n (Str.ofString "table_by")) F_table_by := cal_of ((t_table_by X G c).mono (by decide))
  simp only [c_widest, aS, aE, aA, aI, hanA, hanP, and_true, true_and]
  repeat' first | assumption | apply And.intro
theorem t_widest (X : K.In h) (G : h.Ns mainGlobals mg) (c : He.SaysD fa_ fn K) : FOk P w K mg base 5 "widest" F_widest := by
  obtain ⟨fd, F⟩ := c.def_ 19 (d := d_widest) rfl
  exact ⟨_, (g_widest X G c F).toQ (F.bindsN fun _ _ _ _ _ _ us hl => match us, hl with | [_], _ => rfl), He.glo_ok X G (c.fact 37 (f := .glo "widest") rfl), F.kp⟩
theorem g_law {fa : Addr} {fd : FuncData} (X : K.In h) (G : h.Ns mainGlobals mg) (c : He.SaysD fa_ fn K) (F : FunD K "law" "law" (defArgs s_law) (defBody s_law) (defScope s_law) [] [] fa fd) : FnG P w K mg base 6 fa fd P_law (spF K mg F_law) := by
  refine fn_row (k := 5) F sc_law rfl rfl m_law (hbi X G c) (fun Y e1 e2 e3 e4 e5 => ?_)
  subst e1 e2 e3 e4 e5
  have q__law_cell_at : calX Y 5 (.n (Str.ofString "_law_cell_at")) F__law_cell_at := cal_of ((t__law_cell_at X G c).mono (by decide))
  have q__law_every_view : calX Y 5 (.n (Str.ofString "_law_every_view")) F__law_every_view := cal_of ((t__law_every_view X G c).mono (by decide))
  have q__law_is_table : calX Y 5 (.n (Str.ofString "_law_is_table")) F__law_is_table := cal_of ((t__law_is_table X G c).mono (by decide))
  have q__law_listing : calX Y 5 (.n (Str.ofString "_law_listing")) F__law_listing := cal_of ((t__law_listing X G c).mono (by decide))
  have q__law_pen : calX Y 5 (.n (Str.ofString "_law_pen")) F__law_pen := cal_of ((t__law_pen X G c).mono (by decide))
  have q__law_sizes : calX Y 5 (.n (Str.ofString "_law_sizes")) F__law_sizes := cal_of ((t__law_sizes X G c).mono (by decide))
  have q__law_sound : calX Y 5 (.n (Str.ofString "_law_sound")) F__law_sound := cal_of ((t__law_sound X G c).mono (by decide))
  have q__law_whole : calX Y 5 (.n (Str.ofString "_law_whole")) F__law_whole := cal_of ((t__law_whole X G c).mono (by decide))
  have q_widest : calX Y 5 (.n (Str.ofString "widest")) F_widest := cal_of ((t_widest X G c).mono (by decide))
  simp only [c_law, aS, aE, aA, aI, hanA, hanP, and_true, true_and]
  repeat' first | assumption | apply And.intro
theorem t_law (X : K.In h) (G : h.Ns mainGlobals mg) (c : He.SaysD fa_ fn K) : FOk P w K mg base 6 "law" F_law := by
  obtain ⟨fd, F⟩ := c.def_ 20 (d := d_law) rfl
  exact ⟨_, (g_law X G c F).toQ (F.bindsN fun _ _ _ _ _ _ us hl => match us, hl with | [_], _ => rfl), He.glo_ok X G (c.fact 38 (f := .glo "law") rfl), F.kp⟩
end
theorem holds_of (hF : Says F_law) : PySem.Challenge.rw_writebacks_k13_widest_table.Holds := by
  open PySem.W in
  w_on; o_law
  refine HandSHeadRun.head_any (r := R) (q := PySem.W.view R.prog [28]) (H := hk) (ob := ob) (M := 6000) (loose := loose) (d := HandSHeadRun.topDef R.prog 28) (kwd := []) ob_eq (by kernel_rfl) (fun s => by kernel_rfl) run (by kernel_rfl) (by kernel_rfl) (by kernel_rfl) (by rfl) (by first | assumption | decide +kernel) (by decide +kernel) ⟨rfl, rfl, rfl, rfl, rfl, by decide +kernel⟩ ?hw ?hc
  case hw => w_witness2
  case hc =>
    refine walk_ofG (l := PySem.Challenge.rw_writebacks_k13_widest_table) (k := 6) (x := "_law_script") rfl (by kernel_rfl) ⟨rfl, by decide, by decide⟩ hF ?_
    intro w mg fa h Y G hmg0
    obtain ⟨K, KX, c⟩ := Y
    have hmg : mg ("law" : Str) = some (.ref fa) := by
      have e : (HandSHeadRun.topDef R.prog 28).name = ("law" : Str) := by kernel_rfl
      rw [← e]; exact hmg0
    obtain ⟨fd, F⟩ := c.def_ 20 (d := d_law) rfl
    have e := hmg.symm.trans (He.glo_ok KX G (c.fact 38 (f := .glo "law") rfl))
    cases e
    have b := FunD.bindsA (ps := P_law) F fun _ _ _ _ _ _ us hl => match us, hl with | [_], _ => rfl
    refine ⟨K, fd, KX, fun s v => b s [v] rfl, fun base _ _ => ?_⟩
    exact g_law KX G c F
end L2.Gv.Law

set_option Elab.async false
set_option linter.all false
set_option maxRecDepth 100000
set_option maxHeartbeats 2000000
namespace L2.Gv.Com
open PySem PySem.Spec PyProof.Rows L2 L2.Gv
/-! # Pens, draws -/
/-- a pen: what is left, a seed, the number of draws -/
def Pen (k : Nat) (p : List D) : Prop := ∃ a b c : Int, p = [.int a, .int b, .int c] ∧ 0 ≤ a ∧ 0 ≤ b ∧ b < 1000000007 ∧ 0 ≤ c ∧ c ≤ k
theorem Pen.mono {j k : Nat} {p : List D} (h : Pen j p) (hk : j ≤ k) : Pen k p := by
  obtain ⟨a, b, c, e, h1, h2, h3, h4, h5⟩ := h
  exact ⟨a, b, c, e, h1, h2, h3, h4, by omega⟩
theorem mulOk_left {i j : Int} (h1 : 0 ≤ i) (h2 : i < 18446744073709551616) : mulOk i j = true := by
  unfold mulOk
  rw [Bool.or_eq_true]
  left
  rw [Bool.and_eq_true, decide_eq_true_eq, decide_eq_true_eq]
  constructor <;> omega
theorem draw_ok {k : Nat} {p : List D} {m : Int} (h : Pen k p) (hk : k < 100000000) (hm : 0 < m) (hm2 : m < 1073741824) : ∃ d p', F__law_draw.sem [.ml p, .im (.int m)] = .ok (.im (.int d)) (.ml p') ∧ Pen (k + 1) p' ∧ 0 ≤ d ∧ d < m := by
  obtain ⟨a, b, c, rfl, ha, hb, hb2, hc, hc2⟩ := h
  by_cases h0 : 0 < a
  · refine ⟨a % m, [.int (a / m), .int b, .int c], ?_, ⟨a / m, b, c, rfl, Int.ediv_nonneg ha (Int.le_of_lt hm), hb, hb2, hc, by omega⟩, Int.emod_nonneg _ (by omega), Int.emod_lt_of_pos _ hm⟩
    simp [F__law_draw, mkFn, c__law_draw, exS, evE, evA, asB, Rs.bind, frz, binD, cmpD, bM, lift, need, idxD, L2.atI, ixN, h0, hm, hm2, fin]
  · generalize hs1 : (b + 17 * (c + 1)) * (69621 + 2 * (c + 1)) % 2147483647 = s1
    generalize hs2 : (s1 * s1 + 40503 * (c + 1) + 5) % 2147483629 = s2
    have b1 : 0 ≤ s1 := by rw [← hs1]; exact Int.emod_nonneg _ (by decide)
    have b1' : s1 < 2147483647 := by rw [← hs1]; exact Int.emod_lt_of_pos _ (by decide)
    have b2 : 0 ≤ s2 := by rw [← hs2]; exact Int.emod_nonneg _ (by decide)
    have b2' : s2 < 2147483629 := by rw [← hs2]; exact Int.emod_lt_of_pos _ (by decide)
    have m1 : mulOk 17 (c + 1) = true := mulOk_left (by decide) (by decide)
    have m2 : mulOk 2 (c + 1) = true := mulOk_left (by decide) (by decide)
    have m3 : mulOk (b + 17 * (c + 1)) (69621 + 2 * (c + 1)) = true := mulOk_left (by omega) (by omega)
    have m4 : mulOk s1 s1 = true := mulOk_left b1 (by omega)
    have m5 : mulOk 40503 (c + 1) = true := mulOk_left (by decide) (by decide)
    have m6 : mulOk s2 48271 = true := mulOk_left b2 (by omega)
    refine ⟨s2 * 48271 % 2147483647 / 32 % m, [.int a, .int b, .int (c + 1)], ?_, ⟨a, b, c + 1, rfl, ha, hb, hb2, by omega, by omega⟩, Int.emod_nonneg _ (by omega), Int.emod_lt_of_pos _ hm⟩
    simp [F__law_draw, mkFn, c__law_draw, exS, evE, evA, asB, Rs.bind, frz, binD, cmpD, bM, lift, need, idxD, L2.atI, ixN, h0, hm, hm2, fin, m1, m2, m3, hs1, m4, m5, hs2, m6]
theorem pen_ok (c : Int) : ∃ p, F__law_pen.sem [.im (.int c)] = .ok (.ml p) (.im .none) ∧ Pen 0 p := by
  have hp : (0 : Int) ≤ c % 1000000007 := Int.emod_nonneg _ (by decide)
  have hq : c % 1000000007 < 1000000007 := Int.emod_lt_of_pos _ (by decide)
  refine ⟨[.int (if c - 10 ^ 18 > 0 then c - 10 ^ 18 else 0), .int (c % 1000000007), .int 0], ?_, ⟨_, _, 0, rfl, ?_, hp, hq, by decide, by decide⟩⟩
  · simp [F__law_pen, mkFn, c__law_pen, exS, evE, evA, Rs.bind, frz, binD, lift, biD, biMax, fin, seqD]
  · split <;> omega
theorem cell_ok (ns : List Int) (k : Nat) : ∃ c : Int, F__law_cell_at.sem [.im (scrD ns), .im (.int k)] = .ok (.im (.int c)) (.im .none) := by
  by_cases h : (k : Int) < (ns.length : Int)
  · refine ⟨ns[k]'(by omega), ?_⟩
    simp [F__law_cell_at, mkFn, c__law_cell_at, exS, evE, evA, asB, Rs.bind, frz, cmpD, bM, lift, biD, biLen, lenD, scrD, idxD, L2.atI, ixN, fin, h, List.getElem?_eq_getElem (show k < ns.length by omega)]
  · refine ⟨0, ?_⟩
    simp [F__law_cell_at, mkFn, c__law_cell_at, exS, evE, evA, asB, Rs.bind, frz, cmpD, bM, lift, biD, biLen, lenD, scrD, idxD, L2.atI, ixN, fin, h]
end L2.Gv.Com

set_option Elab.async false
set_option linter.all false
set_option maxRecDepth 100000
set_option maxHeartbeats 2000000
namespace L2.Gv
open PySem PySem.Spec PyProof.Rows L2
theorem seq_nx {a b : Sm} {Γ Γ1 : Sl} (h : exS a Γ = .ok .nx Γ1) : exS (.seq a b) Γ = exS b Γ1 := by
  show (exS a Γ).bind _ = _
  rw [h]; rfl
theorem sem_rt {io : Bool} {np ns : Nat} {c : Sm} {ms : List M} {Γ : Sl} {r : M} (hl : ms.length = np) (h : exS c (ms.map some ++ List.replicate (ns - np) none) = .ok (.rt r) Γ) : (mkFn io np ns c).sem ms = fin io r Γ := by
  show (if ms.length = np then _ else _) = _
  rw [if_pos hl, h]
theorem ret_rt {e : Ex} {Γ Γ1 : Sl} {m : M} {b : Sm} (h : evE e Γ = .ok m Γ1) : exS (.seq (.ret e) b) Γ = .ok (.rt m) Γ1 := by
  show ((evE e Γ).bind _).bind _ = _
  rw [h]; rfl
/-- a built-in of one argument -/
theorem bi1 {b : Bi} {e : Ex} {Γ Γ1 : Sl} {m r : M} (h : evE e Γ = .ok m Γ1) (hb : biD b [frz m] = some r) : evE (.bi b (.cons e .nil)) Γ = .ok r Γ1 := by
  simp only [evE, evA, h, Rs.bind, hb, lift]
theorem ifs_f {c : Ex} {a b : Sm} {Γ Γ1 : Sl} (h : evE c Γ = .ok (.im (.bool false)) Γ1) : exS (.ifs c a b) Γ = exS b Γ1 := by
  simp only [exS, h, asB, Rs.bind, Bool.false_eq_true, if_false]
/-! ## Lists of numbers as data -/
def nD (xs : List Nat) : List D := xs.map fun (n : Nat) => .int n
theorem nD_length (xs : List Nat) : (nD xs).length = xs.length := List.length_map _
theorem nD_get {xs : List Nat} {i : Nat} {x : Nat} (h : xs[i]? = some x) : (nD xs)[i]? = some (.int x) := by
  unfold nD; rw [List.getElem?_map, h]; rfl
theorem nD_of {xs : List Nat} {i : Nat} {d : D} (h : (nD xs)[i]? = some d) : ∃ x : Nat, d = .int x ∧ xs[i]? = some x := by
  unfold nD at h
  rw [List.getElem?_map] at h
  cases q : xs[i]? with
  | none => rw [q] at h; cases h
  | some x => rw [q] at h; cases h; exact ⟨x, rfl, rfl⟩
theorem nD_mem {xs : List Nat} {d : D} (h : d ∈ nD xs) : ∃ x : Nat, d = .int x ∧ x ∈ xs := by
  unfold nD at h
  obtain ⟨x, h1, h2⟩ := List.mem_map.mp h
  exact ⟨x, h2.symm, h1⟩
theorem eqv_int (a b : Int) : PyData.eqv (.int a) (.int b) = decide (a = b) := by
  show (a == b) = _
  rfl
theorem shp_int (a : Int) : shp (.int a) = true := rfl
theorem nD_shp (xs : List Nat) : (nD xs).all shp = true := by
  rw [List.all_eq_true]
  intro d hd
  obtain ⟨x, rfl, _⟩ := nD_mem hd
  rfl
theorem nD_any (xs : List Nat) (n : Nat) : (nD xs).any (fun x => PyData.eqv x (.int n)) = decide (n ∈ xs) := by
  rw [Bool.eq_iff_iff, List.any_eq_true, decide_eq_true_eq]
  constructor
  · rintro ⟨d, h1, h2⟩
    obtain ⟨x, rfl, h3⟩ := nD_mem h1
    rw [eqv_int, decide_eq_true_eq] at h2
    have : x = n := by omega
    rw [← this]; exact h3
  · intro h
    refine ⟨.int n, List.mem_map.mpr ⟨n, h, rfl⟩, ?_⟩
    rw [eqv_int]; simp
theorem lay_nD : ∀ xs : List Nat, PyData.canLayAll0 (nD xs) = true ∧ PyData.depthAll (nD xs) = 0
  | [] => ⟨rfl, rfl⟩
  | x :: xs => by
    obtain ⟨h1, h2⟩ := lay_nD xs
    have e : nD (x :: xs) = .int x :: nD xs := rfl
    rw [e]
    refine ⟨?_, ?_⟩
    · rw [PyData.canLayAll0, h1]; rfl
    · rw [PyData.depthAll, h2]; rfl
end L2.Gv

set_option Elab.async false
set_option linter.all false
set_option maxRecDepth 100000
set_option maxHeartbeats 2000000
namespace L2.Gv.Com
open PySem PySem.Spec PyProof.Rows L2 L2.Gv
/-! # Views -/
/-- v is a view of the values 0 .. m-1 -/
structure Vw (v : List Nat) (m : Nat) : Prop where
  one : 1 ≤ v.length
  nine : v.length ≤ 9
  lt : ∀ x ∈ v, x < m
  all : ∀ x, x < m → x ∈ v
  le : m ≤ v.length
theorem nD_snoc (xs : List Nat) (z : Nat) : nD xs ++ [.int z] = nD (xs ++ [z]) := by unfold nD; rw [List.map_append]; rfl
def Inj (xs : List Nat) : Prop := ∀ (i j a : Nat), xs[i]? = some a → xs[j]? = some a → i = j
theorem range_ok {n : Nat} {Γ : Sl} {es : Ar} (h : evA es Γ = .ok [.int n] Γ) (hn : n ≤ 1000) : evI (.rng es) Γ = .ok (nD (List.range n)) Γ := by
  have e : rangeD 0 (n : Int) = nD (List.range n) := by
    unfold rangeD nD
    rw [Int.sub_zero, Int.toNat_natCast]
    apply List.map_congr_left
    intro k _
    rw [Int.zero_add]
  have h1 : small62 (n : Int) = true := by
    unfold small62
    rw [Bool.and_eq_true, decide_eq_true_eq, decide_eq_true_eq]; omega
  have h2 : lineOk (n : Int).toNat = true := by
    unfold lineOk
    rw [Nat.ble_eq, Int.toNat_natCast]; omega
  simp only [evI, h, Rs.bind, h1, h2, Bool.and_self, if_true, e]
end L2.Gv.Com

set_option Elab.async false
set_option linter.all false
set_option maxRecDepth 100000
set_option maxHeartbeats 2000000
namespace L2.Gv.Com
open PySem PySem.Spec PyProof.Rows L2 L2.Gv
/-! # Partitions -/
def pD (ps : List (List Nat)) : List D := ps.map fun q => .tuple (nD q)
theorem pD_length (ps : List (List Nat)) : (pD ps).length = ps.length := List.length_map _
theorem pD_get {ps : List (List Nat)} {i : Nat} {q : List Nat} (h : ps[i]? = some q) : (pD ps)[i]? = some (.tuple (nD q)) := by
  unfold pD; rw [List.getElem?_map, h]; rfl
theorem pD_mem {ps : List (List Nat)} {d : D} (h : d ∈ pD ps) : ∃ q, d = .tuple (nD q) ∧ q ∈ ps := by
  unfold pD at h
  obtain ⟨x, h1, h2⟩ := List.mem_map.mp h
  exact ⟨x, h2.symm, h1⟩
/-- ps parts the states 0 .. i-1 of the view v -/
structure Prt (v : List Nat) (i : Nat) (ps : List (List Nat)) : Prop where
  lt : ∀ q ∈ ps, ∀ s ∈ q, s < i
  all : ∀ s, s < i → ∃ q ∈ ps, s ∈ q
  dis : ∀ (j1 j2 : Nat) (q1 q2 : List Nat) (s : Nat), ps[j1]? = some q1 → ps[j2]? = some q2 → s ∈ q1 → s ∈ q2 → j1 = j2
  val : ∀ q ∈ ps, ∀ s ∈ q, ∀ t ∈ q, v[s]? = v[t]? → s = t
  ne : ∀ q ∈ ps, q ≠ []
  asc : ∀ q ∈ ps, q.Pairwise (· < ·)
  few : ps.length ≤ i
theorem prt_nil (v : List Nat) : Prt v 0 [] :=
  ⟨(fun q h => by cases h), (fun s h => by omega), (fun j1 j2 q1 q2 s h => by cases h), (fun q h => by cases h), (fun q h => by cases h), (fun q h => by cases h), Nat.le_refl _⟩
theorem prt_new {v : List Nat} {i : Nat} {ps : List (List Nat)} (h : Prt v i ps) : Prt v (i + 1) (ps ++ [[i]]) := by
  have mem : ∀ q, q ∈ ps ++ [[i]] → q ∈ ps ∨ q = [i] := fun q hq => by
    rcases List.mem_append.mp hq with z | z
    · exact .inl z
    · exact .inr (List.mem_singleton.mp z)
  have get : ∀ (j : Nat) q, (ps ++ [[i]])[j]? = some q → (ps[j]? = some q) ∨ (j = ps.length ∧ q = [i]) := fun j q hj => by
    by_cases hl : j < ps.length
    · rw [List.getElem?_append_left hl] at hj; exact .inl hj
    · rw [List.getElem?_append_right (by omega)] at hj
      cases e : j - ps.length with
      | zero => rw [e] at hj; simp at hj; exact .inr ⟨by omega, hj.symm⟩
      | succ k => rw [e] at hj; simp at hj
  refine ⟨fun q hq s hs => ?_, fun s hs => ?_, fun j1 j2 q1 q2 s h1 h2 m1 m2 => ?_, fun q hq s hs t ht hv => ?_, fun q hq => ?_, fun q hq => ?_, ?_⟩
  · rcases mem q hq with z | rfl
    · have := h.lt q z s hs; omega
    · have := List.mem_singleton.mp hs; omega
  · by_cases e : s < i
    · obtain ⟨q, hq, hm⟩ := h.all s e
      exact ⟨q, List.mem_append_left _ hq, hm⟩
    · exact ⟨[i], List.mem_append_right _ (List.mem_singleton.mpr rfl), by rw [List.mem_singleton]; omega⟩
  · rcases get j1 q1 h1 with z1 | ⟨z1, rfl⟩
    · rcases get j2 q2 h2 with z2 | ⟨z2, rfl⟩
      · exact h.dis j1 j2 q1 q2 s z1 z2 m1 m2
      · have := h.lt q1 (List.mem_of_getElem? z1) s m1
        have := List.mem_singleton.mp m2; omega
    · rcases get j2 q2 h2 with z2 | ⟨z2, rfl⟩
      · have := h.lt q2 (List.mem_of_getElem? z2) s m2
        have := List.mem_singleton.mp m1; omega
      · omega
  · rcases mem q hq with z | rfl
    · exact h.val q z s hs t ht hv
    · rw [List.mem_singleton.mp hs, List.mem_singleton.mp ht]
  · rcases mem q hq with z | rfl
    · exact h.ne q z
    · simp
  · rcases mem q hq with z | rfl
    · exact h.asc q z
    · exact List.pairwise_singleton _ _
  · rw [List.length_append]; have := h.few; simp; omega
theorem prt_join {v : List Nat} {i z : Nat} {ps : List (List Nat)} {q : List Nat} (h : Prt v i ps) (hz : ps[z]? = some q) (hc : ∀ t ∈ q, v[t]? ≠ v[i]?) : Prt v (i + 1) (ps.set z (q ++ [i])) := by
  have zl : z < ps.length := (List.getElem?_eq_some_iff.mp hz).1
  have qm : q ∈ ps := List.mem_of_getElem? hz
  have get : ∀ (j : Nat) q', (ps.set z (q ++ [i]))[j]? = some q' → (j = z ∧ q' = q ++ [i]) ∨ (j ≠ z ∧ ps[j]? = some q') := fun j q' hj => by
    by_cases e : z = j
    · subst e
      rw [List.getElem?_set_self zl] at hj
      exact .inl ⟨rfl, (Option.some.inj hj).symm⟩
    · rw [List.getElem?_set_ne e] at hj
      exact .inr ⟨fun z => e z.symm, hj⟩
  have mem : ∀ q', q' ∈ ps.set z (q ++ [i]) → q' = q ++ [i] ∨ q' ∈ ps := fun q' hq => by
    obtain ⟨j, hj⟩ := List.mem_iff_getElem?.mp hq
    rcases get j q' hj with ⟨_, e⟩ | ⟨_, e⟩
    · exact .inl e
    · exact .inr (List.mem_of_getElem? e)
  have mi : ∀ s, s ∈ q ++ [i] → s ∈ q ∨ s = i := fun s hs => by
    rcases List.mem_append.mp hs with z | z
    · exact .inl z
    · exact .inr (List.mem_singleton.mp z)
  refine ⟨fun q' hq s hs => ?_, fun s hs => ?_, fun j1 j2 q1 q2 s h1 h2 m1 m2 => ?_, fun q' hq s hs t ht hv => ?_, fun q' hq => ?_, fun q' hq => ?_, ?_⟩
  · rcases mem q' hq with rfl | e
    · rcases mi s hs with e | e
      · have := h.lt q qm s e; omega
      · omega
    · have := h.lt q' e s hs; omega
  · by_cases e : s < i
    · obtain ⟨q', hq, hm⟩ := h.all s e
      obtain ⟨j, hj⟩ := List.mem_iff_getElem?.mp hq
      by_cases ej : j = z
      · subst ej
        rw [hz] at hj
        cases hj
        exact ⟨q ++ [i], List.mem_of_getElem? (List.getElem?_set_self zl), List.mem_append_left _ hm⟩
      · exact ⟨q', List.mem_of_getElem? (i := j) (by rw [List.getElem?_set_ne (fun z => ej z.symm)]; exact hj), hm⟩
    · exact ⟨q ++ [i], List.mem_of_getElem? (List.getElem?_set_self zl), List.mem_append_right _ (by rw [List.mem_singleton]; omega)⟩
  · rcases get j1 q1 h1 with ⟨e1, rfl⟩ | ⟨e1, g1⟩
    · rcases get j2 q2 h2 with ⟨e2, rfl⟩ | ⟨e2, g2⟩
      · omega
      · rcases mi s m1 with e | e
        · exact absurd (h.dis z j2 q q2 s hz g2 e m2).symm e2
        · have := h.lt q2 (List.mem_of_getElem? g2) s m2; omega
    · rcases get j2 q2 h2 with ⟨e2, rfl⟩ | ⟨e2, g2⟩
      · rcases mi s m2 with e | e
        · exact absurd (h.dis j1 z q1 q s g1 hz m1 e) e1
        · have := h.lt q1 (List.mem_of_getElem? g1) s m1; omega
      · exact h.dis j1 j2 q1 q2 s g1 g2 m1 m2
  · rcases mem q' hq with rfl | e
    · rcases mi s hs with e1 | e1
      · rcases mi t ht with e2 | e2
        · exact h.val q qm s e1 t e2 hv
        · subst e2; exact absurd hv (hc s e1)
      · rcases mi t ht with e2 | e2
        · subst e1; exact absurd hv.symm (hc t e2)
        · omega
    · exact h.val q' e s hs t ht hv
  · rcases mem q' hq with rfl | e
    · simp
    · exact h.ne q' e
  · rcases mem q' hq with rfl | e
    · rw [List.pairwise_append]
      refine ⟨h.asc q qm, List.pairwise_singleton _ _, fun a ha b hb => ?_⟩
      have := List.mem_singleton.mp hb
      have := h.lt q qm a ha
      omega
    · exact h.asc q' e
  · rw [List.length_set]; have := h.few; omega
def Dis (ps : List (List Nat)) : Prop := ∀ (j1 j2 : Nat) (q1 q2 : List Nat) (s : Nat), ps[j1]? = some q1 → ps[j2]? = some q2 → s ∈ q1 → s ∈ q2 → j1 = j2
theorem dis_pair {ps : List (List Nat)} (h : Dis ps) : ps.Pairwise (fun a b => ∀ s ∈ a, s ∉ b) := by
  rw [List.pairwise_iff_getElem]
  intro i j hi hj hij s h1 h2
  have := h i j _ _ s (List.getElem?_eq_getElem hi) (List.getElem?_eq_getElem hj) h1 h2
  omega
theorem pair_dis {ps : List (List Nat)} (h : ps.Pairwise (fun a b => ∀ s ∈ a, s ∉ b)) : Dis ps := by
  rw [List.pairwise_iff_getElem] at h
  intro j1 j2 q1 q2 s h1 h2 m1 m2
  obtain ⟨l1, rfl⟩ := List.getElem?_eq_some_iff.mp h1
  obtain ⟨l2, rfl⟩ := List.getElem?_eq_some_iff.mp h2
  rcases Nat.lt_trichotomy j1 j2 with e | e | e
  · exact absurd m2 (h j1 j2 l1 l2 e s m1)
  · exact e
  · exact absurd m1 (h j2 j1 l2 l1 e s m2)
theorem prt_perm {v : List Nat} {i : Nat} {ps qs : List (List Nat)} (h : Prt v i ps) (hp : qs.Perm ps) : Prt v i qs := by
  refine ⟨fun q hq => h.lt q (hp.mem_iff.mp hq), fun s hs => ?_, ?_, fun q hq => h.val q (hp.mem_iff.mp hq), fun q hq => h.ne q (hp.mem_iff.mp hq), fun q hq => h.asc q (hp.mem_iff.mp hq), by rw [hp.length_eq]; exact h.few⟩
  · obtain ⟨q, hq, hm⟩ := h.all s hs
    exact ⟨q, hp.mem_iff.mpr hq, hm⟩
  · have hpw := dis_pair h.dis
    have := (hp.pairwise_iff (R := fun (a b : List Nat) => ∀ s ∈ a, s ∉ b) (fun {a b} hab s h1 h2 => hab s h2 h1)).mpr hpw
    exact pair_dis this
/-! ## drawn -/
theorem atN {xs : List D} {i : Nat} {d : D} (h : xs[i]? = some d) : L2.atI xs (i : Int) = some d := L2.atI_nat h
/-- the places that state i may join -/
def freeOf (v : List Nat) (i : Nat) (ps : List (List Nat)) : List Nat := (List.range ps.length).filter fun z => !decide (v.getD i 0 ∈ (ps.getD z []).map fun t => v.getD t 0)
theorem getD_of {xs : List Nat} {i x : Nat} (h : xs[i]? = some x) : xs.getD i 0 = x := by rw [List.getD_eq_getElem?_getD, h]; rfl
theorem pD_snoc (ps : List (List Nat)) (q : List Nat) : pD ps ++ [.tuple (nD q)] = pD (ps ++ [q]) := by unfold pD; rw [List.map_append]; rfl
theorem nD_app (a b : List Nat) : nD a ++ nD b = nD (a ++ b) := by unfold nD; rw [List.map_append]
theorem asc_len : ∀ (q : List Nat) (a i : Nat), q.Pairwise (· < ·) → (∀ s ∈ q, a ≤ s ∧ s < i) → q.length ≤ i - a
  | [], _, _, _, _ => Nat.zero_le _
  | x :: q, a, i, h, hb => by
    rw [List.pairwise_cons] at h
    have := asc_len q (x + 1) i h.2 fun s hs => ⟨h.1 s hs, (hb s (List.mem_cons_of_mem _ hs)).2⟩
    have h1 := hb x List.mem_cons_self
    rw [List.length_cons]
    omega
theorem Prt.len {v : List Nat} {i : Nat} {ps : List (List Nat)} (h : Prt v i ps) {q : List Nat} (hq : q ∈ ps) : q.length ≤ i := by
  have := asc_len q 0 i (h.asc q hq) fun s hs => ⟨Nat.zero_le _, h.lt q hq s hs⟩
  omega
/-- sorting parts -/
theorem alikeAll_nD : ∀ q r : List Nat, PySem.W.alikeAll (nD q) (nD r) = true
  | [], _ => by unfold nD; rw [List.map_nil, PySem.W.alikeAll]
  | x :: q, [] => by unfold nD; rw [List.map_nil, List.map_cons, PySem.W.alikeAll]
  | x :: q, y :: r => by
    have := alikeAll_nD q r
    show PySem.W.alikeAll (.int x :: nD q) (.int y :: nD r) = true
    rw [PySem.W.alikeAll, this]; rfl
end L2.Gv.Com

set_option Elab.async false
set_option linter.all false
set_option maxRecDepth 100000
set_option maxHeartbeats 2000000
namespace L2.Gv.Com
open PySem PySem.Spec PyProof.Rows L2 L2.Gv
/-! # Tables -/
abbrev Tb := List (List (Option Nat))
def oD : Option Nat → D
  | none => .none
  | some n => .int n
def rD (row : List (Option Nat)) : List D := row.map oD
def tD (T : Tb) : D := .tuple (T.map fun row => .tuple (rD row))
def ent (T : Tb) (s x : Nat) : Option Nat := (T.getD s []).getD x none
/-- n rows of m entries -/
structure Shp (T : Tb) (n m : Nat) : Prop where
  len : T.length = n
  row : ∀ r ∈ T, r.length = m
theorem Shp.get {T : Tb} {n m s : Nat} (h : Shp T n m) (hs : s < n) : ∃ r, T[s]? = some r ∧ r.length = m ∧ ∀ x, x < m → r[x]? = some (ent T s x) := by
  have hl : s < T.length := by rw [h.len]; exact hs
  have e : T[s]? = some T[s] := List.getElem?_eq_getElem hl
  have hr := h.row _ (List.mem_of_getElem? e)
  refine ⟨T[s], e, hr, fun x hx => ?_⟩
  have hd : T.getD s [] = T[s] := by rw [List.getD_eq_getElem?_getD, e]; rfl
  unfold ent
  rw [hd, List.getD_eq_getElem?_getD, List.getElem?_eq_getElem (by omega)]; rfl
theorem max_ok {v : List Nat} {m : Nat} (hv : Vw v m) : maxL (v.map fun (n : Nat) => (n : Int)) = some ((m : Int) - 1) := by
  have hm : 1 ≤ m := by
    cases v with
    | nil => have := hv.one; simp at this
    | cons x r => have := hv.lt x List.mem_cons_self; omega
  have hmem := hv.all (m - 1) (by omega)
  cases v with
  | nil => cases hmem
  | cons x r =>
    show some ((r.map fun (n : Nat) => (n : Int)).foldl max (x : Int)) = _
    congr 1
    refine (max_is (m := (m : Int) - 1) ?_ fun y hy => ?_).symm
    · rcases List.mem_cons.mp hmem with e | e
      · rw [← e, List.mem_cons]; left; omega
      · rw [List.mem_cons]; right
        exact List.mem_map.mpr ⟨m - 1, e, by omega⟩
    · rcases List.mem_cons.mp hy with rfl | e
      · have := hv.lt x List.mem_cons_self; omega
      · obtain ⟨z, hz, rfl⟩ := List.mem_map.mp e
        have := hv.lt z (List.mem_cons_of_mem _ hz); omega
theorem ints_nD : ∀ v : List Nat, intsD (nD v) = some (v.map fun (n : Nat) => (n : Int))
  | [] => rfl
  | x :: v => by
    show (intsD (nD v)).map _ = _
    rw [ints_nD v]; rfl
theorem biMax_view {v : List Nat} {m : Nat} (hv : Vw v m) : biMax [.tuple (nD v)] = some (.im (.int ((m : Int) - 1))) := by
  show ((seqD (.tuple (nD v))).bind intsD).bind _ = _
  show (intsD (nD v)).bind _ = _
  rw [ints_nD]
  show (maxL _).map _ = _
  rw [max_ok hv]; rfl
def put (T : Tb) (s x o : Nat) : Tb := T.set s ((T.getD s []).set x (some o))
/-- T tells, for the pairs in S, where each value is shown -/
def Tell (v : List Nat) (m : Nat) (S : Nat → Nat → Prop) (T : Tb) : Prop := Shp T v.length m ∧ ∀ s x e, s < v.length → x < m → (ent T s x = some e ↔ S s e ∧ v[e]? = some x)
theorem tell_congr {v : List Nat} {m : Nat} {S S' : Nat → Nat → Prop} {T : Tb} (h : Tell v m S T) (hS : ∀ s e, S' s e ↔ S s e) : Tell v m S' T := ⟨h.1, fun s x e hs hx => by rw [hS]; exact h.2 s x e hs hx⟩
theorem rD_set (r : List (Option Nat)) (x o : Nat) : (rD r).set x (.int o) = rD (r.set x (some o)) := by unfold rD; rw [List.map_set]; rfl
theorem rD_length (r : List (Option Nat)) : (rD r).length = r.length := List.length_map _
theorem repl_flat (m : Nat) (d : D) : (List.replicate m [d]).flatten = List.replicate m d := by
  induction m with
  | zero => rfl
  | succ m ih => rw [List.replicate_succ, List.flatten_cons, ih]; rfl
/-- the pairs of states in one part -/
def Same (ps : List (List Nat)) (s e : Nat) : Prop := ∃ q ∈ ps, s ∈ q ∧ e ∈ q
theorem Prt.one {v : List Nat} {i : Nat} {ps : List (List Nat)} (h : Prt v i ps) {q1 q2 : List Nat} {s : Nat} (h1 : q1 ∈ ps) (h2 : q2 ∈ ps) (m1 : s ∈ q1) (m2 : s ∈ q2) : q1 = q2 := by
  obtain ⟨j1, e1⟩ := List.mem_iff_getElem?.mp h1
  obtain ⟨j2, e2⟩ := List.mem_iff_getElem?.mp h2
  have := h.dis j1 j2 q1 q2 s e1 e2 m1 m2
  subst this
  rw [e1] at e2
  exact Option.some.inj e2
theorem take_mem {q : List Nat} {a z : Nat} (h : q[a]? = some z) (s : Nat) : s ∈ q.take (a + 1) ↔ s ∈ q.take a ∨ s = z := by
  rw [List.take_add_one, h, List.mem_append]; simp
end L2.Gv.Com

set_option Elab.async false
set_option linter.all false
set_option maxRecDepth 100000
set_option maxHeartbeats 2000000
namespace L2.Gv.Com
open PySem PySem.Spec PyProof.Rows L2 L2.Gv
/-! # Sound tables -/
structure Sound (v : List Nat) (m : Nat) (T : Tb) : Prop where
  shp : Shp T v.length m
  stay : ∀ (s x : Nat), v[s]? = some x → ent T s x = some s
  shown : ∀ s x e, s < v.length → x < m → ent T s x = some e → v[e]? = some x
  forget : ∀ s x e, s < v.length → x < m → ent T s x = some e → ∀ y, y < m → ent T e y = ent T s y
theorem sound_of {v : List Nat} {m : Nat} {ps : List (List Nat)} {T : Tb} (hv : Vw v m) (hp : Prt v v.length ps) (hT : Tell v m (Same ps) T) : Sound v m T := by
  have vl : ∀ {e x : Nat}, v[e]? = some x → e < v.length := fun h => (List.getElem?_eq_some_iff.mp h).1
  refine ⟨hT.1, fun s x h => ?_, fun s x e hs hx h => ((hT.2 s x e hs hx).mp h).2, fun s x e hs hx h y hy => ?_⟩
  · have hx : x < m := hv.lt x (List.mem_of_getElem? h)
    obtain ⟨q, hq, hm⟩ := hp.all s (vl h)
    exact (hT.2 s x s (vl h) hx).mpr ⟨⟨q, hq, hm, hm⟩, h⟩
  · obtain ⟨⟨q, hq, h1, h2⟩, h3⟩ := (hT.2 s x e hs hx).mp h
    have he : e < v.length := vl h3
    have same : ∀ t, Same ps e t ↔ Same ps s t := fun t => by
      constructor
      · rintro ⟨q', hq', g1, g2⟩
        rw [hp.one hq' hq g1 h2] at g2
        exact ⟨q, hq, h1, g2⟩
      · rintro ⟨q', hq', g1, g2⟩
        rw [hp.one hq' hq g1 h1] at g2
        exact ⟨q, hq, h2, g2⟩
    cases q1 : ent T s y with
    | some t =>
      have := (hT.2 s y t hs hy).mp q1
      exact (hT.2 e y t he hy).mpr ⟨(same t).mpr this.1, this.2⟩
    | none =>
      cases q2 : ent T e y with
      | none => rfl
      | some t =>
        have := (hT.2 e y t he hy).mp q2
        rw [(hT.2 s y t hs hy).mpr ⟨(same t).mp this.1, this.2⟩] at q1
        cases q1
/-! ## data of tables -/
theorem oD_shp (o : Option Nat) : shp (oD o) = true := by cases o <;> rfl
theorem oD_eqv (a b : Option Nat) : PyData.eqv (oD a) (oD b) = decide (a = b) := by
  cases a with
  | none => cases b with | none => rfl | some y => rfl
  | some x => cases b with
    | none => rfl
    | some y =>
      show ((x : Int) == (y : Int)) = _
      rw [Bool.eq_iff_iff, beq_iff_eq, decide_eq_true_eq]
      constructor
      · intro h; rw [Int.ofNat.inj h]
      · intro h; cases h; rfl
def tRows (T : Tb) : List D := T.map fun row => .tuple (rD row)
theorem tRows_get {T : Tb} {s : Nat} {r : List (Option Nat)} (h : T[s]? = some r) : (tRows T)[s]? = some (.tuple (rD r)) := by unfold tRows; rw [List.getElem?_map, h]; rfl
theorem rD_get {r : List (Option Nat)} {x : Nat} {o : Option Nat} (h : r[x]? = some o) : (rD r)[x]? = some (oD o) := by unfold rD; rw [List.getElem?_map, h]; rfl
/-! ## what the program says of views and tables -/
theorem whole_io : F_is_whole.io = false := rfl
theorem among_io : F_is_among.io = false := rfl
theorem row_io : F_is_row.io = false := rfl
theorem whole_ok (n : Int) : F_is_whole.sem [.im (.int n)] = .ok (.im (.bool true)) (.im .none) := by
  simp [exS, evE, evA, evI, evC, evAnd, evOr, asB, Rs.bind, frz, cmpD, bM, lift, need, needL, idxD, retF, retIO, liftΓ, setPt, setP1, setP1s, setNames, wipeG, fin, finX, seqD, plainM, F_is_whole, mkFn, c_is_whole, isiD]
theorem among_ok {n k : Nat} (h : n < k) : F_is_among.sem [.im (.int n), .im (.int k)] = .ok (.im (.bool true)) (.im .none) := by
  have h1 : (n : Int) < (k : Int) := by omega
  have h0 : (0 : Int) ≤ (n : Int) := by omega
  simp [exS, evE, evA, evI, evC, evAnd, evOr, asB, Rs.bind, frz, cmpD, bM, lift, need, needL, idxD, retF, retIO, liftΓ, setPt, setP1, setP1s, setNames, wipeG, fin, finX, seqD, plainM, F_is_among, mkFn, c_is_among, whole_ok, whole_io, h0, h1, h]
theorem row_ok {xs : List D} {lo hi : Int} (h1 : lo ≤ xs.length) (h2 : (xs.length : Int) ≤ hi) : F_is_row.sem [.im (.tuple xs), .im (.int lo), .im (.int hi)] = .ok (.im (.bool true)) (.im .none) := by
  simp [exS, evE, evA, evI, evC, evAnd, evOr, asB, Rs.bind, frz, cmpD, bM, lift, need, needL, idxD, retF, retIO, liftΓ, setPt, setP1, setP1s, setNames, wipeG, fin, finX, seqD, plainM, F_is_row, mkFn, c_is_row, isiD, biD, biLen, lenD, h1, h2]
theorem many_ok {v : List Nat} {m : Nat} (hv : Vw v m) : F_many_values.sem [.im (.tuple (nD v))] = .ok (.im (.int m)) (.im .none) := by
  simp [exS, evE, evA, evI, evC, evAnd, evOr, asB, Rs.bind, frz, cmpD, bM, lift, need, needL, idxD, retF, retIO, liftΓ, setPt, setP1, setP1s, setNames, wipeG, fin, finX, seqD, plainM, F_many_values, mkFn, c_many_values, biD, biMax_view hv, binD]
theorem all_true {ds : List D} (h : ∀ d ∈ ds, d = .bool true) : biD .all [.list ds] = some (.im (.bool true)) := by
  show (boolsD ds).map _ = _
  have : boolsD ds = some (ds.map fun _ => true) := by
    induction ds with
    | nil => rfl
    | cons d ds ih =>
      have hd := h d List.mem_cons_self
      subst hd
      show (boolsD ds).map _ = _
      rw [ih fun e he => h e (List.mem_cons_of_mem _ he)]; rfl
  rw [this]
  show some (M.im (.bool _)) = _
  congr 3
  rw [List.all_eq_true]
  intro b hb
  obtain ⟨_, _, rfl⟩ := List.mem_map.mp hb
  rfl
theorem view_ok {v : List Nat} {m : Nat} (hv : Vw v m) : F_is_view.sem [.im (.tuple (nD v))] = .ok (.im (.bool true)) (.im .none) := by
  have one := hv.one
  have nine := hv.nine
  have le := hv.le
  have hm : 1 ≤ m := by
    cases v with
    | nil => simp at one
    | cons x r => have := hv.lt x List.mem_cons_self; omega
  have e1 : evE (.lc [1] (.nm 1) (.seq (.var 0)) .nil (.call (Str.ofString "is_among") F_is_among (.cons (.var 1) (.cons (.bi .len (.cons (.var 0) .nil)) .nil)))) [some (.im (.tuple (nD v))), none] = .ok (.ml ((nD v).map fun _ => .bool true)) [some (.im (.tuple (nD v))), none] := by
    refine lc_map1 _ rfl rfl fun d hd => ?_
    obtain ⟨x, rfl, hx⟩ := nD_mem hd
    have hxl : x < v.length := by have := hv.lt x hx; omega
    refine ⟨[some (.im (.tuple (nD v))), some (.im (.int x))], .im (.bool true), [some (.im (.tuple (nD v))), some (.im (.int x))], rfl, ?_, rfl, rfl⟩
    have := among_ok hxl
    simp [exS, evE, evA, evI, evC, evAnd, evOr, asB, Rs.bind, frz, cmpD, bM, lift, need, needL, idxD, retF, retIO, liftΓ, setPt, setP1, setP1s, setNames, wipeG, fin, finX, seqD, plainM, biD, biLen, lenD, nD_length, among_io, this]
  have e2 : evE (.lc [1] (.nm 1) (.rng (.cons (.bi .max (.cons (.var 0) .nil)) .nil)) .nil (.cmp .In (.var 1) (.var 0))) [some (.im (.tuple (nD v))), none] = .ok (.ml ((nD (List.range (m - 1))).map fun _ => .bool true)) [some (.im (.tuple (nD v))), none] := by
    refine lc_map1 _ (range_ok ?_ (by omega)) rfl fun d hd => ?_
    · have : ((m - 1 : Nat) : Int) = (m : Int) - 1 := by omega
      rw [this]
      simp [exS, evE, evA, evI, evC, evAnd, evOr, asB, Rs.bind, frz, cmpD, bM, lift, need, needL, idxD, retF, retIO, liftΓ, setPt, setP1, setP1s, setNames, wipeG, fin, finX, seqD, plainM, biD, biMax_view hv]
    · obtain ⟨x, rfl, hx⟩ := nD_mem hd
      have hxv : x ∈ v := hv.all x (by have := List.mem_range.mp hx; omega)
      refine ⟨[some (.im (.tuple (nD v))), some (.im (.int x))], .im (.bool true), [some (.im (.tuple (nD v))), some (.im (.int x))], rfl, ?_, rfl, rfl⟩
      simp [exS, evE, evA, evI, evC, evAnd, evOr, asB, Rs.bind, frz, cmpD, bM, lift, need, needL, idxD, retF, retIO, liftΓ, setPt, setP1, setP1s, setNames, wipeG, fin, finX, seqD, plainM, nD_any, hxv, nD_shp, shp_int]
  have a1 := all_true (ds := (nD v).map fun _ => .bool true) fun d hd => by obtain ⟨_, _, rfl⟩ := List.mem_map.mp hd; rfl
  have a2 := all_true (ds := (nD (List.range (m - 1))).map fun _ => .bool true) fun d hd => by obtain ⟨_, _, rfl⟩ := List.mem_map.mp hd; rfl
  have b1 := bi1 (b := .all) e1 a1
  have b2 := bi1 (b := .all) e2 a2
  have r1 := row_ok (xs := nD v) (lo := 1) (hi := 9) (by rw [nD_length]; omega) (by rw [nD_length]; omega)
  have c1 : evE (.not (.call (Str.ofString "is_row") F_is_row (.cons (.var 0) (.cons (.con (.int 1)) (.cons (.glb (Str.ofString "MOST_STATES") (.int 9)) .nil))))) [some (.im (.tuple (nD v))), none] = .ok (.im (.bool false)) [some (.im (.tuple (nD v))), none] := by
    simp [exS, evE, evA, evI, evC, evAnd, evOr, asB, Rs.bind, frz, cmpD, bM, lift, need, needL, idxD, retF, retIO, liftΓ, setPt, setP1, setP1s, setNames, wipeG, fin, finX, seqD, plainM, row_io, r1]
  have c2 : evE (.not (.bi .all (.cons (.lc [1] (.nm 1) (.seq (.var 0)) .nil (.call (Str.ofString "is_among") F_is_among (.cons (.var 1) (.cons (.bi .len (.cons (.var 0) .nil)) .nil)))) .nil))) [some (.im (.tuple (nD v))), none] = .ok (.im (.bool false)) [some (.im (.tuple (nD v))), none] := by
    show (asB (evE _ _)).bind _ = _
    rw [b1]; rfl
  have c3 : evE (.or (.cons (.not (.call (Str.ofString "is_row") F_is_row (.cons (.var 0) (.cons (.con (.int 1)) (.cons (.glb (Str.ofString "MOST_STATES") (.int 9)) .nil))))) (.cons (.not (.bi .all (.cons (.lc [1] (.nm 1) (.seq (.var 0)) .nil (.call (Str.ofString "is_among") F_is_among (.cons (.var 1) (.cons (.bi .len (.cons (.var 0) .nil)) .nil)))) .nil))) .nil))) [some (.im (.tuple (nD v))), none] = .ok (.im (.bool false)) [some (.im (.tuple (nD v))), none] := by
    show (((asB (evE _ _)).bind _)).bind _ = _
    rw [c1]
    show (asB (evE _ _)).bind _ = _
    rw [c2]; rfl
  have main : exS c_is_view ([M.im (.tuple (nD v))].map some ++ List.replicate (2 - 1) none) = .ok (.rt (.im (.bool true))) [some (.im (.tuple (nD v))), none] := by
    unfold c_is_view
    refine (seq_nx ((ifs_f c3).trans rfl)).trans ?_
    exact ret_rt b2
  have hs := sem_rt (io := false) (np := 1) (ns := 2) rfl main
  unfold F_is_view
  rw [hs]; rfl
end L2.Gv.Com

set_option Elab.async false
set_option linter.all false
set_option maxRecDepth 100000
set_option maxHeartbeats 2000000
namespace L2.Gv.Com
open PySem PySem.Spec PyProof.Rows L2 L2.Gv
theorem view_io : F_is_view.io = false := rfl
theorem tRows_mem {T : Tb} {d : D} (h : d ∈ tRows T) : ∃ r, d = .tuple (rD r) ∧ r ∈ T := by
  unfold tRows at h
  obtain ⟨r, h1, h2⟩ := List.mem_map.mp h
  exact ⟨r, h2.symm, h1⟩
/-- a table's entries are states -/
def Ents (T : Tb) (n : Nat) : Prop := ∀ r ∈ T, ∀ o ∈ r, ∀ e, o = some e → e < n
theorem Sound.ents {v : List Nat} {m : Nat} {T : Tb} (h : Sound v m T) : Ents T v.length := by
  intro r hr o ho e he
  subst he
  obtain ⟨s, hs⟩ := List.mem_iff_getElem?.mp hr
  have hsl : s < v.length := by rw [← h.shp.len]; exact (List.getElem?_eq_some_iff.mp hs).1
  obtain ⟨r', e1, e2, e3⟩ := h.shp.get hsl
  rw [hs] at e1
  cases e1
  obtain ⟨x, hx⟩ := List.mem_iff_getElem?.mp ho
  have hxl : x < m := by rw [← e2]; exact (List.getElem?_eq_some_iff.mp hx).1
  have := e3 x hxl
  rw [hx] at this
  have := h.shown s x e hsl hxl (Option.some.inj this).symm
  exact (List.getElem?_eq_some_iff.mp this).1
theorem need_view_ok {v : List Nat} {m : Nat} (hv : Vw v m) : F_need_view.sem [.im (.tuple (nD v))] = .ok (.im .none) (.im .none) := by
  simp [exS, evE, evA, evI, evC, evAnd, evOr, asB, Rs.bind, frz, cmpD, bM, lift, need, needL, idxD, retF, retIO, liftΓ, setPt, setP1, setP1s, setNames, wipeG, fin, finX, seqD, plainM, F_need_view, mkFn, c_need_view, view_io, view_ok hv]
end L2.Gv.Com

set_option Elab.async false
set_option linter.all false
set_option maxRecDepth 100000
set_option maxHeartbeats 2000000
namespace L2.Gv.Com
open PySem PySem.Spec PyProof.Rows L2 L2.Gv
/-! # Chains -/
def chRow (T U : Tb) (v : List Nat) (s : Nat) : List (Option Nat) := (U.getD (v.getD s 0) []).map fun o => o.bind fun n => ent T s n
def chRows (T U : Tb) (v : List Nat) (i : Nat) : Tb := (List.range i).map (chRow T U v)
def chShown (v w : List Nat) : List Nat := v.map fun x => w.getD x 0
end L2.Gv.Com

set_option Elab.async false
set_option linter.all false
set_option maxRecDepth 100000
set_option maxHeartbeats 2000000
namespace L2.Gv.Com
open PySem PySem.Spec PyProof.Rows L2 L2.Gv
/-! # repr of small tables -/
theorem layAll_of : ∀ ds : List D, (∀ d ∈ ds, d.canLay0 = true) → PyData.canLayAll0 ds = true
  | [], _ => by rw [PyData.canLayAll0]
  | d :: ds, h => by rw [PyData.canLayAll0, h d List.mem_cons_self, layAll_of ds fun e he => h e (List.mem_cons_of_mem _ he)]; rfl
theorem depAll_of {B : Nat} : ∀ ds : List D, (∀ d ∈ ds, d.depth ≤ B) → PyData.depthAll ds ≤ B
  | [], _ => by rw [PyData.depthAll]; exact Nat.zero_le _
  | d :: ds, h => by
    rw [PyData.depthAll]
    have := h d List.mem_cons_self
    have := depAll_of ds fun e he => h e (List.mem_cons_of_mem _ he)
    omega
/-- data that shows: not deep, its text not long -/
structure Sml (d : D) (B k : Nat) : Prop where
  lay : d.canLay0 = true
  dep : d.depth ≤ k
  sho : d.showable = true
  len : d.shown.length ≤ B
  ok : PyData.strOk d.shown = true
end L2.Gv.Com

set_option Elab.async false
set_option linter.all false
set_option maxRecDepth 100000
set_option maxHeartbeats 2000000
namespace L2.Gv
open PySem PySem.Spec PyProof.Rows L2
/-! # Running the evaluator by rules: what holds behind a code -/
inductive WR {α : Type} (r : Rs α) (Q : α → Sl → Prop) (X : Exn → Sl → Prop) : Prop
  | ok (a : α) (Γ : Sl) (h : r = .ok a Γ) (q : Q a Γ)
  | ex (x : Exn) (Γ : Sl) (h : r = .ex x Γ) (q : X x Γ)
structure WE (e : Ex) (Γ : Sl) (Q : M → Sl → Prop) (X : Exn → Sl → Prop) : Prop where
  run : WR (evE e Γ) Q X
structure WA (e : Ar) (Γ : Sl) (Q : List D → Sl → Prop) (X : Exn → Sl → Prop) : Prop where
  run : WR (evA e Γ) Q X
structure WI (e : Gv.It) (Γ : Sl) (Q : List D → Sl → Prop) (X : Exn → Sl → Prop) : Prop where
  run : WR (evI e Γ) Q X
structure WC (e : Ar) (Γ : Sl) (Q : Bool → Sl → Prop) (X : Exn → Sl → Prop) : Prop where
  run : WR (evC e Γ) Q X
structure WAnd (e : Ar) (Γ : Sl) (Q : Bool → Sl → Prop) (X : Exn → Sl → Prop) : Prop where
  run : WR (evAnd e Γ) Q X
structure WOr (e : Ar) (Γ : Sl) (Q : Bool → Sl → Prop) (X : Exn → Sl → Prop) : Prop where
  run : WR (evOr e Γ) Q X
structure WB (e : Ex) (Γ : Sl) (Q : Bool → Sl → Prop) (X : Exn → Sl → Prop) : Prop where
  run : WR (asB (evE e Γ)) Q X
structure WS (s : Sm) (Γ : Sl) (Q : Fl → Sl → Prop) (X : Exn → Sl → Prop) : Prop where
  run : WR (exS s Γ) Q X
/-- a for's loop over ds -/
structure LF (p : Pt) (b : Sm) (ds : List D) (Γ : Sl) (Q : Fl → Sl → Prop) (X : Exn → Sl → Prop) : Prop where
  run : WR (loopF (bodyF p b) ds Γ) Q X
/-- a comprehension's loop over ds, the slots in ow put back behind it -/
structure LC (ow : List Nat) (p : Pt) (cs : Ar) (el : Ex) (ds : List D) (Γ : Sl) (Q : M → Sl → Prop) : Prop where
  run : ∃ xs Γ2, loopC (bodyC p cs el ow) ds [] Γ = .ok xs Γ2 ∧ Q (.ml xs) (backG Γ Γ2 ow)
/-- a def's answer -/
inductive FR (r : RF) (Q : M → M → Prop) (X : Exn → M → Prop) : Prop
  | ok (m q : M) (h : r = .ok m q) (hq : Q m q)
  | ex (x : Exn) (q : M) (h : r = .ex x q) (hq : X x q)
section
variable {α β : Type} {r : Rs α} {Q : α → Sl → Prop} {X : Exn → Sl → Prop}
theorem WR.bind {f : α → Sl → Rs β} {Q' : β → Sl → Prop} (h : WR r (fun a Γ => WR (f a Γ) Q' X) X) : WR (r.bind f) Q' X := by
  cases h with
  | ok a Γ h q => rw [h]; exact q
  | ex x Γ h q => rw [h]; exact .ex x Γ rfl q
theorem WR.imp {Q' : α → Sl → Prop} {X' : Exn → Sl → Prop} (h : WR r Q X) (hQ : ∀ a Γ, Q a Γ → Q' a Γ) (hX : ∀ a Γ, X a Γ → X' a Γ) : WR r Q' X' := by
  cases h with
  | ok a Γ h q => exact .ok a Γ h (hQ _ _ q)
  | ex x Γ h q => exact .ex x Γ h (hX _ _ q)
theorem WR.here {a : α} {Γ : Sl} (q : Q a Γ) : WR (.ok a Γ) Q X := .ok a Γ rfl q
end
section
variable {Γ : Sl} {X : Exn → Sl → Prop} {Q : M → Sl → Prop}
theorem WE.imp {e : Ex} {Q' : M → Sl → Prop} {X' : Exn → Sl → Prop} (h : WE e Γ Q X) (hQ : ∀ a Γ, Q a Γ → Q' a Γ) (hX : ∀ a Γ, X a Γ → X' a Γ) : WE e Γ Q' X' := ⟨h.run.imp hQ hX⟩
theorem w_var {i : Nat} {d : D} (h : Γ[i]? = some (some (.im d))) (q : Q (.im d) Γ) : WE (.var i) Γ Q X := ⟨.ok _ _ (by simp only [evE, h]) q⟩
theorem w_varl {i : Nat} {xs : List D} (h : Γ[i]? = some (some (.ml xs))) (q : Q (.im (.list xs)) (Γ.set i (some (.im (.list xs))))) : WE (.var i) Γ Q X := ⟨.ok _ _ (by simp only [evE, h, frz]) q⟩
theorem w_varm {i : Nat} {xs : List (List D)} (h : Γ[i]? = some (some (.mm xs))) (q : Q (.im (.list (xs.map .list))) (Γ.set i (some (.im (.list (xs.map .list)))))) : WE (.var i) Γ Q X := ⟨.ok _ _ (by simp only [evE, h, frz]) q⟩
theorem w_mov {i : Nat} {d : D} (h : Γ[i]? = some (some (.im d))) (q : Q (.im d) Γ) : WE (.mov i) Γ Q X := ⟨.ok _ _ (by simp only [evE, h]) q⟩
theorem w_movl {i : Nat} {xs : List D} (h : Γ[i]? = some (some (.ml xs))) (q : Q (.ml xs) (Γ.set i none)) : WE (.mov i) Γ Q X := ⟨.ok _ _ (by simp only [evE, h]) q⟩
theorem w_movm {i : Nat} {xs : List (List D)} (h : Γ[i]? = some (some (.mm xs))) (q : Q (.mm xs) (Γ.set i none)) : WE (.mov i) Γ Q X := ⟨.ok _ _ (by simp only [evE, h]) q⟩
theorem w_movd {i : Nat} {kvs : List (Int × D)} (h : Γ[i]? = some (some (.md kvs))) (q : Q (.md kvs) (Γ.set i none)) : WE (.mov i) Γ Q X := ⟨.ok _ _ (by simp only [evE, h]) q⟩
theorem w_movs {i : Nat} {kvs : List (Int × List D)} (h : Γ[i]? = some (some (.ms kvs))) (q : Q (.ms kvs) (Γ.set i none)) : WE (.mov i) Γ Q X := ⟨.ok _ _ (by simp only [evE, h]) q⟩
theorem w_con {d : D} (q : Q (.im d) Γ) : WE (.con d) Γ Q X := ⟨.ok _ _ rfl q⟩
theorem w_glb {x : Str} {d : D} (q : Q (.im d) Γ) : WE (.glb x d) Γ Q X := ⟨.ok _ _ rfl q⟩
theorem w_tup {es : Ar} (h : WA es Γ (fun ds Γ => Q (.im (.tuple ds)) Γ) X) : WE (.tup es) Γ Q X := ⟨by
  simp only [evE]; exact .bind (h.run.imp (fun a Γ q => .here q) fun _ _ q => q)⟩
theorem w_lst {es : Ar} (h : WA es Γ (fun ds Γ => Q (.ml ds) Γ) X) : WE (.lst es) Γ Q X := ⟨by
  simp only [evE]; exact .bind (h.run.imp (fun a Γ q => .here q) fun _ _ q => q)⟩
theorem wr_lift {o : Option M} (h : ∃ r, o = some r ∧ Q r Γ) : WR (lift o Γ) Q X := by
  obtain ⟨r, rfl, q⟩ := h
  exact .ok _ _ rfl q
theorem w_bin {op : Operator} {a b : Ex} (h : WE a Γ (fun x Γ => WE b Γ (fun y Γ => ∃ r, binD op (frz x) (frz y) = some r ∧ Q r Γ) X) X) : WE (.bin op a b) Γ Q X := ⟨by
  simp only [evE]; exact .bind (h.run.imp (fun a Γ q => .bind (q.run.imp (fun b Γ q => wr_lift q) fun _ _ q => q)) fun _ _ q => q)⟩
theorem w_neg {a : Ex} (h : WE a Γ (fun x Γ => ∃ i : Int, x = .im (.int i) ∧ Q (.im (.int (-i))) Γ) X) : WE (.neg a) Γ Q X := ⟨by
  simp only [evE]; exact .bind (h.run.imp (fun a Γ q => by obtain ⟨i, rfl, q⟩ := q; exact .here q) fun _ _ q => q)⟩
theorem wb {e : Ex} {Q : Bool → Sl → Prop} (h : WE e Γ (fun x Γ => ∃ b, x = .im (.bool b) ∧ Q b Γ) X) : WB e Γ Q X := ⟨by
  unfold asB; exact .bind (h.run.imp (fun a Γ q => by obtain ⟨i, rfl, q⟩ := q; exact .here q) fun _ _ q => q)⟩
theorem w_not {a : Ex} (h : WB a Γ (fun b Γ => Q (.im (.bool (!b))) Γ) X) : WE (.not a) Γ Q X := ⟨by
  simp only [evE]; exact .bind (h.run.imp (fun a Γ q => .here q) fun _ _ q => q)⟩
theorem w_and {es : Ar} (h : WAnd es Γ (fun b Γ => Q (.im (.bool b)) Γ) X) : WE (.and es) Γ Q X := ⟨by
  simp only [evE]; exact .bind (h.run.imp (fun a Γ q => .here q) fun _ _ q => q)⟩
theorem w_or {es : Ar} (h : WOr es Γ (fun b Γ => Q (.im (.bool b)) Γ) X) : WE (.or es) Γ Q X := ⟨by
  simp only [evE]; exact .bind (h.run.imp (fun a Γ q => .here q) fun _ _ q => q)⟩
theorem wand1 {e : Ex} {Q : Bool → Sl → Prop} (h : WB e Γ Q X) : WAnd (.cons e .nil) Γ Q X := ⟨by simp only [evAnd]; exact h.run⟩
theorem wand2 {e e2 : Ex} {r : Ar} {Q : Bool → Sl → Prop} (h : WB e Γ (fun b Γ => (b = true → WAnd (.cons e2 r) Γ Q X) ∧ (b = false → Q false Γ)) X) : WAnd (.cons e (.cons e2 r)) Γ Q X := ⟨by
  simp only [evAnd]; exact .bind (h.run.imp (fun a Γ q => by
    cases a with
    | true => simp only [if_true]; exact (q.1 rfl).run
    | false => simp only [Bool.false_eq_true, if_false]; exact .here (q.2 rfl)) fun _ _ q => q)⟩
theorem wor1 {e : Ex} {Q : Bool → Sl → Prop} (h : WB e Γ Q X) : WOr (.cons e .nil) Γ Q X := ⟨by simp only [evOr]; exact h.run⟩
theorem wor2 {e e2 : Ex} {r : Ar} {Q : Bool → Sl → Prop} (h : WB e Γ (fun b Γ => (b = true → Q true Γ) ∧ (b = false → WOr (.cons e2 r) Γ Q X)) X) : WOr (.cons e (.cons e2 r)) Γ Q X := ⟨by
  simp only [evOr]; exact .bind (h.run.imp (fun a Γ q => by
    cases a with
    | true => simp only [if_true]; exact .here (q.1 rfl)
    | false => simp only [Bool.false_eq_true, if_false]; exact (q.2 rfl).run) fun _ _ q => q)⟩
theorem w_ifx {c a b : Ex} (h : WB c Γ (fun x Γ => (x = true → WE a Γ Q X) ∧ (x = false → WE b Γ Q X)) X) : WE (.ifx c a b) Γ Q X := ⟨by
  simp only [evE]; exact .bind (h.run.imp (fun a Γ q => by
    cases a with
    | true => simp only [if_true]; exact (q.1 rfl).run
    | false => simp only [Bool.false_eq_true, if_false]; exact (q.2 rfl).run) fun _ _ q => q)⟩
theorem w_cmp {op : CmpOp} {a b : Ex} (h : WE a Γ (fun x Γ => WE b Γ (fun y Γ => ∃ r, cmpD op (frz x) (frz y) = some r ∧ Q (.im (.bool r)) Γ) X) X) : WE (.cmp op a b) Γ Q X := ⟨by
  simp only [evE]; exact .bind (h.run.imp (fun a Γ q => .bind (q.run.imp (fun b Γ q => by obtain ⟨r, e, q⟩ := q; rw [e]; exact .here q) fun _ _ q => q)) fun _ _ q => q)⟩
theorem w_chn {o1 o2 : CmpOp} {a b c : Ex} (h : WE a Γ (fun x Γ => WE b Γ (fun y Γ => ∃ r, cmpD o1 (frz x) (frz y) = some r ∧ (r = false → Q (.im (.bool false)) Γ) ∧ (r = true → WE c Γ (fun z Γ => ∃ r, cmpD o2 (frz y) (frz z) = some r ∧ Q (.im (.bool r)) Γ) X)) X) X) : WE (.chn o1 o2 a b c) Γ Q X := ⟨by
  simp only [evE]; exact .bind (h.run.imp (fun a Γ q => .bind (q.run.imp (fun b Γ q => by
    obtain ⟨r, e, q1, q2⟩ := q
    cases r with
    | false => simp only [e]; exact .here (q1 rfl)
    | true =>
      simp only [e]
      exact .bind ((q2 rfl).run.imp (fun c Γ q => by obtain ⟨r, e, q⟩ := q; rw [e]; exact .here q) fun _ _ q => q)) fun _ _ q => q)) fun _ _ q => q)⟩
theorem w_isN {a : Ex} (h : WE a Γ (fun x Γ => Q (.im (.bool (isNoneM x))) Γ) X) : WE (.isN a) Γ Q X := ⟨by
  simp only [evE]; exact .bind (h.run.imp (fun a Γ q => .here q) fun _ _ q => q)⟩
theorem w_notN {a : Ex} (h : WE a Γ (fun x Γ => Q (.im (.bool (!isNoneM x))) Γ) X) : WE (.notN a) Γ Q X := ⟨by
  simp only [evE]; exact .bind (h.run.imp (fun a Γ q => .here q) fun _ _ q => q)⟩
theorem w_idx {a i : Ex} (h : WE a Γ (fun x Γ => WE i Γ (fun y Γ => ∃ r, idxD (frz x) (frz y) = some r ∧ Q (.im r) Γ) X) X) : WE (.idx a i) Γ Q X := ⟨by
  simp only [evE]; exact .bind (h.run.imp (fun a Γ q => .bind (q.run.imp (fun b Γ q => by obtain ⟨r, e, q⟩ := q; rw [e]; exact .here q) fun _ _ q => q)) fun _ _ q => q)⟩
theorem w_slc {a : Ex} {lo hi : Ar} (h : WE a Γ (fun x Γ => WA lo Γ (fun ls Γ => ∃ l, asI ls = some l ∧ WA hi Γ (fun hs Γ => ∃ h, asI hs = some h ∧ ∃ r, slcD (frz x) l h = some r ∧ Q r Γ) X) X) X) : WE (.slc a lo hi) Γ Q X := ⟨by
  simp only [evE]; exact .bind (h.run.imp (fun a Γ q => .bind (.bind (q.run.imp (fun b Γ q => by
    obtain ⟨l, e, q⟩ := q
    unfold toI
    rw [e]
    exact .here (.bind (.bind (q.run.imp (fun b Γ q => by
      obtain ⟨l, e, q⟩ := q
      rw [e]
      exact .here (wr_lift q)) fun _ _ q => q)))) fun _ _ q => q))) fun _ _ q => q)⟩
theorem w_vidx {i : Nat} {e : Ex} {m0 : M} (hn : Γ[i]? = some (some m0)) (h : WE e Γ (fun y Γ => ∃ xs, Γ[i]? = some (some (.ml xs)) ∧ ∃ r, idxD (.list xs) (frz y) = some r ∧ Q (.im r) Γ) X) : WE (.vidx i e) Γ Q X := ⟨by
  simp only [evE, need, hn]; exact .bind (h.run.imp (fun a Γ q => by obtain ⟨xs, e, r, er, q⟩ := q; simp only [e]; rw [er]; exact .here q) fun _ _ q => q)⟩
theorem w_vlen {i : Nat} {xs : List D} (hn : Γ[i]? = some (some (.ml xs))) (q : Q (.im (.int xs.length)) Γ) : WE (.vlen i) Γ Q X := ⟨by simp only [evE, hn]; exact .here q⟩
theorem w_vlenm {i : Nat} {xs : List (List D)} (hn : Γ[i]? = some (some (.mm xs))) (q : Q (.im (.int xs.length)) Γ) : WE (.vlen i) Γ Q X := ⟨by simp only [evE, hn]; exact .here q⟩
theorem w_call {f : Str} {F : Fn} {es : Ar} (hio : F.io = false) (h : WA es Γ (fun ds Γ => FR (F.sem (ds.map .im)) (fun m _ => Q m Γ) fun x _ => X x Γ) X) : WE (.call f F es) Γ Q X := ⟨by
  simp only [evE, hio]; exact .bind (h.run.imp (fun a Γ q => by
    simp only [Bool.false_eq_true, if_false]
    cases q with
    | ok m q h hq => rw [h]; exact .here hq
    | ex x q h hq => rw [h]; exact .ex _ _ rfl hq) fun _ _ q => q)⟩
theorem w_cio {f : Str} {F : Fn} {i : Nat} {es : Ar} {m0 : M} (hio : F.io = true) (hn : Γ[i]? = some (some m0)) (h : WA es Γ (fun ds Γ => ∃ xs, Γ[i]? = some (some (.ml xs)) ∧ FR (F.sem (.ml xs :: ds.map .im)) (fun m p => Q m (Γ.set i (some p))) fun x p => X x (Γ.set i (some p))) X) : WE (.cio f F i es) Γ Q X := ⟨by
  simp only [evE, need, hn, hio]; exact .bind (h.run.imp (fun a Γ q => by
    obtain ⟨xs, e, q⟩ := q
    simp only [e, if_true]
    cases q with
    | ok m q h hq => rw [h]; exact .here hq
    | ex x q h hq => rw [h]; exact .ex _ _ rfl hq) fun _ _ q => q)⟩
theorem w_cit {f : Str} {F : Fn} {e : Ex} {es : Ar} (hio : F.io = true) (h : WE e Γ (fun x Γ => WA es Γ (fun ds Γ => ∃ xs, x = .ml xs ∧ FR (F.sem (.ml xs :: ds.map .im)) (fun m _ => Q m Γ) fun x _ => X x Γ) X) X) : WE (.cit f F e es) Γ Q X := ⟨by
  simp only [evE, hio]; exact .bind (h.run.imp (fun a Γ q => .bind (q.run.imp (fun b Γ q => by
    obtain ⟨xs, rfl, hf⟩ := q
    simp only [if_true]
    cases hf with
    | ok m q h hq => rw [h]; exact .here hq
    | ex x q h hq => rw [h]; exact .ex _ _ rfl hq) fun _ _ q => q)) fun _ _ q => q)⟩
theorem w_bi {b : Bi} {es : Ar} (h : WA es Γ (fun ds Γ => ∃ r, biD b ds = some r ∧ Q r Γ) X) : WE (.bi b es) Γ Q X := ⟨by
  simp only [evE]; exact .bind (h.run.imp (fun a Γ q => wr_lift q) fun _ _ q => q)⟩
theorem w_lrng {a : Ar} (h : WA a Γ (fun ds Γ => ∃ j : Nat, ds = [.int j] ∧ j ≤ 1000 ∧ Q (.ml (rangeD 0 j)) Γ) X) : WE (.lrng a) Γ Q X := ⟨by
  simp only [evE]; exact .bind (h.run.imp (fun a Γ q => by
    obtain ⟨j, rfl, hj, q⟩ := q
    have h1 : small62 (j : Int) = true := by
      unfold small62
      rw [Bool.and_eq_true, decide_eq_true_eq, decide_eq_true_eq]; omega
    have h2 : lineOk (j : Int).toNat = true := by
      unfold lineOk
      rw [Nat.ble_eq, Int.toNat_natCast]; omega
    simp only [h1, h2, Bool.and_self, if_true]
    exact .here q) fun _ _ q => q)⟩
theorem w_trg {a : Ar} (h : WA a Γ (fun ds Γ => ∃ j : Nat, ds = [.int j] ∧ j ≤ 1000 ∧ Q (.im (.tuple (rangeD 0 j))) Γ) X) : WE (.trg a) Γ Q X := ⟨by
  simp only [evE]; exact .bind (h.run.imp (fun a Γ q => by
    obtain ⟨j, rfl, hj, q⟩ := q
    have h1 : small62 (j : Int) = true := by
      unfold small62
      rw [Bool.and_eq_true, decide_eq_true_eq, decide_eq_true_eq]; omega
    have h2 : lineOk (j : Int).toNat = true := by
      unfold lineOk
      rw [Nat.ble_eq, Int.toNat_natCast]; omega
    simp only [h1, h2, Bool.and_self, if_true]
    exact .here q) fun _ _ q => q)⟩
theorem w_sumv {a : Ex} (h : WE a Γ (fun x Γ => ∃ d kvs ns, x = .im d ∧ kvsD d = some kvs ∧ intsD (kvs.map Prod.snd) = some ns ∧ Q (.im (.int ns.sum)) Γ) X) : WE (.sumv a) Γ Q X := ⟨by
  simp only [evE]; exact .bind (h.run.imp (fun a Γ q => by obtain ⟨d, kvs, ns, rfl, e, e2, q⟩ := q; simp only [e, e2]; exact .here q) fun _ _ q => q)⟩
theorem w_lstv {a : Ex} (h : WE a Γ (fun x Γ => ∃ d kvs, x = .im d ∧ kvsD d = some kvs ∧ Q (.ml (kvs.map Prod.snd)) Γ) X) : WE (.lstv a) Γ Q X := ⟨by
  simp only [evE]; exact .bind (h.run.imp (fun a Γ q => by obtain ⟨d, kvs, rfl, e, q⟩ := q; simp only [e]; exact .here q) fun _ _ q => q)⟩
theorem w_isi {a : Ex} {t : Ty} (h : WE a Γ (fun x Γ => (∀ v r, frz x ≠ .dict ((.none, v) :: r)) ∧ Q (.im (.bool (isiD t (frz x)))) Γ) X) : WE (.isi a t) Γ Q X := ⟨by
  simp only [evE]; exact .bind (h.run.imp (fun a Γ q => by
    obtain ⟨hd, q⟩ := q
    split
    · rename_i e; exact absurd e (hd _ _)
    · exact .here q) fun _ _ q => q)⟩
theorem w_mth {m : Mt} {a : Ex} {es : Ar} (h : WE a Γ (fun x Γ => mthB m (frz x) = true ∧ WA es Γ (fun ds Γ => ∃ r, mthR m (frz x) ds = some r ∧ Q r Γ) X) X) : WE (.mth m a es) Γ Q X := ⟨by
  simp only [evE]; exact .bind (h.run.imp (fun a Γ q => by
    obtain ⟨e, q⟩ := q
    rw [if_pos e]
    exact .bind (q.run.imp (fun a Γ q => wr_lift q) fun _ _ q => q)) fun _ _ q => q)⟩
def revM : D → Option M
  | .list ys => some (.ml ys.reverse)
  | .tuple ys => some (.im (.tuple ys.reverse))
  | _ => none
theorem w_rev {a : Ex} (h : WE a Γ (fun x Γ => ∃ r, revM (frz x) = some r ∧ Q r Γ) X) : WE (.rev a) Γ Q X := ⟨by
  simp only [evE]; exact .bind (h.run.imp (fun a Γ q => by
    obtain ⟨r, e, q⟩ := q
    unfold revM at e
    split at e
    · rename_i h; cases e; first | exact .here q | (simp only [h]; exact .here q)
    · rename_i h; cases e; first | exact .here q | (simp only [h]; exact .here q)
    · cases e) fun _ _ q => q)⟩
theorem w_vmth {m : Mt} {i : Nat} {es : Ar} {xs0 : List D} (hn : Γ[i]? = some (some (.ml xs0))) (h : WA es Γ (fun ds Γ => ∃ xs, Γ[i]? = some (some (.ml xs)) ∧ ∃ r, mtD m (.list xs) ds = some r ∧ Q r Γ) X) : WE (.vmth m i es) Γ Q X := ⟨by
  simp only [evE, needL, hn]; exact .bind (h.run.imp (fun a Γ q => by obtain ⟨xs, e, q⟩ := q; simp only [e]; exact wr_lift q) fun _ _ q => q)⟩
theorem w_vpop {i : Nat} {e : Ex} {xs0 : List D} (hn : Γ[i]? = some (some (.ml xs0))) (h : WE e Γ (fun y Γ => ∃ xs, Γ[i]? = some (some (.ml xs)) ∧ ∃ (j : Nat) (d : D), frz y = .int j ∧ j < 1000000 ∧ xs[j]? = some d ∧ Q (.im d) (Γ.set i (some (.ml (xs.eraseIdx j))))) X) : WE (.vpop i e) Γ Q X := ⟨by
  simp only [evE, needL, hn]; exact .bind (h.run.imp (fun a Γ q => by
    obtain ⟨xs, e, j, d, ej, hj, hd, q⟩ := q
    have hl := (List.getElem?_eq_some_iff.mp hd).1
    have hs : seqIndex? (j : Int) xs.length = some j := by
      unfold seqIndex?
      have hn : ¬ ((j : Int) < 0) := by omega
      simp [hn, hl]
    have h1 : (decide (-(2 ^ 63) ≤ (j : Int)) && decide ((j : Int) < 2 ^ 63)) = true := by
      rw [Bool.and_eq_true, decide_eq_true_eq, decide_eq_true_eq]; omega
    simp only [e, ej, popD, h1, if_true, hs, hd]
    exact .here q) fun _ _ q => q)⟩
theorem w_vin {neg : Bool} {e : Ex} {i : Nat} (h : WE e Γ (fun y Γ => ∃ xs, Γ[i]? = some (some (.ml xs)) ∧ ∃ r, cmpD (if neg then .NotIn else .In) (frz y) (.list xs) = some r ∧ Q (.im (.bool r)) Γ) X) : WE (.vin neg e i) Γ Q X := ⟨by
  simp only [evE]; exact .bind (h.run.imp (fun a Γ q => by obtain ⟨xs, e, r, er, q⟩ := q; simp only [e]; rw [er]; exact .here q) fun _ _ q => q)⟩
theorem w_lc {ow : List Nat} {p : Pt} {it : Gv.It} {cs : Ar} {el : Ex} (h : WI it Γ (fun ds Γ1 => ow.all (fun i => plainM (Γ1[i]?.join)) = true ∧ LC ow p cs el ds Γ1 Q) X) : WE (.lc ow p it cs el) Γ Q X := ⟨by
  have : evE (.lc ow p it cs el) Γ = (evI it Γ).bind fun ds Γ1 => if ow.all (fun i => plainM (Γ1[i]?.join)) then
      match loopC (bodyC p cs el ow) ds [] Γ1 with
        | .ok xs Γ2 => .ok (.ml xs) (backG Γ1 Γ2 ow)
        | _ => .no
      else .no := rfl
  rw [this]
  exact .bind (h.run.imp (fun ds Γ1 q => by
    obtain ⟨hp, xs, Γ2, e, q⟩ := q
    simp only [hp, if_true, e]
    exact .here q) fun _ _ q => q)⟩
theorem and_t {A B : Prop} {b : Bool} (hb : b = true) (h : A) : (b = true → A) ∧ (b = false → B) := ⟨fun _ => h, fun e => by rw [hb] at e; cases e⟩
theorem and_f {A B : Prop} {b : Bool} (hb : b = false) (h : B) : (b = true → A) ∧ (b = false → B) := ⟨fun e => (by rw [hb] at e; cases e), fun _ => h⟩
theorem and_f' {A B : Prop} {b : Bool} (hb : b = false) (h : A) : (b = false → A) ∧ (b = true → B) := ⟨fun _ => h, fun e => by rw [hb] at e; cases e⟩
theorem and_t' {A B : Prop} {b : Bool} (hb : b = true) (h : B) : (b = false → A) ∧ (b = true → B) := ⟨fun e => (by rw [hb] at e; cases e), fun _ => h⟩
/-! dicts -/
theorem w_dsp0 (q : Q (.md []) Γ) : WE .dsp0 Γ Q X := ⟨.ok _ _ rfl q⟩
theorem w_dspS (q : Q (.ms []) Γ) : WE .dspS Γ Q X := ⟨.ok _ _ rfl q⟩
theorem w_dsp1 {k v : Ex} (h : WE k Γ (fun x Γ => WE v Γ (fun y Γ => ∃ n, frz x = .int n ∧ Q (.md [(n, frz y)]) Γ) X) X) : WE (.dsp1 k v) Γ Q X := ⟨by
  simp only [evE]; exact .bind (h.run.imp (fun a Γ q => .bind (q.run.imp (fun b Γ q => by obtain ⟨n, e, q⟩ := q; simp only [e]; exact .here q) fun _ _ q => q)) fun _ _ q => q)⟩
theorem w_lkv {i : Nat} {kvs : List (Int × D)} (h : Γ[i]? = some (some (.md kvs))) (q : Q (.im (dictD kvs)) (Γ.set i (some (.im (dictD kvs))))) : WE (.lkv i) Γ Q X := ⟨.ok _ _ (by simp only [evE, h]) q⟩
theorem w_lkvs {i : Nat} {kvs : List (Int × List D)} (h : Γ[i]? = some (some (.ms kvs))) (q : Q (.im (dictD (kvs.map fun p => (p.1, .list p.2)))) (Γ.set i (some (.im (dictD (kvs.map fun p => (p.1, .list p.2))))))) : WE (.lkv i) Γ Q X := ⟨.ok _ _ (by simp only [evE, h]) q⟩
theorem w_lkvi {i : Nat} {d : D} (h : Γ[i]? = some (some (.im d))) (q : Q (.im d) Γ) : WE (.lkv i) Γ Q X := ⟨.ok _ _ (by simp only [evE, h]) q⟩
theorem w_vdin {neg : Bool} {e : Ex} {i : Nat} (h : WE e Γ (fun y Γ => ∃ kvs n, Γ[i]? = some (some (.md kvs)) ∧ frz y = .int n ∧ Q (.im (.bool ((getI kvs n).isSome != neg))) Γ) X) : WE (.vdin neg e i) Γ Q X := ⟨by
  simp only [evE]; exact .bind (h.run.imp (fun a Γ q => by obtain ⟨kvs, n, e1, e2, q⟩ := q; simp only [e1, e2]; exact .here q) fun _ _ q => q)⟩
theorem w_vdget {i : Nat} {e : Ex} {m0 : M} (hn : Γ[i]? = some (some m0)) (h : WE e Γ (fun y Γ => ∃ kvs n, Γ[i]? = some (some (.md kvs)) ∧ frz y = .int n ∧ ∃ d, getI kvs n = some d ∧ Q (.im d) Γ) X) : WE (.vdget i e) Γ Q X := ⟨by
  simp only [evE, need, hn]; exact .bind (h.run.imp (fun a Γ q => by obtain ⟨kvs, n, e1, e2, d, e3, q⟩ := q; simp only [e1, e2, e3]; exact .here q) fun _ _ q => q)⟩
theorem w_vdgt {i : Nat} {e f : Ex} {kvs0 : List (Int × D)} (hn : Γ[i]? = some (some (.md kvs0))) (h : WE e Γ (fun y Γ => WE f Γ (fun z Γ => ∃ kvs n, Γ[i]? = some (some (.md kvs)) ∧ frz y = .int n ∧ Q (.im ((getI kvs n).getD (frz z))) Γ) X) X) : WE (.vdgt i e f) Γ Q X := ⟨by
  simp only [evE, needD, hn]; exact .bind (h.run.imp (fun a Γ q => .bind (q.run.imp (fun b Γ q => by obtain ⟨kvs, n, e1, e2, q⟩ := q; simp only [e1, e2]; exact .here q) fun _ _ q => q)) fun _ _ q => q)⟩
theorem w_isT {neg : Bool} {a : Ex} (h : WB a Γ (fun b Γ => Q (.im (.bool (b != neg))) Γ) X) : WE (.isT neg a) Γ Q X := ⟨by
  simp only [evE]; exact .bind (h.run.imp (fun a Γ q => .here q) fun _ _ q => q)⟩
theorem w_vne {i : Nat} {xs : List D} (h : Γ[i]? = some (some (.ml xs))) (q : ∃ r, cmpD .NotEq (.list xs) (.list []) = some r ∧ Q (.im (.bool r)) Γ) : WE (.vne i) Γ Q X := ⟨by
  obtain ⟨r, e, q⟩ := q
  simp only [evE, h, e, bM, lift]; exact .here q⟩
/-! arguments -/
theorem wa_nil {Q : List D → Sl → Prop} (q : Q [] Γ) : WA .nil Γ Q X := ⟨.ok _ _ rfl q⟩
theorem wa_cons {e : Ex} {r : Ar} {Q : List D → Sl → Prop} (h : WE e Γ (fun x Γ => WA r Γ (fun ds Γ => Q (frz x :: ds) Γ) X) X) : WA (.cons e r) Γ Q X := ⟨by
  simp only [evA]; exact .bind (h.run.imp (fun a Γ q => .bind (q.run.imp (fun b Γ q => .here q) fun _ _ q => q)) fun _ _ q => q)⟩
theorem wc_nil {Q : Bool → Sl → Prop} (q : Q true Γ) : WC .nil Γ Q X := ⟨.ok _ _ rfl q⟩
theorem wc_one {e : Ex} {Q : Bool → Sl → Prop} (h : WB e Γ Q X) : WC (.cons e .nil) Γ Q X := ⟨by simp only [evC]; exact h.run⟩
/-! what is gone through -/
theorem wi_seq {e : Ex} {Q : List D → Sl → Prop} (h : WE e Γ (fun x Γ => ∃ xs, seqD (frz x) = some xs ∧ Q xs Γ) X) : WI (.seq e) Γ Q X := ⟨by
  simp only [evI]; exact .bind (h.run.imp (fun a Γ q => by obtain ⟨xs, e, q⟩ := q; simp only [e]; exact .here q) fun _ _ q => q)⟩
theorem wi_enm {e : Ex} {Q : List D → Sl → Prop} (h : WE e Γ (fun x Γ => ∃ xs, seqD (frz x) = some xs ∧ Q (enumFrom 0 xs) Γ) X) : WI (.enm e) Γ Q X := ⟨by
  simp only [evI]; exact .bind (h.run.imp (fun a Γ q => by obtain ⟨xs, e, q⟩ := q; simp only [e]; exact .here q) fun _ _ q => q)⟩
theorem wi_zip {a b : Ex} {Q : List D → Sl → Prop} (h : WE a Γ (fun x Γ => WE b Γ (fun y Γ => ∃ xs ys, ((frz x = .list xs ∧ frz y = .list ys) ∨ (frz x = .tuple xs ∧ frz y = .tuple ys)) ∧ Q (zipD xs ys) Γ) X) X) : WI (.zip a b) Γ Q X := ⟨by
  simp only [evI]; exact .bind (h.run.imp (fun a Γ q => .bind (q.run.imp (fun b Γ q => by
    obtain ⟨xs, ys, e | e, q⟩ := q
    · simp only [e.1, e.2]; exact .here q
    · simp only [e.1, e.2]; exact .here q) fun _ _ q => q)) fun _ _ q => q)⟩
theorem wi_itm {e : Ex} {Q : List D → Sl → Prop} (h : WE e Γ (fun x Γ => ∃ d kvs, x = .im d ∧ kvsD d = some kvs ∧ Q (kvs.map pairD) Γ) X) : WI (.itm e) Γ Q X := ⟨by
  simp only [evI]; exact .bind (h.run.imp (fun a Γ q => by obtain ⟨d, kvs, rfl, e, q⟩ := q; simp only [e]; exact .here q) fun _ _ q => q)⟩
theorem wi_vls {e : Ex} {Q : List D → Sl → Prop} (h : WE e Γ (fun x Γ => ∃ d kvs, x = .im d ∧ kvsD d = some kvs ∧ Q (kvs.map Prod.snd) Γ) X) : WI (.vls e) Γ Q X := ⟨by
  simp only [evI]; exact .bind (h.run.imp (fun a Γ q => by obtain ⟨d, kvs, rfl, e, q⟩ := q; simp only [e]; exact .here q) fun _ _ q => q)⟩
theorem rangeD_nat (n : Nat) : rangeD 0 (n : Int) = (List.range n).map fun (k : Nat) => .int k := by
  unfold rangeD
  rw [Int.sub_zero, Int.toNat_natCast]
  apply List.map_congr_left
  intro k _
  rw [Int.zero_add]
theorem wi_rng {a : Ar} {Q : List D → Sl → Prop} (h : WA a Γ (fun ds Γ => ∃ j : Nat, ds = [.int j] ∧ j ≤ 1000 ∧ Q ((List.range j).map fun (k : Nat) => .int k) Γ) X) : WI (.rng a) Γ Q X := ⟨by
  simp only [evI]; exact .bind (h.run.imp (fun a Γ q => by
    obtain ⟨j, rfl, hj, q⟩ := q
    have h1 : small62 (j : Int) = true := by
      unfold small62
      rw [Bool.and_eq_true, decide_eq_true_eq, decide_eq_true_eq]; omega
    have h2 : lineOk (j : Int).toNat = true := by
      unfold lineOk
      rw [Nat.ble_eq, Int.toNat_natCast]; omega
    simp only [h1, h2, Bool.and_self, if_true, rangeD_nat]
    exact .here q) fun _ _ q => q)⟩
end
/-! statements -/
section
variable {Γ : Sl} {X : Exn → Sl → Prop} {Q : Fl → Sl → Prop}
theorem WS.imp {s : Sm} {Q' : Fl → Sl → Prop} {X' : Exn → Sl → Prop} (h : WS s Γ Q X) (hQ : ∀ a Γ, Q a Γ → Q' a Γ) (hX : ∀ a Γ, X a Γ → X' a Γ) : WS s Γ Q' X' := ⟨h.run.imp hQ hX⟩
/-- what is behind a statement -/
inductive Nx (b : Sm) (Q : Fl → Sl → Prop) (X : Exn → Sl → Prop) : Fl → Sl → Prop
  | nx {Γ : Sl} (h : WS b Γ Q X) : Nx b Q X .nx Γ
  | rt {Γ : Sl} {m : M} (h : Q (.rt m) Γ) : Nx b Q X (.rt m) Γ
  | bk {Γ : Sl} (h : Q .bk Γ) : Nx b Q X .bk Γ
  | ct {Γ : Sl} (h : Q .ct Γ) : Nx b Q X .ct Γ
theorem ws_nil (q : Q .nx Γ) : WS .nil Γ Q X := ⟨.ok _ _ rfl q⟩
theorem ws_pass (q : Q .nx Γ) : WS .pass Γ Q X := ⟨.ok _ _ rfl q⟩
theorem ws_brk (q : Q .bk Γ) : WS .brk Γ Q X := ⟨.ok _ _ rfl q⟩
theorem ws_cnt (q : Q .ct Γ) : WS .cnt Γ Q X := ⟨.ok _ _ rfl q⟩
theorem ws_rais {c : Str} (q : X ⟨c, none⟩ Γ) : WS (.rais c) Γ Q X := ⟨.ex _ _ rfl q⟩
theorem ws_seq {a b : Sm} (h : WS a Γ (Nx b Q X) X) : WS (.seq a b) Γ Q X := ⟨by
  simp only [exS]; exact .bind (h.run.imp (fun f Γ q => by
    cases q with
    | nx q => exact q.run
    | rt q => exact .here q
    | bk q => exact .here q
    | ct q => exact .here q) fun _ _ q => q)⟩
theorem ws_tryN {b : Sm} (h : WS b Γ Q fun _ _ => False) : WS (.tryN b) Γ Q X := ⟨by
  cases h.run with
  | ok f Γ1 e q => simp only [exS, e]; exact .here q
  | ex x Γ1 e q => exact q.elim⟩
theorem ws_asg {i : Nat} {e : Ex} (h : WE e Γ (fun x Γ => Q .nx (Γ.set i (some x))) X) : WS (.asg i e) Γ Q X := ⟨by
  simp only [exS]; exact .bind (h.run.imp (fun f Γ q => .here q) fun _ _ q => q)⟩
theorem ws_asgP {ps : List P1} {e : Ex} (h : WE e Γ (fun x Γ => ∃ ds Γ', frz x = .tuple ds ∧ setP1s ps ds Γ = some Γ' ∧ Q .nx Γ') X) : WS (.asgP ps e) Γ Q X := ⟨by
  simp only [exS]; exact .bind (h.run.imp (fun f Γ q => by
    obtain ⟨ds, Γ', e, h, q⟩ := q
    simp only [e, h, liftΓ]; exact .here q) fun _ _ q => q)⟩
theorem ws_par {i j : Nat} {a b : Ex} (h : WE a Γ (fun x Γ => WE b Γ (fun y Γ => Q .nx ((Γ.set i (some (.im (frz x)))).set j (some (.im (frz y))))) X) X) : WS (.par i j a b) Γ Q X := ⟨by
  simp only [exS]; exact .bind (h.run.imp (fun f Γ q => .bind (q.run.imp (fun f Γ q => .here q) fun _ _ q => q)) fun _ _ q => q)⟩
theorem ws_setI {i : Nat} {k e : Ex} (h : WE e Γ (fun y Γ => (∃ m0, Γ[i]? = some (some m0)) ∧ WE k Γ (fun x Γ => ∃ xs, Γ[i]? = some (some (.ml xs)) ∧ ∃ (j : Nat), frz x = .int j ∧ j < xs.length ∧ Q .nx (Γ.set i (some (.ml (xs.set j (frz y)))))) X) X) : WS (.setI i k e) Γ Q X := ⟨by
  simp only [exS]; exact .bind (h.run.imp (fun f Γ q => by
    obtain ⟨⟨m0, e0⟩, q⟩ := q
    simp only [need, e0]
    exact .bind (q.run.imp (fun f Γ q => by
      obtain ⟨xs, e, j, ej, hj, q⟩ := q
      have hx : ixN xs.length (j : Int) = some j := by
        unfold ixN
        rw [if_pos (by omega), if_pos (by omega)]; simp
      simp only [e, ej, hx]; exact .here q) fun _ _ q => q)) fun _ _ q => q)⟩
theorem ws_setII {i : Nat} {k l e : Ex} (h : WE e Γ (fun y Γ => (∃ m0, Γ[i]? = some (some m0)) ∧ WE k Γ (fun x Γ => ∃ xss, Γ[i]? = some (some (.mm xss)) ∧ ∃ (j : Nat), frz x = .int j ∧ ∃ xs, xss[j]? = some xs ∧ WE l (Γ.set i none) (fun z Γ => ∃ (j' : Nat), frz z = .int j' ∧ j' < xs.length ∧ Q .nx (Γ.set i (some (.mm (xss.set j (xs.set j' (frz y))))))) X) X) X) : WS (.setII i k l e) Γ Q X := ⟨by
  simp only [exS]; exact .bind (h.run.imp (fun f Γ q => by
    obtain ⟨⟨m0, e0⟩, q⟩ := q
    simp only [need, e0]
    exact .bind (q.run.imp (fun f Γ q => by
      obtain ⟨xss, e, j, ej, xs, hj, q⟩ := q
      have hl := (List.getElem?_eq_some_iff.mp hj).1
      have hx : ixN xss.length (j : Int) = some j := by
        unfold ixN
        rw [if_pos (by omega), if_pos (by omega)]; simp
      simp only [e, ej, hx, hj]
      exact .bind (q.run.imp (fun f Γ q => by
        obtain ⟨j', ej, hl, q⟩ := q
        have hx : ixN xs.length (j' : Int) = some j' := by
          unfold ixN
          rw [if_pos (by omega), if_pos (by omega)]; simp
        simp only [ej, hx]
        exact .here q) fun _ _ q => q)) fun _ _ q => q)) fun _ _ q => q)⟩
theorem ws_app {i : Nat} {e : Ex} {xs0 : List D} (hn : Γ[i]? = some (some (.ml xs0))) (h : WE e Γ (fun y Γ => ∃ xs, Γ[i]? = some (some (.ml xs)) ∧ xs.length < 1000000 ∧ Q .nx (Γ.set i (some (.ml (xs ++ [frz y]))))) X) : WS (.app i e) Γ Q X := ⟨by
  simp only [exS, needL, hn]; exact .bind (h.run.imp (fun f Γ q => by
    obtain ⟨xs, e, hl, q⟩ := q
    have : lineOk (xs.length + 1) = true := by unfold lineOk; rw [Nat.ble_eq]; omega
    simp only [e, this, if_true]; exact .here q) fun _ _ q => q)⟩
theorem ws_ext {i : Nat} {e : Ex} {xs0 : List D} (hn : Γ[i]? = some (some (.ml xs0))) (h : WE e Γ (fun y Γ => ∃ xs ys, Γ[i]? = some (some (.ml xs)) ∧ frz y = .list ys ∧ xs.length + ys.length < 1000000 ∧ Q .nx (Γ.set i (some (.ml (xs ++ ys))))) X) : WS (.ext i e) Γ Q X := ⟨by
  simp only [exS, needL, hn]; exact .bind (h.run.imp (fun f Γ q => by
    obtain ⟨xs, ys, e, e2, hl, q⟩ := q
    have : lineOk (xs.length + ys.length) = true := by unfold lineOk; rw [Nat.ble_eq]; omega
    simp only [e, e2, this, if_true]; exact .here q) fun _ _ q => q)⟩
theorem ws_parM {i j : Nat} {a b : Ex} (h : WE a Γ (fun x Γ => WE b Γ (fun y Γ => Q .nx ((Γ.set i (some x)).set j (some y))) X) X) : WS (.parM i j a b) Γ Q X := ⟨by
  simp only [exS]; exact .bind (h.run.imp (fun f Γ q => .bind (q.run.imp (fun f Γ q => .here q) fun _ _ q => q)) fun _ _ q => q)⟩
theorem ws_par3 {i j l : Nat} {a b c : Ex} (h : WE a Γ (fun x Γ => WE b Γ (fun y Γ => WE c Γ (fun z Γ => Q .nx (((Γ.set i (some x)).set j (some y)).set l (some z))) X) X) X) : WS (.par3 i j l a b c) Γ Q X := ⟨by
  simp only [exS]; exact .bind (h.run.imp (fun f Γ q => .bind (q.run.imp (fun f Γ q => .bind (q.run.imp (fun f Γ q => .here q) fun _ _ q => q)) fun _ _ q => q)) fun _ _ q => q)⟩
theorem ws_dput {i : Nat} {k e : Ex} (h : WE e Γ (fun y Γ => (∃ m0, Γ[i]? = some (some m0)) ∧ WE k Γ (fun x Γ => ∃ kvs n, Γ[i]? = some (some (.md kvs)) ∧ frz x = .int n ∧ kvs.length < 1000000 ∧ Q .nx (Γ.set i (some (.md (putI kvs n (frz y)))))) X) X) : WS (.dput i k e) Γ Q X := ⟨by
  simp only [exS]; exact .bind (h.run.imp (fun f Γ q => by
    obtain ⟨⟨m0, e0⟩, q⟩ := q
    simp only [need, e0]
    exact .bind (q.run.imp (fun f Γ q => by
      obtain ⟨kvs, n, e, e2, hl, q⟩ := q
      have : lineOk (kvs.length + 1) = true := by unfold lineOk; rw [Nat.ble_eq]; omega
      simp only [e, e2, this, if_true]; exact .here q) fun _ _ q => q)) fun _ _ q => q)⟩
theorem ws_sda {i : Nat} {k e : Ex} {kvs0 : List (Int × List D)} (hn : Γ[i]? = some (some (.ms kvs0))) (h : WE k Γ (fun x Γ => ∃ kvs n, Γ[i]? = some (some (.ms kvs)) ∧ frz x = .int n ∧ kvs.length < 1000000 ∧ WE e (Γ.set i none) (fun y Γ => (∀ j q, kvs.findIdx? (fun p => decide (p.1 = n)) = some j → kvs[j]? = some q → q.2.length < 1000000 ∧ Q .nx (Γ.set i (some (.ms (kvs.set j (n, q.2 ++ [frz y])))))) ∧ (kvs.findIdx? (fun p => decide (p.1 = n)) = none → Q .nx (Γ.set i (some (.ms (kvs ++ [(n, [frz y])])))))) X) X) : WS (.sda i k e) Γ Q X := ⟨by
  simp only [exS, needDS, hn]; exact .bind (h.run.imp (fun f Γ q => by
    obtain ⟨kvs, n, e1, e2, hl, q⟩ := q
    have hk : lineOk (kvs.length + 1) = true := by unfold lineOk; rw [Nat.ble_eq]; omega
    simp only [e1, e2, hk, if_true]
    cases hf : kvs.findIdx? (fun p => decide (p.1 = n)) with
    | none => exact .bind (q.run.imp (fun f Γ q => .here (q.2 hf)) fun _ _ q => q)
    | some j =>
      have hj : j < kvs.length := by
        have := List.findIdx?_eq_some_iff_getElem.mp hf
        exact this.1
      have hq : kvs[j]? = some kvs[j] := List.getElem?_eq_getElem hj
      simp only [hq]
      exact .bind (q.run.imp (fun f Γ q => by
        obtain ⟨h1, h2⟩ := q.1 j _ hf hq
        have hk : lineOk ((kvs[j]).2.length + 1) = true := by unfold lineOk; rw [Nat.ble_eq]; omega
        simp only [hk, if_true]; exact .here h2) fun _ _ q => q)) fun _ _ q => q)⟩
theorem ws_appI {i : Nat} {k e : Ex} {xss0 : List (List D)} (hn : Γ[i]? = some (some (.mm xss0))) (h : WE k Γ (fun x Γ => ∃ xss, Γ[i]? = some (some (.mm xss)) ∧ ∃ (j : Nat), frz x = .int j ∧ ∃ xs, xss[j]? = some xs ∧ WE e (Γ.set i none) (fun y Γ => xs.length < 1000000 ∧ Q .nx (Γ.set i (some (.mm (xss.set j (xs ++ [frz y])))))) X) X) : WS (.appI i k e) Γ Q X := ⟨by
  simp only [exS, needLL, hn]; exact .bind (h.run.imp (fun f Γ q => by
    obtain ⟨xss, e, j, ej, xs, hj, q⟩ := q
    have hl := (List.getElem?_eq_some_iff.mp hj).1
    have hx : ixN xss.length (j : Int) = some j := by
      unfold ixN
      rw [if_pos (by omega), if_pos (by omega)]; simp
    simp only [e, ej, hx, hj]
    exact .bind (q.run.imp (fun f Γ q => by
      obtain ⟨hl, q⟩ := q
      have hk : lineOk (xs.length + 1) = true := by unfold lineOk; rw [Nat.ble_eq]; omega
      simp only [hk, if_true]; exact .here q) fun _ _ q => q)) fun _ _ q => q)⟩
theorem ws_exp {e : Ex} (h : WE e Γ (fun _ Γ => Q .nx Γ) X) : WS (.exp e) Γ Q X := ⟨by
  simp only [exS]; exact .bind (h.run.imp (fun f Γ q => .here q) fun _ _ q => q)⟩
theorem ws_ret {e : Ex} (h : WE e Γ (fun x Γ => Q (.rt x) Γ) X) : WS (.ret e) Γ Q X := ⟨by
  simp only [exS]; exact .bind (h.run.imp (fun f Γ q => .here q) fun _ _ q => q)⟩
theorem ws_ifs {c : Ex} {a b : Sm} (h : WB c Γ (fun x Γ => (x = true → WS a Γ Q X) ∧ (x = false → WS b Γ Q X)) X) : WS (.ifs c a b) Γ Q X := ⟨by
  simp only [exS]; exact .bind (h.run.imp (fun f Γ q => by
    cases f with
    | true => simp only [if_true]; exact (q.1 rfl).run
    | false => simp only [Bool.false_eq_true, if_false]; exact (q.2 rfl).run) fun _ _ q => q)⟩
theorem ws_for {p : Pt} {it : Gv.It} {b : Sm} (h : WI it Γ (fun ds Γ => LF p b ds Γ Q X) X) : WS (.for p it b) Γ Q X := ⟨by
  have : exS (.for p it b) Γ = (evI it Γ).bind fun ds Γ => loopF (bodyF p b) ds Γ := rfl
  rw [this]; exact .bind (h.run.imp (fun f Γ q => q.run) fun _ _ q => q)⟩
/-- one turn of a for -/
inductive Turn (J : Sl → Prop) (Q : Fl → Sl → Prop) : Fl → Sl → Prop
  | nx {Γ : Sl} (h : J Γ) : Turn J Q .nx Γ
  | ct {Γ : Sl} (h : J Γ) : Turn J Q .ct Γ
  | bk {Γ : Sl} (h : Q .nx Γ) : Turn J Q .bk Γ
  | rt {Γ : Sl} {m : M} (h : Q (.rt m) Γ) : Turn J Q (.rt m) Γ
theorem lf_inv {p : Pt} {b : Sm} {ds : List D} (I : Nat → Sl → Prop) (h0 : I 0 Γ) (hs : ∀ i d Γ, ds[i]? = some d → I i Γ → ∃ Γp, setPt p d Γ = some Γp ∧ WS b Γp (Turn (I (i + 1)) Q) X) (hq : ∀ Γ, I ds.length Γ → Q .nx Γ) : LF p b ds Γ Q X := ⟨by
  have key : ∀ (ds' : List D) (k : Nat) (Γ : Sl), (∀ i d, ds'[i]? = some d → ds[k + i]? = some d) → k + ds'.length = ds.length → I k Γ → WR (loopF (bodyF p b) ds' Γ) Q X := by
    intro ds'
    induction ds' with
    | nil => intro k Γ _ hk h; exact .ok _ _ rfl (hq _ (by rw [← hk]; exact h))
    | cons d r ih =>
      intro k Γ hd hk h
      obtain ⟨Γp, ep, hw⟩ := hs k d Γ (by have := hd 0 d rfl; exact this) h
      have eb : bodyF p b d Γ = exS b Γp := by unfold bodyF; rw [ep]
      have hd' : ∀ i x, r[i]? = some x → ds[k + 1 + i]? = some x := fun i x hx => by
        have := hd (i + 1) x hx
        rw [show k + 1 + i = k + (i + 1) by omega]; exact this
      have hk' : k + 1 + r.length = ds.length := by rw [← hk, List.length_cons]; omega
      unfold loopF
      rw [eb]
      cases hw.run with
      | ok f Γ1 h q =>
        rw [h]
        cases q with
        | nx q => exact ih (k + 1) Γ1 hd' hk' q
        | ct q => exact ih (k + 1) Γ1 hd' hk' q
        | bk q => exact .here q
        | rt q => exact .here q
      | ex x Γ1 h q => rw [h]; exact .ex _ _ rfl q
  exact key ds 0 Γ (fun i d h => by rw [Nat.zero_add]; exact h) (Nat.zero_add _) h0⟩
/-- over typed items -/
theorem lf_typ {α : Type} {p : Pt} {b : Sm} {xs : List α} {enc : α → D} (I : Nat → Sl → Prop) (h0 : I 0 Γ) (hs : ∀ i x Γ, xs[i]? = some x → I i Γ → ∃ Γp, setPt p (enc x) Γ = some Γp ∧ WS b Γp (Turn (I (i + 1)) Q) X) (hq : ∀ Γ, I xs.length Γ → Q .nx Γ) : LF p b (xs.map enc) Γ Q X :=
  lf_inv I h0 (fun i d Γ hd hI => by
    rw [List.getElem?_map] at hd
    cases q : xs[i]? with
    | none => rw [q] at hd; cases hd
    | some x => rw [q] at hd; cases hd; exact hs i x Γ q hI) (fun Γ h => hq Γ (by rw [List.length_map] at h; exact h))
end
/-! comprehensions -/
section
variable {Γ : Sl} {Q : M → Sl → Prop}
/-- one turn of a comprehension: the item (or none), the slots at its end -/
def Item (cs : Ar) (el : Ex) (Γp : Sl) (J : Option D → Sl → Prop) : Prop :=
  WC cs Γp (fun b Γ => (b = true → WE el Γ (fun m Γ => J (some (frz m)) Γ) fun _ _ => False) ∧ (b = false → J none Γ)) fun _ _ => False
theorem item_run {p : Pt} {cs : Ar} {el : Ex} {ow : List Nat} {d : D} {Γ Γp : Sl} {J : Option D → Sl → Prop} (hp : setPt p d (wipeG Γ ow) = some Γp) (h : Item cs el Γp J) : ∃ o Γ', bodyC p cs el ow d Γ = .ok o Γ' ∧ J o Γ' := by
  unfold bodyC
  rw [hp]
  cases h.run with
  | ok b Γb h q =>
    simp only [h, Rs.bind]
    cases b with
    | false => exact ⟨none, Γb, rfl, q.2 rfl⟩
    | true =>
      simp only [if_true]
      cases (q.1 rfl).run with
      | ok m Γ' h q => simp only [h]; exact ⟨_, _, rfl, q⟩
      | ex x Γ' h q => exact q.elim
  | ex x Γ' h q => exact q.elim
theorem lc_i {ow : List Nat} {p : Pt} {cs : Ar} {el : Ex} {ds : List D} (I : Nat → List D → Sl → Prop) (h0 : I 0 [] Γ) (hs : ∀ i d acc Γ, ds[i]? = some d → I i acc Γ → ∃ Γp, setPt p d (wipeG Γ ow) = some Γp ∧ Item cs el Γp fun o Γ' => I (i + 1) (acc ++ o.toList) Γ') (hq : ∀ xs Γ2, I ds.length xs Γ2 → Q (.ml xs) (backG Γ Γ2 ow)) : LC ow p cs el ds Γ Q := by
  obtain ⟨xs, Γ2, e, h⟩ := loopC_inv (f := bodyC p cs el ow) (ds := ds) (Γ := Γ) I h0 fun i d acc Γ hd hI => by
    obtain ⟨Γp, hp, hw⟩ := hs i d acc Γ hd hI
    exact item_run hp hw
  exact ⟨xs, Γ2, e, hq xs Γ2 h⟩
/-- each item's value by itself: nothing but the comprehension's own slots is changed -/
theorem lc_g {ow : List Nat} {p : Pt} {cs : Ar} {el : Ex} {α : Type} {xs : List α} {enc : α → D} (g : α → Option D) (hs : ∀ x ∈ xs, ∃ Γp, setPt p (enc x) (wipeG Γ ow) = some Γp ∧ Item cs el Γp fun o Γ' => o = g x ∧ wipeG Γ' ow = wipeG Γ ow) (hq : Q (.ml (xs.filterMap g)) Γ) : LC ow p cs el (xs.map enc) Γ Q := by
  refine lc_i (fun i acc Γc => acc = (xs.take i).filterMap g ∧ wipeG Γc ow = wipeG Γ ow) ⟨by simp, rfl⟩ (fun i d acc Γc hd ⟨ha, hw⟩ => ?_) fun ys Γ2 ⟨hy, hw⟩ => ?_
  · rw [List.getElem?_map] at hd
    cases q : xs[i]? with
    | none => rw [q] at hd; cases hd
    | some x =>
      rw [q] at hd; cases hd
      obtain ⟨Γp, hp, hi⟩ := hs x (List.mem_of_getElem? q)
      refine ⟨Γp, by rw [hw]; exact hp, ?_⟩
      have htk : (xs.take (i + 1)).filterMap g = (xs.take i).filterMap g ++ (g x).toList := by
        rw [List.take_add_one, q, List.filterMap_append]
        cases q : g x <;> simp [q]
      refine WC.mk (hi.run.imp (fun b Γ h => ⟨fun e => ((h.1 e).imp (fun m Γ h => ?_) fun _ _ h => h), fun e => ?_⟩) fun _ _ h => h)
      · rw [h.1, ha]; exact ⟨htk.symm, h.2⟩
      · obtain ⟨h1, h2⟩ := h.2 e
        rw [h1, ha]; exact ⟨htk.symm, h2⟩
  · obtain ⟨o1, o2⟩ := wipe_out_eq hw
    rw [backG_same o1 o2, hy, List.length_map, List.take_length]
    exact hq
/-- .. without conditions -/
theorem lc_m {ow : List Nat} {p : Pt} {el : Ex} {α : Type} {xs : List α} {enc : α → D} (g : α → D) (hs : ∀ x ∈ xs, ∃ Γp, setPt p (enc x) (wipeG Γ ow) = some Γp ∧ WE el Γp (fun m Γ' => frz m = g x ∧ wipeG Γ' ow = wipeG Γ ow) fun _ _ => False) (hq : Q (.ml (xs.map g)) Γ) : LC ow p .nil el (xs.map enc) Γ Q := by
  refine lc_g (fun x => some (g x)) (fun x hx => ?_) (by rw [List.filterMap_eq_map']; exact hq)
  obtain ⟨Γp, hp, h⟩ := hs x hx
  exact ⟨Γp, hp, wc_nil ⟨fun _ => h.imp (fun m Γ q => ⟨by rw [q.1], q.2⟩) fun _ _ q => q, fun e => by cases e⟩⟩
end
/-! defs -/
/-- how a def ends -/
inductive End (Q : M → Prop) : Fl → Prop
  | nx (h : Q (.im .none)) : End Q .nx
  | rt {m : M} (h : Q m) : End Q (.rt m)
theorem FR.imp {r : RF} {Q Q' : M → M → Prop} {X X' : Exn → M → Prop} (h : FR r Q X) (hQ : ∀ m q, Q m q → Q' m q) (hX : ∀ x q, X x q → X' x q) : FR r Q' X' := by
  cases h with
  | ok m q h hq => exact .ok m q h (hQ _ _ hq)
  | ex x q h hq => exact .ex x q h (hX _ _ hq)
theorem fr_of {r : RF} {Q : M → M → Prop} {X : Exn → M → Prop} {m q : M} (h : r = .ok m q) (hq : Q m q) : FR r Q X := .ok m q h hq
/-- a def without io: its body's answer -/
theorem fn_w {np ns : Nat} {c : Sm} {ms : List M} {Q : M → Prop} {X : Exn → Prop} (hl : ms.length = np) (h : WS c (ms.map some ++ List.replicate (ns - np) none) (fun f _ => End Q f) fun x _ => X x) : FR ((mkFn false np ns c).sem ms) (fun m q => q = .im .none ∧ Q m) fun x q => q = .im .none ∧ X x := by
  show FR (if ms.length = np then _ else _) _ _
  rw [if_pos hl]
  cases h.run with
  | ok f Γ h q =>
    rw [h]
    cases q with
    | nx q => exact .ok _ _ rfl ⟨rfl, q⟩
    | rt q => exact .ok _ _ rfl ⟨rfl, q⟩
  | ex x Γ h q => rw [h]; exact .ex _ _ rfl ⟨rfl, q⟩
/-- .. an equation -/
theorem fn_eq {np ns : Nat} {c : Sm} {ms : List M} {m : M} (hl : ms.length = np) (h : WS c (ms.map some ++ List.replicate (ns - np) none) (fun f _ => End (fun r => r = m) f) fun _ _ => False) : (mkFn false np ns c).sem ms = .ok m (.im .none) := by
  cases fn_w (Q := fun r => r = m) (X := fun _ => False) hl h with
  | ok r q h' hq => obtain ⟨rfl, rfl⟩ := hq; exact h'
  | ex x q h' hq => exact hq.2.elim
/-- a def whose first parameter is a list that it may change -/
theorem fn_io {np ns : Nat} {c : Sm} {ms : List M} {Q : M → List D → Prop} {X : Exn → List D → Prop} (hl : ms.length = np) (h : WS c (ms.map some ++ List.replicate (ns - np) none) (fun f Γ => ∃ p, Γ[0]? = some (some (.ml p)) ∧ End (fun m => Q m p) f) fun x Γ => ∃ p, Γ[0]? = some (some (.ml p)) ∧ X x p) : FR ((mkFn true np ns c).sem ms) (fun m q => ∃ p, q = .ml p ∧ Q m p) fun x q => ∃ p, q = .ml p ∧ X x p := by
  show FR (if ms.length = np then _ else _) _ _
  rw [if_pos hl]
  cases h.run with
  | ok f Γ h q =>
    rw [h]
    obtain ⟨p, e, q⟩ := q
    cases q with
    | nx q => exact .ok _ _ (by simp only [fin, e]) ⟨p, rfl, q⟩
    | rt q => exact .ok _ _ (by simp only [fin, e]) ⟨p, rfl, q⟩
  | ex x Γ h q =>
    obtain ⟨p, e, q⟩ := q
    rw [h]; exact .ex _ _ (by simp only [finX, e]) ⟨p, rfl, q⟩
end L2.Gv

set_option Elab.async false
set_option linter.all false
set_option maxRecDepth 100000
set_option maxHeartbeats 2000000
namespace L2.Gv
open PySem PySem.Spec PyProof.Rows L2
/-! # More rules: x[::2], keywords, match, try with clauses that return texts -/
structure WM (d : D) (cs : Sm) (Γ : Sl) (Q : Fl → Sl → Prop) (X : Exn → Sl → Prop) : Prop where
  run : WR (exM d cs Γ) Q X
section
variable {Γ : Sl} {X : Exn → Sl → Prop}
theorem w_two {a : Ex} {Q : M → Sl → Prop} (h : WE a Γ (fun x Γ => ∃ u v z, frz x = .tuple [u, v, z] ∧ Q (.im (.tuple [u, z])) Γ) X) : WE (.two a) Γ Q X := ⟨by
  simp only [evE]; exact .bind (h.run.imp (fun a Γ q => by
    obtain ⟨u, v, z, e, q⟩ := q
    simp only [e]
    exact .here q) fun _ _ q => q)⟩
theorem w_callk {f : Str} {F : Fn} {es kes : Ar} {ks : List Str} {Q : M → Sl → Prop} (hio : F.io = false) (h : WA es Γ (fun ds Γ => WA kes Γ (fun zs Γ => FR (F.sem ((ds ++ zs).map .im)) (fun m _ => Q m Γ) fun x _ => X x Γ) X) X) : WE (.callk f F es ks kes) Γ Q X := ⟨by
  simp only [evE, hio]; exact .bind (h.run.imp (fun a Γ q => .bind (q.run.imp (fun b Γ q => by
    simp only [Bool.false_eq_true, if_false]
    cases q with
    | ok m q h hq => rw [h]; exact .here hq
    | ex x q h hq => rw [h]; exact .ex _ _ rfl hq) fun _ _ q => q)) fun _ _ q => q)⟩
theorem ws_mat {e : Ex} {cs : Sm} {Q : Fl → Sl → Prop} (h : WE e Γ (fun x Γ => WM (frz x) cs Γ Q X) X) : WS (.mat e cs) Γ Q X := ⟨by
  simp only [exS]; exact .bind (h.run.imp (fun a Γ q => q.run) fun _ _ q => q)⟩
theorem ws_asgL {ps : List P1} {e : Ex} {Q : Fl → Sl → Prop} (h : WE e Γ (fun x Γ => ∃ ds Γ', frz x = .list ds ∧ setP1s ps ds Γ = some Γ' ∧ Q .nx Γ') X) : WS (.asgL ps e) Γ Q X := ⟨by
  simp only [exS]; exact .bind (h.run.imp (fun a Γ q => by
    obtain ⟨ds, Γ', e1, e2, q⟩ := q
    simp only [e1, liftΓ, e2]
    exact .here q) fun _ _ q => q)⟩
theorem ws_tryR {b : Sm} {ys : List Str} {hs : List (Str × Str)} {Q : Fl → Sl → Prop} (h : WS b Γ Q (fun x Γ' => ∃ z, hanR x ys hs = some z ∧ Q (.rt (.im (.str z))) Γ')) : WS (.tryR b ys hs) Γ Q X := ⟨by
  simp only [exS]
  cases h.run with
  | ok f Γ' e q => rw [e]; exact .here q
  | ex x Γ' e q =>
    obtain ⟨z, e2, q⟩ := q
    rw [e]
    simp only [e2]
    exact .here q⟩
end
end L2.Gv

set_option Elab.async false
set_option linter.all false
set_option maxRecDepth 100000
set_option maxHeartbeats 1000000
namespace L2.Gv.Com
open PySem PySem.Spec PyProof.Rows L2 L2.Gv
/-! # Loops that return the first that is found; typed look-ups -/
section
variable {Γ : Sl} {X : Exn → Sl → Prop} {Q : Fl → Sl → Prop} {p : Pt} {b : Sm}
end
theorem enumFrom_map {α : Type} (enc : α → D) : ∀ (xs : List α) (k : Nat), enumFrom k (xs.map enc) = (List.range xs.length).map fun (i : Nat) => PyData.tuple [.int ((k + i : Nat) : Int), (xs[i]?.map enc).getD .none]
  | [], _ => rfl
  | x :: xs, k => by
    rw [List.map_cons, List.length_cons, List.range_succ_eq_map, List.map_cons, List.map_map]
    show PyData.tuple [.int k, enc x] :: enumFrom (k + 1) (xs.map enc) = _
    rw [enumFrom_map enc xs (k + 1)]
    congr 1
    apply List.map_congr_left
    intro i _
    show PyData.tuple [.int ((k + 1 + i : Nat) : Int), _] = .tuple [.int ((k + (i + 1) : Nat) : Int), _]
    rw [show k + 1 + i = k + (i + 1) by omega]; rfl
section
variable {Γ : Sl} {X : Exn → Sl → Prop} {Q : Fl → Sl → Prop} {p : Pt} {b : Sm}
theorem lf_enum {α : Type} {xs : List α} {enc : α → D} (I : Nat → Sl → Prop) (h0 : I 0 Γ) (hs : ∀ (i : Nat) x Γ, xs[i]? = some x → I i Γ → ∃ Γp, setPt p (.tuple [.int i, enc x]) Γ = some Γp ∧ WS b Γp (Turn (I (i + 1)) Q) X) (hq : ∀ Γ, I xs.length Γ → Q .nx Γ) : LF p b (enumFrom 0 (xs.map enc)) Γ Q X := by
  rw [enumFrom_map]
  refine lf_typ I h0 (fun j i Γ hx hJ => ?_) (by rw [List.length_range]; exact hq)
  have hi : j < xs.length := by have := (List.getElem?_eq_some_iff.mp hx).1; simpa using this
  have hxi : i = j := by rw [List.getElem?_range hi] at hx; exact (Option.some.inj hx).symm
  subst hxi
  have hxx : xs[i]? = some xs[i] := List.getElem?_eq_getElem hi
  rw [hxx, Nat.zero_add]
  exact hs i _ Γ hxx hJ
theorem lf_rng {n : Nat} (I : Nat → Sl → Prop) (h0 : I 0 Γ) (hs : ∀ (i : Nat) Γ, i < n → I i Γ → ∃ Γp, setPt p (.int i) Γ = some Γp ∧ WS b Γp (Turn (I (i + 1)) Q) X) (hq : ∀ Γ, I n Γ → Q .nx Γ) : LF p b ((List.range n).map fun (k : Nat) => .int k) Γ Q X :=
  lf_typ I h0 (fun j i Γ hx hJ => by
    have hi : j < n := by have := (List.getElem?_eq_some_iff.mp hx).1; simpa using this
    have hxi : i = j := by rw [List.getElem?_range hi] at hx; exact (Option.some.inj hx).symm
    subst hxi
    exact hs i Γ hi hJ) (by rw [List.length_range]; exact hq)
end
theorem item_i {cs : Ar} {el : Ex} {Γp : Sl} {J : Option D → Sl → Prop} (h : WC cs Γp (fun b Γ => (b = true → WE el Γ (fun m Γ => J (some (frz m)) Γ) fun _ _ => False) ∧ (b = false → J none Γ)) fun _ _ => False) : Item cs el Γp J := h
/-! ## look-ups -/
theorem idx_n {v : List Nat} {s x : Nat} (h : v[s]? = some x) : idxD (.tuple (nD v)) (.int s) = some (.int x) := atN (nD_get h)
theorem idx_nl {v : List Nat} {s x : Nat} (h : v[s]? = some x) : idxD (.list (nD v)) (.int s) = some (.int x) := atN (nD_get h)
theorem idx_t {T : Tb} {s : Nat} {r : List (Option Nat)} (h : T[s]? = some r) : idxD (tD T) (.int s) = some (.tuple (rD r)) := atN (tRows_get h)
theorem idx_r {r : List (Option Nat)} {x : Nat} {o : Option Nat} (h : r[x]? = some o) : idxD (.tuple (rD r)) (.int x) = some (oD o) := atN (rD_get h)
theorem idx_p {ps : List (List Nat)} {z : Nat} {q : List Nat} (h : ps[z]? = some q) : idxD (.tuple (pD ps)) (.int z) = some (.tuple (nD q)) := atN (pD_get h)
theorem idx_pl {ps : List (List Nat)} {z : Nat} {q : List Nat} (h : ps[z]? = some q) : idxD (.list (pD ps)) (.int z) = some (.tuple (nD q)) := atN (pD_get h)
theorem ent_of {T : Tb} {s x : Nat} {r : List (Option Nat)} {o : Option Nat} (h1 : T[s]? = some r) (h2 : r[x]? = some o) : ent T s x = o := by
  have e : T.getD s [] = r := by rw [List.getD_eq_getElem?_getD, h1]; rfl
  unfold ent
  rw [e, List.getD_eq_getElem?_getD, h2]; rfl
theorem cmp_ne (a b : Nat) : cmpD .NotEq (.int a) (.int b) = some (!decide (a = b)) := by
  show some (!PyData.eqv (.int a) (.int b)) = _
  rw [eqv_int]; congr 2; rw [decide_eq_decide]; omega
theorem cmp_eq (a b : Nat) : cmpD .Eq (.int a) (.int b) = some (decide (a = b)) := by
  show some (PyData.eqv (.int a) (.int b)) = _
  rw [eqv_int]; congr 1; rw [decide_eq_decide]; omega
theorem cmp_lt (a b : Nat) : cmpD .Lt (.int a) (.int b) = some (decide (a < b)) := by
  show some (decide ((a : Int) < b)) = _
  congr 1; rw [decide_eq_decide]; omega
theorem cmp_le (a b : Nat) : cmpD .LtE (.int a) (.int b) = some (decide (a ≤ b)) := by
  show some (decide ((a : Int) ≤ b)) = _
  congr 1; rw [decide_eq_decide]; omega
theorem cmp_gt (a b : Nat) : cmpD .Gt (.int a) (.int b) = some (decide (b < a)) := by
  show some (decide ((b : Int) < a)) = _
  congr 1; rw [decide_eq_decide]; omega
theorem cmp_ge (a b : Nat) : cmpD .GtE (.int a) (.int b) = some (decide (b ≤ a)) := by
  show some (decide ((b : Int) ≤ a)) = _
  congr 1; rw [decide_eq_decide]; omega
theorem bin_add (a b : Nat) : binD .Add (.int a) (.int b) = some (.im (.int ((a + b : Nat) : Int))) := rfl
theorem cmp_oD (a b : Option Nat) : cmpD .NotEq (oD a) (oD b) = some (!decide (a = b)) := by
  show (if (shp (oD a) && shp (oD b)) = true then some (!PyData.eqv (oD a) (oD b)) else none) = _
  rw [oD_shp, oD_shp, oD_eqv]; rfl
theorem cmp_oDe (a b : Option Nat) : cmpD .Eq (oD a) (oD b) = some (decide (a = b)) := by
  show (if (shp (oD a) && shp (oD b)) = true then some (PyData.eqv (oD a) (oD b)) else none) = _
  rw [oD_shp, oD_shp, oD_eqv]; rfl
theorem getD_n {v : List Nat} {s x : Nat} (h : v[s]? = some x) : v.getD s 0 = x := getD_of h
theorem Vw.pos {v : List Nat} {m : Nat} (h : Vw v m) : 1 ≤ m := by
  have one := h.one
  cases v with
  | nil => simp at one
  | cons x r => have := h.lt x List.mem_cons_self; omega
theorem ex_n {d i : D} {v : List Nat} {s x : Nat} {Q : D → Prop} (hd : d = .tuple (nD v)) (hi : i = .int (s : Nat)) (h : v[s]? = some x) (hq : Q (.int x)) : ∃ r0, idxD d i = some r0 ∧ Q r0 := ⟨_, by rw [hd, hi]; exact idx_n h, hq⟩
theorem ex_nl {d i : D} {v : List Nat} {s x : Nat} {Q : D → Prop} (hd : d = .list (nD v)) (hi : i = .int (s : Nat)) (h : v[s]? = some x) (hq : Q (.int x)) : ∃ r0, idxD d i = some r0 ∧ Q r0 := ⟨_, by rw [hd, hi]; exact idx_nl h, hq⟩
theorem ex_t {d i : D} {T : Tb} {s : Nat} {r : List (Option Nat)} {Q : D → Prop} (hd : d = tD T) (hi : i = .int (s : Nat)) (h : T[s]? = some r) (hq : Q (.tuple (rD r))) : ∃ r0, idxD d i = some r0 ∧ Q r0 := ⟨_, by rw [hd, hi]; exact idx_t h, hq⟩
theorem ex_r {d i : D} {r : List (Option Nat)} {x : Nat} {o : Option Nat} {Q : D → Prop} (hd : d = .tuple (rD r)) (hi : i = .int (x : Nat)) (h : r[x]? = some o) (hq : Q (oD o)) : ∃ r0, idxD d i = some r0 ∧ Q r0 := ⟨_, by rw [hd, hi]; exact idx_r h, hq⟩
theorem ex_p {d i : D} {ps : List (List Nat)} {z : Nat} {q : List Nat} {Q : D → Prop} (hd : d = .tuple (pD ps)) (hi : i = .int (z : Nat)) (h : ps[z]? = some q) (hq : Q (.tuple (nD q))) : ∃ r0, idxD d i = some r0 ∧ Q r0 := ⟨_, by rw [hd, hi]; exact idx_p h, hq⟩
theorem ex_pl {d i : D} {ps : List (List Nat)} {z : Nat} {q : List Nat} {Q : D → Prop} (hd : d = .list (pD ps)) (hi : i = .int (z : Nat)) (h : ps[z]? = some q) (hq : Q (.tuple (nD q))) : ∃ r0, idxD d i = some r0 ∧ Q r0 := ⟨_, by rw [hd, hi]; exact idx_pl h, hq⟩
theorem bin_mul {a b : Nat} (h : a < 1000000) : binD .Mult (.int a) (.int b) = some (.im (.int ((a * b : Nat) : Int))) := by
  show (if mulOk (a : Int) b = true then some (M.im (.int ((a : Int) * b))) else none) = _
  rw [if_pos (mulOk_left (by omega) (by omega))]; simp
theorem ex_mul {d e : D} {a b : Nat} {Q : M → Prop} (hd : d = .int a) (he : e = .int b) (h : a < 1000000) (hq : Q (.im (.int ((a * b : Nat) : Int)))) : ∃ r0, binD .Mult d e = some r0 ∧ Q r0 := ⟨_, by rw [hd, he]; exact bin_mul h, hq⟩
theorem ex_add {d e : D} {a b : Nat} {Q : M → Prop} (hd : d = .int a) (he : e = .int b) (hq : Q (.im (.int ((a + b : Nat) : Int)))) : ∃ r0, binD .Add d e = some r0 ∧ Q r0 := ⟨_, by rw [hd, he]; exact bin_add a b, hq⟩
theorem ex_addl1 {d e : D} {b : Nat} {Q : M → Prop} (hd : d = .int 1) (he : e = .int b) (hq : Q (.im (.int ((1 + b : Nat) : Int)))) : ∃ r0, binD .Add d e = some r0 ∧ Q r0 := ⟨_, by rw [hd, he]; exact bin_add 1 b, hq⟩
theorem ex_addr1 {d e : D} {a : Nat} {Q : M → Prop} (hd : d = .int a) (he : e = .int 1) (hq : Q (.im (.int ((a + 1 : Nat) : Int)))) : ∃ r0, binD .Add d e = some r0 ∧ Q r0 := ⟨_, by rw [hd, he]; exact bin_add a 1, hq⟩
theorem ex_addl2 {d e : D} {b : Nat} {Q : M → Prop} (hd : d = .int 2) (he : e = .int b) (hq : Q (.im (.int ((2 + b : Nat) : Int)))) : ∃ r0, binD .Add d e = some r0 ∧ Q r0 := ⟨_, by rw [hd, he]; exact bin_add 2 b, hq⟩
theorem ex_addr2 {d e : D} {a : Nat} {Q : M → Prop} (hd : d = .int a) (he : e = .int 2) (hq : Q (.im (.int ((a + 2 : Nat) : Int)))) : ∃ r0, binD .Add d e = some r0 ∧ Q r0 := ⟨_, by rw [hd, he]; exact bin_add a 2, hq⟩
theorem ex_addl7 {d e : D} {b : Nat} {Q : M → Prop} (hd : d = .int 7) (he : e = .int b) (hq : Q (.im (.int ((7 + b : Nat) : Int)))) : ∃ r0, binD .Add d e = some r0 ∧ Q r0 := ⟨_, by rw [hd, he]; exact bin_add 7 b, hq⟩
theorem ex_addr7 {d e : D} {a : Nat} {Q : M → Prop} (hd : d = .int a) (he : e = .int 7) (hq : Q (.im (.int ((a + 7 : Nat) : Int)))) : ∃ r0, binD .Add d e = some r0 ∧ Q r0 := ⟨_, by rw [hd, he]; exact bin_add a 7, hq⟩
theorem ex_ne {d e : D} {a b : Nat} {Q : Bool → Prop} (hd : d = .int a) (he : e = .int b) (hq : Q (!decide (a = b))) : ∃ r0, cmpD .NotEq d e = some r0 ∧ Q r0 := ⟨_, by rw [hd, he]; exact cmp_ne a b, hq⟩
theorem ex_eq {d e : D} {a b : Nat} {Q : Bool → Prop} (hd : d = .int a) (he : e = .int b) (hq : Q (decide (a = b))) : ∃ r0, cmpD .Eq d e = some r0 ∧ Q r0 := ⟨_, by rw [hd, he]; exact cmp_eq a b, hq⟩
theorem ex_lt {d e : D} {a b : Nat} {Q : Bool → Prop} (hd : d = .int a) (he : e = .int b) (hq : Q (decide (a < b))) : ∃ r0, cmpD .Lt d e = some r0 ∧ Q r0 := ⟨_, by rw [hd, he]; exact cmp_lt a b, hq⟩
theorem ex_le {d e : D} {a b : Nat} {Q : Bool → Prop} (hd : d = .int a) (he : e = .int b) (hq : Q (decide (a ≤ b))) : ∃ r0, cmpD .LtE d e = some r0 ∧ Q r0 := ⟨_, by rw [hd, he]; exact cmp_le a b, hq⟩
theorem ex_gt {d e : D} {a b : Nat} {Q : Bool → Prop} (hd : d = .int a) (he : e = .int b) (hq : Q (decide (b < a))) : ∃ r0, cmpD .Gt d e = some r0 ∧ Q r0 := ⟨_, by rw [hd, he]; exact cmp_gt a b, hq⟩
theorem ex_ge {d e : D} {a b : Nat} {Q : Bool → Prop} (hd : d = .int a) (he : e = .int b) (hq : Q (decide (b ≤ a))) : ∃ r0, cmpD .GtE d e = some r0 ∧ Q r0 := ⟨_, by rw [hd, he]; exact cmp_ge a b, hq⟩
theorem ex_neo {d e : D} {a b : Option Nat} {Q : Bool → Prop} (hd : d = oD a) (he : e = oD b) (hq : Q (!decide (a = b))) : ∃ r0, cmpD .NotEq d e = some r0 ∧ Q r0 := ⟨_, by rw [hd, he]; exact cmp_oD a b, hq⟩
theorem ex_eqo {d e : D} {a b : Option Nat} {Q : Bool → Prop} (hd : d = oD a) (he : e = oD b) (hq : Q (decide (a = b))) : ∃ r0, cmpD .Eq d e = some r0 ∧ Q r0 := ⟨_, by rw [hd, he]; exact cmp_oDe a b, hq⟩
/-- a pair as data -/
def prD (v : List Nat) (T : Tb) : D := .tuple [.tuple (nD v), tD T]
end L2.Gv.Com

set_option Elab.async false
set_option linter.all false
set_option maxRecDepth 100000
set_option maxHeartbeats 1000000
local macro_rules | `(tactic| walk_at "wp") => `(tactic| (repeat' first | refine L2.Gv.ws_seq ?_ | refine L2.Gv.Nx.nx ?_ | refine L2.Gv.Nx.rt ?_ | refine L2.Gv.Nx.bk ?_ | refine L2.Gv.Nx.ct ?_ | refine L2.Gv.Turn.nx ?_ | refine L2.Gv.Turn.ct ?_ | refine L2.Gv.Turn.bk ?_ | refine L2.Gv.Turn.rt ?_ | refine L2.Gv.End.nx ?_ | refine L2.Gv.End.rt ?_ | refine L2.Gv.ws_asg ?_ | refine L2.Gv.ws_ret ?_ | refine L2.Gv.ws_ifs ?_ | refine L2.Gv.ws_for ?_ | refine L2.Gv.ws_nil ?_ | refine L2.Gv.ws_exp ?_ | refine L2.Gv.ws_app rfl ?_ | refine L2.Gv.ws_ext rfl ?_ | refine L2.Gv.ws_setI ?_ | refine L2.Gv.ws_setII ?_ | refine L2.Gv.ws_asgP ?_ | refine L2.Gv.ws_par ?_ | refine L2.Gv.ws_pass ?_ | refine L2.Gv.ws_brk ?_ | refine L2.Gv.ws_cnt ?_ | refine L2.Gv.ws_rais ?_ | refine L2.Gv.ws_tryN ?_ | refine L2.Gv.ws_asgL ?_ | refine L2.Gv.ws_mat ?_ | refine L2.Gv.ws_tryR ?_ | refine L2.Gv.w_two ?_ | refine L2.Gv.w_callk rfl ?_ | refine L2.Gv.ws_parM ?_ | refine L2.Gv.ws_par3 ?_ | refine L2.Gv.ws_dput ?_ | refine L2.Gv.ws_sda rfl ?_ | refine L2.Gv.ws_appI rfl ?_ | refine L2.Gv.w_dsp0 ?_ | refine L2.Gv.w_dspS ?_ | refine L2.Gv.w_dsp1 ?_ | refine L2.Gv.w_lkv rfl ?_ | refine L2.Gv.w_lkvs rfl ?_ | refine L2.Gv.w_lkvi rfl ?_ | refine L2.Gv.w_vdin ?_ | refine L2.Gv.w_vdget rfl ?_ | refine L2.Gv.w_vdgt rfl ?_ | refine L2.Gv.w_isT ?_ | refine L2.Gv.w_vne rfl ?_ | refine L2.Gv.wi_itm ?_ | refine L2.Gv.wi_vls ?_ | refine L2.Gv.w_var rfl ?_ | refine L2.Gv.w_varl rfl ?_ | refine L2.Gv.w_varm rfl ?_ | refine L2.Gv.w_mov rfl ?_ | refine L2.Gv.w_movl rfl ?_ | refine L2.Gv.w_movm rfl ?_ | refine L2.Gv.w_movd rfl ?_ | refine L2.Gv.w_movs rfl ?_ | refine L2.Gv.w_con ?_ | refine L2.Gv.w_glb ?_ | refine L2.Gv.w_tup ?_ | refine L2.Gv.w_lst ?_ | refine L2.Gv.w_bin ?_ | refine L2.Gv.w_neg ?_ | refine L2.Gv.wb ?_ | refine L2.Gv.w_not ?_ | refine L2.Gv.w_and ?_ | refine L2.Gv.w_or ?_ | refine L2.Gv.wand1 ?_ | refine L2.Gv.wand2 ?_ | refine L2.Gv.wor1 ?_ | refine L2.Gv.wor2 ?_ | refine L2.Gv.w_ifx ?_ | refine L2.Gv.w_cmp ?_ | refine L2.Gv.w_chn ?_ | refine L2.Gv.w_isN ?_ | refine L2.Gv.w_notN ?_ | refine L2.Gv.w_idx ?_ | refine L2.Gv.w_slc ?_ | refine L2.Gv.w_vidx rfl ?_ | refine L2.Gv.w_vlen rfl ?_ | refine L2.Gv.w_vlenm rfl ?_ | refine L2.Gv.w_call rfl ?_ | refine L2.Gv.w_cio rfl rfl ?_ | refine L2.Gv.w_cit rfl ?_ | refine L2.Gv.w_bi ?_ | refine L2.Gv.w_lrng ?_ | refine L2.Gv.w_trg ?_ | refine L2.Gv.w_sumv ?_ | refine L2.Gv.w_lstv ?_ | refine L2.Gv.w_isi ?_ | refine L2.Gv.w_mth ?_ | refine L2.Gv.w_rev ?_ | refine L2.Gv.w_vmth rfl ?_ | refine L2.Gv.w_vpop rfl ?_ | refine L2.Gv.w_vin ?_ | refine L2.Gv.w_lc ?_ | refine L2.Gv.wa_nil ?_ | refine L2.Gv.wa_cons ?_ | refine L2.Gv.wc_nil ?_ | refine L2.Gv.wc_one ?_ | refine L2.Gv.wi_seq ?_ | refine L2.Gv.wi_enm ?_ | refine L2.Gv.wi_zip ?_ | refine L2.Gv.wi_rng ?_ | refine L2.Gv.Com.item_i ?_ | ((with_reducible apply L2.Gv.Com.ex_ne); rfl; rfl) | ((with_reducible apply L2.Gv.Com.ex_eq); rfl; rfl) | ((with_reducible apply L2.Gv.Com.ex_lt); rfl; rfl) | ((with_reducible apply L2.Gv.Com.ex_le); rfl; rfl) | ((with_reducible apply L2.Gv.Com.ex_gt); rfl; rfl) | ((with_reducible apply L2.Gv.Com.ex_ge); rfl; rfl) | ((with_reducible apply L2.Gv.Com.ex_neo); rfl; rfl) | ((with_reducible apply L2.Gv.Com.ex_eqo); rfl; rfl) | ((with_reducible apply L2.Gv.Com.ex_addl1); rfl; rfl) | ((with_reducible apply L2.Gv.Com.ex_addl2); rfl; rfl) | ((with_reducible apply L2.Gv.Com.ex_addl7); rfl; rfl) | ((with_reducible apply L2.Gv.Com.ex_addr1); rfl; rfl) | ((with_reducible apply L2.Gv.Com.ex_addr2); rfl; rfl) | ((with_reducible apply L2.Gv.Com.ex_addr7); rfl; rfl) | ((with_reducible apply L2.Gv.Com.ex_add); rfl; rfl) | ((with_reducible apply L2.Gv.Com.ex_mul); rfl; rfl; omega) | ((with_reducible apply L2.Gv.Com.ex_n); rfl; rfl; (with_reducible assumption)) | ((with_reducible apply L2.Gv.Com.ex_t); rfl; rfl; (with_reducible assumption)) | ((with_reducible apply L2.Gv.Com.ex_r); rfl; rfl; (with_reducible assumption)) | ((with_reducible apply L2.Gv.Com.ex_p); rfl; rfl; (with_reducible assumption)) | ((with_reducible apply L2.Gv.Com.ex_nl); rfl; rfl; (with_reducible assumption)) | ((with_reducible apply L2.Gv.Com.ex_pl); rfl; rfl; (with_reducible assumption)) | refine Exists.intro _ (And.intro rfl ?_) | refine Exists.intro _ (Exists.intro _ (And.intro rfl (And.intro rfl ?_))) | refine And.intro (Exists.intro _ rfl) ?_ | refine L2.Gv.and_t rfl ?_ | refine L2.Gv.and_f rfl ?_ | refine L2.Gv.and_t' rfl ?_ | refine L2.Gv.and_f' rfl ?_))
namespace L2.Gv.Com
open PySem PySem.Spec PyProof.Rows L2 L2.Gv
/-! # Where two pairs depend on each other -/
def mvG (w : List Nat) (T : Tb) (s x : Nat) : Option (Nat × Nat) := match ent T s x with
  | some e => if w.getD e 0 = w.getD s 0 then none else some (s, x)
  | none => none
def mvF (n m : Nat) (w : List Nat) (T : Tb) : Option (Nat × Nat) := (List.range n).findSome? fun s => (List.range m).findSome? fun x => mvG w T s x
def sxM (p : Nat × Nat) : M := .im (.tuple [.int p.1, .int p.2])
def osM : Option (Nat × Nat) → M
  | none => .im .none
  | some p => sxM p
theorem get_len {α : Type} {xs : List α} {i : Nat} {x : α} (h : xs[i]? = some x) : i < xs.length := (List.getElem?_eq_some_iff.mp h).1
/-! ## orders of writes -/
def wrT (T : Tb) (o : Option Nat) (x : Nat) : Option Nat := o.bind fun s => ent T s x
def odG (T U : Tb) (s a b : Nat) : Option (Nat × Nat × Nat) := if wrT U (wrT T (some s) a) b = wrT T (wrT U (some s) b) a then none else some (s, a, b)
def odF (n m k : Nat) (T U : Tb) : Option (Nat × Nat × Nat) := (List.range n).findSome? fun s => (List.range m).findSome? fun a => (List.range k).findSome? fun b => odG T U s a b
def sabM (p : Nat × Nat × Nat) : M := .im (.tuple [.int p.1, .int p.2.1, .int p.2.2])
def oaM : Option (Nat × Nat × Nat) → M
  | none => .im .none
  | some p => sabM p
end L2.Gv.Com

set_option Elab.async false
set_option linter.all false
set_option maxRecDepth 100000
set_option maxHeartbeats 1000000
namespace L2.Gv.Com
open PySem PySem.Spec PyProof.Rows L2 L2.Gv
def dpD (n m k : Nat) (v w : List Nat) (T U : Tb) : D := match mvF n m w T with
  | some p => .tuple [.str (Str.ofString "moves"), .int 0, .int p.1, .int p.2]
  | none => match mvF n k v U with
    | some p => .tuple [.str (Str.ofString "moves"), .int 1, .int p.1, .int p.2]
    | none => match odF n m k T U with
      | some p => .tuple [.str (Str.ofString "order"), .int p.1, .int p.2.1, .int p.2.2]
      | none => .none
end L2.Gv.Com

set_option Elab.async false
set_option linter.all false
set_option maxRecDepth 100000
set_option maxHeartbeats 1000000
namespace L2.Gv.Com
open PySem PySem.Spec PyProof.Rows L2 L2.Gv
/-! # Plain data: == is equality -/
mutual
def pl : D → Bool
  | .none => true
  | .int _ => true
  | .str _ => true
  | .tuple ds => plAll ds
  | .list ds => plAll ds
  | _ => false
def plAll : List D → Bool
  | [] => true
  | d :: ds => pl d && plAll ds
end
theorem plAll_of : ∀ {ds : List D}, (∀ d ∈ ds, pl d = true) → plAll ds = true
  | [], _ => by rw [plAll]
  | d :: ds, h => by rw [plAll, h d List.mem_cons_self, plAll_of fun e he => h e (List.mem_cons_of_mem _ he)]; rfl
mutual
theorem eqv_iff : ∀ d e : D, pl d = true → pl e = true → (PyData.eqv d e = true ↔ d = e)
  | .none, e, _, he => by cases e <;> simp [PyData.eqv, pl] at he ⊢
  | .int i, e, _, he => by cases e <;> simp [PyData.eqv, pl] at he ⊢
  | .str i, e, _, he => by cases e <;> simp [PyData.eqv, pl] at he ⊢
  | .tuple ds, e, hd, he => by
    cases e <;> simp [PyData.eqv, pl] at he hd ⊢
    exact eqvAll_iff ds _ hd he
  | .list ds, e, hd, he => by
    cases e <;> simp [PyData.eqv, pl] at he hd ⊢
    exact eqvAll_iff ds _ hd he
  | .bool _, _, hd, _ => by simp [pl] at hd
  | .dict _, _, hd, _ => by simp [pl] at hd
theorem eqvAll_iff : ∀ ds es : List D, plAll ds = true → plAll es = true → (PyData.eqvAll ds es = true ↔ ds = es)
  | [], [], _, _ => by simp [PyData.eqvAll]
  | [], _ :: _, _, _ => by simp [PyData.eqvAll]
  | _ :: _, [], _, _ => by simp [PyData.eqvAll]
  | d :: ds, e :: es, hd, he => by
    rw [plAll, Bool.and_eq_true] at hd he
    rw [PyData.eqvAll, Bool.and_eq_true, eqv_iff d e hd.1 he.1, eqvAll_iff ds es hd.2 he.2, List.cons.injEq]
end
/-- plain, not deep: what == and `in` take -/
structure Itm (d : D) : Prop where
  lay : d.canLay0 = true
  dep : d.depth ≤ 20
  pl : pl d = true
theorem Itm.shp {d : D} (h : Itm d) : Gv.shp d = true := by
  unfold Gv.shp SeqAt.shaped
  rw [h.lay, Bool.true_and, decide_eq_true_eq]
  have := h.dep; omega
structure ItmK (d : D) (k : Nat) : Prop where
  lay : d.canLay0 = true
  dep : d.depth ≤ k
  pl : Com.pl d = true
theorem ItmK.itm {d : D} {k : Nat} (h : ItmK d k) (hk : k ≤ 20) : Itm d := ⟨h.lay, Nat.le_trans h.dep hk, h.pl⟩
theorem itmk_int (i : Int) : ItmK (.int i) 0 := ⟨rfl, by rw [PyData.depth]; exact Nat.le_refl _, by rw [Com.pl]⟩
theorem itmk_none : ItmK .none 0 := ⟨rfl, by rw [PyData.depth]; exact Nat.le_refl _, by rw [Com.pl]⟩
theorem itmk_tup {ds : List D} {k : Nat} (h : ∀ d ∈ ds, ItmK d k) : ItmK (.tuple ds) (k + 1) :=
  ⟨by rw [PyData.canLay0]; exact layAll_of ds fun d hd => (h d hd).lay, by rw [PyData.depth]; exact Nat.succ_le_succ (depAll_of ds fun d hd => (h d hd).dep), by rw [Com.pl]; exact plAll_of fun d hd => (h d hd).pl⟩
theorem itmk_nD (q : List Nat) : ∀ d ∈ nD q, ItmK d 0 := fun d hd => by
  obtain ⟨x, rfl, _⟩ := nD_mem hd
  exact itmk_int _
theorem itmk_pD (ps : List (List Nat)) : ∀ d ∈ pD ps, ItmK d 1 := fun d hd => by
  obtain ⟨x, rfl, _⟩ := pD_mem hd
  exact itmk_tup (itmk_nD _)
theorem itmk_o (o : Option Nat) : ItmK (oD o) 0 := by
  cases o with
  | none => exact itmk_none
  | some e => exact itmk_int _
theorem itmk_rD (r : List (Option Nat)) : ∀ d ∈ rD r, ItmK d 0 := fun d hd => by
  obtain ⟨o, _, rfl⟩ := List.mem_map.mp hd
  exact itmk_o o
/-! ## comparisons of plain data -/
theorem ne_f {d e : D} {k : Nat} (hd : ItmK d k) (he : ItmK e k) (hk : k ≤ 20) (h : d = e) : cmpD .NotEq d e = some false := by
  show (if (Gv.shp d && Gv.shp e) = true then some (!PyData.eqv d e) else none) = _
  rw [(hd.itm hk).shp, (he.itm hk).shp, (eqv_iff d e hd.pl he.pl).mpr h]; rfl
theorem any_eqv {d : D} {k : Nat} {xs : List D} (hd : ItmK d k) (hx : ∀ e ∈ xs, ItmK e k) : (xs.any (fun x => PyData.eqv x d) = true ↔ d ∈ xs) := by
  rw [List.any_eq_true]
  constructor
  · rintro ⟨x, h1, h2⟩
    rw [eqv_iff x d (hx x h1).pl hd.pl] at h2
    rw [← h2]; exact h1
  · intro h
    exact ⟨d, h, (eqv_iff d d hd.pl hd.pl).mpr rfl⟩
theorem in_shp {d : D} {k : Nat} {xs : List D} (hd : ItmK d k) (hx : ∀ e ∈ xs, ItmK e k) (hk : k ≤ 20) : (Gv.shp d && xs.all Gv.shp) = true := by
  rw [(hd.itm hk).shp, Bool.true_and, List.all_eq_true]
  exact fun e he => ((hx e he).itm hk).shp
theorem notin_t {d e : D} {k : Nat} {xs : List D} (hs : seqD e = some xs) (hd : ItmK d k) (hx : ∀ e ∈ xs, ItmK e k) (hk : k ≤ 20) (h : d ∉ xs) : cmpD .NotIn d e = some true := by
  have q : xs.any (fun x => PyData.eqv x d) = false := by
    cases q : xs.any (fun x => PyData.eqv x d) with
    | false => rfl
    | true => exact absurd ((any_eqv hd hx).mp q) h
  simp only [cmpD, hs, in_shp hd hx hk, if_true, q, Bool.not_false]
theorem notin_f {d e : D} {k : Nat} {xs : List D} (hs : seqD e = some xs) (hd : ItmK d k) (hx : ∀ e ∈ xs, ItmK e k) (hk : k ≤ 20) (h : d ∈ xs) : cmpD .NotIn d e = some false := by
  simp only [cmpD, hs, in_shp hd hx hk, if_true, (any_eqv hd hx).mpr h, Bool.not_true]
theorem nD_inj {a b : List Nat} (h : nD a = nD b) : a = b := by
  unfold nD at h
  exact List.map_inj_right (fun x y e => by injection e with e; omega) |>.mp h
theorem nD_iff {n : Nat} {q : List Nat} : PyData.int n ∈ nD q ↔ n ∈ q := by
  constructor
  · intro h
    obtain ⟨r, e, hr⟩ := nD_mem h
    injection e with e
    have : n = r := by omega
    rw [this]; exact hr
  · intro h
    exact List.mem_map.mpr ⟨n, h, rfl⟩
/-! ## small numbers -/
theorem draw_n {k m : Nat} {p : List D} (h : Pen k p) (hk : k < 100000000) (hm : 0 < m) (hm2 : m < 1000000) : ∃ (d : Nat) (p' : List D), F__law_draw.sem [.ml p, .im (.int m)] = .ok (.im (.int d)) (.ml p') ∧ Pen (k + 1) p' ∧ d < m := by
  obtain ⟨d, p', e, hp, h0, h1⟩ := draw_ok (m := m) h hk (by omega) (by omega)
  obtain ⟨dn, rfl⟩ := Int.eq_ofNat_of_zero_le h0
  exact ⟨dn, p', e, hp, by omega⟩
/-! ## a def that draws: its body's answer -/
theorem fn_io' {np ns : Nat} {c : Sm} {ms : List M} {Q : M → List D → Prop} (hl : ms.length = np) (h : WS c (ms.map some ++ List.replicate (ns - np) none) (fun f Γ => ∃ p, Γ[0]? = some (some (.ml p)) ∧ End (fun m => Q m p) f) fun _ _ => False) : ∃ m p, (mkFn true np ns c).sem ms = .ok m (.ml p) ∧ Q m p := by
  cases fn_io (Q := Q) (X := fun _ _ => False) hl (h.imp (fun _ _ h => h) fun _ _ h => h.elim) with
  | ok m q h hq => obtain ⟨p, rfl, hq⟩ := hq; exact ⟨m, p, h, hq⟩
  | ex x q h hq => obtain ⟨_, _, hq⟩ := hq; exact hq.elim
/-! ## while -/
/-! ## slices -/
theorem cut_take (xs : List D) (d : Nat) : cutD xs none (some (d : Int)) = xs.take d := by
  unfold cutD
  rw [HT.sIx_none, HT.sIx_nat, List.drop_zero, Nat.sub_zero]
  by_cases h : d ≤ xs.length
  · rw [Nat.min_eq_left h]
  · rw [Nat.min_eq_right (by omega), List.take_length, List.take_of_length_le (by omega)]
theorem cut_drop (xs : List D) (d : Nat) : cutD xs (some (d : Int)) none = xs.drop d := by
  unfold cutD
  rw [HT.sIx_none, HT.sIx_nat]
  by_cases h : d ≤ xs.length
  · rw [Nat.min_eq_left h, List.take_of_length_le (by rw [List.length_drop]; omega)]
  · rw [Nat.min_eq_right (by omega), Nat.sub_self, List.take_zero, List.drop_of_length_le (by omega)]
end L2.Gv.Com

set_option Elab.async false
set_option linter.all false
set_option maxRecDepth 100000
set_option maxHeartbeats 1000000
namespace L2.Gv.Com
open PySem PySem.Spec PyProof.Rows L2 L2.Gv
/-! # Sorted lists -/
abbrev leD : D → D → Bool := PySem.W.dataLe false id
/-! ## numbers sorted -/
theorem leD_nat (a b : Nat) : leD (.int a) (.int b) = decide (a ≤ b) := by
  show (!PyProof.Rows.lexLt PyProof.Rows.itemOrd (PySem.W.keyToks (.int b)) (PySem.W.keyToks (.int a))) = _
  rw [PySem.W.keyToks, PySem.W.keyToks]
  have e : PyProof.Rows.lexLt PyProof.Rows.itemOrd [Sum.inl (b : Int)] [Sum.inl (a : Int)] = decide ((b : Int) < a) := by
    by_cases h : (Sum.inl (b : Int) : Int ⊕ List Nat) = Sum.inl (a : Int)
    · injection h with h
      rw [h]
      have := (PyProof.Rows.listOrd PyProof.Rows.itemOrd).irrefl [Sum.inl (a : Int)]
      rw [show PyProof.Rows.lexLt PyProof.Rows.itemOrd [Sum.inl (a : Int)] [Sum.inl (a : Int)] = false from this]; simp
    · exact PyProof.Rows.lex_diff (O := PyProof.Rows.itemOrd) h
  rw [e]
  by_cases h : a ≤ b
  · rw [decide_eq_true h, decide_eq_false (by omega)]; rfl
  · rw [decide_eq_false h, decide_eq_true (by omega)]; rfl
theorem sort_nD (xs : List Nat) : ∃ ys, sortD (nD xs) = some (nD ys) ∧ ys.Perm xs ∧ ys.Pairwise (· ≤ ·) := by
  have hb : sortB (nD xs) = true := by
    unfold sortB
    rw [Bool.and_eq_true, Bool.and_eq_true]
    refine ⟨⟨?_, ?_⟩, ?_⟩
    · unfold alikeB
      rw [List.all_eq_true]
      intro d hd
      rw [List.all_eq_true]
      intro e he
      obtain ⟨q, rfl, _⟩ := nD_mem hd
      obtain ⟨r, rfl, _⟩ := nD_mem he
      rw [PySem.W.alike]
    · rw [Bool.or_eq_true]
      right
      rw [List.all_eq_true]
      intro d hd
      obtain ⟨q, rfl, _⟩ := nD_mem hd
      rfl
    · unfold depthOk
      rw [List.all_eq_true]
      intro d hd
      obtain ⟨q, rfl, _⟩ := nD_mem hd
      rw [PyData.depth]; rfl
  refine ⟨xs.mergeSort (fun a b => decide (a ≤ b)), ?_, List.mergeSort_perm _ _, ?_⟩
  · unfold sortD
    rw [if_pos hb]
    congr 1
    unfold nD
    exact (List.map_mergeSort (f := fun (n : Nat) => PyData.int n) (fun a _ b _ => (leD_nat a b).symm)).symm
  · have := List.pairwise_mergeSort (le := fun a b : Nat => decide (a ≤ b)) (fun a b c h1 h2 => by simp at *; omega) (fun a b => by simp; omega) xs
    exact this.imp fun h => by simpa using h
theorem lt_of_le_nd {xs : List Nat} (h : xs.Pairwise (· ≤ ·)) (n : xs.Nodup) : xs.Pairwise (· < ·) := by
  have := h.and (List.nodup_iff_pairwise_ne.mp n)
  exact this.imp fun ⟨a, b⟩ => by omega
theorem nd_perm {α : Type} [DecidableEq α] : ∀ {xs ys : List α}, xs.Nodup → ys.Nodup → (∀ a, a ∈ xs ↔ a ∈ ys) → xs.Perm ys
  | [], ys, _, _, h => by
    cases ys with
    | nil => exact List.Perm.refl _
    | cons y r => have := (h y).mpr List.mem_cons_self; cases this
  | x :: xs, ys, n1, n2, h => by
    have hx : x ∈ ys := (h x).mp List.mem_cons_self
    have p := List.perm_cons_erase hx
    have n3 : (x :: ys.erase x).Nodup := p.nodup_iff.mp n2
    refine ((nd_perm (List.nodup_cons.mp n1).2 (List.nodup_cons.mp n3).2 fun a => ?_).cons x).trans p.symm
    constructor
    · intro ha
      have ne : a ≠ x := fun e => (List.nodup_cons.mp n1).1 (by rw [← e]; exact ha)
      exact (List.mem_erase_of_ne ne).mpr ((h a).mp (List.mem_cons_of_mem _ ha))
    · intro ha
      have ne : a ≠ x := fun e => (List.nodup_cons.mp n3).1 (by subst e; exact ha)
      rcases List.mem_cons.mp ((h a).mpr ((List.mem_erase_of_ne ne).mp ha)) with e | e
      · exact absurd e ne
      · exact e
end L2.Gv.Com

set_option Elab.async false
set_option linter.all false
set_option maxRecDepth 100000
set_option maxHeartbeats 1000000
namespace L2.Gv.Com
open PySem PySem.Spec PyProof.Rows L2 L2.Gv
/-! # Things in a drawn order -/
theorem eraseIdx_perm {α : Type} : ∀ {xs : List α} {i : Nat} {x : α}, xs[i]? = some x → xs.Perm (x :: xs.eraseIdx i)
  | [], i, x, h => by simp at h
  | a :: r, 0, x, h => by simp at h; subst h; exact List.Perm.refl _
  | a :: r, i + 1, x, h => by
    rw [List.eraseIdx_cons_succ]
    exact ((eraseIdx_perm (i := i) (by simpa using h)).cons a).trans (List.Perm.swap x a _)
theorem erase_eq {α : Type} (xs : List α) (i : Nat) : xs.take i ++ xs.drop (i + 1) = xs.eraseIdx i := (List.eraseIdx_eq_take_drop_succ xs i).symm
end L2.Gv.Com

set_option Elab.async false
set_option linter.all false
set_option maxRecDepth 100000
set_option maxHeartbeats 1000000
namespace L2.Gv.Com
open PySem PySem.Spec PyProof.Rows L2 L2.Gv
/-! # Rectangles of cells -/
abbrev Cl := Nat × Nat × Nat
def cD (c : Cl) : D := .tuple [.int c.1, .int c.2.1, .int c.2.2]
/-- rectangles, each cell once -/
structure Rct (cs : List Cl) : Prop where
  nd : cs.Nodup
  row : ∀ c ∈ cs, ∀ r, r ≤ c.2.1 → (c.1, r, c.2.2) ∈ cs
  col : ∀ c ∈ cs, ∀ r, r ≤ c.2.2 → (c.1, c.2.1, r) ∈ cs
  box : ∀ c ∈ cs, ∀ d ∈ cs, c.1 = d.1 → (c.1, c.2.1, d.2.2) ∈ cs
def line (b r w : Nat) : List Cl := (List.range w).map fun y => (b, r, y)
def rect (b h w : Nat) : List Cl := (List.range h).flatMap fun r => line b r w
end L2.Gv.Com

set_option Elab.async false
set_option linter.all false
set_option maxRecDepth 100000
set_option maxHeartbeats 1000000
namespace L2.Gv.Com
open PySem PySem.Spec PyProof.Rows L2 L2.Gv
/-! # Cells with the same two numbers, together -/
theorem fn_ex {np ns : Nat} {c : Sm} {ms : List M} {Q : M → Prop} (hl : ms.length = np) (h : WS c (ms.map some ++ List.replicate (ns - np) none) (fun f _ => End Q f) fun _ _ => False) : ∃ m, (mkFn false np ns c).sem ms = .ok m (.im .none) ∧ Q m := by
  cases fn_w (Q := Q) (X := fun _ => False) hl h with
  | ok m q h hq => obtain ⟨rfl, hq⟩ := hq; exact ⟨m, h, hq⟩
  | ex x q h hq => exact hq.2.elim
theorem filterMap_int {xs : List Nat} {c : Nat → Bool} : (xs.filterMap fun (z : Nat) => if c z = true then some (PyData.int z) else none) = nD (xs.filter c) := by
  induction xs with
  | nil => rfl
  | cons x r ih =>
    rw [List.filterMap_cons, List.filter_cons]
    cases h : c x with
    | true => simp only [if_true]; rw [ih]; rfl
    | false => simp only [Bool.false_eq_true, if_false]; exact ih
def keyOf (cs : List Cl) (f g : Cl → Nat) (s : Nat) : Option (Nat × Nat) := cs[s]?.map fun c => (f c, g c)
def togOf (cs : List Cl) (f g : Cl → Nat) (s : Nat) : List Nat := (List.range cs.length).filter fun o => decide (keyOf cs f g o = keyOf cs f g s)
end L2.Gv.Com

set_option Elab.async false
set_option linter.all false
set_option maxRecDepth 100000
set_option maxHeartbeats 1000000
namespace L2.Gv.Com
open PySem PySem.Spec PyProof.Rows L2 L2.Gv
/-! # Rows and columns -/
def rowsOf (cs : List Cl) : List Nat := cs.map fun c => c.2.1
def colsOf (cs : List Cl) : List Nat := cs.map fun c => c.2.2
def sameC (cs : List Cl) (s e : Nat) : Prop := s < cs.length ∧ e < cs.length ∧ keyOf cs (fun c => c.1) (fun c => c.2.2) s = keyOf cs (fun c => c.1) (fun c => c.2.2) e
def sameR (cs : List Cl) (s e : Nat) : Prop := s < cs.length ∧ e < cs.length ∧ keyOf cs (fun c => c.1) (fun c => c.2.1) s = keyOf cs (fun c => c.1) (fun c => c.2.1) e
end L2.Gv.Com

set_option Elab.async false
set_option linter.all false
set_option maxRecDepth 100000
set_option maxHeartbeats 1000000
namespace L2.Gv.Com
open PySem PySem.Spec PyProof.Rows L2 L2.Gv
/-! # Partitions drawn within another view's blocks -/
end L2.Gv.Com

set_option Elab.async false
set_option linter.all false
set_option maxRecDepth 100000
set_option maxHeartbeats 1000000
namespace L2.Gv.Com
open PySem PySem.Spec PyProof.Rows L2 L2.Gv
/-! # What dependence tells can be shown -/
end L2.Gv.Com

set_option Elab.async false
set_option linter.all false
set_option maxRecDepth 100000
set_option maxHeartbeats 1000000
namespace L2.Gv.Com
open PySem PySem.Spec PyProof.Rows L2 L2.Gv
/-! # Writes among cells -/
end L2.Gv.Com

set_option Elab.async false
set_option linter.all false
set_option maxRecDepth 100000
set_option maxHeartbeats 1000000
namespace L2.Gv.Com
open PySem PySem.Spec PyProof.Rows L2 L2.Gv
/-! # The partition of a table -/
def nI (q : List Nat) : List Int := q.map fun (n : Nat) => (n : Int)
def dedupN (ks : List (List Nat)) : List (List Nat) := ks.foldl (fun acc k => if k ∈ acc then acc else acc ++ [k]) []
/-- the part of a row -/
def rowP (r : List (Option Nat)) : List Nat := r.filterMap id
theorem rowP_asc {v : List Nat} {m n s : Nat} {ps : List (List Nat)} {T : Tb} {r q : List (Option Nat)} {qq : List Nat} (hT : Tell v m (Same ps) T) (hs : s < v.length) (hr : T[s]? = some r) : (rowP r).Nodup ∧ ∀ e, e ∈ rowP r ↔ (Same ps s e ∧ ∃ x, x < m ∧ v[e]? = some x) := by
  obtain ⟨r', hr', hrl, hre⟩ := hT.1.get hs
  rw [hr] at hr'; cases hr'
  have mem : ∀ e, e ∈ rowP r ↔ ∃ x, x < m ∧ ent T s x = some e := fun e => by
    unfold rowP
    rw [List.mem_filterMap]
    constructor
    · rintro ⟨o, ho, e1⟩
      have e1 : o = some e := e1
      subst e1
      obtain ⟨x, hx⟩ := List.mem_iff_getElem?.mp ho
      have hxl : x < m := by have := get_len hx; omega
      rw [hre x hxl] at hx
      exact ⟨x, hxl, Option.some.inj hx⟩
    · rintro ⟨x, hx, he⟩
      exact ⟨some e, List.mem_of_getElem? (by rw [hre x hx, he]), rfl⟩
  refine ⟨?_, fun e => ?_⟩
  · unfold rowP
    rw [List.nodup_iff_pairwise_ne, List.pairwise_filterMap, List.pairwise_iff_getElem]
    intro i j hi hj hij b hb b' hb' eb
    have e1 : r[i]? = some (some b) := by rw [List.getElem?_eq_getElem hi]; exact congrArg some hb
    have e2 : r[j]? = some (some b') := by rw [List.getElem?_eq_getElem hj]; exact congrArg some hb'
    subst eb
    rw [hre i (by omega)] at e1
    rw [hre j (by omega)] at e2
    have f1 := (hT.2 s i b hs (by omega)).mp (Option.some.inj e1)
    have f2 := (hT.2 s j b hs (by omega)).mp (Option.some.inj e2)
    rw [f1.2] at f2
    have := Option.some.inj f2.2
    omega
  · rw [mem]
    constructor
    · rintro ⟨x, hx, he⟩
      obtain ⟨a, b⟩ := (hT.2 s x e hs hx).mp he
      exact ⟨a, x, hx, b⟩
    · rintro ⟨a, x, hx, b⟩
      exact ⟨x, hx, (hT.2 s x e hs hx).mpr ⟨a, b⟩⟩
end L2.Gv.Com

set_option Elab.async false
set_option linter.all false
set_option maxRecDepth 100000
set_option maxHeartbeats 1000000
namespace L2.Gv.Com
open PySem PySem.Spec PyProof.Rows L2 L2.Gv
/-! # Chains: their parts -/
def plc (ps : List (List Nat)) (s : Nat) : Nat := (ps.findIdx? fun q => decide (s ∈ q)).getD 0
theorem plc_at {ps : List (List Nat)} {s : Nat} (h : ∃ q ∈ ps, s ∈ q) : (ps.findIdx? fun q => decide (s ∈ q)) = some (plc ps s) ∧ ∃ q, ps[plc ps s]? = some q ∧ s ∈ q := by
  obtain ⟨q, hq, hs⟩ := h
  unfold plc
  cases e : ps.findIdx? fun q => decide (s ∈ q) with
  | none =>
    rw [List.findIdx?_eq_none_iff] at e
    have := e q hq
    simp [hs] at this
  | some j =>
    obtain ⟨⟨z, h1, h2⟩, _⟩ := findIdx_spec _ _ _ e
    exact ⟨rfl, z, h1, by simpa using h2⟩
/-! ## either order -/
end L2.Gv.Com

set_option Elab.async false
set_option linter.all false
set_option maxRecDepth 100000
set_option maxHeartbeats 1000000
namespace L2.Gv.Com
open PySem PySem.Spec PyProof.Rows L2 L2.Gv
/-! # Any view -/
theorem rng_get {n i : Nat} {d : D} (h : ((List.range n).map fun (k : Nat) => PyData.int k)[i]? = some d) : i < n ∧ d = .int i := by
  have hi : i < n := by have := (List.getElem?_eq_some_iff.mp h).1; simpa using this
  rw [List.getElem?_map, List.getElem?_range hi] at h
  exact ⟨hi, (Option.some.inj h).symm⟩
theorem list_add {a b : List Nat} (h : a.length + b.length < 1000) : binD .Add (.list (nD a)) (.list (nD b)) = some (.ml (nD (a ++ b))) := by
  show (if lineOk ((nD a).length + (nD b).length) = true then some (M.ml (nD a ++ nD b)) else none) = _
  rw [if_pos (by unfold lineOk; rw [Nat.ble_eq, nD_length, nD_length]; omega), nD_app]
theorem nD_erase (xs : List Nat) (j : Nat) : (nD xs).eraseIdx j = nD (xs.eraseIdx j) := by
  rw [← erase_eq, ← erase_eq]
  unfold nD
  rw [List.map_append, List.map_take, List.map_drop]
theorem every_view_ok {k most : Nat} {p : List D} (h : Pen k p) (hk : k < 1000000) (h1 : 1 ≤ most) (h9 : most ≤ 9) : ∃ (v : List Nat) (m : Nat) (p' : List D), F__law_every_view.sem [.ml p, .im (.int most)] = .ok (.im (.tuple (nD v))) (.ml p') ∧ Vw v m ∧ v.length ≤ most ∧ Pen (k + 30) p' := by
  suffices h : ∃ r p', F__law_every_view.sem [.ml p, .im (.int most)] = .ok r (.ml p') ∧ ∃ (v : List Nat) (m : Nat), r = .im (.tuple (nD v)) ∧ Vw v m ∧ v.length ≤ most ∧ Pen (k + 30) p' by
    obtain ⟨r, p', e, v, m, rfl, h1⟩ := h
    exact ⟨v, m, p', e, h1⟩
  refine fn_io' (Q := fun r p' => ∃ (v : List Nat) (m : Nat), r = .im (.tuple (nD v)) ∧ Vw v m ∧ v.length ≤ most ∧ Pen (k + 30) p') rfl ?_
  obtain ⟨d1, p1, e1, hp1, hd1⟩ := draw_n (m := most) h (by omega) (by omega) (by omega)
  obtain ⟨d2, p2, e2, hp2, hd2⟩ := draw_n (m := 1 + d1) hp1 (by omega) (by omega) (by omega)
  unfold c__law_every_view
  walk_at "wp"
  (conv => arg 1; arg 2; simp only [frz, List.map_cons, List.map_nil]); refine fr_of (e1) ?_
  walk_at "wp"
  (conv => arg 1; arg 2; simp only [frz, List.map_cons, List.map_nil]); refine fr_of (e2) ?_
  walk_at "wp"
  refine ⟨by omega, ?_⟩
  walk_at "wp"
  refine ⟨1 + d1 - (1 + d2), ?_, by omega, ?_⟩
  · show [PyData.int (((1 + d1 : Nat) : Int) - ((1 + d2 : Nat) : Int))] = _
    rw [show ((1 + d1 : Nat) : Int) - ((1 + d2 : Nat) : Int) = ((1 + d1 - (1 + d2) : Nat) : Int) by omega]
  refine ⟨rfl, ?_⟩
  refine lc_i (fun i acc Γ => ∃ (rs : List Nat) (p' : List D) (x : Option M), acc = nD rs ∧ Γ = [some (.ml p'), some (.im (.int most)), some (.im (.int ((1 + d1 : Nat) : Int))), some (.im (.int ((1 + d2 : Nat) : Int))), none, x] ∧ rs.length = i ∧ (∀ r ∈ rs, r < 1 + d2) ∧ Pen (k + 2 + i) p') ⟨[], p2, none, rfl, rfl, rfl, (fun r hr => by cases hr), hp2⟩ (fun i d acc Γ hd ⟨rs, p', x, ha, hG, hl, hlt, hp⟩ => ?_) fun xs Γ2 ⟨rs, p', x, ha, hG, hl, hlt, hp⟩ => ?_
  · obtain ⟨hi, rfl⟩ := rng_get hd
    subst hG
    obtain ⟨z, p3, e3, hp3, hz⟩ := draw_n (m := 1 + d2) hp (by omega) (by omega) (by omega)
    refine ⟨_, rfl, ?_⟩
    walk_at "wp"
    (conv => arg 1; arg 2; simp only [frz, List.map_cons, List.map_nil]); refine fr_of (e3) ?_
    refine ⟨rs ++ [z], p3, some (.im (.int i)), by rw [ha]; exact nD_snoc rs z, rfl, by simp [hl], fun r hr => ?_, by rw [show k + 2 + (i + 1) = k + 2 + i + 1 by omega]; exact hp3⟩
    rcases List.mem_append.mp hr with hr | hr
    · exact hlt r hr
    · simp at hr; omega
  · subst ha hG
    rw [List.length_map, List.length_range] at hl hp
    refine ⟨.ml (nD (List.range (1 + d2) ++ rs)), ?_, ?_⟩
    · rw [show frz (M.ml (rangeD 0 ((1 + d2 : Nat) : Int))) = .list (nD (List.range (1 + d2))) by unfold frz; rw [rangeD_nat]; rfl]
      exact list_add (by rw [List.length_range]; omega)
    walk_at "wp"
    refine ⟨by omega, rfl, ?_⟩
    refine lc_i (fun i acc Γ => ∃ (out left : List Nat) (p' : List D) (x : Option M), acc = nD out ∧ Γ = [some (.ml p'), some (.im (.int most)), some (.im (.int ((1 + d1 : Nat) : Int))), some (.im (.int ((1 + d2 : Nat) : Int))), some (.ml (nD left)), x] ∧ out.length = i ∧ (out ++ left).Perm (List.range (1 + d2) ++ rs) ∧ Pen (k + 2 + (1 + d1 - (1 + d2)) + i) p') ⟨[], _, p', none, rfl, rfl, rfl, List.Perm.refl _, hp⟩ (fun i d acc Γ hd ⟨out, left, p', x, ha, hG, hl2, hperm, hp⟩ => ?_) fun xs Γ2 ⟨out, left, p', x, ha, hG, hl2, hperm, hp⟩ => ?_
    · obtain ⟨hi, rfl⟩ := rng_get hd
      subst hG
      have hll : left.length = 1 + d1 - i := by
        have := hperm.length_eq
        rw [List.length_append, List.length_append, List.length_range] at this; omega
      obtain ⟨z, p3, e3, hp3, hz⟩ := draw_n (m := left.length) hp (by omega) (by omega) (by omega)
      have hlz : left[z]? = some left[z] := List.getElem?_eq_getElem hz
      refine ⟨_, rfl, ?_⟩
      walk_at "wp"
      rw [nD_length]
      (conv => arg 1; arg 2; simp only [frz, List.map_cons, List.map_nil]); refine fr_of (e3) ?_
      walk_at "wp"
      refine ⟨z, _, rfl, by omega, nD_get hlz, ?_⟩
      refine ⟨out ++ [left[z]], left.eraseIdx z, p3, some (.im (.int i)), by rw [ha]; exact nD_snoc out left[z], by rw [nD_erase]; rfl, by simp [hl2], ?_, by rw [show k + 2 + (1 + d1 - (1 + d2)) + (i + 1) = k + 2 + (1 + d1 - (1 + d2)) + i + 1 by omega]; exact hp3⟩
      rw [List.append_assoc]
      exact (List.Perm.append_left out (eraseIdx_perm hlz).symm).trans hperm
    · subst ha hG
      rw [List.length_map, List.length_range] at hl2 hp
      have hnil : left = [] := by
        have := hperm.length_eq
        rw [List.length_append, List.length_append, List.length_range] at this
        exact List.length_eq_zero_iff.mp (by omega)
      subst hnil
      rw [List.append_nil] at hperm
      walk_at "wp"
      refine ⟨out, 1 + d2, rfl, ⟨by omega, by omega, fun x hx => ?_, fun x hx => ?_, by omega⟩, by omega, hp.mono (by omega)⟩
      · rcases List.mem_append.mp (hperm.mem_iff.mp hx) with h | h
        · exact List.mem_range.mp h
        · exact hlt x h
      · exact hperm.mem_iff.mpr (List.mem_append.mpr (.inl (List.mem_range.mpr hx)))
end L2.Gv.Com

set_option Elab.async false
set_option linter.all false
set_option maxRecDepth 100000
set_option maxHeartbeats 1000000
namespace L2.Gv.Com
open PySem PySem.Spec PyProof.Rows L2 L2.Gv
/-! # Places of parts; tables by the program -/
theorem mul_list {d : D} {n : Nat} (h : n ≤ 1000) : binD .Mult (.list [d]) (.int n) = some (.ml (List.replicate n d)) := by
  show (if (lineOk (1 * (n : Int).toNat) && decide (-(2 ^ 63) ≤ (n : Int)) && decide ((n : Int) < 2 ^ 63)) = true then some (M.ml (List.replicate (n : Int).toNat [d]).flatten) else none) = _
  rw [if_pos, Int.toNat_natCast, repl_flat]
  rw [Bool.and_eq_true, Bool.and_eq_true, decide_eq_true_eq, decide_eq_true_eq]
  refine ⟨⟨?_, by omega⟩, by omega⟩
  unfold lineOk
  rw [Nat.ble_eq, Int.toNat_natCast]; omega
theorem nD_set (xs : List Nat) (s j : Nat) : (nD xs).set s (.int j) = nD (xs.set s j) := by unfold nD; rw [List.map_set]
theorem nD_repl (n x : Nat) : List.replicate n (PyData.int x) = nD (List.replicate n x) := by unfold nD; rw [List.map_replicate]
theorem places_ok {v : List Nat} {n : Nat} {ps : List (List Nat)} (hP : Prt v n ps) (hn : n ≤ 9) : F_places_of.sem [.im (.int n), .im (.tuple (pD ps))] = .ok (.im (.tuple (nD ((List.range n).map (plc ps))))) (.im .none) := by
  refine fn_eq rfl ?_
  unfold c_places_of
  refine ws_seq (ws_asg (w_bin (w_lst (wa_cons (w_con (wa_nil (w_var rfl ⟨_, mul_list (by omega), ?_⟩)))))))
  walk_at "wp"
  refine lf_enum (xs := ps) (enc := fun q => .tuple (nD q)) (fun i Γ => ∃ (fs : List Nat) (a3 a4 a5 : Option M), Γ = [some (.im (.int n)), some (.im (.tuple (pD ps))), some (.ml (nD fs)), a3, a4, a5] ∧ fs.length = n ∧ ∀ (j : Nat) q, j < i → ps[j]? = some q → ∀ s ∈ q, fs[s]? = some j) ⟨List.replicate n 0, none, none, none, by rw [← nD_repl]; rfl, by simp, fun j q hj => by omega⟩ (fun i q Γ hq ⟨fs, a3, a4, a5, e, hl, hf⟩ => ?_) fun Γ ⟨fs, a3, a4, a5, e, hl, hf⟩ => ?_
  · subst e
    have hqm := List.mem_of_getElem? hq
    refine ⟨_, rfl, ?_⟩
    walk_at "wp"
    refine lf_typ (xs := q) (enc := fun (s : Nat) => PyData.int s) (fun a Γ => ∃ (fs : List Nat) (a5 : Option M), Γ = [some (.im (.int n)), some (.im (.tuple (pD ps))), some (.ml (nD fs)), some (.im (.int i)), some (.im (.tuple (nD q))), a5] ∧ fs.length = n ∧ (∀ (j : Nat) q', j < i → ps[j]? = some q' → ∀ s ∈ q', fs[s]? = some j) ∧ ∀ s ∈ q.take a, fs[s]? = some i) ⟨fs, a5, rfl, hl, hf, by simp⟩ (fun a s Γ hs ⟨fs, a5, e, hl, hf, hg⟩ => ?_) fun Γ ⟨fs, a5, e, hl, hf, hg⟩ => ?_
    · subst e
      have hsm := List.mem_of_getElem? hs
      have hsn := hP.lt q hqm s hsm
      refine ⟨_, rfl, ?_⟩
      walk_at "wp"
      refine ⟨by rw [nD_length, hl]; exact hsn, ?_⟩
      walk_at "wp"
      refine ⟨fs.set s i, _, by rw [← nD_set]; rfl, by rw [List.length_set]; exact hl, fun j q' hj hq' t ht => ?_, fun t ht => ?_⟩
      · have hne : s ≠ t := fun e => by
          subst e
          have := hP.dis j i q' q s hq' hq ht hsm
          omega
        rw [List.getElem?_set_ne hne]
        exact hf j q' hj hq' t ht
      · rcases (take_mem hs t).mp ht with ht | rfl
        · by_cases e : s = t
          · subst e; rw [List.getElem?_set_self (by omega)]
          · rw [List.getElem?_set_ne e]; exact hg t ht
        · rw [List.getElem?_set_self (by omega)]
    · subst e
      rw [List.take_length] at hg
      walk_at "wp"
      refine ⟨fs, _, _, _, rfl, hl, fun j q' hj hq' t ht => ?_⟩
      rcases Nat.lt_or_ge j i with h | h
      · exact hf j q' h hq' t ht
      · have : j = i := by omega
        subst this
        rw [hq] at hq'; cases hq'
        exact hg t ht
  · subst e
    walk_at "wp"
    have : fs = (List.range n).map (plc ps) := by
      apply List.ext_getElem?
      intro s
      by_cases hs : s < n
      · obtain ⟨_, q, h1, h2⟩ := plc_at (hP.all s hs)
        rw [hf _ q (get_len h1) h1 s h2, List.getElem?_map, List.getElem?_range hs]; rfl
      · rw [List.getElem?_eq_none (by omega), List.getElem?_eq_none (by rw [List.length_map, List.length_range]; omega)]
    rw [this]
theorem rD_repl (m : Nat) : List.replicate m PyData.none = rD (List.replicate m none) := by unfold rD; rw [List.map_replicate]; rfl
theorem row_by_ok {v q : List Nat} {m : Nat} (hv : Vw v m) (hlt : ∀ s ∈ q, s < v.length) (hval : ∀ s ∈ q, ∀ t ∈ q, v[s]? = v[t]? → s = t) : ∃ r, F_row_by.sem [.im (.tuple (nD v)), .im (.tuple (nD q))] = .ok (.im (.tuple (rD r))) (.im .none) ∧ r.length = m ∧ ∀ x, x < m → ∀ e, r[x]? = some (some e) ↔ e ∈ q ∧ v[e]? = some x := by
  have le := hv.le
  have nine := hv.nine
  suffices h : ∃ mm, F_row_by.sem [.im (.tuple (nD v)), .im (.tuple (nD q))] = .ok mm (.im .none) ∧ ∃ r, mm = .im (.tuple (rD r)) ∧ r.length = m ∧ ∀ x, x < m → ∀ e, r[x]? = some (some e) ↔ e ∈ q ∧ v[e]? = some x by
    obtain ⟨mm, e, r, rfl, h1⟩ := h
    exact ⟨r, e, h1⟩
  refine fn_ex rfl ?_
  unfold c_row_by
  refine ws_seq (ws_asg (w_bin (w_lst (wa_cons (w_con (wa_nil ?_))))))
  walk_at "wp"
  (conv => arg 1; arg 2; simp only [frz, List.map_cons, List.map_nil]); refine fr_of (many_ok hv) ?_
  refine ⟨_, mul_list (by omega), ?_⟩
  walk_at "wp"
  refine lf_typ (xs := q) (enc := fun (s : Nat) => PyData.int s) (fun a Γ => ∃ (r : List (Option Nat)) (a3 : Option M), Γ = [some (.im (.tuple (nD v))), some (.im (.tuple (nD q))), some (.ml (rD r)), a3] ∧ r.length = m ∧ ∀ x, x < m → ∀ e, r[x]? = some (some e) ↔ e ∈ q.take a ∧ v[e]? = some x) ⟨List.replicate m none, none, by rw [← rD_repl]; rfl, by simp, fun x hx e => by rw [List.getElem?_replicate, if_pos hx]; simp⟩ (fun a s Γ hs ⟨r, a3, e, hl, hr⟩ => ?_) fun Γ ⟨r, a3, e, hl, hr⟩ => ?_
  · subst e
    have hsm := List.mem_of_getElem? hs
    have hsl := hlt s hsm
    have hvs : v[s]? = some v[s] := List.getElem?_eq_getElem hsl
    have hvm := hv.lt _ (List.getElem_mem hsl)
    refine ⟨_, rfl, ?_⟩
    walk_at "wp"
    refine ⟨by rw [rD_length, hl]; exact hvm, ?_⟩
    walk_at "wp"
    refine ⟨r.set v[s] (some s), _, by rw [← rD_set]; rfl, by rw [List.length_set]; exact hl, fun x hx e => ?_⟩
    rw [take_mem hs]
    by_cases hxe : v[s] = x
    · subst hxe
      rw [List.getElem?_set_self (by omega)]
      constructor
      · intro h
        have : s = e := Option.some.inj (Option.some.inj h)
        subst this
        exact ⟨.inr rfl, hvs⟩
      · rintro ⟨h | rfl, h2⟩
        · have : e = s := hval e (List.mem_of_mem_take h) s hsm (by rw [h2, hvs])
          rw [this]
        · rfl
    · rw [List.getElem?_set_ne hxe, hr x hx e]
      constructor
      · rintro ⟨h1, h2⟩; exact ⟨.inl h1, h2⟩
      · rintro ⟨h | rfl, h2⟩
        · exact ⟨h, h2⟩
        · rw [hvs] at h2; exact absurd (Option.some.inj h2) hxe
  · subst e
    rw [List.take_length] at hr
    walk_at "wp"
    exact ⟨hl, hr⟩
open Classical in
/-- the row of a part, as row_by tells it -/
noncomputable def rowR (v q : List Nat) (m : Nat) : List (Option Nat) := if h : ∃ r : List (Option Nat), F_row_by.sem [.im (.tuple (nD v)), .im (.tuple (nD q))] = .ok (.im (.tuple (rD r))) (.im .none) ∧ r.length = m ∧ ∀ x, x < m → ∀ e, r[x]? = some (some e) ↔ e ∈ q ∧ v[e]? = some x then Classical.choose h else []
theorem rowR_ok {v : List Nat} {m n : Nat} {ps : List (List Nat)} {q : List Nat} (hv : Vw v m) (hP : Prt v v.length ps) (hq : q ∈ ps) : F_row_by.sem [.im (.tuple (nD v)), .im (.tuple (nD q))] = .ok (.im (.tuple (rD (rowR v q m)))) (.im .none) ∧ (rowR v q m).length = m ∧ ∀ x, x < m → ∀ e, (rowR v q m)[x]? = some (some e) ↔ e ∈ q ∧ v[e]? = some x := by
  have h := row_by_ok hv (hP.lt q hq) (hP.val q hq)
  unfold rowR
  rw [dif_pos h]
  exact Classical.choose_spec h
theorem table_by_ok' {v : List Nat} {m : Nat} {ps : List (List Nat)} (hv : Vw v m) (hP : Prt v v.length ps) : ∃ T, F_table_by.sem [.im (.tuple (nD v)), .im (.tuple (pD ps))] = .ok (.im (tD T)) (.im .none) ∧ Tell v m (Same ps) T := by
  have nine := hv.nine
  have few := hP.few
  let part : Nat → List Nat := fun s => ps.getD (plc ps s) []
  have partE : ∀ s, s < v.length → ps[plc ps s]? = some (part s) ∧ s ∈ part s ∧ part s ∈ ps := fun s hs => by
    obtain ⟨_, q, h1, h2⟩ := plc_at (hP.all s hs)
    have e : part s = q := by show ps.getD _ [] = q; rw [List.getD_eq_getElem?_getD, h1]; rfl
    rw [e]; exact ⟨h1, h2, List.mem_of_getElem? h1⟩
  refine ⟨(List.range v.length).map fun s => rowR v (part s) m, ?_, ⟨by rw [List.length_map, List.length_range], fun r hr => ?_⟩, fun s x e hs hx => ?_⟩
  · refine fn_eq rfl ?_
    unfold c_table_by
    walk_at "wp"
    refine ⟨rfl, ?_⟩
    refine lc_m (xs := ps) (enc := fun q => .tuple (nD q)) (fun q => .tuple (rD (rowR v q m))) (fun q hq => ⟨_, rfl, ?_⟩) ?_
    · walk_at "wp"
      (conv => arg 1; arg 2; simp only [frz, List.map_cons, List.map_nil]); refine fr_of ((rowR_ok (n := 0) hv hP hq).1) ?_
      exact ⟨rfl, rfl⟩
    walk_at "wp"
    rw [nD_length]
    (conv => arg 1; arg 2; simp only [frz, List.map_cons, List.map_nil]); refine fr_of (places_ok hP nine) ?_
    walk_at "wp"
    refine ⟨rfl, ?_⟩
    refine lc_i (ds := nD ((List.range v.length).map (plc ps))) (fun i acc Γ => acc = (List.range i).map (fun s => PyData.tuple (rD (rowR v (part s) m))) ∧ ∃ (lm : M) (x : Option M), Γ = [some (.im (.tuple (nD v))), some (.im (.tuple (pD ps))), some lm, none, x] ∧ (lm = .ml (ps.map fun q => PyData.tuple (rD (rowR v q m))) ∨ lm = .im (.list (ps.map fun q => PyData.tuple (rD (rowR v q m)))))) ⟨rfl, _, none, rfl, .inl rfl⟩ (fun i d acc Γ hd ⟨ha, lm, x, hG, hlm⟩ => ?_) fun xs Γ2 ⟨ha, lm, x, hG, hlm⟩ => ?_
    · obtain ⟨z, rfl, hz⟩ := nD_of hd
      have hi : i < v.length := by have := get_len hz; rw [List.length_map, List.length_range] at this; exact this
      rw [List.getElem?_map, List.getElem?_range hi] at hz
      have hz : some (plc ps i) = some z := hz
      cases hz
      obtain ⟨h1, h2, h3⟩ := partE i hi
      have hrow : (ps.map fun q => PyData.tuple (rD (rowR v q m)))[plc ps i]? = some (.tuple (rD (rowR v (part i) m))) := by rw [List.getElem?_map, h1]; rfl
      subst hG
      refine ⟨_, rfl, item_i (wc_nil ⟨fun _ => w_idx ?_, fun e => by cases e⟩)⟩
      have ev : ∀ {Q : M → Sl → Prop}, Q (.im (.list (ps.map fun q => PyData.tuple (rD (rowR v q m))))) [some (.im (.tuple (nD v))), some (.im (.tuple (pD ps))), some (.im (.list (ps.map fun q => PyData.tuple (rD (rowR v q m))))), none, some (.im (.int (plc ps i)))] → WE (.var 2) [some (.im (.tuple (nD v))), some (.im (.tuple (pD ps))), some lm, none, some (.im (.int (plc ps i)))] Q fun _ _ => False := by
        intro Q q
        rcases hlm with rfl | rfl
        · exact w_varl rfl q
        · exact w_var rfl q
      refine ev ?_
      refine w_var rfl ⟨_, atN hrow, ?_⟩
      exact ⟨by rw [ha, List.range_succ, List.map_append]; rfl, _, _, rfl, .inr rfl⟩
    · subst ha
      walk_at "wp"
      rw [nD_length, List.length_map, List.length_range]
      show M.im (.tuple _) = M.im (.tuple (List.map _ (List.map _ _)))
      rw [List.map_map]; rfl
  · obtain ⟨s, hs, rfl⟩ := List.mem_map.mp hr
    exact (rowR_ok (n := 0) hv hP (partE s (List.mem_range.mp hs)).2.2).2.1
  · obtain ⟨h1, h2, h3⟩ := partE s hs
    obtain ⟨_, q2, q3⟩ := rowR_ok (n := 0) hv hP h3
    have he : ∀ o, (rowR v (part s) m)[x]? = some o → ent ((List.range v.length).map fun s => rowR v (part s) m) s x = o := fun o ho => ent_of (by rw [List.getElem?_map, List.getElem?_range hs]; rfl) ho
    have hx' : (rowR v (part s) m)[x]? = some ((rowR v (part s) m)[x]'(by omega)) := List.getElem?_eq_getElem _
    rw [he _ hx', ← Option.some.injEq, ← hx', q3 x hx e]
    constructor
    · rintro ⟨a, b⟩; exact ⟨⟨_, h3, h2, a⟩, b⟩
    · rintro ⟨⟨q, hq, a1, a2⟩, b⟩
      rw [hP.one hq h3 a1 h2] at a2
      exact ⟨a2, b⟩
end L2.Gv.Com

set_option Elab.async false
set_option linter.all false
set_option maxRecDepth 100000
set_option maxHeartbeats 1000000
namespace L2.Gv.Com
open PySem PySem.Spec PyProof.Rows L2 L2.Gv
/-! # Blocks; what is kept -/
theorem lc_enum {Γ : Sl} {Q : M → Sl → Prop} {ow : List Nat} {p : Pt} {cs : Ar} {el : Ex} {α : Type} {xs : List α} {enc : α → D} (g : Nat → Option D) (hs : ∀ (i : Nat) x, xs[i]? = some x → ∃ Γp, setPt p (.tuple [.int i, enc x]) (wipeG Γ ow) = some Γp ∧ Item cs el Γp fun o Γ' => o = g i ∧ wipeG Γ' ow = wipeG Γ ow) (hq : Q (.ml ((List.range xs.length).filterMap g)) Γ) : LC ow p cs el (enumFrom 0 (xs.map enc)) Γ Q := by
  rw [enumFrom_map]
  refine lc_g g (fun i hi => ?_) hq
  have hi := List.mem_range.mp hi
  have hx : xs[i]? = some xs[i] := List.getElem?_eq_getElem hi
  rw [hx, Nat.zero_add]
  exact hs i _ hx
def blk (v : List Nat) (x : Nat) : List Nat := (List.range v.length).filter fun s => decide (v.getD s 0 = x)
theorem blk_mem {v : List Nat} {x s : Nat} : s ∈ blk v x ↔ v[s]? = some x := by
  unfold blk
  rw [List.mem_filter, List.mem_range, decide_eq_true_eq]
  constructor
  · rintro ⟨h1, h2⟩
    rw [getD_n (List.getElem?_eq_getElem h1)] at h2
    rw [List.getElem?_eq_getElem h1, h2]
  · intro h
    exact ⟨get_len h, getD_n h⟩
theorem blocks_of_ok {v : List Nat} {m : Nat} (hv : Vw v m) : F_blocks_of.sem [.im (.tuple (nD v))] = .ok (.im (.tuple (pD ((List.range m).map (blk v))))) (.im .none) := by
  have nine := hv.nine
  have le := hv.le
  refine fn_eq rfl ?_
  unfold c_blocks_of
  walk_at "wp"
  (conv => arg 1; arg 2; simp only [frz, List.map_cons, List.map_nil]); refine fr_of (many_ok hv) ?_
  walk_at "wp"
  refine ⟨by omega, ?_⟩
  rw [rangeD_nat]
  walk_at "wp"
  refine ⟨rfl, ?_⟩
  refine lc_m (fun (x : Nat) => .tuple (nD (blk v x))) (fun x hx => ⟨_, rfl, ?_⟩) ?_
  · walk_at "wp"
    refine ⟨rfl, ?_⟩
    refine lc_enum (xs := v) (enc := fun (n : Nat) => PyData.int n) (fun s => if decide (v.getD s 0 = x) = true then some (PyData.int s) else none) (fun s y hy => ⟨_, rfl, ?_⟩) ?_
    · walk_at "wp"
      refine ⟨fun h => ?_, fun h => ?_⟩
      · walk_at "wp"
        refine ⟨?_, rfl⟩
        rw [getD_n hy, if_pos h]; rfl
      · refine ⟨?_, rfl⟩
        rw [getD_n hy, if_neg (by rw [h]; simp)]
    · rw [filterMap_int]
      walk_at "wp"
      exact ⟨rfl, rfl⟩
  · walk_at "wp"
    show M.im (.tuple _) = M.im (.tuple (List.map _ (List.map _ _)))
    rw [List.map_map]; rfl
end L2.Gv.Com

set_option Elab.async false
set_option linter.all false
set_option maxRecDepth 100000
set_option maxHeartbeats 1000000
namespace L2.Gv.Com
/-! # Links, traces, layers: plain facts -/
/-- b is near a -/
def Nr (near : List (List Nat)) (a b : Nat) : Prop := ∃ l, near[a]? = some l ∧ b ∈ l
/-- p is a trace from s to t -/
inductive Tr (near : List (List Nat)) (s : Nat) : List Nat → Nat → Prop
  | one : Tr near s [s] s
  | more {p : List Nat} {b c : Nat} : Tr near s p b → Nr near b c → Tr near s (p ++ [c]) c
def LeT (p q : List Nat) : Prop := p.length < q.length ∨ (p.length = q.length ∧ (p < q ∨ p = q))
/-- the smallest of the shortest -/
def Best (near : List (List Nat)) (s : Nat) (p : List Nat) (t : Nat) : Prop := Tr near s p t ∧ ∀ q, Tr near s q t → LeT p q
theorem lt_tr {p q r : List Nat} (h : p < q) (h2 : q < r) : p < r := List.lt_trans h h2
theorem Tr.pos {near : List (List Nat)} {s t : Nat} {p : List Nat} (h : Tr near s p t) : 1 ≤ p.length := by
  cases h with
  | one => simp
  | more _ _ => rw [List.length_append]; simp
/-- one pair looked at: kept if its state is new -/
def grow (f : List (Nat × List Nat)) (e : Nat × List Nat) : List (Nat × List Nat) := if e.1 ∈ f.map Prod.fst then f else f ++ [e]
/-- the layer behind the layer L -/
def nextE (near : List (List Nat)) (L : List (Nat × List Nat)) : List (Nat × List Nat) := L.flatMap fun e => (near.getD e.1 []).map fun o => (o, e.2 ++ [o])
structure Lay (near : List (List Nat)) (s k : Nat) (f0 L : List (Nat × List Nat)) : Prop where
  nd : ((f0 ++ L).map Prod.fst).Nodup
  best : ∀ t p, (t, p) ∈ f0 ++ L → Best near s p t
  low : ∀ e ∈ f0, e.2.length ≤ k
  lay : ∀ e ∈ L, e.2.length = k + 1
  all : ∀ t q, Tr near s q t → q.length ≤ k + 1 → ∃ p, (t, p) ∈ f0 ++ L
  asc : (L.map Prod.snd).Pairwise (· < ·)
/-- all that is reached, each with the smallest of the shortest traces -/
structure Trs (near : List (List Nat)) (s : Nat) (f : List (Nat × List Nat)) : Prop where
  nd : (f.map Prod.fst).Nodup
  best : ∀ t p, (t, p) ∈ f → Best near s p t
  all : ∀ t q, Tr near s q t → ∃ p, (t, p) ∈ f
theorem Tr.lt {near : List (List Nat)} {n s t : Nat} {p : List Nat} (hn : ∀ l ∈ near, ∀ b ∈ l, b < n) (hs : s < n) (h : Tr near s p t) : t < n ∧ ∀ a ∈ p, a < n := by
  induction h with
  | one => exact ⟨hs, fun a ha => by rw [List.mem_singleton.mp ha]; exact hs⟩
  | more h1 h2 ih =>
    obtain ⟨l, hl, hc⟩ := h2
    have := hn l (List.mem_of_getElem? hl) _ hc
    refine ⟨this, fun a ha => ?_⟩
    rcases List.mem_append.mp ha with ha | ha
    · exact ih.2 a ha
    · rw [List.mem_singleton.mp ha]; exact this
end L2.Gv.Com

set_option Elab.async false
set_option linter.all false
set_option maxRecDepth 100000
set_option maxHeartbeats 1000000
namespace L2.Gv.Com
open PySem PySem.Spec PyProof.Rows L2 L2.Gv
/-! # traces_from -/
def lD (near : List (List Nat)) : List D := near.map fun l => PyData.list (nD l)
def fD (f : List (Nat × List Nat)) : List (Int × D) := f.map fun e => ((e.1 : Int), PyData.tuple (nD e.2))
theorem nd_le {xs : List Nat} {n : Nat} (hn : xs.Nodup) (hl : ∀ a ∈ xs, a < n) : xs.length ≤ n := by
  have h := (nd_perm (xs := xs) (ys := (List.range n).filter fun a => decide (a ∈ xs)) hn (List.nodup_range.sublist List.filter_sublist) (fun a => by
    rw [List.mem_filter, List.mem_range, decide_eq_true_eq]
    exact ⟨fun h => ⟨hl a h, h⟩, fun h => h.2⟩)).length_eq
  rw [h]
  have := List.length_filter_le (fun a => decide (a ∈ xs)) (List.range n)
  rw [List.length_range] at this
  exact this
end L2.Gv.Com

set_option Elab.async false
set_option linter.all false
set_option maxRecDepth 100000
set_option maxHeartbeats 1000000
namespace L2.Gv.Com
open PySem PySem.Spec PyProof.Rows L2 L2.Gv
/-! # Links -/
inductive Lk (ls : List (Nat × Nat)) : Nat → Nat → Prop
  | refl (a : Nat) : Lk ls a a
  | step {a b c : Nat} : Lk ls a b → ((b, c) ∈ ls ∨ (c, b) ∈ ls) → Lk ls a c
theorem Lk.trans {ls : List (Nat × Nat)} {a b c : Nat} (h : Lk ls a b) (h2 : Lk ls b c) : Lk ls a c := by
  induction h2 with
  | refl => exact h
  | step _ e ih => exact .step ih e
theorem Lk.one {ls : List (Nat × Nat)} {a b : Nat} (h : (a, b) ∈ ls ∨ (b, a) ∈ ls) : Lk ls a b := .step (.refl a) h
theorem Lk.symm {ls : List (Nat × Nat)} {a b : Nat} (h : Lk ls a b) : Lk ls b a := by
  induction h with
  | refl => exact .refl _
  | step _ e ih => exact (Lk.one e.symm).trans ih
/-- for each state the others near it -/
def nearOf (n : Nat) (ls : List (Nat × Nat)) : List (List Nat) := (List.range n).map fun s => (List.range n).filter fun o => (decide ((s, o) ∈ ls) || decide ((o, s) ∈ ls)) && !decide (o = s)
end L2.Gv.Com

set_option Elab.async false
set_option linter.all false
set_option maxRecDepth 100000
set_option maxHeartbeats 1000000
namespace L2.Gv.Com
open PySem PySem.Spec PyProof.Rows L2 L2.Gv
/-! # near_by, linked_parts -/
def eD (e : Nat × Nat) : D := .tuple [.int e.1, .int e.2]
def kD (ls : List (Nat × Nat)) : List D := ls.map eD
def adjL (ls : List (Nat × Nat)) (s : Nat) : List Nat := (ls.filterMap fun e => if e.1 = s then some e.2 else none) ++ ls.filterMap fun e => if e.2 = s then some e.1 else none
/-! ## linked_parts -/
def relab (ps : List Nat) (a b : Nat) : List Nat := ps.map fun x => if x = a then b else x
/-- labels that tell what is linked -/
structure Lab (n : Nat) (ls : List (Nat × Nat)) (ps : List Nat) : Prop where
  len : ps.length = n
  lt : ∀ x ∈ ps, x < n
  lnk : ∀ a b, a < n → b < n → (ps[a]? = ps[b]? ↔ Lk ls a b)
/-- the states up to i by their labels, in the order in which the labels come -/
structure Grp (ps : List Nat) (i : Nat) (g : List (Nat × List Nat)) : Prop where
  nd : (g.map Prod.fst).Nodup
  mem : ∀ x q, (x, q) ∈ g → q = (List.range i).filter fun s => decide (ps[s]? = some x)
  ne : ∀ x q, (x, q) ∈ g → q ≠ []
  all : ∀ s x, s < i → ps[s]? = some x → x ∈ g.map Prod.fst
end L2.Gv.Com

set_option Elab.async false
set_option linter.all false
set_option maxRecDepth 100000
set_option maxHeartbeats 1000000
namespace L2.Gv.Com
open PySem PySem.Spec PyProof.Rows L2 L2.Gv
def gD (g : List (Nat × List Nat)) : List (Int × List D) := g.map fun e => ((e.1 : Int), nD e.2)
end L2.Gv.Com

set_option Elab.async false
set_option linter.all false
set_option maxRecDepth 100000
set_option maxHeartbeats 1000000
namespace L2.Gv.Com
open PySem PySem.Spec PyProof.Rows L2 L2.Gv
/-! # The least trace -/
def encT (p : List Nat) : D := .tuple [.int p.length, .tuple (nD p)]
theorem alike_T (p q : List Nat) : PySem.W.alike (.tuple (nD p)) (.tuple (nD q)) = true := by rw [PySem.W.alike]; exact alikeAll_nD p q
theorem LeT.refl (p : List Nat) : LeT p p := .inr ⟨rfl, .inr rfl⟩
theorem LeT.trans {p q r : List Nat} (h : LeT p q) (h2 : LeT q r) : LeT p r := by
  rcases h with h | ⟨h, h'⟩
  · rcases h2 with k | ⟨k, _⟩
    · exact .inl (by omega)
    · exact .inl (by omega)
  · rcases h2 with k | ⟨k, k'⟩
    · exact .inl (by omega)
    · refine .inr ⟨h.trans k, ?_⟩
      rcases h' with h' | h'
      · rcases k' with k' | k'
        · exact .inl (lt_tr h' k')
        · exact .inl (by rw [← k']; exact h')
      · rw [h']; exact k'
/-- a trace or None -/
def oT : Option (List Nat) → D
  | none => .none
  | some p => .tuple (nD p)
end L2.Gv.Com

set_option Elab.async false
set_option linter.all false
set_option maxRecDepth 100000
set_option maxHeartbeats 1000000
namespace L2.Gv.Com
open PySem PySem.Spec PyProof.Rows L2 L2.Gv
/-! # What several views show; links of tables; a clash -/
def shw (vs : List (List Nat)) (s : Nat) : List Nat := vs.map fun v => v.getD s 0
/-- the links of tables -/
def Lof (Ts : List Tb) (a b : Nat) : Prop := ∃ T ∈ Ts, ∃ r, T[a]? = some r ∧ some b ∈ r
/-- a trace between two states at which all views agree -/
def CT (vs : List (List Nat)) (near : List (List Nat)) (n : Nat) (q : List Nat) : Prop := ∃ a b, a < n ∧ Tr near a q b ∧ a ≠ b ∧ shw vs a = shw vs b
end L2.Gv.Com

set_option Elab.async false
set_option linter.all false
set_option maxRecDepth 100000
set_option maxHeartbeats 1000000
namespace L2.Gv.Com
open PySem PySem.Spec PyProof.Rows L2 L2.Gv
/-! # The joined view -/
/-- the tuples that are shown, each once, sorted -/
structure Nms (vs : List (List Nat)) (n : Nat) (names : List (List Nat)) : Prop where
  srt : sortD (pD (dedupN ((List.range n).map (shw vs)))) = some (pD names)
  nd : names.Nodup
  mem : ∀ q, q ∈ names ↔ ∃ s, s < n ∧ q = shw vs s
  len : names.length ≤ n
/-- the place of a tuple among the names -/
def plcN (names : List (List Nat)) (q : List Nat) : Nat := (names.findIdx? fun r => decide (r = q)).getD 0
def jvOf (vs names : List (List Nat)) (n : Nat) : List Nat := (List.range n).map fun s => plcN names (shw vs s)
end L2.Gv.Com

set_option Elab.async false
set_option linter.all false
set_option maxRecDepth 100000
set_option maxHeartbeats 1000000
namespace L2.Gv.Com
open PySem PySem.Spec PyProof.Rows L2 L2.Gv
/-! # joined -/
abbrev Pr2 := List Nat × Tb
def prsD (P : List Pr2) : List D := P.map fun p => prD p.1 p.2
def vsOf (P : List Pr2) : List (List Nat) := P.map Prod.fst
def tsOf (P : List Pr2) : List Tb := P.map Prod.snd
/-- pairs that fit -/
structure Fit (n : Nat) (P : List Pr2) : Prop where
  one : 1 ≤ P.length
  four : P.length ≤ 4
  pr : ∀ p ∈ P, ∃ m, Vw p.1 m ∧ p.1.length = n ∧ Sound p.1 m p.2
/-- two states in one part of some table -/
def Lks (P : List Pr2) (a b : Nat) : Prop := Lof (tsOf P) a b
end L2.Gv.Com

set_option Elab.async false
set_option linter.all false
set_option maxRecDepth 100000
set_option maxHeartbeats 1000000
namespace L2.Gv.Com
open PySem PySem.Spec PyProof.Rows L2 L2.Gv
/-! # One write and another -/
/-- a write of the table leads from s to u -/
def ST (T : Tb) (m s u : Nat) : Prop := ∃ x, x < m ∧ ent T s x = some u
section
variable {v : List Nat} {m n : Nat} {T : Tb}
end
/-- two pairs that are independent -/
structure Ind (v w : List Nat) (m k : Nat) (T U : Tb) : Prop where
  t : ∀ s u, s < v.length → ST T m s u → w[u]? = w[s]?
  u : ∀ s u, s < v.length → ST U k s u → v[u]? = v[s]?
  o : ∀ s a b, s < v.length → a < m → b < k → wrT U (wrT T (some s) a) b = wrT T (wrT U (some s) b) a
section
variable {v w : List Nat} {m k : Nat} {T U : Tb} (hv : Vw v m) (hw : Vw w k) (hl : w.length = v.length) (hT : Sound v m T) (hU : Sound w k U) (hI : Ind v w m k T U)
end
theorem get_getD {w : List Nat} {i : Nat} (h : i < w.length) : w[i]? = some (w.getD i 0) := by rw [List.getD_eq_getElem?_getD, List.getElem?_eq_getElem h]; rfl
end L2.Gv.Com

set_option Elab.async false
set_option linter.all false
set_option maxRecDepth 100000
set_option maxHeartbeats 1000000
namespace L2.Gv.Com
open PySem PySem.Spec PyProof.Rows L2 L2.Gv
/-! # Drawn pairs; what joining does, told without lists of links -/
/-! ## what is linked, by a relation -/
inductive LkR (R : Nat → Nat → Prop) : Nat → Nat → Prop
  | refl (a : Nat) : LkR R a a
  | step {a b c : Nat} : LkR R a b → (R b c ∨ R c b) → LkR R a c
theorem LkR.trans {R : Nat → Nat → Prop} {a b c : Nat} (h : LkR R a b) (h2 : LkR R b c) : LkR R a c := by
  induction h2 with
  | refl => exact h
  | step _ e ih => exact .step ih e
/-- two linked states at which all views agree -/
def Cls (P : List Pr2) (n : Nat) : Prop := ∃ a b, a < n ∧ b < n ∧ LkR (Lks P) a b ∧ a ≠ b ∧ shw (vsOf P) a = shw (vsOf P) b
/-- a joined pair -/
structure Jn (P : List Pr2) (n : Nat) (names qs : List (List Nat)) (T : Tb) : Prop where
  nms : Nms (vsOf P) n names
  prt : Prt (jvOf (vsOf P) names n) n qs
  same : ∀ a b, Same qs a b ↔ a < n ∧ b < n ∧ LkR (Lks P) a b
  srt : sortD (pD qs) = some (pD qs)
  tell : Tell (jvOf (vsOf P) names n) names.length (Same qs) T
end L2.Gv.Com

set_option Elab.async false
set_option linter.all false
set_option maxRecDepth 100000
set_option maxHeartbeats 1000000
namespace L2.Gv.Com
open PySem PySem.Spec PyProof.Rows L2 L2.Gv
/-! ## one pair -/
end L2.Gv.Com

set_option Elab.async false
set_option linter.all false
set_option maxRecDepth 100000
set_option maxHeartbeats 1000000
namespace L2.Gv.Com
open PySem PySem.Spec PyProof.Rows L2 L2.Gv
/-- the law's word for what joining gives -/
def Wrd (P : List Pr2) (n : Nat) (r : D) (s : Str) : Prop := (Cls P n ∧ s = Str.ofString "clash") ∨ (¬ Cls P n ∧ ∃ names qs T, r = .tuple [.str (Str.ofString "table"), .tuple (nD (jvOf (vsOf P) names n)), tD T] ∧ Jn P n names qs T ∧ s = PyData.shown (.tuple (pD qs)))
end L2.Gv.Com

set_option Elab.async false
set_option linter.all false
set_option maxRecDepth 100000
set_option maxHeartbeats 1000000
namespace L2.Gv.Com
open PySem PySem.Spec PyProof.Rows L2 L2.Gv
/-! # The law's own way to join -/
def lkB (Ts : List Tb) (a b : Nat) : Bool := Ts.any fun T => ((T[a]?).getD []).contains (some b)
/-- one step more -/
def cmp1 (Ts : List Tb) (n : Nat) (L : List Nat) : List Nat := (List.range n).filter fun x => L.any fun o => lkB Ts o x
def cmpN (Ts : List Tb) (n a : Nat) : Nat → List Nat
  | 0 => [a]
  | i + 1 => cmp1 Ts n (cmpN Ts n a i)
end L2.Gv.Com

set_option Elab.async false
set_option linter.all false
set_option maxRecDepth 100000
set_option maxHeartbeats 1000000
namespace L2.Gv.Com
open PySem PySem.Spec PyProof.Rows L2 L2.Gv
/-! # What the law's components are -/
section
variable {P : List Pr2} {n a : Nat}
end
/-- the law's parts -/
def jpN (P : List Pr2) (n : Nat) : List (List Nat) := dedupN ((List.range n).map fun a => cmpN (tsOf P) n a n)
end L2.Gv.Com

set_option Elab.async false
set_option linter.all false
set_option maxRecDepth 100000
set_option maxHeartbeats 1000000
namespace L2.Gv.Com
open PySem PySem.Spec PyProof.Rows L2 L2.Gv
def agB (vs : List (List Nat)) (a b : Nat) : Bool := vs.all fun v => decide (v.getD a 0 = v.getD b 0)
/-- a clash in a part -/
def NoC (vs : List (List Nat)) (q : List Nat) : Prop := ∀ a ∈ q, ∀ b ∈ q, a ≠ b → agB vs a b = false
end L2.Gv.Com

set_option Elab.async false
set_option linter.all false
set_option maxRecDepth 100000
set_option maxHeartbeats 1000000
namespace L2.Gv.Com
open PySem PySem.Spec PyProof.Rows L2 L2.Gv
end L2.Gv.Com

set_option Elab.async false
set_option linter.all false
set_option maxRecDepth 100000
set_option maxHeartbeats 1000000
namespace L2.Gv.Com
open PySem PySem.Spec PyProof.Rows L2 L2.Gv
/-! # Traces without a state twice -/
def ext1 (Ts : List Tb) (n : Nat) (q : List Nat) (m : Nat) : List (List Nat) := ((List.range m).filter fun x => !q.contains x && lkB Ts (q.getLastD 0) x).map fun x => q ++ [x]
def lng (Ts : List Tb) (n : Nat) (ts : List (List Nat)) : List (List Nat) := ts.flatMap fun q => ext1 Ts n q n
def lays (Ts : List Tb) (n : Nat) : Nat → List (List Nat)
  | 0 => (List.range n).map fun s => [s]
  | k + 1 => lng Ts n (lays Ts n k)
inductive Wk (R : Nat → Nat → Prop) (n : Nat) : List Nat → Nat → Prop
  | one {a : Nat} : a < n → Wk R n [a] a
  | more {q : List Nat} {b c : Nat} : Wk R n q b → R b c → c < n → c ∉ q → Wk R n (q ++ [c]) c
section
variable {R : Nat → Nat → Prop} {n : Nat}
theorem Wk.pos {q : List Nat} {b : Nat} (h : Wk R n q b) : 1 ≤ q.length := by
  cases h with
  | one _ => exact Nat.le_refl 1
  | more _ _ _ _ => rw [List.length_append]; simp
theorem Wk.last {q : List Nat} {b : Nat} (h : Wk R n q b) : q.getLastD 0 = b := by
  cases h with
  | one _ => rfl
  | more _ _ _ _ => rw [List.getLastD_eq_getLast?, List.getLast?_append]; rfl
theorem Wk.mem {q : List Nat} {b : Nat} (h : Wk R n q b) : b ∈ q := by
  cases h with
  | one _ => exact List.mem_singleton.mpr rfl
  | more _ _ _ _ => exact List.mem_append.mpr (.inr (List.mem_singleton.mpr rfl))
theorem Wk.lt {q : List Nat} {b : Nat} (h : Wk R n q b) : ∀ x ∈ q, x < n := by
  induction h with
  | one ha => intro x hx; rw [List.mem_singleton.mp hx]; exact ha
  | more _ _ hc _ ih =>
    intro x hx
    rcases List.mem_append.mp hx with hx | hx
    · exact ih x hx
    · rw [List.mem_singleton.mp hx]; exact hc
theorem Wk.nd {q : List Nat} {b : Nat} (h : Wk R n q b) : q.Nodup := by
  induction h with
  | one _ => simp
  | more _ _ _ hc ih =>
    rw [List.nodup_append]
    exact ⟨ih, by simp, fun a ha b hb z => hc (by rw [List.mem_singleton.mp hb] at z; rw [← z]; exact ha)⟩
end
/-! ## and the program's traces -/
section
variable {P : List Pr2} {n : Nat} {ls : List (Nat × Nat)}
end
end L2.Gv.Com

set_option Elab.async false
set_option linter.all false
set_option maxRecDepth 100000
set_option maxHeartbeats 1000000
namespace L2.Gv.Com
open PySem PySem.Spec PyProof.Rows L2 L2.Gv
end L2.Gv.Com

set_option Elab.async false
set_option linter.all false
set_option maxRecDepth 100000
set_option maxHeartbeats 1000000
namespace L2.Gv.Com
open PySem PySem.Spec PyProof.Rows L2 L2.Gv
def goodB (vs : List (List Nat)) (q : List Nat) : Bool := agB vs (q.getD 0 0) (q.getLastD 0)
end L2.Gv.Com

set_option Elab.async false
set_option linter.all false
set_option maxRecDepth 100000
set_option maxHeartbeats 1000000
namespace L2.Gv.Com
open PySem PySem.Spec PyProof.Rows L2 L2.Gv
/-! # Wishes -/
abbrev W3 := Nat × Nat × Option Nat
def wD (w : W3) : D := .tuple [.int w.1, .int w.2.1, oD w.2.2]
/-- wishes in range -/
structure WsOk (n m : Nat) (ws : List W3) : Prop where
  few : ws.length ≤ 20
  st : ∀ w ∈ ws, w.1 < n
  vl : ∀ w ∈ ws, w.2.1 < m
  rs : ∀ w ∈ ws, ∀ e, w.2.2 = some e → e < n
/-- the links of wishes -/
def wLs (ws : List W3) : List (Nat × Nat) := ws.filterMap fun w => w.2.2.map fun e => (w.1, e)
/-- the state of a wish does not show its value -/
def unB (v : List Nat) (w : W3) : Bool := match w.2.2 with
  | none => false
  | some e => !decide (v.getD e 0 = w.2.1)
end L2.Gv.Com

set_option Elab.async false
set_option linter.all false
set_option maxRecDepth 100000
set_option maxHeartbeats 1000000
namespace L2.Gv.Com
open PySem PySem.Spec PyProof.Rows L2 L2.Gv
end L2.Gv.Com

set_option Elab.async false
set_option linter.all false
set_option maxRecDepth 100000
set_option maxHeartbeats 1000000
namespace L2.Gv.Com
open PySem PySem.Spec PyProof.Rows L2 L2.Gv
end L2.Gv.Com

set_option Elab.async false
set_option linter.all false
set_option maxRecDepth 100000
set_option maxHeartbeats 1000000
-- GENF
local macro_rules | `(tactic| walk_at "wp") => `(tactic| (repeat' first | refine L2.Gv.ws_seq ?_ | refine L2.Gv.Nx.nx ?_ | refine L2.Gv.Nx.rt ?_ | refine L2.Gv.Nx.bk ?_ | refine L2.Gv.Nx.ct ?_ | refine L2.Gv.Turn.nx ?_ | refine L2.Gv.Turn.ct ?_ | refine L2.Gv.Turn.bk ?_ | refine L2.Gv.Turn.rt ?_ | refine L2.Gv.End.nx ?_ | refine L2.Gv.End.rt ?_ | refine L2.Gv.ws_asg ?_ | refine L2.Gv.ws_ret ?_ | refine L2.Gv.ws_ifs ?_ | refine L2.Gv.ws_for ?_ | refine L2.Gv.ws_nil ?_ | refine L2.Gv.ws_exp ?_ | refine L2.Gv.ws_app rfl ?_ | refine L2.Gv.ws_ext rfl ?_ | refine L2.Gv.ws_setI ?_ | refine L2.Gv.ws_setII ?_ | refine L2.Gv.ws_asgP ?_ | refine L2.Gv.ws_par ?_ | refine L2.Gv.ws_pass ?_ | refine L2.Gv.ws_brk ?_ | refine L2.Gv.ws_cnt ?_ | refine L2.Gv.ws_rais ?_ | refine L2.Gv.ws_tryN ?_ | refine L2.Gv.ws_asgL ?_ | refine L2.Gv.ws_mat ?_ | refine L2.Gv.ws_tryR ?_ | refine L2.Gv.w_two ?_ | refine L2.Gv.w_callk rfl ?_ | refine L2.Gv.ws_parM ?_ | refine L2.Gv.ws_par3 ?_ | refine L2.Gv.ws_dput ?_ | refine L2.Gv.ws_sda rfl ?_ | refine L2.Gv.ws_appI rfl ?_ | refine L2.Gv.w_dsp0 ?_ | refine L2.Gv.w_dspS ?_ | refine L2.Gv.w_dsp1 ?_ | refine L2.Gv.w_lkv rfl ?_ | refine L2.Gv.w_lkvs rfl ?_ | refine L2.Gv.w_lkvi rfl ?_ | refine L2.Gv.w_vdin ?_ | refine L2.Gv.w_vdget rfl ?_ | refine L2.Gv.w_vdgt rfl ?_ | refine L2.Gv.w_isT ?_ | refine L2.Gv.w_vne rfl ?_ | refine L2.Gv.wi_itm ?_ | refine L2.Gv.wi_vls ?_ | refine L2.Gv.w_var rfl ?_ | refine L2.Gv.w_varl rfl ?_ | refine L2.Gv.w_varm rfl ?_ | refine L2.Gv.w_mov rfl ?_ | refine L2.Gv.w_movl rfl ?_ | refine L2.Gv.w_movm rfl ?_ | refine L2.Gv.w_movd rfl ?_ | refine L2.Gv.w_movs rfl ?_ | refine L2.Gv.w_con ?_ | refine L2.Gv.w_glb ?_ | refine L2.Gv.w_tup ?_ | refine L2.Gv.w_lst ?_ | refine L2.Gv.w_bin ?_ | refine L2.Gv.w_neg ?_ | refine L2.Gv.wb ?_ | refine L2.Gv.w_not ?_ | refine L2.Gv.w_and ?_ | refine L2.Gv.w_or ?_ | refine L2.Gv.wand1 ?_ | refine L2.Gv.wand2 ?_ | refine L2.Gv.wor1 ?_ | refine L2.Gv.wor2 ?_ | refine L2.Gv.w_ifx ?_ | refine L2.Gv.w_cmp ?_ | refine L2.Gv.w_chn ?_ | refine L2.Gv.w_isN ?_ | refine L2.Gv.w_notN ?_ | refine L2.Gv.w_idx ?_ | refine L2.Gv.w_slc ?_ | refine L2.Gv.w_vidx rfl ?_ | refine L2.Gv.w_vlen rfl ?_ | refine L2.Gv.w_vlenm rfl ?_ | refine L2.Gv.w_call rfl ?_ | refine L2.Gv.w_cio rfl rfl ?_ | refine L2.Gv.w_cit rfl ?_ | refine L2.Gv.w_bi ?_ | refine L2.Gv.w_lrng ?_ | refine L2.Gv.w_trg ?_ | refine L2.Gv.w_sumv ?_ | refine L2.Gv.w_lstv ?_ | refine L2.Gv.w_isi ?_ | refine L2.Gv.w_mth ?_ | refine L2.Gv.w_rev ?_ | refine L2.Gv.w_vmth rfl ?_ | refine L2.Gv.w_vpop rfl ?_ | refine L2.Gv.w_vin ?_ | refine L2.Gv.w_lc ?_ | refine L2.Gv.wa_nil ?_ | refine L2.Gv.wa_cons ?_ | refine L2.Gv.wc_nil ?_ | refine L2.Gv.wc_one ?_ | refine L2.Gv.wi_seq ?_ | refine L2.Gv.wi_enm ?_ | refine L2.Gv.wi_zip ?_ | refine L2.Gv.wi_rng ?_ | refine L2.Gv.Com.item_i ?_ | refine L2.Gv.w_call (by with_reducible assumption) ?_ | refine L2.Gv.w_callk (by with_reducible assumption) ?_ | ((with_reducible apply L2.Gv.Com.ex_ne); rfl; rfl) | ((with_reducible apply L2.Gv.Com.ex_eq); rfl; rfl) | ((with_reducible apply L2.Gv.Com.ex_lt); rfl; rfl) | ((with_reducible apply L2.Gv.Com.ex_le); rfl; rfl) | ((with_reducible apply L2.Gv.Com.ex_gt); rfl; rfl) | ((with_reducible apply L2.Gv.Com.ex_ge); rfl; rfl) | ((with_reducible apply L2.Gv.Com.ex_neo); rfl; rfl) | ((with_reducible apply L2.Gv.Com.ex_eqo); rfl; rfl) | ((with_reducible apply L2.Gv.Com.ex_addl1); rfl; rfl) | ((with_reducible apply L2.Gv.Com.ex_addl2); rfl; rfl) | ((with_reducible apply L2.Gv.Com.ex_addl7); rfl; rfl) | ((with_reducible apply L2.Gv.Com.ex_addr1); rfl; rfl) | ((with_reducible apply L2.Gv.Com.ex_addr2); rfl; rfl) | ((with_reducible apply L2.Gv.Com.ex_addr7); rfl; rfl) | ((with_reducible apply L2.Gv.Com.ex_add); rfl; rfl) | ((with_reducible apply L2.Gv.Com.ex_mul); rfl; rfl; omega) | ((with_reducible apply L2.Gv.Com.ex_n); rfl; rfl; (with_reducible assumption)) | ((with_reducible apply L2.Gv.Com.ex_t); rfl; rfl; (with_reducible assumption)) | ((with_reducible apply L2.Gv.Com.ex_r); rfl; rfl; (with_reducible assumption)) | ((with_reducible apply L2.Gv.Com.ex_p); rfl; rfl; (with_reducible assumption)) | ((with_reducible apply L2.Gv.Com.ex_nl); rfl; rfl; (with_reducible assumption)) | ((with_reducible apply L2.Gv.Com.ex_pl); rfl; rfl; (with_reducible assumption)) | refine Exists.intro _ (And.intro rfl ?_) | refine Exists.intro _ (Exists.intro _ (And.intro rfl (And.intro rfl ?_))) | refine And.intro (Exists.intro _ rfl) ?_ | refine L2.Gv.and_t rfl ?_ | refine L2.Gv.and_f rfl ?_ | refine L2.Gv.and_t' rfl ?_ | refine L2.Gv.and_f' rfl ?_))
namespace L2.Gv.Com
open PySem PySem.Spec PyProof.Rows L2 L2.Gv
theorem fr_at {F : Fn} {A B : List M} {m q : M} {Q : M → M → Prop} {X : Exn → M → Prop} (h : F.sem B = .ok m q) (e : A = B) (hq : Q m q) : FR (F.sem A) Q X := by
  subst e
  exact fr_of h hq
/-- wishes that a sound table grants -/
def Grt (T : Tb) (ws : List W3) : Prop := ∀ w ∈ ws, ent T w.1 w.2.1 = w.2.2
abbrev sbG (v : List Nat) (ws : List W3) (a2 a3 a4 a5 a6 : Option M) : Sl := [some (.im (.tuple (nD v))), some (.im (.tuple (ws.map wD))), a2, a3, a4, a5, a6]
end L2.Gv.Com

set_option Elab.async false
set_option linter.all false
set_option maxRecDepth 100000
set_option maxHeartbeats 1000000
-- GENF
namespace L2.Gv.Com
open PySem PySem.Spec PyProof.Rows L2 L2.Gv
end L2.Gv.Com

set_option Elab.async false
set_option linter.all false
set_option maxRecDepth 100000
set_option maxHeartbeats 1000000
-- GENF
namespace L2.Gv.Com
open PySem PySem.Spec PyProof.Rows L2 L2.Gv
/-! # Wishes drawn from a table -/
theorem filt_nD (f : Nat → Bool) : ∀ xs : List Nat, xs.filterMap (fun x => if f x = true then some (PyData.int (x : Nat)) else none) = nD (xs.filter f)
  | [] => rfl
  | a :: r => by
    rw [List.filterMap_cons, List.filter_cons]
    cases h : f a with
    | true => simp only [if_true]; rw [filt_nD f r]; rfl
    | false => simp only [Bool.false_eq_true, if_false]; exact filt_nD f r
end L2.Gv.Com

set_option Elab.async false
set_option linter.all false
set_option maxRecDepth 100000
set_option maxHeartbeats 1000000
-- GENF
namespace L2.Gv.Com
open PySem PySem.Spec PyProof.Rows L2 L2.Gv
/-! # Contradicted refusals -/
abbrev R2 := Nat × List Nat
def encR (e : R2) : D := .tuple [.int e.2.length, .int e.1, .tuple (nD e.2)]
def LeR (e f : R2) : Prop := e.2.length < f.2.length ∨ (e.2.length = f.2.length ∧ (e.1 < f.1 ∨ (e.1 = f.1 ∧ (e.2 < f.2 ∨ e.2 = f.2))))
def ltR (e f : R2) : Prop := e.2.length < f.2.length ∨ (e.2.length = f.2.length ∧ (e.1 < f.1 ∨ (e.1 = f.1 ∧ e.2 < f.2)))
theorem LeR.refl (e : R2) : LeR e e := .inr ⟨rfl, .inr ⟨rfl, .inr rfl⟩⟩
theorem LeR.trans {e f g : R2} (h : LeR e f) (k : LeR f g) : LeR e g := by
  rcases h with h | ⟨h, h'⟩
  · rcases k with k | ⟨k, _⟩
    · exact .inl (by omega)
    · exact .inl (by omega)
  · rcases k with k | ⟨k, k'⟩
    · exact .inl (by omega)
    · refine .inr ⟨h.trans k, ?_⟩
      rcases h' with h' | ⟨h', h2⟩
      · rcases k' with k' | ⟨k', _⟩
        · exact .inl (by omega)
        · exact .inl (by omega)
      · rcases k' with k' | ⟨k', k2⟩
        · exact .inl (by omega)
        · refine .inr ⟨h'.trans k', ?_⟩
          rcases h2 with h2 | h2
          · rcases k2 with k2 | k2
            · exact .inl (lt_tr h2 k2)
            · exact .inl (by rw [← k2]; exact h2)
          · rw [h2]; exact k2
/-- a contradicted refusal -/
def RT (v : List Nat) (near : List (List Nat)) (ws : List W3) (e : R2) : Prop := ∃ s x b, ws[e.1]? = some (s, x, none) ∧ Tr near s e.2 b ∧ v.getD b 0 = x
def oR : Option R2 → D
  | none => .none
  | some e => .tuple [.int e.1, .tuple (nD e.2)]
end L2.Gv.Com

set_option Elab.async false
set_option linter.all false
set_option maxRecDepth 100000
set_option maxHeartbeats 1000000
-- GENF
namespace L2.Gv.Com
open PySem PySem.Spec PyProof.Rows L2 L2.Gv
/-! # What smallest tells -/
abbrev wNear (v : List Nat) (ws : List W3) : List (List Nat) := nearOf v.length (wLs ws)
def sD (s : String) : D := .str (Str.ofString s)
inductive SmOut (v : List Nat) (m : Nat) (ws : List W3) : D → Prop
  | shown (i : Nat) (w : W3) (hi : ws[i]? = some w) (h : unB v w = true) (hb : ∀ (j : Nat) (w' : W3), j < i → ws[j]? = some w' → unB v w' = false) : SmOut v m ws (.tuple [sD "shown", .int i])
  | twice (p : List Nat) (h0 : ∀ w ∈ ws, unB v w = false) (h1 : CT [v] (wNear v ws) v.length p) (h2 : ∀ q, CT [v] (wNear v ws) v.length q → LeT p q) : SmOut v m ws (.tuple [sD "twice", .tuple (nD p)])
  | refused (e : R2) (h0 : ∀ w ∈ ws, unB v w = false) (h1 : ∀ q, ¬ CT [v] (wNear v ws) v.length q) (h2 : RT v (wNear v ws) ws e) (h3 : ∀ f, RT v (wNear v ws) ws f → LeR e f) : SmOut v m ws (.tuple [sD "refused", .int e.1, .tuple (nD e.2)])
  | table (qs : List (List Nat)) (T : Tb) (h0 : ∀ w ∈ ws, unB v w = false) (h1 : ∀ q, ¬ CT [v] (wNear v ws) v.length q) (h2 : ∀ e, ¬ RT v (wNear v ws) ws e) (hP : Prt v v.length qs) (hS : ∀ a b, Same qs a b ↔ a < v.length ∧ b < v.length ∧ Lk (wLs ws) a b) (hso : sortD (pD qs) = some (pD qs)) (hT : Tell v m (Same qs) T) : SmOut v m ws (.tuple [sD "table", tD T])
end L2.Gv.Com

set_option Elab.async false
set_option linter.all false
set_option maxRecDepth 100000
set_option maxHeartbeats 1000000
-- GENF
namespace L2.Gv.Com
open PySem PySem.Spec PyProof.Rows L2 L2.Gv
/-! # A told table is known -/
theorem row_eq {T : Tb} {n m a b : Nat} {r r' : List (Option Nat)} (h : Shp T n m) (ha : a < n) (hb : b < n) (ga : T[a]? = some r) (gb : T[b]? = some r') (he : ∀ y, y < m → ent T a y = ent T b y) : r = r' := by
  obtain ⟨r1, g1, l1, f1⟩ := h.get ha
  obtain ⟨r2, g2, l2, f2⟩ := h.get hb
  rw [g1] at ga
  rw [g2] at gb
  cases ga
  cases gb
  apply List.ext_getElem?
  intro y
  by_cases hy : y < m
  · rw [f1 y hy, f2 y hy, he y hy]
  · rw [List.getElem?_eq_none (by omega), List.getElem?_eq_none (by omega)]
theorem law_sound_ok {v : List Nat} {m : Nat} {T : Tb} (hv : Vw v m) (hT : Sound v m T) : F__law_sound.sem [.im (.tuple (nD v)), .im (tD T)] = .ok (.im (.bool true)) (.im .none) := by
  have nine := hv.nine
  have le := hv.le
  have hV : @List.length PyData (nD v) = v.length := nD_length v
  refine fn_eq rfl ?_
  unfold c__law_sound
  walk_at "wp"
  rw [hV]
  refine ⟨by omega, ?_⟩
  refine lf_rng (fun i Γ => ∃ a2 a3 a4, Γ = [some (.im (.tuple (nD v))), some (.im (tD T)), a2, a3, a4]) ⟨_, _, _, rfl⟩ (fun i Γ hi ⟨a2, a3, a4, eΓ⟩ => ?_) fun Γ ⟨a2, a3, a4, eΓ⟩ => ?_
  · subst eΓ
    obtain ⟨r, g1, l1, f1⟩ := hT.shp.get hi
    have gv := get_getD hi
    have hx := hv.lt _ (List.mem_of_getElem? gv)
    have fx := f1 _ hx
    rw [hT.stay i _ gv] at fx
    refine ⟨_, rfl, ?_⟩
    walk_at "wp"
    refine ⟨fun c => absurd c (by simp), fun _ => ?_⟩
    walk_at "wp"
    have hR : @List.length PyData (rD r) = m := (List.length_map _).trans l1
    rw [hR]
    refine ⟨by omega, ?_⟩
    refine lf_rng (fun j Γ => ∃ a3 a4, Γ = [some (.im (.tuple (nD v))), some (.im (tD T)), some (.im (.int i)), a3, a4]) ⟨_, _, rfl⟩ (fun x Γ hx ⟨a3, a4, eΓ⟩ => ?_) fun Γ ⟨a3, a4, eΓ⟩ => ?_
    · subst eΓ
      have fx := f1 x hx
      refine ⟨_, rfl, ?_⟩
      cases he : ent T i x with
      | none =>
        rw [he] at fx
        walk_at "wp"
        exact ⟨_, _, rfl⟩
      | some e =>
        rw [he] at fx
        have ge := hT.shown i x e hi hx he
        have hel := get_len ge
        obtain ⟨r', g2, l2, f2⟩ := hT.shp.get hel
        have hrr := row_eq hT.shp hel hi g2 g1 (fun y hy => hT.forget i x e hi hx he y hy)
        subst hrr
        walk_at "wp"
        refine ⟨fun c => absurd c (by simp), fun _ => ?_⟩
        walk_at "wp"
        refine ⟨_, ne_f (k := 1) (itmk_tup (itmk_rD _)) (itmk_tup (itmk_rD _)) (by omega) rfl, ?_⟩
        walk_at "wp"
        exact ⟨_, _, rfl⟩
    · subst eΓ
      walk_at "wp"
      exact ⟨_, _, _, rfl⟩
  · subst eΓ
    walk_at "wp"
    rfl
theorem max_nat {v : List Nat} {m : Nat} (hv : Vw v m) : ∃ m' : Nat, m = m' + 1 ∧ biD .max [.tuple (nD v)] = some (.im (.int (m' : Nat))) := by
  have h := biMax_view hv
  have h1 := hv.pos
  refine ⟨m - 1, by omega, ?_⟩
  rw [show biD .max [.tuple (nD v)] = biMax [.tuple (nD v)] from rfl, h, show ((m : Int) - 1) = ((m - 1 : Nat) : Int) by omega]
end L2.Gv.Com

set_option Elab.async false
set_option linter.all false
set_option maxRecDepth 100000
set_option maxHeartbeats 1000000
-- GENF
namespace L2.Gv.Com
open PySem PySem.Spec PyProof.Rows L2 L2.Gv
/-! # Wishes and their links, plainly -/
end L2.Gv.Com

set_option Elab.async false
set_option linter.all false
set_option maxRecDepth 100000
set_option maxHeartbeats 1000000
-- GENF
namespace L2.Gv.Com
open PySem PySem.Spec PyProof.Rows L2 L2.Gv
/-! # The law's own links -/
def nearApp (near : List (List Nat)) (s e : Nat) : List (List Nat) := near.set s (near.getD s [] ++ [e])
/-- the law's links: who is next to whom -/
structure Nb (n : Nat) (ws : List W3) (near : List (List Nat)) : Prop where
  len : near.length = n
  nr : ∀ a b, Nr near a b ↔ a ≠ b ∧ ((a, b) ∈ wLs ws ∨ (b, a) ∈ wLs ws)
  few : ∀ l ∈ near, l.length ≤ 2 * ws.length
end L2.Gv.Com

set_option Elab.async false
set_option linter.all false
set_option maxRecDepth 100000
set_option maxHeartbeats 1000000
-- GENF
namespace L2.Gv.Com
open PySem PySem.Spec PyProof.Rows L2 L2.Gv
/-! # A trace is looked at step by step -/
theorem Tr.last {near : List (List Nat)} {s t : Nat} {p : List Nat} (h : Tr near s p t) : p.getLast? = some t := by
  cases h with
  | one => rfl
  | more _ _ => simp
theorem Tr.first {near : List (List Nat)} {s t : Nat} {p : List Nat} (h : Tr near s p t) : p[0]? = some s := by
  induction h with
  | one => rfl
  | @more p b c h _ ih => rw [List.getElem?_append_left (by have := h.pos; omega)]; exact ih
theorem Tr.nbr {near : List (List Nat)} {s t : Nat} {p : List Nat} (h : Tr near s p t) : ∀ (i a b : Nat), p[i]? = some a → p[i + 1]? = some b → Nr near a b := by
  induction h with
  | one => intro i a b _ h2; simp at h2
  | @more p b c h hn ih =>
    intro i x y h1 h2
    by_cases k : i + 1 < p.length
    · rw [List.getElem?_append_left (by omega)] at h1
      rw [List.getElem?_append_left k] at h2
      exact ih i x y h1 h2
    · have hi : i + 1 = p.length := by
        have := get_len h2
        rw [List.length_append] at this
        simp at this; omega
      rw [List.getElem?_append_left (by omega)] at h1
      rw [List.getElem?_append_right (by omega), hi] at h2
      simp at h2
      have hl := h.last
      rw [List.getLast?_eq_getElem?, show p.length - 1 = i by omega, h1] at hl
      cases hl
      rw [← h2]; exact hn
theorem Tr.zip {near : List (List Nat)} {s t : Nat} {p : List Nat} (h : Tr near s p t) : ∀ e ∈ p.zip p.tail, Nr near e.1 e.2 := fun e he => by
  obtain ⟨i, hi⟩ := List.getElem?_of_mem he
  obtain ⟨h1, h2⟩ := List.getElem?_zip_eq_some.mp hi
  rw [List.getElem?_tail] at h2
  exact h.nbr i _ _ h1 h2
end L2.Gv.Com

set_option Elab.async false
set_option linter.all false
set_option maxRecDepth 100000
set_option maxHeartbeats 1000000
-- GENF
namespace L2.Gv.Com
open PySem PySem.Spec PyProof.Rows L2 L2.Gv
/-! # A view with values numbered anew -/
end L2.Gv.Com

set_option Elab.async false
set_option linter.all false
set_option maxRecDepth 100000
set_option maxHeartbeats 1000000
-- GENF
namespace L2.Gv.Com
open PySem PySem.Spec PyProof.Rows L2 L2.Gv
/-! # A law over the views that each of up to three cells gives -/
end L2.Gv.Com

set_option Elab.async false
set_option linter.all false
set_option maxRecDepth 100000
set_option maxHeartbeats 1000000
-- GENF
namespace L2.Gv.Com
open PySem PySem.Spec PyProof.Rows L2 L2.Gv
/-! # Wishes granted; tables within tables -/
def grB (T : Tb) (w : W3) : Bool := decide (ent T w.1 w.2.1 = w.2.2)
end L2.Gv.Com

set_option Elab.async false
set_option linter.all false
set_option maxRecDepth 100000
set_option maxHeartbeats 1000000
-- GENF
namespace L2.Gv.Com
open PySem PySem.Spec PyProof.Rows L2 L2.Gv
/-! # All tables of partitions, state by state -/
theorem tup_add {xs ys : List D} (h : xs.length + ys.length < 100000) : binD .Add (.tuple xs) (.tuple ys) = some (.im (.tuple (xs ++ ys))) := by
  show (if lineOk (xs.length + ys.length) = true then some (M.im (.tuple (xs ++ ys))) else none) = _
  rw [if_pos (by unfold lineOk; rw [Nat.ble_eq]; omega)]
def tpD (ps : List (List Nat)) : D := .tuple (pD ps)
theorem set_parts {ps : List (List Nat)} {z : Nat} {q : List Nat} (hz : z < ps.length) : ps.take z ++ [q] ++ ps.drop (z + 1) = ps.set z q := by
  rw [List.set_eq_take_append_cons_drop, if_pos hz, List.append_assoc]; rfl
theorem pD_take (ps : List (List Nat)) (z : Nat) : (pD ps).take z = pD (ps.take z) := by unfold pD; rw [List.map_take]
theorem pD_drop (ps : List (List Nat)) (z : Nat) : (pD ps).drop z = pD (ps.drop z) := by unfold pD; rw [List.map_drop]
theorem pD_app (a b : List (List Nat)) : pD a ++ pD b = pD (a ++ b) := by unfold pD; rw [List.map_append]
end L2.Gv.Com

set_option Elab.async false
set_option linter.all false
set_option maxRecDepth 100000
set_option maxHeartbeats 1000000
-- GENF
namespace L2.Gv.Com
open PySem PySem.Spec PyProof.Rows L2 L2.Gv
/-! # A table's entries as wishes; writes that link each part -/
end L2.Gv.Com

set_option Elab.async false
set_option linter.all false
set_option maxRecDepth 100000
set_option maxHeartbeats 1000000
-- GENF
namespace L2.Gv.Com
open PySem PySem.Spec PyProof.Rows L2 L2.Gv
/-! # Writes that link each part -/
end L2.Gv.Com

set_option Elab.async false
set_option linter.all false
set_option maxRecDepth 100000
set_option maxHeartbeats 1000000
namespace L2.Gv.Com
open PySem PySem.Spec PyProof.Rows L2 L2.Gv
/-! # Traces, layer by layer, in any order within a layer -/
abbrev Fd := List (Nat × List Nat)
structure LyU (near : List (List Nat)) (s k : Nat) (f L : Fd) : Prop where
  nd : (f.map Prod.fst).Nodup
  best : ∀ t p, (t, p) ∈ f → Best near s p t
  sub : ∀ e ∈ L, e ∈ f
  len : ∀ e ∈ L, e.2.length = k + 1
  low : ∀ e ∈ f, e.2.length ≤ k + 1
  top : ∀ e ∈ f, e.2.length = k + 1 → e ∈ L
  all : ∀ t q, Tr near s q t → q.length ≤ k + 1 → ∃ p, (t, p) ∈ f
/-- the next layer -/
structure LyN (near : List (List Nat)) (f L g : Fd) : Prop where
  nd : (g.map Prod.fst).Nodup
  new : ∀ e ∈ g, e.1 ∉ f.map Prod.fst
  src : ∀ e ∈ g, ∃ b p, (b, p) ∈ L ∧ Nr near b e.1 ∧ e.2 = p ++ [e.1]
  all : ∀ b p o, (b, p) ∈ L → Nr near b o → o ∉ f.map Prod.fst → ∃ q, (o, q) ∈ g ∧ (q < p ++ [o] ∨ q = p ++ [o])
/-- a value put anew -/
def upd (g : Fd) (o : Nat) (q : List Nat) : Fd := g.map fun e => if e.1 = o then (o, q) else e
end L2.Gv.Com

set_option Elab.async false
set_option linter.all false
set_option maxRecDepth 100000
set_option maxHeartbeats 1000000
-- GENF
namespace L2.Gv.Com
open PySem PySem.Spec PyProof.Rows L2 L2.Gv
/-! # The law's own lines -/
/-- the next layer, partly made -/
structure LyP (near : List (List Nat)) (f L : Fd) (done : Nat → List Nat → Nat → Prop) (g : Fd) : Prop where
  nd : (g.map Prod.fst).Nodup
  new : ∀ e ∈ g, e.1 ∉ f.map Prod.fst
  src : ∀ e ∈ g, ∃ b p, (b, p) ∈ L ∧ Nr near b e.1 ∧ e.2 = p ++ [e.1]
  all : ∀ b p o, done b p o → o ∉ f.map Prod.fst → ∃ q, (o, q) ∈ g ∧ (q < p ++ [o] ∨ q = p ++ [o])
end L2.Gv.Com

set_option Elab.async false
set_option linter.all false
set_option maxRecDepth 100000
set_option maxHeartbeats 1000000
-- GENF
namespace L2.Gv.Com
open PySem PySem.Spec PyProof.Rows L2 L2.Gv
end L2.Gv.Com

set_option Elab.async false
set_option linter.all false
set_option maxRecDepth 100000
set_option maxHeartbeats 1000000
-- GENF
namespace L2.Gv.Com
open PySem PySem.Spec PyProof.Rows L2 L2.Gv
/-! # Parts that wishes link, from each state that is not taken -/
def c_wjp : Sm := (.seq (.par3 2 3 4 (.call (Str.ofString "_law_links") F__law_links (.cons (.var 0) (.cons (.var 1) .nil))) (.lst .nil) (.lst .nil)) (.seq (.for (.nm 5) (.rng (.cons (.var 0) .nil)) (.seq (.ifs (.cmp .NotIn (.var 5) (.var 4)) (.seq (.asg 6 (.bi .sorted (.cons (.bi .list (.cons (.lk (.call (Str.ofString "_law_lines") F__law_lines (.cons (.var 2) (.cons (.var 5) .nil)))) .nil)) .nil))) (.seq (.app 3 (.bi .tuple (.cons (.var 6) .nil))) (.seq (.asg 4 (.bin .Add (.var 4) (.var 6))) .nil))) .nil) .nil)) (.seq (.ret (.bi .tuple (.cons (.var 3) .nil))) .nil)))
def F_wjp : Fn := mkFn false 2 7 c_wjp
/-- classes so far -/
structure Cla (n : Nat) (ls : List (Nat × Nat)) (i : Nat) (qs : List (List Nat)) (tk : List Nat) : Prop where
  mem : ∀ t, t ∈ tk ↔ ∃ q ∈ qs, t ∈ q
  all : ∀ s, s < i → s ∈ tk
  cls : ∀ q ∈ qs, ∃ a, a < n ∧ a ∈ q ∧ ∀ b, b ∈ q ↔ Lk ls a b
  asc : ∀ q ∈ qs, q.Pairwise (· < ·)
  dis : qs.Pairwise fun q r => ∀ x, x ∈ q → x ∉ r
  few : qs.length ≤ i
end L2.Gv.Com

set_option Elab.async false
set_option linter.all false
set_option maxRecDepth 100000
set_option maxHeartbeats 1000000
-- GENF
namespace L2.Gv.Com
open PySem PySem.Spec PyProof.Rows L2 L2.Gv
/-! # Refusals of a table -/
end L2.Gv.Com

set_option Elab.async false
set_option linter.all false
set_option maxRecDepth 100000
set_option maxHeartbeats 1000000
-- GENF
namespace L2.Gv.Com
open PySem PySem.Spec PyProof PyProof.Rows L2 L2.Gv
/-! # Lists that show; wishes that show -/
end L2.Gv.Com

set_option Elab.async false
set_option linter.all false
set_option maxRecDepth 100000
set_option maxHeartbeats 1000000
-- GENF
namespace L2.Gv.Com
open PySem PySem.Spec PyProof.Rows L2 L2.Gv
/-! # Any wishes; wishes in a row -/
def InR (n m : Nat) (w : W3) : Prop := w.1 < n ∧ w.2.1 < m ∧ ∀ e, w.2.2 = some e → e < n
end L2.Gv.Com

set_option Elab.async false
set_option linter.all false
set_option maxRecDepth 100000
set_option maxHeartbeats 1000000
namespace L2.Gv.Com
open PySem PySem.Spec PyProof.Rows L2 L2.Gv
/-! # What smallest tells is one thing; of wishes in another order, of wishes told twice -/
section
variable {v : List Nat} {m : Nat} {ws us : List W3}
/-- the same kind -/
inductive Kin : D → D → Prop
  | shown (i j : Nat) : Kin (.tuple [sD "shown", .int i]) (.tuple [sD "shown", .int j])
  | twice (p : List Nat) : Kin (.tuple [sD "twice", .tuple (nD p)]) (.tuple [sD "twice", .tuple (nD p)])
  | refused (i j : Nat) (p q : List Nat) (h : p.length = q.length) : Kin (.tuple [sD "refused", .int i, .tuple (nD p)]) (.tuple [sD "refused", .int j, .tuple (nD q)])
  | table (T : Tb) : Kin (.tuple [sD "table", tD T]) (.tuple [sD "table", tD T])
end
end L2.Gv.Com

set_option Elab.async false
set_option linter.all false
set_option maxRecDepth 100000
set_option maxHeartbeats 1000000
-- GENF
namespace L2.Gv.Com
open PySem PySem.Spec PyProof.Rows L2 L2.Gv
/-! # What smallest tells is small; whether two answers are alike -/
/-- what smallest tells, with its sizes -/
inductive SmI (v : List Nat) (m : Nat) : D → Prop
  | shown (i : Nat) (h : i < 40) : SmI v m (.tuple [sD "shown", .int i])
  | twice (p : List Nat) (h : p.length ≤ 9) (hp : ∀ a ∈ p, a < 9) : SmI v m (.tuple [sD "twice", .tuple (nD p)])
  | refused (i : Nat) (p : List Nat) (h : p.length ≤ 9) (hp : ∀ a ∈ p, a < 9) (hi : i < 40) : SmI v m (.tuple [sD "refused", .int i, .tuple (nD p)])
  | table (T : Tb) (h : Sound v m T) : SmI v m (.tuple [sD "table", tD T])
end L2.Gv.Com

set_option Elab.async false
set_option linter.all false
set_option maxRecDepth 100000
set_option maxHeartbeats 1000000
-- GENF
namespace L2.Gv.Com
open PySem PySem.Spec PyProof.Rows L2 L2.Gv
/-! # The law's own reason -/
def ldD (n : Nat) (fs : Nat → Fd) : List D := (List.range n).map fun s => dictD (fD (fs s))
abbrev rG (v : List Nat) (W : List D) (a2 a3 a4 a5 x6 x7 : Option M) (A B : List D) (a10 a11 : Option M) : Sl := [some (.im (.tuple (nD v))), some (.im (.tuple W)), a2, a3, a4, a5, x6, x7, some (.ml A), some (.ml B), a10, a11]
end L2.Gv.Com

set_option Elab.async false
set_option linter.all false
set_option maxRecDepth 100000
set_option maxHeartbeats 1000000
-- GENF
namespace L2.Gv.Com
open PySem PySem.Spec PyProof.Rows L2 L2.Gv
end L2.Gv.Com

set_option Elab.async false
set_option linter.all false
set_option maxRecDepth 100000
set_option maxHeartbeats 1000000
-- GENF
namespace L2.Gv.Com
open PySem PySem.Spec PyProof.Rows L2 L2.Gv
end L2.Gv.Com

set_option Elab.async false
set_option linter.all false
set_option maxRecDepth 100000
set_option maxHeartbeats 1000000
-- GENF
namespace L2.Gv.Com
open PySem PySem.Spec PyProof.Rows L2 L2.Gv
/-- the reason, or None -/
def RsOut (v : List Nat) (m : Nat) (ws : List W3) (d : D) : Prop := (d = .none ∧ (∀ w ∈ ws, unB v w = false) ∧ (∀ q, ¬ CT [v] (wNear v ws) v.length q) ∧ ∀ e, ¬ RT v (wNear v ws) ws e) ∨ (isNoneM (.im d) = false ∧ SmOut v m ws d)
end L2.Gv.Com

set_option Elab.async false
set_option linter.all false
set_option maxRecDepth 100000
set_option maxHeartbeats 1000000
-- GENF
namespace L2.Gv.Com
open PySem PySem.Spec PyProof.Rows L2 L2.Gv
/-! # merged; rectangles of other sizes -/
def c_mrg : Sm := (.seq (.ifs (.notN (.call (Str.ofString "dependence") F_dependence (.cons (.var 0) (.cons (.var 1) .nil)))) (.seq (.rais (Str.ofString "NotIndependent")) .nil) .nil) (.seq (.ifs (.not (.bi .all (.cons (.lc [5] (.nm 5) (.seq (.tup (.cons (.var 2) (.cons (.var 3) (.cons (.var 4) .nil))))) .nil (.call (Str.ofString "is_among") F_is_among (.cons (.var 5) (.cons (.bi .len (.cons (.idx (.var 0) (.con (.int 0))) .nil)) .nil)))) .nil))) (.seq (.rais (Str.ofString "NoState")) .nil) .nil) (.seq (.ifs (.or (.cons (.cmp .NotEq (.idx (.idx (.idx (.var 0) (.con (.int 1))) (.var 2)) (.idx (.idx (.var 0) (.con (.int 0))) (.var 3))) (.var 3)) (.cons (.cmp .NotEq (.idx (.idx (.idx (.var 1) (.con (.int 1))) (.var 2)) (.idx (.idx (.var 1) (.con (.int 0))) (.var 4))) (.var 4)) .nil))) (.seq (.rais (Str.ofString "NoStep")) .nil) .nil) (.seq (.ret (.idx (.idx (.idx (.var 1) (.con (.int 1))) (.var 3)) (.idx (.idx (.var 1) (.con (.int 0))) (.var 4)))) .nil))))
def F_mrg : Fn := mkFn false 5 6 c_mrg
def c_blk : Sm := (.seq (.asg 1 (.lst .nil)) (.seq (.for (.nm 2) (.rng (.cons (.con (.int 3)) .nil)) (.seq (.asg 3 (.idx (.tup (.cons (.con (.int 1)) (.cons (.con (.int 2)) (.cons (.con (.int 3)) (.cons (.con (.int 4)) (.cons (.con (.int 9)) .nil)))))) (.cio (Str.ofString "_law_draw") F__law_draw 0 (.cons (.con (.int 5)) .nil)))) (.seq (.asg 4 (.idx (.tup (.cons (.con (.int 1)) (.cons (.con (.int 2)) (.cons (.con (.int 3)) (.cons (.con (.int 4)) (.cons (.con (.int 9)) .nil)))))) (.cio (Str.ofString "_law_draw") F__law_draw 0 (.cons (.con (.int 5)) .nil)))) (.seq (.ifs (.cmp .LtE (.bin .Add (.vlen 1) (.bin .Mult (.var 3) (.var 4))) (.con (.int 9))) (.seq (.for (.nm 5) (.rng (.cons (.var 3) .nil)) (.seq (.for (.nm 6) (.rng (.cons (.var 4) .nil)) (.seq (.app 1 (.tup (.cons (.var 2) (.cons (.var 5) (.cons (.var 6) .nil))))) .nil)) .nil)) .nil) .nil) .nil)))) (.seq (.ret (.cio (Str.ofString "_law_shuffled") F__law_shuffled 0 (.cons (.ifx (.cmp .Eq (.var 1) (.lst .nil)) (.bin .Add (.var 1) (.lst (.cons (.tup (.cons (.con (.int 3)) (.cons (.con (.int 0)) (.cons (.con (.int 0)) .nil)))) .nil))) (.var 1)) .nil))) .nil)))
def F_blk : Fn := mkFn true 1 7 c_blk
end L2.Gv.Com

set_option Elab.async false
set_option linter.all false
set_option maxRecDepth 100000
set_option maxHeartbeats 1000000
-- GENF
namespace L2.Gv.Com
open PySem PySem.Spec PyProof.Rows L2 L2.Gv
/-! # All tables of a view: every sound one is there -/
/-- of the first i states ps puts together what T does -/
def Cmp (m : Nat) (T : Tb) (i : Nat) (ps : List (List Nat)) : Prop := ∀ a b, a < i → b < i → (Same ps a b ↔ ST T m a b)
/-- what comes of ps by the state i: a part more, or one of the first z parts longer -/
def Exts (v : List Nat) (i : Nat) (ps : List (List Nat)) (z : Nat) (later : List (List (List Nat))) : Prop := ps ++ [[i]] ∈ later ∧ ∀ (z0 : Nat) (q0 : List Nat), z0 < z → ps[z0]? = some q0 → ¬ v.getD i 0 ∈ q0.map (fun t => v.getD t 0) → ps.set z0 (q0 ++ [i]) ∈ later
end L2.Gv.Com

set_option Elab.async false
set_option linter.all false
set_option maxRecDepth 100000
set_option maxHeartbeats 1000000
-- GENF
namespace L2.Gv.Com
open PySem PySem.Spec PyProof.Rows L2 L2.Gv
/-! # Whether a contradiction is one -/
def c_tr_ : Sm := (.seq (.ifs (.or (.cons (.not (.isi (.var 1) .tuple)) (.cons (.cmp .Eq (.var 1) (.tup .nil)) (.cons (.not (.bi .all (.cons (.lc [2] (.nm 2) (.seq (.var 1)) .nil (.call (Str.ofString "is_among") F_is_among (.cons (.var 2) (.cons (.bi .len (.cons (.var 0) .nil)) .nil)))) .nil))) .nil)))) (.seq (.ret (.con (.bool false))) .nil) .nil) (.seq (.ret (.bi .all (.cons (.lc [3, 4] (.tp [.nm 3, .nm 4]) (.zip (.var 1) (.slc (.var 1) (.cons (.con (.int 1)) .nil) .nil)) .nil (.cmp .In (.var 4) (.idx (.var 0) (.var 3)))) .nil))) .nil))
def F_tr_ : Fn := mkFn false 2 5 c_tr_
def c_tw_ : Sm := (.seq (.ret (.and (.cons (.cmp .NotEq (.idx (.var 1) (.con (.int 0))) (.idx (.var 1) (.neg (.con (.int 1))))) (.cons (.cmp .Eq (.idx (.var 0) (.idx (.var 1) (.con (.int 0)))) (.idx (.var 0) (.idx (.var 1) (.neg (.con (.int 1)))))) .nil)))) .nil)
def F_tw_ : Fn := mkFn false 2 2 c_tw_
def c_ag_ : Sm := (.seq (.ifs (.not (.call (Str.ofString "is_among") F_is_among (.cons (.var 2) (.cons (.bi .len (.cons (.var 1) .nil)) .nil)))) (.seq (.ret (.con (.bool false))) .nil) .nil) (.seq (.asgP [.nm 4, .nm 5, .nm 6] (.idx (.var 1) (.var 2))) (.seq (.ret (.and (.cons (.isN (.var 6)) (.cons (.cmp .Eq (.idx (.var 3) (.con (.int 0))) (.var 4)) (.cons (.cmp .Eq (.idx (.var 0) (.idx (.var 3) (.neg (.con (.int 1))))) (.var 5)) .nil))))) .nil)))
def F_ag_ : Fn := mkFn false 4 7 c_ag_
def c_cn_ : Sm := (.seq (.asg 3 (.call (Str.ofString "near_by") F_near_by (.cons (.bi .len (.cons (.var 0) .nil)) (.cons (.call (Str.ofString "links_of") F_links_of (.cons (.var 1) .nil)) .nil)))) (.seq (.mat (.idx (.var 2) (.con (.int 0))) (.mcs (Str.ofString "shown") (.seq (.ret (.and (.cons (.cmp .Eq (.bi .len (.cons (.var 2) .nil)) (.con (.int 2))) (.cons (.call (Str.ofString "is_among") F_is_among (.cons (.idx (.var 2) (.con (.int 1))) (.cons (.bi .len (.cons (.var 1) .nil)) .nil))) (.cons (.call (Str.ofString "is_unshown") F_is_unshown (.cons (.var 0) (.cons (.idx (.var 1) (.idx (.var 2) (.con (.int 1)))) .nil))) .nil))))) .nil) (.mcs (Str.ofString "twice") (.seq (.ret (.and (.cons (.cmp .Eq (.bi .len (.cons (.var 2) .nil)) (.con (.int 2))) (.cons (.call (Str.ofString "is_trace") F_tr_ (.cons (.var 3) (.cons (.idx (.var 2) (.con (.int 1))) .nil))) (.cons (.call (Str.ofString "are_twins") F_tw_ (.cons (.var 0) (.cons (.idx (.var 2) (.con (.int 1))) .nil))) .nil))))) .nil) (.mcs (Str.ofString "refused") (.seq (.ret (.and (.cons (.cmp .Eq (.bi .len (.cons (.var 2) .nil)) (.con (.int 3))) (.cons (.call (Str.ofString "is_trace") F_tr_ (.cons (.var 3) (.cons (.idx (.var 2) (.con (.int 2))) .nil))) (.cons (.call (Str.ofString "is_against") F_ag_ (.cons (.var 0) (.cons (.var 1) (.cons (.idx (.var 2) (.con (.int 1))) (.cons (.idx (.var 2) (.con (.int 2))) .nil))))) .nil))))) .nil) .nil)))) (.seq (.ret (.con (.bool false))) .nil)))
def F_cn_ : Fn := mkFn false 3 4 c_cn_
def c_ss_ : Sm := (.seq (.exp (.call (Str.ofString "need_wishes") F_need_wishes (.cons (.var 0) (.cons (.var 1) .nil)))) (.seq (.ifs (.or (.cons (.not (.call (Str.ofString "is_row") F_is_row (.cons (.var 2) (.cons (.con (.int 2)) (.cons (.con (.int 3)) .nil))))) (.cons (.not (.isi (.idx (.var 2) (.con (.int 0))) .str)) .nil))) (.seq (.ret (.con (.bool false))) .nil) .nil) (.seq (.ifs (.cmp .NotEq (.idx (.var 2) (.con (.int 0))) (.glb (Str.ofString "TABLE") (.str (Str.ofString "table")))) (.seq (.ret (.call (Str.ofString "is_contradiction") F_cn_ (.cons (.var 0) (.cons (.var 1) (.cons (.var 2) .nil))))) .nil) .nil) (.seq (.ret (.and (.cons (.cmp .Eq (.bi .len (.cons (.var 2) .nil)) (.con (.int 2))) (.cons (.call (Str.ofString "is_table_by") F_is_table_by (.cons (.var 0) (.cons (.idx (.var 2) (.con (.int 1))) .nil))) (.cons (.cmp .Eq (.var 2) (.call (Str.ofString "smallest_by") F_smallest_by (.cons (.var 0) (.cons (.var 1) .nil)))) .nil))))) .nil))))
def F_ss_ : Fn := mkFn false 3 3 c_ss_
def trB (near : List (List Nat)) (p : List Nat) : Bool := (p.zip p.tail).all fun e => decide (e.2 ∈ near.getD e.1 [])
def twB (v p : List Nat) : Bool := !decide (p.headD 0 = p.getLastD 0) && decide (v.getD (p.headD 0) 0 = v.getD (p.getLastD 0) 0)
def agtB (v : List Nat) (w : W3) (p : List Nat) : Bool := w.2.2.isNone && (decide (p.headD 0 = w.1) && decide (v.getD (p.getLastD 0) 0 = w.2.1))
end L2.Gv.Com

set_option Elab.async false
set_option linter.all false
set_option maxRecDepth 100000
set_option maxHeartbeats 1000000
namespace L2.Gv.Com
open PySem PySem.Spec PyProof.Rows L2 L2.Gv
/-! # What any data is -/
def Nd (d : D) : Prop := ∀ v r, d ≠ .dict ((.none, v) :: r)
def wholeB : D → Bool
  | .int _ => true
  | _ => false
theorem whole_any {d : D} (h : Nd d) : F_is_whole.sem [.im d] = .ok (.im (.bool (wholeB d))) (.im .none) := by
  refine fn_eq rfl ?_
  unfold c_is_whole
  walk_at "wp"
  refine ⟨h, ?_⟩
  cases d with
  | int i =>
    walk_at "wp"
    refine ⟨h, ?_⟩
    walk_at "wp"
    rfl
  | bool b =>
    walk_at "wp"
    refine ⟨h, ?_⟩
    walk_at "wp"
    rfl
  | none => walk_at "wp"; rfl
  | str x => walk_at "wp"; rfl
  | list xs => walk_at "wp"; rfl
  | tuple xs => walk_at "wp"; rfl
  | dict xs => walk_at "wp"; rfl
def amongB (n : Nat) : D → Bool
  | .int i => decide (0 ≤ i) && decide (i < n)
  | _ => false
def rowB (lo hi : Nat) : D → Bool
  | .tuple xs => decide (lo ≤ xs.length) && decide (xs.length ≤ hi)
  | _ => false
end L2.Gv.Com

set_option Elab.async false
set_option linter.all false
set_option maxRecDepth 100000
set_option maxHeartbeats 1000000
-- GENF
namespace L2.Gv.Com
open PySem PySem.Spec PyProof.Rows L2 L2.Gv
/-! # Views among any data -/
theorem max_gen {v : List Nat} (h : v ≠ []) : ∃ M : Nat, M ∈ v ∧ (∀ x ∈ v, x ≤ M) ∧ biD .max [.tuple (nD v)] = some (.im (.int (M : Nat))) := by
  have hM : ∃ M : Nat, M ∈ v ∧ ∀ x ∈ v, x ≤ M := by
    induction v with
    | nil => exact absurd rfl h
    | cons a r ih =>
      cases r with
      | nil => exact ⟨a, List.mem_cons_self, fun x hx => by rw [List.mem_singleton.mp hx]; exact Nat.le_refl _⟩
      | cons b r =>
        obtain ⟨M, h1, h2⟩ := ih (by simp)
        by_cases q : a ≤ M
        · exact ⟨M, List.mem_cons_of_mem _ h1, fun x hx => by
            rcases List.mem_cons.mp hx with rfl | hx
            · exact q
            · exact h2 x hx⟩
        · exact ⟨a, List.mem_cons_self, fun x hx => by
            rcases List.mem_cons.mp hx with rfl | hx
            · exact Nat.le_refl _
            · have := h2 x hx; omega⟩
  obtain ⟨M, h1, h2⟩ := hM
  refine ⟨M, h1, h2, ?_⟩
  show ((seqD (.tuple (nD v))).bind intsD).bind _ = _
  show (intsD (nD v)).bind _ = _
  rw [ints_nD]
  show (maxL _).map _ = _
  have : maxL (v.map fun (n : Nat) => (n : Int)) = some (M : Int) := by
    cases v with
    | nil => exact absurd rfl h
    | cons x r =>
      show some ((r.map fun (n : Nat) => (n : Int)).foldl max (x : Int)) = _
      congr 1
      refine (max_is (m := (M : Int)) ?_ fun y hy => ?_).symm
      · rcases List.mem_cons.mp h1 with e | e
        · rw [← e, List.mem_cons]; left; rfl
        · rw [List.mem_cons]; right
          exact List.mem_map.mpr ⟨M, e, rfl⟩
      · rcases List.mem_cons.mp hy with rfl | e
        · have := h2 x List.mem_cons_self; omega
        · obtain ⟨z, hz, rfl⟩ := List.mem_map.mp e
          have := h2 z (List.mem_cons_of_mem _ hz); omega
  rw [this]; rfl
theorem among_nat {n : Nat} {d : D} (h : amongB n d = true) : ∃ x : Nat, d = .int x ∧ x < n := by
  cases d with
  | int i =>
    have h : (decide (0 ≤ i) && decide (i < n)) = true := h
    rw [Bool.and_eq_true, decide_eq_true_eq, decide_eq_true_eq] at h
    exact ⟨i.toNat, by rw [Int.toNat_of_nonneg h.1], by omega⟩
  | bool b => cases h
  | none => cases h
  | str x => cases h
  | list xs => cases h
  | tuple xs => cases h
  | dict xs => cases h
theorem among_int {n x : Nat} (h : x < n) : amongB n (.int x) = true := by
  show (decide (0 ≤ (x : Int)) && decide ((x : Int) < n)) = true
  rw [Bool.and_eq_true, decide_eq_true_eq, decide_eq_true_eq]
  omega
theorem row_of {lo hi : Nat} {d : D} (h : rowB lo hi d = true) : ∃ xs, d = .tuple xs ∧ lo ≤ xs.length ∧ xs.length ≤ hi := by
  cases d with
  | tuple xs =>
    have h : (decide (lo ≤ xs.length) && decide (xs.length ≤ hi)) = true := h
    rw [Bool.and_eq_true, decide_eq_true_eq, decide_eq_true_eq] at h
    exact ⟨xs, rfl, h.1, h.2⟩
  | int i => cases h
  | bool b => cases h
  | none => cases h
  | str x => cases h
  | list xs => cases h
  | dict xs => cases h
/-- is a view -/
def IsVw (d : D) : Prop := ∃ v m, d = .tuple (nD v) ∧ Vw v m
end L2.Gv.Com

set_option Elab.async false
set_option linter.all false
set_option maxRecDepth 100000
set_option maxHeartbeats 1000000
-- GENF
namespace L2.Gv.Com
open PySem PySem.Spec PyProof.Rows L2 L2.Gv
/-! # Tables among any data -/
def entB (n : Nat) : D → Bool
  | .none => true
  | d => amongB n d
theorem entN_of {n : Nat} {d : D} (h : entB n d = true) : ∃ o, d = oD o ∧ ∀ e, o = some e → e < n := by
  have key : ∀ d : D, amongB n d = true → ∃ o, d = oD o ∧ ∀ e, o = some e → e < n := fun d h => by
    obtain ⟨x, rfl, hx⟩ := among_nat h
    exact ⟨some x, rfl, fun e he => by cases he; exact hx⟩
  cases d with
  | none => exact ⟨none, rfl, fun e he => by cases he⟩
  | int i => exact key _ h
  | bool i => exact key _ h
  | str i => exact key _ h
  | list i => exact key _ h
  | tuple i => exact key _ h
  | dict i => exact key _ h
theorem ent_oD {n : Nat} {o : Option Nat} (h : ∀ e, o = some e → e < n) : entB n (oD o) = true := by
  cases o with
  | none => rfl
  | some e => exact among_int (h e rfl)
theorem entsN_of {n : Nat} : ∀ {ys : List D}, ys.all (entB n) = true → ∃ r, ys = rD r ∧ ∀ o ∈ r, ∀ e, o = some e → e < n
  | [], _ => ⟨[], rfl, fun o ho => by cases ho⟩
  | d :: ys, h => by
    rw [List.all_cons, Bool.and_eq_true] at h
    obtain ⟨r, rfl, hr⟩ := entsN_of h.2
    obtain ⟨o, rfl, ho⟩ := entN_of h.1
    exact ⟨o :: r, rfl, fun o' ho' => by
      rcases List.mem_cons.mp ho' with rfl | ho'
      · exact ho
      · exact hr o' ho'⟩
def entsB (n : Nat) : D → Bool
  | .tuple ys => ys.all (entB n)
  | _ => true
theorem rowsN_of {n m : Nat} : ∀ {xs : List D}, xs.all (rowB m m) = true → xs.all (entsB n) = true → ∃ T : Tb, xs = tRows T ∧ (∀ r ∈ T, r.length = m) ∧ Ents T n
  | [], _, _ => ⟨[], rfl, (fun o ho => by cases ho), fun o ho => by cases ho⟩
  | d :: xs, h1, h2 => by
    rw [List.all_cons, Bool.and_eq_true] at h1 h2
    obtain ⟨T, rfl, hT, hE⟩ := rowsN_of h1.2 h2.2
    obtain ⟨ys, rfl, l1, l2⟩ := row_of h1.1
    obtain ⟨r, rfl, hr⟩ := entsN_of (ys := ys) h2.1
    have hl : @List.length PyData (rD r) = r.length := List.length_map _
    exact ⟨r :: T, rfl, (fun r' hr' => by
      rcases List.mem_cons.mp hr' with rfl | hr'
      · omega
      · exact hT r' hr'), fun r' hr' => by
      rcases List.mem_cons.mp hr' with rfl | hr'
      · exact hr
      · exact hE r' hr'⟩
/-- is a table of n rows of m entries below n -/
def IsTb (n m : Nat) (d : D) : Prop := ∃ T : Tb, d = tD T ∧ Shp T n m ∧ Ents T n
theorem rowB_len {lo hi : Nat} {xs : List D} (h1 : lo ≤ xs.length) (h2 : xs.length ≤ hi) : rowB lo hi (.tuple xs) = true := by
  show (decide (lo ≤ xs.length) && decide (xs.length ≤ hi)) = true
  rw [decide_eq_true h1, decide_eq_true h2]; rfl
theorem isTb_iff {n m : Nat} {d : D} : IsTb n m d ↔ ∃ xs, d = .tuple xs ∧ xs.length = n ∧ xs.all (rowB m m) = true ∧ xs.all (entsB n) = true := by
  constructor
  · rintro ⟨T, rfl, hS, hE⟩
    refine ⟨tRows T, rfl, (List.length_map _).trans hS.len, ?_, ?_⟩
    · rw [List.all_eq_true]
      intro e he
      obtain ⟨r, rfl, hr⟩ := tRows_mem he
      have hl : @List.length PyData (rD r) = r.length := List.length_map _
      have := hS.row r hr
      exact rowB_len (by omega) (by omega)
    · rw [List.all_eq_true]
      intro e he
      obtain ⟨r, rfl, hr⟩ := tRows_mem he
      show (rD r).all (entB n) = true
      rw [List.all_eq_true]
      intro o ho
      obtain ⟨o, h, rfl⟩ := List.mem_map.mp ho
      exact ent_oD (hE r hr o h)
  · rintro ⟨xs, rfl, hl, h1, h2⟩
    obtain ⟨T, rfl, hT, hE⟩ := rowsN_of h1 h2
    exact ⟨T, rfl, ⟨((List.length_map _).symm.trans hl), hT⟩, hE⟩
/-- two levels without dicts -/
def Nd2 (d : D) : Prop := Nd d ∧ ∀ xs, d = .tuple xs → ∀ e ∈ xs, Nd e ∧ ∀ ys, e = .tuple ys → ∀ z ∈ ys, Nd z
end L2.Gv.Com

set_option Elab.async false
set_option linter.all false
set_option maxRecDepth 100000
set_option maxHeartbeats 1000000
namespace L2.Gv.Com
open PySem PySem.Spec PyProof.Rows L2 L2.Gv
/-! # Tables that are not sound -/
def EntOk (v : List Nat) (T : Tb) (s x : Nat) : Prop := ∀ e, ent T s x = some e → v[e]? = some x ∧ T[e]? = T[s]?
def RowOk (v : List Nat) (m : Nat) (T : Tb) (s : Nat) : Prop := ent T s (v.getD s 0) = some s ∧ ∀ x, x < m → EntOk v T s x
end L2.Gv.Com

set_option Elab.async false
set_option linter.all false
set_option maxRecDepth 100000
set_option maxHeartbeats 1000000
namespace L2.Gv.Com
open PySem PySem.Spec PyProof.Rows L2 L2.Gv
/-! # The broken rule of a table that is not sound -/
end L2.Gv.Com

set_option Elab.async false
set_option linter.all false
set_option maxRecDepth 100000
set_option maxHeartbeats 1000000
-- GENF
namespace L2.Gv.Com
open PySem PySem.Spec PyProof.Rows L2 L2.Gv
/-! # Which exception a view and a table cause -/
def nv : Str := Str.ofString "NoView"
def nt : Str := Str.ofString "NoTable"
def nsd : Str := Str.ofString "NotSound"
/-- what is wrong with a view and a table -/
inductive Ns (d t : D) : Option Str → Prop
  | nv (h : ¬ IsVw d) : Ns d t (some nv)
  | nt {v : List Nat} {m : Nat} (hd : d = .tuple (nD v)) (hv : Vw v m) (h : ¬ IsTb v.length m t) : Ns d t (some nt)
  | ns {v : List Nat} {m : Nat} {T : Tb} (hd : d = .tuple (nD v)) (ht : t = tD T) (hv : Vw v m) (hT : Shp T v.length m) (hE : Ents T v.length) (h : ¬ Sound v m T) : Ns d t (some nsd)
  | ok {v : List Nat} {m : Nat} {T : Tb} (hd : d = .tuple (nD v)) (ht : t = tD T) (hv : Vw v m) (h : Sound v m T) : Ns d t none
def Nd1 (d : D) : Prop := Nd d ∧ ∀ xs, d = .tuple xs → ∀ e ∈ xs, Nd e
end L2.Gv.Com

set_option Elab.async false
set_option linter.all false
set_option maxRecDepth 100000
set_option maxHeartbeats 1000000
-- GENF
namespace L2.Gv.Com
open PySem PySem.Spec PyProof.Rows L2 L2.Gv
/-! # What chain raises -/
end L2.Gv.Com

set_option Elab.async false
set_option linter.all false
set_option maxRecDepth 100000
set_option maxHeartbeats 1000000
-- GENF
namespace L2.Gv.Com
open PySem PySem.Spec PyProof.Rows L2 L2.Gv
/-! # Wishes among any data -/
/-- is a wish -/
def wishB (n m : Nat) : D → Bool
  | .tuple [a, b, c] => amongB n a && (amongB m b && entB n c)
  | _ => false
def wishesB (n m : Nat) : D → Bool
  | .tuple xs => decide (xs.length ≤ 20) && xs.all (wishB n m)
  | _ => false
def nx0B : D → Bool
  | .dict ((.none, _) :: _) => false
  | _ => true
def nx1B : D → Bool
  | .tuple xs => xs.all nx0B
  | d => nx0B d
def nx2B : D → Bool
  | .tuple xs => xs.all nx1B
  | d => nx0B d
theorem nx0_of {d : D} (h : nx0B d = true) : Nd d := fun v r e => by subst e; cases h
theorem nx1_of {d : D} (h : nx1B d = true) : Nd1 d := by
  cases d with
  | tuple xs =>
    refine ⟨fun v r e => (by cases e), fun ys e z hz => ?_⟩
    cases e
    exact nx0_of (List.all_eq_true.mp h z hz)
  | none => exact ⟨nx0_of h, fun ys e => by cases e⟩
  | int i => exact ⟨nx0_of h, fun ys e => by cases e⟩
  | bool i => exact ⟨nx0_of h, fun ys e => by cases e⟩
  | str i => exact ⟨nx0_of h, fun ys e => by cases e⟩
  | list i => exact ⟨nx0_of h, fun ys e => by cases e⟩
  | dict i => exact ⟨nx0_of h, fun ys e => by cases e⟩
theorem nx2_tup {xs : List D} (h : ∀ e ∈ xs, nx1B e = true) : Nd2 (.tuple xs) := by
  refine ⟨fun v r e => (by cases e), fun ys e z hz => ?_⟩
  cases e
  exact nx1_of (h z hz)
end L2.Gv.Com

set_option Elab.async false
set_option linter.all false
set_option maxRecDepth 100000
set_option maxHeartbeats 1000000
-- GENF
namespace L2.Gv.Com
open PySem PySem.Spec PyProof.Rows L2 L2.Gv
/-! # Whole numbers sorted -/
def iD (xs : List Int) : List D := xs.map PyData.int
/-- 0 .. k - 1 -/
def upto (k : Nat) : List Int := (List.range k).map fun (n : Nat) => (n : Int)
end L2.Gv.Com

set_option Elab.async false
set_option linter.all false
set_option maxRecDepth 100000
set_option maxHeartbeats 1000000
-- GENF
namespace L2.Gv.Com
open PySem PySem.Spec PyProof.Rows L2 L2.Gv
/-! # Parts in order -/
def HdLt (p q : List Nat) : Prop := ∃ a r b t, p = a :: r ∧ q = b :: t ∧ a < b
theorem prt_flatR {v : List Nat} {n : Nat} {ps : List (List Nat)} (hP : Prt v n ps) : ps.flatten.Perm (List.range n) := by
  refine nd_perm ?_ List.nodup_range fun a => ?_
  · show List.Pairwise (· ≠ ·) _
    rw [List.pairwise_flatten]
    refine ⟨fun q hq => (hP.asc q hq).imp fun h => by omega, ?_⟩
    rw [List.pairwise_iff_getElem]
    intro i j hi hj hij a ha b hb e
    subst e
    have := hP.dis i j _ _ a (List.getElem?_eq_getElem hi) (List.getElem?_eq_getElem hj) ha hb
    omega
  · rw [List.mem_flatten, List.mem_range]
    constructor
    · rintro ⟨q, hq, ha⟩; exact hP.lt q hq a ha
    · intro ha
      obtain ⟨q, hq, h⟩ := hP.all a ha
      exact ⟨q, hq, h⟩
end L2.Gv.Com

set_option Elab.async false
set_option linter.all false
set_option maxRecDepth 100000
set_option maxHeartbeats 1000000
-- GENF
namespace L2.Gv.Com
open PySem PySem.Spec PyProof.Rows L2 L2.Gv
/-! ## a table, by the law's own look -/
theorem lw_any {d : D} (h : Nd d) : F__law_whole.sem [.im d] = .ok (.im (.bool (wholeB d))) (.im .none) := whole_any h
theorem rowB_tup' {m : Nat} {xs : List D} : rowB m m (.tuple xs) = decide (xs.length = m) := by
  show (decide (m ≤ xs.length) && decide (xs.length ≤ m)) = _
  by_cases h : xs.length = m
  · rw [decide_eq_true h, decide_eq_true (by omega), decide_eq_true (by omega)]; rfl
  · rw [decide_eq_false h]
    by_cases q : m ≤ xs.length
    · rw [decide_eq_false (show ¬ xs.length ≤ m by omega), Bool.and_false]
    · rw [decide_eq_false q]; rfl
/-- what is not whole is no entry, but None -/
theorem ent_no {n : Nat} {d : D} (h : wholeB d = false) (hn : d ≠ .none) : entB n d = false := by
  cases d with
  | none => exact absurd rfl hn
  | int i => cases h
  | bool i => rfl
  | str i => rfl
  | list i => rfl
  | tuple i => rfl
  | dict i => rfl
theorem law_table_x {v : List Nat} {m : Nat} {d : D} (hv : Vw v m) (h : Nd2 d) : ∃ b, F__law_is_table.sem [.im (.tuple (nD v)), .im d] = .ok (.im (.bool b)) (.im .none) ∧ (b = true ↔ IsTb v.length m d) := by
  have hL : @List.length PyData (nD v) = v.length := nD_length v
  obtain ⟨m', hm, em⟩ := max_nat hv
  have lw := @lw_any
  have i1 : F__law_whole.io = false := rfl
  obtain ⟨h1, h2⟩ := h
  by_cases hr : ∃ xs, d = .tuple xs ∧ xs.length = v.length
  · obtain ⟨xs, rfl, hl⟩ := hr
    have hx := h2 xs rfl
    suffices key : ∃ r, F__law_is_table.sem [.im (.tuple (nD v)), .im (.tuple xs)] = .ok r (.im .none) ∧ ∃ b, r = .im (.bool b) ∧ (b = true ↔ xs.all (rowB m m) = true ∧ xs.all (entsB v.length) = true) by
      obtain ⟨r, e, b, rfl, hb⟩ := key
      refine ⟨b, e, hb.trans ?_⟩
      rw [isTb_iff]
      constructor
      · rintro ⟨q1, q2⟩
        exact ⟨xs, rfl, hl, q1, q2⟩
      · rintro ⟨xs', e, _, q1, q2⟩
        cases e
        exact ⟨q1, q2⟩
    refine fn_ex (Q := fun r => ∃ b, r = .im (.bool b) ∧ (b = true ↔ xs.all (rowB m m) = true ∧ xs.all (entsB v.length) = true)) rfl ?_
    unfold c__law_is_table
    generalize F__law_whole = G1 at *
    walk_at "wp"
    refine ⟨h1, ?_⟩
    walk_at "wp"
    rw [hL]
    refine ⟨fun h0 => absurd h0 (by rw [hl]; simp), fun _ => ?_⟩
    walk_at "wp"
    refine lf_inv (fun i Γ => (∃ a2 a3, Γ = [some (.im (.tuple (nD v))), some (.im (.tuple xs)), a2, a3]) ∧ ∀ e ∈ xs.take i, rowB m m e = true ∧ entsB v.length e = true) ⟨⟨_, _, rfl⟩, fun e he => by simp at he⟩ (fun i e Γ he ⟨⟨a2, a3, eΓ⟩, hd⟩ => ?_) fun Γ ⟨⟨a2, a3, eΓ⟩, hd⟩ => ?_
    · subst eΓ
      have hem := List.mem_of_getElem? he
      obtain ⟨n1, n2⟩ := hx e hem
      have step : rowB m m e = true → entsB v.length e = true → ∀ e' ∈ xs.take (i + 1), rowB m m e' = true ∧ entsB v.length e' = true := fun p1 p2 e' he' => by
        rw [List.take_add_one, he] at he'
        rcases List.mem_append.mp he' with q | q
        · exact hd e' q
        · rw [Option.toList_some, List.mem_singleton] at q
          rw [q]; exact ⟨p1, p2⟩
      have bad : rowB m m e = false → (false = true ↔ xs.all (rowB m m) = true ∧ xs.all (entsB v.length) = true) := fun p => ⟨by rintro ⟨⟩, fun q => by
        have := List.all_eq_true.mp q.1 e hem
        rw [p] at this; cases this⟩
      have bad2 : entsB v.length e = false → (false = true ↔ xs.all (rowB m m) = true ∧ xs.all (entsB v.length) = true) := fun p => ⟨by rintro ⟨⟩, fun q => by
        have := List.all_eq_true.mp q.2 e hem
        rw [p] at this; cases this⟩
      refine ⟨_, rfl, ?_⟩
      walk_at "wp"
      refine ⟨n1, ?_⟩
      cases e with
      | tuple ys =>
        have hy := n2 ys rfl
        walk_at "wp"
        refine ⟨_, em, ?_⟩
        walk_at "wp"
        refine ⟨fun h0 => ?_, fun h0 => ?_⟩
        · walk_at "wp"
          refine bad ?_
          rw [rowB_tup', decide_eq_false (by simp at h0; omega)]
        · have hlen : ys.length = m := by simp at h0; omega
          walk_at "wp"
          refine lf_inv (fun j Γ => (∃ a3, Γ = [some (.im (.tuple (nD v))), some (.im (.tuple xs)), some (.im (.tuple ys)), a3]) ∧ ∀ z ∈ ys.take j, entB v.length z = true) ⟨⟨_, rfl⟩, fun e he => by simp at he⟩ (fun j z Γ hz ⟨⟨a3, eΓ⟩, hdz⟩ => ?_) fun Γ ⟨⟨a3, eΓ⟩, hdz⟩ => ?_
          · subst eΓ
            have hzm := List.mem_of_getElem? hz
            have nz := hy z hzm
            have stepz : entB v.length z = true → ∀ z' ∈ ys.take (j + 1), entB v.length z' = true := fun p1 z' hz' => by
              rw [List.take_add_one, hz] at hz'
              rcases List.mem_append.mp hz' with q | q
              · exact hdz z' q
              · rw [Option.toList_some, List.mem_singleton] at q
                rw [q]; exact p1
            have badz : entB v.length z = false → (false = true ↔ xs.all (rowB m m) = true ∧ xs.all (entsB v.length) = true) := fun p => bad2 (by
              show ys.all (entB v.length) = false
              rw [List.all_eq_false]
              exact ⟨z, hzm, by rw [p]; simp⟩)
            have odd : wholeB z = false → z ≠ .none → entB v.length z = false := ent_no
            refine ⟨_, rfl, ?_⟩
            cases z with
            | none =>
              walk_at "wp"
              exact stepz rfl
            | int x =>
              walk_at "wp"
              refine fr_at (lw nz) rfl ?_
              walk_at "wp"
              refine ⟨fun c => ?_, fun c => ?_⟩
              · walk_at "wp"
                refine badz ?_
                show (decide (0 ≤ x) && decide (x < v.length)) = false
                rw [decide_eq_false (by simp at c; omega)]; rfl
              walk_at "wp"
              rw [hL]
              refine ⟨fun c2 => ?_, fun c2 => ?_⟩
              · walk_at "wp"
                refine badz ?_
                show (decide (0 ≤ x) && decide (x < v.length)) = false
                rw [decide_eq_false (show ¬ x < v.length by simp at c2; omega), Bool.and_false]
              · walk_at "wp"
                refine stepz ?_
                show (decide (0 ≤ x) && decide (x < v.length)) = true
                rw [decide_eq_true (by simp at c; omega), decide_eq_true (by simp at c2; omega)]; rfl
            | bool x =>
              walk_at "wp"
              refine fr_at (lw nz) rfl ?_
              walk_at "wp"
              exact badz (odd rfl (by simp))
            | str x =>
              walk_at "wp"
              refine fr_at (lw nz) rfl ?_
              walk_at "wp"
              exact badz (odd rfl (by simp))
            | list x =>
              walk_at "wp"
              refine fr_at (lw nz) rfl ?_
              walk_at "wp"
              exact badz (odd rfl (by simp))
            | tuple x =>
              walk_at "wp"
              refine fr_at (lw nz) rfl ?_
              walk_at "wp"
              exact badz (odd rfl (by simp))
            | dict x =>
              walk_at "wp"
              refine fr_at (lw nz) rfl ?_
              walk_at "wp"
              exact badz (odd rfl (by simp))
          · subst eΓ
            rw [List.take_length] at hdz
            walk_at "wp"
            exact ⟨⟨_, _, rfl⟩, step (by rw [rowB_tup', decide_eq_true hlen]) (List.all_eq_true.mpr hdz)⟩
      | none => walk_at "wp"; exact bad rfl
      | int x => walk_at "wp"; exact bad rfl
      | bool x => walk_at "wp"; exact bad rfl
      | str x => walk_at "wp"; exact bad rfl
      | list x => walk_at "wp"; exact bad rfl
      | dict x => walk_at "wp"; exact bad rfl
    · subst eΓ
      rw [List.take_length] at hd
      walk_at "wp"
      exact ⟨fun _ => ⟨List.all_eq_true.mpr fun e he => (hd e he).1, List.all_eq_true.mpr fun e he => (hd e he).2⟩, fun _ => rfl⟩
  · refine ⟨false, ?_, by rintro ⟨⟩, fun q => by
      obtain ⟨xs, e, hl, _, _⟩ := isTb_iff.mp q
      exact absurd ⟨xs, e, hl⟩ hr⟩
    refine fn_eq rfl ?_
    unfold c__law_is_table
    generalize F__law_whole = G1 at *
    walk_at "wp"
    refine ⟨h1, ?_⟩
    cases d with
    | tuple xs =>
      walk_at "wp"
      rw [hL]
      refine ⟨fun _ => ?_, fun h0 => ?_⟩
      · walk_at "wp"
        rfl
      · exfalso
        exact hr ⟨xs, rfl, by simpa using h0⟩
    | none => walk_at "wp"; rfl
    | int x => walk_at "wp"; rfl
    | bool x => walk_at "wp"; rfl
    | str x => walk_at "wp"; rfl
    | list xs => walk_at "wp"; rfl
    | dict xs => walk_at "wp"; rfl
end L2.Gv.Com

set_option Elab.async false
set_option linter.all false
set_option maxRecDepth 100000
set_option maxHeartbeats 1000000
-- GENF
namespace L2.Gv.Com
open PySem PySem.Spec PyProof.Rows L2 L2.Gv
/-! # Parts among any data -/
end L2.Gv.Com

set_option Elab.async false
set_option linter.all false
set_option maxRecDepth 100000
set_option maxHeartbeats 1000000
-- GENF
namespace L2.Gv.Com
open PySem PySem.Spec PyProof.Rows L2 L2.Gv
/-! # The rows of a table as parts -/
theorem sort_partsX (ps : List (List Nat)) : ∃ qs, sortD (pD ps) = some (pD qs) ∧ qs.Perm ps := by
  have hb : sortB (pD ps) = true := by
    unfold sortB
    rw [Bool.and_eq_true, Bool.and_eq_true]
    refine ⟨⟨?_, ?_⟩, ?_⟩
    · unfold alikeB
      rw [List.all_eq_true]
      intro d hd
      rw [List.all_eq_true]
      intro e he
      obtain ⟨q, rfl, _⟩ := pD_mem hd
      obtain ⟨r, rfl, _⟩ := pD_mem he
      rw [PySem.W.alike]
      exact alikeAll_nD q r
    · rw [Bool.or_eq_true]
      right
      rw [List.all_eq_true]
      intro d hd
      obtain ⟨q, rfl, _⟩ := pD_mem hd
      show (intsD (nD q)).isSome = true
      rw [ints_nD]; rfl
    · unfold depthOk
      rw [List.all_eq_true]
      intro d hd
      obtain ⟨q, rfl, hq⟩ := pD_mem hd
      rw [PyData.depth, (lay_nD q).2]; rfl
  have hp : ((pD ps).mergeSort (PySem.W.dataLe false id)).Perm (pD ps) := List.mergeSort_perm _ _
  have inv : ∀ ds : List D, (∀ d ∈ ds, ∃ q, d = .tuple (nD q)) → ∃ qs, ds = pD qs := by
    intro ds
    induction ds with
    | nil => exact fun _ => ⟨[], rfl⟩
    | cons d ds ih =>
      intro h
      obtain ⟨q, rfl⟩ := h d List.mem_cons_self
      obtain ⟨qs, rfl⟩ := ih fun e he => h e (List.mem_cons_of_mem _ he)
      exact ⟨q :: qs, rfl⟩
  obtain ⟨qs, hq⟩ := inv _ fun d hd => by
    obtain ⟨q, e, _⟩ := pD_mem (hp.mem_iff.mp hd)
    exact ⟨q, e⟩
  refine ⟨qs, by unfold sortD; rw [if_pos hb, hq], ?_⟩
  rw [hq] at hp
  have nInj : ∀ a b : List Nat, nD a = nD b → a = b := by
    intro a
    induction a with
    | nil => intro b h; cases b with | nil => rfl | cons _ _ => cases h
    | cons x a ih =>
      intro b h
      cases b with
      | nil => cases h
      | cons y b =>
        have h' : PyData.int x :: nD a = .int y :: nD b := h
        injection h' with h1 h2
        injection h1 with h3
        rw [ih b h2, Int.ofNat.inj h3]
  let un : D → List Nat := fun d => match d with
    | .tuple xs => xs.map fun x => match x with | .int i => i.toNat | _ => 0
    | _ => []
  have hun : ∀ xs : List (List Nat), (pD xs).map un = xs := by
    intro xs
    unfold pD
    rw [List.map_map]
    have : ∀ q : List Nat, (un ∘ fun q => PyData.tuple (nD q)) q = q := by
      intro q
      show (nD q).map _ = q
      unfold nD
      rw [List.map_map]
      have key : ∀ (f : Nat → Nat), (∀ x, f x = x) → q.map f = q := fun f hf => by
        rw [show f = id from funext hf]; exact List.map_id q
      exact key _ fun x => Int.toNat_natCast x
    rw [show (un ∘ fun q => PyData.tuple (nD q)) = id from funext this]
    exact List.map_id xs
  have := hp.map un
  rw [hun, hun] at this
  exact this

noncomputable def srt (xs : List Nat) : List Nat := (sort_nD xs).choose
theorem srt_ok (xs : List Nat) : sortD (nD xs) = some (nD (srt xs)) ∧ (srt xs).Perm xs ∧ (srt xs).Pairwise (· ≤ ·) := (sort_nD xs).choose_spec
/-- the entries of a row -/
def ents (r : List (Option Nat)) : List Nat := r.filterMap id
/-- each once -/
def dd (L : List (List Nat)) : List (List Nat) := ((List.range L.length).filter fun k => decide (L.getD k [] ∉ L.take k)).map fun k => L.getD k []
end L2.Gv.Com

set_option Elab.async false
set_option linter.all false
set_option maxRecDepth 100000
set_option maxHeartbeats 1000000
-- GENF
namespace L2.Gv.Com
open PySem PySem.Spec PyProof.Rows L2 L2.Gv
/-! # Falling factorials -/
def sg (f : Nat → Nat) : Nat → Nat
  | 0 => 0
  | n + 1 => sg f n + f n
def ff : Nat → Nat → Nat
  | _, 0 => 1
  | x, p + 1 => ff x p * (x - p)
def chs : Nat → Nat → Nat
  | _, 0 => 1
  | 0, _ + 1 => 0
  | n + 1, k + 1 => chs n k + chs n (k + 1)
/-! ## sums over ways -/
def EX (X : Nat) (kv : List (Nat × Nat)) : Nat := (kv.map fun e => e.2 * ff X e.1).sum
def gv (kv : List (Nat × Nat)) (p : Nat) : Nat := (kv.map fun e => if e.1 = p then e.2 else 0).sum
end L2.Gv.Com

set_option Elab.async false
set_option linter.all false
set_option maxRecDepth 100000
set_option maxHeartbeats 1000000
-- GENF
namespace L2.Gv.Com
open PySem PySem.Spec PyProof.Rows L2 L2.Gv
/-! # How many tables: the program's count -/
/-- lo * (lo + 1) * .., so many factors -/
def up (lo : Nat) : Nat → Nat
  | 0 => 1
  | t + 1 => up lo t * (lo + t)
/-! ## dicts from numbers to numbers -/
def kvN (kv : List (Nat × Nat)) : List (Int × D) := kv.map fun e => ((e.1 : Int), PyData.int (e.2 : Nat))
def getN (kv : List (Nat × Nat)) (k : Nat) : Nat := match kv.find? fun e => decide (e.1 = k) with
  | some e => e.2
  | none => 0
def putN (kv : List (Nat × Nat)) (k w : Nat) : List (Nat × Nat) := if (kv.any fun e => decide (e.1 = k)) = true then kv.map (fun e => if e.1 = k then (e.1, w) else e) else kv ++ [(k, w)]
/-- the keys of a dict of ways -/
structure Kv (B : Nat) (kv : List (Nat × Nat)) : Prop where
  nd : (kv.map Prod.fst).Nodup
  lt : ∀ e ∈ kv, e.1 ≤ B
theorem nd_len {B : Nat} {ks : List Nat} (h : ks.Nodup) (hb : ∀ k ∈ ks, k ≤ B) : ks.length ≤ B + 1 := by
  exact nd_le h fun a ha => by have := hb a ha; omega
theorem Kv.len {B : Nat} {kv : List (Nat × Nat)} (h : Kv B kv) : kv.length ≤ B + 1 := by
  have := nd_len h.nd fun k hk => by
    obtain ⟨e, he, rfl⟩ := List.mem_map.mp hk
    exact h.lt e he
  rwa [List.length_map] at this
end L2.Gv.Com

set_option Elab.async false
set_option linter.all false
set_option maxRecDepth 100000
set_option maxHeartbeats 1000000
-- GENF
namespace L2.Gv.Com
open PySem PySem.Spec PyProof.Rows L2 L2.Gv
/-! # The program's count, walked -/
def prN : List Nat → Nat
  | [] => 1
  | a :: r => a * prN r
def szs (v : List Nat) (m : Nat) : List Nat := (List.range m).map fun x => (blk v x).length
theorem blk_le {v : List Nat} {x : Nat} : (blk v x).length ≤ v.length := by
  unfold blk
  have := List.length_filter_le (fun s => decide (v.getD s 0 = x)) (List.range v.length)
  rwa [List.length_range] at this
end L2.Gv.Com

set_option Elab.async false
set_option linter.all false
set_option maxRecDepth 100000
set_option maxHeartbeats 1000000
-- GENF
namespace L2.Gv.Com
open PySem PySem.Spec PyProof.Rows L2 L2.Gv
/-! # count_tables, count_full -/
theorem sum_castN : ∀ ns : List Nat, (ns.map fun (n : Nat) => (n : Int)).sum = (ns.sum : Nat)
  | [] => rfl
  | n :: ns => by
    rw [List.map_cons, List.sum_cons, List.sum_cons, sum_castN ns]; omega
def evenB (L : List Nat) : Bool := decide (L = List.replicate L.length (L.headD 0))
def cfull (L : List Nat) : Nat := if evenB L = true then prN ((L.drop 1).map fun s => ff s s) else 0
theorem szs_len (v : List Nat) (m : Nat) : (szs v m).length = m := by unfold szs; rw [List.length_map, List.length_range]
end L2.Gv.Com

set_option Elab.async false
set_option linter.all false
set_option maxRecDepth 100000
set_option maxHeartbeats 1000000
-- GENF
namespace L2.Gv.Com
open PySem PySem.Spec PyProof.Rows L2 L2.Gv
/-! # widest, permitted -/
theorem max_genl {v : List Nat} (h : v ≠ []) : ∃ M : Nat, M ∈ v ∧ (∀ x ∈ v, x ≤ M) ∧ biD .max [.list (nD v)] = some (.im (.int (M : Nat))) := max_gen h
def widA (v : List Nat) (m j : Nat) : List Nat := (List.range m).filterMap fun x => (blk v x)[j]?
theorem widA_mem {v : List Nat} {m j s : Nat} : s ∈ widA v m j ↔ ∃ x, x < m ∧ (blk v x)[j]? = some s := by
  unfold widA
  rw [List.mem_filterMap]
  constructor
  · rintro ⟨x, hx, h⟩; exact ⟨x, List.mem_range.mp hx, h⟩
  · rintro ⟨x, hx, h⟩; exact ⟨x, List.mem_range.mpr hx, h⟩
theorem widA_val {v : List Nat} {m j s : Nat} (h : s ∈ widA v m j) : ∃ x, x < m ∧ v[s]? = some x ∧ (blk v x)[j]? = some s := by
  obtain ⟨x, hx, h⟩ := widA_mem.mp h
  exact ⟨x, hx, blk_mem.mp (List.mem_of_getElem? h), h⟩
theorem blk_nd (v : List Nat) (x : Nat) : (blk v x).Nodup := List.nodup_range.filter _
theorem widA_nd (v : List Nat) (m j : Nat) : (widA v m j).Nodup := by
  unfold widA
  show List.Pairwise (· ≠ ·) _
  rw [List.pairwise_filterMap]
  refine List.nodup_range.imp_of_mem fun {x y} hx hy hne s hs t ht e => ?_
  subst e
  have h1 := blk_mem.mp (List.mem_of_getElem? hs)
  have h2 := blk_mem.mp (List.mem_of_getElem? ht)
  rw [h1] at h2
  exact hne (Option.some.inj h2)
theorem widA_len (v : List Nat) (m j : Nat) : (widA v m j).length = ((szs v m).filter fun s => decide (j < s)).length := by
  unfold widA szs
  rw [List.filter_map, List.length_map]
  induction (List.range m) with
  | nil => rfl
  | cons x r ih =>
    rw [List.filterMap_cons, List.filter_cons]
    by_cases h : j < (blk v x).length
    · rw [List.getElem?_eq_getElem h]
      show _ + 1 = _
      rw [ih]
      rw [if_pos (show ((fun s => decide (j < s)) ∘ fun x => (blk v x).length) x = true from decide_eq_true h)]
      rfl
    · rw [List.getElem?_eq_none (by omega)]
      show (List.filterMap _ r).length = _
      rw [ih, if_neg (show ¬ ((fun s => decide (j < s)) ∘ fun x => (blk v x).length) x = true from by
        show ¬ decide (j < (blk v x).length) = true
        rw [decide_eq_true_eq]; exact h)]
def isMax (K : Nat) (L : List Nat) : Prop := K ∈ L ∧ ∀ x ∈ L, x ≤ K
theorem isMax_eq {K K' : Nat} {L L' : List Nat} (p : L.Perm L') (h : isMax K L) (h' : isMax K' L') : K = K' := by
  have h1 := h'.2 K (p.mem_iff.mp h.1)
  have h2 := h.2 K' (p.mem_iff.mpr h'.1)
  omega
def widN (K : Nat) (L : List Nat) : Nat := ((List.range K).map fun j => (L.filter fun s => decide (j < s)).length * (L.filter fun s => decide (j < s)).length).sum
noncomputable def widP (v : List Nat) (m K : Nat) : List (List Nat) := (List.range K).map fun j => srt (widA v m j)
theorem widP_prt {v : List Nat} {m K : Nat} (hv : Vw v m) (hK : isMax K (szs v m)) : Prt v v.length (widP v m K) := by
  have part : ∀ q ∈ widP v m K, ∃ j, j < K ∧ q = srt (widA v m j) := fun q hq => by
    obtain ⟨j, hj, rfl⟩ := List.mem_map.mp hq
    exact ⟨j, List.mem_range.mp hj, rfl⟩
  have mem : ∀ j s, s ∈ srt (widA v m j) ↔ s ∈ widA v m j := fun j s => (srt_ok _).2.1.mem_iff
  have hKl : ∃ x, x < m ∧ (blk v x).length = K := by
    obtain ⟨x, hx, e⟩ := List.mem_map.mp hK.1
    exact ⟨x, List.mem_range.mp hx, e⟩
  refine ⟨fun q hq s hs => ?_, fun s hs => ?_, fun j1 j2 q1 q2 s g1 g2 m1 m2 => ?_, fun q hq s hs t ht e => ?_, fun q hq e => ?_, fun q hq => ?_, ?_⟩
  · obtain ⟨j, _, rfl⟩ := part q hq
    obtain ⟨x, _, h, _⟩ := widA_val ((mem j s).mp hs)
    exact get_len h
  · have hg : v[s]? = some v[s] := List.getElem?_eq_getElem hs
    have hb : s ∈ blk v v[s] := blk_mem.mpr hg
    obtain ⟨j, hj⟩ := List.getElem?_of_mem hb
    have hjl := get_len hj
    have hx := hv.lt _ (List.getElem_mem hs)
    have hjK : (blk v v[s]).length ≤ K := hK.2 _ (List.mem_map.mpr ⟨_, List.mem_range.mpr hx, rfl⟩)
    exact ⟨srt (widA v m j), List.mem_map.mpr ⟨j, List.mem_range.mpr (by omega), rfl⟩, (mem j s).mpr (widA_mem.mpr ⟨_, hx, hj⟩)⟩
  · have get : ∀ j q, (widP v m K)[j]? = some q → q = srt (widA v m j) := fun j q g => by
      unfold widP at g
      rw [List.getElem?_map] at g
      have hj : j < K := by
        have := (List.getElem?_eq_some_iff.mp (show ((List.range K).map fun j => srt (widA v m j))[j]? = some q by rw [List.getElem?_map]; exact g)).1
        simpa using this
      rw [List.getElem?_range hj] at g
      exact (Option.some.inj g).symm
    rw [get j1 q1 g1] at m1
    rw [get j2 q2 g2] at m2
    obtain ⟨x1, _, h1, b1⟩ := widA_val ((mem _ _).mp m1)
    obtain ⟨x2, _, h2, b2⟩ := widA_val ((mem _ _).mp m2)
    rw [h1] at h2
    cases h2
    exact (List.getElem?_inj (get_len b1) (blk_nd v x1)).mp (b1.trans b2.symm)
  · obtain ⟨j, _, rfl⟩ := part q hq
    obtain ⟨x1, _, h1, b1⟩ := widA_val ((mem _ _).mp hs)
    obtain ⟨x2, _, h2, b2⟩ := widA_val ((mem _ _).mp ht)
    rw [h1, h2] at e
    cases e
    rw [b1] at b2
    exact Option.some.inj b2
  · obtain ⟨j, hj, rfl⟩ := part q hq
    obtain ⟨x, hx, hl⟩ := hKl
    have h1 : (blk v x)[j]? = some ((blk v x)[j]'(by omega)) := List.getElem?_eq_getElem _
    have h2 := (mem j _).mpr (widA_mem.mpr ⟨x, hx, h1⟩)
    rw [e] at h2
    cases h2
  · obtain ⟨j, hj, rfl⟩ := part q hq
    exact lt_of_le_nd (srt_ok _).2.2 ((srt_ok _).2.1.nodup_iff.mpr (widA_nd v m j))
  · obtain ⟨x, _, hl⟩ := hKl
    unfold widP
    rw [List.length_map, List.length_range, ← hl]
    exact blk_le
theorem widest_ok {v : List Nat} {m : Nat} (hv : Vw v m) : ∃ (K : Nat) (T : Tb), isMax K (szs v m) ∧ F_widest.sem [.im (.tuple (nD v))] = .ok (.im (.tuple [.int (widN K (szs v m) : Nat), tD T])) (.im .none) ∧ Tell v m (Same (widP v m K)) T := by
  have nine := hv.nine
  have le := hv.le
  have pos := hv.pos
  have e1 := need_view_ok hv
  have e2 := blocks_of_ok hv
  have hsz : szs v m = ((List.range m).map (blk v)).map List.length := by unfold szs; rw [List.map_map]; rfl
  have hl := szs_len v m
  have hne : szs v m ≠ [] := fun e => by rw [e] at hl; simp at hl; omega
  obtain ⟨K, k1, k2, emax⟩ := max_genl hne
  have hKl : K ≤ v.length := by
    obtain ⟨x, _, e⟩ := List.mem_map.mp k1
    rw [← e]; exact blk_le
  have hP := widP_prt hv ⟨k1, k2⟩
  obtain ⟨qs, s1, s2⟩ := sort_partsX (widP v m K)
  have hQ := prt_perm hP s2
  obtain ⟨T, e3, hT⟩ := table_by_ok' hv hQ
  have hTS : Tell v m (Same (widP v m K)) T := tell_congr hT fun s e => by
    unfold Same
    constructor
    · rintro ⟨q, hq, h⟩; exact ⟨q, s2.mem_iff.mpr hq, h⟩
    · rintro ⟨q, hq, h⟩; exact ⟨q, s2.mem_iff.mp hq, h⟩
  refine ⟨K, T, ⟨k1, k2⟩, ?_, hTS⟩
  have hbs : ∀ b ∈ (List.range m).map (blk v), True := fun _ _ => trivial
  have turn : ∀ j, ((List.range m).map (blk v)).filterMap (fun b => if decide (j < b.length) = true then some (PyData.int (b.getD j 0 : Nat)) else none) = nD (widA v m j) := fun j => by
    unfold widA nD
    rw [List.filterMap_map, List.map_filterMap]
    congr 1
    funext x
    show (if decide (j < (blk v x).length) = true then some (PyData.int ((blk v x).getD j 0 : Nat)) else none) = _
    by_cases h : j < (blk v x).length
    · rw [if_pos (decide_eq_true h), List.getElem?_eq_getElem h, getD_n (List.getElem?_eq_getElem h)]; rfl
    · rw [if_neg (by simpa using h), List.getElem?_eq_none (by omega)]; rfl
  have i1 : F_need_view.io = false := rfl
  have i2 : F_blocks_of.io = false := rfl
  have i3 : F_table_by.io = false := rfl
  have hlen : ∀ j, (widA v m j).length ≤ 9 := fun j => by
    rw [widA_len]
    have := List.length_filter_le (fun s => decide (j < s)) (szs v m)
    omega
  refine fn_eq rfl ?_
  unfold c_widest
  rw [hsz] at emax
  generalize (List.range m).map (blk v) = bs at *
  generalize F_need_view = G1 at *
  generalize F_blocks_of = G2 at *
  generalize F_table_by = G3 at *
  walk_at "wp"
  refine fr_at (e1) rfl ?_
  walk_at "wp"
  refine fr_at (e2) rfl ?_
  walk_at "wp"
  refine ⟨rfl, ?_⟩
  refine lc_m (xs := bs) (enc := fun q => PyData.tuple (nD q)) (fun q => .int (q.length : Nat)) (fun q hq => ⟨_, rfl, ?_⟩) ?_
  · walk_at "wp"
    rw [show @List.length PyData (nD q) = q.length from nD_length q]
    exact ⟨rfl, rfl⟩
  rw [show (bs.map fun q => PyData.int (q.length : Nat)) = nD (bs.map List.length) from by unfold nD; rw [List.map_map]; rfl]
  refine wa_nil ⟨_, emax, ?_⟩
  walk_at "wp"
  refine ⟨by omega, ?_⟩
  refine lf_rng (fun i Γ => ∃ a3, Γ = [some (.im (.tuple (nD v))), some (.im (.tuple (pD bs))), some (.ml (pD ((List.range i).map fun j => srt (widA v m j)))), a3, none, none]) ⟨_, rfl⟩ (fun j Γ hj ⟨a3, eΓ⟩ => ?_) fun Γ ⟨a3, eΓ⟩ => ?_
  · subst eΓ
    refine ⟨_, rfl, ?_⟩
    walk_at "wp"
    refine ⟨rfl, ?_⟩
    refine lc_g (xs := bs) (enc := fun q => PyData.tuple (nD q)) (fun b => if decide (j < b.length) = true then some (PyData.int (b.getD j 0 : Nat)) else none) (fun b hb => ⟨_, rfl, ?_⟩) ?_
    · have hb : @List.length PyData (nD b) = b.length := nD_length b
      walk_at "wp"
      rw [hb]
      refine ⟨fun c => ?_, fun c => ?_⟩
      · have h : j < b.length := by have := of_decide_eq_true c; omega
        have g : b[j]? = some b[j] := List.getElem?_eq_getElem h
        walk_at "wp"
        refine ⟨?_, rfl⟩
        rw [if_pos (decide_eq_true h), getD_n g]; rfl
      · have h : ¬ j < b.length := by have := of_decide_eq_false c; omega
        rw [if_neg (by simpa using h)]
        exact ⟨rfl, rfl⟩
    rw [turn j]
    refine wa_nil ⟨.ml (nD (srt (widA v m j))), by show (sortD (nD _)).map M.ml = _; rw [(srt_ok _).1]; rfl, ?_⟩
    walk_at "wp"
    rw [show @List.length PyData (pD ((List.range j).map fun j => srt (widA v m j))) = j from by
      rw [show @List.length PyData (pD ((List.range j).map fun j => srt (widA v m j))) = _ from pD_length _, List.length_map, List.length_range]]
    refine ⟨by omega, ?_⟩
    walk_at "wp"
    refine ⟨some (.im (.int j)), ?_⟩
    simp only [List.set_cons_zero, List.set_cons_succ, List.map_cons, List.map_nil, List.cons_append, List.nil_append, Nat.reduceSub, List.replicate_succ, List.replicate_zero]
    rw [List.range_succ, List.map_append]
    show [_, _, some (M.ml (pD _ ++ [PyData.tuple (nD (srt (widA v m j)))])), _, _, _] = _
    rw [pD_snoc]; rfl
  subst eΓ
  change Nx _ _ _ _ [_, _, some (.ml (pD (widP v m K))), _, _, _]
  have hWl : ∀ q ∈ widP v m K, ∃ j, j < K ∧ q.length = (widA v m j).length := fun q hq => by
    obtain ⟨j, hj, rfl⟩ := List.mem_map.mp hq
    exact ⟨j, List.mem_range.mp hj, (srt_ok _).2.1.length_eq⟩
  have hsum : ((widP v m K).map fun q => q.length * q.length).sum = widN K (szs v m) := by
    unfold widP widN
    rw [List.map_map]
    congr 1
    refine List.map_congr_left fun j _ => ?_
    show (srt (widA v m j)).length * (srt (widA v m j)).length = _
    rw [(srt_ok _).2.1.length_eq, widA_len]
  generalize widP v m K = W at *
  walk_at "wp"
  refine ⟨rfl, ?_⟩
  refine lc_m (xs := W) (enc := fun q => PyData.tuple (nD q)) (fun q => .int (q.length * q.length : Nat)) (fun q hq => ⟨_, rfl, ?_⟩) ?_
  · obtain ⟨j, _, hj⟩ := hWl q hq
    have := hlen j
    have hq : @List.length PyData (nD q) = q.length := nD_length q
    refine w_bin (w_bi (wa_cons (w_var rfl (wa_nil ⟨.im (.int (q.length : Nat)), by rw [← hq]; rfl, w_bi (wa_cons (w_var rfl (wa_nil ⟨.im (.int (q.length : Nat)), by rw [← hq]; rfl, _, bin_mul (by omega), rfl, rfl⟩)))⟩))))
  rw [show (W.map fun q => PyData.int (q.length * q.length : Nat)) = nD (W.map fun q => q.length * q.length) from by unfold nD; rw [List.map_map]; rfl]
  refine wa_nil ⟨.im (.int (widN K (szs v m) : Nat)), by
    show (intsD (nD _)).map _ = _
    rw [ints_nD]
    show some (M.im (.int (List.sum _))) = _
    rw [sum_castN, hsum], ?_⟩
  walk_at "wp"
  refine ⟨.ml (pD qs), by show (sortD (pD _)).map M.ml = _; rw [s1]; rfl, ?_⟩
  walk_at "wp"
  refine fr_at (e3) rfl ?_
  walk_at "wp"
  rfl
/-- the number of permitted writes -/
def permN (T : Tb) : Nat := (T.map fun r => (r.filter Option.isSome).length).sum
end L2.Gv.Com

set_option Elab.async false
set_option linter.all false
set_option maxRecDepth 100000
set_option maxHeartbeats 1000000
-- GENF
namespace L2.Gv.Com
open PySem PySem.Spec PyProof.Rows L2 L2.Gv
def RowF (n m : Nat) (r : List (Option Nat)) : Prop := r.length = m ∧ ∀ o ∈ r, ∀ e, o = some e → e < n
end L2.Gv.Com

set_option Elab.async false
set_option linter.all false
set_option maxRecDepth 100000
set_option maxHeartbeats 1000000
-- GENF
namespace L2.Gv.Com
open PySem PySem.Spec PyProof.Rows L2 L2.Gv
/-! # The first broken rule -/
def StayB (v : List Nat) (T : Tb) (s : Nat) : Prop := ent T s (v.getD s 0) ≠ some s
def ShownB (v : List Nat) (T : Tb) (s x : Nat) : Prop := ∃ e, ent T s x = some e ∧ v[e]? ≠ some x
def ForgB (T : Tb) (s x y : Nat) : Prop := ∃ e, ent T s x = some e ∧ ent T e y ≠ ent T s y
/-- the first rule that is broken, with the smallest place -/
inductive Rl (v : List Nat) (m : Nat) (T : Tb) : D → Prop
  | stay (s : Nat) (hs : s < v.length) (h : StayB v T s) (hl : ∀ s', s' < s → ¬ StayB v T s') : Rl v m T (.tuple [.str (Str.ofString "stay"), .int (s : Nat)])
  | shown (s x : Nat) (h0 : ∀ s, s < v.length → ¬ StayB v T s) (hs : s < v.length) (hx : x < m) (h : ShownB v T s x) (hl : ∀ s' x', x' < m → (s' < s ∨ (s' = s ∧ x' < x)) → ¬ ShownB v T s' x') : Rl v m T (.tuple [.str (Str.ofString "shown"), .int (s : Nat), .int (x : Nat)])
  | forget (s x y : Nat) (h0 : ∀ s, s < v.length → ¬ StayB v T s) (h1 : ∀ s x, s < v.length → x < m → ¬ ShownB v T s x) (hs : s < v.length) (hx : x < m) (hy : y < m) (h : ForgB T s x y) (hl : ∀ s' x' y', x' < m → y' < m → (s' < s ∨ (s' = s ∧ (x' < x ∨ (x' = x ∧ y' < y)))) → ¬ ForgB T s' x' y') : Rl v m T (.tuple [.str (Str.ofString "forget"), .int (s : Nat), .int (x : Nat), .int (y : Nat)])
  | none (h : Sound v m T) : Rl v m T .none
end L2.Gv.Com

set_option Elab.async false
set_option linter.all false
set_option maxRecDepth 100000
set_option maxHeartbeats 1000000
-- GENF
namespace L2.Gv.Com
open PySem PySem.Spec PyProof.Rows L2 L2.Gv
/-! # States and values numbered otherwise -/
structure Pm (n : Nat) (σ : List Nat) : Prop where
  p : σ.Perm (List.range n)
theorem Pm.len {n : Nat} {σ : List Nat} (h : Pm n σ) : σ.length = n := by rw [h.p.length_eq, List.length_range]
theorem Pm.nd {n : Nat} {σ : List Nat} (h : Pm n σ) : σ.Nodup := h.p.nodup_iff.mpr List.nodup_range
theorem Pm.get {n : Nat} {σ : List Nat} (h : Pm n σ) {s : Nat} (hs : s < n) : σ[s]? = some (σ.getD s 0) := get_getD (by rw [h.len]; exact hs)
theorem Pm.lt {n : Nat} {σ : List Nat} (h : Pm n σ) {s : Nat} (hs : s < n) : σ.getD s 0 < n := List.mem_range.mp (h.p.mem_iff.mp (List.mem_of_getElem? (h.get hs)))
theorem Pm.inj {n : Nat} {σ : List Nat} (h : Pm n σ) {s t : Nat} (hs : s < n) (ht : t < n) (e : σ.getD s 0 = σ.getD t 0) : s = t := by
  have h1 := h.get hs
  have h2 := h.get ht
  rw [← e] at h2
  exact (List.getElem?_inj (by rw [h.len]; exact hs) h.nd).mp (h1.trans h2.symm)
theorem Pm.surj {n : Nat} {σ : List Nat} (h : Pm n σ) {t : Nat} (ht : t < n) : ∃ s, s < n ∧ σ.getD s 0 = t := by
  have := h.p.mem_iff.mpr (List.mem_range.mpr ht)
  obtain ⟨s, hs⟩ := List.getElem?_of_mem this
  exact ⟨s, by have := get_len hs; rwa [h.len] at this, getD_n hs⟩
structure Turned (v : List Nat) (m : Nat) (T : Tb) (σ τ w : List Nat) (U : Tb) : Prop where
  len : w.length = v.length
  shp : Shp U v.length m
  vw : ∀ s, s < v.length → w[σ.getD s 0]? = some (τ.getD (v.getD s 0) 0)
  ent : ∀ s x, s < v.length → x < m → Com.ent U (σ.getD s 0) (τ.getD x 0) = (Com.ent T s x).map fun e => σ.getD e 0
end L2.Gv.Com

set_option Elab.async false
set_option linter.all false
set_option maxRecDepth 100000
set_option maxHeartbeats 1000000
-- GENF
namespace L2.Gv.Com
open PySem PySem.Spec PyProof.Rows L2 L2.Gv
/-! # What does not depend on the numbering -/
theorem map_getD_perm {n : Nat} {σ : List Nat} (h : Pm n σ) {α : Type} (f : Nat → α) : ((List.range n).map fun s => f (σ.getD s 0)).Perm ((List.range n).map f) := by
  have e : (List.range n).map (fun s => σ.getD s 0) = σ := by
    refine List.ext_getElem? fun i => ?_
    by_cases hi : i < n
    · rw [List.getElem?_map, List.getElem?_range hi, h.get hi]; rfl
    · rw [List.getElem?_eq_none (by rw [List.length_map, List.length_range]; omega), List.getElem?_eq_none (by rw [h.len]; omega)]
  have := (h.p.map f)
  rw [← e, List.map_map] at this
  exact this
section
variable {v σ τ w : List Nat} {m : Nat} {T U : Tb}
theorem Turned.get (t : Turned v m T σ τ w U) {s : Nat} (hs : s < v.length) : w.getD (σ.getD s 0) 0 = τ.getD (v.getD s 0) 0 := getD_n (t.vw s hs)
theorem vlt (hv : Vw v m) {s : Nat} (hs : s < v.length) : v.getD s 0 < m := hv.lt _ (List.mem_of_getElem? (get_getD hs))
theorem Turned.shows (t : Turned v m T σ τ w U) (hv : Vw v m) (hτ : Pm m τ) {s x : Nat} (hs : s < v.length) (hx : x < m) : w[σ.getD s 0]? = some (τ.getD x 0) ↔ v[s]? = some x := by
  rw [t.vw s hs, get_getD hs]
  constructor
  · intro e
    rw [hτ.inj (vlt hv hs) hx (Option.some.inj e)]
  · intro e
    rw [Option.some.inj e]
theorem Turned.blk (t : Turned v m T σ τ w U) (hv : Vw v m) (hσ : Pm v.length σ) (hτ : Pm m τ) {x : Nat} (hx : x < m) : (Com.blk w (τ.getD x 0)).Perm ((Com.blk v x).map fun s => σ.getD s 0) := by
  refine nd_perm (blk_nd _ _) ?_ fun a => ?_
  · show List.Pairwise (· ≠ ·) _
    rw [List.pairwise_map]
    refine (blk_nd v x).imp_of_mem fun {s u} hs hu h e => h (hσ.inj (get_len (blk_mem.mp hs)) (get_len (blk_mem.mp hu)) e)
  · rw [blk_mem, List.mem_map]
    constructor
    · intro h
      obtain ⟨s, hs, rfl⟩ := hσ.surj (by have := get_len h; rwa [t.len] at this)
      exact ⟨s, blk_mem.mpr ((t.shows hv hτ hs hx).mp h), rfl⟩
    · rintro ⟨s, hs, rfl⟩
      have := blk_mem.mp hs
      exact (t.shows hv hτ (get_len this) hx).mpr this
theorem Turned.szs (t : Turned v m T σ τ w U) (hv : Vw v m) (hσ : Pm v.length σ) (hτ : Pm m τ) : (Com.szs v m).Perm (Com.szs w m) := by
  unfold Com.szs
  refine List.Perm.trans ?_ (map_getD_perm hτ fun y => (Com.blk w y).length)
  rw [List.map_congr_left fun x hx => ?_]
  have := (t.blk hv hσ hτ (List.mem_range.mp hx)).length_eq
  rw [this, List.length_map]
end
end L2.Gv.Com

set_option Elab.async false
set_option linter.all false
set_option maxRecDepth 100000
set_option maxHeartbeats 1000000
-- GENF
namespace L2.Gv.Com
open PySem PySem.Spec PyProof.Rows L2 L2.Gv
/-! # The first broken rule and the partition of a table that is numbered otherwise -/
section
variable {v σ τ w : List Nat} {m : Nat} {T U : Tb}
/-- the kind of what broken tells -/
def kdD : D → Nat
  | .tuple (.str _ :: .int _ :: []) => 1
  | .tuple (.str _ :: .int _ :: .int _ :: []) => 2
  | .tuple (.str _ :: .int _ :: .int _ :: .int _ :: []) => 3
  | _ => 0
structure Kd (v : List Nat) (m : Nat) (T : Tb) : Prop where
  s : (∃ s, s < v.length ∧ StayB v T s) ∨ ¬ ∃ s, s < v.length ∧ StayB v T s
noncomputable def tnP (σ : List Nat) (ps : List (List Nat)) : List (List Nat) := ps.map fun q => srt (q.map fun s => σ.getD s 0)
end
end L2.Gv.Com

set_option Elab.async false
set_option linter.all false
set_option maxRecDepth 100000
set_option maxHeartbeats 1000000
namespace L2.Gv.Com
open PySem PySem.Spec PyProof.Rows L2 L2.Gv
/-! # repr tells plain data apart -/
def shc (d : D) : List Nat := d.shown.cps.toList
def joinc : List (List Nat) → List Nat
  | [] => []
  | [x] => x
  | x :: y :: r => x ++ (44 :: 32 :: joinc (y :: r))
mutual
/-- None, bools, figures, tuples and lists of such -/
def c0 : D → Bool
  | .none => true
  | .bool _ => true
  | .int i => decide (0 ≤ i) && decide (i < 10)
  | .tuple xs => c0All xs
  | .list xs => c0All xs
  | .str _ => false
  | .dict _ => false
def c0All : List D → Bool
  | [] => true
  | d :: r => c0 d && c0All r
end
/-- what may stand behind an item -/
def Beh : List Nat → Prop
  | [] => True
  | c :: _ => c = 44 ∨ c = 41 ∨ c = 93
/-- what may stand behind the last item -/
def ClsR : List Nat → Prop
  | 41 :: _ => True
  | 93 :: _ => True
  | 44 :: 41 :: _ => True
  | _ => False
end L2.Gv.Com

set_option Elab.async false
set_option linter.all false
set_option maxRecDepth 100000
set_option maxHeartbeats 1000000
namespace L2.Gv.Com
open PySem PySem.Spec PyProof.Rows L2 L2.Gv
/-! # No partition has a greater sum of squares than the widest -/
def sm {α : Type} (l : List α) (f : α → Nat) : Nat := (l.map f).sum
theorem sm_nil {α : Type} (f : α → Nat) : sm [] f = 0 := rfl
theorem sm_cons {α : Type} (a : α) (l : List α) (f : α → Nat) : sm (a :: l) f = f a + sm l f := by unfold sm; rw [List.map_cons, List.sum_cons]
theorem sm_congr {α : Type} {l : List α} {f g : α → Nat} (h : ∀ a ∈ l, f a = g a) : sm l f = sm l g := by unfold sm; rw [List.map_congr_left h]
theorem sm_le {α : Type} {l : List α} {f g : α → Nat} (h : ∀ a ∈ l, f a ≤ g a) : sm l f ≤ sm l g := by
  induction l with
  | nil => exact Nat.le_refl _
  | cons a l ih => rw [sm_cons, sm_cons]; exact Nat.add_le_add (h a List.mem_cons_self) (ih fun b hb => h b (List.mem_cons_of_mem _ hb))
theorem sm_add {α : Type} (l : List α) (f g : α → Nat) : sm l (fun a => f a + g a) = sm l f + sm l g := by
  induction l with
  | nil => rfl
  | cons a l ih => rw [sm_cons, sm_cons, sm_cons, ih]; omega
theorem sm_zero {α : Type} (l : List α) : sm l (fun _ => 0) = 0 := by
  induction l with
  | nil => rfl
  | cons a l ih => rw [sm_cons, ih]
theorem sm_comm {α β : Type} (l : List α) (r : List β) (f : α → β → Nat) : sm l (fun a => sm r (f a)) = sm r (fun b => sm l fun a => f a b) := by
  induction l with
  | nil => rw [sm_nil]; exact (sm_zero r).symm
  | cons a l ih => rw [sm_cons, ih, ← sm_add]; exact sm_congr fun b _ => (sm_cons a l fun a => f a b).symm
theorem sm_mulR {α : Type} (l : List α) (f : α → Nat) (c : Nat) : sm l f * c = sm l fun a => f a * c := by
  induction l with
  | nil => rw [sm_nil, sm_nil, Nat.zero_mul]
  | cons a l ih => rw [sm_cons, sm_cons, ← ih, Nat.add_mul]
theorem sm_mul {α : Type} (l : List α) (f : α → Nat) : sm l f * sm l f = sm l fun a => sm l fun b => f a * f b := by
  rw [sm_mulR]
  exact sm_congr fun a _ => by rw [Nat.mul_comm, sm_mulR]; exact sm_congr fun b _ => Nat.mul_comm _ _
def ind (b : Bool) : Nat := if b then 1 else 0
theorem sm_ind {α : Type} (l : List α) (p : α → Bool) : sm l (fun a => ind (p a)) = (l.filter p).length := by
  induction l with
  | nil => rfl
  | cons a l ih =>
    rw [sm_cons, ih, List.filter_cons]
    cases p a with
    | true => simp [ind]; omega
    | false => simp [ind]
theorem sub_len {l r : List Nat} (h : l.Nodup) (s : ∀ x ∈ l, x ∈ r) : l.length ≤ r.length := by
  induction l generalizing r with
  | nil => exact Nat.zero_le _
  | cons a l ih =>
    obtain ⟨h1, h2⟩ := List.nodup_cons.mp h
    have ha := s a List.mem_cons_self
    have := ih h2 (r := r.erase a) fun x hx => (List.mem_erase_of_ne (show x ≠ a from fun e => h1 (by rw [← e]; exact hx))).mpr (s x (List.mem_cons_of_mem _ hx))
    rw [List.length_erase_of_mem ha] at this
    have := List.length_pos_of_mem ha
    rw [List.length_cons]; omega
/-- the part holds the value -/
def hits (v : List Nat) (q : List Nat) (x : Nat) : Bool := q.any fun s => decide (v.getD s 0 = x)
theorem ind_mul (a b : Bool) : ind a * ind b = ind (a && b) := by cases a <;> cases b <;> rfl
theorem ind_le (a b : Bool) : ind (a && b) ≤ ind a ∧ ind (a && b) ≤ ind b := by cases a <;> cases b <;> exact ⟨by decide, by decide⟩
theorem part_len {v : List Nat} {m : Nat} {ps : List (List Nat)} {q : List Nat} (hv : Vw v m) (hP : Prt v v.length ps) (hq : q ∈ ps) : q.length ≤ sm (List.range m) fun x => ind (hits v q x) := by
  rw [sm_ind]
  have nd : (q.map fun s => v.getD s 0).Nodup := by
    rw [List.nodup_iff_pairwise_ne, List.pairwise_map]
    refine (hP.asc q hq).imp_of_mem fun {a b} ha hb hab e => ?_
    have := hP.val q hq a ha b hb (by rw [get_getD (hP.lt q hq a ha), get_getD (hP.lt q hq b hb), e])
    omega
  have sub : ∀ x ∈ q.map (fun s => v.getD s 0), x ∈ (List.range m).filter (hits v q) := fun x hx => by
    obtain ⟨s, hs, rfl⟩ := List.mem_map.mp hx
    refine List.mem_filter.mpr ⟨List.mem_range.mpr (hv.lt _ (List.mem_of_getElem? (get_getD (hP.lt q hq s hs)))), ?_⟩
    unfold hits
    exact List.any_eq_true.mpr ⟨s, hs, decide_eq_true rfl⟩
  have := sub_len nd sub
  rwa [List.length_map] at this
theorem hits_le {v : List Nat} {ps : List (List Nat)} (hP : Prt v v.length ps) (x : Nat) : sm ps (fun q => ind (hits v q x)) ≤ (blk v x).length := by
  have h1 : sm ps (fun q => ind (hits v q x)) ≤ sm ps fun q => (q.filter fun s => decide (v.getD s 0 = x)).length := sm_le fun q _ => by
    unfold hits ind
    by_cases h : (q.any fun s => decide (v.getD s 0 = x)) = true
    · rw [if_pos h]
      obtain ⟨s, hs, e⟩ := List.any_eq_true.mp h
      exact List.length_pos_of_mem (List.mem_filter.mpr ⟨hs, e⟩)
    · rw [if_neg h]; exact Nat.zero_le _
  have h2 : sm ps (fun q => (q.filter fun s => decide (v.getD s 0 = x)).length) = (ps.flatten.filter fun s => decide (v.getD s 0 = x)).length := by
    clear h1 hP
    induction ps with
    | nil => rfl
    | cons q ps ih => rw [sm_cons, ih, List.flatten_cons, List.filter_append, List.length_append]
  rw [h2, ((prt_flatR hP).filter _).length_eq] at h1
  exact h1
theorem min_sum (K a b : Nat) (ha : a ≤ K) (hb : b ≤ K) : sm (List.range K) (fun j => ind (decide (j < a)) * ind (decide (j < b))) = min a b := by
  rw [sm_congr (g := fun j => ind (decide (j < min a b))) fun j _ => by
    rw [ind_mul, ← Bool.decide_and]
    congr 2
    exact propext (by omega), sm_ind]
  have hm : min a b ≤ K := by omega
  generalize min a b = c at *
  clear ha hb
  induction K with
  | zero => rw [show c = 0 by omega]; rfl
  | succ K ih =>
    rw [List.range_succ, List.filter_append, List.length_append]
    by_cases h : c ≤ K
    · rw [ih h, List.filter_cons, if_neg (by simp; omega)]; rfl
    · have e : c = K + 1 := by omega
      subst e
      rw [List.filter_cons, if_pos (by simp), List.filter_eq_self.mpr fun j hj => decide_eq_true (by have := List.mem_range.mp hj; omega), List.length_range]; rfl
/-- the widest's number, by pairs of values -/
theorem wid_pairs {v : List Nat} {m K : Nat} (hK : ∀ x ∈ szs v m, x ≤ K) : widN K (szs v m) = sm (List.range m) fun x => sm (List.range m) fun y => min (blk v x).length (blk v y).length := by
  have e : ∀ j, ((szs v m).filter fun s => decide (j < s)).length = sm (List.range m) fun x => ind (decide (j < (blk v x).length)) := fun j => by
    rw [sm_ind]
    unfold szs
    rw [List.filter_map, List.length_map]; rfl
  have hb : ∀ x, x ∈ List.range m → (blk v x).length ≤ K := fun x hx => hK _ (List.mem_map.mpr ⟨x, hx, rfl⟩)
  show sm (List.range K) (fun j => _ * _) = _
  rw [sm_congr (g := fun j => sm (List.range m) fun x => sm (List.range m) fun y => ind (decide (j < (blk v x).length)) * ind (decide (j < (blk v y).length))) fun j _ => by rw [e j]; exact sm_mul _ _]
  rw [sm_comm]
  refine sm_congr fun x hx => ?_
  rw [sm_comm]
  exact sm_congr fun y hy => min_sum K _ _ (hb x hx) (hb y hy)
/-- no partition is wider than the widest -/
theorem sq_le {v : List Nat} {m K : Nat} {ps : List (List Nat)} (hv : Vw v m) (hP : Prt v v.length ps) (hK : ∀ x ∈ szs v m, x ≤ K) : sm ps (fun q => q.length * q.length) ≤ widN K (szs v m) := by
  have h1 : sm ps (fun q => q.length * q.length) ≤ sm ps fun q => sm (List.range m) fun x => sm (List.range m) fun y => ind (hits v q x) * ind (hits v q y) := sm_le fun q hq => by
    rw [← sm_mul]
    exact Nat.mul_le_mul (part_len hv hP hq) (part_len hv hP hq)
  refine Nat.le_trans h1 ?_
  rw [wid_pairs hK, sm_comm]
  refine sm_le fun x _ => ?_
  rw [sm_comm]
  refine sm_le fun y _ => ?_
  have a1 : sm ps (fun q => ind (hits v q x) * ind (hits v q y)) ≤ sm ps fun q => ind (hits v q x) := sm_le fun q _ => by rw [ind_mul]; exact (ind_le _ _).1
  have a2 : sm ps (fun q => ind (hits v q x) * ind (hits v q y)) ≤ sm ps fun q => ind (hits v q y) := sm_le fun q _ => by rw [ind_mul]; exact (ind_le _ _).2
  exact Nat.le_min.mpr ⟨Nat.le_trans a1 (hits_le hP x), Nat.le_trans a2 (hits_le hP y)⟩
/-- the widest's parts reach it -/
theorem widP_sq {v : List Nat} {m K : Nat} : sm (widP v m K) (fun q => q.length * q.length) = widN K (szs v m) := by
  unfold sm widP widN
  rw [List.map_map]
  congr 1
  refine List.map_congr_left fun j _ => ?_
  show (srt (widA v m j)).length * (srt (widA v m j)).length = _
  rw [(srt_ok _).2.1.length_eq, widA_len]
end L2.Gv.Com

set_option Elab.async false
set_option linter.all false
set_option maxRecDepth 100000
set_option maxHeartbeats 1000000
namespace L2.Gv.Com
open PySem PySem.Spec PyProof.Rows L2 L2.Gv
/-! # What a partition's table permits is its sum of squares -/
theorem some_len (r : List (Option Nat)) : (rowP r).length = (r.filter Option.isSome).length := by
  unfold rowP
  induction r with
  | nil => rfl
  | cons o r ih =>
    rw [List.filterMap_cons, List.filter_cons]
    cases o with
    | none => exact ih
    | some e => show _ + 1 = _ + 1; rw [ih]
theorem sm_perm {α : Type} {l r : List α} (p : l.Perm r) (f : α → Nat) : sm l f = sm r f := (p.map f).sum_nat
theorem sm_flat {α : Type} (ps : List (List α)) (f : α → Nat) : sm ps.flatten f = sm ps fun q => sm q f := by
  induction ps with
  | nil => rfl
  | cons q ps ih =>
    rw [sm_cons, ← ih, List.flatten_cons]
    unfold sm
    rw [List.map_append, List.sum_append]
theorem sm_const {α : Type} (l : List α) (c : Nat) : sm l (fun _ => c) = l.length * c := by
  induction l with
  | nil => rw [sm_nil, List.length_nil, Nat.zero_mul]
  | cons a l ih => rw [sm_cons, ih, List.length_cons, Nat.add_mul]; omega
theorem row_part {v : List Nat} {m s : Nat} {ps : List (List Nat)} {T : Tb} {q : List Nat} {r : List (Option Nat)} (hv : Vw v m) (hP : Prt v v.length ps) (hT : Tell v m (Same ps) T) (hq : q ∈ ps) (hs : s ∈ q) (hr : T[s]? = some r) : (r.filter Option.isSome).length = q.length := by
  have hsl := hP.lt q hq s hs
  obtain ⟨h1, h2⟩ := rowP_asc (n := 0) (q := []) (qq := []) hT hsl hr
  rw [← some_len]
  have nd : q.Nodup := (hP.asc q hq).imp fun h => Nat.ne_of_lt h
  refine Nat.le_antisymm (sub_len h1 fun e he => ?_) (sub_len nd fun e he => ?_)
  · obtain ⟨⟨q', hq', a1, a2⟩, _⟩ := (h2 e).mp he
    rw [hP.one hq hq' hs a1]; exact a2
  · have hel := hP.lt q hq e he
    exact (h2 e).mpr ⟨⟨q, hq, hs, he⟩, _, hv.lt _ (List.mem_of_getElem? (get_getD hel)), get_getD hel⟩
theorem tell_perm {v : List Nat} {m : Nat} {ps : List (List Nat)} {T : Tb} (hv : Vw v m) (hP : Prt v v.length ps) (hT : Tell v m (Same ps) T) : permN T = sm ps fun q => q.length * q.length := by
  have e1 : permN T = sm (List.range v.length) fun s => ((T.getD s []).filter Option.isSome).length := by
    unfold permN sm
    congr 1
    refine List.ext_getElem? fun i => ?_
    rw [List.getElem?_map, List.getElem?_map]
    by_cases h : i < v.length
    · rw [List.getElem?_range h]
      obtain ⟨r, hr, _⟩ := hT.1.get h
      rw [hr]
      show some _ = some _
      congr 3
      unfold List.getD
      rw [hr]; rfl
    · rw [List.getElem?_eq_none (by rw [hT.1.len]; omega), List.getElem?_eq_none (by rw [List.length_range]; omega)]; rfl
  rw [e1, ← sm_perm (prt_flatR hP), sm_flat]
  refine sm_congr fun q hq => ?_
  rw [sm_congr (g := fun _ => q.length) fun s hs => ?_, sm_const]
  obtain ⟨r, hr, _⟩ := hT.1.get (hP.lt q hq s hs)
  have := row_part hv hP hT hq hs hr
  unfold List.getD
  rw [hr]; exact this
end L2.Gv.Com

set_option Elab.async false
set_option linter.all false
set_option maxRecDepth 100000
set_option maxHeartbeats 1000000
namespace L2.Gv.Com
open PySem PySem.Spec PyProof.Rows L2 L2.Gv
/-! # The partitions, listed state by state -/
def nextL (v : List Nat) (s : Nat) (p : List (List Nat)) : List (List (List Nat)) :=
  (p ++ [[s]]) :: (List.range p.length).filterMap fun k => if v.getD s 0 ∈ (p.getD k []).map (fun t => v.getD t 0) then none else some (p.set k (p.getD k [] ++ [s]))
theorem next_prt {v : List Nat} {s : Nat} {p : List (List Nat)} (h : Prt v s p) (hs : s < v.length) : ∀ q ∈ nextL v s p, Prt v (s + 1) q := fun q hq => by
  rcases List.mem_cons.mp hq with rfl | hq
  · exact prt_new h
  · obtain ⟨k, hk, e⟩ := List.mem_filterMap.mp hq
    have hk := List.mem_range.mp hk
    have hg : p[k]? = some (p.getD k []) := by unfold List.getD; rw [List.getElem?_eq_getElem hk]; rfl
    split at e
    · cases e
    · rename_i hn
      cases e
      refine prt_join h hg fun t ht ee => hn ?_
      have htl := h.lt _ (List.mem_of_getElem? hg) t ht
      rw [get_getD hs, get_getD (by omega)] at ee
      exact List.mem_map.mpr ⟨t, ht, Option.some.inj ee⟩
theorem next_len {v : List Nat} {s : Nat} {p : List (List Nat)} (h : Prt v s p) : (nextL v s p).length ≤ s + 1 := by
  unfold nextL
  rw [List.length_cons]
  have := List.length_filterMap_le (fun k => if v.getD s 0 ∈ (p.getD k []).map (fun t => v.getD t 0) then none else some (p.set k (p.getD k [] ++ [s]))) (List.range p.length)
  rw [List.length_range] at this
  have := h.few
  omega
end L2.Gv.Com

set_option Elab.async false
set_option linter.all false
set_option maxRecDepth 100000
set_option maxHeartbeats 1000000
namespace L2.Gv.Com
open PySem PySem.Spec PyProof.Rows L2 L2.Gv
/-! # The listing: every partition, and nothing else -/
def listN (v : List Nat) : Nat → List (List (List Nat))
  | 0 => [[]]
  | s + 1 => (listN v s).flatMap (nextL v s)
theorem listN_prt {v : List Nat} : ∀ {s : Nat}, s ≤ v.length → ∀ p ∈ listN v s, Prt v s p
  | 0, _, p, hp => by rw [List.mem_singleton.mp hp]; exact prt_nil v
  | s + 1, hs, p, hp => by
    obtain ⟨q, hq, h⟩ := List.mem_flatMap.mp hp
    exact next_prt (listN_prt (by omega) q hq) (by omega) p h
theorem flat_len {α β : Type} {f : α → List β} {k : Nat} : ∀ {l : List α}, (∀ a ∈ l, (f a).length ≤ k) → (l.flatMap f).length ≤ l.length * k
  | [], _ => Nat.zero_le _
  | a :: l, h => by
    rw [List.flatMap_cons, List.length_append, List.length_cons, Nat.add_mul]
    have h1 := h a List.mem_cons_self
    have h2 := flat_len (l := l) fun b hb => h b (List.mem_cons_of_mem _ hb)
    omega
theorem listN_len {v : List Nat} : ∀ {s : Nat}, s ≤ v.length → s ≤ 6 → (listN v s).length ≤ 7 ^ s
  | 0, _, _ => Nat.le_refl _
  | s + 1, hs, h6 => by
    have h1 := listN_len (v := v) (s := s) (by omega) (by omega)
    have h2 := flat_len (l := listN v s) (f := nextL v s) (k := 7) fun p hp => by
      have := next_len (listN_prt (s := s) (by omega) p hp)
      omega
    show ((listN v s).flatMap (nextL v s)).length ≤ _
    rw [Nat.pow_succ]
    exact Nat.le_trans h2 (Nat.mul_le_mul_right 7 h1)
theorem asc_last {q : List Nat} {s : Nat} (ha : q.Pairwise (· < ·)) (hl : ∀ t ∈ q, t < s + 1) (hs : s ∈ q) : ∃ q', q = q' ++ [s] := by
  obtain ⟨a, b, rfl⟩ := List.append_of_mem hs
  cases b with
  | nil => exact ⟨a, rfl⟩
  | cons x b =>
    obtain ⟨_, h, _⟩ := List.pairwise_append.mp ha
    have h1 := (List.pairwise_cons.mp h).1 x List.mem_cons_self
    have h2 := hl x (by simp)
    omega
theorem parts_len {ps : List (List Nat)} (h : ∀ q ∈ ps, q ≠ []) : ps.length ≤ ps.flatten.length := by
  induction ps with
  | nil => exact Nat.le_refl _
  | cons q ps ih =>
    have h1 := List.length_pos_iff.mpr (h q List.mem_cons_self)
    have h2 := ih fun r hr => h r (List.mem_cons_of_mem _ hr)
    rw [List.flatten_cons, List.length_append, List.length_cons]
    omega
/-- the last state taken away from its part -/
theorem prt_del {v : List Nat} {s : Nat} {q' : List Nat} {r : List (List Nat)} (h : Prt v (s + 1) ((q' ++ [s]) :: r)) : (q' = [] → Prt v s r) ∧ (q' ≠ [] → Prt v s (q' :: r)) ∧ ∀ t ∈ q', v[t]? ≠ v[s]? := by
  have dp := List.pairwise_cons.mp (dis_pair h.dis)
  have hn : ∀ p ∈ r, s ∉ p := fun p hp => dp.1 p hp s (by simp)
  have ltr : ∀ p ∈ r, ∀ t ∈ p, t < s := fun p hp t ht => by
    have := h.lt p (List.mem_cons_of_mem _ hp) t ht
    have : t ≠ s := fun e => hn p hp (e ▸ ht)
    omega
  have aq := List.pairwise_append.mp (h.asc _ List.mem_cons_self)
  have ltq : ∀ t ∈ q', t < s := fun t ht => aq.2.2 t ht s (by simp)
  have fl : ((q' ++ [s]) :: r).flatten.length = s + 1 := by rw [(prt_flatR h).length_eq, List.length_range]
  have fl' : q'.length + r.flatten.length = s := by
    rw [List.flatten_cons, List.length_append, List.length_append, List.length_singleton] at fl
    omega
  have al : ∀ t, t < s → t ∈ q' ∨ ∃ p ∈ r, t ∈ p := fun t ht => by
    obtain ⟨p, hp, hm⟩ := h.all t (by omega)
    rcases List.mem_cons.mp hp with rfl | hp
    · rcases List.mem_append.mp hm with hm | hm
      · exact .inl hm
      · have := List.mem_singleton.mp hm; omega
    · exact .inr ⟨p, hp, hm⟩
  refine ⟨fun e => ?_, fun e => ?_, fun t ht e => ?_⟩
  · subst e
    refine ⟨ltr, fun t ht => ?_, pair_dis dp.2, fun p hp => h.val p (List.mem_cons_of_mem _ hp), fun p hp => h.ne p (List.mem_cons_of_mem _ hp), fun p hp => h.asc p (List.mem_cons_of_mem _ hp), ?_⟩
    · rcases al t ht with z | z
      · cases z
      · exact z
    · have := h.few
      rw [List.length_cons] at this; omega
  · have ne : ∀ p ∈ q' :: r, p ≠ [] := fun p hp => by
      rcases List.mem_cons.mp hp with rfl | hp
      · exact e
      · exact h.ne p (List.mem_cons_of_mem _ hp)
    refine ⟨fun p hp t ht => ?_, fun t ht => ?_, pair_dis (List.pairwise_cons.mpr ⟨fun p hp t ht => dp.1 p hp t (by simp [ht]), dp.2⟩), fun p hp t ht u hu => ?_, ne, fun p hp => ?_, ?_⟩
    · rcases List.mem_cons.mp hp with rfl | hp
      · exact ltq t ht
      · exact ltr p hp t ht
    · rcases al t ht with z | ⟨p, hp, z⟩
      · exact ⟨q', List.mem_cons_self, z⟩
      · exact ⟨p, List.mem_cons_of_mem _ hp, z⟩
    · rcases List.mem_cons.mp hp with rfl | hp
      · exact h.val _ List.mem_cons_self t (by simp [ht]) u (by simp [hu])
      · exact h.val p (List.mem_cons_of_mem _ hp) t ht u hu
    · rcases List.mem_cons.mp hp with rfl | hp
      · exact aq.1
      · exact h.asc p (List.mem_cons_of_mem _ hp)
    · have := parts_len ne
      rw [List.flatten_cons, List.length_append] at this
      omega
  · have := h.val _ List.mem_cons_self t (by simp [ht]) s (by simp) e
    have := ltq t ht
    omega
/-- every partition is listed, but for its parts' order -/
theorem listN_all {v : List Nat} : ∀ {s : Nat} {ps : List (List Nat)}, s ≤ v.length → Prt v s ps → ∃ p ∈ listN v s, p.Perm ps
  | 0, ps, _, h => by
    have := h.few
    have e := List.eq_nil_of_length_eq_zero (show ps.length = 0 by omega)
    subst e
    exact ⟨[], List.mem_singleton.mpr rfl, .refl _⟩
  | s + 1, ps, hs, h => by
    obtain ⟨q, hq, hm⟩ := h.all s (by omega)
    obtain ⟨a, b, rfl⟩ := List.append_of_mem hq
    obtain ⟨q', rfl⟩ := asc_last (h.asc q hq) (h.lt q hq) hm
    have hp : (a ++ (q' ++ [s]) :: b).Perm ((q' ++ [s]) :: (a ++ b)) := List.perm_middle
    have h' := prt_perm h hp.symm
    obtain ⟨d1, d2, d3⟩ := prt_del h'
    by_cases e : q' = []
    · obtain ⟨p, m, pp⟩ := listN_all (by omega) (d1 e)
      refine ⟨p ++ [[s]], List.mem_flatMap.mpr ⟨p, m, List.mem_cons_self⟩, ?_⟩
      subst e
      exact ((List.perm_append_comm (l₁ := p) (l₂ := [[s]])).trans (pp.cons [s])).trans hp.symm
    · obtain ⟨p, m, pp⟩ := listN_all (by omega) (d2 e)
      obtain ⟨c, d, rfl⟩ := List.append_of_mem (pp.mem_iff.mpr List.mem_cons_self)
      have gk : (c ++ q' :: d).getD c.length [] = q' := by simp
      have sk : (c ++ q' :: d).set c.length (q' ++ [s]) = c ++ (q' ++ [s]) :: d := by simp
      have pcd : (c ++ d).Perm (a ++ b) := (List.perm_cons q').mp ((List.perm_middle.symm).trans pp)
      refine ⟨c ++ (q' ++ [s]) :: d, List.mem_flatMap.mpr ⟨_, m, List.mem_cons_of_mem _ (List.mem_filterMap.mpr ⟨c.length, List.mem_range.mpr (by simp), ?_⟩)⟩, ?_⟩
      · rw [gk, if_neg, sk]
        intro z
        obtain ⟨t, ht, ee⟩ := List.mem_map.mp z
        have h1 := (listN_prt (by omega) _ m).lt q' (by simp) t ht
        refine d3 t ht ?_
        rw [get_getD (show t < v.length by omega), get_getD (show s < v.length by omega), ee]
      · exact (List.perm_middle.trans (pcd.cons _)).trans hp.symm
end L2.Gv.Com

set_option Elab.async false
set_option linter.all false
set_option maxRecDepth 100000
set_option maxHeartbeats 1000000
-- GENF
namespace L2.Gv.Com
open PySem PySem.Spec PyProof.Rows L2 L2.Gv
/-! # Partitions sorted; the law's own listing -/
theorem alikeAll_pD : ∀ p q : List (List Nat), PySem.W.alikeAll (pD p) (pD q) = true
  | [], _ => by unfold pD; rw [List.map_nil, PySem.W.alikeAll]
  | x :: p, [] => by unfold pD; rw [List.map_nil, List.map_cons, PySem.W.alikeAll]
  | x :: p, y :: q => by
    have := alikeAll_pD p q
    show PySem.W.alikeAll (.tuple (nD x) :: pD p) (.tuple (nD y) :: pD q) = true
    rw [PySem.W.alikeAll, this, alike_T]; rfl
theorem itmk_tp (p : List (List Nat)) : ItmK (tpD p) 2 := itmk_tup (itmk_pD p)
def leP (a b : List (List Nat)) : Bool := leD (tpD a) (tpD b)
/-- partitions in ascending order -/
noncomputable def srtP (xs : List (List (List Nat))) : List (List (List Nat)) := xs.mergeSort leP
theorem srtP_perm (xs : List (List (List Nat))) : (srtP xs).Perm xs := List.mergeSort_perm _ _
theorem sortB_tp {xs : List (List (List Nat))} (hn : ∀ p ∈ xs, p ≠ []) : sortB (xs.map tpD) = true := by
  unfold sortB
  rw [Bool.and_eq_true, Bool.and_eq_true]
  refine ⟨⟨?_, ?_⟩, ?_⟩
  · unfold alikeB
    rw [List.all_eq_true]
    intro d hd
    rw [List.all_eq_true]
    intro e he
    obtain ⟨p, _, rfl⟩ := List.mem_map.mp hd
    obtain ⟨q, _, rfl⟩ := List.mem_map.mp he
    unfold tpD
    rw [PySem.W.alike]
    exact alikeAll_pD p q
  · rw [Bool.or_eq_true]
    left
    rw [List.all_eq_true]
    intro d hd
    obtain ⟨p, hp, rfl⟩ := List.mem_map.mp hd
    have := hn p hp
    cases p with
    | nil => exact absurd rfl this
    | cons x r => rfl
  · unfold depthOk
    rw [List.all_eq_true]
    intro d hd
    obtain ⟨p, hp, rfl⟩ := List.mem_map.mp hd
    have := (itmk_tp p).dep
    exact decide_eq_true (by omega)
theorem sort_tp {xs : List (List (List Nat))} (hn : ∀ p ∈ xs, p ≠ []) : sortD (xs.map tpD) = some ((srtP xs).map tpD) := by
  unfold sortD
  rw [if_pos (sortB_tp hn)]
  congr 1
  exact (List.map_mergeSort (f := tpD) (fun a _ b _ => rfl)).symm
/-- the step of the listing: what the first z places give -/
def uptL (v : List Nat) (s : Nat) (p : List (List Nat)) (z : Nat) : List (List (List Nat)) :=
  (p ++ [[s]]) :: (List.range z).filterMap fun k => if v.getD s 0 ∈ (p.getD k []).map (fun t => v.getD t 0) then none else some (p.set k (p.getD k [] ++ [s]))
theorem uptL_all (v : List Nat) (s : Nat) (p : List (List Nat)) : uptL v s p p.length = nextL v s p := rfl
theorem uptL_out {v : List Nat} {s z : Nat} {p : List (List Nat)} (h : v.getD s 0 ∈ (p.getD z []).map fun t => v.getD t 0) : uptL v s p (z + 1) = uptL v s p z := by
  unfold uptL
  rw [List.range_succ, List.filterMap_append, List.filterMap_cons, if_pos h, List.filterMap_nil, List.append_nil]
theorem uptL_in {v : List Nat} {s z : Nat} {p : List (List Nat)} (h : ¬ v.getD s 0 ∈ (p.getD z []).map fun t => v.getD t 0) : uptL v s p (z + 1) = uptL v s p z ++ [p.set z (p.getD z [] ++ [s])] := by
  unfold uptL
  rw [List.range_succ, List.filterMap_append, List.filterMap_cons, if_neg h, List.filterMap_nil]; rfl
theorem uptL_len {v : List Nat} {s z : Nat} {p : List (List Nat)} : (uptL v s p z).length ≤ z + 1 := by
  unfold uptL
  have := List.length_filterMap_le (fun k => if v.getD s 0 ∈ (p.getD k []).map (fun t => v.getD t 0) then none else some (p.set k (p.getD k [] ++ [s]))) (List.range z)
  rw [List.length_range] at this
  rw [List.length_cons]; omega
theorem flat_take {α β : Type} {f : α → List β} {l : List α} {j : Nat} {a : α} (h : l[j]? = some a) : (l.take (j + 1)).flatMap f = (l.take j).flatMap f ++ f a := by
  rw [List.take_add_one, h]
  show List.flatMap f (_ ++ [a]) = _
  rw [List.flatMap_append]
  simp
theorem listN_ne {v : List Nat} : ∀ {s : Nat}, 0 < s → s ≤ v.length → ∀ p ∈ listN v s, p ≠ [] := fun {s} h hs p hp e => by
  subst e
  obtain ⟨q, hq, _⟩ := (listN_prt hs _ hp).all 0 h
  cases hq
set_option maxHeartbeats 4000000 in
theorem law_listing_ok {v : List Nat} {m : Nat} (hv : Vw v m) (h6 : v.length ≤ 6) : F__law_listing.sem [.im (.tuple (nD v))] = .ok (.ml ((srtP (listN v v.length)).map tpD)) (.im .none) := by
  have one := hv.one
  have hV : @List.length PyData (nD v) = v.length := nD_length v
  refine fn_eq rfl ?_
  unfold c__law_listing
  walk_at "wp"
  rw [hV]
  refine ⟨by omega, ?_⟩
  refine lf_rng (fun i Γ => ∃ a2 a3 a4 a5 a6, Γ = [some (.im (.tuple (nD v))), some (.ml ((listN v i).map tpD)), a2, a3, a4, a5, a6] ∧ plainM a6 = true) ⟨_, _, _, _, _, rfl, rfl⟩ (fun i Γ hi ⟨a2, a3, a4, a5, a6, eΓ, ha6⟩ => ?_) fun Γ ⟨a2, a3, a4, a5, a6, eΓ, ha6⟩ => ?_
  · subst eΓ
    have hP := listN_prt (v := v) (s := i) (by omega)
    have hl := listN_len (v := v) (s := i) (by omega) (by omega)
    have hl6 : (listN v i).length ≤ 7 ^ 5 := Nat.le_trans hl (Nat.pow_le_pow_right (by omega) (by omega))
    have gi := get_getD hi
    have eN : listN v (i + 1) = (listN v i).flatMap (nextL v i) := rfl
    generalize listN v i = pps at *
    refine ⟨_, rfl, ?_⟩
    walk_at "wp"
    refine lf_typ (xs := pps) (enc := tpD) (fun j Γ => ∃ a4 a5 a6, Γ = [some (.im (.tuple (nD v))), some (.im (.list (pps.map tpD))), some (.im (.int i)), some (.ml (((pps.take j).flatMap (nextL v i)).map tpD)), a4, a5, a6] ∧ plainM a6 = true ∧ ((pps.take j).flatMap (nextL v i)).length ≤ 7 * j) ⟨_, _, _, rfl, ha6, by simp⟩ (fun j ps Γ hj ⟨a4, a5, a6, eΓ, ha6, kl⟩ => ?_) fun Γ ⟨a4, a5, a6, eΓ, ha6, kl⟩ => ?_
    · subst eΓ
      have hps := hP ps (List.mem_of_getElem? hj)
      have hjl := get_len hj
      have hfew := hps.few
      have eT := flat_take (f := nextL v i) hj
      generalize (pps.take j).flatMap (nextL v i) = later at *
      refine ⟨_, rfl, ?_⟩
      have hpl : @List.length PyData (pD ps) = ps.length := pD_length ps
      unfold tpD
      walk_at "wp"
      refine ⟨_, tup_add (ys := [.tuple [.int i]]) (by rw [pD_length]; simp; omega), ?_⟩
      walk_at "wp"
      refine ⟨by rw [List.length_map]; omega, ?_⟩
      walk_at "wp"
      rw [hpl]
      refine ⟨by omega, ?_⟩
      refine lf_rng (fun z Γ => ∃ a5 a6, Γ = [some (.im (.tuple (nD v))), some (.im (.list (pps.map tpD))), some (.im (.int i)), some (.ml ((later ++ uptL v i ps z).map tpD)), some (.im (.tuple (pD ps))), a5, a6] ∧ plainM a6 = true) ⟨a5, a6, ?_, ha6⟩ (fun z Γ hz ⟨a5, a6, eΓ, ha6⟩ => ?_) fun Γ ⟨a5, a6, eΓ, ha6⟩ => ?_
      · rw [List.map_append]
        simp only [List.set_cons_zero, List.set_cons_succ, List.map_cons, List.map_nil, List.cons_append, List.nil_append, Nat.reduceSub, List.replicate_succ, List.replicate_zero]
        rw [show uptL v i ps 0 = [ps ++ [[i]]] from rfl, show [ps ++ [[i]]].map tpD = [frz (M.im (PyData.tuple (pD ps ++ [PyData.tuple [PyData.int (i : Nat)]])))] from by
          rw [show pD ps ++ [PyData.tuple [PyData.int (i : Nat)]] = pD (ps ++ [[i]]) from pD_snoc ps [i]]; rfl]
        rfl
      · subst eΓ
        have gz : ps[z]? = some (ps.getD z []) := by unfold List.getD; rw [List.getElem?_eq_getElem hz]; rfl
        have eo := uptL_out (v := v) (s := i) (p := ps) (z := z)
        have ei := uptL_in (v := v) (s := i) (p := ps) (z := z)
        have ul := uptL_len (v := v) (s := i) (p := ps) (z := z)
        generalize uptL v i ps z = U at *
        generalize ps.getD z [] = q at *
        have hqm := List.mem_of_getElem? gz
        have hql := hps.len hqm
        have hqlt := hps.lt q hqm
        refine ⟨_, rfl, ?_⟩
        walk_at "wp"
        refine ⟨by simp [ha6], ?_⟩
        refine lc_m (xs := q) (enc := fun n : Nat => .int n) (fun t => .int (v.getD t 0)) (fun t ht => ?_) ?_
        · have gt := get_getD (w := v) (i := t) (by have := hqlt t ht; omega)
          refine ⟨_, rfl, ?_⟩
          walk_at "wp"
          exact ⟨rfl, rfl⟩
        rw [show q.map (fun t => PyData.int (v.getD t 0 : Nat)) = nD (q.map fun t => v.getD t 0) from by unfold nD; rw [List.map_map]; rfl]
        by_cases hin : v.getD i 0 ∈ q.map fun t => v.getD t 0
        · refine ⟨_, notin_f (k := 0) (e := .list (nD (q.map fun t => v.getD t 0))) rfl (itmk_int _) (itmk_nD _) (by omega) (nD_iff.mpr hin), ?_⟩
          walk_at "wp"
          rw [eo hin]
          exact ⟨_, _, rfl, ha6⟩
        · refine ⟨_, notin_t (k := 0) (e := .list (nD (q.map fun t => v.getD t 0))) rfl (itmk_int _) (itmk_nD _) (by omega) (fun c => hin (nD_iff.mp c)), ?_⟩
          walk_at "wp"
          refine ⟨_, tup_add (ys := [.int i]) (by rw [nD_length]; simp; omega), ?_⟩
          walk_at "wp"
          refine ⟨.im (.tuple (pD (ps.take z ++ [q ++ [i]]))), ?_, ?_⟩
          · show binD .Add (.tuple (cutD (pD ps) none (some ((z : Nat) : Int)))) (.tuple [.tuple (nD q ++ [.int (i : Nat)])]) = _
            rw [cut_take, tup_add (by rw [List.length_take, pD_length]; simp; omega), pD_take, show nD q ++ [PyData.int (i : Nat)] = nD (q ++ [i]) from nD_snoc q i, pD_snoc]
          walk_at "wp"
          refine ⟨.im (.tuple (pD (ps.set z (q ++ [i])))), ?_, ?_⟩
          · show binD .Add (.tuple (pD (ps.take z ++ [q ++ [i]]))) (.tuple (cutD (pD ps) (some ((z + 1 : Nat) : Int)) none)) = _
            rw [cut_drop, pD_drop, tup_add (by rw [pD_length, pD_length, List.length_append, List.length_take, List.length_drop]; simp; omega), pD_app, set_parts hz]
          walk_at "wp"
          refine ⟨by rw [List.length_map, List.length_append]; omega, ?_⟩
          walk_at "wp"
          rw [ei hin]
          exact ⟨_, _, by rw [← List.append_assoc, List.map_append (l₂ := [_])]; rfl, ha6⟩
      · subst eΓ
        walk_at "wp"
        refine ⟨_, _, _, by rw [eT, ← uptL_all v i ps]; rfl, ha6, ?_⟩
        rw [eT, List.length_append]
        have := next_len hps
        omega
    · subst eΓ
      walk_at "wp"
      rw [eN]
      rw [List.take_of_length_le (Nat.le_refl _)] at *
      exact ⟨_, _, _, _, _, rfl, ha6⟩
  · subst eΓ
    have hs := sort_tp (xs := listN v v.length) (listN_ne (by omega) (Nat.le_refl _))
    generalize listN v v.length = pps at *
    walk_at "wp"
    refine ⟨.ml ((srtP pps).map tpD), ?_, ?_⟩
    · show (sortD _).map M.ml = _
      rw [hs]; rfl
    walk_at "wp"
    rfl
end L2.Gv.Com

set_option Elab.async false
set_option linter.all false
set_option maxRecDepth 100000
set_option maxHeartbeats 1000000
-- GENF
namespace L2.Gv.Law
open PySem PySem.Spec PyProof.Rows L2 L2.Gv L2.Gv.Com
theorem cnt_blk (v : List Nat) (x : Nat) : (nD v).countP (fun y => PyData.eqv y (.int x)) = (blk v x).length := by
  unfold nD blk
  rw [List.countP_map, ← List.countP_eq_length_filter]
  conv => lhs; rw [show v = (List.range v.length).map fun s => v.getD s 0 from (List.ext_getElem? fun i => by
    rw [List.getElem?_map]
    by_cases h : i < v.length
    · rw [List.getElem?_range h, List.getElem?_eq_getElem h]
      show _ = some (v.getD i 0)
      unfold List.getD
      rw [List.getElem?_eq_getElem h]; rfl
    · rw [List.getElem?_eq_none (by omega), List.getElem?_eq_none (by rw [List.length_range]; omega)]; rfl)]
  rw [List.countP_map]
  refine List.countP_congr fun s _ => ?_
  show PyData.eqv (.int _) (.int _) = true ↔ _
  rw [eqv_int]
  simp only [decide_eq_true_eq]
  omega
theorem view_cnt (v : List Nat) (x : Nat) : mthR .count (.tuple (nD v)) [.int x] = some (.im (.int ((blk v x).length : Nat))) := by
  rw [← cnt_blk]
  show (if (Gv.shp (.int x) && Gv.shp (.tuple (nD v))) = true then _ else none) = _
  rw [((itmk_int x).itm (by omega)).shp, ((itmk_tup (itmk_nD v)).itm (by omega)).shp]; rfl
theorem law_sizes_ok {v : List Nat} {m : Nat} (hv : Vw v m) : F__law_sizes.sem [.im (.tuple (nD v))] = .ok (.ml (nD (szs v m))) (.im .none) := by
  obtain ⟨m', rfl, hm⟩ := max_nat hv
  have nine := hv.nine
  have le := hv.le
  have vc := view_cnt v
  refine fn_eq rfl ?_
  unfold c__law_sizes
  walk_at "wp"
  refine ⟨_, hm, ?_⟩
  walk_at "wp"
  refine ⟨by omega, rfl, ?_⟩
  refine lc_m (xs := List.range (m' + 1)) (enc := fun (x : Nat) => .int x) (fun x => .int ((blk v x).length : Nat)) (fun x hx => ⟨_, rfl, ?_⟩) ?_
  · have c1 := vc x
    walk_at "wp"
    refine ⟨rfl, ?_⟩
    walk_at "wp"
    exact ⟨_, c1, rfl, rfl⟩
  rw [show ((List.range (m' + 1)).map fun x => PyData.int ((blk v x).length : Nat)) = nD (szs v (m' + 1)) from by unfold nD szs; rw [List.map_map]; rfl]
  walk_at "wp"
  rfl
theorem one_view {v : List Nat} {m : Nat} (hv : Vw v m) : ∃ (K : Nat) (T : Tb), isMax K (szs v m) ∧ F_widest.sem [.im (.tuple (nD v))] = .ok (.im (.tuple [.int (widN K (szs v m) : Nat), tD T])) (.im .none) ∧
    F__law_is_table.sem [.im (.tuple (nD v)), .im (tD T)] = .ok (.im (.bool true)) (.im .none) ∧ F__law_sound.sem [.im (.tuple (nD v)), .im (tD T)] = .ok (.im (.bool true)) (.im .none) ∧ permN T = widN K (szs v m) := by
  obtain ⟨K, T, hK, e, hT⟩ := widest_ok hv
  have hP := widP_prt hv hK
  have hS := sound_of hv hP hT
  obtain ⟨b, e2, hb⟩ := law_table_x hv (d := tD T) (nx2_tup fun e he => by
    obtain ⟨r, rfl, _⟩ := tRows_mem he
    show (rD r).all nx0B = true
    rw [List.all_eq_true]
    intro d hd
    obtain ⟨o, _, rfl⟩ := List.mem_map.mp hd
    cases o <;> rfl)
  have hb := hb.mpr ⟨T, rfl, hS.shp, hS.ents⟩
  subst hb
  exact ⟨K, T, hK, e, e2, law_sound_ok hv hS, by rw [tell_perm hv hP hT]; exact widP_sq⟩
def sqN (p : List (List Nat)) : Nat := sm p fun q => q.length * q.length
theorem row_cnt (r : List (Option Nat)) : mthR .count (.tuple (rD r)) [.none] = some (.im (.int (((rD r).countP fun y => PyData.eqv y .none : Nat) : Int))) := by
  show (if (Gv.shp .none && Gv.shp (.tuple (rD r))) = true then _ else none) = _
  rw [(itmk_none.itm (by omega)).shp, ((itmk_tup (itmk_rD r)).itm (by omega)).shp]; rfl
theorem none_cnt (r : List (Option Nat)) : (rD r).countP (fun y => PyData.eqv y .none) + (r.filter Option.isSome).length = r.length := by
  induction r with
  | nil => rfl
  | cons o r ih =>
    have e0 : rD (o :: r) = oD o :: rD r := rfl
    rw [e0, List.countP_cons, List.filter_cons, List.length_cons, ← ih]
    cases o with
    | none =>
      have h1 : PyData.eqv (oD none) .none = true := rfl
      simp only [h1, Option.isSome, if_true, Bool.false_eq_true, if_false]
      omega
    | some e =>
      have h1 : PyData.eqv (oD (some e)) .none = false := rfl
      simp only [h1, Option.isSome, if_true, Bool.false_eq_true, if_false, List.length_cons]
      omega
theorem row_sub (r : List (Option Nat)) : binD .Sub (.int ((@List.length PyData (rD r) : Nat) : Int)) (.int (((rD r).countP fun y => PyData.eqv y .none : Nat) : Int)) = some (.im (.int ((r.filter Option.isSome).length : Nat))) := by
  have h := none_cnt r
  have hl : @List.length PyData (rD r) = r.length := List.length_map _
  rw [hl]
  show some (M.im (PyData.int (((r.length : Nat) : Int) - _))) = _
  congr 3
  omega
theorem sum_nD (xs : List Nat) : biD .sum [.list (nD xs)] = some (.im (.int (xs.sum : Nat))) := by
  show (intsD (nD _)).map _ = _
  rw [ints_nD]
  show some (M.im (.int (List.sum _))) = _
  rw [sum_castN]
theorem sum_perm (T : Tb) : biD .sum [.list (T.map fun r => PyData.int ((r.filter Option.isSome).length : Nat))] = some (.im (.int (permN T : Nat))) := by
  rw [show (T.map fun r => PyData.int ((r.filter Option.isSome).length : Nat)) = nD (T.map fun r => (r.filter Option.isSome).length) from by unfold nD; rw [List.map_map]; rfl, sum_nD]; rfl
theorem wholeN (n : Int) : F__law_whole.sem [.im (.int n)] = .ok (.im (.bool true)) (.im .none) := whole_any (d := .int n) (nx0_of rfl)
/-- the greatest number that a listed partition permits -/
theorem most_eq {v : List Nat} {m K : Nat} (hv : Vw v m) (hK : isMax K (szs v m)) {M : Nat} (hM : M ∈ (srtP (listN v v.length)).map sqN) (hM2 : ∀ x ∈ (srtP (listN v v.length)).map sqN, x ≤ M) : M = widN K (szs v m) := by
  have pm := srtP_perm (listN v v.length)
  obtain ⟨p, hp, rfl⟩ := List.mem_map.mp hM
  have h1 : sqN p ≤ widN K (szs v m) := sq_le hv (listN_prt (Nat.le_refl _) p (pm.mem_iff.mp hp)) hK.2
  obtain ⟨q, hq, qq⟩ := listN_all (Nat.le_refl _) (widP_prt hv hK)
  have h2 := hM2 (sqN q) (List.mem_map.mpr ⟨q, pm.mem_iff.mpr hq, rfl⟩)
  have h3 : sqN q = widN K (szs v m) := (sm_perm qq _).trans widP_sq
  omega
theorem filt_nD (S : List Nat) (j : Nat) : S.filterMap (fun s => if decide (j < s) = true then some (PyData.int (s : Nat)) else none) = nD (S.filter fun s => decide (j < s)) := by
  induction S with
  | nil => rfl
  | cons s S ih =>
    rw [List.filterMap_cons, List.filter_cons, ih]
    by_cases h : decide (j < s) = true
    · rw [if_pos h, if_pos h]; rfl
    · rw [if_neg h, if_neg h]
theorem sq_bin {a : Nat} (h : a ≤ 9) : binD .Mult (.int a) (.int a) = some (.im (.int (a * a : Nat))) := bin_mul (by omega)
theorem says : Says F_law := by
  refine ⟨rfl, rfl, fun ns _ => ?_⟩
  obtain ⟨c0, ec0⟩ := cell_ok ns 0
  obtain ⟨c1, ec1⟩ := cell_ok ns 1
  have ec0 : F__law_cell_at.sem [.im (scrD ns), .im (.int 0)] = .ok (.im (.int c0)) (.im .none) := ec0
  have ec1 : F__law_cell_at.sem [.im (scrD ns), .im (.int 1)] = .ok (.im (.int c1)) (.im .none) := ec1
  obtain ⟨p0, ep0, hp0⟩ := pen_ok c0
  obtain ⟨p1, ep1, hp1⟩ := pen_ok c1
  obtain ⟨v, m, q0, e0, hv, h6, _⟩ := every_view_ok (most := 6) hp0 (by decide) (by decide) (by decide)
  obtain ⟨w, mw, q1, e1, hw, _, _⟩ := every_view_ok (most := 9) hp1 (by decide) (by decide) (by decide)
  rw [show ((6 : Nat) : Int) = 6 from rfl] at e0
  rw [show ((9 : Nat) : Int) = 9 from rfl] at e1
  have el := law_listing_ok hv h6
  have all : ∀ u ∈ [v, w], ∃ mu, Vw u mu := fun u hu => by
    simp only [List.mem_cons, List.mem_nil_iff, or_false] at hu
    rcases hu with rfl | rfl
    · exact ⟨m, hv⟩
    · exact ⟨mw, hw⟩
  have ov := fun (u : List Nat) (mu : Nat) (hu : Vw u mu) => one_view hu
  have sz := fun (u : List Nat) (mu : Nat) (hu : Vw u mu) => law_sizes_ok hu
  have whl := wholeN
  obtain ⟨K, T, hK, ew, _⟩ := ov v m hv
  have hmost : ∀ k : Nat, k ∈ (srtP (listN v v.length)).map sqN → (∀ x ∈ (srtP (listN v v.length)).map sqN, x ≤ k) → k = widN K (szs v m) := fun k => most_eq hv hK
  have hl6 := listN_len (v := v) (s := v.length) (Nat.le_refl _) h6
  have lne : srtP (listN v v.length) ≠ [] := fun e => by
    obtain ⟨q, hq, _⟩ := listN_all (Nat.le_refl _) (widP_prt hv hK)
    have := (srtP_perm (listN v v.length)).mem_iff.mpr hq
    rw [e] at this; cases this
  have hprt : ∀ p ∈ srtP (listN v v.length), Prt v v.length p := fun p hp => listN_prt (Nat.le_refl _) p ((srtP_perm _).mem_iff.mp hp)
  have nine := hv.nine
  generalize srtP (listN v v.length) = L at *
  have eM := max_genl (v := L.map sqN) (by simpa using lne)
  obtain ⟨M0, m1, m2, em⟩ := eM
  have hM := hmost M0 m1 m2
  refine fn_eq rfl ?_
  unfold c_law
  have i1 : F_widest.io = false := rfl
  have i2 : F__law_is_table.io = false := rfl
  have i3 : F__law_sound.io = false := rfl
  have i4 : F__law_sizes.io = false := rfl
  have i5 : F__law_whole.io = false := rfl
  have i6 : F__law_listing.io = false := rfl
  generalize F_widest = G1 at *
  generalize F__law_is_table = G2 at *
  generalize F__law_sound = G3 at *
  generalize F__law_sizes = G4 at *
  generalize F__law_whole = G5 at *
  generalize F__law_listing = G6 at *
  walk_at "wp"
  refine fr_at (ec0) rfl ?_
  walk_at "wp"
  refine fr_at (ep0) rfl ?_
  walk_at "wp"
  refine fr_at (e0) rfl ?_
  walk_at "wp"
  refine fr_at (el) rfl ?_
  refine ⟨_, rfl, ?_⟩
  walk_at "wp"
  refine ⟨rfl, ?_⟩
  refine lc_m (xs := L) (enc := tpD) (fun p => .int (sqN p : Nat)) (fun p hp => ⟨_, rfl, ?_⟩) ?_
  · have hq := fun q (h : q ∈ p) => (hprt p hp).len h
    unfold tpD
    walk_at "wp"
    refine ⟨rfl, ?_⟩
    refine lc_m (xs := p) (enc := fun q => PyData.tuple (nD q)) (fun q => .int (q.length * q.length : Nat)) (fun q hqm => ⟨_, rfl, ?_⟩) ?_
    · have := hq q hqm
      have hq : @List.length PyData (nD q) = q.length := nD_length q
      refine w_bin (w_bi (wa_cons (w_var rfl (wa_nil ⟨.im (.int (q.length : Nat)), by rw [← hq]; rfl, w_bi (wa_cons (w_var rfl (wa_nil ⟨.im (.int (q.length : Nat)), by rw [← hq]; rfl, _, bin_mul (by omega), rfl, rfl⟩)))⟩))))
    rw [show (p.map fun q => PyData.int (q.length * q.length : Nat)) = nD (p.map fun q => q.length * q.length) from by unfold nD; rw [List.map_map]; rfl]
    refine wa_nil ⟨_, sum_nD _, ?_⟩
    exact ⟨rfl, rfl⟩
  rw [show (L.map fun p => PyData.int (sqN p : Nat)) = nD (L.map sqN) from by unfold nD; rw [List.map_map]; rfl]
  refine wa_nil ⟨_, em, ?_⟩
  walk_at "wp"
  refine fr_at (ec1) rfl ?_
  walk_at "wp"
  refine fr_at (ep1) rfl ?_
  walk_at "wp"
  refine fr_at (e1) rfl ?_
  walk_at "wp"
  refine lf_typ (xs := [v, w]) (enc := fun u => PyData.tuple (nD u)) (fun i Γ => ∃ (a0 a3 a4 a5 a6 a7 a8 a9 a10 a11 a12 a13 a14 : Option M), Γ = [a0, some (.im (.tuple (nD v))), some (.im (.int (M0 : Nat))), a3, a4, a5, a6, a7, a8, a9, a10, a11, a12, a13, a14] ∧ plainM a9 = true ∧ plainM a12 = true ∧ plainM a13 = true ∧ plainM a14 = true) ⟨_, _, _, _, _, _, _, _, _, _, _, _, _, rfl, rfl, rfl, rfl, rfl⟩ (fun i u Γ hi ⟨a0, a3, a4, a5, a6, a7, a8, a9, a10, a11, a12, a13, a14, eΓ, k9, k12, k13, k14⟩ => ?_) fun Γ ⟨a0, a3, a4, a5, a6, a7, a8, a9, a10, a11, a12, a13, a14, eΓ, k9, k12, k13, k14⟩ => ?_
  · subst eΓ
    obtain ⟨mu, hu⟩ := all u (List.mem_of_getElem? hi)
    obtain ⟨K', U, hK', g1, g2, g3, hperm⟩ := ov u mu hu
    have g4 := sz u mu hu
    have nine' := hu.nine
    have le' := hu.le
    have hsl := szs_len u mu
    have hKl : K' ≤ u.length := by
      obtain ⟨x, _, e⟩ := List.mem_map.mp hK'.1
      rw [← e]; exact blk_le
    have sne : szs u mu ≠ [] := fun e => by rw [e] at hK'; exact absurd hK'.1 (by simp)
    obtain ⟨K2, k1, k2, emax⟩ := max_genl sne
    have eK := isMax_eq (.refl _) (show isMax K2 (szs u mu) from ⟨k1, k2⟩) hK'
    subst eK
    have wdef : widN K2 (szs u mu) = (((List.range K2).map fun j => ((szs u mu).filter fun s => decide (j < s)).length).map fun a => a * a).sum := by
      unfold widN; rw [List.map_map]; rfl
    have hfl : ∀ j, ((szs u mu).filter fun s => decide (j < s)).length ≤ 9 := fun j => by
      have := List.length_filter_le (fun s => decide (j < s)) (szs u mu)
      omega
    generalize szs u mu = S at *
    refine ⟨_, rfl, ?_⟩
    walk_at "wp"
    refine fr_at (g1) rfl ?_
    walk_at "wp"
    refine ⟨fun v r e => (by cases e), _, rfl, _, rfl, fun c => (by cases c), fun _ => ?_⟩
    walk_at "wp"
    refine fr_at (whl _) rfl ?_
    walk_at "wp"
    refine fr_at (g2) rfl ?_
    walk_at "wp"
    refine fr_at (g3) rfl ?_
    walk_at "wp"
    refine ⟨by simp [k9], ?_⟩
    refine lc_m (xs := U) (enc := fun row => PyData.tuple (rD row)) (fun r => .int ((r.filter Option.isSome).length : Nat)) (fun r hr => ⟨_, rfl, ?_⟩) ?_
    · have c1 := row_cnt r
      have c2 := row_sub r
      walk_at "wp"
      refine ⟨rfl, ?_⟩
      walk_at "wp"
      refine ⟨_, c1, ?_⟩
      walk_at "wp"
      exact ⟨M.im.inj (Option.some.inj c2), rfl⟩
    refine wa_nil ⟨.im (.int (permN U : Nat)), sum_perm U, _, cmp_ne _ _, _, rfl, fun c => ?_, fun c => ?_⟩
    · rw [hperm] at c
      exact absurd c (by simp)
    walk_at "wp"
    refine fr_at (g4) rfl ?_
    walk_at "wp"
    refine ⟨_, emax, ?_⟩
    walk_at "wp"
    refine ⟨by omega, by simp [k13], ?_⟩
    refine lc_m (xs := List.range K2) (enc := fun (j : Nat) => .int j) (fun j => .int ((S.filter fun s => decide (j < s)).length : Nat)) (fun j hj => ⟨_, rfl, ?_⟩) ?_
    · walk_at "wp"
      refine ⟨by simp [k12, wipeG], ?_⟩
      refine lc_g (xs := S) (enc := fun s : Nat => PyData.int s) (fun s => if decide (j < s) = true then some (.int s) else none) (fun s hs => ⟨_, rfl, ?_⟩) ?_
      · walk_at "wp"
        refine ⟨fun c => ?_, fun c => ?_⟩
        · walk_at "wp"
          refine ⟨?_, rfl⟩
          rw [if_pos c]; rfl
        · rw [if_neg (by rw [c]; decide)]
          exact ⟨rfl, rfl⟩
      rw [filt_nD]
      generalize S.filter (fun s => decide (j < s)) = F
      refine wa_nil ⟨.im (.int (F.length : Nat)), by rw [← nD_length F]; rfl, ?_⟩
      exact ⟨rfl, rfl⟩
    rw [show ((List.range K2).map fun j => PyData.int ((S.filter fun s => decide (j < s)).length : Nat)) = nD ((List.range K2).map fun j => (S.filter fun s => decide (j < s)).length) from by unfold nD; rw [List.map_map]; rfl]
    have h9 : ∀ a ∈ (List.range K2).map (fun j => (S.filter fun s => decide (j < s)).length), a ≤ 9 := fun a ha => by
      obtain ⟨j, _, rfl⟩ := List.mem_map.mp ha
      exact hfl j
    generalize (List.range K2).map (fun j => (S.filter fun s => decide (j < s)).length) = B at *
    walk_at "wp"
    refine ⟨by simp [k14], ?_⟩
    refine lc_m (xs := B) (enc := fun a : Nat => PyData.int a) (fun a => .int (a * a : Nat)) (fun a ha => ⟨_, rfl, ?_⟩) ?_
    · exact w_bin (w_var rfl (w_var rfl ⟨_, sq_bin (h9 a ha), rfl, rfl⟩))
    rw [show (B.map fun a => PyData.int (a * a : Nat)) = nD (B.map fun a => a * a) from by unfold nD; rw [List.map_map]; rfl]
    refine wa_nil ⟨_, sum_nD _, _, cmp_ne _ _, _, rfl, fun c => ?_, fun c => ?_⟩
    · rw [wdef] at c
      exact absurd c (by simp)
    walk_at "wp"
    exact ⟨_, _, _, _, _, _, _, _, _, _, _, _, _, rfl, by first | exact k9 | rfl, by first | exact k12 | rfl, by first | exact k13 | rfl, by first | exact k14 | rfl⟩
  · subst eΓ
    walk_at "wp"
    refine fr_at (ew) rfl ?_
    walk_at "wp"
    rw [hM, decide_eq_true rfl]
end L2.Gv.Law

set_option maxRecDepth 100000 in
set_option maxHeartbeats 0 in
theorem PySem.Challenge.cw_writebacks_k13_widest_table_holds : PySem.Challenge.rw_writebacks_k13_widest_table.Holds := by
  exact L2.Gv.Law.holds_of L2.Gv.Law.says
