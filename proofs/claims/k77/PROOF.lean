import PyProof.Rows.All
import Wide.All
import OpenK.AllK
import Wide.FinOn
import HandS.ForMost
import HandS.HeadHook2
import HandS.Star
import HandS.Defaults
import HandS.Exc
import HandS.ClsMeth
import HandS.Property
import HandS.IsInst
import HandS.Wide
import HandS.TupAny
import HandS.Deep
import HandS.SortInts
import HandS.Conv
import HandS.WordsDict
import HandS.RaiseMore
import HandS.HeadNt
import HandS.CallLocal
import HandS.StrSplit
import HandS.Strs
import HandS.Text
import HandS.StrMore
import HandS.Style
import PyProof.AutoSeq1
import HandS.Iter
import HandS.DictComp
import HandS.Zip
import KE.GoesMore
import PyProof.EnumMake
import HandS.TupLe
import HandS.TupMul
import OpenK.KMeth
import PyProof.CallFns
import KE.KDictZip
import KE.KParD
import KE.KTupSum
import HandS.SortRule
import KE.KOwnIter
import HandS.IterVal
import HandS.ForExc
import HandS.Head0
import HandS.Head1
import HandS.Head2
import HandS.HeadEnd
import HandS.HeadHook1
import PySem.Challenge.RW_pagefloor_k77_whole_tight_settings_of_ch
set_option Elab.async false
set_option linter.all false
set_option maxRecDepth 100000
set_option maxHeartbeats 4000000
set_option autoImplicit false
namespace Vt
open PySem PySem.Spec PyProof.Rows L2
/-- data as trees: `glo x` what the module's name x stands for, `hnd i` the i-th changeable thing -/
inductive D where
  | non | bl (b : Bool) | int (i : Int) | str (x : Str) | ty (n : String)
  | lst (xs : List D) | tup (xs : List D) | dic (ks : List Key) (xs : List D)
  | ins (C : String) (xs : List D)
  | glo (x : String)
  | hnd (i : Nat)
  | slf (xs : List D)
/-- a changeable thing's content -/
inductive MO where
  | gone | lst (xs : List D) | dic (ks : List Key) (xs : List D) | ins (C : String) (xs : List D)
inductive Res (α : Type) where
  | bad | ok (a : α) (m : List MO) | exc (C : String) (xs : List D) (m : List MO)
def Res.bind {α β : Type} (r : Res α) (k : α → List MO → Res β) : Res β :=
  match r with
  | .bad => .bad
  | .ok a m => k a m
  | .exc C xs m => .exc C xs m
/-- the text's facts: the written part, each class's attributes in order -/
structure Tx where
  K : PySem.W.Frag
  nm : String → List Str
def Tx.at_ (T : Tx) (x : String) : Addr := He.ga T.K (Str.ofString x)
section
variable (T : Tx) (F : Hp) (ad : List Addr)
mutual
def Is : D → V → Prop
  | .non, v => v = .non
  | .bl b, v => v = .bl b
  | .int i, v => v = .int i
  | .str x, v => v = .str x
  | .ty n, v => v = .ty n
  | .lst xs, v => ∃ a vs, v = .ref a ∧ F a = some (.lst vs) ∧ IsL xs vs
  | .slf xs, v => ∃ a vs, v = .ref a ∧ SqL T.K F a vs ∧ IsL xs vs
  | .tup xs, v => ∃ a vs, v = .ref a ∧ SqT T.K F a vs ∧ IsL xs vs
  | .dic ks xs, v => ∃ a o vs, v = .ref a ∧ F a = some (.frz o (.dK (ks.zip vs))) ∧ vs.length = ks.length ∧ IsL xs vs
  | .ins C xs, v => ∃ a dx fs, v = .ref a ∧ F a = some (.ins (T.at_ C) dx fs) ∧ fs.map Prod.fst = (T.nm C).take xs.length ∧ IsL xs (fs.map Prod.snd)
  | .glo x, v => v = .ref (T.at_ x)
  | .hnd i, v => ∃ a, ad[i]? = some a ∧ v = .ref a
def IsL : List D → List V → Prop
  | [], vs => vs = []
  | d :: ds, vs => ∃ v vr, vs = v :: vr ∧ Is d v ∧ IsL ds vr
end
end
section
variable {T : Tx} {F F' : Hp} {ad ad' : List Addr}
theorem sqL_mono {K : PySem.W.Frag} {a : Addr} {xs : List V} (e : Same F F') (h : SqL K F a xs) : SqL K F' a xs := e.seq h
theorem sqT_mono {K : PySem.W.Frag} {a : Addr} {xs : List V} (e : Same F F') (h : SqT K F a xs) : SqT K F' a xs := by
  rcases h with (h | ⟨o, h⟩) | h
  · exact .inl (.inl (e _ _ h))
  · exact .inl (.inr ⟨o, e _ _ h⟩)
  · exact .inr h
theorem pre_get {ad ad' : List Addr} (p : ad <+: ad') {i : Nat} {a : Addr} (h : ad[i]? = some a) : ad'[i]? = some a := by
  obtain ⟨t, rfl⟩ := p
  rw [List.getElem?_append_left (List.getElem?_eq_some_iff.mp h).1]
  exact h
mutual
theorem Is.mono (e : Same F F') (p : ad <+: ad') : ∀ {d : D} {v : V}, Is T F ad d v → Is T F' ad' d v
  | .non, _, h => h
  | .bl _, _, h => h
  | .int _, _, h => h
  | .str _, _, h => h
  | .ty _, _, h => h
  | .lst xs, _, h => by
    obtain ⟨a, vs, h1, h2, h3⟩ := h
    exact ⟨a, vs, h1, e _ _ h2, IsL.mono e p h3⟩
  | .slf xs, _, h => by
    obtain ⟨a, vs, h1, h2, h3⟩ := h
    exact ⟨a, vs, h1, sqL_mono e h2, IsL.mono e p h3⟩
  | .tup xs, _, h => by
    obtain ⟨a, vs, h1, h2, h3⟩ := h
    exact ⟨a, vs, h1, sqT_mono e h2, IsL.mono e p h3⟩
  | .dic ks xs, _, h => by
    obtain ⟨a, o, vs, h1, h2, h3, h4⟩ := h
    exact ⟨a, o, vs, h1, e _ _ h2, h3, IsL.mono e p h4⟩
  | .ins C xs, _, h => by
    obtain ⟨a, dx, fs, h1, h2, h3, h4⟩ := h
    exact ⟨a, dx, fs, h1, e _ _ h2, h3, IsL.mono e p h4⟩
  | .glo _, _, h => h
  | .hnd i, _, h => by
    obtain ⟨a, h1, h2⟩ := h
    exact ⟨a, pre_get p h1, h2⟩
theorem IsL.mono (e : Same F F') (p : ad <+: ad') : ∀ {ds : List D} {vs : List V}, IsL T F ad ds vs → IsL T F' ad' ds vs
  | [], _, h => h
  | d :: ds, _, h => by
    obtain ⟨v, vr, h1, h2, h3⟩ := h
    exact ⟨v, vr, h1, Is.mono e p h2, IsL.mono e p h3⟩
end
theorem IsL.nil : IsL T F ad [] [] := rfl
theorem IsL.cons {d : D} {v : V} {ds : List D} {vs : List V} (h : Is T F ad d v) (t : IsL T F ad ds vs) : IsL T F ad (d :: ds) (v :: vs) := ⟨v, vs, rfl, h, t⟩
theorem IsL.length : ∀ {ds : List D} {vs : List V}, IsL T F ad ds vs → vs.length = ds.length
  | [], _, h => by cases h; rfl
  | d :: ds, _, h => by
    obtain ⟨v, vr, rfl, _, t⟩ := h
    simp [IsL.length t]
theorem IsL.append : ∀ {ds es : List D} {vs us : List V}, IsL T F ad ds vs → IsL T F ad es us → IsL T F ad (ds ++ es) (vs ++ us)
  | [], _, _, _, h, g => by cases h; exact g
  | d :: ds, _, _, _, h, g => by
    obtain ⟨v, vr, rfl, h1, t⟩ := h
    exact ⟨v, _, rfl, h1, IsL.append t g⟩
theorem IsL.split : ∀ {ds es : List D} {vs : List V}, IsL T F ad (ds ++ es) vs → ∃ v1 v2, vs = v1 ++ v2 ∧ IsL T F ad ds v1 ∧ IsL T F ad es v2
  | [], _, vs, h => ⟨[], vs, rfl, rfl, h⟩
  | d :: ds, _, _, h => by
    obtain ⟨v, vr, rfl, h1, t⟩ := h
    obtain ⟨v1, v2, rfl, g1, g2⟩ := IsL.split t
    exact ⟨v :: v1, v2, rfl, ⟨v, v1, rfl, h1, g1⟩, g2⟩
theorem IsL.get : ∀ {ds : List D} {vs : List V} {i : Nat} {d : D}, IsL T F ad ds vs → ds[i]? = some d → ∃ v, vs[i]? = some v ∧ Is T F ad d v
  | [], _, _, _, _, e => by simp at e
  | x :: ds, _, 0, d, h, e => by
    obtain ⟨v, vr, rfl, h1, t⟩ := h
    simp at e; subst e
    exact ⟨v, rfl, h1⟩
  | x :: ds, _, i + 1, d, h, e => by
    obtain ⟨v, vr, rfl, h1, t⟩ := h
    obtain ⟨u, g1, g2⟩ := IsL.get (i := i) t (by simpa using e)
    exact ⟨u, by simpa using g1, g2⟩
theorem IsL.set {d : D} {v : V} (hd : Is T F ad d v) : ∀ {ds : List D} {vs : List V} (i : Nat), IsL T F ad ds vs → IsL T F ad (ds.set i d) (vs.set i v)
  | [], _, _, h => by cases h; rfl
  | x :: ds, _, 0, h => by
    obtain ⟨u, vr, rfl, h1, t⟩ := h
    exact ⟨v, vr, rfl, hd, t⟩
  | x :: ds, _, i + 1, h => by
    obtain ⟨u, vr, rfl, h1, t⟩ := h
    exact ⟨u, _, rfl, h1, IsL.set hd i t⟩
theorem IsL.take : ∀ {ds : List D} {vs : List V} (n : Nat), IsL T F ad ds vs → IsL T F ad (ds.take n) (vs.take n)
  | _, _, 0, _ => by simp; exact IsL.nil
  | [], _, _ + 1, h => by cases h; rfl
  | x :: ds, _, n + 1, h => by
    obtain ⟨u, vr, rfl, h1, t⟩ := h
    exact ⟨u, _, rfl, h1, IsL.take n t⟩
theorem IsL.drop : ∀ {ds : List D} {vs : List V} (n : Nat), IsL T F ad ds vs → IsL T F ad (ds.drop n) (vs.drop n)
  | _, _, 0, h => by simpa using h
  | [], _, _ + 1, h => by cases h; rfl
  | x :: ds, _, n + 1, h => by
    obtain ⟨u, vr, rfl, h1, t⟩ := h
    exact IsL.drop n t
theorem IsL.one {d : D} {vs : List V} (h : IsL T F ad [d] vs) : ∃ v, vs = [v] ∧ Is T F ad d v := by
  obtain ⟨v, vr, rfl, h1, t⟩ := h
  cases t
  exact ⟨v, rfl, h1⟩
theorem IsL.two {d e : D} {vs : List V} (h : IsL T F ad [d, e] vs) : ∃ v u, vs = [v, u] ∧ Is T F ad d v ∧ Is T F ad e u := by
  obtain ⟨v, vr, rfl, h1, t⟩ := h
  obtain ⟨u, rfl, h2⟩ := IsL.one t
  exact ⟨v, u, rfl, h1, h2⟩
theorem IsL.rev : ∀ {ds : List D} {vs : List V}, IsL T F ad ds vs → IsL T F ad ds.reverse vs.reverse
  | [], _, h => by cases h; exact IsL.nil
  | x :: ds, _, h => by
    obtain ⟨u, vr, rfl, h1, t⟩ := h
    simp only [List.reverse_cons]
    exact IsL.append (IsL.rev t) (IsL.cons h1 IsL.nil)
end
/-- the i-th changeable thing stands at a in H as m says -/
def MIs (T : Tx) (F : Hp) (ad : List Addr) (H : Hp) (a : Addr) : MO → Prop
  | .gone => True
  | .lst xs => ∃ vs, H a = some (.lst vs) ∧ IsL T F ad xs vs
  | .dic ks xs => ∃ vs, H a = some (.dK (ks.zip vs)) ∧ vs.length = ks.length ∧ IsL T F ad xs vs
  | .ins C xs => ∃ dx fs, H a = some (.ins (T.at_ C) dx fs) ∧ fs.map Prod.fst = (T.nm C).take xs.length ∧ IsL T F ad xs (fs.map Prod.snd)
theorem MIs.mono {T : Tx} {F F' H H' : Hp} {ad ad' : List Addr} {a : Addr} {m : MO} (e : Same F F') (p : ad <+: ad') (h : H' a = H a) (x : MIs T F ad H a m) : MIs T F' ad' H' a m := by
  cases m with
  | gone => trivial
  | lst xs => obtain ⟨vs, h1, h2⟩ := x; exact ⟨vs, h.trans h1, h2.mono e p⟩
  | dic ks xs => obtain ⟨vs, h1, h2, h3⟩ := x; exact ⟨vs, h.trans h1, h2, h3.mono e p⟩
  | ins C xs => obtain ⟨dx, fs, h1, h2, h3⟩ := x; exact ⟨dx, fs, h.trans h1, h2, h3.mono e p⟩
/-- H holds the frozen part F and the changeable things -/
structure Sat (T : Tx) (F : Hp) (ad : List Addr) (mem : List MO) (H : Hp) : Prop where
  sub : Same F H
  len : ad.length = mem.length
  nd : ad.Nodup
  there : ∀ a ∈ ad, H a ≠ none
  obj : ∀ (i : Nat) (a : Addr) (m : MO), ad[i]? = some a → mem[i]? = some m → m ≠ .gone → F a = none ∧ MIs T F ad H a m
/-- what a step may do: F grows, things may change and come, all else stays -/
structure Ext (T : Tx) (F : Hp) (ad : List Addr) (H : Hp) (F' : Hp) (ad' : List Addr) (mem' : List MO) (H' : Hp) : Prop where
  sat : Sat T F' ad' mem' H'
  gro : Same F F'
  pre : ad <+: ad'
  frm : ∀ a o, H a = some o → F a = none → a ∉ ad → H' a = some o ∧ F' a = none ∧ a ∉ ad'
section
variable {T : Tx} {F F' F2 H H' H2 : Hp} {ad ad' ad2 : List Addr} {mem mem' mem2 : List MO}
theorem Ext.refl (s : Sat T F ad mem H) : Ext T F ad H F ad mem H := ⟨s, Same.refl F, List.prefix_refl _, fun _ _ h1 h2 h3 => ⟨h1, h2, h3⟩⟩
theorem Ext.trans (x : Ext T F ad H F' ad' mem' H') (y : Ext T F' ad' H' F2 ad2 mem2 H2) : Ext T F ad H F2 ad2 mem2 H2 :=
  ⟨y.sat, x.gro.trans y.gro, x.pre.trans y.pre, fun a o h1 h2 h3 => let ⟨g1, g2, g3⟩ := x.frm a o h1 h2 h3; y.frm a o g1 g2 g3⟩
theorem same_new {p : Addr} {o : HO} (h : F p = none) : Same F (upd F p o) := fun b u e => by rw [upd_ne (ne_of_none e h)]; exact e
theorem same_upd {p : Addr} {o : HO} (h : Same F H) : Same (upd F p o) (upd H p o) := fun b u e => by
  by_cases z : b = p
  · subst z; rw [upd_same] at e ⊢; exact e
  · rw [upd_ne z] at e ⊢; exact h b u e
theorem Sat.free (s : Sat T F ad mem H) {p : Addr} (h : H p = none) : F p = none := s.sub.free h
theorem Sat.notin (s : Sat T F ad mem H) {p : Addr} (h : H p = none) : p ∉ ad := fun z => s.there p z h
/-- a new frozen object -/
theorem Sat.new (s : Sat T F ad mem H) {p : Addr} {o : HO} (h : H p = none) : Ext T F ad H (upd F p o) ad mem (upd H p o) := by
  have hF := s.free h
  have hp := s.notin h
  refine ⟨⟨same_upd s.sub, s.len, s.nd, fun a ha => ?_, fun i a m h1 h2 h3 => ?_⟩, same_new hF, List.prefix_refl _, fun a u h1 h2 h3 => ?_⟩
  · have z : a ≠ p := fun e => hp (e ▸ ha)
    rw [upd_ne z]; exact s.there a ha
  · obtain ⟨g1, g2⟩ := s.obj i a m h1 h2 h3
    have z : a ≠ p := fun e => hp (e ▸ List.mem_of_getElem? h1)
    exact ⟨by rw [upd_ne z]; exact g1, g2.mono (same_new hF) (List.prefix_refl _) (upd_ne z)⟩
  · have z : a ≠ p := ne_of_none h1 h
    exact ⟨by rw [upd_ne z]; exact h1, by rw [upd_ne z]; exact h2, h3⟩
/-- a new thing H knows, that neither the frozen part nor the things know -/
theorem Sat.aside (s : Sat T F ad mem H) {p : Addr} {o : HO} (h : H p = none) : Ext T F ad H F ad mem (upd H p o) := by
  have hF := s.free h
  have hp := s.notin h
  refine ⟨⟨fun b u e => ?_, s.len, s.nd, fun a ha => ?_, fun i a m h1 h2 h3 => ?_⟩, Same.refl F, List.prefix_refl _, fun a u h1 h2 h3 => ?_⟩
  · rw [upd_ne (ne_of_none e hF)]; exact s.sub b u e
  · have z : a ≠ p := fun e => hp (e ▸ ha)
    rw [upd_ne z]; exact s.there a ha
  · obtain ⟨g1, g2⟩ := s.obj i a m h1 h2 h3
    have z : a ≠ p := fun e => hp (e ▸ List.mem_of_getElem? h1)
    exact ⟨g1, g2.mono (Same.refl F) (List.prefix_refl _) (upd_ne z)⟩
  · have z : a ≠ p := ne_of_none h1 h
    exact ⟨by rw [upd_ne z]; exact h1, h2, h3⟩
theorem nodup_get {ad : List Addr} (nd : ad.Nodup) {i j : Nat} {a : Addr} (h1 : ad[i]? = some a) (h2 : ad[j]? = some a) : i = j := by
  obtain ⟨l1, e1⟩ := List.getElem?_eq_some_iff.mp h1
  obtain ⟨l2, e2⟩ := List.getElem?_eq_some_iff.mp h2
  exact (List.getElem_inj nd).mp (e1.trans e2.symm)
/-- a changeable thing is written -/
theorem Sat.put (s : Sat T F ad mem H) {i : Nat} {a : Addr} {m : MO} {o : HO} (h1 : ad[i]? = some a) (h2 : mem[i]? = some m) (h3 : m ≠ .gone) (m' : MO) (hm : MIs T F ad (upd H a o) a m') :
    Ext T F ad H F ad (mem.set i m') (upd H a o) := by
  obtain ⟨hF, _⟩ := s.obj i a m h1 h2 h3
  have hi := (List.getElem?_eq_some_iff.mp h2).1
  refine ⟨⟨fun b u e => ?_, by rw [List.length_set]; exact s.len, s.nd, fun b hb => ?_, fun j b n g1 g2 g3 => ?_⟩, Same.refl F, List.prefix_refl _, fun b u g1 g2 g3 => ?_⟩
  · have z : b ≠ a := ne_of_none e hF
    rw [upd_ne z]; exact s.sub b u e
  · by_cases z : b = a
    · subst z; rw [upd_same]; simp
    · rw [upd_ne z]; exact s.there b hb
  · by_cases z : j = i
    · subst z
      rw [h1] at g1; cases g1
      rw [List.getElem?_set_self hi] at g2; cases g2
      exact ⟨hF, hm⟩
    · have zb : b ≠ a := fun e => z (nodup_get s.nd g1 (e ▸ h1))
      rw [List.getElem?_set_ne (Ne.symm z)] at g2
      obtain ⟨k1, k2⟩ := s.obj j b n g1 g2 g3
      exact ⟨k1, k2.mono (Same.refl F) (List.prefix_refl _) (upd_ne zb)⟩
  · have z : b ≠ a := fun e => g3 (e ▸ List.mem_of_getElem? h1)
    exact ⟨by rw [upd_ne z]; exact g1, g2, g3⟩
/-- a new changeable thing -/
theorem Sat.add (s : Sat T F ad mem H) {p : Addr} {o : HO} (h : H p = none) (m : MO) (hm : ∀ ad', MIs T F (ad ++ ad') (upd H p o) p m) : Ext T F ad H F (ad ++ [p]) (mem ++ [m]) (upd H p o) := by
  have hF := s.free h
  have hp := s.notin h
  have px : ad <+: ad ++ [p] := List.prefix_append _ _
  refine ⟨⟨fun b u e => ?_, by simp [s.len], ?_, fun b hb => ?_, fun j b n g1 g2 g3 => ?_⟩, Same.refl F, px, fun b u g1 g2 g3 => ?_⟩
  · rw [upd_ne (ne_of_none e hF)]; exact s.sub b u e
  · exact List.nodup_append.mpr ⟨s.nd, by simp, fun x hx y hy e => by
      have : y = p := by simpa using hy
      exact hp (this ▸ e ▸ hx)⟩
  · by_cases z : b = p
    · subst z; rw [upd_same]; simp
    · rw [upd_ne z]
      rcases List.mem_append.mp hb with q | q
      · exact s.there b q
      · exact absurd (by simpa using q) z
  · by_cases z : j < ad.length
    · rw [List.getElem?_append_left z] at g1
      rw [List.getElem?_append_left (by rw [← s.len]; exact z)] at g2
      have zb : b ≠ p := fun e => hp (e ▸ List.mem_of_getElem? g1)
      obtain ⟨k1, k2⟩ := s.obj j b n g1 g2 g3
      exact ⟨k1, k2.mono (Same.refl F) px (upd_ne zb)⟩
    · have hj : j = ad.length := by
        have := (List.getElem?_eq_some_iff.mp g1).1
        simp at this; omega
      subst hj
      rw [List.getElem?_append_right (Nat.le_refl _)] at g1
      simp at g1; subst g1
      rw [s.len, List.getElem?_append_right (Nat.le_refl _)] at g2
      simp at g2; subst g2
      exact ⟨hF, hm _⟩
  · have z : b ≠ p := ne_of_none g1 h
    refine ⟨by rw [upd_ne z]; exact g1, g2, fun q => ?_⟩
    rcases List.mem_append.mp q with q | q
    · exact g3 q
    · exact z (by simpa using q)
end
/-! ### a step by values -/
/-- what is known of an exception: its own dict (none: no attribute was stored) -/
def XIs (T : Tx) (F : Hp) (ad : List Addr) (H : Hp) (C : String) (dc : Option Addr) (xs : List D) : Prop :=
  (xs = [] ∧ dc = none) ∨ ∃ d fs, dc = some d ∧ H d = some (.xd fs) ∧ fs.map Prod.fst = (T.nm C).take xs.length ∧ IsL T F ad xs (fs.map Prod.snd)
abbrev Fun := List D → List MO → Res D
/-- the wish of a step φ at the values vs -/
def RX (T : Tx) (φ : Fun) (vs : List V) (H : Hp) (Q : VK) (E : XK) : Prop :=
  ∃ F ad mem ds, Sat T F ad mem H ∧ IsL T F ad ds vs ∧
    match φ ds mem with
    | .bad => False
    | .ok d mem' => ∀ v F' ad' H', Ext T F ad H F' ad' mem' H' → Is T F' ad' d v → Q v H'
    | .exc C xs mem' => ∀ dc F' ad' H', Ext T F ad H F' ad' mem' H' → XIs T F' ad' H' C dc xs → E (.ref (T.at_ C)) dc H'
/-- no exception -/
def RS (T : Tx) (φ : Fun) (vs : List V) (H : Hp) (Q : VK) : Prop := RX T φ vs H Q fun _ _ _ => False
/-- φ tells no more than ψ -/
def Le (φ ψ : Fun) : Prop := ∀ ds mem, φ ds mem ≠ .bad → ψ ds mem = φ ds mem
theorem RX.le {T : Tx} {φ ψ : Fun} (h : Le φ ψ) {vs : List V} {H : Hp} {Q : VK} {E : XK} (x : RX T φ vs H Q E) : RX T ψ vs H Q E := by
  obtain ⟨F, ad, mem, ds, s, i, m⟩ := x
  refine ⟨F, ad, mem, ds, s, i, ?_⟩
  rw [h ds mem (fun e => by rw [e] at m; exact m)]
  exact m
/-- a slot: nothing, a datum, a list or dict that this def alone holds -/
inductive Slot where
  | none | val (d : D) | own (m : MO)
/-- what stood at the entry: the frozen part, the things, all else -/
structure Bs where
  F0 : Hp
  ad0 : List Addr
  G : Hp
  self : Option Addr := none
structure SatF (T : Tx) (B : Bs) (F : Hp) (ad : List Addr) (env : List Slot) (mem : List MO) (ex : List (V × D)) (σ : L2.St) (H : Hp) : Prop where
  sat : Sat T F ad mem H
  gro : Same B.F0 F
  pre : B.ad0 <+: ad
  frm : ∀ a o, B.G a = some o → H a = some o ∧ F a = none ∧ a ∉ ad
  len : env.length = σ.length
  val : ∀ (i : Nat) (d : D), env[i]? = some (.val d) → ∃ v, σ[i]? = some (some v) ∧ Is T F ad d v
  own : ∀ (i : Nat) (m : MO), env[i]? = some (.own m) → ∃ a, σ[i]? = some (some (.ref a)) ∧ F a = none ∧ a ∉ ad ∧ H a ≠ none ∧ B.G a = none ∧ MIs T F ad H a m ∧ m ≠ .gone ∧ ∀ C xs, m = .ins C xs → B.self = some a
  app : ∀ (i j : Nat) (m n : MO) (a : Addr), env[i]? = some (.own m) → env[j]? = some (.own n) → σ[i]? = some (some (.ref a)) → σ[j]? = some (some (.ref a)) → i = j
  tmp : ∀ p ∈ ex, Is T F ad p.2 p.1
def SatX (T : Tx) (B : Bs) (env : List Slot) (mem : List MO) (ex : List (V × D)) (σ : L2.St) (H : Hp) : Prop := ∃ F ad, SatF T B F ad env mem ex σ H
section
variable {T : Tx} {B : Bs} {F F' H H' : Hp} {ad ad' : List Addr} {env : List Slot} {mem mem' : List MO} {ex : List (V × D)} {σ : L2.St} {v : V} {d : D}
theorem SatF.ext (s : SatF T B F ad env mem ex σ H) (x : Ext T F ad H F' ad' mem' H') : SatF T B F' ad' env mem' ex σ H' := by
  refine ⟨x.sat, s.gro.trans x.gro, s.pre.trans x.pre, fun a o h => ?_, s.len, fun i d h => ?_, fun i m h => ?_, s.app, fun p hp => (s.tmp p hp).mono x.gro x.pre⟩
  · obtain ⟨h1, h2, h3⟩ := s.frm a o h
    exact x.frm a o h1 h2 h3
  · obtain ⟨v, h1, h2⟩ := s.val i d h
    exact ⟨v, h1, h2.mono x.gro x.pre⟩
  · obtain ⟨a, h1, h2, h3, h4, h5, h6, h7⟩ := s.own i m h
    obtain ⟨o, ho⟩ := Option.ne_none_iff_exists'.mp h4
    obtain ⟨g1, g2, g3⟩ := x.frm a o ho h2 h3
    exact ⟨a, h1, g2, g3, by rw [g1]; simp, h5, h6.mono x.gro x.pre (g1.trans ho.symm), h7⟩
theorem SatF.push (s : SatF T B F ad env mem ex σ H) (h : Is T F ad d v) : SatF T B F ad env mem ((v, d) :: ex) σ H :=
  ⟨s.sat, s.gro, s.pre, s.frm, s.len, s.val, s.own, s.app, fun p hp => by
    rcases List.mem_cons.mp hp with e | e
    · subst e; exact h
    · exact s.tmp p e⟩
theorem SatF.sub {ex' : List (V × D)} (s : SatF T B F ad env mem ex σ H) (h : ∀ p ∈ ex', p ∈ ex) : SatF T B F ad env mem ex' σ H :=
  ⟨s.sat, s.gro, s.pre, s.frm, s.len, s.val, s.own, s.app, fun p hp => s.tmp p (h p hp)⟩
theorem SatX.sub {ex' : List (V × D)} (s : SatX T B env mem ex σ H) (h : ∀ p ∈ ex', p ∈ ex) : SatX T B env mem ex' σ H :=
  let ⟨F, ad, s⟩ := s; ⟨F, ad, s.sub h⟩
theorem SatX.pop {p : V × D} (s : SatX T B env mem (p :: ex) σ H) : SatX T B env mem ex σ H := s.sub fun _ h => List.mem_cons_of_mem _ h
theorem SatF.top {p : V × D} (s : SatF T B F ad env mem (p :: ex) σ H) : Is T F ad p.2 p.1 := s.tmp p List.mem_cons_self
/-- the step's end -/
theorem SatF.done {p : List (V × D)} (s : SatF T B F ad env mem (p ++ ex) σ H) (x : Ext T F ad H F' ad' mem' H') (h : Is T F' ad' d v) : SatX T B env mem' ((v, d) :: ex) σ H' :=
  ⟨F', ad', ((s.ext x).sub fun _ q => List.mem_append_right _ q).push h⟩
/-- the slots behind a return do not matter -/
theorem SatF.bare (s : SatF T B F ad env mem ex σ H) : SatF T B F ad [] mem ex [] H :=
  ⟨s.sat, s.gro, s.pre, s.frm, rfl, fun _ _ h => by simp at h, fun _ _ h => by simp at h, fun _ _ _ _ _ h => by simp at h, s.tmp⟩
theorem SatX.bare (s : SatX T B env mem ex σ H) : SatX T B [] mem ex [] H := let ⟨F, ad, s⟩ := s; ⟨F, ad, s.bare⟩
/-- a slot is stored -/
theorem SatF.set {i : Nat} (s : SatF T B F ad env mem ex σ H) (h : Is T F ad d v) : SatF T B F ad (env.set i (.val d)) mem ex (σ.set i (some v)) H := by
  refine ⟨s.sat, s.gro, s.pre, s.frm, by simp [s.len], fun j e hj => ?_, fun j m hj => ?_, fun j k m n a hj hk gj gk => ?_, s.tmp⟩
  · by_cases z : j = i
    · subst z
      have hl : j < env.length := by have := (List.getElem?_eq_some_iff.mp hj).1; simpa using this
      rw [List.getElem?_set_self hl] at hj
      cases hj
      exact ⟨v, List.getElem?_set_self (s.len ▸ hl), h⟩
    · rw [List.getElem?_set_ne (Ne.symm z)] at hj ⊢
      exact s.val j e hj
  · by_cases z : j = i
    · subst z
      have hl : j < env.length := by have := (List.getElem?_eq_some_iff.mp hj).1; simpa using this
      rw [List.getElem?_set_self hl] at hj
      cases hj
    · rw [List.getElem?_set_ne (Ne.symm z)] at hj ⊢
      exact s.own j m hj
  · have nj : j ≠ i := fun z => by
      subst z
      have hl : j < env.length := by have := (List.getElem?_eq_some_iff.mp hj).1; simpa using this
      rw [List.getElem?_set_self hl] at hj; cases hj
    have nk : k ≠ i := fun z => by
      subst z
      have hl : k < env.length := by have := (List.getElem?_eq_some_iff.mp hk).1; simpa using this
      rw [List.getElem?_set_self hl] at hk; cases hk
    rw [List.getElem?_set_ne (Ne.symm nj)] at hj gj
    rw [List.getElem?_set_ne (Ne.symm nk)] at hk gk
    exact s.app j k m n a hj hk gj gk
end
/-! ### mirrors -/
abbrev ME := List Slot → List MO → Res D
abbrev MT := List Slot → List MO → Res Bool
abbrev MA := List Slot → List MO → Res (List D)
inductive Flow where
  | bad | next (e : List Slot) (m : List MO) | ret (d : D) (m : List MO) | brk (e : List Slot) (m : List MO) | cnt (e : List Slot) (m : List MO)
  | exc (C : String) (xs : List D) (e : List Slot) (m : List MO)
abbrev MS := List Slot → List MO → Flow
/-- what is wanted behind a step's answer r -/
def Wnt {α : Type} (T : Tx) (B : Bs) (W : WX) (env : List Slot) (ex : List (V × D)) (σ : L2.St) (K : α → List MO → Prop) (r : Res α) : Prop :=
  match r with
  | .bad => False
  | .ok a m => K a m
  | .exc C xs m => ∀ dc F ad H', SatF T B F ad env m ex σ H' → XIs T F ad H' C dc xs → W (.ref (T.at_ C)) dc σ H'
section
variable {α β : Type} {T : Tx} {B : Bs} {W : WX} {env : List Slot} {ex : List (V × D)} {σ : L2.St}
theorem Wnt.bind {K : β → List MO → Prop} {r : Res α} {k : α → List MO → Res β} (h : Wnt T B W env ex σ K (r.bind k)) : Wnt T B W env ex σ (fun a m => Wnt T B W env ex σ K (k a m)) r := by
  cases r with
  | bad => exact h
  | ok a m => exact h
  | exc C xs m => exact h
theorem Wnt.mono {K K' : α → List MO → Prop} {r : Res α} (h : Wnt T B W env ex σ K r) (i : ∀ a m, K a m → K' a m) : Wnt T B W env ex σ K' r := by
  cases r with
  | bad => exact h
  | ok a m => exact i a m h
  | exc C xs m => exact h
theorem Wnt.push {K : α → List MO → Prop} {r : Res α} (p : List (V × D)) (h : Wnt T B W env ex σ K r) : Wnt T B W env (p ++ ex) σ K r := by
  cases r with
  | bad => exact h
  | ok a m => exact h
  | exc C xs m => exact fun dc F ad H' s x => h dc F ad H' (s.sub fun _ q => List.mem_append_right _ q) x
theorem Wnt.push1 {K : α → List MO → Prop} {r : Res α} {p : V × D} (h : Wnt T B W env ex σ K r) : Wnt T B W env (p :: ex) σ K r := h.push [p]
theorem Wnt.ok {K : α → List MO → Prop} {a : α} {m : List MO} (h : K a m) : Wnt T B W env ex σ K (.ok a m) := h
end
abbrev KE (T : Tx) (B : Bs) (env : List Slot) (ex : List (V × D)) (σ : L2.St) (Q : VK) : D → List MO → Prop := fun d m => ∀ v H', SatX T B env m ((v, d) :: ex) σ H' → Q v H'
abbrev KT (T : Tx) (B : Bs) (env : List Slot) (ex : List (V × D)) (σ : L2.St) (Q : Bool → Hp → Prop) : Bool → List MO → Prop := fun b m => ∀ H', SatX T B env m ex σ H' → Q b H'
abbrev KA (T : Tx) (B : Bs) (env : List Slot) (ex : List (V × D)) (σ : L2.St) (Q : List V → Hp → Prop) : List D → List MO → Prop := fun ds m => ∀ vs H', vs.length = ds.length → SatX T B env m (vs.zip ds ++ ex) σ H' → Q vs H'
def tE (T : Tx) (B : Bs) (W : WX) (f : ME) : TE := fun σ H Q => ∃ env mem ex, SatX T B env mem ex σ H ∧ Wnt T B W env ex σ (KE T B env ex σ Q) (f env mem)
def tT (T : Tx) (B : Bs) (W : WX) (f : MT) : TT := fun σ H Q => ∃ env mem ex, SatX T B env mem ex σ H ∧ Wnt T B W env ex σ (KT T B env ex σ Q) (f env mem)
def tA (T : Tx) (B : Bs) (W : WX) (f : MA) : TA := fun σ H Q => ∃ env mem ex, SatX T B env mem ex σ H ∧ Wnt T B W env ex σ (KA T B env ex σ Q) (f env mem)
def KS (T : Tx) (B : Bs) (W : WX) (ex : List (V × D)) (Z : Ends) (r : Flow) : Prop :=
  match r with
  | .bad => False
  | .next e m => ∀ σ' H', SatX T B e m ex σ' H' → Z.nx σ' H'
  | .ret d m => ∀ v H', SatX T B [] m ((v, d) :: ex) [] H' → Z.rt v H'
  | .brk e m => ∀ σ' H', SatX T B e m ex σ' H' → Z.bk σ' H'
  | .cnt e m => ∀ σ' H', SatX T B e m ex σ' H' → Z.ct σ' H'
  | .exc C xs e m => ∀ dc F ad σ' H', SatF T B F ad e m ex σ' H' → XIs T F ad H' C dc xs → W (.ref (T.at_ C)) dc σ' H'
def tS (T : Tx) (B : Bs) (W : WX) (f : MS) : TS := fun Z σ H => ∃ env mem ex, SatX T B env mem ex σ H ∧ KS T B W ex Z (f env mem)
/-- the judgements -/
abbrev SE (nm : String → List Str) (B : Bs) (W : WX) (X : Cx) (e : Expr) (f : ME) : Prop := PE X e (tE ⟨X.K, nm⟩ B W f)
abbrev ST (nm : String → List Str) (B : Bs) (W : WX) (X : Cx) (e : Expr) (f : MT) : Prop := PT X e (tT ⟨X.K, nm⟩ B W f)
abbrev SA (nm : String → List Str) (B : Bs) (W : WX) (X : Cx) (es : List Expr) (f : MA) : Prop := PA X es (tA ⟨X.K, nm⟩ B W f)
abbrev SS (nm : String → List Str) (B : Bs) (W : WX) (X : Cx) (st : Stmt) (f : MS) : Prop := PS X st (tS ⟨X.K, nm⟩ B W f)
abbrev SSs (nm : String → List Str) (B : Bs) (W : WX) (X : Cx) (st : List Stmt) (f : MS) : Prop := PSs X st (tS ⟨X.K, nm⟩ B W f)
theorem PE.imp {X : Cx} {e : Expr} {t u : TE} (h : PE X e t) (i : ∀ σ H Q, u σ H Q → t σ H Q) : PE X e u := ⟨fun p s σ H Q I q => h.run p s σ H Q I (i σ H Q q)⟩
theorem PT.imp {X : Cx} {e : Expr} {t u : TT} (h : PT X e t) (i : ∀ σ H Q, u σ H Q → t σ H Q) : PT X e u := ⟨fun p s σ H Q I q => h.run p s σ H Q I (i σ H Q q)⟩
theorem PA.imp {X : Cx} {e : List Expr} {t u : TA} (h : PA X e t) (i : ∀ σ H Q, u σ H Q → t σ H Q) : PA X e u := ⟨fun o p s σ H Q I q => h.run o p s σ H Q I (i σ H Q q)⟩
theorem PS.imp {X : Cx} {e : Stmt} {t u : TS} (h : PS X e t) (i : ∀ D σ H, u D σ H → t D σ H) : PS X e u := ⟨fun p s σ H D I q => h.run p s σ H D I (i D σ H q)⟩
theorem PSs.imp {X : Cx} {e : List Stmt} {t u : TS} (h : PSs X e t) (i : ∀ D σ H, u D σ H → t D σ H) : PSs X e u := ⟨fun p s σ H D I q => h.run p s σ H D I (i D σ H q)⟩
/-! ### the core rules -/
/-- a step that neither raises nor changes a thing -/
abbrev Pur := List D → Option D
def lf (φ : Pur) (ds : List D) (m : List MO) : Res D := match φ ds with
  | some d => .ok d m
  | none => .bad
def RP (T : Tx) (φ : Pur) (vs : List V) (H : Hp) (Q : VK) : Prop :=
  ∃ F ad mem ds d, Sat T F ad mem H ∧ IsL T F ad ds vs ∧ φ ds = some d ∧ ∀ v F' ad' H', Ext T F ad H F' ad' mem H' → Is T F' ad' d v → Q v H'
def mBin (φ : Pur) (f g : ME) : ME := fun env mem => (f env mem).bind fun a m => (g env m).bind fun b m2 => lf φ [a, b] m2
def mUn (φ : Pur) (f : ME) : ME := fun env mem => (f env mem).bind fun a m => lf φ [a] m
def mVar (i : Nat) : ME := fun env mem => match env[i]? with
  | some (.val d) => .ok d mem
  | _ => .bad
def mC (d : D) : ME := fun _ mem => .ok d mem
def mNil : MA := fun _ mem => .ok [] mem
def mCons (f : ME) (g : MA) : MA := fun env mem => (f env mem).bind fun a m => (g env m).bind fun r m2 => .ok (a :: r) m2
def mPur (φ : Pur) (g : MA) : ME := fun env mem => (g env mem).bind fun ds m => lf φ ds m
def mFun (φ : Fun) (g : MA) : ME := fun env mem => (g env mem).bind fun ds m => φ ds m
abbrev tx (X : Cx) (nm : String → List Str) : Tx := ⟨X.K, nm⟩
section
variable {T : Tx} {B : Bs} {W : WX} {σ : L2.St} {H : Hp} {Q : VK} {env : List Slot} {mem : List MO} {ex : List (V × D)} {f : ME}
theorem tE_step {α : Type} {k : D → List MO → Res α} {K : α → List MO → Prop} (s : SatX T B env mem ex σ H)
    (h : Wnt T B W env ex σ K ((f env mem).bind k)) {R : VK} (hk : ∀ v H1 d m, SatX T B env m ((v, d) :: ex) σ H1 → Wnt T B W env ex σ K (k d m) → R v H1) : tE T B W f σ H R :=
  ⟨env, mem, ex, s, h.bind.mono fun d m q v H1 s1 => hk v H1 d m s1 q⟩
theorem tA_step {α : Type} {f : MA} {k : List D → List MO → Res α} {K : α → List MO → Prop} (s : SatX T B env mem ex σ H)
    (h : Wnt T B W env ex σ K ((f env mem).bind k)) {R : List V → Hp → Prop} (hk : ∀ vs H1 ds m, vs.length = ds.length → SatX T B env m (vs.zip ds ++ ex) σ H1 → Wnt T B W env ex σ K (k ds m) → R vs H1) : tA T B W f σ H R :=
  ⟨env, mem, ex, s, h.bind.mono fun d m q v H1 l s1 => hk v H1 d m l s1 q⟩
theorem tT_step {α : Type} {f : MT} {k : Bool → List MO → Res α} {K : α → List MO → Prop} (s : SatX T B env mem ex σ H)
    (h : Wnt T B W env ex σ K ((f env mem).bind k)) {R : Bool → Hp → Prop} (hk : ∀ H1 d m, SatX T B env m ex σ H1 → Wnt T B W env ex σ K (k d m) → R d H1) : tT T B W f σ H R :=
  ⟨env, mem, ex, s, h.bind.mono fun d m q H1 s1 => hk H1 d m s1 q⟩
theorem lf_ok {φ : Pur} {ds : List D} {K : D → List MO → Prop} (h : Wnt T B W env ex σ K (lf φ ds mem)) : ∃ d, φ ds = some d ∧ K d mem := by
  unfold lf at h
  cases e : φ ds with
  | none => rw [e] at h; exact h.elim
  | some d => rw [e] at h; exact ⟨d, rfl, h⟩
theorem zip_tmp {F : Hp} {ad : List Addr} : ∀ {vs : List V} {ds : List D}, vs.length = ds.length → (∀ p ∈ vs.zip ds, Is T F ad p.2 p.1) → IsL T F ad ds vs
  | [], [], _, _ => rfl
  | v :: vs, d :: ds, l, h => ⟨v, vs, rfl, h (v, d) (by simp), zip_tmp (by simpa using l) fun p hp => h p (by simp [hp])⟩
  | [], _ :: _, l, _ => by simp at l
  | _ :: _, [], l, _ => by simp at l
/-- a value-level step's wish, from the mirror's -/
theorem rp_of {p : List (V × D)} {φ : Pur} {ds : List D} {vs : List V} (s : SatX T B env mem (p ++ ex) σ H) (hi : ∀ F ad, SatF T B F ad env mem (p ++ ex) σ H → IsL T F ad ds vs)
    (h : Wnt T B W env ex σ (KE T B env ex σ Q) (lf φ ds mem)) : RP T φ vs H Q := by
  obtain ⟨F, ad, s⟩ := s
  obtain ⟨d, e, q⟩ := lf_ok h
  exact ⟨F, ad, mem, ds, d, s.sat, hi F ad s, e, fun v F' ad' H' x i => q v H' (s.done x i)⟩
theorem rx_of {p : List (V × D)} {φ : Fun} {ds : List D} {vs : List V} (s : SatX T B env mem (p ++ ex) σ H) (hi : ∀ F ad, SatF T B F ad env mem (p ++ ex) σ H → IsL T F ad ds vs)
    (h : Wnt T B W env ex σ (KE T B env ex σ Q) (φ ds mem)) : RX T φ vs H Q fun c dc H' => W c dc σ H' := by
  obtain ⟨F, ad, s⟩ := s
  refine ⟨F, ad, mem, ds, s.sat, hi F ad s, ?_⟩
  cases e : φ ds mem with
  | bad => rw [e] at h; exact h
  | ok d m => rw [e] at h; exact fun v F' ad' H' x q => h v H' (s.done x q)
  | exc C xs m => rw [e] at h; exact fun dc F' ad' H' x q => h dc F' ad' H' ((s.ext x).sub fun _ z => List.mem_append_right _ z) q
end
section
variable {nm : String → List Str} {B : Bs} {W : WX} {X : Cx} {a b c : Expr} {es : List Expr} {f g k : ME} {fa : MA} {t u : MT} {pos : Pos}
theorem bin_imp {φ : Pur} : ∀ {σ : L2.St} {H : Hp} {Q : VK}, tE (tx X nm) B W (mBin φ f g) σ H Q → tOp (fun x y H Q => RP (tx X nm) φ [x, y] H Q) (tE (tx X nm) B W f) (tE (tx X nm) B W g) σ H Q := by
  rintro σ H Q ⟨env, mem, ex, s, h⟩
  refine tE_step s h fun v H1 d m s1 q1 => tE_step s1 q1.push1 fun u H2 e m2 s2 q2 => ?_
  exact rp_of (W := W) (p := [(u, e), (v, d)]) s2 (fun F ad s3 => IsL.cons (s3.tmp (v, d) (by simp)) (IsL.cons (s3.tmp (u, e) (by simp)) IsL.nil))
    (lf_ok q2 |> fun ⟨d', e', q'⟩ => by unfold lf; rw [e']; exact q')
theorem se_bin {op : Operator} {φ : Pur} (ho : OpR X (binaryOp op) fun x y H Q => RP (tx X nm) φ [x, y] H Q) (ha : SE nm B W X a f) (hb : SE nm B W X b g) : SE nm B W X (.BinOp a op b pos) (mBin φ f g) :=
  PE.imp (pe_op ho ha hb) fun _ _ _ => bin_imp
theorem se_cmp {op : CmpOp} {φ : Pur} (ho : OpR X (compareOp op) fun x y H Q => RP (tx X nm) φ [x, y] H Q) (ha : SE nm B W X a f) (hb : SE nm B W X b g) (hm : behindInMarks op b = false) : SE nm B W X (.Compare a [op] [b] pos) (mBin φ f g) :=
  PE.imp (pe_cmpR ho ha hb hm) fun _ _ _ => bin_imp
theorem se_un {op : UnaryOp} {φ : Pur} (ho : UnR X (unaryOp op) fun x H Q => RP (tx X nm) φ [x] H Q) (ha : SE nm B W X a f) : SE nm B W X (.UnaryOp op a pos) (mUn φ f) :=
  PE.imp (pe_un ho ha) fun σ H Q ⟨env, mem, ex, s, h⟩ => tE_step s h fun v H1 d m s1 q1 => rp_of (W := W) (p := [(v, d)]) s1 (fun F ad s3 => IsL.cons (s3.tmp (v, d) (by simp)) IsL.nil) q1
theorem se_var (i : Nat) {x : Str} (hN : X.N[i]? = some x := by rfl) (hv : Vis X.env.scope x := by first | exact Or.inl rfl | exact Or.inr (Or.inl rfl) | exact Or.inr (Or.inr rfl)) (hd : (x == ("__debug__" : Str)) = false := by decide)
    (hcd : (x == ("__classdict__" : Str)) = false := by decide) : SE nm B W X (.Name x pos) (mVar i) :=
  PE.imp (pe_var hN hv hd hcd) fun σ H Q ⟨env, mem, ex, s, h⟩ => by
    unfold mVar at h
    split at h
    · rename_i d e
      obtain ⟨F, ad, s⟩ := s
      obtain ⟨v, h1, h2⟩ := s.val i d e
      exact ⟨v, h1, h v H ⟨F, ad, s.push h2⟩⟩
    · exact h.elim
theorem tC_imp {d : D} {v : V} (hi : ∀ F ad, Is (tx X nm) F ad d v) : ∀ {σ : L2.St} {H : Hp} {Q : VK}, tE (tx X nm) B W (mC d) σ H Q → tC v σ H Q :=
  fun ⟨env, mem, ex, ⟨F, ad, s⟩, h⟩ => h v _ ⟨F, ad, s.push (hi F ad)⟩
theorem se_int {i j} : SE nm B W X (.Constant (.int i) j pos) (mC (.int i)) := PE.imp pe_int fun _ _ _ => tC_imp (d := (.int i)) (v := (.int i)) fun _ _ => rfl
theorem se_bl {i j} : SE nm B W X (.Constant (.bool i) j pos) (mC (.bl i)) := PE.imp pe_bl fun _ _ _ => tC_imp (d := (.bl i)) (v := (.bl i)) fun _ _ => rfl
theorem se_non {j} : SE nm B W X (.Constant .none j pos) (mC .non) := PE.imp pe_non fun _ _ _ => tC_imp (d := .non) (v := .non) fun _ _ => rfl
theorem se_str {x j} : SE nm B W X (.Constant (.str x) j pos) (mC (.str x)) := PE.imp pe_str fun _ _ _ => tC_imp (d := (.str x)) (v := (.str x)) fun _ _ => rfl
/-- a module's int -/
theorem se_gint {x : Str} {i : Int} (hg : Gl X x) (hm : ∃ t, X.mg x = some (.int i t)) (hd : (x == ("__debug__" : Str)) = false := by decide) : SE nm B W X (.Name x pos) (mC (.int i)) := by
  obtain ⟨t, hm⟩ := hm
  exact PE.imp (pe_glob (v := .int i) hg hm ⟨t, rfl⟩ hd) fun _ _ _ => tC_imp (d := .int i) (v := .int i) fun _ _ => rfl
theorem sa_nil : SA nm B W X [] mNil := PA.imp pa_nil fun σ H Q ⟨env, mem, ex, s, h⟩ => h [] H rfl s
theorem sa_cons (ha : SE nm B W X a f) (hr : SA nm B W X es fa) (hs : starEach (a :: es) X.env = (false, eval a X.env) :: starEach es X.env := by rfl) : SA nm B W X (a :: es) (mCons f fa) :=
  PA.imp (pa_cons ha hr hs) fun σ H Q ⟨env, mem, ex, s, h⟩ => by
    refine tE_step s h fun v H1 d m s1 q1 => tA_step s1 q1.push1 fun vs H2 ds m2 l s2 q2 => ?_
    refine q2 (v :: vs) H2 (by simp [l]) (s2.sub fun p hp => ?_)
    simp only [List.zip_cons_cons, List.cons_append, List.mem_cons, List.mem_append] at hp ⊢
    rcases hp with e | e | e
    · exact .inr (.inl e)
    · exact .inl e
    · exact .inr (.inr e)
end
/-! ### tests -/
def dTruth : D → Option Bool
  | .non => some false
  | .bl b => some b
  | .int i => some (i != 0)
  | .str x => if x.length ≤ sizeLine then some ((x.length : Int) != 0) else none
  | .lst xs => some (!xs.isEmpty)
  | .tup xs => some (!xs.isEmpty)
  | _ => none
def lt (o : Option Bool) (m : List MO) : Res Bool := match o with
  | some b => .ok b m
  | none => .bad
def mTru (f : ME) : MT := fun env mem => (f env mem).bind fun d m => lt (dTruth d) m
def asBl : D → Option Bool
  | .bl b => some b
  | _ => none
/-- a comparison's answer as a test -/
def mTB (f : ME) : MT := fun env mem => (f env mem).bind fun d m => lt (asBl d) m
def mNot (t : MT) : MT := fun env mem => (t env mem).bind fun b m => .ok (!b) m
def mAnd (t u : MT) : MT := fun env mem => (t env mem).bind fun b m => if b = true then u env m else .ok false m
def mOr (t u : MT) : MT := fun env mem => (t env mem).bind fun b m => if b = true then .ok true m else u env m
def mIfE (t : MT) (f g : ME) : ME := fun env mem => (t env mem).bind fun b m => if b = true then f env m else g env m
def mAndV (f g : ME) : ME := fun env mem => (f env mem).bind fun d m => match d with
  | .bl b => if b = true then g env m else .ok (.bl false) m
  | _ => .bad
def mOrV (f g : ME) : ME := fun env mem => (f env mem).bind fun d m => match d with
  | .bl b => if b = true then .ok (.bl true) m else g env m
  | _ => .bad
def mNotV (f : ME) : ME := fun env mem => (f env mem).bind fun d m => match d with
  | .bl b => .ok (.bl (!b)) m
  | _ => .bad
def mChn (φ ψ : Pur) (f g k : ME) : ME := fun env mem => (f env mem).bind fun a m => (g env m).bind fun b m2 => (lf φ [a, b] m2).bind fun r m3 => match r with
  | .bl c => if c = true then (k env m3).bind fun c m4 => lf ψ [b, c] m4 else .ok (.bl false) m3
  | _ => .bad
abbrev SW (nm : String → List Str) (B : Bs) (W : WX) (X : Cx) (e : Expr) (f : MT) : Prop := PW X e (tT ⟨X.K, nm⟩ B W f)
theorem PW.imp {X : Cx} {e : Expr} {t u : TT} (h : PW X e t) (i : ∀ σ H Q, u σ H Q → t σ H Q) : PW X e u := ⟨fun wh p s σ H Q I q => h.run wh p s σ H Q I (i σ H Q q)⟩
section
variable {nm : String → List Str} {B : Bs} {W : WX} {X : Cx} {a b c : Expr} {es : List Expr} {f g k : ME} {fa : MA} {t u : MT} {pos : Pos}
theorem tru_of {T : Tx} {F : Hp} {ad : List Addr} {mem : List MO} {H : Hp} {d : D} {v : V} {r : Bool} (s : Sat T F ad mem H) (i : Is T F ad d v) (h : dTruth d = some r) : TruV T.K v H r := by
  have em : ∀ {xs : List D} {vs : List V}, IsL T F ad xs vs → (!xs.isEmpty) = !vs.isEmpty := fun {xs vs} q => by
    cases xs with
    | nil => cases q; rfl
    | cons _ _ => obtain ⟨_, _, rfl, _⟩ := q; rfl
  cases d with
  | non => cases i; cases h; rfl
  | bl b => cases i; cases h; rfl
  | int n => cases i; cases h; rfl
  | str x =>
    cases i
    simp only [dTruth] at h
    split at h
    · rename_i l
      cases h
      exact ⟨l, rfl⟩
    · cases h
  | lst xs =>
    obtain ⟨p, vs, rfl, h1, h2⟩ := i
    cases h
    exact .inl ⟨vs, SqL.of (s.sub _ _ h1), em h2⟩
  | tup xs =>
    obtain ⟨p, vs, rfl, h1, h2⟩ := i
    cases h
    exact .inr (.inl ⟨vs, sqT_mono s.sub h1, em h2⟩)
  | _ => cases h
theorem lt_ok {T : Tx} {env : List Slot} {ex : List (V × D)} {σ : L2.St} {o : Option Bool} {m : List MO} {K : Bool → List MO → Prop} (h : Wnt T B W env ex σ K (lt o m)) : ∃ b, o = some b ∧ K b m := by
  cases o with
  | none => exact h.elim
  | some b => exact ⟨b, rfl, h⟩
theorem st_tru (ha : SE nm B W X a f) (he : ∀ whole, isTrue a X.env whole = (do let v ← whole; standAt a.pos; holding [v] (truthy v)) := by intro _; rfl) : ST nm B W X a (mTru f) :=
  PT.imp (pt_truth ha he) fun σ H Q ⟨env, mem, ex, s, h⟩ => by
    refine tE_step s h fun v H1 d m s1 q1 => ?_
    obtain ⟨r, e, q⟩ := lt_ok q1
    obtain ⟨F, ad, s2⟩ := s1
    exact ⟨r, tru_of (T := tx X nm) s2.sat s2.top e, q H1 ⟨F, ad, s2.sub fun _ z => List.mem_cons_of_mem _ z⟩⟩
theorem tb_imp : ∀ {σ : L2.St} {H : Hp} {Q : Bool → Hp → Prop}, tT (tx X nm) B W (mTB f) σ H Q → tTest (tE (tx X nm) B W f) σ H Q := fun {σ H Q} ⟨env, mem, ex, s, h⟩ => by
    refine tE_step s h fun v H1 d m s1 q1 => ?_
    obtain ⟨r, e, q⟩ := lt_ok q1
    obtain ⟨F, ad, s2⟩ := s1
    cases d with
    | bl b =>
      cases e
      exact ⟨_, s2.top, q H1 ⟨F, ad, s2.sub fun _ z => List.mem_cons_of_mem _ z⟩⟩
    | _ => cases e
theorem tTest_imp {ta tb : TE} (i : ∀ σ H Q, ta σ H Q → tb σ H Q) : ∀ {σ : L2.St} {H : Hp} {Q : Bool → Hp → Prop}, tTest ta σ H Q → tTest tb σ H Q := fun h => i _ _ _ h
theorem st_cmp {op : CmpOp} {φ : Pur} (ho : OpR X (compareOp op) fun x y H Q => RP (tx X nm) φ [x, y] H Q) (ha : SE nm B W X a f) (hb : SE nm B W X b g) (hm : behindInMarks op b = false) : ST nm B W X (.Compare a [op] [b] pos) (mTB (mBin φ f g)) :=
  PT.imp (pt_cmpR ho ha hb hm) fun _ _ _ h => tTest_imp (fun _ _ _ => bin_imp) (tb_imp h)
theorem chn_imp {φ ψ : Pur} : ∀ {σ : L2.St} {H : Hp} {Q : VK}, tE (tx X nm) B W (mChn φ ψ f g k) σ H Q → tChain (fun x y H Q => RP (tx X nm) φ [x, y] H Q) (fun x y H Q => RP (tx X nm) ψ [x, y] H Q) (tE (tx X nm) B W f) (tE (tx X nm) B W g) (tE (tx X nm) B W k) σ H Q := by
  rintro σ H Q ⟨env, mem, ex, s, h⟩
  refine tE_step s h fun v H1 d m s1 q1 => tE_step s1 q1.push1 fun y H2 e m2 s2 q2 => ?_
  obtain ⟨r, er, q⟩ := lf_ok q2.bind
  obtain ⟨F, ad, s3⟩ := s2
  refine ⟨F, ad, m2, [d, e], r, s3.sat, IsL.cons (s3.tmp (v, d) (by simp)) (IsL.cons (s3.tmp (y, e) (by simp)) IsL.nil), er, fun z F' ad' H3 x i => ?_⟩
  cases r with
  | bl c =>
    have iz : z = .bl c := i
    subst iz
    refine ⟨c, rfl, ?_⟩
    have s4 := s3.ext x
    cases c with
    | false =>
      rw [if_neg Bool.false_ne_true]
      exact q (.bl false) H3 ⟨F', ad', (s4.sub fun _ z => by simp [z]).push rfl⟩
    | true =>
      rw [if_pos rfl]
      have q' : Wnt (tx X nm) B W env ((v, d) :: ex) σ (KE (tx X nm) B env ex σ Q) ((k env m2).bind fun c m4 => lf ψ [e, c] m4) := q
      refine tE_step ⟨F', ad', s4⟩ q'.push1 fun w H4 c m4 s5 q5 => ?_
      refine rp_of (W := W) (env := env) (σ := σ) (p := [(w, c), (y, e), (v, d)]) s5 (fun F ad s6 => IsL.cons (s6.tmp (y, e) (by simp)) (IsL.cons (s6.tmp (w, c) (by simp)) IsL.nil)) (ds := [e, c]) (φ := ψ) (ex := ex) ?_
      obtain ⟨r, er, q⟩ := lf_ok q5
      unfold lf
      rw [er]
      exact q
  | _ => exact q.elim
theorem se_chn {op op' : CmpOp} {φ ψ : Pur} (ho : OpR X (compareOp op) fun x y H Q => RP (tx X nm) φ [x, y] H Q) (ho' : OpR X (compareOp op') fun x y H Q => RP (tx X nm) ψ [x, y] H Q) (ha : SE nm B W X a f) (hb : SE nm B W X b g) (hc : SE nm B W X c k)
    (hm : lastMarks [op, op'] [b, c] = false := by with_unfolding_all rfl) : SE nm B W X (.Compare a [op, op'] [b, c] pos) (mChn φ ψ f g k) :=
  PE.imp (pe_chain ho ho' ha hb hc hm) fun _ _ _ => chn_imp
theorem st_chn {op op' : CmpOp} {φ ψ : Pur} (ho : OpR X (compareOp op) fun x y H Q => RP (tx X nm) φ [x, y] H Q) (ho' : OpR X (compareOp op') fun x y H Q => RP (tx X nm) ψ [x, y] H Q) (ha : SE nm B W X a f) (hb : SE nm B W X b g) (hc : SE nm B W X c k)
    (hm : lastMarks [op, op'] [b, c] = false := by with_unfolding_all rfl) : ST nm B W X (.Compare a [op, op'] [b, c] pos) (mTB (mChn φ ψ f g k)) :=
  PT.imp (pt_chain ho ho' ha hb hc hm) fun _ _ _ h => tTest_imp (fun _ _ _ => chn_imp) (tb_imp h)
theorem st_not (ha : ST nm B W X a t) : ST nm B W X (.UnaryOp .Not a pos) (mNot t) :=
  PT.imp (pt_not ha) fun σ H Q ⟨env, mem, ex, s, h⟩ => ⟨env, mem, ex, s, h.bind.mono fun b m q => q⟩
theorem sw_and1 (ha : ST nm B W X a t) : SW nm B W X (.BoolOp .And [a] pos) t := pw_and1 ha
theorem sw_or1 (ha : ST nm B W X a t) : SW nm B W X (.BoolOp .Or [a] pos) t := pw_or1 ha
theorem sw_and {rest : List Expr} (ha : ST nm B W X a t) (hb : SW nm B W X (.BoolOp .And (b :: rest) pos) u) : SW nm B W X (.BoolOp .And (a :: b :: rest) pos) (mAnd t u) :=
  PW.imp (pw_and ha hb) fun σ H Q ⟨env, mem, ex, s, h⟩ => by
    refine tT_step s h fun H1 r m s1 q1 => ?_
    cases r with
    | true => rw [if_pos rfl] at q1 ⊢; exact ⟨env, m, ex, s1, q1⟩
    | false => rw [if_neg Bool.false_ne_true] at q1 ⊢; exact q1 H1 s1
theorem sw_or {rest : List Expr} (ha : ST nm B W X a t) (hb : SW nm B W X (.BoolOp .Or (b :: rest) pos) u) : SW nm B W X (.BoolOp .Or (a :: b :: rest) pos) (mOr t u) :=
  PW.imp (pw_or ha hb) fun σ H Q ⟨env, mem, ex, s, h⟩ => by
    refine tT_step s h fun H1 r m s1 q1 => ?_
    cases r with
    | true => rw [if_pos rfl] at q1 ⊢; exact q1 H1 s1
    | false => rw [if_neg Bool.false_ne_true] at q1 ⊢; exact ⟨env, m, ex, s1, q1⟩
theorem se_ifE {t : MT} (hc : ST nm B W X c t) (ha : SE nm B W X a f) (hb : SE nm B W X b g) : SE nm B W X (.IfExp c a b pos) (mIfE t f g) :=
  PE.imp (pe_ifExp hc ha hb) fun σ H Q ⟨env, mem, ex, s, h⟩ => by
    refine tT_step s h fun H1 r m s1 q1 => ?_
    cases r with
    | true => rw [if_pos rfl] at q1 ⊢; exact ⟨env, m, ex, s1, q1⟩
    | false => rw [if_neg Bool.false_ne_true] at q1 ⊢; exact ⟨env, m, ex, s1, q1⟩
theorem se_one {op} (h : SE nm B W X a f) : SE nm B W X (.BoolOp op [a] pos) f := pe_one h
theorem se_and {rest : List Expr} (ha : SE nm B W X a f) (hb : SE nm B W X (.BoolOp .And (b :: rest) pos) g) : SE nm B W X (.BoolOp .And (a :: b :: rest) pos) (mAndV f g) :=
  PE.imp (pe_and ha hb) fun σ H Q ⟨env, mem, ex, s, h⟩ => by
    refine tE_step s h fun v H1 d m s1 q1 => ?_
    cases d with
    | bl r =>
      have s2 := s1
      obtain ⟨F, ad, s3⟩ := s1
      refine ⟨r, s3.top, ?_⟩
      cases r with
      | true => exact ⟨env, m, ex, s2.pop, q1⟩
      | false => exact q1 _ H1 ⟨F, ad, (s3.sub fun _ z => List.mem_cons_of_mem _ z).push rfl⟩
    | _ => exact q1.elim
theorem se_or {rest : List Expr} (ha : SE nm B W X a f) (hb : SE nm B W X (.BoolOp .Or (b :: rest) pos) g) : SE nm B W X (.BoolOp .Or (a :: b :: rest) pos) (mOrV f g) :=
  PE.imp (pe_or ha hb) fun σ H Q ⟨env, mem, ex, s, h⟩ => by
    refine tE_step s h fun v H1 d m s1 q1 => ?_
    cases d with
    | bl r =>
      have s2 := s1
      obtain ⟨F, ad, s3⟩ := s1
      refine ⟨r, s3.top, ?_⟩
      cases r with
      | true => exact q1 _ H1 ⟨F, ad, (s3.sub fun _ z => List.mem_cons_of_mem _ z).push rfl⟩
      | false => exact ⟨env, m, ex, s2.pop, q1⟩
    | _ => exact q1.elim
theorem se_not (ha : SE nm B W X a f) : SE nm B W X (.UnaryOp .Not a pos) (mNotV f) :=
  PE.imp (pe_not ha) fun σ H Q ⟨env, mem, ex, s, h⟩ => by
    refine tE_step s h fun v H1 d m s1 q1 => ?_
    cases d with
    | bl r =>
      obtain ⟨F, ad, s3⟩ := s1
      exact ⟨r, s3.top, q1 _ H1 ⟨F, ad, (s3.sub fun _ z => List.mem_cons_of_mem _ z).push rfl⟩⟩
    | _ => exact q1.elim
end
/-! ### statements -/
def Res.flow {α : Type} (env : List Slot) (r : Res α) (k : α → List MO → Flow) : Flow :=
  match r with
  | .bad => .bad
  | .ok d m => k d m
  | .exc C xs m => .exc C xs env m
def mSeq (f g : MS) : MS := fun env mem => match f env mem with
  | .next e m => g e m
  | r => r
def mPass : MS := fun env mem => .next env mem
def mSet (i : Nat) (f : ME) : MS := fun env mem => (f env mem).flow env fun d m => .next (env.set i (.val d)) m
def mDrop (f : ME) : MS := fun env mem => (f env mem).flow env fun _ m => .next env m
def mRet (f : ME) : MS := fun env mem => (f env mem).flow env fun d m => .ret d m
def mRetN : MS := fun _ mem => .ret .non mem
def mIf (t : MT) (f g : MS) : MS := fun env mem => (t env mem).flow env fun b m => if b = true then f env m else g env m
def mBrk : MS := fun env mem => .brk env mem
def mCnt : MS := fun env mem => .cnt env mem
def mNev : MS := fun _ _ => .bad
section
variable {nm : String → List Str} {B : Bs} {W : WX} {X : Cx} {st : Stmt} {rest sa sb : List Stmt} {e : Expr} {f : ME} {t : MT} {g k : MS} {pos : Pos}
theorem KS.sub {T : Tx} {ex ex' : List (V × D)} {Z : Ends} {r : Flow} (h : KS T B W ex Z r) (i : ∀ p ∈ ex, p ∈ ex') : KS T B W ex' Z r := by
  cases r with
  | bad => exact h
  | next e m => exact fun σ H s => h σ H (s.sub i)
  | ret d m => exact fun v H s => h v H (s.sub fun p hp => by
      rcases List.mem_cons.mp hp with e | e
      · subst e; exact List.mem_cons_self
      · exact List.mem_cons_of_mem _ (i p e))
  | brk e m => exact fun σ H s => h σ H (s.sub i)
  | cnt e m => exact fun σ H s => h σ H (s.sub i)
  | exc C xs e m => exact fun dc F ad σ H s x => h dc F ad σ H (s.sub i) x
/-- an expression's wish, out of a statement's -/
theorem ks_of {α : Type} {T : Tx} {env : List Slot} {ex : List (V × D)} {σ : L2.St} {Z : Ends} {r : Res α} {k : α → List MO → Flow}
    (h : KS T B W ex Z (r.flow env k)) : Wnt T B W env ex σ (fun d m => KS T B W ex Z (k d m)) r := by
  cases r with
  | bad => exact h
  | ok d m => exact h
  | exc C xs m => exact fun dc F ad H s x => h dc F ad σ H s x
theorem ss_nil : SSs nm B W X [] mPass := PSs.imp pss_nil fun Z σ H ⟨env, mem, ex, s, h⟩ => h σ H s
theorem ss_cons (h1 : SS nm B W X st g) (h2 : SSs nm B W X rest k) : SSs nm B W X (st :: rest) (mSeq g k) :=
  PSs.imp (pss_cons h1 h2) fun Z σ H ⟨env, mem, ex, s, h⟩ => by
    refine ⟨env, mem, ex, s, ?_⟩
    unfold mSeq at h
    cases e : g env mem with
    | next e' m => rw [e] at h; exact fun σ' H' s' => ⟨e', m, ex, s', h⟩
    | bad => rw [e] at h; exact h
    | ret d m => rw [e] at h; exact h
    | brk d m => rw [e] at h; exact h
    | cnt d m => rw [e] at h; exact h
    | exc C xs d m => rw [e] at h; exact h
theorem ss_one (h1 : SS nm B W X st g) : SSs nm B W X [st] g := pss_one h1
theorem ss_pass : SS nm B W X (.Pass pos) mPass := PS.imp ps_pass fun Z σ H ⟨env, mem, ex, s, h⟩ => h σ H s
theorem ss_brk : SS nm B W X (.Break pos) mBrk := PS.imp ps_break fun Z σ H ⟨env, mem, ex, s, h⟩ => h σ H s
theorem ss_cnt : SS nm B W X (.Continue pos) mCnt := PS.imp ps_continue fun Z σ H ⟨env, mem, ex, s, h⟩ => h σ H s
theorem ss_nev : SS nm B W X st mNev := PS.imp ps_never fun Z σ H ⟨env, mem, ex, s, h⟩ => h.elim
theorem sss_nev : SSs nm B W X rest mNev := PSs.imp pss_never fun Z σ H ⟨env, mem, ex, s, h⟩ => h.elim
theorem ss_set (i : Nat) {x : Str} {pos' : Pos} (he : SE nm B W X e f) (hN : X.N.Nodup) (hi : X.N[i]? = some x := by rfl) (hx : Loc X.env.scope x := by first | exact Or.inl rfl | exact Or.inr rfl) (hs : swapsWith e (some (.Name x pos')) pos.line X.env = pure false := by rfl) (hf : X.fn x = true ∨ X.env.scope.names.lookup x = some .local := by first | exact .inl rfl | exact .inr rfl | assumption) :
    SS nm B W X (.Assign [.Name x pos'] e pos) (mSet i f) :=
  PS.imp (ps_set hN hi hx he hs hf) fun Z σ H ⟨env, mem, ex, s, h⟩ =>
    ⟨env, mem, ex, s, (ks_of h).mono fun d m q v H' ⟨F, ad, s'⟩ => q _ H' ⟨F, ad, (s'.sub fun _ z => List.mem_cons_of_mem _ z).set s'.top⟩⟩
theorem ss_expr (he : SE nm B W X e f) (hs : swapsWith e none pos.line X.env = pure false := by rfl) : SS nm B W X (.Expr e pos) (mDrop f) :=
  PS.imp (ps_expr he hs) fun Z σ H ⟨env, mem, ex, s, h⟩ => ⟨env, mem, ex, s, (ks_of h).mono fun d m q v H' s' => q σ H' s'.pop⟩
theorem ss_ret (he : SE nm B W X e f) : SS nm B W X (.Return (some e) pos) (mRet f) :=
  PS.imp (ps_ret he) fun Z σ H ⟨env, mem, ex, s, h⟩ => ⟨env, mem, ex, s, (ks_of h).mono fun d m q v H' s' => q v H' s'.bare⟩
theorem ss_retN : SS nm B W X (.Return none pos) mRetN :=
  PS.imp ps_retN fun Z σ H ⟨env, mem, ex, ⟨F, ad, s⟩, h⟩ => h .non H ⟨F, ad, (s.push (v := .non) (d := .non) rfl).bare⟩
theorem ss_if {c : Expr} (hc : ST nm B W X c t) (ha : SSs nm B W X sa g) (hb : SSs nm B W X sb k) : SS nm B W X (.If c sa sb pos) (mIf t g k) :=
  PS.imp (ps_if hc ha hb) fun Z σ H ⟨env, mem, ex, s, h⟩ => ⟨env, mem, ex, s, (ks_of h).mono fun r m q H' s' => by
    cases r with
    | true => rw [if_pos rfl] at q ⊢; exact ⟨env, m, ex, s', q⟩
    | false => rw [if_neg Bool.false_ne_true] at q ⊢; exact ⟨env, m, ex, s', q⟩⟩
end
/-! ### targets: a name, a tuple of names -/
inductive Tgt where
  | nm (i : Nat) | tp (is : List Nat)
def setAll {α : Type} (mk : α → Slot) : List Nat → List α → List Slot → List Slot
  | i :: is, d :: ds, env => setAll mk is ds (env.set i (mk d))
  | _, _, env => env
def Tgt.set : Tgt → D → List Slot → Option (List Slot)
  | .nm i, d, env => some (env.set i (.val d))
  | .tp is, .tup xs, env => if xs.length = is.length then some (setAll .val is xs env) else none
  | .tp _, _, _ => none
def Tgt.slots : Tgt → List Nat
  | .nm i => [i]
  | .tp is => is
def setV : List Nat → List V → L2.St → L2.St
  | i :: is, v :: vs, σ => setV is vs (σ.set i (some v))
  | _, _, σ => σ
def gAll (is : List Nat) : TGs := fun vs σ H Q => vs.length = is.length ∧ Q (setV is vs σ) H
def gTgt (K : PySem.W.Frag) : Tgt → TG
  | .nm i => gName i
  | .tp is => gTup K is.length (gAll is)
abbrev SG (X : Cx) (tg : Expr) (τ : Tgt) : Prop := PG X tg (gTgt X.K τ)
section
variable {X : Cx} {pos : Pos}
theorem PGs.imp {es : List Expr} {t u : TGs} (h : PGs X es t) (i : ∀ vs σ H Q, u vs σ H Q → t vs σ H Q) : PGs X es u := ⟨fun p s σ H vs us Q I r q => h.run p s σ H vs us Q I r (i vs σ H Q q)⟩
theorem sgs_nil : PGs X [] (gAll []) := PGs.imp pgs_nil fun vs σ H Q h => by
  obtain ⟨l, q⟩ := h
  have e : vs = [] := by simpa using l
  subst e
  exact ⟨rfl, q⟩
theorem sgs_cons (i : Nat) {is : List Nat} {x : Str} {es : List Expr} (hN : X.N.Nodup) (h2 : PGs X es (gAll is)) (hi : X.N[i]? = some x := by rfl) (hx : Loc X.env.scope x := by first | exact Or.inl rfl | exact Or.inr rfl) (hf : X.fn x = true ∨ X.env.scope.names.lookup x = some .local := by first | exact .inl rfl | exact .inr rfl | assumption)
    (hs : (assignEach (.Name x pos :: es) X.env).map (·.2) = assign (.Name x pos) X.env :: (assignEach es X.env).map (·.2) := by rfl) : PGs X (.Name x pos :: es) (gAll (i :: is)) :=
  PGs.imp (pgs_cons (pg_name hN hi hx hf) h2 hs) fun vs σ H Q h => by
    obtain ⟨l, q⟩ := h
    cases vs with
    | nil => simp at l
    | cons v vs => exact ⟨v, vs, rfl, by simpa using l, q⟩
theorem sg_name (i : Nat) {x : Str} (hN : X.N.Nodup) (hi : X.N[i]? = some x := by rfl) (hx : Loc X.env.scope x := by first | exact Or.inl rfl | exact Or.inr rfl) (hf : X.fn x = true ∨ X.env.scope.names.lookup x = some .local := by first | exact .inl rfl | exact .inr rfl | assumption) : SG X (.Name x pos) (.nm i) := pg_name hN hi hx hf
theorem sg_tup {es : List Expr} {k : Nat} {is : List Nat} (hc : X.calm = true) (h : PGs X es (gAll is)) (hn : (assignEach es X.env).length = is.length := by rfl) (hst : (assignEach es X.env).findIdx? (·.1) = none := by rfl) : SG X (.Tuple es k pos) (.tp is) :=
  pg_tup hc h hn hst
end
section
variable {T : Tx} {B : Bs} {F : Hp} {ad : List Addr} {env : List Slot} {mem : List MO} {ex : List (V × D)} {σ : L2.St} {H : Hp}
theorem set_all : ∀ {is : List Nat} {ds : List D} {vs : List V} {env : List Slot} {σ : L2.St}, SatF T B F ad env mem ex σ H → IsL T F ad ds vs → ds.length = is.length → SatF T B F ad (setAll .val is ds env) mem ex (setV is vs σ) H
  | [], [], _, _, _, s, h, _ => by cases h; exact s
  | i :: is, d :: ds, _, env, σ, s, h, l => by
    obtain ⟨v, vr, rfl, h1, h2⟩ := h
    exact set_all (is := is) (s.set h1) h2 (by simpa using l)
  | [], _ :: _, _, _, _, _, _, l => by simp at l
  | _ :: _, [], _, _, _, _, _, l => by simp at l
/-- a target takes what the mirror says -/
theorem tgt_set {τ : Tgt} {d : D} {v : V} {env' : List Slot} {Q : L2.St → Hp → Prop} (s : SatX T B env mem ((v, d) :: ex) σ H) (h : τ.set d env = some env') (q : ∀ σ', (∀ n, n ∉ τ.slots → σ'[n]? = σ[n]?) → σ'.length = σ.length → SatX T B env' mem ((v, d) :: ex) σ' H → Q σ' H) : gTgt T.K τ v σ H Q := by
  obtain ⟨F, ad, s⟩ := s
  cases τ with
  | nm i =>
    cases h
    exact q _ (fun n hn => List.getElem?_set_ne (fun e => hn (by simp [Tgt.slots, e]))) (by simp) ⟨F, ad, s.set s.top⟩
  | tp is =>
    cases d with
    | tup xs =>
      simp only [Tgt.set] at h
      split at h
      · rename_i l
        cases h
        obtain ⟨a, vs, e, h1, h2⟩ := s.top
        have lv : vs.length = is.length := by rw [h2.length, l]
        refine ⟨a, vs, e, sqT_mono s.sat.sub h1, lv, lv, q _ (fun n hn => ?_) ?_ ⟨F, ad, set_all s h2 l⟩⟩
        · clear q s h2 h1 e l
          induction is generalizing vs σ with
          | nil => cases vs <;> rfl
          | cons i is ih =>
            cases vs with
            | nil => rfl
            | cons u us =>
              show (setV is us (σ.set i (some u)))[n]? = _
              have hi : n ≠ i := fun e => hn (by simp [Tgt.slots, e])
              have hr : n ∉ (Tgt.tp is).slots := fun z => hn (List.mem_cons_of_mem _ z)
              rw [ih (σ := σ.set i (some u)) us (by simpa using lv) hr, List.getElem?_set_ne (Ne.symm hi)]
        · clear q s h2 h1 e l
          induction is generalizing vs σ with
          | nil => cases vs <;> rfl
          | cons i is ih =>
            cases vs with
            | nil => rfl
            | cons u us =>
              show (setV is us (σ.set i (some u))).length = _
              rw [ih (σ := σ.set i (some u)) us (by simpa using lv)]
              simp
      · cases h
    | _ => cases h
end
/-! ### what is walked -/
/-- J yields just ds, as long as keep is kept -/
def Wlk (T : Tx) (J : It) (ds : List D) (keep : List (V × D)) : Prop :=
  ∀ (B : Bs) (i : Nat) (env : List Slot) (mem : List MO) (ex : List (V × D)) (σ : L2.St) (H : Hp), SatX T B env mem (keep ++ ex) σ H →
    (∀ d, ds[i]? = some d → J.go i H ∧ ∀ x H', J.yld i H x H' → SatX T B env mem ((x, d) :: (keep ++ ex)) σ H') ∧ (ds[i]? = none → J.stop i H)
abbrev MI := List Slot → List MO → Res (List D)
def tI (T : Tx) (B : Bs) (W : WX) (f : MI) : TI := fun σ H R => ∃ env mem ex, SatX T B env mem ex σ H ∧
  Wnt T B W env ex σ (fun ds m => ∀ J keep H', SatX T B env m (keep ++ ex) σ H' → Wlk T J ds keep → R J H') (f env mem)
abbrev SI (nm : String → List Str) (B : Bs) (W : WX) (X : Cx) (tg e : Expr) (f : MI) : Prop := PI X tg e (tI ⟨X.K, nm⟩ B W f)
theorem PI.imp {X : Cx} {tg e : Expr} {t u : TI} (h : PI X tg e t) (i : ∀ σ H R, u σ H R → t σ H R) : PI X tg e u := ⟨fun p s σ H R I q => h.run p s σ H R I (i σ H R q)⟩
/-- the items of a list, a tuple -/
def mIt (f : ME) : MI := fun env mem => (f env mem).bind fun d m => match d with
  | .lst xs => .ok xs m
  | _ => .bad
def mItT (f : ME) : MI := fun env mem => (f env mem).bind fun d m => match d with
  | .tup xs => .ok xs m
  | _ => .bad
def upto (lo : Int) (n : Nat) : List D := (List.range n).map fun i => .int (lo + (i : Nat))
def small62 (i : Int) : Bool := decide (-(2 ^ 62) ≤ i) && decide (i < 2 ^ 62)
def dRng1 : List D → Option (List D)
  | [.int j] => if small62 j then some (upto 0 j.toNat) else none
  | _ => none
def dRng2 : List D → Option (List D)
  | [.int i, .int j] => if small62 i && small62 j then some (upto i (j - i).toNat) else none
  | _ => none
def lg (o : Option (List D)) (m : List MO) : Res (List D) := match o with
  | some r => .ok r m
  | none => .bad
def mRng1 (g : MA) : MI := fun env mem => (g env mem).bind fun ds m => lg (dRng1 ds) m
def mRng2 (g : MA) : MI := fun env mem => (g env mem).bind fun ds m => lg (dRng2 ds) m
section
variable {nm : String → List Str} {B : Bs} {W : WX} {X : Cx} {tg a b : Expr} {f g : ME} {pos : Pos}
theorem small62_of {i : Int} (h : small62 i = true) : -(2 ^ 62) ≤ i ∧ i < 2 ^ 62 := by
  unfold small62 at h
  obtain ⟨h1, h2⟩ := Bool.and_eq_true_iff.mp h
  exact ⟨of_decide_eq_true h1, of_decide_eq_true h2⟩
theorem wlk_list {T : Tx} {p : Addr} {v : V} {xs : List D} (hv : v = .ref p) : Wlk T (Itl T.K p) xs [(v, .lst xs)] := by
  intro B i env mem ex σ H ⟨F, ad, s⟩
  obtain ⟨p', vs, e, h1, h2⟩ := s.tmp (v, .lst xs) (by simp)
  subst hv
  cases e
  have hq : SqL T.K H p vs := SqL.of (s.sat.sub _ _ h1)
  refine ⟨fun d hd => ?_, fun hn => ⟨vs, hq, ?_⟩⟩
  · obtain ⟨x, hx, hi⟩ := h2.get hd
    refine ⟨⟨vs, x, hq, hx⟩, fun y H' ⟨eH, hy⟩ => ?_⟩
    subst eH
    have e2 := hy vs hq
    rw [hx] at e2
    cases e2
    exact ⟨F, ad, s.push hi⟩
  · rw [h2.length]; exact List.getElem?_eq_none_iff.mp hn
theorem wlk_tup {T : Tx} {p : Addr} {v : V} {xs : List D} (hv : v = .ref p) : Wlk T (Itt T.K p) xs [(v, .tup xs)] := by
  intro B i env mem ex σ H ⟨F, ad, s⟩
  obtain ⟨p', vs, e, h1, h2⟩ := s.tmp (v, .tup xs) (by simp)
  subst hv
  cases e
  have hq : SqT T.K H p vs := sqT_mono s.sat.sub h1
  refine ⟨fun d hd => ?_, fun hn => ⟨vs, hq, ?_⟩⟩
  · obtain ⟨x, hx, hi⟩ := h2.get hd
    refine ⟨⟨vs, x, hq, hx⟩, fun y H' ⟨eH, hy⟩ => ?_⟩
    subst eH
    have e2 := hy vs hq
    rw [hx] at e2
    cases e2
    exact ⟨F, ad, s.push hi⟩
  · rw [h2.length]; exact List.getElem?_eq_none_iff.mp hn
theorem wlk_rng {T : Tx} {lo : Int} {n : Nat} : Wlk T (Itr lo n) (upto lo n) [] := by
  intro B i env mem ex σ H ⟨F, ad, s⟩
  have hl : (upto lo n).length = n := by simp [upto]
  refine ⟨fun d hd => ?_, fun hn => ?_⟩
  · have hi : i < n := by rw [← hl]; exact (List.getElem?_eq_some_iff.mp hd).1
    refine ⟨hi, fun y H' ⟨eH, hy⟩ => ?_⟩
    subst eH; subst hy
    have e : d = .int (lo + (i : Nat)) := by
      unfold upto at hd
      rw [List.getElem?_map, List.getElem?_range hi] at hd
      exact (Option.some.inj hd).symm
    subst e
    exact ⟨F, ad, s.push rfl⟩
  · show n ≤ i
    rw [← hl]; exact List.getElem?_eq_none_iff.mp hn
theorem si_list (ha : SE nm B W X a f) : SI nm B W X tg a (mIt f) :=
  PI.imp (pi_list ha) fun σ H R ⟨env, mem, ex, s, h⟩ => by
    refine tE_step s h fun v H1 d m s1 q1 => ?_
    cases d with
    | lst xs =>
      obtain ⟨F, ad, s2⟩ := s1
      obtain ⟨p, vs, e, h1, h2⟩ := s2.top
      exact ⟨p, e, ⟨vs, SqL.of (s2.sat.sub _ _ h1)⟩, q1 _ [(v, .lst xs)] H1 ⟨F, ad, s2⟩ (wlk_list e)⟩
    | _ => exact q1.elim
theorem si_tup (ha : SE nm B W X a f) : SI nm B W X tg a (mItT f) :=
  PI.imp (pi_tup ha) fun σ H R ⟨env, mem, ex, s, h⟩ => by
    refine tE_step s h fun v H1 d m s1 q1 => ?_
    cases d with
    | tup xs =>
      obtain ⟨F, ad, s2⟩ := s1
      obtain ⟨p, vs, e, h1, h2⟩ := s2.top
      exact ⟨p, e, ⟨vs, sqT_mono s2.sat.sub h1⟩, q1 _ [(v, .tup xs)] H1 ⟨F, ad, s2⟩ (wlk_tup e)⟩
    | _ => exact q1.elim
theorem one_of {T : Tx} {F : Hp} {ad : List Addr} {vs : List V} {i : Int} (l : vs.length = 1) (h : ∀ p ∈ vs.zip [D.int i], Is T F ad p.2 p.1) : vs = [.int i] := by
  match vs, l with
  | [v], _ =>
    have e : v = .int i := h (v, .int i) (by simp)
    rw [e]
theorem two_of {T : Tx} {F : Hp} {ad : List Addr} {vs : List V} {i j : Int} (l : vs.length = 2) (h : ∀ p ∈ vs.zip [D.int i, D.int j], Is T F ad p.2 p.1) : vs = [.int i, .int j] := by
  match vs, l with
  | [v, u], _ =>
    have e : v = .int i := h (v, .int i) (by simp)
    have e2 : u = .int j := h (u, .int j) (by simp)
    rw [e, e2]
theorem lg_ok {T : Tx} {env : List Slot} {ex : List (V × D)} {σ : L2.St} {o : Option (List D)} {m : List MO} {K : List D → List MO → Prop} (h : Wnt T B W env ex σ K (lg o m)) : ∃ r, o = some r ∧ K r m := by
  cases o with
  | none => exact h.elim
  | some b => exact ⟨b, rfl, h⟩
theorem rng1_eq {ds r : List D} (h : dRng1 ds = some r) : ∃ j, ds = [.int j] ∧ small62 j = true ∧ r = upto 0 j.toNat := by
  match ds, h with
  | [.int j], h =>
    simp only [dRng1] at h
    by_cases c : small62 j = true
    · rw [if_pos c] at h; exact ⟨j, rfl, c, (Option.some.inj h).symm⟩
    · rw [if_neg c] at h; cases h
theorem rng2_eq {ds r : List D} (h : dRng2 ds = some r) : ∃ i j, ds = [.int i, .int j] ∧ (small62 i && small62 j) = true ∧ r = upto i (j - i).toNat := by
  match ds, h with
  | [.int i, .int j], h =>
    simp only [dRng2] at h
    by_cases c : (small62 i && small62 j) = true
    · rw [if_pos c] at h; exact ⟨i, j, rfl, c, (Option.some.inj h).symm⟩
    · rw [if_neg c] at h; cases h
theorem si_rng1 {p : Pos} {fa : MA} (ha : SA nm B W X [a] fa) (hm : X.mg "range" = none) (hg : Gl X "range" := by rfl) (hs : starEach [a] X.env = [(false, eval a X.env)] := by rfl) : SI nm B W X tg (.Call (.Name "range" p) [a] [] pos) (mRng1 fa) :=
  PI.imp (pi_range1 hg hm ha hs) fun σ H R ⟨env, mem, ex, s, h⟩ => by
    refine tA_step s h fun vs H1 ds m l ⟨F, ad, s2⟩ q => ?_
    obtain ⟨r, e, q⟩ := lg_ok q
    obtain ⟨j, rfl, c, rfl⟩ := rng1_eq e
    obtain ⟨c1, c2⟩ := small62_of c
    exact ⟨j, one_of l fun p hp => s2.tmp p (List.mem_append_left _ hp), c1, c2, q _ [] H1 ⟨F, ad, s2.sub fun p hp => List.mem_append_right _ hp⟩ wlk_rng⟩
theorem si_rng2 {p : Pos} {fa : MA} (ha : SA nm B W X [a, b] fa) (hm : X.mg "range" = none) (hg : Gl X "range" := by rfl) (hs : starEach [a, b] X.env = [(false, eval a X.env), (false, eval b X.env)] := by rfl) (hs2 : starEach [b] X.env = [(false, eval b X.env)] := by rfl) :
    SI nm B W X tg (.Call (.Name "range" p) [a, b] [] pos) (mRng2 fa) :=
  PI.imp (pi_range2 hg hm ha hs hs2) fun σ H R ⟨env, mem, ex, s, h⟩ => by
    refine tA_step s h fun vs H1 ds m l ⟨F, ad, s2⟩ q => ?_
    obtain ⟨r, e, q⟩ := lg_ok q
    obtain ⟨i, j, rfl, c, rfl⟩ := rng2_eq e
    obtain ⟨c1, c2⟩ := Bool.and_eq_true_iff.mp c
    obtain ⟨c1, c3⟩ := small62_of c1
    obtain ⟨c2, c4⟩ := small62_of c2
    exact ⟨i, j, two_of l fun p hp => s2.tmp p (List.mem_append_left _ hp), ⟨c1, c3, c2, c4⟩, q _ [] H1 ⟨F, ad, s2.sub fun p hp => List.mem_append_right _ hp⟩ wlk_rng⟩
end
/-! ### for, while -/
def mForGo (τ : Tgt) (body : MS) : List D → MS
  | [], env, mem => .next env mem
  | d :: ds, env, mem => match τ.set d env with
    | none => .bad
    | some e => match body e mem with
      | .next e' m => mForGo τ body ds e' m
      | .cnt e' m => mForGo τ body ds e' m
      | .brk e' m => .next e' m
      | r => r
def mFor (τ : Tgt) (f : MI) (body : MS) : MS := fun env mem => (f env mem).flow env fun ds m => mForGo τ body ds env m
/-- at most n turns -/
def mWhileN (t : MT) (body : MS) : Nat → MS
  | 0, _, _ => .bad
  | n + 1, env, mem => (t env mem).flow env fun b m => if b = true then (match body env m with
      | .next e' m' => mWhileN t body n e' m'
      | .cnt e' m' => mWhileN t body n e' m'
      | .brk e' m' => .next e' m'
      | r => r) else .next env m
open Classical in
noncomputable def mWhile (t : MT) (body : MS) : MS := fun env mem => if h : ∃ n, mWhileN t body n env mem ≠ .bad then mWhileN t body h.choose env mem else .bad
section
variable {nm : String → List Str} {B : Bs} {W : WX} {X : Cx} {tg iter c : Expr} {body : List Stmt} {f : MI} {g : MS} {t : MT} {τ : Tgt} {pos : Pos}
theorem ss_for (hp : PassesOwn (model X.prog X.w) X.A X.env X.xe) (hc : X.calm = true) (hi : SI nm B W X tg iter f) (hg : SG X tg τ) (hb : SSs nm B W X body g)
    (hs : ∀ x, foldedSetIterable iter X.env x = pure x := by intro _; rfl) : SS nm B W X (.For tg iter body [] pos) (mFor τ f g) :=
  PS.imp (ps_for hp hc hi hg hb hs) fun Z σ H ⟨env, mem, ex, s, h⟩ => by
    refine ⟨env, mem, ex, s, (ks_of h).mono fun ds m q J keep H1 s1 wk => ?_⟩
    refine ⟨fun i n σ H => n = ds.length - i ∧ ∃ env mem, SatX (tx X nm) B env mem (keep ++ ex) σ H ∧ KS (tx X nm) B W ex Z (mForGo τ g (ds.drop i) env mem), ⟨_, rfl, env, m, s1, by simpa using q⟩, ?_⟩
    rintro i n σ H ⟨en, env, mem, s2, q2⟩
    obtain ⟨w1, w2⟩ := wk B i env mem ex σ H s2
    cases e : ds[i]? with
    | none =>
      have hd : ds.drop i = [] := List.drop_eq_nil_of_le (List.getElem?_eq_none_iff.mp e)
      rw [hd] at q2
      exact .inl ⟨w2 e, q2 σ H (s2.sub fun p hp => List.mem_append_right _ hp)⟩
    | some d =>
      obtain ⟨go, y⟩ := w1 d e
      have hlt := (List.getElem?_eq_some_iff.mp e).1
      have hd : ds.drop i = d :: ds.drop (i + 1) := by
        rw [List.drop_eq_getElem_cons hlt]
        rw [List.getElem?_eq_getElem hlt] at e
        rw [Option.some.inj e]
      rw [hd] at q2
      refine .inr ⟨go, fun σ' H' => ∃ env mem, SatX (tx X nm) B env mem (keep ++ ex) σ' H' ∧ KS (tx X nm) B W ex Z (mForGo τ g (ds.drop (i + 1)) env mem), fun σ' H' ⟨e1, m1, s3, q3⟩ => ⟨_, ?_, rfl, e1, m1, s3, q3⟩, fun x H' hy => ?_⟩
      · omega
      · have s3 := y x H' hy
        unfold mForGo at q2
        cases e2 : τ.set d env with
        | none => rw [e2] at q2; exact q2.elim
        | some env' =>
          rw [e2] at q2
          dsimp only at q2
          refine tgt_set s3 e2 fun σ2 _ _ s4 => ⟨env', mem, keep ++ ex, s4.pop, ?_⟩
          cases e3 : g env' mem with
          | bad => rw [e3] at q2; exact q2.elim
          | next e4 m4 => rw [e3] at q2; exact fun σ5 H5 s5 => ⟨e4, m4, s5, q2⟩
          | cnt e4 m4 => rw [e3] at q2; exact fun σ5 H5 s5 => ⟨e4, m4, s5, q2⟩
          | brk e4 m4 => rw [e3] at q2; exact fun σ5 H5 s5 => q2 σ5 H5 (s5.sub fun p hp => List.mem_append_right _ hp)
          | ret d4 m4 =>
            rw [e3] at q2
            exact fun v H5 s5 => q2 v H5 (s5.sub fun p hp => by
              rcases List.mem_cons.mp hp with z | z
              · subst z; exact List.mem_cons_self
              · exact List.mem_cons_of_mem _ (List.mem_append_right _ z))
          | exc C xs e4 m4 => rw [e3] at q2; exact fun dc F ad σ5 H5 s5 x5 => q2 dc F ad σ5 H5 (s5.sub fun p hp => List.mem_append_right _ hp) x5
theorem while_mono : ∀ {n : Nat} {env : List Slot} {mem : List MO}, mWhileN t g n env mem ≠ .bad → mWhileN t g (n + 1) env mem = mWhileN t g n env mem
  | 0, _, _, h => absurd rfl h
  | n + 1, env, mem, h => by
    rw [mWhileN, mWhileN]
    rw [mWhileN] at h
    cases e : t env mem with
    | bad => rfl
    | exc C xs m => rfl
    | ok b m =>
      rw [e] at h
      simp only [Res.flow] at h ⊢
      cases b with
      | false => rfl
      | true =>
        rw [if_pos rfl] at h ⊢
        rw [if_pos rfl]
        cases e2 : g env m with
        | next e' m' => rw [e2] at h; simp only at h ⊢; exact while_mono h
        | cnt e' m' => rw [e2] at h; simp only at h ⊢; exact while_mono h
        | _ => rfl
theorem while_le {n k : Nat} {env : List Slot} {mem : List MO} (h : mWhileN t g n env mem ≠ .bad) : mWhileN t g (n + k) env mem = mWhileN t g n env mem := by
  induction k with
  | zero => rfl
  | succ k ih =>
    have e : mWhileN t g (n + k) env mem ≠ .bad := by rw [ih]; exact h
    rw [← ih]
    exact while_mono e
theorem while_at {n : Nat} {env : List Slot} {mem : List MO} (h : mWhileN t g n env mem ≠ .bad) : mWhile t g env mem = mWhileN t g n env mem := by
  unfold mWhile
  have hx : ∃ n, mWhileN t g n env mem ≠ .bad := ⟨n, h⟩
  rw [dif_pos hx]
  have h2 := hx.choose_spec
  have a := while_le (k := n) h2
  have b := while_le (k := hx.choose) h
  rw [← a, ← b, Nat.add_comm]
/-- the loop's own equation -/
theorem while_eq (env : List Slot) (mem : List MO) : mWhile t g env mem = (t env mem).flow env fun b m => if b = true then (match g env m with
      | .next e' m' => mWhile t g e' m'
      | .cnt e' m' => mWhile t g e' m'
      | .brk e' m' => .next e' m'
      | r => r) else .next env m := by
  have inner : ∀ (n : Nat) (e' : List Slot) (m' : List MO), mWhileN t g n e' m' ≠ .bad → mWhile t g e' m' = mWhileN t g n e' m' := fun n e' m' h => while_at h
  by_cases hx : ∃ n, mWhileN t g n env mem ≠ .bad
  · obtain ⟨n, h⟩ := hx
    rw [while_at h]
    cases n with
    | zero => exact absurd rfl h
    | succ n =>
      rw [mWhileN]
      rw [mWhileN] at h
      cases e : t env mem with
      | bad => rfl
      | exc C xs m => rfl
      | ok b m =>
        rw [e] at h
        simp only [Res.flow] at h ⊢
        cases b with
        | false => rfl
        | true =>
          rw [if_pos rfl] at h ⊢
          rw [if_pos rfl]
          cases e2 : g env m with
          | next e' m' => rw [e2] at h; simp only at h ⊢; exact (while_at h).symm
          | cnt e' m' => rw [e2] at h; simp only at h ⊢; exact (while_at h).symm
          | _ => rfl
  · have no : ∀ n, mWhileN t g n env mem = .bad := fun n => Classical.byContradiction fun q => hx ⟨n, q⟩
    have hb : mWhile t g env mem = .bad := by unfold mWhile; rw [dif_neg hx]
    rw [hb]
    cases e : t env mem with
    | bad => rfl
    | exc C xs m => have := no 1; rw [mWhileN, e] at this; cases this
    | ok b m =>
      simp only [Res.flow]
      have no' : ∀ n, (if b = true then (match g env m with
          | .next e' m' => mWhileN t g n e' m'
          | .cnt e' m' => mWhileN t g n e' m'
          | .brk e' m' => .next e' m'
          | r => r) else Flow.next env m) = .bad := fun n => by have := no (n + 1); rw [mWhileN, e] at this; exact this
      cases b with
      | false => have := no' 0; rw [if_neg Bool.false_ne_true] at this; cases this
      | true =>
        rw [if_pos rfl]
        have no2 := fun n => (if_pos rfl).symm.trans (no' n)
        have lift : ∀ e' m', (∀ n, mWhileN t g n e' m' = .bad) → mWhile t g e' m' = .bad := fun e' m' q => by
          unfold mWhile
          rw [dif_neg]
          rintro ⟨n, z⟩
          exact z (q n)
        cases e2 : g env m with
        | next e' m' => exact (lift e' m' fun n => by have := no2 n; rw [e2] at this; exact this).symm
        | cnt e' m' => exact (lift e' m' fun n => by have := no2 n; rw [e2] at this; exact this).symm
        | brk e' m' => have := no2 0; rw [e2] at this; cases this
        | bad => rfl
        | ret d m' => have := no2 0; rw [e2] at this; cases this
        | exc C xs e' m' => have := no2 0; rw [e2] at this; cases this
theorem ss_while (hp : PassesOwn (model X.prog X.w) X.A X.env X.xe) (hc : ST nm B W X c t) (hb : SSs nm B W X body g) : SS nm B W X (.While c body [] pos) (mWhile t g) :=
  PS.imp (ps_while hp hc hb) fun Z σ H ⟨env, mem, ex, s, h⟩ => by
    have hx : ∃ n, mWhileN t g n env mem ≠ .bad := Classical.byContradiction fun q => by
      unfold mWhile at h
      rw [dif_neg q] at h
      exact h
    obtain ⟨n, hn⟩ := hx
    rw [while_at hn] at h
    refine ⟨fun k σ H => ∃ env mem, SatX (tx X nm) B env mem ex σ H ∧ KS (tx X nm) B W ex Z (mWhileN t g k env mem), ⟨n, env, mem, s, h⟩, ?_⟩
    rintro k σ H ⟨env, mem, s, h⟩
    cases k with
    | zero => exact h.elim
    | succ k =>
      rw [mWhileN] at h
      refine ⟨env, mem, ex, s, (ks_of h).mono fun b m q H1 s1 => ?_⟩
      cases b with
      | false => rw [if_neg Bool.false_ne_true] at q ⊢; exact q σ H1 s1
      | true =>
        rw [if_pos rfl] at q ⊢
        refine ⟨fun σ' H' => ∃ env mem, SatX (tx X nm) B env mem ex σ' H' ∧ KS (tx X nm) B W ex Z (mWhileN t g k env mem), fun σ' H' z => ⟨k, Nat.lt_succ_self k, z⟩, env, m, ex, s1, ?_⟩
        cases e2 : g env m with
        | next e' m' => rw [e2] at q; exact fun σ' H' s' => ⟨e', m', s', q⟩
        | cnt e' m' => rw [e2] at q; exact fun σ' H' s' => ⟨e', m', s', q⟩
        | brk e' m' => rw [e2] at q; exact q
        | bad => rw [e2] at q; exact q
        | ret d m' => rw [e2] at q; exact q
        | exc C xs e' m' => rw [e2] at q; exact q
end
/-- no exception leaves -/
abbrev WF : WX := fun _ _ _ _ => False
/-! ### a list comprehension -/
def wipeE (env : List Slot) : List Nat → List Slot
  | [] => env
  | v :: vs => (wipeE env vs).set v .none
def lb (o : List (Bool)) : Bool := o.all id
/-- nothing is raised -/
def Res.bnd {α β : Type} (r : Res α) (k : α → List MO → Res β) : Res β :=
  match r with
  | .ok a m => k a m
  | _ => .bad
/-- turn by turn: the target, the test, the item -/
def mLcGo (τ : Tgt) (t : MT) (f : ME) (env : List Slot) : List D → List D → List MO → Res (List D)
  | [], acc, mem => .ok acc mem
  | d :: ds, acc, mem => match τ.set d env with
    | none => .bad
    | some e => (t e mem).bnd fun b m => if b = true then (f e m).bnd fun y m2 => if acc.length < sizeLine then mLcGo τ t f env ds (acc ++ [y]) m2 else .bad
      else mLcGo τ t f env ds acc m
def noOwn (env : List Slot) (own : List Nat) : Bool := own.all fun n => match env[n]? with
  | some (.own _) => false
  | _ => true
def mLc (τ : Tgt) (it : MI) (t : MT) (f : ME) (own : List Nat) : ME := fun env mem => (it env mem).bind fun ds m => if noOwn env own then (mLcGo τ t f (wipeE env own) ds [] m).bind fun r m2 => .ok (.lst r) m2 else .bad
def mYes : MT := fun _ mem => .ok true mem
section
variable {T : Tx} {B : Bs} {F : Hp} {ad : List Addr} {env : List Slot} {mem : List MO} {ex : List (V × D)} {σ : L2.St} {H : Hp}
theorem SatF.unset {i : Nat} (s : SatF T B F ad env mem ex σ H) : SatF T B F ad (env.set i .none) mem ex (σ.set i none) H := by
  refine ⟨s.sat, s.gro, s.pre, s.frm, by simp [s.len], fun j e hj => ?_, fun j m hj => ?_, fun j k m n a hj hk gj gk => ?_, s.tmp⟩
  · by_cases z : j = i
    · subst z
      have hl : j < env.length := by have := (List.getElem?_eq_some_iff.mp hj).1; simpa using this
      rw [List.getElem?_set_self hl] at hj; cases hj
    · rw [List.getElem?_set_ne (Ne.symm z)] at hj ⊢
      exact s.val j e hj
  · by_cases z : j = i
    · subst z
      have hl : j < env.length := by have := (List.getElem?_eq_some_iff.mp hj).1; simpa using this
      rw [List.getElem?_set_self hl] at hj; cases hj
    · rw [List.getElem?_set_ne (Ne.symm z)] at hj ⊢
      exact s.own j m hj
  · have nj : j ≠ i := fun z => by
      subst z
      have hl : j < env.length := by have := (List.getElem?_eq_some_iff.mp hj).1; simpa using this
      rw [List.getElem?_set_self hl] at hj; cases hj
    have nk : k ≠ i := fun z => by
      subst z
      have hl : k < env.length := by have := (List.getElem?_eq_some_iff.mp hk).1; simpa using this
      rw [List.getElem?_set_self hl] at hk; cases hk
    rw [List.getElem?_set_ne (Ne.symm nj)] at hj gj
    rw [List.getElem?_set_ne (Ne.symm nk)] at hk gk
    exact s.app j k m n a hj hk gj gk
theorem SatF.wipe (s : SatF T B F ad env mem ex σ H) : ∀ vs : List Nat, SatF T B F ad (wipeE env vs) mem ex (L2.wipe σ vs) H
  | [] => s
  | v :: vs => (s.wipe vs).unset
theorem wipe_get (σ : L2.St) {n : Nat} : ∀ {vs : List Nat}, n ∉ vs → (L2.wipe σ vs)[n]? = σ[n]?
  | [], _ => rfl
  | v :: vs, h => by
    show ((L2.wipe σ vs).set v none)[n]? = _
    rw [List.getElem?_set_ne (fun e => h (by simp [e])), wipe_get σ fun z => h (List.mem_cons_of_mem _ z)]
theorem wipe_len (σ : L2.St) : ∀ vs : List Nat, (L2.wipe σ vs).length = σ.length := wipe_length σ
theorem wipe_in (σ : L2.St) {n : Nat} : ∀ {vs : List Nat}, n ∈ vs → (L2.wipe σ vs)[n]? = if n < σ.length then some none else none
  | v :: vs, h => by
    show ((L2.wipe σ vs).set v none)[n]? = _
    by_cases z : n = v
    · subst z
      rw [List.getElem?_set_self']
      by_cases l : n < σ.length
      · rw [if_pos l, List.getElem?_eq_getElem (by rw [wipe_len]; exact l)]; rfl
      · rw [if_neg l, List.getElem?_eq_none_iff.mpr (by rw [wipe_len]; omega)]; rfl
    · have hm : n ∈ vs := by
        rcases List.mem_cons.mp h with e | e
        · exact absurd e z
        · exact e
      rw [List.getElem?_set_ne (Ne.symm z), wipe_in σ hm]
/-- the block's own slots alone were stored -/
theorem wipe_same {σ σ2 : L2.St} {vs : List Nat} (h : ∀ n, n ∉ vs → σ2[n]? = (L2.wipe σ vs)[n]?) (l : σ2.length = (L2.wipe σ vs).length) : L2.wipe σ2 vs = L2.wipe σ vs := by
  have l2 : σ2.length = σ.length := by rw [l, wipe_len]
  apply List.ext_getElem?
  intro n
  by_cases hn : n ∈ vs
  · rw [wipe_in σ2 hn, wipe_in σ hn, l2]
  · rw [wipe_get σ2 hn, h n hn]
/-- a thing at p, held besides -/
def Bs.also (B : Bs) (p : Addr) (o : HO) : Bs := ⟨B.F0, B.ad0, upd B.G p o, B.self⟩
theorem SatF.hold {p : Addr} {o : HO} (s : SatF T B F ad env mem ex σ H) (h : H p = none) : SatF T (B.also p o) F ad env mem ex σ (upd H p o) := by
  have hF := s.sat.free h
  have s' := s.ext (s.sat.aside (o := o) h)
  refine ⟨s'.sat, s'.gro, s'.pre, fun a u e => ?_, s'.len, s'.val, fun i m hi => ?_, s'.app, s'.tmp⟩
  · by_cases z : a = p
    · subst z
      have e' : upd B.G a o a = some u := e
      rw [upd_same] at e'
      exact ⟨by rw [upd_same]; exact e', hF, s.sat.notin h⟩
    · have e' : upd B.G p o a = some u := e
      rw [upd_ne z] at e'
      exact s'.frm a u e'
  · obtain ⟨a, h1, h2, h3, h4, h5, h6, h7⟩ := s.own i m hi
    have z : a ≠ p := fun e => by subst e; exact h4 h
    refine ⟨a, h1, h2, h3, by rw [upd_ne z]; exact h4, ?_, h6.mono (Same.refl F) (List.prefix_refl _) (upd_ne z), h7⟩
    show upd B.G p o a = none
    rw [upd_ne z]; exact h5
/-- it is changed -/
theorem SatF.hold_put {p : Addr} {o o' : HO} (s : SatF T (B.also p o) F ad env mem ex σ H) (hp : B.G p = none) : SatF T (B.also p o') F ad env mem ex σ (upd H p o') := by
  obtain ⟨hH, hF, had⟩ := s.frm p o (upd_same)
  have z1 : ∀ a, F a ≠ none → a ≠ p := fun a q e => q (e ▸ hF)
  have z2 : ∀ i a, ad[i]? = some a → a ≠ p := fun i a q e => had (e ▸ List.mem_of_getElem? q)
  refine ⟨⟨fun b u e => ?_, s.sat.len, s.sat.nd, fun a ha => ?_, fun i a m h1 h2 h3 => ?_⟩, s.gro, s.pre, fun a u e => ?_, s.len, s.val, fun i m hi => ?_, s.app, s.tmp⟩
  · rw [upd_ne (z1 b (by rw [e]; simp))]; exact s.sat.sub b u e
  · rw [upd_ne (show a ≠ p from fun e => had (by rw [← e]; exact ha))]; exact s.sat.there a ha
  · obtain ⟨g1, g2⟩ := s.sat.obj i a m h1 h2 h3
    exact ⟨g1, g2.mono (Same.refl F) (List.prefix_refl _) (upd_ne (z2 i a h1))⟩
  · by_cases z : a = p
    · subst z
      have e' : upd B.G a o' a = some u := e
      rw [upd_same] at e'
      exact ⟨by rw [upd_same]; exact e', hF, had⟩
    · have e' : upd B.G p o' a = some u := e
      rw [upd_ne z] at e'
      obtain ⟨g1, g2, g3⟩ := s.frm a u (show upd B.G p o a = some u by rw [upd_ne z]; exact e')
      exact ⟨by rw [upd_ne z]; exact g1, g2, g3⟩
  · obtain ⟨a, h1, h2, h3, h4, h5, h6, h7⟩ := s.own i m hi
    have z : a ≠ p := fun e => by
      subst e
      have e' : upd B.G a o a = none := h5
      rw [upd_same] at e'; cases e'
    refine ⟨a, h1, h2, h3, by rw [upd_ne z]; exact h4, ?_, h6.mono (Same.refl F) (List.prefix_refl _) (upd_ne z), h7⟩
    show upd B.G p o' a = none
    have e' : upd B.G p o a = none := h5
    rw [upd_ne z] at e' ⊢; exact e'
theorem SatF.held {p : Addr} {o : HO} (s : SatF T (B.also p o) F ad env mem ex σ H) : H p = some o := (s.frm p o upd_same).1
/-- it is frozen -/
theorem SatF.hold_end {p : Addr} {o : HO} (s : SatF T (B.also p o) F ad env mem ex σ H) (hp : B.G p = none) : SatF T B (upd F p o) ad env mem ex σ H := by
  obtain ⟨hH, hF, had⟩ := s.frm p o (upd_same)
  have gr : Same F (upd F p o) := same_new hF
  refine ⟨⟨fun b u e => ?_, s.sat.len, s.sat.nd, s.sat.there, fun i a m h1 h2 h3 => ?_⟩, s.gro.trans gr, s.pre, fun a u e => ?_, s.len, fun i d h => ?_, fun i m hi => ?_, s.app, fun q hq => (s.tmp q hq).mono gr (List.prefix_refl _)⟩
  · by_cases z : b = p
    · subst z; rw [upd_same] at e; rw [hH]; exact e
    · rw [upd_ne z] at e; exact s.sat.sub b u e
  · obtain ⟨g1, g2⟩ := s.sat.obj i a m h1 h2 h3
    have z : a ≠ p := fun e => had (e ▸ List.mem_of_getElem? h1)
    exact ⟨by rw [upd_ne z]; exact g1, g2.mono gr (List.prefix_refl _) rfl⟩
  · have z : a ≠ p := fun z => by subst z; rw [hp] at e; cases e
    obtain ⟨g1, g2, g3⟩ := s.frm a u (show upd B.G p o a = some u by rw [upd_ne z]; exact e)
    exact ⟨g1, by rw [upd_ne z]; exact g2, g3⟩
  · obtain ⟨v, h1, h2⟩ := s.val i d h
    exact ⟨v, h1, h2.mono gr (List.prefix_refl _)⟩
  · obtain ⟨a, h1, h2, h3, h4, h5, h6, h7⟩ := s.own i m hi
    have e' : upd B.G p o a = none := h5
    have z : a ≠ p := fun e => by subst e; rw [upd_same] at e'; cases e'
    rw [upd_ne z] at e'
    exact ⟨a, h1, by rw [upd_ne z]; exact h2, h3, h4, e', h6.mono gr (List.prefix_refl _) rfl, h7⟩
theorem SatF.held_none (s : SatF T B F ad env mem ex σ H) {p : Addr} (h : H p = none) : B.G p = none := by
  cases e : B.G p with
  | none => rfl
  | some o => have := (s.frm p o e).1; rw [h] at this; cases this
end
/-- what the block's own slots held -/
def oldT (σ : L2.St) (env : List Slot) : List Nat → List (V × D)
  | [] => []
  | n :: ns => match σ[n]?, env[n]? with
    | some (some v), some (.val d) => (v, d) :: oldT σ env ns
    | _, _ => oldT σ env ns
theorem oldT_mem {σ : L2.St} {env : List Slot} {n : Nat} {v : V} {d : D} (h1 : σ[n]? = some (some v)) (h2 : env[n]? = some (.val d)) : ∀ {ns : List Nat}, n ∈ ns → (v, d) ∈ oldT σ env ns
  | m :: ns, h => by
    rcases List.mem_cons.mp h with e | e
    · subst e
      unfold oldT
      rw [h1, h2]
      exact List.mem_cons_self
    · have ih := oldT_mem h1 h2 e
      unfold oldT
      split
      · exact List.mem_cons_of_mem _ ih
      · exact ih
theorem oldT_ok {T : Tx} {B : Bs} {F : Hp} {ad : List Addr} {env : List Slot} {mem : List MO} {ex : List (V × D)} {σ : L2.St} {H : Hp} (s : SatF T B F ad env mem ex σ H) : ∀ ns : List Nat, ∀ p ∈ oldT σ env ns, Is T F ad p.2 p.1
  | [], _, h => by simp [oldT] at h
  | n :: ns, p, h => by
    unfold oldT at h
    split at h
    · rename_i v d h1 h2
      rcases List.mem_cons.mp h with e | e
      · subst e
        obtain ⟨u, g1, g2⟩ := s.val n d h2
        rw [h1] at g1; cases g1
        exact g2
      · exact oldT_ok s ns p e
    · exact oldT_ok s ns p h
theorem noOwn_at {env : List Slot} {own : List Nat} (h : noOwn env own = true) {n : Nat} (hn : n ∈ own) {m : MO} : env[n]? ≠ some (.own m) := fun e => by
  have := List.all_eq_true.mp h n hn
  rw [e] at this
  cases this
theorem wipeE_get (env : List Slot) {n : Nat} : ∀ {vs : List Nat}, n ∉ vs → (wipeE env vs)[n]? = env[n]?
  | [], _ => rfl
  | v :: vs, h => by
    show ((wipeE env vs).set v .none)[n]? = _
    rw [List.getElem?_set_ne (fun e => h (by simp [e])), wipeE_get env fun z => h (List.mem_cons_of_mem _ z)]
theorem wipeE_len (env : List Slot) : ∀ vs : List Nat, (wipeE env vs).length = env.length
  | [] => rfl
  | v :: vs => by
    show ((wipeE env vs).set v .none).length = _
    rw [List.length_set, wipeE_len env vs]
theorem setAll_get {α : Type} {mk : α → Slot} {n : Nat} : ∀ {is : List Nat} {ds : List α} {env : List Slot}, n ∉ is → (setAll mk is ds env)[n]? = env[n]?
  | [], _, _, _ => by cases ‹List α› <;> rfl
  | _ :: _, [], _, _ => rfl
  | i :: is, d :: ds, env, h => by
    show (setAll mk is ds (env.set i (mk d)))[n]? = _
    rw [setAll_get fun z => h (List.mem_cons_of_mem _ z), List.getElem?_set_ne (fun e => h (by simp [e]))]
theorem setAll_len {α : Type} {mk : α → Slot} : ∀ {is : List Nat} {ds : List α} {env : List Slot}, (setAll mk is ds env).length = env.length
  | [], ds, _ => by cases ds <;> rfl
  | _ :: _, [], _ => rfl
  | i :: is, d :: ds, env => by
    show (setAll mk is ds (env.set i (mk d))).length = _
    rw [setAll_len, List.length_set]
theorem tgt_get {τ : Tgt} {d : D} {env env' : List Slot} (h : τ.set d env = some env') : (∀ n, n ∉ τ.slots → env'[n]? = env[n]?) ∧ env'.length = env.length := by
  cases τ with
  | nm i =>
    cases h
    exact ⟨fun n hn => List.getElem?_set_ne (fun e => hn (by simp [Tgt.slots, e])), by simp⟩
  | tp is =>
    cases d with
    | tup xs =>
      simp only [Tgt.set] at h
      split at h
      · cases h
        exact ⟨fun n hn => setAll_get hn, setAll_len⟩
      · cases h
    | _ => cases h
/-- the def's own slots again, behind a block -/
theorem SatF.restore {T : Tx} {B B0 : Bs} {F F' : Hp} {ad ad' : List Addr} {env env' : List Slot} {mem mem' : List MO} {ex ex' : List (V × D)} {σ σ' : L2.St} {H H' : Hp} {own : List Nat} (s : SatF T B0 F ad env mem ex σ H) (s' : SatF T B F' ad' env' mem' ex' σ' H')
    (hT : ∀ p ∈ oldT σ env own, p ∈ ex') (he : ∀ n, n ∉ own → env'[n]? = env[n]?) (hs : ∀ n, n ∉ own → σ'[n]? = σ[n]?) (hn : noOwn env own = true) : SatF T B F' ad' env mem' ex' σ H' := by
  have no : ∀ n m, env[n]? = some (.own m) → n ∉ own := fun n m e z => noOwn_at hn z e
  refine ⟨s'.sat, s'.gro, s'.pre, s'.frm, s.len, fun n d h => ?_, fun n m h => ?_, fun i j m k a h1 h2 h3 h4 => ?_, s'.tmp⟩
  · by_cases z : n ∈ own
    · obtain ⟨v, g1, g2⟩ := s.val n d h
      exact ⟨v, g1, s'.tmp (v, d) (hT _ (oldT_mem g1 h z))⟩
    · obtain ⟨v, g1, g2⟩ := s'.val n d (by rw [he n z]; exact h)
      exact ⟨v, by rw [← hs n z]; exact g1, g2⟩
  · have z := no n m h
    obtain ⟨a, g⟩ := s'.own n m (by rw [he n z]; exact h)
    rw [hs n z] at g
    exact ⟨a, g⟩
  · have z1 := no i m h1
    have z2 := no j k h2
    exact s'.app i j m k a (by rw [he i z1]; exact h1) (by rw [he j z2]; exact h2) (by rw [hs i z1]; exact h3) (by rw [hs j z2]; exact h4)
section
variable {nm : String → List Str} {B : Bs} {W : WX} {X : Cx} {elt tg iter : Expr} {ifs : List Expr} {scope : Scope} {own : List (Str × Nat)} {pos : Pos} {it : MI} {τ : Tgt} {t : MT} {f : ME}
abbrev STs (nm : String → List Str) (B : Bs) (W : WX) (X : Cx) (e : List Expr) (f : MT) : Prop := PTs X e (tT ⟨X.K, nm⟩ B W f)
theorem sts_nil : STs nm B W X [] mYes := ⟨fun pins s σ H Q I ⟨env, mem, ex, s', h⟩ => pts_nil.run pins s σ H Q I (h H s')⟩
theorem sts_one {c : Expr} (h : ST nm B W X c t) : STs nm B W X [c] t := pts_one h
theorem go_bind {α β γ : Type} {r : Res α} {k : α → List MO → Res β} {j : β → List MO → Res γ} : (r.bind k).bind j = r.bind fun a m => (k a m).bind j := by cases r <;> rfl
/-- J yields just ds as long as keep is kept and P holds of the slots -/
def WlkP (T : Tx) (J : It) (ds : List D) (keep : List (V × D)) (P : List Slot → L2.St → Prop) (F0 : Hp) : Prop :=
  ∀ (B : Bs) (i : Nat) (env : List Slot) (mem : List MO) (ex : List (V × D)) (σ : L2.St) (H : Hp), Same F0 B.F0 → P env σ → SatX T B env mem (keep ++ ex) σ H →
    (∀ d, ds[i]? = some d → J.go i H ∧ ∀ x H', J.yld i H x H' → SatX T B env mem ((x, d) :: (keep ++ ex)) σ H') ∧ (ds[i]? = none → J.stop i H)
def tIo (T : Tx) (B : Bs) (W : WX) (f : MI) : TI := fun σ H R => ∃ env mem ex, SatX T B env mem ex σ H ∧
  Wnt T B W env ex σ (fun ds m => ∀ J keep P F ad H', SatF T B F ad env m (keep ++ ex) σ H' → P env σ → WlkP T J ds keep P F → R J H') (f env mem)
abbrev SIo (nm : String → List Str) (B : Bs) (W : WX) (X : Cx) (tg e : Expr) (f : MI) : Prop := PI X tg e (tIo ⟨X.K, nm⟩ B W f)
theorem SI.o (h : SI nm B W X tg iter it) : SIo nm B W X tg iter it := PI.imp h fun σ H R ⟨env, mem, ex, s, h⟩ =>
  ⟨env, mem, ex, s, h.mono fun ds m q J keep H' ⟨F, ad, s'⟩ wk => q J keep (fun _ _ => True) F ad H' s' trivial fun B i env mem ex σ H _ _ s => wk B i env mem ex σ H s⟩
theorem SatF.rebase {T : Tx} {B : Bs} {F : Hp} {ad : List Addr} {env : List Slot} {mem : List MO} {ex : List (V × D)} {σ : L2.St} {H : Hp} (s : SatF T B F ad env mem ex σ H) : SatF T ⟨F, ad, B.G, B.self⟩ F ad env mem ex σ H := ⟨s.sat, Same.refl F, List.prefix_refl _, s.frm, s.len, s.val, s.own, s.app, s.tmp⟩
theorem SatF.base {T : Tx} {B : Bs} {F1 F : Hp} {ad1 ad : List Addr} {env : List Slot} {mem : List MO} {ex : List (V × D)} {σ : L2.St} {H : Hp} (s : SatF T ⟨F1, ad1, B.G, B.self⟩ F ad env mem ex σ H) (h1 : Same B.F0 F1) (h2 : B.ad0 <+: ad1) : SatF T B F ad env mem ex σ H := ⟨s.sat, h1.trans s.gro, h2.trans s.pre, s.frm, s.len, s.val, s.own, s.app, s.tmp⟩
theorem lc_imp (hsl : ∀ n ∈ τ.slots, n ∈ own.map (·.2)) : ∀ {σ : L2.St} {H : Hp} {Q : VK}, tE (tx X nm) B W (mLc τ it t f (own.map (·.2))) σ H Q →
    tLc (tIo (tx X nm) B W it) (gTgt X.K τ) (fun σ H Q => ∃ B, tT (tx X nm) B WF t σ H Q) (fun σ H Q => ∃ B, tE (tx X nm) B WF f σ H Q) (own.map (·.2)) σ H Q := by
  rintro σ H Q ⟨env, mem, ex, s, h⟩
  refine ⟨env, mem, ex, s, h.bind.mono fun ds m q J keep PP F1 ad1 H1 s1 hPP wk p hp => ?_⟩
  split at q
  case isFalse => exact q.elim
  rename_i hno
  have gp0 : B.G p = none := s1.held_none hp
  let B1 : Bs := ⟨F1, ad1, B.G, B.self⟩
  have gp : B1.G p = none := gp0
  -- the state at a turn
  let St1 : Nat → Hp → Prop := fun i H => ∃ acc dacc mem, acc.length = dacc.length ∧ SatX (tx X nm) (B1.also p (.lst acc)) env mem (acc.zip dacc ++ (keep ++ ex)) σ H ∧
    Wnt (tx X nm) B W env ex σ (KE (tx X nm) B env ex σ Q) ((mLcGo τ t f (wipeE env (own.map (·.2))) (ds.drop i) dacc mem).bind fun r m2 => .ok (.lst r) m2)
  refine ⟨fun i n H => n = ds.length - i ∧ St1 i H, ⟨_, rfl, [], [], m, rfl, ?_, by simpa using q⟩, ?_⟩
  · exact ⟨F1, ad1, s1.rebase.hold (B := B1) hp⟩
  rintro i n H ⟨en, acc, dacc, mem, la, s2, q2⟩
  obtain ⟨w1, w2⟩ := wk (B1.also p (.lst acc)) i env mem (acc.zip dacc ++ ex) σ H (Same.refl F1) hPP (s2.sub fun x hx => by
    simp only [List.mem_append] at hx ⊢
    rcases hx with e | e | e
    · exact .inr (.inl e)
    · exact .inl e
    · exact .inr (.inr e))
  cases e : ds[i]? with
  | none =>
    have hd : ds.drop i = [] := List.drop_eq_nil_of_le (List.getElem?_eq_none_iff.mp e)
    rw [hd] at q2
    refine .inl ⟨w2 e, ?_⟩
    obtain ⟨F, ad, s3⟩ := s2
    have s4 := s3.hold_end gp
    have il : IsL (tx X nm) (upd F p (.lst acc)) ad dacc acc := zip_tmp la fun x hx => s4.tmp x (List.mem_append_left _ hx)
    have s5 : SatF (tx X nm) B1 (upd F p (.lst acc)) ad env mem ((V.ref p, D.lst dacc) :: ex) σ H := (s4.sub fun x hx => List.mem_append_right _ (List.mem_append_right _ hx)).push ⟨p, acc, rfl, upd_same, il⟩
    exact q2 _ H ⟨_, ad, s5.base s1.gro s1.pre⟩
  | some d =>
    obtain ⟨go, y⟩ := w1 d e
    have hlt := (List.getElem?_eq_some_iff.mp e).1
    have hd : ds.drop i = d :: ds.drop (i + 1) := by
      rw [List.drop_eq_getElem_cons hlt]
      rw [List.getElem?_eq_getElem hlt] at e
      rw [Option.some.inj e]
    rw [hd] at q2
    refine .inr ⟨go, St1 (i + 1), fun H' z => ⟨_, ?_, rfl, z⟩, fun x H' hy => ?_⟩
    · omega
    have s3 := y x H' hy
    unfold mLcGo at q2
    cases e2 : τ.set d (wipeE env (own.map (·.2))) with
    | none => rw [e2] at q2; exact q2.elim
    | some env' =>
      rw [e2] at q2
      dsimp only at q2
      obtain ⟨F0, ad0, s5⟩ := s3
      let exx : List (V × D) := (x, d) :: (oldT σ env (own.map (·.2)) ++ (keep ++ (acc.zip dacc ++ ex)))
      have s5' : SatF (tx X nm) (B1.also p (.lst acc)) F0 ad0 env mem exx σ H' := ⟨s5.sat, s5.gro, s5.pre, s5.frm, s5.len, s5.val, s5.own, s5.app, fun q hq => by
        rcases List.mem_cons.mp hq with z | z
        · subst z; exact s5.top
        · rcases List.mem_append.mp z with z | z
          · exact oldT_ok s5 _ q z
          · exact s5.tmp q (List.mem_cons_of_mem _ z)⟩
      have s4 : SatX (tx X nm) (B1.also p (.lst acc)) (wipeE env (own.map (·.2))) mem exx (L2.wipe σ (own.map (·.2))) H' := ⟨F0, ad0, s5'.wipe _⟩
      obtain ⟨tg1, tg2⟩ := tgt_get e2
      refine tgt_set s4 e2 fun σ2 hs hl s6 => ⟨wipe_same (fun n hn => hs n fun z => hn (hsl n z)) hl, ?_⟩
      -- the def's own slots again
      have back : ∀ {m3 : List MO} {ex3 : List (V × D)} {H3 : Hp} {B3 : Bs}, SatX (tx X nm) B3 env' m3 ex3 σ2 H3 → (∀ q ∈ exx, q ∈ ex3) → SatX (tx X nm) B3 env m3 ex3 σ H3 := fun ⟨F3, ad3, s7⟩ hx =>
        ⟨F3, ad3, s5'.restore s7 (own := own.map (·.2)) (fun q hq => hx q (List.mem_cons_of_mem _ (List.mem_append_left _ hq)))
          (fun n hn => by rw [tg1 n fun z => hn (hsl n z), wipeE_get env hn]) (fun n hn => by rw [hs n fun z => hn (hsl n z), wipe_get σ hn]) hno⟩
      refine ⟨B1.also p (.lst acc), env', mem, exx, s6, ?_⟩
      have q3 := q2
      cases e3 : t env' mem with
      | bad => rw [e3] at q3; exact q3
      | exc C xs m3 => rw [e3] at q3; exact q3.elim
      | ok b m3 =>
        rw [e3] at q3
        refine fun H3 s7 => ?_
        cases b with
        | false =>
          rw [if_neg Bool.false_ne_true]
          exact ⟨acc, dacc, m3, la, (back s7 fun _ z => z).sub fun q hq => by
            simp only [exx, List.mem_cons, List.mem_append] at hq ⊢
            grind, q3⟩
        | true =>
          rw [if_pos rfl]
          have q4 : Wnt (tx X nm) B W env ex σ (KE (tx X nm) B env ex σ Q) (((f env' m3).bnd fun y m2 => if dacc.length < sizeLine then mLcGo τ t f (wipeE env (own.map (·.2))) (ds.drop (i + 1)) (dacc ++ [y]) m2 else .bad).bind fun r m2 => .ok (.lst r) m2) := q3
          refine ⟨B1.also p (.lst acc), env', m3, exx, s7, ?_⟩
          cases e4 : f env' m3 with
          | bad => rw [e4] at q4; exact q4
          | exc C xs m4 => rw [e4] at q4; exact q4.elim
          | ok y4 m4 =>
            rw [e4] at q4
            refine fun v4 H4 s8 => ?_
            have q5 : Wnt (tx X nm) B W env ex σ (KE (tx X nm) B env ex σ Q) ((if dacc.length < sizeLine then mLcGo τ t f (wipeE env (own.map (·.2))) (ds.drop (i + 1)) (dacc ++ [y4]) m4 else .bad).bind fun r m2 => .ok (.lst r) m2) := q4
            split at q5
            case isFalse => exact q5.elim
            rename_i hsz
            have s9 := back s8 fun _ z => List.mem_cons_of_mem _ z
            obtain ⟨F9, ad9, s9⟩ := s9
            refine ⟨acc, s9.held, by rw [la]; exact hsz, acc ++ [v4], dacc ++ [y4], m4, by simp [la], ⟨F9, ad9, (s9.hold_put (o' := .lst (acc ++ [v4])) gp).sub fun q hq => ?_⟩, q5⟩
            rw [List.zip_append la] at hq
            simp only [exx, List.zip_cons_cons, List.zip_nil_right, List.mem_cons, List.mem_append] at hq ⊢
            grind
theorem pts_ex {Y : Cx} (h : ∀ B : Bs, STs nm B WF Y ifs t) : PTs Y ifs (fun σ H Q => ∃ B, tT (tx Y nm) B WF t σ H Q) := ⟨fun p s σ H Q I ⟨B, q⟩ => (h B).run p s σ H Q I q⟩
theorem pe_ex {Y : Cx} {e : Expr} (h : ∀ B : Bs, SE nm B WF Y e f) : PE Y e (fun σ H Q => ∃ B, tE (tx Y nm) B WF f σ H Q) := ⟨fun p s σ H Q I ⟨B, q⟩ => (h B).run p s σ H Q I q⟩
theorem se_lc (own : List (Str × Nat)) (hc : X.calm = true) (hN : X.N.Nodup) (hi : SIo nm B W X tg iter it) (ok : BlkOk X.N X.env.scope scope own)
    (hg : ∀ (s : Shared) (H : Hp) (C : Addr) (cl : List (Str × Addr)) (fp : List Addr), SG (X.blk s H scope (compEnvC scope cl C X.env) fp) tg τ)
    (ht : ∀ (B : Bs) (s : Shared) (H : Hp) (C : Addr) (cl : List (Str × Addr)) (fp : List Addr), STs nm B WF (X.blk s H scope (compEnvC scope cl C X.env) fp) ifs t)
    (he : ∀ (B : Bs) (s : Shared) (H : Hp) (C : Addr) (cl : List (Str × Addr)) (fp : List Addr), SE nm B WF (X.blk s H scope (compEnvC scope cl C X.env) fp) elt f)
    (hsl : ∀ n ∈ τ.slots, n ∈ own.map (·.2)) (hs : ∀ x, foldedSetIterable iter X.env x = pure x := by intro _; rfl) : SE nm B W X (.ListComp elt [⟨tg, iter, ifs, 0⟩] scope pos) (mLc τ it t f (own.map (·.2))) :=
  PE.imp (pe_lc hc hN hi ok hg (fun s H C cl fp => pts_ex fun B => ht B s H C cl fp) (fun s H C cl fp => pe_ex fun B => he B s H C cl fp) hs) fun _ _ _ => lc_imp hsl
/-- name = [..] -/
theorem ss_setLc (i : Nat) {y : Str} {py spos : Pos} (own : List (Str × Nat)) (hc : X.calm = true) (hN : X.N.Nodup) (hi : SIo nm B W X tg iter it) (ok : BlkOk X.N X.env.scope scope own)
    (hg : ∀ (s : Shared) (H : Hp) (C : Addr) (cl : List (Str × Addr)) (fp : List Addr), SG (X.blk s H scope (compEnvC scope cl C X.env) fp) tg τ)
    (ht : ∀ (B : Bs) (s : Shared) (H : Hp) (C : Addr) (cl : List (Str × Addr)) (fp : List Addr), STs nm B WF (X.blk s H scope (compEnvC scope cl C X.env) fp) ifs t)
    (he : ∀ (B : Bs) (s : Shared) (H : Hp) (C : Addr) (cl : List (Str × Addr)) (fp : List Addr), SE nm B WF (X.blk s H scope (compEnvC scope cl C X.env) fp) elt f)
    (hsl : ∀ n ∈ τ.slots, n ∈ own.map (·.2)) (hy : X.N[i]? = some y := by rfl) (hyl : X.env.scope.names.lookup y = some .local := by rfl)
    (hsw : swapsWith (.ListComp elt [⟨tg, iter, ifs, 0⟩] scope pos) (some (.Name y py)) spos.line X.env = pure true := by exact sw_true rfl rfl rfl (by decide +kernel)) (hs : ∀ x, foldedSetIterable iter X.env x = pure x := by intro _; rfl) :
    SS nm B W X (.Assign [.Name y py] (.ListComp elt [⟨tg, iter, ifs, 0⟩] scope pos) spos) (mSet i (mLc τ it t f (own.map (·.2)))) :=
  PS.imp (ps_setLc hc hN hy hyl hsw hi ok hg (fun s H C cl fp => pts_ex fun B => ht B s H C cl fp) (fun s H C cl fp => pe_ex fun B => he B s H C cl fp) hs) fun Z σ H ⟨env, mem, ex, s, h⟩ =>
    lc_imp hsl ⟨env, mem, ex, s, (ks_of h).mono fun d m q v H' ⟨F, ad, s'⟩ => q _ H' ⟨F, ad, (s'.sub fun _ z => List.mem_cons_of_mem _ z).set s'.top⟩⟩
end
/-! ### displays, subscripts, slices -/
def mTup (g : MA) : ME := fun env mem => (g env mem).bind fun ds m => if ds.length ≤ sizeLine then .ok (.tup ds) m else .bad
def mLst (g : MA) : ME := fun env mem => (g env mem).bind fun ds m => if ds.length ≤ sizeLine then .ok (.lst ds) m else .bad
/-- *e ahead of the others -/
def items : D → Option (List D)
  | .lst xs => some xs
  | .tup xs => some xs
  | _ => none
def mStar (f : ME) (g : MA) : MA := fun env mem => (f env mem).bind fun a m => match items a with
  | some xs => (g env m).bind fun r m2 => .ok (xs ++ r) m2
  | none => .bad
section
variable {nm : String → List Str} {B : Bs} {W : WX} {X : Cx} {a b : Expr} {es : List Expr} {f g : ME} {fa : MA} {pos : Pos}
theorem se_tup {x1} (h : SA nm B W X es fa) : SE nm B W X (.Tuple es x1 pos) (mTup fa) :=
  PE.imp (pe_tup h) fun σ H Q ⟨env, mem, ex, s, h⟩ => by
    refine tA_step s h fun vs H1 ds m l ⟨F, ad, s2⟩ q => ?_
    split at q
    case isFalse => exact q.elim
    rename_i hz
    refine ⟨by rw [l]; exact hz, fun p hp => ?_⟩
    have x := s2.sat.new (o := .tup vs) hp
    have il : IsL (tx X nm) F ad ds vs := zip_tmp l fun x hx => s2.tmp x (List.mem_append_left _ hx)
    exact q _ _ (s2.done x ⟨p, vs, rfl, .inl (.inl upd_same), il.mono x.gro x.pre⟩)
theorem se_lst (h : SA nm B W X es fa) : SE nm B W X (.List es pos) (mLst fa) :=
  PE.imp (pe_lst h) fun σ H Q ⟨env, mem, ex, s, h⟩ => by
    refine tA_step s h fun vs H1 ds m l ⟨F, ad, s2⟩ q => ?_
    split at q
    case isFalse => exact q.elim
    rename_i hz
    refine ⟨by rw [l]; exact hz, fun p hp => ?_⟩
    have x := s2.sat.new (o := .lst vs) hp
    have il : IsL (tx X nm) F ad ds vs := zip_tmp l fun x hx => s2.tmp x (List.mem_append_left _ hx)
    exact q _ _ (s2.done x ⟨p, vs, rfl, upd_same, il.mono x.gro x.pre⟩)
theorem sa_star {p : Pos} (he : SE nm B W X a f) (hr : SA nm B W X es fa) (hs : starEach (.Starred a p :: es) X.env = (true, eval a X.env) :: starEach es X.env := by rfl) : SA nm B W X (.Starred a p :: es) (mStar f fa) :=
  PA.imp (StX.pa_star he hr hs) fun σ H Q ⟨env, mem, ex, s, h⟩ => by
    refine tE_step s h fun v H1 d m s1 q1 => ?_
    cases e : items d with
    | none => rw [e] at q1; exact q1.elim
    | some xs =>
      rw [e] at q1
      have fin : ∀ (F : Hp) (ad : List Addr) (vs : List V), SatF (tx X nm) B F ad env m ((v, d) :: ex) σ H1 → IsL (tx X nm) F ad xs vs → tA (tx X nm) B W fa σ H1 fun ys H2 => Q (vs ++ ys) H2 := fun F ad vs s2 il => by
        have lv := il.length
        let exx := vs.zip xs ++ ((v, d) :: ex)
        have s3 : SatF (tx X nm) B F ad env m exx σ H1 := ⟨s2.sat, s2.gro, s2.pre, s2.frm, s2.len, s2.val, s2.own, s2.app, fun q hq => by
          rcases List.mem_append.mp hq with z | z
          · clear q1 exx lv hq e
            induction xs generalizing vs with
            | nil => simp at z
            | cons x xs ih =>
              obtain ⟨u, ur, rfl, h1, h2⟩ := il
              rcases List.mem_cons.mp z with y | y
              · subst y; exact h1
              · exact ih ur h2 y
          · exact s2.tmp q z⟩
        refine tA_step ⟨F, ad, s3⟩ (q1.push (vs.zip xs ++ [(v, d)]) |> fun z => by simpa [exx] using z) fun ys H2 es m2 l s4 q2 => ?_
        refine q2 (vs ++ ys) H2 (by simp [lv, l]) (s4.sub fun p hp => ?_)
        rw [List.zip_append lv] at hp
        simp only [exx, List.mem_append, List.mem_cons] at hp ⊢
        grind
      obtain ⟨F, ad, s2⟩ := id s1
      cases d with
      | lst ys =>
        cases e
        obtain ⟨p, vs, ev, h1, h2⟩ := s2.top
        refine ⟨p, vs, ev, .inr (SqL.of (s2.sat.sub _ _ h1)), fin F ad vs s2 h2⟩
      | tup ys =>
        cases e
        obtain ⟨p, vs, ev, h1, h2⟩ := s2.top
        refine ⟨p, vs, ev, .inl (sqT_mono s2.sat.sub h1), fin F ad vs s2 h2⟩
      | _ => cases e
end
/-! ### a def's body -/
/-- the slots at the entry: n parameters of m names -/
def env0 (m : Nat) (ds : List D) : List Slot := ds.map .val ++ List.replicate (m - ds.length) .none
def fin : Flow → Res D
  | .next _ m => .ok .non m
  | .ret d m => .ok d m
  | .exc C xs _ m => .exc C xs m
  | _ => .bad
/-- the mirror of a def with n parameters and m names -/
def phi (n m : Nat) (g : MS) : Fun := fun ds mem => if ds.length = n then fin (g (env0 m ds) mem) else .bad
open Classical in
/-- all but the frozen part and the things -/
noncomputable def outside (F : Hp) (ad : List Addr) (H : Hp) : Hp := fun a => if F a = none ∧ a ∉ ad then H a else none
section
variable {T : Tx} {F : Hp} {ad : List Addr} {mem : List MO} {H : Hp} {ds : List D} {vs : List V}
theorem outside_at {a : Addr} {o : HO} (h : outside F ad H a = some o) : H a = some o ∧ F a = none ∧ a ∉ ad := by
  unfold outside at h
  split at h
  · rename_i c; exact ⟨h, c.1, c.2⟩
  · cases h
theorem start_sat (s : Sat T F ad mem H) (i : IsL T F ad ds vs) {N : List Str} : SatF T ⟨F, ad, outside F ad H, none⟩ F ad (env0 N.length ds) mem [] (L2.start N vs) H := by
  have lv := i.length
  refine ⟨s, Same.refl F, List.prefix_refl _, fun a o h => outside_at h, ?_, fun n d h => ?_, fun n m h => ?_, fun n j m k a h => ?_, fun p hp => by simp at hp⟩
  · unfold env0 L2.start
    simp [lv]
  · unfold env0 at h
    by_cases z : n < ds.length
    · rw [List.getElem?_append_left (by simpa using z), List.getElem?_map] at h
      cases e : ds[n]? with
      | none => rw [e] at h; cases h
      | some d' =>
        rw [e] at h
        cases h
        obtain ⟨v, h1, h2⟩ := i.get e
        refine ⟨v, ?_, h2⟩
        unfold L2.start
        rw [List.getElem?_append_left (by simpa [lv] using z), List.getElem?_map, h1]
        rfl
    · rw [List.getElem?_append_right (by simpa using z), List.getElem?_replicate] at h
      split at h <;> cases h
  · exfalso
    unfold env0 at h
    by_cases z : n < ds.length
    · rw [List.getElem?_append_left (by simpa using z), List.getElem?_map] at h
      cases e : ds[n]? with
      | none => rw [e] at h; cases h
      | some d' => rw [e] at h; cases h
    · rw [List.getElem?_append_right (by simpa using z), List.getElem?_replicate] at h
      split at h <;> cases h
  · exfalso
    unfold env0 at h
    by_cases z : n < ds.length
    · rw [List.getElem?_append_left (by simpa using z), List.getElem?_map] at h
      cases e : ds[n]? with
      | none => rw [e] at h; cases h
      | some d' => rw [e] at h; cases h
    · rw [List.getElem?_append_right (by simpa using z), List.getElem?_replicate] at h
      split at h <;> cases h
/-- what a body has left, as a step -/
theorem ext_of {B : Bs} {F' : Hp} {ad' : List Addr} {env : List Slot} {mem' : List MO} {ex : List (V × D)} {σ : L2.St} {H' : Hp} (s : SatF T ⟨F, ad, outside F ad H, none⟩ F' ad' env mem' ex σ H') : Ext T F ad H F' ad' mem' H' := by
  refine ⟨s.sat, s.gro, s.pre, fun a o h1 h2 h3 => ?_⟩
  refine s.frm a o ?_
  show outside F ad H a = some o
  unfold outside
  rw [if_pos ⟨h2, h3⟩]
  exact h1
end
abbrev WE (E : XK) : WX := fun c d _ H => E c d H
section
variable {P : Program} {w : World} {K : PySem.W.Frag} {mg : Str → Option Value} {base : Heap} {x qual : Str} {params : Arguments} {body : List Stmt} {scope : Scope} {dvs : List V} {kws : List (Str × V)} {f : Addr} {fd : FuncData} {nm : String → List Str} {N ps : List Str} {k : Nat} {g : MS}
/-- the promise of a def by its mirror -/
def SpF (T : Tx) (n : Nat) (φ : Fun) : Sp := fun vs H Q E => vs.length = n ∧ RX T φ vs H Q E
theorem body_imp {Q : VK} {E : XK} {vs : List V} {H : Hp} {W : WX} (hW : ∀ C dc σ H', E (.ref C) dc H' → W (.ref C) dc σ H') (h : RX ⟨K, nm⟩ (phi ps.length N.length g) vs H Q E) :
    ∃ B, tS ⟨K, nm⟩ B W g { nx := fun _ H' => Q .non H', rt := Q } (L2.start N vs) H := by
  obtain ⟨F, ad, mem, ds, s, i, h⟩ := h
  refine ⟨⟨F, ad, outside F ad H, none⟩, _, mem, [], ⟨F, ad, start_sat s i⟩, ?_⟩
  unfold phi at h
  by_cases hl : ds.length = ps.length
  · rw [if_pos hl] at h
    cases e : g (env0 N.length ds) mem with
    | bad => rw [e] at h; exact h
    | next e1 m1 => rw [e] at h; exact fun σ' H' ⟨F', ad', s'⟩ => h .non F' ad' H' (ext_of (B := ⟨F, ad, outside F ad H, none⟩) s') rfl
    | ret d m1 => rw [e] at h; exact fun v H' ⟨F', ad', s'⟩ => h v F' ad' H' (ext_of (B := ⟨F, ad, outside F ad H, none⟩) s') s'.top
    | brk e1 m1 => rw [e] at h; exact h.elim
    | cnt e1 m1 => rw [e] at h; exact h.elim
    | exc C xs e1 m1 => rw [e] at h; exact fun dc F' ad' σ' H' s' x => hW _ _ _ _ (h dc F' ad' H' (ext_of (B := ⟨F, ad, outside F ad H, none⟩) s') x)
  · rw [if_neg hl] at h; exact h.elim
/-- a def, nothing being raised in the text -/
theorem fn_n (F : FunD K x qual params body scope dvs kws f fd) (S : FnScope N ps scope)
    (hb : ∀ (B : Bs) (cdv : Value) (A : Around) (outer : List Env) (s : Shared) (H : Hp) (E : XK), Room k (A.deeper (envOfC qual scope s.heap.objs.size f cdv)) → SSs nm B WF (cxOf CX0 P w K mg base N qual scope f cdv A outer s H E).nox body g) :
    FnOk P w K mg base CX0 (k + 1) f fd ps (fun vs H Q _ => vs.length = ps.length ∧ RX ⟨K, nm⟩ (phi ps.length N.length g) vs H Q fun _ _ _ => False) :=
  F.ok S (fun _ _ _ _ h => h.1) fun cdv A outer s H vs Q E hr h => by
    obtain ⟨B, hB⟩ := body_imp (N := N) (W := WF) (fun _ _ _ _ z => z) h.2
    exact ⟨_, (hb B cdv A outer s H E hr).nox, hB⟩
/-- a def that may raise -/
theorem fn_x (F : FunD K x qual params body scope dvs kws f fd) (S : FnScope N ps scope)
    (hb : ∀ (B : Bs) (cdv : Value) (A : Around) (outer : List Env) (s : Shared) (H : Hp) (E : XK), Room k (A.deeper (envOfC qual scope s.heap.objs.size f cdv)) → SSs nm B (WE E) (cxOf (L2.CX P w) P w K mg base N qual scope f cdv A outer s H E) body g) :
    FnOk P w K mg base (L2.CX P w) (k + 1) f fd ps (SpF ⟨K, nm⟩ ps.length (phi ps.length N.length g)) :=
  F.ok S (fun _ _ _ _ h => h.1) fun cdv A outer s H vs Q E hr h => by
    obtain ⟨B, hB⟩ := body_imp (N := N) (W := WE E) (fun _ _ _ _ z => z) h.2
    exact ⟨_, hb B cdv A outer s H E hr, hB⟩
end
/-! ### calls -/
section
variable (P : Program) (w : World) (K : PySem.W.Frag) (mg : Str → Option Value) (base : Heap) (CX : CXT) (nm : String → List Str)
/-- the promise of a callee in a text of no exceptions (CX0) or of some -/
def Fp (k : Nat) (f : Addr) (φ : Fun) : Prop := FnR P w K mg base CX k f (RX ⟨K, nm⟩ φ)
structure Df (k : Nat) (x : Str) (φ : Fun) : Prop where
  g : mg x = some (.ref (He.ga K x))
  kp : PySem.W.keepIn K (.ref (He.ga K x)) = true
  fn : Fp P w K mg base CX nm k (He.ga K x) φ
structure Dm (k : Nat) (C m : Str) (φ : Fun) : Prop where
  cl : Cls K (He.ga K C)
  me : Meth K (He.ga K C) m (He.ma K (He.ga K C) m)
  fn : Fp P w K mg base CX nm k (He.ma K (He.ga K C) m) φ
end
/-- what leaves a callee reaches the wish -/
abbrev Thr (CX : CXT) (X : Cx) (W : WX) : Prop := ∀ σ, Passes CX X fun c d H => W c d σ H
theorem thr0 {X : Cx} {W : WX} : Thr CX0 X W := fun _ _ _ _ _ _ _ _ h => h.elim
section
variable {nm : String → List Str} {B : Bs} {W : WX} {X : Cx} {CX : CXT} {k : Nat} {x m C : Str} {φ : Fun} {o e : Expr} {es : List Expr} {f : ME} {fa : MA} {pos p apos : Pos}
theorem il_of {T : Tx} {F : Hp} {ad : List Addr} {env : List Slot} {mem : List MO} {ex : List (V × D)} {σ : L2.St} {H : Hp} {vs : List V} {ds : List D} (l : vs.length = ds.length) (s : SatF T B F ad env mem (vs.zip ds ++ ex) σ H) : IsL T F ad ds vs :=
  zip_tmp l fun p hp => s.tmp p (List.mem_append_left _ hp)
/-- the run of a callee at its arguments -/
theorem fp_run {f : Addr} (F : Fp X.prog X.w X.K X.mg X.base CX nm k f φ) (hr : Room k X.A) (hx : Thr CX X W) {pins : List (Addr × Obj)} {σ : L2.St} {H : Hp} {s : Shared} {Q : VK} {us : List Value} {vs : List V}
    (I : Inv X pins σ H s) (r : Vals vs us) (h : RX ⟨X.K, nm⟩ φ vs H Q fun c d H => W c d σ H) : wpAny (model X.prog X.w) X.A (call (.ref f) us) (EP X pins σ Q) X.xe s :=
  wpAny_call (run_fnR F hr (hx σ) I r h)
theorem se_call (F : Df X.prog X.w X.K X.mg X.base CX nm k x φ) (hr : Room k X.A) (hx : Thr CX X W) (ha : SA nm B W X (e :: es) fa) (hg : Gl X x := by rfl) (hd : (x == ("__debug__" : Str)) = false := by decide)
    (h1 : starEach (e :: es) X.env = (false, eval e X.env) :: starEach es X.env := by rfl) (h2 : (backTo pos (starEach es X.env)).any (·.1) = false := by rfl) : SE nm B W X (.Call (.Name x p) (e :: es) [] pos) (mFun φ fa) :=
  ⟨fun pins s σ H Q I ⟨env, mem, ex, st, h⟩ => wpAny_Call_Name_kw (ld_glob I hg F.g (PySem.W.callWith_K (h₀ := X.base) I.ok.mod.kin F.kp (thn (ha.run pos pins s σ H
    (fun vs H1 => RX ⟨X.K, nm⟩ φ vs H1 Q fun c d H => W c d σ H) I (tA_step st h fun vs H1 ds m l s1 q => rx_of (p := vs.zip ds) s1 (fun _ _ s2 => il_of l s2) q))
      fun us s1 ⟨vs, H1, I1, r, q⟩ => ⟨I1.kIn, fp_run F.fn hr hx I1 r q⟩) h1 h2) hd)⟩
theorem se_call0 (F : Df X.prog X.w X.K X.mg X.base CX nm k x φ) (hr : Room k X.A) (hx : Thr CX X W) (hg : Gl X x := by rfl) (hd : (x == ("__debug__" : Str)) = false := by decide) : SE nm B W X (.Call (.Name x p) [] [] pos) (mFun φ mNil) :=
  ⟨fun pins s σ H Q I ⟨env, mem, ex, st, h⟩ => wpAny_Call_Name_kw (ld_glob I hg F.g (PySem.W.callWith_K0 I.kIn F.kp
    (fp_run (us := []) (vs := []) F.fn hr hx I .nil (rx_of (p := []) (ds := []) st (fun _ _ _ => IsL.nil) h))) hd)⟩
/-- o.m(..), o of the class C -/
def mMeth (C : String) (φ : Fun) (f : ME) (g : MA) : ME := fun env mem => (f env mem).bind fun d m => match d with
  | .ins C' xs => if C' = C then (g env m).bind fun ds m2 => φ (d :: ds) m2 else .bad
  | _ => .bad
end
/-! ### steps by values -/
section
variable {T : Tx} {F : Hp} {ad : List Addr} {mem : List MO} {H : Hp} {φ : Pur} {vs : List V} {ds : List D} {d : D} {Q : VK}
/-- the answer is a datum of no heap -/
theorem rp_flat (h : RP T φ vs H Q) : ∃ F ad mem ds d, Sat T F ad mem H ∧ IsL T F ad ds vs ∧ φ ds = some d ∧ ∀ v, Is T F ad d v → Q v H := by
  obtain ⟨F, ad, mem, ds, d, s, i, e, q⟩ := h
  exact ⟨F, ad, mem, ds, d, s, i, e, fun v hv => q v F ad H (Ext.refl s) hv⟩
theorem is1 {d : D} (h : IsL T F ad [d] vs) : ∃ v, vs = [v] ∧ Is T F ad d v := h.one
/-- the ints, texts, bools of a list's items -/
def intsOf : List D → Option (List Int)
  | [] => some []
  | .int i :: r => (intsOf r).map (i :: ·)
  | _ => none
def strsOf : List D → Option (List Str)
  | [] => some []
  | .str x :: r => (strsOf r).map (x :: ·)
  | _ => none
def blsOf : List D → Option (List Bool)
  | [] => some []
  | .bl b :: r => (blsOf r).map (b :: ·)
  | _ => none
theorem ints_of : ∀ {ds : List D} {ns : List Int} {vs : List V}, intsOf ds = some ns → IsL T F ad ds vs → vs = ns.map V.int
  | [], ns, vs, h, i => by cases h; cases i; rfl
  | .int i :: r, ns, vs, h, hi => by
    obtain ⟨v, vr, rfl, h1, h2⟩ := hi
    simp only [intsOf] at h
    cases e : intsOf r with
    | none => rw [e] at h; cases h
    | some m =>
      rw [e] at h
      cases h
      have e1 : v = .int i := h1
      rw [e1, ints_of e h2]
      rfl
theorem strs_of : ∀ {ds : List D} {ns : List Str} {vs : List V}, strsOf ds = some ns → IsL T F ad ds vs → vs = ns.map V.str
  | [], ns, vs, h, i => by cases h; cases i; rfl
  | .str i :: r, ns, vs, h, hi => by
    obtain ⟨v, vr, rfl, h1, h2⟩ := hi
    simp only [strsOf] at h
    cases e : strsOf r with
    | none => rw [e] at h; cases h
    | some m =>
      rw [e] at h
      cases h
      have e1 : v = .str i := h1
      rw [e1, strs_of e h2]
      rfl
theorem bls_of : ∀ {ds : List D} {ns : List Bool} {vs : List V}, blsOf ds = some ns → IsL T F ad ds vs → vs = ns.map V.bl
  | [], ns, vs, h, i => by cases h; cases i; rfl
  | .bl i :: r, ns, vs, h, hi => by
    obtain ⟨v, vr, rfl, h1, h2⟩ := hi
    simp only [blsOf] at h
    cases e : blsOf r with
    | none => rw [e] at h; cases h
    | some m =>
      rw [e] at h
      cases h
      have e1 : v = .bl i := h1
      rw [e1, bls_of e h2]
      rfl
theorem isl_ints : ∀ {ns : List Int}, IsL T F ad (ns.map D.int) (ns.map V.int)
  | [] => IsL.nil
  | i :: r => ⟨_, _, rfl, rfl, isl_ints⟩
theorem isl_strs : ∀ {ns : List Str}, IsL T F ad (ns.map D.str) (ns.map V.str)
  | [] => IsL.nil
  | i :: r => ⟨_, _, rfl, rfl, isl_strs⟩
theorem ints_map : ∀ (ns : List Int), intsOf (ns.map D.int) = some ns
  | [] => rfl
  | i :: r => by simp only [List.map_cons, intsOf, ints_map r]; rfl
theorem strs_map : ∀ (ns : List Str), strsOf (ns.map D.str) = some ns
  | [] => rfl
  | i :: r => by simp only [List.map_cons, strsOf, strs_map r]; rfl
theorem bls_map : ∀ (ns : List Bool), blsOf (ns.map D.bl) = some ns
  | [] => rfl
  | i :: r => by simp only [List.map_cons, blsOf, bls_map r]; rfl
end
/-! ### arithmetic -/
def dAdd : Pur
  | [.int i, .int j] => some (.int (i + j))
  | [.str x, .str y] => if x.length + y.length ≤ sizeLine then some (.str (x ++ y)) else none
  | [.lst xs, .lst ys] => if xs.length + ys.length ≤ sizeLine then some (.lst (xs ++ ys)) else none
  | [.tup xs, .tup ys] => if xs.length + ys.length ≤ sizeLine then some (.tup (xs ++ ys)) else none
  | _ => none
def dSub : Pur
  | [.int i, .int j] => some (.int (i - j))
  | _ => none
def mulOk (i j : Int) : Bool := (decide (-(2 ^ 64) < i) && decide (i < 2 ^ 64)) || (decide (-(2 ^ 64) < j) && decide (j < 2 ^ 64)) || decide (i.natAbs.log2 + j.natAbs.log2 < 1000000)
def dMul : Pur
  | [.int i, .int j] => if mulOk i j then some (.int (i * j)) else none
  | [.lst xs, .int k] => if (-(2 ^ 63) ≤ k ∧ k < 2 ^ 63) ∧ xs.length * k.toNat ≤ sizeLine then some (.lst (List.replicate k.toNat xs).flatten) else none
  | _ => none
def dFdiv : Pur
  | [.int i, .int j] => if 0 < j ∧ j.natAbs.log2 < 9000 then some (.int (i / j)) else none
  | _ => none
def dMod : Pur
  | [.int i, .int j] => if 0 < j then some (.int (i % j)) else none
  | _ => none
def dPow : Pur
  | [.int i, .int j] => if 0 ≤ j ∧ j ≤ 1000000 ∧ i.natAbs < 2 ^ 64 then some (.int (i ^ j.toNat)) else none
  | _ => none
def dNeg : Pur
  | [.int i] => some (.int (-i))
  | _ => none
def dLt : Pur
  | [.int i, .int j] => some (.bl (decide (i < j)))
  | _ => none
def dLe : Pur
  | [.int i, .int j] => some (.bl (decide (i ≤ j)))
  | _ => none
def dGt : Pur
  | [.int i, .int j] => some (.bl (decide (j < i)))
  | _ => none
def dGe : Pur
  | [.int i, .int j] => some (.bl (decide (j ≤ i)))
  | _ => none
def isNon : D → Bool
  | .non => true
  | _ => false
def dIsN : Pur
  | [d, .non] => some (.bl (isNon d))
  | _ => none
def dNotN : Pur
  | [d, .non] => some (.bl (!isNon d))
  | _ => none
section
variable {X : Cx} {nm : String → List Str}
theorem opr_imp {f : Value → Value → Sem Value} {r r' : R2} (h : OpR X f r) (i : ∀ x y H Q, r' x y H Q → r x y H Q) : OpR X f r' := fun pins s σ H x y v u Q I rx ry q => h pins s σ H x y v u Q I rx ry (i x y H Q q)
theorem int2 {φ : Pur} {g : Int → Int → Option D} (hφ : ∀ ds d, φ ds = some d → ∃ i j, ds = [.int i, .int j] ∧ g i j = some d) {T : Tx} {x y : V} {H : Hp} {Q : VK} (h : RP T φ [x, y] H Q) :
    ∃ F ad i j d, x = .int i ∧ y = .int j ∧ g i j = some d ∧ ∀ v, Is T F ad d v → Q v H := by
  obtain ⟨F, ad, mem, ds, d, s, i, e, q⟩ := rp_flat h
  obtain ⟨a, b, rfl, g1⟩ := hφ ds d e
  obtain ⟨v, u, e1, h1, h2⟩ := i.two
  cases e1
  exact ⟨F, ad, a, b, d, h1, h2, g1, q⟩
theorem r_sub : OpR X (binaryOp .Sub) fun x y H Q => RP (tx X nm) dSub [x, y] H Q := opr_imp op_sub fun x y H Q h => by
  obtain ⟨F, ad, i, j, d, rfl, rfl, e, q⟩ := int2 (g := fun i j => some (.int (i - j))) (fun ds d h => by
    unfold dSub at h; split at h
    · exact ⟨_, _, rfl, h⟩
    · cases h) h
  cases e
  exact ⟨i, j, rfl, rfl, q _ rfl⟩
theorem r_lt : OpR X (compareOp .Lt) fun x y H Q => RP (tx X nm) dLt [x, y] H Q := opr_imp op_lt fun x y H Q h => by
  obtain ⟨F, ad, i, j, d, rfl, rfl, e, q⟩ := int2 (g := fun i j => some (.bl (decide (i < j)))) (fun ds d h => by
    unfold dLt at h; split at h
    · exact ⟨_, _, rfl, h⟩
    · cases h) h
  cases e
  exact ⟨i, j, rfl, rfl, q _ rfl⟩
theorem r_le : OpR X (compareOp .LtE) fun x y H Q => RP (tx X nm) dLe [x, y] H Q := opr_imp op_le fun x y H Q h => by
  obtain ⟨F, ad, i, j, d, rfl, rfl, e, q⟩ := int2 (g := fun i j => some (.bl (decide (i ≤ j)))) (fun ds d h => by
    unfold dLe at h; split at h
    · exact ⟨_, _, rfl, h⟩
    · cases h) h
  cases e
  exact ⟨i, j, rfl, rfl, q _ rfl⟩
theorem r_gt : OpR X (compareOp .Gt) fun x y H Q => RP (tx X nm) dGt [x, y] H Q := opr_imp op_gt fun x y H Q h => by
  obtain ⟨F, ad, i, j, d, rfl, rfl, e, q⟩ := int2 (g := fun i j => some (.bl (decide (j < i)))) (fun ds d h => by
    unfold dGt at h; split at h
    · exact ⟨_, _, rfl, h⟩
    · cases h) h
  cases e
  exact ⟨i, j, rfl, rfl, q _ rfl⟩
theorem r_ge : OpR X (compareOp .GtE) fun x y H Q => RP (tx X nm) dGe [x, y] H Q := opr_imp op_ge fun x y H Q h => by
  obtain ⟨F, ad, i, j, d, rfl, rfl, e, q⟩ := int2 (g := fun i j => some (.bl (decide (j ≤ i)))) (fun ds d h => by
    unfold dGe at h; split at h
    · exact ⟨_, _, rfl, h⟩
    · cases h) h
  cases e
  exact ⟨i, j, rfl, rfl, q _ rfl⟩
theorem r_fdiv : OpR X (binaryOp .FloorDiv) fun x y H Q => RP (tx X nm) dFdiv [x, y] H Q := opr_imp op_fdivW fun x y H Q h => by
  obtain ⟨F, ad, i, j, d, rfl, rfl, e, q⟩ := int2 (g := fun i j => if 0 < j ∧ j.natAbs.log2 < 9000 then some (.int (i / j)) else none) (fun ds d h => by
    unfold dFdiv at h; split at h
    · exact ⟨_, _, rfl, h⟩
    · cases h) h
  split at e
  · rename_i c; cases e; exact ⟨i, j, rfl, rfl, c, q _ rfl⟩
  · cases e
theorem r_mod : OpR X (binaryOp .Mod) fun x y H Q => RP (tx X nm) dMod [x, y] H Q := opr_imp op_mod fun x y H Q h => by
  obtain ⟨F, ad, i, j, d, rfl, rfl, e, q⟩ := int2 (g := fun i j => if 0 < j then some (.int (i % j)) else none) (fun ds d h => by
    unfold dMod at h; split at h
    · exact ⟨_, _, rfl, h⟩
    · cases h) h
  split at e
  · rename_i c; cases e; exact ⟨i, j, rfl, rfl, c, q _ rfl⟩
  · cases e
theorem r_pow : OpR X (binaryOp .Pow) fun x y H Q => RP (tx X nm) dPow [x, y] H Q := opr_imp op_pow fun x y H Q h => by
  obtain ⟨F, ad, i, j, d, rfl, rfl, e, q⟩ := int2 (g := fun i j => if 0 ≤ j ∧ j ≤ 1000000 ∧ i.natAbs < 2 ^ 64 then some (.int (i ^ j.toNat)) else none) (fun ds d h => by
    unfold dPow at h; split at h
    · exact ⟨_, _, rfl, h⟩
    · cases h) h
  split at e
  · rename_i c; cases e; exact ⟨i, j, rfl, rfl, c, q _ rfl⟩
  · cases e
theorem r_neg : UnR X (unaryOp .USub) fun x H Q => RP (tx X nm) dNeg [x] H Q := fun pins s σ H x v Q I rx h => by
  obtain ⟨F, ad, mem, ds, d, st, i, e, q⟩ := rp_flat h
  unfold dNeg at e
  split at e
  · rename_i n
    cases e
    obtain ⟨u, e1, h1⟩ := i.one
    cases e1
    exact un_neg pins s σ H x v Q I rx ⟨n, h1, q _ rfl⟩
  · cases e
theorem r_add : OpR X (binaryOp .Add) fun x y H Q => RP (tx X nm) dAdd [x, y] H Q := by
  refine opr_imp (op_add.or (op_add_str.or (op_cat.or op_catA))) fun x y H Q h => ?_
  obtain ⟨F, ad, mem, ds, d, s, i, e, q⟩ := h
  unfold dAdd at e
  split at e
  · cases e
    obtain ⟨v, u, e1, h1, h2⟩ := i.two
    cases e1
    exact .inl ⟨_, _, h1, h2, q _ F ad H (Ext.refl s) rfl⟩
  · split at e
    · rename_i c
      cases e
      obtain ⟨v, u, e1, h1, h2⟩ := i.two
      cases e1
      exact .inr (.inl ⟨_, _, h1, h2, c, q _ F ad H (Ext.refl s) rfl⟩)
    · cases e
  · split at e
    · rename_i c
      cases e
      obtain ⟨v, u, e1, ⟨p, vs, rfl, h1, h2⟩, ⟨p', vs', rfl, h1', h2'⟩⟩ := i.two
      cases e1
      refine .inr (.inr (.inl ⟨p, p', vs, vs', rfl, rfl, s.sub _ _ h1, s.sub _ _ h1', by rw [h2.length, h2'.length]; exact c, fun l hl => ?_⟩))
      have x := s.new (o := .lst (vs ++ vs')) hl
      exact q _ _ ad _ x ⟨l, _, rfl, upd_same, (h2.append h2').mono x.gro x.pre⟩
    · cases e
  · split at e
    · rename_i xs ys c
      cases e
      obtain ⟨v, u, e1, ⟨p, vs, rfl, h1, h2⟩, ⟨p', vs', rfl, h1', h2'⟩⟩ := i.two
      cases e1
      refine .inr (.inr (.inr ⟨p, p', vs, vs', rfl, rfl, sqT_mono s.sub h1, sqT_mono s.sub h1', by rw [h2.length, h2'.length]; exact c, fun z => ?_, fun _ z => ?_, fun _ _ l hl => ?_⟩))
      · subst z
        have z2 := h2.length
        have : xs = [] := by cases xs with | nil => rfl | cons _ _ => simp at z2
        subst this
        exact q _ F ad H (Ext.refl s) ⟨p', vs', rfl, h1', h2'⟩
      · subst z
        have z2 := h2'.length
        have : ys = [] := by cases ys with | nil => rfl | cons _ _ => simp at z2
        subst this
        exact q _ F ad H (Ext.refl s) ⟨p, vs, rfl, h1, by simpa using h2⟩
      · have x := s.new (o := .tup (vs ++ vs')) hl
        exact q _ _ ad _ x ⟨l, _, rfl, .inl (.inl upd_same), (h2.append h2').mono x.gro x.pre⟩
    · cases e
  · cases e
theorem mulOk_or {i j : Int} (h : mulOk i j = true) : CMul i j ∨ i.natAbs.log2 + j.natAbs.log2 < 1000000 := by
  unfold mulOk at h
  simp only [Bool.or_eq_true, Bool.and_eq_true, decide_eq_true_eq] at h
  rcases h with (h | h) | h
  · exact .inl (.inl h)
  · exact .inl (.inr h)
  · exact .inr h
theorem isl_flat {T : Tx} {F : Hp} {ad : List Addr} {xs : List D} {vs : List V} (h : IsL T F ad xs vs) : ∀ n : Nat, IsL T F ad (List.replicate n xs).flatten (List.replicate n vs).flatten
  | 0 => by simpa using (IsL.nil (T := T) (F := F) (ad := ad))
  | n + 1 => by
    rw [List.replicate_succ, List.replicate_succ, List.flatten_cons, List.flatten_cons]
    exact h.append (isl_flat h n)
theorem r_mul : OpR X (binaryOp .Mult) fun x y H Q => RP (tx X nm) dMul [x, y] H Q := by
  refine opr_imp (op_mul.or (op_mulW.or op_rep)) fun x y H Q h => ?_
  obtain ⟨F, ad, mem, ds, d, s, i, e, q⟩ := h
  unfold dMul at e
  split at e
  · split at e
    · rename_i c
      cases e
      obtain ⟨v, u, e1, h1, h2⟩ := i.two
      cases e1
      rcases mulOk_or c with c | c
      · exact .inl ⟨_, _, h1, h2, c, q _ F ad H (Ext.refl s) rfl⟩
      · exact .inr (.inl ⟨_, _, h1, h2, c, q _ F ad H (Ext.refl s) rfl⟩)
    · cases e
  · split at e
    · rename_i xs k c
      cases e
      obtain ⟨v, u, e1, ⟨p, vs, rfl, h1, h2⟩, h3⟩ := i.two
      cases e1
      refine .inr (.inr ⟨p, _, vs, rfl, h3, s.sub _ _ h1, c.1.1, c.1.2, by rw [h2.length]; exact c.2, fun l hl => ?_⟩)
      have x := s.new (o := .lst (List.replicate k.toNat vs).flatten) hl
      exact q _ _ ad _ x ⟨l, _, rfl, upd_same, (isl_flat h2 k.toNat).mono x.gro x.pre⟩
    · cases e
  · cases e
theorem r_isN : OpR X (compareOp .Is) fun x y H Q => RP (tx X nm) dIsN [x, y] H Q := opr_imp op_isN fun x y H Q h => by
  obtain ⟨F, ad, mem, ds, d, s, i, e, q⟩ := rp_flat h
  unfold dIsN at e
  split at e
  · rename_i d0
    cases e
    obtain ⟨v, u, e1, h1, h2⟩ := i.two
    cases e1
    refine ⟨h2, q _ ?_⟩
    show V.bl _ = V.bl _
    congr 1
    cases d0 <;> simp [Is, isNon] at h1 ⊢ <;> grind
  · cases e
theorem r_notN : OpR X (compareOp .IsNot) fun x y H Q => RP (tx X nm) dNotN [x, y] H Q := opr_imp op_notN fun x y H Q h => by
  obtain ⟨F, ad, mem, ds, d, s, i, e, q⟩ := rp_flat h
  unfold dNotN at e
  split at e
  · rename_i d0
    cases e
    obtain ⟨v, u, e1, h1, h2⟩ := i.two
    cases e1
    refine ⟨h2, q _ ?_⟩
    show V.bl _ = V.bl _
    congr 1
    cases d0 <;> simp [Is, isNon] at h1 ⊢ <;> grind
  · cases e
end
/-! ### == of data -/
mutual
def pd : D → Option PyData
  | .non => some .none
  | .bl b => some (.bool b)
  | .int i => some (.int i)
  | .str x => some (.str x)
  | .lst xs => (pdL xs).map .list
  | .tup xs => (pdL xs).map .tuple
  | _ => none
def pdL : List D → Option (List PyData)
  | [] => some []
  | d :: ds => match pd d, pdL ds with
    | some p, some ps => some (p :: ps)
    | _, _ => none
end
section
variable {T : Tx} {F H : Hp} {ad : List Addr}
mutual
theorem dp_of (e : Same F H) : ∀ {d : D} {v : V} {p : PyData}, pd d = some p → Is T F ad d v → Dp T.K H v p
  | .non, _, _, h, i => by cases h; cases i; exact Dp.non
  | .bl b, _, _, h, i => by cases h; cases i; exact Dp.bl b
  | .int b, _, _, h, i => by cases h; cases i; exact Dp.int b
  | .str b, _, _, h, i => by cases h; cases i; exact Dp.str b
  | .lst xs, _, _, h, i => by
    obtain ⟨a, vs, rfl, h1, h2⟩ := i
    simp only [pd] at h
    cases e2 : pdL xs with
    | none => rw [e2] at h; cases h
    | some ps => rw [e2] at h; cases h; exact Dp.lst (SqL.of (e _ _ h1)) (dps_of e e2 h2)
  | .tup xs, _, _, h, i => by
    obtain ⟨a, vs, rfl, h1, h2⟩ := i
    simp only [pd] at h
    cases e2 : pdL xs with
    | none => rw [e2] at h; cases h
    | some ps => rw [e2] at h; cases h; exact Dp.tup (sqT_mono e h1) (dps_of e e2 h2)
  | .ty _, _, _, h, _ => by cases h
  | .dic _ _, _, _, h, _ => by cases h
  | .ins _ _, _, _, h, _ => by cases h
  | .glo _, _, _, h, _ => by cases h
  | .hnd _, _, _, h, _ => by cases h
  | .slf _, _, _, h, _ => by cases h
theorem dps_of (e : Same F H) : ∀ {ds : List D} {vs : List V} {ps : List PyData}, pdL ds = some ps → IsL T F ad ds vs → DpAll T.K H vs ps
  | [], _, _, h, i => by cases h; cases i; exact DpAll.nil
  | d :: ds, _, _, h, i => by
    obtain ⟨v, vr, rfl, h1, h2⟩ := i
    simp only [pdL] at h
    cases e1 : pd d with
    | none => rw [e1] at h; cases h
    | some p =>
      cases e2 : pdL ds with
      | none => rw [e1, e2] at h; cases h
      | some ps =>
        rw [e1, e2] at h
        cases h
        exact DpAll.cons (dp_of e e1 h1) (dps_of e e2 h2)
end
end
/-- == of two scalars, where Python tells them apart as data does -/
def scalEq : D → D → Option Bool
  | .non, .non => some true
  | .non, .int _ => some false
  | .int _, .non => some false
  | .non, .str _ => some false
  | .str _, .non => some false
  | .non, .bl _ => some false
  | .bl _, .non => some false
  | .int i, .int j => some (decide (i = j))
  | .bl a, .bl b => some (decide (a = b))
  | .str x, .str y => some (decide (x = y))
  | .int _, .str _ => some false
  | .str _, .int _ => some false
  | .bl _, .str _ => some false
  | .str _, .bl _ => some false
  | _, _ => none
def eqD (d e : D) : Option Bool := match scalEq d e with
  | some b => some b
  | none => match pd d, pd e with
    | some p, some q => if SeqAt.shaped p && SeqAt.shaped q then some (PyData.eqv p q) else none
    | _, _ => none
def dEq : Pur
  | [d, e] => (eqD d e).map .bl
  | _ => none
def dNe : Pur
  | [d, e] => (eqD d e).map fun b => .bl (!b)
  | _ => none
/-- x in xs -/
def inD (d : D) : List D → Option Bool
  | [] => some false
  | y :: ys => match scalEq y d with
    | some b => (inD d ys).map (b || ·)
    | none => none
def flatD : D → Bool
  | .non => true
  | .bl _ => true
  | .int _ => true
  | .str _ => true
  | _ => false
def elems : D → Option (List D)
  | .lst xs => some xs
  | .tup xs => some xs
  | _ => none
/-- one sign in a text -/
def inS : D → D → Option Bool
  | .str x, .str y => if x.cps.size = 1 then some (decide (x.cps.getD 0 0 ∈ y.cps.toList)) else none
  | _, _ => none
def isIn (d e : D) : Option Bool := match e with
  | .str _ => inS d e
  | .lst xs => if flatD d && xs.all flatD then inD d xs else
      (match pd d, pdL xs with
      | some p, some ps => if SeqAt.shaped p && SeqAt.shaped (.list ps) then some (ps.any fun q => PyData.eqv q p) else none
      | _, _ => none)
  | .tup xs => if flatD d && xs.all flatD then inD d xs else none
  | _ => none
def dIn : Pur
  | [d, e] => (isIn d e).map .bl
  | _ => none
def dNin : Pur
  | [d, e] => (isIn d e).map fun b => .bl (!b)
  | _ => none
section
variable {X : Cx} {nm : String → List Str}
theorem scal_of {T : Tx} {F : Hp} {ad : List Addr} {d e : D} {x y : V} {b : Bool} (h : scalEq d e = some b) (h1 : Is T F ad d x) (h2 : Is T F ad e y) : scal x y = true ∧ decide (x = y) = b := by
  cases d <;> cases e <;> simp only [scalEq, Option.some.injEq, reduceCtorEq] at h <;> subst h <;> (have a1 := h1; have a2 := h2; simp only [Is] at a1 a2; subst a1; subst a2; simp [scal])
theorem eq_pre {T : Tx} {x y : V} {H : Hp} {g : Bool → D} {Q : VK} (h : RP T (fun ds => match ds with | [d, e] => (eqD d e).map g | _ => none) [x, y] H Q) :
    ∃ F ad d e b, Is T F ad d x ∧ Is T F ad e y ∧ (∀ v, Is T F ad (g b) v → Q v H) ∧ ((scal x y = true ∧ decide (x = y) = b) ∨ ∃ p q, Dp T.K H x p ∧ Dp T.K H y q ∧ SeqAt.shaped p = true ∧ SeqAt.shaped q = true ∧ PyData.eqv p q = b) := by
  obtain ⟨F, ad, mem, ds, d, s, i, e, q⟩ := rp_flat h
  match ds, i, e with
  | [d1, d2], i, e =>
    obtain ⟨v, u, e1, h1, h2⟩ := i.two
    cases e1
    cases hb : eqD d1 d2 with
    | none => simp only [hb] at e; cases e
    | some b =>
      simp only [hb, Option.map_some, Option.some.injEq] at e
      subst e
      refine ⟨F, ad, d1, d2, b, h1, h2, q, ?_⟩
      unfold eqD at hb
      split at hb
      · rename_i b' hs
        cases hb
        exact .inl (scal_of hs h1 h2)
      · split at hb
        · rename_i p q' hp hq
          split at hb
          · rename_i c
            cases hb
            obtain ⟨c1, c2⟩ := Bool.and_eq_true_iff.mp c
            exact .inr ⟨p, q', dp_of s.sub hp h1, dp_of s.sub hq h2, c1, c2, rfl⟩
          · cases hb
        · cases hb
theorem r_eq (hu : X.A.units + 64 < cLine) : OpR X (compareOp .Eq) fun x y H Q => RP (tx X nm) dEq [x, y] H Q :=
  opr_imp (op_eq.or (op_eqD hu)) fun x y H Q h => by
    obtain ⟨F, ad, d, e, b, h1, h2, q, c⟩ := eq_pre (g := D.bl) h
    rcases c with ⟨c1, c2⟩ | ⟨p, p', c1, c2, c3, c4, c5⟩
    · exact .inl ⟨c1, by rw [c2]; exact q _ rfl⟩
    · exact .inr ⟨p, p', c1, c2, c3, c4, by rw [c5]; exact q _ rfl⟩
theorem r_ne (hu : X.A.units + 64 < cLine) : OpR X (compareOp .NotEq) fun x y H Q => RP (tx X nm) dNe [x, y] H Q :=
  opr_imp (op_ne.or (op_neD hu)) fun x y H Q h => by
    obtain ⟨F, ad, d, e, b, h1, h2, q, c⟩ := eq_pre (g := fun b => D.bl (!b)) h
    rcases c with ⟨c1, c2⟩ | ⟨p, p', c1, c2, c3, c4, c5⟩
    · exact .inl ⟨c1, by rw [c2]; exact q _ rfl⟩
    · exact .inr ⟨p, p', c1, c2, c3, c4, by rw [c5]; exact q _ rfl⟩
theorem flat_of {T : Tx} {F : Hp} {ad : List Addr} {d : D} {x : V} (h : flatD d = true) (i : Is T F ad d x) : flatV x = true := by
  cases d <;> simp only [flatD, Bool.false_eq_true, reduceCtorEq] at h <;> cases i <;> rfl
theorem flats_of {T : Tx} {F : Hp} {ad : List Addr} : ∀ {ds : List D} {vs : List V}, ds.all flatD = true → IsL T F ad ds vs → vs.all flatV = true
  | [], _, _, i => by cases i; rfl
  | d :: ds, _, h, i => by
    obtain ⟨v, vr, rfl, h1, h2⟩ := i
    simp only [List.all_cons, Bool.and_eq_true] at h ⊢
    exact ⟨flat_of h.1 h1, flats_of h.2 h2⟩
theorem eqV_of {T : Tx} {F : Hp} {ad : List Addr} {d e : D} {x y : V} {b : Bool} (h : scalEq d e = some b) (h1 : Is T F ad d x) (h2 : Is T F ad e y) : eqV x y = b := by
  cases d <;> cases e <;> simp only [scalEq, Option.some.injEq, reduceCtorEq] at h <;> subst h <;> cases h1 <;> cases h2 <;> first | rfl | exact Bool.beq_eq_decide_eq _ _ | simp [eqV]
theorem inV_of {T : Tx} {F : Hp} {ad : List Addr} {d : D} {x : V} (hx : Is T F ad d x) : ∀ {ds : List D} {vs : List V} {b : Bool}, inD d ds = some b → IsL T F ad ds vs → inV x vs = b
  | [], _, _, h, i => by cases i; cases h; rfl
  | e :: ds, _, b, h, i => by
    obtain ⟨v, vr, rfl, h1, h2⟩ := i
    simp only [inD] at h
    cases e1 : scalEq e d with
    | none => rw [e1] at h; cases h
    | some c =>
      rw [e1] at h
      cases e2 : inD d ds with
      | none => simp only [e2] at h; cases h
      | some r =>
        simp only [e2, Option.map_some, Option.some.injEq] at h
        subst h
        have ih := inV_of hx e2 h2
        have ev := eqV_of e1 h1 hx
        show (eqV v x || inV x vr) = _
        rw [ev, ih]
theorem in_pre (neg : Bool) {T : Tx} {x y : V} {H : Hp} {g : Bool → D} {Q : VK} (h : RP T (fun ds => match ds with | [d, e] => (isIn d e).map g | _ => none) [x, y] H Q) :
    ∃ F ad b, (∀ v, Is T F ad (g b) v → Q v H) ∧ ((∃ c z, x = .str ⟨#[c]⟩ ∧ y = .str z ∧ decide (c ∈ z.cps.toList) = b) ∨
      (∃ p xs, y = .ref p ∧ (SqL T.K H p xs ∨ SqT T.K H p xs) ∧ flatV x = true ∧ xs.all flatV = true ∧ inV x xs = b) ∨
      ∃ d ds, Dp T.K H x d ∧ Dp T.K H y (.list ds) ∧ SeqAt.shaped d = true ∧ SeqAt.shaped (.list ds) = true ∧ (ds.any fun q => PyData.eqv q d) = b) := by
  obtain ⟨F, ad, mem, ds, d, s, i, e, q⟩ := rp_flat h
  match ds, i, e with
  | [d1, d2], i, e =>
    obtain ⟨v, u, e1, h1, h2⟩ := i.two
    cases e1
    cases hb : isIn d1 d2 with
    | none => simp only [hb] at e; cases e
    | some b =>
      simp only [hb, Option.map_some, Option.some.injEq] at e
      subst e
      refine ⟨F, ad, b, q, ?_⟩
      cases d2 with
      | str z =>
        simp only [isIn] at hb
        cases d1 with
        | str w =>
          simp only [inS] at hb
          split at hb
          · rename_i c
            cases hb
            refine .inl ⟨w.cps.getD 0 0, z, ?_, h2, rfl⟩
            have e : w = ⟨#[w.cps.getD 0 0]⟩ := by
              obtain ⟨a⟩ := w
              have c' : a.size = 1 := c
              congr 1
              apply Array.ext
              · simpa using c'
              · intro n hn hn2
                have : n = 0 := by omega
                subst this
                simp [Array.getD, c']
            show x = _
            rw [← e]
            exact h1
          · cases hb
        | _ => cases hb
      | lst xs =>
        obtain ⟨p, vs, rfl, g1, g2⟩ := h2
        simp only [isIn] at hb
        split at hb
        · rename_i c
          obtain ⟨c1, c2⟩ := Bool.and_eq_true_iff.mp c
          exact .inr (.inl ⟨p, vs, rfl, .inl (SqL.of (s.sub _ _ g1)), flat_of c1 h1, flats_of c2 g2, inV_of h1 hb g2⟩)
        · split at hb
          · rename_i pp ps hp hq
            split at hb
            · rename_i c
              obtain ⟨c1, c2⟩ := Bool.and_eq_true_iff.mp c
              cases hb
              exact .inr (.inr ⟨pp, ps, dp_of s.sub hp h1, Dp.lst (SqL.of (s.sub _ _ g1)) (dps_of s.sub hq g2), c1, c2, rfl⟩)
            · cases hb
          · cases hb
      | tup xs =>
        obtain ⟨p, vs, rfl, g1, g2⟩ := h2
        simp only [isIn] at hb
        split at hb
        · rename_i c
          obtain ⟨c1, c2⟩ := Bool.and_eq_true_iff.mp c
          exact .inr (.inl ⟨p, vs, rfl, .inr (sqT_mono s.sub g1), flat_of c1 h1, flats_of c2 g2, inV_of h1 hb g2⟩)
        · cases hb
      | _ => cases hb
end
section
variable {X : Cx} {nm : String → List Str}
theorem r_in (hu : X.A.units + 65 < cLine) : OpR X (compareOp .In) fun x y H Q => RP (tx X nm) dIn [x, y] H Q :=
  opr_imp (op_in_sign.or (op_in_seq.or (op_inD hu))) fun x y H Q h => by
    obtain ⟨F, ad, b, q, c⟩ := in_pre false (g := D.bl) h
    rcases c with ⟨c, z, c1, c2, c3⟩ | ⟨p, xs, c1, c2, c3, c4, c5⟩ | ⟨d, ds, c1, c2, c3, c4, c5⟩
    · exact .inl ⟨c, z, c1, c2, by rw [c3]; exact q _ rfl⟩
    · exact .inr (.inl ⟨p, xs, c1, c2, c3, c4, by rw [if_neg Bool.false_ne_true, c5]; exact q _ rfl⟩)
    · exact .inr (.inr ⟨d, ds, c1, c2, c3, c4, by rw [c5]; exact q _ rfl⟩)
theorem r_nin (hu : X.A.units + 65 < cLine) : OpR X (compareOp .NotIn) fun x y H Q => RP (tx X nm) dNin [x, y] H Q :=
  opr_imp (op_notIn_sign.or (op_notIn_seq.or (op_notInD hu))) fun x y H Q h => by
    obtain ⟨F, ad, b, q, c⟩ := in_pre false (g := fun b => D.bl (!b)) h
    rcases c with ⟨c, z, c1, c2, c3⟩ | ⟨p, xs, c1, c2, c3, c4, c5⟩ | ⟨d, ds, c1, c2, c3, c4, c5⟩
    · exact .inl ⟨c, z, c1, c2, by rw [c3]; exact q _ rfl⟩
    · exact .inr (.inl ⟨p, xs, c1, c2, c3, c4, by rw [if_pos rfl, c5]; exact q _ rfl⟩)
    · exact .inr (.inr ⟨d, ds, c1, c2, c3, c4, by rw [c5]; exact q _ rfl⟩)
end
/-! ### calls of what is built in -/
def dInt : Pur
  | [.int i] => some (.int i)
  | [.bl b] => some (.int (if b then 1 else 0))
  | [.str x] => match PySem.intText? x with
    | some n => if x.length ≤ 640 then some (.int n) else none
    | none => none
  | _ => none
def dStr : Pur
  | [.int i] => if i.natAbs.log2 < 1920 then some (.str (toString i)) else none
  | [.str x] => some (.str x)
  | _ => none
def dLen : Pur
  | [.str x] => if x.length ≤ sizeLine then some (.int x.length) else none
  | [.lst xs] => some (.int xs.length)
  | [.tup xs] => some (.int xs.length)
  | [.slf xs] => some (.int xs.length)
  | [.dic ks xs] => if ks.length = xs.length then some (.int ks.length) else none
  | _ => none
def dAbs : Pur
  | [.int i] => some (.int (if i < 0 then -i else i))
  | _ => none
def dMax : Pur
  | [.int i, .int j] => some (.int (if j > i then j else i))
  | [.lst xs] => match intsOf xs with
    | some (n :: ns) => some (.int (ns.foldl max n))
    | _ => none
  | _ => none
def dMin : Pur
  | [.int i, .int j] => some (.int (if j < i then j else i))
  | [.lst xs] => match intsOf xs with
    | some (n :: ns) => some (.int (ns.foldl min n))
    | _ => none
  | _ => none
def dSum : Pur
  | [.lst xs] => (intsOf xs).map fun ns => .int ns.sum
  | _ => none
def dAll : Pur
  | [.lst xs] => (blsOf xs).map fun bs => .bl (bs.all id)
  | _ => none
def dAny : Pur
  | [.lst xs] => (blsOf xs).map fun bs => .bl (bs.any id)
  | _ => none
def dTuple : Pur
  | [.lst xs] => some (.tup xs)
  | [.tup xs] => some (.tup xs)
  | _ => none
def dList : Pur
  | [.lst xs] => some (.lst xs)
  | [.tup xs] => some (.lst xs)
  | [.slf xs] => some (.lst xs)
  | _ => none
/-- insertion, ascending -/
def insI (n : Int) : List Int → List Int
  | [] => [n]
  | m :: r => if n ≤ m then n :: m :: r else m :: insI n r
def sortI : List Int → List Int
  | [] => []
  | n :: r => insI n (sortI r)
def dSorted : Pur
  | [.lst xs] => (intsOf xs).map fun ns => .lst ((sortI ns).map .int)
  | _ => none
section
variable {X : Cx} {nm : String → List Str}
theorem cr_imp {f : Value} {r r' : List V → Hp → VK → Prop} (h : CallR X f r) (i : ∀ vs H Q, r' vs H Q → r vs H Q) : CallR X f r' := fun pins s σ H xs us Q I r q => h pins s σ H xs us Q I r (i xs H Q q)
theorem CallR.or {f : Value} {r r' : List V → Hp → VK → Prop} (h : CallR X f r) (h' : CallR X f r') : CallR X f (fun vs H Q => r vs H Q ∨ r' vs H Q) := fun pins s σ H xs us Q I rv q => by
  rcases q with q | q
  · exact h pins s σ H xs us Q I rv q
  · exact h' pins s σ H xs us Q I rv q
theorem c_abs : CallR X (.builtin "abs") (RP (tx X nm) dAbs) := cr_imp call_abs fun vs H Q h => by
  obtain ⟨F, ad, mem, ds, d, s, i, e, q⟩ := rp_flat h
  unfold dAbs at e
  split at e
  · cases e
    obtain ⟨v, rfl, h1⟩ := i.one
    exact ⟨_, by rw [show v = V.int _ from h1], q _ rfl⟩
  · cases e
theorem c_int : CallR X (.type "int") (RP (tx X nm) dInt) := cr_imp (CallR.or call_int1 call_int_str) fun vs H Q h => by
  obtain ⟨F, ad, mem, ds, d, s, i, e, q⟩ := rp_flat h
  unfold dInt at e
  split at e
  · cases e
    obtain ⟨v, rfl, h1⟩ := i.one
    exact .inl (.inl ⟨_, by rw [show v = V.int _ from h1], q _ rfl⟩)
  · cases e
    obtain ⟨v, rfl, h1⟩ := i.one
    exact .inl (.inr ⟨_, by rw [show v = V.bl _ from h1], q _ rfl⟩)
  · split at e
    · split at e
      · rename_i n hn hl
        cases e
        obtain ⟨v, rfl, h1⟩ := i.one
        exact .inr ⟨_, _, by rw [show v = V.str _ from h1], hn, hl, q _ rfl⟩
      · cases e
    · cases e
  · cases e
theorem c_str : CallR X (.type "str") (RP (tx X nm) dStr) := cr_imp (CallR.or call_str_int SkE.call_str_str) fun vs H Q h => by
  obtain ⟨F, ad, mem, ds, d, s, i, e, q⟩ := rp_flat h
  unfold dStr at e
  split at e
  · split at e
    · rename_i c
      cases e
      obtain ⟨v, rfl, h1⟩ := i.one
      exact .inl ⟨_, by rw [show v = V.int _ from h1], c, q _ rfl⟩
    · cases e
  · cases e
    obtain ⟨v, rfl, h1⟩ := i.one
    exact .inr ⟨_, by rw [show v = V.str _ from h1], q _ rfl⟩
  · cases e
theorem call_lenR : CallR X (.builtin "len") (fun xs H Q => ∃ a kvs, xs = [V.ref a] ∧ Rd H a (.dK kvs) ∧ Q (.int kvs.length) H) := by
  intro pins s σ H xs us Q I r h
  obtain ⟨a, kvs, rfl, ha, q⟩ := h
  obtain ⟨u, rfl, ru⟩ := vals1 r
  cases ru
  exact d_len I ha fun t s' I' => ⟨.int kvs.length, H, I', ⟨t, rfl⟩, q⟩
theorem c_len : CallR X (.builtin "len") (RP (tx X nm) dLen) := cr_imp (CallR.or call_len call_lenR) fun vs H Q h => by
  obtain ⟨F, ad, mem, ds, d, s, i, e, q⟩ := rp_flat h
  unfold dLen at e
  split at e
  · split at e
    · rename_i y c
      cases e
      obtain ⟨v, rfl, h1⟩ := i.one
      exact .inl ⟨V.str y, y.length, by rw [show v = V.str y from h1], ⟨c, rfl⟩, q _ rfl⟩
    · cases e
  · cases e
    obtain ⟨v, rfl, p, us, rfl, h1, h2⟩ := i.one
    exact .inl ⟨V.ref p, us.length, rfl, .inl ⟨us, SqL.of (s.sub _ _ h1), rfl⟩, q _ (by rw [h2.length]; rfl)⟩
  · cases e
    obtain ⟨v, rfl, p, us, rfl, h1, h2⟩ := i.one
    exact .inl ⟨V.ref p, us.length, rfl, .inr ⟨us, sqT_mono s.sub h1, rfl⟩, q _ (by rw [h2.length]; rfl)⟩
  · cases e
    obtain ⟨v, rfl, p, us, rfl, h1, h2⟩ := i.one
    exact .inl ⟨V.ref p, us.length, rfl, .inl ⟨us, sqL_mono s.sub h1, rfl⟩, q _ (by rw [h2.length]; rfl)⟩
  · split at e
    · rename_i c
      cases e
      obtain ⟨v, rfl, p, o, us, rfl, h1, h2, h3⟩ := i.one
      exact .inr ⟨p, _, rfl, .inr ⟨o, s.sub _ _ h1⟩, q _ (by simp [Is, h2])⟩
    · cases e
  · cases e
theorem fold_max : ∀ (ns : List Int) (n : Int), (ns.foldl max n = n ∨ ns.foldl max n ∈ ns) ∧ n ≤ ns.foldl max n ∧ ∀ y ∈ ns, y ≤ ns.foldl max n
  | [], n => ⟨.inl rfl, Int.le_refl n, fun _ h => by simp at h⟩
  | m :: r, n => by
    obtain ⟨h1, h2, h3⟩ := fold_max r (max n m)
    refine ⟨?_, by simp only [List.foldl_cons]; omega, fun y hy => ?_⟩
    · simp only [List.foldl_cons, List.mem_cons]
      rcases h1 with h1 | h1
      · rw [h1]; omega
      · exact .inr (.inr h1)
    · simp only [List.foldl_cons]
      rcases List.mem_cons.mp hy with e | e
      · subst e; omega
      · exact h3 y e
theorem fold_min : ∀ (ns : List Int) (n : Int), (ns.foldl min n = n ∨ ns.foldl min n ∈ ns) ∧ ns.foldl min n ≤ n ∧ ∀ y ∈ ns, ns.foldl min n ≤ y
  | [], n => ⟨.inl rfl, Int.le_refl n, fun _ h => by simp at h⟩
  | m :: r, n => by
    obtain ⟨h1, h2, h3⟩ := fold_min r (min n m)
    refine ⟨?_, by simp only [List.foldl_cons]; omega, fun y hy => ?_⟩
    · simp only [List.foldl_cons, List.mem_cons]
      rcases h1 with h1 | h1
      · rw [h1]; omega
      · exact .inr (.inr h1)
    · simp only [List.foldl_cons]
      rcases List.mem_cons.mp hy with e | e
      · subst e; omega
      · exact h3 y e
theorem c_max (hc : X.calm = true) : CallR X (.builtin "max") (RP (tx X nm) dMax) := cr_imp (CallR.or (call_max2 hc) (cr_max hc)) fun vs H Q h => by
  obtain ⟨F, ad, mem, ds, d, s, i, e, q⟩ := rp_flat h
  unfold dMax at e
  split at e
  · cases e
    obtain ⟨v, u, rfl, h1, h2⟩ := i.two
    exact .inl ⟨_, _, by rw [show v = V.int _ from h1, show u = V.int _ from h2], q _ rfl⟩
  · split at e
    · rename_i n ns hn
      cases e
      obtain ⟨v, rfl, p, us, rfl, h1, h2⟩ := i.one
      refine .inr ⟨p, n :: ns, rfl, by rw [← ints_of hn h2]; exact SqL.of (s.sub _ _ h1), by simp, fun m hm hy => ?_⟩
      obtain ⟨g1, g2, g3⟩ := fold_max ns n
      have e : m = ns.foldl max n := by
        apply Int.le_antisymm
        · rcases List.mem_cons.mp hm with e | e
          · omega
          · exact g3 m e
        · rcases g1 with g1 | g1
          · rw [g1]; exact hy n (by simp)
          · exact hy _ (by simp [g1])
      rw [e]
      exact q _ rfl
    · cases e
  · cases e
theorem c_min (hc : X.calm = true) : CallR X (.builtin "min") (RP (tx X nm) dMin) := cr_imp (CallR.or (call_min2 hc) (cr_min hc)) fun vs H Q h => by
  obtain ⟨F, ad, mem, ds, d, s, i, e, q⟩ := rp_flat h
  unfold dMin at e
  split at e
  · cases e
    obtain ⟨v, u, rfl, h1, h2⟩ := i.two
    exact .inl ⟨_, _, by rw [show v = V.int _ from h1, show u = V.int _ from h2], q _ rfl⟩
  · split at e
    · rename_i n ns hn
      cases e
      obtain ⟨v, rfl, p, us, rfl, h1, h2⟩ := i.one
      refine .inr ⟨p, n :: ns, rfl, by rw [← ints_of hn h2]; exact SqL.of (s.sub _ _ h1), by simp, fun m hm hy => ?_⟩
      obtain ⟨g1, g2, g3⟩ := fold_min ns n
      have e : m = ns.foldl min n := by
        apply Int.le_antisymm
        · rcases g1 with g1 | g1
          · rw [g1]; exact hy n (by simp)
          · exact hy _ (by simp [g1])
        · rcases List.mem_cons.mp hm with e | e
          · omega
          · exact g3 m e
      rw [e]
      exact q _ rfl
    · cases e
  · cases e
theorem c_sum (hc : X.calm = true) : CallR X (.builtin "sum") (RP (tx X nm) dSum) := cr_imp (cr_sum hc) fun vs H Q h => by
  obtain ⟨F, ad, mem, ds, d, s, i, e, q⟩ := rp_flat h
  unfold dSum at e
  split at e
  · rename_i xs
    obtain ⟨v, rfl, p, us, rfl, h1, h2⟩ := i.one
    cases hn : intsOf xs with
    | none => rw [hn] at e; cases e
    | some ns =>
      rw [hn] at e; cases e
      exact ⟨p, ns, rfl, by rw [← ints_of hn h2]; exact SqL.of (s.sub _ _ h1), q _ rfl⟩
  · cases e
theorem c_all (hc : X.calm = true) : CallR X (.builtin "all") (RP (tx X nm) dAll) := cr_imp (cr_all hc) fun vs H Q h => by
  obtain ⟨F, ad, mem, ds, d, s, i, e, q⟩ := rp_flat h
  unfold dAll at e
  split at e
  · rename_i xs
    obtain ⟨v, rfl, p, us, rfl, h1, h2⟩ := i.one
    cases hn : blsOf xs with
    | none => rw [hn] at e; cases e
    | some ns =>
      rw [hn] at e; cases e
      exact ⟨p, ns, rfl, by rw [← bls_of hn h2]; exact SqL.of (s.sub _ _ h1), q _ rfl⟩
  · cases e
theorem c_any (hc : X.calm = true) : CallR X (.builtin "any") (RP (tx X nm) dAny) := cr_imp (cr_any hc) fun vs H Q h => by
  obtain ⟨F, ad, mem, ds, d, s, i, e, q⟩ := rp_flat h
  unfold dAny at e
  split at e
  · rename_i xs
    obtain ⟨v, rfl, p, us, rfl, h1, h2⟩ := i.one
    cases hn : blsOf xs with
    | none => rw [hn] at e; cases e
    | some ns =>
      rw [hn] at e; cases e
      exact ⟨p, ns, rfl, by rw [← bls_of hn h2]; exact SqL.of (s.sub _ _ h1), q _ rfl⟩
  · cases e
theorem c_tuple : CallR X (.type "tuple") (RP (tx X nm) dTuple) := cr_imp call_tuple_of fun vs H Q h => by
  obtain ⟨F, ad, mem, ds, d, s, i, e, q⟩ := h
  unfold dTuple at e
  split at e
  · cases e
    obtain ⟨v, rfl, p, us, rfl, h1, h2⟩ := i.one
    refine ⟨p, us, rfl, .inl ⟨SqL.of (s.sub _ _ h1), fun l hl => ?_⟩⟩
    have x := s.new (o := .tup us) hl
    exact q _ _ ad _ x ⟨l, us, rfl, .inl (.inl upd_same), h2.mono x.gro x.pre⟩
  · cases e
    obtain ⟨v, rfl, p, us, rfl, h1, h2⟩ := i.one
    exact ⟨p, us, rfl, .inr ⟨sqT_mono s.sub h1, q _ F ad H (Ext.refl s) ⟨p, us, rfl, h1, h2⟩⟩⟩
  · cases e
theorem c_list : CallR X (.type "list") (RP (tx X nm) dList) := cr_imp call_list_of fun vs H Q h => by
  obtain ⟨F, ad, mem, ds, d, s, i, e, q⟩ := h
  unfold dList at e
  split at e
  · cases e
    obtain ⟨v, rfl, p, us, rfl, h1, h2⟩ := i.one
    refine ⟨p, us, rfl, .inl (SqL.of (s.sub _ _ h1)), fun l hl => ?_⟩
    have x := s.new (o := .lst us) hl
    exact q _ _ ad _ x ⟨l, us, rfl, upd_same, h2.mono x.gro x.pre⟩
  · cases e
    obtain ⟨v, rfl, p, us, rfl, h1, h2⟩ := i.one
    refine ⟨p, us, rfl, .inr (sqT_mono s.sub h1), fun l hl => ?_⟩
    have x := s.new (o := .lst us) hl
    exact q _ _ ad _ x ⟨l, us, rfl, upd_same, h2.mono x.gro x.pre⟩
  · cases e
    obtain ⟨v, rfl, p, us, rfl, h1, h2⟩ := i.one
    refine ⟨p, us, rfl, .inl (sqL_mono s.sub h1), fun l hl => ?_⟩
    have x := s.new (o := .lst us) hl
    exact q _ _ ad _ x ⟨l, us, rfl, upd_same, h2.mono x.gro x.pre⟩
  · cases e
theorem insI_perm (n : Int) : ∀ l : List Int, (insI n l).Perm (n :: l)
  | [] => List.Perm.refl _
  | m :: r => by
    unfold insI
    split
    · exact List.Perm.refl _
    · exact ((insI_perm n r).cons m).trans (List.Perm.swap n m r)
theorem sortI_perm : ∀ l : List Int, (sortI l).Perm l
  | [] => List.Perm.refl _
  | n :: r => (insI_perm n (sortI r)).trans ((sortI_perm r).cons n)
theorem insI_sorted (n : Int) : ∀ {l : List Int}, l.Pairwise (· ≤ ·) → (insI n l).Pairwise (· ≤ ·)
  | [], _ => by simp [insI]
  | m :: r, h => by
    obtain ⟨h1, h2⟩ := List.pairwise_cons.mp h
    unfold insI
    split
    · rename_i c
      refine List.pairwise_cons.mpr ⟨fun y hy => ?_, h⟩
      rcases List.mem_cons.mp hy with e | e
      · rw [e]; exact c
      · exact Int.le_trans c (h1 y e)
    · rename_i c
      refine List.pairwise_cons.mpr ⟨fun y hy => ?_, insI_sorted n h2⟩
      rcases List.mem_cons.mp ((insI_perm n r).mem_iff.mp hy) with e | e
      · rw [e]; omega
      · exact h1 y e
theorem sortI_sorted : ∀ l : List Int, (sortI l).Pairwise (· ≤ ·)
  | [] => List.Pairwise.nil
  | n :: r => insI_sorted n (sortI_sorted r)
theorem sorted_one {a b : List Int} (p : a.Perm b) (ha : a.Pairwise (· ≤ ·)) (hb : b.Pairwise (· ≤ ·)) : a = b :=
  List.Perm.eq_of_pairwise (fun x y _ _ h1 h2 => Int.le_antisymm h1 h2) ha hb p
theorem c_sorted : CallR X (.builtin "sorted") (RP (tx X nm) dSorted) := cr_imp cr_sortedI fun vs H Q h => by
  obtain ⟨F, ad, mem, ds, d, s, i, e, q⟩ := h
  unfold dSorted at e
  split at e
  · rename_i xs
    obtain ⟨v, rfl, p, us, rfl, h1, h2⟩ := i.one
    cases hn : intsOf xs with
    | none => rw [hn] at e; cases e
    | some ns =>
      rw [hn] at e; cases e
      refine ⟨p, ns, rfl, by rw [← ints_of hn h2]; exact SqL.of (s.sub _ _ h1), fun ns' l hp hs hl => ?_⟩
      have e : ns' = sortI ns := sorted_one (hp.trans (sortI_perm ns).symm) hs (sortI_sorted ns)
      subst e
      have x := s.new (o := .lst ((sortI ns).map V.int)) hl
      exact q _ _ ad _ x ⟨l, _, rfl, upd_same, isl_ints⟩
  · cases e
end
/-! ### what the top has left: facts of one's own, defs -/
abbrev Fct := PySem.W.Frag → Bool
def seen (fs : List Fct) (fn : List He5.DefA) (K : PySem.W.Frag) : He.AlD := (fs.all (fun f => f K) && fn.all (fun d => d.ok K), fn.map fun d => He5.fnA K (d.at_ K))
def due (fn : List He5.DefA) : He.AlD := (true, fn.map He5.DefA.val)
def Says (fs : List Fct) (fn : List He5.DefA) (K : PySem.W.Frag) : Prop := seen fs fn K = due fn
def seenG (n : Nat) (fs : List Fct) (fn : List He5.DefA) (g : Addr → Option Obj) : He.AlD := seen fs fn (He.frG g (He5.asA g n))
def hookV (n : Nat) (fs : List Fct) (fn : List He5.DefA) : PySem.W.Hook where
  α := He.AlD
  obs := fun s => seenG n fs fn s.heap.get?
  val := fun _ => due fn
  says := fun _ h => ∃ K : PySem.W.Frag, K.In h ∧ Says fs fn K
  of := fun _ _ e => ⟨_, He.frG_in, e⟩
  keeps := fun _ _ _ ⟨K, hK, c⟩ k => ⟨K, hK.keeps k, c⟩
theorem seenG_eq {n : Nat} {fs : List Fct} {fn : List He5.DefA} {g : Addr → Option Obj} {s : Shared} (h : ∀ a, g a = s.heap.get? a) : seenG n fs fn g = (hookV n fs fn).obs s := by
  have e : g = s.heap.get? := funext h
  subst e
  rfl
section
variable {fs : List Fct} {fn : List He5.DefA} {K : PySem.W.Frag}
theorem Says.fact (c : Says fs fn K) (i : Nat) {f : Fct} (h : fs[i]? = some f := by rfl) : f K = true := by
  have c1 : (fs.all (fun f => f K) && fn.all (fun d => d.ok K)) = true := congrArg Prod.fst c
  exact List.all_eq_true.mp (Bool.and_eq_true_iff.mp c1).1 f (List.mem_of_getElem? h)
theorem Says.def_ (c : Says fs fn K) (i : Nat) {d : He5.DefA} (h : fn[i]? = some d := by rfl) : ∃ fd, FunD K d.name d.qual d.params d.body d.scope (d.dvs K) (d.kws K) (d.at_ K) fd := by
  have c1 : (fs.all (fun f => f K) && fn.all (fun d => d.ok K)) = true := congrArg Prod.fst c
  have e : fn.map (fun d => He5.fnA K (d.at_ K)) = fn.map He5.DefA.val := congrArg Prod.snd c
  have e2 : (fn.map fun d => He5.fnA K (d.at_ K))[i]? = (fn.map He5.DefA.val)[i]? := by rw [e]
  rw [List.getElem?_map, List.getElem?_map, h] at e2
  exact He5.DefA.funD (Option.some.inj e2) (List.all_eq_true.mp (Bool.and_eq_true_iff.mp c1).2 d (List.mem_of_getElem? h))
end
/-! ### classes -/
/-- the value of a type: a built-in one, an own class -/
inductive Ty where
  | bt (n : String) | ow (C : String)
  deriving DecidableEq
def Ty.v (K : PySem.W.Frag) : Ty → Value
  | .bt n => .type n
  | .ow C => .ref (He.ga K (Str.ofString C))
def tyD : D → Option Ty
  | .non => some (.bt "NoneType")
  | .bl _ => some (.bt "bool")
  | .int _ => some (.bt "int")
  | .str _ => some (.bt "str")
  | .lst _ => some (.bt "list")
  | .tup _ => some (.bt "tuple")
  | .dic _ _ => some (.bt "dict")
  | .ins C _ => some (.ow C)
  | _ => none
def clD : D → Option Ty
  | .ty n => some (.bt n)
  | .glo C => some (.ow C)
  | _ => none
/-- isinstance's answers: kt the own pairs -/
abbrev Kt := List ((Ty × Ty) × Bool)
def isiD (kt : Kt) (d c : D) : Option Bool := match tyD d, clD c with
  | some t, some u => kt.lookup (t, u)
  | _, _ => none
def isiAny (kt : Kt) (d : D) : List D → Option Bool
  | [] => some false
  | c :: cs => match isiD kt d c, isiAny kt d cs with
    | some a, some b => some (a || b)
    | _, _ => none
/-- what the top says of an own class's instances -/
def insB (C : String) : Fct := fun K => let c := He.ga K (Str.ofString C)
  (He.Fa.cls (Str.ofString C)).ok K && (decide (PySem.W.findIn K (.ref c) "__class__" = some (some (.builtin "object.__class__"))) && (decide (PySem.W.specialIn K (.builtin "object.__class__") "__get__" = some (some (.builtin "getset_descriptor.__get__"))) &&
    (decide (PySem.W.takesIn K (.builtin "object.__class__") = some true) && decide (PySem.W.mroIn K c (.type "object") = some true))))
def ktB (kt : Kt) : Fct := fun K => kt.all fun q => decide (PySem.W.kitOne K (q.1.1.v K) (q.1.2.v K) = some q.2) && (match q.1.1 with
  | .ow C => insB C K
  | .bt _ => true)
theorem insB_ty {C : String} {K : PySem.W.Frag} (h : insB C K = true) {H : Hp} {a dx : Addr} {fs : List (Str × V)} (e : H a = some (.ins (He.ga K (Str.ofString C)) dx fs)) : TyX K H (.ref a) (Ty.v K (.ow C)) := by
  unfold insB at h
  simp only [Bool.and_eq_true, decide_eq_true_eq] at h
  obtain ⟨h1, h2, h3, h4, h5⟩ := h
  exact .base (.ins e (He.cls_ok h1) h2 h3 h4 h5)
theorem lookup_mem {α β : Type} [BEq α] [LawfulBEq α] {l : List (α × β)} {a : α} {b : β} (h : l.lookup a = some b) : (a, b) ∈ l := by
  induction l with
  | nil => cases h
  | cons p r ih =>
    obtain ⟨x, y⟩ := p
    simp only [List.lookup] at h
    split at h
    · rename_i e
      cases h
      rw [beq_iff_eq.mp e]
      exact List.mem_cons_self
    · exact List.mem_cons_of_mem _ (ih h)
section
variable {X : Cx} {nm : String → List Str} {kt : Kt}
theorem ty_of {T : Tx} {F H : Hp} {ad : List Addr} {d : D} {x : V} {t : Ty} (hk : ∀ C, t = .ow C → insB C T.K = true) (e : Same F H) (h : tyD d = some t) (i : Is T F ad d x) : TyX T.K H x (t.v T.K) := by
  cases d <;> simp only [tyD, Option.some.injEq, reduceCtorEq] at h <;> subst h
  case non => cases i; exact .base .non
  case bl b => cases i; exact .base (.bl b)
  case int b => cases i; exact .base (.int b)
  case str b => cases i; exact .base (.str b)
  case lst xs => obtain ⟨p, vs, rfl, h1, _⟩ := i; exact .base (.lst (e _ _ h1))
  case tup xs =>
    obtain ⟨p, vs, rfl, h1, _⟩ := i
    rcases sqT_mono e h1 with (h | ⟨o, h⟩) | ⟨o, its, n, h, c, _⟩
    · exact .base (.tup h)
    · exact .fTuple h
    · exact .kTuple h c
  case dic ks xs => obtain ⟨p, o, vs, rfl, h1, _⟩ := i; exact .fDict (e _ _ h1)
  case ins C xs => obtain ⟨p, dx, fs, rfl, h1, _⟩ := i; exact insB_ty (hk C rfl) (e _ _ h1)
theorem cl_of {T : Tx} {F : Hp} {ad : List Addr} {c : D} {x : V} {u : Ty} (h : clD c = some u) (i : Is T F ad c x) : ClsV x (u.v T.K) := by
  cases c <;> simp only [clD, Option.some.injEq, reduceCtorEq] at h <;> subst h
  case ty n => cases i; exact ClsV.ty n
  case glo C => cases i; exact ClsV.own _
theorem isi_of (hk : ktB kt X.K = true) {F H : Hp} {ad : List Addr} {d c : D} {x y : V} {b : Bool} (e : Same F H) (h : isiD kt d c = some b) (i : Is (tx X nm) F ad d x) (j : Is (tx X nm) F ad c y) :
    ∃ t u, tyD d = some t ∧ ClsV y (Ty.v X.K u) ∧ TyX X.K H x (t.v X.K) ∧ PySem.W.kitOne X.K (t.v X.K) (u.v X.K) = some b := by
  unfold isiD at h
  split at h
  · rename_i t u h1 h2
    have m := List.all_eq_true.mp hk _ (lookup_mem h)
    obtain ⟨m1, m2⟩ := Bool.and_eq_true_iff.mp m
    refine ⟨t, u, h1, cl_of (T := tx X nm) h2 j, ty_of (T := tx X nm) (fun C eC => ?_) e h1 i, of_decide_eq_true m1⟩
    subst eC
    exact m2
  · cases h
theorem isi_one (hk : ktB kt X.K = true) {F : Hp} {ad : List Addr} {d c : D} {v : V} {t : Ty} {r : Bool} (ht : tyD d = some t) (e : isiD kt d c = some r) (h1 : Is (tx X nm) F ad c v) : ∃ u, ClsV v (Ty.v X.K u) ∧ PySem.W.kitOne X.K (t.v X.K) (u.v X.K) = some r := by
  unfold isiD at e
  rw [ht] at e
  cases hc : clD c with
  | none => rw [hc] at e; cases e
  | some u =>
    rw [hc] at e
    have m := List.all_eq_true.mp hk _ (lookup_mem e)
    exact ⟨u, cl_of (T := tx X nm) hc h1, of_decide_eq_true (Bool.and_eq_true_iff.mp m).1⟩
theorem isiAny_of (hk : ktB kt X.K = true) {F : Hp} {ad : List Addr} {d : D} {t : Ty} (ht : tyD d = some t) : ∀ {cs : List D} {vs : List V} {b : Bool}, isiAny kt d cs = some b → IsL (tx X nm) F ad cs vs →
    ∃ us, Paired ClsV vs us ∧ PySem.W.kitAny X.K (t.v X.K) us = some b
  | [], _, b, h, j => by cases j; cases h; exact ⟨[], .nil, kitAny_nil⟩
  | c :: cs, _, b, h, j => by
    obtain ⟨v, vr, rfl, h1, h2⟩ := j
    unfold isiAny at h
    cases e1 : isiD kt d c with
    | none => rw [e1] at h; cases h
    | some r =>
      cases e2 : isiAny kt d cs with
      | none => rw [e1, e2] at h; cases h
      | some r2 =>
        rw [e1, e2] at h
        cases h
        obtain ⟨u, k1, k2⟩ := isi_one (nm := nm) hk ht e1 h1
        obtain ⟨us, k3, k4⟩ := isiAny_of hk ht e2 h2
        exact ⟨_, .cons k1 k3, kitAny_cons k2 (fun z => by rw [z]; simpa using k4) fun z => by rw [z]; rfl⟩
theorem isi_ty {d c : D} {b : Bool} (h : isiD kt d c = some b) : ∃ t, tyD d = some t := by
  unfold isiD at h
  split at h
  · rename_i t u h1 h2; exact ⟨t, h1⟩
  · cases h
def dIs1 (kt : Kt) : Pur
  | [d, c] => (isiD kt d c).map .bl
  | _ => none
theorem dIs1_eq {ds : List D} {r : D} (h : dIs1 kt ds = some r) : ∃ d c b, ds = [d, c] ∧ isiD kt d c = some b ∧ r = .bl b := by
  unfold dIs1 at h
  split at h
  · rename_i d c
    cases hb : isiD kt d c with
    | none => rw [hb] at h; cases h
    | some b => rw [hb] at h; exact ⟨d, c, b, rfl, hb, (Option.some.inj h).symm⟩
  · cases h
theorem c_isi (hk : ktB kt X.K = true) : CallR X (.builtin "isinstance") (RP (tx X nm) (dIs1 kt)) := cr_imp call_isi fun vs H Q h => by
  obtain ⟨F, ad, mem, ds, d, s, i, e, q⟩ := rp_flat h
  obtain ⟨d, c, b, rfl, hb', rfl⟩ := dIs1_eq e
  obtain ⟨v, u, rfl, h1, h2⟩ := i.two
  obtain ⟨t, ht⟩ := isi_ty hb'
  obtain ⟨w, k2, k3⟩ := isi_one (nm := nm) hk ht hb' h2
  obtain ⟨t', w', k1', _, k3', _⟩ := isi_of (nm := nm) hk s.sub hb' h1 h2
  rw [ht] at k1'; cases k1'
  exact ⟨v, u, _, _, b, rfl, k2, k3', k3, q _ rfl⟩
/-- isinstance(e, (A, B, ..)) -/
def mIsT (kt : Kt) (f : ME) (g : MA) : ME := fun env mem => (f env mem).bind fun d m => (g env m).bind fun cs m2 => if cs.length ≤ sizeLine ∧ cs ≠ [] then lf (fun ds => match ds with
  | d :: cs => (isiAny kt d cs).map .bl
  | _ => none) (d :: cs) m2 else .bad
theorem hk_own (hk : ktB kt X.K = true) {d : D} {cs : List D} {b : Bool} {t : Ty} (hc : cs ≠ []) (ht : tyD d = some t) (h : isiAny kt d cs = some b) : ∀ C, t = .ow C → insB C X.K = true := fun C e => by
  cases cs with
  | nil => exact absurd rfl hc
  | cons c cs =>
    unfold isiAny at h
    cases e1 : isiD kt d c with
    | none => rw [e1] at h; cases h
    | some r =>
      unfold isiD at e1
      rw [ht] at e1
      cases hcl : clD c with
      | none => rw [hcl] at e1; cases e1
      | some u =>
        rw [hcl] at e1
        have m := List.all_eq_true.mp hk _ (lookup_mem e1)
        subst e
        exact (Bool.and_eq_true_iff.mp m).2
theorem se_isiT {B : Bs} {W : WX} {o : Expr} {es : List Expr} {f : ME} {fa : MA} {pos p p2 : Pos} {kk : Nat} (hk : ktB kt X.K = true) (hm : X.mg "isinstance" = none) (ho : SE nm B W X o f) (ha : SA nm B W X es fa) (hg : Gl X "isinstance" := by rfl)
    (h1 : starEach [o, .Tuple es kk p2] X.env = (false, eval o X.env) :: starEach [.Tuple es kk p2] X.env := by rfl) (h2 : (backTo pos (starEach [.Tuple es kk p2] X.env)).any (·.1) = false := by rfl)
    (h3 : starEach [.Tuple es kk p2] X.env = (false, eval (.Tuple es kk p2) X.env) :: starEach [] X.env := by rfl) : SE nm B W X (.Call (.Name "isinstance" p) [o, .Tuple es kk p2] [] pos) (mIsT kt f fa) :=
  PE.imp (pe_callB call_isiT hg hm (by decide +kernel) (pa_cons ho (pa_cons (pe_tup ha) pa_nil h3) h1) (by decide) (by decide) h1 h2) fun σ H Q ⟨env, mem, ex, s, h⟩ => by
    refine tE_step s h fun v H1 d m s1 q1 => tA_step s1 q1.push1 fun vs H2 cs m2 l s2 q2 => ?_
    split at q2
    case isFalse => exact q2.elim
    rename_i hz
    refine ⟨by rw [l]; exact hz.1, fun tp htp => ?_⟩
    obtain ⟨r, e, q⟩ := lf_ok q2
    obtain ⟨F, ad, s3⟩ := s2
    cases hb : isiAny kt d cs with
    | none => simp only [hb] at e; cases e
    | some b =>
      simp only [hb, Option.map_some, Option.some.injEq] at e
      subst e
      have x := s3.sat.new (o := .tup vs) htp
      have i1 : Is (tx X nm) F ad d v := s3.tmp (v, d) (by simp)
      have i2 : IsL (tx X nm) F ad cs vs := zip_tmp l fun x hx => s3.tmp x (List.mem_append_left _ hx)
      cases cs with
      | nil => exact absurd rfl hz.2
      | cons c cs =>
        obtain ⟨t, ht⟩ : ∃ t, tyD d = some t := by
          unfold isiAny at hb
          cases e1 : isiD kt d c with
          | none => rw [e1] at hb; cases hb
          | some r => exact isi_ty e1
        obtain ⟨us, k1, k2⟩ := isiAny_of (nm := nm) hk ht hb i2
        have ty := ty_of (T := tx X nm) (hk_own hk (by simp) ht hb) x.sat.sub ht (i1.mono x.gro x.pre)
        exact ⟨v, tp, vs, _, us, b, rfl, upd_same, k1, ty, k2, q (.bl b) _ (((s3.ext x).push (v := .bl b) (d := .bl b) rfl) |> fun z => ⟨_, _, z.sub fun y hy => by
          rcases List.mem_cons.mp hy with e | e
          · rw [e]; exact List.mem_cons_self
          · exact List.mem_cons_of_mem _ (List.mem_append_right _ (List.mem_cons_of_mem _ e))⟩)⟩
end
section
variable {nm : String → List Str} {B : Bs} {W : WX} {X : Cx} {x : Str} {φ : Pur} {e : Expr} {es : List Expr} {fa : MA} {pos p : Pos} {id : String}
theorem cb_imp : ∀ {σ : L2.St} {H : Hp} {Q : VK}, tE (tx X nm) B W (mPur φ fa) σ H Q → tCB (RP (tx X nm) φ) (tA (tx X nm) B W fa) σ H Q := fun {σ H Q} ⟨env, mem, ex, s, h⟩ =>
  tA_step s h fun vs H1 ds m l s1 q => rp_of (W := W) (p := vs.zip ds) s1 (fun _ _ s2 => il_of l s2) q
theorem se_callB (hc : CallR X (.builtin id) (RP (tx X nm) φ)) (hm : X.mg x = none) (ha : SA nm B W X (e :: es) fa) (hv : bootBuiltins x = some (.builtin id) := by decide +kernel) (hg : Gl X x := by rfl) (hn : x ≠ "__name__" := by decide) (hd : (x == ("__debug__" : Str)) = false := by decide)
    (h1 : starEach (e :: es) X.env = (false, eval e X.env) :: starEach es X.env := by rfl) (h2 : (backTo pos (starEach es X.env)).any (·.1) = false := by rfl) : SE nm B W X (.Call (.Name x p) (e :: es) [] pos) (mPur φ fa) :=
  PE.imp (pe_callB hc hg hm hv ha hn hd h1 h2) fun _ _ _ => cb_imp
theorem se_callTy (hc : CallR X (.type id) (RP (tx X nm) φ)) (hm : X.mg x = none) (ha : SA nm B W X (e :: es) fa) (hv : bootBuiltins x = some (.type id) := by decide +kernel) (hg : Gl X x := by rfl) (hn : x ≠ "__name__" := by decide) (hd : (x == ("__debug__" : Str)) = false := by decide)
    (h1 : starEach (e :: es) X.env = (false, eval e X.env) :: starEach es X.env := by rfl) (h2 : (backTo pos (starEach es X.env)).any (·.1) = false := by rfl) : SE nm B W X (.Call (.Name x p) (e :: es) [] pos) (mPur φ fa) :=
  PE.imp (pe_callTy hc hg hm hv ha hn hd h1 h2) fun _ _ _ => cb_imp
/-- a built-in type, an own class, as a value -/
theorem se_bty (n : String) (hm : X.mg x = none) (hv : bootBuiltins x = some (.type n) := by decide +kernel) (hg : Gl X x := by rfl) (hn : x ≠ "__name__" := by decide) (hd : (x == ("__debug__" : Str)) = false := by decide) : SE nm B W X (.Name x pos) (mC (.ty n)) :=
  PE.imp (pe_bltn (v := .ty n) hg hm hv rfl hn hd) fun _ _ _ => tC_imp (d := .ty n) (v := .ty n) fun _ _ => rfl
theorem se_gcl (C : String) (hm : X.mg (Str.ofString C) = some (.ref (He.ga X.K (Str.ofString C)))) (hg : Gl X (Str.ofString C) := by rfl) (hd : (Str.ofString C == ("__debug__" : Str)) = false := by decide) : SE nm B W X (.Name (Str.ofString C) pos) (mC (.glo C)) :=
  PE.imp (pe_glob (v := .ref (He.ga X.K (Str.ofString C))) hg hm rfl hd) fun _ _ _ => tC_imp (d := .glo C) (v := .ref _) fun _ _ => rfl
end
/-! ### attributes -/
theorem lookup_at : ∀ {fs : List (Str × V)} {ns : List Str} {n k : Nat} {f : Str}, fs.map Prod.fst = ns.take n → ns.Nodup → ns[k]? = some f → k < n → ∃ v, (fs.map Prod.snd)[k]? = some v ∧ fs.lookup f = some v
  | [], ns, n, k, f, h, nd, hk, hl => by
    have : ns.take n = [] := h.symm
    have h2 := (List.getElem?_eq_some_iff.mp hk).1
    have h3 : (ns.take n).length = 0 := by rw [this]; rfl
    rw [List.length_take] at h3
    omega
  | (g, v) :: fs, [], n, k, f, h, nd, hk, hl => by simp at hk
  | (g, v) :: fs, m :: ns, 0, k, f, h, nd, hk, hl => by omega
  | (g, v) :: fs, m :: ns, n + 1, k, f, h, nd, hk, hl => by
    simp only [List.map_cons, List.take_succ_cons, List.cons.injEq] at h
    obtain ⟨h1, h2⟩ := h
    subst h1
    obtain ⟨nd1, nd2⟩ := List.nodup_cons.mp nd
    cases k with
    | zero =>
      simp at hk
      subst hk
      exact ⟨v, rfl, by simp [List.lookup]⟩
    | succ k =>
      have hk' : ns[k]? = some f := by simpa using hk
      obtain ⟨u, u1, u2⟩ := lookup_at h2 nd2 hk' (by omega)
      have ne : (f == g) = false := by
        simp only [beq_eq_false_iff_ne]
        intro e
        subst e
        exact nd1 (List.mem_of_getElem? hk')
      exact ⟨u, by simpa using u1, by simp only [List.lookup, ne]; exact u2⟩
theorem lookup_no : ∀ {fs : List (Str × V)} {ns : List Str} {n : Nat} {f : Str}, fs.map Prod.fst = ns.take n → f ∉ ns → fs.lookup f = none
  | [], _, _, _, _, _ => rfl
  | (g, v) :: fs, [], n, f, h, hf => by simp at h
  | (g, v) :: fs, m :: ns, 0, f, h, hf => by simp at h
  | (g, v) :: fs, m :: ns, n + 1, f, h, hf => by
    simp only [List.map_cons, List.take_succ_cons, List.cons.injEq] at h
    obtain ⟨h1, h2⟩ := h
    subst h1
    have ne : (f == g) = false := by
      simp only [beq_eq_false_iff_ne]
      intro e
      exact hf (by simp [e])
    simp only [List.lookup, ne]
    exact lookup_no h2 fun z => hf (List.mem_cons_of_mem _ z)
def mFld (C : String) (k : Nat) (f : ME) : ME := fun env mem => (f env mem).bind fun d m => match d with
  | .ins C' xs => if C' = C then (match xs[k]? with | some y => .ok y m | none => .bad) else .bad
  | _ => .bad
/-- .. of a changeable thing -/
def mFldH (C : String) (k : Nat) (f : ME) : ME := fun env mem => (f env mem).bind fun d m => match d with
  | .hnd i => (match m[i]? with
    | some (.ins C' xs) => if C' = C then (match xs[k]? with | some y => .ok y m | none => .bad) else .bad
    | _ => .bad)
  | _ => .bad
/-- .. of the new object itself, in its __init__ -/
def mFldO (C : String) (k i : Nat) : ME := fun env mem => match env[i]? with
  | some (.own (.ins C' xs)) => if C' = C then (match xs[k]? with | some y => .ok y mem | none => .bad) else .bad
  | _ => .bad
section
variable {nm : String → List Str} {B : Bs} {W : WX} {X : Cx} {C : String} {k i : Nat} {fn x : Str} {o e : Expr} {es : List Expr} {f : ME} {fa : MA} {pos p apos : Pos}
theorem is_le {T : Tx} {F : Hp} {ad : List Addr} {xs : List D} {vs : List V} {ns : List Str} {fs : List (Str × V)} (h : fs.map Prod.fst = ns.take xs.length) (i : IsL T F ad xs (fs.map Prod.snd)) {y : D} (e : xs[k]? = some y) (nd : ns.Nodup) (hk : ns[k]? = some fn) :
    ∃ v, fs.lookup fn = some v ∧ Is T F ad y v := by
  obtain ⟨v, h1, h2⟩ := lookup_at h nd hk (List.getElem?_eq_some_iff.mp e).1
  obtain ⟨u, g1, g2⟩ := i.get e
  rw [h1] at g1; cases g1
  exact ⟨v, h2, g2⟩
theorem se_fld (c : Cls X.K (He.ga X.K (Str.ofString C))) (n : NoAttr X.K (He.ga X.K (Str.ofString C)) fn) (ho : SE nm B W X o f) (nd : (nm C).Nodup) (hk : (nm C)[k]? = some fn) (hb : attributeBase o fn X.env (eval o X.env) = eval o X.env := by rfl) : SE nm B W X (.Attribute o fn pos) (mFld C k f) :=
  PE.imp (pe_fld ho hb) fun σ H Q ⟨env, mem, ex, s, h⟩ => by
    refine tE_step s h fun v H1 d m ⟨F, ad, s1⟩ q1 => ?_
    cases d with
    | ins C' xs =>
      dsimp only at q1
      split at q1
      case isFalse => exact q1.elim
      rename_i hC
      subst hC
      cases e : xs[k]? with
      | none => rw [e] at q1; exact q1.elim
      | some y =>
        rw [e] at q1
        obtain ⟨a, dx, fs, ev, h1, h2, h3⟩ := s1.top
        obtain ⟨u, g1, g2⟩ := is_le (vs := []) h2 h3 e nd hk
        exact ⟨a, _, dx, fs, u, ev, s1.sat.sub _ _ h1, c, n, g1, q1 u H1 ⟨F, ad, (s1.sub fun _ z => List.mem_cons_of_mem _ z).push g2⟩⟩
    | _ => exact q1.elim
theorem se_fldH (c : Cls X.K (He.ga X.K (Str.ofString C))) (n : NoAttr X.K (He.ga X.K (Str.ofString C)) fn) (ho : SE nm B W X o f) (nd : (nm C).Nodup) (hk : (nm C)[k]? = some fn) (hb : attributeBase o fn X.env (eval o X.env) = eval o X.env := by rfl) : SE nm B W X (.Attribute o fn pos) (mFldH C k f) :=
  PE.imp (pe_fld ho hb) fun σ H Q ⟨env, mem, ex, s, h⟩ => by
    refine tE_step s h fun v H1 d m ⟨F, ad, s1⟩ q1 => ?_
    cases d with
    | hnd i =>
      dsimp only at q1
      cases em : m[i]? with
      | none => rw [em] at q1; exact q1.elim
      | some mo =>
        rw [em] at q1
        cases mo with
        | ins C' xs =>
          dsimp only at q1
          split at q1
          case isFalse => exact q1.elim
          rename_i hC
          subst hC
          cases e : xs[k]? with
          | none => rw [e] at q1; exact q1.elim
          | some y =>
            rw [e] at q1
            obtain ⟨a, ha, ev⟩ := s1.top
            obtain ⟨_, dx, fs, h1, h2, h3⟩ := s1.sat.obj i a _ ha em (fun z => by cases z)
            obtain ⟨u, g1, g2⟩ := is_le (vs := []) h2 h3 e nd hk
            exact ⟨a, _, dx, fs, u, ev, h1, c, n, g1, q1 u H1 ⟨F, ad, (s1.sub fun _ z => List.mem_cons_of_mem _ z).push g2⟩⟩
        | _ => exact q1.elim
    | _ => exact q1.elim
theorem se_fldO (c : Cls X.K (He.ga X.K (Str.ofString C))) (n : NoAttr X.K (He.ga X.K (Str.ofString C)) fn) (i : Nat) (nd : (nm C).Nodup) (hk : (nm C)[k]? = some fn) (hN : X.N[i]? = some x := by rfl) (hv : Vis X.env.scope x := by first | exact Or.inl rfl | exact Or.inr (Or.inl rfl) | exact Or.inr (Or.inr rfl)) (hd : (x == ("__debug__" : Str)) = false := by decide)
    (hcd : (x == ("__classdict__" : Str)) = false := by decide) (hb : attributeBase (.Name x p) fn X.env (eval (.Name x p) X.env) = eval (.Name x p) X.env := by rfl) : SE nm B W X (.Attribute (.Name x p) fn pos) (mFldO C k i) :=
  PE.imp (pe_fld (pe_var hN hv hd hcd) hb) fun σ H Q ⟨env, mem, ex, ⟨F, ad, s⟩, h⟩ => by
    unfold mFldO at h
    split at h
    case h_2 => exact h.elim
    rename_i C' xs e1
    split at h
    case isFalse => exact h.elim
    rename_i hC
    subst hC
    cases e : xs[k]? with
    | none => rw [e] at h; exact h.elim
    | some y =>
      rw [e] at h
      obtain ⟨a, h1, _, _, _, _, ⟨dx, fs, h2, h3, h4⟩, _⟩ := s.own i _ e1
      obtain ⟨u, g1, g2⟩ := is_le (vs := []) h3 h4 e nd hk
      exact ⟨_, h1, a, _, dx, fs, u, rfl, h2, c, n, g1, h u H ⟨F, ad, s.push g2⟩⟩
end
/-! ### the thing in an own slot is written -/
section
variable {T : Tx} {B : Bs} {F : Hp} {ad : List Addr} {env : List Slot} {mem : List MO} {ex : List (V × D)} {σ : L2.St} {H : Hp}
theorem SatF.put_own {i : Nat} {m m' : MO} {a : Addr} {o : HO} (s : SatF T B F ad env mem ex σ H) (he : env[i]? = some (.own m)) (ha : σ[i]? = some (some (.ref a))) (hm : MIs T F ad (upd H a o) a m') (hg : m' ≠ .gone) (hs : ∀ C xs, m' = .ins C xs → ∃ C' xs', m = .ins C' xs') :
    SatF T B F ad (env.set i (.own m')) mem ex σ (upd H a o) := by
  obtain ⟨a', h1, h2, h3, h4, h5, h6, h7, h8⟩ := s.own i m he
  rw [ha] at h1; cases h1
  have hi := (List.getElem?_eq_some_iff.mp he).1
  refine ⟨⟨fun b u e => ?_, s.sat.len, s.sat.nd, fun b hb => ?_, fun j b n g1 g2 g3 => ?_⟩, s.gro, s.pre, fun b u e => ?_, by simp [s.len], fun j d hj => ?_, fun j n hj => ?_, fun j k n n' b hj hk gj gk => ?_, s.tmp⟩
  · rw [upd_ne (ne_of_none e h2)]; exact s.sat.sub b u e
  · rw [upd_ne (show b ≠ a from fun z => h3 (by rw [← z]; exact hb))]; exact s.sat.there b hb
  · obtain ⟨k1, k2⟩ := s.sat.obj j b n g1 g2 g3
    exact ⟨k1, k2.mono (Same.refl F) (List.prefix_refl _) (upd_ne fun z => h3 (by rw [← z]; exact List.mem_of_getElem? g1))⟩
  · have z : b ≠ a := fun z => by subst z; rw [h5] at e; cases e
    obtain ⟨g1, g2, g3⟩ := s.frm b u e
    exact ⟨by rw [upd_ne z]; exact g1, g2, g3⟩
  · by_cases z : j = i
    · subst z; rw [List.getElem?_set_self hi] at hj; cases hj
    · rw [List.getElem?_set_ne (Ne.symm z)] at hj; exact s.val j d hj
  · by_cases z : j = i
    · subst z
      rw [List.getElem?_set_self hi] at hj; cases hj
      exact ⟨a, ha, h2, h3, by rw [upd_same]; simp, h5, hm, hg, fun C xs e => by
        obtain ⟨C', xs', e'⟩ := hs C xs e
        exact h8 C' xs' e'⟩
    · rw [List.getElem?_set_ne (Ne.symm z)] at hj
      obtain ⟨b, g1, g2, g3, g4, g5, g6, g7⟩ := s.own j n hj
      have zb : b ≠ a := fun q => by
        subst q
        exact z (s.app j i n m b hj he g1 ha)
      exact ⟨b, g1, g2, g3, by rw [upd_ne zb]; exact g4, g5, g6.mono (Same.refl F) (List.prefix_refl _) (upd_ne zb), g7⟩
  · have conv : ∀ {l : Nat} {q : MO}, (env.set i (.own m'))[l]? = some (.own q) → ∃ q', env[l]? = some (.own q') := fun {l q} h => by
      by_cases z : l = i
      · subst z; exact ⟨m, he⟩
      · rw [List.getElem?_set_ne (Ne.symm z)] at h; exact ⟨q, h⟩
    obtain ⟨q1, e1⟩ := conv hj
    obtain ⟨q2, e2⟩ := conv hk
    exact s.app j k q1 q2 b e1 e2 gj gk
end
theorem putF_new : ∀ {fs : List (Str × V)} {f : Str} {v : V}, f ∉ fs.map Prod.fst → putF f v fs = fs ++ [(f, v)]
  | [], _, _, _ => rfl
  | (g, x) :: r, f, v, h => by
    unfold putF
    rw [if_neg (fun e => h (by simp [e])), putF_new fun z => h (List.mem_cons_of_mem _ z)]
    rfl
theorem putF_at : ∀ {fs : List (Str × V)} {k : Nat} {f : Str} {v : V}, (fs.map Prod.fst).Nodup → (fs.map Prod.fst)[k]? = some f → (putF f v fs).map Prod.fst = fs.map Prod.fst ∧ (putF f v fs).map Prod.snd = (fs.map Prod.snd).set k v
  | [], _, _, _, _, h => by simp at h
  | (g, x) :: r, 0, f, v, nd, h => by
    simp at h
    subst h
    unfold putF
    simp
  | (g, x) :: r, k + 1, f, v, nd, h => by
    obtain ⟨nd1, nd2⟩ := List.nodup_cons.mp (show (g :: r.map Prod.fst).Nodup from nd)
    have h' : (r.map Prod.fst)[k]? = some f := by simpa using h
    have ne : g ≠ f := fun e => nd1 (e ▸ List.mem_of_getElem? h')
    obtain ⟨p1, p2⟩ := putF_at (v := v) nd2 h'
    unfold putF
    rw [if_neg ne]
    exact ⟨by rw [List.map_cons, p1]; rfl, by rw [List.map_cons, p2]; rfl⟩
/-- the attributes behind a store at place k -/
def putX (k : Nat) (d : D) (xs : List D) : Option (List D) := if k < xs.length then some (xs.set k d) else if k = xs.length then some (xs ++ [d]) else none
theorem putX_ok {T : Tx} {F : Hp} {ad : List Addr} {ns : List Str} {fs : List (Str × V)} {xs ys : List D} {k : Nat} {d : D} {v : V} {f : Str} (h : fs.map Prod.fst = ns.take xs.length) (i : IsL T F ad xs (fs.map Prod.snd)) (nd : ns.Nodup) (hk : ns[k]? = some f) (e : putX k d xs = some ys) (hd : Is T F ad d v) :
    (putF f v fs).map Prod.fst = ns.take ys.length ∧ IsL T F ad ys ((putF f v fs).map Prod.snd) := by
  have kl := (List.getElem?_eq_some_iff.mp hk).1
  have lf : fs.length = xs.length := by have := i.length; simpa using this
  unfold putX at e
  split at e
  · rename_i c
    cases e
    have hk' : (fs.map Prod.fst)[k]? = some f := by rw [h, List.getElem?_take_of_lt c]; exact hk
    have nd' : (fs.map Prod.fst).Nodup := by rw [h]; exact nd.sublist (List.take_sublist _ _)
    obtain ⟨p1, p2⟩ := putF_at (v := v) nd' hk'
    exact ⟨by rw [p1, h, List.length_set], by rw [p2]; exact i.set hd k⟩
  · split at e
    · rename_i c
      cases e
      subst c
      have hn : f ∉ fs.map Prod.fst := fun z => by
        rw [h] at z
        obtain ⟨n, hn1, hn2⟩ := List.mem_take_iff_getElem.mp z
        have e1 : ns[n]? = some f := by rw [List.getElem?_eq_getElem (by omega), hn2]
        have := nodup_ix nd e1 hk
        omega
      rw [putF_new hn]
      refine ⟨?_, ?_⟩
      · rw [List.map_append, h, List.length_append]
        simp only [List.map_cons, List.map_nil, List.length_cons, List.length_nil]
        rw [List.take_add_one, hk]
        rfl
      · rw [List.map_append]
        exact i.append (IsL.cons hd IsL.nil)
    · cases e
/-- self.f = e in an __init__ -/
def mFldSetO (C : String) (k i : Nat) (f : ME) : MS := fun env mem => (f env mem).flow env fun d m => match env[i]? with
  | some (.own (.ins C' xs)) => if C' = C ∧ xs.length < 999 then (match putX k d xs with | some ys => .next (env.set i (.own (.ins C ys))) m | none => .bad) else .bad
  | _ => .bad
/-- o.f = e, o a changeable thing -/
def mFldSetH (C : String) (k : Nat) (o f : ME) : MS := fun env mem => (f env mem).flow env fun d m => (o env m).flow env fun od m2 => match od with
  | .hnd i => (match m2[i]? with
    | some (.ins C' xs) => if C' = C ∧ xs.length < 999 then (match putX k d xs with | some ys => .next env (m2.set i (.ins C ys)) | none => .bad) else .bad
    | _ => .bad)
  | _ => .bad
section
variable {nm : String → List Str} {B : Bs} {W : WX} {X : Cx} {C : String} {k i : Nat} {fn x : Str} {o e : Expr} {f g : ME} {pos p apos : Pos}
theorem ss_fldO (c : Cls X.K (He.ga X.K (Str.ofString C))) (n : NoAttr X.K (He.ga X.K (Str.ofString C)) fn) (i : Nat) (he : SE nm B W X e f) (nd : (nm C).Nodup) (hk : (nm C)[k]? = some fn) (hN : X.N[i]? = some x := by rfl) (hv : Vis X.env.scope x := by first | exact Or.inl rfl | exact Or.inr (Or.inl rfl) | exact Or.inr (Or.inr rfl)) (hd : (x == ("__debug__" : Str)) = false := by decide)
    (hcd : (x == ("__classdict__" : Str)) = false := by decide) (hs : swapsWith e (some (.Attribute (.Name x p) fn apos)) pos.line X.env = pure false := by rfl) : SS nm B W X (.Assign [.Attribute (.Name x p) fn apos] e pos) (mFldSetO C k i f) :=
  PS.imp (ps_fld (pe_var hN hv hd hcd) he hs) fun Z σ H ⟨env, mem, ex, s, h⟩ => by
    refine ⟨env, mem, ex, s, (ks_of h).mono fun d m q v H1 ⟨F, ad, s1⟩ => ?_⟩
    split at q
    case h_2 => exact q.elim
    rename_i C' xs e1
    split at q
    case isFalse => exact q.elim
    rename_i hC
    obtain ⟨hC, hl⟩ := hC
    subst hC
    cases e2 : putX k d xs with
    | none => rw [e2] at q; exact q.elim
    | some ys =>
      rw [e2] at q
      obtain ⟨a, h1, h2, h3, h4, h5, ⟨dx, fs, g1, g2, g3⟩, h7⟩ := s1.own i _ e1
      obtain ⟨p1, p2⟩ := putX_ok g2 g3 nd hk e2 s1.top
      have lf : fs.length = xs.length := by have := g3.length; simpa using this
      exact ⟨_, h1, a, _, dx, fs, rfl, g1, c, n, by omega, q σ _ ⟨F, ad, ((s1.sub fun _ z => List.mem_cons_of_mem _ z).put_own (m' := .ins C' ys) e1 h1 ⟨dx, _, upd_same, p1, p2⟩ (fun z => by cases z) fun _ _ _ => ⟨_, _, rfl⟩)⟩⟩
theorem ss_fldH (c : Cls X.K (He.ga X.K (Str.ofString C))) (n : NoAttr X.K (He.ga X.K (Str.ofString C)) fn) (ho : SE nm B W X o g) (he : SE nm B W X e f) (nd : (nm C).Nodup) (hk : (nm C)[k]? = some fn) (hs : swapsWith e (some (.Attribute o fn apos)) pos.line X.env = pure false := by rfl) :
    SS nm B W X (.Assign [.Attribute o fn apos] e pos) (mFldSetH C k g f) :=
  PS.imp (ps_fld ho he hs) fun Z σ H ⟨env, mem, ex, s, h⟩ => by
    refine ⟨env, mem, ex, s, (ks_of h).mono fun d m q v H1 s1 => ?_⟩
    refine ⟨env, m, (v, d) :: ex, s1, ((ks_of q).push1).mono fun od m2 q u H2 ⟨F, ad, s2⟩ => ?_⟩
    cases od with
    | hnd j =>
      dsimp only at q
      cases em : m2[j]? with
      | none => rw [em] at q; exact q.elim
      | some mo =>
        rw [em] at q
        cases mo with
        | ins C' xs =>
          dsimp only at q
          split at q
          case isFalse => exact q.elim
          rename_i hC
          obtain ⟨hC, hl⟩ := hC
          subst hC
          cases e2 : putX k d xs with
          | none => rw [e2] at q; exact q.elim
          | some ys =>
            rw [e2] at q
            obtain ⟨a, ha, ev⟩ := s2.top
            obtain ⟨_, dx, fs, g1, g2, g3⟩ := s2.sat.obj j a _ ha em (fun z => by cases z)
            obtain ⟨p1, p2⟩ := putX_ok g2 g3 nd hk e2 (s2.tmp (v, d) (by simp))
            have lf : fs.length = xs.length := by have := g3.length; simpa using this
            have xx := s2.sat.put (o := .ins _ dx (putF fn v fs)) ha em (fun z => by cases z) (.ins C' ys) ⟨dx, _, upd_same, p1, p2⟩
            exact ⟨a, _, dx, fs, ev, g1, c, n, by omega, q σ _ ⟨_, _, (s2.ext xx).sub fun z hz => List.mem_cons_of_mem _ (List.mem_cons_of_mem _ hz)⟩⟩
        | _ => exact q.elim
    | _ => exact q.elim
end
/-! ### methods -/
/-- o.m(..), o a changeable thing of the class C -/
def mMethH (C : String) (φ : Fun) (f : ME) (g : MA) : ME := fun env mem => (f env mem).bind fun d m => match d with
  | .hnd i => (match m[i]? with
    | some (.ins C' _) => if C' = C then (g env m).bind fun ds m2 => φ (d :: ds) m2 else .bad
    | _ => .bad)
  | _ => .bad
section
variable {nm : String → List Str} {B : Bs} {W : WX} {X : Cx} {CX : CXT} {k : Nat} {C : String} {m : Str} {φ : Fun} {o e : Expr} {es : List Expr} {f : ME} {fa : MA} {pos p apos : Pos} {pl : Sem Bool}
/-- the receiver stands, its class has the method -/
theorem meth_of {T : Tx} {F : Hp} {ad : List Addr} {mem : List MO} {env : List Slot} {ex : List (V × D)} {σ : L2.St} {H : Hp} {v : V} {xs : List D} (s : SatF T B F ad env mem ((v, .ins C xs) :: ex) σ H) (hm : m ∉ T.nm C) :
    ∃ a dx fs, v = .ref a ∧ H a = some (.ins (T.at_ C) dx fs) ∧ fs.lookup m = none := by
  obtain ⟨a, dx, fs, ev, h1, h2, h3⟩ := s.top
  exact ⟨a, dx, fs, ev, s.sat.sub _ _ h1, lookup_no h2 hm⟩
theorem se_meth (M : Dm X.prog X.w X.K X.mg X.base CX nm k (Str.ofString C) m φ) (hr : Room k X.A) (hx : Thr CX X W) (ho : SE nm B W X o f) (ha : SA nm B W X (e :: es) fa) (hm : m ∉ nm C)
    (h1 : starEach (e :: es) X.env = (false, eval e X.env) :: starEach es X.env := by rfl) (h2 : (backTo pos (starEach es X.env)).any (·.1) = false := by rfl)
    (ht : eval (.Call (.Attribute o m apos) (e :: es) [] pos) X.env = (do
      let ov ← eval o X.env
      standAt apos.atName
      let r ← holding [ov] (getMethod ov m pl)
      callWith pos r.1 r.2 (backTo pos (starEach (e :: es) X.env)) (backToKw pos (keywordEach [] X.env))) := by rfl) :
    SE nm B W X (.Call (.Attribute o m apos) (e :: es) [] pos) (mMeth C φ f fa) :=
  ⟨fun pins s σ H Q I ⟨env, mem, ex, st, h⟩ => PySem.W.methodCall_KW (pl := pl) (thn (ho.run pins s σ H (fun v H1 => ∃ m1 d, SatX (tx X nm) B env m1 ((v, d) :: ex) σ H1 ∧ Wnt (tx X nm) B W env ex σ (KE (tx X nm) B env ex σ Q) (match d with
      | .ins C' xs => if C' = C then (fa env m1).bind fun ds m2 => φ (d :: ds) m2 else .bad
      | _ => .bad)) I (tE_step st h fun v H1 d m1 s1 q => ⟨m1, d, s1, q⟩)) fun u s1 ⟨v, H1, I1, rv, m1, d, s2, q⟩ => by
    cases d with
    | ins C' xs =>
      dsimp only at q
      split at q
      case isFalse => exact q.elim
      rename_i hC
      subst hC
      obtain ⟨F, ad, s3⟩ := id s2
      obtain ⟨a, dx, fs, rfl, g1, g2⟩ := meth_of s3 hm
      obtain rfl : u = Value.ref a := rv
      refine getmeth_ok I1 g1 M.cl M.me g2 ?_
      refine PySem.W.callWith_K (first := [.ref a]) (h₀ := X.base) I.ok.mod.kin M.me.kp (thn (ha.run pos pins s1 σ H1 (fun vs H2 => RX ⟨X.K, nm⟩ φ (.ref a :: vs) H2 Q fun c d H => W c d σ H) I1
        (tA_step s2 q.push1 fun vs H2 ds m2 l s4 q4 => ?_)) fun us s4 ⟨vs, H2, I2, r, q2⟩ => ⟨I2.kIn, ?_⟩) h1 h2
      · have q5 : Wnt (tx X nm) B W env ((V.ref a, D.ins C' xs) :: ex) σ (KE (tx X nm) B env ex σ Q) (φ (.ins C' xs :: ds) m2) := q4
        have q6 : Wnt (tx X nm) B W env (((V.ref a, D.ins C' xs) :: ex)) σ (KE (tx X nm) B env ((V.ref a, D.ins C' xs) :: ex) σ Q) (φ (.ins C' xs :: ds) m2) := q5.mono fun d m z v H s => z v H (s.sub fun y hy => by
          rcases List.mem_cons.mp hy with e | e
          · rw [e]; exact List.mem_cons_self
          · exact List.mem_cons_of_mem _ (List.mem_cons_of_mem _ e))
        exact rx_of (p := vs.zip ds) (ds := .ins C' xs :: ds) s4 (fun _ _ s5 => IsL.cons (s5.tmp (V.ref a, .ins C' xs) (List.mem_append_right _ List.mem_cons_self)) (il_of l s5)) q6
      · exact fp_run (us := .ref a :: us) (vs := .ref a :: vs) M.fn hr hx I2 (.cons rfl r) q2
    | _ => exact q.elim) ht⟩
theorem KE_in {T : Tx} {env : List Slot} {ex : List (V × D)} {σ : L2.St} {Q : VK} {p : V × D} {r : Res D} (h : Wnt T B W env ex σ (KE T B env ex σ Q) r) : Wnt T B W env (p :: ex) σ (KE T B env (p :: ex) σ Q) r :=
  h.push1.mono fun d m z v H s => z v H (s.sub fun y hy => by
    rcases List.mem_cons.mp hy with e | e
    · rw [e]; exact List.mem_cons_self
    · exact List.mem_cons_of_mem _ (List.mem_cons_of_mem _ e))
/-- what a receiver must give -/
def RecvI (T : Tx) (C : String) : D → List MO → Prop
  | .ins C' _, _ => C' = C
  | .hnd i, m => ∃ xs, m[i]? = some (.ins C xs)
  | _, _ => False
theorem recv_of {T : Tx} {F : Hp} {ad : List Addr} {mem : List MO} {env : List Slot} {ex : List (V × D)} {σ : L2.St} {H : Hp} {v : V} {d : D} (s : SatF T B F ad env mem ((v, d) :: ex) σ H) (r : RecvI T C d mem) :
    ∃ a dx fs n, v = .ref a ∧ H a = some (.ins (T.at_ C) dx fs) ∧ fs.map Prod.fst = (T.nm C).take n := by
  cases d with
  | ins C' xs =>
    have e : C' = C := r
    subst e
    obtain ⟨a, dx, fs, ev, h1, h2, h3⟩ := s.top
    exact ⟨a, dx, fs, _, ev, s.sat.sub _ _ h1, h2⟩
  | hnd i =>
    obtain ⟨xs, em⟩ := r
    obtain ⟨a, ha, ev⟩ := s.top
    obtain ⟨_, dx, fs, h1, h2, h3⟩ := s.sat.obj i a _ ha em (fun z => by cases z)
    exact ⟨a, dx, fs, _, ev, h1, h2⟩
  | _ => exact r.elim
/-- o.m() -/
def mMeth0 (C : String) (φ : Fun) (f : ME) : ME := fun env mem => (f env mem).bind fun d m => match d with
  | .ins C' xs => if C' = C then φ [d] m else .bad
  | _ => .bad
def mMethH0 (C : String) (φ : Fun) (f : ME) : ME := fun env mem => (f env mem).bind fun d m => match d with
  | .hnd i => (match m[i]? with
    | some (.ins C' _) => if C' = C then φ [d] m else .bad
    | _ => .bad)
  | _ => .bad
theorem meth0_core (M : Dm X.prog X.w X.K X.mg X.base CX nm k (Str.ofString C) m φ) (hr : Room k X.A) (hx : Thr CX X W) (ho : SE nm B W X o f) (hm : m ∉ nm C)
    (ht : eval (.Call (.Attribute o m apos) [] [] pos) X.env = (do
      let ov ← eval o X.env
      standAt apos.atName
      let r ← holding [ov] (getMethod ov m pl)
      callWith pos r.1 r.2 (backTo pos (starEach [] X.env)) (backToKw pos (keywordEach [] X.env)))) {g : ME}
    (hg : ∀ env mem ex σ Q, Wnt (tx X nm) B W env ex σ (KE (tx X nm) B env ex σ Q) (g env mem) → Wnt (tx X nm) B W env ex σ (fun d m1 => RecvI (tx X nm) C d m1 ∧ Wnt (tx X nm) B W env ex σ (KE (tx X nm) B env ex σ Q) (φ [d] m1)) (f env mem)) :
    SE nm B W X (.Call (.Attribute o m apos) [] [] pos) g :=
  ⟨fun pins s σ H Q I ⟨env, mem, ex, st, h⟩ => PySem.W.methodCall_KW (pl := pl) (thn (ho.run pins s σ H (fun v H1 => ∃ m1 d, SatX (tx X nm) B env m1 ((v, d) :: ex) σ H1 ∧ RecvI (tx X nm) C d m1 ∧ Wnt (tx X nm) B W env ex σ (KE (tx X nm) B env ex σ Q) (φ [d] m1)) I
      ⟨env, mem, ex, st, (hg env mem ex σ Q h).mono fun d m1 q v H1 s1 => ⟨m1, d, s1, q.1, q.2⟩⟩) fun u s1 ⟨v, H1, I1, rv, m1, d, s2, rc, q⟩ => by
    obtain ⟨F, ad, s3⟩ := id s2
    obtain ⟨a, dx, fs, n, rfl, g1, g2⟩ := recv_of s3 rc
    obtain rfl : u = Value.ref a := rv
    refine getmeth_ok I1 g1 M.cl M.me (lookup_no g2 hm) ?_
    exact PySem.W.callWith_K0 (first := [.ref a]) I1.kIn M.me.kp (fp_run (us := [.ref a]) (vs := [.ref a]) M.fn hr hx I1 (.cons rfl .nil)
      (rx_of (p := [(V.ref a, d)]) (ex := ex) s2 (fun _ _ s5 => IsL.cons s5.top IsL.nil) q))) ht⟩
theorem se_meth0 (M : Dm X.prog X.w X.K X.mg X.base CX nm k (Str.ofString C) m φ) (hr : Room k X.A) (hx : Thr CX X W) (ho : SE nm B W X o f) (hm : m ∉ nm C)
    (ht : eval (.Call (.Attribute o m apos) [] [] pos) X.env = (do
      let ov ← eval o X.env
      standAt apos.atName
      let r ← holding [ov] (getMethod ov m pl)
      callWith pos r.1 r.2 (backTo pos (starEach [] X.env)) (backToKw pos (keywordEach [] X.env))) := by rfl) : SE nm B W X (.Call (.Attribute o m apos) [] [] pos) (mMeth0 C φ f) :=
  meth0_core M hr hx ho hm ht fun env mem ex σ Q h => h.bind.mono fun d m1 q => by
    cases d with
    | ins C' xs =>
      dsimp only at q
      split at q
      · rename_i hC; exact ⟨hC, q⟩
      · exact q.elim
    | _ => exact q.elim
theorem se_methH0 (M : Dm X.prog X.w X.K X.mg X.base CX nm k (Str.ofString C) m φ) (hr : Room k X.A) (hx : Thr CX X W) (ho : SE nm B W X o f) (hm : m ∉ nm C)
    (ht : eval (.Call (.Attribute o m apos) [] [] pos) X.env = (do
      let ov ← eval o X.env
      standAt apos.atName
      let r ← holding [ov] (getMethod ov m pl)
      callWith pos r.1 r.2 (backTo pos (starEach [] X.env)) (backToKw pos (keywordEach [] X.env))) := by rfl) : SE nm B W X (.Call (.Attribute o m apos) [] [] pos) (mMethH0 C φ f) :=
  meth0_core M hr hx ho hm ht fun env mem ex σ Q h => h.bind.mono fun d m1 q => by
    cases d with
    | hnd i =>
      dsimp only at q
      cases em : m1[i]? with
      | none => rw [em] at q; exact q.elim
      | some mo =>
        rw [em] at q
        cases mo with
        | ins C' xs =>
          dsimp only at q
          split at q
          · rename_i hC; subst hC; exact ⟨⟨xs, em⟩, q⟩
          · exact q.elim
        | _ => exact q.elim
    | _ => exact q.elim
end
/-! ### properties -/
def propG (K : PySem.W.Frag) (C : Addr) (f : Str) : Addr := match PySem.W.recIn K (He.ma K C f) "property" with
  | some (.ref g :: _) => g
  | _ => 0
def propB (C : String) (f : Str) : Fct := fun K => let c := He.ga K (Str.ofString C)
  decide (PySem.W.findIn K (.ref c) f = some (some (.ref (He.ma K c f)))) && (decide (PySem.W.specialIn K (.ref (He.ma K c f)) "__get__" = some (some (.builtin "property.__get__"))) && (decide (PySem.W.takesIn K (.ref (He.ma K c f)) = some true) && (match PySem.W.recIn K (He.ma K c f) "property" with
    | some (.ref _ :: _) => true
    | _ => false)))
theorem propB_ok {C : String} {f : Str} {K : PySem.W.Frag} (h : propB C f K = true) : PropOf K (He.ga K (Str.ofString C)) f (He.ma K (He.ga K (Str.ofString C)) f) (propG K (He.ga K (Str.ofString C)) f) := by
  unfold propB at h
  simp only [Bool.and_eq_true, decide_eq_true_eq] at h
  obtain ⟨h1, h2, h3, h4⟩ := h
  refine ⟨h1, h2, h3, ?_⟩
  unfold propG
  split at h4
  · rename_i g r e; exact ⟨r, by rw [e]⟩
  · cases h4
section
variable (P : Program) (w : World) (K : PySem.W.Frag) (mg : Str → Option Value) (base : Heap) (CX : CXT) (nm : String → List Str)
structure Dp (k : Nat) (C : String) (f : Str) (φ : Fun) : Prop where
  cl : Cls K (He.ga K (Str.ofString C))
  pr : PropOf K (He.ga K (Str.ofString C)) f (He.ma K (He.ga K (Str.ofString C)) f) (propG K (He.ga K (Str.ofString C)) f)
  fn : ∃ fd ps, ps.length = 1 ∧ FnOk P w K mg base CX k (propG K (He.ga K (Str.ofString C)) f) fd ps (fun vs H Q E => vs.length = ps.length ∧ RX ⟨K, nm⟩ φ vs H Q E) ∧ Binds K fd ps []
end
/-- nothing of a callee is let out -/
abbrev Thr0 (CX : CXT) (X : Cx) : Prop := Passes CX X.nox fun _ _ _ => False
def mProp (C : String) (φ : Fun) (f : ME) : ME := fun env mem => (f env mem).bind fun d m => match d with
  | .ins C' _ => if C' = C then (φ [d] m).bnd fun r m2 => .ok r m2 else .bad
  | _ => .bad
def mPropH (C : String) (φ : Fun) (f : ME) : ME := fun env mem => (f env mem).bind fun d m => match d with
  | .hnd i => (match m[i]? with
    | some (.ins C' _) => if C' = C then (φ [d] m).bnd fun r m2 => .ok r m2 else .bad
    | _ => .bad)
  | _ => .bad
section
variable {nm : String → List Str} {B : Bs} {W : WX} {X : Cx} {CX : CXT} {k : Nat} {C : String} {fn : Str} {φ : Fun} {o : Expr} {f : ME} {pos : Pos}
theorem rx_n {T : Tx} {σ : L2.St} {H : Hp} {Q : VK} {env : List Slot} {mem : List MO} {ex p : List (V × D)} {ds : List D} {vs : List V} (s : SatX T B env mem (p ++ ex) σ H) (hi : ∀ F ad, SatF T B F ad env mem (p ++ ex) σ H → IsL T F ad ds vs)
    (h : Wnt T B W env ex σ (KE T B env ex σ Q) ((φ ds mem).bnd fun r m2 => .ok r m2)) : RX T φ vs H Q fun _ _ _ => False := by
  obtain ⟨F, ad, s⟩ := s
  refine ⟨F, ad, mem, ds, s.sat, hi F ad s, ?_⟩
  cases e : φ ds mem with
  | bad => rw [e] at h; exact h
  | ok d m => rw [e] at h; exact fun v F' ad' H' x q => h v H' (s.done x q)
  | exc C xs m => rw [e] at h; exact h.elim
theorem prop_core (M : Dp X.prog X.w X.K X.mg X.base CX nm k C fn φ) (hr : Room (k + 1) X.A) (hx : Thr0 CX X) (ho : SE nm B W X o f) (hb : attributeBase o fn X.env (eval o X.env) = eval o X.env) {g : ME}
    (hg : ∀ env mem ex σ Q, Wnt (tx X nm) B W env ex σ (KE (tx X nm) B env ex σ Q) (g env mem) → Wnt (tx X nm) B W env ex σ (fun d m1 => RecvI (tx X nm) C d m1 ∧ Wnt (tx X nm) B W env ex σ (KE (tx X nm) B env ex σ Q) ((φ [d] m1).bnd fun r m2 => .ok r m2)) (f env mem)) :
    SE nm B W X (.Attribute o fn pos) g := by
  obtain ⟨fd, ps, hl, F, hbd⟩ := M.fn
  exact PE.imp (pe_prop ho M.cl M.pr F hr hbd .nil hx hb) fun σ H Q ⟨env, mem, ex, s, h⟩ =>
    ⟨env, mem, ex, s, (hg env mem ex σ Q h).mono fun d m1 ⟨rc, q⟩ v H1 s1 => by
      obtain ⟨F, ad, s3⟩ := id s1
      obtain ⟨a, dx, fs, n, rfl, g1, g2⟩ := recv_of s3 rc
      have z := rx_n (W := W) (p := [(V.ref a, d)]) (ex := ex) (ds := [d]) (vs := [V.ref a]) s1 (fun _ _ s5 => IsL.cons s5.top IsL.nil) q
      exact ⟨a, dx, fs, rfl, g1, by rw [hl]; rfl, z⟩⟩
theorem se_prop (M : Dp X.prog X.w X.K X.mg X.base CX nm k C fn φ) (hr : Room (k + 1) X.A) (hx : Thr0 CX X) (ho : SE nm B W X o f) (hb : attributeBase o fn X.env (eval o X.env) = eval o X.env := by rfl) : SE nm B W X (.Attribute o fn pos) (mProp C φ f) :=
  prop_core M hr hx ho hb fun env mem ex σ Q h => h.bind.mono fun d m1 q => by
    cases d with
    | ins C' xs =>
      dsimp only at q
      split at q
      · rename_i hC; exact ⟨hC, q⟩
      · exact q.elim
    | _ => exact q.elim
theorem se_propH (M : Dp X.prog X.w X.K X.mg X.base CX nm k C fn φ) (hr : Room (k + 1) X.A) (hx : Thr0 CX X) (ho : SE nm B W X o f) (hb : attributeBase o fn X.env (eval o X.env) = eval o X.env := by rfl) : SE nm B W X (.Attribute o fn pos) (mPropH C φ f) :=
  prop_core M hr hx ho hb fun env mem ex σ Q h => h.bind.mono fun d m1 q => by
    cases d with
    | hnd i =>
      dsimp only at q
      cases em : m1[i]? with
      | none => rw [em] at q; exact q.elim
      | some mo =>
        rw [em] at q
        cases mo with
        | ins C' xs =>
          dsimp only at q
          split at q
          · rename_i hC; subst hC; exact ⟨⟨xs, em⟩, q⟩
          · exact q.elim
        | _ => exact q.elim
    | _ => exact q.elim
end
/-! ### class methods -/
def cmB (C : String) (m : Str) : Fct := fun K => let c := He.ga K (Str.ofString C)
  PySem.W.readsIn K c (.type "type") && (decide (PySem.W.specialIn K (.ref c) "__getattribute__" = some (some (.builtin "type.__getattribute__"))) && (He5.wrapB K c "classmethod" "classmethod.__get__" m && PySem.W.fnIn K (He5.wf K c "classmethod" m)))
section
variable (P : Program) (w : World) (K : PySem.W.Frag) (mg : Str → Option Value) (base : Heap) (CX : CXT) (nm : String → List Str)
/-- a classmethod: φ's first argument is the class -/
structure Dc (k : Nat) (C : String) (m : Str) (φ : Fun) : Prop where
  rd : ClX.CRead K (He.ga K (Str.ofString C)) (.type "type")
  cm : ClX.CMet K (He.ga K (Str.ofString C)) (.type "type") m (He.ma K (He.ga K (Str.ofString C)) m) (He5.wf K (He.ga K (Str.ofString C)) "classmethod" m)
  fn : Fp P w K mg base CX nm k (He5.wf K (He.ga K (Str.ofString C)) "classmethod" m) φ
end
theorem cmB_ok {C : String} {m : Str} {K : PySem.W.Frag} (h : cmB C m K = true) : ClX.CRead K (He.ga K (Str.ofString C)) (.type "type") ∧ ClX.CMet K (He.ga K (Str.ofString C)) (.type "type") m (He.ma K (He.ga K (Str.ofString C)) m) (He5.wf K (He.ga K (Str.ofString C)) "classmethod" m) := by
  unfold cmB at h
  simp only [Bool.and_eq_true, decide_eq_true_eq] at h
  obtain ⟨h1, h2, h3, h4⟩ := h
  exact ⟨⟨h1, h2⟩, He5.cmet_of h3 h4⟩
def mCm (C : String) (φ : Fun) (f : ME) (g : MA) : ME := fun env mem => (f env mem).bind fun d m => match d with
  | .glo C' => if C' = C then (g env m).bind fun ds m2 => φ (d :: ds) m2 else .bad
  | _ => .bad
section
variable {nm : String → List Str} {B : Bs} {W : WX} {X : Cx} {CX : CXT} {k : Nat} {C : String} {m : Str} {φ : Fun} {o e : Expr} {es : List Expr} {f : ME} {fa : MA} {pos p apos : Pos} {pl : Sem Bool}
theorem se_cm (M : Dc X.prog X.w X.K X.mg X.base CX nm k C m φ) (hr : Room k X.A) (hx : Thr CX X W) (ho : SE nm B W X o f) (ha : SA nm B W X (e :: es) fa)
    (h1 : starEach (e :: es) X.env = (false, eval e X.env) :: starEach es X.env := by rfl) (h2 : (backTo pos (starEach es X.env)).any (·.1) = false := by rfl)
    (ht : eval (.Call (.Attribute o m apos) (e :: es) [] pos) X.env = (do
      let ov ← eval o X.env
      standAt apos.atName
      let r ← holding [ov] (getMethod ov m pl)
      callWith pos r.1 r.2 (backTo pos (starEach (e :: es) X.env)) (backToKw pos (keywordEach [] X.env))) := by rfl) :
    SE nm B W X (.Call (.Attribute o m apos) (e :: es) [] pos) (mCm C φ f fa) :=
  ⟨fun pins s σ H Q I ⟨env, mem, ex, st, h⟩ => PySem.W.methodCall_KW (pl := pl) (thn (ho.run pins s σ H (fun v H1 => ∃ m1 d, SatX (tx X nm) B env m1 ((v, d) :: ex) σ H1 ∧ Wnt (tx X nm) B W env ex σ (KE (tx X nm) B env ex σ Q) (match d with
      | .glo C' => if C' = C then (fa env m1).bind fun ds m2 => φ (d :: ds) m2 else .bad
      | _ => .bad)) I (tE_step st h fun v H1 d m1 s1 q => ⟨m1, d, s1, q⟩)) fun u s1 ⟨v, H1, I1, rv, m1, d, s2, q⟩ => by
    cases d with
    | glo C' =>
      dsimp only at q
      split at q
      case isFalse => exact q.elim
      rename_i hC
      subst hC
      have ev : v = .ref (He.ga X.K (Str.ofString C')) := by obtain ⟨F, ad, s3⟩ := s2; exact s3.top
      subst ev
      obtain rfl : u = Value.ref (He.ga X.K (Str.ofString C')) := rv
      refine ClX.getmethcm_ok I1 M.rd M.cm fun s2' I2 => ?_
      refine ClX.callwith_cm I2 (ClX.base_none I1 (Nat.le_refl _)) M.cm.fi (thn (ha.run pos _ s2' σ H1 (fun vs H2 => RX ⟨X.K, nm⟩ φ (.ref (He.ga X.K (Str.ofString C')) :: vs) H2 Q fun c d H => W c d σ H) I2
        (tA_step s2 (Wnt.push1 q) fun vs H2 ds m2 l s4 q4 => ?_)) fun us s3 ⟨vs, H2, I3, r, q2⟩ => ⟨⟨ClX.pin_at I3, I3.kIn⟩, ?_⟩) h1 h2
      · have q5 : Wnt (tx X nm) B W env ((_, D.glo C') :: ex) σ (KE (tx X nm) B env ex σ Q) (φ (.glo C' :: ds) m2) := q4
        exact rx_of (p := vs.zip ds) (ds := .glo C' :: ds) s4 (fun _ _ s5 => IsL.cons (s5.tmp (_, .glo C') (List.mem_append_right _ List.mem_cons_self)) (il_of l s5)) (q5.mono fun d m z v H s => z v H (s.sub fun y hy => by
          rcases List.mem_cons.mp hy with e | e
          · rw [e]; exact List.mem_cons_self
          · exact List.mem_cons_of_mem _ (List.mem_cons_of_mem _ e)))
      · exact ClX.run_cm M.fn hr (hx σ) I3 r q2
    | _ => exact q.elim) ht⟩
/-- o(..), o of the class C -/
structure Do (P : Program) (w : World) (K : PySem.W.Frag) (mg : Str → Option Value) (base : Heap) (CX : CXT) (nm : String → List Str) (k : Nat) (C : String) (φ : Fun) : Prop where
  co : StX.CallO K (He.ga K (Str.ofString C)) (He.ma K (He.ga K (Str.ofString C)) "__call__")
  fn : Fp P w K mg base CX nm k (He.ma K (He.ga K (Str.ofString C)) "__call__") φ
def coB (C : String) : Fct := fun K => let c := He.ga K (Str.ofString C)
  decide (PySem.W.findIn K (.ref c) "__call__" = some (some (.ref (He.ma K c "__call__")))) && (PySem.W.isFn K (.ref (He.ma K c "__call__")) && PySem.W.fnIn K (He.ma K c "__call__"))
theorem coB_ok {C : String} {K : PySem.W.Frag} (h : coB C K = true) : StX.CallO K (He.ga K (Str.ofString C)) (He.ma K (He.ga K (Str.ofString C)) "__call__") := by
  unfold coB at h
  simp only [Bool.and_eq_true, decide_eq_true_eq] at h
  exact ⟨h.1, h.2.1, h.2.2⟩
theorem se_callO (M : Do X.prog X.w X.K X.mg X.base CX nm k C φ) (hr : Room k X.A) (hx : Thr CX X W) (ho : SE nm B W X o f) (ha : SA nm B W X (e :: es) fa)
    (ht : eval (.Call o (e :: es) [] pos) X.env = (do callWith pos (← eval o X.env) [] (backTo pos (starEach (e :: es) X.env)) (backToKw pos (keywordEach [] X.env))) := by rfl)
    (h1 : starEach (e :: es) X.env = (false, eval e X.env) :: starEach es X.env := by rfl) (h2 : (backTo pos (starEach es X.env)).any (·.1) = false := by rfl) : SE nm B W X (.Call o (e :: es) [] pos) (mMeth C φ f fa) :=
  ⟨fun pins s σ H Q I ⟨env, mem, ex, st, h⟩ => Call_ (thn (ho.run pins s σ H (fun v H1 => ∃ m1 d, SatX (tx X nm) B env m1 ((v, d) :: ex) σ H1 ∧ Wnt (tx X nm) B W env ex σ (KE (tx X nm) B env ex σ Q) (match d with
      | .ins C' xs => if C' = C then (fa env m1).bind fun ds m2 => φ (d :: ds) m2 else .bad
      | _ => .bad)) I (tE_step st h fun v H1 d m1 s1 q => ⟨m1, d, s1, q⟩)) fun u s1 ⟨v, H1, I1, rv, m1, d, s2, q⟩ => by
    cases d with
    | ins C' xs =>
      dsimp only at q
      split at q
      case isFalse => exact q.elim
      rename_i hC
      subst hC
      obtain ⟨F, ad, s3⟩ := id s2
      obtain ⟨a, dx, fs, n, rfl, g1, g2⟩ := recv_of s3 (show RecvI (tx X nm) C' (.ins C' xs) m1 from rfl)
      obtain rfl : u = Value.ref a := rv
      refine StX.callO_with (thn (ha.run pos pins s1 σ H1 (fun vs H2 => (∃ dx fs, H2 a = some (.ins (He.ga X.K (Str.ofString C')) dx fs)) ∧ RX ⟨X.K, nm⟩ φ (.ref a :: vs) H2 Q fun c d H => W c d σ H) I1
        (tA_step s2 (Wnt.push1 q) fun vs H2 ds m2 l s4 q4 => ⟨?_, ?_⟩)) fun us s4 ⟨vs, H2, I2, r, ⟨dx2, fs2, hi⟩, q2⟩ => ?_) h1 h2
      · obtain ⟨F4, ad4, s5⟩ := s4
        obtain ⟨a', dx', fs', e', k1, _, _⟩ := s5.tmp (V.ref a, .ins C' xs) (List.mem_append_right _ List.mem_cons_self)
        cases e'
        exact ⟨dx', fs', s5.sat.sub _ _ k1⟩
      · have q5 : Wnt (tx X nm) B W env ((_, D.ins C' xs) :: ex) σ (KE (tx X nm) B env ex σ Q) (φ (.ins C' xs :: ds) m2) := q4
        exact rx_of (p := vs.zip ds) (ds := .ins C' xs :: ds) s4 (fun _ _ s5 => IsL.cons (s5.tmp (_, .ins C' xs) (List.mem_append_right _ List.mem_cons_self)) (il_of l s5)) (q5.mono fun d m z v H s => z v H (s.sub fun y hy => by
          rcases List.mem_cons.mp hy with e | e
          · rw [e]; exact List.mem_cons_self
          · exact List.mem_cons_of_mem _ (List.mem_cons_of_mem _ e)))
      · have ic : StX.InsC X H2 a (He.ga X.K (Str.ofString C')) := .inr ⟨dx2, fs2, hi⟩
        obtain ⟨ox, od, J, hd⟩ := StX.insC_at I2 ic
        exact ⟨⟨_, ox, od, J, hd⟩, StX.run_callO M.co M.fn hr (hx σ) I2 ic r q2⟩
    | _ => exact q.elim) ht⟩
end
/-! ### __init__ and making -/
abbrev IFun := List D → List MO → Res (List D)
/-- a step that also writes the object at a -/
structure ExtA (T : Tx) (F : Hp) (ad : List Addr) (H : Hp) (a : Addr) (F' : Hp) (ad' : List Addr) (mem' : List MO) (H' : Hp) : Prop where
  sat : Sat T F' ad' mem' H'
  gro : Same F F'
  pre : ad <+: ad'
  out : F' a = none ∧ a ∉ ad'
  frm : ∀ b o, b ≠ a → H b = some o → F b = none → b ∉ ad → H' b = some o ∧ F' b = none ∧ b ∉ ad'
/-- the wish of an __init__ of the class C -/
def RI (T : Tx) (C : String) (ι : IFun) (vs : List V) (H : Hp) (Q : VK) (E : XK) : Prop :=
  ∃ a dx ws F ad mem ds, vs = .ref a :: ws ∧ H a = some (.ins (T.at_ C) dx []) ∧ F a = none ∧ a ∉ ad ∧ Sat T F ad mem H ∧ IsL T F ad ds ws ∧
    match ι ds mem with
    | .bad => False
    | .ok xs mem' => ∀ fs dx' F' ad' H', ExtA T F ad H a F' ad' mem' H' → H' a = some (.ins (T.at_ C) dx' fs) → fs.map Prod.fst = (T.nm C).take xs.length → IsL T F' ad' xs (fs.map Prod.snd) → Q .non H'
    | .exc X xs mem' => ∀ dc F' ad' H', ExtA T F ad H a F' ad' mem' H' → XIs T F' ad' H' X dc xs → E (.ref (T.at_ X)) dc H'
def LeI (ι κ : IFun) : Prop := ∀ ds mem, ι ds mem ≠ .bad → κ ds mem = ι ds mem
theorem RI.le {T : Tx} {C : String} {ι κ : IFun} (h : LeI ι κ) {vs : List V} {H : Hp} {Q : VK} {E : XK} (x : RI T C ι vs H Q E) : RI T C κ vs H Q E := by
  obtain ⟨a, dx, ws, F, ad, mem, ds, e, h1, h2, h3, s, i, m⟩ := x
  refine ⟨a, dx, ws, F, ad, mem, ds, e, h1, h2, h3, s, i, ?_⟩
  rw [h ds mem (fun e => by rw [e] at m; exact m)]
  exact m
def envI (m : Nat) (C : String) (ds : List D) : List Slot := .own (.ins C []) :: (ds.map .val ++ List.replicate (m - (ds.length + 1)) .none)
def finI (C : String) : Flow → Res (List D)
  | .next e m => match e[0]? with
    | some (Slot.own (MO.ins C' xs)) => if C' = C then .ok xs m else .bad
    | _ => .bad
  | .exc X xs e m => match e[0]? with
    | some (Slot.own (MO.ins _ _)) => .exc X xs m
    | _ => .bad
  | _ => .bad
/-- n parameters (self the first), m names -/
def phiI (n m : Nat) (C : String) (g : MS) : IFun := fun ds mem => if ds.length + 1 = n then finI C (g (envI m C ds) mem) else .bad
open Classical in
noncomputable def outsideA (F : Hp) (ad : List Addr) (H : Hp) (x : Addr) : Hp := fun a => if F a = none ∧ a ∉ ad ∧ a ≠ x then H a else none
section
variable {T : Tx} {F : Hp} {ad : List Addr} {mem : List MO} {H : Hp} {ds : List D} {ws : List V} {a dx : Addr} {C : String}
theorem outsideA_at {b : Addr} {o : HO} (h : outsideA F ad H a b = some o) : H b = some o ∧ F b = none ∧ b ∉ ad := by
  unfold outsideA at h
  split at h
  · rename_i c; exact ⟨h, c.1, c.2.1⟩
  · cases h
theorem envI_at {m n : Nat} {s : Slot} (h : (envI m C ds)[n + 1]? = some s) : (∃ d, ds[n]? = some d ∧ s = .val d) ∨ s = .none := by
  unfold envI at h
  rw [List.getElem?_cons_succ] at h
  by_cases z : n < ds.length
  · rw [List.getElem?_append_left (by simpa using z), List.getElem?_map] at h
    cases e : ds[n]? with
    | none => rw [e] at h; cases h
    | some d' => rw [e] at h; cases h; exact .inl ⟨d', rfl, rfl⟩
  · rw [List.getElem?_append_right (by simpa using z), List.getElem?_replicate] at h
    split at h
    · cases h; exact .inr rfl
    · cases h
theorem startI_sat (s : Sat T F ad mem H) (i : IsL T F ad ds ws) (ha : H a = some (.ins (T.at_ C) dx [])) (hF : F a = none) (had : a ∉ ad) {N : List Str} (hN : ds.length + 1 ≤ N.length) :
    SatF T ⟨F, ad, outsideA F ad H a, some a⟩ F ad (envI N.length C ds) mem [] (L2.start N (.ref a :: ws)) H := by
  have lv := i.length
  refine ⟨s, Same.refl F, List.prefix_refl _, fun b o h => outsideA_at h, ?_, fun n d h => ?_, fun n m h => ?_, fun n j m k b h1 h2 h3 h4 => ?_, fun p hp => by simp at hp⟩
  · unfold envI L2.start
    simp [lv]
  · cases n with
    | zero => cases h
    | succ n =>
      rcases envI_at h with ⟨d', e, e2⟩ | e2
      · cases e2
        obtain ⟨v, h1, h2⟩ := i.get e
        refine ⟨v, ?_, h2⟩
        have hn := (List.getElem?_eq_some_iff.mp h1).1
        unfold L2.start
        rw [List.getElem?_append_left (by simpa using hn), List.getElem?_map, List.getElem?_cons_succ, h1]
        rfl
      · cases e2
  · cases n with
    | zero =>
      cases h
      refine ⟨a, rfl, hF, had, by rw [ha]; simp, ?_, ⟨dx, [], ha, rfl, rfl⟩, (fun z => by cases z), fun _ _ _ => rfl⟩
      show outsideA F ad H a a = none
      unfold outsideA
      rw [if_neg (fun z => z.2.2 rfl)]
    | succ n =>
      rcases envI_at h with ⟨d', e, e2⟩ | e2 <;> cases e2
  · cases n with
    | zero =>
      cases j with
      | zero => rfl
      | succ j => rcases envI_at h2 with ⟨d', e, e2⟩ | e2 <;> cases e2
    | succ n => rcases envI_at h1 with ⟨d', e, e2⟩ | e2 <;> cases e2
theorem extA_of {env : List Slot} {mem' : List MO} {ex : List (V × D)} {σ : L2.St} {F' H' : Hp} {ad' : List Addr} (s : SatF T ⟨F, ad, outsideA F ad H a, some a⟩ F' ad' env mem' ex σ H') (out : F' a = none ∧ a ∉ ad') : ExtA T F ad H a F' ad' mem' H' := by
  refine ⟨s.sat, s.gro, s.pre, out, fun b o hb h1 h2 h3 => ?_⟩
  refine s.frm b o ?_
  show outsideA F ad H a b = some o
  unfold outsideA
  rw [if_pos ⟨h2, h3, hb⟩]
  exact h1
end
section
variable {P : Program} {w : World} {K : PySem.W.Frag} {mg : Str → Option Value} {base : Heap} {x qual : Str} {params : Arguments} {body : List Stmt} {scope : Scope} {dvs : List V} {kws : List (Str × V)} {f : Addr} {fd : FuncData} {nm : String → List Str} {N ps : List Str} {k : Nat} {g : MS} {C : String}
theorem initW_imp {W : WX} {Q : VK} {E : XK} {vs : List V} {H : Hp} (hW : ∀ c d σ H, E c d H → W c d σ H) (hN : ps.length ≤ N.length) (h : RI ⟨K, nm⟩ C (phiI ps.length N.length C g) vs H Q E) :
    ∃ B, tS ⟨K, nm⟩ B W g { nx := fun _ H' => Q .non H', rt := Q } (L2.start N vs) H := by
  obtain ⟨a, dx, ws, F, ad, mem, ds, rfl, ha, hF, had, s, i, h⟩ := h
  unfold phiI at h
  by_cases hl : ds.length + 1 = ps.length
  · rw [if_pos hl] at h
    refine ⟨⟨F, ad, outsideA F ad H a, some a⟩, _, mem, [], ⟨F, ad, startI_sat s i ha hF had (by omega)⟩, ?_⟩
    cases e : g (envI N.length C ds) mem with
    | next e1 m1 =>
      rw [e] at h
      refine fun σ' H' ⟨F', ad', s'⟩ => ?_
      simp only [finI] at h
      cases e2 : e1[0]? with
      | none => rw [e2] at h; exact h.elim
      | some sl =>
        rw [e2] at h
        cases sl with
        | own m =>
          cases m with
          | ins C' xs =>
            dsimp only at h
            by_cases hC : C' = C
            · subst hC
              rw [if_pos rfl] at h
              obtain ⟨a', h1, h2, h3, h4, h5, ⟨dx', fs, g1, g2, g3⟩, h7, h8⟩ := s'.own 0 _ e2
              have ea : a = a' := Option.some.inj (h8 _ _ rfl)
              subst ea
              exact h fs dx' F' ad' H' (extA_of s' ⟨h2, h3⟩) g1 g2 g3
            · rw [if_neg hC] at h; exact h.elim
          | _ => exact h.elim
        | _ => exact h.elim
    | exc X xs e1 m1 =>
      rw [e] at h
      simp only [finI] at h
      cases e2 : e1[0]? with
      | none => rw [e2] at h; exact h.elim
      | some sl =>
        rw [e2] at h
        cases sl with
        | own m =>
          cases m with
          | ins C' ys =>
            intro dc F' ad' σ' H' s' x
            obtain ⟨a', h1, h2, h3, h4, h5, g0, h7, h8⟩ := s'.own 0 _ e2
            have ea : a = a' := Option.some.inj (h8 _ _ rfl)
            subst ea
            exact hW _ _ _ _ (h dc F' ad' H' (extA_of s' ⟨h2, h3⟩) x)
          | _ => exact h.elim
        | _ => exact h.elim
    | _ => rw [e] at h; exact h.elim
  · rw [if_neg hl] at h; exact h.elim
theorem init_n (F : FunD K x qual params body scope dvs kws f fd) (S : FnScope N ps scope) (hN : ps.length ≤ N.length)
    (hb : ∀ (B : Bs) (cdv : Value) (A : Around) (outer : List Env) (s : Shared) (H : Hp) (E : XK), Room k (A.deeper (envOfC qual scope s.heap.objs.size f cdv)) → SSs nm B WF (cxOf CX0 P w K mg base N qual scope f cdv A outer s H E).nox body g) :
    FnOk P w K mg base CX0 (k + 1) f fd ps (fun vs H Q _ => vs.length = ps.length ∧ RI ⟨K, nm⟩ C (phiI ps.length N.length C g) vs H Q fun _ _ _ => False) :=
  F.ok S (fun _ _ _ _ h => h.1) fun cdv A outer s H vs Q E hr h => by
    obtain ⟨B, hB⟩ := initW_imp (N := N) (W := WF) (fun _ _ _ _ z => z) hN h.2
    exact ⟨_, (hb B cdv A outer s H E hr).nox, hB⟩
theorem init_x (F : FunD K x qual params body scope dvs kws f fd) (S : FnScope N ps scope) (hN : ps.length ≤ N.length)
    (hb : ∀ (B : Bs) (cdv : Value) (A : Around) (outer : List Env) (s : Shared) (H : Hp) (E : XK), Room k (A.deeper (envOfC qual scope s.heap.objs.size f cdv)) → SSs nm B (WE E) (cxOf (L2.CX P w) P w K mg base N qual scope f cdv A outer s H E) body g) :
    FnOk P w K mg base (L2.CX P w) (k + 1) f fd ps (fun vs H Q E => vs.length = ps.length ∧ RI ⟨K, nm⟩ C (phiI ps.length N.length C g) vs H Q E) :=
  F.ok S (fun _ _ _ _ h => h.1) fun cdv A outer s H vs Q E hr h => by
    obtain ⟨B, hB⟩ := initW_imp (N := N) (W := WE E) (fun _ _ _ _ z => z) hN h.2
    exact ⟨_, hb B cdv A outer s H E hr, hB⟩
end
/-! ### making -/
section
variable {T : Tx} {F F' H H' : Hp} {ad ad' : List Addr} {mem mem' : List MO} {x : Addr} {o : HO}
/-- a thing no one else knows joins the frozen part -/
theorem Sat.freeze (s : Sat T F ad mem H) (h : F x = none) (hx : x ∉ ad) (e : H x = some o) : Sat T (upd F x o) ad mem H := by
  refine ⟨fun b u q => ?_, s.len, s.nd, s.there, fun i b m h1 h2 h3 => ?_⟩
  · by_cases z : b = x
    · subst z; rw [upd_same] at q; exact e.trans q
    · rw [upd_ne z] at q; exact s.sub b u q
  · obtain ⟨g1, g2⟩ := s.obj i b m h1 h2 h3
    have z : b ≠ x := fun e => hx (e ▸ List.mem_of_getElem? h1)
    exact ⟨by rw [upd_ne z]; exact g1, g2.mono (same_new h) (List.prefix_refl _) rfl⟩
/-- .. or the changeable things -/
theorem Sat.adopt (s : Sat T F ad mem H) (h : F x = none) (hx : x ∉ ad) (e : H x ≠ none) (m : MO) (hm : MIs T F (ad ++ [x]) H x m) : Sat T F (ad ++ [x]) (mem ++ [m]) H := by
  refine ⟨s.sub, by simp [s.len], ?_, fun b hb => ?_, fun j b n g1 g2 g3 => ?_⟩
  · exact List.nodup_append.mpr ⟨s.nd, by simp, fun y hy z hz e => by
      have : z = x := by simpa using hz
      exact hx (this ▸ e ▸ hy)⟩
  · rcases List.mem_append.mp hb with q | q
    · exact s.there b q
    · have : b = x := by simpa using q
      rw [this]; exact e
  · by_cases z : j < ad.length
    · rw [List.getElem?_append_left z] at g1
      rw [List.getElem?_append_left (s.len ▸ z)] at g2
      obtain ⟨k1, k2⟩ := s.obj j b n g1 g2 g3
      exact ⟨k1, k2.mono (Same.refl F) (List.prefix_append _ _) rfl⟩
    · have hj : j < (ad ++ [x]).length := (List.getElem?_eq_some_iff.mp g1).1
      have hj : j = ad.length := by simp at hj; omega
      subst hj
      simp at g1
      rw [s.len] at g2
      simp at g2
      subst g1 g2
      exact ⟨h, hm⟩
end
/-- the class C of the module, what its __init__ does -/
structure Di (P : Program) (w : World) (K : PySem.W.Frag) (mg : Str → Option Value) (base : Heap) (CX : CXT) (nm : String → List Str) (k : Nat) (C : String) (ι : IFun) : Prop where
  g : mg (Str.ofString C) = some (.ref (He.ga K (Str.ofString C)))
  mak : Mk K (He.ga K (Str.ofString C)) (He.ma K (He.ga K (Str.ofString C)) "__init__")
  fn : FnR P w K mg base CX k (He.ma K (He.ga K (Str.ofString C)) "__init__") (RI ⟨K, nm⟩ C ι)
def mkD (C : String) : List D → List MO → Res D := fun xs m => .ok (.ins C xs) m
def mkH (C : String) : List D → List MO → Res D := fun xs m => .ok (.hnd m.length) (m ++ [.ins C xs])
def fI (ι : IFun) (mk : List D → List MO → Res D) : Fun := fun ds m => match ι ds m with
  | .bad => .bad
  | .ok xs m' => mk xs m'
  | .exc X xs m' => .exc X xs m'
/-- C(..), the new thing being the value -/
def mMake (C : String) (ι : IFun) (g : MA) : ME := mFun (fI ι (mkD C)) g
/-- C(..), a changeable thing -/
def mMakeH (C : String) (ι : IFun) (g : MA) : ME := mFun (fI ι (mkH C)) g
section
variable {nm : String → List Str} {B : Bs} {W : WX} {X : Cx} {CX : CXT} {k : Nat} {C : String} {ι : IFun} {e : Expr} {es : List Expr} {fa : MA} {pos p : Pos} {mk : List D → List MO → Res D}
/-- how a made thing is taken in -/
def Takes (T : Tx) (C : String) (mk : List D → List MO → Res D) : Prop := ∀ xs m, ∃ d m', mk xs m = .ok d m' ∧ ∀ F ad H x dx fs, Sat T F ad m H → F x = none → x ∉ ad → H x = some (.ins (T.at_ C) dx fs) → fs.map Prod.fst = (T.nm C).take xs.length → IsL T F ad xs (fs.map Prod.snd) →
  ∃ F' ad', Sat T F' ad' m' H ∧ Same F F' ∧ ad <+: ad' ∧ Is T F' ad' d (.ref x) ∧ ∀ b, b ≠ x → F b = none → b ∉ ad → F' b = none ∧ b ∉ ad'
theorem takesD {T : Tx} : Takes T C (mkD C) := fun xs m => ⟨_, _, rfl, fun F ad H x dx fs s h1 h2 h3 h4 h5 => ⟨upd F x _, ad, s.freeze h1 h2 h3, same_new h1, List.prefix_refl _, ⟨x, dx, fs, rfl, upd_same, h4, h5.mono (same_new h1) (List.prefix_refl _)⟩, fun b hb g1 g2 => ⟨by rw [upd_ne hb]; exact g1, g2⟩⟩⟩
theorem takesH {T : Tx} : Takes T C (mkH C) := fun xs m => ⟨_, _, rfl, fun F ad H x dx fs s h1 h2 h3 h4 h5 => ⟨F, ad ++ [x], s.adopt h1 h2 (by rw [h3]; simp) _ ⟨dx, fs, h3, h4, h5.mono (Same.refl F) (List.prefix_append _ _)⟩, Same.refl F, List.prefix_append _ _, ⟨x, by rw [← s.len, List.getElem?_append_right (Nat.le_refl _)]; simp, rfl⟩, fun b hb g1 g2 => ⟨g1, by simp [g2, hb]⟩⟩⟩
theorem make_run {T : Tx} (tk : Takes T C mk) {vs : List V} {H : Hp} {Q : VK} {E : XK} {x dx : Addr} (hx : H x = none) (hd : H dx = none) (hne : dx ≠ x) (h : RX T (fI ι mk) vs H Q E) :
    RI T C ι (V.ref x :: vs) (upd (upd H dx (.own x)) x (.ins (T.at_ C) dx [])) (fun v H2 => v = .non ∧ Q (.ref x) H2) E := by
  obtain ⟨F, ad, mem, ds, s, i, h⟩ := h
  have e1 := s.aside (o := .own x) hd
  have hx1 : upd H dx (.own x) x = none := by rw [upd_ne (Ne.symm hne)]; exact hx
  have e2 := e1.sat.aside (o := HO.ins (T.at_ C) dx []) hx1
  refine ⟨x, dx, vs, F, ad, mem, ds, rfl, upd_same, s.free hx, s.notin hx, e2.sat, i, ?_⟩
  have low : ∀ {F' ad' mem' H'}, ExtA T F ad (upd (upd H dx (.own x)) x (.ins (T.at_ C) dx [])) x F' ad' mem' H' → ∀ b o, H b = some o → F b = none → b ∉ ad → H' b = some o ∧ F' b = none ∧ b ∉ ad' := fun y b o g1 g2 g3 => by
    have z1 : b ≠ dx := ne_of_none g1 hd
    have z2 : b ≠ x := ne_of_none g1 hx
    exact y.frm b o z2 (by rw [upd_ne z2, upd_ne z1]; exact g1) g2 g3
  unfold fI at h
  cases ei : ι ds mem with
  | bad => rw [ei] at h; exact h.elim
  | ok xs m' =>
    rw [ei] at h
    obtain ⟨d, m2, em, hk⟩ := tk xs m'
    dsimp only at h
    rw [em] at h
    intro fs dx' F' ad' H' y h1 h2 h3
    obtain ⟨F2, ad2, s2, g, p, is, fr⟩ := hk F' ad' H' x dx' fs y.sat y.out.1 y.out.2 h1 h2 h3
    refine ⟨rfl, h (.ref x) F2 ad2 H' ⟨s2, y.gro.trans g, y.pre.trans p, fun b o g1 g2 g3 => ?_⟩ is⟩
    obtain ⟨k1, k2, k3⟩ := low y b o g1 g2 g3
    exact ⟨k1, fr b (ne_of_none g1 hx) k2 k3⟩
  | exc Y xs m' =>
    rw [ei] at h
    intro dc F' ad' H' y z
    exact h dc F' ad' H' ⟨y.sat, y.gro, y.pre, low y⟩ z
theorem make_core (M : Di X.prog X.w X.K X.mg X.base CX nm k C ι) (tk : Takes (tx X nm) C mk) (hr : Room (k + 1) X.A) (hx : Thr CX X W) {pins : List (Addr × Obj)} {σ : L2.St} {H : Hp} {s : Shared} {Q : VK} {us : List Value} {vs : List V}
    (I : Inv X pins σ H s) (r : Vals vs us) (h : RX ⟨X.K, nm⟩ (fI ι mk) vs H Q fun c d H => W c d σ H) : wpAny (model X.prog X.w) X.A (call (.ref (He.ga X.K (Str.ofString C))) us) (EP X pins σ Q) X.xe s :=
  StX.run_makeR M.mak M.fn hr (hx σ) I r fun x dx h1 h2 h3 => make_run tk h1 h2 h3 h
end
/-! ### all forms of calls, by what the callee does -/
structure Cal (X : Cx) (nm : String → List Str) (W : WX) (f : Addr) (φ : Fun) : Prop where
  kp : PySem.W.keepIn X.K (.ref f) = true
  run : ∀ {pins : List (Addr × Obj)} {σ : L2.St} {H : Hp} {s : Shared} {Q : VK} {us : List Value} {vs : List V}, Inv X pins σ H s → Vals vs us → RX (tx X nm) φ vs H Q (fun c d H => W c d σ H) → wpAny (model X.prog X.w) X.A (call (.ref f) us) (EP X pins σ Q) X.xe s
section
variable {nm : String → List Str} {B : Bs} {W : WX} {X : Cx} {CX : CXT} {k : Nat} {C : String} {x : Str} {ι : IFun} {φ : Fun} {e : Expr} {es : List Expr} {f : ME} {fa : MA} {pos p : Pos} {mk : List D → List MO → Res D} {a : Addr}
theorem Df.cal (F : Df X.prog X.w X.K X.mg X.base CX nm k x φ) (hr : Room k X.A) (hx : Thr CX X W) : Cal X nm W (He.ga X.K x) φ := ⟨F.kp, fun I r h => fp_run F.fn hr hx I r h⟩
theorem Di.calD (M : Di X.prog X.w X.K X.mg X.base CX nm k C ι) (hr : Room (k + 1) X.A) (hx : Thr CX X W) : Cal X nm W (He.ga X.K (Str.ofString C)) (fI ι (mkD C)) := ⟨M.mak.kp, fun I r h => make_core M takesD hr hx I r h⟩
theorem Di.calH (M : Di X.prog X.w X.K X.mg X.base CX nm k C ι) (hr : Room (k + 1) X.A) (hx : Thr CX X W) : Cal X nm W (He.ga X.K (Str.ofString C)) (fI ι (mkH C)) := ⟨M.mak.kp, fun I r h => make_core M takesH hr hx I r h⟩
/-- x(e, ..) -/
theorem se_c (F : Cal X nm W a φ) (hm : X.mg x = some (.ref a)) (ha : SA nm B W X (e :: es) fa) (hg : Gl X x := by rfl) (hd : (x == ("__debug__" : Str)) = false := by decide)
    (h1 : starEach (e :: es) X.env = (false, eval e X.env) :: starEach es X.env := by rfl) (h2 : (backTo pos (starEach es X.env)).any (·.1) = false := by rfl) : SE nm B W X (.Call (.Name x p) (e :: es) [] pos) (mFun φ fa) :=
  ⟨fun pins s σ H Q I ⟨env, mem, ex, st, h⟩ => wpAny_Call_Name_kw (ld_glob I hg hm (PySem.W.callWith_K (h₀ := X.base) I.ok.mod.kin F.kp (thn (ha.run pos pins s σ H
    (fun vs H1 => RX (tx X nm) φ vs H1 Q fun c d H => W c d σ H) I (tA_step st h fun vs H1 ds m l s1 q => rx_of (p := vs.zip ds) s1 (fun _ _ s2 => il_of l s2) q))
      fun us s1 ⟨vs, H1, I1, r, q⟩ => ⟨I1.kIn, F.run I1 r q⟩) h1 h2) hd)⟩
/-- x() -/
theorem se_c0 (F : Cal X nm W a φ) (hm : X.mg x = some (.ref a)) (hg : Gl X x := by rfl) (hd : (x == ("__debug__" : Str)) = false := by decide) : SE nm B W X (.Call (.Name x p) [] [] pos) (mFun φ mNil) :=
  ⟨fun pins s σ H Q I ⟨env, mem, ex, st, h⟩ => wpAny_Call_Name_kw (ld_glob I hg hm (PySem.W.callWith_K0 I.kIn F.kp
    (F.run (us := []) (vs := []) I .nil (rx_of (p := []) (ds := []) st (fun _ _ _ => IsL.nil) h))) hd)⟩
/-- x(e, .., *y) -/
theorem se_cS2 (F : Cal X nm W a φ) (hm : X.mg x = some (.ref a)) (ha : SA nm B W X (e :: es) fa) (hg : Gl X x := by rfl) (hd : (x == ("__debug__" : Str)) = false := by decide)
    (h1 : starEach (e :: es) X.env = (false, eval e X.env) :: starEach es X.env := by rfl) (h2 : (backTo pos (starEach es X.env)).any (·.1) = true := by rfl) : SE nm B W X (.Call (.Name x p) (e :: es) [] pos) (mFun φ fa) :=
  ⟨fun pins s σ H Q I ⟨env, mem, ex, st, h⟩ => wpAny_Call_Name_kw (ld_glob I hg hm (PySem.W.callWith_S2 (h₀ := X.base) I.ok.mod.kin F.kp (thn (ha.run pos pins s σ H
    (fun vs H1 => RX (tx X nm) φ vs H1 Q fun c d H => W c d σ H) I (tA_step st h fun vs H1 ds m l s1 q => rx_of (p := vs.zip ds) s1 (fun _ _ s2 => il_of l s2) q))
      fun us s1 ⟨vs, H1, I1, r, q⟩ => ⟨I1.kIn, F.run I1 r q⟩) h1 h2) hd)⟩
/-- the items of a frozen list or tuple -/
theorem items_of {F : Hp} {ad : List Addr} {env : List Slot} {mem : List MO} {ex : List (V × D)} {σ : L2.St} {H : Hp} {v : V} {d : D} {xs : List D} (e : items d = some xs) (s : SatF (tx X nm) B F ad env mem ((v, d) :: ex) σ H) :
    ∃ b vs, v = .ref b ∧ (SqT X.K H b vs ∨ SqL X.K H b vs) ∧ IsL (tx X nm) F ad xs vs := by
  cases d with
  | lst ys =>
    cases e
    obtain ⟨b, vs, ev, h1, h2⟩ := s.top
    exact ⟨b, vs, ev, .inr (.inl (.inl (s.sat.sub _ _ h1))), h2⟩
  | tup ys =>
    cases e
    obtain ⟨b, vs, ev, h1, h2⟩ := s.top
    exact ⟨b, vs, ev, .inl (sqT_mono s.sat.sub h1), h2⟩
  | _ => cases e
def mStar1 (φ : Fun) (f : ME) : ME := fun env mem => (f env mem).bind fun d m => match items d with
  | some xs => φ xs m
  | none => .bad
theorem rx_at {F : Hp} {ad : List Addr} {env : List Slot} {mem : List MO} {p : List (V × D)} {ex : List (V × D)} {σ : L2.St} {H : Hp} {φ : Fun} {ds : List D} {vs : List V} {Q : VK} {T : Tx} (s : SatF T B F ad env mem (p ++ ex) σ H) (hi : IsL T F ad ds vs)
    (h : Wnt T B W env ex σ (KE T B env ex σ Q) (φ ds mem)) : RX T φ vs H Q fun c dc H' => W c dc σ H' := by
  refine ⟨F, ad, mem, ds, s.sat, hi, ?_⟩
  cases e : φ ds mem with
  | bad => rw [e] at h; exact h
  | ok d m => rw [e] at h; exact fun v F' ad' H' x q => h v H' (s.done x q)
  | exc C xs m => rw [e] at h; exact fun dc F' ad' H' x q => h dc F' ad' H' ((s.ext x).sub fun _ z => List.mem_append_right _ z) q
/-- x(*e) -/
theorem se_cS1 {sp : Pos} (F : Cal X nm W a φ) (hm : X.mg x = some (.ref a)) (he : SE nm B W X e f) (hg : Gl X x := by rfl) (hd : (x == ("__debug__" : Str)) = false := by decide)
    (hst : starEach [.Starred e sp] X.env = [(true, eval e X.env)] := by rfl) : SE nm B W X (.Call (.Name x p) [.Starred e sp] [] pos) (mStar1 φ f) :=
  ⟨fun pins s σ H Q I ⟨env, mem, ex, st, h⟩ => wpAny_Call_Name_kw (ld_glob I hg hm (PySem.W.callWith_S (h₀ := X.base) I.ok.mod.kin F.kp (thn (he.run pins s σ H
    (fun v H1 => ∃ b vs, v = .ref b ∧ (SqT X.K H1 b vs ∨ SqL X.K H1 b vs) ∧ RX (tx X nm) φ vs H1 Q fun c d H => W c d σ H) I (tE_step (k := fun d m => match items d with
      | some xs => φ xs m
      | none => .bad) st h fun v H1 d m ⟨F', ad', s1⟩ q => by
      cases ei : items d with
      | none => rw [ei] at q; exact q.elim
      | some xs =>
        rw [ei] at q
        obtain ⟨b, vs, ev, h1, h2⟩ := items_of ei s1
        exact ⟨b, vs, ev, h1, rx_at (p := [(v, d)]) s1 h2 q⟩))
      fun v s1 ⟨y, H1, I1, ry, b, vs, ey, hxs, q⟩ => by
        subst ey
        obtain rfl : v = Value.ref b := ry
        exact StX.star_any I1 hxs fun us s2 I2 rv => ⟨I2.kIn, F.run I2 rv q⟩) hst) hd)⟩
end
section
variable {nm : String → List Str} {B : Bs} {W : WX} {X : Cx} {CX : CXT} {k : Nat} {C : String} {x : Str} {φ : Fun} {e : Expr} {es : List Expr} {f : ME} {fa : MA} {pos p : Pos} {a : Addr}
/-- cls(*e), cls in the place i -/
def mClsS (C : String) (φ : Fun) (i : Nat) (f : ME) : ME := fun env mem => match env[i]? with
  | some (.val (.glo c)) => if c = C then mStar1 φ f env mem else .bad
  | _ => .bad
theorem se_clsS {sp : Pos} (i : Nat) (F : Cal X nm W (He.ga X.K (Str.ofString C)) φ) (he : SE nm B W X e f) (hN : X.N[i]? = some x := by rfl) (hv : Vis X.env.scope x := by first | exact Or.inl rfl | exact Or.inr (Or.inl rfl) | exact Or.inr (Or.inr rfl))
    (hd : (x == ("__debug__" : Str)) = false := by decide) (hcd : (x == ("__classdict__" : Str)) = false := by decide)
    (hst : starEach [.Starred e sp] X.env = [(true, eval e X.env)] := by rfl) : SE nm B W X (.Call (.Name x p) [.Starred e sp] [] pos) (mClsS C φ i f) :=
  ⟨fun pins s σ H Q I ⟨env, mem, ex, st, h⟩ => by
    unfold mClsS at h
    split at h
    case h_2 => exact h.elim
    rename_i c ec
    split at h
    case isFalse => exact h.elim
    rename_i hC
    subst hC
    have hs : σ[i]? = some (some (V.ref (He.ga X.K (Str.ofString c)))) := by
      obtain ⟨F0, ad0, s0⟩ := st
      obtain ⟨v, h1, h2⟩ := s0.val i _ ec
      rw [h1, h2]; rfl
    refine wpAny_Call_Name_kw (thn ((pe_var (pos := p) hN hv hd hcd).run pins s σ H (fun v H1 => v = .ref (He.ga X.K (Str.ofString c)) ∧ H1 = H) I ⟨.ref _, hs, rfl, rfl⟩) fun u s0 ⟨v, H0, I0, r1, q1⟩ => ?_)
    obtain ⟨rfl, rfl⟩ := q1
    cases r1
    exact PySem.W.callWith_S (h₀ := X.base) I.ok.mod.kin F.kp (thn (he.run pins s0 σ _
      (fun v H1 => ∃ b vs, v = .ref b ∧ (SqT X.K H1 b vs ∨ SqL X.K H1 b vs) ∧ RX (tx X nm) φ vs H1 Q fun c d H => W c d σ H) I0 (tE_step (k := fun d m => match items d with
        | some xs => φ xs m
        | none => .bad) st h fun v H1 d m ⟨F', ad', s1⟩ q => by
        cases ei : items d with
        | none => rw [ei] at q; exact q.elim
        | some xs =>
          rw [ei] at q
          obtain ⟨b, vs, ev, h1, h2⟩ := items_of ei s1
          exact ⟨b, vs, ev, h1, rx_at (p := [(v, d)]) s1 h2 q⟩))
        fun v s1 ⟨y, H1, I1, ry, b, vs, ey, hxs, q⟩ => by
          subst ey
          obtain rfl : v = Value.ref b := ry
          exact StX.star_any I1 hxs fun us s2 I2 rv => ⟨I2.kIn, F.run I2 rv q⟩) hst⟩
end
/-! ### subscripts -/
def dIx : Pur
  | [.lst xs, .int i] => atI xs i
  | [.tup xs, .int i] => atI xs i
  | [.slf xs, .int i] => atI xs i
  | [.str z, .int i] => if z.length ≤ sizeLine then (atI z.cps.toList i).map fun c => .str ⟨#[c]⟩ else none
  | _ => none
theorem isL_at {T : Tx} {F : Hp} {ad : List Addr} {ds : List D} {vs : List V} {i : Int} {d : D} (h : IsL T F ad ds vs) (e : atI ds i = some d) : ∃ v, atI vs i = some v ∧ Is T F ad d v := by
  unfold atI at e ⊢
  rw [h.length]
  cases z : ixN ds.length i with
  | none => rw [z] at e; cases e
  | some j => rw [z] at e; exact h.get e
theorem ixr_imp {X : Cx} {r r' : R2} (h : IxR X r) (i : ∀ x y H Q, r' x y H Q → r x y H Q) : IxR X r' := fun value slice pins s σ H x y v u Q I rx ry q => h value slice pins s σ H x y v u Q I rx ry (i x y H Q q)
section
variable {nm : String → List Str} {B : Bs} {W : WX} {X : Cx} {a b : Expr} {f g : ME} {pos : Pos}
theorem r_ix : IxR X fun x y H Q => RP (tx X nm) dIx [x, y] H Q := by
  refine ixr_imp ix_seq fun x y H Q h => ?_
  obtain ⟨F, ad, mem, ds, d, s, i, e, q⟩ := h
  unfold dIx at e
  split at e
  · obtain ⟨v, u, e1, h1, h2⟩ := i.two
    cases e1
    obtain ⟨p, vs, rfl, h3, h4⟩ := h1
    obtain ⟨w, g1, g2⟩ := isL_at h4 e
    exact .inl ⟨p, vs, _, w, rfl, h2, .inl (.inl (s.sub _ _ h3)), g1, q _ F ad H (Ext.refl s) g2⟩
  · obtain ⟨v, u, e1, h1, h2⟩ := i.two
    cases e1
    obtain ⟨p, vs, rfl, h3, h4⟩ := h1
    obtain ⟨w, g1, g2⟩ := isL_at h4 e
    exact .inr (.inl ⟨p, vs, _, w, rfl, h2, sqT_mono s.sub h3, g1, q _ F ad H (Ext.refl s) g2⟩)
  · obtain ⟨v, u, e1, h1, h2⟩ := i.two
    cases e1
    obtain ⟨p, vs, rfl, h3, h4⟩ := h1
    obtain ⟨w, g1, g2⟩ := isL_at h4 e
    exact .inl ⟨p, vs, _, w, rfl, h2, sqL_mono s.sub h3, g1, q _ F ad H (Ext.refl s) g2⟩
  · split at e
    case isFalse => cases e
    rename_i hz
    obtain ⟨v, u, e1, h1, h2⟩ := i.two
    cases e1
    obtain ⟨c, g1, rfl⟩ := Option.map_eq_some_iff.mp e
    exact .inr (.inr ⟨_, _, c, h1, h2, hz, g1, q _ F ad H (Ext.refl s) rfl⟩)
  · cases e
/-- a[b], a sequence -/
theorem se_ix (ha : SE nm B W X a f) (hb : SE nm B W X b g) (hs : PlainIx b := by exact fun _ _ => rfl) : SE nm B W X (.Subscript a b pos) (mBin dIx f g) :=
  PE.imp (pe_ix r_ix ha hb hs) fun _ _ _ => bin_imp
def kD : D → Option Key
  | .int i => some (.inl i)
  | .str x => some (.inr x)
  | _ => none
def valD (ks : List Key) (xs : List D) (k : Key) : Option D := ((ks.zip xs).find? fun p => decide (p.1 = k)).map (·.2)
def dIxD : Pur
  | [.dic ks xs, y] => (kD y).bind fun k => valD ks xs k
  | _ => none
theorem kD_is {T : Tx} {F : Hp} {ad : List Addr} {d : D} {k : Key} {v : V} (e : kD d = some k) (h : Is T F ad d v) : v = kV k := by
  cases d <;> cases e <;> exact h
theorem valD_is {T : Tx} {F : Hp} {ad : List Addr} {k : Key} {d : D} : ∀ {ks : List Key} {xs : List D} {vs : List V}, IsL T F ad xs vs → vs.length = ks.length → valD ks xs k = some d → ∃ v, valV (ks.zip vs) k = some v ∧ Is T F ad d v
  | [], _, _, _, _, e => by cases e
  | a :: ks, [], _, _, _, e => by cases e
  | a :: ks, x :: xs, vs, h, l, e => by
    obtain ⟨v, vr, rfl, h1, h2⟩ := h
    unfold valD at e
    by_cases z : a = k
    · subst z
      simp at e
      subst e
      exact ⟨v, by rw [List.zip_cons_cons]; exact valV_pos rfl, h1⟩
    · have e' : valD ks xs k = some d := by
        unfold valD
        simpa [List.find?_cons, z] using e
      obtain ⟨u, g1, g2⟩ := valD_is h2 (by simpa using l) e'
      exact ⟨u, by rw [List.zip_cons_cons, valV_neg z]; exact g1, g2⟩
/-- a[b], a dict -/
theorem se_ixD (hu : X.A.units + 1 < cLine) (ha : SE nm B W X a f) (hb : SE nm B W X b g) (hs : NoSl b := by exact fun _ _ => rfl) : SE nm B W X (.Subscript a b pos) (mBin dIxD f g) :=
  PE.imp (pe_dget hu ha hb hs) fun σ H Q ⟨env, mem, ex, s, h⟩ => tE_step s h fun v H1 d m s1 q1 => tE_step s1 q1.push1 fun u H2 e m2 s2 q2 => by
    obtain ⟨r, er, q⟩ := lf_ok q2
    obtain ⟨F, ad, s3⟩ := s2
    unfold dIxD at er
    split at er
    · rename_i ks xs y e1
      cases e1
      obtain ⟨k, ek, er⟩ := Option.bind_eq_some_iff.mp er
      have h1 := s3.tmp (v, .dic ks xs) (by simp)
      obtain ⟨a, o, vs, rfl, g1, g2, g3⟩ := h1
      obtain ⟨w, g4, g5⟩ := valD_is g3 g2 er
      refine ⟨a, w, rfl, .inl ⟨_, k, .inr ⟨o, s3.sat.sub _ _ g1⟩, kD_is ek s3.top, g4.symm⟩, ?_⟩
      exact q w H2 ⟨F, ad, ((s3.sub fun _ z => List.mem_cons_of_mem _ (List.mem_cons_of_mem _ z)).push g5)⟩
    · cases er
end
theorem SatF.pop {T : Tx} {B : Bs} {F : Hp} {ad : List Addr} {env : List Slot} {mem : List MO} {ex : List (V × D)} {σ : L2.St} {H : Hp} {p : V × D} (s : SatF T B F ad env mem (p :: ex) σ H) : SatF T B F ad env mem ex σ H := s.sub fun _ h => List.mem_cons_of_mem _ h
/-! ### slices -/
def cutD (xs : List D) (lo hi : Option Int) : List D := (xs.drop (HT.sIx xs.length 0 lo)).take (HT.sIx xs.length xs.length hi - HT.sIx xs.length 0 lo)
theorem cut_is {T : Tx} {F : Hp} {ad : List Addr} {ds : List D} {vs : List V} (h : IsL T F ad ds vs) (lo hi : Option Int) : IsL T F ad (cutD ds lo hi) (cutV vs lo hi) := by
  unfold cutD cutV
  rw [h.length]
  exact (h.drop _).take _
theorem cut_whole {xs : List D} {n : Nat} {o u : Option Int} (hl : n = xs.length) (z1 : HT.sIx n 0 o = 0) (z2 : HT.sIx n n u = n) : cutD xs o u = xs := by
  unfold cutD
  rw [← hl, z1, z2]
  simp [hl]
def dSl (lo hi : Option Int) : D → Option D
  | .lst xs => some (.lst (cutD xs lo hi))
  | .slf xs => some (.lst (cutD xs lo hi))
  | .tup xs => some (.tup (cutD xs lo hi))
  | .str z => if z.length ≤ sizeLine then some (.str (cutS z lo hi)) else none
  | _ => none
def rSl (K : PySem.W.Frag) : V → Option Int → Option Int → Hp → VK → Prop := fun x lo hi H Q => rSlL K x lo hi H Q ∨ rSlA K x lo hi H Q ∨ rSlS x lo hi H Q
abbrev MP := List Slot → List MO → Res (Option Int)
def KP (T : Tx) (B : Bs) (env : List Slot) (ex : List (V × D)) (σ : L2.St) (Q : Option Int → Hp → Prop) (o : Option Int) (m : List MO) : Prop := ∀ H', SatX T B env m ex σ H' → Q o H'
def tP (T : Tx) (B : Bs) (W : WX) (f : MP) : TO := fun σ H Q => ∃ env mem ex, SatX T B env mem ex σ H ∧ Wnt T B W env ex σ (KP T B env ex σ Q) (f env mem)
abbrev SP' (nm : String → List Str) (B : Bs) (W : WX) (X : Cx) (e : Option Expr) (f : MP) : Prop := PO X e (tP (tx X nm) B W f)
def mNoP : MP := fun _ m => .ok none m
def mSoP (f : ME) : MP := fun env mem => (f env mem).bind fun d m => match d with
  | .int i => .ok (some i) m
  | _ => .bad
def mSl (f : ME) (lo hi : MP) : ME := fun env mem => (f env mem).bind fun d m => (lo env m).bind fun l m2 => (hi env m2).bind fun h m3 => match dSl l h d with
  | some r => .ok r m3
  | none => .bad
theorem po_imp {X : Cx} {e : Option Expr} {t t' : TO} (h : PO X e t) (i : ∀ σ H Q, t' σ H Q → t σ H Q) : PO X e t' := ⟨fun pins s σ H Q I q => h.run pins s σ H Q I (i σ H Q q)⟩
section
variable {nm : String → List Str} {B : Bs} {W : WX} {X : Cx} {a b : Expr} {f g : ME} {pos p2 : Pos} {lo hi : Option Expr} {l h : MP}
theorem sp_no : SP' nm B W X none mNoP := po_imp po_none fun σ H Q ⟨env, mem, ex, s, h⟩ => h H s
theorem sp_so (ha : SE nm B W X a f) : SP' nm B W X (some a) (mSoP f) := po_imp (po_some ha) fun σ H Q ⟨env, mem, ex, s, h⟩ => tE_step s h fun v H1 d m s1 q => by
  cases d with
  | int i =>
    obtain ⟨F, ad, s2⟩ := id s1
    exact ⟨i, s2.top, q H1 s1.pop⟩
  | _ => exact q.elim
theorem tP_step {α : Type} {T : Tx} {env : List Slot} {mem : List MO} {ex : List (V × D)} {σ : L2.St} {H : Hp} {f : MP} {k : Option Int → List MO → Res α} {K : α → List MO → Prop} (s : SatX T B env mem ex σ H)
    (h : Wnt T B W env ex σ K ((f env mem).bind k)) {R : Option Int → Hp → Prop} (hk : ∀ H1 d m, SatX T B env m ex σ H1 → Wnt T B W env ex σ K (k d m) → R d H1) : tP T B W f σ H R :=
  ⟨env, mem, ex, s, h.bind.mono fun d m q H1 s1 => hk H1 d m s1 q⟩
theorem se_slice (ha : SE nm B W X a f) (hl : SP' nm B W X lo l) (hh : SP' nm B W X hi h) : SE nm B W X (.Subscript a (.Slice lo hi none p2) pos) (mSl f l h) :=
  PE.imp (pe_slice (sl_list.or (sl_tupA.or sl_str)) ha hl hh) fun σ H Q ⟨env, mem, ex, s, h⟩ => tE_step s h fun v H1 d m s1 q1 => tP_step s1 q1.push1 fun H2 o m2 s2 q2 => tP_step s2 q2 fun H3 u m3 s3 q3 => by
    obtain ⟨F, ad, s4⟩ := s3
    cases er : dSl o u d with
    | none => rw [er] at q3; exact q3.elim
    | some r =>
      rw [er] at q3
      unfold dSl at er
      split at er
      · cases er
        obtain ⟨p, vs, rfl, h1, h2⟩ := s4.top
        refine .inl ⟨p, vs, rfl, .inl (.inl (s4.sat.sub _ _ h1)), fun q hq => ?_⟩
        exact q3 _ _ ⟨_, ad, (s4.ext (s4.sat.new hq)).pop.push ⟨q, _, rfl, upd_same, (cut_is h2 o u).mono (same_new (s4.sat.free hq)) (List.prefix_refl _)⟩⟩
      · cases er
        obtain ⟨p, vs, rfl, h1, h2⟩ := s4.top
        refine .inl ⟨p, vs, rfl, sqL_mono s4.sat.sub h1, fun q hq => ?_⟩
        exact q3 _ _ ⟨_, ad, (s4.ext (s4.sat.new hq)).pop.push ⟨q, _, rfl, upd_same, (cut_is h2 o u).mono (same_new (s4.sat.free hq)) (List.prefix_refl _)⟩⟩
      · cases er
        obtain ⟨p, vs, rfl, h1, h2⟩ := s4.top
        refine .inr (.inl ⟨p, vs, rfl, sqT_mono s4.sat.sub h1, fun z => ?_, fun z q hq => ?_⟩)
        · rw [cut_whole h2.length z.1 z.2] at q3
          exact q3 _ _ ⟨F, ad, s4.pop.push ⟨p, vs, rfl, h1, h2⟩⟩
        · exact q3 _ _ ⟨_, ad, (s4.ext (s4.sat.new hq)).pop.push ⟨q, _, rfl, .inl (.inl upd_same), (cut_is h2 o u).mono (same_new (s4.sat.free hq)) (List.prefix_refl _)⟩⟩
      · split at er
        case isFalse => cases er
        rename_i hz
        cases er
        exact .inr (.inr ⟨_, s4.top, hz, q3 _ _ ⟨F, ad, s4.pop.push rfl⟩⟩)
      · cases er
end
/-! ### assignments -/
def mAsg (τ : Tgt) (f : ME) : MS := fun env mem => (f env mem).flow env fun d m => match τ.set d env with
  | some e => .next e m
  | none => .bad
/-- x, y = a, b -/
def mPar (i j : Nat) (g : MA) : MS := fun env mem => (g env mem).flow env fun ds m => match ds with
  | [a, b] => .next ((env.set i (.val a)).set j (.val b)) m
  | _ => .bad
def mPar3 (i j k : Nat) (g : MA) : MS := fun env mem => (g env mem).flow env fun ds m => match ds with
  | [a, b, c] => .next (((env.set i (.val a)).set j (.val b)).set k (.val c)) m
  | _ => .bad
def mAug (i : Nat) (φ : Pur) (f : ME) : MS := fun env mem => match env[i]? with
  | some (.val x) => (f env mem).flow env fun d m => match φ [x, d] with
    | some r => .next (env.set i (.val r)) m
    | none => .bad
  | _ => .bad
section
variable {nm : String → List Str} {B : Bs} {W : WX} {X : Cx} {tg e a b c : Expr} {f g : ME} {fa : MA} {τ : Tgt} {pos px py pz pt pos' : Pos}
theorem KS.ex {T : Tx} {ex ex' : List (V × D)} {Z : Ends} {r : Flow} : True := trivial
theorem ss_asg (he : SE nm B W X e f) (hg : SG X tg τ) (hs : swapsWithSole [tg] e pos.line X.env = pure false := by rfl) (hw : swappedStores [tg] e X.env = pure none := by rfl)
    (h1 : (assignEach [tg] X.env).map (·.2) = [assign tg X.env] := by rfl) : SS nm B W X (.Assign [tg] e pos) (mAsg τ f) :=
  PS.imp (ps_asg he hg hs hw h1) fun Z σ H ⟨env, mem, ex, s, h⟩ => ⟨env, mem, ex, s, (ks_of h).mono fun d m q v H' s' => by
    cases e2 : τ.set d env with
    | none => rw [e2] at q; exact q.elim
    | some e' =>
      rw [e2] at q
      exact tgt_set s' e2 fun σ2 _ _ s2 => q σ2 H' s2.pop⟩
theorem ss_par (i j : Nat) {x y : Str} {kt k2 pt2} (hc : X.calm = true) (hN : X.N.Nodup) (ha : SA nm B W X [a, b] fa) (hi : X.N[i]? = some x := by rfl) (hj : X.N[j]? = some y := by rfl) (hij : i ≠ j := by decide)
    (hx : X.env.scope.names.lookup x = some .local := by rfl) (hy : X.env.scope.names.lookup y = some .local := by rfl)
    (hw : swappedStores [.Tuple [.Name x px, .Name y py] kt pt] (.Tuple [a, b] k2 pt2) X.env = pure (some [x, y]) := by rfl)
    (hs : swapsWithSole [.Tuple [.Name x px, .Name y py] kt pt] (.Tuple [a, b] k2 pt2) pos.line X.env = pure false := by rfl) :
    SS nm B W X (.Assign [.Tuple [.Name x px, .Name y py] kt pt] (.Tuple [a, b] k2 pt2) pos) (mPar i j fa) :=
  PS.imp (ps_par hc hN hi hj hij hx hy ha hw hs) fun Z σ H ⟨env, mem, ex, s, h⟩ => ⟨env, mem, ex, s, (ks_of h).mono fun ds m q vs H' l ⟨F, ad, s'⟩ => by
    match ds, vs, l, q, s' with
    | [d1, d2], [v1, v2], _, q, s' =>
      have t1 := s'.tmp (v1, d1) (by simp)
      have t2 := s'.tmp (v2, d2) (by simp)
      exact ⟨v1, v2, rfl, q _ H' ⟨F, ad, (((s'.sub fun x hx => List.mem_append_right _ hx).set t1).set t2)⟩⟩⟩
theorem ss_par3 (i j k : Nat) {x y z : Str} {kt k2 pt2} (hc : X.calm = true) (hN : X.N.Nodup) (ha : SA nm B W X [a, b, c] fa) (hi : X.N[i]? = some x := by rfl) (hj : X.N[j]? = some y := by rfl) (hk : X.N[k]? = some z := by rfl) (hij : i ≠ j := by decide) (hik : i ≠ k := by decide) (hjk : j ≠ k := by decide)
    (hx : X.env.scope.names.lookup x = some .local := by rfl) (hy : X.env.scope.names.lookup y = some .local := by rfl) (hz : X.env.scope.names.lookup z = some .local := by rfl)
    (hw : swappedStores [.Tuple [.Name x px, .Name y py, .Name z pz] kt pt] (.Tuple [a, b, c] k2 pt2) X.env = pure (some [x, y, z]) := by rfl)
    (hs : swapsWithSole [.Tuple [.Name x px, .Name y py, .Name z pz] kt pt] (.Tuple [a, b, c] k2 pt2) pos.line X.env = pure false := by rfl) :
    SS nm B W X (.Assign [.Tuple [.Name x px, .Name y py, .Name z pz] kt pt] (.Tuple [a, b, c] k2 pt2) pos) (mPar3 i j k fa) :=
  PS.imp (ps_par3 hc hN hi hj hk hij hik hjk hx hy hz ha hw hs) fun Z σ H ⟨env, mem, ex, s, h⟩ => ⟨env, mem, ex, s, (ks_of h).mono fun ds m q vs H' l ⟨F, ad, s'⟩ => by
    match ds, vs, l, q, s' with
    | [d1, d2, d3], [v1, v2, v3], _, q, s' =>
      have t1 := s'.tmp (v1, d1) (by simp)
      have t2 := s'.tmp (v2, d2) (by simp)
      have t3 := s'.tmp (v3, d3) (by simp)
      exact ⟨v1, v2, v3, rfl, q _ H' ⟨F, ad, ((((s'.sub fun x hx => List.mem_append_right _ hx).set t1).set t2).set t3)⟩⟩⟩
def dAddI : Pur
  | [.int i, .int j] => some (.int (i + j))
  | _ => none
def dSubI : Pur
  | [.int i, .int j] => some (.int (i - j))
  | _ => none
theorem aug_core (i : Nat) {x : Str} {op : Operator} {φ : Pur} {ti : TIp} (hN : X.N.Nodup) (he : SE nm B W X e f) (ho : PIp X op ti) (hh : ∀ {F ad mem σ ex} {env : List Slot} {H : Hp} {d e r v u} {Q : VK}, SatF (tx X nm) B F ad env mem ex σ H → Is (tx X nm) F ad d v → Is (tx X nm) F ad e u → φ [d, e] = some r → (∀ w, Is (tx X nm) F ad r w → Q w H) → ti v u H Q)
    (hi : X.N[i]? = some x) (hx : Loc X.env.scope x) (hf : X.fn x = true ∨ X.env.scope.names.lookup x = some .local) : SS nm B W X (.AugAssign (.Name x pos') op e pos) (mAug i φ f) :=
  PS.imp (ps_aug hN hi hx he ho hf) fun Z σ H ⟨env, mem, ex, s, h⟩ => by
    unfold mAug at h
    split at h
    case h_2 => exact h.elim
    rename_i d ed
    obtain ⟨F0, ad0, s0⟩ := s
    obtain ⟨v0, g1, g2⟩ := s0.val i d ed
    refine ⟨v0, g1, env, mem, ex, ⟨F0, ad0, s0⟩, (ks_of h).mono fun e m q u H' ⟨F, ad, s'⟩ => ?_⟩
    obtain ⟨v1, g3, g4⟩ := s'.val i d ed
    rw [g1] at g3; cases g3
    cases er : φ [d, e] with
    | none => rw [er] at q; exact q.elim
    | some r =>
      rw [er] at q
      exact hh s' g4 s'.top er fun w hw => q _ H' ⟨F, ad, s'.pop.set hw⟩
theorem ss_augAdd (i : Nat) {x : Str} (hN : X.N.Nodup) (he : SE nm B W X e f) (hi : X.N[i]? = some x := by rfl) (hx : Loc X.env.scope x := by first | exact Or.inl rfl | exact Or.inr rfl) (hf : X.fn x = true ∨ X.env.scope.names.lookup x = some .local := by first | exact .inl rfl | exact .inr rfl) :
    SS nm B W X (.AugAssign (.Name x pos') .Add e pos) (mAug i dAddI f) :=
  aug_core i hN he ip_add (fun {F ad mem σ ex env H d e r v u Q} s h1 h2 er q => by
    unfold dAddI at er
    split at er
    · rename_i i j e0
      cases e0; cases er
      exact ⟨i, j, h1, h2, q _ rfl⟩
    · cases er) hi hx hf
end
/-! ### own lists, dicts -/
section
variable {T : Tx} {B : Bs} {F : Hp} {ad : List Addr} {env : List Slot} {mem : List MO} {ex : List (V × D)} {σ : L2.St} {H : Hp} {i : Nat} {p : Addr} {o : HO} {m : MO}
/-- a new own thing -/
theorem SatF.set_own (s : SatF T B F ad env mem ex σ H) (h : H p = none) (hm : MIs T F ad (upd H p o) p m) (hg : m ≠ .gone) (hs : ∀ C xs, m ≠ .ins C xs) : SatF T B F ad (env.set i (.own m)) mem ex (σ.set i (some (.ref p))) (upd H p o) := by
  have hF := s.sat.free h
  have hp := s.sat.notin h
  have s1 := s.ext (s.sat.aside (o := o) h)
  refine ⟨s1.sat, s1.gro, s1.pre, s1.frm, by simp [s.len], fun j d hj => ?_, fun j n hj => ?_, fun j k n n' b hj hk gj gk => ?_, s1.tmp⟩
  · by_cases z : j = i
    · subst z
      have hl : j < env.length := by have := (List.getElem?_eq_some_iff.mp hj).1; simpa using this
      rw [List.getElem?_set_self hl] at hj; cases hj
    · rw [List.getElem?_set_ne (Ne.symm z)] at hj ⊢
      exact s1.val j d hj
  · by_cases z : j = i
    · subst z
      have hl : j < env.length := by have := (List.getElem?_eq_some_iff.mp hj).1; simpa using this
      rw [List.getElem?_set_self hl] at hj; cases hj
      refine ⟨p, List.getElem?_set_self (s.len ▸ hl), hF, hp, by rw [upd_same]; simp, ?_, hm, hg, fun C xs e => absurd e (hs C xs)⟩
      cases e : B.G p with
      | none => rfl
      | some u => have := (s.frm p u e).1; rw [h] at this; cases this
    · rw [List.getElem?_set_ne (Ne.symm z)] at hj ⊢
      exact s1.own j n hj
  · have new : ∀ {j n b}, j ≠ i → (env.set i (.own m))[j]? = some (.own n) → (σ.set i (some (.ref p)))[j]? = some (some (.ref b)) → b ≠ p := fun {j n b} z h1 h2 e => by
      subst e
      rw [List.getElem?_set_ne (Ne.symm z)] at h1 h2
      obtain ⟨c, g1, g2, g3, g4, g5⟩ := s.own j n h1
      rw [h2] at g1; cases g1
      exact g4 h
    have self : ∀ {b}, (σ.set i (some (.ref p)))[i]? = some (some (.ref b)) → b = p := fun {b} h => by
      have hl : i < σ.length := by have := (List.getElem?_eq_some_iff.mp h).1; simpa using this
      rw [List.getElem?_set_self hl] at h; cases h; rfl
    by_cases z1 : j = i
    · by_cases z2 : k = i
      · rw [z1, z2]
      · subst z1; exact absurd (self gj) (new z2 hk gk)
    · by_cases z2 : k = i
      · subst z2; exact absurd (self gk) (new z1 hj gj)
      · rw [List.getElem?_set_ne (Ne.symm z1)] at hj gj
        rw [List.getElem?_set_ne (Ne.symm z2)] at hk gk
        exact s.app j k n n' b hj hk gj gk
/-- an own thing joins the frozen part -/
theorem SatF.freeze {a : Addr} {d : D} (s : SatF T B F ad env mem ex σ H) (he : env[i]? = some (.own m)) (ha : σ[i]? = some (some (.ref a))) (ho : H a = some o) (hd : Is T (upd F a o) ad d (.ref a)) : SatF T B (upd F a o) ad (env.set i (.val d)) mem ex σ H := by
  obtain ⟨a', h1, h2, h3, h4, h5, h6, h7, h8⟩ := s.own i m he
  rw [ha] at h1; cases h1
  have hi := (List.getElem?_eq_some_iff.mp he).1
  have gr : Same F (upd F a o) := same_new h2
  refine ⟨s.sat.freeze h2 h3 ho, s.gro.trans gr, s.pre, fun b u e => ?_, by simp [s.len], fun j d' hj => ?_, fun j n hj => ?_, fun j k n n' b hj hk gj gk => ?_, fun q hq => (s.tmp q hq).mono gr (List.prefix_refl _)⟩
  · obtain ⟨g1, g2, g3⟩ := s.frm b u e
    have z : b ≠ a := fun z => by subst z; rw [h5] at e; cases e
    exact ⟨g1, by rw [upd_ne z]; exact g2, g3⟩
  · by_cases z : j = i
    · subst z; rw [List.getElem?_set_self hi] at hj; cases hj
      exact ⟨_, ha, hd⟩
    · rw [List.getElem?_set_ne (Ne.symm z)] at hj
      obtain ⟨v, g1, g2⟩ := s.val j d' hj
      exact ⟨v, g1, g2.mono gr (List.prefix_refl _)⟩
  · by_cases z : j = i
    · subst z; rw [List.getElem?_set_self hi] at hj; cases hj
    · rw [List.getElem?_set_ne (Ne.symm z)] at hj
      obtain ⟨b, g1, g2, g3, g4, g5, g6, g7⟩ := s.own j n hj
      have zb : b ≠ a := fun e => by subst e; exact z (s.app j i n m b hj he g1 ha)
      exact ⟨b, g1, by rw [upd_ne zb]; exact g2, g3, g4, g5, g6.mono gr (List.prefix_refl _) rfl, g7⟩
  · have nj : j ≠ i := fun z => by subst z; rw [List.getElem?_set_self hi] at hj; cases hj
    have nk : k ≠ i := fun z => by subst z; rw [List.getElem?_set_self hi] at hk; cases hk
    rw [List.getElem?_set_ne (Ne.symm nj)] at hj
    rw [List.getElem?_set_ne (Ne.symm nk)] at hk
    exact s.app j k n n' b hj hk gj gk
end
/-- what an own thing becomes -/
def frzD : MO → Option D
  | .lst xs => some (.lst xs)
  | _ => none
def mFrz (i : Nat) (g : MS) : MS := fun env mem => match env[i]? with
  | some (.own m) => (match frzD m with
    | some d => g (env.set i (.val d)) mem
    | none => .bad)
  | _ => .bad
def mOwn (i : Nat) (g : MA) : MS := fun env mem => (g env mem).flow env fun ds m => if ds.length ≤ sizeLine then .next (env.set i (.own (.lst ds))) m else .bad
/-- x, y = [], [] -/
def mOwn2 (i j : Nat) : MS := fun env mem => .next ((env.set i (.own (.lst []))).set j (.own (.lst []))) mem
def mApp (i : Nat) (f : ME) : MS := fun env mem => match env[i]? with
  | some (.own (.lst xs)) => (f env mem).flow env fun d m => if xs.length < sizeLine then .next (env.set i (.own (.lst (xs ++ [d])))) m else .bad
  | _ => .bad
def mExt (i : Nat) (f : ME) : MS := fun env mem => match env[i]? with
  | some (.own (.lst xs)) => (f env mem).flow env fun d m => (match items d with
    | some ys => if xs.length + ys.length ≤ sizeLine then .next (env.set i (.own (.lst (xs ++ ys)))) m else .bad
    | none => .bad)
  | _ => .bad
/-- x[e] = v -/
def mPutL (i : Nat) (f g : ME) : MS := fun env mem => match env[i]? with
  | some (.own (.lst xs)) => (f env mem).flow env fun d m => (g env m).flow env fun k m2 => (match k with
    | .int n => (match ixN xs.length n with
      | some j => .next (env.set i (.own (.lst (xs.set j d)))) m2
      | none => .bad)
    | _ => .bad)
  | _ => .bad
def mLenO (i : Nat) : ME := fun env mem => match env[i]? with
  | some (.own (.lst xs)) => .ok (.int xs.length) mem
  | _ => .bad
def mIxO (i : Nat) (f : ME) : ME := fun env mem => match env[i]? with
  | some (.own (.lst xs)) => (f env mem).bind fun k m => (match k with
    | .int n => (match atI xs n with
      | some d => .ok d m
      | none => .bad)
    | _ => .bad)
  | _ => .bad
def mItO (i : Nat) : MI := fun env mem => match env[i]? with
  | some (.own (.lst xs)) => .ok xs mem
  | _ => .bad
section
variable {nm : String → List Str} {B : Bs} {W : WX} {X : Cx} {e a b : Expr} {es : List Expr} {f g : ME} {fa : MA} {st : Stmt} {gs : MS} {pos p pos' apos : Pos} {x : Str}
theorem frz_run {T : Tx} {env : List Slot} {mem : List MO} {ex : List (V × D)} {σ : L2.St} {H : Hp} {i : Nat} {m : MO} {d : D} (s : SatX T B env mem ex σ H) (he : env[i]? = some (.own m)) (hd : frzD m = some d) : SatX T B (env.set i (.val d)) mem ex σ H := by
  obtain ⟨F, ad, s⟩ := s
  obtain ⟨a, h1, h2, h3, h4, h5, h6, h7⟩ := s.own i m he
  unfold frzD at hd
  split at hd
  · cases hd
    obtain ⟨vs, g1, g2⟩ := h6
    exact ⟨_, ad, s.freeze he h1 g1 ⟨a, vs, rfl, upd_same, g2.mono (same_new h2) (List.prefix_refl _)⟩⟩
  · cases hd
theorem ss_frz (i : Nat) (h : SS nm B W X st gs) : SS nm B W X st (mFrz i gs) :=
  PS.imp h fun Z σ H ⟨env, mem, ex, s, h⟩ => by
    unfold mFrz at h
    split at h
    case h_2 => exact h.elim
    rename_i m em
    split at h
    case h_2 => exact h.elim
    rename_i d ed
    exact ⟨_, mem, ex, frz_run s em ed, h⟩
/-- x = [e, ..] -/
theorem ss_own (i : Nat) (he : SA nm B W X es fa) (hN : X.N.Nodup) (hi : X.N[i]? = some x := by rfl) (hx : Loc X.env.scope x := by first | exact Or.inl rfl | exact Or.inr rfl) (hs : swapsWith (.List es p) (some (.Name x pos')) pos.line X.env = pure false := by rfl) (hf : X.fn x = true ∨ X.env.scope.names.lookup x = some .local := by first | exact .inl rfl | exact .inr rfl) :
    SS nm B W X (.Assign [.Name x pos'] (.List es p) pos) (mOwn i fa) :=
  PS.imp (ps_set hN hi hx (pe_lst he) hs hf) fun Z σ H ⟨env, mem, ex, s, h⟩ =>
    ⟨env, mem, ex, s, (ks_of h).mono fun ds m q vs H' l ⟨F, ad, s'⟩ => by
      split at q
      case isFalse => exact q.elim
      rename_i hz
      refine ⟨by rw [l]; exact hz, fun p hp => q _ _ ⟨F, ad, SatF.set_own (s'.sub fun x hx => List.mem_append_right _ hx) hp ⟨vs, upd_same, zip_tmp l fun x hx => s'.tmp x (List.mem_append_left _ hx)⟩ (fun z => by cases z) (fun _ _ z => by cases z)⟩⟩⟩
/-- x, y = [], [] -/
theorem ss_own2 (i j : Nat) {y : Str} {kt k2 pt2 p1 p2 px py pt} (hc : X.calm = true) (hN : X.N.Nodup) (hi : X.N[i]? = some x := by rfl) (hj : X.N[j]? = some y := by rfl) (hij : i ≠ j := by decide)
    (hx : X.env.scope.names.lookup x = some .local := by rfl) (hy : X.env.scope.names.lookup y = some .local := by rfl)
    (hw : swappedStores [.Tuple [.Name x px, .Name y py] kt pt] (.Tuple [.List [] p1, .List [] p2] k2 pt2) X.env = pure (some [x, y]) := by rfl)
    (hs : swapsWithSole [.Tuple [.Name x px, .Name y py] kt pt] (.Tuple [.List [] p1, .List [] p2] k2 pt2) pos.line X.env = pure false := by rfl) :
    SS nm B W X (.Assign [.Tuple [.Name x px, .Name y py] kt pt] (.Tuple [.List [] p1, .List [] p2] k2 pt2) pos) (mOwn2 i j) :=
  PS.imp (ps_par hc hN hi hj hij hx hy (pa_cons (pe_lst pa_nil) (pa_cons (pe_lst pa_nil) pa_nil)) hw hs) fun Z σ H ⟨env, mem, ex, ⟨F, ad, s⟩, h⟩ => by
    refine ⟨Nat.zero_le _, fun p hp => ⟨Nat.zero_le _, fun q hq => ?_⟩⟩
    refine ⟨_, _, rfl, ?_⟩
    have s1 := SatF.set_own (i := i) (m := .lst []) (o := .lst []) s hp ⟨[], upd_same, IsL.nil⟩ (fun z => by cases z) (fun _ _ z => by cases z)
    have s2 := SatF.set_own (i := j) (m := .lst []) (o := .lst []) s1 hq ⟨[], upd_same, IsL.nil⟩ (fun z => by cases z) (fun _ _ z => by cases z)
    exact h _ _ ⟨F, ad, s2⟩
/-- the address of an own list -/
theorem own_at {T : Tx} {F : Hp} {ad : List Addr} {env : List Slot} {mem : List MO} {ex : List (V × D)} {σ : L2.St} {H : Hp} {i : Nat} {xs : List D} (s : SatF T B F ad env mem ex σ H) (he : env[i]? = some (.own (.lst xs))) :
    ∃ l vs, σ[i]? = some (some (.ref l)) ∧ H l = some (.lst vs) ∧ IsL T F ad xs vs := by
  obtain ⟨a, h1, _, _, _, _, ⟨vs, g1, g2⟩, _⟩ := s.own i _ he
  exact ⟨a, vs, h1, g1, g2⟩
theorem ext_tup (l : Addr) (items : Array Value) (n : Nat) (b : Addr) (o2 : Obj) (items2 : Array Value) (n2 : Nat) (hcl : o2.cls = .type "tuple") (hda : o2.data = .seq items2 n2) (hs0 : ¬(!items.isEmpty && Builtin.List.listTooLong (items.size + items2.size)) = true) (hs1 : items.size ≤ sizeLine) (hs2 : items.size + items2.size ≤ sizeLine + 1) :
    Meets (Builtin.«list.extend» ⟨[.ref l, .ref b], []⟩) (fun _ R s => s.heap.get? l = some { cls := .type "list", dict := none, data := .seq items n, slots := #[] } ∧ s.heap.get? b = some o2 ∧ R (.ok (.ret Value.none)) { s with heap := s.heap.update l (Obj.mapSeq fun x => x ++ items2), toks := s.toks }) :=
  .of_wp fun prog w A R s h => by
    obtain ⟨hp, g, d, tk, os⟩ := s; obtain ⟨hl, hb, h⟩ := h; have f1 := AutoSeq1.idx_int; have f2 := AutoSeq1.sub_tuple_tuple; have f3 := AutoSeq1.sub_list_list; have f4 := AutoSeq1.sub_tuple_list; have f5 := AutoSeq1.sub_list_tuple;
    obtain ⟨c2, d2, a2, s2⟩ := o2
    dsimp only at hcl hda
    subst hcl hda
    have hz' : (items ++ items2).size ≤ sizeLine + 1 := by rw [Array.size_append]; exact hs2
    wp_walk using (wpAny_updateSeq hl rfl (hz := hs1) (_hz' := hz')), AutoSeq1.wpAny_loadPart' hl, AutoSeq1.wpAny_loadPart' hb; exact ⟨_, rfl, h⟩
def rExtT (K : PySem.W.Frag) : V → List V → Hp → VK → Prop := fun x vs H Q => ∃ l b xs zs, x = .ref l ∧ vs = [.ref b] ∧ H l = some (.lst xs) ∧ SqT K H b zs ∧ xs.length + zs.length ≤ sizeLine ∧ Q .non (upd H l (.lst (xs ++ zs)))
theorem mt_extT : MtR X "list.extend" (rExtT X.K) := by
  intro pins s σ H x vs v us Q I rx rv h
  obtain ⟨l, b, xs, zs, rfl, rfl, hH, hB, hz, q⟩ := h
  cases rx
  obtain ⟨u, rfl, ru⟩ := rv.one
  cases ru
  obtain ⟨z, its, n, r, hl, e⟩ := I.lstM hH
  obtain ⟨its2, r2, ⟨o2, e2, hc2, n2, hd2⟩, z2⟩ := I.tuple hB
  have hl2 := r2.length
  have hsz : its.toArray.size + its2.toArray.size ≤ sizeLine := by rw [List.size_toArray, List.size_toArray]; omega
  have hlong : ¬ (!its.toArray.isEmpty && Builtin.List.listTooLong (its.toArray.size + its2.toArray.size)) = true := by
    rw [notLongL hsz, Bool.and_false]
    exact Bool.false_ne_true
  refine call_meets F.slot_list_extend ⟨_, e, rfl⟩ F.entry_list_extend (F.args_list_extend_2 _ _)
    (ext_tup l its.toArray n b o2 its2.toArray n2 hc2 hd2 hlong (by rw [List.size_toArray]; omega) (by omega)) ⟨e, e2, ?_⟩
  refine ⟨.non, _, I.lset (its' := its ++ its2) hH e (by simp) (r.append r2) ?_, rfl, q⟩
  rw [List.length_append]
  omega
theorem ss_app (i : Nat) (he : SE nm B W X e f) (hi : X.N[i]? = some x := by rfl) (hv : Vis X.env.scope x := by first | exact Or.inl rfl | exact Or.inr (Or.inl rfl) | exact Or.inr (Or.inr rfl)) (hd : (x == ("__debug__" : Str)) = false := by decide) (hcd : (x == ("__classdict__" : Str)) = false := by decide)
    (hbase : attributeBase (.Name x p) "append" X.env (eval (.Name x p) X.env) = eval (.Name x p) X.env := by rfl)
    (hfew : ((backTo pos' (starEach [e] X.env)).all (fun x => !x.1) && (backToKw pos' (keywordEach [] X.env)).all (fun x => x.1.isSome)
      && decide (([e] : List Expr).length + ([] : List Keyword).length + (if ([] : List Keyword).isEmpty then 0 else 1) < 30)) = true := by rfl)
    (hline : (apos.endLine == pos'.line) = true := by rfl) (hs : starEach [e] X.env = (false, eval e X.env) :: starEach [] X.env := by rfl)
    (hsw : swapsWith (.Call (.Attribute (.Name x p) "append" apos) [e] [] pos') none pos.line X.env = pure false := by rfl) : SS nm B W X (.Expr (.Call (.Attribute (.Name x p) "append" apos) [e] [] pos') pos) (mApp i f) :=
  PS.imp (ps_expr (pe_bm F.plainAttrs_list F.slot_list_append F.type_list_append mt_append (pe_var hi hv hd hcd) (pa_cons he pa_nil hs) hbase hfew hline hs rfl) hsw) fun Z σ H ⟨env, mem, ex, s, h⟩ => by
    unfold mApp at h
    split at h
    case h_2 => exact h.elim
    rename_i xs ex1
    obtain ⟨F0, ad0, s0⟩ := id s
    obtain ⟨l, vs0, hσ, g1, _⟩ := own_at s0 ex1
    refine ⟨.ref l, hσ, .inl ⟨rfl, vs0, SqL.of g1⟩, env, mem, ex, s, (ks_of h).mono fun d m q v H' ⟨F, ad, s'⟩ => ?_⟩
    split at q
    case isFalse => exact q.elim
    rename_i hz
    obtain ⟨l', vs, hσ', g2, g3⟩ := own_at s' ex1
    rw [hσ] at hσ'; cases hσ'
    refine ⟨l, vs, v, rfl, rfl, g2, by rw [g3.length]; exact hz, ?_⟩
    exact q _ _ ⟨F, ad, (s'.pop.put_own (m' := .lst (xs ++ [d])) ex1 hσ ⟨_, upd_same, g3.append (IsL.cons s'.top IsL.nil)⟩ (fun z => by cases z) fun _ _ z => by cases z)⟩
theorem ss_ext (i : Nat) (he : SE nm B W X e f) (hi : X.N[i]? = some x := by rfl) (hv : Vis X.env.scope x := by first | exact Or.inl rfl | exact Or.inr (Or.inl rfl) | exact Or.inr (Or.inr rfl)) (hd : (x == ("__debug__" : Str)) = false := by decide) (hcd : (x == ("__classdict__" : Str)) = false := by decide)
    (hbase : attributeBase (.Name x p) "extend" X.env (eval (.Name x p) X.env) = eval (.Name x p) X.env := by rfl)
    (hfew : ((backTo pos' (starEach [e] X.env)).all (fun x => !x.1) && (backToKw pos' (keywordEach [] X.env)).all (fun x => x.1.isSome)
      && decide (([e] : List Expr).length + ([] : List Keyword).length + (if ([] : List Keyword).isEmpty then 0 else 1) < 30)) = true := by rfl)
    (hline : (apos.endLine == pos'.line) = true := by rfl) (hs : starEach [e] X.env = (false, eval e X.env) :: starEach [] X.env := by rfl)
    (hsw : swapsWith (.Call (.Attribute (.Name x p) "extend" apos) [e] [] pos') none pos.line X.env = pure false := by rfl) : SS nm B W X (.Expr (.Call (.Attribute (.Name x p) "extend" apos) [e] [] pos') pos) (mExt i f) :=
  PS.imp (ps_expr (pe_bm F.plainAttrs_list F.slot_list_extend F.type_list_extend (MtR.or mt_extend mt_extT) (pe_var hi hv hd hcd) (pa_cons he pa_nil hs) hbase hfew hline hs rfl) hsw) fun Z σ H ⟨env, mem, ex, s, h⟩ => by
    unfold mExt at h
    split at h
    case h_2 => exact h.elim
    rename_i xs ex1
    obtain ⟨F0, ad0, s0⟩ := id s
    obtain ⟨l, vs0, hσ, g1, _⟩ := own_at s0 ex1
    refine ⟨.ref l, hσ, .inl ⟨rfl, vs0, SqL.of g1⟩, env, mem, ex, s, (ks_of h).mono fun d m q v H' ⟨F, ad, s'⟩ => ?_⟩
    split at q
    case h_2 => exact q.elim
    rename_i ys ei
    split at q
    case isFalse => exact q.elim
    rename_i hz
    obtain ⟨l', vs, hσ', g2, g3⟩ := own_at s' ex1
    rw [hσ] at hσ'; cases hσ'
    have fin : ∀ us, IsL (tx X nm) F ad ys us → Z.nx σ (upd H' l (.lst (vs ++ us))) := fun us hu =>
      q _ _ ⟨F, ad, (s'.pop.put_own (m' := .lst (xs ++ ys)) ex1 hσ ⟨_, upd_same, g3.append hu⟩ (fun z => by cases z) fun _ _ z => by cases z)⟩
    cases d with
    | lst zs =>
      cases ei
      obtain ⟨b, us, rfl, h1, h2⟩ := s'.top
      exact .inl ⟨l, b, vs, us, rfl, rfl, g2, s'.sat.sub _ _ h1, by rw [g3.length, h2.length]; exact hz, fin us h2⟩
    | tup zs =>
      cases ei
      obtain ⟨b, us, rfl, h1, h2⟩ := s'.top
      exact .inr ⟨l, b, vs, us, rfl, rfl, g2, sqT_mono s'.sat.sub h1, by rw [g3.length, h2.length]; exact hz, fin us h2⟩
    | _ => cases ei
theorem ss_putL (i : Nat) (he : SE nm B W X e f) (hk : SE nm B W X a g) (hi : X.N[i]? = some x := by rfl) (hv : Vis X.env.scope x := by first | exact Or.inl rfl | exact Or.inr (Or.inl rfl) | exact Or.inr (Or.inr rfl)) (hd : (x == ("__debug__" : Str)) = false := by decide) (hcd : (x == ("__classdict__" : Str)) = false := by decide)
    (ha : ∀ v, assign (.Subscript (.Name x p) a pos') X.env v = (do
      let ov ← holding [v] (eval (.Name x p) X.env)
      let iv ← holding [v, ov] (eval a X.env)
      standAt pos'
      holding [v, ov, iv] (setItem ov iv v)
      release [v, ov, iv] []) := by intro _; rfl)
    (hs : swapsWithSole [.Subscript (.Name x p) a pos'] e pos.line X.env = pure false := by rfl) (hw : swappedStores [.Subscript (.Name x p) a pos'] e X.env = pure none := by rfl)
    (h1 : (assignEach [.Subscript (.Name x p) a pos'] X.env).map (·.2) = [assign (.Subscript (.Name x p) a pos') X.env] := by rfl) : SS nm B W X (.Assign [.Subscript (.Name x p) a pos'] e pos) (mPutL i f g) :=
  PS.imp (ps_asg he (pg_sub (pe_var hi hv hd hcd) hk set_list ha) hs hw h1) fun Z σ H ⟨env, mem, ex, s, h⟩ => by
    unfold mPutL at h
    split at h
    case h_2 => exact h.elim
    rename_i xs ex1
    obtain ⟨F0, ad0, s0⟩ := id s
    obtain ⟨l, vs0, hσ, g1, _⟩ := own_at s0 ex1
    refine ⟨env, mem, ex, s, (ks_of h).mono fun d m q v H1 s1 => ⟨.ref l, hσ, env, m, (v, d) :: ex, s1, ?_⟩⟩
    refine (ks_of q).push1.mono fun k m2 q2 u H2 ⟨F, ad, s2⟩ => ?_
    split at q2
    case h_2 => exact q2.elim
    split at q2
    case h_2 => exact q2.elim
    rename_i j hj
    obtain ⟨l', vs, hσ', g2, g3⟩ := own_at s2 ex1
    rw [hσ] at hσ'; cases hσ'
    refine ⟨l, vs, _, j, rfl, s2.top, g2, by rw [g3.length]; exact hj, ?_⟩
    exact q2 _ _ ⟨F, ad, (s2.pop.pop.put_own (m' := .lst (xs.set j d)) ex1 hσ ⟨_, upd_same, IsL.set (s2.tmp (v, d) (by simp)) j g3⟩ (fun z => by cases z) fun _ _ z => by cases z)⟩
/-- len(x) -/
theorem se_lenO (i : Nat) (hm : X.mg "len" = none) (hg : Gl X "len" := by rfl) (hi : X.N[i]? = some x := by rfl) (hv : Vis X.env.scope x := by first | exact Or.inl rfl | exact Or.inr (Or.inl rfl) | exact Or.inr (Or.inr rfl)) (hd : (x == ("__debug__" : Str)) = false := by decide) (hcd : (x == ("__classdict__" : Str)) = false := by decide)
    (hs : starEach [.Name x p] X.env = (false, eval (.Name x p) X.env) :: starEach [] X.env := by rfl) : SE nm B W X (.Call (.Name "len" pos') [.Name x p] [] pos) (mLenO i) :=
  PE.imp (pe_callB call_len hg hm rfl (pa_cons (pe_var hi hv hd hcd) pa_nil hs)) fun σ H Q ⟨env, mem, ex, s, h⟩ => by
    unfold mLenO at h
    split at h
    case h_2 => exact h.elim
    rename_i xs ex1
    obtain ⟨F, ad, s⟩ := s
    obtain ⟨l, vs, hσ, g1, g2⟩ := own_at s ex1
    refine ⟨.ref l, hσ, _, vs.length, rfl, .inl ⟨vs, SqL.of g1, rfl⟩, ?_⟩
    rw [g2.length]
    exact h _ H ⟨F, ad, s.push rfl⟩
/-- x[e] -/
theorem se_ixO (i : Nat) (hb : SE nm B W X b f) (hs : PlainIx b := by exact fun _ _ => rfl) (hi : X.N[i]? = some x := by rfl) (hv : Vis X.env.scope x := by first | exact Or.inl rfl | exact Or.inr (Or.inl rfl) | exact Or.inr (Or.inr rfl)) (hd : (x == ("__debug__" : Str)) = false := by decide) (hcd : (x == ("__classdict__" : Str)) = false := by decide) :
    SE nm B W X (.Subscript (.Name x p) b pos) (mIxO i f) :=
  PE.imp (pe_ix ix_list (pe_var hi hv hd hcd) hb hs) fun σ H Q ⟨env, mem, ex, s, h⟩ => by
    unfold mIxO at h
    split at h
    case h_2 => exact h.elim
    rename_i xs ex1
    obtain ⟨F0, ad0, s0⟩ := id s
    obtain ⟨l, vs0, hσ, _, _⟩ := own_at s0 ex1
    refine ⟨.ref l, hσ, env, mem, ex, s, h.bind.mono fun k m q v H1 ⟨F, ad, s1⟩ => ?_⟩
    split at q
    case h_2 => exact q.elim
    split at q
    case h_2 => exact q.elim
    rename_i d hd
    obtain ⟨l', vs, hσ', g1, g2⟩ := own_at s1 ex1
    rw [hσ] at hσ'; cases hσ'
    obtain ⟨w, k1, k2⟩ := isL_at g2 hd
    exact ⟨l, vs, _, w, rfl, s1.top, SqL.of g1, k1, q w H1 ⟨F, ad, s1.pop.push k2⟩⟩
/-- for .. in x, x standing as it is -/
theorem sio_own (i : Nat) {tg : Expr} (hi : X.N[i]? = some x := by rfl) (hv : Vis X.env.scope x := by first | exact Or.inl rfl | exact Or.inr (Or.inl rfl) | exact Or.inr (Or.inr rfl)) (hd : (x == ("__debug__" : Str)) = false := by decide) (hcd : (x == ("__classdict__" : Str)) = false := by decide) :
    SIo nm B W X tg (.Name x p) (mItO i) :=
  PI.imp (pi_list (pe_var hi hv hd hcd)) fun σ H R ⟨env, mem, ex, s, h⟩ => by
    unfold mItO at h
    split at h
    case h_2 => exact h.elim
    rename_i xs ex1
    obtain ⟨F, ad, s0⟩ := id s
    obtain ⟨l, vs, hσ, g1, g2⟩ := own_at s0 ex1
    refine ⟨.ref l, hσ, l, rfl, ⟨vs, SqL.of g1⟩, h _ [] (fun env σ => env[i]? = some (.own (.lst xs)) ∧ σ[i]? = some (some (.ref l))) F ad H s0 ⟨ex1, hσ⟩ ?_⟩
    intro B i' env' mem' ex' σ' H' _ ⟨p1, p2⟩ ⟨F', ad', s'⟩
    obtain ⟨l', ws, hσ', k1, k2⟩ := own_at s' p1
    rw [p2] at hσ'; cases hσ'
    have hq := SqL.of (K := X.K) k1
    refine ⟨fun d hd => ?_, fun hn => ⟨ws, hq, ?_⟩⟩
    · obtain ⟨x, hx, hi⟩ := k2.get hd
      refine ⟨⟨ws, x, hq, hx⟩, fun y H2 ⟨eH, hy⟩ => ?_⟩
      subst eH
      have e2 := hy ws hq
      rw [hx] at e2
      cases e2
      exact ⟨F', ad', s'.push hi⟩
    · rw [k2.length]; exact List.getElem?_eq_none_iff.mp hn
end
/-! ### dicts -/
/-- what an expression gives is locked for good -/
def tPermE (t : TE) : TE := fun σ H Q => t σ H fun v H1 => ∃ d u, v = .ref d ∧ H1 d = some u ∧ Mut (some u) ∧ ∀ od, Q v (upd H1 d (.frz od u))
def tPermS (t : TS) : TS := fun Z σ H => ∃ d u, H d = some u ∧ Mut (some u) ∧ ∀ od, t Z σ (upd H d (.frz od u))
section
variable {X : Cx}
theorem pe_perm {e : Expr} {t : TE} (h : PE X e t) : PE X e (tPermE t) := ⟨fun pins s σ H Q I q => thn (h.run pins s σ H _ I q) fun v s1 ⟨x, H1, I1, r, d, u, ex, hd, mu, q1⟩ => by
  obtain ⟨od, I2⟩ := I1.lock hd mu
  exact ⟨x, _, I2, r, q1 od⟩⟩
theorem ps_perm {st : Stmt} {t : TS} (h : PS X st t) : PS X st (tPermS t) := ⟨fun pins s σ H Z I ⟨d, u, hd, mu, q⟩ => by
  obtain ⟨od, I1⟩ := I.lock hd mu
  exact h.run pins s σ _ Z I1 (q od)⟩
end
section
variable {T : Tx} {B : Bs} {F : Hp} {ad : List Addr} {env : List Slot} {mem : List MO} {ex : List (V × D)} {σ : L2.St} {H : Hp} {i : Nat} {p : Addr} {o u : HO} {m : MO}
/-- an own dict joins the frozen part, locked -/
theorem SatF.freezeK {a : Addr} {d : D} (s : SatF T B F ad env mem ex σ H) (he : env[i]? = some (.own m)) (ha : σ[i]? = some (some (.ref a))) (ho : H a = some u) (hd : Is T (upd F a o) ad d (.ref a)) : SatF T B (upd F a o) ad (env.set i (.val d)) mem ex σ (upd H a o) := by
  obtain ⟨a', h1, h2, h3, h4, h5, h6, h7, h8⟩ := s.own i m he
  rw [ha] at h1; cases h1
  have hi := (List.getElem?_eq_some_iff.mp he).1
  have gr : Same F (upd F a o) := same_new h2
  refine ⟨⟨same_upd s.sat.sub, s.sat.len, s.sat.nd, fun b hb => ?_, fun j b n g1 g2 g3 => ?_⟩, s.gro.trans gr, s.pre, fun b u e => ?_, by simp [s.len], fun j d' hj => ?_, fun j n hj => ?_, fun j k n n' b hj hk gj gk => ?_, fun q hq => (s.tmp q hq).mono gr (List.prefix_refl _)⟩
  · rw [upd_ne (show b ≠ a from fun z => h3 (by rw [← z]; exact hb))]; exact s.sat.there b hb
  · have z : b ≠ a := fun z => h3 (by rw [← z]; exact List.mem_of_getElem? g1)
    obtain ⟨k1, k2⟩ := s.sat.obj j b n g1 g2 g3
    exact ⟨by rw [upd_ne z]; exact k1, k2.mono gr (List.prefix_refl _) (upd_ne z)⟩
  · obtain ⟨g1, g2, g3⟩ := s.frm b u e
    have z : b ≠ a := fun z => by subst z; rw [h5] at e; cases e
    exact ⟨by rw [upd_ne z]; exact g1, by rw [upd_ne z]; exact g2, g3⟩
  · by_cases z : j = i
    · subst z; rw [List.getElem?_set_self hi] at hj; cases hj
      exact ⟨_, ha, hd⟩
    · rw [List.getElem?_set_ne (Ne.symm z)] at hj
      obtain ⟨v, g1, g2⟩ := s.val j d' hj
      exact ⟨v, g1, g2.mono gr (List.prefix_refl _)⟩
  · by_cases z : j = i
    · subst z; rw [List.getElem?_set_self hi] at hj; cases hj
    · rw [List.getElem?_set_ne (Ne.symm z)] at hj
      obtain ⟨b, g1, g2, g3, g4, g5, g6, g7⟩ := s.own j n hj
      have zb : b ≠ a := fun e => by subst e; exact z (s.app j i n m b hj he g1 ha)
      exact ⟨b, g1, by rw [upd_ne zb]; exact g2, g3, by rw [upd_ne zb]; exact g4, g5, g6.mono gr (List.prefix_refl _) (upd_ne zb), g7⟩
  · have nj : j ≠ i := fun z => by subst z; rw [List.getElem?_set_self hi] at hj; cases hj
    have nk : k ≠ i := fun z => by subst z; rw [List.getElem?_set_self hi] at hk; cases hk
    rw [List.getElem?_set_ne (Ne.symm nj)] at hj
    rw [List.getElem?_set_ne (Ne.symm nk)] at hk
    exact s.app j k n n' b hj hk gj gk
end
def mFrzD (i : Nat) (g : MS) : MS := fun env mem => match env[i]? with
  | some (.own (.dic ks xs)) => g (env.set i (.val (.dic ks xs))) mem
  | _ => .bad
/-- x = dict(e) -/
def mOwnD (i : Nat) (f : ME) : MS := fun env mem => (f env mem).flow env fun d m => match d with
  | .dic ks xs => .next (env.set i (.own (.dic ks xs))) m
  | _ => .bad
def repD {α : Type} (ks : List Key) (xs : List α) (k : Key) (d : α) : List α := (ks.zip xs).map fun p => if p.1 = k then d else p.2
def putD (ks : List Key) (xs : List D) (k : Key) (d : D) : List Key × List D := if (ks.any fun a => decide (a = k)) = true then (ks, repD ks xs k d) else (ks ++ [k], xs ++ [d])
/-- x[e] = v -/
def mPutD (i : Nat) (f g : ME) : MS := fun env mem => match env[i]? with
  | some (.own (.dic ks xs)) => (f env mem).flow env fun d m => (g env m).flow env fun y m2 => (match kD y with
    | some k => if ks.length < sizeLine then .next (env.set i (.own (.dic (putD ks xs k d).1 (putD ks xs k d).2))) m2 else .bad
    | none => .bad)
  | _ => .bad
theorem any_zip {k : Key} : ∀ {ks : List Key} {vs : List V}, vs.length = ks.length → ((ks.zip vs).any fun kv => decide (kv.1 = k)) = ks.any fun a => decide (a = k)
  | [], [], _ => rfl
  | a :: ks, v :: vs, h => by
    have ih := any_zip (k := k) (ks := ks) (vs := vs) (by simpa using h)
    rw [List.zip_cons_cons, List.any_cons, List.any_cons, ih]
theorem rep_zip {k : Key} {v : V} : ∀ {ks : List Key} {vs : List V}, vs.length = ks.length → (ks.zip vs).map (fun kv => if kv.1 = k then (kv.1, v) else kv) = ks.zip (repD ks vs k v)
  | [], [], _ => rfl
  | a :: ks, u :: vs, h => by
    have ih := rep_zip (k := k) (v := v) (ks := ks) (vs := vs) (by simpa using h)
    unfold repD at ih ⊢
    rw [List.zip_cons_cons, List.map_cons, List.map_cons, List.zip_cons_cons, ih]
    by_cases z : a = k
    · simp [z]
    · simp [z]
theorem rep_len {α : Type} {k : Key} {d : α} {ks : List Key} {xs : List α} (h : xs.length = ks.length) : (repD ks xs k d).length = ks.length := by
  unfold repD
  simp [h]
theorem rep_is {T : Tx} {F : Hp} {ad : List Addr} {k : Key} {d : D} {v : V} (hd : Is T F ad d v) : ∀ {ks : List Key} {xs : List D} {vs : List V}, IsL T F ad xs vs → IsL T F ad (repD ks xs k d) (repD ks vs k v)
  | [], _, _, _ => by simp [repD]; exact IsL.nil
  | a :: ks, [], vs, h => by cases h; simp [repD]; exact IsL.nil
  | a :: ks, x :: xs, _, h => by
    obtain ⟨u, vs, rfl, h1, h2⟩ := h
    have ih := rep_is (k := k) hd (ks := ks) h2
    unfold repD at ih ⊢
    rw [List.zip_cons_cons, List.zip_cons_cons, List.map_cons, List.map_cons]
    refine IsL.cons ?_ ih
    by_cases z : a = k
    · simp [z]; exact hd
    · simp [z]; exact h1
theorem put_zip {T : Tx} {F : Hp} {ad : List Addr} {k : Key} {v : V} {d : D} {ks : List Key} {xs : List D} {vs : List V} (hl : vs.length = ks.length) (h : IsL T F ad xs vs) (hd : Is T F ad d v) :
    ∃ us, putK (ks.zip vs) k v = (putD ks xs k d).1.zip us ∧ us.length = (putD ks xs k d).1.length ∧ IsL T F ad (putD ks xs k d).2 us := by
  unfold putK putD
  rw [any_zip hl]
  by_cases z : (ks.any fun a => decide (a = k)) = true
  · rw [if_pos z, if_pos z]
    exact ⟨repD ks vs k v, rep_zip hl, rep_len hl, rep_is hd h⟩
  · rw [if_neg z, if_neg z]
    exact ⟨vs ++ [v], by rw [List.zip_append hl.symm]; rfl, by simp [hl], h.append (IsL.cons hd IsL.nil)⟩
def rDCopy : List V → Hp → VK → Prop := fun xs H Q => ∃ a kvs, xs = [V.ref a] ∧ Rd H a (.dK kvs) ∧ ∀ p, H p = none → Q (.ref p) (upd H p (.dK kvs))
section
variable {nm : String → List Str} {B : Bs} {W : WX} {X : Cx} {e a b : Expr} {es : List Expr} {f g : ME} {fa : MA} {st : Stmt} {gs : MS} {pos p pos' apos np : Pos} {x : Str}
theorem c_dcopy : CallR X (.type "dict") rDCopy := by
  intro pins s σ H xs us Q I r h
  obtain ⟨a, kvs, rfl, ha, q⟩ := h
  obtain ⟨u, rfl, ru⟩ := vals1 r
  cases ru
  exact d_copyOf I ha fun p s' hp I' => ⟨.ref p, _, I', rfl, q p hp⟩
theorem ss_frzD (i : Nat) (h : SS nm B W X st gs) : SS nm B W X st (mFrzD i gs) :=
  PS.imp (ps_perm h) fun Z σ H ⟨env, mem, ex, ⟨F, ad, s⟩, h⟩ => by
    unfold mFrzD at h
    split at h
    case h_2 => exact h.elim
    rename_i ks xs em
    obtain ⟨a, h1, h2, h3, h4, h5, ⟨vs, g1, g2, g3⟩, h7⟩ := s.own i _ em
    refine ⟨a, _, g1, trivial, fun od => ⟨_, mem, ex, ⟨_, ad, s.freezeK (o := .frz od (.dK (ks.zip vs))) (d := .dic ks xs) em h1 g1 ⟨a, od, vs, rfl, upd_same, g2, g3.mono (same_new h2) (List.prefix_refl _)⟩⟩, h⟩⟩
theorem ss_ownD (i : Nat) (he : SE nm B W X e f) (hN : X.N.Nodup) (hm : X.mg "dict" = none) (hg : Gl X "dict" := by rfl) (hi : X.N[i]? = some x := by rfl) (hx : Loc X.env.scope x := by first | exact Or.inl rfl | exact Or.inr rfl) (h1 : starEach [e] X.env = (false, eval e X.env) :: starEach [] X.env := by rfl)
    (hs : swapsWith (.Call (.Name "dict" np) [e] [] p) (some (.Name x pos')) pos.line X.env = pure false := by rfl) (hf : X.fn x = true ∨ X.env.scope.names.lookup x = some .local := by first | exact .inl rfl | exact .inr rfl) :
    SS nm B W X (.Assign [.Name x pos'] (.Call (.Name "dict" np) [e] [] p) pos) (mOwnD i f) :=
  PS.imp (ps_set hN hi hx (pe_callTy c_dcopy hg hm rfl (pa_cons he pa_nil h1) (he := h1)) hs hf) fun Z σ H ⟨env, mem, ex, s, h⟩ =>
    ⟨env, mem, ex, s, (ks_of h).mono fun d m q v H' ⟨F, ad, s'⟩ => by
      cases d with
      | dic ks xs =>
        obtain ⟨a, o, vs, rfl, g1, g2, g3⟩ := s'.top
        refine ⟨a, _, rfl, .inr ⟨o, s'.sat.sub _ _ g1⟩, fun p hp => ?_⟩
        exact q _ _ ⟨F, ad, SatF.set_own s'.pop hp ⟨vs, upd_same, g2, g3⟩ (fun z => by cases z) (fun _ _ z => by cases z)⟩
      | _ => exact q.elim⟩
theorem ss_putD (hu : X.A.units + 1 < cLine) (i : Nat) (he : SE nm B W X e f) (hk : SE nm B W X a g) (hi : X.N[i]? = some x := by rfl) (hv : Vis X.env.scope x := by first | exact Or.inl rfl | exact Or.inr (Or.inl rfl) | exact Or.inr (Or.inr rfl)) (hd : (x == ("__debug__" : Str)) = false := by decide) (hcd : (x == ("__classdict__" : Str)) = false := by decide)
    (hs : swapsWith e (some (.Subscript (.Name x p) a pos')) pos.line X.env = pure false := by rfl) : SS nm B W X (.Assign [.Subscript (.Name x p) a pos'] e pos) (mPutD i f g) :=
  PS.imp (ps_dput hu (pe_var hi hv hd hcd) hk he hs) fun Z σ H ⟨env, mem, ex, s, h⟩ => by
    unfold mPutD at h
    split at h
    case h_2 => exact h.elim
    rename_i ks xs ex1
    refine ⟨env, mem, ex, s, (ks_of h).mono fun d m q v H1 s1 => ?_⟩
    obtain ⟨F0, ad0, s0⟩ := id s1
    obtain ⟨l, hσ, _, _, _, _, _, _⟩ := s0.own i _ ex1
    refine ⟨.ref l, hσ, env, m, (v, d) :: ex, s1, ?_⟩
    refine (ks_of q).push1.mono fun y m2 q2 u H2 ⟨F, ad, s2⟩ => ?_
    split at q2
    case h_2 => exact q2.elim
    rename_i k ek
    split at q2
    case isFalse => exact q2.elim
    rename_i hz
    obtain ⟨l', hσ', _, _, _, _, ⟨vs, g1, g2, g3⟩, _⟩ := s2.own i _ ex1
    rw [hσ] at hσ'; cases hσ'
    obtain ⟨us, k1, k2, k3⟩ := put_zip (k := k) g2 g3 (s2.tmp (v, d) (by simp))
    refine ⟨l, _, rfl, .inl ⟨_, k, g1, kD_is ek s2.top, by simp [g2]; exact hz, rfl⟩, ?_⟩
    rw [k1]
    exact q2 _ _ ⟨F, ad, (s2.pop.pop.put_own (m' := .dic _ _) ex1 hσ ⟨us, upd_same, k2, k3⟩ (fun z => by cases z) fun _ _ z => by cases z)⟩
end
/-! ### displays -/
def nodupB : List Key → Bool
  | [] => true
  | k :: r => !(r.any fun a => decide (a = k)) && nodupB r
theorem putK_new {k : Key} {v : V} {acc : List (Key × V)} (h : ∀ p ∈ acc, p.1 ≠ k) : putK acc k v = acc ++ [(k, v)] := by
  unfold putK
  rw [if_neg]
  simp only [List.any_eq_true, decide_eq_true_eq, not_exists, not_and]
  exact h
theorem merge_new : ∀ {ks : List Key} {vs : List V} {acc : List (Key × V)}, nodupB ks = true → (∀ p ∈ acc, p.1 ∉ ks) → mergeK acc (ks.zip vs) = acc ++ ks.zip vs
  | [], _, acc, _, _ => by simp [mergeK]
  | k :: ks, [], acc, _, _ => by simp [mergeK]
  | k :: ks, v :: vs, acc, h, d => by
    obtain ⟨h1, h2⟩ := Bool.and_eq_true_iff.mp h
    have hk : k ∉ ks := fun z => by
      have : (ks.any fun a => decide (a = k)) = true := List.any_eq_true.mpr ⟨k, z, by simp⟩
      rw [this] at h1; cases h1
    have e : mergeK acc ((k :: ks).zip (v :: vs)) = mergeK (putK acc k v) (ks.zip vs) := rfl
    rw [e, putK_new fun p hp z => d p hp (by rw [z]; exact List.mem_cons_self), merge_new h2 fun p hp => by
      rcases List.mem_append.mp hp with q | q
      · exact fun z => d p q (List.mem_cons_of_mem _ z)
      · have : p = (k, v) := by simpa using q
        rw [this]; exact hk]
    simp
theorem SatF.unhold {T : Tx} {B : Bs} {F : Hp} {ad : List Addr} {env : List Slot} {mem : List MO} {ex : List (V × D)} {σ : L2.St} {H : Hp} {p : Addr} {o : HO} (s : SatF T (B.also p o) F ad env mem ex σ H) (hp : B.G p = none) : SatF T B F ad env mem ex σ H := by
  refine ⟨s.sat, s.gro, s.pre, fun a u e => ?_, s.len, s.val, fun i m hi => ?_, s.app, s.tmp⟩
  · have z : a ≠ p := fun z => by subst z; rw [hp] at e; cases e
    exact s.frm a u (show upd B.G p o a = some u by rw [upd_ne z]; exact e)
  · obtain ⟨a, h1, h2, h3, h4, h5, h6⟩ := s.own i m hi
    have e' : upd B.G p o a = none := h5
    have z : a ≠ p := fun e => by subst e; rw [upd_same] at e'; cases e'
    rw [upd_ne z] at e'
    exact ⟨a, h1, h2, h3, h4, e', h6⟩
/-- the values of a display with the keys ks, in turn -/
structure DK (nm : String → List Str) (W : WX) (X : Cx) (pos : Pos) (keys : List (Option Expr)) (values : List Expr) (ks : List Key) (g : MA) : Prop where
  pps : ∃ trs, PPs X pos keys values trs ∧ ∀ {B : Bs} {σ : L2.St} {H : Hp} {Q : List (V × V) → Hp → Prop}, tA (tx X nm) B W g σ H (fun vs H' => Q ((ks.map kV).zip vs) H') → tPairs trs σ H Q
section
variable {nm : String → List Str} {B : Bs} {W : WX} {X : Cx} {v : Expr} {keys : List (Option Expr)} {values : List Expr} {ks : List Key} {f : ME} {g : MA} {x : Str} {pos kp : Pos} {kx : Nat}
theorem dk_nil : DK nm W X pos [] [] [] mNil := ⟨[], pps_nil, fun {B σ H Q} ⟨env, mem, ex, s, h⟩ => h [] H rfl s⟩
theorem dk_cons (hv : ∀ B, SE nm B W X v f) (hr : DK nm W X pos keys values ks g) : DK nm W X pos (some (.Constant (.str x) kx kp) :: keys) (v :: values) (.inr x :: ks) (mCons f g) := by
  obtain ⟨trs, h1, h2⟩ := hr
  refine ⟨(tC (.str x), fun σ H Q => ∃ B, tE (tx X nm) B W f σ H Q) :: trs, pps_cons pe_str ⟨fun p s σ H Q I ⟨B, q⟩ => (hv B).run p s σ H Q I q⟩ h1, fun {B σ H Q} ⟨env, mem, ex, s, h⟩ => ⟨B, ?_⟩⟩
  refine tE_step s h fun v H1 d m s1 q1 => h2 (B := B) (tA_step s1 q1.push1 fun vs H2 ds m2 l s2 q2 => ?_)
  refine q2 (v :: vs) H2 (by simp [l]) (s2.sub fun p hp => ?_)
  simp only [List.zip_cons_cons, List.cons_append, List.mem_cons, List.mem_append] at hp ⊢
  rcases hp with e | e | e
  · exact .inr (.inl e)
  · exact .inl e
  · exact .inr (.inr e)
def mDict (ks : List Key) (g : MA) : ME := fun env mem => (g env mem).bind fun ds m => if (nodupB ks && decide (ks.length ≤ 15) && decide (ds.length = ks.length)) = true then .ok (.dic ks ds) m else .bad
theorem se_dict (hk : DK nm W X pos keys values ks g) (hall : keys.all (·.isSome) = true := by rfl) (hl : keys.length = values.length := by rfl) (h0 : keys ≠ [] := by exact List.cons_ne_nil _ _) (h15 : keys.length ≤ 15 := by decide) : SE nm B W X (.Dict keys values pos) (mDict ks g) := by
  obtain ⟨trs, h1, h2⟩ := hk
  refine PE.imp (pe_perm (pe_disp h1 hall hl h0 h15)) fun σ H Q ⟨env, mem, ex, ⟨F, ad, s⟩, h⟩ => ?_
  intro p hp
  have gp : B.G p = none := s.held_none hp
  refine h2 (B := B.also p (.dK [])) ⟨env, mem, ex, ⟨F, ad, s.hold hp⟩, ?_⟩
  unfold mDict at h
  have hb := h.bind
  cases eg : g env mem with
  | bad => rw [eg] at hb; exact hb
  | exc C xs m =>
    rw [eg] at hb
    exact fun dc F' ad' H' s' x => hb dc F' ad' H' (s'.unhold gp) x
  | ok ds m =>
    rw [eg] at hb
    intro vs H' lv ⟨F', ad', s'⟩
    have q : Wnt (tx X nm) B W env ex σ (KE (tx X nm) B env ex σ Q) (if (nodupB ks && decide (ks.length ≤ 15) && decide (ds.length = ks.length)) = true then .ok (.dic ks ds) m else .bad) := hb
    split at q
    case isFalse => exact q.elim
    rename_i hc
    simp only [Bool.and_eq_true, decide_eq_true_eq] at hc
    obtain ⟨⟨c1, c2⟩, c3⟩ := hc
    have em : mergeK [] (ks.zip vs) = ks.zip vs := by
      rw [merge_new c1 fun p hp => by cases hp]; rfl
    have hl' : vs.length = ks.length := lv.trans c3
    refine ⟨s'.held, ks.zip vs, ?_, ?_, ?_⟩
    · rw [List.zip_map_left]; rfl
    · simp [hl']; exact c2
    · rw [em]
      refine ⟨p, _, rfl, upd_same, trivial, fun od => ?_⟩
      have e2 : upd (upd H' p (.dK (ks.zip vs))) p (.frz od (.dK (ks.zip vs))) = upd H' p (.frz od (.dK (ks.zip vs))) := by
        funext b
        by_cases z : b = p
        · subst z; rw [upd_same, upd_same]
        · rw [upd_ne z, upd_ne z, upd_ne z]
      rw [e2]
      have il : IsL (tx X nm) F' ad' ds vs := zip_tmp lv fun x hx => s'.tmp x (List.mem_append_left _ hx)
      have s2 := (s'.hold_put (o' := .frz od (.dK (ks.zip vs))) gp).hold_end gp
      exact q _ _ ⟨_, ad', (s2.sub fun x hx => List.mem_append_right _ hx).push ⟨p, od, vs, rfl, upd_same, hl', (il.mono (same_new (s'.frm p _ upd_same).2.1) (List.prefix_refl _))⟩⟩
end
/-! ### dict comprehensions -/
def mDcGo (τ : Tgt) (t : MT) (fk fv : ME) (env : List Slot) : List D → List Key → List D → List MO → Res (List Key × List D)
  | [], ks, xs, mem => .ok (ks, xs) mem
  | d :: ds, ks, xs, mem => match τ.set d env with
    | none => .bad
    | some e => (t e mem).bnd fun b m => if b = true then (fk e m).bnd fun y m2 => (fv e m2).bnd fun z m3 => (match kD y with
        | some k => if ks.length < sizeLine then mDcGo τ t fk fv env ds (putD ks xs k z).1 (putD ks xs k z).2 m3 else .bad
        | none => .bad)
      else mDcGo τ t fk fv env ds ks xs m
def dicK (r : List Key × List D) (m : List MO) : Res D := .ok (.dic r.1 r.2) m
def mDc (τ : Tgt) (it : MI) (t : MT) (fk fv : ME) (own : List Nat) : ME := fun env mem => (it env mem).bind fun ds m => if noOwn env own = true then (mDcGo τ t fk fv (wipeE env own) ds [] [] m).bind dicK else .bad
section
variable {nm : String → List Str} {B : Bs} {W : WX} {X : Cx} {kx vx tg iter : Expr} {ifs : List Expr} {scope : Scope} {own : List (Str × Nat)} {pos : Pos} {it : MI} {τ : Tgt} {t : MT} {fk fv : ME}
theorem dc_imp (hsl : ∀ n ∈ τ.slots, n ∈ own.map (·.2)) : ∀ {σ : L2.St} {H : Hp} {Q : VK}, tE (tx X nm) B W (mDc τ it t fk fv (own.map (·.2))) σ H Q →
    tDc (tIo (tx X nm) B W it) (gTgt X.K τ) (fun σ H Q => ∃ B, tT (tx X nm) B WF t σ H Q) (fun σ H Q => ∃ B, tE (tx X nm) B WF fk σ H Q) (fun σ H Q => ∃ B, tE (tx X nm) B WF fv σ H Q) (own.map (·.2)) σ H
      (fun v H1 => ∃ d u, v = .ref d ∧ H1 d = some u ∧ Mut (some u) ∧ ∀ od, Q v (upd H1 d (.frz od u))) := by
  rintro σ H Q ⟨env, mem, ex, s, h⟩
  refine ⟨env, mem, ex, s, h.bind.mono fun ds m q J keep PP F1 ad1 H1 s1 hPP wk p hp => ?_⟩
  split at q
  case isFalse => exact q.elim
  rename_i hno
  have gp0 : B.G p = none := s1.held_none hp
  let B1 : Bs := ⟨F1, ad1, B.G, B.self⟩
  have gp : B1.G p = none := gp0
  let St1 : Nat → Hp → Prop := fun i H => ∃ (ks : List Key) (vs : List V) (xs : List D) (mem : List MO), vs.length = ks.length ∧ vs.length = xs.length ∧ SatX (tx X nm) (B1.also p (.dK (ks.zip vs))) env mem (vs.zip xs ++ (keep ++ ex)) σ H ∧
    Wnt (tx X nm) B W env ex σ (KE (tx X nm) B env ex σ Q) ((mDcGo τ t fk fv (wipeE env (own.map (·.2))) (ds.drop i) ks xs mem).bind dicK)
  refine ⟨fun i n H => n = ds.length - i ∧ St1 i H, ⟨_, rfl, [], [], [], m, rfl, rfl, ?_, by simpa using q⟩, ?_⟩
  · exact ⟨F1, ad1, s1.rebase.hold (B := B1) hp⟩
  rintro i n H ⟨en, ks, vs, xs, mem, lk, lx, s2, q2⟩
  obtain ⟨w1, w2⟩ := wk (B1.also p (.dK (ks.zip vs))) i env mem (vs.zip xs ++ ex) σ H (Same.refl F1) hPP (s2.sub fun x hx => by
    simp only [List.mem_append] at hx ⊢
    rcases hx with e | e | e
    · exact .inr (.inl e)
    · exact .inl e
    · exact .inr (.inr e))
  cases e : ds[i]? with
  | none =>
    have hd : ds.drop i = [] := List.drop_eq_nil_of_le (List.getElem?_eq_none_iff.mp e)
    rw [hd] at q2
    refine .inl ⟨w2 e, ?_⟩
    obtain ⟨F, ad, s3⟩ := s2
    refine ⟨p, _, rfl, s3.held, trivial, fun od => ?_⟩
    have s4 := (s3.hold_put (o' := .frz od (.dK (ks.zip vs))) gp).hold_end gp
    have il : IsL (tx X nm) (upd F p (.frz od (.dK (ks.zip vs)))) ad xs vs := zip_tmp lx fun x hx => s4.tmp x (List.mem_append_left _ hx)
    have s5 : SatF (tx X nm) B1 (upd F p (.frz od (.dK (ks.zip vs)))) ad env mem ((V.ref p, D.dic ks xs) :: ex) σ (upd H p (.frz od (.dK (ks.zip vs)))) := (s4.sub fun x hx => List.mem_append_right _ (List.mem_append_right _ hx)).push ⟨p, od, vs, rfl, upd_same, lk, il⟩
    exact q2 _ _ ⟨_, ad, s5.base s1.gro s1.pre⟩
  | some d =>
    obtain ⟨go, y⟩ := w1 d e
    have hlt := (List.getElem?_eq_some_iff.mp e).1
    have hd : ds.drop i = d :: ds.drop (i + 1) := by
      rw [List.drop_eq_getElem_cons hlt]
      rw [List.getElem?_eq_getElem hlt] at e
      rw [Option.some.inj e]
    rw [hd] at q2
    refine .inr ⟨go, St1 (i + 1), fun H' z => ⟨_, ?_, rfl, z⟩, fun x H' hy => ?_⟩
    · omega
    have s3 := y x H' hy
    unfold mDcGo at q2
    cases e2 : τ.set d (wipeE env (own.map (·.2))) with
    | none => rw [e2] at q2; exact q2.elim
    | some env' =>
      rw [e2] at q2
      dsimp only at q2
      obtain ⟨F0, ad0, s5⟩ := s3
      let exx : List (V × D) := (x, d) :: (oldT σ env (own.map (·.2)) ++ (keep ++ (vs.zip xs ++ ex)))
      have s5' : SatF (tx X nm) (B1.also p (.dK (ks.zip vs))) F0 ad0 env mem exx σ H' := ⟨s5.sat, s5.gro, s5.pre, s5.frm, s5.len, s5.val, s5.own, s5.app, fun q hq => by
        rcases List.mem_cons.mp hq with z | z
        · subst z; exact s5.top
        · rcases List.mem_append.mp z with z | z
          · exact oldT_ok s5 _ q z
          · exact s5.tmp q (List.mem_cons_of_mem _ z)⟩
      have s4 : SatX (tx X nm) (B1.also p (.dK (ks.zip vs))) (wipeE env (own.map (·.2))) mem exx (L2.wipe σ (own.map (·.2))) H' := ⟨F0, ad0, s5'.wipe _⟩
      obtain ⟨tg1, tg2⟩ := tgt_get e2
      refine tgt_set s4 e2 fun σ2 hs hl s6 => ⟨wipe_same (fun n hn => hs n fun z => hn (hsl n z)) hl, ?_⟩
      have back : ∀ {m3 : List MO} {ex3 : List (V × D)} {H3 : Hp} {B3 : Bs}, SatX (tx X nm) B3 env' m3 ex3 σ2 H3 → (∀ q ∈ exx, q ∈ ex3) → SatX (tx X nm) B3 env m3 ex3 σ H3 := fun ⟨F3, ad3, s7⟩ hx =>
        ⟨F3, ad3, s5'.restore s7 (own := own.map (·.2)) (fun q hq => hx q (List.mem_cons_of_mem _ (List.mem_append_left _ hq)))
          (fun n hn => by rw [tg1 n fun z => hn (hsl n z), wipeE_get env hn]) (fun n hn => by rw [hs n fun z => hn (hsl n z), wipe_get σ hn]) hno⟩
      refine ⟨B1.also p (.dK (ks.zip vs)), env', mem, exx, s6, ?_⟩
      have q3 := q2
      cases e3 : t env' mem with
      | bad => rw [e3] at q3; exact q3
      | exc C xs m3 => rw [e3] at q3; exact q3.elim
      | ok b m3 =>
        rw [e3] at q3
        refine fun H3 s7 => ?_
        cases b with
        | false =>
          rw [if_neg Bool.false_ne_true]
          exact ⟨ks, vs, xs, m3, lk, lx, (back s7 fun _ z => z).sub fun q hq => by
            simp only [exx, List.mem_cons, List.mem_append] at hq ⊢
            grind, q3⟩
        | true =>
          rw [if_pos rfl]
          have q4 : Wnt (tx X nm) B W env ex σ (KE (tx X nm) B env ex σ Q) (((fk env' m3).bnd fun y m2 => (fv env' m2).bnd fun z m3 => (match kD y with
            | some k => if ks.length < sizeLine then mDcGo τ t fk fv (wipeE env (own.map (·.2))) (ds.drop (i + 1)) (putD ks xs k z).1 (putD ks xs k z).2 m3 else .bad
            | none => .bad)).bind dicK) := q3
          refine ⟨B1.also p (.dK (ks.zip vs)), env', m3, exx, s7, ?_⟩
          cases e4 : fk env' m3 with
          | bad => rw [e4] at q4; exact q4
          | exc C xs m4 => rw [e4] at q4; exact q4.elim
          | ok y4 m4 =>
            rw [e4] at q4
            refine fun v4 H4 s8 => ⟨B1.also p (.dK (ks.zip vs)), env', m4, (v4, y4) :: exx, s8, ?_⟩
            have q5 : Wnt (tx X nm) B W env ex σ (KE (tx X nm) B env ex σ Q) (((fv env' m4).bnd fun z m3 => (match kD y4 with
              | some k => if ks.length < sizeLine then mDcGo τ t fk fv (wipeE env (own.map (·.2))) (ds.drop (i + 1)) (putD ks xs k z).1 (putD ks xs k z).2 m3 else .bad
              | none => .bad)).bind dicK) := q4
            cases e5 : fv env' m4 with
            | bad => rw [e5] at q5; exact q5
            | exc C xs m4 => rw [e5] at q5; exact q5.elim
            | ok z5 m5 =>
              rw [e5] at q5
              refine fun v5 H5 s9 => ?_
              have q6 : Wnt (tx X nm) B W env ex σ (KE (tx X nm) B env ex σ Q) ((match kD y4 with
                | some k => if ks.length < sizeLine then mDcGo τ t fk fv (wipeE env (own.map Prod.snd)) (ds.drop (i + 1)) (putD ks xs k z5).1 (putD ks xs k z5).2 m5 else .bad
                | none => .bad).bind dicK) := q5
              cases ek : kD y4 with
              | none => rw [ek] at q6; exact q6.elim
              | some k =>
                rw [ek] at q6
                dsimp only at q6
                split at q6
                case isFalse => exact q6.elim
                rename_i hsz
                have sA := back s9 fun _ z => List.mem_cons_of_mem _ (List.mem_cons_of_mem _ z)
                obtain ⟨F9, ad9, sA⟩ := sA
                have il : IsL (tx X nm) F9 ad9 xs vs := zip_tmp lx fun x hx => sA.tmp x (by
                  simp only [exx, List.mem_cons, List.mem_append]
                  grind)
                have t5 : Is (tx X nm) F9 ad9 z5 v5 := sA.top
                have t4 : Is (tx X nm) F9 ad9 y4 v4 := sA.tmp (v4, y4) (by simp)
                obtain ⟨us, k1, k2, k3⟩ := put_zip (k := k) lk il t5
                refine ⟨ks.zip vs, k, kD_is ek t4, sA.held, by simp [lk]; exact hsz, _, us, _, m5, k2, k3.length, ⟨F9, ad9, ?_⟩, q6⟩
                rw [k1]
                have sB := sA.hold_put (o' := .dK ((putD ks xs k z5).1.zip us)) gp
                refine ⟨sB.sat, sB.gro, sB.pre, sB.frm, sB.len, sB.val, sB.own, sB.app, fun q hq => ?_⟩
                rcases List.mem_append.mp hq with z | z
                · clear hq q6 q5 q4 q3 q2 sB k1 k2
                  generalize (putD ks xs k z5).2 = ys at k3 z
                  clear t5 t4 il
                  induction ys generalizing us with
                  | nil => simp at z
                  | cons a ys ih =>
                    obtain ⟨u, ur, rfl, h1, h2⟩ := k3
                    rcases List.mem_cons.mp z with y | y
                    · subst y; exact h1
                    · exact ih ur h2 y
                · exact sB.tmp q (by
                    simp only [exx, List.mem_cons, List.mem_append] at z ⊢
                    grind)
theorem se_dc (own : List (Str × Nat)) (hc : X.calm = true) (hN : X.N.Nodup) (hi : SIo nm B W X tg iter it) (ok : BlkOk X.N X.env.scope scope own)
    (hg : ∀ (s : Shared) (H : Hp) (C : Addr) (cl : List (Str × Addr)) (fp : List Addr), SG (X.blk s H scope (compEnvC scope cl C X.env) fp) tg τ)
    (ht : ∀ (B : Bs) (s : Shared) (H : Hp) (C : Addr) (cl : List (Str × Addr)) (fp : List Addr), STs nm B WF (X.blk s H scope (compEnvC scope cl C X.env) fp) ifs t)
    (hk : ∀ (B : Bs) (s : Shared) (H : Hp) (C : Addr) (cl : List (Str × Addr)) (fp : List Addr), SE nm B WF (X.blk s H scope (compEnvC scope cl C X.env) fp) kx fk)
    (he : ∀ (B : Bs) (s : Shared) (H : Hp) (C : Addr) (cl : List (Str × Addr)) (fp : List Addr), SE nm B WF (X.blk s H scope (compEnvC scope cl C X.env) fp) vx fv)
    (hsl : ∀ n ∈ τ.slots, n ∈ own.map (·.2)) (hs : ∀ x, foldedSetIterable iter X.env x = pure x := by intro _; rfl) : SE nm B W X (.DictComp kx vx [⟨tg, iter, ifs, 0⟩] scope pos) (mDc τ it t fk fv (own.map (·.2))) :=
  PE.imp (pe_perm (pe_dc hc hN hi ok hg (fun s H C cl fp => pts_ex fun B => ht B s H C cl fp) (fun s H C cl fp => pe_ex fun B => hk B s H C cl fp) (fun s H C cl fp => pe_ex fun B => he B s H C cl fp) hs)) fun _ _ _ h => dc_imp (own := own) hsl h
/-! ### over a dict -/
def mItD (f : ME) : MI := fun env mem => (f env mem).bind fun d m => match d with
  | .dic ks xs => if ks.length = xs.length then .ok (ks.map fun | .inl i => .int i | .inr x => .str x) m else .bad
  | _ => .bad
theorem key_is {T : Tx} {F : Hp} {ad : List Addr} (k : Key) : Is T F ad (match k with | .inl i => .int i | .inr x => .str x) (kV k) := by cases k <;> rfl
def tId (T : Tx) (B : Bs) (W : WX) (f : MI) : TI := fun σ H R => ∃ env mem ex, SatX T B env mem ex σ H ∧
  Wnt T B W env ex σ (fun ds m => ∀ J keep F ad H', SatF T B F ad env m (keep ++ ex) σ H' → WlkP T J ds keep (fun _ _ => True) F → R J H') (f env mem)
abbrev SId (nm : String → List Str) (B : Bs) (W : WX) (X : Cx) (tg e : Expr) (f : MI) : Prop := PI X tg e (tId ⟨X.K, nm⟩ B W f)
theorem SId.o (h : SId nm B W X tg iter it) : SIo nm B W X tg iter it := PI.imp h fun σ H R ⟨env, mem, ex, s, h⟩ =>
  ⟨env, mem, ex, s, h.mono fun ds m q J keep F ad H' s' wk => q J keep (fun _ _ => True) F ad H' s' trivial wk⟩
theorem SI.d (h : SI nm B W X tg iter it) : SId nm B W X tg iter it := PI.imp h fun σ H R ⟨env, mem, ex, s, h⟩ =>
  ⟨env, mem, ex, s, h.mono fun ds m q J keep H' s' wk => by
    obtain ⟨F, ad, s'⟩ := s'
    exact q J keep F ad H' s' fun B i env mem ex σ H _ _ s => wk B i env mem ex σ H s⟩
theorem sid_dic {a : Expr} {f : ME} (ha : SE nm B W X a f) : SId nm B W X tg a (mItD f) :=
  PI.imp (pi_keys ha) fun σ H R ⟨env, mem, ex, s, h⟩ => by
    refine tE_step s h fun v H1 d m s1 q1 => ?_
    cases d with
    | dic ks xs =>
      dsimp only at q1
      split at q1
      case isFalse => exact q1.elim
      rename_i hl
      obtain ⟨F, ad, s2⟩ := s1
      obtain ⟨p, o, vs, e, h1, h2, h3⟩ := s2.top
      have q2 := q1 (Itk p o (ks.zip vs)) [(v, .dic ks xs)] F ad H1 s2
      refine ⟨p, o, e, .inl ⟨ks.zip vs, s2.sat.sub _ _ h1, q2 ?_⟩⟩
      intro B i env mem ex σ H hF _ ⟨F', ad', s⟩
      have hq := s.sat.sub _ _ (s.gro _ _ (hF _ _ h1))
      have hlen : (ks.zip vs).length = ks.length := by simp [h2]
      refine ⟨fun d hd => ?_, fun hn => ⟨hq, ?_⟩⟩
      · have hi : i < ks.length := by
          have := (List.getElem?_eq_some_iff.mp hd).1
          simpa using this
        refine ⟨⟨hq, by rw [hlen]; exact hi⟩, fun y H2 ⟨eH, k, w, hk, ey⟩ => ?_⟩
        subst eH ey
        have e1 : ks[i]? = some k := by
          rw [List.getElem?_zip_eq_some] at hk
          exact hk.1
        rw [List.getElem?_map, e1] at hd
        cases hd
        exact ⟨F', ad', s.push (key_is k)⟩
      · rw [hlen]
        have := List.getElem?_eq_none_iff.mp hn
        simpa using this
    | _ => exact q1.elim
/-- for over what SId tells of -/
theorem ss_forD {body : List Stmt} {g : MS} (hp : PassesOwn (model X.prog X.w) X.A X.env X.xe) (hc : X.calm = true) (hi : SId nm B W X tg iter it) (hg : SG X tg τ) (hb : ∀ B, SSs nm B W X body g)
    (hs : ∀ x, foldedSetIterable iter X.env x = pure x := by intro _; rfl) : SS nm B W X (.For tg iter body [] pos) (mFor τ it g) :=
  PS.imp (ps_for (tb := fun Z σ H => ∃ B, tS (tx X nm) B W g Z σ H) hp hc hi hg ⟨fun p s σ H Z I ⟨B, q⟩ => (hb B).run p s σ H Z I q⟩ hs) fun Z σ H ⟨env, mem, ex, s, h⟩ => by
    refine ⟨env, mem, ex, s, (ks_of h).mono fun ds m q J keep F1 ad1 H1 s1 wk => ?_⟩
    let B1 : Bs := ⟨F1, ad1, B.G, B.self⟩
    have down : ∀ {env mem ex σ H}, SatX (tx X nm) B1 env mem ex σ H → SatX (tx X nm) B env mem ex σ H := fun {env mem ex σ H} ⟨F, ad, s⟩ => ⟨F, ad, s.base s1.gro s1.pre⟩
    refine ⟨fun i n σ H => n = ds.length - i ∧ ∃ env mem, SatX (tx X nm) B1 env mem (keep ++ ex) σ H ∧ KS (tx X nm) B W ex Z (mForGo τ g (ds.drop i) env mem), ⟨_, rfl, env, m, ⟨F1, ad1, s1.rebase⟩, by simpa using q⟩, ?_⟩
    rintro i n σ H ⟨en, env, mem, s2, q2⟩
    obtain ⟨w1, w2⟩ := wk B1 i env mem ex σ H (Same.refl F1) trivial s2
    cases e : ds[i]? with
    | none =>
      have hd : ds.drop i = [] := List.drop_eq_nil_of_le (List.getElem?_eq_none_iff.mp e)
      rw [hd] at q2
      exact .inl ⟨w2 e, q2 σ H ((down s2).sub fun p hp => List.mem_append_right _ hp)⟩
    | some d =>
      obtain ⟨go, y⟩ := w1 d e
      have hlt := (List.getElem?_eq_some_iff.mp e).1
      have hd : ds.drop i = d :: ds.drop (i + 1) := by
        rw [List.drop_eq_getElem_cons hlt]
        rw [List.getElem?_eq_getElem hlt] at e
        rw [Option.some.inj e]
      rw [hd] at q2
      refine .inr ⟨go, fun σ' H' => ∃ env mem, SatX (tx X nm) B1 env mem (keep ++ ex) σ' H' ∧ KS (tx X nm) B W ex Z (mForGo τ g (ds.drop (i + 1)) env mem), fun σ' H' ⟨e1, m1, s3, q3⟩ => ⟨_, ?_, rfl, e1, m1, s3, q3⟩, fun x H' hy => ?_⟩
      · omega
      · have s3 := y x H' hy
        unfold mForGo at q2
        cases e2 : τ.set d env with
        | none => rw [e2] at q2; exact q2.elim
        | some env' =>
          rw [e2] at q2
          dsimp only at q2
          refine tgt_set s3 e2 fun σ2 _ _ s4 => ⟨B1, env', mem, keep ++ ex, s4.pop, ?_⟩
          cases e3 : g env' mem with
          | bad => rw [e3] at q2; exact q2.elim
          | next e4 m4 => rw [e3] at q2; exact fun σ5 H5 s5 => ⟨e4, m4, s5, q2⟩
          | cnt e4 m4 => rw [e3] at q2; exact fun σ5 H5 s5 => ⟨e4, m4, s5, q2⟩
          | brk e4 m4 => rw [e3] at q2; exact fun σ5 H5 s5 => q2 σ5 H5 ((down s5).sub fun p hp => List.mem_append_right _ hp)
          | ret d4 m4 =>
            rw [e3] at q2
            exact fun v H5 s5 => q2 v H5 ((down s5).sub fun p hp => by
              rcases List.mem_cons.mp hp with z | z
              · subst z; exact List.mem_cons_self
              · exact List.mem_cons_of_mem _ (List.mem_append_right _ z))
          | exc C xs e4 m4 => rw [e3] at q2; exact fun dc F ad σ5 H5 s5 x5 => q2 dc F ad σ5 H5 ((s5.base s1.gro s1.pre).sub fun p hp => List.mem_append_right _ hp) x5
end
end Vt
set_option Elab.async false
set_option linter.all false
set_option maxRecDepth 100000
set_option maxHeartbeats 4000000
set_option autoImplicit false
namespace PySem
open AutoSeq1 (wpAny_loadPart')
theorem vt_enum_newT (l : Addr) (o : Obj) (items : Array Value) (ho1 : o.cls = .type "tuple") (n : Nat) (ho2 : o.data = .seq items n) :
    Meets (Builtin.«enumerate.__new__» ⟨[.type "enumerate", .ref l], []⟩) (fun _ R s => s.heap.get? l = some o ∧
      R (.ok (.ret (.ref (s.heap.push { cls := .type "tuple_iterator", data := .fields #[.ref l, .int 0 0] }).objs.size)))
        { s with heap := (s.heap.push { cls := .type "tuple_iterator", data := .fields #[.ref l, .int 0 0] }).push { cls := .type "enumerate", data := .fields #[.none, .bool false, .ref s.heap.objs.size, rawInt 0, .none, .none] } }) :=
  .of_wp fun prog w A R s h => by
    obtain ⟨hp, g, d, tk, os⟩ := s; obtain ⟨hl, h⟩ := h
    obtain ⟨c2, d2, a2, s2⟩ := o
    dsimp only at ho1 ho2
    subst ho1 ho2
    have hsub := sub_enumerate
    have hL : Heap.IsTuple (Shared.heap ⟨hp, g, d, tk, os⟩) l items := ⟨_, hl, rfl, n, rfl⟩
    wp_walk using wpAny_loadPart' hl
    refine wpAny_stack_any fun st => wpAny_pure ?_
    split
    · rename_i c _ _ _ _ _
      cases (c == Value.type "enumerate")
      · wp_walk using wpAny_loadPart' hl, wpAny_pyIter_tuple hL
        exact ⟨_, rfl, h⟩
      · wp_walk using wpAny_loadPart' hl, wpAny_pyIter_tuple hL
        exact ⟨_, rfl, h⟩
    · wp_walk using wpAny_loadPart' hl, wpAny_pyIter_tuple hL
      exact ⟨_, rfl, h⟩
section
variable {prog : Program} {w : World} {A : Around} {E : Value → Shared → Prop} {s : Shared}
theorem vt_call_enumT {l : Addr} {items : Array Value} {Q : Value → Shared → Prop} (hL : s.heap.IsTuple l items)
    (h : ∀ h', IsEnum h' (s.heap.objs.size + 1) s.heap.objs.size 0 .none → h'.IsTupleIter s.heap.objs.size l 0 → h'.objs.size = s.heap.objs.size + 2 →
      (∀ b o, s.heap.get? b = some o → h'.get? b = some o) → Q (.ref (s.heap.objs.size + 1)) { s with heap := h' }) :
    wpAny (model prog w) A (call (.type "enumerate") [.ref l]) Q E s := by
  obtain ⟨o, hl, hc, n, hd⟩ := hL
  refine callType_new F.called_enumerate (by decide) (F.typeCall_enumerate_1 _) (F.newCall_enumerate_1 _) (fun obj => F.args_object_init_2 obj _) F.entry_enumerate_new
    (vt_enum_newT l o items hc n hd) ⟨hl, ?_⟩
  have hz : (s.heap.push { cls := .type "tuple_iterator", data := .fields #[.ref l, .int 0 0] }).objs.size = s.heap.objs.size + 1 := Heap.size_push ..
  show _ ∧ _
  rw [hz]
  have he : IsEnum ((s.heap.push { cls := .type "tuple_iterator", data := .fields #[.ref l, .int 0 0] }).push
      { cls := .type "enumerate", data := .fields #[.none, .bool false, .ref s.heap.objs.size, rawInt 0, .none, .none] }) (s.heap.objs.size + 1) s.heap.objs.size 0 .none := by
    have := Heap.get?_push_size (s.heap.push { cls := .type "tuple_iterator", data := .fields #[.ref l, .int 0 0] })
      (o := { cls := .type "enumerate", data := .fields #[.none, .bool false, .ref s.heap.objs.size, rawInt 0, .none, .none] }) rfl
    rw [hz] at this; exact this
  refine ⟨⟨_, he, rfl⟩, h _ he ⟨_, Heap.get?_push_of_some _ (Heap.get?_push_size _ rfl), rfl, rfl⟩ (by rw [Heap.size_push, hz]) fun b o x => Heap.get?_push_of_some _ (Heap.get?_push_of_some _ x)⟩
theorem vt_enum_end {e it l : Addr} {i : Nat} {items : Array Value} {old : Value} {Q : Option Value → Shared → Prop} (hh : A.handled = none)
    (he : IsEnum s.heap e it i old) (hit : s.heap.IsTupleIter it l i) (hl : s.heap.IsTuple l items) (hx : items[i]? = none)
    (hQ : ∀ h', Heap.ExtBut it s.heap h' → Q none { s with heap := h' }) : wpAny (model prog w) A (pyNext (.ref e)) Q E s := by
  have hT : s.TypeIs (.ref e) "enumerate" := ⟨_, he, rfl⟩
  unfold pyNext
  refine wpAny_bind (wpAny_attempt (wpAny_callSpecial?_slot (name := Str.ofString "__next__") hT F.slot_enumerate_next
    (wpAny_call_entry F.slot_enumerate_next hT F.entry_enumerate_next ?_ (F.args_enumerate_next_1 _))))
  show wpAny _ _ (field (.ref e) 2 >>= _) _ _ _
  refine wpAny_bind (wpAny_field he rfl (x := .ref it) rfl ?_)
  refine wpAny_bind (wpAny_nextOf_tuple_end hh hit hl hx fun h' x he' hx' => ?_)
  obtain ⟨o, ho, hc⟩ := hx'
  refine wpAny_bind (wpAny_isInstance (T := "StopIteration") (b := true) ⟨o, ho, hc⟩ isSubtype_stop ?_)
  exact wpAny_pure (hQ _ he')
end
end PySem
namespace Vt
open PySem PySem.Spec PyProof.Rows L2
/-- enumerate over the tuple at a -/
def ItE (K : PySem.W.Frag) (a : Addr) : It :=
  ⟨fun i H => ∃ (xs : List V) (x : V), SqT K H a xs ∧ xs[i]? = some x, fun i H v H' => ∃ T x, v = .ref T ∧ H T = none ∧ H' = upd H T (.tup [.int (i : Nat), x]) ∧ ∀ xs, SqT K H a xs → xs[i]? = some x, fun i H => ∃ xs : List V, SqT K H a xs ∧ xs.length ≤ i⟩
theorem turn_enumT {P : Program} {w : World} {K : PySem.W.Frag} {elts : List Expr} {kk : Nat} {tpos : Pos} (a e it : Addr) :
    Turn P w K (.Tuple elts kk tpos) (ItE K a) [e, it] e (fun i h => (∃ old, IsEnum h e it ((i : Nat) : Int) old) ∧ h.IsTupleIter it a i ∧ e ≠ it) where
  mem := by simp
  obj := fun i h st b hb => by
    obtain ⟨⟨old, he⟩, ⟨o, ho, hc, hd⟩, _⟩ := st
    have e' : b = e ∨ b = it := by simpa using hb
    rcases e' with z | z
    · rw [z]; exact ⟨_, he, fun v q => nomatch q⟩
    · rw [z]; exact ⟨o, ho, fun v q => by rw [hd] at q; cases q⟩
  keep := fun i h h' st k => let ⟨⟨old, he⟩, hi, hne⟩ := st; ⟨⟨old, k e (by simp) _ he⟩, hi.at fun o q => k it (by simp) o q, hne⟩
  item := by
    intro X hP hw hK hc i pins s σ H E I hf st hg
    subst hP hw hK
    obtain ⟨⟨old, he⟩, hit, hne⟩ := st
    obtain ⟨xs, x, hq, hx⟩ := hg
    obtain ⟨its, rv, p, hz⟩ := I.tuple hq
    obtain ⟨u, hu, ru⟩ := rv.get hx
    have hel : e < s.heap.objs.size := Heap.lt_size he
    have hil : it < s.heap.objs.size := by obtain ⟨_, q, _⟩ := hit; exact Heap.lt_size q
    have hiu : i < its.toArray.size := by
      have := (List.getElem?_eq_some_iff.mp hu).1
      simpa using this
    have hT : s.heap.IsTuple a its.toArray := p
    have hai : a ≠ it := fun z => by
      obtain ⟨o1, h1, c1, _⟩ := hT
      obtain ⟨o2, h2, c2, _⟩ := hit
      rw [z, h2] at h1
      cases h1
      rw [c1] at c2
      exact absurd c2 (by decide)
    have hae : e ≠ a := fun z => by
      obtain ⟨o1, h1, c1, _⟩ := hT
      rw [← z] at h1
      have h2 : s.heap.get? e = _ := he
      rw [h2] at h1
      cases h1
      exact absurd (show Value.type "enumerate" = Value.type "tuple" from c1) (by decide)
    refine wpAny_pyNext_enum_itemD (Draws.tuple (A := X.A.in1) (I.ok.hd hc) it a hai its.toArray) he ⟨hit, hT⟩ hiu hne (by simp [hne, hae]) fun v h' tk hv ho hst' hT1 hsz hk => ?_
    have ev : v = u := by
      have e1 : its.toArray[i]? = some u := by simpa using hu
      rw [e1] at hv; exact (Option.some.inj hv).symm
    subst ev
    refine ⟨_, rfl, wpAny_letOwnedTupleGo_enum (s := { s with heap := h', toks := tk + 1 }) ho fun h'' he' sb => ?_⟩
    have hT2 : h''.get? s.heap.objs.size = some { cls := .type "tuple", data := .seq #[.int i tk, v] } := (sb.2 _ (Nat.ne_of_gt hel)).trans hT1
    have new : ObjOk X.prog X.w (upd H s.heap.objs.size (.tup [.int (i : Nat), x])) h'' s.heap.objs.size (.tup [.int (i : Nat), x]) :=
      ⟨by show 2 ≤ sizeLine; decide, [.int i tk, v], .cons ⟨_, rfl⟩ (.cons ru .nil), ⟨_, hT2, rfl, _, rfl⟩⟩
    have I1 : Inv X pins σ (upd H s.heap.objs.size (.tup [.int (i : Nat), x])) { s with heap := h'', toks := tk + 1 } :=
      I.turnedNew (ch := [e, it]) (fun b ob hb q => (sb.2 b (fun z => hb (by simp [z]))).trans (hk b ob (fun z => hb (by simp [z])) (fun z => hb (by simp [z])) q)) hf (Nat.le_refl _) new
    refine ⟨.ref s.heap.objs.size, _, I1, rfl, ⟨_, x, rfl, I.hok.fresh (Nat.le_refl _), rfl, fun ys hy => by rw [I.tuple_inj hy hq]; exact hx⟩, ⟨⟨v, ?_⟩, hst'.1.at fun o q => (sb.2 it (Ne.symm hne)).trans q, hne⟩, fun b hb => ?_⟩
    · have e1 : ((i + 1 : Nat) : Int) = (i : Int) + 1 := by omega
      rw [e1]; exact he'
    · have hb' : b < s.heap.objs.size := by
        have e' : b = e ∨ b = it := by simpa using hb
        rcases e' with z | z
        · rw [z]; exact hel
        · rw [z]; exact hil
      rw [upd_ne (Nat.ne_of_lt hb')]
      exact (hf b hb).1
  done := by
    intro X hP hw hK hc i pins s σ H E I hf st hg
    subst hP hw hK
    obtain ⟨⟨old, he⟩, hit, hne⟩ := st
    obtain ⟨xs, hq, hx⟩ := hg
    obtain ⟨its, rv, p, hz⟩ := I.tuple hq
    obtain ⟨f0, f1, f2, f3, f4, f5⟩ := hf it (by simp)
    have hl := rv.length
    have hT : s.heap.IsTuple a its.toArray := p
    have hai : a ≠ it := fun z => by
      obtain ⟨o1, h1, c1, _⟩ := hT
      obtain ⟨o2, h2, c2, _⟩ := hit
      rw [z, h2] at h1
      cases h1
      rw [c1] at c2
      exact absurd c2 (by decide)
    exact vt_enum_end (I.ok.hd hc) he hit hT (by simp; omega) fun h' eb => ⟨rfl, I.turned (t' := s.toks) (fun b o hb q => eb b o hb q) f0 f1 f3 f4 f5⟩
  self := fun A i s Q E st h => let ⟨⟨_, he⟩, _⟩ := st; wpAny_pyIter_enum he h
def iEnT (K : PySem.W.Frag) (ta : TA) : TI := fun σ H R => ta σ H fun vs H1 => ∃ a xs, vs = [.ref a] ∧ ((SqL K H1 a xs ∧ R (Ite K a) H1) ∨ (SqT K H1 a xs ∧ R (ItE K a) H1))
theorem pi_enT {X : Cx} {e : Expr} {ta : TA} {p pos tpos : Pos} {elts : List Expr} {kk : Nat} (hg : Gl X "enumerate") (hm : X.mg "enumerate" = none) (ha : PA X [e] ta) (hs : starEach [e] X.env = [(false, eval e X.env)] := by rfl) :
    PI X (.Tuple elts kk tpos) (.Call (.Name "enumerate" p) [e] [] pos) (iEnT X.K ta) := by
  refine ⟨fun pins s σ H R I h => ?_⟩
  refine Call_ (ld_blt I hg hm boot_enumerate (PyProof.Rows.callWith_type1 (thn (ha.run pos pins s σ H _ I h) fun us s1 ⟨vs, H1, I1, r1, q1⟩ => ?_) hs rfl))
  obtain ⟨a, xs, ex, q⟩ := q1
  subst ex
  cases r1 with
  | cons r rr =>
    cases rr
    cases r
    have fp : ∀ b ∈ [s1.heap.objs.size + 1, s1.heap.objs.size], FpOk X pins H1 b := fun b hb => by
      have e' : b = s1.heap.objs.size + 1 ∨ b = s1.heap.objs.size := by simpa using hb
      have hle : s1.heap.objs.size ≤ b := by
        rcases e' with z | z
        · rw [z]; exact Nat.le_add_right _ _
        · rw [z]; exact Nat.le_refl _
      exact I1.fpOk hle (I1.hok.fresh hle)
    rcases q with ⟨hq, q⟩ | ⟨hq, q⟩
    · obtain ⟨its, rv, p', hz⟩ := I1.list hq
      refine call_enumerate_list p'.isList fun h' he hit hsz hk => wpAny_pyIter_enum he ?_
      have I2 : Inv X pins σ H1 { s1 with heap := h' } := I1.kept (t' := s1.toks) hk
      exact ⟨s1.heap.objs.size + 1, [s1.heap.objs.size + 1, s1.heap.objs.size], _, _, H1, rfl, I2, turn_enum a (s1.heap.objs.size + 1) s1.heap.objs.size, ⟨⟨.none, he⟩, hit, Nat.succ_ne_self _⟩, fp, q⟩
    · obtain ⟨its, rv, p', hz⟩ := I1.tuple hq
      refine vt_call_enumT (show s1.heap.IsTuple a its.toArray from p') fun h' he hit hsz hk => wpAny_pyIter_enum he ?_
      have I2 : Inv X pins σ H1 { s1 with heap := h' } := I1.kept (t' := s1.toks) hk
      exact ⟨s1.heap.objs.size + 1, [s1.heap.objs.size + 1, s1.heap.objs.size], _, _, H1, rfl, I2, turn_enumT a (s1.heap.objs.size + 1) s1.heap.objs.size, ⟨⟨.none, he⟩, hit, Nat.succ_ne_self _⟩, fp, q⟩
/-! ### enumerate, zip, a text -/
def pairsI (xs : List D) : List D := (List.range xs.length).zip xs |>.map fun p => .tup [.int (p.1 : Nat), p.2]
def mEnum (f : ME) : MI := fun env mem => (f env mem).bind fun d m => match items d with
  | some xs => .ok (pairsI xs) m
  | none => .bad
def mZip (g : MA) : MI := fun env mem => (g env mem).bind fun ds m => match ds with
  | [.lst xs, .lst ys] => .ok ((xs.zip ys).map fun p => .tup [p.1, p.2]) m
  | [.tup xs, .tup ys] => .ok ((xs.zip ys).map fun p => .tup [p.1, p.2]) m
  | _ => .bad
def chars (x : Str) : List D := x.cps.toList.map fun c => .str ⟨#[c]⟩
def mChr (f : ME) : MI := fun env mem => (f env mem).bind fun d m => match d with
  | .str x => .ok (chars x) m
  | _ => .bad
section
variable {nm : String → List Str} {B : Bs} {W : WX} {X : Cx} {tg a b : Expr} {f g : ME} {pos p tpos : Pos} {fa : MA} {elts : List Expr} {kk : Nat}
theorem pairsI_at {xs : List D} {i : Nat} {d : D} (h : (pairsI xs)[i]? = some d) : ∃ y, xs[i]? = some y ∧ d = .tup [.int (i : Nat), y] := by
  unfold pairsI at h
  rw [List.getElem?_map] at h
  obtain ⟨⟨j, y⟩, h1, h2⟩ := Option.map_eq_some_iff.mp h
  rw [List.getElem?_zip_eq_some] at h1
  obtain ⟨g1, g2⟩ := h1
  have hi := (List.getElem?_eq_some_iff.mp g1).1
  have e : j = i := by
    rw [List.getElem?_range (by simpa using hi)] at g1
    exact (Option.some.inj g1).symm
  subst e
  exact ⟨y, g2, h2.symm⟩
theorem pairsI_none {xs : List D} {i : Nat} (h : (pairsI xs)[i]? = none) : xs.length ≤ i := by
  have := List.getElem?_eq_none_iff.mp h
  unfold pairsI at this
  simpa using this
theorem si_enum (ha : SE nm B W X a f) (hm : X.mg "enumerate" = none) (hg : Gl X "enumerate" := by rfl) (hs : starEach [a] X.env = [(false, eval a X.env)] := by rfl) : SI nm B W X (.Tuple elts kk tpos) (.Call (.Name "enumerate" p) [a] [] pos) (mEnum f) :=
  PI.imp (pi_enT hg hm (pa_cons ha pa_nil hs) hs) fun σ H R ⟨env, mem, ex, s, h⟩ => by
    refine tE_step s h fun v H1 d m s1 q1 => ?_
    obtain ⟨F, ad, s2⟩ := s1
    have pair : ∀ {T : Tx} {B : Bs} {F ad env mem ex σ H q i y u}, SatF T B F ad env mem ex σ H → Is T F ad y u → H q = none → SatX T B env mem ((V.ref q, D.tup [.int (i : Nat), y]) :: ex) σ (upd H q (.tup [.int (i : Nat), u])) := fun {T B F ad env mem ex σ H q i y u} s h hq => by
      have x := s.sat.new (o := .tup [.int (i : Nat), u]) hq
      exact ⟨_, ad, (s.ext x).push ⟨q, _, rfl, .inl (.inl upd_same), IsL.cons rfl (IsL.cons (h.mono x.gro x.pre) IsL.nil)⟩⟩
    cases ei : items d with
    | none => rw [ei] at q1; exact q1.elim
    | some xs =>
      rw [ei] at q1
      cases d with
      | lst ys =>
        cases ei
        obtain ⟨p, vs, e, h1, h2⟩ := s2.top
        refine ⟨p, vs, congrArg (fun z => [z]) e, .inl ⟨.inl (.inl (s2.sat.sub _ _ h1)), q1 _ [(v, .lst xs)] H1 ⟨F, ad, s2⟩ ?_⟩⟩
        intro B i env mem ex σ H ⟨F, ad, s⟩
        obtain ⟨p', ws, e', g1, g2⟩ := s.tmp (v, .lst xs) (by simp)
        subst e
        cases e'
        have hq : SqL X.K H p ws := SqL.of (s.sat.sub _ _ g1)
        refine ⟨fun d hd => ?_, fun hn => ⟨ws, hq, by rw [g2.length]; exact pairsI_none hn⟩⟩
        obtain ⟨y, hy, rfl⟩ := pairsI_at hd
        obtain ⟨u, k1, k2⟩ := g2.get hy
        refine ⟨⟨ws, u, hq, k1⟩, fun z H2 ⟨q, x, ez, hn, eH, hx⟩ => ?_⟩
        subst ez eH
        have e2 := hx ws hq
        rw [k1] at e2
        cases e2
        exact pair s k2 hn
      | tup ys =>
        cases ei
        obtain ⟨p, vs, e, h1, h2⟩ := s2.top
        refine ⟨p, vs, congrArg (fun z => [z]) e, .inr ⟨sqT_mono s2.sat.sub h1, q1 _ [(v, .tup xs)] H1 ⟨F, ad, s2⟩ ?_⟩⟩
        intro B i env mem ex σ H ⟨F, ad, s⟩
        obtain ⟨p', ws, e', g1, g2⟩ := s.tmp (v, .tup xs) (by simp)
        subst e
        cases e'
        have hq : SqT X.K H p ws := sqT_mono s.sat.sub g1
        refine ⟨fun d hd => ?_, fun hn => ⟨ws, hq, by rw [g2.length]; exact pairsI_none hn⟩⟩
        obtain ⟨y, hy, rfl⟩ := pairsI_at hd
        obtain ⟨u, k1, k2⟩ := g2.get hy
        refine ⟨⟨ws, u, hq, k1⟩, fun z H2 ⟨q, x, ez, hn, eH, hx⟩ => ?_⟩
        subst ez eH
        have e2 := hx ws hq
        rw [k1] at e2
        cases e2
        exact pair s k2 hn
      | _ => cases ei
theorem zipD_at {xs ys : List D} {i : Nat} {d : D} (h : ((xs.zip ys).map fun p => D.tup [p.1, p.2])[i]? = some d) : ∃ x y, xs[i]? = some x ∧ ys[i]? = some y ∧ d = .tup [x, y] := by
  rw [List.getElem?_map] at h
  obtain ⟨⟨x, y⟩, h1, h2⟩ := Option.map_eq_some_iff.mp h
  rw [List.getElem?_zip_eq_some] at h1
  exact ⟨x, y, h1.1, h1.2, h2.symm⟩
theorem zipD_none {xs ys : List D} {i : Nat} (h : ((xs.zip ys).map fun p => D.tup [p.1, p.2])[i]? = none) : xs.length ≤ i ∨ ys.length ≤ i := by
  have := List.getElem?_eq_none_iff.mp h
  simp at this
  omega
theorem si_chr (ha : SE nm B W X a f) : SI nm B W X tg a (mChr f) :=
  PI.imp (pi_str ha) fun σ H R ⟨env, mem, ex, s, h⟩ => by
    refine tE_step s h fun v H1 d m s1 q1 => ?_
    cases d with
    | str x =>
      obtain ⟨F, ad, s2⟩ := s1
      refine ⟨x, s2.top, q1 _ [] H1 ⟨F, ad, s2.pop⟩ ?_⟩
      intro B i env mem ex σ H ⟨F, ad, s⟩
      refine ⟨fun d hd => ?_, fun hn => ?_⟩
      · unfold chars at hd
        rw [List.getElem?_map] at hd
        obtain ⟨c, h1, rfl⟩ := Option.map_eq_some_iff.mp hd
        have h1' : x.cps[i]? = some c := by simpa using h1
        have hi : i < x.cps.size := (Array.getElem?_eq_some_iff.mp h1').1
        refine ⟨hi, fun y H2 ⟨eH, c', hc', ey⟩ => ?_⟩
        subst eH ey
        rw [h1'] at hc'
        cases hc'
        exact ⟨F, ad, s.push rfl⟩
      · have := List.getElem?_eq_none_iff.mp hn
        show x.cps.size ≤ i
        simpa [chars] using this
    | _ => exact q1.elim
theorem si_zip (ha : SA nm B W X [a, b] fa) (hm : X.mg "zip" = none) (hg : Gl X "zip" := by rfl) (hs : starEach [a, b] X.env = (false, eval a X.env) :: starEach [b] X.env := by rfl) (hpl : (backTo pos (starEach [b] X.env)).any (·.1) = false := by rfl) :
    SI nm B W X (.Tuple elts kk tpos) (.Call (.Name "zip" p) [a, b] [] pos) (mZip fa) :=
  PI.imp (RZ.pi_zipA hg hm ha hs hpl) fun σ H R ⟨env, mem, ex, s, h⟩ => by
    refine tA_step s h fun vs H1 ds m l ⟨F, ad, s2⟩ q => ?_
    have pair : ∀ {T : Tx} {B : Bs} {F ad env mem ex σ H q x y u w}, SatF T B F ad env mem ex σ H → Is T F ad x u → Is T F ad y w → H q = none → SatX T B env mem ((V.ref q, D.tup [x, y]) :: ex) σ (upd H q (.tup [u, w])) := fun {T B F ad env mem ex σ H q x y u w} s h h2 hq => by
      have z := s.sat.new (o := .tup [u, w]) hq
      exact ⟨_, ad, (s.ext z).push ⟨q, _, rfl, .inl (.inl upd_same), IsL.cons (h.mono z.gro z.pre) (IsL.cons (h2.mono z.gro z.pre) IsL.nil)⟩⟩
    split at q
    · rename_i xs ys _
      match vs, l with
      | [v, w], _ =>
        obtain ⟨p1, us, e1, h1, h2⟩ := s2.tmp (v, .lst xs) (by simp)
        obtain ⟨p2, ws, e2, g1, g2⟩ := s2.tmp (w, .lst ys) (by simp)
        have e1 : v = .ref p1 := e1
        have e2 : w = .ref p2 := e2
        subst e1 e2
        refine ⟨p1, p2, us, ws, rfl, .inl ⟨.inl (.inl (s2.sat.sub _ _ h1)), .inl (.inl (s2.sat.sub _ _ g1)), q _ [(.ref p1, .lst xs), (.ref p2, .lst ys)] H1 ⟨F, ad, s2⟩ ?_⟩⟩
        intro B i env mem ex σ H ⟨F, ad, s⟩
        obtain ⟨p1', us, e1, h1, h2⟩ := s.tmp (.ref p1, .lst xs) (by simp)
        cases e1
        obtain ⟨p2', ws, e2, g1, g2⟩ := s.tmp (.ref p2, .lst ys) (by simp)
        cases e2
        have hq1 : SqL X.K H p1 us := SqL.of (s.sat.sub _ _ h1)
        have hq2 : SqL X.K H p2 ws := SqL.of (s.sat.sub _ _ g1)
        refine ⟨fun d hd => ?_, fun hn => ⟨us, ws, hq1, hq2, by rw [h2.length, g2.length]; exact zipD_none hn⟩⟩
        obtain ⟨x, y, kx, ky, rfl⟩ := zipD_at hd
        obtain ⟨u, k1, k2⟩ := h2.get kx
        obtain ⟨u', k3, k4⟩ := g2.get ky
        refine ⟨⟨us, ws, u, u', hq1, hq2, k1, k3⟩, fun z H2 ⟨q, x', y', ez, hn, eH, hx, hy⟩ => ?_⟩
        subst ez eH
        have e2 := hx us hq1
        have e3 := hy ws hq2
        rw [k1] at e2
        rw [k3] at e3
        cases e2
        cases e3
        exact pair s k2 k4 hn
    · rename_i xs ys _
      match vs, l with
      | [v, w], _ =>
        obtain ⟨p1, us, e1, h1, h2⟩ := s2.tmp (v, .tup xs) (by simp)
        obtain ⟨p2, ws, e2, g1, g2⟩ := s2.tmp (w, .tup ys) (by simp)
        have e1 : v = .ref p1 := e1
        have e2 : w = .ref p2 := e2
        subst e1 e2
        refine ⟨p1, p2, us, ws, rfl, .inr ⟨sqT_mono s2.sat.sub h1, sqT_mono s2.sat.sub g1, q _ [(.ref p1, .tup xs), (.ref p2, .tup ys)] H1 ⟨F, ad, s2⟩ ?_⟩⟩
        intro B i env mem ex σ H ⟨F, ad, s⟩
        obtain ⟨p1', us, e1, h1, h2⟩ := s.tmp (.ref p1, .tup xs) (by simp)
        cases e1
        obtain ⟨p2', ws, e2, g1, g2⟩ := s.tmp (.ref p2, .tup ys) (by simp)
        cases e2
        have hq1 : SqT X.K H p1 us := sqT_mono s.sat.sub h1
        have hq2 : SqT X.K H p2 ws := sqT_mono s.sat.sub g1
        refine ⟨fun d hd => ?_, fun hn => ⟨us, ws, hq1, hq2, by rw [h2.length, g2.length]; exact zipD_none hn⟩⟩
        obtain ⟨x, y, kx, ky, rfl⟩ := zipD_at hd
        obtain ⟨u, k1, k2⟩ := h2.get kx
        obtain ⟨u', k3, k4⟩ := g2.get ky
        refine ⟨⟨us, ws, u, u', hq1, hq2, k1, k3⟩, fun z H2 ⟨q, x', y', ez, hn, eH, hx, hy⟩ => ?_⟩
        subst ez eH
        have e2 := hx us hq1
        have e3 := hy ws hq2
        rw [k1] at e2
        rw [k3] at e3
        cases e2
        cases e3
        exact pair s k2 k4 hn
    · exact q.elim
end
end Vt
set_option Elab.async false
set_option linter.all false
set_option maxRecDepth 100000
set_option maxHeartbeats 4000000
set_option autoImplicit false
namespace Vt
open PySem PySem.Spec PyProof.Rows L2
theorem u65 {k : Nat} {A : Around} (r : Room k A) : A.units + 65 < cLine := by have := r.un; omega
theorem u1 {k : Nat} {A : Around} (r : Room k A) : A.units + 1 < cLine := by have := r.un; omega
/-! ### lists that change, by handles -/
def mLstH (g : MA) : ME := fun env mem => (g env mem).bind fun ds m => if ds.length ≤ sizeLine then .ok (.hnd m.length) (m ++ [.lst ds]) else .bad
def mIxH (f g : ME) : ME := fun env mem => (f env mem).bind fun d m => (g env m).bind fun k m2 => match d, k with
  | .hnd i, .int n => (match m2[i]? with
    | some (.lst xs) => (match atI xs n with
      | some r => .ok r m2
      | none => .bad)
    | _ => .bad)
  | _, _ => .bad
/-- o[k] = v -/
def mPutH (o g f : ME) : MS := fun env mem => (f env mem).flow env fun d m => (o env m).flow env fun h m2 => (g env m2).flow env fun k m3 => match h, k with
  | .hnd i, .int n => (match m3[i]? with
    | some (.lst xs) => (match ixN xs.length n with
      | some j => .next env (m3.set i (.lst (xs.set j d)))
      | none => .bad)
    | _ => .bad)
  | _, _ => .bad
section
variable {nm : String → List Str} {B : Bs} {W : WX} {X : Cx} {a b e o : Expr} {es : List Expr} {f g h : ME} {fa : MA} {pos p pos' apos cpos : Pos}
theorem se_lstH (h : SA nm B W X es fa) : SE nm B W X (.List es pos) (mLstH fa) :=
  PE.imp (pe_lst h) fun σ H Q ⟨env, mem, ex, s, h⟩ => by
    refine tA_step s h fun vs H1 ds m l ⟨F, ad, s2⟩ q => ?_
    split at q
    case isFalse => exact q.elim
    rename_i hz
    refine ⟨by rw [l]; exact hz, fun p hp => ?_⟩
    have il : IsL (tx X nm) F ad ds vs := zip_tmp l fun x hx => s2.tmp x (List.mem_append_left _ hx)
    have x := s2.sat.add (o := .lst vs) hp (.lst ds) fun ad' => ⟨vs, upd_same, il.mono (Same.refl F) (List.prefix_append _ _)⟩
    refine q _ _ (s2.done x ⟨p, ?_, rfl⟩)
    rw [← s2.sat.len, List.getElem?_append_right (Nat.le_refl _)]
    simp
theorem hnd_at {T : Tx} {F : Hp} {ad : List Addr} {env : List Slot} {mem : List MO} {ex : List (V × D)} {σ : L2.St} {H : Hp} {i : Nat} {v : V} {xs : List D} (s : SatF T B F ad env mem ex σ H) (hv : Is T F ad (.hnd i) v) (e : mem[i]? = some (.lst xs)) :
    ∃ l vs, ad[i]? = some l ∧ v = .ref l ∧ H l = some (.lst vs) ∧ IsL T F ad xs vs := by
  obtain ⟨a, h1, h2⟩ := hv
  obtain ⟨_, vs, g1, g2⟩ := s.sat.obj i a _ h1 e (fun z => by cases z)
  exact ⟨a, vs, h1, h2, g1, g2⟩
theorem se_ixH (ha : SE nm B W X a f) (hb : SE nm B W X b g) (hs : PlainIx b := by exact fun _ _ => rfl) : SE nm B W X (.Subscript a b pos) (mIxH f g) :=
  PE.imp (pe_ix ix_list ha hb hs) fun σ H Q ⟨env, mem, ex, s, h⟩ => tE_step s h fun v H1 d m s1 q1 => tE_step s1 q1.push1 fun u H2 k m2 ⟨F, ad, s2⟩ q2 => by
    split at q2
    case h_2 => exact q2.elim
    split at q2
    case h_2 => exact q2.elim
    split at q2
    case h_2 => exact q2.elim
    rename_i xs em _ r er
    obtain ⟨l, vs, g1, g2, g3, g4⟩ := hnd_at s2 (s2.tmp (v, .hnd _) (by simp)) em
    have g2 : v = .ref l := g2
    subst g2
    obtain ⟨w, k1, k2⟩ := isL_at g4 er
    exact ⟨l, vs, _, w, rfl, s2.top, .inl (.inl g3), k1, q2 w H2 ⟨F, ad, s2.pop.pop.push k2⟩⟩
theorem ss_putH (he : SE nm B W X e f) (ho : SE nm B W X o h) (hk : SE nm B W X a g)
    (ha : ∀ v, assign (.Subscript o a pos') X.env v = (do
      let ov ← holding [v] (eval o X.env)
      let iv ← holding [v, ov] (eval a X.env)
      standAt pos'
      holding [v, ov, iv] (setItem ov iv v)
      release [v, ov, iv] []) := by intro _; rfl)
    (hs : swapsWithSole [.Subscript o a pos'] e pos.line X.env = pure false := by rfl) (hw : swappedStores [.Subscript o a pos'] e X.env = pure none := by rfl)
    (h1 : (assignEach [.Subscript o a pos'] X.env).map (·.2) = [assign (.Subscript o a pos') X.env] := by rfl) : SS nm B W X (.Assign [.Subscript o a pos'] e pos) (mPutH h g f) :=
  PS.imp (ps_asg he (pg_sub ho hk set_list ha) hs hw h1) fun Z σ H ⟨env, mem, ex, s, h⟩ => by
    refine ⟨env, mem, ex, s, (ks_of h).mono fun d m q v H1 s1 => ⟨env, m, (v, d) :: ex, s1, (ks_of q).push1.mono fun hd m2 q2 u H2 s2 => ⟨env, m2, (u, hd) :: (v, d) :: ex, s2, (ks_of q2).push [(u, hd), (v, d)] |>.mono fun k m3 q3 w H3 ⟨F, ad, s3⟩ => ?_⟩⟩⟩
    split at q3
    case h_2 => exact q3.elim
    split at q3
    case h_2 => exact q3.elim
    split at q3
    case h_2 => exact q3.elim
    rename_i xs em _ j hj
    obtain ⟨l, vs, g1, g2, g3, g4⟩ := hnd_at s3 (s3.tmp (u, .hnd _) (by simp)) em
    have g2 : u = .ref l := g2
    subst g2
    refine ⟨l, vs, _, j, rfl, s3.top, g3, by rw [g4.length]; exact hj, ?_⟩
    have x := s3.sat.put (o := .lst (vs.set j v)) g1 em (fun z => by cases z) (.lst (xs.set j d)) ⟨_, upd_same, IsL.set (s3.tmp (v, d) (by simp)) j g4⟩
    exact q3 _ _ ⟨F, ad, (s3.ext x).pop.pop.pop⟩
/-! ### texts -/
def dSplit : Pur
  | [.str a, .str b] => if (b.length == 0) = false ∧ a.length + 2 ≤ sizeLine then some (.lst ((Txt.split a b).map .str)) else none
  | _ => none
def joinArg : D → Option (List Str)
  | .lst xs => strsOf xs
  | .tup xs => strsOf xs
  | _ => none
def dJoin : Pur
  | [.str a, d] => (joinArg d).bind fun ys => if (ys.map (·.length)).sum + ys.length * a.length ≤ 16777216 then some (.str (Txt.join a ys)) else none
  | _ => none
/-- o.m(e), m of a text -/
def mM1 (φ : Pur) (f g : ME) : ME := fun env mem => (f env mem).bind fun d m => match d with
  | .str _ => (g env m).bind fun r m2 => lf φ [d, r] m2
  | _ => .bad
theorem strs_is {T : Tx} {F : Hp} {ad : List Addr} : ∀ (ys : List Str), IsL T F ad (ys.map .str) (ys.map V.str)
  | [] => IsL.nil
  | y :: ys => IsL.cons rfl (strs_is ys)
theorem m_split : MtR X "str.split" (fun x xs H Q => RP (tx X nm) dSplit (x :: xs) H Q) := fun pins s σ H x xs v us Q I rx rs h => by
  obtain ⟨F, ad, mem, ds, d, st, i, e, q⟩ := h
  unfold dSplit at e
  split at e
  case h_2 => cases e
  rename_i a b
  split at e
  case isFalse => cases e
  rename_i c
  cases e
  obtain ⟨v1, v2, ev, h1, h2⟩ := i.two
  cases ev
  refine mt_split pins s σ H _ _ v us Q I rx rs ⟨a, b, h1, by rw [show v2 = V.str b from h2], c.1, c.2, fun p hp => ?_⟩
  have z := st.new (o := .lst ((Txt.split a b).map V.str)) hp
  exact q _ _ _ _ z ⟨p, _, rfl, upd_same, strs_is _⟩
theorem m_join : MtR X "str.join" (fun x xs H Q => RP (tx X nm) dJoin (x :: xs) H Q) := fun pins s σ H x xs v us Q I rx rs h => by
  obtain ⟨F, ad, mem, ds, d, st, i, e, q⟩ := h
  unfold dJoin at e
  split at e
  case h_2 => cases e
  rename_i a dd
  obtain ⟨ys, ey, e⟩ := Option.bind_eq_some_iff.mp e
  split at e
  case isFalse => cases e
  rename_i c
  cases e
  obtain ⟨v1, v2, ev, h1, h2⟩ := i.two
  cases ev
  cases dd with
  | lst zs =>
    obtain ⟨p, vs, rfl, g1, g2⟩ := h2
    have e2 := strs_of ey g2
    subst e2
    exact mt_join pins s σ H _ _ v us Q I rx rs ⟨a, p, ys, h1, rfl, .inl (.inl (.inl (st.sub _ _ g1))), c, q _ F ad H (Ext.refl st) rfl⟩
  | tup zs =>
    obtain ⟨p, vs, rfl, g1, g2⟩ := h2
    have e2 := strs_of ey g2
    subst e2
    exact mt_join pins s σ H _ _ v us Q I rx rs ⟨a, p, ys, h1, rfl, .inr (sqT_mono st.sub g1), c, q _ F ad H (Ext.refl st) rfl⟩
  | _ => cases ey
theorem se_m1 {bid : String} {name : Str} {φ : Pur} (slot : PySem.Slot "str" name bid) (hty : typeOf (.builtin bid) = pure (.type "method_descriptor")) (hm : MtR X bid (fun x xs H Q => RP (tx X nm) φ (x :: xs) H Q)) (ho : SE nm B W X o f) (ha : SE nm B W X e g)
    (hbase : attributeBase o name X.env (eval o X.env) = eval o X.env)
    (hfew : ((backTo cpos (starEach [e] X.env)).all (fun x => !x.1) && (backToKw cpos (keywordEach [] X.env)).all (fun x => x.1.isSome)
      && decide (([e] : List Expr).length + ([] : List Keyword).length + (if ([] : List Keyword).isEmpty then 0 else 1) < 30)) = true)
    (hline : (apos.endLine == cpos.line) = true) (hs : starEach [e] X.env = (false, eval e X.env) :: starEach [] X.env) : SE nm B W X (.Call (.Attribute o name apos) [e] [] cpos) (mM1 φ f g) :=
  PE.imp (pe_bm F.plainAttrs_str slot hty hm ho (pa_cons ha pa_nil hs) hbase hfew hline hs rfl) fun σ H Q ⟨env, mem, ex, s, h⟩ => by
    refine tE_step s h fun v H1 d m s1 q1 => ?_
    obtain ⟨z, rfl⟩ : ∃ z, d = .str z := by
      cases d with
      | str z => exact ⟨z, rfl⟩
      | _ => exact q1.elim
    dsimp only at q1
    obtain ⟨F, ad, s2⟩ := id s1
    refine ⟨by rw [show v = V.str _ from s2.top]; exact rfl, ?_⟩
    exact tE_step s1 q1.push1 fun u H2 r m2 s3 q2 => rp_of (W := W) (p := [(u, r), (v, .str z)]) s3 (fun F ad s3 => IsL.cons (s3.tmp (v, .str z) (by simp)) (IsL.cons (s3.tmp (u, r) (by simp)) IsL.nil)) (lf_ok q2 |> fun ⟨d', e', q'⟩ => by unfold lf; rw [e']; exact q')
theorem se_split (ho : SE nm B W X o f) (ha : SE nm B W X e g)
    (hbase : attributeBase o "split" X.env (eval o X.env) = eval o X.env := by rfl)
    (hfew : ((backTo cpos (starEach [e] X.env)).all (fun x => !x.1) && (backToKw cpos (keywordEach [] X.env)).all (fun x => x.1.isSome)
      && decide (([e] : List Expr).length + ([] : List Keyword).length + (if ([] : List Keyword).isEmpty then 0 else 1) < 30)) = true := by rfl)
    (hline : (apos.endLine == cpos.line) = true := by rfl) (hs : starEach [e] X.env = (false, eval e X.env) :: starEach [] X.env := by rfl) : SE nm B W X (.Call (.Attribute o "split" apos) [e] [] cpos) (mM1 dSplit f g) :=
  se_m1 F.slot_str_split F.type_str_split m_split ho ha hbase hfew hline hs
theorem se_join (ho : SE nm B W X o f) (ha : SE nm B W X e g)
    (hbase : attributeBase o "join" X.env (eval o X.env) = eval o X.env := by rfl)
    (hfew : ((backTo cpos (starEach [e] X.env)).all (fun x => !x.1) && (backToKw cpos (keywordEach [] X.env)).all (fun x => x.1.isSome)
      && decide (([e] : List Expr).length + ([] : List Keyword).length + (if ([] : List Keyword).isEmpty then 0 else 1) < 30)) = true := by rfl)
    (hline : (apos.endLine == cpos.line) = true := by rfl) (hs : starEach [e] X.env = (false, eval e X.env) :: starEach [] X.env := by rfl) : SE nm B W X (.Call (.Attribute o "join" apos) [e] [] cpos) (mM1 dJoin f g) :=
  se_m1 F.slot_str_join F.type_str_join m_join ho ha hbase hfew hline hs
/-! ### is True, is False -/
def dIsB : Pur
  | [.bl a, .bl b] => some (.bl (decide (a = b)))
  | _ => none
theorem r_isB : OpR X (compareOp .Is) fun x y H Q => RP (tx X nm) dIsB [x, y] H Q := opr_imp op_is_bl fun x y H Q h => by
  obtain ⟨F, ad, mem, ds, d, s, i, e, q⟩ := rp_flat h
  unfold dIsB at e
  split at e
  case h_2 => cases e
  cases e
  obtain ⟨v, u, ev, h1, h2⟩ := i.two
  cases ev
  exact ⟨_, _, h1, h2, q _ rfl⟩
end
/-! ### comprehensions with two loops -/
def mLc2In (τ : Tgt) (t : MT) (f : ME) (env : List Slot) : List D → List D → List MO → Res (List D)
  | [], acc, mem => .ok acc mem
  | d :: ds, acc, mem => match τ.set d env with
    | none => .bad
    | some e => (t e mem).bnd fun b m => if b = true then (f e m).bnd fun y m2 => if acc.length < sizeLine then mLc2In τ t f env ds (acc ++ [y]) m2 else .bad
      else mLc2In τ t f env ds acc m
def mLc2Go (τ : Tgt) (t : MT) (it1 : MI) (τ1 : Tgt) (t1 : MT) (f : ME) (own1 : List Nat) (env : List Slot) : List D → List D → List MO → Res (List D)
  | [], acc, mem => .ok acc mem
  | d :: ds, acc, mem => match τ.set d env with
    | none => .bad
    | some e => (t e mem).bnd fun b m => if b = true then (it1 e m).bnd fun ds1 m1 => if noOwn e own1 = true then (mLc2In τ1 t1 f (wipeE e own1) ds1 acc m1).bnd fun acc2 m2 => mLc2Go τ t it1 τ1 t1 f own1 env ds acc2 m2 else .bad
      else mLc2Go τ t it1 τ1 t1 f own1 env ds acc m
def lstK (r : List D) (m : List MO) : Res D := .ok (.lst r) m
def mLc2 (τ : Tgt) (it : MI) (t : MT) (it1 : MI) (τ1 : Tgt) (t1 : MT) (f : ME) (own own1 : List Nat) : ME := fun env mem => (it env mem).bind fun ds m => if noOwn env own = true then (mLc2Go τ t it1 τ1 t1 f own1 (wipeE env own) ds [] m).bind lstK else .bad
section
variable {nm : String → List Str} {B : Bs} {W : WX} {X : Cx} {elt tg iter tg1 iter1 : Expr} {ifs ifs1 : List Expr} {scope : Scope} {own : List (Str × Nat)} {vs1 : List Nat} {pos : Pos} {it it1 : MI} {τ τ1 : Tgt} {t t1 : MT} {f : ME}
theorem bnd_bind {α β γ : Type} {r : Res α} {k : α → List MO → Res β} {j : β → List MO → Res γ} : (r.bnd k).bind j = r.bnd fun a m => (k a m).bind j := by cases r <;> rfl
theorem lc2_imp (hsl : ∀ n ∈ τ.slots, n ∈ own.map (·.2)) (hsl1 : ∀ n ∈ τ1.slots, n ∈ vs1) : ∀ {σ : L2.St} {H : Hp} {Q : VK}, tE (tx X nm) B W (mLc2 τ it t it1 τ1 t1 f (own.map (·.2)) vs1) σ H Q →
    tLc2 (tIo (tx X nm) B W it) (gTgt X.K τ) (fun σ H Q => ∃ B, tT (tx X nm) B WF t σ H Q) (fun σ H R => ∃ B, tI (tx X nm) B WF it1 σ H R) (gTgt X.K τ1) (fun σ H Q => ∃ B, tT (tx X nm) B WF t1 σ H Q) (fun σ H Q => ∃ B, tE (tx X nm) B WF f σ H Q) (own.map (·.2)) vs1 σ H Q := by
  rintro σ H Q ⟨env, mem, ex, s, h⟩
  refine ⟨env, mem, ex, s, h.bind.mono fun ds m q J keep PP F1 ad1 H1 s1 hPP wk p hp => ?_⟩
  split at q
  case isFalse => exact q.elim
  rename_i hno
  have gp0 : B.G p = none := s1.held_none hp
  let B1 : Bs := ⟨F1, ad1, B.G, B.self⟩
  have gp : B1.G p = none := gp0
  let St1 : Nat → Hp → Prop := fun i H => ∃ acc dacc mem, acc.length = dacc.length ∧ SatX (tx X nm) (B1.also p (.lst acc)) env mem (acc.zip dacc ++ (keep ++ ex)) σ H ∧
    Wnt (tx X nm) B W env ex σ (KE (tx X nm) B env ex σ Q) ((mLc2Go τ t it1 τ1 t1 f vs1 (wipeE env (own.map Prod.snd)) (ds.drop i) dacc mem).bind lstK)
  refine ⟨fun i n H => n = ds.length - i ∧ St1 i H, ⟨_, rfl, [], [], m, rfl, ?_, by simpa using q⟩, ?_⟩
  · exact ⟨F1, ad1, s1.rebase.hold (B := B1) hp⟩
  rintro i n H ⟨en, acc, dacc, mem, la, s2, q2⟩
  obtain ⟨w1, w2⟩ := wk (B1.also p (.lst acc)) i env mem (acc.zip dacc ++ ex) σ H (Same.refl F1) hPP (s2.sub fun x hx => by
    simp only [List.mem_append] at hx ⊢
    rcases hx with e | e | e
    · exact .inr (.inl e)
    · exact .inl e
    · exact .inr (.inr e))
  cases e : ds[i]? with
  | none =>
    have hd : ds.drop i = [] := List.drop_eq_nil_of_le (List.getElem?_eq_none_iff.mp e)
    rw [hd] at q2
    refine .inl ⟨w2 e, ?_⟩
    obtain ⟨F, ad, s3⟩ := s2
    have s4 := s3.hold_end gp
    have il : IsL (tx X nm) (upd F p (.lst acc)) ad dacc acc := zip_tmp la fun x hx => s4.tmp x (List.mem_append_left _ hx)
    have s5 : SatF (tx X nm) B1 (upd F p (.lst acc)) ad env mem ((V.ref p, D.lst dacc) :: ex) σ H := (s4.sub fun x hx => List.mem_append_right _ (List.mem_append_right _ hx)).push ⟨p, acc, rfl, upd_same, il⟩
    exact q2 _ H ⟨_, ad, s5.base s1.gro s1.pre⟩
  | some d =>
    obtain ⟨go, y⟩ := w1 d e
    have hlt := (List.getElem?_eq_some_iff.mp e).1
    have hd : ds.drop i = d :: ds.drop (i + 1) := by
      rw [List.drop_eq_getElem_cons hlt]
      rw [List.getElem?_eq_getElem hlt] at e
      rw [Option.some.inj e]
    rw [hd] at q2
    refine .inr ⟨go, St1 (i + 1), fun H' z => ⟨_, ?_, rfl, z⟩, fun x H' hy => ?_⟩
    · omega
    have s3 := y x H' hy
    unfold mLc2Go at q2
    cases e2 : τ.set d (wipeE env (own.map (·.2))) with
    | none => rw [e2] at q2; exact q2.elim
    | some env' =>
      rw [e2] at q2
      dsimp only at q2
      obtain ⟨F0, ad0, s5⟩ := s3
      let old := oldT σ env (own.map (·.2))
      let exx : List (V × D) := (x, d) :: (old ++ (keep ++ (acc.zip dacc ++ ex)))
      have s5' : SatF (tx X nm) (B1.also p (.lst acc)) F0 ad0 env mem exx σ H' := ⟨s5.sat, s5.gro, s5.pre, s5.frm, s5.len, s5.val, s5.own, s5.app, fun q hq => by
        rcases List.mem_cons.mp hq with z | z
        · subst z; exact s5.top
        · rcases List.mem_append.mp z with z | z
          · exact oldT_ok s5 _ q z
          · exact s5.tmp q (List.mem_cons_of_mem _ z)⟩
      have s4 : SatX (tx X nm) (B1.also p (.lst acc)) (wipeE env (own.map (·.2))) mem exx (L2.wipe σ (own.map (·.2))) H' := ⟨F0, ad0, s5'.wipe _⟩
      obtain ⟨tg1, tg2⟩ := tgt_get e2
      refine tgt_set s4 e2 fun σ2 hs hl s6 => ⟨wipe_same (fun n hn => hs n fun z => hn (hsl n z)) hl, ?_⟩
      have back : ∀ {m3 : List MO} {ex3 : List (V × D)} {H3 : Hp} {B3 : Bs}, SatX (tx X nm) B3 env' m3 ex3 σ2 H3 → (∀ q ∈ old, q ∈ ex3) → SatX (tx X nm) B3 env m3 ex3 σ H3 := fun ⟨F3, ad3, s7⟩ hx =>
        ⟨F3, ad3, s5'.restore s7 (own := own.map (·.2)) (fun q hq => hx q hq)
          (fun n hn => by rw [tg1 n fun z => hn (hsl n z), wipeE_get env hn]) (fun n hn => by rw [hs n fun z => hn (hsl n z), wipe_get σ hn]) hno⟩
      refine ⟨B1.also p (.lst acc), env', mem, exx, s6, ?_⟩
      have q3 := q2
      cases e3 : t env' mem with
      | bad => rw [e3] at q3; exact q3
      | exc C xs m3 => rw [e3] at q3; exact q3.elim
      | ok b m3 =>
        rw [e3] at q3
        refine fun H3 s7 => ?_
        cases b with
        | false =>
          rw [if_neg Bool.false_ne_true]
          exact ⟨acc, dacc, m3, la, (back s7 fun q hq => by simp only [exx, List.mem_cons, List.mem_append]; exact .inr (.inl hq)).sub fun q hq => by
            simp only [exx, List.mem_cons, List.mem_append] at hq ⊢
            grind, q3⟩
        | true =>
          rw [if_pos rfl]
          have q4 : Wnt (tx X nm) B W env ex σ (KE (tx X nm) B env ex σ Q) (((it1 env' m3).bnd fun ds1 m1 => if noOwn env' vs1 = true then (mLc2In τ1 t1 f (wipeE env' vs1) ds1 dacc m1).bnd fun acc2 m2 => mLc2Go τ t it1 τ1 t1 f vs1 (wipeE env (own.map Prod.snd)) (ds.drop (i + 1)) acc2 m2 else .bad).bind lstK) := q3
          refine ⟨B1.also p (.lst acc), env', m3, exx, s7, ?_⟩
          cases e4 : it1 env' m3 with
          | bad => rw [e4] at q4; exact q4
          | exc C xs m4 => rw [e4] at q4; exact q4.elim
          | ok ds1 m4 =>
            rw [e4] at q4
            have q5 : Wnt (tx X nm) B W env ex σ (KE (tx X nm) B env ex σ Q) ((if noOwn env' vs1 = true then (mLc2In τ1 t1 f (wipeE env' vs1) ds1 dacc m4).bnd fun acc2 m2 => mLc2Go τ t it1 τ1 t1 f vs1 (wipeE env (own.map Prod.snd)) (ds.drop (i + 1)) acc2 m2 else .bad).bind lstK) := q4
            split at q5
            case isFalse => exact q5.elim
            rename_i hno1
            intro J1 keep1 H4 s8 wk1
            -- the inner loop's state
            let St2 : Nat → Hp → Prop := fun j H => ∃ acc dacc mem, acc.length = dacc.length ∧ SatX (tx X nm) (B1.also p (.lst acc)) env' mem (acc.zip dacc ++ (keep1 ++ (old ++ (keep ++ ex)))) σ2 H ∧
              Wnt (tx X nm) B W env ex σ (KE (tx X nm) B env ex σ Q) (((mLc2In τ1 t1 f (wipeE env' vs1) (ds1.drop j) dacc mem).bnd fun acc2 m2 => mLc2Go τ t it1 τ1 t1 f vs1 (wipeE env (own.map Prod.snd)) (ds.drop (i + 1)) acc2 m2).bind lstK)
            refine ⟨fun j k H => k = ds1.length - j ∧ St2 j H, ⟨_, rfl, acc, dacc, m4, la, s8.sub fun q hq => by
              simp only [exx, List.mem_cons, List.mem_append] at hq ⊢
              grind, by simpa using q5⟩, ?_⟩
            rintro j k H5 ⟨ek, acc', dacc', mem', la', t2, r2⟩
            obtain ⟨v1, v2⟩ := wk1 (B1.also p (.lst acc')) j env' mem' (acc'.zip dacc' ++ (old ++ (keep ++ ex))) σ2 H5 (t2.sub fun x hx => by
              simp only [List.mem_append] at hx ⊢
              grind)
            cases e5 : ds1[j]? with
            | none =>
              have hd1 : ds1.drop j = [] := List.drop_eq_nil_of_le (List.getElem?_eq_none_iff.mp e5)
              rw [hd1] at r2
              refine .inl ⟨v2 e5, acc', dacc', mem', la', (back t2 fun q hq => by simp only [List.mem_append]; exact .inr (.inr (.inl hq))).sub fun q hq => by
                simp only [List.mem_append] at hq ⊢
                grind, r2⟩
            | some d1 =>
              obtain ⟨go1, y1⟩ := v1 d1 e5
              have hlt1 := (List.getElem?_eq_some_iff.mp e5).1
              have hd1 : ds1.drop j = d1 :: ds1.drop (j + 1) := by
                rw [List.drop_eq_getElem_cons hlt1]
                rw [List.getElem?_eq_getElem hlt1] at e5
                rw [Option.some.inj e5]
              rw [hd1] at r2
              refine .inr ⟨go1, St2 (j + 1), fun H' z => ⟨_, ?_, rfl, z⟩, fun x1 H6 hy1 => ?_⟩
              · omega
              have t3 := y1 x1 H6 hy1
              unfold mLc2In at r2
              cases e6 : τ1.set d1 (wipeE env' vs1) with
              | none => rw [e6] at r2; exact r2.elim
              | some env2 =>
                rw [e6] at r2
                dsimp only at r2
                obtain ⟨F6, ad6, t5⟩ := t3
                let old1 := oldT σ2 env' vs1
                let ey : List (V × D) := (x1, d1) :: (old1 ++ (keep1 ++ (acc'.zip dacc' ++ (old ++ (keep ++ ex)))))
                have t5' : SatF (tx X nm) (B1.also p (.lst acc')) F6 ad6 env' mem' ey σ2 H6 := ⟨t5.sat, t5.gro, t5.pre, t5.frm, t5.len, t5.val, t5.own, t5.app, fun q hq => by
                  rcases List.mem_cons.mp hq with z | z
                  · subst z; exact t5.top
                  · rcases List.mem_append.mp z with z | z
                    · exact oldT_ok t5 _ q z
                    · exact t5.tmp q (List.mem_cons_of_mem _ z)⟩
                have t4 : SatX (tx X nm) (B1.also p (.lst acc')) (wipeE env' vs1) mem' ey (L2.wipe σ2 vs1) H6 := ⟨F6, ad6, t5'.wipe _⟩
                obtain ⟨tg3, tg4⟩ := tgt_get e6
                refine tgt_set t4 e6 fun σ3 hs3 hl3 t6 => ⟨wipe_same (fun n hn => hs3 n fun z => hn (hsl1 n z)) hl3, ?_⟩
                have back1 : ∀ {m3 : List MO} {ex3 : List (V × D)} {H3 : Hp} {B3 : Bs}, SatX (tx X nm) B3 env2 m3 ex3 σ3 H3 → (∀ q ∈ old1, q ∈ ex3) → SatX (tx X nm) B3 env' m3 ex3 σ2 H3 := fun ⟨F3, ad3, s7⟩ hx =>
                  ⟨F3, ad3, t5'.restore s7 (own := vs1) (fun q hq => hx q hq)
                    (fun n hn => by rw [tg3 n fun z => hn (hsl1 n z), wipeE_get env' hn]) (fun n hn => by rw [hs3 n fun z => hn (hsl1 n z), wipe_get σ2 hn]) hno1⟩
                refine ⟨B1.also p (.lst acc'), env2, mem', ey, t6, ?_⟩
                have r3 := r2
                cases e7 : t1 env2 mem' with
                | bad => rw [e7] at r3; exact r3
                | exc C xs m3 => rw [e7] at r3; exact r3.elim
                | ok b m5 =>
                  rw [e7] at r3
                  refine fun H7 t7 => ?_
                  cases b with
                  | false =>
                    rw [if_neg Bool.false_ne_true]
                    exact ⟨acc', dacc', m5, la', (back1 t7 fun q hq => by simp only [ey, List.mem_cons, List.mem_append]; exact .inr (.inl hq)).sub fun q hq => by
                      simp only [ey, List.mem_cons, List.mem_append] at hq ⊢
                      grind, r3⟩
                  | true =>
                    rw [if_pos rfl]
                    have r4 : Wnt (tx X nm) B W env ex σ (KE (tx X nm) B env ex σ Q) ((((f env2 m5).bnd fun y m2 => if dacc'.length < sizeLine then mLc2In τ1 t1 f (wipeE env' vs1) (ds1.drop (j + 1)) (dacc' ++ [y]) m2 else .bad).bnd fun acc2 m2 => mLc2Go τ t it1 τ1 t1 f vs1 (wipeE env (own.map Prod.snd)) (ds.drop (i + 1)) acc2 m2).bind lstK) := r3
                    refine ⟨B1.also p (.lst acc'), env2, m5, ey, t7, ?_⟩
                    cases e8 : f env2 m5 with
                    | bad => rw [e8] at r4; exact r4
                    | exc C xs m4 => rw [e8] at r4; exact r4.elim
                    | ok y6 m6 =>
                      rw [e8] at r4
                      refine fun v6 H8 t8 => ?_
                      have r5 : Wnt (tx X nm) B W env ex σ (KE (tx X nm) B env ex σ Q) (((if dacc'.length < sizeLine then mLc2In τ1 t1 f (wipeE env' vs1) (ds1.drop (j + 1)) (dacc' ++ [y6]) m6 else .bad).bnd fun acc2 m2 => mLc2Go τ t it1 τ1 t1 f vs1 (wipeE env (own.map Prod.snd)) (ds.drop (i + 1)) acc2 m2).bind lstK) := r4
                      split at r5
                      case isFalse => exact r5.elim
                      rename_i hsz
                      have t9 := back1 t8 fun q hq => by simp only [ey, List.mem_cons, List.mem_append]; exact .inr (.inr (.inl hq))
                      obtain ⟨F9, ad9, t9⟩ := t9
                      refine ⟨acc', t9.held, by rw [la']; exact hsz, acc' ++ [v6], dacc' ++ [y6], m6, by simp [la'], ⟨F9, ad9, (t9.hold_put (o' := .lst (acc' ++ [v6])) gp).sub fun q hq => ?_⟩, r5⟩
                      rw [List.zip_append la'] at hq
                      simp only [ey, List.zip_cons_cons, List.zip_nil_right, List.mem_cons, List.mem_append] at hq ⊢
                      grind
theorem pi_ex {Y : Cx} {tg e : Expr} {it : MI} (h : ∀ B : Bs, SI nm B WF Y tg e it) : PI Y tg e (fun σ H R => ∃ B, tI (tx Y nm) B WF it σ H R) := ⟨fun p s σ H R I ⟨B, q⟩ => (h B).run p s σ H R I q⟩
theorem se_lc2 (own : List (Str × Nat)) (vs1 : List Nat) (hc : X.calm = true) (hN : X.N.Nodup) (hi : SIo nm B W X tg iter it) (ok : BlkOk X.N X.env.scope scope own)
    (hg : ∀ (s : Shared) (H : Hp) (C : Addr) (cl : List (Str × Addr)) (fp : List Addr), SG (X.blk s H scope (compEnvC scope cl C X.env) fp) tg τ)
    (ht : ∀ (B : Bs) (s : Shared) (H : Hp) (C : Addr) (cl : List (Str × Addr)) (fp : List Addr), STs nm B WF (X.blk s H scope (compEnvC scope cl C X.env) fp) ifs t)
    (hi1 : ∀ (B : Bs) (s : Shared) (H : Hp) (C : Addr) (cl : List (Str × Addr)) (fp : List Addr), SI nm B WF (X.blk s H scope (compEnvC scope cl C X.env) fp) tg1 iter1 it1)
    (hg1 : ∀ (s : Shared) (H : Hp) (C : Addr) (cl : List (Str × Addr)) (fp : List Addr), SG (X.blk s H scope (compEnvC scope cl C X.env) fp) tg1 τ1)
    (ht1 : ∀ (B : Bs) (s : Shared) (H : Hp) (C : Addr) (cl : List (Str × Addr)) (fp : List Addr), STs nm B WF (X.blk s H scope (compEnvC scope cl C X.env) fp) ifs1 t1)
    (he : ∀ (B : Bs) (s : Shared) (H : Hp) (C : Addr) (cl : List (Str × Addr)) (fp : List Addr), SE nm B WF (X.blk s H scope (compEnvC scope cl C X.env) fp) elt f)
    (hsl : ∀ n ∈ τ.slots, n ∈ own.map (·.2)) (hsl1 : ∀ n ∈ τ1.slots, n ∈ vs1) (hv : ∀ i ∈ vs1, i ∈ own.map (·.2)) (hs : ∀ x, foldedSetIterable iter X.env x = pure x := by intro _; rfl) (hs1 : ∀ env x, foldedSetIterable iter1 env x = pure x := by intro _ _; rfl) :
    SE nm B W X (.ListComp elt [⟨tg, iter, ifs, 0⟩, ⟨tg1, iter1, ifs1, 0⟩] scope pos) (mLc2 τ it t it1 τ1 t1 f (own.map (·.2)) vs1) :=
  PE.imp (pe_lc2 hc hN hi ok hv hg (fun s H C cl fp => pts_ex fun B => ht B s H C cl fp) (fun s H C cl fp => pi_ex fun B => hi1 B s H C cl fp) hg1 (fun s H C cl fp => pts_ex fun B => ht1 B s H C cl fp) (fun s H C cl fp => pe_ex fun B => he B s H C cl fp) hs hs1) fun _ _ _ h => lc2_imp (own := own) hsl hsl1 h
end
/-! ### defs with a star parameter -/
/-- n parameters ahead of the star one -/
def starF (n : Nat) (φ : Fun) : Fun := fun ds mem => if n ≤ ds.length ∧ (ds.drop n).length ≤ sizeLine then φ (ds.take n ++ [.tup (ds.drop n)]) mem else .bad
section
variable {P : Program} {w : World} {K : PySem.W.Frag} {mg : Str → Option Value} {base : Heap} {x qual pv : Str} {params : Arguments} {body : List Stmt} {scope : Scope} {f : Addr} {fd : FuncData} {nm : String → List Str} {N ps : List Str} {k : Nat} {g : MS} {C : String}
theorem star_rx {T : Tx} {n : Nat} {φ : Fun} {vs : List V} {H : Hp} {Q : VK} {E : XK} (h : RX T (starF n φ) vs H Q E) :
    ∃ ws rest, vs = ws ++ rest ∧ ws.length = n ∧ rest.length ≤ sizeLine ∧ ∀ p, H p = none → RX T φ (ws ++ [V.ref p]) (upd H p (.tup rest)) Q E := by
  obtain ⟨F, ad, mem, ds, s, i, h⟩ := h
  unfold starF at h
  by_cases c : n ≤ ds.length ∧ (ds.drop n).length ≤ sizeLine
  case neg => rw [if_neg c] at h; exact h.elim
  rw [if_pos c] at h
  have lv := i.length
  refine ⟨vs.take n, vs.drop n, (List.take_append_drop n vs).symm, by simp; omega, by simp at c ⊢; omega, fun p hp => ?_⟩
  have z := s.new (o := .tup (vs.drop n)) hp
  refine ⟨_, ad, mem, ds.take n ++ [.tup (ds.drop n)], z.sat, ((i.take n).mono z.gro z.pre).append (IsL.cons (d := .tup (ds.drop n)) ⟨p, vs.drop n, rfl, .inl (.inl upd_same), (i.drop n).mono z.gro z.pre⟩ IsL.nil), ?_⟩
  cases e : φ (ds.take n ++ [.tup (ds.drop n)]) mem with
  | bad => rw [e] at h; exact h
  | ok d m => rw [e] at h; exact fun v F' ad' H' y q => h v F' ad' H' (z.trans y) q
  | exc C xs m => rw [e] at h; exact fun dc F' ad' H' y q => h dc F' ad' H' (z.trans y) q
/-- how such a def binds -/
abbrev BindS (x qual pv : Str) (params : Arguments) (body : List Stmt) (scope : Scope) (ps : List Str) : Prop := ∀ (kV doc pm : Value) (an : Option Addr) (cdv ct : Value) (us rest : List Value), us.length = ps.length →
  bindArgs (PySem.W.fnOf x qual params body scope .none kV doc pm an cdv ct) ⟨us ++ rest, []⟩ = (newTuple rest >>= fun t => pure (ps.zip us ++ [(pv, t)]))
theorem fnS_n (F : FunD K x qual params body scope [] [] f fd) (S : FnScope N (ps ++ [pv]) scope) (hb : BindS x qual pv params body scope ps)
    (hbody : ∀ (B : Bs) (cdv : Value) (A : Around) (outer : List Env) (s : Shared) (H : Hp) (E : XK), Room k (A.deeper (envOfC qual scope s.heap.objs.size f cdv)) → SSs nm B WF (cxOf CX0 P w K mg base N qual scope f cdv A outer s H E).nox body g) :
    FnR P w K mg base CX0 (k + 1) f (fun vs H Q _ => RX ⟨K, nm⟩ (starF ps.length (phi (ps ++ [pv]).length N.length g)) vs H Q fun _ _ _ => False) := by
  obtain ⟨oc, od, dV, kV, doc, pm, an, cdv, ct, osl, rfl, lk, hcd, hD, hK⟩ := F.ex
  rcases hD with ⟨_, rfl⟩ | ⟨e, _⟩
  · refine FnR.imp (StX.fn_star (sp := fun vs H Q _ => RX ⟨K, nm⟩ (phi (ps ++ [pv]).length N.length g) vs H Q fun _ _ _ => False) lk hcd S (CX := CX0) (fun _ _ _ _ _ _ _ _ _ _ _ z => z) (hb kV doc pm an cdv ct) fun A outer s H vs Q E hr h => ?_) fun vs H Q E h => star_rx h
    obtain ⟨B, hB⟩ := body_imp (ps := ps ++ [pv]) (N := N) (W := WF) (fun _ _ _ _ z => z) h
    exact ⟨_, (hbody B cdv A outer s H E hr).nox, hB⟩
  · exact absurd rfl e
/-- an __init__ with a star parameter; self is the first name -/
def starI (n : Nat) (ι : IFun) : IFun := fun ds mem => if n ≤ ds.length ∧ (ds.drop n).length ≤ sizeLine then ι (ds.take n ++ [.tup (ds.drop n)]) mem else .bad
theorem starI_ri {T : Tx} {n : Nat} {ι : IFun} {vs : List V} {H : Hp} {Q : VK} {E : XK} (h : RI T C (starI n ι) vs H Q E) :
    ∃ ws rest, vs = ws ++ rest ∧ ws.length = n + 1 ∧ rest.length ≤ sizeLine ∧ ∀ p, H p = none → RI T C ι (ws ++ [V.ref p]) (upd H p (.tup rest)) Q E := by
  obtain ⟨a, dx, vs, F, ad, mem, ds, rfl, ha, hF, had, s, i, h⟩ := h
  unfold starI at h
  by_cases c : n ≤ ds.length ∧ (ds.drop n).length ≤ sizeLine
  case neg => rw [if_neg c] at h; exact h.elim
  rw [if_pos c] at h
  have lv := i.length
  refine ⟨.ref a :: vs.take n, vs.drop n, by simp, by simp; omega, by simp at c ⊢; omega, fun p hp => ?_⟩
  have hpa : a ≠ p := ne_of_none ha hp
  have z := s.new (o := .tup (vs.drop n)) hp
  refine ⟨a, dx, vs.take n ++ [V.ref p], _, ad, mem, ds.take n ++ [.tup (ds.drop n)], rfl, by rw [upd_ne hpa]; exact ha, by rw [upd_ne hpa]; exact hF, had, z.sat, ((i.take n).mono z.gro z.pre).append (IsL.cons (d := .tup (ds.drop n)) ⟨p, vs.drop n, rfl, .inl (.inl upd_same), (i.drop n).mono z.gro z.pre⟩ IsL.nil), ?_⟩
  have tr : ∀ {F' ad' mem' H'}, ExtA T (upd F p (.tup (vs.drop n))) ad (upd H p (.tup (vs.drop n))) a F' ad' mem' H' → ExtA T F ad H a F' ad' mem' H' := fun y => ⟨y.sat, z.gro.trans y.gro, z.pre.trans y.pre, y.out, fun b o hb h1 h2 h3 => by
    obtain ⟨g1, g2, g3⟩ := z.frm b o h1 h2 h3
    exact y.frm b o hb g1 g2 g3⟩
  cases e : ι (ds.take n ++ [.tup (ds.drop n)]) mem with
  | bad => rw [e] at h; exact h
  | ok d m => rw [e] at h; exact fun fs dx' F' ad' H' y q1 q2 q3 => h fs dx' F' ad' H' (tr y) q1 q2 q3
  | exc C xs m => rw [e] at h; exact fun dc F' ad' H' y q => h dc F' ad' H' (tr y) q
theorem initS_n {sf : Str} (F : FunD K x qual params body scope [] [] f fd) (S : FnScope N ((sf :: ps) ++ [pv]) scope) (hb : BindS x qual pv params body scope (sf :: ps))
    (hbody : ∀ (B : Bs) (cdv : Value) (A : Around) (outer : List Env) (s : Shared) (H : Hp) (E : XK), Room k (A.deeper (envOfC qual scope s.heap.objs.size f cdv)) → SSs nm B WF (cxOf CX0 P w K mg base N qual scope f cdv A outer s H E).nox body g) (hN : ((sf :: ps) ++ [pv]).length ≤ N.length) :
    FnR P w K mg base CX0 (k + 1) f (fun vs H Q _ => RI ⟨K, nm⟩ C (starI ps.length (phiI ((sf :: ps) ++ [pv]).length N.length C g)) vs H Q fun _ _ _ => False) := by
  obtain ⟨oc, od, dV, kV, doc, pm, an, cdv, ct, osl, rfl, lk, hcd, hD, hK⟩ := F.ex
  rcases hD with ⟨_, rfl⟩ | ⟨e, _⟩
  · refine FnR.imp (StX.fn_star (sp := fun vs H Q _ => RI ⟨K, nm⟩ C (phiI ((sf :: ps) ++ [pv]).length N.length C g) vs H Q fun _ _ _ => False) lk hcd S (CX := CX0) (fun _ _ _ _ _ _ _ _ _ _ _ z => z) (hb kV doc pm an cdv ct) fun A outer s H vs Q E hr h => ?_) fun vs H Q E h => starI_ri h
    obtain ⟨B, hB⟩ := initW_imp (ps := (sf :: ps) ++ [pv]) (N := N) (W := WF) (fun _ _ _ _ z => z) hN h
    exact ⟨_, (hbody B cdv A outer s H E hr).nox, hB⟩
  · exact absurd rfl e
end
/-! ### from a def's body to its plain promise -/
def NoX (φ : Fun) : Prop := ∀ ds mem C xs m, φ ds mem ≠ .exc C xs m
def NoXI (ι : IFun) : Prop := ∀ ds mem C xs m, ι ds mem ≠ .exc C xs m
section
variable {P : Program} {w : World} {K : PySem.W.Frag} {mg : Str → Option Value} {base : Heap} {f : Addr} {fd : FuncData} {nm : String → List Str} {ps : List Str} {k : Nat} {φ ψ : Fun} {ι κ : IFun} {C : String}
theorem RX.nox {T : Tx} (hn : NoX φ) {vs : List V} {H : Hp} {Q : VK} {E : XK} (h : RX T φ vs H Q E) : RX T φ vs H Q fun _ _ _ => False := by
  obtain ⟨F, ad, mem, ds, s, i, h⟩ := h
  refine ⟨F, ad, mem, ds, s, i, ?_⟩
  cases e : φ ds mem with
  | bad => rw [e] at h; exact h
  | ok d m => rw [e] at h; exact h
  | exc C xs m => exact absurd e (hn ds mem C xs m)
theorem RI.nox {T : Tx} (hn : NoXI ι) {vs : List V} {H : Hp} {Q : VK} {E : XK} (h : RI T C ι vs H Q E) : RI T C ι vs H Q fun _ _ _ => False := by
  obtain ⟨a, dx, ws, F, ad, mem, ds, e0, h1, h2, h3, s, i, h⟩ := h
  refine ⟨a, dx, ws, F, ad, mem, ds, e0, h1, h2, h3, s, i, ?_⟩
  cases e : ι ds mem with
  | bad => rw [e] at h; exact h
  | ok d m => rw [e] at h; exact h
  | exc C xs m => exact absurd e (hn ds mem C xs m)
theorem phi_len {n m : Nat} {g : MS} {ds : List D} {mem : List MO} (h : phi n m g ds mem ≠ .bad) : ds.length = n := by
  unfold phi at h
  by_cases c : ds.length = n
  · exact c
  · rw [if_neg c] at h; exact absurd rfl h
theorem fp_of {n m : Nat} {g : MS} (F : FnOk P w K mg base CX0 k f fd ps (fun vs H Q _ => vs.length = n ∧ RX ⟨K, nm⟩ (phi n m g) vs H Q fun _ _ _ => False)) (hb : Binds K fd ps []) (le : Le ψ (phi n m g)) (hn : NoX ψ) : Fp P w K mg base CX0 nm k f ψ :=
  FnR.imp (F.raw hb .nil) fun vs H Q E h => by
    have h2 := (h.nox hn).le le
    obtain ⟨F, ad, mem, ds, s, i, h3⟩ := id h2
    refine ⟨?_, by rw [List.append_nil]; exact h2⟩
    have := phi_len (n := n) (m := m) (g := g) (ds := ds) (mem := mem) (fun e => by rw [e] at h3; exact h3)
    rw [List.append_nil, i.length, this]
theorem fp_ofS {χ : Fun} (F : FnR P w K mg base CX0 k f (fun vs H Q _ => RX ⟨K, nm⟩ χ vs H Q fun _ _ _ => False)) (le : Le ψ χ) (hn : NoX ψ) : Fp P w K mg base CX0 nm k f ψ :=
  FnR.imp F fun vs H Q E h => (h.nox hn).le le
theorem phiI_len {n m : Nat} {g : MS} {ds : List D} {mem : List MO} (h : phiI n m C g ds mem ≠ .bad) : ds.length + 1 = n := by
  unfold phiI at h
  by_cases c : ds.length + 1 = n
  · exact c
  · rw [if_neg c] at h; exact absurd rfl h
/-- dvs: the defaults that fill up, none in use here -/
theorem ip_of {n m : Nat} {g : MS} (F : FnOk P w K mg base CX0 k f fd ps (fun vs H Q _ => vs.length = n ∧ RI ⟨K, nm⟩ C (phiI n m C g) vs H Q fun _ _ _ => False)) (hb : Binds K fd ps []) (le : LeI κ (phiI n m C g)) (hn : NoXI κ) : FnR P w K mg base CX0 k f (RI ⟨K, nm⟩ C κ) :=
  FnR.imp (F.raw hb .nil) fun vs H Q E h => by
    have h2 := (h.nox hn).le le
    obtain ⟨a, dx, ws, F, ad, mem, ds, e0, h1', h2', h3', s, i, h3⟩ := id h2
    refine ⟨?_, by rw [List.append_nil]; exact h2⟩
    have := phiI_len (C := C) (n := n) (m := m) (g := g) (ds := ds) (mem := mem) (fun e => by rw [e] at h3; exact h3)
    rw [List.append_nil, e0]
    simp [i.length, this]
theorem ip_ofS {χ : IFun} (F : FnR P w K mg base CX0 k f (fun vs H Q _ => RI ⟨K, nm⟩ C χ vs H Q fun _ _ _ => False)) (le : LeI κ χ) (hn : NoXI κ) : FnR P w K mg base CX0 k f (RI ⟨K, nm⟩ C κ) :=
  FnR.imp F fun vs H Q E h => (h.nox hn).le le
end
/-! ### in, by an own __contains__ -/
def blK (r : D) (m : List MO) : Res D := match r with
  | .bl b => .ok (.bl b) m
  | _ => .bad
def mInO (C : String) (φ : Fun) (f g : ME) : ME := fun env mem => (f env mem).bind fun a m => (g env m).bind fun c m2 => match c with
  | .ins C' xs => if C' = C then (φ [.ins C' xs, a] m2).bind blK else .bad
  | _ => .bad
theorem in_own {M : Model} {A : Around} {E : Value → Shared → Prop} {s : Shared} {K : PySem.W.Frag} {x C f : Addr} {ox : Obj} {od : Option Obj} {v : Value} {Q : Value → Shared → Prop} (X : K.In s.heap) (I : PySem.W.InstAt s.heap x ox C od) (hs : PySem.W.findIn K (.ref C) "__contains__" = some (some (.ref f))) (hf : PySem.W.isFn K (.ref f) = true)
    (h : wpAny M A (call (.ref f) [.ref x, v]) (fun r s' => wpAny M A (truthy r) (fun b => Q (.bool b)) E s') E s) : wpAny M A (compareOp .In v (.ref x)) Q E s := by
  refine wpAny_bind ?_
  unfold contains
  refine wpAny_holding (wpAny_bind (wpAny_bind (I.type.here ((PySem.W.looks_findIn X hs).here ?_))))
  rw [if_neg (by simp)]
  refine wpAny_bind (PySem.W.unlessNone_K X I hs hf (wpAny_mono h (fun _ _ z => ?_) fun _ _ z => z))
  exact wpAny_mono z (fun _ _ z => wpAny_pure z) fun _ _ z => z
section
variable {nm : String → List Str} {B : Bs} {W : WX} {X : Cx} {CX : CXT} {k : Nat} {C : String} {φ : Fun} {a b : Expr} {f g : ME} {pos : Pos}
def rInO (X : Cx) (nm : String → List Str) (C : String) (φ : Fun) : R2 := fun x y H Q => ∃ p dx fs, y = .ref p ∧ H p = some (.ins (He.ga X.K (Str.ofString C)) dx fs) ∧ RX (tx X nm) φ [y, x] H (fun v H' => ∃ b, v = .bl b ∧ Q (.bl b) H') fun _ _ _ => False
theorem op_inO (M : Dm X.prog X.w X.K X.mg X.base CX0 nm k (Str.ofString C) "__contains__" φ) (hr : Room k X.A) : OpR X (compareOp .In) (rInO X nm C φ) := by
  intro pins s σ H x y v u Q I rx ry h
  obtain ⟨p, dx, fs, rfl, hp, h⟩ := h
  cases (show u = Value.ref p from ry)
  obtain ⟨ox, od, J, _⟩ := StX.insC_at I (.inr ⟨dx, fs, hp⟩)
  refine in_own I.kIn J M.me.at_ M.me.fn (thn (fp_run (us := [.ref p, v]) (vs := [.ref p, x]) (W := WF) M.fn hr thr0 I (.cons rfl (.cons rx .nil)) h) fun r s1 ⟨z, H1, I1, rz, b, ez, q⟩ => ?_)
  subst ez
  cases rz
  exact wpAny_truthy_bool ⟨.bl b, H1, I1, rfl, q⟩
theorem inO_imp : ∀ {σ : L2.St} {H : Hp} {Q : VK}, tE (tx X nm) B WF (mInO C φ f g) σ H Q → tOp (rInO X nm C φ) (tE (tx X nm) B WF f) (tE (tx X nm) B WF g) σ H Q := by
  rintro σ H Q ⟨env, mem, ex, s, h⟩
  refine tE_step s h fun v H1 d m s1 q1 => tE_step s1 q1.push1 fun u H2 e m2 s2 q2 => ?_
  cases e with
  | ins C' xs =>
    dsimp only at q2
    split at q2
    case isFalse => exact q2.elim
    rename_i hC
    subst hC
    obtain ⟨F, ad, s3⟩ := id s2
    obtain ⟨p, dx, fs, eu, h1, h2, h3⟩ := s3.top
    have eu : u = .ref p := eu
    subst eu
    refine ⟨p, dx, fs, rfl, s3.sat.sub _ _ h1, ?_⟩
    refine rx_at (W := WF) (p := [(.ref p, .ins C' xs)]) (ex := (v, d) :: ex) (env := env) s3 (IsL.cons s3.top (IsL.cons (s3.tmp (v, d) (by simp)) IsL.nil)) ?_
    have q3 := q2.bind
    cases er : φ [.ins C' xs, d] m2 with
    | bad => rw [er] at q3; exact q3
    | exc Y ys m3 => rw [er] at q3; exact fun dc F ad H' t x => q3 dc F ad H' t x
    | ok r m3 =>
      rw [er] at q3
      cases r with
      | bl b => exact fun w H' s' => ⟨b, by obtain ⟨F', ad', s'⟩ := s'; exact s'.top, q3 _ H' (by obtain ⟨F', ad', s'⟩ := s'; exact ⟨F', ad', s'.pop.pop.push rfl⟩)⟩
      | _ => exact q3.elim
  | _ => exact q2.elim
theorem se_inO (M : Dm X.prog X.w X.K X.mg X.base CX0 nm k (Str.ofString C) "__contains__" φ) (hr : Room k X.A) (ha : SE nm B WF X a f) (hb : SE nm B WF X b g) (hm : behindInMarks .In b = false := by rfl) : SE nm B WF X (.Compare a [.In] [b] pos) (mInO C φ f g) :=
  PE.imp (pe_cmpR (op_inO M hr) ha hb hm) fun _ _ _ => inO_imp
/-! ### a class's own constants, tuples of the module -/
def flD : D → Bool
  | .int _ => true
  | .str _ => true
  | .bl _ => true
  | .non => true
  | _ => false
def vD : D → V
  | .int i => .int i
  | .str x => .str x
  | .bl b => .bl b
  | _ => .non
theorem vD_is {T : Tx} {F : Hp} {ad : List Addr} : ∀ {ds : List D}, ds.all flD = true → IsL T F ad ds (ds.map vD)
  | [], _ => IsL.nil
  | d :: ds, h => by
    obtain ⟨h1, h2⟩ := Bool.and_eq_true_iff.mp (List.all_cons ▸ h)
    refine IsL.cons ?_ (vD_is h2)
    cases d <;> first | rfl | cases h1
/-- C.f, a tuple of texts or ints that stands in the written part -/
def catB (C : String) (f : Str) (ds : List D) : Fct := fun K => let c := He.ga K (Str.ofString C)
  decide (PySem.W.readsIn K c (.type "type") = true) && (decide (PySem.W.specialIn K (.ref c) "__getattribute__" = some (some (.builtin "type.__getattribute__"))) && (ds.all flD && (match PySem.W.findCls K (.ref c) (.type "type") f with
    | some (.val (.ref a)) => (match K.lookup a with
      | some ⟨.type c, _, .seq its _, _⟩ => decide (c = "tuple") && (decide (its.size ≤ sizeLine) && He.relAll (ds.map vD) its.toList)
      | _ => false)
    | _ => false)))
theorem catB_ok {C : String} {f : Str} {ds : List D} {K : PySem.W.Frag} (h : catB C f ds K = true) : ClX.CRead K (He.ga K (Str.ofString C)) (.type "type") ∧ ds.all flD = true ∧ ∃ a, ClX.CVal K (He.ga K (Str.ofString C)) (.type "type") f (.ref a) (.ref a) ∧ ∀ F, SqT K F a (ds.map vD) := by
  unfold catB at h
  simp only [Bool.and_eq_true, decide_eq_true_eq] at h
  obtain ⟨h1, h2, h3, h4⟩ := h
  refine ⟨⟨h1, h2⟩, h3, ?_⟩
  split at h4
  case h_2 => cases h4
  rename_i a e
  split at h4
  case h_2 => cases h4
  rename_i c od its n sl q
  simp only [Bool.and_eq_true, decide_eq_true_eq] at h4
  obtain ⟨g1, g2, g3⟩ := h4
  exact ⟨a, ⟨e, rfl⟩, fun F => .inr ⟨_, its, n, q, congrArg Value.type g1, rfl, g2, He.relAll_ok g3⟩⟩
theorem se_cat (C : String) (ds : List D) {fa : Str} {p : Pos} (h : catB C fa ds X.K = true) (hm : X.mg (Str.ofString C) = some (.ref (He.ga X.K (Str.ofString C)))) (hg : Gl X (Str.ofString C) := by rfl) (hd : (Str.ofString C == ("__debug__" : Str)) = false := by decide)
    (hb : attributeBase (.Name (Str.ofString C) p) fa X.env (eval (.Name (Str.ofString C) p) X.env) = eval (.Name (Str.ofString C) p) X.env := by rfl) : SE nm B W X (.Attribute (.Name (Str.ofString C) p) fa pos) (mC (.tup ds)) := by
  obtain ⟨r, fl, a, cv, sq⟩ := catB_ok h
  exact PE.imp (ClX.pe_cval (pe_glob (v := .ref (He.ga X.K (Str.ofString C))) hg hm rfl hd) hb) fun σ H Q q => ⟨_, _, _, _, rfl, r, cv, tC_imp (d := .tup ds) (v := .ref a) (fun F ad => ⟨a, _, rfl, sq F, vD_is fl⟩) q⟩
/-- the module's name x, a tuple of texts or ints -/
def mtB (x : Str) (ds : List D) : Fct := fun K => ds.all flD && (match K.lookup (He.ga K x) with
  | some ⟨.type c, _, .seq its _, _⟩ => decide (c = "tuple") && (decide (its.size ≤ sizeLine) && He.relAll (ds.map vD) its.toList)
  | _ => false)
theorem mtB_ok {x : Str} {ds : List D} {K : PySem.W.Frag} (h : mtB x ds K = true) : ds.all flD = true ∧ ∀ F, SqT K F (He.ga K x) (ds.map vD) := by
  unfold mtB at h
  simp only [Bool.and_eq_true] at h
  obtain ⟨h3, h4⟩ := h
  refine ⟨h3, ?_⟩
  split at h4
  case h_2 => cases h4
  rename_i c od its n sl q
  simp only [Bool.and_eq_true, decide_eq_true_eq] at h4
  obtain ⟨g1, g2, g3⟩ := h4
  exact fun F => .inr ⟨_, its, n, q, congrArg Value.type g1, rfl, g2, He.relAll_ok g3⟩
theorem se_gtup (ds : List D) {x : Str} (h : mtB x ds X.K = true) (hm : X.mg x = some (.ref (He.ga X.K x))) (hg : Gl X x := by rfl) (hd : (x == ("__debug__" : Str)) = false := by decide) : SE nm B W X (.Name x pos) (mC (.tup ds)) := by
  obtain ⟨fl, sq⟩ := mtB_ok h
  exact PE.imp (pe_glob (v := .ref (He.ga X.K x)) hg hm rfl hd) fun σ H Q q => tC_imp (d := .tup ds) (v := .ref (He.ga X.K x)) (fun F ad => ⟨_, _, rfl, sq F, vD_is fl⟩) q
/-! ### keywords -/
/-- x(k = e), x a def of one parameter k (or more, all by keyword in the parameters' order) -/
structure Kal (X : Cx) (nm : String → List Str) (W : WX) (f : Addr) (ks : List Str) (φ : Fun) : Prop where
  kp : PySem.W.keepIn X.K (.ref f) = true
  run : ∀ {pins : List (Addr × Obj)} {σ : L2.St} {H : Hp} {s : Shared} {Q : VK} {us : List Value} {vs : List V}, Inv X pins σ H s → Vals vs us → us.length = ks.length → RX (tx X nm) φ vs H Q (fun c d H => W c d σ H) → wpAny (model X.prog X.w) X.A (call (.ref f) [] (ks.zip us)) (EP X pins σ Q) X.xe s
end
/-! ### what a mirror tells, without exceptions -/
def Res.nx {α : Type} (r : Res α) : Res α := match r with
  | .exc _ _ _ => .bad
  | r => r
def nx (φ : Fun) : Fun := fun ds mem => (φ ds mem).nx
def nxI (ι : IFun) : IFun := fun ds mem => (ι ds mem).nx
theorem nx_no (φ : Fun) : NoX (nx φ) := fun ds mem C xs m e => by
  unfold nx Res.nx at e
  cases h : φ ds mem <;> rw [h] at e <;> cases e
theorem nx_le (φ : Fun) : Le (nx φ) φ := fun ds mem h => by
  unfold nx Res.nx at h ⊢
  cases e : φ ds mem <;> rw [e] at h <;> first | rfl | exact absurd rfl h
theorem nxI_no (ι : IFun) : NoXI (nxI ι) := fun ds mem C xs m e => by
  unfold nxI Res.nx at e
  cases h : ι ds mem <;> rw [h] at e <;> cases e
theorem nxI_le (ι : IFun) : LeI (nxI ι) ι := fun ds mem h => by
  unfold nxI Res.nx at h ⊢
  cases e : ι ds mem <;> rw [e] at h <;> first | rfl | exact absurd rfl h
/-- the step ends, its value and the things fulfil P -/
def Ok {α : Type} (r : Res α) (P : α → List MO → Prop) : Prop := ∃ a m, r = .ok a m ∧ P a m
theorem prop_of {P : Program} {w : World} {K : PySem.W.Frag} {mg : Str → Option Value} {base : Heap} {f : Addr} {fd : FuncData} {nm : String → List Str} {ps : List Str} {k m : Nat} {g : MS} {ψ : Fun} (F : FnOk P w K mg base CX0 k f fd ps (fun vs H Q _ => vs.length = 1 ∧ RX ⟨K, nm⟩ (phi 1 m g) vs H Q fun _ _ _ => False)) (hl : ps.length = 1) (hb : Binds K fd ps []) (le : Le ψ (phi 1 m g)) (hn : NoX ψ) :
    ∃ fd ps, ps.length = 1 ∧ FnOk P w K mg base CX0 k f fd ps (fun vs H Q E => vs.length = ps.length ∧ RX ⟨K, nm⟩ ψ vs H Q E) ∧ Binds K fd ps [] :=
  ⟨fd, ps, hl, F.imp fun vs H Q E h => ⟨h.1.trans hl, (h.2.nox hn).le le⟩, hb⟩
/-! ### calls by keywords alone -/
/-- the promise of x(k1 = .., ..) with the keywords ks -/
def FnKw (P : Program) (w : World) (K : PySem.W.Frag) (mg : Str → Option Value) (base : Heap) (CX : CXT) (nm : String → List Str) (k : Nat) (f : Addr) (ks : List Str) (φ : Fun) : Prop :=
  ∀ (A : Around) (outer : List Env) (s : Shared) (H : Hp) (ws : List Value) (zs : List V) (Q : VK) (E : XK), Room k A → Env0 P w K mg base A outer s H → Vals zs ws → ws.length = ks.length → RX ⟨K, nm⟩ φ zs H Q E →
    codeAny (model P w) A (.call (.ref f) ⟨[], ks.zip ws⟩) (CR CX outer P w H s Q E) s
structure Dkw (P : Program) (w : World) (K : PySem.W.Frag) (mg : Str → Option Value) (base : Heap) (CX : CXT) (nm : String → List Str) (k : Nat) (x : Str) (ks : List Str) (φ : Fun) : Prop where
  g : mg x = some (.ref (He.ga K x))
  kp : PySem.W.keepIn K (.ref (He.ga K x)) = true
  fn : FnKw P w K mg base CX nm k (He.ga K x) ks φ
section
variable {P : Program} {w : World} {K : PySem.W.Frag} {mg : Str → Option Value} {base : Heap} {x qual : Str} {params : Arguments} {body : List Stmt} {scope : Scope} {f : Addr} {fd : FuncData} {nm : String → List Str} {ps : List Str} {k m : Nat} {g : MS} {ψ : Fun}
theorem kw_of (D : FunD K x qual params body scope [] [] f fd) (F : FnOk P w K mg base CX0 k f fd ps (fun vs H Q _ => vs.length = ps.length ∧ RX ⟨K, nm⟩ (phi ps.length m g) vs H Q fun _ _ _ => False))
    (hb : ∀ (kV doc pm : Value) (an : Option Addr) (cdv ct : Value) (ws : List Value), ws.length = ps.length → bindArgs (PySem.W.fnOf x qual params body scope .none kV doc pm an cdv ct) ⟨[], ps.zip ws⟩ = pure (ps.zip ws))
    (le : Le ψ (phi ps.length m g)) (hn : NoX ψ) : FnKw P w K mg base CX0 nm k f ps ψ := by
  intro A outer s H ws zs Q E hr e0 r l h
  obtain ⟨oc, od, dV, kV, doc, pm, an, cdv, ct, osl, rfl, lk, hcd, hD, hK⟩ := D.ex
  rcases hD with ⟨_, rfl⟩ | ⟨e, _⟩
  case inr => exact absurd rfl e
  exact F.run A outer s H ⟨[], ps.zip ws⟩ ws zs Q E hr e0 (.of_eq (hb kV doc pm an cdv ct ws l)) r ⟨r.length.trans l, (h.nox hn).le le⟩
end
abbrev SK (nm : String → List Str) (B : Bs) (W : WX) (X : Cx) (kws : List Keyword) (g : MA) : Prop := PK X kws (tA (tx X nm) B W g)
section
variable {nm : String → List Str} {B : Bs} {W : WX} {X : Cx} {CX : CXT} {k : Nat} {x kn : Str} {φ : Fun} {e : Expr} {kws : List Keyword} {f : ME} {g : MA} {pos p kpos : Pos} {ks : List Str}
theorem PK.imp {t u : TA} (h : PK X kws t) (i : ∀ σ H Q, u σ H Q → t σ H Q) : PK X kws u := ⟨fun pos pins s σ H Q I q => h.run pos pins s σ H Q I (i σ H Q q)⟩
theorem sk_nil : SK nm B W X [] mNil := PK.imp pk_nil fun σ H Q ⟨env, mem, ex, s, h⟩ => h [] H rfl s
theorem sk_cons {kk : Option Str} (ha : SE nm B W X e f) (hr : SK nm B W X kws g) : SK nm B W X (⟨kk, e, kpos⟩ :: kws) (mCons f g) :=
  PK.imp (pk_cons ha hr) fun σ H Q ⟨env, mem, ex, s, h⟩ => by
    refine tE_step s h fun v H1 d m s1 q1 => tA_step s1 q1.push1 fun vs H2 ds m2 l s2 q2 => q2 (v :: vs) H2 (by simp [l]) (s2.sub fun p hp => ?_)
    simp only [List.zip_cons_cons, List.cons_append, List.mem_cons, List.mem_append] at hp ⊢
    grind
def mKw (n : Nat) (φ : Fun) (g : MA) : ME := fun env mem => (g env mem).bind fun ds m => if ds.length = n then φ ds m else .bad
/-- x(k1 = e1, ..) -/
theorem se_kw (M : Dkw X.prog X.w X.K X.mg X.base CX nm k x ks φ) (hr : Room k X.A) (hx : Thr CX X W) (ha : SK nm B W X kws g) (hg : Gl X x := by rfl) (hd : (x == ("__debug__" : Str)) = false := by decide)
    (hall : (backToKw pos (keywordEach kws X.env)).all (·.1.isSome) = true := by rfl) (hks : (backToKw pos (keywordEach kws X.env)).filterMap (·.1) = ks := by rfl)
    (hpl : ((backTo pos (starEach [] X.env)).any (·.1) || (backToKw pos (keywordEach kws X.env)).any (·.1.isNone)) = false := by rfl) : SE nm B W X (.Call (.Name x p) [] kws pos) (mKw ks.length φ g) :=
  ⟨fun pins s σ H Q I ⟨env, mem, ex, st, h⟩ => wpAny_Call_Name_kw (ld_glob I hg M.g (PySem.W.callWith_KW0 (h₀ := X.base) I.ok.mod.kin M.kp hall (thn (ha.run pos pins s σ H
    (fun vs H1 => vs.length = ks.length ∧ RX ⟨X.K, nm⟩ φ vs H1 Q fun c d H => W c d σ H) I (tA_step st h fun vs H1 ds m l s1 q => by
      split at q
      case isFalse => exact q.elim
      rename_i c
      exact ⟨l.trans c, rx_of (p := vs.zip ds) s1 (fun _ _ s2 => il_of l s2) q⟩))
      fun us s1 ⟨vs, H1, I1, r, l, q⟩ => ⟨I1.kIn, by
        rw [hks]
        exact wpAny_call (codeAny_mono (M.fn X.A X.stack s1 H1 us vs Q _ hr I1.env0 r (r.length.symm.trans l) q) fun r s' hq => by
          cases r with
          | error e => exact hx σ pins σ H1 s1 e s' I1 hq
          | ok fl =>
            cases fl with
            | ret u => exact I1.after hq
            | _ => exact hq.elim)⟩) hpl) hd)⟩
end
/-! ### repr -/
def dRepr : Pur
  | [.bl b] => some (.str (if b then "True" else "False"))
  | [.int i] => if i.natAbs.log2 < 1920 then some (.str (toString i)) else none
  | _ => none
section
variable {X : Cx} {nm : String → List Str}
theorem call_repr_bl : CallR X (.builtin "repr") (fun xs H Q => ∃ b, xs = [V.bl b] ∧ Q (.str (if b then "True" else "False")) H) := by
  intro pins s σ H xs us Q I r ⟨b, ex, q⟩
  subst ex
  obtain ⟨u, eu, ru⟩ := vals1 r
  subst eu
  cases (show u = Value.bool b from ru)
  refine PySem.P.repr_of_bool ⟨.str (if b then "True" else "False"), H, I.tok _, ⟨s.toks, ?_⟩, q⟩
  cases b <;> rfl
theorem c_repr : CallR X (.builtin "repr") (RP (tx X nm) dRepr) := cr_imp (CallR.or call_repr_bl SkE.call_repr_int) fun vs H Q h => by
  obtain ⟨F, ad, mem, ds, d, s, i, e, q⟩ := rp_flat h
  unfold dRepr at e
  split at e
  · cases e
    obtain ⟨v, rfl, h1⟩ := i.one
    exact .inl ⟨_, by rw [show v = V.bl _ from h1], q _ rfl⟩
  · split at e
    · rename_i c
      cases e
      obtain ⟨v, rfl, h1⟩ := i.one
      exact .inr ⟨_, by rw [show v = V.int _ from h1], c, q _ rfl⟩
    · cases e
  · cases e
end
end Vt
set_option Elab.async false
set_option linter.all false
set_option maxRecDepth 100000
set_option maxHeartbeats 4000000
set_option autoImplicit false
namespace PySem
open Sem (wp)
/-- a zip: v what it handed out, f its flag -/
abbrev ZAt (h : Heap) (z TI TO : Addr) (v : Value) (f : Bool) : Prop :=
  h.get? z = some { cls := .type "zip", dict := none, data := .fields #[v, .bool f, .bool false, .ref TI, .ref TO], slots := #[] }
section
variable {prog : Program} {w : World} {A : Around} {E : Value → Shared → Prop} {s : Shared}
theorem vt_free {z TI TO : Addr} {v : Value} {f : Bool} {Q : Bool → Shared → Prop} (hz : ZAt s.heap z TI TO v f) (hv : v = .none ∨ ∃ T : Addr, v = rawInt T)
    (hQ : Q true s) (hQ2 : ∀ h', ZAt h' z TI TO v true → Heap.SameBut z s.heap h' → Q false { s with heap := h' }) :
    wpAny (model prog w) A (Builtin.SmallTypes.ownedTupleIsFree (.ref z)) Q E s := by
  unfold Builtin.SmallTypes.ownedTupleIsFree
  refine wpAny_bind (wpAny_field hz rfl (x := v) rfl ?_)
  rcases hv with rfl | ⟨T, rfl⟩
  · exact wpAny_pure hQ
  show wpAny _ _ (loadIfAlive ((T : Int).toNat) >>= _) _ _ _
  rw [Int.toNat_natCast]
  refine wpAny_bind (show wpAny _ _ (loadIfAlive T) _ _ _ from fun _ _ _ => ?_)
  show wpAny (model prog w) A (if (s.heap.get? T).isNone = true then _ else _) Q E s
  cases s.heap.get? T with
  | none => exact wpAny_pure hQ
  | some o =>
    simp only [Option.isNone_some, Bool.false_eq_true, if_false]
    refine wpAny_bind (wpAny_field hz rfl (x := .bool f) rfl ?_)
    cases f with
    | true =>
      rw [if_neg (show ¬ ((Value.bool true != Value.bool true) = true) from Bool.false_ne_true)]
      exact wpAny_pure (hQ2 s.heap hz (Heap.SameBut.refl _ _))
    | false =>
      rw [if_pos (show (Value.bool false != Value.bool true) = true from rfl)]
      exact wpAny_bind (wpAny_setField_rec hz (by simp) fun h₁ hz₁ hs₁ => wpAny_pure (hQ2 h₁ hz₁ hs₁))
theorem vt_zip_item {z TI TO i1 i2 l1 l2 : Addr} {k1 k2 : Nat} {xs ys : Array Value} {x y a b v : Value} {f : Bool} {Q : Value → Shared → Prop} (D : ZipApart z TI TO i1 i2 l1 l2)
    (hz : ZAt s.heap z TI TO v f) (hv : v = .none ∨ ∃ T : Addr, v = rawInt T) (hTI : IsPair s.heap TI (.ref i1) (.ref i2)) (hTO : IsPair s.heap TO a b)
    (h1 : s.heap.IsTupleIter i1 l1 k1) (h2 : s.heap.IsTupleIter i2 l2 k2) (hl1 : s.heap.IsTuple l1 xs) (hl2 : s.heap.IsTuple l2 ys) (hx : xs[k1]? = some x) (hy : ys[k2]? = some y)
    (hQ : ∀ h' v' f' a' b', ZAt h' z TI TO v' f' → (v' = .none ∨ ∃ T : Addr, v' = rawInt T) → IsPair h' TO a' b' → h'.IsTupleIter i1 l1 (k1 + 1) → h'.IsTupleIter i2 l2 (k2 + 1) → IsPair h' s.heap.objs.size x y → h'.objs.size = s.heap.objs.size + 1 →
      (∀ c o, c ≠ z → c ≠ TO → c ≠ i1 → c ≠ i2 → s.heap.get? c = some o → h'.get? c = some o) → Q (.ref s.heap.objs.size) { s with heap := h' }) :
    wpAny (model prog w) A (Builtin.«zip.__next__» ⟨[.ref z], []⟩) (fun fin s' => ∃ v, fin = .done (.ret v) ∧ Q v s') E s := by
  show wpAny _ _ (field (.ref z) 2 >>= _) _ _ _
  refine wpAny_bind (wpAny_field hz rfl (x := .bool false) rfl ?_)
  show wpAny _ _ (field (.ref z) 3 >>= _) _ _ _
  refine wpAny_bind (wpAny_field hz rfl (x := .ref TI) rfl ?_)
  refine wpAny_bind (wpAny_seqItems hTI rfl ?_)
  show wpAny _ _ (Builtin.SmallTypes.ownedTupleIsFree (.ref z) >>= _) _ _ _
  refine wpAny_bind (vt_free hz hv ?_ fun h₁ hz₁ hs₁ => ?_)
  · simp only [if_true]
    refine wpAny_bind (wpAny_rule ?_)
    refine wpAny_bind (wpAny_field hz rfl (x := .ref TO) rfl ?_)
    refine wpAny_bind (wpAny_setField_rec hz (by simp) fun h₁ hz₁ hs₁ => ?_)
    replace hz₁ : ZAt h₁ z TI TO .ellipsis f := hz₁
    refine wpAny_bind ?_
    simp only [List.zipIdx_cons, List.zipIdx_nil, List.forIn_cons, List.forIn_nil]
    refine wpAny_bind (wpAny_bind (wpAny_onRaise ?_))
    show wpAny _ _ (Builtin.SmallTypes.nextOf (.ref i1) >>= _) _ _ _
    refine wpAny_bind (RZ.nextOf_tuple_item (h1.extBut hs₁.extBut D.i1z) (hl1.extBut hs₁.extBut D.l1z) hx fun h₂ h1₂ hs₂ => wpAny_pure ?_)
    have t2 : IsPair h₂ TO a b := hs₂.extBut _ _ D.TOi1 (hs₁.extBut _ _ D.TOz hTO)
    refine wpAny_bind (wpAny_seqItems t2 rfl ?_)
    refine wpAny_bind (wpAny_updateSeq_pair t2 fun h₃ t3 hs₃ => ?_)
    replace t3 : IsPair h₃ TO x b := t3
    refine wpAny_bind (wpAny_letGo (wpAny_pure ?_))
    refine wpAny_bind (wpAny_bind (wpAny_onRaise ?_))
    show wpAny _ _ (Builtin.SmallTypes.nextOf (.ref i2) >>= _) _ _ _
    refine wpAny_bind (RZ.nextOf_tuple_item (((h2.extBut hs₁.extBut D.i2z).extBut hs₂.extBut D.i12.symm).extBut hs₃.extBut D.TOi2.symm)
      (((hl2.extBut hs₁.extBut D.l2z).extBut hs₂.extBut D.l2i1).extBut hs₃.extBut D.l2TO) hy fun h₄ h2₄ hs₄ => wpAny_pure ?_)
    have t4 : IsPair h₄ TO x b := hs₄.extBut _ _ D.TOi2 t3
    refine wpAny_bind (wpAny_seqItems t4 rfl ?_)
    refine wpAny_bind (wpAny_updateSeq_pair t4 fun h₅ t5 hs₅ => ?_)
    replace t5 : IsPair h₅ TO x y := t5
    refine wpAny_bind (wpAny_letGo (wpAny_pure (wpAny_pure ?_)))
    refine wpAny_bind (wpAny_seqItems t5 rfl ?_)
    refine wpAny_bind (wpAny_newTuple ?_)
    have e5 : h₅.objs.size = s.heap.objs.size := by rw [hs₅.1, hs₄.1, hs₃.1, hs₂.1, hs₁.1]
    have z5 : ZAt h₅ z TI TO .ellipsis f := hs₅.extBut _ _ D.TOz.symm (hs₄.extBut _ _ D.i2z.symm (hs₃.extBut _ _ D.TOz.symm (hs₂.extBut _ _ D.i1z.symm hz₁)))
    have k5 : ∀ c o, c ≠ z → c ≠ TO → c ≠ i1 → c ≠ i2 → s.heap.get? c = some o → h₅.get? c = some o := fun c o c1 c2 c3 c4 e =>
      hs₅.extBut _ _ c2 (hs₄.extBut _ _ c4 (hs₃.extBut _ _ c2 (hs₂.extBut _ _ c3 (hs₁.extBut _ _ c1 e))))
    have a5 : h₅.IsTupleIter i1 l1 (k1 + 1) := ((h1₂.extBut hs₃.extBut D.TOi1.symm).extBut hs₄.extBut D.i12).extBut hs₅.extBut D.TOi1.symm
    have b5 : h₅.IsTupleIter i2 l2 (k2 + 1) := h2₄.extBut hs₅.extBut D.TOi2.symm
    have lt5 : z < h₅.objs.size := Heap.lt_size z5
    show wpAny _ _ (Builtin.SmallTypes.ownedTupleHandOut (.ref z) (.ref h₅.objs.size) >>= _) _ _ _
    refine wpAny_bind ?_
    unfold Builtin.SmallTypes.ownedTupleHandOut
    have z6 : ZAt (h₅.push { cls := .type "tuple", data := .seq #[x, y] }) z TI TO .ellipsis f := Heap.get?_push_of_some _ z5
    refine wpAny_bind (wpAny_setField_rec z6 (by simp) fun h₇ z7 hs₇ => ?_)
    replace z7 : ZAt h₇ z TI TO (rawInt h₅.objs.size) f := z7
    refine wpAny_setField_rec z7 (by simp) fun h₈ z8 hs₈ => ?_
    replace z8 : ZAt h₈ z TI TO (rawInt h₅.objs.size) false := z8
    have up : ∀ c o, c ≠ z → h₅.get? c = some o → h₈.get? c = some o := fun c o c1 e => hs₈.extBut _ _ c1 (hs₇.extBut _ _ c1 (Heap.get?_push_of_some _ e))
    have T8 : IsPair h₈ h₅.objs.size x y := hs₈.extBut _ _ (Nat.ne_of_gt lt5) (hs₇.extBut _ _ (Nat.ne_of_gt lt5) (Heap.get?_push_size _ rfl))
    have e8 : h₈.objs.size = h₅.objs.size + 1 := by rw [hs₈.1, hs₇.1, Heap.size_push]
    rw [e5] at z8 T8 e8
    refine wpAny_pure ⟨_, rfl, ?_⟩
    show Q (.ref h₅.objs.size) _
    rw [e5]
    exact hQ h₈ _ _ x y z8 (.inr ⟨_, rfl⟩) (up _ _ D.TOz t5) (a5.at fun o e => up _ o D.i1z e) (b5.at fun o e => up _ o D.i2z e) T8 e8 fun c o c1 c2 c3 c4 e => up c o c1 (k5 c o c1 c2 c3 c4 e)
  · simp only [Bool.false_eq_true, if_false]
    refine wpAny_bind ?_
    rw [← Array.forIn_toList]
    simp only [List.forIn_cons, List.forIn_nil]
    refine wpAny_bind (wpAny_bind (wpAny_holding ?_))
    show wpAny _ _ (Builtin.SmallTypes.nextOf (.ref i1) >>= _) _ _ _
    refine wpAny_bind (RZ.nextOf_tuple_item (s := { s with heap := h₁ }) (h1.extBut hs₁.extBut D.i1z) (hl1.extBut hs₁.extBut D.l1z) hx fun h₂ h1₂ hs₂ => wpAny_pure ?_)
    refine wpAny_pure ?_
    refine wpAny_bind (wpAny_bind (wpAny_holding ?_))
    show wpAny _ _ (Builtin.SmallTypes.nextOf (.ref i2) >>= _) _ _ _
    refine wpAny_bind (RZ.nextOf_tuple_item (s := { s with heap := h₂ }) ((h2.extBut hs₁.extBut D.i2z).extBut hs₂.extBut D.i12.symm) ((hl2.extBut hs₁.extBut D.l2z).extBut hs₂.extBut D.l2i1) hy fun h₃ h2₃ hs₃ => wpAny_pure ?_)
    refine wpAny_pure (wpAny_pure ?_)
    show wpAny _ _ (newTuple [x, y] >>= _) _ _ _
    refine wpAny_bind (wpAny_newTuple ?_)
    have e3 : h₃.objs.size = s.heap.objs.size := by rw [hs₃.1, hs₂.1, hs₁.1]
    have up : ∀ c o, c ≠ z → c ≠ i1 → c ≠ i2 → s.heap.get? c = some o → h₃.get? c = some o := fun c o c1 c2 c3 e => hs₃.extBut _ _ c3 (hs₂.extBut _ _ c2 (hs₁.extBut _ _ c1 e))
    have zz : ZAt h₃ z TI TO v true := hs₃.extBut _ _ D.i2z.symm (hs₂.extBut _ _ D.i1z.symm hz₁)
    have hp : IsPair (h₃.push { cls := .type "tuple", data := .seq #[x, y] }) h₃.objs.size x y := Heap.get?_push_size _ rfl
    have hz4 : (h₃.push { cls := .type "tuple", data := .seq #[x, y] }).objs.size = h₃.objs.size + 1 := Heap.size_push ..
    refine wpAny_pure ⟨_, rfl, ?_⟩
    show Q (.ref h₃.objs.size) _
    rw [e3] at hp hz4 ⊢
    exact hQ _ v true a b (Heap.get?_push_of_some _ zz) hv (Heap.get?_push_of_some _ (up _ _ D.TOz D.TOi1 D.TOi2 hTO)) ((h1₂.extBut hs₃.extBut D.i12).at fun o e => Heap.get?_push_of_some _ e) (h2₃.at fun o e => Heap.get?_push_of_some _ e) hp hz4 fun c o c1 _ c3 c4 e => Heap.get?_push_of_some _ (up c o c1 c3 c4 e)
end
end PySem
set_option Elab.async false
set_option linter.all false
set_option maxRecDepth 100000
set_option maxHeartbeats 4000000
set_option autoImplicit false
namespace PySem
open Sem (wp)
section
variable {prog : Program} {w : World} {A : Around} {E : Value → Shared → Prop} {s : Shared}
theorem vt_zip_end {z TI TO i1 i2 l1 l2 : Addr} {k1 k2 : Nat} {xs ys : Array Value} {a b v : Value} {f : Bool} {Q : Fin → Shared → Prop} (hh : A.handled = none) (D : ZipApart z TI TO i1 i2 l1 l2)
    (hz : ZAt s.heap z TI TO v f) (hv : v = .none ∨ ∃ T : Addr, v = rawInt T) (hTI : IsPair s.heap TI (.ref i1) (.ref i2)) (hTO : IsPair s.heap TO a b)
    (h1 : s.heap.IsTupleIter i1 l1 k1) (h2 : s.heap.IsTupleIter i2 l2 k2) (hl1 : s.heap.IsTuple l1 xs) (hl2 : s.heap.IsTuple l2 ys) (hend : xs[k1]? = none ∨ ys[k2]? = none)
    (hE : ∀ h' e, (∀ c o, c ≠ z → c ≠ TO → c ≠ i1 → c ≠ i2 → s.heap.get? c = some o → h'.get? c = some o) → (∃ o, h'.get? e = some o ∧ o.cls = .type "StopIteration") → E (.ref e) { s with heap := h' }) :
    wpAny (model prog w) A (Builtin.«zip.__next__» ⟨[.ref z], []⟩) Q E s := by
  show wpAny _ _ (field (.ref z) 2 >>= _) _ _ _
  refine wpAny_bind (wpAny_field hz rfl (x := .bool false) rfl ?_)
  show wpAny _ _ (field (.ref z) 3 >>= _) _ _ _
  refine wpAny_bind (wpAny_field hz rfl (x := .ref TI) rfl ?_)
  refine wpAny_bind (wpAny_seqItems hTI rfl ?_)
  show wpAny _ _ (Builtin.SmallTypes.ownedTupleIsFree (.ref z) >>= _) _ _ _
  refine wpAny_bind (vt_free hz hv ?_ fun h₁ hz₁ hs₁ => ?_)
  · simp only [if_true]
    refine wpAny_bind (wpAny_rule ?_)
    refine wpAny_bind (wpAny_field hz rfl (x := .ref TO) rfl ?_)
    refine wpAny_bind (wpAny_setField_rec hz (by simp) fun h₁ hz₁ hs₁ => ?_)
    replace hz₁ : ZAt h₁ z TI TO .ellipsis f := hz₁
    refine wpAny_bind ?_
    simp only [List.zipIdx_cons, List.zipIdx_nil, List.forIn_cons, List.forIn_nil]
    refine wpAny_bind (wpAny_bind (wpAny_onRaise ?_))
    show wpAny _ _ (Builtin.SmallTypes.nextOf (.ref i1) >>= _) _ _ _
    cases hx : xs[k1]? with
    | none =>
      refine wpAny_bind (RZ.nextOf_tuple_end hh (h1.extBut hs₁.extBut D.i1z) (hl1.extBut hs₁.extBut D.l1z) hx fun h₂ e hs₂ he => ?_)
      obtain ⟨oe, hoe, hce⟩ := he
      have hz₂ : ZAt h₂ z TI TO .ellipsis f := hs₂ _ _ D.i1z.symm hz₁
      have hez : e ≠ z := fun x => by subst x; rw [hz₂] at hoe; cases hoe; simp at hce
      refine wpAny_setField_rec hz₂ (by simp) fun h₃ _ hs₃ => hE h₃ e (fun c o c1 _ c3 _ x => hs₃.extBut _ _ c1 (hs₂ _ _ c3 (hs₁.extBut _ _ c1 x))) ⟨oe, hs₃.extBut _ _ hez hoe, hce⟩
    | some x =>
      have hy : ys[k2]? = none := by rcases hend with h | h; rw [hx] at h; cases h; exact h
      refine wpAny_bind (RZ.nextOf_tuple_item (h1.extBut hs₁.extBut D.i1z) (hl1.extBut hs₁.extBut D.l1z) hx fun h₂ h1₂ hs₂ => wpAny_pure ?_)
      have t2 : IsPair h₂ TO a b := hs₂.extBut _ _ D.TOi1 (hs₁.extBut _ _ D.TOz hTO)
      refine wpAny_bind (wpAny_seqItems t2 rfl ?_)
      refine wpAny_bind (wpAny_updateSeq_pair t2 fun h₃ t3 hs₃ => ?_)
      refine wpAny_bind (wpAny_letGo (wpAny_pure ?_))
      refine wpAny_bind (wpAny_bind (wpAny_onRaise ?_))
      show wpAny _ _ (Builtin.SmallTypes.nextOf (.ref i2) >>= _) _ _ _
      refine wpAny_bind (RZ.nextOf_tuple_end hh (((h2.extBut hs₁.extBut D.i2z).extBut hs₂.extBut D.i12.symm).extBut hs₃.extBut D.TOi2.symm)
        (((hl2.extBut hs₁.extBut D.l2z).extBut hs₂.extBut D.l2i1).extBut hs₃.extBut D.l2TO) hy fun h₄ e hs₄ he => ?_)
      obtain ⟨oe, hoe, hce⟩ := he
      have hz₄ : ZAt h₄ z TI TO .ellipsis f := hs₄ _ _ D.i2z.symm (hs₃.extBut _ _ D.TOz.symm (hs₂.extBut _ _ D.i1z.symm hz₁))
      have hez : e ≠ z := fun x => by subst x; rw [hz₄] at hoe; cases hoe; simp at hce
      refine wpAny_setField_rec hz₄ (by simp) fun h₅ _ hs₅ => hE h₅ e (fun c o c1 c2 c3 c4 x => hs₅.extBut _ _ c1 (hs₄ _ _ c4 (hs₃.extBut _ _ c2 (hs₂.extBut _ _ c3 (hs₁.extBut _ _ c1 x))))) ⟨oe, hs₅.extBut _ _ hez hoe, hce⟩
  · simp only [Bool.false_eq_true, if_false]
    refine wpAny_bind ?_
    rw [← Array.forIn_toList]
    simp only [List.forIn_cons, List.forIn_nil]
    refine wpAny_bind (wpAny_bind (wpAny_holding ?_))
    show wpAny _ _ (Builtin.SmallTypes.nextOf (.ref i1) >>= _) _ _ _
    cases hx : xs[k1]? with
    | none =>
      refine wpAny_bind (RZ.nextOf_tuple_end (s := { s with heap := h₁ }) hh (h1.extBut hs₁.extBut D.i1z) (hl1.extBut hs₁.extBut D.l1z) hx fun h₂ e hs₂ he => ?_)
      exact hE h₂ e (fun c o c1 _ c3 _ x => hs₂ _ _ c3 (hs₁.extBut _ _ c1 x)) he
    | some x =>
      have hy : ys[k2]? = none := by rcases hend with h | h; rw [hx] at h; cases h; exact h
      refine wpAny_bind (RZ.nextOf_tuple_item (s := { s with heap := h₁ }) (h1.extBut hs₁.extBut D.i1z) (hl1.extBut hs₁.extBut D.l1z) hx fun h₂ h1₂ hs₂ => wpAny_pure ?_)
      refine wpAny_pure ?_
      refine wpAny_bind (wpAny_bind (wpAny_holding ?_))
      show wpAny _ _ (Builtin.SmallTypes.nextOf (.ref i2) >>= _) _ _ _
      refine wpAny_bind (RZ.nextOf_tuple_end (s := { s with heap := h₂ }) hh ((h2.extBut hs₁.extBut D.i2z).extBut hs₂.extBut D.i12.symm) ((hl2.extBut hs₁.extBut D.l2z).extBut hs₂.extBut D.l2i1) hy fun h₃ e hs₃ he => ?_)
      exact hE h₃ e (fun c o c1 _ c3 c4 x => hs₃ _ _ c4 (hs₂.extBut _ _ c3 (hs₁.extBut _ _ c1 x))) he
theorem vt_pyNext_zip_item {z TI TO i1 i2 l1 l2 : Addr} {k1 k2 : Nat} {xs ys : Array Value} {x y a b v : Value} {f : Bool} {Q : Option Value → Shared → Prop} (D : ZipApart z TI TO i1 i2 l1 l2)
    (hz : ZAt s.heap z TI TO v f) (hv : v = .none ∨ ∃ T : Addr, v = rawInt T) (hTI : IsPair s.heap TI (.ref i1) (.ref i2)) (hTO : IsPair s.heap TO a b)
    (h1 : s.heap.IsTupleIter i1 l1 k1) (h2 : s.heap.IsTupleIter i2 l2 k2) (hl1 : s.heap.IsTuple l1 xs) (hl2 : s.heap.IsTuple l2 ys) (hx : xs[k1]? = some x) (hy : ys[k2]? = some y)
    (hQ : ∀ h' v' f' a' b', ZAt h' z TI TO v' f' → (v' = .none ∨ ∃ T : Addr, v' = rawInt T) → IsPair h' TO a' b' → h'.IsTupleIter i1 l1 (k1 + 1) → h'.IsTupleIter i2 l2 (k2 + 1) → IsPair h' s.heap.objs.size x y → h'.objs.size = s.heap.objs.size + 1 →
      (∀ c o, c ≠ z → c ≠ TO → c ≠ i1 → c ≠ i2 → s.heap.get? c = some o → h'.get? c = some o) → Q (some (.ref s.heap.objs.size)) { s with heap := h' }) :
    wpAny (model prog w) A (pyNext (.ref z)) Q E s := by
  have hT : s.TypeIs (.ref z) "zip" := ⟨_, hz, rfl⟩
  unfold pyNext
  exact wpAny_bind (wpAny_attempt (wpAny_callSpecial?_slot (name := Str.ofString "__next__") hT F.slot_zip_next
    (wpAny_call_entry F.slot_zip_next hT F.entry_zip_next
      (vt_zip_item D hz hv hTI hTO h1 h2 hl1 hl2 hx hy fun h' v' f' a' b' a1 a2 a3 a4 a5 a6 a7 a8 => wpAny_pure (hQ h' v' f' a' b' a1 a2 a3 a4 a5 a6 a7 a8)) (F.args_zip_next_1 _))))
theorem vt_pyNext_zip_end {z TI TO i1 i2 l1 l2 : Addr} {k1 k2 : Nat} {xs ys : Array Value} {a b v : Value} {f : Bool} {Q : Option Value → Shared → Prop} (hh : A.handled = none) (D : ZipApart z TI TO i1 i2 l1 l2)
    (hz : ZAt s.heap z TI TO v f) (hv : v = .none ∨ ∃ T : Addr, v = rawInt T) (hTI : IsPair s.heap TI (.ref i1) (.ref i2)) (hTO : IsPair s.heap TO a b)
    (h1 : s.heap.IsTupleIter i1 l1 k1) (h2 : s.heap.IsTupleIter i2 l2 k2) (hl1 : s.heap.IsTuple l1 xs) (hl2 : s.heap.IsTuple l2 ys) (hend : xs[k1]? = none ∨ ys[k2]? = none)
    (hQ : ∀ h', (∀ c o, c ≠ z → c ≠ TO → c ≠ i1 → c ≠ i2 → s.heap.get? c = some o → h'.get? c = some o) → Q none { s with heap := h' }) : wpAny (model prog w) A (pyNext (.ref z)) Q E s := by
  have hT : s.TypeIs (.ref z) "zip" := ⟨_, hz, rfl⟩
  unfold pyNext
  refine wpAny_bind (wpAny_attempt (wpAny_callSpecial?_slot (name := Str.ofString "__next__") hT F.slot_zip_next
    (wpAny_call_entry F.slot_zip_next hT F.entry_zip_next (vt_zip_end hh D hz hv hTI hTO h1 h2 hl1 hl2 hend fun h' e hk he => ?_) (F.args_zip_next_1 _))))
  obtain ⟨o, ho, hc⟩ := he
  refine wpAny_bind (wpAny_isInstance (T := "StopIteration") (b := true) ⟨o, ho, hc⟩ isSubtype_stop ?_)
  exact wpAny_pure (hQ _ hk)
end
end PySem
namespace Vt
open PySem PySem.Spec PyProof.Rows L2
/-- zip of two tuples with one name as target: the pair may be kept -/
theorem vt_turn_zipN {P : Program} {w : World} {K : PySem.W.Frag} {x : Str} {tpos : Pos} {a b z TI TO i1 i2 : Addr} (D : ZipApart z TI TO i1 i2 a b) :
    Turn P w K (.Name x tpos) (RZ.ItzT K a b) [z, TI, TO, i1, i2] z (fun i h => (∃ v f, ZAt h z TI TO v f ∧ (v = .none ∨ ∃ T : Addr, v = rawInt T)) ∧ IsPair h TI (.ref i1) (.ref i2) ∧ (∃ x y, IsPair h TO x y) ∧ h.IsTupleIter i1 a i ∧ h.IsTupleIter i2 b i) where
  mem := by simp
  obj := fun i h st c hc => by
    obtain ⟨⟨v, f, hz, _⟩, hTI, ⟨x, y, hTO⟩, ⟨o1, e1, _, d1⟩, ⟨o2, e2, _, d2⟩⟩ := st
    have e' : c = z ∨ c = TI ∨ c = TO ∨ c = i1 ∨ c = i2 := by simpa using hc
    rcases e' with q | q | q | q | q
    · rw [q]; exact ⟨_, hz, fun v q => nomatch q⟩
    · rw [q]; exact ⟨_, hTI, fun v q => nomatch q⟩
    · rw [q]; exact ⟨_, hTO, fun v q => nomatch q⟩
    · rw [q]; exact ⟨o1, e1, fun v q => by rw [d1] at q; cases q⟩
    · rw [q]; exact ⟨o2, e2, fun v q => by rw [d2] at q; cases q⟩
  keep := fun i h h' st k => by
    obtain ⟨⟨v, f, hz, hv⟩, hTI, ⟨x, y, hTO⟩, h1, h2⟩ := st
    exact ⟨⟨v, f, k z (by simp) _ hz, hv⟩, k TI (by simp) _ hTI, ⟨x, y, k TO (by simp) _ hTO⟩, h1.at fun o q => k i1 (by simp) o q, h2.at fun o q => k i2 (by simp) o q⟩
  item := by
    intro X hP hw hK hc i pins s σ H E I hf st hg
    subst hP hw hK
    obtain ⟨⟨v0, f0, hz, hv⟩, hTI, ⟨x0, y0, hTO⟩, h1, h2⟩ := st
    obtain ⟨xs, ys, x, y, hqx, hqy, hx, hy⟩ := hg
    obtain ⟨its, rv, p, _⟩ := I.tuple hqx
    obtain ⟨its2, rv2, p2, _⟩ := I.tuple hqy
    obtain ⟨u, hu, ru⟩ := rv.get hx
    obtain ⟨u2, hu2, ru2⟩ := rv2.get hy
    refine vt_pyNext_zip_item D hz hv hTI hTO h1 h2 p p2 (x := u) (y := u2) (by simpa using hu) (by simpa using hu2) fun h' v' f' a' b' z' hv' TO' h1' h2' hT hsz hk => ?_
    refine ⟨_, rfl, ?_⟩
    unfold letOwnedTupleGo
    refine wpAny_pure ?_
    have new : ObjOk X.prog X.w (upd H s.heap.objs.size (.tup [x, y])) h' s.heap.objs.size (.tup [x, y]) :=
      ⟨by show 2 ≤ sizeLine; decide, [u, u2], .cons ru (.cons ru2 .nil), ⟨_, hT, rfl, _, rfl⟩⟩
    have I1 : Inv X pins σ (upd H s.heap.objs.size (.tup [x, y])) { s with heap := h' } :=
      I.turnedNew (t' := s.toks) (ch := [z, TI, TO, i1, i2]) (fun c o hb q => hk c o (fun q' => hb (by simp [q'])) (fun q' => hb (by simp [q'])) (fun q' => hb (by simp [q'])) (fun q' => hb (by simp [q'])) q) hf (Nat.le_refl _) new
    refine ⟨.ref s.heap.objs.size, _, I1, rfl, ⟨_, x, y, rfl, I.hok.fresh (Nat.le_refl _), rfl, fun l hl => by rw [I.tuple_inj hl hqx]; exact hx, fun l hl => by rw [I.tuple_inj hl hqy]; exact hy⟩, ⟨⟨_, _, z', hv'⟩, hk _ _ D.TIz D.TITO D.TIi1 D.TIi2 hTI, ⟨_, _, TO'⟩, h1', h2'⟩, fun c hcm => ?_⟩
    have hlt : c < s.heap.objs.size := by
      have e' : c = z ∨ c = TI ∨ c = TO ∨ c = i1 ∨ c = i2 := by simpa using hcm
      rcases e' with q | q | q | q | q
      · rw [q]; exact Heap.lt_size hz
      · rw [q]; exact Heap.lt_size hTI
      · rw [q]; exact Heap.lt_size hTO
      · rw [q]; obtain ⟨_, e1, _⟩ := h1; exact Heap.lt_size e1
      · rw [q]; obtain ⟨_, e2, _⟩ := h2; exact Heap.lt_size e2
    rw [upd_ne (Nat.ne_of_lt hlt)]
    exact (hf c hcm).1
  done := by
    intro X hP hw hK hc i pins s σ H E I hf st hg
    subst hP hw hK
    obtain ⟨⟨v0, f0, hz, hv⟩, hTI, ⟨x0, y0, hTO⟩, h1, h2⟩ := st
    obtain ⟨xs, ys, hqx, hqy, hend⟩ := hg
    obtain ⟨its, rv, p, _⟩ := I.tuple hqx
    obtain ⟨its2, rv2, p2, _⟩ := I.tuple hqy
    have l1 := rv.length
    have l2 := rv2.length
    have he : its.toArray[i]? = none ∨ its2.toArray[i]? = none := by
      rcases hend with q | q
      · exact .inl (by simp; omega)
      · exact .inr (by simp; omega)
    exact vt_pyNext_zip_end (I.ok.hd hc) D hz hv hTI hTO h1 h2 p p2 he fun h' hk => ⟨rfl, I.turnedL (t' := s.toks) (ch := [z, TI, TO, i1, i2]) (fun c o hb q =>
      hk c o (fun q' => hb (by simp [q'])) (fun q' => hb (by simp [q'])) (fun q' => hb (by simp [q'])) (fun q' => hb (by simp [q'])) q) hf⟩
  self := fun A i s Q E st h => by
    obtain ⟨⟨v, f, hz, _⟩, _⟩ := st
    have hT : s.TypeIs (.ref z) "zip" := ⟨_, hz, rfl⟩
    refine wpAny_pyIter_slot hT F.slot_zip_iter (wpAny_call_entry F.slot_zip_iter hT F.entry_zip_iter ?_ (F.args_zip_iter_1 _))
    show wpAny _ _ (ret (.ref z)) _ _ s
    exact wpAny_pure ⟨_, rfl, "zip", _, hT, F.slot_zip_next.lookup, h⟩
def iZipN (K : PySem.W.Frag) (ta : TA) : TI := fun σ H R => ta σ H fun vs H1 => ∃ a b xs ys, vs = [.ref a, .ref b] ∧ SqT K H1 a xs ∧ SqT K H1 b ys ∧ R (RZ.ItzT K a b) H1
theorem pi_zipN {X : Cx} {e e2 : Expr} {ta : TA} {p pos tpos : Pos} {x : Str} (hg : Gl X "zip") (hm : X.mg "zip" = none) (ha : PA X [e, e2] ta)
    (hs : starEach [e, e2] X.env = (false, eval e X.env) :: starEach [e2] X.env := by rfl) (hpl : (backTo pos (starEach [e2] X.env)).any (·.1) = false := by rfl) :
    PI X (.Name x tpos) (.Call (.Name "zip" p) [e, e2] [] pos) (iZipN X.K ta) := by
  refine ⟨fun pins s σ H R I h => ?_⟩
  refine Call_ (ld_blt I hg hm PyProof.Rows.boot_zip (PyProof.Rows.callWith_type1 (thn (ha.run pos pins s σ H _ I h) fun us s1 ⟨vs, H1, I1, r1, q1⟩ => ?_) hs hpl))
  obtain ⟨a, b, xs, ys, ex, hqx, hqy, q⟩ := q1
  subst ex
  cases r1 with
  | cons r rr =>
    cases rr with
    | cons r' rr =>
      cases rr
      cases r
      cases r'
      have fresh5 : ∀ c, c ∈ [s1.heap.objs.size + 4, s1.heap.objs.size + 2, s1.heap.objs.size + 3, s1.heap.objs.size, s1.heap.objs.size + 1] → FpOk X pins H1 c := fun c hcm => by
        have e' : c = s1.heap.objs.size + 4 ∨ c = s1.heap.objs.size + 2 ∨ c = s1.heap.objs.size + 3 ∨ c = s1.heap.objs.size ∨ c = s1.heap.objs.size + 1 := by simpa using hcm
        have hle : s1.heap.objs.size ≤ c := by omega
        exact I1.fpOk hle (I1.hok.fresh hle)
      obtain ⟨its, rv, p1, _⟩ := I1.tuple hqx
      obtain ⟨its2, rv2, p2, _⟩ := I1.tuple hqy
      obtain ⟨o1, ho1, _⟩ := id p1
      obtain ⟨o2, ho2, _⟩ := id p2
      refine RZ.call_zipT (show s1.heap.IsTuple a its.toArray from p1) (show s1.heap.IsTuple b its2.toArray from p2) fun h' hz hTI hTO h1 h2 hsz hk => wpAny_pyIter_zip hz ?_
      have I2 : Inv X pins σ H1 { s1 with heap := h' } := I1.kept (t' := s1.toks) hk
      exact ⟨s1.heap.objs.size + 4, [s1.heap.objs.size + 4, s1.heap.objs.size + 2, s1.heap.objs.size + 3, s1.heap.objs.size, s1.heap.objs.size + 1], _, _, H1, rfl, I2, vt_turn_zipN (PySem.W.ktu_apart s1.heap.objs.size a b (Heap.lt_size ho1) (Heap.lt_size ho2)), ⟨⟨_, _, hz, .inl rfl⟩, hTI, ⟨_, _, hTO⟩, h1, h2⟩, fresh5, q⟩
def mZipN (g : MA) : MI := fun env mem => (g env mem).bind fun ds m => match ds with
  | [.tup xs, .tup ys] => .ok ((xs.zip ys).map fun p => .tup [p.1, p.2]) m
  | _ => .bad
section
variable {nm : String → List Str} {B : Bs} {W : WX} {X : Cx} {a b : Expr} {pos p tpos : Pos} {fa : MA} {x : Str}
theorem si_zipN (ha : SA nm B W X [a, b] fa) (hm : X.mg "zip" = none) (hg : Gl X "zip" := by rfl) (hs : starEach [a, b] X.env = (false, eval a X.env) :: starEach [b] X.env := by rfl) (hpl : (backTo pos (starEach [b] X.env)).any (·.1) = false := by rfl) :
    SI nm B W X (.Name x tpos) (.Call (.Name "zip" p) [a, b] [] pos) (mZipN fa) :=
  PI.imp (pi_zipN hg hm ha hs hpl) fun σ H R ⟨env, mem, ex, s, h⟩ => by
    refine tA_step s h fun vs H1 ds m l ⟨F, ad, s2⟩ q => ?_
    have pair : ∀ {T : Tx} {B : Bs} {F ad env mem ex σ H q x y u w}, SatF T B F ad env mem ex σ H → Is T F ad x u → Is T F ad y w → H q = none → SatX T B env mem ((V.ref q, D.tup [x, y]) :: ex) σ (upd H q (.tup [u, w])) := fun {T B F ad env mem ex σ H q x y u w} s h h2 hq => by
      have z := s.sat.new (o := .tup [u, w]) hq
      exact ⟨_, ad, (s.ext z).push ⟨q, _, rfl, .inl (.inl upd_same), IsL.cons (h.mono z.gro z.pre) (IsL.cons (h2.mono z.gro z.pre) IsL.nil)⟩⟩
    split at q
    · rename_i xs ys _
      match vs, l with
      | [v, w], _ =>
        obtain ⟨p1, us, e1, h1, h2⟩ := s2.tmp (v, .tup xs) (by simp)
        obtain ⟨p2, ws, e2, g1, g2⟩ := s2.tmp (w, .tup ys) (by simp)
        have e1 : v = .ref p1 := e1
        have e2 : w = .ref p2 := e2
        subst e1 e2
        refine ⟨p1, p2, us, ws, rfl, sqT_mono s2.sat.sub h1, sqT_mono s2.sat.sub g1, q _ [(.ref p1, .tup xs), (.ref p2, .tup ys)] H1 ⟨F, ad, s2⟩ ?_⟩
        intro B i env mem ex σ H ⟨F, ad, s⟩
        obtain ⟨p1', us, e1, h1, h2⟩ := s.tmp (.ref p1, .tup xs) (by simp)
        cases e1
        obtain ⟨p2', ws, e2, g1, g2⟩ := s.tmp (.ref p2, .tup ys) (by simp)
        cases e2
        have hq1 : SqT X.K H p1 us := sqT_mono s.sat.sub h1
        have hq2 : SqT X.K H p2 ws := sqT_mono s.sat.sub g1
        refine ⟨fun d hd => ?_, fun hn => ⟨us, ws, hq1, hq2, by rw [h2.length, g2.length]; exact zipD_none hn⟩⟩
        obtain ⟨x, y, kx, ky, rfl⟩ := zipD_at hd
        obtain ⟨u, k1, k2⟩ := h2.get kx
        obtain ⟨u', k3, k4⟩ := g2.get ky
        refine ⟨⟨us, ws, u, u', hq1, hq2, k1, k3⟩, fun z H2 ⟨q, x', y', ez, hn, eH, hx, hy⟩ => ?_⟩
        subst ez eH
        have e2 := hx us hq1
        rw [k1] at e2
        cases e2
        have e3 := hy ws hq2
        rw [k3] at e3
        cases e3
        exact pair s k2 k4 hn
    · exact q.elim
end
end Vt
set_option Elab.async false
set_option linter.all false
set_option maxRecDepth 100000
set_option maxHeartbeats 4000000
set_option autoImplicit false
namespace PySem
open Sem (wp)
section
variable {prog : Program} {w : World} {A : Around} {E : Value → Shared → Prop} {s : Shared}
theorem vt_isStr_no {k : Str} {j : L2.Key} {v : Value} (h : L2.keyIs j v = true) (n : j ≠ .inr k) : v.isStr k = false := by
  rcases L2.keyIs_shape h with ⟨i, t, rfl, rfl⟩ | ⟨x, t, rfl, rfl⟩
  · rfl
  · show (x == k) = false
    exact beq_eq_false_iff_ne.mpr fun e => n (by rw [e])
theorem vt_pairs_at {K : Type} [DecidableEq K] {knd : KeyKind prog w K} : ∀ {es : List DictEntry} {kvs : List (K × Value)}, Pairs knd es kvs → ∀ e ∈ es, ∃ kv ∈ kvs, knd.is kv.1 e.key = true
  | _, _, .nil, _, h => nomatch h
  | _, _, .cons h1 _ t, e, h => by
    rcases List.mem_cons.mp h with q | q
    · subst q; exact ⟨_, List.mem_cons_self, h1⟩
    · obtain ⟨kv, m, z⟩ := vt_pairs_at t e q
      exact ⟨kv, List.mem_cons_of_mem _ m, z⟩
/-- a new name in a plain dict -/
theorem vt_nsSet {d : Addr} {kvs : List (L2.Key × Value)} {k : Str} {v : Value} {Q : Unit → Shared → Prop} (hm : s.heap.DictOf (L2.mixKind prog w) d kvs) (hn : (Sum.inr k : L2.Key) ∉ kvs.map (·.1))
    (hQ : ∀ h', h'.DictOf (L2.mixKind prog w) d (kvs ++ [(.inr k, v)]) → Heap.SameBut d s.heap h' → Q () { s with heap := h', toks := s.toks + 1 }) :
    wpAny (model prog w) A (nsSet d k v) Q E s := by
  obtain ⟨o, es, ep, ho, hc, hd, hk, hp, hnd⟩ := hm
  have hkk : (L2.mixKind prog w).is (.inr k) (.str k s.toks) = true := L2.keyIs_str k s.toks
  have e1 : es.any (·.key.isStr k) = false := by
    rw [← Array.any_toList, List.any_eq_false]
    intro e he
    obtain ⟨kv, m, z⟩ := vt_pairs_at hp e he
    rw [vt_isStr_no z fun q => hn (q ▸ List.mem_map_of_mem m)]
    exact Bool.false_ne_true
  have e2 : es.any (·.refKey) = false := by
    rw [← Array.any_toList, List.any_eq_false]
    intro e he
    obtain ⟨kv, m, z⟩ := vt_pairs_at hp e he
    unfold DictEntry.refKey
    rcases L2.keyIs_shape z with ⟨i, t, _, q⟩ | ⟨x, t, _, q⟩ <;> rw [q] <;> exact Bool.false_ne_true
  have c : aRefKeyMayBeTheName k es = false := by rw [aRefKeyMayBeTheName_at, e2, Bool.and_false]
  have hi : es.findIdx? (·.key.isStr k) = none := by
    rw [Array.findIdx?_eq_none_iff]
    intro e he
    have := Array.any_eq_false.mp e1
    obtain ⟨i, hi, rfl⟩ := Array.mem_iff_getElem.mp he
    simpa using this i hi
  have e3 : (Obj.putName k (PyData.keyHash w.params k) (.str k s.toks) v o).data = .dict (es.push ⟨PyData.keyHash w.params k, .str k s.toks, v⟩) (ep + 1) := by
    rw [Obj.putName_eq]
    obtain ⟨oc, od, oda, osl⟩ := o
    dsimp only at hd
    subst hd
    unfold Obj.putNameByArray
    dsimp only
    rw [hi]
  have e4 : (Obj.putName k (PyData.keyHash w.params k) (.str k s.toks) v o).ExactDict := by
    rw [Obj.putName_eq]
    obtain ⟨oc, od, oda, osl⟩ := o
    dsimp only at hd
    subst hd
    unfold Obj.putNameByArray
    dsimp only
    rw [hi]
    exact hc
  unfold nsSet
  refine wpAny_bind (wpAny_bind (wpAny_askSetting (wpAny_pure (wpAny_bind (wpAny_mkText (wpAny_bind (wpAny_loadPart ho ?_)))))))
  rw [hd]
  dsimp only
  rw [c]
  refine wpAny_updatePart ho (hQ _ ⟨_, _, _, Heap.get?_update_self _ ho (Obj.isFreed_of_dict e3), e4, e3, hk.push hkk _, ?_, ?_⟩ (Heap.SameBut.update ..))
  · have := hp.append hkk ((L2.mixKind prog w).hash (.inr k)) v
    show Pairs _ (es.push ⟨(L2.mixKind prog w).hash (.inr k), .str k s.toks, v⟩).toList _
    obtain ⟨l⟩ := es
    simpa using this
  · rw [List.map_append, List.nodup_append]
    refine ⟨hnd, by simp, ?_⟩
    intro a ha b hb
    simp only [List.map_cons, List.map_nil, List.mem_singleton] at hb
    subst hb
    exact fun e => hn (e ▸ ha)
def vtSets (d : Addr) (xs : List (Str × Value)) : Sem PUnit := forIn xs PUnit.unit fun x _ => (nsSet d x.1 x.2 >>= fun _ => pure (ForInStep.yield PUnit.unit))
theorem vt_sets {d : Addr} {Q : PUnit → Shared → Prop} : ∀ (xs : List (Str × Value)) (s : Shared) (kvs : List (L2.Key × Value)), s.heap.DictOf (L2.mixKind prog w) d kvs → (∀ x ∈ xs, (Sum.inr x.1 : L2.Key) ∉ kvs.map (·.1)) → (xs.map (·.1)).Nodup →
    (∀ h', h'.DictOf (L2.mixKind prog w) d (kvs ++ xs.map fun x => (.inr x.1, x.2)) → Heap.SameBut d s.heap h' → Q ⟨⟩ { s with heap := h', toks := s.toks + xs.length }) → wpAny (model prog w) A (vtSets d xs) Q E s
  | [], s, kvs, hm, _, _, hQ => by
    unfold vtSets
    rw [List.forIn_nil]
    exact wpAny_pure (hQ s.heap (by simpa using hm) (Heap.SameBut.refl _ _))
  | x :: r, s, kvs, hm, hs, hn, hQ => by
    obtain ⟨hn1, hn2⟩ := List.nodup_cons.mp (show (x.1 :: r.map (·.1)).Nodup from hn)
    unfold vtSets
    rw [List.forIn_cons]
    refine wpAny_bind (wpAny_bind (vt_nsSet hm (hs x (.head _)) fun h₁ hm₁ hs₁ => wpAny_pure ?_))
    refine vt_sets r { s with heap := h₁, toks := s.toks + 1 } _ hm₁ (fun y hy => ?_) hn2 fun h' hm' hs' => ?_
    · rw [List.map_append, List.mem_append]
      rintro (q | q)
      · exact hs y (.tail _ hy) q
      · have : y.1 = x.1 := by simpa using q
        exact hn1 (this ▸ List.mem_map_of_mem hy)
    · have t1 : s.toks + 1 + r.length = s.toks + (x :: r).length := by rw [List.length_cons]; omega
      show Q ⟨⟩ { s with heap := h', toks := s.toks + 1 + r.length }
      rw [t1]
      refine hQ h' ?_ (hs₁.trans hs')
      simpa [List.append_assoc] using hm'
section
variable {K : Type} [DecidableEq K] {knd : KeyKind prog w K}
theorem vt_dictPut {s : Shared} {d : Addr} {kvs : List (K × Value)} {k : K} {key v : Value} {Q : Unit → Shared → Prop} (hkey : knd.is k key = true) (hm : s.heap.DictOf knd d kvs)
    (hQ : ∀ h', h'.DictOf knd d (stored kvs k v) → Heap.SameBut d s.heap h' → Q () { s with heap := h' }) (hsz : kvs.length ≤ sizeLine) :
    wpAny (model prog w) A (dictPut d (knd.hash k) key v) Q E s := by
  obtain ⟨o, es, ep, ho, hc, hd, hk, hp, hn⟩ := hm
  have hes : es.size ≤ sizeLine := by have e1 := hp.length; have e2 : es.toList.length = es.size := by simp
                                      omega
  unfold dictPut
  refine wpAny_bind (wpAny_dictFind_of hkey ho hd hk ?_)
  have hidx : (es.findIdx? fun e => knd.is k e.key) = kvs.findIdx? fun kv => decide (kv.1 = k) := by
    rw [← hp.findIdx k]; obtain ⟨l⟩ := es; simp
  cases hi : es.findIdx? fun e => knd.is k e.key with
  | some i =>
    refine wpAny_updateDict ho hd (hQ _ ⟨_, _, ep, Heap.get?_update_self _ ho (Obj.isFreed_of_dict (Obj.data_mapDict hd _)),
      hc.mapDict _, Obj.data_mapDict hd _, hk.modify _ _, ?_, ?_⟩ (Heap.SameBut.update ..))
    · rw [stored, if_pos (any_of_findIdx_some (hidx ▸ hi))]
      have hl : (es.toList.findIdx? fun e => knd.is k e.key) = some i := by rw [← hi]; obtain ⟨l⟩ := es; simp
      have := hp.modify hn hl v
      obtain ⟨l⟩ := es
      simpa using this
    · rw [stored, if_pos (any_of_findIdx_some (hidx ▸ hi)), keys_map_store]; exact hn
  | none =>
    have hnot : k ∉ kvs.map (·.1) := not_mem_of_findIdx_none (hidx ▸ hi)
    have hany : ¬ (kvs.any fun kv => decide (kv.1 = k)) = true := by
      rw [List.any_eq_true]; rintro ⟨kv, hkv, he⟩
      exact hnot (List.mem_map.mpr ⟨kv, hkv, of_decide_eq_true he⟩)
    refine wpAny_updateDictKeys (hz := hes) ho hd (hQ _ ⟨_, _, ep + 1, Heap.get?_update_self _ ho (Obj.isFreed_of_dict (Obj.data_mapDictKeys hd _)),
      hc.mapDictKeys _, Obj.data_mapDictKeys hd _, hk.push hkey _, ?_, ?_⟩ (Heap.SameBut.update ..))
    · rw [stored, if_neg hany]
      have := hp.append hkey (knd.hash k) v
      obtain ⟨l⟩ := es
      simpa using this
    · rw [stored, if_neg hany, List.map_append, List.nodup_append]
      refine ⟨hn, by simp, ?_⟩
      intro a ha b hb
      simp only [List.map_cons, List.map_nil, List.mem_singleton] at hb
      subst hb
      exact fun e => hnot (e ▸ ha)
end
theorem vt_merge {s : Shared} {d a : Addr} {kvs more : List (L2.Key × Value)} {Q : Unit → Shared → Prop} (hda : d ≠ a) (haS : (a == sysModules) = false) (hm : s.heap.DictOf (L2.mixKind prog w) d kvs) (ha : s.heap.DictOf (L2.mixKind prog w) a more)
    (hQ : ∀ h', h'.DictOf (L2.mixKind prog w) d (merged kvs more) → Heap.SameBut d s.heap h' → Q () { s with heap := h' }) (hsz : kvs.length + more.length ≤ sizeLine) :
    wpAny (model prog w) A (mergeMapping d (.ref a) false) Q E s := by
  obtain ⟨od, esd, epd, hod, hcd, hdd, hkd, hpd, hnd⟩ := id hm
  obtain ⟨oa, es, ep, hoa, hca, hd', hk, hp, hn⟩ := id ha
  have hlen : more.length = es.size := by rw [← hp.length]; simp
  have hT : s.TypeIs (.ref a) "dict" := ⟨oa, hoa, hca.1⟩
  unfold mergeMapping
  refine wpAny_bind (wpAny_isInstance hT isSubtype_dict_dict ?_)
  rw [if_pos rfl]
  refine wpAny_bind (wpAny_specialOf hT PySem.F.slot_dict_iter.lookup (wpAny_bind (wpAny_pure ?_)))
  rw [show ((some (Value.builtin "dict.__iter__")) == some (Value.builtin "dict.__iter__")) = true from by decide]
  dsimp only
  rw [if_neg (by rw [haS]; exact Bool.false_ne_true)]
  refine wpAny_bind (wpAny_dictEntries hod hdd ?_)
  have loop : ∀ {Q : PUnit → Shared → Prop}, (∀ h', h'.DictOf (L2.mixKind prog w) d (merged kvs more) → Heap.SameBut d s.heap h' → Q ⟨⟩ { s with heap := h' }) → ∀ f : Nat → PUnit → Sem (ForInStep PUnit),
      (∀ (x : Nat) (h' : Heap) (R : ForInStep PUnit → Shared → Prop), x < es.size → h'.DictOf (L2.mixKind prog w) d (merged kvs (more.take x)) → h'.get? a = some oa → Heap.SameBut d s.heap h' →
        (∀ h'', h''.DictOf (L2.mixKind prog w) d (merged kvs (more.take (x + 1))) → h''.get? a = some oa → Heap.SameBut d s.heap h'' → R (.yield ⟨⟩) { s with heap := h'' }) → wpAny (model prog w) A (f x ⟨⟩) R E { s with heap := h' }) →
      wpAny (model prog w) A (forIn (List.range es.size) PUnit.unit f) Q E s := by
    intro Q hQ f hf
    rw [List.range_eq_range']
    refine wpAny_forIn_list _
      (fun rest _ s' => ∃ h' i, s' = { s with heap := h' } ∧ rest = List.range' i (es.size - i) ∧ i ≤ es.size ∧ h'.DictOf (L2.mixKind prog w) d (merged kvs (more.take i)) ∧ h'.get? a = some oa ∧ Heap.SameBut d s.heap h')
      _ ?_ ?_ _ _ ⟨s.heap, 0, rfl, by simp, Nat.zero_le _, by simpa [merged] using hm, hoa, Heap.SameBut.refl _ _⟩
    · rintro x rest b s' ⟨h', i, rfl, hr, hi, hd2, hoo', hs'⟩
      have hlt : i < es.size := by
        rcases Nat.lt_or_ge i es.size with h | h
        · exact h
        · rw [Nat.sub_eq_zero_of_le h] at hr; simp at hr
      obtain ⟨rfl, hrest⟩ : x = i ∧ rest = List.range' (i + 1) (es.size - (i + 1)) := by
        have e : es.size - i = (es.size - (i + 1)) + 1 := by omega
        rw [e, List.range'_succ] at hr
        injection hr with h1 h2
        exact ⟨h1, h2⟩
      exact hf x h' _ hlt hd2 hoo' hs' fun h'' k1 k2 k3 => ⟨h'', x + 1, rfl, hrest, hlt, k1, k2, k3⟩
    · rintro b s' ⟨h', i, rfl, hr, hi, hd2, hoo', hs'⟩
      have hin : i = es.size := by
        rcases Nat.lt_or_ge i es.size with h | h
        · have e : es.size - i = (es.size - (i + 1)) + 1 := by omega
          rw [e, List.range'_succ] at hr; exact nomatch hr
        · exact Nat.le_antisymm hi h
      refine hQ h' ?_ hs'
      rw [hin, ← hlen, List.take_length] at hd2; exact hd2
  split
  · refine wpAny_bind (wpAny_dictEntries hoa hd' ?_)
    refine wpAny_bind ?_
    rw [← Array.forIn_toList]
    refine wpAny_forIn_list _ (fun rest _ s' => s' = s ∧ ∀ e ∈ rest, e ∈ es.toList) _ ?_ ?_ _ _ ⟨rfl, fun _ h => h⟩
    · rintro e rest b s' ⟨rfl, he⟩
      obtain ⟨kv, m, z⟩ := vt_pairs_at hp e (he e List.mem_cons_self)
      rcases L2.keyIs_shape z with ⟨i, t, _, q⟩ | ⟨x, t, _, q⟩
      · rw [q]
        exact wpAny_pure ⟨rfl, fun e' h => he e' (List.mem_cons_of_mem _ h)⟩
      · rw [q]
        exact wpAny_pure ⟨rfl, fun e' h => he e' (List.mem_cons_of_mem _ h)⟩
    · rintro b s' ⟨rfl, _⟩
      refine wpAny_bind (wpAny_dictEntries hoa hd' (wpAny_bind (wpAny_dictEpoch hoa hd' (wpAny_bind (loop (fun h' k1 k2 => wpAny_pure (hQ h' k1 k2)) _ fun x h' R hx kd ka ks kR => ?_)))))
      refine wpAny_bind (wpAny_dictEntries ka hd' ?_)
      rw [Array.getElem?_eq_getElem hx]
      obtain ⟨kv, hkv⟩ : ∃ kv, more[x]? = some kv := ⟨more[x]'(by rw [hlen]; exact hx), List.getElem?_eq_getElem _⟩
      obtain ⟨k, v⟩ := kv
      obtain ⟨hkey, hval⟩ := hp.get? (e := es[x]) (by simp [hx]) hkv
      obtain ⟨k', hkey', hhash⟩ := hk es[x] (Array.getElem_mem hx)
      obtain rfl : k' = k := (L2.mixKind prog w).inj _ _ _ hkey' hkey
      have hmx : (merged kvs (more.take x)).length ≤ sizeLine := by
        have e1 := merged_length_le kvs (more.take x)
        have e2 : (more.take x).length ≤ more.length := by rw [List.length_take]; omega
        omega
      refine wpAny_bind (wpAny_holding ?_)
      show wpAny _ _ (dictPut d es[x].hash es[x].key es[x].val) _ _ _
      rw [hhash, hval]
      refine vt_dictPut hkey kd (fun h'' d'' s'' => ?_) hmx
      have ka'' : h''.get? a = some oa := (s''.2 a (Ne.symm hda)).trans ka
      refine wpAny_bind (wpAny_dictEpoch ka'' hd' ?_)
      rw [if_neg (by simp)]
      exact wpAny_pure (kR h'' (by rw [merged_take_succ kvs more x (k', v) hkv]; exact d'') ka'' (ks.trans s''))
  · refine wpAny_bind (wpAny_dictEntries hoa hd' (wpAny_bind (wpAny_dictEpoch hoa hd' (wpAny_bind (loop (fun h' k1 k2 => wpAny_pure (hQ h' k1 k2)) _ fun x h' R hx kd ka ks kR => ?_)))))
    refine wpAny_bind (wpAny_dictEntries ka hd' ?_)
    rw [Array.getElem?_eq_getElem hx]
    obtain ⟨kv, hkv⟩ : ∃ kv, more[x]? = some kv := ⟨more[x]'(by rw [hlen]; exact hx), List.getElem?_eq_getElem _⟩
    obtain ⟨k, v⟩ := kv
    obtain ⟨hkey, hval⟩ := hp.get? (e := es[x]) (by simp [hx]) hkv
    obtain ⟨k', hkey', hhash⟩ := hk es[x] (Array.getElem_mem hx)
    obtain rfl : k' = k := (L2.mixKind prog w).inj _ _ _ hkey' hkey
    have hmx : (merged kvs (more.take x)).length ≤ sizeLine := by
      have e1 := merged_length_le kvs (more.take x)
      have e2 : (more.take x).length ≤ more.length := by rw [List.length_take]; omega
      omega
    refine wpAny_bind (wpAny_holding ?_)
    show wpAny _ _ (dictPut d es[x].hash es[x].key es[x].val) _ _ _
    rw [hhash, hval]
    refine vt_dictPut hkey kd (fun h'' d'' s'' => ?_) hmx
    have ka'' : h''.get? a = some oa := (s''.2 a (Ne.symm hda)).trans ka
    refine wpAny_bind (wpAny_dictEpoch ka'' hd' ?_)
    rw [if_neg (by simp)]
    exact wpAny_pure (kR h'' (by rw [merged_take_succ kvs more x (k', v) hkv]; exact d'') ka'' (ks.trans s''))
end
end PySem
set_option Elab.async false
set_option linter.all false
set_option maxRecDepth 100000
set_option maxHeartbeats 4000000
set_option autoImplicit false
namespace PySem
open Sem (wp)
theorem vt_gather (f : (Option (Sem Value) × Sem Value) → (Option Addr × List (Sem Value × Sem Value)) → Sem (ForInStep (Option Addr × List (Sem Value × Sem Value)))) (rest : List (Option (Sem Value) × Sem Value)) (m : Option Addr)
    (hf : ∀ (p : Sem Value × Sem Value) (run : List (Sem Value × Sem Value)), run.length + 1 < 17 → f (some p.1, p.2) (m, run) = pure (.yield (m, run ++ [p]))) :
    ∀ (items run : List (Sem Value × Sem Value)), run.length + items.length < 17 → forIn ((items.map fun p => (some p.1, p.2)) ++ rest) (m, run) f = forIn rest (m, run ++ items) f
  | [], run, _ => by simp
  | p :: r, run, h => by
    rw [List.map_cons, List.cons_append, List.forIn_cons, hf p run (by simp at h; omega), pure_bind]
    have := vt_gather f rest m hf r (run ++ [p]) (by simp at h ⊢; omega)
    simpa using this
section
variable {prog : Program} {w : World} {A : Around} {E : Value → Shared → Prop} {s : Shared}
theorem vt_disp_star {pairs : List (Sem Value × Sem Value)} {v : Sem Value} {Q : Value → Shared → Prop} (h0 : pairs ≠ []) (hlen : pairs.length < 17)
    (h : wpAny (model prog w) A (subDict pairs) (fun d s1 => wpAny (model prog w) A v (fun m s2 => ∀ E' : Value → Shared → Prop, wpAny (model prog w) A (mergeMapping d m false) (fun _ s3 => Q (.ref d) s3) E' s2) E s1) E s) :
    wpAny (model prog w) A (dictDisplay ((pairs.map fun p => (some p.1, p.2)) ++ [(none, v)])) Q E s := by
  unfold dictDisplay
  dsimp only
  rw [vt_gather _ _ none (fun p run h => by
    have hne : ((run ++ [(p.1, p.2)]).length == 17) = false := by simp; omega
    simp only [hne, Bool.false_eq_true, if_false]) pairs [] (by simpa using hlen)]
  have he : pairs.isEmpty = false := by cases pairs with
    | nil => exact absurd rfl h0
    | cons _ _ => rfl
  simp only [List.nil_append, List.forIn_cons, List.forIn_nil, he, Bool.false_eq_true, if_false, List.isEmpty_nil, if_true]
  refine wpAny_bind (wpAny_bind (wpAny_bind (wpAny_bind (wpAny_mono h (fun d s1 q => ?_) fun _ _ e => e))))
  refine wpAny_pure ?_
  dsimp only
  refine wpAny_bind (wpAny_pure ?_)
  refine wpAny_bind (wpAny_holding (wpAny_mono q (fun m s2 q2 => ?_) fun _ _ e => e))
  refine wpAny_bind (wpAny_onRaise (wpAny_tryCatch (wpAny_onRaise (wpAny_holding (wpAny_mono (q2 _) (fun _ s3 q3 => ?_) fun _ _ e => e)))))
  exact wpAny_pure (wpAny_pure (wpAny_bind (wpAny_pure (wpAny_pure q3))))
end
end PySem
namespace Vt
open PySem PySem.Spec PyProof.Rows L2
/-- {k: v, .., **e} -/
def tDispS (trs : List (TE × TE)) (te : TE) : TE := fun σ H Q => ∀ p, H p = none → tPairs trs σ (upd H p (.dK [])) fun ps H2 => H2 p = some (.dK []) ∧ ∃ kvs : List (Key × V), ps = kvs.map (fun kv => (kV kv.1, kv.2)) ∧ kvs.length ≤ 15 ∧
  te σ (upd H2 p (.dK (mergeK [] kvs))) fun x H3 => ∃ a more, x = .ref a ∧ a ≠ p ∧ Rd H3 a (.dK more) ∧ H3 p = some (.dK (mergeK [] kvs)) ∧ kvs.length + more.length ≤ sizeLine ∧ Q (.ref p) (upd H3 p (.dK (mergeK (mergeK [] kvs) more)))
theorem pe_dispS {X : Cx} {pos : Pos} {keys keys2 : List (Option Expr)} {values values2 : List Expr} {e : Expr} {trs : List (TE × TE)} {te : TE} (h : PPs X pos keys values trs) (he : PE X e te)
    (hshape : (evalEachOpt keys2 X.env).zip ((evalEach values2 X.env).map fun v => do let x ← v; standAt pos; pure x) = (pairTrees keys values X.env pos).map (fun p => (some p.1, p.2)) ++ [(none, do let x ← eval e X.env; standAt pos; pure x)])
    (h0 : pairTrees keys values X.env pos ≠ []) (h15 : (pairTrees keys values X.env pos).length ≤ 15) : PE X (.Dict keys2 values2 pos) (tDispS trs te) := by
  refine ⟨fun pins s σ H Q I q => ?_⟩
  have hn := I.hok.fresh (Nat.le_refl s.heap.objs.size)
  have I1 := I.laid (a := s.heap.objs.size) (o := .dK []) (h' := s.heap.push { cls := .type "dict", data := .dict #[] }) (t' := s.toks) (fun _ _ q => Heap.get?_push_of_some _ q) (Nat.le_refl _) (dk_empty s.heap I.big)
  rw [arm_eval_Dict, hshape]
  refine wpAny_bind (wpAny_standAt ?_)
  refine vt_disp_star h0 (Nat.lt_of_le_of_lt h15 (by decide)) (wpAny_subDict (knd := mixKind X.prog X.w) h15 (thn (h.run pins _ σ _ _ I1 (q _ hn)) fun ws s2 ⟨ps, H2, I2, rel, e2, kvs, ep, lk, q2⟩ => ?_))
  subst ep
  obtain ⟨rs, c, rk⟩ := carries_of (P := X.prog) (w := X.w) rel
  obtain ⟨z, hd, vs0, r0, dd⟩ := dk_of I2.hok e2
  cases r0
  refine ⟨rs, c, dd, fun h' dd' hs => ?_⟩
  have hz : (mergeK [] kvs).length ≤ sizeLine := by
    have h1 := length_mergeK kvs []
    rw [List.length_nil] at h1
    rw [sizeLine_eq]; omega
  have hx : ∃ q, h'.get? s.heap.objs.size = some q := let ⟨q, _, _, hq, _⟩ := dd'; ⟨q, hq⟩
  have I3 := d_write (t' := s2.toks + ws.length) I2 (by rw [e2]; exact True.intro) hs hx (dk_new hz hd (rk.merge .nil) dd')
  refine wpAny_bind (thn (he.run pins _ σ _ _ I3 q2) fun u s4 ⟨x, H4, I4, rx, a, more, ex, na, ra, e4, l4, q4⟩ => wpAny_bind (wpAny_standAt (wpAny_pure fun E' => ?_)))
  subst ex
  obtain rfl : u = Value.ref a := rx
  obtain ⟨z4, hd4, vs4, r4, dd4⟩ := dk_of I4.hok e4
  obtain ⟨z5, hd5, vs5, r5, dd5⟩ := dk_rd I4.hok ra
  have hz6 : (mergeK (mergeK [] kvs) more).length ≤ sizeLine := by
    have h1 := length_mergeK kvs []
    have h2 := length_mergeK more (mergeK [] kvs)
    rw [List.length_nil] at h1
    omega
  have lr4 : vs4.length = (mergeK [] kvs).length := r4.length.symm
  have lr5 : vs5.length = more.length := r5.length.symm
  refine vt_merge (Ne.symm na) hd5 dd4 dd5 (fun h6 dd6 hs6 => ?_) (by
    have h1 := length_mergeK kvs []
    rw [List.length_nil] at h1
    omega)
  have hx6 : ∃ q, h6.get? s.heap.objs.size = some q := let ⟨q, _, _, hq, _⟩ := dd6; ⟨q, hq⟩
  exact ⟨.ref s.heap.objs.size, _, d_write I4 (by rw [e4]; exact True.intro) hs6 hx6 (dk_new hz6 hd4 (r5.merge r4) dd6), rfl, q4⟩
def putDs (ks : List Key) (xs : List D) : List Key → List D → List Key × List D
  | k :: ks2, x :: xs2 => putDs (putD ks xs k x).1 (putD ks xs k x).2 ks2 xs2
  | _, _ => (ks, xs)
theorem putDs_zip {T : Tx} {F : Hp} {ad : List Addr} : ∀ {ks2 : List Key} {xs2 : List D} {us : List V} {ks : List Key} {xs : List D} {vs : List V}, vs.length = ks.length → IsL T F ad xs vs → us.length = ks2.length → IsL T F ad xs2 us →
    ∃ ws, mergeK (ks.zip vs) (ks2.zip us) = (putDs ks xs ks2 xs2).1.zip ws ∧ ws.length = (putDs ks xs ks2 xs2).1.length ∧ IsL T F ad (putDs ks xs ks2 xs2).2 ws
  | [], xs2, us, ks, xs, vs, hl, h, _, _ => ⟨vs, by cases xs2 <;> rfl, by cases xs2 <;> exact hl, by cases xs2 <;> exact h⟩
  | k :: ks2, [], us, ks, xs, vs, hl, h, h2, h3 => by
    cases h3
    simp at h2
  | k :: ks2, x :: xs2, us, ks, xs, vs, hl, h, h2, h3 => by
    obtain ⟨u, ur, rfl, g1, g2⟩ := h3
    obtain ⟨ws, e1, e2, e3⟩ := put_zip (k := k) hl h g1
    obtain ⟨ws2, f1, f2, f3⟩ := putDs_zip (ks2 := ks2) (xs2 := xs2) (us := ur) e2 e3 (by simpa using h2) g2
    refine ⟨ws2, ?_, f2, f3⟩
    rw [← e1] at f1
    exact f1
def dMrg (ks : List Key) (ds : List D) (d : D) (m2 : List MO) : Res D := match d with
  | .dic ks2 xs2 => if ks.length + ks2.length ≤ sizeLine then .ok (.dic (putDs ks ds ks2 xs2).1 (putDs ks ds ks2 xs2).2) m2 else .bad
  | _ => .bad
def mDictS (ks : List Key) (g : MA) (f : ME) : ME := fun env mem => (g env mem).bind fun ds m => if (nodupB ks && decide (ks.length ≤ 15) && decide (ds.length = ks.length)) = true then (f env m).bind (dMrg ks ds) else .bad
section
variable {nm : String → List Str} {B : Bs} {W : WX} {X : Cx} {e : Expr} {keys keys2 : List (Option Expr)} {values values2 : List Expr} {ks : List Key} {f : ME} {g : MA} {x : Str} {pos kp : Pos} {kx : Nat}
theorem se_dictS0 (hk : DK nm W X pos keys values ks g) (he : ∀ B, SE nm B W X e f)
    (hshape : (evalEachOpt keys2 X.env).zip ((evalEach values2 X.env).map fun v => do let x ← v; standAt pos; pure x) = (pairTrees keys values X.env pos).map (fun p => (some p.1, p.2)) ++ [(none, do let x ← eval e X.env; standAt pos; pure x)])
    (h0 : pairTrees keys values X.env pos ≠ []) (h15 : (pairTrees keys values X.env pos).length ≤ 15) : SE nm B W X (.Dict keys2 values2 pos) (mDictS ks g f) := by
  obtain ⟨trs, h1, h2⟩ := hk
  refine PE.imp (pe_perm (pe_dispS (te := fun σ H Q => ∃ B, tE (tx X nm) B W f σ H Q) h1 ⟨fun p s σ H Q I ⟨B, q⟩ => (he B).run p s σ H Q I q⟩ hshape h0 h15)) fun σ H Q ⟨env, mem, ex, ⟨F, ad, s⟩, h⟩ => ?_
  intro p hp
  have gp : B.G p = none := s.held_none hp
  refine h2 (B := B.also p (.dK [])) ⟨env, mem, ex, ⟨F, ad, s.hold hp⟩, ?_⟩
  unfold mDictS at h
  have hb := h.bind
  cases eg : g env mem with
  | bad => rw [eg] at hb; exact hb
  | exc C xs m =>
    rw [eg] at hb
    exact fun dc F' ad' H' s' x => hb dc F' ad' H' (s'.unhold gp) x
  | ok ds m =>
    rw [eg] at hb
    intro vs H' lv ⟨F', ad', s'⟩
    have q : Wnt (tx X nm) B W env ex σ (KE (tx X nm) B env ex σ Q) (if (nodupB ks && decide (ks.length ≤ 15) && decide (ds.length = ks.length)) = true then (f env m).bind (dMrg ks ds) else .bad) := hb
    split at q
    case isFalse => exact q.elim
    rename_i hc
    simp only [Bool.and_eq_true, decide_eq_true_eq] at hc
    obtain ⟨⟨c1, c2⟩, c3⟩ := hc
    have em : mergeK [] (ks.zip vs) = ks.zip vs := by
      rw [merge_new c1 fun p hp => by cases hp]; rfl
    have hl' : vs.length = ks.length := lv.trans c3
    refine ⟨s'.held, ks.zip vs, ?_, ?_, ?_⟩
    · rw [List.zip_map_left]; rfl
    · simp [hl']; exact c2
    rw [em]
    have sp := s'.hold_put (o' := .dK (ks.zip vs)) gp
    refine ⟨B.also p (.dK (ks.zip vs)), env, m, vs.zip ds ++ ex, ⟨F', ad', sp⟩, ?_⟩
    have qb := q.bind
    cases ef : f env m with
    | bad => rw [ef] at qb; exact qb
    | exc C xs m3 =>
      rw [ef] at qb
      exact fun dc F' ad' H' s' x => qb dc F' ad' H' ((s'.sub fun x hx => List.mem_append_right _ hx).unhold gp) x
    | ok d m2 =>
      rw [ef] at qb
      intro v H3 ⟨F3, ad3, s3⟩
      have q3 : Wnt (tx X nm) B W env ex σ (KE (tx X nm) B env ex σ Q) (dMrg ks ds d m2) := qb
      unfold dMrg at q3
      split at q3
      case h_2 => exact q3.elim
      rename_i ks2 xs2
      split at q3
      case isFalse => exact q3.elim
      rename_i cz
      obtain ⟨a, oa, us, ev, ha, hla, ia⟩ := s3.top
      subst ev
      have iv : IsL (tx X nm) F3 ad3 ds vs := zip_tmp lv fun x hx => s3.tmp x (List.mem_cons_of_mem _ (List.mem_append_left _ hx))
      obtain ⟨ws, w1, w2, w3⟩ := putDs_zip hl' iv hla ia
      have na : a ≠ p := fun e => by
        have := s3.frm p _ upd_same
        rw [e] at ha
        rw [ha] at this
        exact nomatch this.2.1
      refine ⟨a, ks2.zip us, rfl, na, .inr ⟨oa, s3.sat.sub _ _ ha⟩, s3.held, by simp [hl', hla]; exact cz, ?_⟩
      rw [w1]
      refine ⟨p, _, rfl, upd_same, trivial, fun od => ?_⟩
      have e2 : upd (upd H3 p (.dK ((putDs ks ds ks2 xs2).1.zip ws))) p (.frz od (.dK ((putDs ks ds ks2 xs2).1.zip ws))) = upd H3 p (.frz od (.dK ((putDs ks ds ks2 xs2).1.zip ws))) := by
        funext b
        by_cases z : b = p
        · subst z; rw [upd_same, upd_same]
        · rw [upd_ne z, upd_ne z, upd_ne z]
      rw [e2]
      have s2 := (s3.hold_put (o' := .frz od (.dK ((putDs ks ds ks2 xs2).1.zip ws))) gp).hold_end gp
      exact q3 _ _ ⟨_, ad3, (s2.sub fun x hx => List.mem_cons_of_mem _ (List.mem_append_right _ hx)).push ⟨p, od, ws, rfl, upd_same, w2, (w3.mono (same_new (s3.frm p _ upd_same).2.1) (List.prefix_refl _))⟩⟩
theorem se_dictS (hk : DK nm W X pos keys.dropLast values.dropLast ks g) (he : ∀ B, SE nm B W X (values.getLast?.getD (.Name "" pos)) f)
    (hshape : (evalEachOpt keys X.env).zip ((evalEach values X.env).map fun v => do let x ← v; standAt pos; pure x) = (pairTrees keys.dropLast values.dropLast X.env pos).map (fun p => (some p.1, p.2)) ++ [(none, do let x ← eval (values.getLast?.getD (.Name "" pos)) X.env; standAt pos; pure x)] := by rfl)
    (hall : keys.dropLast.all (·.isSome) = true := by rfl) (hl : keys.dropLast.length = values.dropLast.length := by rfl) (h0 : keys.dropLast.length ≠ 0 := by decide) (h15 : keys.dropLast.length ≤ 15 := by decide) : SE nm B W X (.Dict keys values pos) (mDictS ks g f) := by
  have hn := pairTrees_length keys.dropLast values.dropLast X.env pos hall hl
  exact se_dictS0 hk he hshape (fun z => by rw [z] at hn; exact h0 hn.symm) (by rw [hn]; exact h15)
end
end Vt
set_option Elab.async false
set_option linter.all false
set_option maxRecDepth 100000
set_option maxHeartbeats 4000000
set_option autoImplicit false
namespace Vt
open PySem PySem.Spec PyProof.Rows L2
/-! ### def f(self, **parts), called by keywords -/
theorem pss_perm {X : Cx} {st : List Stmt} {t : TS} (h : PSs X st t) : PSs X st (tPermS t) := ⟨fun pins s σ H Z I ⟨d, u, hd, mu, q⟩ => by
  obtain ⟨od, I1⟩ := I.lock hd mu
  exact h.run pins s σ _ Z I1 (q od)⟩
def keysNd : List Str → Bool
  | [] => true
  | k :: r => !(r.any fun a => decide (a = k)) && keysNd r
theorem keysNd_nodup : ∀ {ks : List Str}, keysNd ks = true → ks.Nodup
  | [], _ => List.nodup_nil
  | k :: r, h => by
    simp only [keysNd, Bool.and_eq_true, Bool.not_eq_true', List.any_eq_false, decide_eq_true_eq] at h
    exact List.nodup_cons.mpr ⟨fun m => h.1 k m rfl, keysNd_nodup h.2⟩
theorem kv_zip : ∀ (ks : List Str) {zs : List V} {ws : List Value}, Vals zs ws → KV ((ks.map Sum.inr : List Key).zip zs) ((ks.zip ws).map fun x => ((.inr x.1 : Key), x.2))
  | [], _, _, _ => .nil
  | k :: ks, _, _, .nil => by
    rw [List.zip_nil_right, List.zip_nil_right]
    exact .nil
  | k :: ks, _, _, .cons a r => .cons ⟨rfl, a⟩ (kv_zip ks r)
theorem env0_laidT {P : Program} {w : World} {K : PySem.W.Frag} {mg : Str → Option Value} {base : Heap} {A : Around} {outer : List Env} {s : Shared} {H : Hp} {h' : Heap} {t : Nat} {u : HO} (e0 : Env0 P w K mg base A outer s H)
    (kp : ∀ b x, s.heap.get? b = some x → h'.get? b = some x) (hz : s.heap.objs.size ≤ h'.objs.size) (new : ObjOk P w (upd H s.heap.objs.size u) h' s.heap.objs.size u) : Env0 P w K mg base A outer { s with heap := h', toks := t } (upd H s.heap.objs.size u) := by
  refine ⟨e0.frames, e0.mod, fun b x e => ⟨kp b x (e0.bs b x e).1, ?_⟩, Nat.le_trans e0.bsz hz, Heap.FunFrames.of_keeps (fun b x e _ => ⟨x, kp b x e, rfl⟩) e0.funs, fun b hb => ?_, e0.hok.laid kp (Nat.le_refl _) new, e0.bare⟩
  · rw [upd_ne (Nat.ne_of_lt (Heap.lt_size (e0.bs b x e).1))]
    exact (e0.bs b x e).2
  · obtain ⟨_, x, hx, _⟩ := e0.funs.mem hb
    rw [upd_ne (Nat.ne_of_lt (Heap.lt_size hx))]
    exact e0.frf b hb
/-- self, and the keywords in a dict -/
def kwdF (ks : List Str) (φ : Fun) : Fun := fun ds mem => match ds with
  | d :: r => if r.length = ks.length ∧ ks.length ≤ sizeLine then φ [d, .dic (ks.map .inr) r] mem else .bad
  | [] => .bad
def FnKwM (P : Program) (w : World) (K : PySem.W.Frag) (mg : Str → Option Value) (base : Heap) (CX : CXT) (nm : String → List Str) (k : Nat) (f : Addr) (ks : List Str) (φ : Fun) : Prop :=
  ∀ (A : Around) (outer : List Env) (s : Shared) (H : Hp) (x : V) (u : Value) (ws : List Value) (zs : List V) (Q : VK) (E : XK), Room k A → Env0 P w K mg base A outer s H → RelV x u → Vals zs ws → ws.length = ks.length → RX ⟨K, nm⟩ φ (x :: zs) H Q E →
    codeAny (model P w) A (.call (.ref f) ⟨[u], ks.zip ws⟩) (CR CX outer P w H s Q E) s
theorem kwd_rx {T : Tx} {ks : List Str} {φ : Fun} {x : V} {zs : List V} {H : Hp} {Q : VK} {E : XK} (h : RX T (kwdF ks φ) (x :: zs) H Q E) :
    zs.length = ks.length ∧ ks.length ≤ sizeLine ∧ ∀ p od, H p = none → RX T φ [x, V.ref p] (upd H p (.frz od (.dK ((ks.map Sum.inr).zip zs)))) Q E := by
  obtain ⟨F, ad, mem, ds, s, i, h⟩ := h
  match ds, i, h with
  | [], i, h => exact h.elim
  | d :: r, i, h =>
    have h : match (if r.length = ks.length ∧ ks.length ≤ sizeLine then φ [d, .dic (ks.map .inr) r] mem else Res.bad) with
      | .bad => False
      | .ok d m => ∀ v F' ad' H', Ext T F ad H F' ad' m H' → Is T F' ad' d v → Q v H'
      | .exc C xs m => ∀ dc F' ad' H', Ext T F ad H F' ad' m H' → XIs T F' ad' H' C dc xs → E (.ref (T.at_ C)) dc H' := h
    obtain ⟨v, vr, ev, i1, i2⟩ := i
    cases ev
    have lv := i2.length
    by_cases c : r.length = ks.length ∧ ks.length ≤ sizeLine
    case neg => rw [if_neg c] at h; exact h.elim
    rw [if_pos c] at h
    refine ⟨lv.trans c.1, c.2, fun p od hp => ?_⟩
    have z := s.new (o := .frz od (.dK ((ks.map Sum.inr).zip zs))) hp
    refine ⟨_, ad, mem, [d, .dic (ks.map .inr) r], z.sat, IsL.cons (i1.mono z.gro z.pre) (IsL.cons ⟨p, od, zs, rfl, upd_same, by simp [lv, c.1], i2.mono z.gro z.pre⟩ IsL.nil), ?_⟩
    cases e : φ [d, .dic (ks.map .inr) r] mem with
    | bad => rw [e] at h; exact h
    | ok d m => rw [e] at h; exact fun v F' ad' H' y q => h v F' ad' H' (z.trans y) q
    | exc C xs m => rw [e] at h; exact fun dc F' ad' H' y q => h dc F' ad' H' (z.trans y) q
section
variable {P : Program} {w : World} {K : PySem.W.Frag} {mg : Str → Option Value} {base : Heap} {x qual : Str} {params : Arguments} {body : List Stmt} {scope : Scope} {f : Addr} {fd : FuncData} {nm : String → List Str} {N ks : List Str} {p0 pd : Str} {k : Nat} {g : MS} {ψ : Fun}
abbrev BindK (x qual p0 pd : Str) (params : Arguments) (body : List Stmt) (scope : Scope) (ks : List Str) : Prop := ∀ (kV doc pm : Value) (an : Option Addr) (cdv ct : Value) (u : Value) (ws : List Value), ws.length = ks.length →
  bindArgs (PySem.W.fnOf x qual params body scope .none kV doc pm an cdv ct) ⟨[u], ks.zip ws⟩ = ((alloc { cls := .type "dict", data := .dict #[] } : Sem Addr) >>= fun d => vtSets d (ks.zip ws) >>= fun _ => pure [(p0, u), (pd, Value.ref d)])
theorem kwd_of (D : FunD K x qual params body scope [] [] f fd) (S : FnScope N [p0, pd] scope) (hb : BindK x qual p0 pd params body scope ks) (hk : keysNd ks = true)
    (hbody : ∀ (B : Bs) (cdv : Value) (A : Around) (outer : List Env) (s : Shared) (H : Hp) (E : XK), Room k (A.deeper (envOfC qual scope s.heap.objs.size f cdv)) → SSs nm B WF (cxOf CX0 P w K mg base N qual scope f cdv A outer s H E).nox body g)
    (le : Le ψ (kwdF ks (phi 2 N.length g))) (hn : NoX ψ) : FnKwM P w K mg base CX0 nm (k + 1) f ks ψ := by
  intro A outer s H x0 u ws zs Q E hr e0 rx r l h
  obtain ⟨oc, od, dV, kV, doc, pm, an, cdv, ct, osl, rfl, lk, hcd, hD, hK⟩ := D.ex
  rcases hD with ⟨_, rfl⟩ | ⟨e, _⟩
  case inr => exact absurd rfl e
  obtain ⟨hl, hz, hq⟩ := kwd_rx (T := ⟨K, nm⟩) ((h.nox hn).le le)
  have hn0 : H s.heap.objs.size = Option.none := e0.hok.fresh (Nat.le_refl _)
  refine StX.run_bnd (ps := [p0, pd]) lk hcd S hr e0 (G := fun xs H2 => ∃ p, H p = Option.none ∧ xs = [x0, V.ref p] ∧ H2 = upd H p (.dK ((ks.map Sum.inr).zip zs))) (fun A' Ex Q' h => ?_) fun s2 H2 xs ⟨p, hp, ex, eH⟩ hr' => ?_
  · rw [hb kV doc pm an cdv ct u ws l]
    refine wpAny_bind (wpAny_alloc ?_)
    have hm0 : (s.heap.push ({ cls := .type "dict", data := .dict #[] } : Obj)).DictOf (mixKind P w) s.heap.objs.size [] := Heap.DictOf.new s.heap
    have lz : zs.length = ws.length := r.length
    refine wpAny_bind (vt_sets (ks.zip ws) _ [] hm0 (fun x _ => by simp) ?_ fun h' hm' hs' => wpAny_pure ?_)
    · rw [List.map_fst_zip (by omega)]
      exact keysNd_nodup hk
    have kp : ∀ b x, s.heap.get? b = some x → h'.get? b = some x := fun b x e => (hs'.2 b (Nat.ne_of_lt (Heap.lt_size e))).trans (Heap.get?_push_of_some _ e)
    have hsz : s.heap.objs.size ≤ h'.objs.size := by rw [hs'.1, Heap.size_push]; exact Nat.le_succ _
    have kv : KV ((ks.map Sum.inr).zip zs) (([] : List (Key × Value)) ++ (ks.zip ws).map fun x => (.inr x.1, x.2)) := by
      rw [List.nil_append]
      exact kv_zip ks r
    have new : ObjOk P w (upd H s.heap.objs.size (.dK ((ks.map Sum.inr).zip zs))) h' s.heap.objs.size (.dK ((ks.map Sum.inr).zip zs)) := ⟨by simp [hl]; exact hz, beq_eq_false_iff_ne.mpr (Ne.symm (Nat.ne_of_lt (StX.env0_big e0))), _, kv, hm'⟩
    have un : Un (frs outer) [] H (upd H s.heap.objs.size (.dK ((ks.map Sum.inr).zip zs))) s.heap h' := Un.laid kp (Nat.le_refl _) hn0
    have e5 : Env0 P w K mg base A outer { s with heap := h', toks := s.toks + (ks.zip ws).length } (upd H s.heap.objs.size (.dK ((ks.map Sum.inr).zip zs))) := env0_laidT (s := s) e0 kp hsz new
    exact h _ _ [x0, V.ref s.heap.objs.size] [u, Value.ref s.heap.objs.size] e5 un rfl (fun e s' z => z) (.cons rx (.cons rfl .nil)) rfl ⟨_, hn0, rfl, rfl⟩
  · subst ex eH
    have rxp : ∀ od, RX ⟨K, nm⟩ (phi [p0, pd].length N.length g) [x0, V.ref p] (upd (upd H p (.dK ((ks.map Sum.inr).zip zs))) p (.frz od (.dK ((ks.map Sum.inr).zip zs)))) Q fun _ _ _ => False := fun od => by
      have e2 : upd (upd H p (.dK ((ks.map Sum.inr).zip zs))) p (.frz od (.dK ((ks.map Sum.inr).zip zs))) = upd H p (.frz od (.dK ((ks.map Sum.inr).zip zs))) := by
        funext b
        by_cases z : b = p
        · subst z; rw [upd_same, upd_same]
        · rw [upd_ne z, upd_ne z, upd_ne z]
      rw [e2]
      exact hq p od hp
    refine ⟨tPermS (fun Z σ H => ∃ B, tS ⟨K, nm⟩ B WF g Z σ H), (pss_perm ⟨fun pins s σ H Z I ⟨B, q⟩ => (hbody B cdv A outer s2 _ E hr').run pins s σ H Z I q⟩).nox, p, _, upd_same, trivial, fun od => ?_⟩
    exact body_imp (ps := [p0, pd]) (N := N) (W := WF) (fun _ _ _ _ z => z) (rxp od)
end
structure Dmk (P : Program) (w : World) (K : PySem.W.Frag) (mg : Str → Option Value) (base : Heap) (CX : CXT) (nm : String → List Str) (k : Nat) (C m : Str) (ks : List Str) (φ : Fun) : Prop where
  cl : Cls K (He.ga K C)
  me : Meth K (He.ga K C) m (He.ma K (He.ga K C) m)
  fn : FnKwM P w K mg base CX nm k (He.ma K (He.ga K C) m) ks φ
def kwCall (n : Nat) (φ : Fun) (d : D) (ds : List D) (m : List MO) : Res D := if ds.length = n then φ (d :: ds) m else .bad
def mMethK (C : String) (n : Nat) (φ : Fun) (f : ME) (g : MA) : ME := fun env mem => (f env mem).bind fun d m => match d with
  | .ins C' xs => if C' = C then (g env m).bind fun ds m2 => kwCall n φ d ds m2 else .bad
  | _ => .bad
section
variable {nm : String → List Str} {B : Bs} {W : WX} {X : Cx} {CX : CXT} {k : Nat} {C : String} {m : Str} {φ : Fun} {o : Expr} {kws : List Keyword} {f : ME} {g : MA} {pos p apos : Pos} {pl : Sem Bool} {ks : List Str}
/-- o.m(k1 = e1, ..) -/
theorem se_methK0 (M : Dmk X.prog X.w X.K X.mg X.base CX nm k (Str.ofString C) m ks φ) (hr : Room k X.A) (hx : Thr CX X W) (ho : SE nm B W X o f) (ha : SK nm B W X kws g) (hm : m ∉ nm C)
    (hall : (backToKw pos (keywordEach kws X.env)).all (·.1.isSome) = true := by rfl) (hks : (backToKw pos (keywordEach kws X.env)).filterMap (·.1) = ks := by rfl)
    (hpl : ((backTo pos (starEach [] X.env)).any (·.1) || (backToKw pos (keywordEach kws X.env)).any (·.1.isNone)) = false := by rfl)
    (ht : eval (.Call (.Attribute o m apos) [] kws pos) X.env = (do
      let ov ← eval o X.env
      standAt apos.atName
      let r ← holding [ov] (getMethod ov m pl)
      callWith pos r.1 r.2 (backTo pos (starEach [] X.env)) (backToKw pos (keywordEach kws X.env))) := by rfl) :
    SE nm B W X (.Call (.Attribute o m apos) [] kws pos) (mMethK C ks.length φ f g) :=
  ⟨fun pins s σ H Q I ⟨env, mem, ex, st, h⟩ => PySem.W.methodCall_KW (pl := pl) (thn (ho.run pins s σ H (fun v H1 => ∃ m1 d, SatX (tx X nm) B env m1 ((v, d) :: ex) σ H1 ∧ Wnt (tx X nm) B W env ex σ (KE (tx X nm) B env ex σ Q) (match d with
      | .ins C' xs => if C' = C then (g env m1).bind fun ds m2 => kwCall ks.length φ d ds m2 else .bad
      | _ => .bad)) I (tE_step st h fun v H1 d m1 s1 q => ⟨m1, d, s1, q⟩)) fun u s1 ⟨v, H1, I1, rv, m1, d, s2, q⟩ => by
    cases d with
    | ins C' xs =>
      dsimp only at q
      split at q
      case isFalse => exact q.elim
      rename_i hC
      subst hC
      obtain ⟨F, ad, s3⟩ := id s2
      obtain ⟨a, dx, fs, rfl, g1, g2⟩ := meth_of s3 hm
      obtain rfl : u = Value.ref a := rv
      refine getmeth_ok I1 g1 M.cl M.me g2 ?_
      refine PySem.W.callWith_KW0 (first := [.ref a]) (h₀ := X.base) I.ok.mod.kin M.me.kp hall (thn (ha.run pos pins s1 σ H1 (fun vs H2 => vs.length = ks.length ∧ RX ⟨X.K, nm⟩ φ (.ref a :: vs) H2 Q fun c d H => W c d σ H) I1
        (tA_step s2 q.push1 fun vs H2 ds m2 l s4 q4 => ?_)) fun us s4 ⟨vs, H2, I2, r, l2, q2⟩ => ⟨I2.kIn, ?_⟩) hpl
      · have q5 : Wnt (tx X nm) B W env ((V.ref a, D.ins C' xs) :: ex) σ (KE (tx X nm) B env ex σ Q) (if ds.length = ks.length then φ (.ins C' xs :: ds) m2 else .bad) := q4
        split at q5
        case isFalse => exact q5.elim
        rename_i c
        have q6 : Wnt (tx X nm) B W env (((V.ref a, D.ins C' xs) :: ex)) σ (KE (tx X nm) B env ((V.ref a, D.ins C' xs) :: ex) σ Q) (φ (.ins C' xs :: ds) m2) := q5.mono fun d m z v H s => z v H (s.sub fun y hy => by
          rcases List.mem_cons.mp hy with e | e
          · rw [e]; exact List.mem_cons_self
          · exact List.mem_cons_of_mem _ (List.mem_cons_of_mem _ e))
        exact ⟨l.trans c, rx_of (p := vs.zip ds) (ds := .ins C' xs :: ds) s4 (fun _ _ s5 => IsL.cons (s5.tmp (V.ref a, .ins C' xs) (List.mem_append_right _ List.mem_cons_self)) (il_of l s5)) q6⟩
      · rw [hks]
        exact wpAny_call (codeAny_mono (M.fn X.A X.stack s4 H2 (.ref a) (.ref a) us vs Q _ hr I2.env0 rfl r (r.length.symm.trans l2) q2) fun r s' hq => by
          cases r with
          | error e => exact hx σ pins σ H2 s4 e s' I2 hq
          | ok fl =>
            cases fl with
            | ret u => exact I2.after hq
            | _ => exact hq.elim)
    | _ => exact q.elim) ht⟩
theorem se_methK {n : Nat} (M : Dmk X.prog X.w X.K X.mg X.base CX nm k (Str.ofString C) m ks φ) (hr : Room k X.A) (hx : Thr CX X W) (ho : SE nm B W X o f) (ha : SK nm B W X kws g) (hm : m ∉ nm C) (hn : ks.length = n := by rfl)
    (hall : (backToKw pos (keywordEach kws X.env)).all (·.1.isSome) = true := by rfl) (hks : (backToKw pos (keywordEach kws X.env)).filterMap (·.1) = ks := by rfl)
    (hpl : ((backTo pos (starEach [] X.env)).any (·.1) || (backToKw pos (keywordEach kws X.env)).any (·.1.isNone)) = false := by rfl)
    (ht : eval (.Call (.Attribute o m apos) [] kws pos) X.env = (do
      let ov ← eval o X.env
      standAt apos.atName
      let r ← holding [ov] (getMethod ov m pl)
      callWith pos r.1 r.2 (backTo pos (starEach [] X.env)) (backToKw pos (keywordEach kws X.env))) := by rfl) :
    SE nm B W X (.Call (.Attribute o m apos) [] kws pos) (mMethK C n φ f g) := by
  subst hn
  exact se_methK0 M hr hx ho ha hm hall hks hpl ht
/-- x(k1 = e1, ..) -/
theorem se_kwN {n : Nat} {x : Str} (M : Dkw X.prog X.w X.K X.mg X.base CX nm k x ks φ) (hr : Room k X.A) (hx : Thr CX X W) (ha : SK nm B W X kws g) (hn : ks.length = n := by rfl) (hg : Gl X x := by rfl) (hd : (x == ("__debug__" : Str)) = false := by decide)
    (hall : (backToKw pos (keywordEach kws X.env)).all (·.1.isSome) = true := by rfl) (hks : (backToKw pos (keywordEach kws X.env)).filterMap (·.1) = ks := by rfl)
    (hpl : ((backTo pos (starEach [] X.env)).any (·.1) || (backToKw pos (keywordEach kws X.env)).any (·.1.isNone)) = false := by rfl) : SE nm B W X (.Call (.Name x p) [] kws pos) (mKw n φ g) := by
  subst hn
  exact se_kw M hr hx ha hg hd hall hks hpl
end
end Vt
set_option Elab.async false
set_option linter.all false
set_option maxRecDepth 100000
set_option maxHeartbeats 4000000
set_option autoImplicit false
namespace Vt
open PySem PySem.Spec PyProof.Rows L2 PySem.W
/-! ### the items of a list or a tuple -/
def iSeqs (K : PySem.W.Frag) (te : TE) : TI := fun σ H R => te σ H fun x H1 => (∃ a, x = .ref a ∧ (∃ xs, SqL K H1 a xs) ∧ R (Itl K a) H1) ∨ (∃ a, x = .ref a ∧ (∃ xs, SqT K H1 a xs) ∧ R (Itt K a) H1)
theorem pi_seqs {X : Cx} {tg l : Expr} {tl : TE} (hl : PE X l tl) : PI X tg l (iSeqs X.K tl) := by
  refine ⟨fun pins s σ H R I h => ?_⟩
  refine thn (hl.run pins s σ H _ I h) fun v s1 ⟨x, H1, I1, r1, q1⟩ => ?_
  have fresh : ∀ b, b ∈ [s1.heap.objs.size] → FpOk X pins H1 b := fun b hb => by
    have e : b = s1.heap.objs.size := by simpa using hb
    subst e
    exact I1.fpOk (Nat.le_refl _) (I1.hok.fresh (Nat.le_refl _))
  rcases q1 with ⟨a, e, ⟨xs, hq⟩, q⟩ | ⟨a, e, ⟨xs, hq⟩, q⟩
  · subst e
    cases r1
    obtain ⟨its, rv, p, hz⟩ := I1.list hq
    refine wpAny_pyIter_list p.isList ?_
    exact ⟨s1.heap.objs.size, [s1.heap.objs.size], _, _, H1, rfl, I1.kept (t' := s1.toks) fun b o e => Heap.get?_push_of_some _ e, turn_list a _, ⟨_, Heap.get?_push_size _ rfl, rfl, rfl⟩, fresh, q⟩
  · subst e
    cases r1
    obtain ⟨its, rv, p, hz⟩ := I1.tuple hq
    refine wpAny_pyIter_tuple (show s1.heap.IsTuple a its.toArray from p) ?_
    exact ⟨s1.heap.objs.size, [s1.heap.objs.size], _, _, H1, rfl, I1.kept (t' := s1.toks) fun b o e => Heap.get?_push_of_some _ e, turn_tuple a _, ⟨_, Heap.get?_push_size _ rfl, rfl, rfl⟩, fresh, q⟩
def mItS (f : ME) : MI := fun env mem => (f env mem).bind fun d m => match d with
  | .lst xs => .ok xs m
  | .tup xs => .ok xs m
  | _ => .bad
section
variable {nm : String → List Str} {B : Bs} {W : WX} {X : Cx} {tg a : Expr} {f : ME}
theorem si_seq (ha : SE nm B W X a f) : SI nm B W X tg a (mItS f) :=
  PI.imp (pi_seqs ha) fun σ H R ⟨env, mem, ex, s, h⟩ => by
    refine tE_step s h fun v H1 d m s1 q1 => ?_
    cases d with
    | lst xs =>
      obtain ⟨F, ad, s2⟩ := s1
      obtain ⟨p, vs, e, h1, h2⟩ := s2.top
      exact .inl ⟨p, e, ⟨vs, SqL.of (s2.sat.sub _ _ h1)⟩, q1 _ [(v, .lst xs)] H1 ⟨F, ad, s2⟩ (wlk_list e)⟩
    | tup xs =>
      obtain ⟨F, ad, s2⟩ := s1
      obtain ⟨p, vs, e, h1, h2⟩ := s2.top
      exact .inr ⟨p, e, ⟨vs, sqT_mono s2.sat.sub h1⟩, q1 _ [(v, .tup xs)] H1 ⟨F, ad, s2⟩ (wlk_tup e)⟩
    | _ => exact q1.elim
end
/-! ### sum of a tuple -/
def dSumT : Pur
  | [.tup xs] => (intsOf xs).map fun ns => .int ns.sum
  | _ => none
section
variable {X : Cx} {nm : String → List Str}
theorem cr_sumT (hc : X.calm = true) : CallR X (.builtin "sum") (fun vs H Q => ∃ (a : Addr) (ns : List Int), vs = [V.ref a] ∧ SqT X.K H a (ns.map V.int) ∧ Q (.int ns.sum) H) := by
  intro pins s σ H vs us Q I r h
  obtain ⟨a, ns, rfl, hs, q⟩ := h
  obtain ⟨its, rv, hl, _⟩ := I.tuple hs
  rw [Vals.ref1 r]
  have hi := rv.ints
  obtain ⟨xs, e⟩ := hi.allInts.items
  have hn : numsOf (intItems xs).toList = ns := by rw [← e]; exact hi.numsOf
  rw [nums_intItems] at hn
  have ht : s.heap.IsTuple a its.toArray := hl
  rw [e] at ht
  refine PySem.W.ktm_sumG (I.ok.hd hc) ht fun h' tk t' hk => ?_
  rw [preSum_eq, List.take_of_length_le (by simp), hn]
  exact ⟨.int _, H, I.kept hk, ⟨_, rfl⟩, q⟩
theorem c_sumT (hc : X.calm = true) : CallR X (.builtin "sum") (RP (tx X nm) dSumT) := cr_imp (cr_sumT hc) fun vs H Q h => by
  obtain ⟨F, ad, mem, ds, d, s, i, e, q⟩ := rp_flat h
  unfold dSumT at e
  split at e
  · rename_i xs
    obtain ⟨v, rfl, p, us, rfl, h1, h2⟩ := i.one
    cases hn : intsOf xs with
    | none => rw [hn] at e; cases e
    | some ns =>
      rw [hn] at e; cases e
      exact ⟨p, ns, rfl, by rw [← ints_of hn h2]; exact sqT_mono s.sub h1, q _ rfl⟩
  · cases e
end
end Vt
set_option Elab.async false
set_option linter.all false
set_option maxRecDepth 100000
set_option maxHeartbeats 4000000
set_option autoImplicit false
namespace Vt
open PySem PySem.Spec PyProof.Rows L2
/-! ### x, y = e, [] with y standing as it is; e not in such a y -/
def mParO (i j : Nat) (f : ME) : MS := fun env mem => (f env mem).flow env fun d m => .next ((env.set i (.val d)).set j (.own (.lst []))) m
def mNinO (i : Nat) (f : ME) : ME := fun env mem => (f env mem).bind fun d m => match env[i]? with
  | some (.own (.lst xs)) => lf dNin [d, .lst xs] m
  | _ => .bad
section
variable {nm : String → List Str} {B : Bs} {W : WX} {X : Cx} {a : Expr} {f : ME} {pos p pos' : Pos} {x : Str}
theorem ss_parO (i j : Nat) {y : Str} {kt k2 pt2 p2 px py pt} (hc : X.calm = true) (hN : X.N.Nodup) (ha : SE nm B W X a f) (hi : X.N[i]? = some x := by rfl) (hj : X.N[j]? = some y := by rfl) (hij : i ≠ j := by decide)
    (hx : X.env.scope.names.lookup x = some .local := by rfl) (hy : X.env.scope.names.lookup y = some .local := by rfl)
    (hw : swappedStores [.Tuple [.Name x px, .Name y py] kt pt] (.Tuple [a, .List [] p2] k2 pt2) X.env = pure (some [x, y]) := by rfl)
    (hs : swapsWithSole [.Tuple [.Name x px, .Name y py] kt pt] (.Tuple [a, .List [] p2] k2 pt2) pos.line X.env = pure false := by rfl)
    (h1 : starEach [a, .List [] p2] X.env = (false, eval a X.env) :: starEach [.List [] p2] X.env := by rfl) :
    SS nm B W X (.Assign [.Tuple [.Name x px, .Name y py] kt pt] (.Tuple [a, .List [] p2] k2 pt2) pos) (mParO i j f) :=
  PS.imp (ps_par hc hN hi hj hij hx hy (pa_cons ha (pa_cons (pe_lst pa_nil) pa_nil) h1) hw hs) fun Z σ H ⟨env, mem, ex, s, h⟩ =>
    ⟨env, mem, ex, s, (ks_of h).mono fun d m q v H' ⟨F, ad, s'⟩ => ⟨Nat.zero_le _, fun p hp => by
      refine ⟨_, _, rfl, ?_⟩
      have t1 := s'.tmp (v, d) (by simp)
      have s1 := (s'.sub fun x hx => List.mem_cons_of_mem _ hx).set (i := i) t1
      have s2 := SatF.set_own (i := j) (m := .lst []) (o := .lst []) s1 hp ⟨[], upd_same, IsL.nil⟩ (fun z => by cases z) (fun _ _ z => by cases z)
      exact q _ _ ⟨F, ad, s2⟩⟩⟩
theorem nin_own {T : Tx} {F : Hp} {ad : List Addr} {env : List Slot} {mem : List MO} {ex : List (V × D)} {σ : L2.St} {H : Hp} {i : Nat} {xs : List D} {d : D} {v : V} {l : Addr} {r : Bool}
    (s : SatF T B F ad env mem ((v, d) :: ex) σ H) (he : env[i]? = some (.own (.lst xs))) (hl : σ[i]? = some (some (.ref l))) (h : dNin [d, .lst xs] = some (.bl r)) :
    RP T dNin [v, .ref l] H fun z _ => z = .bl r := by
  obtain ⟨l', vs, hσ, g1, g2⟩ := own_at s he
  rw [hl] at hσ; cases hσ
  obtain ⟨a', k1, k2, k3, k4, k5, k6⟩ := s.own i _ he
  rw [hl] at k1; cases k1
  have gr : Same F (upd F l (.lst vs)) := same_new k2
  have s2 := s.freeze (d := .lst xs) he hl g1 ⟨l, vs, rfl, upd_same, g2.mono gr (List.prefix_refl _)⟩
  exact ⟨_, ad, mem, [d, .lst xs], _, s2.sat, IsL.cons (s2.tmp (v, d) (by simp)) (IsL.cons ⟨l, vs, rfl, upd_same, g2.mono gr (List.prefix_refl _)⟩ IsL.nil), h, fun z F' ad' H' _ i => i⟩
theorem st_ninO (i : Nat) (hu : X.A.units + 65 < cLine) (ha : SE nm B W X a f) (hi : X.N[i]? = some x := by rfl) (hv : Vis X.env.scope x := by first | exact Or.inl rfl | exact Or.inr (Or.inl rfl) | exact Or.inr (Or.inr rfl)) (hd : (x == ("__debug__" : Str)) = false := by decide) (hcd : (x == ("__classdict__" : Str)) = false := by decide)
    (hm : behindInMarks .NotIn (.Name x p) = false := by rfl) : ST nm B W X (.Compare a [.NotIn] [.Name x p] pos) (mTB (mNinO i f)) :=
  PT.imp (pt_cmpR (op_notIn_sign.or (op_notIn_seq.or (op_notInD hu))) ha (pe_var hi hv hd hcd) hm) fun σ H Q h => tTest_imp (ta := tE (tx X nm) B W (mNinO i f)) (fun σ H Q ⟨env, mem, ex, s, h⟩ => by
    unfold mNinO at h
    refine tE_step s h fun v H1 d m s1 q1 => ?_
    split at q1
    case h_2 => exact q1.elim
    rename_i xs ex1
    obtain ⟨r, er, q⟩ := lf_ok q1
    obtain ⟨F, ad, s1⟩ := s1
    obtain ⟨l, vs, hσ, g1, g2⟩ := own_at s1 ex1
    refine ⟨.ref l, hσ, ?_⟩
    obtain ⟨b, rfl⟩ : ∃ b, r = .bl b := by
      unfold dNin at er
      dsimp only at er
      cases hz : isIn d (.lst xs) with
      | none => rw [hz] at er; cases er
      | some b => rw [hz] at er; cases er; exact ⟨_, rfl⟩
    have qq : Q (.bl b) H1 := q _ H1 ⟨F, ad, s1.pop.push rfl⟩
    obtain ⟨F1, ad1, b1, q1', c⟩ := in_pre false (g := fun b => D.bl (!b)) (nin_own s1 ex1 hσ er)
    have eb : b = !b1 := by have := q1' (.bl (!b1)) rfl; cases this; rfl
    subst eb
    rcases c with ⟨c, z, c1, c2, c3⟩ | ⟨p, xs, c1, c2, c3, c4, c5⟩ | ⟨d, ds, c1, c2, c3, c4, c5⟩
    · exact .inl ⟨c, z, c1, c2, by rw [c3]; exact qq⟩
    · exact .inr (.inl ⟨p, xs, c1, c2, c3, c4, by rw [if_pos rfl, c5]; exact qq⟩)
    · exact .inr (.inr ⟨d, ds, c1, c2, c3, c4, by rw [c5]; exact qq⟩)) (tb_imp h)
end
/-! ### xs[::-1] of a list -/
def dRev : D → Option D
  | .lst xs => some (.lst xs.reverse)
  | _ => none
def mRev (f : ME) : ME := fun env mem => (f env mem).bind fun d m => match dRev d with
  | some r => .ok r m
  | none => .bad
section
variable {nm : String → List Str} {B : Bs} {W : WX} {X : Cx} {a : Expr} {f : ME} {pos p1 p2 p3 : Pos} {k : Nat}
theorem se_rev (ha : SE nm B W X a f) : SE nm B W X (.Subscript a (.Slice none none (some (.UnaryOp .USub (.Constant (.int 1) k p1) p2)) p3) pos) (mRev f) :=
  PE.imp (pe_revL ha) fun σ H Q ⟨env, mem, ex, s, h⟩ => tE_step s h fun v H1 d m s1 q => by
    obtain ⟨F, ad, s4⟩ := s1
    cases d with
    | lst xs =>
      obtain ⟨p, vs, rfl, h1, h2⟩ := s4.top
      refine ⟨p, vs, rfl, .inl (.inl (s4.sat.sub _ _ h1)), fun q' hq => ?_⟩
      exact q _ _ ⟨_, ad, (s4.ext (s4.sat.new hq)).pop.push ⟨q', _, rfl, upd_same, (IsL.rev h2).mono (same_new (s4.sat.free hq)) (List.prefix_refl _)⟩⟩
    | _ => exact q.elim
end
/-! ### the ints of a tuple, sorted -/
section
variable {prog : Program} {w : World} {A : Around} {E : Value → Shared → Prop} {s : Shared}
/-- a tuple's items, collected -/
theorem gather_tup {t : Addr} {vs : List Value} {Q : List Value → Shared → Prop} (ht : IsTup s.heap t vs.toArray) (hz : vs.length ≤ sizeLine)
    (h : Q vs { s with heap := (s.heap.push (seqObj "list" #[] 0)).update s.heap.objs.size (Obj.mapSeq (· ++ vs.toArray)) }) : wpAny (model prog w) A (collect (.ref t)) Q E s := by
  obtain ⟨o, e, hc, n, hd⟩ := id ht
  have e2 : (s.heap.push (seqObj "list" #[] 0)).get? t = some o := Heap.get?_push_of_some _ e
  have eL : (s.heap.push (seqObj "list" #[] 0)).get? s.heap.objs.size = some (seqObj "list" #[] 0) := Heap.get?_push_size _ rfl
  unfold collect
  refine wpAny_bind (wpAny_runValue (codeAny_builtin entry_proto_collect' ?_))
  refine wpAny_bind (wpAny_newList (wpAny_pure ⟨Code.quiet_builtin _ (by decide +kernel), codeAny_builtin entry_list_iadd' ?_⟩))
  change wpAny _ _ (Builtin.List.listExtendWith (.ref s.heap.objs.size) (.ref t) (.ref s.heap.objs.size)) _ _ { s with heap := s.heap.push (seqObj "list" #[] 0) }
  unfold Builtin.List.listExtendWith
  refine wpAny_bind (wpAny_typeOf (T := "tuple") ⟨o, e2, hc⟩ ?_)
  have q : (Value.type "tuple" == Value.type "tuple") = true := by rfl
  rw [if_pos (by rw [q]; simp)]
  refine wpAny_bind (listItems_at e2 hd (wpAny_bind (listItems_at (xs := #[]) (n := 0) eL rfl ?_)))
  rw [if_neg (by simp)]
  refine wpAny_bind (listUpdate_at (xs := #[]) (n := 0) eL rfl ?_ (Nat.zero_le _) (by rw [Array.size_append, List.size_toArray]; simp; omega))
  refine wpAny_pure ?_
  refine wpAny_bind (wpAny_load (get?_update_seq eL _) ?_)
  change wpAny _ _ (pure ((#[] : Array Value) ++ vs.toArray).toList) Q E _
  have z : ((#[] : Array Value) ++ vs.toArray).toList = vs := by simp
  rw [z]
  exact wpAny_pure h
theorem sorted_tupO {t : Addr} {vs : List Value} {ltv : Value → Value → Bool} {Q : Value → Shared → Prop} (O : SrtO.Swo ltv) (ht : IsTup s.heap t vs.toArray) (hz : vs.length ≤ sizeLine)
    (hS : 2 ≤ vs.length → ∀ (h₁ : Heap) (a : Addr), SrtO.SortableO prog w A.in1.in1 { s with heap := h₁ } a vs ltv)
    (h : ∀ out : List Value, SrtO.Srtd ltv out → SrtO.Stb ltv out vs → Q (.ref (s.heap.objs.size + 1)) { s with heap := sortedAll s.heap vs out.toArray }) :
    wpAny (model prog w) A (call (.builtin "sorted") [.ref t]) Q E s := by
  refine Calls.call_function_entry kind_sorted plain_sorted entry_sorted (args_sorted1 _) ?_
  unfold Builtin.«sorted»
  refine wpAny_bind (m := checkCount "sorted" 1 1 _) (wpAny_pure (wpAny_bind (gather_tup ht hz (wpAny_bind (wpAny_newList ?_ hz)))))
  have hn : ((s.heap.push (seqObj "list" #[] 0)).update s.heap.objs.size (Obj.mapSeq (· ++ vs.toArray))).objs.size = s.heap.objs.size + 1 := by rw [Heap.size_update, size_push']
  have e1 : (((s.heap.push (seqObj "list" #[] 0)).update s.heap.objs.size (Obj.mapSeq (· ++ vs.toArray))).push (seqObj "list" vs.toArray 0)).get? (s.heap.objs.size + 1) = some (seqObj "list" vs.toArray 0) := by
    rw [← hn]; exact Heap.get?_push_size _ rfl
  change wpAny _ _ _ _ _ { s with heap := ((s.heap.push (seqObj "list" #[] 0)).update s.heap.objs.size (Obj.mapSeq (· ++ vs.toArray))).push (seqObj "list" vs.toArray 0) }
  rw [hn]
  exact wpAny_bind (wpAny_holding (wpAny_call_entry slot_list_sort ⟨_, e1, rfl⟩ entry_list_sort (SrtO.list_sort_ord O e1 hz (fun h2 => hS h2 _ _) fun out hs hb => ⟨_, rfl, wpAny_pure ⟨_, rfl, h out hs hb⟩⟩) (args_list_sort _)))
end
def dSortedT : Pur
  | [.tup xs] => (intsOf xs).map fun ns => .lst ((sortI ns).map .int)
  | _ => none
section
variable {X : Cx} {nm : String → List Str}
def rSortedT (K : PySem.W.Frag) : List V → Hp → VK → Prop := fun vs H Q => ∃ (a : Addr) (ns : List Int), vs = [V.ref a] ∧ SqT K H a (ns.map V.int) ∧ ∀ (ns' : List Int) (p : Addr), ns'.Perm ns → ns'.Pairwise (· ≤ ·) → H p = none → Q (.ref p) (upd H p (.lst (ns'.map V.int)))
theorem cr_sortedT : CallR X (.builtin "sorted") (rSortedT X.K) := fun pins s σ H vs us Q I r ⟨a, ns, ev, hs, q⟩ => by
  subst ev
  obtain ⟨its, rv, ht, hz⟩ := I.tuple hs
  rw [Vals.ref1 r]
  have hi := rv.ints
  have hl := rv.length
  refine sorted_tupO SrtO.swo_int ht (by rw [← hl]; exact hz) (fun h2 h₁ a' => SrtO.ints_sortable hi h2) fun out h1 h2 => ?_
  obtain ⟨k1, k2, k3⟩ := SrtO.ints_out hi h1 h2
  obtain ⟨ep, he⟩ := PyProof.Rows.sortedAll_at s.heap its out.toArray
  have z : ((out.map SrtO.iv).map V.int).length ≤ sizeLine := by
    rw [List.length_map] at hz ⊢
    rw [k2.length_eq]; exact hz
  exact ⟨.ref _, _, I.laid (t' := s.toks) (o := .lst ((out.map SrtO.iv).map V.int)) (fun _ _ => PyProof.Rows.sortedAll_old) (Nat.le_succ _) ⟨z, out, ep, vals_of_ints k1, he⟩, rfl, q _ _ k2 k3 (I.hok.fresh (Nat.le_succ _))⟩
theorem c_sortedT : CallR X (.builtin "sorted") (RP (tx X nm) dSortedT) := cr_imp cr_sortedT fun vs H Q h => by
  obtain ⟨F, ad, mem, ds, d, s, i, e, q⟩ := h
  unfold dSortedT at e
  split at e
  · rename_i xs
    obtain ⟨v, rfl, p, us, rfl, h1, h2⟩ := i.one
    cases hn : intsOf xs with
    | none => rw [hn] at e; cases e
    | some ns =>
      rw [hn] at e; cases e
      refine ⟨p, ns, rfl, by rw [← ints_of hn h2]; exact sqT_mono s.sub h1, fun ns' l hp hs hl => ?_⟩
      have e : ns' = sortI ns := sorted_one (hp.trans (sortI_perm ns).symm) hs (sortI_sorted ns)
      subst e
      exact q _ _ ad _ (s.new (o := .lst ((sortI ns).map V.int)) hl) ⟨l, _, rfl, upd_same, isl_ints⟩
  · cases e
end
/-! ### pairs of ints, sorted -/
def insP (p : Int × Int) : List (Int × Int) → List (Int × Int)
  | [] => [p]
  | q :: r => if SrtO.lexB q p then q :: insP p r else p :: q :: r
def sortP : List (Int × Int) → List (Int × Int)
  | [] => []
  | p :: r => insP p (sortP r)
theorem insP_perm (p : Int × Int) : ∀ l, (insP p l).Perm (p :: l)
  | [] => List.Perm.refl _
  | q :: r => by
    unfold insP
    split
    · exact ((insP_perm p r).cons q).trans (List.Perm.swap p q r)
    · exact List.Perm.refl _
theorem sortP_perm : ∀ l, (sortP l).Perm l
  | [] => List.Perm.refl _
  | p :: r => (insP_perm p _).trans ((sortP_perm r).cons p)
abbrev UpP (l : List (Int × Int)) : Prop := l.Pairwise fun p q => SrtO.lexB q p = false
theorem lex_tr {p q r : Int × Int} (h1 : SrtO.lexB q p = false) (h2 : SrtO.lexB r q = false) : SrtO.lexB r p = false := by
  have a := SrtO.lexB_no.mp h1
  have b := SrtO.lexB_no.mp h2
  exact SrtO.lexB_no.mpr (by omega)
theorem lex_as {p q : Int × Int} (h : SrtO.lexB q p = true) : SrtO.lexB p q = false := by
  have a := SrtO.lexB_iff.mp h
  exact SrtO.lexB_no.mpr (by omega)
theorem lex_eq {p q : Int × Int} (h1 : SrtO.lexB q p = false) (h2 : SrtO.lexB p q = false) : p = q := by
  have a := SrtO.lexB_no.mp h1
  have b := SrtO.lexB_no.mp h2
  exact Prod.ext (by omega) (by omega)
theorem insP_up (p : Int × Int) : ∀ l, UpP l → UpP (insP p l)
  | [], _ => List.pairwise_singleton _ _
  | q :: r, h => by
    obtain ⟨h1, h2⟩ := List.pairwise_cons.mp h
    unfold insP
    split
    · rename_i c
      refine List.pairwise_cons.mpr ⟨fun z hz => ?_, insP_up p r h2⟩
      rcases List.mem_cons.mp ((insP_perm p r).mem_iff.mp hz) with e | hz
      · rw [e]; exact lex_as c
      · exact h1 z hz
    · rename_i c
      have c' : SrtO.lexB q p = false := by simpa using c
      refine List.pairwise_cons.mpr ⟨fun z hz => ?_, h⟩
      rcases List.mem_cons.mp hz with e | hz
      · rw [e]; exact c'
      · exact lex_tr c' (h1 z hz)
theorem sortP_up : ∀ l, UpP (sortP l)
  | [] => List.Pairwise.nil
  | p :: r => insP_up p _ (sortP_up r)
theorem up_one : ∀ {l m : List (Int × Int)}, UpP l → UpP m → l.Perm m → l = m
  | [], m, _, _, h => h.nil_eq
  | p :: l, [], _, _, h => absurd h.symm.nil_eq (by simp)
  | p :: l, q :: m, h1, h2, h => by
    obtain ⟨a1, a2⟩ := List.pairwise_cons.mp h1
    obtain ⟨b1, b2⟩ := List.pairwise_cons.mp h2
    have e : p = q := by
      rcases List.mem_cons.mp (h.mem_iff.mp (List.mem_cons_self (a := p) (l := l))) with e | hp
      · exact e
      · rcases List.mem_cons.mp (h.mem_iff.mpr (List.mem_cons_self (a := q) (l := m))) with e | hq
        · exact e.symm
        · exact lex_eq (a1 q hq) (b1 p hp)
    subst e
    rw [up_one a2 b2 h.cons_inv]
theorem sortP_of {l m : List (Int × Int)} (h : l.Perm m) : sortP l = sortP m := up_one (sortP_up l) (sortP_up m) ((sortP_perm l).trans (h.trans (sortP_perm m).symm))
def dP (p : Int × Int) : D := .tup [.int p.1, .int p.2]
def pairOf : D → Option (Int × Int)
  | .tup [.int i, .int j] => some (i, j)
  | _ => none
def pairsOfD : List D → Option (List (Int × Int))
  | [] => some []
  | d :: r => match pairOf d, pairsOfD r with
    | some p, some ps => some (p :: ps)
    | _, _ => none
theorem pairsOfD_map : ∀ ps : List (Int × Int), pairsOfD (ps.map dP) = some ps
  | [] => rfl
  | p :: r => by
    show (match some p, pairsOfD (r.map dP) with | some p, some ps => some (p :: ps) | _, _ => none) = _
    rw [pairsOfD_map r]
theorem pairsOfD_is : ∀ {ds : List D} {ps : List (Int × Int)}, pairsOfD ds = some ps → ds = ps.map dP
  | [], ps, h => by cases h; rfl
  | d :: r, ps, h => by
    unfold pairsOfD at h
    split at h
    · rename_i p qs e1 e2
      cases h
      rw [List.map_cons, ← pairsOfD_is e2]
      unfold pairOf at e1
      split at e1
      · cases e1; rfl
      · cases e1
    · cases h
def dSortedP : Pur
  | [.lst xs] => (pairsOfD xs).map fun ps => .lst ((sortP ps).map dP)
  | _ => none
section
variable {X : Cx} {nm : String → List Str}
theorem keys_are {K : PySem.W.Frag} {T : Tx} {F : Hp} {ad : List Addr} {k : Value → Int × Int} (hT : T.K = K) (inj : ∀ (t : Addr) (p p' : Int × Int), SqT K F t [.int p.1, .int p.2] → SqT K F t [.int p'.1, .int p'.2] → p = p') :
    ∀ (its : List Value) (ps : List (Int × Int)), (∀ v ∈ its, ∃ t, v = .ref t ∧ SqT K F t [.int (k v).1, .int (k v).2]) → IsL T F ad (ps.map dP) (its.map backV) → its.map k = ps
  | [], [], _, _ => rfl
  | [], p :: ps, _, h => by obtain ⟨v, vr, e, _⟩ := h; cases e
  | v :: its, [], _, h => by cases h
  | v :: its, p :: ps, hk, h => by
    obtain ⟨x, xr, e, h1, h2⟩ := h
    cases e
    obtain ⟨t, rfl, ht⟩ := hk v List.mem_cons_self
    obtain ⟨t', us, e', ht', hu⟩ := h1
    cases e'
    obtain ⟨a, ar, rfl, ha, b, br, rfl, hb, hc⟩ := hu
    cases hc
    cases ha
    cases hb
    rw [hT] at ht'
    rw [List.map_cons, keys_are hT inj its ps (fun v hv => hk v (List.mem_cons_of_mem _ hv)) h2, inj t _ _ ht ht']
theorem isl_keys {K : PySem.W.Frag} {T : Tx} {F : Hp} {ad : List Addr} {k : Value → Int × Int} (hT : T.K = K) : ∀ (out : List Value), (∀ v ∈ out, ∃ t, v = .ref t ∧ SqT K F t [.int (k v).1, .int (k v).2]) → IsL T F ad ((out.map k).map dP) (out.map backV)
  | [], _ => IsL.nil
  | v :: out, h => by
    obtain ⟨t, e, ht⟩ := h v List.mem_cons_self
    refine IsL.cons ?_ (isl_keys hT out fun v hv => h v (List.mem_cons_of_mem _ hv))
    rw [e] at ht ⊢
    exact ⟨t, _, rfl, by rw [hT]; exact ht, IsL.cons rfl (IsL.cons rfl IsL.nil)⟩
theorem pairs_in {T : Tx} {F : Hp} {ad : List Addr} : ∀ {ps : List (Int × Int)} {xs : List V}, IsL T F ad (ps.map dP) xs → ∀ x ∈ xs, ∃ (t : Addr) (p : Int × Int), x = V.ref t ∧ SqT T.K F t [.int p.1, .int p.2]
  | [], xs, h, x, hx => by cases h; cases hx
  | p :: ps, xs, h, x, hx => by
    obtain ⟨v, vr, rfl, h1, h2⟩ := h
    rcases List.mem_cons.mp hx with e | hx
    · subst e
      obtain ⟨t', us, e', ht', hu⟩ := h1
      obtain ⟨a, ar, rfl, ha, b, br, rfl, hb, hc⟩ := hu
      cases hc
      cases ha
      cases hb
      exact ⟨t', p, e', ht'⟩
    · exact pairs_in h2 x hx
theorem c_sortedP : CallR X (.builtin "sorted") (RP (tx X nm) dSortedP) := fun pins s σ H vs us Q I r ⟨F, ad, mem, ds, d, sat, il, e, q⟩ => by
  unfold dSortedP at e
  split at e
  case h_2 => cases e
  rename_i xs0
  obtain ⟨v, rfl, a, xs, rfl, g1, g2⟩ := il.one
  cases hn : pairsOfD xs0 with
  | none => rw [hn] at e; cases e
  | some ps =>
    rw [hn] at e; cases e
    have ex := pairsOfD_is hn
    subst ex
    have hs : SqL X.K H a xs := SqL.of (sat.sub _ _ g1)
    obtain ⟨its, rv, hl, hz⟩ := I.list hs
    rw [Vals.ref1 r]
    have hx := pairs_in g2
    obtain ⟨e1, e2⟩ := refs_back rv fun x m => by
      obtain ⟨t, p, e, _⟩ := hx x m
      exact ⟨t, e⟩
    have hex : ∀ v ∈ its, ∃ p : Int × Int, ∃ t, v = Value.ref t ∧ SqT X.K F t [.int p.1, .int p.2] := fun v hv => by
      obtain ⟨t, rfl⟩ := e2 v hv
      have hm : V.ref t ∈ xs := by rw [e1]; exact List.mem_map.mpr ⟨_, hv, rfl⟩
      obtain ⟨t', p, e, ht⟩ := hx _ hm
      cases e
      exact ⟨p, t, rfl, ht⟩
    classical
    obtain ⟨k, hk⟩ : ∃ k : Value → Int × Int, ∀ v ∈ its, ∃ t, v = Value.ref t ∧ SqT X.K F t [.int (k v).1, .int (k v).2] :=
      ⟨fun v => if c : ∃ p : Int × Int, ∃ t, v = Value.ref t ∧ SqT X.K F t [.int p.1, .int p.2] then c.choose else (0, 0), fun v hv => by
        have c := hex v hv
        dsimp only
        rw [dif_pos c]
        exact c.choose_spec⟩
    have inj : ∀ (t : Addr) (p p' : Int × Int), SqT X.K F t [.int p.1, .int p.2] → SqT X.K F t [.int p'.1, .int p'.2] → p = p' := fun t p p' h h' => by
      have := I.tuple_inj (sqT_mono sat.sub h) (sqT_mono sat.sub h')
      injection this with z1 z2
      injection z2 with z2 _
      exact Prod.ext (V.int.inj z1) (V.int.inj z2)
    refine SrtO.sorted_pairsO (k := k) hl.isList (by rw [← rv.length]; exact hz) (fun v hv => ?_) fun h' d out h1 h2 kp hd hn => ?_
    · obtain ⟨t, rfl, ht⟩ := hk v hv
      obtain ⟨its2, r2, ⟨o, ho, hc, n, hd⟩, _⟩ := I.tuple (sqT_mono sat.sub ht)
      obtain ⟨u1, u2, rfl, ri, rj⟩ := vals2 r2
      obtain ⟨t1, rfl⟩ := ri
      obtain ⟨t2, rfl⟩ := rj
      exact ⟨t, o, t1, t2, n, rfl, ho, hc, hd⟩
    · have hm : ∀ u ∈ out, u ∈ its := fun u hu => h2.perm.mem_iff.mp hu
      have h3 : ∀ u ∈ out, ∃ a, u = Value.ref a := fun u hu => e2 u (hm u hu)
      obtain ⟨n, hn⟩ := hn
      have hp : its.map k = ps := keys_are (T := tx X nm) rfl inj its ps hk (by rw [← e1]; exact g2)
      have ho : out.map k = sortP ps := by
        refine up_one ?_ (sortP_up ps) ?_
        · exact SrtO.srtd_map (lt := SrtO.lexB) (f := k) h1
        · rw [← hp]
          exact (h2.perm.map k).trans (sortP_perm _).symm
      have fresh : H d = none := I.hok.fresh hd
      have hlen : (out.map backV).length ≤ sizeLine := by
        rw [List.length_map, h2.len, ← rv.length]; exact hz
      refine ⟨.ref d, upd H d (.lst (out.map backV)), I.laid (t' := s.toks) kp hd ⟨hlen, out, n, vals_back h3, hn⟩, rfl, ?_⟩
      refine q _ _ ad _ (sat.new (o := .lst (out.map backV)) fresh) ⟨d, _, rfl, upd_same, ?_⟩
      have il2 : IsL (tx X nm) F ad ((out.map k).map dP) (out.map backV) := isl_keys rfl out fun v hv => hk v (hm v hv)
      rw [ho] at il2
      exact il2.mono (same_new (sat.free fresh)) (List.prefix_refl _)
end
/-! ### a tuple, many times -/
def dMulT : Pur
  | [.tup xs, .int k] => if xs ≠ [] ∧ 2 ≤ k ∧ k ≤ 1000 ∧ xs.length ≤ 1000 then some (.tup (List.replicate k.toNat xs).flatten) else none
  | _ => none
theorem isl_rep {T : Tx} {F : Hp} {ad : List Addr} {xs : List D} {vs : List V} (h : IsL T F ad xs vs) : ∀ n : Nat, IsL T F ad (List.replicate n xs).flatten (List.replicate n vs).flatten
  | 0 => IsL.nil
  | n + 1 => by
    rw [List.replicate_succ, List.replicate_succ, List.flatten_cons, List.flatten_cons]
    exact h.append (isl_rep h n)
theorem r_mulT {X : Cx} {nm : String → List Str} : OpR X (binaryOp .Mult) fun x y H Q => RP (tx X nm) dMulT [x, y] H Q := by
  refine opr_imp op_repT fun x y H Q h => ?_
  obtain ⟨F, ad, mem, ds, d, s, i, e, q⟩ := h
  unfold dMulT at e
  split at e
  · rename_i xs k
    split at e
    · rename_i c
      cases e
      obtain ⟨v, u, e1, h1, h2⟩ := i.two
      cases e1
      obtain ⟨p, vs, rfl, g1, g2⟩ := h1
      have hl := g2.length
      refine ⟨p, k, vs, rfl, h2, sqT_mono s.sub g1, fun z => c.1 ?_, c.2.1, c.2.2.1, by rw [hl]; exact c.2.2.2, fun l hl => ?_⟩
      · subst z
        exact List.length_eq_zero_iff.mp hl.symm
      · exact q _ _ ad _ (s.new (o := .tup (List.replicate k.toNat vs).flatten) hl) ⟨l, _, rfl, .inl (.inl upd_same), (isl_rep g2 _).mono (same_new (s.free hl)) (List.prefix_refl _)⟩
    · cases e
  · cases e
/-! ### an own __iter__ that returns iter(self.f), f a tuple -/
def itT (p : Addr) : Obj := { cls := .type "tuple_iterator", data := .fields #[.ref p, .int 0 0] }
def ItOT (p it : Addr) : HO := .ext fun h => h.get? it = some (itT p)
def rIterT (K : PySem.W.Frag) (n : Nat) : List V → Hp → VK → Prop := fun xs H Q => ∃ (p : Addr) (zs : List V), xs = [.ref p] ∧ SqT K H p zs ∧ ∀ it, H it = none → n ≤ it → Q (.ref it) (upd H it (ItOT p it))
section
variable {X : Cx}
theorem call_iterTu {prog : Program} {w : World} {A : Around} {E : Value → Shared → Prop} {s : Shared} {p : Addr} {its : Array Value} {Q : Value → Shared → Prop} (ht : s.heap.IsTuple p its)
    (q : Q (.ref s.heap.objs.size) { s with heap := s.heap.push (itT p) }) : wpAny (model prog w) A (call (.builtin "iter") [.ref p]) Q E s :=
  Calls.call_function_entry (by decide +kernel) (by decide +kernel) PySem.W.kdk_entry_iter (PySem.W.kdk_args_iter _) (by
    unfold Builtin.«iter»
    exact wpAny_bind (m := someArgs "iter" 1 2 _) (wpAny_of_eq (a := [Value.ref p]) (by first | rfl | kernel_rfl!) (wpAny_bind (wpAny_pyIter_tuple ht (wpAny_pure ⟨_, rfl, q⟩)))))
theorem call_iterT : CallR X (.builtin "iter") (rIterT X.K X.s_0.heap.objs.size) := by
  intro pins s σ H xs us Q I r h
  obtain ⟨p, zs, rfl, hq, q⟩ := h
  obtain ⟨u, rfl, ru⟩ := vals1 r
  cases ru
  obtain ⟨its, rv, pl, hz⟩ := I.tuple hq
  have e : (s.heap.push (itT p)).get? s.heap.objs.size = some (itT p) := Heap.get?_push_size _ rfl
  have ok : ObjOk X.prog X.w (upd H s.heap.objs.size (ItOT p s.heap.objs.size)) (s.heap.push (itT p)) s.heap.objs.size (ItOT p s.heap.objs.size) := ⟨e, ⟨_, e⟩, fun h1 h2 q k => k _ q⟩
  exact call_iterTu (show s.heap.IsTuple p its.toArray from pl) ⟨.ref s.heap.objs.size, _, I.laid (t' := s.toks) (fun b u e => Heap.get?_push_of_some _ e) (Nat.le_refl _) ok, rfl, q _ (I.hok.fresh (Nat.le_refl _)) I.sz⟩
/-- what such an __iter__ does -/
def spIt (K : PySem.W.Frag) (C : String) (fn : Str) : Sp := fun vs H Q _ => ∃ a dx fs p xs, vs = [.ref a] ∧ H a = some (.ins (He.ga K (Str.ofString C)) dx fs) ∧ fs.lookup fn = some (.ref p) ∧ SqT K H p xs ∧ ∀ it, H it = none → Q (.ref it) (upd H it (ItOT p it))
end
section
variable {P : Program} {w : World} {K : PySem.W.Frag} {mg : Str → Option Value} {base : Heap} {x qual : Str} {params : Arguments} {body : List Stmt} {scope : Scope} {f : Addr} {fd : FuncData} {N : List Str} {k : Nat} {C : String} {fn : Str} {sf : Str}
def t_iter (K : PySem.W.Frag) (n : Nat) (fn : Str) : TS := tRet (tCB (rIterT K n) (tCons (tFld K (tVar 0) fn) tNil))
theorem fn_it (F : FunD K x qual params body scope [] [] f fd) (S : FnScope [sf] [sf] scope) (cl : Cls K (He.ga K (Str.ofString C))) (na : NoAttr K (He.ga K (Str.ofString C)) fn)
    (hb : ∀ (cdv : Value) (A : Around) (outer : List Env) (s : Shared) (H : Hp) (E : XK), PSs (cxOf CX0 P w K mg base [sf] qual scope f cdv A outer s H E).nox body (t_iter K s.heap.objs.size fn)) :
    FnOk P w K mg base CX0 (k + 1) f fd [sf] (spIt K C fn) :=
  F.ok S (fun vs H Q E h => by obtain ⟨a, dx, fs, p, xs, rfl, _⟩ := h; rfl) fun cdv A outer s H vs Q E hr h => by
    obtain ⟨a, dx, fs, p, xs, rfl, h1, h2, h3, q⟩ := h
    exact ⟨_, (hb cdv A outer s H E).nox, .ref a, rfl, a, _, dx, fs, .ref p, rfl, h1, cl, na, h2, p, xs, rfl, h3, fun it hi _ => q it hi⟩
end
/-- the promise with the entry's heap in sight -/
def FnIt (P : Program) (w : World) (K : PySem.W.Frag) (mg : Str → Option Value) (base : Heap) (k : Nat) (f : Addr) (C : String) (fn : Str) : Prop :=
  ∀ (A : Around) (outer : List Env) (s : Shared) (H : Hp) (a dx p : Addr) (fs : List (Str × V)) (xs : List V) (Q : VK), Room k A → Env0 P w K mg base A outer s H → H a = some (.ins (He.ga K (Str.ofString C)) dx fs) → fs.lookup fn = some (.ref p) → SqT K H p xs →
    (∀ it, H it = none → s.heap.objs.size ≤ it → Q (.ref it) (upd H it (ItOT p it))) → codeAny (model P w) A (.call (.ref f) ⟨[.ref a], []⟩) (CR CX0 outer P w H s Q fun _ _ _ => False) s
section
variable {P : Program} {w : World} {K : PySem.W.Frag} {mg : Str → Option Value} {base : Heap} {x qual : Str} {params : Arguments} {body : List Stmt} {scope : Scope} {f : Addr} {fd : FuncData} {k : Nat} {C : String} {fn : Str} {sf : Str}
theorem fnIt_of (D : FunD K x qual params body scope [] [] f fd) (S : FnScope [sf] [sf] scope) (cl : Cls K (He.ga K (Str.ofString C))) (na : NoAttr K (He.ga K (Str.ofString C)) fn)
    (hb : ∀ (kV doc pm : Value) (an : Option Addr) (cdv ct : Value) (u : Value), bindArgs (PySem.W.fnOf x qual params body scope .none kV doc pm an cdv ct) ⟨[u], []⟩ = pure [(sf, u)])
    (ht : ∀ (cdv : Value) (A : Around) (outer : List Env) (s : Shared) (H : Hp) (E : XK), PSs (cxOf CX0 P w K mg base [sf] qual scope f cdv A outer s H E).nox body (t_iter K s.heap.objs.size fn)) : FnIt P w K mg base (k + 1) f C fn := by
  intro A outer s H a dx p fs xs Q hr e0 h1 h2 h3 q
  obtain ⟨oc, od, dV, kV, doc, pm, an, cdv, ct, osl, rfl, lk, hcd, hD, hK⟩ := D.ex
  rcases hD with ⟨_, rfl⟩ | ⟨e, _⟩
  case inr => exact absurd rfl e
  have inK : K.In s.heap := e0.mod.kin.keeps fun b o z => (e0.bs b o z).1
  have nl : s.heap.NoLimit := e0.mod.nolimit.keeps fun b o z => (e0.bs b o z).1
  have kd : ∀ y ∈ [sf].zip [Value.ref a], scope.names.lookup y.1 = some .local ∨ (scope.names.lookup y.1 = some .cell ∧ ((cellsFrom (s.heap.objs.size + 1) scope.names []).lookup y.1).isSome = true) := fun y hy => (S.par y.1 (List.of_mem_zip hy).1).imp id fun z => ⟨z, PySem.W.cellsFrom_some _ _ _ (.inl z)⟩
  have bt : BindsTo s (PySem.W.fnOf x qual params body scope .none kV doc pm an cdv ct) ⟨[.ref a], []⟩ ([sf].zip [Value.ref a]) := .of_eq (hb kV doc pm an cdv ct (.ref a))
  refine codeAny_call_function hr.depth (inK _ _ lk) rfl S.co S.gen rfl (PySem.W.codeRec_of inK hcd) (bt _ _ _ _ (wpAny_newFunctionEnv_cells S.kind kd fun env he s1 x1 => ?_))
  subst he
  refine ⟨nl.keeps x1.toInCall.keep, codeAny_func ?_⟩
  have I : Inv (cxOf CX0 P w K mg base [sf] qual scope f cdv A outer s H fun _ _ _ => False) [] (start [sf] [.ref a]) H s1 := inv_start S hr.hd e0 rfl (.cons rfl .nil) x1
  refine wpAny_mono ((PSs.nox (ht cdv A outer s H fun _ _ _ => False)).run [] s1 _ H { nx := fun _ H' => Q .non H', rt := Q } I ⟨.ref a, rfl, a, _, dx, fs, .ref p, rfl, h1, cl, na, h2, p, xs, rfl, h3, q⟩) (fun fl s' hs => ?_) fun e s' hs => hs
  cases fl with
  | ret u =>
    obtain ⟨v, σ', H', J, rv, qq⟩ := hs
    exact ⟨v, H', J.os, J.bare, J.base, J.hok, rv, qq⟩
  | next =>
    obtain ⟨σ', H', J, qq⟩ := hs
    exact ⟨V.non, H', J.os, J.bare, J.base, J.hok, rfl, qq⟩
  | _ => obtain ⟨_, _, _, z⟩ := hs; exact z.elim
end
/-- an own __iter__ over the field fn -/
structure Dt (P : Program) (w : World) (K : PySem.W.Frag) (mg : Str → Option Value) (base : Heap) (k : Nat) (C : String) (fn : Str) : Prop where
  at_ : PySem.W.findIn K (.ref (He.ga K (Str.ofString C))) "__iter__" = some (some (.ref (He.ma K (He.ga K (Str.ofString C)) "__iter__")))
  isF : PySem.W.isFn K (.ref (He.ma K (He.ga K (Str.ofString C)) "__iter__")) = true
  fn : FnIt P w K mg base k (He.ma K (He.ga K (Str.ofString C)) "__iter__") C fn
def iOwnIt (X : Cx) (C : String) (fn : Str) (te : TE) : TI := fun σ H R => te σ H fun x H1 => ∃ a dx fs p xs, x = .ref a ∧ H1 a = some (.ins (He.ga X.K (Str.ofString C)) dx fs) ∧ fs.lookup fn = some (.ref p) ∧ SqT X.K H1 p xs ∧ R (Itt X.K p) H1
section
variable {X : Cx} {k : Nat} {C : String} {fn : Str} {tg e : Expr} {te : TE}
theorem pi_ownIt (M : Dt X.prog X.w X.K X.mg X.base k C fn) (hr : Room k X.A) (he : PE X e te) : PI X tg e (iOwnIt X C fn te) := by
  refine ⟨fun pins s σ H R I h => thn (he.run pins s σ H _ I h) fun u s1 ⟨x, H1, I1, rx, a, dx, fs, p, xs, ex, ha, hl, hq, q⟩ => ?_⟩
  subst ex
  obtain rfl : u = Value.ref a := rx
  obtain ⟨ox, od, J, _⟩ := StX.insC_at I1 (.inr ⟨dx, fs, ha⟩)
  obtain ⟨m, hF⟩ := I1.fr
  refine PySem.W.owit_iter hF I1.ok.mod.kin J M.at_ M.isF (wpAny_call (codeAny_mono (M.fn X.A X.stack s1 H1 a dx p fs xs (fun v H' => ∃ it, v = .ref it ∧ H1 it = none ∧ s1.heap.objs.size ≤ it ∧ H' = upd H1 it (ItOT p it)) hr I1.env0 ha hl hq fun it hi hs => ⟨it, rfl, hi, hs, rfl⟩) fun r s' hq' => ?_))
  cases r with
  | error e => exact hq'.elim
  | ok fl =>
    cases fl with
    | ret u' =>
      obtain ⟨v, H', I2, rv, it, ev, hi, hs, eH⟩ := I1.after hq'
      subst ev eH
      obtain rfl : u' = Value.ref it := rv
      have hx : s'.heap.get? it = some (itT p) := (I2.hok it _ upd_same).1
      have hT : s'.TypeIs (.ref it) "tuple_iterator" := ⟨_, hx, rfl⟩
      have I3 := ItX.inv_drop I2 (φ := fun h => h.get? it = some (itT p)) upd_same
      have e2 : ItX.dropH (upd H1 it (ItOT p it)) it = H1 := ItX.dropH_upd hi
      unfold PySem.W.OwitIt
      refine wpAny_specialOf hT F.slot_tuple_iterator_next.lookup ?_
      rw [e2] at I3
      refine ⟨it, [it], _, Itt X.K p, H1, rfl, I3, turn_tuple p it, ⟨_, hx, rfl, rfl⟩, fun b hb => ?_, q⟩
      have eb : b = it := by simpa using hb
      subst eb
      exact I1.fpOk hs hi
    | _ => exact hq'.elim
end
section
variable {nm : String → List Str} {B : Bs} {W : WX} {X : Cx} {k j : Nat} {C : String} {fn : Str} {tg e : Expr} {f : ME}
def mItOwn (C : String) (j : Nat) (f : ME) : MI := fun env mem => (f env mem).bind fun d m => match d with
  | .ins C' xs => if C' = C then (match xs[j]? with
    | some (.tup ys) => .ok ys m
    | _ => .bad) else .bad
  | _ => .bad
theorem si_ownIt (M : Dt X.prog X.w X.K X.mg X.base k C fn) (hr : Room k X.A) (he : SE nm B W X e f) (nd : (nm C).Nodup) (hj : (nm C)[j]? = some fn) : SI nm B W X tg e (mItOwn C j f) :=
  PI.imp (pi_ownIt M hr he) fun σ H R ⟨env, mem, ex, s, h⟩ => by
    refine tE_step s h fun v H1 d m ⟨F, ad, s1⟩ q => ?_
    cases d with
    | ins C' xs =>
      dsimp only at q
      split at q
      case isFalse => exact q.elim
      rename_i hC
      subst hC
      cases ej : xs[j]? with
      | none => rw [ej] at q; exact q.elim
      | some z =>
        rw [ej] at q
        cases z with
        | tup ys =>
          obtain ⟨a, dx, fs, ev, h1, h2, h3⟩ := s1.top
          obtain ⟨u, g1, g2⟩ := h3.get ej
          obtain ⟨p, vs, eu, h4, h5⟩ := g2
          subst eu
          obtain ⟨u2, k1, k2⟩ := lookup_at h2 nd hj (List.getElem?_eq_some_iff.mp ej).1
          rw [g1] at k1
          cases k1
          have s2 : SatF (tx X nm) B F ad env m ((V.ref p, D.tup ys) :: ex) σ H1 := s1.pop.push ⟨p, vs, rfl, h4, h5⟩
          exact ⟨a, dx, fs, p, vs, ev, s1.sat.sub _ _ h1, k2, sqT_mono s1.sat.sub h4, q _ [(V.ref p, .tup ys)] H1 ⟨F, ad, s2⟩ (wlk_tup rfl)⟩
        | _ => exact q.elim
    | _ => exact q.elim
end
end Vt
set_option Elab.async false
set_option linter.all false
set_option maxRecDepth 100000
set_option maxHeartbeats 4000000
set_option autoImplicit false
namespace W77
open PySem PySem.Spec PyProof.Rows L2 Vt
def frees : List Str := ["abs", "all", "any", "bool", "dict", "enumerate", "int", "isinstance", "iter", "len", "list", "max", "min", "range", "sorted", "str", "sum", "tuple", "zip"]
def kt : Kt := [((.bt "int", .bt "int"), true), ((.bt "int", .bt "bool"), false), ((.bt "str", .bt "str"), true), ((.bt "list", .bt "list"), true), ((.bt "list", .bt "tuple"), false), ((.bt "tuple", .bt "list"), false), ((.bt "tuple", .bt "tuple"), true), ((.ow "Lengths", .ow "Lengths"), true), ((.ow "Book", .ow "Book"), true), ((.ow "Chain", .ow "Chain"), true)]
def nm : String → List Str
  | "Lengths" => ["own_lengths", "least", "greatest", "firsts"]
  | "Book" => ["room", "lengths", "low", "bound", "looks", "cut", "side", "own_sums"]
  | "Chain" => ["pages", "rows", "size"]
  | _ => []
noncomputable section
def m_is_integer : MS := (mRet (mAndV (mFun (lf (dIs1 kt)) (mCons (mVar 0) (mCons (mC (.ty "int")) mNil))) (mNotV (mFun (lf (dIs1 kt)) (mCons (mVar 0) (mCons (mC (.ty "bool")) mNil))))))
def S_is_integer : Fun := nx (phi 1 1 m_is_integer)
def m_is_within : MS := (mRet (mAndV (mFun S_is_integer (mCons (mVar 0) mNil)) (mChn dLe dLe (mVar 1) (mVar 0) (mVar 2))))
def S_is_within : Fun := nx (phi 3 3 m_is_within)
def m_need_count : MS := (mIf (mNot (mTru (mFun S_is_within (mCons (mVar 0) (mCons (mC (.int 0)) (mCons (mVar 1) mNil)))))) mNev mPass)
def S_need_count : Fun := nx (phi 2 2 m_need_count)
def m_first_totals : MS := (mSeq (mSet 1 (mBin dIx (mVar 0) (mC (.int 0)))) (mSeq (mOwn 2 (mCons (mC (.int 0)) (mStar (mLc (.nm 3) (mRng2 (mCons (mC (.int 1)) (mCons (mVar 1) mNil))) mYes (mC .non) [3]) mNil))) (mSeq (mSet 4 (mC (.bl true))) (mSeq (mWhile (mTru (mVar 4)) (mSeq (mSet 4 (mC (.bl false))) (mFor (.nm 5) (mIt (mLc (.nm 6) (mItO 2) (mTB (mBin dNotN (mVar 6) (mC .non))) (mVar 6) [6])) (mFor (.nm 7) (mItT (mVar 0)) (mSeq (mSet 8 (mBin dAdd (mVar 5) (mVar 7))) (mSeq (mSet 3 (mBin dMod (mFun (lf dInt) (mCons (mVar 8) mNil)) (mVar 1))) (mIf (mOr (mTB (mBin dIsN (mIxO 2 (mVar 3)) (mC .non))) (mTB (mBin dLt (mVar 8) (mIxO 2 (mVar 3))))) (mSeq (mPutL 2 (mVar 8) (mVar 3)) (mSet 4 (mC (.bl true)))) mPass))))))) (mFrz 2 (mRet (mVar 2)))))))
def S_first_totals : Fun := nx (phi 1 9 m_first_totals)
def m_total_of : MS := (mRet (mFun (lf dSum) (mCons (mLc (.nm 1) (mItT (mVar 0)) mYes (mFun (lf dInt) (mCons (mVar 1) mNil)) [1]) mNil)))
def S_total_of : Fun := nx (phi 1 2 m_total_of)
def m_rows_of : MS := (mSeq (mOwn 1 mNil) (mSeq (mFor (.nm 2) (mItT (mVar 0)) (mExt 1 (mVar 2))) (mFrz 1 (mRet (mFun (lf dTuple) (mCons (mVar 1) mNil))))))
def S_rows_of : Fun := nx (phi 1 3 m_rows_of)
def m_upcoming : MS := (mRet (mIfE (mTB (mBin dLt (mVar 1) (mFun (lf dLen) (mCons (mVar 0) mNil)))) (mBin dIx (mVar 0) (mVar 1)) (mC (.str ""))))
def S_upcoming : Fun := nx (phi 2 2 m_upcoming)
def m_need_head : MS := (mIf (mTB (mBin dNe (mFun S_upcoming (mCons (mVar 0) (mCons (mVar 1) mNil))) (mVar 2))) mNev mPass)
def S_need_head : Fun := nx (phi 3 3 m_need_head)
def m_number_at : MS := (mSeq (mSet 4 (mFun S_upcoming (mCons (mVar 0) (mCons (mVar 1) mNil)))) (mSeq (mIf (mTB (mBin dNin (mVar 4) (mLc (.nm 5) (mRng2 (mCons (mVar 2) (mCons (mBin dAdd (mVar 3) (mC (.int 1))) mNil))) mYes (mFun (lf dStr) (mCons (mVar 5) mNil)) [5]))) mNev mPass) (mRet (mFun (lf dInt) (mCons (mVar 4) mNil)))))
def S_number_at : Fun := nx (phi 4 6 m_number_at)
def m_lengths_at : MS := (mSeq (mOwn 3 mNil) (mSeq (mWhile (mOr (mTB (mBin dEq (mLenO 3) (mC (.int 0)))) (mAnd (mTB (mBin dLt (mLenO 3) (mC (.int 6)))) (mTB (mBin dNe (mFun S_upcoming (mCons (mVar 0) (mCons (mVar 1) mNil))) (mC (.str "low")))))) (mSeq (mSet 4 (mIfE (mTB (mBin dGt (mLenO 3) (mC (.int 0)))) (mBin dAdd (mIxO 3 (mUn dNeg (mC (.int 1)))) (mC (.int 1))) (mC (.int 1)))) (mSeq (mSet 5 (mFun S_number_at (mCons (mVar 0) (mCons (mVar 1) (mCons (mVar 4) (mCons (mC (.int 60)) mNil)))))) (mSeq (mIf (mTB (mBin dGt (mBin dAdd (mVar 5) (mIfE (mTB (mBin dGt (mLenO 3) (mC (.int 0)))) (mIxO 3 (mC (.int 0))) (mVar 5))) (mVar 2))) mNev mPass) (mSeq (mApp 3 (mVar 5)) (mAug 1 dAddI (mC (.int 1)))))))) (mFrz 3 (mRet (mTup (mCons (mVar 1) (mCons (mVar 3) mNil)))))))
def S_lengths_at : Fun := nx (phi 3 6 m_lengths_at)
def m_length_in : MS := (mSeq (mIf (mOr (mNot (mTB (mChn dLe dLe (mC (.int 1)) (mFun (lf dLen) (mCons (mVar 0) mNil)) (mC (.int 2))))) (mOr (mTB (mBin dEq (mBin dIx (mVar 0) (mC (.int 0))) (mC (.str "0")))) (mNot (mTru (mFun (lf dAll) (mCons (mLc (.nm 1) (mChr (mVar 0)) mYes (mBin dIn (mVar 1) (mC (.str "0123456789"))) [1]) mNil)))))) (mRet (mC .non)) mPass) (mRet (mIfE (mTB (mBin dLe (mFun (lf dInt) (mCons (mVar 0) mNil)) (mC (.int 60)))) (mFun (lf dInt) (mCons (mVar 0) mNil)) (mC .non))))
def S_length_in : Fun := nx (phi 1 2 m_length_in)
def m_pages_in : MS := (mSeq (mIf (mNot (mTru (mFun (lf (dIs1 kt)) (mCons (mVar 0) (mCons (mC (.ty "str")) mNil))))) mNev mPass) (mSeq (mSet 1 (mM1 dSplit (mVar 0) (mC (.str " ")))) (mSeq (mIf (mTB (mBin dEq (mBin dIx (mVar 1) (mC (.int 0))) (mC (.str "-")))) (mSeq (mIf (mTB (mBin dGt (mFun (lf dLen) (mCons (mVar 1) mNil)) (mC (.int 1)))) mNev mPass) (mRet (mLst (mCons (mTup mNil) mNil)))) mPass) (mSeq (mOwn2 2 3) (mSeq (mFor (.tp [4, 5]) (mEnum (mVar 1)) (mSeq (mSet 6 (mFun S_length_in (mCons (mVar 5) mNil))) (mIf (mAnd (mTB (mBin dNotN (mVar 6) (mC .non))) (mTB (mBin dLt (mLenO 3) (mC (.int 60))))) (mApp 3 (mVar 6)) (mIf (mAnd (mTB (mBin dEq (mVar 5) (mC (.str "/")))) (mAnd (mTB (mBin dGt (mLenO 3) (mC (.int 0)))) (mTB (mBin dLt (mLenO 2) (mBin dSub (mC (.int 400)) (mC (.int 1))))))) (mSeq (mFrz 3 (mApp 2 (mVar 3))) (mOwn 3 mNil)) mNev)))) (mSeq (mIf (mTB (mBin dEq (mLenO 3) (mC (.int 0)))) mNev mPass) (mFrz 3 (mFrz 2 (mRet (mLst (mStar (mVar 2) (mCons (mVar 3) mNil))))))))))))
def S_pages_in : Fun := nx (phi 1 7 m_pages_in)
def m_are_rows : MS := (mSeq (mIf (mOr (mNot (mTru (mIsT kt (mVar 0) (mCons (mC (.ty "list")) (mCons (mC (.ty "tuple")) mNil))))) (mTB (mBin dGt (mFun (lf dLen) (mCons (mVar 0) mNil)) (mC (.int 60))))) (mRet (mC (.bl false))) mPass) (mRet (mFun (lf dAll) (mCons (mLc (.nm 1) (mItS (mVar 0)) mYes (mFun S_is_within (mCons (mVar 1) (mCons (mC (.int 1)) (mCons (mC (.int 60)) mNil)))) [1]) mNil))))
def S_are_rows : Fun := nx (phi 1 2 m_are_rows)
def m_need_word : MS := (mIf (mOr (mNot (mTru (mFun (lf (dIs1 kt)) (mCons (mVar 0) (mCons (mC (.ty "str")) mNil))))) (mTB (mBin dNin (mVar 0) (mVar 1)))) mNev mPass)
def S_need_word : Fun := nx (phi 3 3 m_need_word)
def m_ascending : MS := (mRet (mFun (lf dTuple) (mCons (mFun (lf dSorted) (mCons (mLc (.nm 1) (mItD (mDc (.nm 2) (mItT (mVar 0)) mYes (mVar 2) (mC (.bl true)) [2])) mYes (mFun (lf dInt) (mCons (mVar 1) mNil)) [1]) mNil)) mNil)))
def S_ascending : Fun := nx (phi 1 3 m_ascending)
def m_Lengths___init__ : MS := (mSeq (mFor (.tp [2, 3]) (mEnum (mVar 1)) (mIf (mNot (mTru (mFun S_is_within (mCons (mVar 3) (mCons (mC (.int 1)) (mCons (mC (.int 60)) mNil)))))) mNev mPass)) (mSeq (mIf (mTB (mBin dEq (mFun (lf dLen) (mCons (mVar 1) mNil)) (mC (.int 0)))) mNev mPass) (mSeq (mFldSetO "Lengths" 0 0 (mFun S_ascending (mCons (mVar 1) mNil))) (mSeq (mIf (mTB (mBin dGt (mFun (lf dLen) (mCons (mFldO "Lengths" 0 0) mNil)) (mC (.int 6)))) mNev mPass) (mSeq (mFldSetO "Lengths" 1 0 (mBin dIx (mFldO "Lengths" 0 0) (mC (.int 0)))) (mSeq (mFldSetO "Lengths" 2 0 (mBin dIx (mFldO "Lengths" 0 0) (mUn dNeg (mC (.int 1))))) (mFldSetO "Lengths" 3 0 (mFun S_first_totals (mCons (mFldO "Lengths" 0 0) mNil)))))))))
def I_Lengths : IFun := nxI (starI 0 (phiI 2 4 "Lengths" m_Lengths___init__))
def m_Lengths___contains__ : MS := (mRet (mAndV (mFun S_is_within (mCons (mVar 1) (mCons (mC (.int 1)) (mCons (mC (.int 60)) mNil)))) (mBin dIn (mVar 1) (mFld "Lengths" 0 (mVar 0)))))
def S_Lengths___contains__ : Fun := nx (phi 2 2 m_Lengths___contains__)
def m_Lengths_has_total : MS := (mSeq (mIf (mNot (mTru (mFun S_is_within (mCons (mVar 1) (mCons (mC (.int 1)) (mCons (mC (.int 1000000000000000000000000000000)) mNil)))))) (mRet (mC (.bl false))) mPass) (mSeq (mSet 2 (mBin dIx (mFld "Lengths" 3 (mVar 0)) (mBin dMod (mFun (lf dInt) (mCons (mVar 1) mNil)) (mFld "Lengths" 1 (mVar 0))))) (mRet (mAndV (mBin dNotN (mVar 2) (mC .non)) (mBin dLe (mVar 2) (mVar 1))))))
def S_Lengths_has_total : Fun := nx (phi 2 3 m_Lengths_has_total)
def m_Lengths_totals : MS := (mSeq (mDrop (mFun S_need_count (mCons (mVar 1) (mCons (mC (.int 60)) mNil)))) (mRet (mFun (lf dTuple) (mCons (mLc (.nm 2) (mRng2 (mCons (mC (.int 1)) (mCons (mBin dAdd (mVar 1) (mC (.int 1))) mNil))) (mTru (mMeth "Lengths" S_Lengths_has_total (mVar 0) (mCons (mVar 2) mNil))) (mVar 2) [2]) mNil))))
def S_Lengths_totals : Fun := nx (phi 2 3 m_Lengths_totals)
def m_Book___init__ : MS := (mSeq (mIf (mNot (mTru (mFun S_is_within (mCons (mVar 1) (mCons (mC (.int 2)) (mCons (mC (.int 60)) mNil)))))) mNev mPass) (mSeq (mIf (mOr (mNot (mTru (mFun (lf (dIs1 kt)) (mCons (mVar 2) (mCons (mC (.glo "Lengths")) mNil))))) (mTB (mBin dGt (mBin dAdd (mFld "Lengths" 1 (mVar 2)) (mFld "Lengths" 2 (mVar 2))) (mVar 1)))) mNev mPass) (mSeq (mIf (mNot (mTru (mFun S_is_within (mCons (mVar 3) (mCons (mC (.int 0)) (mCons (mBin dAdd (mVar 1) (mC (.int 1))) mNil)))))) mNev mPass) (mSeq (mIf (mNot (mTru (mFun S_is_within (mCons (mVar 4) (mCons (mC (.int 0)) (mCons (mVar 1) mNil)))))) mNev mPass) (mSeq (mDrop (mFun S_need_word (mCons (mVar 5) (mCons (mC (.tup [.str "own", .str "near"])) (mCons (mC (.str "looks")) mNil))))) (mSeq (mDrop (mFun S_need_word (mCons (mVar 6) (mCons (mC (.tup [.str "even", .str "ahead", .str "put"])) (mCons (mC (.str "cut")) mNil))))) (mSeq (mDrop (mFun S_need_word (mCons (mVar 7) (mCons (mC (.tup [.str "left", .str "right"])) (mCons (mC (.str "side")) mNil))))) (mSeq (mFldSetO "Book" 0 0 (mVar 1)) (mSeq (mFldSetO "Book" 1 0 (mVar 2)) (mSeq (mFldSetO "Book" 2 0 (mVar 3)) (mSeq (mFldSetO "Book" 3 0 (mVar 4)) (mSeq (mFldSetO "Book" 4 0 (mVar 5)) (mSeq (mFldSetO "Book" 5 0 (mVar 6)) (mSeq (mFldSetO "Book" 6 0 (mVar 7)) (mFldSetO "Book" 7 0 (mMeth "Lengths" S_Lengths_totals (mVar 2) (mCons (mVar 1) mNil)))))))))))))))))
def I_Book : IFun := nxI (phiI 8 8 "Book" m_Book___init__)
def m_Book_read : MS := (mSeq (mSet 2 (mIfE (mTru (mFun (lf (dIs1 kt)) (mCons (mVar 1) (mCons (mC (.ty "str")) mNil)))) (mM1 dSplit (mVar 1) (mC (.str " "))) (mLst (mCons (mC (.str "")) mNil)))) (mSeq (mDrop (mFun S_need_head (mCons (mVar 2) (mCons (mC (.int 0)) (mCons (mC (.str "room")) mNil))))) (mSeq (mSet 3 (mFun S_number_at (mCons (mVar 2) (mCons (mC (.int 1)) (mCons (mC (.int 2)) (mCons (mC (.int 60)) mNil)))))) (mSeq (mDrop (mFun S_need_head (mCons (mVar 2) (mCons (mC (.int 2)) (mCons (mC (.str "lengths")) mNil))))) (mSeq (mAsg (.tp [4, 5]) (mFun S_lengths_at (mCons (mVar 2) (mCons (mC (.int 3)) (mCons (mVar 3) mNil))))) (mSeq (mDrop (mFun S_need_head (mCons (mVar 2) (mCons (mVar 4) (mCons (mC (.str "low")) mNil))))) (mSeq (mSet 6 (mFun S_number_at (mCons (mVar 2) (mCons (mBin dAdd (mVar 4) (mC (.int 1))) (mCons (mC (.int 0)) (mCons (mBin dAdd (mVar 3) (mC (.int 1))) mNil)))))) (mSeq (mDrop (mFun S_need_head (mCons (mVar 2) (mCons (mBin dAdd (mVar 4) (mC (.int 2))) (mCons (mC (.str "bound")) mNil))))) (mSeq (mSet 7 (mFun S_number_at (mCons (mVar 2) (mCons (mBin dAdd (mVar 4) (mC (.int 3))) (mCons (mC (.int 0)) (mCons (mVar 3) mNil)))))) (mSeq (mFor (.tp [8, 9]) (mEnum (mTup (mCons (mC (.tup [.str "own", .str "near"])) (mCons (mC (.tup [.str "even", .str "ahead", .str "put"])) (mCons (mC (.tup [.str "left", .str "right"])) mNil))))) (mIf (mTB (mBin dNin (mFun S_upcoming (mCons (mVar 2) (mCons (mBin dAdd (mBin dAdd (mVar 4) (mC (.int 4))) (mVar 8)) mNil))) (mVar 9))) mNev mPass)) (mSeq (mIf (mTB (mBin dGt (mFun (lf dLen) (mCons (mVar 2) mNil)) (mBin dAdd (mVar 4) (mC (.int 7))))) mNev mPass) (mRet (mFun (fI I_Book (mkD "Book")) (mCons (mVar 3) (mCons (mStar1 (fI I_Lengths (mkD "Lengths")) (mVar 5)) (mCons (mVar 6) (mCons (mVar 7) (mCons (mBin dIx (mVar 2) (mBin dAdd (mVar 4) (mC (.int 4)))) (mCons (mBin dIx (mVar 2) (mBin dAdd (mVar 4) (mC (.int 5)))) (mCons (mBin dIx (mVar 2) (mBin dAdd (mVar 4) (mC (.int 6)))) mNil))))))))))))))))))))
def S_Book_read : Fun := nx (phi 2 10 m_Book_read)
def m_Book_sums : MS := (mRet (mFld "Book" 7 (mVar 0)))
def S_Book_sums : Fun := nx (phi 1 1 m_Book_sums)
def m_Book___call__ : MS := (mSeq (mIf (mOr (mNot (mTru (mFun S_is_integer (mCons (mVar 1) mNil)))) (mOr (mNot (mTru (mFun S_is_integer (mCons (mVar 2) mNil)))) (mOr (mTB (mBin dNin (mVar 1) (mFld "Book" 7 (mVar 0)))) (mTB (mBin dNin (mVar 2) (mFld "Book" 7 (mVar 0))))))) (mRet (mC (.bl false))) mPass) (mSeq (mIf (mTB (mBin dGt (mBin dAdd (mVar 1) (mVar 2)) (mFld "Book" 3 (mVar 0)))) (mRet (mC (.bl true))) mPass) (mSeq (mIf (mTB (mBin dEq (mFld "Book" 4 (mVar 0)) (mC (.str "own")))) (mRet (mBin dGe (mFun (lf dMax) (mCons (mVar 1) (mCons (mVar 2) mNil))) (mFld "Book" 2 (mVar 0)))) mPass) (mRet (mBin dGe (mFun (lf dMin) (mCons (mVar 1) (mCons (mVar 2) mNil))) (mFld "Book" 2 (mVar 0)))))))
def S_Book___call__ : Fun := nx (phi 3 3 m_Book___call__)
def m_Book_but : MS := (mSeq (mFor (.nm 2) (mItD (mVar 1)) (mIf (mTB (mBin dNin (mVar 2) (mC (.tup [.str "room", .str "lengths", .str "low", .str "bound", .str "looks", .str "cut", .str "side"])))) mNev mPass)) (mSeq (mSet 3 (mDictS [.inr "room", .inr "lengths", .inr "low", .inr "bound", .inr "looks", .inr "cut", .inr "side"] (mCons (mFld "Book" 0 (mVar 0)) (mCons (mFld "Book" 1 (mVar 0)) (mCons (mFld "Book" 2 (mVar 0)) (mCons (mFld "Book" 3 (mVar 0)) (mCons (mFld "Book" 4 (mVar 0)) (mCons (mFld "Book" 5 (mVar 0)) (mCons (mFld "Book" 6 (mVar 0)) mNil))))))) (mVar 1))) (mRet (mFun (fI I_Book (mkD "Book")) (mCons (mBin dIxD (mVar 3) (mC (.str "room"))) (mCons (mBin dIxD (mVar 3) (mC (.str "lengths"))) (mCons (mBin dIxD (mVar 3) (mC (.str "low"))) (mCons (mBin dIxD (mVar 3) (mC (.str "bound"))) (mCons (mBin dIxD (mVar 3) (mC (.str "looks"))) (mCons (mBin dIxD (mVar 3) (mC (.str "cut"))) (mCons (mBin dIxD (mVar 3) (mC (.str "side"))) mNil)))))))))))
def m_Chain___init__ : MS := (mSeq (mFor (.tp [2, 3]) (mEnum (mVar 1)) (mIf (mOr (mNot (mTru (mFun S_are_rows (mCons (mVar 3) mNil)))) (mAnd (mTB (mBin dEq (mFun (lf dLen) (mCons (mVar 3) mNil)) (mC (.int 0)))) (mTB (mBin dGt (mFun (lf dLen) (mCons (mVar 1) mNil)) (mC (.int 1)))))) mNev mPass)) (mSeq (mIf (mTB (mBin dEq (mFun (lf dLen) (mCons (mVar 1) mNil)) (mC (.int 0)))) mNev mPass) (mSeq (mIf (mTB (mBin dGt (mFun (lf dLen) (mCons (mVar 1) mNil)) (mC (.int 400)))) mNev mPass) (mSeq (mFldSetO "Chain" 0 0 (mFun (lf dTuple) (mCons (mLc (.nm 3) (mItT (mVar 1)) mYes (mFun (lf dTuple) (mCons (mVar 3) mNil)) [3]) mNil))) (mSeq (mFldSetO "Chain" 1 0 (mFun S_rows_of (mCons (mFldO "Chain" 0 0) mNil))) (mFldSetO "Chain" 2 0 (mFun S_total_of (mCons (mFldO "Chain" 1 0) mNil))))))))
def I_Chain : IFun := nxI (starI 0 (phiI 2 4 "Chain" m_Chain___init__))
def m_Chain_read : MS := (mSeq (mSet 2 (mFun S_pages_in (mCons (mVar 1) mNil))) (mRet (mClsS "Chain" (fI I_Chain (mkD "Chain")) 0 (mVar 2))))
def S_Chain_read : Fun := nx (phi 2 3 m_Chain_read)
def m_Chain_sums : MS := (mRet (mFun (lf dTuple) (mCons (mLc (.nm 1) (mItT (mFld "Chain" 0 (mVar 0))) mYes (mFun S_total_of (mCons (mVar 1) mNil)) [1]) mNil)))
def S_Chain_sums : Fun := nx (phi 1 2 m_Chain_sums)
def m_Chain_fits : MS := (mSeq (mIf (mNot (mTru (mFun (lf (dIs1 kt)) (mCons (mVar 1) (mCons (mC (.glo "Book")) mNil))))) mNev mPass) (mSeq (mIf (mNot (mTru (mFun (lf dAll) (mCons (mLc (.nm 2) (mItT (mFld "Chain" 1 (mVar 0))) mYes (mInO "Lengths" S_Lengths___contains__ (mVar 2) (mFld "Book" 1 (mVar 1))) [2]) mNil)))) (mRet (mC (.bl false))) mPass) (mRet (mFun (lf dAll) (mCons (mLc (.nm 3) (mItT (mProp "Chain" S_Chain_sums (mVar 0))) mYes (mBin dLe (mVar 3) (mFld "Book" 0 (mVar 1))) [3]) mNil)))))
def S_Chain_fits : Fun := nx (phi 2 4 m_Chain_fits)
def m_need_book : MS := (mIf (mNot (mTru (mFun (lf (dIs1 kt)) (mCons (mVar 0) (mCons (mC (.glo "Book")) mNil))))) mNev mPass)
def S_need_book : Fun := nx (phi 2 2 m_need_book)
def m_all_pairs : MS := (mRet (mLc2 (.nm 1) (mItT (mProp "Book" S_Book_sums (mVar 0))) mYes (mItT (mProp "Book" S_Book_sums (mVar 0))) (.nm 2) (mTB (mBin dLe (mVar 1) (mVar 2))) (mTup (mCons (mVar 1) (mCons (mVar 2) mNil))) [1, 2] [2]))
def S_all_pairs : Fun := nx (phi 1 3 m_all_pairs)
def m_barred_pairs : MS := (mRet (mLc (.nm 1) (mIt (mFun S_all_pairs (mCons (mVar 0) mNil))) (mNot (mTru (mMeth "Book" S_Book___call__ (mVar 0) (mCons (mBin dIx (mVar 1) (mC (.int 0))) (mCons (mBin dIx (mVar 1) (mC (.int 1))) mNil))))) (mVar 1) [1]))
def S_barred_pairs : Fun := nx (phi 1 2 m_barred_pairs)
def m_plain_of : MS := (mSeq (mIf (mTB (mBin dEq (mVar 1) (mLst mNil))) (mRet (mTup (mCons (mC (.int 0)) (mCons (mC (.int 0)) mNil)))) mPass) (mSeq (mSet 2 (mIfE (mTB (mBin dEq (mFld "Book" 4 (mVar 0)) (mC (.str "own")))) (mC (.int 1)) (mC (.int 0)))) (mRet (mTup (mCons (mBin dAdd (mFun (lf dMax) (mCons (mLc (.nm 3) (mIt (mVar 1)) mYes (mFun (lf dInt) (mCons (mBin dIx (mVar 3) (mVar 2)) mNil)) [3]) mNil)) (mC (.int 1))) (mCons (mFun (lf dMax) (mCons (mLc (.nm 3) (mIt (mVar 1)) mYes (mFun (lf dInt) (mCons (mBin dAdd (mBin dIx (mVar 3) (mC (.int 0))) (mBin dIx (mVar 3) (mC (.int 1)))) mNil)) [3]) mNil)) mNil))))))
def S_plain_of : Fun := nx (phi 2 4 m_plain_of)
def m_need_chains : MS := (mFor (.tp [2, 3]) (mEnum (mVar 1)) (mIf (mOr (mNot (mTru (mFun (lf (dIs1 kt)) (mCons (mVar 3) (mCons (mC (.glo "Chain")) mNil))))) (mNot (mTru (mMeth "Chain" S_Chain_fits (mVar 3) (mCons (mVar 0) mNil))))) mNev mPass))
def S_need_chains : Fun := nx (phi 2 4 m_need_chains)
def m_seen_pairs : MS := (mSeq (mSet 1 (mLst mNil)) (mSeq (mFor (.nm 2) (mItT (mVar 0)) (mSeq (mSet 3 (mProp "Chain" S_Chain_sums (mVar 2))) (mSet 1 (mBin dAdd (mVar 1) (mLc (.nm 4) (mZipN (mCons (mVar 3) (mCons (mSl (mVar 3) (mSoP (mC (.int 1))) mNoP) mNil))) (mTB (mBin dNin (mVar 4) (mVar 1))) (mVar 4) [4]))))) (mRet (mVar 1))))
def S_seen_pairs : Fun := nx (phi 1 5 m_seen_pairs)
def m_bound_for : MS := (mSeq (mSet 3 (mIfE (mTB (mBin dEq (mFld "Book" 4 (mVar 0)) (mC (.str "own")))) (mC (.int 1)) (mC (.int 0)))) (mSeq (mSet 4 (mLc (.nm 5) (mIt (mVar 2)) (mTB (mBin dLt (mBin dIx (mFun (lf dSortedT) (mCons (mVar 5) mNil)) (mVar 3)) (mVar 1))) (mFun (lf dInt) (mCons (mBin dAdd (mBin dIx (mVar 5) (mC (.int 0))) (mBin dIx (mVar 5) (mC (.int 1)))) mNil)) [5])) (mRet (mFun (lf dMin) (mCons (mBin dAdd (mLst (mCons (mFun (lf dInt) (mCons (mFld "Book" 0 (mVar 0)) mNil)) mNil)) (mLc (.nm 6) (mIt (mVar 4)) mYes (mBin dSub (mVar 6) (mC (.int 1))) [6])) mNil)))))
def S_bound_for : Fun := nx (phi 3 7 m_bound_for)
def m_is_greater : MS := (mRet (mAndV (mBin dNe (mVar 0) (mVar 1)) (mAndV (mBin dGe (mBin dIx (mVar 0) (mC (.int 0))) (mBin dIx (mVar 1) (mC (.int 0)))) (mBin dGe (mBin dIx (mVar 0) (mC (.int 1))) (mBin dIx (mVar 1) (mC (.int 1)))))))
def S_is_greater : Fun := nx (phi 2 2 m_is_greater)
def S_Book_but_low_bound : Fun := nx (kwdF ["low", "bound"] (phi 2 4 m_Book_but))
def m_tight_settings : MS := (mSeq (mOwn 2 mNil) (mSeq (mFor (.nm 3) (mRng1 (mCons (mBin dAdd (mFld "Book" 0 (mVar 0)) (mC (.int 2))) mNil)) (mSeq (mSet 4 (mMethK "Book" 2 S_Book_but_low_bound (mVar 0) (mCons (mVar 3) (mCons (mFun S_bound_for (mCons (mVar 0) (mCons (mVar 3) (mCons (mVar 1) mNil)))) mNil)))) (mSeq (mSet 5 (mFun S_plain_of (mCons (mVar 4) (mCons (mFun S_barred_pairs (mCons (mVar 4) mNil)) mNil)))) (mIf (mTB (mNinO 2 (mVar 5))) (mApp 2 (mVar 5)) mPass)))) (mSeq (mFrz 2 (mSet 6 (mLc (.nm 7) (mIt (mVar 2)) (mNot (mTru (mFun (lf dAny) (mCons (mLc (.nm 4) (mIt (mVar 2)) mYes (mFun S_is_greater (mCons (mVar 4) (mCons (mVar 7) mNil))) [4]) mNil)))) (mVar 7) [7]))) (mRet (mFun (lf dTuple) (mCons (mFun (lf dSortedP) (mCons (mVar 6) mNil)) mNil))))))
def S_tight_settings : Fun := nx (phi 2 8 m_tight_settings)
def m_tight : MS := (mSeq (mDrop (mFun S_need_book (mCons (mVar 0) (mCons (mC (.str "book")) mNil)))) (mSeq (mDrop (mFun S_need_chains (mCons (mVar 0) (mCons (mVar 1) mNil)))) (mRet (mFun S_tight_settings (mCons (mVar 0) (mCons (mFun S_seen_pairs (mCons (mVar 1) mNil)) mNil))))))
def S_tight : Fun := nx (starF 1 (phi 2 2 m_tight))
def m__law_pen : MS := (mRet (mLstH (mCons (mFun (lf dList) (mCons (mSl (mVar 0) mNoP (mSoP (mC (.int 63)))) mNil)) (mCons (mC (.int 0)) (mCons (mC (.int 0)) mNil)))))
def S__law_pen : Fun := nx (phi 1 1 m__law_pen)
def m__law_draw : MS := (mSeq (mIf (mTB (mBin dGt (mIxH (mVar 0) (mC (.int 2))) (mC (.int 0)))) (mSeq (mSet 2 (mBin dMod (mFun (lf dInt) (mCons (mIxH (mVar 0) (mC (.int 2))) mNil)) (mVar 1))) (mSeq (mPutH (mVar 0) (mC (.int 2)) (mBin dFdiv (mFun (lf dInt) (mCons (mIxH (mVar 0) (mC (.int 2))) mNil)) (mVar 1))) (mRet (mVar 2)))) mPass) (mSeq (mSet 3 (mIxH (mVar 0) (mC (.int 1)))) (mSeq (mPutH (mVar 0) (mC (.int 1)) (mBin dAdd (mVar 3) (mC (.int 1)))) (mSeq (mSet 4 (mBin dAdd (mBin dMul (mC (.int 235540)) (mVar 3)) (mC (.int 11824)))) (mSeq (mIf (mTB (mBin dNe (mIxH (mVar 0) (mC (.int 0))) (mLst mNil))) (mSet 4 (mBin dIx (mIxH (mVar 0) (mC (.int 0))) (mBin dMod (mFun (lf dInt) (mCons (mVar 3) mNil)) (mFun (lf dLen) (mCons (mIxH (mVar 0) (mC (.int 0))) mNil))))) mPass) (mSeq (mIf (mAnd (mTB (mBin dLt (mVar 3) (mFun (lf dLen) (mCons (mIxH (mVar 0) (mC (.int 0))) mNil)))) (mTB (mBin dGe (mFun (lf dAbs) (mCons (mVar 4) mNil)) (mBin dPow (mC (.int 10)) (mC (.int 18)))))) (mSeq (mSet 5 (mBin dAdd (mBin dMul (mC (.int 2)) (mBin dSub (mFun (lf dAbs) (mCons (mVar 4) mNil)) (mBin dPow (mC (.int 10)) (mC (.int 18))))) (mFun (lf dInt) (mCons (mBin dLt (mVar 4) (mC (.int 0))) mNil)))) (mSeq (mPutH (mVar 0) (mC (.int 2)) (mBin dFdiv (mFun (lf dInt) (mCons (mVar 5) mNil)) (mVar 1))) (mRet (mBin dMod (mFun (lf dInt) (mCons (mVar 5) mNil)) (mVar 1))))) mPass) (mSeq (mSet 6 (mBin dMod (mFun (lf dInt) (mCons (mBin dPow (mBin dAdd (mBin dAdd (mBin dMod (mFun (lf dInt) (mCons (mVar 4) mNil)) (mC (.int 2147483587))) (mBin dMul (mC (.int 138070)) (mVar 3))) (mC (.int 3576))) (mC (.int 5))) mNil)) (mC (.int 2147483563)))) (mSeq (mSet 6 (mBin dMod (mFun (lf dInt) (mCons (mBin dPow (mBin dAdd (mBin dAdd (mBin dMul (mVar 6) (mBin dAdd (mBin dMul (mC (.int 2)) (mVar 3)) (mC (.int 677)))) (mBin dMul (mBin dMul (mC (.int 92490)) (mVar 3)) (mVar 3))) (mC (.int 234))) (mC (.int 3))) mNil)) (mC (.int 2147483629)))) (mRet (mBin dMod (mFun (lf dInt) (mCons (mBin dFdiv (mVar 6) (mC (.int 32))) mNil)) (mVar 1)))))))))))
def S__law_draw : Fun := nx (phi 2 7 m__law_draw)
def m__law_pick : MS := (mRet (mBin dIx (mVar 1) (mFun S__law_draw (mCons (mVar 0) (mCons (mFun (lf dLen) (mCons (mVar 1) mNil)) mNil)))))
def S__law_pick : Fun := nx (phi 2 2 m__law_pick)
def m__law_plain : MS := (mSeq (mSet 1 (mFun S__law_pick (mCons (mVar 0) (mCons (mLst (mCons (mC (.int 4)) (mCons (mC (.int 5)) (mCons (mC (.int 6)) (mCons (mC (.int 8)) (mCons (mC (.int 8)) (mCons (mC (.int 10)) (mCons (mC (.int 12)) (mCons (mBin dAdd (mC (.int 2)) (mFun S__law_draw (mCons (mVar 0) (mCons (mC (.int 14)) mNil)))) mNil))))))))) mNil)))) (mSeq (mSet 2 (mFun S__law_pick (mCons (mVar 0) (mCons (mLst (mCons (mC (.int 1)) (mCons (mC (.int 1)) (mCons (mBin dAdd (mC (.int 1)) (mFun S__law_draw (mCons (mVar 0) (mCons (mBin dFdiv (mFun (lf dInt) (mCons (mVar 1) mNil)) (mC (.int 2))) mNil)))) mNil)))) mNil)))) (mSeq (mSet 3 (mLst (mCons (mVar 2) mNil))) (mSeq (mFor (.nm 4) (mRng1 (mCons (mFun S__law_draw (mCons (mVar 0) (mCons (mC (.int 4)) mNil))) mNil)) (mSeq (mSet 5 (mBin dAdd (mVar 2) (mFun S__law_draw (mCons (mVar 0) (mCons (mBin dAdd (mBin dSub (mVar 1) (mBin dMul (mC (.int 2)) (mVar 2))) (mC (.int 1))) mNil))))) (mSet 3 (mBin dAdd (mVar 3) (mBin dMul (mLst (mCons (mVar 5) mNil)) (mFun (lf dInt) (mCons (mBin dNin (mVar 5) (mVar 3)) mNil))))))) (mSeq (mPar 6 7 (mCons (mFun S__law_draw (mCons (mVar 0) (mCons (mBin dAdd (mVar 1) (mC (.int 2))) mNil))) (mCons (mFun S__law_pick (mCons (mVar 0) (mCons (mLst (mCons (mVar 1) (mCons (mBin dSub (mVar 1) (mC (.int 1))) (mCons (mFun S__law_draw (mCons (mVar 0) (mCons (mBin dAdd (mVar 1) (mC (.int 1))) mNil))) mNil)))) mNil))) mNil))) (mSeq (mSet 8 (mFun S__law_pick (mCons (mVar 0) (mCons (mLst (mCons (mC (.str "own")) (mCons (mC (.str "near")) mNil))) mNil)))) (mRet (mDict [.inr "room", .inr "lengths", .inr "low", .inr "bound", .inr "looks"] (mCons (mVar 1) (mCons (mVar 3) (mCons (mVar 6) (mCons (mVar 7) (mCons (mVar 8) mNil)))))))))))))
def S__law_plain : Fun := nx (phi 1 9 m__law_plain)
def m__law_text : MS := (mSeq (mSet 2 (mFun (lf dSorted) (mCons (mLc (.nm 3) (mIt (mBin dIxD (mVar 1) (mC (.str "lengths")))) mYes (mFun (lf dInt) (mCons (mVar 3) mNil)) [3]) mNil))) (mSeq (mSet 4 (mBin dAdd (mBin dAdd (mLst (mCons (mC (.str "room")) (mCons (mBin dIxD (mVar 1) (mC (.str "room"))) (mCons (mC (.str "lengths")) mNil)))) (mVar 2)) (mLst (mCons (mC (.str "low")) (mCons (mBin dIxD (mVar 1) (mC (.str "low"))) (mCons (mC (.str "bound")) (mCons (mBin dIxD (mVar 1) (mC (.str "bound"))) mNil))))))) (mSeq (mSet 4 (mBin dAdd (mVar 4) (mLst (mCons (mBin dIxD (mVar 1) (mC (.str "looks"))) (mCons (mFun S__law_pick (mCons (mVar 0) (mCons (mLst (mCons (mC (.str "even")) (mCons (mC (.str "ahead")) (mCons (mC (.str "put")) mNil)))) mNil))) (mCons (mFun S__law_pick (mCons (mVar 0) (mCons (mLst (mCons (mC (.str "left")) (mCons (mC (.str "right")) mNil))) mNil))) mNil)))))) (mRet (mM1 dJoin (mC (.str " ")) (mLc (.nm 5) (mIt (mVar 4)) mYes (mFun (lf dStr) (mCons (mVar 5) mNil)) [5]))))))
def S__law_text : Fun := nx (phi 2 6 m__law_text)
def m__law_sums : MS := (mSeq (mSet 1 (mLst mNil)) (mSeq (mFor (.nm 2) (mRng2 (mCons (mC (.int 1)) (mCons (mBin dAdd (mBin dIxD (mVar 0) (mC (.str "room"))) (mC (.int 1))) mNil))) (mSeq (mSet 3 (mLc (.nm 4) (mIt (mBin dIxD (mVar 0) (mC (.str "lengths")))) (mOr (mTB (mBin dEq (mVar 4) (mVar 2))) (mTB (mBin dIn (mBin dSub (mVar 2) (mVar 4)) (mVar 1)))) (mVar 4) [4])) (mSet 1 (mBin dAdd (mVar 1) (mBin dMul (mLst (mCons (mVar 2) mNil)) (mFun (lf dInt) (mCons (mBin dNe (mVar 3) (mLst mNil)) mNil))))))) (mRet (mVar 1))))
def S__law_sums : Fun := nx (phi 1 5 m__law_sums)
def m__law_let : MS := (mSeq (mIf (mTB (mBin dGt (mBin dAdd (mVar 1) (mVar 2)) (mBin dIxD (mVar 0) (mC (.str "bound"))))) (mRet (mC (.bl true))) mPass) (mSeq (mIf (mTB (mBin dEq (mBin dIxD (mVar 0) (mC (.str "looks"))) (mC (.str "own")))) (mRet (mOrV (mBin dGe (mVar 1) (mBin dIxD (mVar 0) (mC (.str "low")))) (mBin dGe (mVar 2) (mBin dIxD (mVar 0) (mC (.str "low")))))) mPass) (mRet (mAndV (mBin dGe (mVar 1) (mBin dIxD (mVar 0) (mC (.str "low")))) (mBin dGe (mVar 2) (mBin dIxD (mVar 0) (mC (.str "low"))))))))
def S__law_let : Fun := nx (phi 3 3 m__law_let)
def m__law_pairs : MS := (mSeq (mPar 1 2 (mCons (mFun S__law_sums (mCons (mVar 0) mNil)) (mCons (mLst mNil) mNil))) (mSeq (mFor (.nm 3) (mIt (mVar 1)) (mSet 2 (mBin dAdd (mVar 2) (mLc (.nm 4) (mIt (mVar 1)) (mTB (mBin dLe (mVar 3) (mVar 4))) (mTup (mCons (mVar 3) (mCons (mVar 4) mNil))) [4])))) (mRet (mVar 2))))
def S__law_pairs : Fun := nx (phi 1 5 m__law_pairs)
def m__law_barred : MS := (mRet (mLc (.nm 1) (mIt (mFun S__law_pairs (mCons (mVar 0) mNil))) (mNot (mTru (mFun S__law_let (mCons (mVar 0) (mCons (mBin dIx (mVar 1) (mC (.int 0))) (mCons (mBin dIx (mVar 1) (mC (.int 1))) mNil)))))) (mVar 1) [1]))
def S__law_barred : Fun := nx (phi 1 2 m__law_barred)
def m__law_but : MS := (mSeq (mOwnD 3 (mVar 0)) (mSeq (mPutD 3 (mVar 1) (mC (.str "low"))) (mSeq (mPutD 3 (mVar 2) (mC (.str "bound"))) (mFrzD 3 (mRet (mVar 3))))))
def S__law_but : Fun := nx (phi 3 4 m__law_but)
def m__law_settings : MS := (mSeq (mOwn 1 mNil) (mSeq (mFor (.nm 2) (mRng1 (mCons (mBin dAdd (mBin dIxD (mVar 0) (mC (.str "room"))) (mC (.int 2))) mNil)) (mFor (.nm 3) (mRng1 (mCons (mBin dAdd (mBin dIxD (mVar 0) (mC (.str "room"))) (mC (.int 1))) mNil)) (mApp 1 (mTup (mCons (mVar 2) (mCons (mVar 3) (mCons (mFun S__law_barred (mCons (mFun S__law_but (mCons (mVar 0) (mCons (mVar 2) (mCons (mVar 3) mNil)))) mNil)) mNil))))))) (mFrz 1 (mRet (mVar 1)))))
def S__law_settings : Fun := nx (phi 1 4 m__law_settings)
def m__law_plain_form : MS := (mRet (mBin dIx (mLc (.tp [2, 3, 4]) (mIt (mVar 0)) (mTB (mBin dEq (mVar 4) (mVar 1))) (mTup (mCons (mVar 2) (mCons (mVar 3) mNil))) [2, 3, 4]) (mC (.int 0))))
def S__law_plain_form : Fun := nx (phi 2 5 m__law_plain_form)
def m__law_chain : MS := (mSeq (mOwn 2 mNil) (mSeq (mFor (.nm 3) (mRng1 (mCons (mBin dAdd (mC (.int 1)) (mFun S__law_draw (mCons (mVar 0) (mCons (mC (.int 4)) mNil)))) mNil)) (mSeq (mAsg (.tp [4, 5]) (mTup (mCons (mTup mNil) (mCons (mC (.int 0)) mNil)))) (mSeq (mFor (.nm 6) (mRng1 (mCons (mBin dAdd (mC (.int 1)) (mFun S__law_draw (mCons (mVar 0) (mCons (mC (.int 5)) mNil)))) mNil)) (mSeq (mSet 7 (mFun S__law_pick (mCons (mVar 0) (mCons (mBin dIxD (mVar 1) (mC (.str "lengths"))) mNil)))) (mIf (mTB (mBin dLe (mBin dAdd (mVar 5) (mVar 7)) (mBin dIxD (mVar 1) (mC (.str "room"))))) (mPar 4 5 (mCons (mBin dAdd (mVar 4) (mTup (mCons (mVar 7) mNil))) (mCons (mBin dAdd (mVar 5) (mVar 7)) mNil))) mPass))) (mApp 2 (mVar 4))))) (mFrz 2 (mRet (mCm "Chain" S_Chain_read (mC (.glo "Chain")) (mCons (mM1 dJoin (mC (.str " / ")) (mLc (.nm 4) (mIt (mVar 2)) mYes (mM1 dJoin (mC (.str " ")) (mLc (.nm 8) (mItT (mVar 4)) mYes (mFun (lf dStr) (mCons (mVar 8) mNil)) [8])) [4])) mNil))))))
def S__law_chain : Fun := nx (phi 2 9 m__law_chain)
def m__law_seen : MS := (mSeq (mSet 1 (mLst mNil)) (mSeq (mFor (.nm 2) (mIt (mVar 0)) (mSeq (mSet 3 (mLc (.nm 4) (mItOwn "Chain" 0 (mVar 2)) mYes (mFun (lf dSumT) (mCons (mVar 4) mNil)) [4])) (mSet 1 (mBin dAdd (mVar 1) (mLc (.nm 5) (mRng1 (mCons (mBin dSub (mFun (lf dLen) (mCons (mVar 3) mNil)) (mC (.int 1))) mNil)) mYes (mTup (mCons (mBin dIx (mVar 3) (mVar 5)) (mCons (mBin dIx (mVar 3) (mBin dAdd (mVar 5) (mC (.int 1)))) mNil))) [5]))))) (mRet (mVar 1))))
def S__law_seen : Fun := nx (phi 1 6 m__law_seen)
def m__law_tight : MS := (mSeq (mIf (mTB (mBin dEq (mFun (lf dLen) (mCons (mVar 1) mNil)) (mC (.int 0)))) (mRet (mFun S_tight (mCons (mVar 0) mNil))) mPass) (mSeq (mIf (mTB (mBin dEq (mFun (lf dLen) (mCons (mVar 1) mNil)) (mC (.int 1)))) (mRet (mFun S_tight (mCons (mVar 0) (mCons (mBin dIx (mVar 1) (mC (.int 0))) mNil)))) mPass) (mRet (mIfE (mTB (mBin dEq (mFun (lf dLen) (mCons (mVar 1) mNil)) (mC (.int 2)))) (mFun S_tight (mCons (mVar 0) (mCons (mBin dIx (mVar 1) (mC (.int 0))) (mCons (mBin dIx (mVar 1) (mC (.int 1))) mNil)))) (mFun S_tight (mCons (mVar 0) (mCons (mBin dIx (mVar 1) (mC (.int 0))) (mCons (mBin dIx (mVar 1) (mC (.int 1))) (mCons (mBin dIx (mVar 1) (mC (.int 2))) mNil)))))))))
def S__law_tight : Fun := nx (phi 2 2 m__law_tight)
def m__law_among : MS := (mRet (mBin dEq (mLc (.nm 2) (mIt (mVar 0)) (mTB (mBin dNin (mVar 2) (mVar 1))) (mVar 2) [2]) (mLst mNil)))
def S__law_among : Fun := nx (phi 2 3 m__law_among)
def m__law_due : MS := (mSeq (mParO 2 3 (mFun S__law_settings (mCons (mVar 0) mNil))) (mSeq (mSet 4 (mLc (.tp [5, 6]) (mIt (mVar 1)) mYes (mTup (mCons (mFun (lf dMin) (mCons (mFun (lf dInt) (mCons (mVar 5) mNil)) (mCons (mFun (lf dInt) (mCons (mVar 6) mNil)) mNil))) (mCons (mFun (lf dMax) (mCons (mFun (lf dInt) (mCons (mVar 5) mNil)) (mCons (mFun (lf dInt) (mCons (mVar 6) mNil)) mNil))) mNil))) [5, 6])) (mSeq (mFor (.tp [7, 8, 9]) (mIt (mVar 2)) (mIf (mAnd (mTB (mNinO 3 (mVar 9))) (mTB (mBin dEq (mLc (.nm 10) (mIt (mVar 4)) (mTB (mBin dIn (mVar 10) (mVar 9))) (mVar 10) [10]) (mLst mNil)))) (mApp 3 (mVar 9)) mPass)) (mSeq (mOwn 11 mNil) (mSeq (mFrz 3 (mFor (.nm 12) (mIt (mVar 3)) (mIf (mTB (mBin dEq (mLc (.nm 6) (mIt (mVar 3)) (mAnd (mTB (mBin dNe (mVar 6) (mVar 12))) (mTru (mFun S__law_among (mCons (mVar 12) (mCons (mVar 6) mNil))))) (mVar 6) [6]) (mLst mNil))) (mApp 11 (mFun S__law_plain_form (mCons (mVar 2) (mCons (mVar 12) mNil)))) mPass))) (mFrz 11 (mRet (mFun (lf dTuple) (mCons (mFun (lf dSortedP) (mCons (mVar 11) mNil)) mNil)))))))))
def S__law_due : Fun := nx (phi 2 13 m__law_due)
def m__law_right : MS := (mSeq (mSet 1 (mFun S__law_plain (mCons (mVar 0) mNil))) (mSeq (mIf (mTB (mBin dGt (mBin dIxD (mVar 1) (mC (.str "room"))) (mC (.int 8)))) (mRet (mC (.bl true))) mPass) (mSeq (mSet 2 (mCm "Book" S_Book_read (mC (.glo "Book")) (mCons (mFun S__law_text (mCons (mVar 0) (mCons (mVar 1) mNil))) mNil))) (mSeq (mSet 3 (mLc (.nm 4) (mRng1 (mCons (mFun S__law_draw (mCons (mVar 0) (mCons (mC (.int 4)) mNil))) mNil)) mYes (mFun S__law_chain (mCons (mVar 0) (mCons (mVar 1) mNil))) [4])) (mSeq (mSet 5 (mFun S__law_due (mCons (mVar 1) (mCons (mFun S__law_seen (mCons (mVar 3) mNil)) mNil)))) (mSeq (mIf (mTB (mBin dNe (mFun S__law_tight (mCons (mVar 2) (mCons (mVar 3) mNil))) (mVar 5))) (mRet (mC (.bl false))) mPass) (mSeq (mSet 6 (mMethK "Book" 2 S_Book_but_low_bound (mVar 2) (mCons (mFun S__law_draw (mCons (mVar 0) (mCons (mBin dAdd (mFld "Book" 0 (mVar 2)) (mC (.int 2))) mNil))) (mCons (mFun S__law_draw (mCons (mVar 0) (mCons (mBin dAdd (mFld "Book" 0 (mVar 2)) (mC (.int 1))) mNil))) mNil)))) (mRet (mBin dEq (mFun S__law_tight (mCons (mVar 6) (mCons (mRev (mVar 3)) mNil))) (mVar 5))))))))))
def S__law_right : Fun := nx (phi 1 7 m__law_right)
def S_Book_but_looks : Fun := nx (kwdF ["looks"] (phi 2 4 m_Book_but))
def m_law : MS := (mSeq (mSet 1 (mFun S__law_pen (mCons (mVar 0) mNil))) (mSeq (mFor (.nm 2) (mRng1 (mCons (mC (.int 4)) mNil)) (mIf (mNot (mTru (mFun S__law_right (mCons (mVar 1) mNil)))) (mRet (mC (.bl false))) mPass)) (mSeq (mSet 3 (mCm "Book" S_Book_read (mC (.glo "Book")) (mCons (mC (.str "room 8 lengths 1 2 3 4 low 4 bound 8 own even left")) mNil))) (mSeq (mSet 4 (mCm "Book" S_Book_read (mC (.glo "Book")) (mCons (mC (.str "room 20 lengths 1 low 11 bound 20 own even left")) mNil))) (mSeq (mSet 5 (mLst (mCons (mFun S_tight (mCons (mVar 4) mNil)) (mCons (mFun S_tight (mCons (mVar 4) (mCons (mFun (fI I_Chain (mkD "Chain")) (mCons (mBin dMulT (mTup (mCons (mC (.int 1)) mNil)) (mC (.int 10))) (mCons (mBin dMulT (mTup (mCons (mC (.int 1)) mNil)) (mC (.int 10))) mNil))) mNil))) mNil)))) (mSeq (mSet 6 (mCm "Chain" S_Chain_read (mC (.glo "Chain")) (mCons (mC (.str "4 4 / 4 3 / 4 4 / 4 2 / 4 4 / 4 1 / 4 4 / 4 / 4 4 / 3 / 2")) mNil))) (mSeq (mIf (mOr (mTB (mBin dNe (mVar 5) (mLst (mCons (mTup (mCons (mTup (mCons (mC (.int 20)) (mCons (mC (.int 20)) mNil))) mNil)) (mCons (mTup (mCons (mTup (mCons (mC (.int 19)) (mCons (mC (.int 19)) mNil))) mNil)) mNil))))) (mTB (mBin dNe (mFun S_tight (mCons (mVar 3) (mCons (mVar 6) mNil))) (mTup (mCons (mTup (mCons (mC (.int 4)) (mCons (mC (.int 4)) mNil))) mNil))))) (mRet (mC (.bl false))) mPass) (mSeq (mPar 7 8 (mCons (mMethK "Book" 1 S_Book_but_looks (mVar 3) (mCons (mC (.str "near")) mNil)) (mCons (mFun (fI I_Chain (mkD "Chain")) (mCons (mTup (mCons (mC (.int 1)) mNil)) (mCons (mTup (mCons (mC (.int 4)) mNil)) (mCons (mTup (mCons (mC (.int 1)) mNil)) mNil)))) mNil))) (mSeq (mSet 5 (mLst (mCons (mFun S_tight (mCons (mVar 3) (mCons (mVar 8) mNil))) (mCons (mFun S_tight (mCons (mVar 7) (mCons (mVar 8) mNil))) (mCons (mFun S_tight (mCons (mVar 3) (mCons (mFun (fI I_Chain (mkD "Chain")) (mCons (mTup (mCons (mC (.int 2)) mNil)) (mCons (mTup (mCons (mC (.int 4)) (mCons (mC (.int 1)) mNil))) mNil))) mNil))) (mCons (mFun S_tight (mCons (mVar 3) (mCons (mFun (fI I_Chain (mkD "Chain")) (mCons (mTup (mCons (mC (.int 4)) mNil)) mNil)) mNil))) mNil)))))) (mRet (mBin dEq (mVar 5) (mLst (mCons (mTup (mCons (mTup (mCons (mC (.int 4)) (mCons (mC (.int 6)) mNil))) mNil)) (mCons (mTup (mCons (mTup (mCons (mC (.int 3)) (mCons (mC (.int 4)) mNil))) mNil)) (mCons (mTup (mCons (mTup (mCons (mC (.int 5)) (mCons (mC (.int 8)) mNil))) (mCons (mTup (mCons (mC (.int 6)) (mCons (mC (.int 6)) mNil))) mNil))) (mCons (mTup (mCons (mTup (mCons (mC (.int 8)) (mCons (mC (.int 8)) mNil))) mNil)) mNil))))))))))))))))
def S_law : Fun := nx (phi 1 9 m_law)
end
def top (i : Nat) : Stmt := PySem.Challenge.pw_pagefloor_k77_whole_tight_settings_of_ch.main.body.getD i (.Pass ⟨0, 0, 0, 0⟩)
def clsBody : Stmt → List Stmt
  | .ClassDef (body := b) .. => b
  | _ => []
def mth (i j : Nat) : Stmt := (clsBody (top i)).getD j (.Pass ⟨0, 0, 0, 0⟩)
abbrev s_is_integer : Stmt := top 2
abbrev N_is_integer : List Str := ["value"]
theorem n_is_integer : FnScope N_is_integer ["value"] (defScope s_is_integer) := ⟨rfl, rfl, rfl, by decide +kernel, rfl, by decide +kernel, by decide +kernel⟩
theorem ok_is_integer {P : Program} {w : World} {K : PySem.W.Frag} {mg : Str → Option Value} {base : Heap} (fr : ∀ x ∈ frees, mg x = none) (hk : ktB kt K = true) {f : Addr} {fd : FuncData} (F : FunD K "is_integer" "is_integer" (defArgs s_is_integer) (defBody s_is_integer) (defScope s_is_integer) [] [] f fd) :
    FnOk P w K mg base CX0 1 f fd ["value"] (fun vs H Q _ => vs.length = 1 ∧ RX ⟨K, nm⟩ (phi 1 1 m_is_integer) vs H Q fun _ _ _ => False) :=
  fn_n F n_is_integer fun B cdv A outer s H E hr =>
    (ss_one (ss_ret (se_and (se_callB (c_isi hk) (fr _ (by decide)) (sa_cons (se_var 0) (sa_cons (se_bty "int" (fr _ (by decide))) sa_nil))) (se_one (se_not (se_callB (c_isi hk) (fr _ (by decide)) (sa_cons (se_var 0) (sa_cons (se_bty "bool" (fr _ (by decide))) sa_nil))))))))
abbrev s_is_within : Stmt := top 3
abbrev N_is_within : List Str := ["value", "least", "most"]
theorem n_is_within : FnScope N_is_within ["value", "least", "most"] (defScope s_is_within) := ⟨rfl, rfl, rfl, by decide +kernel, rfl, by decide +kernel, by decide +kernel⟩
theorem ok_is_within {P : Program} {w : World} {K : PySem.W.Frag} {mg : Str → Option Value} {base : Heap} (fr : ∀ x ∈ frees, mg x = none) (hk : ktB kt K = true) {f : Addr} {fd : FuncData} (F : FunD K "is_within" "is_within" (defArgs s_is_within) (defBody s_is_within) (defScope s_is_within) [] [] f fd) (h_is_integer : Df P w K mg base CX0 nm 1 "is_integer" S_is_integer) :
    FnOk P w K mg base CX0 2 f fd ["value", "least", "most"] (fun vs H Q _ => vs.length = 3 ∧ RX ⟨K, nm⟩ (phi 3 3 m_is_within) vs H Q fun _ _ _ => False) :=
  fn_n F n_is_within fun B cdv A outer s H E hr =>
    (ss_one (ss_ret (se_and (se_call h_is_integer (hr.mono (by decide)) thr0 (sa_cons (se_var 0) sa_nil)) (se_one (se_chn r_le r_le (se_var 1) (se_var 0) (se_var 2))))))
abbrev s_need_count : Stmt := top 20
abbrev N_need_count : List Str := ["value", "most"]
theorem n_need_count : FnScope N_need_count ["value", "most"] (defScope s_need_count) := ⟨rfl, rfl, rfl, by decide +kernel, rfl, by decide +kernel, by decide +kernel⟩
theorem ok_need_count {P : Program} {w : World} {K : PySem.W.Frag} {mg : Str → Option Value} {base : Heap} (fr : ∀ x ∈ frees, mg x = none) (hk : ktB kt K = true) {f : Addr} {fd : FuncData} (F : FunD K "need_count" "need_count" (defArgs s_need_count) (defBody s_need_count) (defScope s_need_count) [] [] f fd) (h_is_within : Df P w K mg base CX0 nm 2 "is_within" S_is_within) :
    FnOk P w K mg base CX0 3 f fd ["value", "most"] (fun vs H Q _ => vs.length = 2 ∧ RX ⟨K, nm⟩ (phi 2 2 m_need_count) vs H Q fun _ _ _ => False) :=
  fn_n F n_need_count fun B cdv A outer s H E hr =>
    (ss_one (ss_if (st_not (st_tru (se_call h_is_within (hr.mono (by decide)) thr0 (sa_cons (se_var 0) (sa_cons se_int (sa_cons (se_var 1) sa_nil)))))) (ss_one ss_nev) ss_nil))
abbrev s_first_totals : Stmt := top 19
abbrev N_first_totals : List Str := ["lengths", "least", "found", "rest", "grows", "total", "one", "length", "later"]
theorem n_first_totals : FnScope N_first_totals ["lengths"] (defScope s_first_totals) := ⟨rfl, rfl, rfl, by decide +kernel, rfl, by decide +kernel, by decide +kernel⟩
theorem ok_first_totals {P : Program} {w : World} {K : PySem.W.Frag} {mg : Str → Option Value} {base : Heap} (fr : ∀ x ∈ frees, mg x = none) (hk : ktB kt K = true) {f : Addr} {fd : FuncData} (F : FunD K "first_totals" "first_totals" (defArgs s_first_totals) (defBody s_first_totals) (defScope s_first_totals) [] [] f fd) :
    FnOk P w K mg base CX0 1 f fd ["lengths"] (fun vs H Q _ => vs.length = 1 ∧ RX ⟨K, nm⟩ (phi 1 9 m_first_totals) vs H Q fun _ _ _ => False) :=
  fn_n F n_first_totals fun B cdv A outer s H E hr =>
    (ss_cons (ss_set 1 (se_ix (se_var 0) se_int) n_first_totals.nd)
    (ss_cons (ss_own 2 (sa_cons se_int (sa_star (se_lc [("rest", 3)] rfl n_first_totals.nd ((si_rng2 (sa_cons se_int (sa_cons (se_var 1) sa_nil)) (fr _ (by decide)))).o (blkOk_by (N := N_first_totals) (sc := (defScope s_first_totals)) (by decide +kernel)) (fun _ _ _ _ _ => (sg_name 3 n_first_totals.nd)) (fun _ _ _ _ _ _ => sts_nil) (fun _ _ _ _ _ _ => se_non) (by decide)) sa_nil)) n_first_totals.nd)
    (ss_cons (ss_set 4 se_bl n_first_totals.nd)
    (ss_cons (ss_while PassesOwn.never (st_tru (se_var 4)) (ss_cons (ss_set 4 se_bl n_first_totals.nd)
    (ss_one (ss_for PassesOwn.never rfl (si_list (se_lc [("one", 6)] rfl n_first_totals.nd ((sio_own 2)) (blkOk_by (N := N_first_totals) (sc := (defScope s_first_totals)) (by decide +kernel)) (fun _ _ _ _ _ => (sg_name 6 n_first_totals.nd)) (fun _ _ _ _ _ _ => (sts_one (st_cmp r_notN (se_var 6) se_non (nomark _)))) (fun _ _ _ _ _ _ => (se_var 6)) (by decide))) (sg_name 5 n_first_totals.nd) (ss_one (ss_for PassesOwn.never rfl (si_tup (se_var 0)) (sg_name 7 n_first_totals.nd) (ss_cons (ss_set 8 (se_bin r_add (se_var 5) (se_var 7)) n_first_totals.nd)
    (ss_cons (ss_set 3 (se_bin r_mod (se_callTy c_int (fr _ (by decide)) (sa_cons (se_var 8) sa_nil)) (se_var 1)) n_first_totals.nd)
    (ss_one (ss_if ((sw_or (st_cmp r_isN (se_ixO 2 (se_var 3)) se_non (nomark _)) (sw_or1 (st_cmp r_lt (se_var 8) (se_ixO 2 (se_var 3)) (nomark _))))).pt (ss_cons (ss_putL 2 (se_var 8) (se_var 3))
    (ss_one (ss_set 4 se_bl n_first_totals.nd))) ss_nil))))))))))
    (ss_one (ss_frz 2 (ss_ret (se_var 2))))))))
abbrev s_total_of : Stmt := top 40
abbrev N_total_of : List Str := ["page", "row"]
theorem n_total_of : FnScope N_total_of ["page"] (defScope s_total_of) := ⟨rfl, rfl, rfl, by decide +kernel, rfl, by decide +kernel, by decide +kernel⟩
theorem ok_total_of {P : Program} {w : World} {K : PySem.W.Frag} {mg : Str → Option Value} {base : Heap} (fr : ∀ x ∈ frees, mg x = none) (hk : ktB kt K = true) {f : Addr} {fd : FuncData} (F : FunD K "total_of" "total_of" (defArgs s_total_of) (defBody s_total_of) (defScope s_total_of) [] [] f fd) :
    FnOk P w K mg base CX0 1 f fd ["page"] (fun vs H Q _ => vs.length = 1 ∧ RX ⟨K, nm⟩ (phi 1 2 m_total_of) vs H Q fun _ _ _ => False) :=
  fn_n F n_total_of fun B cdv A outer s H E hr =>
    (ss_one (ss_ret (se_callB (c_sum rfl) (fr _ (by decide)) (sa_cons (se_lc [("row", 1)] rfl n_total_of.nd ((si_tup (se_var 0))).o (blkOk_by (N := N_total_of) (sc := (defScope s_total_of)) (by decide +kernel)) (fun _ _ _ _ _ => (sg_name 1 n_total_of.nd)) (fun _ _ _ _ _ _ => sts_nil) (fun _ _ _ _ _ _ => (se_callTy c_int (fr _ (by decide)) (sa_cons (se_var 1) sa_nil))) (by decide)) sa_nil))))
abbrev s_rows_of : Stmt := top 41
abbrev N_rows_of : List Str := ["pages", "found", "page"]
theorem n_rows_of : FnScope N_rows_of ["pages"] (defScope s_rows_of) := ⟨rfl, rfl, rfl, by decide +kernel, rfl, by decide +kernel, by decide +kernel⟩
theorem ok_rows_of {P : Program} {w : World} {K : PySem.W.Frag} {mg : Str → Option Value} {base : Heap} (fr : ∀ x ∈ frees, mg x = none) (hk : ktB kt K = true) {f : Addr} {fd : FuncData} (F : FunD K "rows_of" "rows_of" (defArgs s_rows_of) (defBody s_rows_of) (defScope s_rows_of) [] [] f fd) :
    FnOk P w K mg base CX0 1 f fd ["pages"] (fun vs H Q _ => vs.length = 1 ∧ RX ⟨K, nm⟩ (phi 1 3 m_rows_of) vs H Q fun _ _ _ => False) :=
  fn_n F n_rows_of fun B cdv A outer s H E hr =>
    (ss_cons (ss_own 1 sa_nil n_rows_of.nd)
    (ss_cons (ss_for PassesOwn.never rfl (si_tup (se_var 0)) (sg_name 2 n_rows_of.nd) (ss_one (ss_ext 1 (se_var 2))))
    (ss_one (ss_frz 1 (ss_ret (se_callTy c_tuple (fr _ (by decide)) (sa_cons (se_var 1) sa_nil)))))))
abbrev s_upcoming : Stmt := top 32
abbrev N_upcoming : List Str := ["words", "spot"]
theorem n_upcoming : FnScope N_upcoming ["words", "spot"] (defScope s_upcoming) := ⟨rfl, rfl, rfl, by decide +kernel, rfl, by decide +kernel, by decide +kernel⟩
theorem ok_upcoming {P : Program} {w : World} {K : PySem.W.Frag} {mg : Str → Option Value} {base : Heap} (fr : ∀ x ∈ frees, mg x = none) (hk : ktB kt K = true) {f : Addr} {fd : FuncData} (F : FunD K "upcoming" "upcoming" (defArgs s_upcoming) (defBody s_upcoming) (defScope s_upcoming) [] [] f fd) :
    FnOk P w K mg base CX0 1 f fd ["words", "spot"] (fun vs H Q _ => vs.length = 2 ∧ RX ⟨K, nm⟩ (phi 2 2 m_upcoming) vs H Q fun _ _ _ => False) :=
  fn_n F n_upcoming fun B cdv A outer s H E hr =>
    (ss_one (ss_ret (se_ifE (st_cmp r_lt (se_var 1) (se_callB c_len (fr _ (by decide)) (sa_cons (se_var 0) sa_nil)) (nomark _)) (se_ix (se_var 0) (se_var 1)) se_str)))
abbrev s_need_head : Stmt := top 33
abbrev N_need_head : List Str := ["words", "spot", "head"]
theorem n_need_head : FnScope N_need_head ["words", "spot", "head"] (defScope s_need_head) := ⟨rfl, rfl, rfl, by decide +kernel, rfl, by decide +kernel, by decide +kernel⟩
theorem ok_need_head {P : Program} {w : World} {K : PySem.W.Frag} {mg : Str → Option Value} {base : Heap} (fr : ∀ x ∈ frees, mg x = none) (hk : ktB kt K = true) {f : Addr} {fd : FuncData} (F : FunD K "need_head" "need_head" (defArgs s_need_head) (defBody s_need_head) (defScope s_need_head) [] [] f fd) (h_upcoming : Df P w K mg base CX0 nm 1 "upcoming" S_upcoming) :
    FnOk P w K mg base CX0 2 f fd ["words", "spot", "head"] (fun vs H Q _ => vs.length = 3 ∧ RX ⟨K, nm⟩ (phi 3 3 m_need_head) vs H Q fun _ _ _ => False) :=
  fn_n F n_need_head fun B cdv A outer s H E hr =>
    (ss_one (ss_if (st_cmp (r_ne hr.units) (se_call h_upcoming (hr.mono (by decide)) thr0 (sa_cons (se_var 0) (sa_cons (se_var 1) sa_nil))) (se_var 2) (nomark _)) (ss_one ss_nev) ss_nil))
abbrev s_number_at : Stmt := top 34
abbrev N_number_at : List Str := ["words", "spot", "least", "most", "word", "number"]
theorem n_number_at : FnScope N_number_at ["words", "spot", "least", "most"] (defScope s_number_at) := ⟨rfl, rfl, rfl, by decide +kernel, rfl, by decide +kernel, by decide +kernel⟩
theorem ok_number_at {P : Program} {w : World} {K : PySem.W.Frag} {mg : Str → Option Value} {base : Heap} (fr : ∀ x ∈ frees, mg x = none) (hk : ktB kt K = true) {f : Addr} {fd : FuncData} (F : FunD K "number_at" "number_at" (defArgs s_number_at) (defBody s_number_at) (defScope s_number_at) [] [] f fd) (h_upcoming : Df P w K mg base CX0 nm 1 "upcoming" S_upcoming) :
    FnOk P w K mg base CX0 2 f fd ["words", "spot", "least", "most"] (fun vs H Q _ => vs.length = 4 ∧ RX ⟨K, nm⟩ (phi 4 6 m_number_at) vs H Q fun _ _ _ => False) :=
  fn_n F n_number_at fun B cdv A outer s H E hr =>
    (ss_cons (ss_set 4 (se_call h_upcoming (hr.mono (by decide)) thr0 (sa_cons (se_var 0) (sa_cons (se_var 1) sa_nil))) n_number_at.nd)
    (ss_cons (ss_if (st_cmp (r_nin (u65 hr)) (se_var 4) (se_lc [("number", 5)] rfl n_number_at.nd ((si_rng2 (sa_cons (se_var 2) (sa_cons (se_bin r_add (se_var 3) se_int) sa_nil)) (fr _ (by decide)))).o (blkOk_by (N := N_number_at) (sc := (defScope s_number_at)) (by decide +kernel)) (fun _ _ _ _ _ => (sg_name 5 n_number_at.nd)) (fun _ _ _ _ _ _ => sts_nil) (fun _ _ _ _ _ _ => (se_callTy c_str (fr _ (by decide)) (sa_cons (se_var 5) sa_nil))) (by decide)) rfl) (ss_one ss_nev) ss_nil)
    (ss_one (ss_ret (se_callTy c_int (fr _ (by decide)) (sa_cons (se_var 4) sa_nil))))))
abbrev s_lengths_at : Stmt := top 35
abbrev N_lengths_at : List Str := ["words", "spot", "room", "found", "least", "length"]
theorem n_lengths_at : FnScope N_lengths_at ["words", "spot", "room"] (defScope s_lengths_at) := ⟨rfl, rfl, rfl, by decide +kernel, rfl, by decide +kernel, by decide +kernel⟩
theorem ok_lengths_at {P : Program} {w : World} {K : PySem.W.Frag} {mg : Str → Option Value} {base : Heap} (fr : ∀ x ∈ frees, mg x = none) (hk : ktB kt K = true) {f : Addr} {fd : FuncData} (F : FunD K "lengths_at" "lengths_at" (defArgs s_lengths_at) (defBody s_lengths_at) (defScope s_lengths_at) [] [] f fd) (h_upcoming : Df P w K mg base CX0 nm 1 "upcoming" S_upcoming) (h_number_at : Df P w K mg base CX0 nm 2 "number_at" S_number_at) (c_MOST_ROOM : ∃ t, mg "MOST_ROOM" = some (.int 60 t)) :
    FnOk P w K mg base CX0 3 f fd ["words", "spot", "room"] (fun vs H Q _ => vs.length = 3 ∧ RX ⟨K, nm⟩ (phi 3 6 m_lengths_at) vs H Q fun _ _ _ => False) :=
  fn_n F n_lengths_at fun B cdv A outer s H E hr =>
    (ss_cons (ss_own 3 sa_nil n_lengths_at.nd)
    (ss_cons (ss_while PassesOwn.never ((sw_or (st_cmp (r_eq hr.units) (se_lenO 3 (fr _ (by decide))) se_int (nomark _)) (sw_or1 ((sw_and (st_cmp r_lt (se_lenO 3 (fr _ (by decide))) se_int (nomark _)) (sw_and1 (st_cmp (r_ne hr.units) (se_call h_upcoming (hr.mono (by decide)) thr0 (sa_cons (se_var 0) (sa_cons (se_var 1) sa_nil))) se_str (nomark _))))).pt))).pt (ss_cons (ss_set 4 (se_ifE (st_cmp r_gt (se_lenO 3 (fr _ (by decide))) se_int (nomark _)) (se_bin r_add (se_ixO 3 (se_un r_neg se_int)) se_int) se_int) n_lengths_at.nd)
    (ss_cons (ss_set 5 (se_call h_number_at (hr.mono (by decide)) thr0 (sa_cons (se_var 0) (sa_cons (se_var 1) (sa_cons (se_var 4) (sa_cons (se_gint (by rfl) c_MOST_ROOM) sa_nil))))) n_lengths_at.nd)
    (ss_cons (ss_if (st_cmp r_gt (se_bin r_add (se_var 5) (se_ifE (st_cmp r_gt (se_lenO 3 (fr _ (by decide))) se_int (nomark _)) (se_ixO 3 se_int) (se_var 5))) (se_var 2) (nomark _)) (ss_one ss_nev) ss_nil)
    (ss_cons (ss_app 3 (se_var 5))
    (ss_one (ss_augAdd 1 n_lengths_at.nd se_int)))))))
    (ss_one (ss_frz 3 (ss_ret (se_tup (sa_cons (se_var 1) (sa_cons (se_var 3) sa_nil))))))))
abbrev s_length_in : Stmt := top 24
abbrev N_length_in : List Str := ["word", "sign"]
theorem n_length_in : FnScope N_length_in ["word"] (defScope s_length_in) := ⟨rfl, rfl, rfl, by decide +kernel, rfl, by decide +kernel, by decide +kernel⟩
theorem ok_length_in {P : Program} {w : World} {K : PySem.W.Frag} {mg : Str → Option Value} {base : Heap} (fr : ∀ x ∈ frees, mg x = none) (hk : ktB kt K = true) {f : Addr} {fd : FuncData} (F : FunD K "length_in" "length_in" (defArgs s_length_in) (defBody s_length_in) (defScope s_length_in) [] [] f fd) (c_MOST_LENGTH : ∃ t, mg "MOST_LENGTH" = some (.int 60 t)) :
    FnOk P w K mg base CX0 1 f fd ["word"] (fun vs H Q _ => vs.length = 1 ∧ RX ⟨K, nm⟩ (phi 1 2 m_length_in) vs H Q fun _ _ _ => False) :=
  fn_n F n_length_in fun B cdv A outer s H E hr =>
    (ss_cons (ss_if ((sw_or (st_not (st_chn r_le r_le se_int (se_callB c_len (fr _ (by decide)) (sa_cons (se_var 0) sa_nil)) se_int)) (sw_or (st_cmp (r_eq hr.units) (se_ix (se_var 0) se_int) se_str (nomark _)) (sw_or1 (st_not (st_tru (se_callB (c_all rfl) (fr _ (by decide)) (sa_cons (se_lc [("sign", 1)] rfl n_length_in.nd ((si_chr (se_var 0))).o (blkOk_by (N := N_length_in) (sc := (defScope s_length_in)) (by decide +kernel)) (fun _ _ _ _ _ => (sg_name 1 n_length_in.nd)) (fun _ _ _ _ _ _ => sts_nil) (fun _ _ _ _ _ _ => (se_cmp (r_in (u65 hr)) (se_var 1) se_str rfl)) (by decide)) sa_nil)))))))).pt (ss_one (ss_ret se_non)) ss_nil)
    (ss_one (ss_ret (se_ifE (st_cmp r_le (se_callTy c_int (fr _ (by decide)) (sa_cons (se_var 0) sa_nil)) (se_gint (by rfl) c_MOST_LENGTH) (nomark _)) (se_callTy c_int (fr _ (by decide)) (sa_cons (se_var 0) sa_nil)) se_non))))
abbrev s_pages_in : Stmt := top 43
abbrev N_pages_in : List Str := ["text", "words", "pages", "rows", "at", "word", "row"]
theorem n_pages_in : FnScope N_pages_in ["text"] (defScope s_pages_in) := ⟨rfl, rfl, rfl, by decide +kernel, rfl, by decide +kernel, by decide +kernel⟩
theorem ok_pages_in {P : Program} {w : World} {K : PySem.W.Frag} {mg : Str → Option Value} {base : Heap} (fr : ∀ x ∈ frees, mg x = none) (hk : ktB kt K = true) {f : Addr} {fd : FuncData} (F : FunD K "pages_in" "pages_in" (defArgs s_pages_in) (defBody s_pages_in) (defScope s_pages_in) [] [] f fd) (h_length_in : Df P w K mg base CX0 nm 1 "length_in" S_length_in) (c_MOST_ROWS : ∃ t, mg "MOST_ROWS" = some (.int 60 t)) (c_MOST_PAGES : ∃ t, mg "MOST_PAGES" = some (.int 400 t)) :
    FnOk P w K mg base CX0 2 f fd ["text"] (fun vs H Q _ => vs.length = 1 ∧ RX ⟨K, nm⟩ (phi 1 7 m_pages_in) vs H Q fun _ _ _ => False) :=
  fn_n F n_pages_in fun B cdv A outer s H E hr =>
    (ss_cons (ss_if (st_not (st_tru (se_callB (c_isi hk) (fr _ (by decide)) (sa_cons (se_var 0) (sa_cons (se_bty "str" (fr _ (by decide))) sa_nil))))) (ss_one ss_nev) ss_nil)
    (ss_cons (ss_set 1 (se_split (se_var 0) se_str) n_pages_in.nd)
    (ss_cons (ss_if (st_cmp (r_eq hr.units) (se_ix (se_var 1) se_int) se_str (nomark _)) (ss_cons (ss_if (st_cmp r_gt (se_callB c_len (fr _ (by decide)) (sa_cons (se_var 1) sa_nil)) se_int (nomark _)) (ss_one ss_nev) ss_nil)
    (ss_one (ss_ret (se_lst (sa_cons (se_tup sa_nil) sa_nil))))) ss_nil)
    (ss_cons (ss_own2 2 3 rfl n_pages_in.nd)
    (ss_cons (ss_for PassesOwn.never rfl (si_enum (se_var 1) (fr _ (by decide))) (sg_tup rfl (sgs_cons 4 n_pages_in.nd (sgs_cons 5 n_pages_in.nd sgs_nil))) (ss_cons (ss_set 6 (se_call h_length_in (hr.mono (by decide)) thr0 (sa_cons (se_var 5) sa_nil)) n_pages_in.nd)
    (ss_one (ss_if ((sw_and (st_cmp r_notN (se_var 6) se_non (nomark _)) (sw_and1 (st_cmp r_lt (se_lenO 3 (fr _ (by decide))) (se_gint (by rfl) c_MOST_ROWS) (nomark _))))).pt (ss_one (ss_app 3 (se_var 6))) (ss_one (ss_if ((sw_and (st_cmp (r_eq hr.units) (se_var 5) se_str (nomark _)) (sw_and (st_cmp r_gt (se_lenO 3 (fr _ (by decide))) se_int (nomark _)) (sw_and1 (st_cmp r_lt (se_lenO 2 (fr _ (by decide))) (se_bin r_sub (se_gint (by rfl) c_MOST_PAGES) se_int) (nomark _)))))).pt (ss_cons (ss_frz 3 (ss_app 2 (se_var 3)))
    (ss_one (ss_own 3 sa_nil n_pages_in.nd))) (ss_one ss_nev)))))))
    (ss_cons (ss_if (st_cmp (r_eq hr.units) (se_lenO 3 (fr _ (by decide))) se_int (nomark _)) (ss_one ss_nev) ss_nil)
    (ss_one (ss_frz 3 (ss_frz 2 (ss_ret (se_lst (sa_star (se_var 2) (sa_cons (se_var 3) sa_nil)))))))))))))
abbrev s_are_rows : Stmt := top 39
abbrev N_are_rows : List Str := ["value", "row"]
theorem n_are_rows : FnScope N_are_rows ["value"] (defScope s_are_rows) := ⟨rfl, rfl, rfl, by decide +kernel, rfl, by decide +kernel, by decide +kernel⟩
theorem ok_are_rows {P : Program} {w : World} {K : PySem.W.Frag} {mg : Str → Option Value} {base : Heap} (fr : ∀ x ∈ frees, mg x = none) (hk : ktB kt K = true) {f : Addr} {fd : FuncData} (F : FunD K "are_rows" "are_rows" (defArgs s_are_rows) (defBody s_are_rows) (defScope s_are_rows) [] [] f fd) (c_MOST_ROWS : ∃ t, mg "MOST_ROWS" = some (.int 60 t)) (h_is_within : Df P w K mg base CX0 nm 2 "is_within" S_is_within) (c_MOST_LENGTH : ∃ t, mg "MOST_LENGTH" = some (.int 60 t)) :
    FnOk P w K mg base CX0 3 f fd ["value"] (fun vs H Q _ => vs.length = 1 ∧ RX ⟨K, nm⟩ (phi 1 2 m_are_rows) vs H Q fun _ _ _ => False) :=
  fn_n F n_are_rows fun B cdv A outer s H E hr =>
    (ss_cons (ss_if ((sw_or (st_not (st_tru (se_isiT hk (fr _ (by decide)) (se_var 0) (sa_cons (se_bty "list" (fr _ (by decide))) (sa_cons (se_bty "tuple" (fr _ (by decide))) sa_nil))))) (sw_or1 (st_cmp r_gt (se_callB c_len (fr _ (by decide)) (sa_cons (se_var 0) sa_nil)) (se_gint (by rfl) c_MOST_ROWS) (nomark _))))).pt (ss_one (ss_ret se_bl)) ss_nil)
    (ss_one (ss_ret (se_callB (c_all rfl) (fr _ (by decide)) (sa_cons (se_lc [("row", 1)] rfl n_are_rows.nd ((si_seq (se_var 0))).o (blkOk_by (N := N_are_rows) (sc := (defScope s_are_rows)) (by decide +kernel)) (fun _ _ _ _ _ => (sg_name 1 n_are_rows.nd)) (fun _ _ _ _ _ _ => sts_nil) (fun _ _ _ _ _ _ => (se_call h_is_within (hr.mono (by decide)) thr0 (sa_cons (se_var 1) (sa_cons se_int (sa_cons (se_gint (by rfl) c_MOST_LENGTH) sa_nil))))) (by decide)) sa_nil)))))
abbrev s_need_word : Stmt := top 31
abbrev N_need_word : List Str := ["value", "some", "part"]
theorem n_need_word : FnScope N_need_word ["value", "some", "part"] (defScope s_need_word) := ⟨rfl, rfl, rfl, by decide +kernel, rfl, by decide +kernel, by decide +kernel⟩
theorem ok_need_word {P : Program} {w : World} {K : PySem.W.Frag} {mg : Str → Option Value} {base : Heap} (fr : ∀ x ∈ frees, mg x = none) (hk : ktB kt K = true) {f : Addr} {fd : FuncData} (F : FunD K "need_word" "need_word" (defArgs s_need_word) (defBody s_need_word) (defScope s_need_word) [] [] f fd) :
    FnOk P w K mg base CX0 1 f fd ["value", "some", "part"] (fun vs H Q _ => vs.length = 3 ∧ RX ⟨K, nm⟩ (phi 3 3 m_need_word) vs H Q fun _ _ _ => False) :=
  fn_n F n_need_word fun B cdv A outer s H E hr =>
    (ss_one (ss_if ((sw_or (st_not (st_tru (se_callB (c_isi hk) (fr _ (by decide)) (sa_cons (se_var 0) (sa_cons (se_bty "str" (fr _ (by decide))) sa_nil))))) (sw_or1 (st_cmp (r_nin (u65 hr)) (se_var 0) (se_var 1) rfl)))).pt (ss_one ss_nev) ss_nil))
abbrev s_ascending : Stmt := top 18
abbrev N_ascending : List Str := ["numbers", "number", "one"]
theorem n_ascending : FnScope N_ascending ["numbers"] (defScope s_ascending) := ⟨rfl, rfl, rfl, by decide +kernel, rfl, by decide +kernel, by decide +kernel⟩
theorem ok_ascending {P : Program} {w : World} {K : PySem.W.Frag} {mg : Str → Option Value} {base : Heap} (fr : ∀ x ∈ frees, mg x = none) (hk : ktB kt K = true) {f : Addr} {fd : FuncData} (F : FunD K "ascending" "ascending" (defArgs s_ascending) (defBody s_ascending) (defScope s_ascending) [] [] f fd) :
    FnOk P w K mg base CX0 1 f fd ["numbers"] (fun vs H Q _ => vs.length = 1 ∧ RX ⟨K, nm⟩ (phi 1 3 m_ascending) vs H Q fun _ _ _ => False) :=
  fn_n F n_ascending fun B cdv A outer s H E hr =>
    (ss_one (ss_ret (se_callTy c_tuple (fr _ (by decide)) (sa_cons (se_callB c_sorted (fr _ (by decide)) (sa_cons (se_lc [("number", 1)] rfl n_ascending.nd ((sid_dic (se_dc [("one", 2)] rfl n_ascending.nd ((si_tup (se_var 0))).o (blkOk_by (N := N_ascending) (sc := (defScope s_ascending)) (by decide +kernel)) (fun _ _ _ _ _ => (sg_name 2 n_ascending.nd)) (fun _ _ _ _ _ _ => sts_nil) (fun _ _ _ _ _ _ => (se_var 2)) (fun _ _ _ _ _ _ => se_bl) (by decide)))).o (blkOk_by (N := N_ascending) (sc := (defScope s_ascending)) (by decide +kernel)) (fun _ _ _ _ _ => (sg_name 1 n_ascending.nd)) (fun _ _ _ _ _ _ => sts_nil) (fun _ _ _ _ _ _ => (se_callTy c_int (fr _ (by decide)) (sa_cons (se_var 1) sa_nil))) (by decide)) sa_nil)) sa_nil))))
abbrev s_Lengths___init__ : Stmt := mth 21 1
abbrev N_Lengths___init__ : List Str := ["self", "lengths", "at", "length"]
theorem n_Lengths___init__ : FnScope N_Lengths___init__ ((["self"] : List Str) ++ [("lengths" : Str)]) (defScope s_Lengths___init__) := ⟨rfl, rfl, rfl, by decide +kernel, rfl, by decide +kernel, by decide +kernel⟩
theorem ok_Lengths___init__ {P : Program} {w : World} {K : PySem.W.Frag} {mg : Str → Option Value} {base : Heap} (fr : ∀ x ∈ frees, mg x = none) (hk : ktB kt K = true) {f : Addr} {fd : FuncData} (F : FunD K "__init__" "Lengths.__init__" (defArgs s_Lengths___init__) (defBody s_Lengths___init__) (defScope s_Lengths___init__) [] [] f fd) (hb : BindS "__init__" "Lengths.__init__" "lengths" (defArgs s_Lengths___init__) (defBody s_Lengths___init__) (defScope s_Lengths___init__) ["self"]) (h_is_within : Df P w K mg base CX0 nm 2 "is_within" S_is_within) (c_MOST_LENGTH : ∃ t, mg "MOST_LENGTH" = some (.int 60 t)) (h_ascending : Df P w K mg base CX0 nm 1 "ascending" S_ascending) (cl_Lengths : Cls K (He.ga K (Str.ofString "Lengths"))) (na_Lengths_own_lengths : NoAttr K (He.ga K (Str.ofString "Lengths")) "own_lengths") (c_MOST_LENGTHS : ∃ t, mg "MOST_LENGTHS" = some (.int 6 t)) (na_Lengths_least : NoAttr K (He.ga K (Str.ofString "Lengths")) "least") (na_Lengths_greatest : NoAttr K (He.ga K (Str.ofString "Lengths")) "greatest") (h_first_totals : Df P w K mg base CX0 nm 1 "first_totals" S_first_totals) (na_Lengths_firsts : NoAttr K (He.ga K (Str.ofString "Lengths")) "firsts") :
    FnR P w K mg base CX0 3 f (fun vs H Q _ => RI ⟨K, nm⟩ "Lengths" (starI 0 (phiI 2 4 "Lengths" m_Lengths___init__)) vs H Q fun _ _ _ => False) :=
  initS_n (sf := ("self" : Str)) (ps := ([] : List Str)) (pv := ("lengths" : Str)) F n_Lengths___init__ hb (fun B cdv A outer s H E hr =>
    (ss_cons (ss_for PassesOwn.never rfl (si_enum (se_var 1) (fr _ (by decide))) (sg_tup rfl (sgs_cons 2 n_Lengths___init__.nd (sgs_cons 3 n_Lengths___init__.nd sgs_nil))) (ss_one (ss_if (st_not (st_tru (se_call h_is_within (hr.mono (by decide)) thr0 (sa_cons (se_var 3) (sa_cons se_int (sa_cons (se_gint (by rfl) c_MOST_LENGTH) sa_nil)))))) (ss_one ss_nev) ss_nil)))
    (ss_cons (ss_if (st_cmp (r_eq hr.units) (se_callB c_len (fr _ (by decide)) (sa_cons (se_var 1) sa_nil)) se_int (nomark _)) (ss_one ss_nev) ss_nil)
    (ss_cons (ss_fldO (C := "Lengths") (k := 0) cl_Lengths na_Lengths_own_lengths 0 (se_call h_ascending (hr.mono (by decide)) thr0 (sa_cons (se_var 1) sa_nil)) (by decide) (by rfl))
    (ss_cons (ss_if (st_cmp r_gt (se_callB c_len (fr _ (by decide)) (sa_cons (se_fldO (C := "Lengths") (k := 0) cl_Lengths na_Lengths_own_lengths 0 (by decide) (by rfl)) sa_nil)) (se_gint (by rfl) c_MOST_LENGTHS) (nomark _)) (ss_one ss_nev) ss_nil)
    (ss_cons (ss_fldO (C := "Lengths") (k := 1) cl_Lengths na_Lengths_least 0 (se_ix (se_fldO (C := "Lengths") (k := 0) cl_Lengths na_Lengths_own_lengths 0 (by decide) (by rfl)) se_int) (by decide) (by rfl))
    (ss_cons (ss_fldO (C := "Lengths") (k := 2) cl_Lengths na_Lengths_greatest 0 (se_ix (se_fldO (C := "Lengths") (k := 0) cl_Lengths na_Lengths_own_lengths 0 (by decide) (by rfl)) (se_un r_neg se_int)) (by decide) (by rfl))
    (ss_one (ss_fldO (C := "Lengths") (k := 3) cl_Lengths na_Lengths_firsts 0 (se_call h_first_totals (hr.mono (by decide)) thr0 (sa_cons (se_fldO (C := "Lengths") (k := 0) cl_Lengths na_Lengths_own_lengths 0 (by decide) (by rfl)) sa_nil)) (by decide) (by rfl)))))))))) (by decide)
abbrev s_Lengths___contains__ : Stmt := mth 21 5
abbrev N_Lengths___contains__ : List Str := ["self", "length"]
theorem n_Lengths___contains__ : FnScope N_Lengths___contains__ ["self", "length"] (defScope s_Lengths___contains__) := ⟨rfl, rfl, rfl, by decide +kernel, rfl, by decide +kernel, by decide +kernel⟩
theorem ok_Lengths___contains__ {P : Program} {w : World} {K : PySem.W.Frag} {mg : Str → Option Value} {base : Heap} (fr : ∀ x ∈ frees, mg x = none) (hk : ktB kt K = true) {f : Addr} {fd : FuncData} (F : FunD K "__contains__" "Lengths.__contains__" (defArgs s_Lengths___contains__) (defBody s_Lengths___contains__) (defScope s_Lengths___contains__) [] [] f fd) (h_is_within : Df P w K mg base CX0 nm 2 "is_within" S_is_within) (c_MOST_LENGTH : ∃ t, mg "MOST_LENGTH" = some (.int 60 t)) (cl_Lengths : Cls K (He.ga K (Str.ofString "Lengths"))) (na_Lengths_own_lengths : NoAttr K (He.ga K (Str.ofString "Lengths")) "own_lengths") :
    FnOk P w K mg base CX0 3 f fd ["self", "length"] (fun vs H Q _ => vs.length = 2 ∧ RX ⟨K, nm⟩ (phi 2 2 m_Lengths___contains__) vs H Q fun _ _ _ => False) :=
  fn_n F n_Lengths___contains__ fun B cdv A outer s H E hr =>
    (ss_one (ss_ret (se_and (se_call h_is_within (hr.mono (by decide)) thr0 (sa_cons (se_var 1) (sa_cons se_int (sa_cons (se_gint (by rfl) c_MOST_LENGTH) sa_nil)))) (se_one (se_cmp (r_in (u65 hr)) (se_var 1) (se_fld (C := "Lengths") (k := 0) cl_Lengths na_Lengths_own_lengths (se_var 0) (by decide) (by rfl)) rfl)))))
abbrev s_Lengths_has_total : Stmt := mth 21 10
abbrev N_Lengths_has_total : List Str := ["self", "total", "first"]
theorem n_Lengths_has_total : FnScope N_Lengths_has_total ["self", "total"] (defScope s_Lengths_has_total) := ⟨rfl, rfl, rfl, by decide +kernel, rfl, by decide +kernel, by decide +kernel⟩
theorem ok_Lengths_has_total {P : Program} {w : World} {K : PySem.W.Frag} {mg : Str → Option Value} {base : Heap} (fr : ∀ x ∈ frees, mg x = none) (hk : ktB kt K = true) {f : Addr} {fd : FuncData} (F : FunD K "has_total" "Lengths.has_total" (defArgs s_Lengths_has_total) (defBody s_Lengths_has_total) (defScope s_Lengths_has_total) [] [] f fd) (h_is_within : Df P w K mg base CX0 nm 2 "is_within" S_is_within) (c_MOST_FAR : ∃ t, mg "MOST_FAR" = some (.int 1000000000000000000000000000000 t)) (cl_Lengths : Cls K (He.ga K (Str.ofString "Lengths"))) (na_Lengths_least : NoAttr K (He.ga K (Str.ofString "Lengths")) "least") (na_Lengths_firsts : NoAttr K (He.ga K (Str.ofString "Lengths")) "firsts") :
    FnOk P w K mg base CX0 3 f fd ["self", "total"] (fun vs H Q _ => vs.length = 2 ∧ RX ⟨K, nm⟩ (phi 2 3 m_Lengths_has_total) vs H Q fun _ _ _ => False) :=
  fn_n F n_Lengths_has_total fun B cdv A outer s H E hr =>
    (ss_cons (ss_if (st_not (st_tru (se_call h_is_within (hr.mono (by decide)) thr0 (sa_cons (se_var 1) (sa_cons se_int (sa_cons (se_gint (by rfl) c_MOST_FAR) sa_nil)))))) (ss_one (ss_ret se_bl)) ss_nil)
    (ss_cons (ss_set 2 (se_ix (se_fld (C := "Lengths") (k := 3) cl_Lengths na_Lengths_firsts (se_var 0) (by decide) (by rfl)) (se_bin r_mod (se_callTy c_int (fr _ (by decide)) (sa_cons (se_var 1) sa_nil)) (se_fld (C := "Lengths") (k := 1) cl_Lengths na_Lengths_least (se_var 0) (by decide) (by rfl)))) n_Lengths_has_total.nd)
    (ss_one (ss_ret (se_and (se_cmp r_notN (se_var 2) se_non (nomark _)) (se_one (se_cmp r_le (se_var 2) (se_var 1) (nomark _))))))))
abbrev s_Lengths_totals : Stmt := mth 21 11
abbrev N_Lengths_totals : List Str := ["self", "room", "total"]
theorem n_Lengths_totals : FnScope N_Lengths_totals ["self", "room"] (defScope s_Lengths_totals) := ⟨rfl, rfl, rfl, by decide +kernel, rfl, by decide +kernel, by decide +kernel⟩
theorem ok_Lengths_totals {P : Program} {w : World} {K : PySem.W.Frag} {mg : Str → Option Value} {base : Heap} (fr : ∀ x ∈ frees, mg x = none) (hk : ktB kt K = true) {f : Addr} {fd : FuncData} (F : FunD K "totals" "Lengths.totals" (defArgs s_Lengths_totals) (defBody s_Lengths_totals) (defScope s_Lengths_totals) [] [] f fd) (h_need_count : Df P w K mg base CX0 nm 3 "need_count" S_need_count) (c_MOST_TOTAL : ∃ t, mg "MOST_TOTAL" = some (.int 60 t)) (m_Lengths_has_total : Dm P w K mg base CX0 nm 3 (Str.ofString "Lengths") "has_total" S_Lengths_has_total) :
    FnOk P w K mg base CX0 4 f fd ["self", "room"] (fun vs H Q _ => vs.length = 2 ∧ RX ⟨K, nm⟩ (phi 2 3 m_Lengths_totals) vs H Q fun _ _ _ => False) :=
  fn_n F n_Lengths_totals fun B cdv A outer s H E hr =>
    (ss_cons (ss_expr (se_call h_need_count (hr.mono (by decide)) thr0 (sa_cons (se_var 1) (sa_cons (se_gint (by rfl) c_MOST_TOTAL) sa_nil))))
    (ss_one (ss_ret (se_callTy c_tuple (fr _ (by decide)) (sa_cons (se_lc [("total", 2)] rfl n_Lengths_totals.nd ((si_rng2 (sa_cons se_int (sa_cons (se_bin r_add (se_var 1) se_int) sa_nil)) (fr _ (by decide)))).o (blkOk_by (N := N_Lengths_totals) (sc := (defScope s_Lengths_totals)) (by decide +kernel)) (fun _ _ _ _ _ => (sg_name 2 n_Lengths_totals.nd)) (fun _ _ _ _ _ _ => (sts_one (st_tru (se_meth m_Lengths_has_total (hr.mono (by decide)) thr0 (se_var 0) (sa_cons (se_var 2) sa_nil) (by decide))))) (fun _ _ _ _ _ _ => (se_var 2)) (by decide)) sa_nil)))))
abbrev s_Book___init__ : Stmt := mth 29 3
abbrev N_Book___init__ : List Str := ["self", "room", "lengths", "low", "bound", "looks", "cut", "side"]
theorem n_Book___init__ : FnScope N_Book___init__ ["self", "room", "lengths", "low", "bound", "looks", "cut", "side"] (defScope s_Book___init__) := ⟨rfl, rfl, rfl, by decide +kernel, rfl, by decide +kernel, by decide +kernel⟩
theorem ok_Book___init__ {P : Program} {w : World} {K : PySem.W.Frag} {mg : Str → Option Value} {base : Heap} (fr : ∀ x ∈ frees, mg x = none) (hk : ktB kt K = true) {f : Addr} {fd : FuncData} (F : FunD K "__init__" "Book.__init__" (defArgs s_Book___init__) (defBody s_Book___init__) (defScope s_Book___init__) [.str "own", .str "even", .str "left"] [] f fd) (h_is_within : Df P w K mg base CX0 nm 2 "is_within" S_is_within) (c_MOST_ROOM : ∃ t, mg "MOST_ROOM" = some (.int 60 t)) (g_Lengths : mg (Str.ofString "Lengths") = some (.ref (He.ga K (Str.ofString "Lengths")))) (cl_Lengths : Cls K (He.ga K (Str.ofString "Lengths"))) (na_Lengths_least : NoAttr K (He.ga K (Str.ofString "Lengths")) "least") (na_Lengths_greatest : NoAttr K (He.ga K (Str.ofString "Lengths")) "greatest") (h_need_word : Df P w K mg base CX0 nm 1 "need_word" S_need_word) (g_Book : mg (Str.ofString "Book") = some (.ref (He.ga K (Str.ofString "Book")))) (ct_Book_LOOKS : catB "Book" "LOOKS" [.str "own", .str "near"] K = true) (ct_Book_CUTS : catB "Book" "CUTS" [.str "even", .str "ahead", .str "put"] K = true) (ct_Book_SIDES : catB "Book" "SIDES" [.str "left", .str "right"] K = true) (cl_Book : Cls K (He.ga K (Str.ofString "Book"))) (na_Book_room : NoAttr K (He.ga K (Str.ofString "Book")) "room") (na_Book_lengths : NoAttr K (He.ga K (Str.ofString "Book")) "lengths") (na_Book_low : NoAttr K (He.ga K (Str.ofString "Book")) "low") (na_Book_bound : NoAttr K (He.ga K (Str.ofString "Book")) "bound") (na_Book_looks : NoAttr K (He.ga K (Str.ofString "Book")) "looks") (na_Book_cut : NoAttr K (He.ga K (Str.ofString "Book")) "cut") (na_Book_side : NoAttr K (He.ga K (Str.ofString "Book")) "side") (m_Lengths_totals : Dm P w K mg base CX0 nm 4 (Str.ofString "Lengths") "totals" S_Lengths_totals) (na_Book_own_sums : NoAttr K (He.ga K (Str.ofString "Book")) "own_sums") :
    FnOk P w K mg base CX0 5 f fd ["self", "room", "lengths", "low", "bound", "looks", "cut", "side"] (fun vs H Q _ => vs.length = 8 ∧ RI ⟨K, nm⟩ "Book" (phiI 8 8 "Book" m_Book___init__) vs H Q fun _ _ _ => False) :=
  init_n F n_Book___init__ (by decide) fun B cdv A outer s H E hr =>
    (ss_cons (ss_if (st_not (st_tru (se_call h_is_within (hr.mono (by decide)) thr0 (sa_cons (se_var 1) (sa_cons se_int (sa_cons (se_gint (by rfl) c_MOST_ROOM) sa_nil)))))) (ss_one ss_nev) ss_nil)
    (ss_cons (ss_if ((sw_or (st_not (st_tru (se_callB (c_isi hk) (fr _ (by decide)) (sa_cons (se_var 2) (sa_cons (se_gcl "Lengths" g_Lengths) sa_nil))))) (sw_or1 (st_cmp r_gt (se_bin r_add (se_fld (C := "Lengths") (k := 1) cl_Lengths na_Lengths_least (se_var 2) (by decide) (by rfl)) (se_fld (C := "Lengths") (k := 2) cl_Lengths na_Lengths_greatest (se_var 2) (by decide) (by rfl))) (se_var 1) (nomark _))))).pt (ss_one ss_nev) ss_nil)
    (ss_cons (ss_if (st_not (st_tru (se_call h_is_within (hr.mono (by decide)) thr0 (sa_cons (se_var 3) (sa_cons se_int (sa_cons (se_bin r_add (se_var 1) se_int) sa_nil)))))) (ss_one ss_nev) ss_nil)
    (ss_cons (ss_if (st_not (st_tru (se_call h_is_within (hr.mono (by decide)) thr0 (sa_cons (se_var 4) (sa_cons se_int (sa_cons (se_var 1) sa_nil)))))) (ss_one ss_nev) ss_nil)
    (ss_cons (ss_expr (se_call h_need_word (hr.mono (by decide)) thr0 (sa_cons (se_var 5) (sa_cons (se_cat "Book" [.str "own", .str "near"] ct_Book_LOOKS g_Book) (sa_cons se_str sa_nil)))))
    (ss_cons (ss_expr (se_call h_need_word (hr.mono (by decide)) thr0 (sa_cons (se_var 6) (sa_cons (se_cat "Book" [.str "even", .str "ahead", .str "put"] ct_Book_CUTS g_Book) (sa_cons se_str sa_nil)))))
    (ss_cons (ss_expr (se_call h_need_word (hr.mono (by decide)) thr0 (sa_cons (se_var 7) (sa_cons (se_cat "Book" [.str "left", .str "right"] ct_Book_SIDES g_Book) (sa_cons se_str sa_nil)))))
    (ss_cons (ss_fldO (C := "Book") (k := 0) cl_Book na_Book_room 0 (se_var 1) (by decide) (by rfl))
    (ss_cons (ss_fldO (C := "Book") (k := 1) cl_Book na_Book_lengths 0 (se_var 2) (by decide) (by rfl))
    (ss_cons (ss_fldO (C := "Book") (k := 2) cl_Book na_Book_low 0 (se_var 3) (by decide) (by rfl))
    (ss_cons (ss_fldO (C := "Book") (k := 3) cl_Book na_Book_bound 0 (se_var 4) (by decide) (by rfl))
    (ss_cons (ss_fldO (C := "Book") (k := 4) cl_Book na_Book_looks 0 (se_var 5) (by decide) (by rfl))
    (ss_cons (ss_fldO (C := "Book") (k := 5) cl_Book na_Book_cut 0 (se_var 6) (by decide) (by rfl))
    (ss_cons (ss_fldO (C := "Book") (k := 6) cl_Book na_Book_side 0 (se_var 7) (by decide) (by rfl))
    (ss_one (ss_fldO (C := "Book") (k := 7) cl_Book na_Book_own_sums 0 (se_meth m_Lengths_totals (hr.mono (by decide)) thr0 (se_var 2) (sa_cons (se_var 1) sa_nil) (by decide)) (by decide) (by rfl)))))))))))))))))
abbrev s_Book_read : Stmt := mth 29 4
abbrev N_Book_read : List Str := ["cls", "text", "words", "room", "spot", "found", "low", "bound", "at", "some"]
theorem n_Book_read : FnScope N_Book_read ["cls", "text"] (defScope s_Book_read) := ⟨rfl, rfl, rfl, by decide +kernel, rfl, by decide +kernel, by decide +kernel⟩
theorem ok_Book_read {P : Program} {w : World} {K : PySem.W.Frag} {mg : Str → Option Value} {base : Heap} (fr : ∀ x ∈ frees, mg x = none) (hk : ktB kt K = true) {f : Addr} {fd : FuncData} (F : FunD K "read" "Book.read" (defArgs s_Book_read) (defBody s_Book_read) (defScope s_Book_read) [] [] f fd) (h_need_head : Df P w K mg base CX0 nm 2 "need_head" S_need_head) (h_number_at : Df P w K mg base CX0 nm 2 "number_at" S_number_at) (c_MOST_ROOM : ∃ t, mg "MOST_ROOM" = some (.int 60 t)) (h_lengths_at : Df P w K mg base CX0 nm 3 "lengths_at" S_lengths_at) (g_Book : mg (Str.ofString "Book") = some (.ref (He.ga K (Str.ofString "Book")))) (ct_Book_SIDES : catB "Book" "SIDES" [.str "left", .str "right"] K = true) (ct_Book_CUTS : catB "Book" "CUTS" [.str "even", .str "ahead", .str "put"] K = true) (ct_Book_LOOKS : catB "Book" "LOOKS" [.str "own", .str "near"] K = true) (h_upcoming : Df P w K mg base CX0 nm 1 "upcoming" S_upcoming) (i_Book : Di P w K mg base CX0 nm 5 "Book" I_Book) (i_Lengths : Di P w K mg base CX0 nm 3 "Lengths" I_Lengths) :
    FnOk P w K mg base CX0 7 f fd ["cls", "text"] (fun vs H Q _ => vs.length = 2 ∧ RX ⟨K, nm⟩ (phi 2 10 m_Book_read) vs H Q fun _ _ _ => False) :=
  fn_n F n_Book_read fun B cdv A outer s H E hr =>
    (ss_cons (ss_set 2 (se_ifE (st_tru (se_callB (c_isi hk) (fr _ (by decide)) (sa_cons (se_var 1) (sa_cons (se_bty "str" (fr _ (by decide))) sa_nil)))) (se_split (se_var 1) se_str) (se_lst (sa_cons se_str sa_nil))) n_Book_read.nd)
    (ss_cons (ss_expr (se_call h_need_head (hr.mono (by decide)) thr0 (sa_cons (se_var 2) (sa_cons se_int (sa_cons se_str sa_nil)))))
    (ss_cons (ss_set 3 (se_call h_number_at (hr.mono (by decide)) thr0 (sa_cons (se_var 2) (sa_cons se_int (sa_cons se_int (sa_cons (se_gint (by rfl) c_MOST_ROOM) sa_nil))))) n_Book_read.nd)
    (ss_cons (ss_expr (se_call h_need_head (hr.mono (by decide)) thr0 (sa_cons (se_var 2) (sa_cons se_int (sa_cons se_str sa_nil)))))
    (ss_cons (ss_asg (se_call h_lengths_at (hr.mono (by decide)) thr0 (sa_cons (se_var 2) (sa_cons se_int (sa_cons (se_var 3) sa_nil)))) (sg_tup rfl (sgs_cons 4 n_Book_read.nd (sgs_cons 5 n_Book_read.nd sgs_nil))))
    (ss_cons (ss_expr (se_call h_need_head (hr.mono (by decide)) thr0 (sa_cons (se_var 2) (sa_cons (se_var 4) (sa_cons se_str sa_nil)))))
    (ss_cons (ss_set 6 (se_call h_number_at (hr.mono (by decide)) thr0 (sa_cons (se_var 2) (sa_cons (se_bin r_add (se_var 4) se_int) (sa_cons se_int (sa_cons (se_bin r_add (se_var 3) se_int) sa_nil))))) n_Book_read.nd)
    (ss_cons (ss_expr (se_call h_need_head (hr.mono (by decide)) thr0 (sa_cons (se_var 2) (sa_cons (se_bin r_add (se_var 4) se_int) (sa_cons se_str sa_nil)))))
    (ss_cons (ss_set 7 (se_call h_number_at (hr.mono (by decide)) thr0 (sa_cons (se_var 2) (sa_cons (se_bin r_add (se_var 4) se_int) (sa_cons se_int (sa_cons (se_var 3) sa_nil))))) n_Book_read.nd)
    (ss_cons (ss_for PassesOwn.never rfl (si_enum (se_tup (sa_cons (se_cat "Book" [.str "own", .str "near"] ct_Book_LOOKS g_Book) (sa_cons (se_cat "Book" [.str "even", .str "ahead", .str "put"] ct_Book_CUTS g_Book) (sa_cons (se_cat "Book" [.str "left", .str "right"] ct_Book_SIDES g_Book) sa_nil)))) (fr _ (by decide))) (sg_tup rfl (sgs_cons 8 n_Book_read.nd (sgs_cons 9 n_Book_read.nd sgs_nil))) (ss_one (ss_if (st_cmp (r_nin (u65 hr)) (se_call h_upcoming (hr.mono (by decide)) thr0 (sa_cons (se_var 2) (sa_cons (se_bin r_add (se_bin r_add (se_var 4) se_int) (se_var 8)) sa_nil))) (se_var 9) rfl) (ss_one ss_nev) ss_nil)))
    (ss_cons (ss_if (st_cmp r_gt (se_callB c_len (fr _ (by decide)) (sa_cons (se_var 2) sa_nil)) (se_bin r_add (se_var 4) se_int) (nomark _)) (ss_one ss_nev) ss_nil)
    (ss_one (ss_ret (se_c (i_Book.calD (hr.mono (by decide)) thr0) i_Book.g (sa_cons (se_var 3) (sa_cons (se_cS1 (i_Lengths.calD (hr.mono (by decide)) thr0) i_Lengths.g (se_var 5)) (sa_cons (se_var 6) (sa_cons (se_var 7) (sa_cons (se_ix (se_var 2) (se_bin r_add (se_var 4) se_int)) (sa_cons (se_ix (se_var 2) (se_bin r_add (se_var 4) se_int)) (sa_cons (se_ix (se_var 2) (se_bin r_add (se_var 4) se_int)) sa_nil)))))))))))))))))))))
abbrev s_Book_sums : Stmt := mth 29 5
abbrev N_Book_sums : List Str := ["self"]
theorem n_Book_sums : FnScope N_Book_sums ["self"] (defScope s_Book_sums) := ⟨rfl, rfl, rfl, by decide +kernel, rfl, by decide +kernel, by decide +kernel⟩
theorem ok_Book_sums {P : Program} {w : World} {K : PySem.W.Frag} {mg : Str → Option Value} {base : Heap} (fr : ∀ x ∈ frees, mg x = none) (hk : ktB kt K = true) {f : Addr} {fd : FuncData} (F : FunD K "sums" "Book.sums" (defArgs s_Book_sums) (defBody s_Book_sums) (defScope s_Book_sums) [] [] f fd) (cl_Book : Cls K (He.ga K (Str.ofString "Book"))) (na_Book_own_sums : NoAttr K (He.ga K (Str.ofString "Book")) "own_sums") :
    FnOk P w K mg base CX0 1 f fd ["self"] (fun vs H Q _ => vs.length = 1 ∧ RX ⟨K, nm⟩ (phi 1 1 m_Book_sums) vs H Q fun _ _ _ => False) :=
  fn_n F n_Book_sums fun B cdv A outer s H E hr =>
    (ss_one (ss_ret (se_fld (C := "Book") (k := 7) cl_Book na_Book_own_sums (se_var 0) (by decide) (by rfl))))
abbrev s_Book___call__ : Stmt := mth 29 7
abbrev N_Book___call__ : List Str := ["self", "x", "y"]
theorem n_Book___call__ : FnScope N_Book___call__ ["self", "x", "y"] (defScope s_Book___call__) := ⟨rfl, rfl, rfl, by decide +kernel, rfl, by decide +kernel, by decide +kernel⟩
theorem ok_Book___call__ {P : Program} {w : World} {K : PySem.W.Frag} {mg : Str → Option Value} {base : Heap} (fr : ∀ x ∈ frees, mg x = none) (hk : ktB kt K = true) {f : Addr} {fd : FuncData} (F : FunD K "__call__" "Book.__call__" (defArgs s_Book___call__) (defBody s_Book___call__) (defScope s_Book___call__) [] [] f fd) (h_is_integer : Df P w K mg base CX0 nm 1 "is_integer" S_is_integer) (cl_Book : Cls K (He.ga K (Str.ofString "Book"))) (na_Book_own_sums : NoAttr K (He.ga K (Str.ofString "Book")) "own_sums") (na_Book_bound : NoAttr K (He.ga K (Str.ofString "Book")) "bound") (na_Book_looks : NoAttr K (He.ga K (Str.ofString "Book")) "looks") (na_Book_low : NoAttr K (He.ga K (Str.ofString "Book")) "low") :
    FnOk P w K mg base CX0 2 f fd ["self", "x", "y"] (fun vs H Q _ => vs.length = 3 ∧ RX ⟨K, nm⟩ (phi 3 3 m_Book___call__) vs H Q fun _ _ _ => False) :=
  fn_n F n_Book___call__ fun B cdv A outer s H E hr =>
    (ss_cons (ss_if ((sw_or (st_not (st_tru (se_call h_is_integer (hr.mono (by decide)) thr0 (sa_cons (se_var 1) sa_nil)))) (sw_or (st_not (st_tru (se_call h_is_integer (hr.mono (by decide)) thr0 (sa_cons (se_var 2) sa_nil)))) (sw_or (st_cmp (r_nin (u65 hr)) (se_var 1) (se_fld (C := "Book") (k := 7) cl_Book na_Book_own_sums (se_var 0) (by decide) (by rfl)) rfl) (sw_or1 (st_cmp (r_nin (u65 hr)) (se_var 2) (se_fld (C := "Book") (k := 7) cl_Book na_Book_own_sums (se_var 0) (by decide) (by rfl)) rfl)))))).pt (ss_one (ss_ret se_bl)) ss_nil)
    (ss_cons (ss_if (st_cmp r_gt (se_bin r_add (se_var 1) (se_var 2)) (se_fld (C := "Book") (k := 3) cl_Book na_Book_bound (se_var 0) (by decide) (by rfl)) (nomark _)) (ss_one (ss_ret se_bl)) ss_nil)
    (ss_cons (ss_if (st_cmp (r_eq hr.units) (se_fld (C := "Book") (k := 4) cl_Book na_Book_looks (se_var 0) (by decide) (by rfl)) se_str (nomark _)) (ss_one (ss_ret (se_cmp r_ge (se_callB (c_max rfl) (fr _ (by decide)) (sa_cons (se_var 1) (sa_cons (se_var 2) sa_nil))) (se_fld (C := "Book") (k := 2) cl_Book na_Book_low (se_var 0) (by decide) (by rfl)) (nomark _)))) ss_nil)
    (ss_one (ss_ret (se_cmp r_ge (se_callB (c_min rfl) (fr _ (by decide)) (sa_cons (se_var 1) (sa_cons (se_var 2) sa_nil))) (se_fld (C := "Book") (k := 2) cl_Book na_Book_low (se_var 0) (by decide) (by rfl)) (nomark _)))))))
abbrev s_Book_but : Stmt := mth 29 9
abbrev N_Book_but : List Str := ["self", "parts", "name", "now"]
theorem n_Book_but : FnScope N_Book_but ["self", "parts"] (defScope s_Book_but) := ⟨rfl, rfl, rfl, by decide +kernel, rfl, by decide +kernel, by decide +kernel⟩
theorem ok_Book_but {P : Program} {w : World} {K : PySem.W.Frag} {mg : Str → Option Value} {base : Heap} (fr : ∀ x ∈ frees, mg x = none) (hk : ktB kt K = true) {f : Addr} {fd : FuncData} (F : FunD K "but" "Book.but" (defArgs s_Book_but) (defBody s_Book_but) (defScope s_Book_but) [] [] f fd) {ks : List Str} (hb : BindK "but" "Book.but" "self" "parts" (defArgs s_Book_but) (defBody s_Book_but) (defScope s_Book_but) ks) (hkn : keysNd ks = true) (g_NAMES : mg (Str.ofString "NAMES") = some (.ref (He.ga K (Str.ofString "NAMES")))) (t_NAMES : mtB (Str.ofString "NAMES") [.str "room", .str "lengths", .str "low", .str "bound", .str "looks", .str "cut", .str "side"] K = true) (cl_Book : Cls K (He.ga K (Str.ofString "Book"))) (na_Book_room : NoAttr K (He.ga K (Str.ofString "Book")) "room") (na_Book_lengths : NoAttr K (He.ga K (Str.ofString "Book")) "lengths") (na_Book_low : NoAttr K (He.ga K (Str.ofString "Book")) "low") (na_Book_bound : NoAttr K (He.ga K (Str.ofString "Book")) "bound") (na_Book_looks : NoAttr K (He.ga K (Str.ofString "Book")) "looks") (na_Book_cut : NoAttr K (He.ga K (Str.ofString "Book")) "cut") (na_Book_side : NoAttr K (He.ga K (Str.ofString "Book")) "side") (i_Book : Di P w K mg base CX0 nm 5 "Book" I_Book) :
    FnKwM P w K mg base CX0 nm 7 f ks (nx (kwdF ks (phi 2 4 m_Book_but))) :=
  kwd_of F n_Book_but hb hkn (fun B cdv A outer s H E hr =>
    (ss_cons (ss_forD PassesOwn.never rfl (sid_dic (se_var 1)) (sg_name 2 n_Book_but.nd) (fun _ => (ss_one (ss_if (st_cmp (r_nin (u65 hr)) (se_var 2) (se_gtup [.str "room", .str "lengths", .str "low", .str "bound", .str "looks", .str "cut", .str "side"] t_NAMES g_NAMES) rfl) (ss_one ss_nev) ss_nil))))
    (ss_cons (ss_set 3 (se_dictS (dk_cons (fun _ => (se_fld (C := "Book") (k := 0) cl_Book na_Book_room (se_var 0) (by decide) (by rfl))) (dk_cons (fun _ => (se_fld (C := "Book") (k := 1) cl_Book na_Book_lengths (se_var 0) (by decide) (by rfl))) (dk_cons (fun _ => (se_fld (C := "Book") (k := 2) cl_Book na_Book_low (se_var 0) (by decide) (by rfl))) (dk_cons (fun _ => (se_fld (C := "Book") (k := 3) cl_Book na_Book_bound (se_var 0) (by decide) (by rfl))) (dk_cons (fun _ => (se_fld (C := "Book") (k := 4) cl_Book na_Book_looks (se_var 0) (by decide) (by rfl))) (dk_cons (fun _ => (se_fld (C := "Book") (k := 5) cl_Book na_Book_cut (se_var 0) (by decide) (by rfl))) (dk_cons (fun _ => (se_fld (C := "Book") (k := 6) cl_Book na_Book_side (se_var 0) (by decide) (by rfl))) dk_nil))))))) (fun _ => (se_var 1))) n_Book_but.nd)
    (ss_one (ss_ret (se_c (i_Book.calD (hr.mono (by decide)) thr0) i_Book.g (sa_cons (se_ixD (u1 hr) (se_var 3) se_str) (sa_cons (se_ixD (u1 hr) (se_var 3) se_str) (sa_cons (se_ixD (u1 hr) (se_var 3) se_str) (sa_cons (se_ixD (u1 hr) (se_var 3) se_str) (sa_cons (se_ixD (u1 hr) (se_var 3) se_str) (sa_cons (se_ixD (u1 hr) (se_var 3) se_str) (sa_cons (se_ixD (u1 hr) (se_var 3) se_str) sa_nil))))))))))))) (nx_le _) (nx_no _)
abbrev s_Chain___init__ : Stmt := mth 42 0
abbrev N_Chain___init__ : List Str := ["self", "pages", "at", "page"]
theorem n_Chain___init__ : FnScope N_Chain___init__ ((["self"] : List Str) ++ [("pages" : Str)]) (defScope s_Chain___init__) := ⟨rfl, rfl, rfl, by decide +kernel, rfl, by decide +kernel, by decide +kernel⟩
theorem ok_Chain___init__ {P : Program} {w : World} {K : PySem.W.Frag} {mg : Str → Option Value} {base : Heap} (fr : ∀ x ∈ frees, mg x = none) (hk : ktB kt K = true) {f : Addr} {fd : FuncData} (F : FunD K "__init__" "Chain.__init__" (defArgs s_Chain___init__) (defBody s_Chain___init__) (defScope s_Chain___init__) [] [] f fd) (hb : BindS "__init__" "Chain.__init__" "pages" (defArgs s_Chain___init__) (defBody s_Chain___init__) (defScope s_Chain___init__) ["self"]) (h_are_rows : Df P w K mg base CX0 nm 3 "are_rows" S_are_rows) (c_MOST_PAGES : ∃ t, mg "MOST_PAGES" = some (.int 400 t)) (cl_Chain : Cls K (He.ga K (Str.ofString "Chain"))) (na_Chain_pages : NoAttr K (He.ga K (Str.ofString "Chain")) "pages") (h_rows_of : Df P w K mg base CX0 nm 1 "rows_of" S_rows_of) (na_Chain_rows : NoAttr K (He.ga K (Str.ofString "Chain")) "rows") (h_total_of : Df P w K mg base CX0 nm 1 "total_of" S_total_of) (na_Chain_size : NoAttr K (He.ga K (Str.ofString "Chain")) "size") :
    FnR P w K mg base CX0 4 f (fun vs H Q _ => RI ⟨K, nm⟩ "Chain" (starI 0 (phiI 2 4 "Chain" m_Chain___init__)) vs H Q fun _ _ _ => False) :=
  initS_n (sf := ("self" : Str)) (ps := ([] : List Str)) (pv := ("pages" : Str)) F n_Chain___init__ hb (fun B cdv A outer s H E hr =>
    (ss_cons (ss_for PassesOwn.never rfl (si_enum (se_var 1) (fr _ (by decide))) (sg_tup rfl (sgs_cons 2 n_Chain___init__.nd (sgs_cons 3 n_Chain___init__.nd sgs_nil))) (ss_one (ss_if ((sw_or (st_not (st_tru (se_call h_are_rows (hr.mono (by decide)) thr0 (sa_cons (se_var 3) sa_nil)))) (sw_or1 ((sw_and (st_cmp (r_eq hr.units) (se_callB c_len (fr _ (by decide)) (sa_cons (se_var 3) sa_nil)) se_int (nomark _)) (sw_and1 (st_cmp r_gt (se_callB c_len (fr _ (by decide)) (sa_cons (se_var 1) sa_nil)) se_int (nomark _))))).pt))).pt (ss_one ss_nev) ss_nil)))
    (ss_cons (ss_if (st_cmp (r_eq hr.units) (se_callB c_len (fr _ (by decide)) (sa_cons (se_var 1) sa_nil)) se_int (nomark _)) (ss_one ss_nev) ss_nil)
    (ss_cons (ss_if (st_cmp r_gt (se_callB c_len (fr _ (by decide)) (sa_cons (se_var 1) sa_nil)) (se_gint (by rfl) c_MOST_PAGES) (nomark _)) (ss_one ss_nev) ss_nil)
    (ss_cons (ss_fldO (C := "Chain") (k := 0) cl_Chain na_Chain_pages 0 (se_callTy c_tuple (fr _ (by decide)) (sa_cons (se_lc [("page", 3)] rfl n_Chain___init__.nd ((si_tup (se_var 1))).o (blkOk_by (N := N_Chain___init__) (sc := (defScope s_Chain___init__)) (by decide +kernel)) (fun _ _ _ _ _ => (sg_name 3 n_Chain___init__.nd)) (fun _ _ _ _ _ _ => sts_nil) (fun _ _ _ _ _ _ => (se_callTy c_tuple (fr _ (by decide)) (sa_cons (se_var 3) sa_nil))) (by decide)) sa_nil)) (by decide) (by rfl))
    (ss_cons (ss_fldO (C := "Chain") (k := 1) cl_Chain na_Chain_rows 0 (se_call h_rows_of (hr.mono (by decide)) thr0 (sa_cons (se_fldO (C := "Chain") (k := 0) cl_Chain na_Chain_pages 0 (by decide) (by rfl)) sa_nil)) (by decide) (by rfl))
    (ss_one (ss_fldO (C := "Chain") (k := 2) cl_Chain na_Chain_size 0 (se_call h_total_of (hr.mono (by decide)) thr0 (sa_cons (se_fldO (C := "Chain") (k := 1) cl_Chain na_Chain_rows 0 (by decide) (by rfl)) sa_nil)) (by decide) (by rfl))))))))) (by decide)
abbrev s_Chain_read : Stmt := mth 42 1
abbrev N_Chain_read : List Str := ["cls", "text", "pages"]
theorem n_Chain_read : FnScope N_Chain_read ["cls", "text"] (defScope s_Chain_read) := ⟨rfl, rfl, rfl, by decide +kernel, rfl, by decide +kernel, by decide +kernel⟩
theorem ok_Chain_read {P : Program} {w : World} {K : PySem.W.Frag} {mg : Str → Option Value} {base : Heap} (fr : ∀ x ∈ frees, mg x = none) (hk : ktB kt K = true) {f : Addr} {fd : FuncData} (F : FunD K "read" "Chain.read" (defArgs s_Chain_read) (defBody s_Chain_read) (defScope s_Chain_read) [] [] f fd) (h_pages_in : Df P w K mg base CX0 nm 2 "pages_in" S_pages_in) (i_Chain : Di P w K mg base CX0 nm 4 "Chain" I_Chain) :
    FnOk P w K mg base CX0 6 f fd ["cls", "text"] (fun vs H Q _ => vs.length = 2 ∧ RX ⟨K, nm⟩ (phi 2 3 m_Chain_read) vs H Q fun _ _ _ => False) :=
  fn_n F n_Chain_read fun B cdv A outer s H E hr =>
    (ss_cons (ss_set 2 (se_call h_pages_in (hr.mono (by decide)) thr0 (sa_cons (se_var 1) sa_nil)) n_Chain_read.nd)
    (ss_one (ss_ret (se_clsS 0 (i_Chain.calD (hr.mono (by decide)) thr0) (se_var 2)))))
abbrev s_Chain_sums : Stmt := mth 42 2
abbrev N_Chain_sums : List Str := ["self", "page"]
theorem n_Chain_sums : FnScope N_Chain_sums ["self"] (defScope s_Chain_sums) := ⟨rfl, rfl, rfl, by decide +kernel, rfl, by decide +kernel, by decide +kernel⟩
theorem ok_Chain_sums {P : Program} {w : World} {K : PySem.W.Frag} {mg : Str → Option Value} {base : Heap} (fr : ∀ x ∈ frees, mg x = none) (hk : ktB kt K = true) {f : Addr} {fd : FuncData} (F : FunD K "sums" "Chain.sums" (defArgs s_Chain_sums) (defBody s_Chain_sums) (defScope s_Chain_sums) [] [] f fd) (cl_Chain : Cls K (He.ga K (Str.ofString "Chain"))) (na_Chain_pages : NoAttr K (He.ga K (Str.ofString "Chain")) "pages") (h_total_of : Df P w K mg base CX0 nm 1 "total_of" S_total_of) :
    FnOk P w K mg base CX0 2 f fd ["self"] (fun vs H Q _ => vs.length = 1 ∧ RX ⟨K, nm⟩ (phi 1 2 m_Chain_sums) vs H Q fun _ _ _ => False) :=
  fn_n F n_Chain_sums fun B cdv A outer s H E hr =>
    (ss_one (ss_ret (se_callTy c_tuple (fr _ (by decide)) (sa_cons (se_lc [("page", 1)] rfl n_Chain_sums.nd ((si_tup (se_fld (C := "Chain") (k := 0) cl_Chain na_Chain_pages (se_var 0) (by decide) (by rfl)))).o (blkOk_by (N := N_Chain_sums) (sc := (defScope s_Chain_sums)) (by decide +kernel)) (fun _ _ _ _ _ => (sg_name 1 n_Chain_sums.nd)) (fun _ _ _ _ _ _ => sts_nil) (fun _ _ _ _ _ _ => (se_call h_total_of (hr.mono (by decide)) thr0 (sa_cons (se_var 1) sa_nil))) (by decide)) sa_nil))))
abbrev s_Chain___iter__ : Stmt := mth 42 5
theorem n_Chain___iter__ : FnScope ["self"] ["self"] (defScope s_Chain___iter__) := ⟨rfl, rfl, rfl, by decide +kernel, rfl, by decide +kernel, by decide +kernel⟩
theorem ok_Chain___iter__ {P : Program} {w : World} {K : PySem.W.Frag} {mg : Str → Option Value} {base : Heap} (fr : ∀ x ∈ frees, mg x = none) (hk : ktB kt K = true) {f : Addr} {fd : FuncData} (F : FunD K "__iter__" "Chain.__iter__" (defArgs s_Chain___iter__) (defBody s_Chain___iter__) (defScope s_Chain___iter__) [] [] f fd) (cl_Chain : Cls K (He.ga K (Str.ofString "Chain"))) (na_Chain_pages : NoAttr K (He.ga K (Str.ofString "Chain")) "pages") : FnIt P w K mg base 1 f "Chain" "pages" :=
  fnIt_of (sf := ("self" : Str)) F n_Chain___iter__ cl_Chain na_Chain_pages (fun _ _ _ _ _ _ _ => rfl) fun cdv A outer s H E => pss_one (ps_ret (pe_callB call_iterT (by rfl) (fr _ (by decide)) (by decide +kernel) (pa_cons (pe_fld (pe_var (i := 0) rfl (Or.inl rfl)) rfl) pa_nil)))
abbrev s_Chain_fits : Stmt := mth 42 13
abbrev N_Chain_fits : List Str := ["self", "book", "row", "total"]
theorem n_Chain_fits : FnScope N_Chain_fits ["self", "book"] (defScope s_Chain_fits) := ⟨rfl, rfl, rfl, by decide +kernel, rfl, by decide +kernel, by decide +kernel⟩
theorem ok_Chain_fits {P : Program} {w : World} {K : PySem.W.Frag} {mg : Str → Option Value} {base : Heap} (fr : ∀ x ∈ frees, mg x = none) (hk : ktB kt K = true) {f : Addr} {fd : FuncData} (F : FunD K "fits" "Chain.fits" (defArgs s_Chain_fits) (defBody s_Chain_fits) (defScope s_Chain_fits) [] [] f fd) (g_Book : mg (Str.ofString "Book") = some (.ref (He.ga K (Str.ofString "Book")))) (cl_Chain : Cls K (He.ga K (Str.ofString "Chain"))) (na_Chain_rows : NoAttr K (He.ga K (Str.ofString "Chain")) "rows") (cl_Book : Cls K (He.ga K (Str.ofString "Book"))) (na_Book_lengths : NoAttr K (He.ga K (Str.ofString "Book")) "lengths") (m_Lengths___contains__ : Dm P w K mg base CX0 nm 3 (Str.ofString "Lengths") "__contains__" S_Lengths___contains__) (p_Chain_sums : Dp P w K mg base CX0 nm 2 "Chain" "sums" S_Chain_sums) (na_Book_room : NoAttr K (He.ga K (Str.ofString "Book")) "room") :
    FnOk P w K mg base CX0 4 f fd ["self", "book"] (fun vs H Q _ => vs.length = 2 ∧ RX ⟨K, nm⟩ (phi 2 4 m_Chain_fits) vs H Q fun _ _ _ => False) :=
  fn_n F n_Chain_fits fun B cdv A outer s H E hr =>
    (ss_cons (ss_if (st_not (st_tru (se_callB (c_isi hk) (fr _ (by decide)) (sa_cons (se_var 1) (sa_cons (se_gcl "Book" g_Book) sa_nil))))) (ss_one ss_nev) ss_nil)
    (ss_cons (ss_if (st_not (st_tru (se_callB (c_all rfl) (fr _ (by decide)) (sa_cons (se_lc [("row", 2)] rfl n_Chain_fits.nd ((si_tup (se_fld (C := "Chain") (k := 1) cl_Chain na_Chain_rows (se_var 0) (by decide) (by rfl)))).o (blkOk_by (N := N_Chain_fits) (sc := (defScope s_Chain_fits)) (by decide +kernel)) (fun _ _ _ _ _ => (sg_name 2 n_Chain_fits.nd)) (fun _ _ _ _ _ _ => sts_nil) (fun _ _ _ _ _ _ => (se_inO m_Lengths___contains__ (hr.mono (by decide)) (se_var 2) (se_fld (C := "Book") (k := 1) cl_Book na_Book_lengths (se_var 1) (by decide) (by rfl)))) (by decide)) sa_nil)))) (ss_one (ss_ret se_bl)) ss_nil)
    (ss_one (ss_ret (se_callB (c_all rfl) (fr _ (by decide)) (sa_cons (se_lc [("total", 3)] rfl n_Chain_fits.nd ((si_tup (se_prop p_Chain_sums (hr.mono (by decide)) pass0 (se_var 0)))).o (blkOk_by (N := N_Chain_fits) (sc := (defScope s_Chain_fits)) (by decide +kernel)) (fun _ _ _ _ _ => (sg_name 3 n_Chain_fits.nd)) (fun _ _ _ _ _ _ => sts_nil) (fun _ _ _ _ _ _ => (se_cmp r_le (se_var 3) (se_fld (C := "Book") (k := 0) cl_Book na_Book_room (se_var 1) (by decide) (by rfl)) (nomark _))) (by decide)) sa_nil))))))
abbrev s_need_book : Stmt := top 30
abbrev N_need_book : List Str := ["book", "part"]
theorem n_need_book : FnScope N_need_book ["book", "part"] (defScope s_need_book) := ⟨rfl, rfl, rfl, by decide +kernel, rfl, by decide +kernel, by decide +kernel⟩
theorem ok_need_book {P : Program} {w : World} {K : PySem.W.Frag} {mg : Str → Option Value} {base : Heap} (fr : ∀ x ∈ frees, mg x = none) (hk : ktB kt K = true) {f : Addr} {fd : FuncData} (F : FunD K "need_book" "need_book" (defArgs s_need_book) (defBody s_need_book) (defScope s_need_book) [] [] f fd) (g_Book : mg (Str.ofString "Book") = some (.ref (He.ga K (Str.ofString "Book")))) :
    FnOk P w K mg base CX0 1 f fd ["book", "part"] (fun vs H Q _ => vs.length = 2 ∧ RX ⟨K, nm⟩ (phi 2 2 m_need_book) vs H Q fun _ _ _ => False) :=
  fn_n F n_need_book fun B cdv A outer s H E hr =>
    (ss_one (ss_if (st_not (st_tru (se_callB (c_isi hk) (fr _ (by decide)) (sa_cons (se_var 0) (sa_cons (se_gcl "Book" g_Book) sa_nil))))) (ss_one ss_nev) ss_nil))
abbrev s_all_pairs : Stmt := top 45
abbrev N_all_pairs : List Str := ["book", "one", "other"]
theorem n_all_pairs : FnScope N_all_pairs ["book"] (defScope s_all_pairs) := ⟨rfl, rfl, rfl, by decide +kernel, rfl, by decide +kernel, by decide +kernel⟩
theorem ok_all_pairs {P : Program} {w : World} {K : PySem.W.Frag} {mg : Str → Option Value} {base : Heap} (fr : ∀ x ∈ frees, mg x = none) (hk : ktB kt K = true) {f : Addr} {fd : FuncData} (F : FunD K "all_pairs" "all_pairs" (defArgs s_all_pairs) (defBody s_all_pairs) (defScope s_all_pairs) [] [] f fd) (p_Book_sums : Dp P w K mg base CX0 nm 1 "Book" "sums" S_Book_sums) :
    FnOk P w K mg base CX0 3 f fd ["book"] (fun vs H Q _ => vs.length = 1 ∧ RX ⟨K, nm⟩ (phi 1 3 m_all_pairs) vs H Q fun _ _ _ => False) :=
  fn_n F n_all_pairs fun B cdv A outer s H E hr =>
    (ss_one (ss_ret (se_lc2 [("one", 1), ("other", 2)] [2] rfl n_all_pairs.nd ((si_tup (se_prop p_Book_sums (hr.mono (by decide)) pass0 (se_var 0)))).o (blkOk_by (N := N_all_pairs) (sc := (defScope s_all_pairs)) (by decide +kernel)) (fun _ _ _ _ _ => (sg_name 1 n_all_pairs.nd)) (fun _ _ _ _ _ _ => sts_nil) (fun _ _ _ _ _ _ => (si_tup (se_prop p_Book_sums (hr.mono (by decide)) pass0 (se_var 0)))) (fun _ _ _ _ _ => (sg_name 2 n_all_pairs.nd)) (fun _ _ _ _ _ _ => (sts_one (st_cmp r_le (se_var 1) (se_var 2) (nomark _)))) (fun _ _ _ _ _ _ => (se_tup (sa_cons (se_var 1) (sa_cons (se_var 2) sa_nil)))) (by decide) (by decide) (by decide))))
abbrev s_barred_pairs : Stmt := top 46
abbrev N_barred_pairs : List Str := ["book", "pair"]
theorem n_barred_pairs : FnScope N_barred_pairs ["book"] (defScope s_barred_pairs) := ⟨rfl, rfl, rfl, by decide +kernel, rfl, by decide +kernel, by decide +kernel⟩
theorem ok_barred_pairs {P : Program} {w : World} {K : PySem.W.Frag} {mg : Str → Option Value} {base : Heap} (fr : ∀ x ∈ frees, mg x = none) (hk : ktB kt K = true) {f : Addr} {fd : FuncData} (F : FunD K "barred_pairs" "barred_pairs" (defArgs s_barred_pairs) (defBody s_barred_pairs) (defScope s_barred_pairs) [] [] f fd) (h_all_pairs : Df P w K mg base CX0 nm 3 "all_pairs" S_all_pairs) (o_Book : Do P w K mg base CX0 nm 2 "Book" S_Book___call__) :
    FnOk P w K mg base CX0 4 f fd ["book"] (fun vs H Q _ => vs.length = 1 ∧ RX ⟨K, nm⟩ (phi 1 2 m_barred_pairs) vs H Q fun _ _ _ => False) :=
  fn_n F n_barred_pairs fun B cdv A outer s H E hr =>
    (ss_one (ss_ret (se_lc [("pair", 1)] rfl n_barred_pairs.nd ((si_list (se_call h_all_pairs (hr.mono (by decide)) thr0 (sa_cons (se_var 0) sa_nil)))).o (blkOk_by (N := N_barred_pairs) (sc := (defScope s_barred_pairs)) (by decide +kernel)) (fun _ _ _ _ _ => (sg_name 1 n_barred_pairs.nd)) (fun _ _ _ _ _ _ => (sts_one (st_not (st_tru (se_callO o_Book (hr.mono (by decide)) thr0 (se_var 0) (sa_cons (se_ix (se_var 1) se_int) (sa_cons (se_ix (se_var 1) se_int) sa_nil))))))) (fun _ _ _ _ _ _ => (se_var 1)) (by decide))))
abbrev s_plain_of : Stmt := top 47
abbrev N_plain_of : List Str := ["book", "pairs", "at", "pair"]
theorem n_plain_of : FnScope N_plain_of ["book", "pairs"] (defScope s_plain_of) := ⟨rfl, rfl, rfl, by decide +kernel, rfl, by decide +kernel, by decide +kernel⟩
theorem ok_plain_of {P : Program} {w : World} {K : PySem.W.Frag} {mg : Str → Option Value} {base : Heap} (fr : ∀ x ∈ frees, mg x = none) (hk : ktB kt K = true) {f : Addr} {fd : FuncData} (F : FunD K "plain_of" "plain_of" (defArgs s_plain_of) (defBody s_plain_of) (defScope s_plain_of) [] [] f fd) (cl_Book : Cls K (He.ga K (Str.ofString "Book"))) (na_Book_looks : NoAttr K (He.ga K (Str.ofString "Book")) "looks") :
    FnOk P w K mg base CX0 1 f fd ["book", "pairs"] (fun vs H Q _ => vs.length = 2 ∧ RX ⟨K, nm⟩ (phi 2 4 m_plain_of) vs H Q fun _ _ _ => False) :=
  fn_n F n_plain_of fun B cdv A outer s H E hr =>
    (ss_cons (ss_if (st_cmp (r_eq hr.units) (se_var 1) (se_lst sa_nil) (nomark _)) (ss_one (ss_ret (se_tup (sa_cons se_int (sa_cons se_int sa_nil))))) ss_nil)
    (ss_cons (ss_set 2 (se_ifE (st_cmp (r_eq hr.units) (se_fld (C := "Book") (k := 4) cl_Book na_Book_looks (se_var 0) (by decide) (by rfl)) se_str (nomark _)) se_int se_int) n_plain_of.nd)
    (ss_one (ss_ret (se_tup (sa_cons (se_bin r_add (se_callB (c_max rfl) (fr _ (by decide)) (sa_cons (se_lc [("pair", 3)] rfl n_plain_of.nd ((si_list (se_var 1))).o (blkOk_by (N := N_plain_of) (sc := (defScope s_plain_of)) (by decide +kernel)) (fun _ _ _ _ _ => (sg_name 3 n_plain_of.nd)) (fun _ _ _ _ _ _ => sts_nil) (fun _ _ _ _ _ _ => (se_callTy c_int (fr _ (by decide)) (sa_cons (se_ix (se_var 3) (se_var 2)) sa_nil))) (by decide)) sa_nil)) se_int) (sa_cons (se_callB (c_max rfl) (fr _ (by decide)) (sa_cons (se_lc [("pair", 3)] rfl n_plain_of.nd ((si_list (se_var 1))).o (blkOk_by (N := N_plain_of) (sc := (defScope s_plain_of)) (by decide +kernel)) (fun _ _ _ _ _ => (sg_name 3 n_plain_of.nd)) (fun _ _ _ _ _ _ => sts_nil) (fun _ _ _ _ _ _ => (se_callTy c_int (fr _ (by decide)) (sa_cons (se_bin r_add (se_ix (se_var 3) se_int) (se_ix (se_var 3) se_int)) sa_nil))) (by decide)) sa_nil)) sa_nil)))))))
abbrev s_need_chains : Stmt := top 48
abbrev N_need_chains : List Str := ["book", "chains", "at", "chain"]
theorem n_need_chains : FnScope N_need_chains ["book", "chains"] (defScope s_need_chains) := ⟨rfl, rfl, rfl, by decide +kernel, rfl, by decide +kernel, by decide +kernel⟩
theorem ok_need_chains {P : Program} {w : World} {K : PySem.W.Frag} {mg : Str → Option Value} {base : Heap} (fr : ∀ x ∈ frees, mg x = none) (hk : ktB kt K = true) {f : Addr} {fd : FuncData} (F : FunD K "need_chains" "need_chains" (defArgs s_need_chains) (defBody s_need_chains) (defScope s_need_chains) [] [] f fd) (g_Chain : mg (Str.ofString "Chain") = some (.ref (He.ga K (Str.ofString "Chain")))) (m_Chain_fits : Dm P w K mg base CX0 nm 4 (Str.ofString "Chain") "fits" S_Chain_fits) :
    FnOk P w K mg base CX0 5 f fd ["book", "chains"] (fun vs H Q _ => vs.length = 2 ∧ RX ⟨K, nm⟩ (phi 2 4 m_need_chains) vs H Q fun _ _ _ => False) :=
  fn_n F n_need_chains fun B cdv A outer s H E hr =>
    (ss_one (ss_for PassesOwn.never rfl (si_enum (se_var 1) (fr _ (by decide))) (sg_tup rfl (sgs_cons 2 n_need_chains.nd (sgs_cons 3 n_need_chains.nd sgs_nil))) (ss_one (ss_if ((sw_or (st_not (st_tru (se_callB (c_isi hk) (fr _ (by decide)) (sa_cons (se_var 3) (sa_cons (se_gcl "Chain" g_Chain) sa_nil))))) (sw_or1 (st_not (st_tru (se_meth m_Chain_fits (hr.mono (by decide)) thr0 (se_var 3) (sa_cons (se_var 0) sa_nil) (by decide))))))).pt (ss_one ss_nev) ss_nil))))
abbrev s_seen_pairs : Stmt := top 49
abbrev N_seen_pairs : List Str := ["chains", "found", "chain", "sums", "pair"]
theorem n_seen_pairs : FnScope N_seen_pairs ["chains"] (defScope s_seen_pairs) := ⟨rfl, rfl, rfl, by decide +kernel, rfl, by decide +kernel, by decide +kernel⟩
theorem ok_seen_pairs {P : Program} {w : World} {K : PySem.W.Frag} {mg : Str → Option Value} {base : Heap} (fr : ∀ x ∈ frees, mg x = none) (hk : ktB kt K = true) {f : Addr} {fd : FuncData} (F : FunD K "seen_pairs" "seen_pairs" (defArgs s_seen_pairs) (defBody s_seen_pairs) (defScope s_seen_pairs) [] [] f fd) (p_Chain_sums : Dp P w K mg base CX0 nm 2 "Chain" "sums" S_Chain_sums) :
    FnOk P w K mg base CX0 4 f fd ["chains"] (fun vs H Q _ => vs.length = 1 ∧ RX ⟨K, nm⟩ (phi 1 5 m_seen_pairs) vs H Q fun _ _ _ => False) :=
  fn_n F n_seen_pairs fun B cdv A outer s H E hr =>
    (ss_cons (ss_set 1 (se_lst sa_nil) n_seen_pairs.nd)
    (ss_cons (ss_for PassesOwn.never rfl (si_tup (se_var 0)) (sg_name 2 n_seen_pairs.nd) (ss_cons (ss_set 3 (se_prop p_Chain_sums (hr.mono (by decide)) pass0 (se_var 2)) n_seen_pairs.nd)
    (ss_one (ss_set 1 (se_bin r_add (se_var 1) (se_lc [("pair", 4)] rfl n_seen_pairs.nd ((si_zipN (sa_cons (se_var 3) (sa_cons (se_slice (se_var 3) (sp_so se_int) sp_no) sa_nil)) (fr _ (by decide)))).o (blkOk_by (N := N_seen_pairs) (sc := (defScope s_seen_pairs)) (by decide +kernel)) (fun _ _ _ _ _ => (sg_name 4 n_seen_pairs.nd)) (fun _ _ _ _ _ _ => (sts_one (st_cmp (r_nin (u65 hr)) (se_var 4) (se_var 1) rfl))) (fun _ _ _ _ _ _ => (se_var 4)) (by decide))) n_seen_pairs.nd))))
    (ss_one (ss_ret (se_var 1)))))
abbrev s_bound_for : Stmt := top 50
abbrev N_bound_for : List Str := ["book", "low", "pairs", "at", "sums", "pair", "number"]
theorem n_bound_for : FnScope N_bound_for ["book", "low", "pairs"] (defScope s_bound_for) := ⟨rfl, rfl, rfl, by decide +kernel, rfl, by decide +kernel, by decide +kernel⟩
theorem ok_bound_for {P : Program} {w : World} {K : PySem.W.Frag} {mg : Str → Option Value} {base : Heap} (fr : ∀ x ∈ frees, mg x = none) (hk : ktB kt K = true) {f : Addr} {fd : FuncData} (F : FunD K "bound_for" "bound_for" (defArgs s_bound_for) (defBody s_bound_for) (defScope s_bound_for) [] [] f fd) (cl_Book : Cls K (He.ga K (Str.ofString "Book"))) (na_Book_looks : NoAttr K (He.ga K (Str.ofString "Book")) "looks") (na_Book_room : NoAttr K (He.ga K (Str.ofString "Book")) "room") :
    FnOk P w K mg base CX0 1 f fd ["book", "low", "pairs"] (fun vs H Q _ => vs.length = 3 ∧ RX ⟨K, nm⟩ (phi 3 7 m_bound_for) vs H Q fun _ _ _ => False) :=
  fn_n F n_bound_for fun B cdv A outer s H E hr =>
    (ss_cons (ss_set 3 (se_ifE (st_cmp (r_eq hr.units) (se_fld (C := "Book") (k := 4) cl_Book na_Book_looks (se_var 0) (by decide) (by rfl)) se_str (nomark _)) se_int se_int) n_bound_for.nd)
    (ss_cons (ss_setLc 4 [("pair", 5)] rfl n_bound_for.nd ((si_list (se_var 2))).o (blkOk_by (N := N_bound_for) (sc := (defScope s_bound_for)) (by decide +kernel)) (fun _ _ _ _ _ => (sg_name 5 n_bound_for.nd)) (fun _ _ _ _ _ _ => (sts_one (st_cmp r_lt (se_ix (se_callB c_sortedT (fr _ (by decide)) (sa_cons (se_var 5) sa_nil)) (se_var 3)) (se_var 1) (nomark _)))) (fun _ _ _ _ _ _ => (se_callTy c_int (fr _ (by decide)) (sa_cons (se_bin r_add (se_ix (se_var 5) se_int) (se_ix (se_var 5) se_int)) sa_nil))) (by decide))
    (ss_one (ss_ret (se_callB (c_min rfl) (fr _ (by decide)) (sa_cons (se_bin r_add (se_lst (sa_cons (se_callTy c_int (fr _ (by decide)) (sa_cons (se_fld (C := "Book") (k := 0) cl_Book na_Book_room (se_var 0) (by decide) (by rfl)) sa_nil)) sa_nil)) (se_lc [("number", 6)] rfl n_bound_for.nd ((si_list (se_var 4))).o (blkOk_by (N := N_bound_for) (sc := (defScope s_bound_for)) (by decide +kernel)) (fun _ _ _ _ _ => (sg_name 6 n_bound_for.nd)) (fun _ _ _ _ _ _ => sts_nil) (fun _ _ _ _ _ _ => (se_bin r_sub (se_var 6) se_int)) (by decide))) sa_nil))))))
abbrev s_is_greater : Stmt := top 52
abbrev N_is_greater : List Str := ["one", "other"]
theorem n_is_greater : FnScope N_is_greater ["one", "other"] (defScope s_is_greater) := ⟨rfl, rfl, rfl, by decide +kernel, rfl, by decide +kernel, by decide +kernel⟩
theorem ok_is_greater {P : Program} {w : World} {K : PySem.W.Frag} {mg : Str → Option Value} {base : Heap} (fr : ∀ x ∈ frees, mg x = none) (hk : ktB kt K = true) {f : Addr} {fd : FuncData} (F : FunD K "is_greater" "is_greater" (defArgs s_is_greater) (defBody s_is_greater) (defScope s_is_greater) [] [] f fd) :
    FnOk P w K mg base CX0 1 f fd ["one", "other"] (fun vs H Q _ => vs.length = 2 ∧ RX ⟨K, nm⟩ (phi 2 2 m_is_greater) vs H Q fun _ _ _ => False) :=
  fn_n F n_is_greater fun B cdv A outer s H E hr =>
    (ss_one (ss_ret (se_and (se_cmp (r_ne hr.units) (se_var 0) (se_var 1) (nomark _)) (se_and (se_cmp r_ge (se_ix (se_var 0) se_int) (se_ix (se_var 1) se_int) (nomark _)) (se_one (se_cmp r_ge (se_ix (se_var 0) se_int) (se_ix (se_var 1) se_int) (nomark _)))))))
abbrev s_tight_settings : Stmt := top 51
abbrev N_tight_settings : List Str := ["book", "pairs", "found", "low", "other", "setting", "best", "one"]
theorem n_tight_settings : FnScope N_tight_settings ["book", "pairs"] (defScope s_tight_settings) := ⟨rfl, rfl, rfl, by decide +kernel, rfl, by decide +kernel, by decide +kernel⟩
theorem ok_tight_settings {P : Program} {w : World} {K : PySem.W.Frag} {mg : Str → Option Value} {base : Heap} (fr : ∀ x ∈ frees, mg x = none) (hk : ktB kt K = true) {f : Addr} {fd : FuncData} (F : FunD K "tight_settings" "tight_settings" (defArgs s_tight_settings) (defBody s_tight_settings) (defScope s_tight_settings) [] [] f fd) (cl_Book : Cls K (He.ga K (Str.ofString "Book"))) (na_Book_room : NoAttr K (He.ga K (Str.ofString "Book")) "room") (x_Book_but_low_bound : Dmk P w K mg base CX0 nm 7 (Str.ofString "Book") "but" ["low", "bound"] S_Book_but_low_bound) (h_bound_for : Df P w K mg base CX0 nm 1 "bound_for" S_bound_for) (h_plain_of : Df P w K mg base CX0 nm 1 "plain_of" S_plain_of) (h_barred_pairs : Df P w K mg base CX0 nm 4 "barred_pairs" S_barred_pairs) (h_is_greater : Df P w K mg base CX0 nm 1 "is_greater" S_is_greater) :
    FnOk P w K mg base CX0 8 f fd ["book", "pairs"] (fun vs H Q _ => vs.length = 2 ∧ RX ⟨K, nm⟩ (phi 2 8 m_tight_settings) vs H Q fun _ _ _ => False) :=
  fn_n F n_tight_settings fun B cdv A outer s H E hr =>
    (ss_cons (ss_own 2 sa_nil n_tight_settings.nd)
    (ss_cons (ss_for PassesOwn.never rfl (si_rng1 (sa_cons (se_bin r_add (se_fld (C := "Book") (k := 0) cl_Book na_Book_room (se_var 0) (by decide) (by rfl)) se_int) sa_nil) (fr _ (by decide))) (sg_name 3 n_tight_settings.nd) (ss_cons (ss_set 4 (se_methK x_Book_but_low_bound (hr.mono (by decide)) thr0 (se_var 0) (sk_cons (se_var 3) (sk_cons (se_call h_bound_for (hr.mono (by decide)) thr0 (sa_cons (se_var 0) (sa_cons (se_var 3) (sa_cons (se_var 1) sa_nil)))) sk_nil)) (by decide)) n_tight_settings.nd)
    (ss_cons (ss_set 5 (se_call h_plain_of (hr.mono (by decide)) thr0 (sa_cons (se_var 4) (sa_cons (se_call h_barred_pairs (hr.mono (by decide)) thr0 (sa_cons (se_var 4) sa_nil)) sa_nil))) n_tight_settings.nd)
    (ss_one (ss_if (st_ninO 2 (u65 hr) (se_var 5)) (ss_one (ss_app 2 (se_var 5))) ss_nil)))))
    (ss_cons (ss_frz 2 (ss_setLc 6 [("one", 7)] rfl n_tight_settings.nd ((si_list (se_var 2))).o (blkOk_by (N := N_tight_settings) (sc := (defScope s_tight_settings)) (by decide +kernel)) (fun _ _ _ _ _ => (sg_name 7 n_tight_settings.nd)) (fun _ _ _ _ _ _ => (sts_one (st_not (st_tru (se_callB (c_any rfl) (fr _ (by decide)) (sa_cons (se_lc [("other", 4)] rfl n_tight_settings.nd ((si_list (se_var 2))).o (blkOk_by (by rfl)) (fun _ _ _ _ _ => (sg_name 4 n_tight_settings.nd)) (fun _ _ _ _ _ _ => sts_nil) (fun _ _ _ _ _ _ => (se_call h_is_greater (hr.mono (by decide)) thr0 (sa_cons (se_var 4) (sa_cons (se_var 7) sa_nil)))) (by decide)) sa_nil)))))) (fun _ _ _ _ _ _ => (se_var 7)) (by decide)))
    (ss_one (ss_ret (se_callTy c_tuple (fr _ (by decide)) (sa_cons (se_callB c_sortedP (fr _ (by decide)) (sa_cons (se_var 6) sa_nil)) sa_nil)))))))
abbrev s_tight : Stmt := top 53
abbrev N_tight : List Str := ["book", "chains"]
theorem n_tight : FnScope N_tight ((["book"] : List Str) ++ [("chains" : Str)]) (defScope s_tight) := ⟨rfl, rfl, rfl, by decide +kernel, rfl, by decide +kernel, by decide +kernel⟩
theorem ok_tight {P : Program} {w : World} {K : PySem.W.Frag} {mg : Str → Option Value} {base : Heap} (fr : ∀ x ∈ frees, mg x = none) (hk : ktB kt K = true) {f : Addr} {fd : FuncData} (F : FunD K "tight" "tight" (defArgs s_tight) (defBody s_tight) (defScope s_tight) [] [] f fd) (hb : BindS "tight" "tight" "chains" (defArgs s_tight) (defBody s_tight) (defScope s_tight) ["book"]) (h_need_book : Df P w K mg base CX0 nm 1 "need_book" S_need_book) (h_need_chains : Df P w K mg base CX0 nm 5 "need_chains" S_need_chains) (h_tight_settings : Df P w K mg base CX0 nm 8 "tight_settings" S_tight_settings) (h_seen_pairs : Df P w K mg base CX0 nm 4 "seen_pairs" S_seen_pairs) :
    FnR P w K mg base CX0 9 f (fun vs H Q _ => RX ⟨K, nm⟩ (starF 1 (phi 2 2 m_tight)) vs H Q fun _ _ _ => False) :=
  fnS_n (ps := (["book"] : List Str)) (pv := ("chains" : Str)) F n_tight hb fun B cdv A outer s H E hr =>
    (ss_cons (ss_expr (se_call h_need_book (hr.mono (by decide)) thr0 (sa_cons (se_var 0) (sa_cons se_str sa_nil))))
    (ss_cons (ss_expr (se_call h_need_chains (hr.mono (by decide)) thr0 (sa_cons (se_var 0) (sa_cons (se_var 1) sa_nil))))
    (ss_one (ss_ret (se_call h_tight_settings (hr.mono (by decide)) thr0 (sa_cons (se_var 0) (sa_cons (se_call h_seen_pairs (hr.mono (by decide)) thr0 (sa_cons (se_var 1) sa_nil)) sa_nil)))))))
abbrev s__law_pen : Stmt := top 55
abbrev N__law_pen : List Str := ["_law_script"]
theorem n__law_pen : FnScope N__law_pen ["_law_script"] (defScope s__law_pen) := ⟨rfl, rfl, rfl, by decide +kernel, rfl, by decide +kernel, by decide +kernel⟩
theorem ok__law_pen {P : Program} {w : World} {K : PySem.W.Frag} {mg : Str → Option Value} {base : Heap} (fr : ∀ x ∈ frees, mg x = none) (hk : ktB kt K = true) {f : Addr} {fd : FuncData} (F : FunD K "_law_pen" "_law_pen" (defArgs s__law_pen) (defBody s__law_pen) (defScope s__law_pen) [] [] f fd) :
    FnOk P w K mg base CX0 1 f fd ["_law_script"] (fun vs H Q _ => vs.length = 1 ∧ RX ⟨K, nm⟩ (phi 1 1 m__law_pen) vs H Q fun _ _ _ => False) :=
  fn_n F n__law_pen fun B cdv A outer s H E hr =>
    (ss_one (ss_ret (se_lstH (sa_cons (se_callTy c_list (fr _ (by decide)) (sa_cons (se_slice (se_var 0) sp_no (sp_so se_int)) sa_nil)) (sa_cons se_int (sa_cons se_int sa_nil))))))
abbrev s__law_draw : Stmt := top 56
abbrev N__law_draw : List Str := ["_law_pen_here", "_law_many", "_law_digit", "_law_at", "_law_cell", "_law_great", "_law_mixed"]
theorem n__law_draw : FnScope N__law_draw ["_law_pen_here", "_law_many"] (defScope s__law_draw) := ⟨rfl, rfl, rfl, by decide +kernel, rfl, by decide +kernel, by decide +kernel⟩
theorem ok__law_draw {P : Program} {w : World} {K : PySem.W.Frag} {mg : Str → Option Value} {base : Heap} (fr : ∀ x ∈ frees, mg x = none) (hk : ktB kt K = true) {f : Addr} {fd : FuncData} (F : FunD K "_law_draw" "_law_draw" (defArgs s__law_draw) (defBody s__law_draw) (defScope s__law_draw) [] [] f fd) :
    FnOk P w K mg base CX0 1 f fd ["_law_pen_here", "_law_many"] (fun vs H Q _ => vs.length = 2 ∧ RX ⟨K, nm⟩ (phi 2 7 m__law_draw) vs H Q fun _ _ _ => False) :=
  fn_n F n__law_draw fun B cdv A outer s H E hr =>
    (ss_cons (ss_if (st_cmp r_gt (se_ixH (se_var 0) se_int) se_int (nomark _)) (ss_cons (ss_set 2 (se_bin r_mod (se_callTy c_int (fr _ (by decide)) (sa_cons (se_ixH (se_var 0) se_int) sa_nil)) (se_var 1)) n__law_draw.nd)
    (ss_cons (ss_putH (se_bin r_fdiv (se_callTy c_int (fr _ (by decide)) (sa_cons (se_ixH (se_var 0) se_int) sa_nil)) (se_var 1)) (se_var 0) se_int)
    (ss_one (ss_ret (se_var 2))))) ss_nil)
    (ss_cons (ss_set 3 (se_ixH (se_var 0) se_int) n__law_draw.nd)
    (ss_cons (ss_putH (se_bin r_add (se_var 3) se_int) (se_var 0) se_int)
    (ss_cons (ss_set 4 (se_bin r_add (se_bin r_mul se_int (se_var 3)) se_int) n__law_draw.nd)
    (ss_cons (ss_if (st_cmp (r_ne hr.units) (se_ixH (se_var 0) se_int) (se_lst sa_nil) (nomark _)) (ss_one (ss_set 4 (se_ix (se_ixH (se_var 0) se_int) (se_bin r_mod (se_callTy c_int (fr _ (by decide)) (sa_cons (se_var 3) sa_nil)) (se_callB c_len (fr _ (by decide)) (sa_cons (se_ixH (se_var 0) se_int) sa_nil)))) n__law_draw.nd)) ss_nil)
    (ss_cons (ss_if ((sw_and (st_cmp r_lt (se_var 3) (se_callB c_len (fr _ (by decide)) (sa_cons (se_ixH (se_var 0) se_int) sa_nil)) (nomark _)) (sw_and1 (st_cmp r_ge (se_callB c_abs (fr _ (by decide)) (sa_cons (se_var 4) sa_nil)) (se_bin r_pow se_int se_int) (nomark _))))).pt (ss_cons (ss_set 5 (se_bin r_add (se_bin r_mul se_int (se_bin r_sub (se_callB c_abs (fr _ (by decide)) (sa_cons (se_var 4) sa_nil)) (se_bin r_pow se_int se_int))) (se_callTy c_int (fr _ (by decide)) (sa_cons (se_cmp r_lt (se_var 4) se_int (nomark _)) sa_nil))) n__law_draw.nd)
    (ss_cons (ss_putH (se_bin r_fdiv (se_callTy c_int (fr _ (by decide)) (sa_cons (se_var 5) sa_nil)) (se_var 1)) (se_var 0) se_int)
    (ss_one (ss_ret (se_bin r_mod (se_callTy c_int (fr _ (by decide)) (sa_cons (se_var 5) sa_nil)) (se_var 1)))))) ss_nil)
    (ss_cons (ss_set 6 (se_bin r_mod (se_callTy c_int (fr _ (by decide)) (sa_cons (se_bin r_pow (se_bin r_add (se_bin r_add (se_bin r_mod (se_callTy c_int (fr _ (by decide)) (sa_cons (se_var 4) sa_nil)) se_int) (se_bin r_mul se_int (se_var 3))) se_int) se_int) sa_nil)) se_int) n__law_draw.nd)
    (ss_cons (ss_set 6 (se_bin r_mod (se_callTy c_int (fr _ (by decide)) (sa_cons (se_bin r_pow (se_bin r_add (se_bin r_add (se_bin r_mul (se_var 6) (se_bin r_add (se_bin r_mul se_int (se_var 3)) se_int)) (se_bin r_mul (se_bin r_mul se_int (se_var 3)) (se_var 3))) se_int) se_int) sa_nil)) se_int) n__law_draw.nd)
    (ss_one (ss_ret (se_bin r_mod (se_callTy c_int (fr _ (by decide)) (sa_cons (se_bin r_fdiv (se_var 6) se_int) sa_nil)) (se_var 1))))))))))))
abbrev s__law_pick : Stmt := top 57
abbrev N__law_pick : List Str := ["_law_pen_here", "_law_some"]
theorem n__law_pick : FnScope N__law_pick ["_law_pen_here", "_law_some"] (defScope s__law_pick) := ⟨rfl, rfl, rfl, by decide +kernel, rfl, by decide +kernel, by decide +kernel⟩
theorem ok__law_pick {P : Program} {w : World} {K : PySem.W.Frag} {mg : Str → Option Value} {base : Heap} (fr : ∀ x ∈ frees, mg x = none) (hk : ktB kt K = true) {f : Addr} {fd : FuncData} (F : FunD K "_law_pick" "_law_pick" (defArgs s__law_pick) (defBody s__law_pick) (defScope s__law_pick) [] [] f fd) (h__law_draw : Df P w K mg base CX0 nm 1 "_law_draw" S__law_draw) :
    FnOk P w K mg base CX0 2 f fd ["_law_pen_here", "_law_some"] (fun vs H Q _ => vs.length = 2 ∧ RX ⟨K, nm⟩ (phi 2 2 m__law_pick) vs H Q fun _ _ _ => False) :=
  fn_n F n__law_pick fun B cdv A outer s H E hr =>
    (ss_one (ss_ret (se_ix (se_var 1) (se_call h__law_draw (hr.mono (by decide)) thr0 (sa_cons (se_var 0) (sa_cons (se_callB c_len (fr _ (by decide)) (sa_cons (se_var 1) sa_nil)) sa_nil))))))
abbrev s__law_plain : Stmt := top 58
abbrev N__law_plain : List Str := ["_law_pen_here", "_law_room", "_law_least", "_law_lengths", "_law_turn", "_law_length", "_law_low", "_law_bound", "_law_looks"]
theorem n__law_plain : FnScope N__law_plain ["_law_pen_here"] (defScope s__law_plain) := ⟨rfl, rfl, rfl, by decide +kernel, rfl, by decide +kernel, by decide +kernel⟩
theorem ok__law_plain {P : Program} {w : World} {K : PySem.W.Frag} {mg : Str → Option Value} {base : Heap} (fr : ∀ x ∈ frees, mg x = none) (hk : ktB kt K = true) {f : Addr} {fd : FuncData} (F : FunD K "_law_plain" "_law_plain" (defArgs s__law_plain) (defBody s__law_plain) (defScope s__law_plain) [] [] f fd) (h__law_pick : Df P w K mg base CX0 nm 2 "_law_pick" S__law_pick) (h__law_draw : Df P w K mg base CX0 nm 1 "_law_draw" S__law_draw) :
    FnOk P w K mg base CX0 3 f fd ["_law_pen_here"] (fun vs H Q _ => vs.length = 1 ∧ RX ⟨K, nm⟩ (phi 1 9 m__law_plain) vs H Q fun _ _ _ => False) :=
  fn_n F n__law_plain fun B cdv A outer s H E hr =>
    (ss_cons (ss_set 1 (se_call h__law_pick (hr.mono (by decide)) thr0 (sa_cons (se_var 0) (sa_cons (se_lst (sa_cons se_int (sa_cons se_int (sa_cons se_int (sa_cons se_int (sa_cons se_int (sa_cons se_int (sa_cons se_int (sa_cons (se_bin r_add se_int (se_call h__law_draw (hr.mono (by decide)) thr0 (sa_cons (se_var 0) (sa_cons se_int sa_nil)))) sa_nil))))))))) sa_nil))) n__law_plain.nd)
    (ss_cons (ss_set 2 (se_call h__law_pick (hr.mono (by decide)) thr0 (sa_cons (se_var 0) (sa_cons (se_lst (sa_cons se_int (sa_cons se_int (sa_cons (se_bin r_add se_int (se_call h__law_draw (hr.mono (by decide)) thr0 (sa_cons (se_var 0) (sa_cons (se_bin r_fdiv (se_callTy c_int (fr _ (by decide)) (sa_cons (se_var 1) sa_nil)) se_int) sa_nil)))) sa_nil)))) sa_nil))) n__law_plain.nd)
    (ss_cons (ss_set 3 (se_lst (sa_cons (se_var 2) sa_nil)) n__law_plain.nd)
    (ss_cons (ss_for PassesOwn.never rfl (si_rng1 (sa_cons (se_call h__law_draw (hr.mono (by decide)) thr0 (sa_cons (se_var 0) (sa_cons se_int sa_nil))) sa_nil) (fr _ (by decide))) (sg_name 4 n__law_plain.nd) (ss_cons (ss_set 5 (se_bin r_add (se_var 2) (se_call h__law_draw (hr.mono (by decide)) thr0 (sa_cons (se_var 0) (sa_cons (se_bin r_add (se_bin r_sub (se_var 1) (se_bin r_mul se_int (se_var 2))) se_int) sa_nil)))) n__law_plain.nd)
    (ss_one (ss_set 3 (se_bin r_add (se_var 3) (se_bin r_mul (se_lst (sa_cons (se_var 5) sa_nil)) (se_callTy c_int (fr _ (by decide)) (sa_cons (se_cmp (r_nin (u65 hr)) (se_var 5) (se_var 3) rfl) sa_nil)))) n__law_plain.nd))))
    (ss_cons (ss_par 6 7 rfl n__law_plain.nd (sa_cons (se_call h__law_draw (hr.mono (by decide)) thr0 (sa_cons (se_var 0) (sa_cons (se_bin r_add (se_var 1) se_int) sa_nil))) (sa_cons (se_call h__law_pick (hr.mono (by decide)) thr0 (sa_cons (se_var 0) (sa_cons (se_lst (sa_cons (se_var 1) (sa_cons (se_bin r_sub (se_var 1) se_int) (sa_cons (se_call h__law_draw (hr.mono (by decide)) thr0 (sa_cons (se_var 0) (sa_cons (se_bin r_add (se_var 1) se_int) sa_nil))) sa_nil)))) sa_nil))) sa_nil)))
    (ss_cons (ss_set 8 (se_call h__law_pick (hr.mono (by decide)) thr0 (sa_cons (se_var 0) (sa_cons (se_lst (sa_cons se_str (sa_cons se_str sa_nil))) sa_nil))) n__law_plain.nd)
    (ss_one (ss_ret (se_dict (dk_cons (fun _ => (se_var 1)) (dk_cons (fun _ => (se_var 3)) (dk_cons (fun _ => (se_var 6)) (dk_cons (fun _ => (se_var 7)) (dk_cons (fun _ => (se_var 8)) dk_nil))))))))))))))
abbrev s__law_text : Stmt := top 59
abbrev N__law_text : List Str := ["_law_pen_here", "_law_plain_here", "_law_lengths", "_law_length", "_law_words", "_law_word"]
theorem n__law_text : FnScope N__law_text ["_law_pen_here", "_law_plain_here"] (defScope s__law_text) := ⟨rfl, rfl, rfl, by decide +kernel, rfl, by decide +kernel, by decide +kernel⟩
theorem ok__law_text {P : Program} {w : World} {K : PySem.W.Frag} {mg : Str → Option Value} {base : Heap} (fr : ∀ x ∈ frees, mg x = none) (hk : ktB kt K = true) {f : Addr} {fd : FuncData} (F : FunD K "_law_text" "_law_text" (defArgs s__law_text) (defBody s__law_text) (defScope s__law_text) [] [] f fd) (h__law_pick : Df P w K mg base CX0 nm 2 "_law_pick" S__law_pick) :
    FnOk P w K mg base CX0 3 f fd ["_law_pen_here", "_law_plain_here"] (fun vs H Q _ => vs.length = 2 ∧ RX ⟨K, nm⟩ (phi 2 6 m__law_text) vs H Q fun _ _ _ => False) :=
  fn_n F n__law_text fun B cdv A outer s H E hr =>
    (ss_cons (ss_set 2 (se_callB c_sorted (fr _ (by decide)) (sa_cons (se_lc [("_law_length", 3)] rfl n__law_text.nd ((si_list (se_ixD (u1 hr) (se_var 1) se_str))).o (blkOk_by (N := N__law_text) (sc := (defScope s__law_text)) (by decide +kernel)) (fun _ _ _ _ _ => (sg_name 3 n__law_text.nd)) (fun _ _ _ _ _ _ => sts_nil) (fun _ _ _ _ _ _ => (se_callTy c_int (fr _ (by decide)) (sa_cons (se_var 3) sa_nil))) (by decide)) sa_nil)) n__law_text.nd)
    (ss_cons (ss_set 4 (se_bin r_add (se_bin r_add (se_lst (sa_cons se_str (sa_cons (se_ixD (u1 hr) (se_var 1) se_str) (sa_cons se_str sa_nil)))) (se_var 2)) (se_lst (sa_cons se_str (sa_cons (se_ixD (u1 hr) (se_var 1) se_str) (sa_cons se_str (sa_cons (se_ixD (u1 hr) (se_var 1) se_str) sa_nil)))))) n__law_text.nd)
    (ss_cons (ss_set 4 (se_bin r_add (se_var 4) (se_lst (sa_cons (se_ixD (u1 hr) (se_var 1) se_str) (sa_cons (se_call h__law_pick (hr.mono (by decide)) thr0 (sa_cons (se_var 0) (sa_cons (se_lst (sa_cons se_str (sa_cons se_str (sa_cons se_str sa_nil)))) sa_nil))) (sa_cons (se_call h__law_pick (hr.mono (by decide)) thr0 (sa_cons (se_var 0) (sa_cons (se_lst (sa_cons se_str (sa_cons se_str sa_nil))) sa_nil))) sa_nil))))) n__law_text.nd)
    (ss_one (ss_ret (se_join se_str (se_lc [("_law_word", 5)] rfl n__law_text.nd ((si_list (se_var 4))).o (blkOk_by (N := N__law_text) (sc := (defScope s__law_text)) (by decide +kernel)) (fun _ _ _ _ _ => (sg_name 5 n__law_text.nd)) (fun _ _ _ _ _ _ => sts_nil) (fun _ _ _ _ _ _ => (se_callTy c_str (fr _ (by decide)) (sa_cons (se_var 5) sa_nil))) (by decide))))))))
abbrev s__law_sums : Stmt := top 60
abbrev N__law_sums : List Str := ["_law_plain_here", "_law_found", "_law_total", "_law_some", "_law_length"]
theorem n__law_sums : FnScope N__law_sums ["_law_plain_here"] (defScope s__law_sums) := ⟨rfl, rfl, rfl, by decide +kernel, rfl, by decide +kernel, by decide +kernel⟩
theorem ok__law_sums {P : Program} {w : World} {K : PySem.W.Frag} {mg : Str → Option Value} {base : Heap} (fr : ∀ x ∈ frees, mg x = none) (hk : ktB kt K = true) {f : Addr} {fd : FuncData} (F : FunD K "_law_sums" "_law_sums" (defArgs s__law_sums) (defBody s__law_sums) (defScope s__law_sums) [] [] f fd) :
    FnOk P w K mg base CX0 1 f fd ["_law_plain_here"] (fun vs H Q _ => vs.length = 1 ∧ RX ⟨K, nm⟩ (phi 1 5 m__law_sums) vs H Q fun _ _ _ => False) :=
  fn_n F n__law_sums fun B cdv A outer s H E hr =>
    (ss_cons (ss_set 1 (se_lst sa_nil) n__law_sums.nd)
    (ss_cons (ss_for PassesOwn.never rfl (si_rng2 (sa_cons se_int (sa_cons (se_bin r_add (se_ixD (u1 hr) (se_var 0) se_str) se_int) sa_nil)) (fr _ (by decide))) (sg_name 2 n__law_sums.nd) (ss_cons (ss_setLc 3 [("_law_length", 4)] rfl n__law_sums.nd ((si_list (se_ixD (u1 hr) (se_var 0) se_str))).o (blkOk_by (N := N__law_sums) (sc := (defScope s__law_sums)) (by decide +kernel)) (fun _ _ _ _ _ => (sg_name 4 n__law_sums.nd)) (fun _ _ _ _ _ _ => (sts_one ((sw_or (st_cmp (r_eq hr.units) (se_var 4) (se_var 2) (nomark _)) (sw_or1 (st_cmp (r_in (u65 hr)) (se_bin r_sub (se_var 2) (se_var 4)) (se_var 1) rfl)))).pt)) (fun _ _ _ _ _ _ => (se_var 4)) (by decide))
    (ss_one (ss_set 1 (se_bin r_add (se_var 1) (se_bin r_mul (se_lst (sa_cons (se_var 2) sa_nil)) (se_callTy c_int (fr _ (by decide)) (sa_cons (se_cmp (r_ne hr.units) (se_var 3) (se_lst sa_nil) (nomark _)) sa_nil)))) n__law_sums.nd))))
    (ss_one (ss_ret (se_var 1)))))
abbrev s__law_let : Stmt := top 61
abbrev N__law_let : List Str := ["_law_plain_here", "_law_x", "_law_y"]
theorem n__law_let : FnScope N__law_let ["_law_plain_here", "_law_x", "_law_y"] (defScope s__law_let) := ⟨rfl, rfl, rfl, by decide +kernel, rfl, by decide +kernel, by decide +kernel⟩
theorem ok__law_let {P : Program} {w : World} {K : PySem.W.Frag} {mg : Str → Option Value} {base : Heap} (fr : ∀ x ∈ frees, mg x = none) (hk : ktB kt K = true) {f : Addr} {fd : FuncData} (F : FunD K "_law_let" "_law_let" (defArgs s__law_let) (defBody s__law_let) (defScope s__law_let) [] [] f fd) :
    FnOk P w K mg base CX0 1 f fd ["_law_plain_here", "_law_x", "_law_y"] (fun vs H Q _ => vs.length = 3 ∧ RX ⟨K, nm⟩ (phi 3 3 m__law_let) vs H Q fun _ _ _ => False) :=
  fn_n F n__law_let fun B cdv A outer s H E hr =>
    (ss_cons (ss_if (st_cmp r_gt (se_bin r_add (se_var 1) (se_var 2)) (se_ixD (u1 hr) (se_var 0) se_str) (nomark _)) (ss_one (ss_ret se_bl)) ss_nil)
    (ss_cons (ss_if (st_cmp (r_eq hr.units) (se_ixD (u1 hr) (se_var 0) se_str) se_str (nomark _)) (ss_one (ss_ret (se_or (se_cmp r_ge (se_var 1) (se_ixD (u1 hr) (se_var 0) se_str) (nomark _)) (se_one (se_cmp r_ge (se_var 2) (se_ixD (u1 hr) (se_var 0) se_str) (nomark _)))))) ss_nil)
    (ss_one (ss_ret (se_and (se_cmp r_ge (se_var 1) (se_ixD (u1 hr) (se_var 0) se_str) (nomark _)) (se_one (se_cmp r_ge (se_var 2) (se_ixD (u1 hr) (se_var 0) se_str) (nomark _))))))))
abbrev s__law_pairs : Stmt := top 62
abbrev N__law_pairs : List Str := ["_law_plain_here", "_law_sums_here", "_law_found", "_law_one", "_law_other"]
theorem n__law_pairs : FnScope N__law_pairs ["_law_plain_here"] (defScope s__law_pairs) := ⟨rfl, rfl, rfl, by decide +kernel, rfl, by decide +kernel, by decide +kernel⟩
theorem ok__law_pairs {P : Program} {w : World} {K : PySem.W.Frag} {mg : Str → Option Value} {base : Heap} (fr : ∀ x ∈ frees, mg x = none) (hk : ktB kt K = true) {f : Addr} {fd : FuncData} (F : FunD K "_law_pairs" "_law_pairs" (defArgs s__law_pairs) (defBody s__law_pairs) (defScope s__law_pairs) [] [] f fd) (h__law_sums : Df P w K mg base CX0 nm 1 "_law_sums" S__law_sums) :
    FnOk P w K mg base CX0 2 f fd ["_law_plain_here"] (fun vs H Q _ => vs.length = 1 ∧ RX ⟨K, nm⟩ (phi 1 5 m__law_pairs) vs H Q fun _ _ _ => False) :=
  fn_n F n__law_pairs fun B cdv A outer s H E hr =>
    (ss_cons (ss_par 1 2 rfl n__law_pairs.nd (sa_cons (se_call h__law_sums (hr.mono (by decide)) thr0 (sa_cons (se_var 0) sa_nil)) (sa_cons (se_lst sa_nil) sa_nil)))
    (ss_cons (ss_for PassesOwn.never rfl (si_list (se_var 1)) (sg_name 3 n__law_pairs.nd) (ss_one (ss_set 2 (se_bin r_add (se_var 2) (se_lc [("_law_other", 4)] rfl n__law_pairs.nd ((si_list (se_var 1))).o (blkOk_by (N := N__law_pairs) (sc := (defScope s__law_pairs)) (by decide +kernel)) (fun _ _ _ _ _ => (sg_name 4 n__law_pairs.nd)) (fun _ _ _ _ _ _ => (sts_one (st_cmp r_le (se_var 3) (se_var 4) (nomark _)))) (fun _ _ _ _ _ _ => (se_tup (sa_cons (se_var 3) (sa_cons (se_var 4) sa_nil)))) (by decide))) n__law_pairs.nd)))
    (ss_one (ss_ret (se_var 2)))))
abbrev s__law_barred : Stmt := top 63
abbrev N__law_barred : List Str := ["_law_plain_here", "_law_pair"]
theorem n__law_barred : FnScope N__law_barred ["_law_plain_here"] (defScope s__law_barred) := ⟨rfl, rfl, rfl, by decide +kernel, rfl, by decide +kernel, by decide +kernel⟩
theorem ok__law_barred {P : Program} {w : World} {K : PySem.W.Frag} {mg : Str → Option Value} {base : Heap} (fr : ∀ x ∈ frees, mg x = none) (hk : ktB kt K = true) {f : Addr} {fd : FuncData} (F : FunD K "_law_barred" "_law_barred" (defArgs s__law_barred) (defBody s__law_barred) (defScope s__law_barred) [] [] f fd) (h__law_pairs : Df P w K mg base CX0 nm 2 "_law_pairs" S__law_pairs) (h__law_let : Df P w K mg base CX0 nm 1 "_law_let" S__law_let) :
    FnOk P w K mg base CX0 3 f fd ["_law_plain_here"] (fun vs H Q _ => vs.length = 1 ∧ RX ⟨K, nm⟩ (phi 1 2 m__law_barred) vs H Q fun _ _ _ => False) :=
  fn_n F n__law_barred fun B cdv A outer s H E hr =>
    (ss_one (ss_ret (se_lc [("_law_pair", 1)] rfl n__law_barred.nd ((si_list (se_call h__law_pairs (hr.mono (by decide)) thr0 (sa_cons (se_var 0) sa_nil)))).o (blkOk_by (N := N__law_barred) (sc := (defScope s__law_barred)) (by decide +kernel)) (fun _ _ _ _ _ => (sg_name 1 n__law_barred.nd)) (fun _ _ _ _ _ _ => (sts_one (st_not (st_tru (se_call h__law_let (hr.mono (by decide)) thr0 (sa_cons (se_var 0) (sa_cons (se_ix (se_var 1) se_int) (sa_cons (se_ix (se_var 1) se_int) sa_nil)))))))) (fun _ _ _ _ _ _ => (se_var 1)) (by decide))))
abbrev s__law_but : Stmt := top 64
abbrev N__law_but : List Str := ["_law_plain_here", "_law_low", "_law_bound", "_law_found"]
theorem n__law_but : FnScope N__law_but ["_law_plain_here", "_law_low", "_law_bound"] (defScope s__law_but) := ⟨rfl, rfl, rfl, by decide +kernel, rfl, by decide +kernel, by decide +kernel⟩
theorem ok__law_but {P : Program} {w : World} {K : PySem.W.Frag} {mg : Str → Option Value} {base : Heap} (fr : ∀ x ∈ frees, mg x = none) (hk : ktB kt K = true) {f : Addr} {fd : FuncData} (F : FunD K "_law_but" "_law_but" (defArgs s__law_but) (defBody s__law_but) (defScope s__law_but) [] [] f fd) :
    FnOk P w K mg base CX0 1 f fd ["_law_plain_here", "_law_low", "_law_bound"] (fun vs H Q _ => vs.length = 3 ∧ RX ⟨K, nm⟩ (phi 3 4 m__law_but) vs H Q fun _ _ _ => False) :=
  fn_n F n__law_but fun B cdv A outer s H E hr =>
    (ss_cons (ss_ownD 3 (se_var 0) n__law_but.nd (fr _ (by decide)))
    (ss_cons (ss_putD (u1 hr) 3 (se_var 1) se_str)
    (ss_cons (ss_putD (u1 hr) 3 (se_var 2) se_str)
    (ss_one (ss_frzD 3 (ss_ret (se_var 3)))))))
abbrev s__law_settings : Stmt := top 65
abbrev N__law_settings : List Str := ["_law_plain_here", "_law_found", "_law_low", "_law_bound"]
theorem n__law_settings : FnScope N__law_settings ["_law_plain_here"] (defScope s__law_settings) := ⟨rfl, rfl, rfl, by decide +kernel, rfl, by decide +kernel, by decide +kernel⟩
theorem ok__law_settings {P : Program} {w : World} {K : PySem.W.Frag} {mg : Str → Option Value} {base : Heap} (fr : ∀ x ∈ frees, mg x = none) (hk : ktB kt K = true) {f : Addr} {fd : FuncData} (F : FunD K "_law_settings" "_law_settings" (defArgs s__law_settings) (defBody s__law_settings) (defScope s__law_settings) [] [] f fd) (h__law_barred : Df P w K mg base CX0 nm 3 "_law_barred" S__law_barred) (h__law_but : Df P w K mg base CX0 nm 1 "_law_but" S__law_but) :
    FnOk P w K mg base CX0 4 f fd ["_law_plain_here"] (fun vs H Q _ => vs.length = 1 ∧ RX ⟨K, nm⟩ (phi 1 4 m__law_settings) vs H Q fun _ _ _ => False) :=
  fn_n F n__law_settings fun B cdv A outer s H E hr =>
    (ss_cons (ss_own 1 sa_nil n__law_settings.nd)
    (ss_cons (ss_for PassesOwn.never rfl (si_rng1 (sa_cons (se_bin r_add (se_ixD (u1 hr) (se_var 0) se_str) se_int) sa_nil) (fr _ (by decide))) (sg_name 2 n__law_settings.nd) (ss_one (ss_for PassesOwn.never rfl (si_rng1 (sa_cons (se_bin r_add (se_ixD (u1 hr) (se_var 0) se_str) se_int) sa_nil) (fr _ (by decide))) (sg_name 3 n__law_settings.nd) (ss_one (ss_app 1 (se_tup (sa_cons (se_var 2) (sa_cons (se_var 3) (sa_cons (se_call h__law_barred (hr.mono (by decide)) thr0 (sa_cons (se_call h__law_but (hr.mono (by decide)) thr0 (sa_cons (se_var 0) (sa_cons (se_var 2) (sa_cons (se_var 3) sa_nil)))) sa_nil)) sa_nil)))))))))
    (ss_one (ss_frz 1 (ss_ret (se_var 1))))))
abbrev s__law_plain_form : Stmt := top 66
abbrev N__law_plain_form : List Str := ["_law_settings_here", "_law_barred_here", "_law_low", "_law_bound", "_law_pairs_here"]
theorem n__law_plain_form : FnScope N__law_plain_form ["_law_settings_here", "_law_barred_here"] (defScope s__law_plain_form) := ⟨rfl, rfl, rfl, by decide +kernel, rfl, by decide +kernel, by decide +kernel⟩
theorem ok__law_plain_form {P : Program} {w : World} {K : PySem.W.Frag} {mg : Str → Option Value} {base : Heap} (fr : ∀ x ∈ frees, mg x = none) (hk : ktB kt K = true) {f : Addr} {fd : FuncData} (F : FunD K "_law_plain_form" "_law_plain_form" (defArgs s__law_plain_form) (defBody s__law_plain_form) (defScope s__law_plain_form) [] [] f fd) :
    FnOk P w K mg base CX0 1 f fd ["_law_settings_here", "_law_barred_here"] (fun vs H Q _ => vs.length = 2 ∧ RX ⟨K, nm⟩ (phi 2 5 m__law_plain_form) vs H Q fun _ _ _ => False) :=
  fn_n F n__law_plain_form fun B cdv A outer s H E hr =>
    (ss_one (ss_ret (se_ix (se_lc [("_law_low", 2), ("_law_bound", 3), ("_law_pairs_here", 4)] rfl n__law_plain_form.nd ((si_list (se_var 0))).o (blkOk_by (N := N__law_plain_form) (sc := (defScope s__law_plain_form)) (by decide +kernel)) (fun _ _ _ _ _ => (sg_tup rfl (sgs_cons 2 n__law_plain_form.nd (sgs_cons 3 n__law_plain_form.nd (sgs_cons 4 n__law_plain_form.nd sgs_nil))))) (fun _ _ _ _ _ _ => (sts_one (st_cmp (r_eq hr.units) (se_var 4) (se_var 1) (nomark _)))) (fun _ _ _ _ _ _ => (se_tup (sa_cons (se_var 2) (sa_cons (se_var 3) sa_nil)))) (by decide)) se_int)))
abbrev s__law_chain : Stmt := top 67
abbrev N__law_chain : List Str := ["_law_pen_here", "_law_plain_here", "_law_pages", "_law_turn", "_law_rows", "_law_total", "_law_again", "_law_length", "_law_row"]
theorem n__law_chain : FnScope N__law_chain ["_law_pen_here", "_law_plain_here"] (defScope s__law_chain) := ⟨rfl, rfl, rfl, by decide +kernel, rfl, by decide +kernel, by decide +kernel⟩
theorem ok__law_chain {P : Program} {w : World} {K : PySem.W.Frag} {mg : Str → Option Value} {base : Heap} (fr : ∀ x ∈ frees, mg x = none) (hk : ktB kt K = true) {f : Addr} {fd : FuncData} (F : FunD K "_law_chain" "_law_chain" (defArgs s__law_chain) (defBody s__law_chain) (defScope s__law_chain) [] [] f fd) (h__law_draw : Df P w K mg base CX0 nm 1 "_law_draw" S__law_draw) (h__law_pick : Df P w K mg base CX0 nm 2 "_law_pick" S__law_pick) (g_Chain : mg (Str.ofString "Chain") = some (.ref (He.ga K (Str.ofString "Chain")))) (k_Chain_read : Dc P w K mg base CX0 nm 6 "Chain" "read" S_Chain_read) :
    FnOk P w K mg base CX0 7 f fd ["_law_pen_here", "_law_plain_here"] (fun vs H Q _ => vs.length = 2 ∧ RX ⟨K, nm⟩ (phi 2 9 m__law_chain) vs H Q fun _ _ _ => False) :=
  fn_n F n__law_chain fun B cdv A outer s H E hr =>
    (ss_cons (ss_own 2 sa_nil n__law_chain.nd)
    (ss_cons (ss_for PassesOwn.never rfl (si_rng1 (sa_cons (se_bin r_add se_int (se_call h__law_draw (hr.mono (by decide)) thr0 (sa_cons (se_var 0) (sa_cons se_int sa_nil)))) sa_nil) (fr _ (by decide))) (sg_name 3 n__law_chain.nd) (ss_cons (ss_asg (se_tup (sa_cons (se_tup sa_nil) (sa_cons se_int sa_nil))) (sg_tup rfl (sgs_cons 4 n__law_chain.nd (sgs_cons 5 n__law_chain.nd sgs_nil))))
    (ss_cons (ss_for PassesOwn.never rfl (si_rng1 (sa_cons (se_bin r_add se_int (se_call h__law_draw (hr.mono (by decide)) thr0 (sa_cons (se_var 0) (sa_cons se_int sa_nil)))) sa_nil) (fr _ (by decide))) (sg_name 6 n__law_chain.nd) (ss_cons (ss_set 7 (se_call h__law_pick (hr.mono (by decide)) thr0 (sa_cons (se_var 0) (sa_cons (se_ixD (u1 hr) (se_var 1) se_str) sa_nil))) n__law_chain.nd)
    (ss_one (ss_if (st_cmp r_le (se_bin r_add (se_var 5) (se_var 7)) (se_ixD (u1 hr) (se_var 1) se_str) (nomark _)) (ss_one (ss_par 4 5 rfl n__law_chain.nd (sa_cons (se_bin r_add (se_var 4) (se_tup (sa_cons (se_var 7) sa_nil))) (sa_cons (se_bin r_add (se_var 5) (se_var 7)) sa_nil)))) ss_nil))))
    (ss_one (ss_app 2 (se_var 4))))))
    (ss_one (ss_frz 2 (ss_ret (se_cm k_Chain_read (hr.mono (by decide)) thr0 (se_gcl "Chain" g_Chain) (sa_cons (se_join se_str (se_lc [("_law_rows", 4)] rfl n__law_chain.nd ((si_list (se_var 2))).o (blkOk_by (N := N__law_chain) (sc := (defScope s__law_chain)) (by decide +kernel)) (fun _ _ _ _ _ => (sg_name 4 n__law_chain.nd)) (fun _ _ _ _ _ _ => sts_nil) (fun _ _ _ _ _ _ => (se_join se_str (se_lc [("_law_row", 8)] rfl n__law_chain.nd ((si_tup (se_var 4))).o (blkOk_by (by rfl)) (fun _ _ _ _ _ => (sg_name 8 n__law_chain.nd)) (fun _ _ _ _ _ _ => sts_nil) (fun _ _ _ _ _ _ => (se_callTy c_str (fr _ (by decide)) (sa_cons (se_var 8) sa_nil))) (by decide)))) (by decide))) sa_nil)))))))
abbrev s__law_seen : Stmt := top 68
abbrev N__law_seen : List Str := ["_law_chains", "_law_found", "_law_chain_here", "_law_sums_here", "_law_page", "_law_at"]
theorem n__law_seen : FnScope N__law_seen ["_law_chains"] (defScope s__law_seen) := ⟨rfl, rfl, rfl, by decide +kernel, rfl, by decide +kernel, by decide +kernel⟩
theorem ok__law_seen {P : Program} {w : World} {K : PySem.W.Frag} {mg : Str → Option Value} {base : Heap} (fr : ∀ x ∈ frees, mg x = none) (hk : ktB kt K = true) {f : Addr} {fd : FuncData} (F : FunD K "_law_seen" "_law_seen" (defArgs s__law_seen) (defBody s__law_seen) (defScope s__law_seen) [] [] f fd) (q_Chain : Dt P w K mg base 1 "Chain" "pages") :
    FnOk P w K mg base CX0 2 f fd ["_law_chains"] (fun vs H Q _ => vs.length = 1 ∧ RX ⟨K, nm⟩ (phi 1 6 m__law_seen) vs H Q fun _ _ _ => False) :=
  fn_n F n__law_seen fun B cdv A outer s H E hr =>
    (ss_cons (ss_set 1 (se_lst sa_nil) n__law_seen.nd)
    (ss_cons (ss_for PassesOwn.never rfl (si_list (se_var 0)) (sg_name 2 n__law_seen.nd) (ss_cons (ss_set 3 (se_lc [("_law_page", 4)] rfl n__law_seen.nd ((si_ownIt q_Chain (hr.mono (by decide)) (se_var 2) (by decide) (by rfl))).o (blkOk_by (N := N__law_seen) (sc := (defScope s__law_seen)) (by decide +kernel)) (fun _ _ _ _ _ => (sg_name 4 n__law_seen.nd)) (fun _ _ _ _ _ _ => sts_nil) (fun _ _ _ _ _ _ => (se_callB (c_sumT rfl) (fr _ (by decide)) (sa_cons (se_var 4) sa_nil))) (by decide)) n__law_seen.nd)
    (ss_one (ss_set 1 (se_bin r_add (se_var 1) (se_lc [("_law_at", 5)] rfl n__law_seen.nd ((si_rng1 (sa_cons (se_bin r_sub (se_callB c_len (fr _ (by decide)) (sa_cons (se_var 3) sa_nil)) se_int) sa_nil) (fr _ (by decide)))).o (blkOk_by (N := N__law_seen) (sc := (defScope s__law_seen)) (by decide +kernel)) (fun _ _ _ _ _ => (sg_name 5 n__law_seen.nd)) (fun _ _ _ _ _ _ => sts_nil) (fun _ _ _ _ _ _ => (se_tup (sa_cons (se_ix (se_var 3) (se_var 5)) (sa_cons (se_ix (se_var 3) (se_bin r_add (se_var 5) se_int)) sa_nil)))) (by decide))) n__law_seen.nd))))
    (ss_one (ss_ret (se_var 1)))))
abbrev s__law_tight : Stmt := top 69
abbrev N__law_tight : List Str := ["_law_book", "_law_some"]
theorem n__law_tight : FnScope N__law_tight ["_law_book", "_law_some"] (defScope s__law_tight) := ⟨rfl, rfl, rfl, by decide +kernel, rfl, by decide +kernel, by decide +kernel⟩
theorem ok__law_tight {P : Program} {w : World} {K : PySem.W.Frag} {mg : Str → Option Value} {base : Heap} (fr : ∀ x ∈ frees, mg x = none) (hk : ktB kt K = true) {f : Addr} {fd : FuncData} (F : FunD K "_law_tight" "_law_tight" (defArgs s__law_tight) (defBody s__law_tight) (defScope s__law_tight) [] [] f fd) (h_tight : Df P w K mg base CX0 nm 9 "tight" S_tight) :
    FnOk P w K mg base CX0 10 f fd ["_law_book", "_law_some"] (fun vs H Q _ => vs.length = 2 ∧ RX ⟨K, nm⟩ (phi 2 2 m__law_tight) vs H Q fun _ _ _ => False) :=
  fn_n F n__law_tight fun B cdv A outer s H E hr =>
    (ss_cons (ss_if (st_cmp (r_eq hr.units) (se_callB c_len (fr _ (by decide)) (sa_cons (se_var 1) sa_nil)) se_int (nomark _)) (ss_one (ss_ret (se_call h_tight (hr.mono (by decide)) thr0 (sa_cons (se_var 0) sa_nil)))) ss_nil)
    (ss_cons (ss_if (st_cmp (r_eq hr.units) (se_callB c_len (fr _ (by decide)) (sa_cons (se_var 1) sa_nil)) se_int (nomark _)) (ss_one (ss_ret (se_call h_tight (hr.mono (by decide)) thr0 (sa_cons (se_var 0) (sa_cons (se_ix (se_var 1) se_int) sa_nil))))) ss_nil)
    (ss_one (ss_ret (se_ifE (st_cmp (r_eq hr.units) (se_callB c_len (fr _ (by decide)) (sa_cons (se_var 1) sa_nil)) se_int (nomark _)) (se_call h_tight (hr.mono (by decide)) thr0 (sa_cons (se_var 0) (sa_cons (se_ix (se_var 1) se_int) (sa_cons (se_ix (se_var 1) se_int) sa_nil)))) (se_call h_tight (hr.mono (by decide)) thr0 (sa_cons (se_var 0) (sa_cons (se_ix (se_var 1) se_int) (sa_cons (se_ix (se_var 1) se_int) (sa_cons (se_ix (se_var 1) se_int) sa_nil))))))))))
abbrev s__law_among : Stmt := top 70
abbrev N__law_among : List Str := ["_law_some", "_law_others", "_law_pair"]
theorem n__law_among : FnScope N__law_among ["_law_some", "_law_others"] (defScope s__law_among) := ⟨rfl, rfl, rfl, by decide +kernel, rfl, by decide +kernel, by decide +kernel⟩
theorem ok__law_among {P : Program} {w : World} {K : PySem.W.Frag} {mg : Str → Option Value} {base : Heap} (fr : ∀ x ∈ frees, mg x = none) (hk : ktB kt K = true) {f : Addr} {fd : FuncData} (F : FunD K "_law_among" "_law_among" (defArgs s__law_among) (defBody s__law_among) (defScope s__law_among) [] [] f fd) :
    FnOk P w K mg base CX0 1 f fd ["_law_some", "_law_others"] (fun vs H Q _ => vs.length = 2 ∧ RX ⟨K, nm⟩ (phi 2 3 m__law_among) vs H Q fun _ _ _ => False) :=
  fn_n F n__law_among fun B cdv A outer s H E hr =>
    (ss_one (ss_ret (se_cmp (r_eq hr.units) (se_lc [("_law_pair", 2)] rfl n__law_among.nd ((si_list (se_var 0))).o (blkOk_by (N := N__law_among) (sc := (defScope s__law_among)) (by decide +kernel)) (fun _ _ _ _ _ => (sg_name 2 n__law_among.nd)) (fun _ _ _ _ _ _ => (sts_one (st_cmp (r_nin (u65 hr)) (se_var 2) (se_var 1) rfl))) (fun _ _ _ _ _ _ => (se_var 2)) (by decide)) (se_lst sa_nil) (nomark _))))
abbrev s__law_due : Stmt := top 71
abbrev N__law_due : List Str := ["_law_plain_here", "_law_seen_here", "_law_settings_here", "_law_lots", "_law_pairs_here", "_law_one", "_law_other", "_law_low", "_law_bound", "_law_barred_here", "_law_pair", "_law_best", "_law_lot"]
theorem n__law_due : FnScope N__law_due ["_law_plain_here", "_law_seen_here"] (defScope s__law_due) := ⟨rfl, rfl, rfl, by decide +kernel, rfl, by decide +kernel, by decide +kernel⟩
theorem ok__law_due {P : Program} {w : World} {K : PySem.W.Frag} {mg : Str → Option Value} {base : Heap} (fr : ∀ x ∈ frees, mg x = none) (hk : ktB kt K = true) {f : Addr} {fd : FuncData} (F : FunD K "_law_due" "_law_due" (defArgs s__law_due) (defBody s__law_due) (defScope s__law_due) [] [] f fd) (h__law_settings : Df P w K mg base CX0 nm 4 "_law_settings" S__law_settings) (h__law_among : Df P w K mg base CX0 nm 1 "_law_among" S__law_among) (h__law_plain_form : Df P w K mg base CX0 nm 1 "_law_plain_form" S__law_plain_form) :
    FnOk P w K mg base CX0 5 f fd ["_law_plain_here", "_law_seen_here"] (fun vs H Q _ => vs.length = 2 ∧ RX ⟨K, nm⟩ (phi 2 13 m__law_due) vs H Q fun _ _ _ => False) :=
  fn_n F n__law_due fun B cdv A outer s H E hr =>
    (ss_cons (ss_parO 2 3 rfl n__law_due.nd (se_call h__law_settings (hr.mono (by decide)) thr0 (sa_cons (se_var 0) sa_nil)))
    (ss_cons (ss_setLc 4 [("_law_one", 5), ("_law_other", 6)] rfl n__law_due.nd ((si_list (se_var 1))).o (blkOk_by (N := N__law_due) (sc := (defScope s__law_due)) (by decide +kernel)) (fun _ _ _ _ _ => (sg_tup rfl (sgs_cons 5 n__law_due.nd (sgs_cons 6 n__law_due.nd sgs_nil)))) (fun _ _ _ _ _ _ => sts_nil) (fun _ _ _ _ _ _ => (se_tup (sa_cons (se_callB (c_min rfl) (fr _ (by decide)) (sa_cons (se_callTy c_int (fr _ (by decide)) (sa_cons (se_var 5) sa_nil)) (sa_cons (se_callTy c_int (fr _ (by decide)) (sa_cons (se_var 6) sa_nil)) sa_nil))) (sa_cons (se_callB (c_max rfl) (fr _ (by decide)) (sa_cons (se_callTy c_int (fr _ (by decide)) (sa_cons (se_var 5) sa_nil)) (sa_cons (se_callTy c_int (fr _ (by decide)) (sa_cons (se_var 6) sa_nil)) sa_nil))) sa_nil)))) (by decide))
    (ss_cons (ss_for PassesOwn.never rfl (si_list (se_var 2)) (sg_tup rfl (sgs_cons 7 n__law_due.nd (sgs_cons 8 n__law_due.nd (sgs_cons 9 n__law_due.nd sgs_nil)))) (ss_one (ss_if ((sw_and (st_ninO 3 (u65 hr) (se_var 9)) (sw_and1 (st_cmp (r_eq hr.units) (se_lc [("_law_pair", 10)] rfl n__law_due.nd ((si_list (se_var 4))).o (blkOk_by (N := N__law_due) (sc := (defScope s__law_due)) (by decide +kernel)) (fun _ _ _ _ _ => (sg_name 10 n__law_due.nd)) (fun _ _ _ _ _ _ => (sts_one (st_cmp (r_in (u65 hr)) (se_var 10) (se_var 9) rfl))) (fun _ _ _ _ _ _ => (se_var 10)) (by decide)) (se_lst sa_nil) (nomark _))))).pt (ss_one (ss_app 3 (se_var 9))) ss_nil)))
    (ss_cons (ss_own 11 sa_nil n__law_due.nd)
    (ss_cons (ss_frz 3 (ss_for PassesOwn.never rfl (si_list (se_var 3)) (sg_name 12 n__law_due.nd) (ss_one (ss_if (st_cmp (r_eq hr.units) (se_lc [("_law_other", 6)] rfl n__law_due.nd ((si_list (se_var 3))).o (blkOk_by (N := N__law_due) (sc := (defScope s__law_due)) (by decide +kernel)) (fun _ _ _ _ _ => (sg_name 6 n__law_due.nd)) (fun _ _ _ _ _ _ => (sts_one ((sw_and (st_cmp (r_ne hr.units) (se_var 6) (se_var 12) (nomark _)) (sw_and1 (st_tru (se_call h__law_among (hr.mono (by decide)) thr0 (sa_cons (se_var 12) (sa_cons (se_var 6) sa_nil))))))).pt)) (fun _ _ _ _ _ _ => (se_var 6)) (by decide)) (se_lst sa_nil) (nomark _)) (ss_one (ss_app 11 (se_call h__law_plain_form (hr.mono (by decide)) thr0 (sa_cons (se_var 2) (sa_cons (se_var 12) sa_nil))))) ss_nil))))
    (ss_one (ss_frz 11 (ss_ret (se_callTy c_tuple (fr _ (by decide)) (sa_cons (se_callB c_sortedP (fr _ (by decide)) (sa_cons (se_var 11) sa_nil)) sa_nil))))))))))
abbrev s__law_right : Stmt := top 72
abbrev N__law_right : List Str := ["_law_pen_here", "_law_plain_here", "_law_book", "_law_some", "_law_again", "_law_due_here", "_law_other"]
theorem n__law_right : FnScope N__law_right ["_law_pen_here"] (defScope s__law_right) := ⟨rfl, rfl, rfl, by decide +kernel, rfl, by decide +kernel, by decide +kernel⟩
theorem ok__law_right {P : Program} {w : World} {K : PySem.W.Frag} {mg : Str → Option Value} {base : Heap} (fr : ∀ x ∈ frees, mg x = none) (hk : ktB kt K = true) {f : Addr} {fd : FuncData} (F : FunD K "_law_right" "_law_right" (defArgs s__law_right) (defBody s__law_right) (defScope s__law_right) [] [] f fd) (h__law_plain : Df P w K mg base CX0 nm 3 "_law_plain" S__law_plain) (g_Book : mg (Str.ofString "Book") = some (.ref (He.ga K (Str.ofString "Book")))) (k_Book_read : Dc P w K mg base CX0 nm 7 "Book" "read" S_Book_read) (h__law_text : Df P w K mg base CX0 nm 3 "_law_text" S__law_text) (h__law_draw : Df P w K mg base CX0 nm 1 "_law_draw" S__law_draw) (h__law_chain : Df P w K mg base CX0 nm 7 "_law_chain" S__law_chain) (h__law_due : Df P w K mg base CX0 nm 5 "_law_due" S__law_due) (h__law_seen : Df P w K mg base CX0 nm 2 "_law_seen" S__law_seen) (h__law_tight : Df P w K mg base CX0 nm 10 "_law_tight" S__law_tight) (x_Book_but_low_bound : Dmk P w K mg base CX0 nm 7 (Str.ofString "Book") "but" ["low", "bound"] S_Book_but_low_bound) (cl_Book : Cls K (He.ga K (Str.ofString "Book"))) (na_Book_room : NoAttr K (He.ga K (Str.ofString "Book")) "room") :
    FnOk P w K mg base CX0 11 f fd ["_law_pen_here"] (fun vs H Q _ => vs.length = 1 ∧ RX ⟨K, nm⟩ (phi 1 7 m__law_right) vs H Q fun _ _ _ => False) :=
  fn_n F n__law_right fun B cdv A outer s H E hr =>
    (ss_cons (ss_set 1 (se_call h__law_plain (hr.mono (by decide)) thr0 (sa_cons (se_var 0) sa_nil)) n__law_right.nd)
    (ss_cons (ss_if (st_cmp r_gt (se_ixD (u1 hr) (se_var 1) se_str) se_int (nomark _)) (ss_one (ss_ret se_bl)) ss_nil)
    (ss_cons (ss_set 2 (se_cm k_Book_read (hr.mono (by decide)) thr0 (se_gcl "Book" g_Book) (sa_cons (se_call h__law_text (hr.mono (by decide)) thr0 (sa_cons (se_var 0) (sa_cons (se_var 1) sa_nil))) sa_nil)) n__law_right.nd)
    (ss_cons (ss_setLc 3 [("_law_again", 4)] rfl n__law_right.nd ((si_rng1 (sa_cons (se_call h__law_draw (hr.mono (by decide)) thr0 (sa_cons (se_var 0) (sa_cons se_int sa_nil))) sa_nil) (fr _ (by decide)))).o (blkOk_by (N := N__law_right) (sc := (defScope s__law_right)) (by decide +kernel)) (fun _ _ _ _ _ => (sg_name 4 n__law_right.nd)) (fun _ _ _ _ _ _ => sts_nil) (fun _ _ _ _ _ _ => (se_call h__law_chain (hr.mono (by decide)) thr0 (sa_cons (se_var 0) (sa_cons (se_var 1) sa_nil)))) (by decide))
    (ss_cons (ss_set 5 (se_call h__law_due (hr.mono (by decide)) thr0 (sa_cons (se_var 1) (sa_cons (se_call h__law_seen (hr.mono (by decide)) thr0 (sa_cons (se_var 3) sa_nil)) sa_nil))) n__law_right.nd)
    (ss_cons (ss_if (st_cmp (r_ne hr.units) (se_call h__law_tight (hr.mono (by decide)) thr0 (sa_cons (se_var 2) (sa_cons (se_var 3) sa_nil))) (se_var 5) (nomark _)) (ss_one (ss_ret se_bl)) ss_nil)
    (ss_cons (ss_set 6 (se_methK x_Book_but_low_bound (hr.mono (by decide)) thr0 (se_var 2) (sk_cons (se_call h__law_draw (hr.mono (by decide)) thr0 (sa_cons (se_var 0) (sa_cons (se_bin r_add (se_fld (C := "Book") (k := 0) cl_Book na_Book_room (se_var 2) (by decide) (by rfl)) se_int) sa_nil))) (sk_cons (se_call h__law_draw (hr.mono (by decide)) thr0 (sa_cons (se_var 0) (sa_cons (se_bin r_add (se_fld (C := "Book") (k := 0) cl_Book na_Book_room (se_var 2) (by decide) (by rfl)) se_int) sa_nil))) sk_nil)) (by decide)) n__law_right.nd)
    (ss_one (ss_ret (se_cmp (r_eq hr.units) (se_call h__law_tight (hr.mono (by decide)) thr0 (sa_cons (se_var 6) (sa_cons (se_rev (se_var 3)) sa_nil))) (se_var 5) (nomark _)))))))))))
abbrev s_law : Stmt := top 73
abbrev N_law : List Str := ["_law_script", "_law_pen_here", "_law_turn", "_law_own", "_law_wide", "_law_told", "_law_long", "_law_near", "_law_thin"]
theorem n_law : FnScope N_law ["_law_script"] (defScope s_law) := ⟨rfl, rfl, rfl, by decide +kernel, rfl, by decide +kernel, by decide +kernel⟩
theorem ok_law {P : Program} {w : World} {K : PySem.W.Frag} {mg : Str → Option Value} {base : Heap} (fr : ∀ x ∈ frees, mg x = none) (hk : ktB kt K = true) {f : Addr} {fd : FuncData} (F : FunD K "law" "law" (defArgs s_law) (defBody s_law) (defScope s_law) [] [] f fd) (h__law_pen : Df P w K mg base CX0 nm 1 "_law_pen" S__law_pen) (h__law_right : Df P w K mg base CX0 nm 11 "_law_right" S__law_right) (g_Book : mg (Str.ofString "Book") = some (.ref (He.ga K (Str.ofString "Book")))) (k_Book_read : Dc P w K mg base CX0 nm 7 "Book" "read" S_Book_read) (h_tight : Df P w K mg base CX0 nm 9 "tight" S_tight) (i_Chain : Di P w K mg base CX0 nm 4 "Chain" I_Chain) (g_Chain : mg (Str.ofString "Chain") = some (.ref (He.ga K (Str.ofString "Chain")))) (k_Chain_read : Dc P w K mg base CX0 nm 6 "Chain" "read" S_Chain_read) (x_Book_but_looks : Dmk P w K mg base CX0 nm 7 (Str.ofString "Book") "but" ["looks"] S_Book_but_looks) :
    FnOk P w K mg base CX0 12 f fd ["_law_script"] (fun vs H Q _ => vs.length = 1 ∧ RX ⟨K, nm⟩ (phi 1 9 m_law) vs H Q fun _ _ _ => False) :=
  fn_n F n_law fun B cdv A outer s H E hr =>
    (ss_cons (ss_set 1 (se_call h__law_pen (hr.mono (by decide)) thr0 (sa_cons (se_var 0) sa_nil)) n_law.nd)
    (ss_cons (ss_for PassesOwn.never rfl (si_rng1 (sa_cons se_int sa_nil) (fr _ (by decide))) (sg_name 2 n_law.nd) (ss_one (ss_if (st_not (st_tru (se_call h__law_right (hr.mono (by decide)) thr0 (sa_cons (se_var 1) sa_nil)))) (ss_one (ss_ret se_bl)) ss_nil)))
    (ss_cons (ss_set 3 (se_cm k_Book_read (hr.mono (by decide)) thr0 (se_gcl "Book" g_Book) (sa_cons se_str sa_nil)) n_law.nd)
    (ss_cons (ss_set 4 (se_cm k_Book_read (hr.mono (by decide)) thr0 (se_gcl "Book" g_Book) (sa_cons se_str sa_nil)) n_law.nd)
    (ss_cons (ss_set 5 (se_lst (sa_cons (se_call h_tight (hr.mono (by decide)) thr0 (sa_cons (se_var 4) sa_nil)) (sa_cons (se_call h_tight (hr.mono (by decide)) thr0 (sa_cons (se_var 4) (sa_cons (se_c (i_Chain.calD (hr.mono (by decide)) thr0) i_Chain.g (sa_cons (se_bin r_mulT (se_tup (sa_cons se_int sa_nil)) se_int) (sa_cons (se_bin r_mulT (se_tup (sa_cons se_int sa_nil)) se_int) sa_nil))) sa_nil))) sa_nil))) n_law.nd)
    (ss_cons (ss_set 6 (se_cm k_Chain_read (hr.mono (by decide)) thr0 (se_gcl "Chain" g_Chain) (sa_cons se_str sa_nil)) n_law.nd)
    (ss_cons (ss_if ((sw_or (st_cmp (r_ne hr.units) (se_var 5) (se_lst (sa_cons (se_tup (sa_cons (se_tup (sa_cons se_int (sa_cons se_int sa_nil))) sa_nil)) (sa_cons (se_tup (sa_cons (se_tup (sa_cons se_int (sa_cons se_int sa_nil))) sa_nil)) sa_nil))) (nomark _)) (sw_or1 (st_cmp (r_ne hr.units) (se_call h_tight (hr.mono (by decide)) thr0 (sa_cons (se_var 3) (sa_cons (se_var 6) sa_nil))) (se_tup (sa_cons (se_tup (sa_cons se_int (sa_cons se_int sa_nil))) sa_nil)) (nomark _))))).pt (ss_one (ss_ret se_bl)) ss_nil)
    (ss_cons (ss_par 7 8 rfl n_law.nd (sa_cons (se_methK x_Book_but_looks (hr.mono (by decide)) thr0 (se_var 3) (sk_cons se_str sk_nil) (by decide)) (sa_cons (se_c (i_Chain.calD (hr.mono (by decide)) thr0) i_Chain.g (sa_cons (se_tup (sa_cons se_int sa_nil)) (sa_cons (se_tup (sa_cons se_int sa_nil)) (sa_cons (se_tup (sa_cons se_int sa_nil)) sa_nil)))) sa_nil)))
    (ss_cons (ss_set 5 (se_lst (sa_cons (se_call h_tight (hr.mono (by decide)) thr0 (sa_cons (se_var 3) (sa_cons (se_var 8) sa_nil))) (sa_cons (se_call h_tight (hr.mono (by decide)) thr0 (sa_cons (se_var 7) (sa_cons (se_var 8) sa_nil))) (sa_cons (se_call h_tight (hr.mono (by decide)) thr0 (sa_cons (se_var 3) (sa_cons (se_c (i_Chain.calD (hr.mono (by decide)) thr0) i_Chain.g (sa_cons (se_tup (sa_cons se_int sa_nil)) (sa_cons (se_tup (sa_cons se_int (sa_cons se_int sa_nil))) sa_nil))) sa_nil))) (sa_cons (se_call h_tight (hr.mono (by decide)) thr0 (sa_cons (se_var 3) (sa_cons (se_c (i_Chain.calD (hr.mono (by decide)) thr0) i_Chain.g (sa_cons (se_tup (sa_cons se_int sa_nil)) sa_nil)) sa_nil))) sa_nil))))) n_law.nd)
    (ss_one (ss_ret (se_cmp (r_eq hr.units) (se_var 5) (se_lst (sa_cons (se_tup (sa_cons (se_tup (sa_cons se_int (sa_cons se_int sa_nil))) sa_nil)) (sa_cons (se_tup (sa_cons (se_tup (sa_cons se_int (sa_cons se_int sa_nil))) sa_nil)) (sa_cons (se_tup (sa_cons (se_tup (sa_cons se_int (sa_cons se_int sa_nil))) (sa_cons (se_tup (sa_cons se_int (sa_cons se_int sa_nil))) sa_nil))) (sa_cons (se_tup (sa_cons (se_tup (sa_cons se_int (sa_cons se_int sa_nil))) sa_nil)) sa_nil))))) (nomark _)))))))))))))
def fs : List Fct := [
  fun K => frees.all fun x => He.Fa.ok K (.free x),
  ktB kt,
  fun K => He.Fa.ok K (.glo (Str.ofString "is_integer")),
  fun K => He.Fa.ok K (.glo (Str.ofString "is_within")),
  fun K => He.Fa.ok K (.glo (Str.ofString "need_count")),
  fun K => He.Fa.ok K (.glo (Str.ofString "first_totals")),
  fun K => He.Fa.ok K (.glo (Str.ofString "total_of")),
  fun K => He.Fa.ok K (.glo (Str.ofString "rows_of")),
  fun K => He.Fa.ok K (.glo (Str.ofString "upcoming")),
  fun K => He.Fa.ok K (.glo (Str.ofString "need_head")),
  fun K => He.Fa.ok K (.glo (Str.ofString "number_at")),
  fun K => He.Fa.ok K (.int "MOST_ROOM" 60),
  fun K => He.Fa.ok K (.glo (Str.ofString "lengths_at")),
  fun K => He.Fa.ok K (.int "MOST_LENGTH" 60),
  fun K => He.Fa.ok K (.glo (Str.ofString "length_in")),
  fun K => He.Fa.ok K (.int "MOST_ROWS" 60),
  fun K => He.Fa.ok K (.int "MOST_PAGES" 400),
  fun K => He.Fa.ok K (.glo (Str.ofString "pages_in")),
  fun K => He.Fa.ok K (.glo (Str.ofString "are_rows")),
  fun K => He.Fa.ok K (.glo (Str.ofString "need_word")),
  fun K => He.Fa.ok K (.glo (Str.ofString "ascending")),
  fun K => He.Fa.ok K (.cls (Str.ofString "Lengths")),
  fun K => He.Fa.ok K (.noat (Str.ofString "Lengths") "own_lengths"),
  fun K => He.Fa.ok K (.int "MOST_LENGTHS" 6),
  fun K => He.Fa.ok K (.noat (Str.ofString "Lengths") "least"),
  fun K => He.Fa.ok K (.noat (Str.ofString "Lengths") "greatest"),
  fun K => He.Fa.ok K (.noat (Str.ofString "Lengths") "firsts"),
  fun K => He.Fa.ok K (.glo (Str.ofString "Lengths")),
  fun K => He.Fa.ok K (.mkr (Str.ofString "Lengths")),
  fun K => He.Fa.ok K (.meth (Str.ofString "Lengths") "__contains__"),
  fun K => He.Fa.ok K (.int "MOST_FAR" 1000000000000000000000000000000),
  fun K => He.Fa.ok K (.meth (Str.ofString "Lengths") "has_total"),
  fun K => He.Fa.ok K (.int "MOST_TOTAL" 60),
  fun K => He.Fa.ok K (.meth (Str.ofString "Lengths") "totals"),
  fun K => He.Fa.ok K (.glo (Str.ofString "Book")),
  catB "Book" "LOOKS" [.str "own", .str "near"],
  catB "Book" "CUTS" [.str "even", .str "ahead", .str "put"],
  catB "Book" "SIDES" [.str "left", .str "right"],
  fun K => He.Fa.ok K (.cls (Str.ofString "Book")),
  fun K => He.Fa.ok K (.noat (Str.ofString "Book") "room"),
  fun K => He.Fa.ok K (.noat (Str.ofString "Book") "lengths"),
  fun K => He.Fa.ok K (.noat (Str.ofString "Book") "low"),
  fun K => He.Fa.ok K (.noat (Str.ofString "Book") "bound"),
  fun K => He.Fa.ok K (.noat (Str.ofString "Book") "looks"),
  fun K => He.Fa.ok K (.noat (Str.ofString "Book") "cut"),
  fun K => He.Fa.ok K (.noat (Str.ofString "Book") "side"),
  fun K => He.Fa.ok K (.noat (Str.ofString "Book") "own_sums"),
  fun K => He.Fa.ok K (.mkr (Str.ofString "Book")),
  cmB "Book" "read",
  propB "Book" "sums",
  coB "Book",
  fun K => He.Fa.ok K (.meth (Str.ofString "Book") "__call__"),
  fun K => He.Fa.ok K (.glo (Str.ofString "NAMES")),
  mtB (Str.ofString "NAMES") [.str "room", .str "lengths", .str "low", .str "bound", .str "looks", .str "cut", .str "side"],
  fun K => He.Fa.ok K (.cls (Str.ofString "Chain")),
  fun K => He.Fa.ok K (.noat (Str.ofString "Chain") "pages"),
  fun K => He.Fa.ok K (.noat (Str.ofString "Chain") "rows"),
  fun K => He.Fa.ok K (.noat (Str.ofString "Chain") "size"),
  fun K => He.Fa.ok K (.glo (Str.ofString "Chain")),
  fun K => He.Fa.ok K (.mkr (Str.ofString "Chain")),
  cmB "Chain" "read",
  propB "Chain" "sums",
  fun K => He.Fa.ok K (.meth (Str.ofString "Chain") "__iter__"),
  fun K => He.Fa.ok K (.meth (Str.ofString "Chain") "fits"),
  fun K => He.Fa.ok K (.glo (Str.ofString "need_book")),
  fun K => He.Fa.ok K (.glo (Str.ofString "all_pairs")),
  fun K => He.Fa.ok K (.glo (Str.ofString "barred_pairs")),
  fun K => He.Fa.ok K (.glo (Str.ofString "plain_of")),
  fun K => He.Fa.ok K (.glo (Str.ofString "need_chains")),
  fun K => He.Fa.ok K (.glo (Str.ofString "seen_pairs")),
  fun K => He.Fa.ok K (.glo (Str.ofString "bound_for")),
  fun K => He.Fa.ok K (.glo (Str.ofString "is_greater")),
  fun K => He.Fa.ok K (.meth (Str.ofString "Book") "but"),
  fun K => He.Fa.ok K (.glo (Str.ofString "tight_settings")),
  fun K => He.Fa.ok K (.glo (Str.ofString "tight")),
  fun K => He.Fa.ok K (.glo (Str.ofString "_law_pen")),
  fun K => He.Fa.ok K (.glo (Str.ofString "_law_draw")),
  fun K => He.Fa.ok K (.glo (Str.ofString "_law_pick")),
  fun K => He.Fa.ok K (.glo (Str.ofString "_law_plain")),
  fun K => He.Fa.ok K (.glo (Str.ofString "_law_text")),
  fun K => He.Fa.ok K (.glo (Str.ofString "_law_sums")),
  fun K => He.Fa.ok K (.glo (Str.ofString "_law_let")),
  fun K => He.Fa.ok K (.glo (Str.ofString "_law_pairs")),
  fun K => He.Fa.ok K (.glo (Str.ofString "_law_barred")),
  fun K => He.Fa.ok K (.glo (Str.ofString "_law_but")),
  fun K => He.Fa.ok K (.glo (Str.ofString "_law_settings")),
  fun K => He.Fa.ok K (.glo (Str.ofString "_law_plain_form")),
  fun K => He.Fa.ok K (.glo (Str.ofString "_law_chain")),
  fun K => He.Fa.ok K (.glo (Str.ofString "_law_seen")),
  fun K => He.Fa.ok K (.glo (Str.ofString "_law_tight")),
  fun K => He.Fa.ok K (.glo (Str.ofString "_law_among")),
  fun K => He.Fa.ok K (.glo (Str.ofString "_law_due")),
  fun K => He.Fa.ok K (.glo (Str.ofString "_law_right")),
  fun K => He.Fa.ok K (.glo (Str.ofString "law"))]
def fns : List He5.DefA := [
  ⟨fun K => He.ga K "is_integer", "is_integer", "is_integer", defArgs s_is_integer, defBody s_is_integer, defScope s_is_integer, [], []⟩,
  ⟨fun K => He.ga K "is_within", "is_within", "is_within", defArgs s_is_within, defBody s_is_within, defScope s_is_within, [], []⟩,
  ⟨fun K => He.ga K "need_count", "need_count", "need_count", defArgs s_need_count, defBody s_need_count, defScope s_need_count, [], []⟩,
  ⟨fun K => He.ga K "first_totals", "first_totals", "first_totals", defArgs s_first_totals, defBody s_first_totals, defScope s_first_totals, [], []⟩,
  ⟨fun K => He.ga K "total_of", "total_of", "total_of", defArgs s_total_of, defBody s_total_of, defScope s_total_of, [], []⟩,
  ⟨fun K => He.ga K "rows_of", "rows_of", "rows_of", defArgs s_rows_of, defBody s_rows_of, defScope s_rows_of, [], []⟩,
  ⟨fun K => He.ga K "upcoming", "upcoming", "upcoming", defArgs s_upcoming, defBody s_upcoming, defScope s_upcoming, [], []⟩,
  ⟨fun K => He.ga K "need_head", "need_head", "need_head", defArgs s_need_head, defBody s_need_head, defScope s_need_head, [], []⟩,
  ⟨fun K => He.ga K "number_at", "number_at", "number_at", defArgs s_number_at, defBody s_number_at, defScope s_number_at, [], []⟩,
  ⟨fun K => He.ga K "lengths_at", "lengths_at", "lengths_at", defArgs s_lengths_at, defBody s_lengths_at, defScope s_lengths_at, [], []⟩,
  ⟨fun K => He.ga K "length_in", "length_in", "length_in", defArgs s_length_in, defBody s_length_in, defScope s_length_in, [], []⟩,
  ⟨fun K => He.ga K "pages_in", "pages_in", "pages_in", defArgs s_pages_in, defBody s_pages_in, defScope s_pages_in, [], []⟩,
  ⟨fun K => He.ga K "are_rows", "are_rows", "are_rows", defArgs s_are_rows, defBody s_are_rows, defScope s_are_rows, [], []⟩,
  ⟨fun K => He.ga K "need_word", "need_word", "need_word", defArgs s_need_word, defBody s_need_word, defScope s_need_word, [], []⟩,
  ⟨fun K => He.ga K "ascending", "ascending", "ascending", defArgs s_ascending, defBody s_ascending, defScope s_ascending, [], []⟩,
  ⟨fun K => He.ma K (He.ga K (Str.ofString "Lengths")) "__init__", "__init__", "Lengths.__init__", defArgs s_Lengths___init__, defBody s_Lengths___init__, defScope s_Lengths___init__, [], []⟩,
  ⟨fun K => He.ma K (He.ga K (Str.ofString "Lengths")) "__contains__", "__contains__", "Lengths.__contains__", defArgs s_Lengths___contains__, defBody s_Lengths___contains__, defScope s_Lengths___contains__, [], []⟩,
  ⟨fun K => He.ma K (He.ga K (Str.ofString "Lengths")) "has_total", "has_total", "Lengths.has_total", defArgs s_Lengths_has_total, defBody s_Lengths_has_total, defScope s_Lengths_has_total, [], []⟩,
  ⟨fun K => He.ma K (He.ga K (Str.ofString "Lengths")) "totals", "totals", "Lengths.totals", defArgs s_Lengths_totals, defBody s_Lengths_totals, defScope s_Lengths_totals, [], []⟩,
  ⟨fun K => He.ma K (He.ga K (Str.ofString "Book")) "__init__", "__init__", "Book.__init__", defArgs s_Book___init__, defBody s_Book___init__, defScope s_Book___init__, [.str "own", .str "even", .str "left"], []⟩,
  ⟨fun K => He5.wf K (He.ga K (Str.ofString "Book")) "classmethod" "read", "read", "Book.read", defArgs s_Book_read, defBody s_Book_read, defScope s_Book_read, [], []⟩,
  ⟨fun K => propG K (He.ga K (Str.ofString "Book")) "sums", "sums", "Book.sums", defArgs s_Book_sums, defBody s_Book_sums, defScope s_Book_sums, [], []⟩,
  ⟨fun K => He.ma K (He.ga K (Str.ofString "Book")) "__call__", "__call__", "Book.__call__", defArgs s_Book___call__, defBody s_Book___call__, defScope s_Book___call__, [], []⟩,
  ⟨fun K => He.ma K (He.ga K (Str.ofString "Book")) "but", "but", "Book.but", defArgs s_Book_but, defBody s_Book_but, defScope s_Book_but, [], []⟩,
  ⟨fun K => He.ma K (He.ga K (Str.ofString "Chain")) "__init__", "__init__", "Chain.__init__", defArgs s_Chain___init__, defBody s_Chain___init__, defScope s_Chain___init__, [], []⟩,
  ⟨fun K => He5.wf K (He.ga K (Str.ofString "Chain")) "classmethod" "read", "read", "Chain.read", defArgs s_Chain_read, defBody s_Chain_read, defScope s_Chain_read, [], []⟩,
  ⟨fun K => propG K (He.ga K (Str.ofString "Chain")) "sums", "sums", "Chain.sums", defArgs s_Chain_sums, defBody s_Chain_sums, defScope s_Chain_sums, [], []⟩,
  ⟨fun K => He.ma K (He.ga K (Str.ofString "Chain")) "__iter__", "__iter__", "Chain.__iter__", defArgs s_Chain___iter__, defBody s_Chain___iter__, defScope s_Chain___iter__, [], []⟩,
  ⟨fun K => He.ma K (He.ga K (Str.ofString "Chain")) "fits", "fits", "Chain.fits", defArgs s_Chain_fits, defBody s_Chain_fits, defScope s_Chain_fits, [], []⟩,
  ⟨fun K => He.ga K "need_book", "need_book", "need_book", defArgs s_need_book, defBody s_need_book, defScope s_need_book, [], []⟩,
  ⟨fun K => He.ga K "all_pairs", "all_pairs", "all_pairs", defArgs s_all_pairs, defBody s_all_pairs, defScope s_all_pairs, [], []⟩,
  ⟨fun K => He.ga K "barred_pairs", "barred_pairs", "barred_pairs", defArgs s_barred_pairs, defBody s_barred_pairs, defScope s_barred_pairs, [], []⟩,
  ⟨fun K => He.ga K "plain_of", "plain_of", "plain_of", defArgs s_plain_of, defBody s_plain_of, defScope s_plain_of, [], []⟩,
  ⟨fun K => He.ga K "need_chains", "need_chains", "need_chains", defArgs s_need_chains, defBody s_need_chains, defScope s_need_chains, [], []⟩,
  ⟨fun K => He.ga K "seen_pairs", "seen_pairs", "seen_pairs", defArgs s_seen_pairs, defBody s_seen_pairs, defScope s_seen_pairs, [], []⟩,
  ⟨fun K => He.ga K "bound_for", "bound_for", "bound_for", defArgs s_bound_for, defBody s_bound_for, defScope s_bound_for, [], []⟩,
  ⟨fun K => He.ga K "is_greater", "is_greater", "is_greater", defArgs s_is_greater, defBody s_is_greater, defScope s_is_greater, [], []⟩,
  ⟨fun K => He.ga K "tight_settings", "tight_settings", "tight_settings", defArgs s_tight_settings, defBody s_tight_settings, defScope s_tight_settings, [], []⟩,
  ⟨fun K => He.ga K "tight", "tight", "tight", defArgs s_tight, defBody s_tight, defScope s_tight, [], []⟩,
  ⟨fun K => He.ga K "_law_pen", "_law_pen", "_law_pen", defArgs s__law_pen, defBody s__law_pen, defScope s__law_pen, [], []⟩,
  ⟨fun K => He.ga K "_law_draw", "_law_draw", "_law_draw", defArgs s__law_draw, defBody s__law_draw, defScope s__law_draw, [], []⟩,
  ⟨fun K => He.ga K "_law_pick", "_law_pick", "_law_pick", defArgs s__law_pick, defBody s__law_pick, defScope s__law_pick, [], []⟩,
  ⟨fun K => He.ga K "_law_plain", "_law_plain", "_law_plain", defArgs s__law_plain, defBody s__law_plain, defScope s__law_plain, [], []⟩,
  ⟨fun K => He.ga K "_law_text", "_law_text", "_law_text", defArgs s__law_text, defBody s__law_text, defScope s__law_text, [], []⟩,
  ⟨fun K => He.ga K "_law_sums", "_law_sums", "_law_sums", defArgs s__law_sums, defBody s__law_sums, defScope s__law_sums, [], []⟩,
  ⟨fun K => He.ga K "_law_let", "_law_let", "_law_let", defArgs s__law_let, defBody s__law_let, defScope s__law_let, [], []⟩,
  ⟨fun K => He.ga K "_law_pairs", "_law_pairs", "_law_pairs", defArgs s__law_pairs, defBody s__law_pairs, defScope s__law_pairs, [], []⟩,
  ⟨fun K => He.ga K "_law_barred", "_law_barred", "_law_barred", defArgs s__law_barred, defBody s__law_barred, defScope s__law_barred, [], []⟩,
  ⟨fun K => He.ga K "_law_but", "_law_but", "_law_but", defArgs s__law_but, defBody s__law_but, defScope s__law_but, [], []⟩,
  ⟨fun K => He.ga K "_law_settings", "_law_settings", "_law_settings", defArgs s__law_settings, defBody s__law_settings, defScope s__law_settings, [], []⟩,
  ⟨fun K => He.ga K "_law_plain_form", "_law_plain_form", "_law_plain_form", defArgs s__law_plain_form, defBody s__law_plain_form, defScope s__law_plain_form, [], []⟩,
  ⟨fun K => He.ga K "_law_chain", "_law_chain", "_law_chain", defArgs s__law_chain, defBody s__law_chain, defScope s__law_chain, [], []⟩,
  ⟨fun K => He.ga K "_law_seen", "_law_seen", "_law_seen", defArgs s__law_seen, defBody s__law_seen, defScope s__law_seen, [], []⟩,
  ⟨fun K => He.ga K "_law_tight", "_law_tight", "_law_tight", defArgs s__law_tight, defBody s__law_tight, defScope s__law_tight, [], []⟩,
  ⟨fun K => He.ga K "_law_among", "_law_among", "_law_among", defArgs s__law_among, defBody s__law_among, defScope s__law_among, [], []⟩,
  ⟨fun K => He.ga K "_law_due", "_law_due", "_law_due", defArgs s__law_due, defBody s__law_due, defScope s__law_due, [], []⟩,
  ⟨fun K => He.ga K "_law_right", "_law_right", "_law_right", defArgs s__law_right, defBody s__law_right, defScope s__law_right, [], []⟩,
  ⟨fun K => He.ga K "law", "law", "law", defArgs s_law, defBody s_law, defScope s_law, [], []⟩]
theorem facts {P : Program} {w : World} {K : PySem.W.Frag} {h : Heap} {mg : Str → Option Value} {base : Heap} (X : K.In h) (G : h.Ns mainGlobals mg) (c : Says fs fns K) {fd : FuncData} (F_law : FunD K "law" "law" (defArgs s_law) (defBody s_law) (defScope s_law) [] [] (He.ga K (Str.ofString "law")) fd) :
    FnOk P w K mg base CX0 12 (He.ga K (Str.ofString "law")) fd ["_law_script"] (fun vs H Q _ => vs.length = 1 ∧ RX ⟨K, nm⟩ (phi 1 9 m_law) vs H Q fun _ _ _ => False) := by
  have fr : ∀ x ∈ frees, mg x = none := fun x hx => He.free_ok X G (List.all_eq_true.mp (c.fact 0) x hx)
  have hk : ktB kt K = true := (c.fact 1)
  obtain ⟨fd_is_integer, F_is_integer⟩ := c.def_ 0
  have g_is_integer : mg (Str.ofString "is_integer") = some (.ref (He.ga K (Str.ofString "is_integer"))) := He.glo_ok X G (c.fact 2)
  have h_is_integer : Df P w K mg base CX0 nm 1 "is_integer" S_is_integer := ⟨g_is_integer, F_is_integer.kp, (fp_of (ok_is_integer fr hk F_is_integer ) (F_is_integer.bindsN fun _ _ _ _ _ _ us hl => match us, hl with | [_], _ => rfl) (nx_le _) (nx_no _))⟩
  obtain ⟨fd_is_within, F_is_within⟩ := c.def_ 1
  have g_is_within : mg (Str.ofString "is_within") = some (.ref (He.ga K (Str.ofString "is_within"))) := He.glo_ok X G (c.fact 3)
  have h_is_within : Df P w K mg base CX0 nm 2 "is_within" S_is_within := ⟨g_is_within, F_is_within.kp, (fp_of (ok_is_within fr hk F_is_within h_is_integer) (F_is_within.bindsN fun _ _ _ _ _ _ us hl => match us, hl with | [_, _, _], _ => rfl) (nx_le _) (nx_no _))⟩
  obtain ⟨fd_need_count, F_need_count⟩ := c.def_ 2
  have g_need_count : mg (Str.ofString "need_count") = some (.ref (He.ga K (Str.ofString "need_count"))) := He.glo_ok X G (c.fact 4)
  have h_need_count : Df P w K mg base CX0 nm 3 "need_count" S_need_count := ⟨g_need_count, F_need_count.kp, (fp_of (ok_need_count fr hk F_need_count h_is_within) (F_need_count.bindsN fun _ _ _ _ _ _ us hl => match us, hl with | [_, _], _ => rfl) (nx_le _) (nx_no _))⟩
  obtain ⟨fd_first_totals, F_first_totals⟩ := c.def_ 3
  have g_first_totals : mg (Str.ofString "first_totals") = some (.ref (He.ga K (Str.ofString "first_totals"))) := He.glo_ok X G (c.fact 5)
  have h_first_totals : Df P w K mg base CX0 nm 1 "first_totals" S_first_totals := ⟨g_first_totals, F_first_totals.kp, (fp_of (ok_first_totals fr hk F_first_totals ) (F_first_totals.bindsN fun _ _ _ _ _ _ us hl => match us, hl with | [_], _ => rfl) (nx_le _) (nx_no _))⟩
  obtain ⟨fd_total_of, F_total_of⟩ := c.def_ 4
  have g_total_of : mg (Str.ofString "total_of") = some (.ref (He.ga K (Str.ofString "total_of"))) := He.glo_ok X G (c.fact 6)
  have h_total_of : Df P w K mg base CX0 nm 1 "total_of" S_total_of := ⟨g_total_of, F_total_of.kp, (fp_of (ok_total_of fr hk F_total_of ) (F_total_of.bindsN fun _ _ _ _ _ _ us hl => match us, hl with | [_], _ => rfl) (nx_le _) (nx_no _))⟩
  obtain ⟨fd_rows_of, F_rows_of⟩ := c.def_ 5
  have g_rows_of : mg (Str.ofString "rows_of") = some (.ref (He.ga K (Str.ofString "rows_of"))) := He.glo_ok X G (c.fact 7)
  have h_rows_of : Df P w K mg base CX0 nm 1 "rows_of" S_rows_of := ⟨g_rows_of, F_rows_of.kp, (fp_of (ok_rows_of fr hk F_rows_of ) (F_rows_of.bindsN fun _ _ _ _ _ _ us hl => match us, hl with | [_], _ => rfl) (nx_le _) (nx_no _))⟩
  obtain ⟨fd_upcoming, F_upcoming⟩ := c.def_ 6
  have g_upcoming : mg (Str.ofString "upcoming") = some (.ref (He.ga K (Str.ofString "upcoming"))) := He.glo_ok X G (c.fact 8)
  have h_upcoming : Df P w K mg base CX0 nm 1 "upcoming" S_upcoming := ⟨g_upcoming, F_upcoming.kp, (fp_of (ok_upcoming fr hk F_upcoming ) (F_upcoming.bindsN fun _ _ _ _ _ _ us hl => match us, hl with | [_, _], _ => rfl) (nx_le _) (nx_no _))⟩
  obtain ⟨fd_need_head, F_need_head⟩ := c.def_ 7
  have g_need_head : mg (Str.ofString "need_head") = some (.ref (He.ga K (Str.ofString "need_head"))) := He.glo_ok X G (c.fact 9)
  have h_need_head : Df P w K mg base CX0 nm 2 "need_head" S_need_head := ⟨g_need_head, F_need_head.kp, (fp_of (ok_need_head fr hk F_need_head h_upcoming) (F_need_head.bindsN fun _ _ _ _ _ _ us hl => match us, hl with | [_, _, _], _ => rfl) (nx_le _) (nx_no _))⟩
  obtain ⟨fd_number_at, F_number_at⟩ := c.def_ 8
  have g_number_at : mg (Str.ofString "number_at") = some (.ref (He.ga K (Str.ofString "number_at"))) := He.glo_ok X G (c.fact 10)
  have h_number_at : Df P w K mg base CX0 nm 2 "number_at" S_number_at := ⟨g_number_at, F_number_at.kp, (fp_of (ok_number_at fr hk F_number_at h_upcoming) (F_number_at.bindsN fun _ _ _ _ _ _ us hl => match us, hl with | [_, _, _, _], _ => rfl) (nx_le _) (nx_no _))⟩
  have c_MOST_ROOM : ∃ t, mg "MOST_ROOM" = some (.int 60 t) := He.int_ok X G (c.fact 11)
  obtain ⟨fd_lengths_at, F_lengths_at⟩ := c.def_ 9
  have g_lengths_at : mg (Str.ofString "lengths_at") = some (.ref (He.ga K (Str.ofString "lengths_at"))) := He.glo_ok X G (c.fact 12)
  have h_lengths_at : Df P w K mg base CX0 nm 3 "lengths_at" S_lengths_at := ⟨g_lengths_at, F_lengths_at.kp, (fp_of (ok_lengths_at fr hk F_lengths_at h_upcoming h_number_at c_MOST_ROOM) (F_lengths_at.bindsN fun _ _ _ _ _ _ us hl => match us, hl with | [_, _, _], _ => rfl) (nx_le _) (nx_no _))⟩
  have c_MOST_LENGTH : ∃ t, mg "MOST_LENGTH" = some (.int 60 t) := He.int_ok X G (c.fact 13)
  obtain ⟨fd_length_in, F_length_in⟩ := c.def_ 10
  have g_length_in : mg (Str.ofString "length_in") = some (.ref (He.ga K (Str.ofString "length_in"))) := He.glo_ok X G (c.fact 14)
  have h_length_in : Df P w K mg base CX0 nm 1 "length_in" S_length_in := ⟨g_length_in, F_length_in.kp, (fp_of (ok_length_in fr hk F_length_in c_MOST_LENGTH) (F_length_in.bindsN fun _ _ _ _ _ _ us hl => match us, hl with | [_], _ => rfl) (nx_le _) (nx_no _))⟩
  have c_MOST_ROWS : ∃ t, mg "MOST_ROWS" = some (.int 60 t) := He.int_ok X G (c.fact 15)
  have c_MOST_PAGES : ∃ t, mg "MOST_PAGES" = some (.int 400 t) := He.int_ok X G (c.fact 16)
  obtain ⟨fd_pages_in, F_pages_in⟩ := c.def_ 11
  have g_pages_in : mg (Str.ofString "pages_in") = some (.ref (He.ga K (Str.ofString "pages_in"))) := He.glo_ok X G (c.fact 17)
  have h_pages_in : Df P w K mg base CX0 nm 2 "pages_in" S_pages_in := ⟨g_pages_in, F_pages_in.kp, (fp_of (ok_pages_in fr hk F_pages_in h_length_in c_MOST_ROWS c_MOST_PAGES) (F_pages_in.bindsN fun _ _ _ _ _ _ us hl => match us, hl with | [_], _ => rfl) (nx_le _) (nx_no _))⟩
  obtain ⟨fd_are_rows, F_are_rows⟩ := c.def_ 12
  have g_are_rows : mg (Str.ofString "are_rows") = some (.ref (He.ga K (Str.ofString "are_rows"))) := He.glo_ok X G (c.fact 18)
  have h_are_rows : Df P w K mg base CX0 nm 3 "are_rows" S_are_rows := ⟨g_are_rows, F_are_rows.kp, (fp_of (ok_are_rows fr hk F_are_rows c_MOST_ROWS h_is_within c_MOST_LENGTH) (F_are_rows.bindsN fun _ _ _ _ _ _ us hl => match us, hl with | [_], _ => rfl) (nx_le _) (nx_no _))⟩
  obtain ⟨fd_need_word, F_need_word⟩ := c.def_ 13
  have g_need_word : mg (Str.ofString "need_word") = some (.ref (He.ga K (Str.ofString "need_word"))) := He.glo_ok X G (c.fact 19)
  have h_need_word : Df P w K mg base CX0 nm 1 "need_word" S_need_word := ⟨g_need_word, F_need_word.kp, (fp_of (ok_need_word fr hk F_need_word ) (F_need_word.bindsN fun _ _ _ _ _ _ us hl => match us, hl with | [_, _, _], _ => rfl) (nx_le _) (nx_no _))⟩
  obtain ⟨fd_ascending, F_ascending⟩ := c.def_ 14
  have g_ascending : mg (Str.ofString "ascending") = some (.ref (He.ga K (Str.ofString "ascending"))) := He.glo_ok X G (c.fact 20)
  have h_ascending : Df P w K mg base CX0 nm 1 "ascending" S_ascending := ⟨g_ascending, F_ascending.kp, (fp_of (ok_ascending fr hk F_ascending ) (F_ascending.bindsN fun _ _ _ _ _ _ us hl => match us, hl with | [_], _ => rfl) (nx_le _) (nx_no _))⟩
  have cl_Lengths : Cls K (He.ga K (Str.ofString "Lengths")) := He.cls_ok (c.fact 21)
  have na_Lengths_own_lengths : NoAttr K (He.ga K (Str.ofString "Lengths")) "own_lengths" := He.noat_ok (c.fact 22)
  have c_MOST_LENGTHS : ∃ t, mg "MOST_LENGTHS" = some (.int 6 t) := He.int_ok X G (c.fact 23)
  have na_Lengths_least : NoAttr K (He.ga K (Str.ofString "Lengths")) "least" := He.noat_ok (c.fact 24)
  have na_Lengths_greatest : NoAttr K (He.ga K (Str.ofString "Lengths")) "greatest" := He.noat_ok (c.fact 25)
  have na_Lengths_firsts : NoAttr K (He.ga K (Str.ofString "Lengths")) "firsts" := He.noat_ok (c.fact 26)
  obtain ⟨fd_Lengths___init__, F_Lengths___init__⟩ := c.def_ 15
  have g_Lengths : mg (Str.ofString "Lengths") = some (.ref (He.ga K (Str.ofString "Lengths"))) := He.glo_ok X G (c.fact 27)
  have i_Lengths : Di P w K mg base CX0 nm 3 "Lengths" I_Lengths := ⟨g_Lengths, He.mkr_ok (c.fact 28), (ip_ofS (ok_Lengths___init__ fr hk F_Lengths___init__ (fun _ _ _ _ _ _ us rest hl => match us, rest, hl with | [_], [], _ => rfl | [_], _ :: _, _ => rfl) h_is_within c_MOST_LENGTH h_ascending cl_Lengths na_Lengths_own_lengths c_MOST_LENGTHS na_Lengths_least na_Lengths_greatest h_first_totals na_Lengths_firsts) (nxI_le _) (nxI_no _))⟩
  obtain ⟨fd_Lengths___contains__, F_Lengths___contains__⟩ := c.def_ 16
  have m_Lengths___contains__ : Dm P w K mg base CX0 nm 3 (Str.ofString "Lengths") "__contains__" S_Lengths___contains__ := ⟨cl_Lengths, He.meth_ok (c.fact 29), (fp_of (ok_Lengths___contains__ fr hk F_Lengths___contains__ h_is_within c_MOST_LENGTH cl_Lengths na_Lengths_own_lengths) (F_Lengths___contains__.bindsN fun _ _ _ _ _ _ us hl => match us, hl with | [_, _], _ => rfl) (nx_le _) (nx_no _))⟩
  have c_MOST_FAR : ∃ t, mg "MOST_FAR" = some (.int 1000000000000000000000000000000 t) := He.int_ok X G (c.fact 30)
  obtain ⟨fd_Lengths_has_total, F_Lengths_has_total⟩ := c.def_ 17
  have m_Lengths_has_total : Dm P w K mg base CX0 nm 3 (Str.ofString "Lengths") "has_total" S_Lengths_has_total := ⟨cl_Lengths, He.meth_ok (c.fact 31), (fp_of (ok_Lengths_has_total fr hk F_Lengths_has_total h_is_within c_MOST_FAR cl_Lengths na_Lengths_least na_Lengths_firsts) (F_Lengths_has_total.bindsN fun _ _ _ _ _ _ us hl => match us, hl with | [_, _], _ => rfl) (nx_le _) (nx_no _))⟩
  have c_MOST_TOTAL : ∃ t, mg "MOST_TOTAL" = some (.int 60 t) := He.int_ok X G (c.fact 32)
  obtain ⟨fd_Lengths_totals, F_Lengths_totals⟩ := c.def_ 18
  have m_Lengths_totals : Dm P w K mg base CX0 nm 4 (Str.ofString "Lengths") "totals" S_Lengths_totals := ⟨cl_Lengths, He.meth_ok (c.fact 33), (fp_of (ok_Lengths_totals fr hk F_Lengths_totals h_need_count c_MOST_TOTAL m_Lengths_has_total) (F_Lengths_totals.bindsN fun _ _ _ _ _ _ us hl => match us, hl with | [_, _], _ => rfl) (nx_le _) (nx_no _))⟩
  have g_Book : mg (Str.ofString "Book") = some (.ref (He.ga K (Str.ofString "Book"))) := He.glo_ok X G (c.fact 34)
  have ct_Book_LOOKS : catB "Book" "LOOKS" [.str "own", .str "near"] K = true := (c.fact 35)
  have ct_Book_CUTS : catB "Book" "CUTS" [.str "even", .str "ahead", .str "put"] K = true := (c.fact 36)
  have ct_Book_SIDES : catB "Book" "SIDES" [.str "left", .str "right"] K = true := (c.fact 37)
  have cl_Book : Cls K (He.ga K (Str.ofString "Book")) := He.cls_ok (c.fact 38)
  have na_Book_room : NoAttr K (He.ga K (Str.ofString "Book")) "room" := He.noat_ok (c.fact 39)
  have na_Book_lengths : NoAttr K (He.ga K (Str.ofString "Book")) "lengths" := He.noat_ok (c.fact 40)
  have na_Book_low : NoAttr K (He.ga K (Str.ofString "Book")) "low" := He.noat_ok (c.fact 41)
  have na_Book_bound : NoAttr K (He.ga K (Str.ofString "Book")) "bound" := He.noat_ok (c.fact 42)
  have na_Book_looks : NoAttr K (He.ga K (Str.ofString "Book")) "looks" := He.noat_ok (c.fact 43)
  have na_Book_cut : NoAttr K (He.ga K (Str.ofString "Book")) "cut" := He.noat_ok (c.fact 44)
  have na_Book_side : NoAttr K (He.ga K (Str.ofString "Book")) "side" := He.noat_ok (c.fact 45)
  have na_Book_own_sums : NoAttr K (He.ga K (Str.ofString "Book")) "own_sums" := He.noat_ok (c.fact 46)
  obtain ⟨fd_Book___init__, F_Book___init__⟩ := c.def_ 19
  have b_Book___init__ : Binds K fd_Book___init__ ["self", "room", "lengths", "low", "bound", "looks", "cut", "side"] [] := by
    obtain ⟨ds, v, b⟩ := F_Book___init__.binds1 (ps := ["self", "room", "lengths", "low", "bound", "looks", "cut", "side"]) 8 3 (by intro z; cases z) rfl fun T kV doc pm an cdv ct us its hl hi => match us, hl, its, hi with | [_, _, _, _, _, _, _, _], _, [_, _, _], _ => ⟨_, rfl, rfl⟩
    cases v
    exact b
  have i_Book : Di P w K mg base CX0 nm 5 "Book" I_Book := ⟨g_Book, He.mkr_ok (c.fact 47), (ip_of (ok_Book___init__ fr hk F_Book___init__ h_is_within c_MOST_ROOM g_Lengths cl_Lengths na_Lengths_least na_Lengths_greatest h_need_word g_Book ct_Book_LOOKS ct_Book_CUTS ct_Book_SIDES cl_Book na_Book_room na_Book_lengths na_Book_low na_Book_bound na_Book_looks na_Book_cut na_Book_side m_Lengths_totals na_Book_own_sums) b_Book___init__ (nxI_le _) (nxI_no _))⟩
  obtain ⟨fd_Book_read, F_Book_read⟩ := c.def_ 20
  have k_Book_read : Dc P w K mg base CX0 nm 7 "Book" "read" S_Book_read := ⟨(cmB_ok (c.fact 48)).1, (cmB_ok (c.fact 48)).2, (fp_of (ok_Book_read fr hk F_Book_read h_need_head h_number_at c_MOST_ROOM h_lengths_at g_Book ct_Book_SIDES ct_Book_CUTS ct_Book_LOOKS h_upcoming i_Book i_Lengths) (F_Book_read.bindsN fun _ _ _ _ _ _ us hl => match us, hl with | [_, _], _ => rfl) (nx_le _) (nx_no _))⟩
  obtain ⟨fd_Book_sums, F_Book_sums⟩ := c.def_ 21
  have p_Book_sums : Vt.Dp P w K mg base CX0 nm 1 "Book" "sums" S_Book_sums := ⟨cl_Book, propB_ok (c.fact 49), (prop_of (ok_Book_sums fr hk F_Book_sums cl_Book na_Book_own_sums) rfl (F_Book_sums.bindsN fun _ _ _ _ _ _ us hl => match us, hl with | [_], _ => rfl) (nx_le _) (nx_no _))⟩
  obtain ⟨fd_Book___call__, F_Book___call__⟩ := c.def_ 22
  have o_Book : Do P w K mg base CX0 nm 2 "Book" S_Book___call__ := ⟨coB_ok (c.fact 50), (fp_of (ok_Book___call__ fr hk F_Book___call__ h_is_integer cl_Book na_Book_own_sums na_Book_bound na_Book_looks na_Book_low) (F_Book___call__.bindsN fun _ _ _ _ _ _ us hl => match us, hl with | [_, _, _], _ => rfl) (nx_le _) (nx_no _))⟩
  have m_Book___call__ : Dm P w K mg base CX0 nm 2 (Str.ofString "Book") "__call__" S_Book___call__ := ⟨cl_Book, He.meth_ok (c.fact 51), (fp_of (ok_Book___call__ fr hk F_Book___call__ h_is_integer cl_Book na_Book_own_sums na_Book_bound na_Book_looks na_Book_low) (F_Book___call__.bindsN fun _ _ _ _ _ _ us hl => match us, hl with | [_, _, _], _ => rfl) (nx_le _) (nx_no _))⟩
  have g_NAMES : mg (Str.ofString "NAMES") = some (.ref (He.ga K (Str.ofString "NAMES"))) := He.glo_ok X G (c.fact 52)
  have t_NAMES : mtB (Str.ofString "NAMES") [.str "room", .str "lengths", .str "low", .str "bound", .str "looks", .str "cut", .str "side"] K = true := (c.fact 53)
  obtain ⟨fd_Book_but, F_Book_but⟩ := c.def_ 23
  have cl_Chain : Cls K (He.ga K (Str.ofString "Chain")) := He.cls_ok (c.fact 54)
  have na_Chain_pages : NoAttr K (He.ga K (Str.ofString "Chain")) "pages" := He.noat_ok (c.fact 55)
  have na_Chain_rows : NoAttr K (He.ga K (Str.ofString "Chain")) "rows" := He.noat_ok (c.fact 56)
  have na_Chain_size : NoAttr K (He.ga K (Str.ofString "Chain")) "size" := He.noat_ok (c.fact 57)
  obtain ⟨fd_Chain___init__, F_Chain___init__⟩ := c.def_ 24
  have g_Chain : mg (Str.ofString "Chain") = some (.ref (He.ga K (Str.ofString "Chain"))) := He.glo_ok X G (c.fact 58)
  have i_Chain : Di P w K mg base CX0 nm 4 "Chain" I_Chain := ⟨g_Chain, He.mkr_ok (c.fact 59), (ip_ofS (ok_Chain___init__ fr hk F_Chain___init__ (fun _ _ _ _ _ _ us rest hl => match us, rest, hl with | [_], [], _ => rfl | [_], _ :: _, _ => rfl) h_are_rows c_MOST_PAGES cl_Chain na_Chain_pages h_rows_of na_Chain_rows h_total_of na_Chain_size) (nxI_le _) (nxI_no _))⟩
  obtain ⟨fd_Chain_read, F_Chain_read⟩ := c.def_ 25
  have k_Chain_read : Dc P w K mg base CX0 nm 6 "Chain" "read" S_Chain_read := ⟨(cmB_ok (c.fact 60)).1, (cmB_ok (c.fact 60)).2, (fp_of (ok_Chain_read fr hk F_Chain_read h_pages_in i_Chain) (F_Chain_read.bindsN fun _ _ _ _ _ _ us hl => match us, hl with | [_, _], _ => rfl) (nx_le _) (nx_no _))⟩
  obtain ⟨fd_Chain_sums, F_Chain_sums⟩ := c.def_ 26
  have p_Chain_sums : Vt.Dp P w K mg base CX0 nm 2 "Chain" "sums" S_Chain_sums := ⟨cl_Chain, propB_ok (c.fact 61), (prop_of (ok_Chain_sums fr hk F_Chain_sums cl_Chain na_Chain_pages h_total_of) rfl (F_Chain_sums.bindsN fun _ _ _ _ _ _ us hl => match us, hl with | [_], _ => rfl) (nx_le _) (nx_no _))⟩
  obtain ⟨fd_Chain___iter__, F_Chain___iter__⟩ := c.def_ 27
  have q_Chain : Dt P w K mg base 1 "Chain" "pages" := ⟨(He.meth_ok (c.fact 62)).at_, (He.meth_ok (c.fact 62)).fn, ok_Chain___iter__ fr hk F_Chain___iter__ cl_Chain na_Chain_pages⟩
  obtain ⟨fd_Chain_fits, F_Chain_fits⟩ := c.def_ 28
  have m_Chain_fits : Dm P w K mg base CX0 nm 4 (Str.ofString "Chain") "fits" S_Chain_fits := ⟨cl_Chain, He.meth_ok (c.fact 63), (fp_of (ok_Chain_fits fr hk F_Chain_fits g_Book cl_Chain na_Chain_rows cl_Book na_Book_lengths m_Lengths___contains__ p_Chain_sums na_Book_room) (F_Chain_fits.bindsN fun _ _ _ _ _ _ us hl => match us, hl with | [_, _], _ => rfl) (nx_le _) (nx_no _))⟩
  obtain ⟨fd_need_book, F_need_book⟩ := c.def_ 29
  have g_need_book : mg (Str.ofString "need_book") = some (.ref (He.ga K (Str.ofString "need_book"))) := He.glo_ok X G (c.fact 64)
  have h_need_book : Df P w K mg base CX0 nm 1 "need_book" S_need_book := ⟨g_need_book, F_need_book.kp, (fp_of (ok_need_book fr hk F_need_book g_Book) (F_need_book.bindsN fun _ _ _ _ _ _ us hl => match us, hl with | [_, _], _ => rfl) (nx_le _) (nx_no _))⟩
  obtain ⟨fd_all_pairs, F_all_pairs⟩ := c.def_ 30
  have g_all_pairs : mg (Str.ofString "all_pairs") = some (.ref (He.ga K (Str.ofString "all_pairs"))) := He.glo_ok X G (c.fact 65)
  have h_all_pairs : Df P w K mg base CX0 nm 3 "all_pairs" S_all_pairs := ⟨g_all_pairs, F_all_pairs.kp, (fp_of (ok_all_pairs fr hk F_all_pairs p_Book_sums) (F_all_pairs.bindsN fun _ _ _ _ _ _ us hl => match us, hl with | [_], _ => rfl) (nx_le _) (nx_no _))⟩
  obtain ⟨fd_barred_pairs, F_barred_pairs⟩ := c.def_ 31
  have g_barred_pairs : mg (Str.ofString "barred_pairs") = some (.ref (He.ga K (Str.ofString "barred_pairs"))) := He.glo_ok X G (c.fact 66)
  have h_barred_pairs : Df P w K mg base CX0 nm 4 "barred_pairs" S_barred_pairs := ⟨g_barred_pairs, F_barred_pairs.kp, (fp_of (ok_barred_pairs fr hk F_barred_pairs h_all_pairs o_Book) (F_barred_pairs.bindsN fun _ _ _ _ _ _ us hl => match us, hl with | [_], _ => rfl) (nx_le _) (nx_no _))⟩
  obtain ⟨fd_plain_of, F_plain_of⟩ := c.def_ 32
  have g_plain_of : mg (Str.ofString "plain_of") = some (.ref (He.ga K (Str.ofString "plain_of"))) := He.glo_ok X G (c.fact 67)
  have h_plain_of : Df P w K mg base CX0 nm 1 "plain_of" S_plain_of := ⟨g_plain_of, F_plain_of.kp, (fp_of (ok_plain_of fr hk F_plain_of cl_Book na_Book_looks) (F_plain_of.bindsN fun _ _ _ _ _ _ us hl => match us, hl with | [_, _], _ => rfl) (nx_le _) (nx_no _))⟩
  obtain ⟨fd_need_chains, F_need_chains⟩ := c.def_ 33
  have g_need_chains : mg (Str.ofString "need_chains") = some (.ref (He.ga K (Str.ofString "need_chains"))) := He.glo_ok X G (c.fact 68)
  have h_need_chains : Df P w K mg base CX0 nm 5 "need_chains" S_need_chains := ⟨g_need_chains, F_need_chains.kp, (fp_of (ok_need_chains fr hk F_need_chains g_Chain m_Chain_fits) (F_need_chains.bindsN fun _ _ _ _ _ _ us hl => match us, hl with | [_, _], _ => rfl) (nx_le _) (nx_no _))⟩
  obtain ⟨fd_seen_pairs, F_seen_pairs⟩ := c.def_ 34
  have g_seen_pairs : mg (Str.ofString "seen_pairs") = some (.ref (He.ga K (Str.ofString "seen_pairs"))) := He.glo_ok X G (c.fact 69)
  have h_seen_pairs : Df P w K mg base CX0 nm 4 "seen_pairs" S_seen_pairs := ⟨g_seen_pairs, F_seen_pairs.kp, (fp_of (ok_seen_pairs fr hk F_seen_pairs p_Chain_sums) (F_seen_pairs.bindsN fun _ _ _ _ _ _ us hl => match us, hl with | [_], _ => rfl) (nx_le _) (nx_no _))⟩
  obtain ⟨fd_bound_for, F_bound_for⟩ := c.def_ 35
  have g_bound_for : mg (Str.ofString "bound_for") = some (.ref (He.ga K (Str.ofString "bound_for"))) := He.glo_ok X G (c.fact 70)
  have h_bound_for : Df P w K mg base CX0 nm 1 "bound_for" S_bound_for := ⟨g_bound_for, F_bound_for.kp, (fp_of (ok_bound_for fr hk F_bound_for cl_Book na_Book_looks na_Book_room) (F_bound_for.bindsN fun _ _ _ _ _ _ us hl => match us, hl with | [_, _, _], _ => rfl) (nx_le _) (nx_no _))⟩
  obtain ⟨fd_is_greater, F_is_greater⟩ := c.def_ 36
  have g_is_greater : mg (Str.ofString "is_greater") = some (.ref (He.ga K (Str.ofString "is_greater"))) := He.glo_ok X G (c.fact 71)
  have h_is_greater : Df P w K mg base CX0 nm 1 "is_greater" S_is_greater := ⟨g_is_greater, F_is_greater.kp, (fp_of (ok_is_greater fr hk F_is_greater ) (F_is_greater.bindsN fun _ _ _ _ _ _ us hl => match us, hl with | [_, _], _ => rfl) (nx_le _) (nx_no _))⟩
  have x_Book_but_low_bound : Dmk P w K mg base CX0 nm 7 (Str.ofString "Book") "but" ["low", "bound"] S_Book_but_low_bound := ⟨cl_Book, He.meth_ok (c.fact 72), ok_Book_but fr hk F_Book_but (fun _ _ _ _ _ _ u ws hl => match ws, hl with | [_, _], _ => rfl) rfl g_NAMES t_NAMES cl_Book na_Book_room na_Book_lengths na_Book_low na_Book_bound na_Book_looks na_Book_cut na_Book_side i_Book⟩
  obtain ⟨fd_tight_settings, F_tight_settings⟩ := c.def_ 37
  have g_tight_settings : mg (Str.ofString "tight_settings") = some (.ref (He.ga K (Str.ofString "tight_settings"))) := He.glo_ok X G (c.fact 73)
  have h_tight_settings : Df P w K mg base CX0 nm 8 "tight_settings" S_tight_settings := ⟨g_tight_settings, F_tight_settings.kp, (fp_of (ok_tight_settings fr hk F_tight_settings cl_Book na_Book_room x_Book_but_low_bound h_bound_for h_plain_of h_barred_pairs h_is_greater) (F_tight_settings.bindsN fun _ _ _ _ _ _ us hl => match us, hl with | [_, _], _ => rfl) (nx_le _) (nx_no _))⟩
  obtain ⟨fd_tight, F_tight⟩ := c.def_ 38
  have g_tight : mg (Str.ofString "tight") = some (.ref (He.ga K (Str.ofString "tight"))) := He.glo_ok X G (c.fact 74)
  have h_tight : Df P w K mg base CX0 nm 9 "tight" S_tight := ⟨g_tight, F_tight.kp, (fp_ofS (ok_tight fr hk F_tight (fun _ _ _ _ _ _ us rest hl => match us, rest, hl with | [_], [], _ => rfl | [_], _ :: _, _ => rfl) h_need_book h_need_chains h_tight_settings h_seen_pairs) (nx_le _) (nx_no _))⟩
  obtain ⟨fd__law_pen, F__law_pen⟩ := c.def_ 39
  have g__law_pen : mg (Str.ofString "_law_pen") = some (.ref (He.ga K (Str.ofString "_law_pen"))) := He.glo_ok X G (c.fact 75)
  have h__law_pen : Df P w K mg base CX0 nm 1 "_law_pen" S__law_pen := ⟨g__law_pen, F__law_pen.kp, (fp_of (ok__law_pen fr hk F__law_pen ) (F__law_pen.bindsN fun _ _ _ _ _ _ us hl => match us, hl with | [_], _ => rfl) (nx_le _) (nx_no _))⟩
  obtain ⟨fd__law_draw, F__law_draw⟩ := c.def_ 40
  have g__law_draw : mg (Str.ofString "_law_draw") = some (.ref (He.ga K (Str.ofString "_law_draw"))) := He.glo_ok X G (c.fact 76)
  have h__law_draw : Df P w K mg base CX0 nm 1 "_law_draw" S__law_draw := ⟨g__law_draw, F__law_draw.kp, (fp_of (ok__law_draw fr hk F__law_draw ) (F__law_draw.bindsN fun _ _ _ _ _ _ us hl => match us, hl with | [_, _], _ => rfl) (nx_le _) (nx_no _))⟩
  obtain ⟨fd__law_pick, F__law_pick⟩ := c.def_ 41
  have g__law_pick : mg (Str.ofString "_law_pick") = some (.ref (He.ga K (Str.ofString "_law_pick"))) := He.glo_ok X G (c.fact 77)
  have h__law_pick : Df P w K mg base CX0 nm 2 "_law_pick" S__law_pick := ⟨g__law_pick, F__law_pick.kp, (fp_of (ok__law_pick fr hk F__law_pick h__law_draw) (F__law_pick.bindsN fun _ _ _ _ _ _ us hl => match us, hl with | [_, _], _ => rfl) (nx_le _) (nx_no _))⟩
  obtain ⟨fd__law_plain, F__law_plain⟩ := c.def_ 42
  have g__law_plain : mg (Str.ofString "_law_plain") = some (.ref (He.ga K (Str.ofString "_law_plain"))) := He.glo_ok X G (c.fact 78)
  have h__law_plain : Df P w K mg base CX0 nm 3 "_law_plain" S__law_plain := ⟨g__law_plain, F__law_plain.kp, (fp_of (ok__law_plain fr hk F__law_plain h__law_pick h__law_draw) (F__law_plain.bindsN fun _ _ _ _ _ _ us hl => match us, hl with | [_], _ => rfl) (nx_le _) (nx_no _))⟩
  obtain ⟨fd__law_text, F__law_text⟩ := c.def_ 43
  have g__law_text : mg (Str.ofString "_law_text") = some (.ref (He.ga K (Str.ofString "_law_text"))) := He.glo_ok X G (c.fact 79)
  have h__law_text : Df P w K mg base CX0 nm 3 "_law_text" S__law_text := ⟨g__law_text, F__law_text.kp, (fp_of (ok__law_text fr hk F__law_text h__law_pick) (F__law_text.bindsN fun _ _ _ _ _ _ us hl => match us, hl with | [_, _], _ => rfl) (nx_le _) (nx_no _))⟩
  obtain ⟨fd__law_sums, F__law_sums⟩ := c.def_ 44
  have g__law_sums : mg (Str.ofString "_law_sums") = some (.ref (He.ga K (Str.ofString "_law_sums"))) := He.glo_ok X G (c.fact 80)
  have h__law_sums : Df P w K mg base CX0 nm 1 "_law_sums" S__law_sums := ⟨g__law_sums, F__law_sums.kp, (fp_of (ok__law_sums fr hk F__law_sums ) (F__law_sums.bindsN fun _ _ _ _ _ _ us hl => match us, hl with | [_], _ => rfl) (nx_le _) (nx_no _))⟩
  obtain ⟨fd__law_let, F__law_let⟩ := c.def_ 45
  have g__law_let : mg (Str.ofString "_law_let") = some (.ref (He.ga K (Str.ofString "_law_let"))) := He.glo_ok X G (c.fact 81)
  have h__law_let : Df P w K mg base CX0 nm 1 "_law_let" S__law_let := ⟨g__law_let, F__law_let.kp, (fp_of (ok__law_let fr hk F__law_let ) (F__law_let.bindsN fun _ _ _ _ _ _ us hl => match us, hl with | [_, _, _], _ => rfl) (nx_le _) (nx_no _))⟩
  obtain ⟨fd__law_pairs, F__law_pairs⟩ := c.def_ 46
  have g__law_pairs : mg (Str.ofString "_law_pairs") = some (.ref (He.ga K (Str.ofString "_law_pairs"))) := He.glo_ok X G (c.fact 82)
  have h__law_pairs : Df P w K mg base CX0 nm 2 "_law_pairs" S__law_pairs := ⟨g__law_pairs, F__law_pairs.kp, (fp_of (ok__law_pairs fr hk F__law_pairs h__law_sums) (F__law_pairs.bindsN fun _ _ _ _ _ _ us hl => match us, hl with | [_], _ => rfl) (nx_le _) (nx_no _))⟩
  obtain ⟨fd__law_barred, F__law_barred⟩ := c.def_ 47
  have g__law_barred : mg (Str.ofString "_law_barred") = some (.ref (He.ga K (Str.ofString "_law_barred"))) := He.glo_ok X G (c.fact 83)
  have h__law_barred : Df P w K mg base CX0 nm 3 "_law_barred" S__law_barred := ⟨g__law_barred, F__law_barred.kp, (fp_of (ok__law_barred fr hk F__law_barred h__law_pairs h__law_let) (F__law_barred.bindsN fun _ _ _ _ _ _ us hl => match us, hl with | [_], _ => rfl) (nx_le _) (nx_no _))⟩
  obtain ⟨fd__law_but, F__law_but⟩ := c.def_ 48
  have g__law_but : mg (Str.ofString "_law_but") = some (.ref (He.ga K (Str.ofString "_law_but"))) := He.glo_ok X G (c.fact 84)
  have h__law_but : Df P w K mg base CX0 nm 1 "_law_but" S__law_but := ⟨g__law_but, F__law_but.kp, (fp_of (ok__law_but fr hk F__law_but ) (F__law_but.bindsN fun _ _ _ _ _ _ us hl => match us, hl with | [_, _, _], _ => rfl) (nx_le _) (nx_no _))⟩
  obtain ⟨fd__law_settings, F__law_settings⟩ := c.def_ 49
  have g__law_settings : mg (Str.ofString "_law_settings") = some (.ref (He.ga K (Str.ofString "_law_settings"))) := He.glo_ok X G (c.fact 85)
  have h__law_settings : Df P w K mg base CX0 nm 4 "_law_settings" S__law_settings := ⟨g__law_settings, F__law_settings.kp, (fp_of (ok__law_settings fr hk F__law_settings h__law_barred h__law_but) (F__law_settings.bindsN fun _ _ _ _ _ _ us hl => match us, hl with | [_], _ => rfl) (nx_le _) (nx_no _))⟩
  obtain ⟨fd__law_plain_form, F__law_plain_form⟩ := c.def_ 50
  have g__law_plain_form : mg (Str.ofString "_law_plain_form") = some (.ref (He.ga K (Str.ofString "_law_plain_form"))) := He.glo_ok X G (c.fact 86)
  have h__law_plain_form : Df P w K mg base CX0 nm 1 "_law_plain_form" S__law_plain_form := ⟨g__law_plain_form, F__law_plain_form.kp, (fp_of (ok__law_plain_form fr hk F__law_plain_form ) (F__law_plain_form.bindsN fun _ _ _ _ _ _ us hl => match us, hl with | [_, _], _ => rfl) (nx_le _) (nx_no _))⟩
  obtain ⟨fd__law_chain, F__law_chain⟩ := c.def_ 51
  have g__law_chain : mg (Str.ofString "_law_chain") = some (.ref (He.ga K (Str.ofString "_law_chain"))) := He.glo_ok X G (c.fact 87)
  have h__law_chain : Df P w K mg base CX0 nm 7 "_law_chain" S__law_chain := ⟨g__law_chain, F__law_chain.kp, (fp_of (ok__law_chain fr hk F__law_chain h__law_draw h__law_pick g_Chain k_Chain_read) (F__law_chain.bindsN fun _ _ _ _ _ _ us hl => match us, hl with | [_, _], _ => rfl) (nx_le _) (nx_no _))⟩
  obtain ⟨fd__law_seen, F__law_seen⟩ := c.def_ 52
  have g__law_seen : mg (Str.ofString "_law_seen") = some (.ref (He.ga K (Str.ofString "_law_seen"))) := He.glo_ok X G (c.fact 88)
  have h__law_seen : Df P w K mg base CX0 nm 2 "_law_seen" S__law_seen := ⟨g__law_seen, F__law_seen.kp, (fp_of (ok__law_seen fr hk F__law_seen q_Chain) (F__law_seen.bindsN fun _ _ _ _ _ _ us hl => match us, hl with | [_], _ => rfl) (nx_le _) (nx_no _))⟩
  obtain ⟨fd__law_tight, F__law_tight⟩ := c.def_ 53
  have g__law_tight : mg (Str.ofString "_law_tight") = some (.ref (He.ga K (Str.ofString "_law_tight"))) := He.glo_ok X G (c.fact 89)
  have h__law_tight : Df P w K mg base CX0 nm 10 "_law_tight" S__law_tight := ⟨g__law_tight, F__law_tight.kp, (fp_of (ok__law_tight fr hk F__law_tight h_tight) (F__law_tight.bindsN fun _ _ _ _ _ _ us hl => match us, hl with | [_, _], _ => rfl) (nx_le _) (nx_no _))⟩
  obtain ⟨fd__law_among, F__law_among⟩ := c.def_ 54
  have g__law_among : mg (Str.ofString "_law_among") = some (.ref (He.ga K (Str.ofString "_law_among"))) := He.glo_ok X G (c.fact 90)
  have h__law_among : Df P w K mg base CX0 nm 1 "_law_among" S__law_among := ⟨g__law_among, F__law_among.kp, (fp_of (ok__law_among fr hk F__law_among ) (F__law_among.bindsN fun _ _ _ _ _ _ us hl => match us, hl with | [_, _], _ => rfl) (nx_le _) (nx_no _))⟩
  obtain ⟨fd__law_due, F__law_due⟩ := c.def_ 55
  have g__law_due : mg (Str.ofString "_law_due") = some (.ref (He.ga K (Str.ofString "_law_due"))) := He.glo_ok X G (c.fact 91)
  have h__law_due : Df P w K mg base CX0 nm 5 "_law_due" S__law_due := ⟨g__law_due, F__law_due.kp, (fp_of (ok__law_due fr hk F__law_due h__law_settings h__law_among h__law_plain_form) (F__law_due.bindsN fun _ _ _ _ _ _ us hl => match us, hl with | [_, _], _ => rfl) (nx_le _) (nx_no _))⟩
  obtain ⟨fd__law_right, F__law_right⟩ := c.def_ 56
  have g__law_right : mg (Str.ofString "_law_right") = some (.ref (He.ga K (Str.ofString "_law_right"))) := He.glo_ok X G (c.fact 92)
  have h__law_right : Df P w K mg base CX0 nm 11 "_law_right" S__law_right := ⟨g__law_right, F__law_right.kp, (fp_of (ok__law_right fr hk F__law_right h__law_plain g_Book k_Book_read h__law_text h__law_draw h__law_chain h__law_due h__law_seen h__law_tight x_Book_but_low_bound cl_Book na_Book_room) (F__law_right.bindsN fun _ _ _ _ _ _ us hl => match us, hl with | [_], _ => rfl) (nx_le _) (nx_no _))⟩
  have x_Book_but_looks : Dmk P w K mg base CX0 nm 7 (Str.ofString "Book") "but" ["looks"] S_Book_but_looks := ⟨cl_Book, He.meth_ok (c.fact 72), ok_Book_but fr hk F_Book_but (fun _ _ _ _ _ _ u ws hl => match ws, hl with | [_], _ => rfl) rfl g_NAMES t_NAMES cl_Book na_Book_room na_Book_lengths na_Book_low na_Book_bound na_Book_looks na_Book_cut na_Book_side i_Book⟩
  exact ok_law fr hk F_law h__law_pen h__law_right g_Book k_Book_read h_tight i_Chain g_Chain k_Chain_read x_Book_but_looks
theorem law_glo {K : PySem.W.Frag} {h : Heap} {mg : Str → Option Value} (X : K.In h) (G : h.Ns mainGlobals mg) (c : Says fs fns K) : mg (Str.ofString "law") = some (.ref (He.ga K (Str.ofString "law"))) := He.glo_ok X G (c.fact 93)
theorem law_fun {K : PySem.W.Frag} (c : Says fs fns K) : ∃ fd : FuncData, FunD K "law" "law" (defArgs s_law) (defBody s_law) (defScope s_law) [] [] (He.ga K (Str.ofString "law")) fd := c.def_ 57
end W77
set_option Elab.async false
set_option linter.all false
set_option maxRecDepth 100000
set_option maxHeartbeats 4000000
set_option autoImplicit false
namespace Vt
open PySem PySem.Spec PyProof.Rows L2
/-! ### the hook: only what the names gs reach, level by level -/
def refsE (o : Obj) : List Addr := match o.data with
  | .dict es _ => es.toList.flatMap fun e => He.refV e.val
  | .func fd => He.refV fd.code ++ (He.refV fd.defaults ++ He.refV fd.kwdefaults)
  | .cls cd => [cd.ns]
  | .fields vs => vs.toList.flatMap He.refV
  | _ => []
def nextE (g : Addr → Option Obj) (as : List Addr) : List Addr := as.flatMap fun a => match g a with
  | some o => refsE o
  | none => []
def levE (g : Addr → Option Obj) : Nat → List Addr → List Addr
  | 0, as => as
  | n + 1, as => as ++ levE g n (nextE g as)
def asS (g : Addr → Option Obj) (gs : List Str) (n : Nat) : List Addr :=
  mainGlobals :: PySem.cStatics :: levE g n (gs.map fun x => He.ga (He.frG g [mainGlobals]) x)
def seenS (n : Nat) (gs : List Str) (fs : List Fct) (fn : List He5.DefA) (g : Addr → Option Obj) : He.AlD := seen fs fn (He.frG g (asS g gs n))
def hookS (n : Nat) (gs : List Str) (fs : List Fct) (fn : List He5.DefA) : PySem.W.Hook where
  α := He.AlD
  obs := fun s => seenS n gs fs fn s.heap.get?
  val := fun _ => due fn
  says := fun _ h => ∃ K : PySem.W.Frag, K.In h ∧ Says fs fn K
  of := fun _ _ e => ⟨_, He.frG_in, e⟩
  keeps := fun _ _ _ ⟨K, hK, c⟩ k => ⟨K, hK.keeps k, c⟩
theorem seenS_eq {n : Nat} {gs : List Str} {fs : List Fct} {fn : List He5.DefA} {g : Addr → Option Obj} {s : Shared} (h : ∀ a, g a = s.heap.get? a) : seenS n gs fs fn g = (hookS n gs fs fn).obs s := by
  have e : g = s.heap.get? := funext h
  subst e
  rfl
end Vt
set_option Elab.async false
set_option linter.all false
set_option maxRecDepth 100000
set_option maxHeartbeats 0
namespace W77
open PySem PySem.Spec PyProof.Rows L2 Vt
abbrev R : PySem.W.OpenRow := PySem.W.OpenLaw.row PySem.Challenge.rw_pagefloor_k77_whole_tight_settings_of_ch
def nm0 : List PySem.Str := ["_wall", "is_integer", "is_within", "FloorError", "BadLengths", "BadBook", "BadChain", "BadCount", "BadText", "NoPage", "TooMany", "MOST_LENGTHS", "MOST_LENGTH", "MOST_TOTAL", "MOST_FAR", "ascending", "first_totals", "need_count", "Lengths", "need_lengths", "lengths_of", "length_in", "lengths_in", "MOST_ROOM", "NAMES", "Book", "need_book", "need_word", "upcoming", "need_head"]
def nm1 : List PySem.Str := ["number_at", "lengths_at", "MOST_PAGES", "MOST_ROWS", "are_rows", "total_of", "rows_of", "Chain", "pages_in", "all_pairs", "barred_pairs", "plain_of", "need_chains", "seen_pairs", "bound_for", "tight_settings", "is_greater", "tight", "_law_pen", "_law_draw", "_law_pick", "_law_plain", "_law_text", "_law_sums", "_law_let", "_law_pairs", "_law_barred", "_law_but", "_law_settings", "_law_plain_form"]
def nm2 : List PySem.Str := ["_law_chain", "_law_seen", "_law_tight", "_law_among", "_law_due", "_law_right"]
def nms : List PySem.Str := nm0 ++ nm1 ++ nm2
def gs : List Str := (nms.filter fun x => ![("_wall" : Str), "FloorError", "BadLengths", "BadBook", "BadChain", "BadCount", "BadText", "NoPage", "TooMany"].contains x) ++ ([("law" : Str)] : List Str)
abbrev hk : PySem.W.Hook := hookS 4 gs fs fns
def ob (s : PySem.W.SharedT) : He.AlD := seenS 4 gs fs fns (HandSHeadRun.getT s)
theorem ob_eq (s : PySem.W.SharedT) : ob s = hk.obs s.abs := seenS_eq (HandSHeadRun.getT_eq s)
theorem run (w : World) : HandSHeadRun.RunEq R (PySem.W.view R.prog [73]) hk ob 12000 nms w := by
  intro os
  kernel_rfl
end W77
set_option Elab.async false
set_option linter.all false
set_option maxRecDepth 100000
set_option maxHeartbeats 4000000
set_option autoImplicit false
namespace Vt
open PySem PySem.Spec PyProof.Rows L2
/-! ### what mirrors tell -/
section
variable {α β : Type} {P : α → List MO → Prop} {R : β → List MO → Prop}
theorem ok_ok {a : α} {m : List MO} : Ok (.ok a m) P ↔ P a m := ⟨fun ⟨_, _, e, h⟩ => by cases e; exact h, fun h => ⟨_, _, rfl, h⟩⟩
theorem ok_bad : Ok (.bad : Res α) P ↔ False := ⟨fun ⟨_, _, e, _⟩ => (by cases e), False.elim⟩
theorem ok_exc {C : String} {xs : List D} {m : List MO} : Ok (.exc C xs m : Res α) P ↔ False := ⟨fun ⟨_, _, e, _⟩ => (by cases e), False.elim⟩
theorem ok_bind {r : Res α} {k : α → List MO → Res β} : Ok (r.bind k) R ↔ Ok r fun a m => Ok (k a m) R := by
  cases r <;> simp only [Res.bind, ok_ok, ok_bad, ok_exc]
theorem ok_bnd {r : Res α} {k : α → List MO → Res β} : Ok (r.bnd k) R ↔ Ok r fun a m => Ok (k a m) R := by
  cases r <;> simp only [Res.bnd, ok_ok, ok_bad, ok_exc]
theorem ok_nx {r : Res α} : Ok r.nx P ↔ Ok r P := by
  cases r <;> simp only [Res.nx, ok_ok, ok_bad, ok_exc]
theorem Ok.imp {r : Res α} {P' : α → List MO → Prop} (h : Ok r P) (i : ∀ a m, P a m → P' a m) : Ok r P' := let ⟨a, m, e, p⟩ := h; ⟨a, m, e, i a m p⟩
theorem ok_eq {r : Res α} {a : α} {m : List MO} (h : Ok r fun b m' => b = a ∧ m' = m) : r = .ok a m := by
  obtain ⟨b, m', e, rfl, rfl⟩ := h
  exact e
theorem ok_of {r : Res α} {a : α} {m : List MO} (e : r = .ok a m) (p : P a m) : Ok r P := ⟨a, m, e, p⟩
/-- next: N, return: R -/
def Fk (f : Flow) (N : List Slot → List MO → Prop) (R : D → List MO → Prop) : Prop := match f with
  | .next e m => N e m
  | .ret d m => R d m
  | _ => False
variable {N : List Slot → List MO → Prop} {S : D → List MO → Prop}
theorem Fk.imp {f : Flow} {N' : List Slot → List MO → Prop} {S' : D → List MO → Prop} (h : Fk f N S) (i : ∀ e m, N e m → N' e m) (j : ∀ d m, S d m → S' d m) : Fk f N' S' := by
  cases f <;> first | exact i _ _ h | exact j _ _ h | exact h
theorem fk_next {e : List Slot} {m : List MO} : Fk (.next e m) N S ↔ N e m := Iff.rfl
theorem fk_ret {d : D} {m : List MO} : Fk (.ret d m) N S ↔ S d m := Iff.rfl
theorem fk_bad : Fk .bad N S ↔ False := Iff.rfl
theorem fk_flow {env : List Slot} {r : Res α} {k : α → List MO → Flow} : Fk (r.flow env k) N S ↔ Ok r fun a m => Fk (k a m) N S := by
  cases r <;> simp only [Res.flow, ok_ok, ok_bad, ok_exc] <;> exact Iff.rfl
theorem fk_seq {f g : MS} {env : List Slot} {mem : List MO} : Fk (mSeq f g env mem) N S ↔ Fk (f env mem) (fun e m => Fk (g e m) N S) S := by
  unfold mSeq
  cases f env mem <;> exact Iff.rfl
theorem ok_fin {f : Flow} : Ok (fin f) S ↔ Fk f (fun _ m => S .non m) S := by
  cases f <;> simp only [fin, ok_ok, ok_bad, ok_exc] <;> exact Iff.rfl
theorem ok_phi {n k : Nat} {g : MS} {ds : List D} {mem : List MO} (h : ds.length = n) : Ok (nx (phi n k g) ds mem) S ↔ Fk (g (env0 k ds) mem) (fun _ m => S .non m) S := by
  unfold nx
  rw [ok_nx]
  unfold phi
  rw [if_pos h, ok_fin]
theorem ok_star {n m k : Nat} {g : MS} {ds : List D} {mem : List MO} (h : n ≤ ds.length ∧ (ds.drop n).length ≤ sizeLine) (h2 : n + 1 = m) : Ok (nx (starF n (phi m k g)) ds mem) S ↔ Fk (g (env0 k (ds.take n ++ [.tup (ds.drop n)])) mem) (fun _ m => S .non m) S := by
  unfold nx starF
  rw [if_pos h]
  refine ok_phi ?_
  rw [List.length_append, List.length_take]
  simp
  omega
theorem fk_if {t : MT} {f g : MS} {env : List Slot} {mem : List MO} : Fk (mIf t f g env mem) N S ↔ Ok (t env mem) fun b m => (b = true → Fk (f env m) N S) ∧ (b = false → Fk (g env m) N S) := by
  unfold mIf
  rw [fk_flow]
  constructor <;> intro h <;> refine h.imp fun b m z => ?_
  · cases b <;> simpa using z
  · cases b <;> simpa using z
end
/-! ### loops -/
section
variable {α : Type}
theorem fk_for {τ : Tgt} {f : MI} {body : MS} {env : List Slot} {mem : List MO} {N : List Slot → List MO → Prop} {S : D → List MO → Prop} (I : List D → List Slot → List MO → Prop)
    (h0 : Ok (f env mem) fun ds m => I ds env m)
    (hs : ∀ d ds e m, I (d :: ds) e m → ∃ e1, τ.set d e = some e1 ∧ Fk (body e1 m) (fun e' m' => I ds e' m') S)
    (hd : ∀ e m, I [] e m → N e m) : Fk (mFor τ f body env mem) N S := by
  unfold mFor
  rw [fk_flow]
  refine h0.imp fun ds m h => ?_
  clear h0
  induction ds generalizing env m with
  | nil => exact hd _ _ h
  | cons d ds ih =>
    obtain ⟨e1, h1, h2⟩ := hs d ds env m h
    unfold mForGo
    rw [h1]
    dsimp only
    cases hb : body e1 m with
    | next e' m' => rw [hb] at h2; exact ih _ h2
    | ret d m' => rw [hb] at h2; exact h2
    | _ => rw [hb] at h2; exact h2.elim
/-- a comprehension that may change things -/
theorem ok_lc {τ : Tgt} {it : MI} {t : MT} {f : ME} {own : List Nat} {env : List Slot} {mem : List MO} {P : D → List MO → Prop} (I : List D → List D → List MO → Prop)
    (h0 : Ok (it env mem) fun ds m => I ds [] m) (hn : noOwn env own = true)
    (hs : ∀ d ds acc m, I (d :: ds) acc m → ∃ e1, τ.set d (wipeE env own) = some e1 ∧ Ok (t e1 m) fun b m1 => (b = true → Ok (f e1 m1) fun y m2 => acc.length < sizeLine ∧ I ds (acc ++ [y]) m2) ∧ (b = false → I ds acc m1))
    (hd : ∀ acc m, I [] acc m → P (.lst acc) m) : Ok (mLc τ it t f own env mem) P := by
  unfold mLc
  rw [ok_bind]
  refine h0.imp fun ds m h => ?_
  rw [if_pos hn, ok_bind]
  clear h0
  generalize ([] : List D) = acc at h
  induction ds generalizing acc m with
  | nil => unfold mLcGo; rw [ok_ok, ok_ok]; exact hd _ _ h
  | cons d ds ih =>
    obtain ⟨e1, h1, h2⟩ := hs d ds acc m h
    unfold mLcGo
    rw [h1]
    dsimp only
    rw [ok_bnd]
    refine h2.imp fun b m1 h3 => ?_
    cases b with
    | false => simp only [Bool.false_eq_true, if_false]; exact ih _ _ (h3.2 rfl)
    | true =>
      rw [if_pos rfl, ok_bnd]
      refine (h3.1 rfl).imp fun y m2 h4 => ?_
      rw [if_pos h4.1]
      exact ih _ _ h4.2
/-- a comprehension that changes nothing -/
theorem lc_eq {τ : Tgt} {it : MI} {t : MT} {f : ME} {own : List Nat} {env : List Slot} {mem : List MO} {xs : List α} {en : α → D} {p : α → Bool} {g : α → D}
    (h0 : it env mem = .ok (xs.map en) mem) (hn : noOwn env own = true) (hl : xs.length ≤ sizeLine)
    (hs : ∀ x ∈ xs, ∃ e1, τ.set (en x) (wipeE env own) = some e1 ∧ t e1 mem = .ok (p x) mem ∧ (p x = true → f e1 mem = .ok (g x) mem)) :
    mLc τ it t f own env mem = .ok (.lst ((xs.filter p).map g)) mem := by
  refine ok_eq ?_
  refine ok_lc (fun ds acc m => m = mem ∧ ∃ pre post, xs = pre ++ post ∧ ds = post.map en ∧ acc = (pre.filter p).map g) (ok_of h0 ⟨rfl, [], xs, rfl, rfl, rfl⟩) hn ?_ ?_
  · rintro d ds acc m ⟨rfl, pre, post, ex, ed, ea⟩
    cases post with
    | nil => cases ed
    | cons x post =>
      cases ed
      obtain ⟨e1, h1, h2, h3⟩ := hs x (by rw [ex]; simp)
      refine ⟨e1, h1, ok_of h2 ⟨fun hp => ok_of (h3 hp) ⟨?_, rfl, pre ++ [x], post, by simp [ex], rfl, by simp [ea, hp, List.filter_append]⟩, fun hp => ⟨rfl, pre ++ [x], post, by simp [ex], rfl, by simp [ea, hp, List.filter_append]⟩⟩⟩
      rw [ea, List.length_map]
      have h4 := List.length_filter_le p pre
      have h5 : xs.length = pre.length + (post.length + 1) := by rw [ex]; simp
      omega
  · rintro acc m ⟨rfl, pre, post, ex, ed, ea⟩
    have : post = [] := by cases post with
      | nil => rfl
      | cons _ _ => cases ed
    subst this
    rw [List.append_nil] at ex
    subst ex
    exact ⟨by rw [ea], rfl⟩
/-- .. without a test -/
theorem lc_map {τ : Tgt} {it : MI} {f : ME} {own : List Nat} {env : List Slot} {mem : List MO} {xs : List α} {en : α → D} {g : α → D}
    (h0 : it env mem = .ok (xs.map en) mem) (hn : noOwn env own = true) (hl : xs.length ≤ sizeLine)
    (hs : ∀ x ∈ xs, ∃ e1, τ.set (en x) (wipeE env own) = some e1 ∧ f e1 mem = .ok (g x) mem) :
    mLc τ it mYes f own env mem = .ok (.lst (xs.map g)) mem := by
  rw [lc_eq (t := mYes) (p := fun _ => true) (g := g) h0 hn hl fun x hx => let ⟨e1, h1, h2⟩ := hs x hx; ⟨e1, h1, rfl, fun _ => h2⟩]
  congr 3
  simp
/-- a while by a measure into a well-founded order -/
theorem fk_while {ι : Type} {r : ι → ι → Prop} (wf : WellFounded r) {t : MT} {body : MS} {N : List Slot → List MO → Prop} {S : D → List MO → Prop} (I : ι → List Slot → List MO → Prop) 
    (hs : ∀ i e m, I i e m → Ok (t e m) fun b m1 => (b = true → Fk (body e m1) (fun e' m' => ∃ j, r j i ∧ I j e' m') S) ∧ (b = false → N e m1))
    {env : List Slot} {mem : List MO} {i : ι} (h : I i env mem) : Fk (mWhile t body env mem) N S := by
  induction i using wf.induction generalizing env mem with
  | _ i ih =>
    rw [while_eq, fk_flow]
    refine (hs i env mem h).imp fun b m1 h2 => ?_
    cases b with
    | false => simp only [Bool.false_eq_true, if_false]; exact h2.2 rfl
    | true =>
      rw [if_pos rfl]
      have h3 := h2.1 rfl
      cases hb : body env m1 with
      | next e' m' => rw [hb] at h3; obtain ⟨j, hj, hI⟩ := h3; exact ih j hj hI
      | ret d m' => rw [hb] at h3; exact h3
      | _ => rw [hb] at h3; exact h3.elim
end
end Vt
set_option Elab.async false
set_option linter.all false
set_option maxHeartbeats 4000000
set_option autoImplicit false
namespace Mt
/-! ### totals of lengths -/
/-- the sum of one or more of xs -/
inductive Rep (xs : List Int) : Int → Prop
  | one {x : Int} : x ∈ xs → Rep xs x
  | add {t x : Int} : Rep xs t → x ∈ xs → Rep xs (t + x)
theorem Rep.add' {xs : List Int} {t x : Int} (h : t = 0 ∨ Rep xs t) (hx : x ∈ xs) : Rep xs (t + x) := by
  rcases h with rfl | h
  · rw [Int.zero_add]; exact .one hx
  · exact .add h hx
theorem Rep.pos {xs : List Int} (hp : ∀ x ∈ xs, 1 ≤ x) {t : Int} (h : Rep xs t) : 1 ≤ t := by
  induction h with
  | one h => exact hp _ h
  | add _ h ih => have := hp _ h; omega
theorem mul_next (x : Int) (k : Nat) : x * ((k + 1 : Nat) : Int) = x * (k : Int) + x := by
  rw [Int.natCast_add, Int.mul_add]; omega
theorem Rep.many {xs : List Int} {t x : Int} (h : Rep xs t) (hx : x ∈ xs) : ∀ k : Nat, Rep xs (t + x * k)
  | 0 => by simpa using h
  | k + 1 => by
    rw [mul_next, ← Int.add_assoc]
    exact .add (Rep.many h hx k) hx
theorem Rep.times {xs : List Int} {x : Int} (hx : x ∈ xs) (k : Nat) : Rep xs (x * ((k + 1 : Nat) : Int)) := by
  rw [mul_next, Int.add_comm]
  exact Rep.many (.one hx) hx k
theorem Rep.cong {xs ys : List Int} (h : ∀ x, x ∈ xs → x ∈ ys) {t : Int} (r : Rep xs t) : Rep ys t := by
  induction r with
  | one h1 => exact .one (h _ h1)
  | add _ h1 ih => exact .add ih (h _ h1)
/-- a total is a length, or a total and a length -/
theorem rep_iff {xs : List Int} {t : Int} : Rep xs t ↔ ∃ x ∈ xs, t = x ∨ Rep xs (t - x) := by
  constructor
  · intro h
    cases h with
    | one h => exact ⟨_, h, .inl rfl⟩
    | @add t x h hx => exact ⟨x, hx, .inr (by rw [Int.add_sub_cancel]; exact h)⟩
  · rintro ⟨x, hx, rfl | h⟩
    · exact .one hx
    · have := Rep.add h hx
      rwa [Int.sub_add_cancel] at this
/-! ### the least totals by their rest -/
def Good (xs : List Int) (L : Int) (fs : List (Option Int)) : Prop := fs.length = L.toNat ∧ fs[0]? = some (some 0) ∧ ∀ (r : Nat) (v : Int), fs[r]? = some (some v) → 0 ≤ v ∧ v % L = r ∧ (v = 0 ∨ Rep xs v)
def Clo (fs : List (Option Int)) (L v l : Int) : Prop := ∃ w, fs[((v + l) % L).toNat]? = some (some w) ∧ w ≤ v + l
structure Firsts (xs : List Int) (L : Int) (fs : List (Option Int)) : Prop where
  good : Good xs L fs
  clo : ∀ (r : Nat) (v : Int), fs[r]? = some (some v) → ∀ l ∈ xs, Clo fs L v l
theorem add_mod_of {w t x L : Int} (h : w % L = t % L) : (w + x) % L = (t + x) % L := by
  rw [Int.add_emod, h, ← Int.add_emod]
theorem Firsts.le {xs : List Int} {L : Int} {fs : List (Option Int)} (h : Firsts xs L fs) (hL : 1 ≤ L) {t : Int} (r : t = 0 ∨ Rep xs t) : ∃ w, fs[(t % L).toNat]? = some (some w) ∧ w ≤ t := by
  have h0 : ∃ w, fs[((0 : Int) % L).toNat]? = some (some w) ∧ w ≤ 0 := ⟨0, by simpa using h.good.2.1, Int.le_refl _⟩
  rcases r with rfl | r
  · exact h0
  induction r with
  | @one x hx =>
    have := h.clo 0 0 h.good.2.1 x hx
    unfold Clo at this
    rwa [Int.zero_add] at this
  | @add t x _ hx ih =>
    obtain ⟨w, h1, h2⟩ := ih
    obtain ⟨g1, g2, g3⟩ := h.good.2.2 _ _ h1
    obtain ⟨u, k1, k2⟩ := h.clo _ _ h1 x hx
    have e : (w + x) % L = (t + x) % L := by
      refine add_mod_of ?_
      rw [g2]
      have := Int.emod_nonneg t (show L ≠ 0 by omega)
      omega
    rw [e] at k1
    exact ⟨u, k1, by omega⟩
theorem Firsts.rep {xs : List Int} {L : Int} {fs : List (Option Int)} (h : Firsts xs L fs) (hL : 1 ≤ L) (hm : L ∈ xs) {t w : Int} (ht : 1 ≤ t) (h1 : fs[(t % L).toNat]? = some (some w)) (h2 : w ≤ t) : Rep xs t := by
  obtain ⟨g1, g2, g3⟩ := h.good.2.2 _ _ h1
  have nn := Int.emod_nonneg t (show L ≠ 0 by omega)
  have e : w % L = t % L := by rw [g2]; omega
  have e2 : (t - w) % L = 0 := by
    rw [Int.sub_emod, e, Int.sub_self]; simp
  have e3 : t - w = L * ((t - w) / L) := by
    have := Int.mul_ediv_add_emod (t - w) L
    omega
  have nn2 : 0 ≤ (t - w) / L := Int.ediv_nonneg (by omega) (by omega)
  obtain ⟨k, hk⟩ := Int.eq_ofNat_of_zero_le nn2
  rw [hk] at e3
  rcases g3 with rfl | g3
  · cases k with
    | zero => simp at e3; omega
    | succ k =>
      have : t = L * ((k + 1 : Nat) : Int) := by simpa using e3
      rw [this]
      exact Rep.times hm k
  · have : t = w + L * (k : Int) := by omega
    rw [this]
    exact Rep.many g3 hm k
theorem Firsts.uniq {xs : List Int} {L : Int} {fs gs : List (Option Int)} (h : Firsts xs L fs) (g : Firsts xs L gs) (hL : 1 ≤ L) : fs = gs := by
  have one : ∀ {fs gs : List (Option Int)}, Firsts xs L fs → Firsts xs L gs → ∀ (r : Nat) (v : Int), fs[r]? = some (some v) → ∃ w, gs[r]? = some (some w) ∧ w ≤ v := fun {fs gs} h g r v e => by
    obtain ⟨k1, k2, k3⟩ := h.good.2.2 r v e
    obtain ⟨w, h1, h2⟩ := g.le hL k3
    rw [k2] at h1
    exact ⟨w, by simpa using h1, h2⟩
  refine List.ext_getElem? fun r => ?_
  have lf := h.good.1
  have lg := g.good.1
  by_cases hr : r < fs.length
  · have hr2 : r < gs.length := by omega
    rw [List.getElem?_eq_getElem hr, List.getElem?_eq_getElem hr2]
    have z1 := one h g r
    have z2 := one g h r
    rw [List.getElem?_eq_getElem hr, List.getElem?_eq_getElem hr2] at z1 z2
    cases e1 : fs[r] with
    | none =>
      cases e2 : gs[r] with
      | none => rfl
      | some w =>
        obtain ⟨u, q, _⟩ := z2 w (by rw [e2])
        rw [e1] at q; cases q
    | some v =>
      obtain ⟨w, q, lw⟩ := z1 v (by rw [e1])
      cases q' : gs[r] with
      | none => rw [q'] at q; cases q
      | some w' =>
        rw [q'] at q
        cases q
        obtain ⟨u, p, lu⟩ := z2 w (by rw [q'])
        rw [e1] at p
        cases p
        have : v = w := by omega
        rw [this]
  · rw [List.getElem?_eq_none (by omega), List.getElem?_eq_none (by omega)]
/-! a turn of the search -/
def mu1 (fs : List (Option Int)) : Nat := (fs.filter (·.isNone)).length
def mu2 (fs : List (Option Int)) : Nat := (fs.map fun | none => 0 | some v => Int.toNat v).sum
def Less (gs fs : List (Option Int)) : Prop := mu1 gs < mu1 fs ∨ (mu1 gs = mu1 fs ∧ mu2 gs < mu2 fs)
theorem less_wf : WellFounded Less := by
  refine Subrelation.wf (r := InvImage (Prod.Lex (· < ·) (· < ·)) fun fs => (mu1 fs, mu2 fs)) ?_ (InvImage.wf _ (Prod.lex Nat.lt_wfRel Nat.lt_wfRel).wf)
  intro gs fs h
  rcases h with h | ⟨h1, h2⟩
  · exact Prod.Lex.left _ _ h
  · show Prod.Lex _ _ (mu1 gs, mu2 gs) (mu1 fs, mu2 fs)
    rw [h1]
    exact Prod.Lex.right _ h2
theorem Less.trans {a b c : List (Option Int)} (h : Less a b) (g : Less b c) : Less a c := by
  unfold Less at *
  omega
def Less2 (a b : List (Option Int) × Bool) : Prop := Less a.1 b.1 ∨ (a.1 = b.1 ∧ a.2 = false ∧ b.2 = true)
theorem less2_wf : WellFounded Less2 := by
  refine Subrelation.wf (r := InvImage (Prod.Lex (· < ·) (Prod.Lex (· < ·) (· < ·))) fun a : List (Option Int) × Bool => (mu1 a.1, mu2 a.1, a.2.toNat)) ?_ (InvImage.wf _ (Prod.lex Nat.lt_wfRel (Prod.lex Nat.lt_wfRel Nat.lt_wfRel)).wf)
  rintro ⟨a, x⟩ ⟨b, y⟩ h
  rcases h with (h | ⟨h1, h2⟩) | ⟨h1, h2, h3⟩
  · exact Prod.Lex.left _ _ h
  · show Prod.Lex _ _ (mu1 a, mu2 a, _) (mu1 b, mu2 b, _)
    rw [h1]
    exact Prod.Lex.right _ (Prod.Lex.left _ _ h2)
  · simp only at h1 h2 h3
    subst h1 h2 h3
    exact Prod.Lex.right _ (Prod.Lex.right _ (show (0 : Nat) < 1 from Nat.one_pos))
theorem mem_vals {fs : List (Option Int)} {v : Int} : v ∈ fs.filterMap id ↔ ∃ r : Nat, fs[r]? = some (some v) := by
  rw [List.mem_filterMap]
  constructor
  · rintro ⟨o, h, e⟩
    obtain ⟨r, hr⟩ := List.mem_iff_getElem?.mp h
    exact ⟨r, by rw [hr]; simpa using e⟩
  · rintro ⟨r, h⟩
    exact ⟨some v, List.mem_iff_getElem?.mpr ⟨r, h⟩, rfl⟩
theorem mu1_set {v : Int} : ∀ {fs : List (Option Int)} {r : Nat}, (fs[r]? = some none → mu1 (fs.set r (some v)) + 1 = mu1 fs) ∧ (∀ w, fs[r]? = some (some w) → mu1 (fs.set r (some v)) = mu1 fs)
  | [], _ => by simp
  | o :: fs, 0 => by
    refine ⟨fun h => ?_, fun w h => ?_⟩
    · simp at h; subst h; simp [mu1]
    · simp at h; subst h; simp [mu1]
  | o :: fs, r + 1 => by
    obtain ⟨i1, i2⟩ := mu1_set (v := v) (fs := fs) (r := r)
    refine ⟨fun h => ?_, fun w h => ?_⟩
    · have := i1 (by simpa using h)
      cases o <;> simp [mu1] at this ⊢ <;> omega
    · have := i2 w (by simpa using h)
      cases o <;> simp [mu1] at this ⊢ <;> omega
theorem mu2_set {v w : Int} (h0 : 0 ≤ v) (hv : v < w) : ∀ {fs : List (Option Int)} {r : Nat}, fs[r]? = some (some w) → mu2 (fs.set r (some v)) < mu2 fs
  | [], _, h => by simp at h
  | o :: fs, 0, h => by
    simp at h; subst h; simp [mu2]; omega
  | o :: fs, r + 1, h => by
    have := mu2_set h0 hv (fs := fs) (r := r) (by simpa using h)
    simp [mu2] at this ⊢; omega
theorem turn {xs : List Int} {L : Int} {fs : List (Option Int)} (hL : 1 ≤ L) (hp : ∀ x ∈ xs, 1 ≤ x) (g : Good xs L fs) {v l : Int} (h0 : 0 ≤ v) (hv : v = 0 ∨ Rep xs v) (hl : l ∈ xs)
    (h : fs[((v + l) % L).toNat]? = some none ∨ ∃ w, fs[((v + l) % L).toNat]? = some (some w) ∧ v + l < w) : Good xs L (fs.set ((v + l) % L).toNat (some (v + l))) ∧ Less (fs.set ((v + l) % L).toNat (some (v + l))) fs := by
  have h1 := hp l hl
  have nn := Int.emod_nonneg (v + l) (show L ≠ 0 by omega)
  refine ⟨⟨by rw [List.length_set]; exact g.1, ?_, fun r u e => ?_⟩, ?_⟩
  · by_cases z : ((v + l) % L).toNat = 0
    · exfalso
      rw [z, g.2.1] at h
      rcases h with h | ⟨w, h, h2⟩
      · cases h
      · cases h; omega
    · rw [List.getElem?_set_ne z]; exact g.2.1
  · by_cases z : ((v + l) % L).toNat = r
    · subst z
      have hr : ((v + l) % L).toNat < fs.length := by
        rcases h with h | ⟨w, h, _⟩
        · exact (List.getElem?_eq_some_iff.mp h).1
        · exact (List.getElem?_eq_some_iff.mp h).1
      rw [List.getElem?_set_self hr] at e
      cases e
      exact ⟨by omega, by omega, .inr (Rep.add' hv hl)⟩
    · rw [List.getElem?_set_ne z] at e
      exact g.2.2 r u e
  · rcases h with h | ⟨w, h, h2⟩
    · left
      have := (mu1_set (v := v + l)).1 h
      omega
    · right
      exact ⟨(mu1_set (v := v + l)).2 w h, mu2_set (by omega) h2 h⟩
theorem good_start {xs : List Int} {L : Int} (hL : 1 ≤ L) : Good xs L (some 0 :: List.replicate (L.toNat - 1) none) := by
  refine ⟨by simp; omega, rfl, fun r v e => ?_⟩
  cases r with
  | zero => cases e; exact ⟨Int.le_refl _, by simp, .inl rfl⟩
  | succ r =>
    rw [List.getElem?_cons_succ, List.getElem?_replicate] at e
    split at e <;> cases e
end Mt
set_option Elab.async false
set_option linter.all false
set_option maxHeartbeats 4000000
set_option autoImplicit false
namespace Mt
open Vt
/-! ### sorted, each once -/
theorem mem_insI {n m : Int} : ∀ {xs : List Int}, m ∈ insI n xs ↔ m = n ∨ m ∈ xs
  | [] => by simp [insI]
  | x :: xs => by
    unfold insI
    split
    · simp
    · rw [List.mem_cons, mem_insI, List.mem_cons]
      constructor
      · rintro (h | h | h)
        · exact .inr (.inl h)
        · exact .inl h
        · exact .inr (.inr h)
      · rintro (h | h | h)
        · exact .inr (.inl h)
        · exact .inl h
        · exact .inr (.inr h)
theorem mem_sortI {m : Int} : ∀ {xs : List Int}, m ∈ sortI xs ↔ m ∈ xs
  | [] => by simp [sortI]
  | x :: xs => by
    show m ∈ insI x (sortI xs) ↔ _
    rw [mem_insI, mem_sortI, List.mem_cons]
theorem length_insI {n : Int} : ∀ {xs : List Int}, (insI n xs).length = xs.length + 1
  | [] => rfl
  | x :: xs => by
    unfold insI
    split
    · rfl
    · rw [List.length_cons, length_insI]; rfl
theorem length_sortI : ∀ {xs : List Int}, (sortI xs).length = xs.length
  | [] => rfl
  | x :: xs => by
    show (insI x (sortI xs)).length = _
    rw [length_insI, length_sortI]; rfl
theorem asc_insI {n : Int} : ∀ {xs : List Int}, xs.Pairwise (· < ·) → n ∉ xs → (insI n xs).Pairwise (· < ·)
  | [], _, _ => by simp [insI]
  | x :: xs, h, hn => by
    obtain ⟨h1, h2⟩ := List.pairwise_cons.mp h
    simp only [List.mem_cons, not_or] at hn
    unfold insI
    split
    · rename_i c
      refine List.pairwise_cons.mpr ⟨fun y hy => ?_, h⟩
      rcases List.mem_cons.mp hy with rfl | hy
      · omega
      · have := h1 y hy; omega
    · rename_i c
      refine List.pairwise_cons.mpr ⟨fun y hy => ?_, asc_insI h2 hn.2⟩
      rcases mem_insI.mp hy with rfl | hy
      · omega
      · exact h1 y hy
theorem asc_sortI : ∀ {xs : List Int}, xs.Nodup → (sortI xs).Pairwise (· < ·)
  | [], _ => by simp [sortI]
  | x :: xs, h => by
    obtain ⟨h1, h2⟩ := List.nodup_cons.mp h
    exact asc_insI (asc_sortI h2) fun z => h1 (mem_sortI.mp z)
theorem asc_uniq : ∀ {xs ys : List Int}, xs.Pairwise (· < ·) → ys.Pairwise (· < ·) → (∀ z, z ∈ xs ↔ z ∈ ys) → xs = ys
  | [], [], _, _, _ => rfl
  | [], y :: ys, _, _, h => absurd ((h y).mpr List.mem_cons_self) (by simp)
  | x :: xs, [], _, _, h => absurd ((h x).mp List.mem_cons_self) (by simp)
  | x :: xs, y :: ys, h1, h2, h => by
    obtain ⟨a1, a2⟩ := List.pairwise_cons.mp h1
    obtain ⟨b1, b2⟩ := List.pairwise_cons.mp h2
    have e : x = y := by
      have k1 := (h x).mp List.mem_cons_self
      have k2 := (h y).mpr List.mem_cons_self
      rcases List.mem_cons.mp k1 with e | k1
      · exact e
      · rcases List.mem_cons.mp k2 with e | k2
        · exact e.symm
        · have := b1 x k1; have := a1 y k2; omega
    subst e
    rw [asc_uniq a2 b2 fun z => ⟨fun hz => ?_, fun hz => ?_⟩]
    · rcases List.mem_cons.mp ((h z).mp (List.mem_cons_of_mem _ hz)) with e | k
      · have := a1 z hz; omega
      · exact k
    · rcases List.mem_cons.mp ((h z).mpr (List.mem_cons_of_mem _ hz)) with e | k
      · have := b1 z hz; omega
      · exact k
def ddGo : List Int → List Int → List Int
  | acc, [] => acc
  | acc, x :: xs => ddGo (if x ∈ acc then acc else acc ++ [x]) xs
theorem mem_ddGo {m : Int} : ∀ {xs acc : List Int}, m ∈ ddGo acc xs ↔ m ∈ acc ∨ m ∈ xs
  | [], acc => by simp [ddGo]
  | x :: xs, acc => by
    unfold ddGo
    rw [mem_ddGo]
    split
    · rename_i h
      constructor
      · rintro (h | h)
        · exact .inl h
        · exact .inr (List.mem_cons_of_mem _ h)
      · rintro (h' | h')
        · exact .inl h'
        · rcases List.mem_cons.mp h' with rfl | h'
          · exact .inl h
          · exact .inr h'
    · simp [or_assoc]
theorem nodup_ddGo : ∀ {xs acc : List Int}, acc.Nodup → (ddGo acc xs).Nodup
  | [], _, h => h
  | x :: xs, acc, h => by
    unfold ddGo
    refine nodup_ddGo ?_
    split
    · exact h
    · rename_i c
      refine List.nodup_append.mpr ⟨h, by simp, fun a ha b hb e => ?_⟩
      have : b = x := by simpa using hb
      exact c (this ▸ e ▸ ha)
theorem length_ddGo : ∀ {xs acc : List Int}, (ddGo acc xs).length ≤ acc.length + xs.length
  | [], acc => by simp [ddGo]
  | x :: xs, acc => by
    unfold ddGo
    have := length_ddGo (xs := xs) (acc := if x ∈ acc then acc else acc ++ [x])
    split at this
    · rename_i h; rw [if_pos h]; simp; omega
    · rename_i h; rw [if_neg h]; simp at this ⊢; omega
/-- ascending, each once -/
def ascOf (xs : List Int) : List Int := sortI (ddGo [] xs)
theorem mem_ascOf {m : Int} {xs : List Int} : m ∈ ascOf xs ↔ m ∈ xs := by
  unfold ascOf
  rw [mem_sortI, mem_ddGo]
  simp
theorem asc_ascOf (xs : List Int) : (ascOf xs).Pairwise (· < ·) := asc_sortI (nodup_ddGo List.nodup_nil)
theorem length_ascOf (xs : List Int) : (ascOf xs).length ≤ xs.length := by
  unfold ascOf
  rw [length_sortI]
  have := length_ddGo (xs := xs) (acc := [])
  simpa using this
theorem ascOf_asc {xs : List Int} (h : xs.Pairwise (· < ·)) : ascOf xs = xs := asc_uniq (asc_ascOf xs) h fun z => mem_ascOf
/-! ### the totals up to a room -/
open Classical in
noncomputable def repB (xs : List Int) (t : Int) : Bool := decide (Rep xs t)
theorem repB_iff {xs : List Int} {t : Int} : repB xs t = true ↔ Rep xs t := by
  unfold repB
  exact @decide_eq_true_iff _ (Classical.propDecidable _)
theorem repB_no {xs : List Int} {t : Int} (h : ¬ Rep xs t) : repB xs t = false := by
  unfold repB
  exact @decide_eq_false _ (Classical.propDecidable _) h
noncomputable def sumsOf (room : Int) (xs : List Int) : List Int := ((List.range room.toNat).map fun k => (1 : Int) + (k : Nat)).filter (repB xs)
theorem mem_sumsOf {room t : Int} {xs : List Int} : t ∈ sumsOf room xs ↔ (1 ≤ t ∧ t ≤ room) ∧ Rep xs t := by
  unfold sumsOf
  rw [List.mem_filter, repB_iff, List.mem_map]
  constructor
  · rintro ⟨⟨k, hk, rfl⟩, h⟩
    have := List.mem_range.mp hk
    exact ⟨by omega, h⟩
  · rintro ⟨h1, h⟩
    exact ⟨⟨(t - 1).toNat, List.mem_range.mpr (by omega), by omega⟩, h⟩
theorem asc_from (n : Nat) : ((List.range n).map fun k => (1 : Int) + (k : Nat)).Pairwise (· < ·) := by
  rw [List.pairwise_map]
  refine List.pairwise_lt_range.imp fun h => ?_
  omega
theorem asc_sumsOf (room : Int) (xs : List Int) : (sumsOf room xs).Pairwise (· < ·) := (asc_from _).filter _
theorem length_sumsOf (room : Int) (xs : List Int) : (sumsOf room xs).length ≤ room.toNat := by
  have := List.length_filter_le (repB xs) ((List.range room.toNat).map fun k => (1 : Int) + (k : Nat))
  simpa [sumsOf] using this
open Classical in
noncomputable def firsts (xs : List Int) : List (Option Int) := if h : ∃ fs, Firsts xs (xs.headD 0) fs then h.choose else []
theorem firsts_eq {xs : List Int} {fs : List (Option Int)} (h1 : 1 ≤ xs.headD 0) (h : Firsts xs (xs.headD 0) fs) : firsts xs = fs := by
  have hx : ∃ fs, Firsts xs (xs.headD 0) fs := ⟨fs, h⟩
  unfold firsts
  rw [dif_pos hx]
  exact hx.choose_spec.uniq h h1
end Mt
set_option Elab.async false
set_option linter.all false
set_option maxRecDepth 100000
set_option maxHeartbeats 4000000
set_option autoImplicit false
namespace Mt
open PySem Builtin Builtin.Str StrLaws
/-! ### a text split at a sign, and joined -/
def idxs (c : Nat) : Nat → List Nat → List Nat
  | _, [] => []
  | i, a :: r => if a = c then i :: idxs c (i + 1) r else idxs c (i + 1) r
def splitL (c : Nat) : List Nat → List (List Nat)
  | [] => [[]]
  | a :: r => if a = c then [] :: splitL c r else match splitL c r with
    | p :: ps => (a :: p) :: ps
    | [] => [[a]]
def consH (p : List Nat) : List (List Nat) → List (List Nat)
  | q :: qs => (p ++ q) :: qs
  | [] => [p]
theorem splitL_ne (c : Nat) : ∀ l, splitL c l ≠ []
  | [] => by simp [splitL]
  | a :: r => by
    unfold splitL
    split
    · simp
    · split <;> simp
theorem occ_one (x : Str) (c : Nat) : ∀ (k i : Nat) (st : Array Nat × Nat), st.1.size ≤ i → st.2 ≤ i → i + k = x.length + 1 →
    (forIn (List.range' i k) st (occBody x ⟨#[c]⟩ x.length (x.length + 1))).run.1.toList = st.1.toList ++ idxs c i (x.cps.toList.drop i)
  | 0, i, st, _, _, h => by
    have : x.cps.toList.drop i = [] := List.drop_eq_nil_of_le (by simp [Str.length] at h ⊢; omega)
    rw [this]
    simp [idxs]
  | k + 1, i, st, h1, h2, h3 => by
    rw [List.range'_succ, List.forIn_cons]
    have hx : x.cps.toList.length = x.length := by simp [Str.length]
    unfold occBody
    have key := subAt_one x c i
    by_cases hc : x.cps.toList[i]? = some c
    · obtain ⟨k1, k2⟩ := key.mpr hc
      rw [if_pos ⟨⟨⟨by omega, h2⟩, k1⟩, k2⟩]
      have hi : i < x.cps.toList.length := (List.getElem?_eq_some_iff.mp hc).1
      have hd : x.cps.toList.drop i = c :: x.cps.toList.drop (i + 1) := by
        rw [List.drop_eq_getElem_cons hi]
        rw [List.getElem?_eq_getElem hi] at hc
        cases hc; rfl
      have ih := occ_one x c k (i + 1) (st.1.push i, i + (⟨#[c]⟩ : Str).length) (by simp; omega) (by show i + 1 ≤ i + 1; omega) (by omega)
      rw [hd]
      simp only [idxs, if_true]
      refine ih.trans ?_
      simp
    · rw [if_neg fun h => hc (key.mp ⟨h.1.2, h.2⟩)]
      have ih := occ_one x c k (i + 1) (st.1, st.2) (by simp; omega) (by show st.2 ≤ i + 1; omega) (by omega)
      refine ih.trans ?_
      by_cases hi : i < x.cps.toList.length
      · rw [List.drop_eq_getElem_cons hi]
        rw [List.getElem?_eq_getElem hi] at hc
        have hn : ¬ x.cps.toList[i] = c := fun e => hc (by rw [e])
        simp only [idxs, hn, if_false]
      · rw [List.drop_eq_nil_of_le (by omega), List.drop_eq_nil_of_le (by omega)]
        simp [idxs]
def mkS (l : List Nat) : Str := ⟨l.toArray⟩
theorem mkS_toList (x : Str) : mkS x.cps.toList = x := rfl
theorem strSub_mk (x : Str) (i j : Nat) : strSub x i j = mkS ((x.cps.toList.drop i).take (j - i)) := by
  apply Str.ext'
  apply Array.toList_inj.mp
  rw [strSub_toList]
  rfl
theorem parts_one (x : Str) (c : Nat) : ∀ (k i a : Nat), a ≤ i → i + k = x.length →
    partsFrom x 1 a (idxs c i (x.cps.toList.drop i)) = (consH ((x.cps.toList.drop a).take (i - a)) (splitL c (x.cps.toList.drop i))).map mkS
  | 0, i, a, h1, h2 => by
    have hx : x.cps.toList.length = x.length := by simp [Str.length]
    have : x.cps.toList.drop i = [] := List.drop_eq_nil_of_le (by omega)
    rw [this]
    simp only [idxs, splitL, consH, partsFrom, List.append_nil, List.map_cons, List.map_nil]
    rw [strSub_mk]
    have : i = x.length := by omega
    rw [this]
  | k + 1, i, a, h1, h2 => by
    have hx : x.cps.toList.length = x.length := by simp [Str.length]
    have hi : i < x.cps.toList.length := by omega
    rw [List.drop_eq_getElem_cons hi]
    by_cases hc : x.cps.toList[i] = c
    · simp only [idxs, splitL, hc, if_true, consH, partsFrom, List.append_nil, List.map_cons]
      rw [strSub_mk, parts_one x c k (i + 1) (i + 1) (Nat.le_refl _) (by omega)]
      congr 2
      rw [Nat.sub_self, List.take_zero]
      cases e : splitL c (x.cps.toList.drop (i + 1)) with
      | nil => exact absurd e (splitL_ne _ _)
      | cons p ps => simp [consH]
    · simp only [idxs, splitL, hc, if_false]
      rw [parts_one x c k (i + 1) a (by omega) (by omega)]
      cases e : splitL c (x.cps.toList.drop (i + 1)) with
      | nil => exact absurd e (splitL_ne _ _)
      | cons p ps =>
        simp only [consH]
        have : (x.cps.toList.drop a).take (i + 1 - a) = (x.cps.toList.drop a).take (i - a) ++ [x.cps.toList[i]] := by
          have e1 : i + 1 - a = (i - a) + 1 := by omega
          rw [e1, List.take_add_one, List.getElem?_drop]
          have e2 : a + (i - a) = i := by omega
          rw [e2, List.getElem?_eq_getElem hi]
          rfl
        rw [this]
        simp
theorem split_one (x : Str) {c : Nat} (hc : c < 256) : Txt.split x ⟨#[c]⟩ = (splitL c x.cps.toList).map mkS := by
  have ho : occurrences x ⟨#[c]⟩ 0 x.length (x.length + 1) = idxs c 0 x.cps.toList := by
    rw [occ_eq]
    have := occ_one x c (x.length + 1) 0 (#[], 0) (by simp) (by simp) (by omega)
    simpa using this
  have hp : partsFrom x 1 0 (idxs c 0 x.cps.toList) = (splitL c x.cps.toList).map mkS := by
    have := parts_one x c x.length 0 0 (Nat.le_refl _) (by omega)
    simp only [List.drop_zero, Nat.sub_self, List.take_zero] at this
    rw [this]
    cases e : splitL c x.cps.toList with
    | nil => exact absurd e (splitL_ne _ _)
    | cons p ps => simp [consH]
  have sx : strSub x 0 x.length = x := sub_whole x
  unfold Txt.split
  by_cases h0 : x.cps.toList = []
  · have hx : x.length = 0 := by have := congrArg List.length h0; simpa [Str.length] using this
    rw [if_pos (by rw [hx]; simp [Str.length])]
    rw [h0] at hp ⊢
    simp only [splitL, List.map_cons, List.map_nil, List.cons.injEq, and_true]
    rw [← mkS_toList x, h0]
  · have hx : 0 < x.length := by
      have := List.length_pos_iff.mpr h0
      simpa [Str.length] using this
    rw [if_neg (by
      have k1 : Builtin.Str.strKind (⟨#[c]⟩ : Str) = 1 := by
        unfold Builtin.Str.strKind
        rw [if_pos (by simp [hc])]
      have k2 : 1 ≤ Builtin.Str.strKind x := by
        unfold Builtin.Str.strKind
        split
        · exact Nat.le_refl _
        · split <;> omega
      rw [k1]
      simp only [Bool.or_eq_true, decide_eq_true_eq, not_or, Nat.not_lt]
      exact ⟨hx, k2⟩)]
    rw [ho]
    by_cases he : (idxs c 0 x.cps.toList).isEmpty = true
    · rw [if_pos he, ← hp, List.isEmpty_iff.mp he]
      simp only [partsFrom, sx]
    · rw [if_neg he, partsBetween_eq]
      exact hp
def joinL (c : Nat) : List (List Nat) → List Nat
  | [] => []
  | [x] => x
  | x :: r => x ++ c :: joinL c r
theorem splitL_pre {c : Nat} : ∀ {p : List Nat}, c ∉ p → ∀ r, splitL c (p ++ r) = consH p (splitL c r)
  | [], _, r => by
    cases e : splitL c r with
    | nil => exact absurd e (splitL_ne _ _)
    | cons q qs => simp [consH, e]
  | a :: p, h, r => by
    simp only [List.mem_cons, not_or] at h
    have ih := splitL_pre h.2 r
    rw [List.cons_append]
    conv => lhs; unfold splitL
    rw [if_neg (Ne.symm h.1), ih]
    cases e : splitL c r with
    | nil => exact absurd e (splitL_ne _ _)
    | cons q qs => simp [consH]
theorem splitL_join {c : Nat} : ∀ {ws : List (List Nat)}, ws ≠ [] → (∀ w ∈ ws, c ∉ w) → splitL c (joinL c ws) = ws
  | [], h, _ => absurd rfl h
  | [w], _, h => by
    have := splitL_pre (h w List.mem_cons_self) []
    rw [List.append_nil] at this
    simp only [joinL, this, splitL, consH, List.append_nil]
  | w :: v :: r, _, h => by
    have ih := splitL_join (ws := v :: r) (by simp) fun x hx => h x (List.mem_cons_of_mem _ hx)
    show splitL c (w ++ c :: joinL c (v :: r)) = _
    rw [splitL_pre (h w List.mem_cons_self)]
    simp only [splitL, if_true, ih, consH, List.append_nil]
theorem join_eq (sep : Str) (ws : List Str) : Txt.join sep ws = Str.join sep ws := glued_eq_join sep ws
theorem join_one (c : Nat) : ∀ ws : List Str, (Str.join ⟨#[c]⟩ ws).cps.toList = joinL c (ws.map (·.cps.toList))
  | [] => rfl
  | [x] => rfl
  | x :: y :: r => by
    have ih := join_one c (y :: r)
    show (x ++ (⟨#[c]⟩ : Str) ++ Str.join ⟨#[c]⟩ (y :: r)).cps.toList = _
    simp only [Str.cps_append, Array.toList_append, ih, List.map_cons, joinL]
    simp
theorem split_join {c : Nat} (hc : c < 256) {ws : List Str} (h0 : ws ≠ []) (hw : ∀ w ∈ ws, c ∉ w.cps.toList) : Txt.split (Txt.join ⟨#[c]⟩ ws) ⟨#[c]⟩ = ws := by
  rw [split_one _ hc, join_eq, join_one, splitL_join (by simpa using h0) fun w h => by
    obtain ⟨v, hv, rfl⟩ := List.mem_map.mp h
    exact hw v hv]
  rw [List.map_map]
  conv => rhs; rw [← List.map_id ws]
  exact List.map_congr_left fun x _ => mkS_toList x
/-- pages joined by " / ", their words by " " -/
def inter (s : Str) : List (List Str) → List Str
  | [] => []
  | [p] => p
  | p :: r => p ++ s :: inter s r
theorem join_app (sep : Str) : ∀ {a b : List Str}, a ≠ [] → b ≠ [] → Str.join sep (a ++ b) = Str.join sep a ++ sep ++ Str.join sep b
  | [], _, h, _ => absurd rfl h
  | [x], [], _, h => absurd rfl h
  | [x], y :: b, _, _ => rfl
  | x :: y :: a, b, _, hb => by
    have ih := join_app sep (a := y :: a) (b := b) (by simp) hb
    show x ++ sep ++ Str.join sep ((y :: a) ++ b) = x ++ sep ++ Str.join sep (y :: a) ++ sep ++ Str.join sep b
    rw [ih]
    simp only [Str.append_assoc]
theorem inter_ne {s : Str} : ∀ {ps : List (List Str)}, ps ≠ [] → (∀ p ∈ ps, p ≠ []) → inter s ps ≠ []
  | [], h, _ => absurd rfl h
  | [p], _, h => h p List.mem_cons_self
  | p :: q :: r, _, _ => by simp [inter]
theorem join_inter (c : Str) (s : Str) : ∀ {ps : List (List Str)}, ps ≠ [] → (∀ p ∈ ps, p ≠ []) → Str.join (c ++ s ++ c) (ps.map (Str.join c)) = Str.join c (inter s ps)
  | [], h, _ => absurd rfl h
  | [p], _, _ => rfl
  | p :: q :: r, _, h => by
    have hq : ∀ x ∈ q :: r, x ≠ [] := fun x hx => h x (List.mem_cons_of_mem _ hx)
    have ih := join_inter c s (ps := q :: r) (by simp) hq
    have hi := inter_ne (s := s) (ps := q :: r) (by simp) hq
    show Str.join c p ++ (c ++ s ++ c) ++ Str.join (c ++ s ++ c) ((q :: r).map (Str.join c)) = Str.join c (p ++ s :: inter s (q :: r))
    rw [ih, join_app c (h p List.mem_cons_self) (by simp)]
    have : Str.join c (s :: inter s (q :: r)) = s ++ c ++ Str.join c (inter s (q :: r)) := by
      cases e : inter s (q :: r) with
      | nil => exact absurd e hi
      | cons a b => rfl
    rw [this]
    simp only [Str.append_assoc]
end Mt
set_option Elab.async false
set_option linter.all false
set_option maxRecDepth 100000
set_option maxHeartbeats 4000000
set_option autoImplicit false
namespace Vt
open PySem PySem.Spec PyProof.Rows L2
/-! ### == of data -/
structure En (α : Type) [DecidableEq α] where
  en : α → D
  p : α → PyData
  hp : ∀ a, pd (en a) = some (p a)
  lay : ∀ a, PyData.canLay0 (p a) = true
  dep : Nat
  hd : ∀ a, PyData.depth (p a) ≤ dep
  eq : ∀ a b, PyData.eqv (p a) (p b) = decide (a = b)
def enI : En Int where
  en := .int
  p := .int
  hp := fun _ => rfl
  lay := fun _ => rfl
  dep := 1
  hd := fun _ => by simp [PyData.depth]
  eq := fun a b => by
    simp only [PyData.eqv]
    by_cases h : a = b <;> simp [h]
section
variable {α β : Type} [DecidableEq α] [DecidableEq β]
def enP (e : En α) (f : En β) : En (α × β) where
  en := fun x => .tup [e.en x.1, f.en x.2]
  p := fun x => .tuple [e.p x.1, f.p x.2]
  hp := fun x => by simp [pd, pdL, e.hp, f.hp]
  lay := fun x => by simp [PyData.canLay0, PyData.canLayAll0, e.lay, f.lay]
  dep := max e.dep f.dep + 1
  hd := fun x => by
    have h1 := e.hd x.1
    have h2 := f.hd x.2
    simp only [PyData.depth, PyData.depthAll]
    omega
  eq := fun x y => by
    obtain ⟨x1, x2⟩ := x
    obtain ⟨y1, y2⟩ := y
    simp [PyData.eqv, PyData.eqvAll, e.eq, f.eq]
theorem pdL_map (e : En α) : ∀ xs : List α, pdL (xs.map e.en) = some (xs.map e.p)
  | [] => rfl
  | x :: xs => by simp [pdL, e.hp, pdL_map e xs]
theorem lay_map (e : En α) : ∀ xs : List α, PyData.canLayAll0 (xs.map e.p) = true
  | [] => rfl
  | x :: xs => by simp [PyData.canLayAll0, e.lay, lay_map e xs]
theorem dep_map (e : En α) : ∀ xs : List α, PyData.depthAll (xs.map e.p) ≤ e.dep
  | [] => by simp [PyData.depthAll]
  | x :: xs => by
    have h1 := e.hd x
    have h2 := dep_map e xs
    simp only [List.map_cons, PyData.depthAll]
    omega
theorem eq_map (e : En α) : ∀ xs ys : List α, PyData.eqvAll (xs.map e.p) (ys.map e.p) = decide (xs = ys)
  | [], [] => rfl
  | [], _ :: _ => rfl
  | _ :: _, [] => rfl
  | x :: xs, y :: ys => by simp [PyData.eqvAll, e.eq, eq_map e xs ys]
def enL (e : En α) : En (List α) where
  en := fun xs => .lst (xs.map e.en)
  p := fun xs => .list (xs.map e.p)
  hp := fun xs => by simp [pd, pdL_map]
  lay := fun xs => by simp [PyData.canLay0, lay_map]
  dep := e.dep + 1
  hd := fun xs => by
    have := dep_map e xs
    simp only [PyData.depth]
    omega
  eq := fun x y => by simp [PyData.eqv, eq_map]
def enT (e : En α) : En (List α) where
  en := fun xs => .tup (xs.map e.en)
  p := fun xs => .tuple (xs.map e.p)
  hp := fun xs => by simp [pd, pdL_map]
  lay := fun xs => by simp [PyData.canLay0, lay_map]
  dep := e.dep + 1
  hd := fun xs => by
    have := dep_map e xs
    simp only [PyData.depth]
    omega
  eq := fun x y => by simp [PyData.eqv, eq_map]
theorem eqD_en (e : En α) (hd : e.dep ≤ 64) (hs : ∀ a b, scalEq (e.en a) (e.en b) = none) (a b : α) : eqD (e.en a) (e.en b) = some (decide (a = b)) := by
  unfold eqD
  rw [hs, e.hp, e.hp]
  have h1 : SeqAt.shaped (e.p a) = true := by unfold SeqAt.shaped; rw [e.lay, decide_eq_true (Nat.le_trans (e.hd a) hd)]; rfl
  have h2 : SeqAt.shaped (e.p b) = true := by unfold SeqAt.shaped; rw [e.lay, decide_eq_true (Nat.le_trans (e.hd b) hd)]; rfl
  simp only [h1, h2, Bool.and_self, if_true, e.eq]
end
/-- pairs of numbers, lists of them -/
def pairD (p : Int × Int) : D := .tup [.int p.1, .int p.2]
def prsD (ps : List (Int × Int)) : D := .lst (ps.map pairD)
theorem dEq_pair (p q : Int × Int) : dEq [pairD p, pairD q] = some (.bl (decide (p = q))) := by
  have := eqD_en (enP enI enI) (by decide) (fun _ _ => rfl) p q
  unfold dEq
  show (eqD ((enP enI enI).en p) ((enP enI enI).en q)).map D.bl = _
  rw [this]; rfl
theorem dNe_pair (p q : Int × Int) : dNe [pairD p, pairD q] = some (.bl (!decide (p = q))) := by
  have := eqD_en (enP enI enI) (by decide) (fun _ _ => rfl) p q
  unfold dNe
  show (eqD ((enP enI enI).en p) ((enP enI enI).en q)).map _ = _
  rw [this]; rfl
theorem dEq_prs (p q : List (Int × Int)) : dEq [prsD p, prsD q] = some (.bl (decide (p = q))) := by
  have := eqD_en (enL (enP enI enI)) (by decide) (fun _ _ => rfl) p q
  unfold dEq
  show (eqD ((enL (enP enI enI)).en p) ((enL (enP enI enI)).en q)).map D.bl = _
  rw [this]; rfl
theorem dNe_prs (p q : List (Int × Int)) : dNe [prsD p, prsD q] = some (.bl (!decide (p = q))) := by
  have := eqD_en (enL (enP enI enI)) (by decide) (fun _ _ => rfl) p q
  unfold dNe
  show (eqD ((enL (enP enI enI)).en p) ((enL (enP enI enI)).en q)).map _ = _
  rw [this]; rfl
theorem dEq_ints (p q : List Int) : dEq [.lst (p.map .int), .lst (q.map .int)] = some (.bl (decide (p = q))) := by
  have := eqD_en (enL enI) (by decide) (fun _ _ => rfl) p q
  unfold dEq
  show (eqD ((enL enI).en p) ((enL enI).en q)).map D.bl = _
  rw [this]; rfl
theorem dNe_ints (p q : List Int) : dNe [.lst (p.map .int), .lst (q.map .int)] = some (.bl (!decide (p = q))) := by
  have := eqD_en (enL enI) (by decide) (fun _ _ => rfl) p q
  unfold dNe
  show (eqD ((enL enI).en p) ((enL enI).en q)).map _ = _
  rw [this]; rfl
/-! ### loops that change nothing -/
section
variable {α β : Type} {m mem : List MO}
theorem fk_go {τ : Tgt} {body : MS} {d : D} {ds : List D} {env : List Slot} {N : List Slot → List MO → Prop} {S : D → List MO → Prop}
    (h : ∃ e1, τ.set d env = some e1 ∧ Fk (body e1 m) (fun e' m' => Fk (mForGo τ body ds e' m') N S) S) : Fk (mForGo τ body (d :: ds) env m) N S := by
  obtain ⟨e1, h1, h2⟩ := h
  unfold mForGo
  rw [h1]
  dsimp only
  cases hb : body e1 m with
  | next e' m' => rw [hb] at h2; exact h2
  | ret d m' => rw [hb] at h2; exact h2
  | _ => rw [hb] at h2; exact h2.elim
theorem fk_go0 {τ : Tgt} {body : MS} {env : List Slot} {N : List Slot → List MO → Prop} {S : D → List MO → Prop} (h : N env m) : Fk (mForGo τ body [] env m) N S := h
theorem fk_forI {τ : Tgt} {f : MI} {body : MS} {env : List Slot} {ds : List D} {m' : List MO} {N : List Slot → List MO → Prop} {S : D → List MO → Prop} (h : f env m = .ok ds m') (h2 : Fk (mForGo τ body ds env m') N S) : Fk (mFor τ f body env m) N S := by
  unfold mFor
  rw [fk_flow]
  exact ok_of h h2
theorem lc2_in {τ1 : Tgt} {t1 : MT} {f : ME} {env : List Slot} {en1 : β → D} {p : β → Bool} {g : β → D} : ∀ (ys : List β) (acc : List D), acc.length + ys.length ≤ sizeLine →
    (∀ y ∈ ys, ∃ e1, τ1.set (en1 y) env = some e1 ∧ t1 e1 mem = .ok (p y) mem ∧ (p y = true → f e1 mem = .ok (g y) mem)) →
    mLc2In τ1 t1 f env (ys.map en1) acc mem = .ok (acc ++ (ys.filter p).map g) mem
  | [], acc, _, _ => by simp [mLc2In]
  | y :: ys, acc, hl, h => by
    obtain ⟨e1, h1, h2, h3⟩ := h y List.mem_cons_self
    rw [List.length_cons] at hl
    unfold mLc2In
    simp only [List.map_cons, h1, h2, Res.bnd]
    cases hp : p y with
    | true =>
      rw [if_pos rfl, h3 hp]
      simp only [Res.bnd]
      rw [if_pos (by omega), lc2_in ys (acc ++ [g y]) (by simp; omega) fun z hz => h z (List.mem_cons_of_mem _ hz)]
      simp [hp]
    | false =>
      rw [if_neg Bool.false_ne_true, lc2_in ys acc (by omega) fun z hz => h z (List.mem_cons_of_mem _ hz)]
      simp [hp]
theorem lc2_go {τ τ1 : Tgt} {it1 : MI} {t1 : MT} {f : ME} {own1 : List Nat} {env : List Slot} {en : α → D} {ys : List β} {en1 : β → D} {p : α → β → Bool} {g : α → β → D} : ∀ (xs : List α) (acc : List D), acc.length + xs.length * ys.length ≤ sizeLine →
    (∀ x ∈ xs, ∃ e, τ.set (en x) env = some e ∧ it1 e mem = .ok (ys.map en1) mem ∧ noOwn e own1 = true ∧ ∀ y ∈ ys, ∃ e1, τ1.set (en1 y) (wipeE e own1) = some e1 ∧ t1 e1 mem = .ok (p x y) mem ∧ (p x y = true → f e1 mem = .ok (g x y) mem)) →
    mLc2Go τ mYes it1 τ1 t1 f own1 env (xs.map en) acc mem = .ok (acc ++ xs.flatMap fun x => (ys.filter (p x)).map (g x)) mem
  | [], acc, _, _ => by simp [mLc2Go]
  | x :: xs, acc, hl, h => by
    obtain ⟨e, h1, h2, h3, h4⟩ := h x List.mem_cons_self
    rw [List.length_cons, Nat.succ_mul] at hl
    unfold mLc2Go
    simp only [List.map_cons, h1, mYes, Res.bnd, if_true, h2, h3]
    rw [lc2_in ys acc (by omega) h4]
    simp only [Res.bnd]
    have hf := List.length_filter_le (p x) ys
    have := lc2_go (env := env) (en := en) (own1 := own1) (it1 := it1) (τ := τ) (τ1 := τ1) (t1 := t1) (f := f) (p := p) (g := g) (en1 := en1) (ys := ys) xs (acc ++ (ys.filter (p x)).map (g x)) (by simp; omega) fun z hz => h z (List.mem_cons_of_mem _ hz)
    refine this.trans ?_
    simp
theorem lc2_eq {τ τ1 : Tgt} {it it1 : MI} {t1 : MT} {f : ME} {own own1 : List Nat} {env : List Slot} {xs : List α} {en : α → D} {ys : List β} {en1 : β → D} {p : α → β → Bool} {g : α → β → D}
    (h0 : it env mem = .ok (xs.map en) mem) (hn : noOwn env own = true) (hl : xs.length * ys.length ≤ sizeLine)
    (h : ∀ x ∈ xs, ∃ e, τ.set (en x) (wipeE env own) = some e ∧ it1 e mem = .ok (ys.map en1) mem ∧ noOwn e own1 = true ∧ ∀ y ∈ ys, ∃ e1, τ1.set (en1 y) (wipeE e own1) = some e1 ∧ t1 e1 mem = .ok (p x y) mem ∧ (p x y = true → f e1 mem = .ok (g x y) mem)) :
    mLc2 τ it mYes it1 τ1 t1 f own own1 env mem = .ok (.lst (xs.flatMap fun x => (ys.filter (p x)).map (g x))) mem := by
  unfold mLc2
  rw [h0]
  simp only [Res.bind]
  rw [if_pos hn, lc2_go xs [] (by simpa using hl) h]
  simp [Res.bind, lstK]
end
end Vt
set_option Elab.async false
set_option linter.all false
set_option maxRecDepth 100000
set_option maxHeartbeats 4000000
set_option autoImplicit false
namespace W77
open PySem PySem.Spec PyProof.Rows L2 Vt
local macro_rules | `(tactic| walk_at "mm") => `(tactic| try simp only [nx, Res.nx, phi, env0, fin, mRet, mRetN, mSet, mDrop, mSeq, mIf, mPass, mNev, mVar, mC, mNil, mCons, mBin, mUn, mFun, mTru, mTB, mNot, mAnd, mOr, mIfE, mAndV, mOrV, mNotV, mChn, mTup, mLst, mYes, mFld, mMeth, mMeth0, mProp, mIt, mItT, mSl, mNoP, mSoP, mIxO, mLenO, mPar, mPar3, mAug, mAsg, mOwn, mOwn2, mApp, mExt, mPutL, mFrz, lf, lt, lg, dTruth, asBl, Vt.isNon, dIsN, dNotN, dLe, dLt, dGe, dGt, dAdd, dAddI, dSub, dNeg, dInt, dEq, dNe, eqD, scalEq, items,
  Res.bind, Res.bnd, Res.flow, List.map_cons, List.map_nil, List.length_cons, List.length_nil, List.cons_append, List.nil_append, List.getElem?_cons_zero, List.getElem?_cons_succ, List.getElem?_nil, List.replicate, List.set_cons_zero, List.set_cons_succ, Option.map_some, Nat.reduceAdd, Nat.reduceSub, if_true, if_false, Bool.false_eq_true, Bool.not_true, Bool.not_false, reduceIte])
local macro_rules | `(tactic| walk_at "ww") => `(tactic| try simp only [fk_seq, fk_next, fk_ret, fk_bad, fk_flow, fk_if, ok_ok, ok_bad, ok_exc, ok_bind, ok_bnd, env0, mRet, mRetN, mSet, mDrop, mPass, mNev, mVar, mC, mNil, mCons, mBin, mUn, mFun, mTru, mTB, mNot, mAnd, mOr, mIfE, mAndV, mOrV, mNotV, mChn, mTup, mLst, mYes, mFld, mMeth, mMeth0, mProp, mIt, mItT, mSl, mNoP, mSoP, mIxO, mLenO, mPar, mPar3, mAug, mAsg, mOwn, mOwn2, mApp, mExt, mPutL, mFrz, mStar, lf, lt, lg, dTruth, asBl, Vt.isNon, dIsN, dNotN, dLe, dLt, dGe, dGt, dAdd, dAddI, dSub, dNeg, dInt, items, Tgt.set, frzD,
  List.map_cons, List.map_nil, List.length_cons, List.length_nil, List.cons_append, List.nil_append, List.getElem?_cons_zero, List.getElem?_cons_succ, List.getElem?_nil, List.replicate, List.set_cons_zero, List.set_cons_succ, Option.map_some, Nat.reduceAdd, Nat.reduceSub, if_true, if_false, Bool.false_eq_true, Bool.not_true, Bool.not_false, reduceIte, forall_const, Bool.true_eq_false, Bool.false_eq_true, false_implies, true_implies, and_true, true_and, reduceCtorEq])
section
variable (m : List MO)
theorem k_int_int (i : Int) : dIs1 kt [.int i, .ty "int"] = some (.bl true) := rfl
theorem k_int_bool (i : Int) : dIs1 kt [.int i, .ty "bool"] = some (.bl false) := rfl
theorem k_str_str (x : Str) : dIs1 kt [.str x, .ty "str"] = some (.bl true) := rfl
theorem k_len (xs : List D) : dIs1 kt [.ins "Lengths" xs, .glo "Lengths"] = some (.bl true) := rfl
theorem k_book (xs : List D) : dIs1 kt [.ins "Book" xs, .glo "Book"] = some (.bl true) := rfl
theorem k_chain (xs : List D) : dIs1 kt [.ins "Chain" xs, .glo "Chain"] = some (.bl true) := rfl
theorem is_integer_int (i : Int) : S_is_integer [.int i] m = .ok (.bl true) m := by
  unfold S_is_integer m_is_integer
  walk_at "mm"
  simp only [k_int_int, k_int_bool]
  walk_at "mm"
theorem is_within_int (i a b : Int) : S_is_within [.int i, .int a, .int b] m = .ok (.bl (decide (a ≤ i) && decide (i ≤ b))) m := by
  unfold S_is_within m_is_within
  walk_at "mm"
  simp only [is_integer_int]
  walk_at "mm"
  by_cases h : a ≤ i <;> simp [h]
theorem need_count_int (i b : Int) (h : 0 ≤ i ∧ i ≤ b) : S_need_count [.int i, .int b] m = .ok .non m := by
  unfold S_need_count m_need_count
  walk_at "mm"
  simp only [is_within_int]
  walk_at "mm"
  simp [h]
end
end W77
set_option Elab.async false
set_option linter.all false
set_option maxRecDepth 100000
set_option maxHeartbeats 4000000
set_option autoImplicit false
namespace W77
open PySem PySem.Spec PyProof.Rows L2 Vt Mt
local macro_rules | `(tactic| walk_at "mm") => `(tactic| try simp only [nx, Res.nx, phi, env0, fin, mRet, mRetN, mSet, mDrop, mSeq, mIf, mPass, mNev, mVar, mC, mNil, mCons, mBin, mUn, mFun, mTru, mTB, mNot, mAnd, mOr, mIfE, mAndV, mOrV, mNotV, mChn, mTup, mLst, mYes, mFld, mMeth, mMeth0, mProp, mIt, mItT, mSl, mNoP, mSoP, mIxO, mLenO, mPar, mPar3, mAug, mAsg, mOwn, mOwn2, mApp, mExt, mPutL, mFrz, lf, lt, lg, dTruth, asBl, Vt.isNon, dIsN, dNotN, dLe, dLt, dGe, dGt, dAdd, dAddI, dSub, dNeg, dInt, dEq, dNe, eqD, scalEq, items,
  Res.bind, Res.bnd, Res.flow, List.map_cons, List.map_nil, List.length_cons, List.length_nil, List.cons_append, List.nil_append, List.getElem?_cons_zero, List.getElem?_cons_succ, List.getElem?_nil, List.replicate, List.set_cons_zero, List.set_cons_succ, Option.map_some, Nat.reduceAdd, Nat.reduceSub, if_true, if_false, Bool.false_eq_true, Bool.not_true, Bool.not_false, reduceIte])
local macro_rules | `(tactic| walk_at "ww") => `(tactic| try simp only [fk_seq, fk_next, fk_ret, fk_bad, fk_flow, fk_if, ok_ok, ok_bad, ok_exc, ok_bind, ok_bnd, env0, mRet, mRetN, mSet, mDrop, mPass, mNev, mVar, mC, mNil, mCons, mBin, mUn, mFun, mTru, mTB, mNot, mAnd, mOr, mIfE, mAndV, mOrV, mNotV, mChn, mTup, mLst, mYes, mFld, mMeth, mMeth0, mProp, mIt, mItT, mSl, mNoP, mSoP, mIxO, mLenO, mPar, mPar3, mAug, mAsg, mOwn, mOwn2, mApp, mExt, mPutL, mFrz, mStar, lf, lt, lg, dTruth, asBl, Vt.isNon, dIsN, dNotN, dLe, dLt, dGe, dGt, dAdd, dAddI, dSub, dNeg, dInt, items, Tgt.set, frzD,
  List.map_cons, List.map_nil, List.length_cons, List.length_nil, List.cons_append, List.nil_append, List.getElem?_cons_zero, List.getElem?_cons_succ, List.getElem?_nil, List.replicate, List.set_cons_zero, List.set_cons_succ, Option.map_some, Nat.reduceAdd, Nat.reduceSub, if_true, if_false, Bool.false_eq_true, Bool.not_true, Bool.not_false, reduceIte, forall_const, Bool.true_eq_false, Bool.false_eq_true, false_implies, true_implies, and_true, true_and, reduceCtorEq])
def optD : Option Int → D
  | none => .non
  | some i => .int i
theorem rng2_eq {g : MA} {env : List Slot} {m m' : List MO} {i j : Int} (h : g env m = .ok [.int i, .int j] m') (hi : small62 i = true) (hj : small62 j = true) :
    mRng2 g env m = .ok ((List.range (j - i).toNat).map fun k => .int (i + (k : Nat))) m' := by
  unfold mRng2
  rw [h]
  simp only [Res.bind, dRng2, hi, hj, Bool.and_self, if_true, lg, upto]
theorem atI_zero {α : Type} (x : α) (xs : List α) : atI (x :: xs) 0 = some x := by
  unfold atI ixN
  simp
theorem vals_map : ∀ fs : List (Option Int), (fs.filter (·.isSome)).map optD = (fs.filterMap id).map .int
  | [] => rfl
  | none :: fs => by simpa using vals_map fs
  | some v :: fs => by simpa [optD] using vals_map fs
theorem atI_map {α β : Type} {f : α → β} {xs : List α} {i : Int} (h0 : 0 ≤ i) : atI (xs.map f) i = (xs[i.toNat]?).map f := by
  unfold atI ixN
  rw [if_pos h0]
  by_cases h : i < ((xs.map f).length : Nat)
  · rw [if_pos h]; simp
  · rw [if_neg h]
    rw [List.length_map] at h
    rw [List.getElem?_eq_none (by omega)]
    rfl
theorem ixN_in {n : Nat} {i : Int} (h0 : 0 ≤ i) (h : i < n) : ixN n i = some i.toNat := by
  unfold ixN
  rw [if_pos h0, if_pos h]
theorem first_totals_ok {L : Int} {xs : List Int} {m : List MO} (hp : ∀ x ∈ L :: xs, 1 ≤ x) (h60 : L ≤ 60) :
    Ok (S_first_totals [.tup ((L :: xs).map .int)] m) fun d m' => m' = m ∧ ∃ fs, Firsts (L :: xs) L fs ∧ d = .lst (fs.map optD) := by
  have hL : 1 ≤ L := hp L List.mem_cons_self
  refine (ok_phi rfl).mpr ?_
  unfold m_first_totals
  walk_at "ww"
  have n0 : dIx [D.tup (D.int L :: xs.map D.int), D.int 0] = some (.int L) := by simp [dIx, atI_zero]
  simp only [n0, ok_ok]
  refine ok_of (lc_map (xs := List.range (L - 1).toNat) (en := fun k => .int (1 + (k : Nat))) (g := fun _ => D.non) (rng2_eq rfl (by decide) (by simp [small62]; omega)) rfl (by simp [sizeLine_eq]; omega) fun x _ => ⟨_, rfl, rfl⟩) ?_
  walk_at "ww"
  simp only [List.append_nil, List.length_map, List.length_range]
  rw [if_pos (by rw [sizeLine_eq]; omega)]
  walk_at "ww"
  have hst := good_start (xs := L :: xs) hL
  have est : (D.int 0 :: (List.range (L - 1).toNat).map fun _ => D.non) = (some (0 : Int) :: List.replicate (L.toNat - 1) none).map optD := by
    have e : (L - 1).toNat = L.toNat - 1 := by omega
    rw [e, List.map_cons, List.map_replicate, List.map_const', List.length_range]
    rfl
  rw [est]
  generalize some (0 : Int) :: List.replicate (L.toNat - 1) none = f0 at hst
  clear est n0
  refine fk_while less2_wf (i := (f0, true)) (fun i e m1 => m1 = m ∧ Good (L :: xs) L i.1 ∧ (i.2 = false → Firsts (L :: xs) L i.1) ∧ ∃ s3 s5 s7 s8, e = [.val (.tup ((L :: xs).map .int)), .val (.int L), .own (.lst (i.1.map optD)), s3, .val (.bl i.2), s5, .none, s7, s8]) ?_ ⟨rfl, hst, nofun, _, _, _, _, rfl⟩
  rintro ⟨fs, g⟩ e m1 ⟨rfl, hg, hF, s3, s5, s7, s8, rfl⟩
  dsimp only at hg hF
  walk_at "ww"
  refine ⟨fun hb => ?_, fun hb => ?_⟩
  case refine_2 =>
    subst hb
    exact ⟨fs, hF rfl, rfl⟩
  subst hb
  refine fk_for (fun ds e m2 => m2 = m1 ∧ ∃ pre post fs' g s3 s5 s7 s8, fs.filterMap id = pre ++ post ∧ ds = post.map .int ∧ e = [.val (.tup ((L :: xs).map .int)), .val (.int L), .own (.lst (fs'.map optD)), s3, .val (.bl g), s5, .none, s7, s8] ∧
    Good (L :: xs) L fs' ∧ ((g = false ∧ fs' = fs ∧ ∀ v ∈ pre, ∀ l ∈ L :: xs, Clo fs L v l) ∨ (g = true ∧ Less fs' fs))) ?_ ?_ ?_
  · unfold mIt
    rw [ok_bind]
    refine ok_of (lc_eq (xs := fs) (en := optD) (p := (·.isSome)) (g := optD) rfl rfl (by have := hg.1; rw [sizeLine_eq]; omega) fun o _ => ?_) ?_
    · cases o with
      | none => exact ⟨_, rfl, rfl, nofun⟩
      | some v => exact ⟨_, rfl, rfl, fun _ => rfl⟩
    · rw [vals_map]
      exact ⟨_, _, rfl, rfl, [], _, fs, false, s3, s5, s7, s8, rfl, rfl, rfl, hg, .inl ⟨rfl, rfl, fun _ h => nomatch h⟩⟩
  · rintro d ds e m2 ⟨rfl, pre, post, fs', g, s3, s5, s7, s8, e1, e2, rfl, hg', hc⟩
    cases post with
    | nil => cases e2
    | cons v post =>
      cases e2
      refine ⟨_, rfl, ?_⟩
      obtain ⟨rv, hrv⟩ := mem_vals.mp (show v ∈ fs.filterMap id by rw [e1]; simp)
      obtain ⟨v0, v1, v2⟩ := hg.2.2 rv v hrv
      refine fk_for (fun ds e m3 => m3 = m2 ∧ ∃ pr po fs' g s3 s7 s8, L :: xs = pr ++ po ∧ ds = po.map .int ∧ e = [.val (.tup ((L :: xs).map .int)), .val (.int L), .own (.lst (fs'.map optD)), s3, .val (.bl g), .val (.int v), .none, s7, s8] ∧
        Good (L :: xs) L fs' ∧ ((g = false ∧ fs' = fs ∧ (∀ v ∈ pre, ∀ l ∈ L :: xs, Clo fs L v l) ∧ ∀ l ∈ pr, Clo fs L v l) ∨ (g = true ∧ Less fs' fs))) ?_ ?_ ?_
      · refine ok_of (a := (L :: xs).map .int) (m := m2) rfl ⟨rfl, [], _, fs', g, s3, s7, s8, rfl, rfl, rfl, hg', ?_⟩
        rcases hc with ⟨c1, c2, c3⟩ | c
        · exact .inl ⟨c1, c2, c3, fun _ h => nomatch h⟩
        · exact .inr c
      · rintro d ds2 e m3 ⟨rfl, pr, po, fs', g, s3, s7, s8, f1, f2, rfl, hg', hc⟩
        cases po with
        | nil => cases f2
        | cons l po =>
          cases f2
          refine ⟨_, rfl, ?_⟩
          have hl : l ∈ L :: xs := by rw [f1]; simp
          have l1 := hp l hl
          have nn := Int.emod_nonneg (v + l) (show L ≠ 0 by omega)
          have nl := Int.emod_lt_of_pos (v + l) (show 0 < L by omega)
          have lf := hg'.1
          walk_at "ww"
          have dm : dMod [D.int (v + l), D.int L] = some (.int ((v + l) % L)) := if_pos (by omega)
          have hr : ((v + l) % L).toNat < fs'.length := by omega
          have ea : atI (fs'.map optD) ((v + l) % L) = some (optD (fs'[((v + l) % L).toNat])) := by rw [atI_map nn, List.getElem?_eq_getElem hr]; rfl
          have ei : ixN (fs'.map optD).length ((v + l) % L) = some ((v + l) % L).toNat := ixN_in nn (by rw [List.length_map]; omega)
          have er : fs'[((v + l) % L).toNat]? = some (fs'[((v + l) % L).toNat]) := List.getElem?_eq_getElem hr
          simp only [dm, ok_ok, ea, ei]
          have put : (fs'[((v + l) % L).toNat]? = some none ∨ ∃ w, fs'[((v + l) % L).toNat]? = some (some w) ∧ v + l < w) → m3 = m3 ∧ ∃ pr po_1 fs'_1 g_1 s3 s7 s8, L :: xs = pr ++ po_1 ∧ po.map D.int = po_1.map D.int ∧
              ([Slot.val (D.tup (D.int L :: xs.map D.int)), Slot.val (D.int L), Slot.own (MO.lst ((fs'.map optD).set ((v + l) % L).toNat (D.int (v + l)))), Slot.val (.int ((v + l) % L)), Slot.val (D.bl g), Slot.val (D.int v), Slot.none, Slot.val (D.int l), Slot.val (D.int (v + l))] : List Slot).set 4 (Slot.val (D.bl true)) =
                [Slot.val (D.tup (D.int L :: xs.map D.int)), Slot.val (D.int L), Slot.own (MO.lst (fs'_1.map optD)), s3, Slot.val (D.bl g_1), Slot.val (D.int v), Slot.none, s7, s8] ∧ Good (L :: xs) L fs'_1 ∧
              ((g_1 = false ∧ fs'_1 = fs ∧ (∀ v ∈ pre, ∀ l ∈ L :: xs, Clo fs L v l) ∧ ∀ l ∈ pr, Clo fs L v l) ∨ (g_1 = true ∧ Less fs'_1 fs)) := fun h => by
            obtain ⟨t1, t2⟩ := turn hL hp hg' v0 v2 hl h
            refine ⟨rfl, pr ++ [l], po, fs'.set ((v + l) % L).toNat (some (v + l)), true, _, _, _, by simp [f1], rfl, by rw [List.map_set]; rfl, t1, .inr ⟨rfl, ?_⟩⟩
            rcases hc with ⟨c1, c2, _⟩ | ⟨_, c2⟩
            · rw [← c2]; exact t2
            · exact t2.trans c2
          cases eo : fs'[((v + l) % L).toNat] with
          | none =>
            rw [eo] at er
            simp only [optD, if_true, ok_ok]
            exact ⟨fun _ => put (.inl er), fun h => by cases h⟩
          | some w =>
            rw [eo] at er
            simp only [optD, Bool.false_eq_true, if_false, ok_bind, ok_ok, ea, eo, decide_eq_true_eq, decide_eq_false_iff_not]
            refine ⟨fun h => put (.inr ⟨w, er, h⟩), fun h => ⟨trivial, pr ++ [l], po, fs', g, _, _, _, by simp [f1], rfl, rfl, hg', ?_⟩⟩
            rcases hc with ⟨c1, c2, c3, c4⟩ | c
            · refine .inl ⟨c1, c2, c3, fun l' hl' => ?_⟩
              rcases List.mem_append.mp hl' with q | q
              · exact c4 l' q
              · have : l' = l := by simpa using q
                subst this
                exact ⟨w, by rw [← c2]; exact er, by omega⟩
            · exact .inr c
      · rintro e m3 ⟨rfl, pr, po, fs', g, s3, s7, s8, f1, f2, rfl, hg', hc⟩
        have : po = [] := by cases po with
          | nil => rfl
          | cons _ _ => cases f2
        subst this
        rw [List.append_nil] at f1
        refine ⟨rfl, pre ++ [v], post, fs', g, s3, _, s7, s8, by simp [e1], rfl, rfl, hg', ?_⟩
        rcases hc with ⟨c1, c2, c3, c4⟩ | c
        · refine .inl ⟨c1, c2, fun u hu l hl => ?_⟩
          rcases List.mem_append.mp hu with q | q
          · exact c3 u q l hl
          · have : u = v := by simpa using q
            subst this
            exact c4 l (by rw [← f1]; exact hl)
        · exact .inr c
  · rintro e m2 ⟨rfl, pre, post, fs', g, s3, s5, s7, s8, e1, e2, rfl, hg', hc⟩
    have : post = [] := by cases post with
      | nil => rfl
      | cons _ _ => cases e2
    subst this
    rw [List.append_nil] at e1
    refine ⟨(fs', g), ?_, rfl, hg', fun hgf => ?_, s3, s5, s7, s8, rfl⟩
    · rcases hc with ⟨c1, c2, c3⟩ | ⟨c1, c2⟩
      · exact .inr ⟨c2, c1, rfl⟩
      · exact .inl c2
    · rcases hc with ⟨c1, c2, c3⟩ | ⟨c1, c2⟩
      · subst c2
        exact ⟨hg', fun r v hr l hl => c3 v (by rw [← e1]; exact mem_vals.mpr ⟨r, hr⟩) l hl⟩
      · have hgf : g = false := hgf
        rw [hgf] at c1; cases c1
theorem dEq_ii (i j : Int) : dEq [.int i, .int j] = some (.bl (decide (i = j))) := rfl
theorem dEq_ss (i j : Str) : dEq [.str i, .str j] = some (.bl (decide (i = j))) := rfl
theorem dNe_ii (i j : Int) : dNe [.int i, .int j] = some (.bl (!decide (i = j))) := rfl
theorem dNe_ss (i j : Str) : dNe [.str i, .str j] = some (.bl (!decide (i = j))) := rfl
theorem dLen_l (xs : List D) : dLen [.lst xs] = some (.int xs.length) := rfl
theorem dLen_t (xs : List D) : dLen [.tup xs] = some (.int xs.length) := rfl
theorem dInt_i (i : Int) : dInt [.int i] = some (.int i) := rfl
theorem dInt_b (b : Bool) : dInt [.bl b] = some (.int (if b then 1 else 0)) := rfl
local macro_rules | `(tactic| walk_at "mm") => `(tactic| try simp only [nx, Res.nx, phi, env0, fin, mRet, mRetN, mSet, mDrop, mSeq, mIf, mPass, mNev, mVar, mC, mNil, mCons, mBin, mUn, mFun, mTru, mTB, mNot, mAnd, mOr, mIfE, mAndV, mOrV, mNotV, mChn, mTup, mLst, mYes, mFld, mFldSetO, mFldO, putX, eq_self, and_self, Nat.reduceLT, Nat.lt_irrefl, Nat.reduceEqDiff, mMeth, mMeth0, mProp, mIt, mItT, mSl, mNoP, mSoP, mIxO, mLenO, mPar, mPar3, mAug, mAsg, mIxH, mPutH, mLstH, mOwn, mOwn2, mApp, mExt, mPutL, mFrz, lf, lt, lg, dTruth, asBl, Vt.isNon, dIsN, dNotN, dLe, dLt, dGe, dGt, dAdd, dAddI, dSub, dNeg, dInt_i, dInt_b, dEq_ii, dEq_ss, dNe_ii, dNe_ss, items, Tgt.set, setAll, wipeE, dLen_l, dLen_t, mCm, mStar1, blK, kwCall, mKw,
  Res.bind, Res.bnd, Res.flow, List.map_cons, List.map_nil, List.length_cons, List.length_nil, List.cons_append, List.nil_append, List.getElem?_cons_zero, List.getElem?_cons_succ, List.getElem?_nil, List.replicate, List.set_cons_zero, List.set_cons_succ, Option.map_some, Nat.reduceAdd, Nat.reduceSub, if_true, if_false, Bool.false_eq_true, Bool.not_true, Bool.not_false, Bool.and_self, Bool.true_and, Bool.and_true, Bool.false_and, Bool.and_false, Bool.or_true, Bool.true_or, Bool.or_false, Bool.false_or, Bool.or_self, reduceIte])
local macro_rules | `(tactic| walk_at "ww") => `(tactic| try simp only [fk_seq, fk_next, fk_ret, fk_bad, fk_flow, fk_if, ok_ok, ok_bad, ok_exc, ok_bind, ok_bnd, env0, mRet, mRetN, mSet, mDrop, mPass, mNev, mVar, mC, mNil, mCons, mBin, mUn, mFun, mTru, mTB, mNot, mAnd, mOr, mIfE, mAndV, mOrV, mNotV, mChn, mTup, mLst, mYes, mFld, mFldSetO, mFldO, putX, eq_self, and_self, Nat.reduceLT, Nat.lt_irrefl, Nat.reduceEqDiff, mMeth, mMeth0, mProp, mIt, mItT, mSl, mNoP, mSoP, mIxO, mLenO, mPar, mPar3, mAug, mAsg, mIxH, mPutH, mLstH, mOwn, mOwn2, mApp, mExt, mPutL, mFrz, mStar, lf, lt, lg, dTruth, asBl, Vt.isNon, dIsN, dNotN, dLe, dLt, dGe, dGt, dAdd, dAddI, dSub, dNeg, dInt_i, dInt_b, items, Tgt.set, setAll, frzD, wipeE, dEq_ii, dEq_ss, dNe_ii, dNe_ss, dLen_l, dLen_t, mCm, mStar1, blK, kwCall, mKw,
  List.map_cons, List.map_nil, List.length_cons, List.length_nil, List.cons_append, List.nil_append, List.getElem?_cons_zero, List.getElem?_cons_succ, List.getElem?_nil, List.replicate, List.set_cons_zero, List.set_cons_succ, Option.map_some, Nat.reduceAdd, Nat.reduceSub, if_true, if_false, Bool.false_eq_true, Bool.not_true, Bool.not_false, Bool.and_self, Bool.true_and, Bool.and_true, Bool.false_and, Bool.and_false, Bool.or_true, Bool.true_or, Bool.or_false, Bool.false_or, Bool.or_self, reduceIte, forall_const, Bool.true_eq_false, Bool.false_eq_true, false_implies, true_implies, and_true, true_and, reduceCtorEq])
local macro_rules | `(tactic| walk_at "md") => `(tactic| try simp (disch := omega) only [decide_eq_true, decide_eq_false, if_pos, if_neg, nx, Res.nx, phi, env0, fin, mRet, mRetN, mSet, mDrop, mSeq, mIf, mPass, mNev, mVar, mC, mNil, mCons, mBin, mUn, mFun, mTru, mTB, mNot, mAnd, mOr, mIfE, mAndV, mOrV, mNotV, mChn, mTup, mLst, mYes, mFld, mFldSetO, mFldO, putX, eq_self, and_self, Nat.reduceLT, Nat.lt_irrefl, Nat.reduceEqDiff, mMeth, mMeth0, mProp, mIt, mItT, mSl, mNoP, mSoP, mIxO, mLenO, mPar, mPar3, mAug, mAsg, mIxH, mPutH, mLstH, mOwn, mOwn2, mApp, mExt, mPutL, mFrz, lf, lt, lg, dTruth, asBl, Vt.isNon, dIsN, dNotN, dLe, dLt, dGe, dGt, dAdd, dAddI, dSub, dNeg, dInt_i, dInt_b, dEq_ii, dEq_ss, dNe_ii, dNe_ss, items, Tgt.set, setAll, wipeE, dLen_l, dLen_t, mCm, mStar1, blK, kwCall, mKw,
  Res.bind, Res.bnd, Res.flow, List.map_cons, List.map_nil, List.length_cons, List.length_nil, List.cons_append, List.nil_append, List.getElem?_cons_zero, List.getElem?_cons_succ, List.getElem?_nil, List.replicate, List.set_cons_zero, List.set_cons_succ, Option.map_some, Nat.reduceAdd, Nat.reduceSub, if_true, if_false, Bool.false_eq_true, Bool.not_true, Bool.not_false, Bool.and_self, Bool.true_and, Bool.and_true, Bool.false_and, Bool.and_false, Bool.or_true, Bool.true_or, Bool.or_false, Bool.false_or, Bool.or_self, reduceIte])
local macro_rules | `(tactic| walk_at "wd") => `(tactic| try simp (disch := omega) only [decide_eq_true, decide_eq_false, if_pos, if_neg, fk_seq, fk_next, fk_ret, fk_bad, fk_flow, fk_if, ok_ok, ok_bad, ok_exc, ok_bind, ok_bnd, env0, mRet, mRetN, mSet, mDrop, mPass, mNev, mVar, mC, mNil, mCons, mBin, mUn, mFun, mTru, mTB, mNot, mAnd, mOr, mIfE, mAndV, mOrV, mNotV, mChn, mTup, mLst, mYes, mFld, mFldSetO, mFldO, putX, eq_self, and_self, Nat.reduceLT, Nat.lt_irrefl, Nat.reduceEqDiff, mMeth, mMeth0, mProp, mIt, mItT, mSl, mNoP, mSoP, mIxO, mLenO, mPar, mPar3, mAug, mAsg, mIxH, mPutH, mLstH, mOwn, mOwn2, mApp, mExt, mPutL, mFrz, mStar, lf, lt, lg, dTruth, asBl, Vt.isNon, dIsN, dNotN, dLe, dLt, dGe, dGt, dAdd, dAddI, dSub, dNeg, dInt_i, dInt_b, items, Tgt.set, setAll, frzD, wipeE, dEq_ii, dEq_ss, dNe_ii, dNe_ss, dLen_l, dLen_t, mCm, mStar1, blK, kwCall, mKw,
  List.map_cons, List.map_nil, List.length_cons, List.length_nil, List.cons_append, List.nil_append, List.getElem?_cons_zero, List.getElem?_cons_succ, List.getElem?_nil, List.replicate, List.set_cons_zero, List.set_cons_succ, Option.map_some, Nat.reduceAdd, Nat.reduceSub, if_true, if_false, Bool.false_eq_true, Bool.not_true, Bool.not_false, Bool.and_self, Bool.true_and, Bool.and_true, Bool.false_and, Bool.and_false, Bool.or_true, Bool.true_or, Bool.or_false, Bool.false_or, Bool.or_self, reduceIte, forall_const, Bool.true_eq_false, Bool.false_eq_true, false_implies, true_implies, and_true, true_and, reduceCtorEq])
local macro_rules | `(tactic| walk_at "zz") => `(tactic| first | done | trivial | exact ⟨rfl, rfl⟩ | exact ⟨trivial, trivial⟩ | rfl)
section
variable {α : Type}
theorem atI_at {xs : List α} {i : Int} {x : α} (h0 : 0 ≤ i) (h : xs[i.toNat]? = some x) : atI xs i = some x := by
  unfold atI
  rw [ixN_in h0 (by have := (List.getElem?_eq_some_iff.mp h).1; omega)]
  exact h
theorem atI_last {xs : List α} {x : α} (h : xs.getLast? = some x) : atI xs (-1) = some x := by
  have hn : xs ≠ [] := by rintro rfl; simp at h
  have hl := List.length_pos_iff.mpr hn
  unfold atI ixN
  rw [if_neg (by omega), if_pos (by omega)]
  rw [List.getLast?_eq_getElem?] at h
  have : (-1 + (xs.length : Int)).toNat = xs.length - 1 := by omega
  simpa [this] using h
end
/-- the text of a number -/
def numS (n : Int) : Str := Str.ofString (toString n)
def numOk (n : Nat) : Bool := decide (PySem.intText? (numS n) = some (n : Int)) && decide ((numS n).length ≤ 2) && decide (1 ≤ (numS n).length) && (n == 0 || !decide ((numS n).cps.getD 0 0 = 48)) && (numS n).cps.toList.all (fun c => decide (48 ≤ c) && decide (c ≤ 57))
theorem numOk_all : (List.range 62).all numOk = true := by decide +kernel
structure Num (n : Int) : Prop where
  read : PySem.intText? (numS n) = some n
  le : (numS n).length ≤ 2
  ge : 1 ≤ (numS n).length
  lead : n ≠ 0 → (numS n).cps.getD 0 0 ≠ 48
  dig : ∀ c ∈ (numS n).cps.toList, 48 ≤ c ∧ c ≤ 57
theorem num_ok {n : Int} (h0 : 0 ≤ n) (h1 : n ≤ 61) : Num n := by
  obtain ⟨k, rfl⟩ := Int.eq_ofNat_of_zero_le h0
  have h := List.all_eq_true.mp numOk_all k (List.mem_range.mpr (by omega))
  simp only [numOk, Bool.and_eq_true, decide_eq_true_eq, Bool.or_eq_true, beq_iff_eq, Bool.not_eq_true', decide_eq_false_iff_not, List.all_eq_true] at h
  obtain ⟨⟨⟨⟨a1, a2⟩, a3⟩, a4⟩, a5⟩ := h
  exact ⟨a1, a2, a3, fun hn => by
    rcases a4 with a4 | a4
    · omega
    · exact a4, a5⟩
theorem num_inj {i j : Int} (hi : 0 ≤ i ∧ i ≤ 61) (hj : 0 ≤ j ∧ j ≤ 61) (e : numS i = numS j) : i = j := by
  have h1 := (num_ok hi.1 hi.2).read
  have h2 := (num_ok hj.1 hj.2).read
  rw [e, h2] at h1
  exact (Option.some.inj h1).symm
theorem dStr_num {n : Int} (h0 : 0 ≤ n) (h1 : n ≤ 61) : dStr [.int n] = some (.str (numS n)) := by
  refine if_pos ?_
  have : n.natAbs < 64 := by omega
  have h2 : n.natAbs.log2 < 6 := by
    by_cases hz : n.natAbs = 0
    · rw [hz]; decide
    · exact (Nat.log2_lt hz).mpr this
  omega
theorem dInt_num {n : Int} (h0 : 0 ≤ n) (h1 : n ≤ 61) : dInt [.str (numS n)] = some (.int n) := by
  have h := num_ok h0 h1
  simp only [dInt, h.read]
  exact if_pos (by have := h.le; omega)
theorem inD_num {n : Int} : ∀ {xs : List Int}, (∀ x ∈ xs, 0 ≤ x ∧ x ≤ 61) → 0 ≤ n ∧ n ≤ 61 → inD (.str (numS n)) (xs.map fun x => .str (numS x)) = some (decide (n ∈ xs))
  | [], _, _ => rfl
  | x :: xs, h, hn => by
    have ih := inD_num (n := n) (xs := xs) (fun y hy => h y (List.mem_cons_of_mem _ hy)) hn
    simp only [List.map_cons, inD, scalEq, ih, Option.map_some, Option.some.injEq]
    have hx := h x List.mem_cons_self
    by_cases e : n = x
    · subst e; simp
    · have : ¬ numS x = numS n := fun q => e (num_inj hn hx q.symm)
      simp [this, e]
theorem flat_num (xs : List Int) : (xs.map fun x => D.str (numS x)).all flatD = true := by simp [flatD]
section
variable {ws : List Str} {i : Int} {m : List MO}
theorem upcoming_at {w : Str} (h0 : 0 ≤ i) (h : ws[i.toNat]? = some w) : S_upcoming [.lst (ws.map .str), .int i] m = .ok (.str w) m := by
  have hl := (List.getElem?_eq_some_iff.mp h).1
  refine ok_eq ((ok_phi rfl).mpr ?_)
  unfold m_upcoming
  walk_at "ww"
  rw [List.length_map, decide_eq_true (by omega : i < (ws.length : Int))]
  simp only [ok_ok, if_true, ok_bind]
  have : dIx [D.lst (ws.map .str), D.int i] = some (.str w) := atI_at h0 (by rw [List.getElem?_map, h]; rfl)
  simp only [this, ok_ok, and_self]
theorem need_head_at {w : Str} (h0 : 0 ≤ i) (h : ws[i.toNat]? = some w) : S_need_head [.lst (ws.map .str), .int i, .str w] m = .ok .non m := by
  refine ok_eq ((ok_phi rfl).mpr ?_)
  unfold m_need_head
  walk_at "ww"
  simp only [upcoming_at h0 h, ok_ok, dNe_ss, decide_true]
  walk_at "ww"
theorem number_at_at {n lo hi : Int} (h0 : 0 ≤ i) (h : ws[i.toNat]? = some (numS n)) (h1 : 0 ≤ lo) (h2 : lo ≤ n) (h3 : n ≤ hi) (h4 : hi ≤ 61) : S_number_at [.lst (ws.map .str), .int i, .int lo, .int hi] m = .ok (.int n) m := by
  refine ok_eq ((ok_phi rfl).mpr ?_)
  unfold m_number_at
  walk_at "ww"
  simp only [upcoming_at h0 h, ok_ok]
  refine ok_of (lc_map (xs := List.range (hi + 1 - lo).toNat) (en := fun k => .int (lo + (k : Nat))) (g := fun k => .str (numS (lo + (k : Nat)))) (rng2_eq (i := lo) (j := hi + 1) rfl (by simp [small62]; omega) (by simp [small62]; omega)) rfl (by simp [sizeLine_eq]; omega) fun x hx => ⟨_, rfl, ?_⟩) ?_
  · have := List.mem_range.mp hx
    walk_at "mm"
    simp only [dStr_num (show 0 ≤ lo + (x : Int) by omega) (by omega)]
  · have e : dNin [D.str (numS n), D.lst ((List.range (hi + 1 - lo).toNat).map fun k => D.str (numS (lo + (k : Nat))))] = some (.bl false) := by
      have e1 : (List.range (hi + 1 - lo).toNat).map (fun k => D.str (numS (lo + (k : Nat)))) = ((List.range (hi + 1 - lo).toNat).map fun k => lo + ((k : Nat) : Int)).map fun x => D.str (numS x) := by
        rw [List.map_map]; rfl
      rw [e1]
      have e2 := inD_num (n := n) (xs := (List.range (hi + 1 - lo).toNat).map fun k => lo + ((k : Nat) : Int)) (fun x hx => by
        obtain ⟨k, hk, rfl⟩ := List.mem_map.mp hx
        have := List.mem_range.mp hk
        omega) (by omega)
      have e3 : n ∈ (List.range (hi + 1 - lo).toNat).map fun k => lo + ((k : Nat) : Int) := List.mem_map.mpr ⟨(n - lo).toNat, List.mem_range.mpr (by omega), by omega⟩
      unfold dNin isIn
      simp only [flat_num, flatD, Bool.and_self, if_true, e2, e3, decide_true, Option.map_some, Bool.not_true]
    simp only [e, ok_ok]
    walk_at "ww"
    simp only [dInt_num (show 0 ≤ n by omega) (by omega), ok_ok, and_self]
end
/-- lengths as a book has them -/
structure LenOk (xs : List Int) : Prop where
  ne : xs ≠ []
  asc : xs.Pairwise (· < ·)
  bd : ∀ x ∈ xs, 1 ≤ x ∧ x ≤ 60
  six : xs.length ≤ 6
theorem low_cps : ("low" : Str).cps.toList = [108, 111, 119] := by decide +kernel
theorem num_ne_low {n : Int} (h0 : 0 ≤ n) (h1 : n ≤ 61) : ¬ numS n = ("low" : Str) := fun e => by
  have h := (num_ok h0 h1).dig 108 (by rw [e, low_cps]; simp)
  omega
theorem at_drop {α : Type} {ws pre post : List α} {x : α} {k : Nat} (h : ws.drop k = pre ++ x :: post) : ws[k + pre.length]? = some x := by
  rw [← List.getElem?_drop, h]
  simp
theorem lengths_at_ok {ws rest : List Str} {xs : List Int} {i room : Int} {m : List MO} (h0 : 0 ≤ i) (hx : LenOk xs) (hr : ∀ y ∈ xs.head?, ∀ x ∈ xs, y + x ≤ room) (hw : ws.drop i.toNat = xs.map numS ++ ("low" : Str) :: rest) :
    S_lengths_at [.lst (ws.map .str), .int i, .int room] m = .ok (.tup [.int (i + xs.length), .lst (xs.map .int)]) m := by
  refine ok_eq ((ok_phi rfl).mpr ?_)
  unfold m_lengths_at
  walk_at "ww"
  rw [if_pos (by decide)]
  walk_at "ww"
  refine fk_while Nat.lt_wfRel.wf (i := xs.length) (fun r e m1 => m1 = m ∧ ∃ pre post s4 s5, xs = pre ++ post ∧ r = post.length ∧ e = [.val (.lst (ws.map .str)), .val (.int (i + pre.length)), .val (.int room), .own (.lst (pre.map .int)), s4, s5]) ?_ ⟨rfl, [], xs, _, _, rfl, rfl, by simp; exact ⟨rfl, rfl⟩⟩
  rintro r e m1 ⟨rfl, pre, post, s4, s5, e1, rfl, rfl⟩
  walk_at "ww"
  cases post with
  | nil =>
    rw [List.append_nil] at e1
    subst e1
    have hl : (xs.map D.int).length = xs.length := List.length_map _
    have hn : 0 < xs.length := List.length_pos_iff.mpr hx.ne
    have hs := hx.six
    have up : S_upcoming [.lst (ws.map .str), .int (i + xs.length)] m1 = .ok (.str "low") m1 := upcoming_at (by omega) (by
      have := at_drop hw
      rw [List.length_map] at this
      have e2 : (i + (xs.length : Int)).toNat = i.toNat + xs.length := by omega
      rw [e2]; exact this)
    refine ok_of (a := false) (m := m1) ?_ ⟨nofun, fun _ => ?_⟩
    · rw [hl]
      walk_at "md"
      by_cases h6 : (xs.length : Int) < 6
      · walk_at "md"
        simp only [up]
        walk_at "mm"
        simp only [decide_true]
        walk_at "mm"
      · walk_at "md"
    · rw [if_pos (by decide)]
      exact ok_ok.mpr ⟨rfl, rfl⟩
  | cons x post =>
    have hxx := hx.bd x (by rw [e1]; simp)
    have hat : ws[(i + (pre.length : Int)).toNat]? = some (numS x) := by
      have e2 : (i + (pre.length : Int)).toNat = i.toNat + (pre.map numS).length := by rw [List.length_map]; omega
      rw [e2]
      refine at_drop (post := post.map numS ++ ("low" : Str) :: rest) ?_
      rw [hw, e1]; simp
    have up : S_upcoming [.lst (ws.map .str), .int (i + pre.length)] m1 = .ok (.str (numS x)) m1 := upcoming_at (by omega) hat
    have hlen : pre.length + (post.length + 1) ≤ 6 := by have := hx.six; rw [e1] at this; simpa using this
    have hl : (pre.map D.int).length = pre.length := List.length_map _
    refine ok_of (a := true) (m := m1) ?_ ⟨fun _ => ?_, nofun⟩
    · rw [hl]
      by_cases hz : (pre.length : Int) = 0
      · walk_at "md"
      · walk_at "md"
        simp only [up]
        walk_at "mm"
        simp only [decide_eq_false (num_ne_low (n := x) (by omega) (by omega))]
        walk_at "mm"
    rw [hl]
    have num : ∀ lo : Int, 1 ≤ lo → lo ≤ x → S_number_at [.lst (ws.map .str), .int (i + pre.length), .int lo, .int 60] m1 = .ok (.int x) m1 := fun lo h1 h2 => number_at_at (by omega) hat (by omega) h2 hxx.2 (by decide)
    have sz : sizeLine = 9007199254740991 ∨ 1000 ≤ sizeLine := .inr (by decide)
    rcases List.eq_nil_or_concat pre with hp | ⟨ys, y, hp⟩
    · subst hp
      have hrx := hr x (by rw [e1]; simp) x (by rw [e1]; simp)
      have n1 := num 1 (by omega) hxx.1
      simp only [List.length_nil, List.map_nil] at n1 ⊢
      walk_at "wd"
      simp only [n1, ok_ok]
      walk_at "wd"
      exact ⟨post.length, Nat.lt_succ_self _, [x], post, ⟨_, _, e1, rfl, by simp; exact ⟨rfl, rfl⟩⟩⟩
    · rw [List.concat_eq_append] at hp
      have hpl : 1 ≤ pre.length := by rw [hp]; simp
      have ey : atI (pre.map D.int) (-1) = some (.int y) := atI_last (by rw [hp]; simp)
      obtain ⟨z, zs, hz⟩ : ∃ z zs, pre = z :: zs := by
        cases pre with
        | nil => simp at hpl
        | cons z zs => exact ⟨z, zs, rfl⟩
      have ez : atI (pre.map D.int) 0 = some (.int z) := by rw [hz]; exact atI_zero _ _
      have hrx := hr z (by rw [e1, hz]; simp) x (by rw [e1]; simp)
      have hyx : y < x := by
        have ha := hx.asc
        rw [e1, hp] at ha
        exact (List.pairwise_append.mp ha).2.2 y (by simp) x (by simp)
      have hy1 := hx.bd y (by rw [e1, hp]; simp)
      have n1 := num (y + 1) (by omega) (by omega)
      walk_at "wd"
      have e0 : (-1 : Int) = -1 := rfl
      simp only [ey, ez, ok_ok]
      walk_at "wd"
      simp only [n1, ok_ok]
      walk_at "wd"
      exact ⟨post.length, Nat.lt_succ_self _, pre ++ [x], post, ⟨_, _, by rw [e1]; simp, rfl, by simp [Int.add_assoc]; exact ⟨rfl, rfl⟩⟩⟩
/-! ### sets of lengths -/
theorem intsOf_map : ∀ xs : List Int, intsOf (xs.map .int) = some xs
  | [] => rfl
  | x :: xs => by simp [intsOf, intsOf_map xs]
theorem blsOf_map : ∀ xs : List Bool, blsOf (xs.map .bl) = some xs
  | [] => rfl
  | x :: xs => by simp [blsOf, blsOf_map xs]
theorem inD_int {n : Int} : ∀ {xs : List Int}, inD (.int n) (xs.map .int) = some (decide (n ∈ xs))
  | [] => rfl
  | x :: xs => by
    simp only [List.map_cons, inD, scalEq, inD_int (n := n) (xs := xs), Option.map_some, Option.some.injEq]
    by_cases e : n = x
    · subst e; simp
    · have : ¬ x = n := fun q => e q.symm
      simp [this, e]
theorem flat_int (xs : List Int) : (xs.map D.int).all flatD = true := by simp [flatD]
theorem dIn_tup (n : Int) (xs : List Int) : dIn [.int n, .tup (xs.map .int)] = some (.bl (decide (n ∈ xs))) := by
  simp only [dIn, isIn, flat_int, flatD, Bool.and_self, if_true, inD_int, Option.map_some]
theorem dNin_tup (n : Int) (xs : List Int) : dNin [.int n, .tup (xs.map .int)] = some (.bl (!decide (n ∈ xs))) := by
  simp only [dNin, isIn, flat_int, flatD, Bool.and_self, if_true, inD_int, Option.map_some]
theorem dIn_lst (n : Int) (xs : List Int) : dIn [.int n, .lst (xs.map .int)] = some (.bl (decide (n ∈ xs))) := by
  simp only [dIn, isIn, flat_int, flatD, Bool.and_self, if_true, inD_int, Option.map_some]
theorem dNin_lst (n : Int) (xs : List Int) : dNin [.int n, .lst (xs.map .int)] = some (.bl (!decide (n ∈ xs))) := by
  simp only [dNin, isIn, flat_int, flatD, Bool.and_self, if_true, inD_int, Option.map_some]
theorem dSorted_map (xs : List Int) : dSorted [.lst (xs.map .int)] = some (.lst ((sortI xs).map .int)) := by simp [dSorted, intsOf_map]
theorem dSum_map (xs : List Int) : dSum [.lst (xs.map .int)] = some (.int xs.sum) := by simp [dSum, intsOf_map]
theorem dAll_map (xs : List Bool) : dAll [.lst (xs.map .bl)] = some (.bl (xs.all id)) := by simp [dAll, blsOf_map]
theorem dTuple_l (xs : List D) : dTuple [.lst xs] = some (.tup xs) := rfl
theorem dTuple_t (xs : List D) : dTuple [.tup xs] = some (.tup xs) := rfl
section
variable {m : List MO}
theorem dc_keys {τ : Tgt} {env : List Slot} (hτ : ∀ x : Int, ∃ e1, τ.set (.int x) env = some e1 ∧ ∀ fk : ME, fk = mVar 2 → fk e1 m = .ok (.int x) m) : ∀ (xs acc : List Int), acc.length + xs.length ≤ sizeLine →
    mDcGo τ mYes (mVar 2) (mC (.bl true)) env (xs.map .int) (acc.map .inl) (acc.map fun _ => .bl true) m = .ok ((ddGo acc xs).map .inl, (ddGo acc xs).map fun _ => .bl true) m
  | [], acc, _ => rfl
  | x :: xs, acc, hl => by
    obtain ⟨e1, h1, h2⟩ := hτ x
    have h3 := h2 _ rfl
    rw [List.length_cons] at hl
    unfold mDcGo ddGo
    simp only [List.map_cons, h1, mYes, Res.bnd, if_true, h3, mC, kD]
    rw [if_pos (by rw [List.length_map]; omega)]
    have ep : putD (acc.map Sum.inl) (acc.map fun _ => D.bl true) (.inl x) (.bl true) = ((if x ∈ acc then acc else acc ++ [x]).map .inl, (if x ∈ acc then acc else acc ++ [x]).map fun _ => .bl true) := by
      unfold putD
      have ea : ((acc.map Sum.inl : List Key).any fun a => decide (a = .inl x)) = decide (x ∈ acc) := by
        rw [Bool.eq_iff_iff]
        simp only [List.any_map, List.any_eq_true, Function.comp, decide_eq_true_eq]
        constructor
        · rintro ⟨y, hy, e⟩
          exact (Sum.inl.inj e) ▸ hy
        · exact fun h => ⟨x, h, rfl⟩
      rw [ea]
      by_cases hx : x ∈ acc
      · rw [decide_eq_true hx, if_pos rfl, if_pos hx]
        congr 1
        unfold repD
        clear ea hl hx
        induction acc with
        | nil => rfl
        | cons a r ih => simp only [List.map_cons, List.zip_cons_cons, ih]; simp
      · rw [decide_eq_false hx, if_neg Bool.false_ne_true, if_neg hx]
        simp
    rw [ep]
    refine dc_keys hτ xs _ ?_
    split
    · omega
    · simp; omega
theorem ascending_eq {xs : List Int} (hl : xs.length ≤ sizeLine) : S_ascending [.tup (xs.map .int)] m = .ok (.tup ((ascOf xs).map .int)) m := by
  refine ok_eq ((ok_phi rfl).mpr ?_)
  unfold m_ascending
  walk_at "ww"
  have hdd : (ddGo [] xs).length ≤ sizeLine := by
    have := length_ddGo (xs := xs) (acc := [])
    simp at this
    omega
  refine ok_of (lc_map (xs := ddGo [] xs) (en := .int) (g := .int) ?_ rfl hdd fun x _ => ⟨_, rfl, by walk_at "mm"⟩) ?_
  · have e : mDc (.nm 2) (mItT (mVar 0)) mYes (mVar 2) (mC (.bl true)) [2] [Slot.val (.tup (xs.map .int)), .none, .none] m = .ok (.dic ((ddGo [] xs).map .inl) ((ddGo [] xs).map fun _ => .bl true)) m := by
      unfold mDc
      walk_at "mm"
      rw [if_pos (by rfl)]
      have := dc_keys (m := m) (τ := .nm 2) (env := [Slot.val (.tup (xs.map .int)), .none, .none]) (fun x => ⟨_, rfl, fun fk hf => by rw [hf]; rfl⟩) xs [] (by simpa using hl)
      simp only [List.map_nil] at this
      rw [this]
      rfl
    unfold mItD
    rw [e]
    simp only [Res.bind, List.length_map, if_true, List.map_map]
    rfl
  · simp only [dSorted_map, ok_ok, dTuple_l]
    walk_at "zz"
theorem headD_mem {xs : List Int} (h : xs ≠ []) : xs.headD 0 ∈ xs := by
  cases xs with
  | nil => exact absurd rfl h
  | cons x xs => simp
theorem first_totals_eq {xs : List Int} (hx : LenOk xs) : S_first_totals [.tup (xs.map .int)] m = .ok (.lst ((firsts xs).map optD)) m ∧ Firsts xs (xs.headD 0) (firsts xs) := by
  match xs, hx with
  | [], hx => exact absurd rfl hx.ne
  | L :: r, hx =>
    obtain ⟨d, m', e, rfl, fs, hf, rfl⟩ := first_totals_ok (m := m) (L := L) (xs := r) (fun x h => (hx.bd x h).1) (hx.bd L List.mem_cons_self).2
    have h1 := (hx.bd L List.mem_cons_self).1
    have e2 : firsts (L :: r) = fs := firsts_eq h1 hf
    rw [e2]
    exact ⟨e, hf⟩
/-- a set of lengths -/
noncomputable def lenD (xs : List Int) : D := .ins "Lengths" [.tup (xs.map .int), .int (xs.headD 0), .int (xs.getLastD 0), .lst ((firsts xs).map optD)]
theorem ok_phiI {n k : Nat} {C : String} {g : MS} {ds : List D} {P : List D → List MO → Prop} (h : ds.length + 1 = n) : Ok (nxI (phiI n k C g) ds m) P ↔ Fk (g (envI k C ds) m) (fun e m => ∃ xs, e[0]? = some (.own (.ins C xs)) ∧ P xs m) (fun _ _ => False) := by
  unfold nxI
  rw [ok_nx]
  unfold phiI
  rw [if_pos h]
  cases g (envI k C ds) m with
  | next e m =>
    simp only [finI, fk_next]
    cases he : e[0]? with
    | none => simp [ok_bad]
    | some s =>
      cases s with
      | own o =>
        cases o with
        | ins C' xs =>
          by_cases c : C' = C
          · subst c; simp [ok_ok]
          · simp only [c, if_false, ok_bad, false_iff]
            rintro ⟨xs', e', _⟩
            cases e'
            exact c rfl
        | _ => simp [ok_bad]
      | _ => simp [ok_bad]
  | exc X xs e m =>
    simp only [finI, Fk, iff_false]
    split
    · simp [ok_exc]
    · simp [ok_bad]
  | _ => simp [finI, ok_bad, Fk]
theorem ok_starI {n k l : Nat} {C : String} {g : MS} {ds : List D} {P : List D → List MO → Prop} (h : n ≤ ds.length ∧ (ds.drop n).length ≤ sizeLine) (h2 : n + 2 = l) :
    Ok (nxI (starI n (phiI l k C g)) ds m) P ↔ Fk (g (envI k C (ds.take n ++ [.tup (ds.drop n)])) m) (fun e m => ∃ xs, e[0]? = some (.own (.ins C xs)) ∧ P xs m) (fun _ _ => False) := by
  unfold nxI starI
  rw [if_pos h]
  refine ok_phiI ?_
  rw [List.length_append, List.length_take]
  simp
  omega
theorem fI_ok {ι : IFun} {C : String} {ds xs : List D} (h : ι ds m = .ok xs m) : fI ι (mkD C) ds m = .ok (.ins C xs) m := by
  unfold fI
  rw [h]
  rfl
theorem pairsI_nth (xs : List D) : pairsI xs = (List.range xs.length).map fun k => .tup [.int (k : Nat), xs.getD k .non] := by
  unfold pairsI
  refine List.ext_getElem? fun i => ?_
  simp only [List.getElem?_map, List.getElem?_zip_eq_some, List.zip_eq_zipWith, List.getElem?_zipWith, List.getElem?_range]
  by_cases h : i < xs.length
  · rw [List.getElem?_range h, List.getElem?_eq_getElem h]
    simp [List.getElem?_eq_getElem h]
  · rw [List.getElem?_eq_none (by simpa using h : (List.range xs.length).length ≤ i)]
    rfl
/-- for i, x in enumerate(xs), a turn that changes nothing -/
theorem fk_enum {α : Type} {i j : Nat} {f : ME} {body : MS} {env : List Slot} {N : List Slot → List MO → Prop} {S : D → List MO → Prop} {xs : List α} {en : α → D} (P : List Slot → Prop) (hp : P env)
    (h0 : f env m = .ok (.tup (xs.map en)) m) 
    (hs : ∀ (k : Nat) (x : α) (e : List Slot), x ∈ xs → P e → Fk (body (setAll .val [i, j] [.int k, en x] e) m) (fun e' m' => m' = m ∧ P e') S)
    (hd : ∀ e, P e → N e m) : Fk (mFor (.tp [i, j]) (mEnum f) body env m) N S := by
  refine fk_for (fun ds e m1 => m1 = m ∧ P e ∧ ∀ d ∈ ds, ∃ k x, x ∈ xs ∧ d = .tup [.int (k : Nat), en x]) ?_ ?_ ?_
  · unfold mEnum
    rw [h0]
    simp only [Res.bind, items]
    refine ok_ok.mpr ⟨rfl, hp, fun d hd => ?_⟩
    unfold pairsI at hd
    obtain ⟨⟨k, x⟩, hq, rfl⟩ := List.mem_map.mp hd
    obtain ⟨y, hy, rfl⟩ := List.mem_map.mp (List.of_mem_zip hq).2
    exact ⟨k, y, hy, rfl⟩
  · rintro d ds e m1 ⟨rfl, he, h⟩
    obtain ⟨k, x, hx, rfl⟩ := h d List.mem_cons_self
    refine ⟨_, rfl, (hs k x e hx he).imp (fun e' m' h' => ⟨h'.1, h'.2, fun d hd => h d (List.mem_cons_of_mem _ hd)⟩) fun _ _ h => h⟩
  · rintro e m1 ⟨rfl, he, _⟩
    exact hd e he
theorem Lengths_init {xs : List Int} (h0 : xs ≠ []) (hb : ∀ x ∈ xs, 1 ≤ x ∧ x ≤ 60) (h6 : (ascOf xs).length ≤ 6) (hl : xs.length ≤ 4000) : fI I_Lengths (mkD "Lengths") (xs.map .int) m = .ok (lenD (ascOf xs)) m := by
  have hne : ascOf xs ≠ [] := fun e => by
    cases xs with
    | nil => exact h0 rfl
    | cons x r =>
      have := (mem_ascOf (m := x) (xs := x :: r)).mpr List.mem_cons_self
      rw [e] at this
      cases this
  have ha : LenOk (ascOf xs) := ⟨hne, asc_ascOf xs, fun x hx => hb x (mem_ascOf.mp hx), h6⟩
  refine fI_ok (ok_eq ((ok_starI (n := 0) ⟨Nat.zero_le _, by simp [sizeLine_eq]; omega⟩ rfl).mpr ?_))
  unfold m_Lengths___init__
  simp only [List.take_zero, List.drop_zero, List.nil_append, envI, List.map_cons, List.map_nil, List.length_cons, List.length_nil, Nat.reduceAdd, Nat.reduceSub, List.replicate, List.cons_append]
  walk_at "ww"
  refine fk_enum (xs := xs) (en := .int) (fun e => ∃ s2 s3, e = [.own (.ins "Lengths" []), .val (.tup (xs.map .int)), s2, s3]) ⟨_, _, rfl⟩ rfl ?_ ?_
  · rintro k x e hx ⟨s2, s3, rfl⟩
    obtain ⟨h1, h2⟩ := hb x hx
    simp only [setAll]
    walk_at "ww"
    simp only [is_within_int, ok_ok]
    walk_at "wd"
    try simp only [Bool.and_self, Bool.not_true, Bool.false_eq_true, false_implies, true_implies, true_and]
    exact ⟨_, _, rfl⟩
  · rintro e ⟨s2, s3, rfl⟩
    have hn : 0 < xs.length := List.length_pos_iff.mpr h0
    walk_at "ww"
    try simp only [List.length_map]
    walk_at "wd"
    simp only [ascending_eq (m := m) (xs := xs) (by rw [sizeLine_eq]; omega), ok_ok]
    walk_at "wd"
    simp only [List.length_map]
    have e1 : dIx [D.tup ((ascOf xs).map D.int), D.int 0] = some (.int ((ascOf xs).headD 0)) := by
      cases e : ascOf xs with
      | nil => exact absurd e hne
      | cons x r => exact atI_zero _ _
    have e2 : dIx [D.tup ((ascOf xs).map D.int), D.int (-1)] = some (.int ((ascOf xs).getLastD 0)) := by
      refine atI_last ?_
      rw [List.getLast?_map]
      cases e : ascOf xs with
      | nil => exact absurd e hne
      | cons x r => simp [List.getLast?_cons]
    walk_at "wd"
    simp only [e1, e2, ok_ok, (first_totals_eq ha).1, false_implies, true_and, forall_const]
    exact ⟨_, rfl, rfl, trivial⟩
theorem contains_eq {xs : List Int} (hx : LenOk xs) (x : Int) : S_Lengths___contains__ [lenD xs, .int x] m = .ok (.bl (decide (x ∈ xs))) m := by
  refine ok_eq ((ok_phi rfl).mpr ?_)
  unfold m_Lengths___contains__ lenD
  walk_at "ww"
  simp only [is_within_int, ok_ok]
  by_cases h : x ∈ xs
  · obtain ⟨h1, h2⟩ := hx.bd x h
    walk_at "wd"
    simp only [Bool.and_self, if_true, dIn_tup, ok_bind, ok_ok, h, decide_true]
    walk_at "wd"
    try simp only [dIn_tup, h, decide_true, ok_ok]
    walk_at "zz"
  · rw [decide_eq_false h]
    by_cases c : (decide (1 ≤ x) && decide (x ≤ 60)) = true
    · simp only [c, if_true]
      walk_at "ww"
      simp only [dIn_tup, h, decide_false, ok_ok]
      walk_at "zz"
    · simp only [Bool.not_eq_true _ |>.mp c, Bool.false_eq_true, if_false, ok_ok]
      walk_at "zz"
theorem has_total_eq {xs : List Int} (hx : LenOk xs) {t : Int} (ht : t ≤ 10 ^ 30) : S_Lengths_has_total [lenD xs, .int t] m = .ok (.bl (repB xs t)) m := by
  have hF := (first_totals_eq (m := m) hx).2
  have h1 := (hx.bd _ (headD_mem hx.ne)).1
  refine ok_eq ((ok_phi rfl).mpr ?_)
  unfold m_Lengths_has_total lenD
  walk_at "ww"
  simp only [is_within_int, ok_ok]
  by_cases c : 1 ≤ t
  · have nn := Int.emod_nonneg t (show xs.headD 0 ≠ 0 by omega)
    have nl := Int.emod_lt_of_pos t (show 0 < xs.headD 0 by omega)
    have dm : dMod [D.int t, D.int (xs.headD 0)] = some (.int (t % xs.headD 0)) := if_pos (by omega)
    have ht' : t ≤ 1000000000000000000000000000000 := by omega
    walk_at "wd"
    simp only [Bool.and_self, Bool.not_true, Bool.false_eq_true, false_implies, true_and, forall_const, dm, ok_ok]
    have lf := hF.good.1
    have hr : (t % xs.headD 0).toNat < (firsts xs).length := by omega
    have ea : dIx [D.lst ((firsts xs).map optD), D.int (t % xs.headD 0)] = some (optD ((firsts xs)[(t % xs.headD 0).toNat])) := by
      show atI _ _ = _
      rw [atI_map nn, List.getElem?_eq_getElem hr]; rfl
    simp only [ea, ok_ok]
    walk_at "ww"
    have er : (firsts xs)[(t % xs.headD 0).toNat]? = some ((firsts xs)[(t % xs.headD 0).toNat]) := List.getElem?_eq_getElem hr
    cases eo : (firsts xs)[(t % xs.headD 0).toNat] with
    | none =>
      have no : ¬ Rep xs t := fun r => by
        obtain ⟨w, h2, _⟩ := hF.le h1 (.inr r)
        rw [er, eo] at h2
        cases h2
      simp only [optD, repB_no no]
      walk_at "ww"
    | some w =>
      rw [eo] at er
      simp only [optD]
      walk_at "ww"
      by_cases r : Rep xs t
      · obtain ⟨u, h2, h3⟩ := hF.le h1 (.inr r)
        rw [er] at h2
        cases h2
        rw [repB_iff.mpr r]
        walk_at "wd"
      · have : ¬ w ≤ t := fun hw => r (hF.rep h1 (headD_mem hx.ne) c er hw)
        rw [repB_no r]
        walk_at "wd"
  · have no : ¬ Rep xs t := fun r => c (r.pos fun x h => (hx.bd x h).1)
    rw [repB_no no]
    walk_at "wd"
    try simp only [Bool.false_and, Bool.not_false, forall_const, true_and, Bool.true_eq_false, false_implies, and_true]
    walk_at "zz"
theorem totals_eq {xs : List Int} (hx : LenOk xs) {room : Int} (h0 : 0 ≤ room) (h1 : room ≤ 60) : S_Lengths_totals [lenD xs, .int room] m = .ok (.tup ((sumsOf room xs).map .int)) m := by
  refine ok_eq ((ok_phi rfl).mpr ?_)
  unfold m_Lengths_totals
  walk_at "ww"
  simp only [need_count_int m room 60 ⟨h0, h1⟩, ok_ok]
  refine ok_of (lc_eq (xs := List.range room.toNat) (en := fun k => .int (1 + (k : Nat))) (p := fun k => repB xs (1 + (k : Nat))) (g := fun k => .int (1 + (k : Nat))) ?_ rfl (by rw [List.length_range, sizeLine_eq]; omega) fun k hk => ⟨_, rfl, ?_, fun _ => rfl⟩) ?_
  · have e : (room + 1 - 1).toNat = room.toNat := by omega
    rw [rng2_eq (i := 1) (j := room + 1) (m' := m) rfl (by decide) (by simp [small62]; omega), e]
  · have := List.mem_range.mp hk
    unfold lenD
    walk_at "mm"
    have ht := has_total_eq (m := m) hx (t := 1 + (k : Int)) (by omega)
    unfold lenD at ht
    simp only [ht]
  · simp only [dTuple_l, ok_ok]
    refine ⟨?_, trivial⟩
    unfold sumsOf
    rw [List.filter_map, List.map_map]
    rfl
end
/-! ### books -/
def LOOKS : List Str := ["own", "near"]
def CUTS : List Str := ["even", "ahead", "put"]
def SIDES : List Str := ["left", "right"]
structure Bk where
  room : Int
  xs : List Int
  low : Int
  bound : Int
  looks : Str
  cut : Str
  side : Str
noncomputable def Bk.sums (b : Bk) : List Int := sumsOf b.room b.xs
noncomputable def Bk.d (b : Bk) : D := .ins "Book" [.int b.room, lenD b.xs, .int b.low, .int b.bound, .str b.looks, .str b.cut, .str b.side, .tup (b.sums.map .int)]
structure BkOk (b : Bk) : Prop where
  r1 : 2 ≤ b.room
  r2 : b.room ≤ 60
  len : LenOk b.xs
  fit : b.xs.headD 0 + b.xs.getLastD 0 ≤ b.room
  l1 : 0 ≤ b.low
  l2 : b.low ≤ b.room + 1
  b1 : 0 ≤ b.bound
  b2 : b.bound ≤ b.room
  lk : b.looks ∈ LOOKS
  ct : b.cut ∈ CUTS
  sd : b.side ∈ SIDES
theorem inD_str {n : Str} : ∀ {xs : List Str}, inD (.str n) (xs.map .str) = some (decide (n ∈ xs))
  | [] => rfl
  | x :: xs => by
    simp only [List.map_cons, inD, scalEq, inD_str (n := n) (xs := xs), Option.map_some, Option.some.injEq]
    by_cases e : n = x
    · subst e; simp
    · have : ¬ x = n := fun q => e q.symm
      simp [this, e]
theorem flat_str (xs : List Str) : (xs.map D.str).all flatD = true := by simp [flatD]
theorem dNin_strT (n : Str) (xs : List Str) : dNin [.str n, .tup (xs.map .str)] = some (.bl (!decide (n ∈ xs))) := by
  simp only [dNin, isIn, flat_str, flatD, Bool.and_self, if_true, inD_str, Option.map_some]
section
variable {m : List MO}
theorem need_word_in {w p : Str} {xs : List Str} (h : w ∈ xs) : S_need_word [.str w, .tup (xs.map .str), .str p] m = .ok .non m := by
  refine ok_eq ((ok_phi rfl).mpr ?_)
  unfold m_need_word
  walk_at "ww"
  simp only [k_str_str, ok_ok]
  walk_at "ww"
  simp only [Bool.not_true, Bool.false_eq_true, if_false, ok_bind, ok_ok, dNin_strT, h, decide_true]
  walk_at "ww"
  try simp only [dNin_strT, h, decide_true, Bool.not_true, ok_ok]
  try walk_at "ww"
theorem Book_init {b : Bk} (h : BkOk b) : fI I_Book (mkD "Book") [.int b.room, lenD b.xs, .int b.low, .int b.bound, .str b.looks, .str b.cut, .str b.side] m = .ok b.d m := by
  have kl : dIs1 kt [lenD b.xs, .glo "Lengths"] = some (.bl true) := rfl
  have w1 := need_word_in (m := m) (p := "looks") h.lk
  have w2 := need_word_in (m := m) (p := "cut") h.ct
  have w3 := need_word_in (m := m) (p := "side") h.sd
  have ht := totals_eq (m := m) h.len (room := b.room) (by have := h.r1; omega) h.r2
  obtain ⟨r1, r2, len, fit, l1, l2, b1, b2, -, -, -⟩ := h
  refine fI_ok (ok_eq ((ok_phiI rfl).mpr ?_))
  unfold m_Book___init__
  simp only [envI, List.map_cons, List.map_nil, List.length_cons, List.length_nil, Nat.reduceAdd, Nat.reduceSub, List.replicate, List.cons_append, List.append_nil, List.nil_append]
  simp only [LOOKS, CUTS, SIDES, List.map_cons, List.map_nil] at w1 w2 w3
  unfold lenD at ht kl ⊢
  walk_at "ww"
  simp only [is_within_int, ok_ok]
  walk_at "wd"
  simp only [kl, ok_ok]
  walk_at "wd"
  simp only [w1, w2, w3, ht, ok_ok, ok_bind]
  walk_at "wd"
  exact ⟨_, rfl, rfl⟩
theorem Book_sums {b : Bk} : S_Book_sums [b.d] m = .ok (.tup (b.sums.map .int)) m := rfl
/-- what a book lets stand beside one another -/
def letB (b : Bk) (x y : Int) : Bool := decide (b.bound < x + y) || (if b.looks = ("own" : Str) then decide (b.low ≤ x) || decide (b.low ≤ y) else decide (b.low ≤ x) && decide (b.low ≤ y))
theorem dMax2 (i j : Int) : dMax [.int i, .int j] = some (.int (if j > i then j else i)) := rfl
theorem dMin2 (i j : Int) : dMin [.int i, .int j] = some (.int (if j < i then j else i)) := rfl
theorem Book_call {b : Bk} {x y : Int} (hx : x ∈ b.sums) (hy : y ∈ b.sums) : S_Book___call__ [b.d, .int x, .int y] m = .ok (.bl (letB b x y)) m := by
  refine ok_eq ((ok_phi rfl).mpr ?_)
  unfold m_Book___call__ Bk.d
  walk_at "ww"
  simp only [is_integer_int, ok_ok]
  walk_at "ww"
  simp only [is_integer_int, ok_bind, ok_ok]
  walk_at "ww"
  simp only [dNin_tup, hx, hy, decide_true, ok_bind, ok_ok]
  walk_at "ww"
  simp only [dNin_tup, hx, hy, decide_true, ok_bind, ok_ok]
  walk_at "ww"
  by_cases c : b.bound < x + y
  · have el : letB b x y = true := by simp [letB, c]
    rw [el]
    walk_at "wd"
  · walk_at "wd"
    by_cases l : b.looks = ("own" : Str)
    · have el : letB b x y = (decide (b.low ≤ x) || decide (b.low ≤ y)) := by simp [letB, c, l]
      have key : decide (b.low ≤ if y > x then y else x) = (decide (b.low ≤ x) || decide (b.low ≤ y)) := by
        rw [Bool.eq_iff_iff]
        simp only [decide_eq_true_eq, Bool.or_eq_true]
        split <;> omega
      rw [el]
      simp only [l, decide_true, dMax2, ok_ok]
      walk_at "ww"
      simp only [key]
      try walk_at "zz"
    · have el : letB b x y = (decide (b.low ≤ x) && decide (b.low ≤ y)) := by simp [letB, c, l]
      have key : decide (b.low ≤ if y < x then y else x) = (decide (b.low ≤ x) && decide (b.low ≤ y)) := by
        rw [Bool.eq_iff_iff]
        simp only [decide_eq_true_eq, Bool.and_eq_true]
        split <;> omega
      rw [el]
      simp only [l, decide_false, dMin2, ok_ok]
      walk_at "ww"
      simp only [key]
      try walk_at "zz"
end
def NAMES7 : List Str := ["room", "lengths", "low", "bound", "looks", "cut", "side"]
noncomputable def Bk.v (b : Bk) : List D := [.int b.room, lenD b.xs, .int b.low, .int b.bound, .str b.looks, .str b.cut, .str b.side]
section
variable {m : List MO}
theorem ok_kwd {ks : List Str} {k : Nat} {g : MS} {d : D} {ds : List D} {S : D → List MO → Prop} (h : ds.length = ks.length) (h2 : ks.length ≤ sizeLine) :
    Ok (nx (kwdF ks (phi 2 k g)) (d :: ds) m) S ↔ Fk (g (env0 k [d, .dic (ks.map .inr) ds]) m) (fun _ m => S .non m) S := by
  unfold nx kwdF
  simp only [h, h2, and_self, if_true]
  exact ok_phi rfl
theorem but_ok {ks : List Str} {ds : List D} {b b' : Bk} (hks : ∀ k ∈ ks, k ∈ NAMES7) (hl : ds.length = ks.length) (hz : ks.length ≤ 7) (hp : putDs (NAMES7.map .inr) b.v (ks.map .inr) ds = (NAMES7.map .inr, b'.v)) (hb : BkOk b') :
    nx (kwdF ks (phi 2 4 m_Book_but)) (b.d :: ds) m = .ok b'.d m := by
  refine ok_eq ((ok_kwd hl (by rw [sizeLine_eq]; omega)).mpr ?_)
  unfold m_Book_but
  walk_at "ww"
  refine fk_for (fun xs e m1 => m1 = m ∧ (∃ s2, e = [.val b.d, .val (.dic (ks.map .inr) ds), s2, .none]) ∧ ∃ ks' : List Str, xs = ks'.map .str ∧ ∀ k ∈ ks', k ∈ NAMES7) ?_ ?_ ?_
  · unfold mItD
    walk_at "ww"
    rw [if_pos (by simp [hl])]
    refine ok_ok.mpr ⟨rfl, ⟨_, rfl⟩, ks, by rw [List.map_map]; rfl, hks⟩
  · rintro d xs e m1 ⟨rfl, ⟨s2, rfl⟩, ks', hd, hk⟩
    cases ks' with
    | nil => cases hd
    | cons k r =>
      cases hd
      refine ⟨_, rfl, ?_⟩
      have := dNin_strT k NAMES7
      rw [decide_eq_true (hk k List.mem_cons_self)] at this
      replace this : dNin [.str k, .tup [.str "room", .str "lengths", .str "low", .str "bound", .str "looks", .str "cut", .str "side"]] = some (.bl false) := this
      walk_at "ww"
      simp only [this, ok_ok]
      walk_at "ww"
      exact ⟨⟨_, rfl⟩, r, rfl, fun x hx => hk x (List.mem_cons_of_mem _ hx)⟩
  · rintro e m1 ⟨rfl, ⟨s2, rfl⟩, _⟩
    have e1 : mDictS [.inr "room", .inr "lengths", .inr "low", .inr "bound", .inr "looks", .inr "cut", .inr "side"] (mCons (mFld "Book" 0 (mVar 0)) (mCons (mFld "Book" 1 (mVar 0)) (mCons (mFld "Book" 2 (mVar 0)) (mCons (mFld "Book" 3 (mVar 0)) (mCons (mFld "Book" 4 (mVar 0)) (mCons (mFld "Book" 5 (mVar 0)) (mCons (mFld "Book" 6 (mVar 0)) mNil))))))) (mVar 1)
        [.val b.d, .val (.dic (ks.map .inr) ds), s2, .none] m1 = .ok (.dic (NAMES7.map .inr) b'.v) m1 := by
      unfold mDictS Bk.d
      walk_at "mm"
      rw [if_pos (by decide +kernel)]
      unfold dMrg
      simp only [List.length_cons, List.length_nil, List.length_map]
      rw [if_pos (by rw [sizeLine_eq]; omega)]
      have hp' := hp
      simp only [NAMES7, Bk.v, List.map_cons, List.map_nil] at hp'
      rw [hp']
      rfl
    walk_at "ww"
    rw [e1, ok_ok]
    have d0 : dIxD [D.dic (NAMES7.map .inr) b'.v, .str "room"] = some (.int b'.room) := by rfl
    have d1 : dIxD [D.dic (NAMES7.map .inr) b'.v, .str "lengths"] = some (lenD b'.xs) := by rfl
    have d2 : dIxD [D.dic (NAMES7.map .inr) b'.v, .str "low"] = some (.int b'.low) := by rfl
    have d3 : dIxD [D.dic (NAMES7.map .inr) b'.v, .str "bound"] = some (.int b'.bound) := by rfl
    have d4 : dIxD [D.dic (NAMES7.map .inr) b'.v, .str "looks"] = some (.str b'.looks) := by rfl
    have d5 : dIxD [D.dic (NAMES7.map .inr) b'.v, .str "cut"] = some (.str b'.cut) := by rfl
    have d6 : dIxD [D.dic (NAMES7.map .inr) b'.v, .str "side"] = some (.str b'.side) := by rfl
    simp only [d0, d1, d2, d3, d4, d5, d6, ok_ok, Book_init hb]
    walk_at "zz"
theorem but_low_bound {b : Bk} {l d : Int} (hb : BkOk { b with low := l, bound := d }) : S_Book_but_low_bound [b.d, .int l, .int d] m = .ok ({ b with low := l, bound := d } : Bk).d m :=
  but_ok (ks := ["low", "bound"]) (by decide +kernel) rfl (by decide) (by rfl) hb
theorem but_looks {b : Bk} {l : Str} (hb : BkOk { b with looks := l }) : S_Book_but_looks [b.d, .str l] m = .ok ({ b with looks := l } : Bk).d m :=
  but_ok (ks := ["looks"]) (by decide +kernel) rfl (by decide) (by rfl) hb
end
/-! ### books read -/
def bookWords (b : Bk) : List Str := [("room" : Str), numS b.room, "lengths"] ++ b.xs.map numS ++ [("low" : Str), numS b.low, "bound", numS b.bound, b.looks, b.cut, b.side]
abbrev SP : Str := ⟨#[32]⟩
theorem sp_eq : (" " : Str) = SP := by decide +kernel
def wordOk (w : Str) : Bool := !w.cps.toList.contains 32 && decide (w.length ≤ 7)
theorem word_num {n : Int} (h0 : 0 ≤ n) (h1 : n ≤ 61) : wordOk (numS n) = true := by
  have h := num_ok h0 h1
  unfold wordOk
  simp only [Bool.and_eq_true, Bool.not_eq_true', decide_eq_true_eq]
  refine ⟨?_, by have := h.le; omega⟩
  cases e : (numS n).cps.toList.contains 32 with
  | false => rfl
  | true =>
    have := h.dig 32 (by simpa using e)
    omega
theorem words_ok {b : Bk} (h : BkOk b) : ∀ w ∈ bookWords b, wordOk w = true := by
  intro w hw
  have r1 := h.r1
  have r2 := h.r2
  have l1 := h.l1
  have l2 := h.l2
  have b1 := h.b1
  have b2 := h.b2
  have lk : wordOk b.looks = true := by
    have := h.lk; simp only [LOOKS, List.mem_cons, List.not_mem_nil, or_false] at this
    rcases this with e | e <;> rw [e] <;> decide +kernel
  have ct : wordOk b.cut = true := by
    have := h.ct; simp only [CUTS, List.mem_cons, List.not_mem_nil, or_false] at this
    rcases this with e | e | e <;> rw [e] <;> decide +kernel
  have sd : wordOk b.side = true := by
    have := h.sd; simp only [SIDES, List.mem_cons, List.not_mem_nil, or_false] at this
    rcases this with e | e <;> rw [e] <;> decide +kernel
  unfold bookWords at hw
  simp only [List.mem_append, List.mem_cons, List.mem_map, List.not_mem_nil, or_false] at hw
  rcases hw with ((e | e | e) | ⟨x, hx, e⟩) | e | e | e | e | e | e | e
  · rw [e]; decide +kernel
  · rw [e]; exact word_num (by omega) (by omega)
  · rw [e]; decide +kernel
  · have := h.len.bd x hx
    rw [← e]; exact word_num (by omega) (by omega)
  · rw [e]; decide +kernel
  · rw [e]; exact word_num (by omega) (by omega)
  · rw [e]; decide +kernel
  · rw [e]; exact word_num (by omega) (by omega)
  · rw [e]; exact lk
  · rw [e]; exact ct
  · rw [e]; exact sd
theorem join_le {n k : Nat} : ∀ {ws : List Str}, (∀ w ∈ ws, w.length ≤ k) → ws.length ≤ n → (Txt.join SP ws).length ≤ n * (k + 1) := fun {ws} h hl => by
  rw [join_eq]
  have h1 := StrLaws.join_length_le SP ws
  have h2 := StrLaws.sumLen_le ws h
  have h3 : SP.length = 1 := rfl
  have h4 : ws.length * k ≤ n * k := Nat.mul_le_mul_right k hl
  rw [h3] at h1
  rw [Nat.mul_add]
  omega
theorem split_words {ws : List Str} (h0 : ws ≠ []) (hw : ∀ w ∈ ws, wordOk w = true) (hl : ws.length ≤ 1000000) : dSplit [.str (Txt.join SP ws), .str " "] = some (.lst (ws.map .str)) := by
  have h1 : ∀ w ∈ ws, w.length ≤ 7 := fun w h => by
    have := hw w h
    simp only [wordOk, Bool.and_eq_true, decide_eq_true_eq] at this
    exact this.2
  have h2 := join_le (n := 1000000) (k := 7) h1 hl
  have h3 : ∀ w ∈ ws, 32 ∉ w.cps.toList := fun w h => by
    have := hw w h
    simp only [wordOk, Bool.and_eq_true, Bool.not_eq_true'] at this
    exact fun z => by
      have e := this.1
      rw [List.contains_iff_mem.mpr z] at e
      cases e
  rw [sp_eq]
  unfold dSplit
  dsimp only
  rw [if_pos ⟨rfl, by rw [sizeLine_eq]; omega⟩, split_join (by decide) h0 h3]
theorem at_app {α : Type} {A B : List α} {j : Nat} : (A ++ B)[A.length + j]? = B[j]? := by
  rw [List.getElem?_append_right (Nat.le_add_right _ _)]
  simp
section
variable {m : List MO}
theorem Book_read {b : Bk} (h : BkOk b) : S_Book_read [.glo "Book", .str (Txt.join SP (bookWords b))] m = .ok b.d m := by
  have hwk := words_ok h
  have hlen : (bookWords b).length = 10 + b.xs.length := by simp [bookWords]; omega
  have h6 := h.len.six
  have hs := split_words (ws := bookWords b) (by simp [bookWords]) hwk (by omega)
  have e0 : (bookWords b)[(0 : Int).toNat]? = some ("room" : Str) := rfl
  have e1 : (bookWords b)[(1 : Int).toNat]? = some (numS b.room) := rfl
  have e2 : (bookWords b)[(2 : Int).toNat]? = some ("lengths" : Str) := rfl
  have e3 : (bookWords b).drop (3 : Int).toNat = b.xs.map numS ++ ("low" : Str) :: [numS b.low, "bound", numS b.bound, b.looks, b.cut, b.side] := rfl
  have ea : ∀ j : Nat, (bookWords b)[((3 : Int) + (b.xs.length : Int) + (j : Int)).toNat]? = [("low" : Str), numS b.low, "bound", numS b.bound, b.looks, b.cut, b.side][j]? := fun j => by
    have : ((3 : Int) + (b.xs.length : Int) + (j : Int)).toNat = ([("room" : Str), numS b.room, "lengths"] ++ b.xs.map numS).length + j := by simp; omega
    rw [this]
    unfold bookWords
    exact at_app
  have a0 : (bookWords b)[((3 : Int) + (b.xs.length : Int)).toNat]? = some (("low" : Str)) := by simpa using ea 0
  have a1 : (bookWords b)[((3 : Int) + (b.xs.length : Int) + 1).toNat]? = some (numS b.low) := ea 1
  have a2 : (bookWords b)[((3 : Int) + (b.xs.length : Int) + 2).toNat]? = some (("bound" : Str)) := ea 2
  have a3 : (bookWords b)[((3 : Int) + (b.xs.length : Int) + 3).toNat]? = some (numS b.bound) := ea 3
  have a4 : (bookWords b)[((3 : Int) + (b.xs.length : Int) + 4).toNat]? = some (b.looks) := ea 4
  have a5 : (bookWords b)[((3 : Int) + (b.xs.length : Int) + 5).toNat]? = some (b.cut) := ea 5
  have a6 : (bookWords b)[((3 : Int) + (b.xs.length : Int) + 6).toNat]? = some (b.side) := ea 6
  have hx := h.len
  have hin := Book_init (m := m) h
  have hlk := h.lk
  have hct := h.ct
  have hsd := h.sd
  obtain ⟨r1, r2, -, fit, l1, l2, b1, b2, -, -, -⟩ := h
  generalize bookWords b = ws at *
  have k0 := need_head_at (m := m) (i := 0) (by decide) e0
  have k1 := number_at_at (m := m) (i := 1) (n := b.room) (lo := 2) (hi := 60) (by decide) e1 (by decide) r1 r2 (by decide)
  have k2 := need_head_at (m := m) (i := 2) (by decide) e2
  have hfit : ∀ y ∈ b.xs.head?, ∀ x ∈ b.xs, y + x ≤ b.room := fun y hy x hxm => by
    have h1 : b.xs.headD 0 = y := by
      rw [List.headD_eq_head?_getD]
      rw [Option.mem_def.mp hy]; rfl
    have h2 : x ≤ b.xs.getLastD 0 := by
      have hp := hx.asc
      have hne := hx.ne
      rw [List.getLastD_eq_getLast?, List.getLast?_eq_some_getLast hne]
      show x ≤ b.xs.getLast hne
      rcases List.eq_nil_or_concat b.xs with e | ⟨ys, z, e⟩
      · exact absurd e hne
      · rw [List.concat_eq_append] at e
        simp only [e, List.getLast_append_of_ne_nil, List.getLast_singleton, ne_eq, List.cons_ne_self, not_false_eq_true, reduceCtorEq]
        rw [e] at hp hxm
        rcases List.mem_append.mp hxm with q | q
        · exact Int.le_of_lt ((List.pairwise_append.mp hp).2.2 x q z (by simp))
        · have : x = z := by simpa using q
          omega
    omega
  have k3 := lengths_at_ok (m := m) (i := 3) (room := b.room) (by decide) hx hfit e3
  have k4 := need_head_at (m := m) (i := 3 + (b.xs.length : Int)) (by omega) a0
  have k5 := number_at_at (m := m) (i := 3 + (b.xs.length : Int) + 1) (n := b.low) (lo := 0) (hi := b.room + 1) (by omega) a1 (by decide) l1 l2 (by omega)
  have k6 := need_head_at (m := m) (i := 3 + (b.xs.length : Int) + 2) (by omega) a2
  have k7 := number_at_at (m := m) (i := 3 + (b.xs.length : Int) + 3) (n := b.bound) (lo := 0) (hi := b.room) (by omega) a3 (by decide) b1 b2 (by omega)
  have u4 := upcoming_at (m := m) (i := 3 + (b.xs.length : Int) + 4 + 0) (by omega) (by simpa using a4)
  have u5 := upcoming_at (m := m) (i := 3 + (b.xs.length : Int) + 4 + 1) (by omega) (by simpa [Int.add_assoc] using a5)
  have u6 := upcoming_at (m := m) (i := 3 + (b.xs.length : Int) + 4 + 2) (by omega) (by simpa [Int.add_assoc] using a6)
  have n4 := dNin_strT b.looks LOOKS
  have n5 := dNin_strT b.cut CUTS
  have n6 := dNin_strT b.side SIDES
  rw [decide_eq_true hlk] at n4
  rw [decide_eq_true hct] at n5
  rw [decide_eq_true hsd] at n6
  simp only [LOOKS, CUTS, SIDES, List.map_cons, List.map_nil] at n4 n5 n6
  have i4 : dIx [D.lst (ws.map .str), .int (3 + (b.xs.length : Int) + 4)] = some (.str b.looks) := atI_at (by omega) (by rw [List.getElem?_map, a4]; rfl)
  have i5 : dIx [D.lst (ws.map .str), .int (3 + (b.xs.length : Int) + 5)] = some (.str b.cut) := atI_at (by omega) (by rw [List.getElem?_map, a5]; rfl)
  have i6 : dIx [D.lst (ws.map .str), .int (3 + (b.xs.length : Int) + 6)] = some (.str b.side) := atI_at (by omega) (by rw [List.getElem?_map, a6]; rfl)
  have li := Lengths_init (m := m) hx.ne hx.bd (by rw [ascOf_asc hx.asc]; exact h6) (by omega)
  rw [ascOf_asc hx.asc] at li
  refine ok_eq ((ok_phi rfl).mpr ?_)
  unfold m_Book_read
  walk_at "ww"
  simp only [k_str_str, ok_ok]
  unfold mM1
  walk_at "ww"
  simp only [hs, ok_ok, ok_bind]
  walk_at "ww"
  simp only [hs, ok_ok, k0, k1, k2, k3]
  walk_at "ww"
  simp only [k4, k5, k6, k7, ok_ok, ok_bind]
  walk_at "ww"
  refine fk_forI (ds := [.tup [.int 0, .tup [.str "own", .str "near"]], .tup [.int 1, .tup [.str "even", .str "ahead", .str "put"]], .tup [.int 2, .tup [.str "left", .str "right"]]]) (m' := m) ?_ ?_
  · unfold mEnum
    walk_at "mm"
    rw [if_pos (by rw [sizeLine_eq]; omega)]
    rfl
  refine fk_go ⟨_, rfl, ?_⟩
  walk_at "ww"
  simp only [u4, n4, ok_ok, Bool.not_true]
  walk_at "ww"
  refine fk_go ⟨_, rfl, ?_⟩
  walk_at "ww"
  simp only [u5, n5, ok_ok, Bool.not_true]
  walk_at "ww"
  refine fk_go ⟨_, rfl, ?_⟩
  walk_at "ww"
  simp only [u6, n6, ok_ok, Bool.not_true]
  walk_at "ww"
  refine fk_go0 ?_
  walk_at "ww"
  simp only [List.length_map, hlen, li, i4, i5, i6, ok_ok]
  walk_at "wd"
  try simp only [li, i4, i5, i6, hin, ok_ok]
  try walk_at "zz"
end
/-! ### pairs, plain forms -/
def pairsOf (xs : List Int) : List (Int × Int) := xs.flatMap fun x => (xs.filter fun y => decide (x ≤ y)).map fun y => (x, y)
theorem mem_pairsOf {xs : List Int} {p : Int × Int} : p ∈ pairsOf xs ↔ p.1 ∈ xs ∧ p.2 ∈ xs ∧ p.1 ≤ p.2 := by
  obtain ⟨a, b⟩ := p
  unfold pairsOf
  simp only [List.mem_flatMap, List.mem_map, List.mem_filter, decide_eq_true_eq, Prod.mk.injEq]
  constructor
  · rintro ⟨x, hx, y, ⟨hy, h⟩, rfl, rfl⟩
    exact ⟨hx, hy, h⟩
  · rintro ⟨h1, h2, h3⟩
    exact ⟨a, h1, b, ⟨h2, h3⟩, rfl, rfl⟩
def barredOf (b : Bk) (xs : List Int) : List (Int × Int) := (pairsOf xs).filter fun p => !letB b p.1 p.2
def maxL : List Int → Int
  | [] => 0
  | n :: ns => ns.foldl max n
def plainOf (looks : Str) (ps : List (Int × Int)) : Int × Int := if ps = [] then (0, 0) else (maxL (ps.map fun p => if looks = ("own" : Str) then p.2 else p.1) + 1, maxL (ps.map fun p => p.1 + p.2))
theorem dMax_map {xs : List Int} (h : xs ≠ []) : dMax [.lst (xs.map .int)] = some (.int (maxL xs)) := by
  cases xs with
  | nil => exact absurd rfl h
  | cons x r =>
    have := intsOf_map (x :: r)
    simp only [dMax, this, maxL]
theorem length_pairsOf (xs : List Int) : (pairsOf xs).length ≤ xs.length * xs.length := by
  have : ∀ ys : List Int, (ys.flatMap fun x => (xs.filter fun y => decide (x ≤ y)).map fun y => (x, y)).length ≤ ys.length * xs.length := fun ys => by
    induction ys with
    | nil => simp
    | cons y ys ih =>
      have := List.length_filter_le (fun z => decide (y ≤ z)) xs
      simp only [List.flatMap_cons, List.length_append, List.length_map, List.length_cons, Nat.succ_mul]
      omega
  exact this xs
theorem length_sums {b : Bk} (h : BkOk b) : b.sums.length ≤ 60 := by
  have := length_sumsOf b.room b.xs
  have := h.r2
  unfold Bk.sums
  omega
section
variable {m : List MO}
theorem all_pairs_eq {b : Bk} (h : BkOk b) : S_all_pairs [b.d] m = .ok (prsD (pairsOf b.sums)) m := by
  have hl := length_sums h
  refine ok_eq ((ok_phi rfl).mpr ?_)
  unfold m_all_pairs
  walk_at "ww"
  refine ok_of (lc2_eq (xs := b.sums) (en := .int) (ys := b.sums) (en1 := .int) (p := fun x y => decide (x ≤ y)) (g := fun x y => pairD (x, y)) rfl rfl (Nat.le_trans (Nat.mul_le_mul hl hl) (by decide)) fun x hx => ⟨_, rfl, rfl, rfl, fun y hy => ⟨_, rfl, ?_, fun _ => ?_⟩⟩) ?_
  · walk_at "mm"
  · walk_at "mm"
    rw [if_pos (by decide)]
    rfl
  · refine ⟨?_, rfl⟩
    unfold prsD pairsOf
    rw [List.map_flatMap]
    congr 2
    funext x
    rw [List.map_map]
    rfl
theorem ix_pair0 (p : Int × Int) : dIx [pairD p, .int 0] = some (.int p.1) := atI_zero _ _
theorem ix_pair1 (p : Int × Int) : dIx [pairD p, .int 1] = some (.int p.2) := atI_at (by decide) rfl
theorem barred_pairs_eq {b : Bk} (h : BkOk b) : S_barred_pairs [b.d] m = .ok (prsD (barredOf b b.sums)) m := by
  have hl := length_sums h
  have hp := length_pairsOf b.sums
  refine ok_eq ((ok_phi rfl).mpr ?_)
  unfold m_barred_pairs
  walk_at "ww"
  refine ok_of (lc_eq (xs := pairsOf b.sums) (en := pairD) (p := fun p => !letB b p.1 p.2) (g := pairD) ?_ rfl (Nat.le_trans hp (Nat.le_trans (Nat.mul_le_mul hl hl) (by decide))) fun p hpp => ⟨_, rfl, ?_, fun _ => rfl⟩) ⟨rfl, rfl⟩
  · walk_at "mm"
    simp only [all_pairs_eq h]
    rfl
  · obtain ⟨h1, h2, _⟩ := mem_pairsOf.mp hpp
    have hc := Book_call (m := m) h1 h2
    unfold Bk.d at hc ⊢
    walk_at "mm"
    simp only [ix_pair0, ix_pair1]
    walk_at "mm"
    simp only [hc]
    walk_at "mm"
theorem dEq_nil (ps : List (Int × Int)) : dEq [.lst (ps.map pairD), .lst []] = some (.bl (decide (ps = []))) := dEq_prs ps []
theorem plain_of_eq {b : Bk} {ps : List (Int × Int)} (hl : ps.length ≤ 4000) : S_plain_of [b.d, prsD ps] m = .ok (pairD (plainOf b.looks ps)) m := by
  refine ok_eq ((ok_phi rfl).mpr ?_)
  unfold m_plain_of prsD Bk.d
  walk_at "ww"
  rw [if_pos (by decide)]
  simp only [ok_ok, dEq_nil]
  walk_at "ww"
  by_cases c : ps = []
  · simp only [c, decide_true]
    walk_at "wd"
    simp only [plainOf, if_true, Vt.pairD]
    rw [if_pos (by decide)]
    try exact ok_ok.mpr ⟨rfl, rfl⟩
  · simp only [c, decide_false]
    walk_at "ww"
    refine ok_of (a := .int (if b.looks = ("own" : Str) then 1 else 0)) (m := m) ?_ ?_
    · by_cases l : b.looks = ("own" : Str)
      · simp only [l, decide_true]
        walk_at "mm"
        try simp only [decide_true]
        try walk_at "mm"
      · simp only [l, decide_false]
        walk_at "mm"
        try simp only [l, decide_false]
        try walk_at "mm"
    · have ix : ∀ p : Int × Int, dIx [pairD p, .int (if b.looks = ("own" : Str) then 1 else 0)] = some (.int (if b.looks = ("own" : Str) then p.2 else p.1)) := fun p => by
        split
        · exact ix_pair1 p
        · exact ix_pair0 p
      refine ok_of (lc_map (xs := ps) (en := pairD) (g := fun p => .int (if b.looks = ("own" : Str) then p.2 else p.1)) rfl rfl (by rw [sizeLine_eq]; omega) fun p _ => ⟨_, rfl, ?_⟩) ?_
      · walk_at "mm"
        simp only [ix]
        walk_at "mm"
      have e1 : ps.map (fun p => D.int (if b.looks = ("own" : Str) then p.2 else p.1)) = (ps.map fun p => if b.looks = ("own" : Str) then p.2 else p.1).map .int := by rw [List.map_map]; rfl
      rw [e1, dMax_map (by simpa using c)]
      walk_at "ww"
      refine ok_of (lc_map (xs := ps) (en := pairD) (g := fun p => .int (p.1 + p.2)) rfl rfl (by rw [sizeLine_eq]; omega) fun p _ => ⟨_, rfl, ?_⟩) ?_
      · walk_at "mm"
        simp only [ix_pair0, ix_pair1]
        walk_at "mm"
      have e2 : ps.map (fun p => D.int (p.1 + p.2)) = (ps.map fun p => p.1 + p.2).map .int := by rw [List.map_map]; rfl
      rw [e2, dMax_map (by simpa using c)]
      walk_at "ww"
      rw [if_pos (by decide)]
      refine ok_ok.mpr ⟨?_, rfl⟩
      unfold plainOf Vt.pairD
      rw [if_neg c]
end
/-! ### chains -/
def rowD (r : List Int) : D := .tup (r.map .int)
def chD (ps : List (List Int)) : D := .ins "Chain" [.tup (ps.map rowD), .tup (ps.flatten.map .int), .int ps.flatten.sum]
structure ChOk (ps : List (List Int)) : Prop where
  ne : ps ≠ []
  le : ps.length ≤ 400
  pg : ∀ p ∈ ps, p ≠ [] ∧ p.length ≤ 60 ∧ ∀ x ∈ p, 1 ≤ x ∧ x ≤ 60
theorem flatten_le {ps : List (List Int)} (h : ∀ p ∈ ps, p.length ≤ 60) : ps.flatten.length ≤ ps.length * 60 := by
  induction ps with
  | nil => simp
  | cons p ps ih =>
    have h1 := h p List.mem_cons_self
    have h2 := ih fun q hq => h q (List.mem_cons_of_mem _ hq)
    simp only [List.flatten_cons, List.length_append, List.length_cons, Nat.succ_mul]
    omega
section
variable {m : List MO}
theorem total_of_eq {r : List Int} (hl : r.length ≤ sizeLine) : S_total_of [.tup (r.map .int)] m = .ok (.int r.sum) m := by
  refine ok_eq ((ok_phi rfl).mpr ?_)
  unfold m_total_of
  walk_at "ww"
  refine ok_of (lc_map (xs := r) (en := .int) (g := .int) rfl rfl hl fun x _ => ⟨_, rfl, by walk_at "mm"⟩) ?_
  simp only [dSum_map, ok_ok]
  walk_at "zz"
theorem rows_of_eq {ps : List (List Int)} (hl : ps.flatten.length ≤ sizeLine) : S_rows_of [.tup (ps.map rowD)] m = .ok (.tup (ps.flatten.map .int)) m := by
  refine ok_eq ((ok_phi rfl).mpr ?_)
  unfold m_rows_of
  walk_at "ww"
  rw [if_pos (by decide)]
  walk_at "ww"
  refine fk_for (fun ds e m1 => m1 = m ∧ ∃ pre post s2, ps = pre ++ post ∧ ds = post.map rowD ∧ e = [.val (.tup (ps.map rowD)), .own (.lst (pre.flatten.map .int)), s2]) ?_ ?_ ?_
  · refine ok_of (a := ps.map rowD) (m := m) rfl ⟨rfl, [], ps, _, rfl, rfl, rfl⟩
  · rintro d ds e m1 ⟨rfl, pre, post, s2, e1, e2, rfl⟩
    cases post with
    | nil => cases e2
    | cons p post =>
      cases e2
      refine ⟨_, rfl, ?_⟩
      unfold rowD
      have hz : (pre.flatten.map D.int).length + (p.map D.int).length ≤ sizeLine := by
        rw [e1] at hl
        simp only [List.flatten_append, List.flatten_cons, List.length_append] at hl
        simp only [List.length_map]
        omega
      walk_at "ww"
      rw [if_pos hz]
      walk_at "ww"
      exact ⟨pre ++ [p], post, ⟨_, by simp [e1], rfl, by simp; rfl⟩⟩
  · rintro e m1 ⟨rfl, pre, post, s2, e1, e2, rfl⟩
    have : post = [] := by cases post with
      | nil => rfl
      | cons _ _ => cases e2
    subst this
    rw [List.append_nil] at e1
    subst e1
    walk_at "ww"
    simp only [dTuple_l, ok_ok]
    walk_at "zz"
theorem k_lst (xs : List D) : isiAny kt (.lst xs) [.ty "list", .ty "tuple"] = some true := rfl
theorem k_tup (xs : List D) : isiAny kt (.tup xs) [.ty "list", .ty "tuple"] = some true := rfl
theorem are_rows_eq {r : List Int} {d : D} (hd : d = .lst (r.map .int) ∨ d = .tup (r.map .int)) (hl : r.length ≤ 60) (hb : ∀ x ∈ r, 1 ≤ x ∧ x ≤ 60) : S_are_rows [d] m = .ok (.bl true) m := by
  have ht : isiAny kt d [.ty "list", .ty "tuple"] = some true := by rcases hd with rfl | rfl <;> rfl
  have hn : dLen [d] = some (.int r.length) := by rcases hd with rfl | rfl <;> simp [dLen]
  have hi : ∀ e, mItS (mVar 0) ([.val d, e] : List Slot) m = .ok (r.map .int) m := fun e => by rcases hd with rfl | rfl <;> rfl
  refine ok_eq ((ok_phi rfl).mpr ?_)
  unfold m_are_rows
  have h1 : mIsT kt (mVar 0) (mCons (mC (D.ty "list")) (mCons (mC (D.ty "tuple")) mNil)) [Slot.val d, .none] m = .ok (.bl true) m := by
    unfold mIsT
    walk_at "mm"
    rw [if_pos ⟨by decide, by simp⟩, ht]
    rfl
  walk_at "ww"
  rw [h1, ok_ok]
  walk_at "ww"
  simp only [hn, ok_bind, ok_ok]
  walk_at "wd"
  refine ok_of (lc_map (xs := r) (en := .int) (g := fun _ => .bl true) (hi _) rfl (by rw [sizeLine_eq]; omega) fun x hx => ⟨_, rfl, ?_⟩) ?_
  · obtain ⟨h1, h2⟩ := hb x hx
    walk_at "mm"
    simp only [is_within_int]
    walk_at "md"
  · have e : (r.map fun _ => D.bl true) = (r.map fun _ => true).map .bl := by rw [List.map_map]; rfl
    rw [e, dAll_map]
    walk_at "ww"
    simp
theorem Chain_init {ps : List (List Int)} (h : ChOk ps) {en : List Int → D} (hen : ∀ p, en p = .lst (p.map .int) ∨ en p = .tup (p.map .int)) : fI I_Chain (mkD "Chain") (ps.map en) m = .ok (chD ps) m := by
  have hne := h.ne
  have hle := h.le
  have hfl := flatten_le (ps := ps) fun p hp => (h.pg p hp).2.1
  have hn : 0 < ps.length := List.length_pos_iff.mpr hne
  refine fI_ok (ok_eq ((ok_starI (n := 0) ⟨Nat.zero_le _, by simp [sizeLine_eq]; omega⟩ rfl).mpr ?_))
  unfold m_Chain___init__
  simp only [List.take_zero, List.drop_zero, List.nil_append, envI, List.map_cons, List.map_nil, List.length_cons, List.length_nil, Nat.reduceAdd, Nat.reduceSub, List.replicate, List.cons_append]
  walk_at "ww"
  refine fk_enum (xs := ps) (en := en) (fun e => ∃ s2 s3, e = [.own (.ins "Chain" []), .val (.tup (ps.map en)), s2, s3] ∧ (s3 = .none ∨ ∃ d, s3 = .val d)) ⟨_, _, rfl, .inl rfl⟩ rfl ?_ ?_
  · rintro k p e hp ⟨s2, s3, rfl, -⟩
    obtain ⟨h1, h2, h3⟩ := h.pg p hp
    have hpl : 0 < p.length := List.length_pos_iff.mpr h1
    have hd : dLen [en p] = some (.int p.length) := by rcases hen p with e | e <;> simp [e, dLen]
    walk_at "ww"
    simp only [are_rows_eq (hen p) h2 h3, hd, ok_bind, ok_ok]
    walk_at "wd"
    simp only [hd, ok_bind, ok_ok]
    walk_at "wd"
    exact ⟨_, _, rfl, .inr ⟨_, rfl⟩⟩
  · rintro e ⟨s2, s3, rfl, hs3⟩
    have hno : noOwn [Slot.own (MO.ins "Chain" []), Slot.val (D.tup (ps.map en)), s2, s3] [3] = true := by rcases hs3 with e | ⟨d, e⟩ <;> rw [e] <;> rfl
    walk_at "ww"
    try simp only [List.length_map]
    walk_at "wd"
    refine ok_of (lc_map (xs := ps) (en := en) (g := rowD) rfl hno (by rw [sizeLine_eq]; omega) fun p hp => ⟨_, rfl, ?_⟩) ?_
    · have hd : dTuple [en p] = some (rowD p) := by rcases hen p with e | e <;> simp [e, dTuple, rowD]
      walk_at "mm"
      simp only [hd]
    · simp only [dTuple_l, ok_ok]
      walk_at "wd"
      simp only [rows_of_eq (m := m) (ps := ps) (by rw [sizeLine_eq]; omega), ok_ok]
      walk_at "wd"
      simp only [total_of_eq (m := m) (r := ps.flatten) (by rw [sizeLine_eq]; omega), ok_ok]
      walk_at "wd"
      exact ⟨_, rfl, rfl⟩
end
/-! ### chains read -/
section
variable {m : List MO}
theorem digits_cps : ("0123456789" : Str).cps.toList = [48, 49, 50, 51, 52, 53, 54, 55, 56, 57] := by decide +kernel
theorem zero_eq : ("0" : Str) = ⟨#[48]⟩ := by decide +kernel
theorem dIn_sign (c : Nat) (y : Str) : dIn [.str ⟨#[c]⟩, .str y] = some (.bl (decide (c ∈ y.cps.toList))) := rfl
theorem signs_map {w : Str} : ∀ env : List Slot, mChr (mVar 0) (.val (.str w) :: env) m = .ok (w.cps.toList.map fun c => .str ⟨#[c]⟩) m := fun _ => rfl
theorem dAll_false {xs : List Bool} (h : xs.all id = false) : dAll [.lst (xs.map .bl)] = some (.bl false) := by rw [dAll_map, h]
theorem length_in_num {n : Int} (h0 : 1 ≤ n) (h1 : n ≤ 60) : S_length_in [.str (numS n)] m = .ok (.int n) m := by
  have hn := num_ok (n := n) (by omega) (by omega)
  have l1 := hn.le
  have l2 := hn.ge
  have hlen : dLen [.str (numS n)] = some (.int (numS n).length) := if_pos (by rw [sizeLine_eq]; omega)
  have h00 : (numS n).cps.toList[(0 : Int).toNat]? = some ((numS n).cps.getD 0 0) := by
    have : 0 < (numS n).cps.size := l2
    simp [Array.getD, this]
  have hix : dIx [.str (numS n), .int 0] = some (.str ⟨#[(numS n).cps.getD 0 0]⟩) := by
    refine (if_pos (by rw [sizeLine_eq]; omega) : dIx [.str (numS n), .int 0] = _).trans ?_
    rw [atI_at (by decide) h00]
    rfl
  have hz : dEq [.str ⟨#[(numS n).cps.getD 0 0]⟩, .str "0"] = some (.bl false) := by
    rw [dEq_ss, zero_eq, decide_eq_false fun e => hn.lead (by omega) (by
      have := congrArg (fun s : Str => s.cps.getD 0 0) e
      simpa using this)]
  have hall : ∀ env : List Slot, mLc (.nm 1) (mChr (mVar 0)) mYes (mBin dIn (mVar 1) (mC (.str "0123456789"))) [1] [.val (.str (numS n)), .none] m = .ok (.lst (((numS n).cps.toList.map fun _ => true).map .bl)) m := fun _ => by
    rw [List.map_map]
    refine lc_map (xs := (numS n).cps.toList) (en := fun c => .str ⟨#[c]⟩) (g := fun _ => .bl true) (signs_map _) rfl (by
      have : (numS n).cps.toList.length = (numS n).length := by simp [Str.length]
      rw [sizeLine_eq]; omega) fun c hc => ⟨_, rfl, ?_⟩
    have := hn.dig c hc
    have hm : c ∈ ("0123456789" : Str).cps.toList := by
      rw [digits_cps]
      simp only [List.mem_cons, List.not_mem_nil, or_false]
      omega
    walk_at "mm"
    rw [dIn_sign, decide_eq_true hm]
  refine ok_eq ((ok_phi rfl).mpr ?_)
  unfold m_length_in
  refine fk_seq.mpr ?_
  refine fk_if.mpr (ok_of (a := false) (m := m) ?_ ⟨nofun, fun _ => ?_⟩)
  · walk_at "mm"
    simp only [hlen]
    walk_at "md"
    simp only [hix, hz]
    walk_at "mm"
    have ha := hall []
    simp only [List.map_map] at ha
    simp only [ha]
    have e : (numS n).cps.toList.map (D.bl ∘ fun _ => true) = ((numS n).cps.toList.map fun _ => true).map .bl := by rw [List.map_map]
    rw [e, dAll_map]
    walk_at "mm"
    simp
  · walk_at "ww"
    simp only [dInt_num (show 0 ≤ n by omega) (by omega), ok_bind, ok_ok]
    walk_at "wd"
    simp only [dInt_num (show 0 ≤ n by omega) (by omega), ok_bind, ok_ok]
    walk_at "zz"
theorem slash_eq : ("/" : Str) = ⟨#[47]⟩ := by decide +kernel
theorem length_in_slash : S_length_in [.str "/"] m = .ok .non m := by
  rw [slash_eq]
  have hlen : dLen [.str ⟨#[47]⟩] = some (.int 1) := by rfl
  have hix : dIx [.str ⟨#[47]⟩, .int 0] = some (.str ⟨#[47]⟩) := by rfl
  have hz : dEq [.str ⟨#[47]⟩, .str "0"] = some (.bl false) := by
    rw [dEq_ss, zero_eq]
    rfl
  have hall : mLc (.nm 1) (mChr (mVar 0)) mYes (mBin dIn (mVar 1) (mC (.str "0123456789"))) [1] [.val (.str ⟨#[47]⟩), .none] m = .ok (.lst [.bl false]) m := by
    refine (lc_map (xs := [47]) (en := fun c => .str ⟨#[c]⟩) (g := fun _ => .bl false) rfl rfl (by decide) fun c hc => ⟨_, rfl, ?_⟩)
    have : c = 47 := by simpa using hc
    subst this
    walk_at "mm"
    rw [dIn_sign, digits_cps]
    rfl
  refine ok_eq ((ok_phi rfl).mpr ?_)
  unfold m_length_in
  refine fk_seq.mpr ?_
  refine fk_if.mpr (ok_of (a := true) (m := m) ?_ ⟨fun _ => ?_, nofun⟩)
  · walk_at "mm"
    simp only [hlen]
    walk_at "md"
    simp only [hix, hz]
    walk_at "mm"
    simp only [hall]
    have : dAll [.lst [.bl false]] = some (.bl false) := rfl
    simp only [this]
    walk_at "mm"
  · walk_at "ww"
theorem minus_eq : ("-" : Str) = ⟨#[45]⟩ := by decide +kernel
theorem num_ne_minus {n : Int} (h0 : 0 ≤ n) (h1 : n ≤ 61) : ¬ numS n = ("-" : Str) := fun e => by
  have h := (num_ok h0 h1).dig 45 (by rw [e, minus_eq]; simp)
  omega
theorem inter_cons {s w : Str} {p : List Str} {ps : List (List Str)} : inter s ((w :: p) :: ps) = w :: inter s (p :: ps) := by
  cases ps <;> rfl
theorem inter_nil {s : Str} {p : List Str} {ps : List (List Str)} : inter s ([] :: p :: ps) = s :: inter s (p :: ps) := rfl
/-- the words of a chain -/
def chWords (ps : List (List Int)) : List Str := inter "/" (ps.map fun p => p.map numS)
theorem chWords_le : ∀ (ps : List (List Int)), (∀ p ∈ ps, p.length ≤ 60) → (chWords ps).length ≤ ps.length * 61
  | [], _ => by simp [chWords, inter]
  | [p], h => by
    have := h p List.mem_cons_self
    simp [chWords, inter]; omega
  | p :: q :: r, h => by
    have h1 := h p List.mem_cons_self
    have h2 := chWords_le (q :: r) fun x hx => h x (List.mem_cons_of_mem _ hx)
    have e : chWords (p :: q :: r) = p.map numS ++ ("/" : Str) :: chWords (q :: r) := rfl
    rw [e]
    simp only [List.length_append, List.length_map, List.length_cons] at h2 ⊢
    omega
theorem chWords_ok : ∀ (ps : List (List Int)), (∀ p ∈ ps, ∀ x ∈ p, 1 ≤ x ∧ x ≤ 60) → ∀ w ∈ chWords ps, wordOk w = true
  | [], _, w, hw => by simp [chWords, inter] at hw
  | [p], h, w, hw => by
    obtain ⟨x, hx, rfl⟩ := List.mem_map.mp (show w ∈ p.map numS from hw)
    have := h p List.mem_cons_self x hx
    exact word_num (by omega) (by omega)
  | p :: q :: r, h, w, hw => by
    have e : chWords (p :: q :: r) = p.map numS ++ ("/" : Str) :: chWords (q :: r) := rfl
    rw [e] at hw
    rcases List.mem_append.mp hw with hw | hw
    · obtain ⟨x, hx, rfl⟩ := List.mem_map.mp hw
      have := h p List.mem_cons_self x hx
      exact word_num (by omega) (by omega)
    · rcases List.mem_cons.mp hw with rfl | hw
      · decide +kernel
      · exact chWords_ok (q :: r) (fun x hx => h x (List.mem_cons_of_mem _ hx)) w hw
def rowL (r : List Int) : D := .lst (r.map .int)
theorem pages_in_eq {ps : List (List Int)} (h : ChOk ps) : S_pages_in [.str (Txt.join SP (chWords ps))] m = .ok (.lst (ps.map rowL)) m := by
  have hle := h.le
  have hwl := chWords_le ps fun p hp => (h.pg p hp).2.1
  have hwo := chWords_ok ps fun p hp => (h.pg p hp).2.2
  obtain ⟨x0, p0, r0, e0⟩ : ∃ x p r, ps = (x :: p) :: r := by
    cases ps with
    | nil => exact absurd rfl h.ne
    | cons p r => cases p with
      | nil => exact absurd rfl (h.pg [] List.mem_cons_self).1
      | cons x p => exact ⟨x, p, r, rfl⟩
  have ew : chWords ps = numS x0 :: inter "/" ((p0 :: r0).map fun p => p.map numS) := by rw [e0]; exact inter_cons
  have hx0 := (h.pg (x0 :: p0) (by rw [e0]; exact List.mem_cons_self)).2.2 x0 List.mem_cons_self
  have hs := split_words (ws := chWords ps) (by rw [ew]; simp) hwo (by omega)
  have hi0 : dIx [D.lst ((chWords ps).map .str), .int 0] = some (.str (numS x0)) := by rw [ew]; exact atI_zero _ _
  refine ok_eq ((ok_phi rfl).mpr ?_)
  unfold m_pages_in
  walk_at "ww"
  simp only [k_str_str, ok_ok]
  unfold mM1
  walk_at "ww"
  simp only [hs, hi0, ok_ok]
  walk_at "ww"
  refine ⟨fun h => absurd (of_decide_eq_true h) (num_ne_minus (n := x0) (by omega) (by omega)), fun _ => ?_⟩
  refine fk_for (fun ds e m1 => m1 = m ∧ ∃ (don : List (List Int)) (cur cr : List Int) (rp : List (List Int)) (ks : List Int) (s4 s5 s6 : Slot), ps = don ++ (cur ++ cr) :: rp ∧ ks.length = (inter "/" ((cr :: rp).map fun p => p.map numS)).length ∧
    ds = List.zipWith (fun k w => .tup [.int k, .str w]) ks (inter "/" ((cr :: rp).map fun p => p.map numS)) ∧ e = [.val (.str (Txt.join SP (chWords ps))), .val (.lst ((chWords ps).map .str)), .own (.lst (don.map rowL)), .own (.lst (cur.map .int)), s4, s5, s6]) ?_ ?_ ?_
  · unfold mEnum
    walk_at "ww"
    refine ⟨[], [], x0 :: p0, r0, (List.range (chWords ps).length).map fun k => ((k : Nat) : Int), _, _, _, by rw [e0]; rfl, ?_, ?_, rfl⟩
    · rw [List.length_map, List.length_range, ew, List.map_cons, List.map_cons, inter_cons]
      try rfl
    · have e1 : inter "/" ((x0 :: p0).map numS :: r0.map fun p => p.map numS) = chWords ps := by rw [e0]; rfl
      rw [e1]
      unfold pairsI
      rw [List.length_map, List.zip_eq_zipWith, List.map_zipWith, List.zipWith_map_left, List.zipWith_map_right]
  · rintro d ds e m1 ⟨rfl, don, cur, cr, rp, ks, s4, s5, s6, e1, e2, e3, rfl⟩
    have hpg := h.pg (cur ++ cr) (by rw [e1]; simp)
    cases cr with
    | cons x r =>
      rw [List.map_cons, List.map_cons, inter_cons] at e2 e3
      cases ks with
      | nil => simp at e2
      | cons k ks =>
        rw [List.zipWith_cons_cons] at e3
        obtain ⟨rfl, rfl⟩ := List.cons.inj e3
        refine ⟨_, rfl, ?_⟩
        have hx := hpg.2.2 x (by simp)
        have hcl : cur.length < 60 := by
          have := hpg.2.1
          simp at this
          omega
        walk_at "ww"
        simp only [length_in_num hx.1 hx.2, ok_ok]
        walk_at "ww"
        simp only [List.length_map]
        walk_at "wd"
        rw [if_pos (by rw [sizeLine_eq]; omega)]
        walk_at "ww"
        exact ⟨don, cur ++ [x], r, rp, ks, _, _, _, by simp [e1], by simpa using e2, rfl, by simp; exact ⟨rfl, rfl, rfl⟩⟩
    | nil =>
      cases rp with
      | nil => simp [inter] at e3
      | cons p rp =>
        rw [List.append_nil] at e1 hpg
        have e4 : inter "/" (([] :: p :: rp).map fun p => p.map numS) = ("/" : Str) :: inter "/" ((p :: rp).map fun p => p.map numS) := inter_nil
        rw [e4] at e2 e3
        cases ks with
        | nil => simp at e2
        | cons k ks =>
          rw [List.zipWith_cons_cons] at e3
          obtain ⟨rfl, rfl⟩ := List.cons.inj e3
          refine ⟨_, rfl, ?_⟩
          have hcl : 0 < cur.length := List.length_pos_iff.mpr hpg.1
          have hdl : don.length < 399 := by
            have : ps.length = don.length + (rp.length + 2) := by rw [e1]; simp
            omega
          walk_at "ww"
          simp only [length_in_slash, ok_ok]
          walk_at "ww"
          simp only [decide_true]
          walk_at "ww"
          simp only [List.length_map]
          walk_at "wd"
          rw [if_pos (by rw [sizeLine_eq]; omega)]
          walk_at "ww"
          exact ⟨don ++ [cur], [], p, rp, ks, _, _, _, by simp [e1], by simpa using e2, rfl, by simp [rowL]; exact ⟨rfl, rfl, rfl⟩⟩
  · rintro e m1 ⟨rfl, don, cur, cr, rp, ks, s4, s5, s6, e1, e2, e3, rfl⟩
    have hnil : inter "/" ((cr :: rp).map fun p => p.map numS) = [] := by
      cases hi : inter "/" ((cr :: rp).map fun p => p.map numS) with
      | nil => rfl
      | cons w r =>
        rw [hi] at e2 e3
        cases ks with
        | nil => simp at e2
        | cons k ks => simp at e3
    have hcr : cr = [] := by
      cases cr with
      | nil => rfl
      | cons x r => rw [List.map_cons, List.map_cons, inter_cons] at hnil; cases hnil
    subst hcr
    have hrp : rp = [] := by
      cases rp with
      | nil => rfl
      | cons p rp => rw [List.map_cons, List.map_cons] at hnil; cases hnil
    subst hrp
    rw [List.append_nil] at e1
    have hpg := h.pg cur (by rw [e1]; simp)
    have hcl : 0 < cur.length := List.length_pos_iff.mpr hpg.1
    have hdl : don.length < 400 := by
      have : ps.length = don.length + 1 := by rw [e1]; simp
      omega
    walk_at "ww"
    simp only [List.length_map]
    walk_at "wd"
    simp only [List.length_append, List.length_map, List.length_cons, List.length_nil]
    rw [if_pos (by rw [sizeLine_eq]; omega)]
    refine ok_ok.mpr ⟨?_, rfl⟩
    rw [e1]
    simp [rowL]
theorem Chain_read {ps : List (List Int)} (h : ChOk ps) : S_Chain_read [.glo "Chain", .str (Txt.join SP (chWords ps))] m = .ok (chD ps) m := by
  refine ok_eq ((ok_phi rfl).mpr ?_)
  unfold m_Chain_read
  walk_at "ww"
  simp only [pages_in_eq h, ok_ok]
  unfold mClsS
  walk_at "ww"
  simp only [Chain_init h (en := rowL) (fun _ => .inl rfl), ok_ok]
  walk_at "zz"
end
/-! ### chains and books; what is let -/
def tots (ps : List (List Int)) : List Int := ps.map List.sum
def fitB (b : Bk) (ps : List (List Int)) : Bool := (ps.flatten.all fun x => decide (x ∈ b.xs)) && (tots ps).all fun t => decide (t ≤ b.room)
/-- the pairs of neighbours -/
def nbrs (ts : List Int) : List (Int × Int) := ts.zip (ts.drop 1)
section
variable {m : List MO}
theorem all_map_bl {α : Type} (xs : List α) (p : α → Bool) : dAll [.lst (xs.map fun x => .bl (p x))] = some (.bl (xs.all p)) := by
  have e : xs.map (fun x => D.bl (p x)) = (xs.map p).map .bl := by rw [List.map_map]; rfl
  rw [e, dAll_map]
  congr 2
  induction xs with
  | nil => rfl
  | cons x xs ih =>
    have := ih (by rw [List.map_map]; rfl)
    simp only [List.map_cons, List.all_cons, id_eq, this]
theorem Chain_sums_eq {ps : List (List Int)} (h : ChOk ps) : S_Chain_sums [chD ps] m = .ok (.tup ((tots ps).map .int)) m := by
  have hle := h.le
  refine ok_eq ((ok_phi rfl).mpr ?_)
  unfold m_Chain_sums chD
  walk_at "ww"
  refine ok_of (lc_map (xs := ps) (en := rowD) (g := fun p => .int p.sum) rfl rfl (by rw [sizeLine_eq]; omega) fun p hp => ⟨_, rfl, ?_⟩) ?_
  · have := (h.pg p hp).2.1
    unfold rowD
    walk_at "mm"
    simp only [total_of_eq (m := m) (r := p) (by rw [sizeLine_eq]; omega)]
  · simp only [dTuple_l, ok_ok]
    refine ⟨?_, trivial⟩
    unfold tots
    rw [List.map_map]
    rfl
theorem Chain_fits_eq {ps : List (List Int)} {b : Bk} (h : ChOk ps) (hb : BkOk b) : S_Chain_fits [chD ps, b.d] m = .ok (.bl (fitB b ps)) m := by
  have hle := h.le
  have hfl := flatten_le (ps := ps) fun p hp => (h.pg p hp).2.1
  have hcs := Chain_sums_eq (m := m) h
  refine ok_eq ((ok_phi rfl).mpr ?_)
  unfold m_Chain_fits
  unfold Bk.d chD at *
  walk_at "ww"
  simp only [k_book, ok_ok]
  walk_at "ww"
  refine ok_of (lc_map (xs := ps.flatten) (en := .int) (g := fun x => .bl (decide (x ∈ b.xs))) rfl rfl (by rw [sizeLine_eq]; omega) fun x _ => ⟨_, rfl, ?_⟩) ?_
  · have hc := contains_eq (m := m) hb.len x
    unfold mInO
    unfold lenD at hc ⊢
    walk_at "mm"
    simp only [hc]
    walk_at "mm"
  rw [all_map_bl]
  walk_at "ww"
  unfold fitB
  cases hf : ps.flatten.all fun x => decide (x ∈ b.xs) with
  | false => walk_at "ww"
  | true =>
    walk_at "ww"
    refine ok_of (lc_map (xs := tots ps) (en := .int) (g := fun t => .bl (decide (t ≤ b.room))) ?_ rfl (by rw [sizeLine_eq]; simp [tots]; omega) fun x _ => ⟨_, rfl, ?_⟩) ?_
    · walk_at "mm"
      simp only [hcs]
      try rfl
    · walk_at "mm"
    rw [all_map_bl]
    walk_at "ww"
theorem need_chains_eq {cs : List (List (List Int))} {b : Bk} (h : ∀ c ∈ cs, ChOk c ∧ fitB b c = true) (hb : BkOk b) : S_need_chains [b.d, .tup (cs.map chD)] m = .ok .non m := by
  refine ok_eq ((ok_phi rfl).mpr ?_)
  unfold m_need_chains
  refine fk_enum (xs := cs) (en := chD) (fun e => ∃ s2 s3, e = [.val b.d, .val (.tup (cs.map chD)), s2, s3]) ⟨_, _, rfl⟩ rfl ?_ ?_
  · rintro k c e hc ⟨s2, s3, rfl⟩
    obtain ⟨h1, h2⟩ := h c hc
    have hf := Chain_fits_eq (m := m) h1 hb
    have kc : dIs1 kt [chD c, .glo "Chain"] = some (.bl true) := rfl
    rw [h2] at hf
    unfold chD at hf kc ⊢
    walk_at "ww"
    simp only [kc, ok_ok]
    walk_at "ww"
    simp only [hf, ok_bind, ok_ok]
    walk_at "ww"
    exact ⟨_, _, rfl⟩
  · rintro e _
    exact ⟨rfl, rfl⟩
theorem pairs_flat (p : Int × Int) : flatD (pairD p) = false := rfl
theorem dNin_prs (p : Int × Int) (xs : List (Int × Int)) : dNin [pairD p, prsD xs] = some (.bl (!decide (p ∈ xs))) := by
  unfold dNin isIn prsD
  simp only [pairs_flat, Bool.false_and, Bool.false_eq_true, if_false]
  have e1 : pd (pairD p) = some ((enP enI enI).p p) := (enP enI enI).hp p
  have e2 : pdL (xs.map pairD) = some (xs.map (enP enI enI).p) := pdL_map (enP enI enI) xs
  have s1 : SeqAt.shaped ((enP enI enI).p p) = true := by
    unfold SeqAt.shaped
    rw [(enP enI enI).lay, decide_eq_true (Nat.le_trans ((enP enI enI).hd p) (by decide))]
    rfl
  have s2 : SeqAt.shaped (PyData.list (xs.map (enP enI enI).p)) = true := by
    unfold SeqAt.shaped
    have a := (enL (enP enI enI)).lay xs
    have b := Nat.le_trans ((enL (enP enI enI)).hd xs) (show (enL (enP enI enI)).dep ≤ 64 by decide)
    have a : PyData.canLay0 (.list (xs.map (enP enI enI).p)) = true := a
    have b : PyData.depth (.list (xs.map (enP enI enI).p)) ≤ 64 := b
    rw [a, decide_eq_true b]
    rfl
  rw [e1, e2]
  simp only [s1, s2, Bool.and_self, if_true, Option.map_some]
  congr 3
  rw [List.any_map]
  rw [Bool.eq_iff_iff]
  simp only [List.any_eq_true, Function.comp, decide_eq_true_eq]
  constructor
  · rintro ⟨q, hq, e⟩
    rw [(enP enI enI).eq] at e
    exact (of_decide_eq_true e) ▸ hq
  · intro h
    exact ⟨p, h, by rw [(enP enI enI).eq]; simp⟩
def seenGo : List (Int × Int) → List (List Int) → List (Int × Int)
  | acc, [] => acc
  | acc, t :: ts => seenGo (acc ++ (nbrs t).filter fun p => !decide (p ∈ acc)) ts
theorem mem_seenGo {p : Int × Int} : ∀ {ts : List (List Int)} {acc : List (Int × Int)}, p ∈ seenGo acc ts ↔ p ∈ acc ∨ ∃ t ∈ ts, p ∈ nbrs t
  | [], acc => by simp [seenGo]
  | t :: ts, acc => by
    unfold seenGo
    rw [mem_seenGo]
    simp only [List.mem_append, List.mem_filter, Bool.not_eq_true', decide_eq_false_iff_not, List.mem_cons, exists_eq_or_imp]
    by_cases h : p ∈ acc
    · simp [h]
    · simp only [h, false_or, not_false_eq_true, and_true]
theorem length_seenGo {k : Nat} : ∀ {ts : List (List Int)} {acc : List (Int × Int)}, (∀ t ∈ ts, t.length ≤ k) → (seenGo acc ts).length ≤ acc.length + ts.length * k
  | [], acc, _ => by simp [seenGo]
  | t :: ts, acc, h => by
    unfold seenGo
    have h1 := length_seenGo (k := k) (ts := ts) (acc := acc ++ (nbrs t).filter fun p => !decide (p ∈ acc)) fun x hx => h x (List.mem_cons_of_mem _ hx)
    have h2 := List.length_filter_le (fun p => !decide (p ∈ acc)) (nbrs t)
    have h3 := h t List.mem_cons_self
    have h4 : (nbrs t).length ≤ t.length := by
      unfold nbrs
      rw [List.length_zip]
      omega
    simp only [List.length_append, List.length_cons, Nat.succ_mul] at h1 ⊢
    omega
theorem cut_tail (xs : List D) : Vt.cutD xs (some 1) none = xs.drop 1 := by
  unfold Vt.cutD
  have e1 : HT.sIx xs.length xs.length none = xs.length := rfl
  have e2 : HT.sIx xs.length 0 (some 1) = min 1 xs.length := by
    unfold HT.sIx
    simp
  rw [e1, e2]
  cases xs with
  | nil => rfl
  | cons x r =>
    have : min 1 (x :: r).length = 1 := by rw [List.length_cons]; omega
    rw [this]
    exact List.take_of_length_le (by simp)
theorem seen_pairs_eq {cs : List (List (List Int))} (h : ∀ c ∈ cs, ChOk c) (hl : cs.length ≤ 100) : S_seen_pairs [.tup (cs.map chD)] m = .ok (prsD (seenGo [] (cs.map tots))) m := by
  refine ok_eq ((ok_phi rfl).mpr ?_)
  unfold m_seen_pairs
  walk_at "ww"
  rw [if_pos (by decide), ok_ok]
  refine fk_for (fun ds e m1 => m1 = m ∧ ∃ (acc : List (Int × Int)) (post : List (List (List Int))) (s2 s3 : Slot), ds = post.map chD ∧ (∀ c ∈ post, ChOk c) ∧ acc.length + post.length * 400 ≤ 40000 ∧ e = [.val (.tup (cs.map chD)), .val (prsD acc), s2, s3, .none] ∧ seenGo acc (post.map tots) = seenGo [] (cs.map tots)) ?_ ?_ ?_
  · refine ok_of (a := cs.map chD) (m := m) rfl ⟨rfl, [], cs, _, _, rfl, h, by simp; omega, rfl, rfl⟩
  · rintro d ds e m1 ⟨rfl, acc, post, s2, s3, e1, hp, hz, rfl, e2⟩
    cases post with
    | nil => cases e1
    | cons c post =>
      cases e1
      have hc := hp c List.mem_cons_self
      have hs := Chain_sums_eq (m := m1) hc
      have hcl := hc.le
      refine ⟨_, rfl, ?_⟩
      unfold chD at hs ⊢
      walk_at "ww"
      simp only [hs, ok_ok]
      walk_at "ww"
      have htl : (tots c).length ≤ 400 := by simp [tots]; omega
      have hnl : (nbrs (tots c)).length ≤ 400 := by
        unfold nbrs
        rw [List.length_zip]
        omega
      refine ok_of (lc_eq (xs := nbrs (tots c)) (en := pairD) (p := fun p => !decide (p ∈ acc)) (g := pairD) ?_ rfl (by rw [sizeLine_eq]; omega) fun p _ => ⟨_, rfl, ?_, fun _ => rfl⟩) ?_
      · unfold mZipN
        walk_at "mm"
        simp only [dSl, cut_tail]
        rw [← List.map_drop, List.zip_map]
        unfold nbrs
        rw [List.map_map]
        rfl
      · walk_at "mm"
        simp only [dNin_prs]
        walk_at "mm"
      · have hf := List.length_filter_le (fun p => !decide (p ∈ acc)) (nbrs (tots c))
        simp only [List.length_cons, Nat.succ_mul] at hz
        unfold prsD
        walk_at "ww"
        rw [if_pos (by simp only [List.length_map]; rw [sizeLine_eq]; omega)]
        walk_at "ww"
        refine ⟨acc ++ (nbrs (tots c)).filter fun p => !decide (p ∈ acc), post, _, _, rfl, fun x hx => hp x (List.mem_cons_of_mem _ hx), by simp only [List.length_append]; omega, by rw [List.map_append], e2⟩
  · rintro e m1 ⟨rfl, acc, post, s2, s3, e1, hp, hz, rfl, e2⟩
    have : post = [] := by cases post with
      | nil => rfl
      | cons _ _ => cases e1
    subst this
    walk_at "ww"
    rw [← e2]
    rfl
end
/-! ### draws -/
def PenM (rest : List MO) (n : Nat) (mem : List MO) : Prop := ∃ (cells : List Int) (a l : Int), mem = .lst [.lst (cells.map .int), .int a, .int l] :: rest ∧ 0 ≤ a ∧ a ≤ n ∧ 0 ≤ l
theorem PenM.mono {rest : List MO} {n k : Nat} {mem : List MO} (h : PenM rest n mem) (l : n ≤ k) : PenM rest k mem := by
  obtain ⟨c, a, b, e, h1, h2, h3⟩ := h
  exact ⟨c, a, b, e, h1, by omega, h3⟩
theorem at30 {α : Type} (a b c : α) : atI [a, b, c] 0 = some a := rfl
theorem at31 {α : Type} (a b c : α) : atI [a, b, c] 1 = some b := rfl
theorem at32 {α : Type} (a b c : α) : atI [a, b, c] 2 = some c := rfl
theorem ix31 : ixN 3 1 = some 1 := rfl
theorem ix32 : ixN 3 2 = some 2 := rfl
theorem dFdiv_pos {i j : Int} (h : 0 < j) (h2 : j < 2 ^ 62) : dFdiv [.int i, .int j] = some (.int (i / j)) := by
  refine if_pos ⟨h, ?_⟩
  have : j.natAbs < 2 ^ 62 := by omega
  have h3 : j.natAbs.log2 < 62 := (Nat.log2_lt (by omega)).mpr this
  omega
theorem dMod_pos {i j : Int} (h : 0 < j) : dMod [.int i, .int j] = some (.int (i % j)) := if_pos h
theorem dMul_ok {i j : Int} (h : -(2 ^ 64) < i ∧ i < 2 ^ 64) : dMul [.int i, .int j] = some (.int (i * j)) := by
  refine if_pos ?_
  unfold mulOk
  rw [decide_eq_true h.1, decide_eq_true h.2]
  rfl
theorem dPow_ok {i : Int} (k : Nat) (h0 : 0 ≤ i) (h : i < 2 ^ 64) (hk : k ≤ 1000000) : dPow [.int i, .int (k : Int)] = some (.int (i ^ k)) := by
  refine (if_pos ⟨by omega, by omega, by omega⟩ : dPow [.int i, .int (k : Int)] = _).trans ?_
  rw [Int.toNat_natCast]
theorem pow10 : dPow [.int 10, .int 18] = some (.int 1000000000000000000) := by rfl
theorem dAbs_i (i : Int) : dAbs [.int i] = some (.int (if i < 0 then -i else i)) := rfl
theorem dNe_nil (xs : List Int) : dNe [.lst (xs.map .int), .lst []] = some (.bl (!decide (xs = []))) := dNe_ints xs []
theorem mul_lt {u v : Int} {p q : Int} (h1 : 0 ≤ u) (h2 : u ≤ p) (h3 : 0 ≤ v) (h4 : v ≤ q) : 0 ≤ u * v ∧ u * v ≤ p * q :=
  ⟨Int.mul_nonneg h1 h3, Int.le_trans (Int.mul_le_mul_of_nonneg_right h2 h3) (Int.mul_le_mul_of_nonneg_left h4 (by omega))⟩
local macro_rules | `(tactic| walk_at "dr") => `(tactic| ((try simp (disch := omega) only [at30, at31, at32, ix31, ix32, dMod_pos, dFdiv_pos, dMul_ok, pow10, dAbs_i, ok_ok, List.set_cons_zero, List.set_cons_succ, List.getElem?_cons_zero, dNe_nil]); walk_at "wd"))
section
variable {f g h : MS} {t : MT} {env e : List Slot} {mem m : List MO} {d : D} {N : List Slot → List MO → Prop} {S : D → List MO → Prop}
theorem fk_nx (h1 : f env mem = .next e m) (h2 : Fk (g e m) N S) : Fk (mSeq f g env mem) N S := by
  rw [fk_seq, h1]
  exact h2
theorem fk_rt (h1 : f env mem = .ret d m) (h2 : S d m) : Fk (mSeq f g env mem) N S := by
  rw [fk_seq, h1]
  exact h2
theorem if_t (h1 : t env mem = .ok true m) : mIf t f g env mem = f env m := by
  unfold mIf
  rw [h1]
  rfl
theorem if_f (h1 : t env mem = .ok false m) : mIf t f g env mem = g env m := by
  unfold mIf
  rw [h1]
  rfl
end
section
variable {rest mem : List MO}
theorem draw_ok {many : Int} {n : Nat} (h : PenM rest n mem) (h0 : 1 ≤ many) (h1 : many < 2 ^ 62) (hn : n ≤ 1000000) :
    Ok (S__law_draw [.hnd 0, .int many] mem) fun d m => (∃ r, d = .int r ∧ 0 ≤ r ∧ r < many) ∧ PenM rest (n + 1) m := by
  obtain ⟨cells, a, l, rfl, ha, han, hl⟩ := h
  have md : ∀ x : Int, 0 ≤ x % many ∧ x % many < many := fun x => ⟨Int.emod_nonneg x (by omega), Int.emod_lt_of_pos x (by omega)⟩
  refine (ok_phi rfl).mpr ?_
  unfold m__law_draw
  by_cases hb : 0 < l
  · have hd := Int.ediv_nonneg (a := l) (b := many) (by omega) (by omega)
    refine fk_rt (d := .int (l % many)) (m := .lst [.lst (cells.map .int), .int a, .int (l / many)] :: rest) ?_ ⟨⟨_, rfl, md l⟩, cells, a, _, rfl, ha, by omega, hd⟩
    rw [if_t (m := .lst [.lst (cells.map .int), .int a, .int l] :: rest) (by
      walk_at "mm"
      walk_at "dr")]
    walk_at "mm"
    walk_at "dr"
    walk_at "dr"
    walk_at "dr"
    try walk_at "dr"
    try walk_at "dr"
  · refine fk_nx (e := env0 7 [.hnd 0, .int many]) (m := .lst [.lst (cells.map .int), .int a, .int l] :: rest) (if_f (by
      walk_at "mm"
      walk_at "dr")) ?_
    refine fk_nx (e := [.val (.hnd 0), .val (.int many), .none, .val (.int a), .none, .none, .none]) (m := .lst [.lst (cells.map .int), .int a, .int l] :: rest) (by
      walk_at "mm"
      walk_at "dr") ?_
    refine fk_nx (e := [.val (.hnd 0), .val (.int many), .none, .val (.int a), .none, .none, .none]) (m := .lst [.lst (cells.map .int), .int (a + 1), .int l] :: rest) (by
      walk_at "mm"
      walk_at "dr"
      walk_at "dr") ?_
    refine fk_nx (e := [.val (.hnd 0), .val (.int many), .none, .val (.int a), .val (.int (235540 * a + 11824)), .none, .none]) (m := .lst [.lst (cells.map .int), .int (a + 1), .int l] :: rest) (by
      walk_at "mm"
      walk_at "dr") ?_
    obtain ⟨cell, hcell⟩ : ∃ cell : Int, mIf (mTB (mBin dNe (mIxH (mVar 0) (mC (.int 0))) (mLst mNil))) (mSet 4 (mBin dIx (mIxH (mVar 0) (mC (.int 0))) (mBin dMod (mFun (lf dInt) (mCons (mVar 3) mNil)) (mFun (lf dLen) (mCons (mIxH (mVar 0) (mC (.int 0))) mNil))))) mPass
        [.val (.hnd 0), .val (.int many), .none, .val (.int a), .val (.int (235540 * a + 11824)), .none, .none] (.lst [.lst (cells.map .int), .int (a + 1), .int l] :: rest) =
        .next [.val (.hnd 0), .val (.int many), .none, .val (.int a), .val (.int cell), .none, .none] (.lst [.lst (cells.map .int), .int (a + 1), .int l] :: rest) := by
      by_cases hc : cells = []
      · subst hc
        refine ⟨235540 * a + 11824, (if_f (m := .lst [.lst [], .int (a + 1), .int l] :: rest) ?_).trans rfl⟩
        walk_at "mm"
        walk_at "dr"
        rfl
      · have hl : 0 < cells.length := List.length_pos_iff.mpr hc
        have hm := Int.emod_nonneg a (show (cells.length : Int) ≠ 0 by omega)
        have hm2 := Int.emod_lt_of_pos a (show 0 < (cells.length : Int) by omega)
        have hk : (a % (cells.length : Int)).toNat < cells.length := by omega
        refine ⟨cells[(a % (cells.length : Int)).toNat], ?_⟩
        rw [if_t (m := .lst [.lst (cells.map .int), .int (a + 1), .int l] :: rest) (by
          walk_at "mm"
          walk_at "dr"
          try simp only [dNe_nil, decide_eq_false hc]
          try walk_at "mm")]
        have ei : dIx [.lst (cells.map .int), .int (a % (cells.length : Int))] = some (.int cells[(a % (cells.length : Int)).toNat]) := by
          show atI _ _ = _
          rw [atI_map hm, List.getElem?_eq_getElem hk]
          rfl
        walk_at "mm"
        walk_at "dr"
        simp only [List.length_map, dMod_pos (i := a) (j := (cells.length : Int)) (by omega), ei]
        walk_at "mm"
    refine fk_nx hcell ?_
    clear hcell
    have ab : dAbs [.int cell] = some (.int (if cell < 0 then -cell else cell)) := rfl
    generalize hA : (if cell < 0 then -cell else cell) = A at ab
    by_cases hg : a < (cells.length : Int) ∧ 1000000000000000000 ≤ A
    · obtain ⟨h1a, h2a⟩ := hg
      have gr0 : 0 ≤ (if cell < 0 then (1 : Int) else 0) := by split <;> omega
      have ei : (if decide (cell < 0) = true then (1 : Int) else 0) = (if cell < 0 then 1 else 0) := by simp
      generalize hs : (if cell < 0 then (1 : Int) else 0) = sg at gr0 ei
      have hd := Int.ediv_nonneg (a := 2 * (A - 1000000000000000000) + sg) (b := many) (by omega) (by omega)
      refine fk_rt (d := .int ((2 * (A - 1000000000000000000) + sg) % many)) (m := .lst [.lst (cells.map .int), .int (a + 1), .int ((2 * (A - 1000000000000000000) + sg) / many)] :: rest) ?_ ⟨⟨_, rfl, md _⟩, cells, a + 1, _, rfl, by omega, by omega, hd⟩
      rw [if_t (m := .lst [.lst (cells.map .int), .int (a + 1), .int l] :: rest) (by
        walk_at "mm"
        walk_at "dr"
        simp only [List.length_map, ab, pow10]
        walk_at "md")]
      walk_at "mm"
      simp only [ab, pow10]
      walk_at "mm"
      simp (disch := omega) only [dMul_ok, ei]
      walk_at "mm"
      simp (disch := omega) only [dMul_ok, ei, dFdiv_pos, dMod_pos, ix32]
      walk_at "mm"
      try simp (disch := omega) only [dMul_ok, ei, dFdiv_pos, dMod_pos, ix32]
      try walk_at "mm"
      try simp (disch := omega) only [dMul_ok, ei, dFdiv_pos, dMod_pos, ix32]
      try walk_at "mm"
    · refine fk_nx (e := [.val (.hnd 0), .val (.int many), .none, .val (.int a), .val (.int cell), .none, .none]) (m := .lst [.lst (cells.map .int), .int (a + 1), .int l] :: rest) ((if_f (by
        walk_at "mm"
        walk_at "dr"
        simp only [List.length_map, ab, pow10]
        by_cases c : a < (cells.length : Int)
        · have c2 : ¬ 1000000000000000000 ≤ A := fun z => hg ⟨c, z⟩
          walk_at "md"
        · walk_at "md")).trans rfl) ?_
      have c0 := Int.emod_nonneg cell (show (2147483587 : Int) ≠ 0 by decide)
      have c1 := Int.emod_lt_of_pos cell (show (0 : Int) < 2147483587 by decide)
      generalize hx : (cell % 2147483587 + 138070 * a + 3576) ^ 5 = x5
      refine fk_nx (e := [.val (.hnd 0), .val (.int many), .none, .val (.int a), .val (.int cell), .none, .val (.int (x5 % 2147483563))]) (m := .lst [.lst (cells.map .int), .int (a + 1), .int l] :: rest) (by
        have p5 := dPow_ok (i := cell % 2147483587 + 138070 * a + 3576) 5 (by omega) (by omega) (by decide)
        rw [hx] at p5
        replace p5 : dPow [.int (cell % 2147483587 + 138070 * a + 3576), .int 5] = some (.int x5) := p5
        walk_at "mm"
        simp (disch := omega) only [dMod_pos, dMul_ok]
        walk_at "mm"
        try simp (disch := omega) only [p5, dMod_pos]
        walk_at "mm"
        try simp (disch := omega) only [p5, dMod_pos]
        try walk_at "mm") ?_
      clear hx
      have u0 := Int.emod_nonneg x5 (show (2147483563 : Int) ≠ 0 by decide)
      have u1 := Int.emod_lt_of_pos x5 (show (0 : Int) < 2147483563 by decide)
      generalize x5 % 2147483563 = u at u0 u1
      obtain ⟨b1, b2⟩ := mul_lt (u := u) (v := 2 * a + 677) (p := 2147483563) (q := 2000677) u0 (by omega) (by omega) (by omega)
      obtain ⟨b3, b4⟩ := mul_lt (u := 92490 * a) (v := a) (p := 92490000000) (q := 1000000) (by omega) (by omega) ha (by omega)
      generalize hx : (u * (2 * a + 677) + 92490 * a * a + 234) ^ 3 = x3
      have p3 := dPow_ok (i := u * (2 * a + 677) + 92490 * a * a + 234) 3 (by omega) (by omega) (by decide)
      rw [hx] at p3
      replace p3 : dPow [.int (u * (2 * a + 677) + 92490 * a * a + 234), .int 3] = some (.int x3) := p3
      have m1 : dMul [.int u, .int (2 * a + 677)] = some (.int (u * (2 * a + 677))) := dMul_ok (by omega)
      have m2 : dMul [.int (92490 * a), .int a] = some (.int (92490 * a * a)) := dMul_ok (by omega)
      refine fk_nx (e := [.val (.hnd 0), .val (.int many), .none, .val (.int a), .val (.int cell), .none, .val (.int (x3 % 2147483629))]) (m := .lst [.lst (cells.map .int), .int (a + 1), .int l] :: rest) (by
        walk_at "mm"
        simp (disch := omega) only [dMul_ok, m1, m2]
        walk_at "mm"
        try simp (disch := omega) only [dMul_ok, m1, m2]
        walk_at "mm"
        try simp (disch := omega) only [p3, dMod_pos]
        walk_at "mm"
        try simp (disch := omega) only [p3, dMod_pos]
        try walk_at "mm") ?_
      have f1 : dFdiv [.int (x3 % 2147483629), .int 32] = some (.int (x3 % 2147483629 / 32)) := dFdiv_pos (by decide) (by decide)
      have f2 : dMod [.int (x3 % 2147483629 / 32), .int many] = some (.int (x3 % 2147483629 / 32 % many)) := dMod_pos (by omega)
      walk_at "ww"
      simp only [f1, f2, ok_ok]
      walk_at "ww"
      try simp only [f2, ok_ok]
      exact ⟨⟨_, rfl, md _⟩, cells, a + 1, l, rfl, by omega, by omega, hl⟩
end
/-! ### drawn books -/
section
variable {rest mem : List MO}
theorem pick_ok {xs : List D} {n : Nat} (h : PenM rest n mem) (h0 : xs ≠ []) (h1 : xs.length < 1000000) (hn : n ≤ 1000000) :
    Ok (S__law_pick [.hnd 0, .lst xs] mem) fun d m => d ∈ xs ∧ PenM rest (n + 1) m := by
  have hl : 0 < xs.length := List.length_pos_iff.mpr h0
  refine (ok_phi rfl).mpr ?_
  unfold m__law_pick
  walk_at "ww"
  refine (draw_ok (many := (xs.length : Int)) h (by omega) (by omega) hn).imp fun d m hd => ?_
  obtain ⟨⟨r, rfl, r0, r1⟩, hp⟩ := hd
  have hr : r.toNat < xs.length := by omega
  have e : dIx [.lst xs, .int r] = some xs[r.toNat] := atI_at r0 (List.getElem?_eq_getElem hr)
  simp only [e, ok_ok]
  exact ⟨List.getElem_mem hr, hp⟩
structure Pl where
  room : Int
  ls : List Int
  low : Int
  bound : Int
  looks : Str
def K5 : List Key := [.inr "room", .inr "lengths", .inr "low", .inr "bound", .inr "looks"]
def Pl.d (p : Pl) : D := .dic K5 [.int p.room, .lst (p.ls.map .int), .int p.low, .int p.bound, .str p.looks]
structure PlOk (p : Pl) : Prop where
  r1 : 2 ≤ p.room
  r2 : p.room ≤ 15
  ne : p.ls ≠ []
  nd : p.ls.Nodup
  four : p.ls.length ≤ 4
  fit : ∃ least, 1 ≤ least ∧ least ∈ p.ls ∧ ∀ x ∈ p.ls, least ≤ x ∧ x + least ≤ p.room
  l1 : 0 ≤ p.low
  l2 : p.low ≤ p.room + 1
  b1 : 0 ≤ p.bound
  b2 : p.bound ≤ p.room
  lk : p.looks ∈ LOOKS
theorem dMul_once (d : D) (b : Bool) : dMul [.lst [d], .int (if b = true then 1 else 0)] = some (.lst (if b then [d] else [])) := by cases b <;> rfl
theorem rng1_eq {j : Int} (h0 : 0 ≤ j) (h1 : j < 2 ^ 62) : dRng1 [.int j] = some ((List.range j.toNat).map fun k => .int (0 + (k : Nat))) := if_pos (by simp [small62]; omega)
theorem plain_ok {n : Nat} (h : PenM rest n mem) (hn : n ≤ 900000) : Ok (S__law_plain [.hnd 0] mem) fun d m => (∃ p, PlOk p ∧ d = p.d) ∧ PenM rest (n + 20) m := by
  refine (ok_phi rfl).mpr ?_
  unfold m__law_plain
  walk_at "ww"
  refine (draw_ok (many := 14) h (by omega) (by omega) (by omega)).imp fun d m hd => ?_
  obtain ⟨⟨r, rfl, r0, r1⟩, h⟩ := hd
  walk_at "ww"
  rw [if_pos (by decide), ok_ok]
  refine (pick_ok h (by simp) (by simp) (by omega)).imp fun d m hd => ?_
  obtain ⟨hd, h⟩ := hd
  obtain ⟨room, rfl, m1, m2⟩ : ∃ room : Int, d = .int room ∧ 2 ≤ room ∧ room ≤ 15 := by
    simp only [List.mem_cons, List.not_mem_nil, or_false] at hd
    rcases hd with e | e | e | e | e | e | e | e <;> exact ⟨_, e, by omega, by omega⟩
  have f2 : dFdiv [.int room, .int 2] = some (.int (room / 2)) := dFdiv_pos (by decide) (by decide)
  walk_at "ww"
  simp only [f2, ok_ok]
  refine (draw_ok (many := room / 2) h (by omega) (by omega) (by omega)).imp fun d m hd => ?_
  obtain ⟨⟨q, rfl, q0, q1⟩, h⟩ := hd
  walk_at "ww"
  rw [if_pos (by decide), ok_ok]
  refine (pick_ok h (by simp) (by simp) (by omega)).imp fun d m hd => ?_
  obtain ⟨hd, h⟩ := hd
  obtain ⟨least, rfl, k1, k2⟩ : ∃ least : Int, d = .int least ∧ 1 ≤ least ∧ 2 * least ≤ room := by
    simp only [List.mem_cons, List.not_mem_nil, or_false] at hd
    rcases hd with e | e | e <;> exact ⟨_, e, by omega, by omega⟩
  rw [if_pos (by decide), ok_ok]
  walk_at "ww"
  refine fk_for (fun ds e m => ds.length ≤ 3 ∧ PenM rest (n + 8 - ds.length) m ∧ ∃ (ls : List Int) (s4 s5 : Slot), ls.length + ds.length ≤ 4 ∧ ls.Nodup ∧ least ∈ ls ∧ (∀ x ∈ ls, least ≤ x ∧ x + least ≤ room) ∧ e = [.val (.hnd 0), .val (.int room), .val (.int least), .val (.lst (ls.map .int)), s4, s5, .none, .none, .none]) ?_ ?_ ?_
  · unfold mRng1
    walk_at "ww"
    refine (draw_ok (many := 4) h (by omega) (by omega) (by omega)).imp fun d m hd => ?_
    obtain ⟨⟨t, rfl, t0, t1⟩, h⟩ := hd
    walk_at "ww"
    simp only [rng1_eq (j := t) (by omega) (by omega), ok_ok, List.length_map, List.length_range]
    exact ⟨by omega, h.mono (by omega), [least], _, _, by simp; omega, by simp, by simp, by simp; omega, rfl⟩
  · rintro d ds e m ⟨hl, h, ls, s4, s5, hz, hnd, hm, hb, rfl⟩
    rw [List.length_cons] at hl h hz
    refine ⟨_, rfl, ?_⟩
    walk_at "ww"
    simp only [dMul_ok (i := 2) (j := least) (by omega), ok_ok]
    walk_at "ww"
    refine (draw_ok (many := room - 2 * least + 1) h (by omega) (by omega) (by omega)).imp fun d m hd => ?_
    obtain ⟨⟨t, rfl, t0, t1⟩, h⟩ := hd
    walk_at "ww"
    rw [if_pos (by decide), ok_ok]
    simp only [dNin_lst, ok_ok, dInt_b, dMul_once]
    have hz2 : ∀ b : Bool, (ls.map D.int).length + (if b then [D.int (least + t)] else []).length ≤ sizeLine := fun b => by
      rw [List.length_map, sizeLine_eq]
      cases b <;> simp <;> omega
    walk_at "ww"
    try simp only [dMul_once, ok_ok]
    rw [if_pos (hz2 _)]
    walk_at "ww"
    refine ⟨by omega, h.mono (by omega), ?_⟩
    by_cases c : least + t ∈ ls
    · have e1 : (ls.map D.int ++ if (!decide (least + t ∈ ls)) = true then [D.int (least + t)] else []) = ls.map D.int := by simp [c]
      rw [e1]
      exact ⟨ls, _, _, by omega, hnd, hm, hb, rfl⟩
    · have e1 : (ls.map D.int ++ if (!decide (least + t ∈ ls)) = true then [D.int (least + t)] else []) = (ls ++ [least + t]).map D.int := by simp [c]
      rw [e1]
      refine ⟨ls ++ [least + t], _, _, by simp; omega, List.nodup_append.mpr ⟨hnd, by simp, fun x hx y hy e => by
        have : y = least + t := by simpa using hy
        exact c (this ▸ e ▸ hx)⟩, by simp [hm], fun x hx => ?_, rfl⟩
      rcases List.mem_append.mp hx with q | q
      · exact hb x q
      · have : x = least + t := by simpa using q
        omega
  · rintro e m ⟨-, h, ls, s4, s5, hz, hnd, hm, hb, rfl⟩
    simp only [List.length_nil, Nat.sub_zero, Nat.add_zero] at h hz
    walk_at "ww"
    refine (draw_ok (many := room + 2) h (by omega) (by omega) (by omega)).imp fun d m hd => ?_
    obtain ⟨⟨low, rfl, t0, t1⟩, h⟩ := hd
    walk_at "ww"
    refine (draw_ok (many := room + 1) h (by omega) (by omega) (by omega)).imp fun d m hd => ?_
    obtain ⟨⟨bd, rfl, b0, b1⟩, h⟩ := hd
    walk_at "ww"
    rw [if_pos (by decide), ok_ok]
    refine (pick_ok h (by simp) (by simp) (by omega)).imp fun d m hd => ?_
    obtain ⟨hd, h⟩ := hd
    obtain ⟨bound, rfl, q1, q2⟩ : ∃ bound : Int, d = .int bound ∧ 0 ≤ bound ∧ bound ≤ room := by
      simp only [List.mem_cons, List.not_mem_nil, or_false] at hd
      rcases hd with e | e | e <;> exact ⟨_, e, by omega, by omega⟩
    walk_at "ww"
    rw [if_pos (by decide), ok_ok]
    refine (pick_ok h (by simp) (by simp) (by omega)).imp fun d m hd => ?_
    obtain ⟨hd, h⟩ := hd
    obtain ⟨looks, rfl, hlk⟩ : ∃ looks : Str, d = .str looks ∧ looks ∈ LOOKS := by
      simp only [List.mem_cons, List.not_mem_nil, or_false] at hd
      rcases hd with e | e
      · exact ⟨_, e, by simp [LOOKS]⟩
      · exact ⟨_, e, by simp [LOOKS]⟩
    unfold mDict
    walk_at "ww"
    rw [if_pos (by decide +kernel), ok_ok]
    have hl1 := (hb least hm)
    refine ⟨⟨⟨room, ls, low, bound, looks⟩, ⟨m1, m2, fun e => ?_, hnd, by omega, ⟨least, k1, hm, hb⟩, t0, (show low ≤ room + 1 by omega), q1, q2, hlk⟩, rfl⟩, h.mono (by omega)⟩
    have e : ls = [] := e
    rw [e] at hm
    cases hm
end
def Pl.bk (p : Pl) (cut side : Str) : Bk := ⟨p.room, sortI p.ls, p.low, p.bound, p.looks, cut, side⟩
theorem head_le_asc : ∀ {xs : List Int}, xs.Pairwise (· < ·) → ∀ x ∈ xs, xs.headD 0 ≤ x
  | [], _, _, h => nomatch h
  | y :: ys, h, x, hx => by
    rcases List.mem_cons.mp hx with e | q
    · subst e; exact Int.le_refl _
    · exact Int.le_of_lt ((List.pairwise_cons.mp h).1 x q)
theorem lastD_mem {xs : List Int} (h : xs ≠ []) : xs.getLastD 0 ∈ xs := by
  rw [List.getLastD_eq_getLast?, List.getLast?_eq_some_getLast h]
  exact List.getLast_mem h
theorem sort_ne {xs : List Int} (h : xs ≠ []) : sortI xs ≠ [] := fun e => by
  have := length_sortI (xs := xs)
  rw [e] at this
  exact h (List.length_eq_zero_iff.mp this.symm)
theorem pl_ok {p : Pl} (h : PlOk p) {cut side : Str} (hc : cut ∈ CUTS) (hs : side ∈ SIDES) : BkOk (p.bk cut side) := by
  obtain ⟨r1, r2, ne, nd, four, ⟨least, k1, hm, hb⟩, l1, l2, b1, b2, lk⟩ := h
  have asc := asc_sortI nd
  have ne2 := sort_ne ne
  refine ⟨r1, by show p.room ≤ 60; omega, ⟨ne2, asc, fun x hx => ?_, by show (sortI p.ls).length ≤ 6; rw [length_sortI]; omega⟩, ?_, l1, l2, b1, b2, lk, hc, hs⟩
  · have := hb x (mem_sortI.mp hx)
    omega
  · show (sortI p.ls).headD 0 + (sortI p.ls).getLastD 0 ≤ p.room
    have h1 := head_le_asc asc least (mem_sortI.mpr hm)
    have h2 := (hb _ (mem_sortI.mp (lastD_mem ne2))).2
    omega
def gW : D → D
  | .int i => .str (numS i)
  | d => d
theorem dJoin_ok {ws : List Str} (h : ∀ w ∈ ws, w.length ≤ 7) (hl : ws.length ≤ 1000000) : dJoin [.str SP, .lst (ws.map .str)] = some (.str (Txt.join SP ws)) := by
  have hs : strsOf (ws.map .str) = some ws := by
    clear h hl
    induction ws with
    | nil => rfl
    | cons w ws ih => simp [strsOf, ih]
  have h2 := StrLaws.sumLen_le ws h
  have h3 : SP.length = 1 := rfl
  unfold dJoin joinArg
  simp only [hs, Option.bind_some]
  exact if_pos (by rw [h3]; omega)
section
variable {rest mem : List MO}
theorem ixd0 {p : Pl} : dIxD [p.d, .str "room"] = some (.int p.room) := by rfl
theorem ixd1 {p : Pl} : dIxD [p.d, .str "lengths"] = some (.lst (p.ls.map .int)) := by rfl
theorem ixd2 {p : Pl} : dIxD [p.d, .str "low"] = some (.int p.low) := by rfl
theorem ixd3 {p : Pl} : dIxD [p.d, .str "bound"] = some (.int p.bound) := by rfl
theorem ixd4 {p : Pl} : dIxD [p.d, .str "looks"] = some (.str p.looks) := by rfl
theorem text_ok {p : Pl} {n : Nat} (hp : PlOk p) (h : PenM rest n mem) (hn : n ≤ 900000) : Ok (S__law_text [.hnd 0, p.d] mem) fun d m => (∃ cut side, cut ∈ CUTS ∧ side ∈ SIDES ∧ d = .str (Txt.join SP (bookWords (p.bk cut side)))) ∧ PenM rest (n + 2) m := by
  have four := hp.four
  have sl : (sortI p.ls).length ≤ 4 := by rw [length_sortI]; exact four
  refine (ok_phi rfl).mpr ?_
  unfold m__law_text
  walk_at "ww"
  refine ok_of (lc_map (xs := p.ls) (en := .int) (g := .int) (by walk_at "mm"; simp only [ixd1]) rfl (by rw [sizeLine_eq]; omega) fun x _ => ⟨_, rfl, by walk_at "mm"⟩) ?_
  simp only [dSorted_map, ok_ok]
  walk_at "ww"
  simp only [ixd0, ixd2, ixd3, ixd4, ok_ok]
  rw [if_pos (by decide), ok_ok]
  walk_at "ww"
  rw [if_pos (by simp [sizeLine_eq]; omega), ok_ok]
  walk_at "ww"
  rw [if_pos (by decide), ok_ok]
  walk_at "ww"
  rw [if_pos (by simp [sizeLine_eq]; omega), ok_ok]
  walk_at "ww"
  rw [if_pos (by decide), ok_ok]
  refine (pick_ok h (by simp) (by simp) (by omega)).imp fun d m hd => ?_
  obtain ⟨hd, h⟩ := hd
  obtain ⟨cut, rfl, hcut⟩ : ∃ cut : Str, d = .str cut ∧ cut ∈ CUTS := by
    simp only [List.mem_cons, List.not_mem_nil, or_false] at hd
    rcases hd with e | e | e <;> exact ⟨_, e, by simp [CUTS]⟩
  rw [if_pos (by decide), ok_ok]
  refine (pick_ok h (by simp) (by simp) (by omega)).imp fun d m hd => ?_
  obtain ⟨hd, h⟩ := hd
  obtain ⟨side, rfl, hside⟩ : ∃ side : Str, d = .str side ∧ side ∈ SIDES := by
    simp only [List.mem_cons, List.not_mem_nil, or_false] at hd
    rcases hd with e | e <;> exact ⟨_, e, by simp [SIDES]⟩
  rw [if_pos (by decide), ok_ok]
  walk_at "ww"
  rw [if_pos (by simp [sizeLine_eq]; omega), ok_ok]
  walk_at "ww"
  unfold mM1
  walk_at "ww"
  have hb := pl_ok hp hcut hside
  have hw := words_ok hb
  have r1 := hb.r1
  have r2 := hb.r2
  have l1 := hb.l1
  have l2 := hb.l2
  have b1 := hb.b1
  have b2 := hb.b2
  have bd := hb.len.bd
  simp only [Pl.bk] at r1 r2 l1 l2 b1 b2 bd
  have hstr : ∀ d ∈ (D.str (Str.ofString "room") :: D.int p.room :: D.str (Str.ofString "lengths") :: ((sortI p.ls).map D.int ++ [D.str (Str.ofString "low"), D.int p.low, D.str (Str.ofString "bound"), D.int p.bound] ++ [D.str p.looks, D.str cut, D.str side])), dStr [d] = some (gW d) := fun d hd => by
    simp only [List.mem_cons, List.mem_append, List.mem_map, List.not_mem_nil, or_false] at hd
    rcases hd with e | e | e | (⟨x, hx, e⟩ | e | e | e | e) | e | e | e
    · rw [e]; rfl
    · rw [e]; exact dStr_num (by omega) (by omega)
    · rw [e]; rfl
    · have := bd x hx
      rw [← e]; exact dStr_num (by omega) (by omega)
    · rw [e]; rfl
    · rw [e]; exact dStr_num (by omega) (by omega)
    · rw [e]; rfl
    · rw [e]; exact dStr_num (by omega) (by omega)
    · rw [e]; rfl
    · rw [e]; rfl
    · rw [e]; rfl
  refine ok_of (lc_map (xs := (D.str (Str.ofString "room") :: D.int p.room :: D.str (Str.ofString "lengths") :: ((sortI p.ls).map D.int ++ [D.str (Str.ofString "low"), D.int p.low, D.str (Str.ofString "bound"), D.int p.bound] ++ [D.str p.looks, D.str cut, D.str side]))) (en := fun d => d) (g := gW) (by rw [List.map_id']; rfl) rfl (by simp [sizeLine_eq]; omega) fun d hd => ⟨_, rfl, ?_⟩) ?_
  · have := hstr d hd
    walk_at "mm"
    simp only [this]
  · have e : (D.str (Str.ofString "room") :: D.int p.room :: D.str (Str.ofString "lengths") :: ((sortI p.ls).map D.int ++ [D.str (Str.ofString "low"), D.int p.low, D.str (Str.ofString "bound"), D.int p.bound] ++ [D.str p.looks, D.str cut, D.str side])).map gW = (bookWords (p.bk cut side)).map .str := by
      simp [bookWords, Pl.bk, gW]
    rw [e, sp_eq, dJoin_ok (ws := bookWords (p.bk cut side)) (fun w hw' => by
      have := hw w hw'
      simp only [wordOk, Bool.and_eq_true, decide_eq_true_eq] at this
      exact this.2) (by simp [bookWords, Pl.bk]; omega)]
    exact ok_ok.mpr ⟨⟨cut, side, hcut, hside, rfl⟩, h⟩
end
/-! ### the law's own look at books -/
def evs : Str := "even"
def lfs : Str := "left"
def Pl.b (p : Pl) : Bk := p.bk evs lfs
theorem sums_snoc (k : Nat) (xs : List Int) : sumsOf ((k + 1 : Nat) : Int) xs = sumsOf (k : Int) xs ++ (if repB xs (1 + (k : Int)) then [1 + (k : Int)] else []) := by
  unfold sumsOf
  simp only [Int.toNat_natCast, List.range_succ, List.map_append, List.filter_append, List.map_cons, List.map_nil]
  cases h : repB xs (1 + (k : Int)) <;> simp [h]
theorem repB_cong {xs ys : List Int} (h : ∀ x, x ∈ xs ↔ x ∈ ys) (t : Int) : repB xs t = repB ys t := by
  rw [Bool.eq_iff_iff, repB_iff, repB_iff]
  exact ⟨fun r => r.cong fun x hx => (h x).mp hx, fun r => r.cong fun x hx => (h x).mpr hx⟩
theorem sums_cong {xs ys : List Int} (h : ∀ x, x ∈ xs ↔ x ∈ ys) (room : Int) : sumsOf room xs = sumsOf room ys := by
  unfold sumsOf
  exact congrArg (fun p => List.filter p _) (funext (repB_cong h))
section
variable {mem : List MO}
theorem lsums_eq {p : Pl} (hp : PlOk p) : S__law_sums [p.d] mem = .ok (.lst (p.b.sums.map .int)) mem := by
  obtain ⟨least, k1, hm, hb⟩ := hp.fit
  have pos : ∀ x ∈ p.ls, 1 ≤ x := fun x hx => by have := hb x hx; omega
  have hs : p.b.sums = sumsOf p.room p.ls := sums_cong (fun x => mem_sortI) _
  have r1 := hp.r1
  have r2 := hp.r2
  have four := hp.four
  rw [hs]
  refine ok_eq ((ok_phi rfl).mpr ?_)
  unfold m__law_sums
  walk_at "ww"
  rw [if_pos (by decide), ok_ok]
  have hroom : ∃ R : Nat, p.room = (R : Int) := ⟨p.room.toNat, by omega⟩
  obtain ⟨R, hR⟩ := hroom
  refine fk_for (fun ds e m => m = mem ∧ ∃ (k : Nat) (s2 s3 : Slot), k ≤ R ∧ ds = ((List.range R).drop k).map (fun j => D.int (1 + (j : Nat))) ∧ e = [.val p.d, .val (.lst ((sumsOf (k : Int) p.ls).map .int)), s2, s3, .none]) ?_ ?_ ?_
  · have e : mRng2 (mCons (mC (D.int 1)) (mCons (mBin dAdd (mBin dIxD (mVar 0) (mC (D.str "room"))) (mC (D.int 1))) mNil)) [Slot.val p.d, Slot.val (D.lst []), Slot.none, Slot.none, Slot.none] mem = .ok ((List.range (p.room + 1 - 1).toNat).map fun j => .int (1 + (j : Nat))) mem := rng2_eq (by walk_at "mm"; simp only [ixd0]) (by decide) (by simp [small62]; omega)
    refine ok_of e ⟨rfl, 0, _, _, by omega, ?_, rfl⟩
    have : (p.room + 1 - 1).toNat = R := by omega
    rw [this]; rfl
  · rintro d ds e m ⟨rfl, k, s2, s3, hk, e1, rfl⟩
    by_cases hlt : k < R
    · have ed : (List.range R).drop k = k :: (List.range R).drop (k + 1) := by
        rw [List.drop_eq_getElem_cons (by simpa using hlt)]
        simp
      rw [ed, List.map_cons] at e1
      obtain ⟨rfl, rfl⟩ := List.cons.inj e1
      refine ⟨_, rfl, ?_⟩
      walk_at "ww"
      refine ok_of (lc_eq (xs := p.ls) (en := .int) (p := fun l => decide (l = 1 + (k : Int)) || decide (1 + (k : Int) - l ∈ sumsOf (k : Int) p.ls)) (g := .int) (by walk_at "mm"; simp only [ixd1]) rfl (by rw [sizeLine_eq]; omega) fun l hl => ⟨_, rfl, ?_, fun _ => rfl⟩) ?_
      · walk_at "mm"
        by_cases c : l = 1 + (k : Int)
        · simp only [decide_eq_true c]
          walk_at "mm"
        · simp only [decide_eq_false c]
          walk_at "mm"
          simp only [dIn_lst]
          walk_at "mm"
      have key : (p.ls.filter fun l => decide (l = 1 + (k : Int)) || decide (1 + (k : Int) - l ∈ sumsOf (k : Int) p.ls)) = [] ↔ repB p.ls (1 + (k : Int)) = false := by
        rw [List.filter_eq_nil_iff, ← Bool.not_eq_true, repB_iff, rep_iff]
        constructor
        · rintro h ⟨x, hx, e⟩
          refine h x hx ?_
          simp only [Bool.or_eq_true, decide_eq_true_eq]
          rcases e with e | e
          · exact .inl e.symm
          · have p1 := e.pos pos
            have p2 := pos x hx
            exact .inr (mem_sumsOf.mpr ⟨by omega, e⟩)
        · intro h x hx e
          simp only [Bool.or_eq_true, decide_eq_true_eq] at e
          rcases e with e | e
          · exact h ⟨x, hx, .inl e.symm⟩
          · exact h ⟨x, hx, .inr (mem_sumsOf.mp e).2⟩
      have ne : dNe [.lst ((p.ls.filter fun l => decide (l = 1 + (k : Int)) || decide (1 + (k : Int) - l ∈ sumsOf (k : Int) p.ls)).map .int), .lst []] = some (.bl (repB p.ls (1 + (k : Int)))) := by
        rw [dNe_nil]
        congr 2
        cases hr : repB p.ls (1 + (k : Int)) with
        | false => rw [decide_eq_true (key.mpr hr)]; rfl
        | true =>
          rw [decide_eq_false fun z => by rw [key.mp z] at hr; cases hr]
          rfl
      walk_at "ww"
      rw [if_pos (by decide), ok_ok]
      rw [if_pos (by decide), ok_ok]
      simp only [ne, ok_ok, dInt_b, dMul_once]
      have hz : ((sumsOf (k : Int) p.ls).map D.int).length + (if repB p.ls (1 + (k : Int)) = true then [D.int (1 + (k : Int))] else []).length ≤ sizeLine := by
        have := length_sumsOf (k : Int) p.ls
        rw [List.length_map, sizeLine_eq]
        cases repB p.ls (1 + (k : Int)) <;> simp <;> omega
      walk_at "ww"
      rw [if_pos hz]
      walk_at "ww"
      have e1 : ((sumsOf (k : Int) p.ls).map D.int ++ if repB p.ls (1 + (k : Int)) = true then [D.int (1 + (k : Int))] else []) = (sumsOf ((k + 1 : Nat) : Int) p.ls).map .int := by
        rw [sums_snoc]
        cases repB p.ls (1 + (k : Int)) <;> simp
      rw [e1]
      exact ⟨k + 1, _, _, by omega, rfl, rfl⟩
    · have : (List.range R).drop k = [] := List.drop_eq_nil_of_le (by simp; omega)
      rw [this] at e1
      cases e1
  · rintro e m ⟨rfl, k, s2, s3, hk, e1, rfl⟩
    have : k = R := by
      by_cases hlt : k < R
      · have ed : (List.range R).drop k = k :: (List.range R).drop (k + 1) := by
          rw [List.drop_eq_getElem_cons (by simpa using hlt)]
          simp
        rw [ed] at e1
        cases e1
      · omega
    subst this
    walk_at "ww"
    rw [hR]
end
theorem plen {p : Pl} (hp : PlOk p) : p.b.sums.length ≤ 15 := by
  have := length_sumsOf p.b.room p.b.xs
  have h1 := hp.r1
  have h2 := hp.r2
  have : p.b.room = p.room := rfl
  unfold Bk.sums
  omega
section
variable {mem : List MO}
theorem llet_eq {p : Pl} {x y : Int} : S__law_let [p.d, .int x, .int y] mem = .ok (.bl (letB p.b x y)) mem := by
  refine ok_eq ((ok_phi rfl).mpr ?_)
  unfold m__law_let
  walk_at "ww"
  simp only [ixd2, ixd3, ixd4, ok_ok]
  walk_at "ww"
  have el : letB p.b x y = (decide (p.bound < x + y) || (if p.looks = ("own" : Str) then decide (p.low ≤ x) || decide (p.low ≤ y) else decide (p.low ≤ x) && decide (p.low ≤ y))) := rfl
  by_cases c : p.bound < x + y
  · rw [el, decide_eq_true c]
    walk_at "ww"
  · rw [el, decide_eq_false c]
    walk_at "ww"
    by_cases l : p.looks = ("own" : Str)
    · rw [if_pos l, decide_eq_true l]
      walk_at "ww"
      cases hx : decide (p.low ≤ x) with
      | true => walk_at "ww"
      | false =>
        walk_at "ww"
        try simp only [ixd2, ok_ok, ok_bind]
        try walk_at "ww"
        try simp only [ixd2, ok_ok, ok_bind]
        try walk_at "zz"
    · rw [if_neg l, decide_eq_false l]
      walk_at "ww"
      try simp only [ixd2, ok_ok, ok_bind]
      try walk_at "ww"
      cases hx : decide (p.low ≤ x) with
      | false => walk_at "ww"
      | true =>
        walk_at "ww"
        try simp only [ixd2, ok_ok, ok_bind]
        try walk_at "ww"
        try simp only [ixd2, ok_ok, ok_bind]
        try walk_at "zz"
theorem lpairs_eq {p : Pl} (hp : PlOk p) : S__law_pairs [p.d] mem = .ok (prsD (pairsOf p.b.sums)) mem := by
  have hl := plen hp
  refine ok_eq ((ok_phi rfl).mpr ?_)
  unfold m__law_pairs
  walk_at "ww"
  simp only [lsums_eq hp, ok_ok]
  rw [if_pos (by decide), ok_ok]
  walk_at "ww"
  refine fk_for (fun ds e m => m = mem ∧ ∃ (pre post : List Int) (s3 : Slot), p.b.sums = pre ++ post ∧ ds = post.map .int ∧ e = [.val p.d, .val (.lst (p.b.sums.map .int)), .val (prsD (pre.flatMap fun x => (p.b.sums.filter fun y => decide (x ≤ y)).map fun y => (x, y))), s3, .none]) ?_ ?_ ?_
  · exact ok_of (a := p.b.sums.map .int) (m := mem) rfl ⟨rfl, [], _, _, rfl, rfl, rfl⟩
  · rintro d ds e m ⟨rfl, pre, post, s3, e1, e2, rfl⟩
    cases post with
    | nil => cases e2
    | cons x post =>
      cases e2
      refine ⟨_, rfl, ?_⟩
      walk_at "ww"
      refine ok_of (lc_eq (xs := p.b.sums) (en := .int) (p := fun y => decide (x ≤ y)) (g := fun y => pairD (x, y)) rfl rfl (by rw [sizeLine_eq]; omega) fun y _ => ⟨_, rfl, by walk_at "mm", fun _ => ?_⟩) ?_
      · walk_at "mm"
        rw [if_pos (by decide)]
        rfl
      · have hz : (pre.flatMap fun x => (p.b.sums.filter fun y => decide (x ≤ y)).map fun y => (x, y)).length ≤ pre.length * 15 := by
          clear e1
          induction pre with
          | nil => simp
          | cons z pre ih =>
            have := List.length_filter_le (fun y => decide (z ≤ y)) p.b.sums
            simp only [List.flatMap_cons, List.length_append, List.length_map, List.length_cons, Nat.succ_mul]
            omega
        have hpl : pre.length ≤ 15 := by
          have := congrArg List.length e1
          simp at this
          omega
        have hf := List.length_filter_le (fun y => decide (x ≤ y)) p.b.sums
        unfold prsD
        walk_at "ww"
        rw [if_pos (by simp only [List.length_map]; rw [sizeLine_eq]; omega)]
        walk_at "ww"
        have e3 : ((pre.flatMap fun x => (p.b.sums.filter fun y => decide (x ≤ y)).map fun y => (x, y)).map Vt.pairD ++ (p.b.sums.filter fun y => decide (x ≤ y)).map fun y => Vt.pairD (x, y)) = ((pre ++ [x]).flatMap fun x => (p.b.sums.filter fun y => decide (x ≤ y)).map fun y => (x, y)).map Vt.pairD := by
          rw [List.flatMap_append, List.map_append]
          simp
        rw [e3]
        exact ⟨pre ++ [x], post, ⟨_, by simp [e1], rfl, rfl⟩⟩
  · rintro e m ⟨rfl, pre, post, s3, e1, e2, rfl⟩
    have : post = [] := by cases post with
      | nil => rfl
      | cons _ _ => cases e2
    subst this
    rw [List.append_nil] at e1
    walk_at "ww"
    rw [← e1]
    rfl
theorem lbarred_eq {p : Pl} (hp : PlOk p) : S__law_barred [p.d] mem = .ok (prsD (barredOf p.b p.b.sums)) mem := by
  have hl := plen hp
  have hpr := length_pairsOf p.b.sums
  have : p.b.sums.length * p.b.sums.length ≤ 15 * 15 := Nat.mul_le_mul hl hl
  refine ok_eq ((ok_phi rfl).mpr ?_)
  unfold m__law_barred
  walk_at "ww"
  refine ok_of (lc_eq (xs := pairsOf p.b.sums) (en := pairD) (p := fun q => !letB p.b q.1 q.2) (g := pairD) (by walk_at "mm"; simp only [lpairs_eq hp]; rfl) rfl (by rw [sizeLine_eq]; omega) fun q _ => ⟨_, rfl, ?_, fun _ => rfl⟩) ?_
  · walk_at "mm"
    simp only [ix_pair0, ix_pair1]
    walk_at "mm"
    simp only [llet_eq]
    walk_at "mm"
  · exact ⟨rfl, rfl⟩
theorem lbut_eq {p : Pl} {l b : Int} : S__law_but [p.d, .int l, .int b] mem = .ok ({ p with low := l, bound := b } : Pl).d mem := by
  refine ok_eq ((ok_phi rfl).mpr ?_)
  unfold m__law_but
  have e1 : mSeq (mOwnD 3 (mVar 0)) (mSeq (mPutD 3 (mVar 1) (mC (.str "low"))) (mSeq (mPutD 3 (mVar 2) (mC (.str "bound"))) (mFrzD 3 (mRet (mVar 3))))) (env0 4 [p.d, .int l, .int b]) mem = .ret ({ p with low := l, bound := b } : Pl).d mem := by rfl
  rw [e1]
  exact ⟨rfl, rfl⟩
end
/-! ### the first setting that bars the same pairs -/
theorem foldl_max (ns : List Int) : ∀ n : Int, n ≤ ns.foldl max n ∧ (∀ x ∈ ns, x ≤ ns.foldl max n) ∧ (ns.foldl max n = n ∨ ns.foldl max n ∈ ns) := by
  induction ns with
  | nil => intro n; exact ⟨Int.le_refl _, fun _ h => (nomatch h), .inl rfl⟩
  | cons a r ih =>
    intro n
    obtain ⟨h1, h2, h3⟩ := ih (max n a)
    refine ⟨by show n ≤ r.foldl max (max n a); omega, fun x hx => ?_, ?_⟩
    · rcases List.mem_cons.mp hx with rfl | hx
      · show x ≤ r.foldl max (max n x); omega
      · exact h2 x hx
    · show r.foldl max (max n a) = n ∨ r.foldl max (max n a) ∈ a :: r
      rcases h3 with h3 | h3
      · rw [h3]
        by_cases c : n ≤ a
        · right; rw [Int.max_eq_right c]; exact List.mem_cons_self
        · left; omega
      · right; exact List.mem_cons_of_mem _ h3
theorem maxL_mem {xs : List Int} (h : xs ≠ []) : maxL xs ∈ xs := by
  cases xs with
  | nil => exact absurd rfl h
  | cons n ns =>
    rcases (foldl_max ns n).2.2 with e | e
    · show ns.foldl max n ∈ _; rw [e]; exact List.mem_cons_self
    · exact List.mem_cons_of_mem _ e
theorem le_maxL {xs : List Int} {x : Int} (h : x ∈ xs) : x ≤ maxL xs := by
  cases xs with
  | nil => cases h
  | cons n ns =>
    rcases List.mem_cons.mp h with e | e
    · subst e; exact (foldl_max ns x).1
    · exact (foldl_max ns n).2.1 x e
def selP (looks : Str) (p : Int × Int) : Int := if looks = ("own" : Str) then p.2 else p.1
theorem let_iff {b : Bk} {p : Int × Int} (h : p.1 ≤ p.2) : letB b p.1 p.2 = false ↔ p.1 + p.2 ≤ b.bound ∧ selP b.looks p < b.low := by
  unfold letB selP
  by_cases l : b.looks = ("own" : Str)
  · simp only [l, if_true, Bool.or_eq_false_iff, decide_eq_false_iff_not]
    omega
  · simp only [l, if_false, Bool.or_eq_false_iff, decide_eq_false_iff_not, Bool.and_eq_false_iff]
    omega
theorem mem_barred {b : Bk} {xs : List Int} {p : Int × Int} : p ∈ barredOf b xs ↔ p ∈ pairsOf xs ∧ p.1 + p.2 ≤ b.bound ∧ selP b.looks p < b.low := by
  unfold barredOf
  rw [List.mem_filter]
  constructor
  · rintro ⟨h1, h2⟩
    have := (mem_pairsOf.mp h1).2.2
    exact ⟨h1, (let_iff this).mp (by simpa using h2)⟩
  · rintro ⟨h1, h2⟩
    have := (mem_pairsOf.mp h1).2.2
    exact ⟨h1, by simp [(let_iff this).mpr h2]⟩
theorem barred_eq_iff {b c : Bk} {xs : List Int} : barredOf b xs = barredOf c xs ↔ ∀ p ∈ pairsOf xs, letB b p.1 p.2 = letB c p.1 p.2 := by
  unfold barredOf
  constructor
  · intro h p hp
    have h1 := List.mem_filter (p := fun p : Int × Int => !letB b p.1 p.2) (x := p) (as := pairsOf xs)
    have h2 := List.mem_filter (p := fun p : Int × Int => !letB c p.1 p.2) (x := p) (as := pairsOf xs)
    rw [h, h2] at h1
    simp only [hp, true_and] at h1
    cases e1 : letB b p.1 p.2 <;> cases e2 : letB c p.1 p.2 <;> simp [e1, e2] at h1 ⊢
  · intro h
    exact List.filter_congr fun p hp => by rw [h p hp]
theorem sums_pos {room : Int} {xs : List Int} {t : Int} (h : t ∈ sumsOf room xs) : 1 ≤ t := (mem_sumsOf.mp h).1.1
/-- the plain form bars the same pairs -/
theorem plain_same {b c : Bk} {xs : List Int} (hpos : ∀ x ∈ xs, 1 ≤ x) (hl : c.looks = b.looks) (h1 : c.low = (plainOf b.looks (barredOf b xs)).1) (h2 : c.bound = (plainOf b.looks (barredOf b xs)).2) : barredOf c xs = barredOf b xs := by
  rw [barred_eq_iff]
  intro p hp
  have hle := (mem_pairsOf.mp hp).2.2
  rw [Bool.eq_iff_iff, ← Bool.not_eq_false, ← Bool.not_eq_false, let_iff hle, let_iff hle, hl, h1, h2]
  unfold plainOf
  by_cases c0 : barredOf b xs = []
  · rw [if_pos c0]
    have hp1 := hpos _ (mem_pairsOf.mp hp).1
    have hno : ¬ (p.1 + p.2 ≤ b.bound ∧ selP b.looks p < b.low) := fun z => by
      have := mem_barred.mpr ⟨hp, z⟩
      rw [c0] at this
      cases this
    simp only [hno, not_false_eq_true, iff_true]
    omega
  · rw [if_neg c0]
    have hs : (fun p : Int × Int => if b.looks = ("own" : Str) then p.2 else p.1) = selP b.looks := rfl
    rw [hs]
    have n1 : (barredOf b xs).map (selP b.looks) ≠ [] := by simpa using c0
    have n2 : ((barredOf b xs).map fun p => p.1 + p.2) ≠ [] := by simpa using c0
    obtain ⟨q1, hq1, e1⟩ := List.mem_map.mp (maxL_mem n1)
    obtain ⟨q2, hq2, e2⟩ := List.mem_map.mp (maxL_mem n2)
    have m1 := (mem_barred.mp hq1).2
    have m2 := (mem_barred.mp hq2).2
    refine not_congr ⟨fun z => ?_, fun z => ?_⟩
    · have z1 := z.1
      have z2 := z.2
      simp only at z1 z2
      omega
    · have hb := mem_barred.mpr ⟨hp, z⟩
      have g1 := le_maxL (List.mem_map_of_mem (f := selP b.looks) hb)
      have g2 := le_maxL (List.mem_map_of_mem (f := fun p : Int × Int => p.1 + p.2) hb)
      simp only at g1 g2 ⊢
      omega
/-- .. and is the least that does -/
theorem plain_least {b c : Bk} {xs : List Int} (hl : c.looks = b.looks) (h0 : 0 ≤ c.low) (h1 : 0 ≤ c.bound) (h : barredOf c xs = barredOf b xs) : (plainOf b.looks (barredOf b xs)).1 ≤ c.low ∧ (plainOf b.looks (barredOf b xs)).2 ≤ c.bound := by
  unfold plainOf
  by_cases c0 : barredOf b xs = []
  · rw [if_pos c0]; exact ⟨h0, h1⟩
  · rw [if_neg c0]
    have hs : (fun p : Int × Int => if b.looks = ("own" : Str) then p.2 else p.1) = selP b.looks := rfl
    rw [hs]
    have n1 : (barredOf b xs).map (selP b.looks) ≠ [] := by simpa using c0
    have n2 : ((barredOf b xs).map fun p => p.1 + p.2) ≠ [] := by simpa using c0
    obtain ⟨q1, hq1, e1⟩ := List.mem_map.mp (maxL_mem n1)
    obtain ⟨q2, hq2, e2⟩ := List.mem_map.mp (maxL_mem n2)
    rw [← h] at hq1 hq2
    have m1 := (mem_barred.mp hq1).2
    have m2 := (mem_barred.mp hq2).2
    rw [hl] at m1
    simp only
    omega
theorem plain_bds {b : Bk} {xs : List Int} (h0 : 0 ≤ b.low) (h1 : 0 ≤ b.bound) (hpos : ∀ x ∈ xs, 1 ≤ x) : 0 ≤ (plainOf b.looks (barredOf b xs)).1 ∧ (plainOf b.looks (barredOf b xs)).1 ≤ b.low ∧ 0 ≤ (plainOf b.looks (barredOf b xs)).2 ∧ (plainOf b.looks (barredOf b xs)).2 ≤ b.bound := by
  have hm := plain_least (b := b) (c := b) (xs := xs) rfl h0 h1 rfl
  refine ⟨?_, hm.1, ?_, hm.2⟩
  all_goals
    unfold plainOf
    by_cases c0 : barredOf b xs = []
    · rw [if_pos c0]; exact Int.le_refl _
    · rw [if_neg c0]
      have hs : (fun p : Int × Int => if b.looks = ("own" : Str) then p.2 else p.1) = selP b.looks := rfl
      rw [hs]
      have n1 : (barredOf b xs).map (selP b.looks) ≠ [] := by simpa using c0
      have n2 : ((barredOf b xs).map fun p => p.1 + p.2) ≠ [] := by simpa using c0
      obtain ⟨q1, hq1, e1⟩ := List.mem_map.mp (maxL_mem n1)
      obtain ⟨q2, hq2, e2⟩ := List.mem_map.mp (maxL_mem n2)
      obtain ⟨a1, a2, a3⟩ := mem_pairsOf.mp (mem_barred.mp hq1).1
      obtain ⟨c1, c2, c3⟩ := mem_pairsOf.mp (mem_barred.mp hq2).1
      have p1 := hpos _ a1
      have p2 := hpos _ a2
      have p3 := hpos _ c1
      have p4 := hpos _ c2
      have s1 : 1 ≤ selP b.looks q1 := by unfold selP; split <;> assumption
      simp only
      omega
/-! the first that is found -/
def settsOf (R : Nat) : List (Int × Int) := (List.range (R + 2)).flatMap fun (l : Nat) => (List.range (R + 1)).map fun (b : Nat) => ((l : Int), (b : Int))
def Lex (s t : Int × Int) : Prop := s.1 < t.1 ∨ (s.1 = t.1 ∧ s.2 < t.2)
theorem lex_setts (R : Nat) : (settsOf R).Pairwise Lex := by
  unfold settsOf
  rw [List.pairwise_flatMap]
  refine ⟨fun l _ => ?_, List.pairwise_lt_range.imp fun {l l'} h x hx y hy => ?_⟩
  · rw [List.pairwise_map]
    exact List.pairwise_lt_range.imp fun h => .inr ⟨rfl, by omega⟩
  · obtain ⟨b, _, rfl⟩ := List.mem_map.mp hx
    obtain ⟨b', _, rfl⟩ := List.mem_map.mp hy
    exact .inl (by show (l : Int) < (l' : Int); omega)
theorem mem_setts {R : Nat} {s : Int × Int} : s ∈ settsOf R ↔ (0 ≤ s.1 ∧ s.1 ≤ R + 1) ∧ 0 ≤ s.2 ∧ s.2 ≤ R := by
  obtain ⟨a, b⟩ := s
  unfold settsOf
  simp only [List.mem_flatMap, List.mem_map, List.mem_range, Prod.mk.injEq]
  constructor
  · rintro ⟨l, hl, b', hb, rfl, rfl⟩
    omega
  · rintro ⟨⟨h1, h2⟩, h3, h4⟩
    exact ⟨a.toNat, by omega, b.toNat, by omega, by omega, by omega⟩
theorem first_of {α : Type} {r : α → α → Prop} {P : α → Bool} {s0 : α} : ∀ {xs : List α}, xs.Pairwise r → s0 ∈ xs → P s0 = true → (∀ s ∈ xs, P s = true → ¬ r s s0) → ∃ t, xs.filter P = s0 :: t
  | [], _, h, _, _ => nomatch h
  | x :: xs, hp, h, h0, hm => by
    obtain ⟨h1, h2⟩ := List.pairwise_cons.mp hp
    rcases List.mem_cons.mp h with e | h
    · subst e
      exact ⟨xs.filter P, by rw [List.filter_cons, if_pos h0]⟩
    · have : ¬ P x = true := fun hx => hm x List.mem_cons_self hx (h1 s0 h)
      obtain ⟨t, ht⟩ := first_of h2 h h0 fun s hs => hm s (List.mem_cons_of_mem _ hs)
      exact ⟨t, by rw [List.filter_cons, if_neg this]; exact ht⟩
def Pl.at (p : Pl) (s : Int × Int) : Pl := { p with low := s.1, bound := s.2 }
noncomputable def barAt (p : Pl) (s : Int × Int) : List (Int × Int) := barredOf (p.at s).b p.b.sums
theorem first_plain {p : Pl} (hp : PlOk p) {R : Nat} (hR : p.room = R) : ∃ t, (settsOf R).filter (fun s => decide (barAt p s = barredOf p.b p.b.sums)) = plainOf p.looks (barredOf p.b p.b.sums) :: t := by
  have hpos : ∀ x ∈ p.b.sums, 1 ≤ x := fun x hx => sums_pos hx
  obtain ⟨g1, g2, g3, g4⟩ := plain_bds (b := p.b) (xs := p.b.sums) hp.l1 hp.b1 hpos
  have l2 := hp.l2
  have b2 := hp.b2
  have e1 : p.b.looks = p.looks := rfl
  have e2 : p.b.low = p.low := rfl
  have e3 : p.b.bound = p.bound := rfl
  rw [e1] at g1 g2 g3 g4
  rw [e2] at g2
  rw [e3] at g4
  refine first_of (r := Lex) (lex_setts R) (mem_setts.mpr ⟨⟨g1, by omega⟩, g3, by omega⟩) ?_ fun s hs hP => ?_
  · exact decide_eq_true (plain_same (b := p.b) hpos rfl rfl rfl)
  · obtain ⟨⟨s1, _⟩, s3, _⟩ := mem_setts.mp hs
    have := plain_least (b := p.b) (c := (p.at s).b) (xs := p.b.sums) rfl s1 s3 (of_decide_eq_true hP)
    have k1 : (plainOf p.looks (barredOf p.b p.b.sums)).1 ≤ s.1 := this.1
    have k2 : (plainOf p.looks (barredOf p.b p.b.sums)).2 ≤ s.2 := this.2
    unfold Lex
    omega
noncomputable def enS (p : Pl) (s : Int × Int) : D := .tup [.int s.1, .int s.2, prsD (barAt p s)]
theorem at_ok {p : Pl} (hp : PlOk p) {s : Int × Int} (h : (0 ≤ s.1 ∧ s.1 ≤ p.room + 1) ∧ 0 ≤ s.2 ∧ s.2 ≤ p.room) : PlOk (p.at s) :=
  ⟨hp.r1, hp.r2, hp.ne, hp.nd, hp.four, hp.fit, h.1.1, h.1.2, h.2.1, h.2.2, hp.lk⟩
def rowS (R l : Nat) : List (Int × Int) := (List.range (R + 1)).map fun (b : Nat) => ((l : Int), (b : Int))
theorem flat_snoc (R k : Nat) : ((List.range (k + 1)).flatMap (rowS R)) = ((List.range k).flatMap (rowS R)) ++ rowS R k := by
  rw [List.range_succ, List.flatMap_append]
  simp
theorem drop_range {R k : Nat} (h : k < R) : (List.range R).drop k = k :: (List.range R).drop (k + 1) := by
  rw [List.drop_eq_getElem_cons (by simpa using h)]
  simp
theorem drop_range_nil {R k : Nat} (h : ¬ k < R) : (List.range R).drop k = [] := List.drop_eq_nil_of_le (by simp; omega)
section
variable {mem : List MO}
theorem lsettings_eq {p : Pl} (hp : PlOk p) {R : Nat} (hR : p.room = R) : S__law_settings [p.d] mem = .ok (.lst ((settsOf R).map (enS p))) mem := by
  have r2 := hp.r2
  have flen : ∀ k : Nat, k ≤ 17 → (((List.range k).flatMap (rowS R)).map (enS p)).length ≤ k * 16 := fun k hk => by
    rw [List.length_map]
    induction k with
    | zero => simp
    | succ k ih =>
      have := ih (by omega)
      rw [flat_snoc, List.length_append]
      have hr : (rowS R k).length = R + 1 := by simp [rowS]
      omega
  refine ok_eq ((ok_phi rfl).mpr ?_)
  unfold m__law_settings
  walk_at "ww"
  rw [if_pos (by decide)]
  walk_at "ww"
  refine fk_for (fun ds e m => m = mem ∧ ∃ (k : Nat) (s2 s3 : Slot), k ≤ R + 2 ∧ ds = ((List.range (R + 2)).drop k).map (fun j => D.int (0 + (j : Nat))) ∧ e = [.val p.d, .own (.lst (((List.range k).flatMap (rowS R)).map (enS p))), s2, s3]) ?_ ?_ ?_
  · unfold mRng1
    walk_at "ww"
    simp only [ixd0, ok_ok]
    walk_at "ww"
    simp only [rng1_eq (j := p.room + 2) (by omega) (by omega), ok_ok]
    refine ⟨trivial, 0, _, _, by omega, ?_, rfl⟩
    have : (p.room + 2).toNat = R + 2 := by omega
    rw [this]
    rfl
  · rintro d ds e m ⟨rfl, k, s2, s3, hk, e1, rfl⟩
    by_cases hlt : k < R + 2
    case neg => rw [drop_range_nil hlt] at e1; cases e1
    rw [drop_range hlt, List.map_cons] at e1
    obtain ⟨rfl, rfl⟩ := List.cons.inj e1
    refine ⟨_, rfl, ?_⟩
    have hfl := flen k (by omega)
    refine fk_for (fun ds e m' => m' = m ∧ ∃ (j : Nat) (s3 : Slot), j ≤ R + 1 ∧ ds = ((List.range (R + 1)).drop j).map (fun j => D.int (0 + (j : Nat))) ∧ e = [.val p.d, .own (.lst (((List.range k).flatMap (rowS R)).map (enS p) ++ (List.range j).map fun (b : Nat) => enS p ((k : Int), (b : Int)))), .val (.int (0 + (k : Nat))), s3]) ?_ ?_ ?_
    · unfold mRng1
      walk_at "ww"
      simp only [ixd0, ok_ok]
      walk_at "ww"
      simp only [rng1_eq (j := p.room + 1) (by omega) (by omega), ok_ok]
      refine ⟨trivial, 0, _, by omega, ?_, by simp; rfl⟩
      have : (p.room + 1).toNat = R + 1 := by omega
      rw [this]
      rfl
    · rintro d ds2 e m2 ⟨rfl, j, s3, hj, e2, rfl⟩
      by_cases hlt2 : j < R + 1
      case neg => rw [drop_range_nil hlt2] at e2; cases e2
      rw [drop_range hlt2, List.map_cons] at e2
      obtain ⟨rfl, rfl⟩ := List.cons.inj e2
      refine ⟨_, rfl, ?_⟩
      have hb := lbarred_eq (mem := m2) (p := p.at ((k : Int), (j : Int))) (at_ok hp ⟨⟨by show (0 : Int) ≤ k; omega, by show (k : Int) ≤ p.room + 1; omega⟩, by show (0 : Int) ≤ j; omega, by show (j : Int) ≤ p.room; omega⟩)
      have hbut : S__law_but [p.d, .int ((k : Nat) : Int), .int ((j : Nat) : Int)] m2 = .ok (p.at ((k : Int), (j : Int))).d m2 := lbut_eq
      walk_at "ww"
      simp only [Int.zero_add, hbut, hb, ok_ok]
      rw [if_pos (by decide), ok_ok]
      rw [if_pos (by simp only [List.length_append, List.length_map, List.length_range] at hfl ⊢; rw [sizeLine_eq]; omega)]
      walk_at "ww"
      have e4 : (((List.range k).flatMap (rowS R)).map (enS p) ++ ((List.range j).map fun (b : Nat) => enS p ((k : Int), (b : Int))) ++ [D.tup [D.int (k : Int), D.int (j : Int), prsD (barredOf (p.at ((k : Int), (j : Int))).b (p.at ((k : Int), (j : Int))).b.sums)]]) =
          ((List.range k).flatMap (rowS R)).map (enS p) ++ (List.range (j + 1)).map fun (b : Nat) => enS p ((k : Int), (b : Int)) := by
        rw [List.range_succ, List.map_append, List.append_assoc]
        rfl
      rw [e4]
      exact ⟨j + 1, _, by omega, rfl, rfl⟩
    · rintro e m2 ⟨rfl, j, s3, hj, e2, rfl⟩
      have : j = R + 1 := by
        by_cases hlt2 : j < R + 1
        · rw [drop_range hlt2] at e2; cases e2
        · omega
      subst this
      have e4 : (((List.range k).flatMap (rowS R)).map (enS p) ++ (List.range (R + 1)).map fun (b : Nat) => enS p ((k : Int), (b : Int))) = ((List.range (k + 1)).flatMap (rowS R)).map (enS p) := by
        rw [flat_snoc, List.map_append]
        unfold rowS
        rw [List.map_map]
        rfl
      rw [e4]
      exact ⟨rfl, k + 1, _, _, by omega, rfl, rfl⟩
  · rintro e m ⟨rfl, k, s2, s3, hk, e1, rfl⟩
    have : k = R + 2 := by
      by_cases hlt : k < R + 2
      · rw [drop_range hlt] at e1; cases e1
      · omega
    subst this
    walk_at "ww"
    rfl
theorem lform_eq {p : Pl} {ss : List (Int × Int)} {B : List (Int × Int)} {s0 : Int × Int} {t : List (Int × Int)} (hl : ss.length ≤ 4000) (h : ss.filter (fun s => decide (barAt p s = B)) = s0 :: t) : S__law_plain_form [.lst (ss.map (enS p)), prsD B] mem = .ok (pairD s0) mem := by
  refine ok_eq ((ok_phi rfl).mpr ?_)
  unfold m__law_plain_form
  walk_at "ww"
  refine ok_of (lc_eq (xs := ss) (en := enS p) (p := fun s => decide (barAt p s = B)) (g := pairD) rfl rfl (by rw [sizeLine_eq]; omega) fun s _ => ⟨_, rfl, ?_, fun _ => ?_⟩) ?_
  · walk_at "mm"
    simp only [dEq_prs]
    walk_at "mm"
  · walk_at "mm"
    rw [if_pos (by decide)]
    rfl
  · rw [h]
    have : dIx [.lst ((s0 :: t).map pairD), .int 0] = some (pairD s0) := atI_zero _ _
    simp only [this, ok_ok]
    walk_at "zz"
end
/-! ### drawn chains -/
structure LCh (p : Pl) (ps : List (List Int)) : Prop where
  ne : ps ≠ []
  four : ps.length ≤ 4
  pg : ∀ r ∈ ps, r ≠ [] ∧ r.length ≤ 5 ∧ (∀ x ∈ r, x ∈ p.ls) ∧ r.sum ≤ p.room
theorem lch_ok {p : Pl} (hp : PlOk p) {ps : List (List Int)} (h : LCh p ps) : ChOk ps := by
  obtain ⟨least, k1, hm, hb⟩ := hp.fit
  have r2 := hp.r2
  refine ⟨h.ne, by have := h.four; omega, fun r hr => ?_⟩
  obtain ⟨h1, h2, h3, _⟩ := h.pg r hr
  exact ⟨h1, by omega, fun x hx => by have := hb x (h3 x hx); omega⟩
theorem rep_sum {xs : List Int} : ∀ {r : List Int}, r ≠ [] → (∀ x ∈ r, x ∈ xs) → Rep xs r.sum
  | [], h, _ => absurd rfl h
  | [x], _, h => by simpa using Rep.one (h x List.mem_cons_self)
  | x :: y :: r, _, h => by
    have := Rep.add (rep_sum (r := y :: r) (by simp) fun z hz => h z (List.mem_cons_of_mem _ hz)) (h x List.mem_cons_self)
    rw [Int.add_comm] at this
    exact this
theorem sum_pos {r : List Int} (h0 : r ≠ []) (h : ∀ x ∈ r, 1 ≤ x) : 1 ≤ r.sum := (rep_sum (xs := r) h0 fun _ h => h).pos h
theorem lch_sums {p : Pl} (hp : PlOk p) {ps : List (List Int)} (h : LCh p ps) {c s : Str} : ∀ t ∈ tots ps, t ∈ (p.bk c s).sums := by
  intro t ht
  obtain ⟨r, hr, rfl⟩ := List.mem_map.mp ht
  obtain ⟨h1, h2, h3, h4⟩ := h.pg r hr
  obtain ⟨least, k1, hm, hb⟩ := hp.fit
  have hs : (p.bk c s).sums = sumsOf p.room p.ls := sums_cong (fun x => mem_sortI) _
  rw [hs]
  exact mem_sumsOf.mpr ⟨⟨sum_pos h1 fun x hx => by have := hb x (h3 x hx); omega, h4⟩, rep_sum h1 h3⟩
theorem lch_fit {p : Pl} {ps : List (List Int)} (h : LCh p ps) {c s : Str} : fitB (p.bk c s) ps = true := by
  unfold fitB
  rw [Bool.and_eq_true, List.all_eq_true, List.all_eq_true]
  refine ⟨fun x hx => ?_, fun t ht => ?_⟩
  · obtain ⟨r, hr, hxr⟩ := List.mem_flatten.mp hx
    exact decide_eq_true (mem_sortI.mpr ((h.pg r hr).2.2.1 x hxr))
  · obtain ⟨r, hr, rfl⟩ := List.mem_map.mp ht
    exact decide_eq_true (h.pg r hr).2.2.2
theorem strsOf_map : ∀ ws : List Str, strsOf (ws.map .str) = some ws
  | [] => rfl
  | w :: ws => by simp [strsOf, strsOf_map ws]
theorem dJoin_gen {a : Str} {ws : List Str} {k : Nat} (h : ∀ w ∈ ws, w.length ≤ k) (hl : ws.length * (k + a.length) ≤ 16777216) : dJoin [.str a, .lst (ws.map .str)] = some (.str (Txt.join a ws)) := by
  have h2 := StrLaws.sumLen_le ws h
  unfold dJoin joinArg
  simp only [strsOf_map, Option.bind_some]
  rw [Nat.mul_add] at hl
  exact if_pos (by omega)
theorem slash3 : (" / " : Str) = SP ++ ("/" : Str) ++ SP := by decide +kernel
section
variable {rest mem : List MO}
theorem chain_ok {p : Pl} {n : Nat} (hp : PlOk p) (h : PenM rest n mem) (hn : n ≤ 900000) : Ok (S__law_chain [.hnd 0, p.d] mem) fun d m => (∃ ps, LCh p ps ∧ d = chD ps) ∧ PenM rest (n + 40) m := by
  obtain ⟨least, k1, hm, hb⟩ := hp.fit
  have r1 := hp.r1
  have r2 := hp.r2
  have hne := hp.ne
  have h4 := hp.four
  refine (ok_phi rfl).mpr ?_
  unfold m__law_chain
  walk_at "ww"
  rw [if_pos (by decide)]
  walk_at "ww"
  refine fk_for (fun ds e m => ds.length ≤ 4 ∧ PenM rest (n + 1 + (4 - ds.length) * 6) m ∧ ∃ (ps : List (List Int)) (s3 s4 s5 s6 s7 : Slot), ps.length + ds.length ≤ 4 ∧ (ps ≠ [] ∨ 1 ≤ ds.length) ∧ (∀ r ∈ ps, r ≠ [] ∧ r.length ≤ 5 ∧ (∀ x ∈ r, x ∈ p.ls) ∧ r.sum ≤ p.room) ∧ (s4 = .none ∨ ∃ d, s4 = .val d) ∧
    e = [.val (.hnd 0), .val p.d, .own (.lst (ps.map rowD)), s3, s4, s5, s6, s7, .none]) ?_ ?_ ?_
  · unfold mRng1
    walk_at "ww"
    refine (draw_ok (many := 4) h (by omega) (by omega) (by omega)).imp fun d m hd => ?_
    obtain ⟨⟨t, rfl, t0, t1⟩, h⟩ := hd
    walk_at "ww"
    simp only [rng1_eq (j := 1 + t) (by omega) (by omega), ok_ok, List.length_map, List.length_range]
    exact ⟨by omega, h.mono (by omega), [], _, _, _, _, _, by simp; omega, .inr (by omega), fun _ h => (nomatch h), .inl rfl, rfl⟩
  · rintro d ds e m ⟨hl, h, ps, s3, s4, s5, s6, s7, hz, hz2, hps, -, rfl⟩
    rw [List.length_cons] at hl h hz
    refine ⟨_, rfl, ?_⟩
    walk_at "ww"
    rw [if_pos (by decide), ok_ok]
    rw [if_pos (by decide), ok_ok]
    walk_at "ww"
    refine fk_for (fun es e m => es.length ≤ 5 ∧ PenM rest (n + 1 + (4 - (ds.length + 1)) * 6 + 1 + (5 - es.length)) m ∧ ∃ (r : List Int) (s6 s7 : Slot), r.length + es.length ≤ 5 ∧ (r ≠ [] ∨ 1 ≤ es.length) ∧ (∀ x ∈ r, x ∈ p.ls) ∧ r.sum ≤ p.room ∧
      e = [.val (.hnd 0), .val p.d, .own (.lst (ps.map rowD)), .val d, .val (rowD r), .val (.int r.sum), s6, s7, .none]) ?_ ?_ ?_
    · unfold mRng1
      walk_at "ww"
      refine (draw_ok (many := 5) h (by omega) (by omega) (by omega)).imp fun d m hd => ?_
      obtain ⟨⟨t, rfl, t0, t1⟩, h⟩ := hd
      walk_at "ww"
      simp only [rng1_eq (j := 1 + t) (by omega) (by omega), ok_ok, List.length_map, List.length_range]
      exact ⟨by omega, h.mono (by omega), [], _, _, by simp; omega, .inr (by omega), fun _ h => (nomatch h), by simp; omega, rfl⟩
    · rintro d2 es e m ⟨hl2, h, r, s6, s7, hr, hr2, hrl, hrs, rfl⟩
      rw [List.length_cons] at hl2 h hr
      refine ⟨_, rfl, ?_⟩
      unfold rowD
      walk_at "ww"
      simp only [ixd1, ok_ok]
      refine (pick_ok h (by simpa using hne) (by simp; omega) (by omega)).imp fun d m hd => ?_
      obtain ⟨hd, h⟩ := hd
      obtain ⟨x, hx, rfl⟩ := List.mem_map.mp hd
      have hxb := hb x hx
      walk_at "ww"
      simp only [ixd0, ok_ok]
      walk_at "ww"
      by_cases c : r.sum + x ≤ p.room
      · rw [decide_eq_true c]
        walk_at "ww"
        rw [if_pos (by decide), ok_ok]
        walk_at "ww"
        rw [if_pos (by simp [sizeLine_eq]; omega), ok_ok]
        try walk_at "ww"
        have e1 : r.map D.int ++ [D.int x] = (r ++ [x]).map .int := by simp
        have e2 : r.sum + x = (r ++ [x]).sum := by simp
        rw [e1, e2]
        refine ⟨by omega, h.mono (by omega), r ++ [x], _, _, by simp; omega, .inl (by simp), fun y hy => ?_, by simpa using c, rfl⟩
        rcases List.mem_append.mp hy with q | q
        · exact hrl y q
        · have : y = x := by simpa using q
          rw [this]; exact hx
      · rw [decide_eq_false c]
        walk_at "ww"
        have hrn : r ≠ [] := fun e => by
          subst e
          simp at c
          omega
        exact ⟨by omega, h.mono (by omega), r, _, _, by omega, .inl hrn, hrl, hrs, rfl⟩
    · rintro e m ⟨-, h, r, s6, s7, hr, hr2, hrl, hrs, rfl⟩
      simp only [List.length_nil, Nat.sub_zero] at h hr hr2
      have hrn : r ≠ [] := by
        rcases hr2 with q | q
        · exact q
        · omega
      walk_at "ww"
      rw [if_pos (by simp [sizeLine_eq]; omega)]
      walk_at "ww"
      have e1 : ps.map rowD ++ [rowD r] = (ps ++ [r]).map rowD := by simp
      rw [e1]
      refine ⟨by omega, h.mono (by omega), ps ++ [r], _, _, _, _, _, by simp; omega, .inl (by simp), fun q hq => ?_, .inr ⟨_, rfl⟩, rfl⟩
      rcases List.mem_append.mp hq with z | z
      · exact hps q z
      · have : q = r := by simpa using z
        rw [this]; exact ⟨hrn, by omega, hrl, hrs⟩
  · rintro e m ⟨-, h, ps, s3, s4, s5, s6, s7, hz, hz2, hps, hs4, rfl⟩
    simp only [List.length_nil, Nat.sub_zero, Nat.add_zero] at h hz hz2
    have hpn : ps ≠ [] := by
      rcases hz2 with q | q
      · exact q
      · omega
    have hl : LCh p ps := ⟨hpn, hz, hps⟩
    have hc := lch_ok hp hl
    have hno : noOwn [.val (.hnd 0), .val p.d, .val (.lst (ps.map rowD)), s3, s4, s5, s6, s7, .none] [4] = true := by rcases hs4 with e | ⟨d, e⟩ <;> rw [e] <;> rfl
    walk_at "ww"
    unfold mM1
    walk_at "ww"
    have hw : ∀ r ∈ ps, ∀ w ∈ r.map numS, w.length ≤ 7 := fun r hr w hw => by
      obtain ⟨x, hx, rfl⟩ := List.mem_map.mp hw
      have := (hc.pg r hr).2.2 x hx
      have := (num_ok (n := x) (by omega) (by omega)).le
      omega
    refine ok_of (lc_map (xs := ps) (en := rowD) (g := fun r => .str (Txt.join SP (r.map numS))) rfl hno (by rw [sizeLine_eq]; omega) fun r hr => ⟨_, rfl, ?_⟩) ?_
    · obtain ⟨g1, g2, g3, g4⟩ := hps r hr
      walk_at "mm"
      have e1 : mLc (.nm 8) (mItT (mVar 4)) mYes (mFun (lf dStr) (mCons (mVar 8) mNil)) [8] [.val (.hnd 0), .val p.d, .val (.lst (ps.map rowD)), s3, .val (rowD r), s5, s6, s7, .none] m = .ok (.lst ((r.map numS).map .str)) m := by
        rw [List.map_map]
        refine lc_map (xs := r) (en := .int) (g := D.str ∘ numS) rfl rfl (by rw [sizeLine_eq]; omega) fun x hx => ⟨_, rfl, ?_⟩
        have := (hc.pg r hr).2.2 x hx
        walk_at "mm"
        simp only [dStr_num (show 0 ≤ x by omega) (by omega)]
        rfl
      simp only [e1, sp_eq]
      rw [dJoin_gen (k := 7) (hw r hr) (by simp [Str.length]; omega)]
    · have e2 : ps.map (fun r => D.str (Txt.join SP (r.map numS))) = (ps.map fun r => Txt.join SP (r.map numS)).map .str := by rw [List.map_map]; rfl
      rw [e2, slash3, dJoin_gen (k := 40) (fun w hw' => by
        obtain ⟨r, hr, rfl⟩ := List.mem_map.mp hw'
        have := join_le (n := 5) (k := 7) (hw r hr) (by have := (hps r hr).2.1; simpa using this)
        omega) (by
        have : (SP ++ ("/" : Str) ++ SP).length = 3 := by decide +kernel
        rw [this, List.length_map]
        omega)]
      have e3 : Txt.join (SP ++ ("/" : Str) ++ SP) (ps.map fun r => Txt.join SP (r.map numS)) = Txt.join SP (chWords ps) := by
        rw [join_eq, join_eq]
        have := join_inter SP ("/" : Str) (ps := ps.map fun r => r.map numS) (by simpa using hpn) fun q hq => by
          obtain ⟨r, hr, rfl⟩ := List.mem_map.mp hq
          simpa using (hps r hr).1
        rw [List.map_map] at this
        refine Eq.trans ?_ this
        congr 1
        exact List.map_congr_left fun r _ => join_eq _ _
      walk_at "ww"
      rw [e3, Chain_read hc]
      exact ok_ok.mpr ⟨⟨ps, hl, rfl⟩, h.mono (by omega)⟩
end
theorem nbrs_range (ts : List Int) : (List.range (ts.length - 1)).map (fun i => (ts.getD i 0, ts.getD (i + 1) 0)) = nbrs ts := by
  unfold nbrs
  refine List.ext_getElem? fun i => ?_
  rw [List.getElem?_map]
  by_cases h : i < ts.length - 1
  · have h1 : i < ts.length := by omega
    have h2 : i + 1 < ts.length := by omega
    have e1 : (List.range (ts.length - 1))[i]? = some i := by rw [List.getElem?_eq_getElem (by simpa using h)]; simp
    have e2 : (ts.zip (ts.drop 1))[i]? = some (ts[i], ts[i + 1]) := by
      rw [List.getElem?_zip_eq_some]
      refine ⟨List.getElem?_eq_getElem h1, ?_⟩
      rw [List.getElem?_drop, Nat.add_comm, List.getElem?_eq_getElem h2]
    rw [e1, e2]
    simp [List.getElem?_eq_getElem h1, List.getElem?_eq_getElem h2]
  · rw [List.getElem?_eq_none (by simpa using h)]
    rw [List.getElem?_eq_none (by simp; omega)]
    rfl
section
variable {rest mem : List MO}
def prsOf (cs : List (List (List Int))) : List (Int × Int) := cs.flatMap fun c => nbrs (tots c)
theorem lseen_eq {cs : List (List (List Int))} (h : ∀ c ∈ cs, ChOk c ∧ c.length ≤ 4) (hl : cs.length ≤ 3) : S__law_seen [.lst (cs.map chD)] mem = .ok (prsD (prsOf cs)) mem := by
  refine ok_eq ((ok_phi rfl).mpr ?_)
  unfold m__law_seen
  walk_at "ww"
  rw [if_pos (by decide), ok_ok]
  refine fk_for (fun ds e m => m = mem ∧ ∃ (pre post : List (List (List Int))) (s2 s3 : Slot), cs = pre ++ post ∧ ds = post.map chD ∧ (prsOf pre).length ≤ pre.length * 4 ∧ e = [.val (.lst (cs.map chD)), .val (prsD (prsOf pre)), s2, s3, .none, .none]) ?_ ?_ ?_
  · exact ok_of (a := cs.map chD) (m := mem) rfl ⟨rfl, [], _, _, _, rfl, rfl, by simp [prsOf], rfl⟩
  · rintro d ds e m ⟨rfl, pre, post, s2, s3, e1, e2, hz, rfl⟩
    cases post with
    | nil => cases e2
    | cons c post =>
      cases e2
      obtain ⟨hc, hc4⟩ := h c (by rw [e1]; simp)
      have hpl : pre.length ≤ 3 := by have := congrArg List.length e1; simp at this; omega
      refine ⟨_, rfl, ?_⟩
      walk_at "ww"
      refine ok_of (lc_map (xs := c) (en := rowD) (g := fun r => .int r.sum) (by unfold mItOwn chD; walk_at "mm"; try rfl) rfl (by rw [sizeLine_eq]; omega) fun r hr => ⟨_, rfl, ?_⟩) ?_
      · unfold rowD
        walk_at "mm"
        have : dSumT [.tup (r.map .int)] = some (.int r.sum) := by simp [dSumT, intsOf_map]
        simp only [this]
      have et : c.map (fun r => D.int r.sum) = (tots c).map .int := by unfold tots; rw [List.map_map]; rfl
      rw [et]
      have htl : (tots c).length = c.length := by simp [tots]
      have hc0 : 0 < c.length := List.length_pos_iff.mpr hc.ne
      walk_at "ww"
      have e5 : (((tots c).length : Int) - 1).toNat = (tots c).length - 1 := by omega
      refine ok_of (lc_map (xs := List.range ((tots c).length - 1)) (en := fun i => .int (0 + (i : Nat))) (g := fun i => pairD ((tots c).getD i 0, (tots c).getD (i + 1) 0)) ?_ rfl (by rw [List.length_range, sizeLine_eq]; omega) fun i hi => ⟨_, rfl, ?_⟩) ?_
      · unfold mRng1
        walk_at "mm"
        simp only [List.length_map, rng1_eq (j := ((tots c).length : Int) - 1) (by omega) (by omega), e5]
      · have := List.mem_range.mp hi
        have h1 : i < (tots c).length := by omega
        have h2 : i + 1 < (tots c).length := by omega
        have i1 : dIx [.lst ((tots c).map .int), .int (i : Int)] = some (.int ((tots c).getD i 0)) := by
          refine atI_at (by omega) ?_
          rw [Int.toNat_natCast, List.getElem?_map, List.getElem?_eq_getElem h1]
          simp [List.getElem?_eq_getElem h1]
        have i2 : dIx [.lst ((tots c).map .int), .int ((i : Int) + 1)] = some (.int ((tots c).getD (i + 1) 0)) := by
          refine atI_at (by omega) ?_
          have : ((i : Int) + 1).toNat = i + 1 := by omega
          rw [this, List.getElem?_map, List.getElem?_eq_getElem h2]
          simp [List.getElem?_eq_getElem h2]
        walk_at "mm"
        simp only [Int.zero_add, i1, i2]
        walk_at "mm"
        rw [if_pos (by decide)]
        rfl
      · have em : (List.range ((tots c).length - 1)).map (fun i => pairD ((tots c).getD i 0, (tots c).getD (i + 1) 0)) = (nbrs (tots c)).map Vt.pairD := by
          rw [← nbrs_range, List.map_map]
          rfl
        rw [em]
        have hn : (nbrs (tots c)).length ≤ 4 := by unfold nbrs; rw [List.length_zip]; omega
        unfold prsD
        walk_at "ww"
        rw [if_pos (by simp only [List.length_map]; rw [sizeLine_eq]; omega)]
        walk_at "ww"
        have e6 : (prsOf pre).map Vt.pairD ++ (nbrs (tots c)).map Vt.pairD = (prsOf (pre ++ [c])).map Vt.pairD := by
          unfold prsOf
          rw [List.flatMap_append, List.map_append]
          simp
        rw [e6]
        refine ⟨pre ++ [c], post, ⟨_, _, by simp [e1], rfl, ?_, rfl⟩⟩
        unfold prsOf at hz ⊢
        rw [List.flatMap_append, List.length_append]
        have e7 : ([c].flatMap fun c => nbrs (tots c)).length = (nbrs (tots c)).length := by simp
        rw [e7]
        simp only [List.length_append, List.length_cons, List.length_nil]
        omega
  · rintro e m ⟨rfl, pre, post, s2, s3, e1, e2, hz, rfl⟩
    have : post = [] := by cases post with
      | nil => rfl
      | cons _ _ => cases e2
    subst this
    rw [List.append_nil] at e1
    subst e1
    walk_at "ww"
end
local macro_rules | `(tactic| walk_at "mm") => `(tactic| try simp only [nx, Res.nx, phi, env0, fin, mRet, mRetN, mSet, mDrop, mSeq, mIf, mPass, mNev, mVar, mC, mNil, mCons, mBin, mUn, mFun, mTru, mTB, mNot, mAnd, mOr, mIfE, mAndV, mOrV, mNotV, mChn, mTup, mLst, mYes, mFld, mFldSetO, mFldO, putX, eq_self, and_self, Nat.reduceLT, Nat.lt_irrefl, Nat.reduceEqDiff, mMeth, mMeth0, mProp, mIt, mItT, mSl, mNoP, mSoP, mIxO, mLenO, mPar, mPar3, mAug, mAsg, mIxH, mPutH, mLstH, mOwn, mOwn2, mApp, mExt, mPutL, mFrz, lf, lt, lg, dTruth, asBl, Vt.isNon, dIsN, dNotN, dLe, dLt, dGe, dGt, dAdd, dAddI, dSub, dNeg, dInt_i, dInt_b, dEq_ii, dEq_ss, dNe_ii, dNe_ss, items, Tgt.set, setAll, wipeE, dLen_l, dLen_t, mCm, mStar1, mNinO, mParO, mRev, dRev, blK, kwCall, mKw,
  Res.bind, Res.bnd, Res.flow, List.map_cons, List.map_nil, List.length_cons, List.length_nil, List.cons_append, List.nil_append, List.getElem?_cons_zero, List.getElem?_cons_succ, List.getElem?_nil, List.replicate, List.set_cons_zero, List.set_cons_succ, Option.map_some, Nat.reduceAdd, Nat.reduceSub, if_true, if_false, Bool.false_eq_true, Bool.not_true, Bool.not_false, Bool.and_self, Bool.true_and, Bool.and_true, Bool.false_and, Bool.and_false, Bool.or_true, Bool.true_or, Bool.or_false, Bool.false_or, Bool.or_self, reduceIte])
local macro_rules | `(tactic| walk_at "ww") => `(tactic| try simp only [fk_seq, fk_next, fk_ret, fk_bad, fk_flow, fk_if, ok_ok, ok_bad, ok_exc, ok_bind, ok_bnd, env0, mRet, mRetN, mSet, mDrop, mPass, mNev, mVar, mC, mNil, mCons, mBin, mUn, mFun, mTru, mTB, mNot, mAnd, mOr, mIfE, mAndV, mOrV, mNotV, mChn, mTup, mLst, mYes, mFld, mFldSetO, mFldO, putX, eq_self, and_self, Nat.reduceLT, Nat.lt_irrefl, Nat.reduceEqDiff, mMeth, mMeth0, mProp, mIt, mItT, mSl, mNoP, mSoP, mIxO, mLenO, mPar, mPar3, mAug, mAsg, mIxH, mPutH, mLstH, mOwn, mOwn2, mApp, mExt, mPutL, mFrz, mStar, lf, lt, lg, dTruth, asBl, Vt.isNon, dIsN, dNotN, dLe, dLt, dGe, dGt, dAdd, dAddI, dSub, dNeg, dInt_i, dInt_b, items, Tgt.set, setAll, frzD, wipeE, dEq_ii, dEq_ss, dNe_ii, dNe_ss, dLen_l, dLen_t, mCm, mStar1, mNinO, mParO, mRev, dRev, blK, kwCall, mKw,
  List.map_cons, List.map_nil, List.length_cons, List.length_nil, List.cons_append, List.nil_append, List.getElem?_cons_zero, List.getElem?_cons_succ, List.getElem?_nil, List.replicate, List.set_cons_zero, List.set_cons_succ, Option.map_some, Nat.reduceAdd, Nat.reduceSub, if_true, if_false, Bool.false_eq_true, Bool.not_true, Bool.not_false, Bool.and_self, Bool.true_and, Bool.and_true, Bool.false_and, Bool.and_false, Bool.or_true, Bool.true_or, Bool.or_false, Bool.false_or, Bool.or_self, reduceIte, forall_const, Bool.true_eq_false, Bool.false_eq_true, false_implies, true_implies, and_true, true_and, reduceCtorEq])
local macro_rules | `(tactic| walk_at "md") => `(tactic| try simp (disch := omega) only [decide_eq_true, decide_eq_false, if_pos, if_neg, nx, Res.nx, phi, env0, fin, mRet, mRetN, mSet, mDrop, mSeq, mIf, mPass, mNev, mVar, mC, mNil, mCons, mBin, mUn, mFun, mTru, mTB, mNot, mAnd, mOr, mIfE, mAndV, mOrV, mNotV, mChn, mTup, mLst, mYes, mFld, mFldSetO, mFldO, putX, eq_self, and_self, Nat.reduceLT, Nat.lt_irrefl, Nat.reduceEqDiff, mMeth, mMeth0, mProp, mIt, mItT, mSl, mNoP, mSoP, mIxO, mLenO, mPar, mPar3, mAug, mAsg, mIxH, mPutH, mLstH, mOwn, mOwn2, mApp, mExt, mPutL, mFrz, lf, lt, lg, dTruth, asBl, Vt.isNon, dIsN, dNotN, dLe, dLt, dGe, dGt, dAdd, dAddI, dSub, dNeg, dInt_i, dInt_b, dEq_ii, dEq_ss, dNe_ii, dNe_ss, items, Tgt.set, setAll, wipeE, dLen_l, dLen_t, mCm, mStar1, mNinO, mParO, mRev, dRev, blK, kwCall, mKw,
  Res.bind, Res.bnd, Res.flow, List.map_cons, List.map_nil, List.length_cons, List.length_nil, List.cons_append, List.nil_append, List.getElem?_cons_zero, List.getElem?_cons_succ, List.getElem?_nil, List.replicate, List.set_cons_zero, List.set_cons_succ, Option.map_some, Nat.reduceAdd, Nat.reduceSub, if_true, if_false, Bool.false_eq_true, Bool.not_true, Bool.not_false, Bool.and_self, Bool.true_and, Bool.and_true, Bool.false_and, Bool.and_false, Bool.or_true, Bool.true_or, Bool.or_false, Bool.false_or, Bool.or_self, reduceIte])
local macro_rules | `(tactic| walk_at "wd") => `(tactic| try simp (disch := omega) only [decide_eq_true, decide_eq_false, if_pos, if_neg, fk_seq, fk_next, fk_ret, fk_bad, fk_flow, fk_if, ok_ok, ok_bad, ok_exc, ok_bind, ok_bnd, env0, mRet, mRetN, mSet, mDrop, mPass, mNev, mVar, mC, mNil, mCons, mBin, mUn, mFun, mTru, mTB, mNot, mAnd, mOr, mIfE, mAndV, mOrV, mNotV, mChn, mTup, mLst, mYes, mFld, mFldSetO, mFldO, putX, eq_self, and_self, Nat.reduceLT, Nat.lt_irrefl, Nat.reduceEqDiff, mMeth, mMeth0, mProp, mIt, mItT, mSl, mNoP, mSoP, mIxO, mLenO, mPar, mPar3, mAug, mAsg, mIxH, mPutH, mLstH, mOwn, mOwn2, mApp, mExt, mPutL, mFrz, mStar, lf, lt, lg, dTruth, asBl, Vt.isNon, dIsN, dNotN, dLe, dLt, dGe, dGt, dAdd, dAddI, dSub, dNeg, dInt_i, dInt_b, items, Tgt.set, setAll, frzD, wipeE, dEq_ii, dEq_ss, dNe_ii, dNe_ss, dLen_l, dLen_t, mCm, mStar1, mNinO, mParO, mRev, dRev, blK, kwCall, mKw,
  List.map_cons, List.map_nil, List.length_cons, List.length_nil, List.cons_append, List.nil_append, List.getElem?_cons_zero, List.getElem?_cons_succ, List.getElem?_nil, List.replicate, List.set_cons_zero, List.set_cons_succ, Option.map_some, Nat.reduceAdd, Nat.reduceSub, if_true, if_false, Bool.false_eq_true, Bool.not_true, Bool.not_false, Bool.and_self, Bool.true_and, Bool.and_true, Bool.false_and, Bool.and_false, Bool.or_true, Bool.true_or, Bool.or_false, Bool.false_or, Bool.or_self, reduceIte, forall_const, Bool.true_eq_false, Bool.false_eq_true, false_implies, true_implies, and_true, true_and, reduceCtorEq])
/-! ### the tight settings, as the package tells them -/
def selS (looks : Str) (p : Int × Int) : Int := if looks = ("own" : Str) then max p.1 p.2 else min p.1 p.2
theorem srt2 (p : Int × Int) : dSortedT [pairD p] = some (.lst [.int (min p.1 p.2), .int (max p.1 p.2)]) := by
  obtain ⟨i, j⟩ := p
  show some (D.lst ((sortI [i, j]).map .int)) = _
  by_cases c : i ≤ j
  · have e : sortI [i, j] = [i, j] := by simp [sortI, insI, c]
    rw [e, Int.min_eq_left c, Int.max_eq_right c]
    rfl
  · have e : sortI [i, j] = [j, i] := by simp [sortI, insI, c]
    have c' : j ≤ i := by omega
    rw [e, Int.min_eq_right c', Int.max_eq_left c']
    rfl
def bfor (b : Bk) (low : Int) (ps : List (Int × Int)) : Int := ((ps.filter fun p => decide (selS b.looks p < low)).map fun p => p.1 + p.2 - 1).foldl min b.room
theorem foldl_min (ns : List Int) : ∀ n : Int, ns.foldl min n ≤ n ∧ (∀ x ∈ ns, ns.foldl min n ≤ x) ∧ (ns.foldl min n = n ∨ ns.foldl min n ∈ ns) := by
  induction ns with
  | nil => intro n; exact ⟨Int.le_refl _, fun _ h => (nomatch h), .inl rfl⟩
  | cons a r ih =>
    intro n
    obtain ⟨h1, h2, h3⟩ := ih (min n a)
    refine ⟨by show r.foldl min (min n a) ≤ n; omega, fun x hx => ?_, ?_⟩
    · rcases List.mem_cons.mp hx with rfl | hx
      · show r.foldl min (min n x) ≤ x; omega
      · exact h2 x hx
    · show r.foldl min (min n a) = n ∨ r.foldl min (min n a) ∈ a :: r
      rcases h3 with h3 | h3
      · rw [h3]
        by_cases c : n ≤ a
        · left; exact Int.min_eq_left c
        · right; rw [Int.min_eq_right (by omega)]; exact List.mem_cons_self
      · right; exact List.mem_cons_of_mem _ h3
theorem bfor_bds {b : Bk} {low : Int} {ps : List (Int × Int)} (h0 : 0 ≤ b.room) (hp : ∀ p ∈ ps, 1 ≤ p.1 ∧ 1 ≤ p.2) : 0 ≤ bfor b low ps ∧ bfor b low ps ≤ b.room := by
  obtain ⟨h1, h2, h3⟩ := foldl_min ((ps.filter fun p => decide (selS b.looks p < low)).map fun p => p.1 + p.2 - 1) b.room
  refine ⟨?_, h1⟩
  rcases h3 with e | e
  · unfold bfor; rw [e]; exact h0
  · obtain ⟨p, hm, e⟩ := List.mem_map.mp e
    have := hp p (List.mem_filter.mp hm).1
    unfold bfor
    rw [← e]
    omega
theorem le_bfor {b : Bk} {low x : Int} {ps : List (Int × Int)} : x ≤ bfor b low ps ↔ x ≤ b.room ∧ ∀ p ∈ ps, selS b.looks p < low → x < p.1 + p.2 := by
  obtain ⟨h1, h2, h3⟩ := foldl_min ((ps.filter fun p => decide (selS b.looks p < low)).map fun p => p.1 + p.2 - 1) b.room
  constructor
  · intro h
    refine ⟨Int.le_trans h h1, fun p hp hs => ?_⟩
    have := h2 (p.1 + p.2 - 1) (List.mem_map.mpr ⟨p, List.mem_filter.mpr ⟨hp, decide_eq_true hs⟩, rfl⟩)
    unfold bfor at h
    omega
  · rintro ⟨h, h'⟩
    unfold bfor
    rcases h3 with e | e
    · rw [e]; exact h
    · obtain ⟨p, hm, e⟩ := List.mem_map.mp e
      obtain ⟨hp, hs⟩ := List.mem_filter.mp hm
      have := h' p hp (of_decide_eq_true hs)
      rw [← e]; omega
theorem dMin_cons (n : Int) (xs : List Int) : dMin [.lst (.int n :: xs.map .int)] = some (.int (xs.foldl min n)) := by
  have : intsOf (.int n :: xs.map .int) = some (n :: xs) := intsOf_map (n :: xs)
  show (match intsOf (.int n :: xs.map .int) with | some (n :: ns) => some (D.int (ns.foldl min n)) | _ => none) = _
  rw [this]
section
variable {m : List MO}
theorem bound_for_eq {b : Bk} {low : Int} {ps : List (Int × Int)} (hl : ps.length ≤ 40000) : S_bound_for [b.d, .int low, prsD ps] m = .ok (.int (bfor b low ps)) m := by
  have hf := List.length_filter_le (fun p => decide (selS b.looks p < low)) ps
  refine ok_eq ((ok_phi rfl).mpr ?_)
  unfold m_bound_for prsD Bk.d
  walk_at "ww"
  refine ok_of (a := .int (if b.looks = ("own" : Str) then 1 else 0)) (m := m) ?_ ?_
  · by_cases l : b.looks = ("own" : Str)
    · simp only [l, decide_true]
      walk_at "mm"
      try simp only [decide_true]
      try walk_at "mm"
    · simp only [l, decide_false]
      walk_at "mm"
      try simp only [l, decide_false]
      try walk_at "mm"
  have ix : ∀ p : Int × Int, dIx [.lst [.int (min p.1 p.2), .int (max p.1 p.2)], .int (if b.looks = ("own" : Str) then 1 else 0)] = some (.int (selS b.looks p)) := fun p => by
    unfold selS
    split
    · exact atI_at (by decide) rfl
    · exact atI_zero _ _
  refine ok_of (lc_eq (xs := ps) (en := pairD) (p := fun p => decide (selS b.looks p < low)) (g := fun p => .int (p.1 + p.2)) rfl rfl (by rw [sizeLine_eq]; omega) fun p _ => ⟨_, rfl, ?_, fun _ => ?_⟩) ?_
  · walk_at "mm"
    simp only [srt2]
    walk_at "mm"
    simp only [ix]
    walk_at "mm"
  · walk_at "mm"
    simp only [ix_pair0, ix_pair1]
    walk_at "mm"
  · walk_at "ww"
    rw [if_pos (by decide), ok_ok]
    refine ok_of (lc_map (xs := ps.filter fun p => decide (selS b.looks p < low)) (en := fun p => .int (p.1 + p.2)) (g := fun p => .int (p.1 + p.2 - 1)) rfl rfl (by rw [sizeLine_eq]; omega) fun p _ => ⟨_, rfl, ?_⟩) ?_
    · walk_at "mm"
    · walk_at "ww"
      rw [if_pos (by simp only [List.length_map, List.length_cons, List.length_nil]; rw [sizeLine_eq]; omega)]
      walk_at "ww"
      have e : (ps.filter fun p => decide (selS b.looks p < low)).map (fun p => D.int (p.1 + p.2 - 1)) = ((ps.filter fun p => decide (selS b.looks p < low)).map fun p => p.1 + p.2 - 1).map .int := by rw [List.map_map]; rfl
      rw [e, dMin_cons]
      first | exact ok_ok.mpr ⟨rfl, rfl⟩ | exact ⟨rfl, rfl⟩
def grB (p q : Int × Int) : Bool := !decide (p = q) && (decide (q.1 ≤ p.1) && decide (q.2 ≤ p.2))
theorem is_greater_eq (p q : Int × Int) : S_is_greater [pairD p, pairD q] m = .ok (.bl (grB p q)) m := by
  refine ok_eq ((ok_phi rfl).mpr ?_)
  unfold m_is_greater grB
  walk_at "ww"
  simp only [dNe_pair, ok_ok]
  by_cases c : p = q
  · simp only [c, decide_true, Bool.not_true, Bool.false_and]
    walk_at "ww"
  · simp only [c, decide_false, Bool.not_false, Bool.true_and]
    walk_at "mm"
    simp only [ix_pair0, ix_pair1]
    walk_at "mm"
    cases decide (q.1 ≤ p.1) <;> simp [ok_ok]
noncomputable def plAt (b : Bk) (ps : List (Int × Int)) (k : Nat) : Int × Int := plainOf b.looks (barredOf { b with low := (k : Int), bound := bfor b k ps } b.sums)
def addN (acc : List (Int × Int)) (s : Int × Int) : List (Int × Int) := if s ∈ acc then acc else acc ++ [s]
noncomputable def foundOf (b : Bk) (ps : List (Int × Int)) (n : Nat) : List (Int × Int) := (List.range n).foldl (fun acc k => addN acc (plAt b ps k)) []
def bestOf (fs : List (Int × Int)) : List (Int × Int) := fs.filter fun one => !fs.any fun o => grB o one
theorem found_succ (b : Bk) (ps : List (Int × Int)) (n : Nat) : foundOf b ps (n + 1) = addN (foundOf b ps n) (plAt b ps n) := by
  unfold foundOf
  rw [List.range_succ, List.foldl_append]
  rfl
theorem found_len (b : Bk) (ps : List (Int × Int)) : ∀ n, (foundOf b ps n).length ≤ n
  | 0 => by simp [foundOf]
  | n + 1 => by
    have := found_len b ps n
    rw [found_succ]
    unfold addN
    split
    · omega
    · rw [List.length_append]; simp; omega
theorem any_map_bl {α : Type} (xs : List α) (p : α → Bool) : dAny [.lst (xs.map fun x => .bl (p x))] = some (.bl (xs.any p)) := by
  have h : blsOf (xs.map fun x => D.bl (p x)) = some (xs.map p) := by
    have := blsOf_map (xs.map p)
    rwa [List.map_map] at this
  show (blsOf (xs.map fun x => D.bl (p x))).map (fun bs => D.bl (bs.any id)) = _
  rw [h]
  show some (D.bl ((xs.map p).any id)) = _
  rw [List.any_map]
  rfl
theorem methBk {i n : Nat} {φ : Fun} {g : MA} {env : List Slot} {b : Bk} {ds : List D} (h : env[i]? = some (.val b.d)) (hg : g env m = .ok ds m) (hl : ds.length = n) : mMethK "Book" n φ (mVar i) g env m = φ (b.d :: ds) m := by
  have e : mVar i env m = .ok b.d m := by unfold mVar; rw [h]
  unfold mMethK
  rw [e]
  show (if ("Book" : String) = "Book" then (g env m).bind fun ds m2 => kwCall n φ b.d ds m2 else .bad) = _
  rw [if_pos rfl, hg]
  exact if_pos hl
theorem sortedP_prs (ps : List (Int × Int)) : dSortedP [.lst (ps.map pairD)] = some (.lst ((sortP ps).map pairD)) := by
  show (pairsOfD (ps.map dP)).map (fun ps => D.lst ((sortP ps).map dP)) = _
  rw [pairsOfD_map]
  rfl
theorem tight_settings_eq {b : Bk} {ps : List (Int × Int)} (hb : BkOk b) (hl : ps.length ≤ 40000) (hp : ∀ p ∈ ps, 1 ≤ p.1 ∧ 1 ≤ p.2) {R : Nat} (hR : b.room = R) : S_tight_settings [b.d, prsD ps] m = .ok (.tup ((sortP (bestOf (foundOf b ps (R + 2)))).map pairD)) m := by
  have r2 := hb.r2
  have hsl := length_sums hb
  have hbk : ∀ k : Nat, k ≤ R + 1 → BkOk { b with low := (k : Int), bound := bfor b k ps } := fun k hk => by
    obtain ⟨g1, g2⟩ := bfor_bds (b := b) (low := k) (ps := ps) (by omega) hp
    exact ⟨hb.r1, hb.r2, hb.len, hb.fit, by show (0 : Int) ≤ k; omega, by show (k : Int) ≤ b.room + 1; omega, g1, g2, hb.lk, hb.ct, hb.sd⟩
  have hR2 : ((b.room + 2).toNat) = R + 2 := by omega
  have hroom : mFld "Book" 0 (mVar 0) = mFld "Book" 0 (mVar 0) := rfl
  refine ok_eq ((ok_phi rfl).mpr ?_)
  unfold m_tight_settings
  walk_at "ww"
  rw [if_pos (by decide)]
  walk_at "ww"
  refine fk_for (fun ds e m1 => m1 = m ∧ ∃ (k : Nat) (s3 s4 s5 : Slot), k ≤ R + 2 ∧ (s4 = .none ∨ ∃ d, s4 = .val d) ∧ ds = ((List.range (R + 2)).drop k).map (fun j => D.int (0 + (j : Nat))) ∧ e = [.val b.d, .val (prsD ps), .own (.lst ((foundOf b ps k).map pairD)), s3, s4, s5, .none, .none]) ?_ ?_ ?_
  · unfold mRng1 Bk.d
    walk_at "ww"
    simp only [rng1_eq (j := b.room + 2) (by omega) (by omega), ok_ok, hR2]
    exact ⟨trivial, 0, _, _, _, by omega, .inl rfl, by simp, rfl⟩
  · rintro d ds e m1 ⟨rfl, k, s3, s4, s5, hk, h4, e1, rfl⟩
    by_cases hk2 : k < R + 2
    · rw [drop_range hk2] at e1
      cases e1
      have hB := hbk k (by omega)
      have hbut := but_low_bound (m := m1) (b := b) (l := (k : Int)) (d := bfor b k ps) hB
      have hpl := plain_of_eq (m := m1) (b := { b with low := (k : Int), bound := bfor b k ps }) (ps := barredOf { b with low := (k : Int), bound := bfor b k ps } b.sums) (Nat.le_trans (List.length_filter_le _ _) (Nat.le_trans (length_pairsOf _) (Nat.le_trans (Nat.mul_le_mul hsl hsl) (by decide))))
      have hbp := barred_pairs_eq (m := m1) hB
      have hfl := found_len b ps k
      have hbf := bound_for_eq (m := m1) (b := b) (low := (k : Int)) (ps := ps) hl
      refine ⟨_, rfl, ?_⟩
      simp only [Int.zero_add, List.set_cons_succ, List.set_cons_zero]
      refine fk_nx (e := [.val b.d, .val (prsD ps), .own (.lst ((foundOf b ps k).map pairD)), .val (.int k), .val ({ b with low := (k : Int), bound := bfor b k ps } : Bk).d, s5, .none, .none]) (m := m1) ?_ ?_
      · have e : mMethK "Book" 2 S_Book_but_low_bound (mVar 0) (mCons (mVar 3) (mCons (mFun S_bound_for (mCons (mVar 0) (mCons (mVar 3) (mCons (mVar 1) mNil)))) mNil)) [.val b.d, .val (prsD ps), .own (.lst ((foundOf b ps k).map pairD)), .val (.int k), s4, s5, .none, .none] m1 = .ok ({ b with low := (k : Int), bound := bfor b k ps } : Bk).d m1 := by
          refine (methBk (ds := [.int k, .int (bfor b k ps)]) rfl ?_ rfl).trans hbut
          walk_at "mm"
          simp only [hbf]
        unfold mSet
        rw [e]
        rfl
      · refine fk_nx (e := [.val b.d, .val (prsD ps), .own (.lst ((foundOf b ps k).map pairD)), .val (.int k), .val ({ b with low := (k : Int), bound := bfor b k ps } : Bk).d, .val (pairD (plAt b ps k)), .none, .none]) (m := m1) ?_ ?_
        · walk_at "mm"
          simp only [hbp]
          walk_at "mm"
          have hpl' : S_plain_of [({ b with low := (k : Int), bound := bfor b k ps } : Bk).d, prsD (barredOf { b with low := (k : Int), bound := bfor b k ps } ({ b with low := (k : Int), bound := bfor b k ps } : Bk).sums)] m1 = .ok (pairD (plAt b ps k)) m1 := hpl
          simp only [hpl']
          walk_at "mm"
        · walk_at "ww"
          have hn : dNin [pairD (plAt b ps k), .lst ((foundOf b ps k).map pairD)] = some (.bl (!decide (plAt b ps k ∈ foundOf b ps k))) := dNin_prs _ _
          simp only [hn, ok_ok]
          walk_at "ww"
          refine ⟨fun c => ?_, fun c => ?_⟩
          · have c' : plAt b ps k ∉ foundOf b ps k := by simpa using c
            have hs : foundOf b ps (k + 1) = foundOf b ps k ++ [plAt b ps k] := by rw [found_succ]; exact if_neg c'
            rw [if_pos (by rw [List.length_map, sizeLine_eq]; omega)]
            have e3 : (foundOf b ps k).map Vt.pairD ++ [Vt.pairD (plAt b ps k)] = (foundOf b ps (k + 1)).map Vt.pairD := by rw [hs, List.map_append]; rfl
            rw [e3]
            exact ⟨rfl, k + 1, _, _, _, by omega, .inr ⟨_, rfl⟩, rfl, rfl⟩
          · have c' : plAt b ps k ∈ foundOf b ps k := by simpa using c
            have hs : foundOf b ps (k + 1) = foundOf b ps k := by rw [found_succ]; exact if_pos c'
            rw [← hs]
            exact ⟨k + 1, _, _, _, by omega, .inr ⟨_, rfl⟩, rfl, rfl⟩
    · rw [drop_range_nil hk2] at e1
      cases e1
  · rintro e m1 ⟨rfl, k, s3, s4, s5, hk, h4, e1, rfl⟩
    have hk2 : k = R + 2 := by
      have := congrArg List.length e1
      simp at this
      omega
    subst hk2
    have hfl := found_len b ps (R + 2)
    generalize foundOf b ps (R + 2) = fs at hfl
    walk_at "ww"
    refine ok_of (lc_eq (xs := fs) (en := pairD) (p := fun one => !fs.any fun o => grB o one) (g := pairD) rfl ?_ (by rw [sizeLine_eq]; omega) fun one _ => ⟨_, rfl, ?_, fun _ => rfl⟩) ?_
    · rfl
    · have hno : noOwn [.val b.d, .val (prsD ps), .val (.lst (fs.map pairD)), s3, s4, s5, .none, .val (pairD one)] [4] = true := by rcases h4 with e | ⟨d, e⟩ <;> rw [e] <;> rfl
      have e : mLc (.nm 4) (mIt (mVar 2)) mYes (mFun S_is_greater (mCons (mVar 4) (mCons (mVar 7) mNil))) [4] [.val b.d, .val (prsD ps), .val (.lst (fs.map pairD)), s3, s4, s5, .none, .val (pairD one)] m1 = .ok (.lst (fs.map fun o => .bl (grB o one))) m1 := by
        refine lc_map (xs := fs) (en := pairD) (g := fun o => .bl (grB o one)) rfl hno (by rw [sizeLine_eq]; omega) fun o _ => ⟨_, rfl, ?_⟩
        walk_at "mm"
        simp only [is_greater_eq]
      walk_at "mm"
      simp only [e]
      walk_at "mm"
      simp only [any_map_bl]
    · simp only [sortedP_prs, ok_ok]
      exact ok_of rfl ⟨rfl, rfl⟩
theorem tight_eq {cs : List (List (List Int))} {b : Bk} (h : ∀ c ∈ cs, ChOk c ∧ fitB b c = true ∧ ∀ t ∈ tots c, t ∈ b.sums) (hb : BkOk b) (hl : cs.length ≤ 100) {R : Nat} (hR : b.room = R) : S_tight (b.d :: cs.map chD) m = .ok (.tup ((sortP (bestOf (foundOf b (seenGo [] (cs.map tots)) (R + 2)))).map pairD)) m := by
  have kb : S_need_book [b.d, .str "book"] m = .ok .non m := by
    refine ok_eq ((ok_phi rfl).mpr ?_)
    unfold m_need_book Bk.d
    walk_at "ww"
    simp only [k_book, ok_ok]
    walk_at "ww"
  have hsl := length_seenGo (k := 400) (ts := cs.map tots) (acc := []) fun t ht => by
    obtain ⟨c, hc, rfl⟩ := List.mem_map.mp ht
    have := (h c hc).1.le
    simp [tots]; omega
  rw [List.length_map, List.length_nil] at hsl
  have hps : ∀ p ∈ seenGo [] (cs.map tots), 1 ≤ p.1 ∧ 1 ≤ p.2 := fun p hp => by
    obtain ⟨t, ht, hpt⟩ := (mem_seenGo.mp hp).resolve_left (by simp)
    obtain ⟨c, hc, rfl⟩ := List.mem_map.mp ht
    unfold nbrs at hpt
    exact ⟨sums_pos ((h c hc).2.2 _ (List.of_mem_zip hpt).1), sums_pos ((h c hc).2.2 _ (List.mem_of_mem_drop (List.of_mem_zip hpt).2))⟩
  refine ok_eq ((ok_star (n := 1) ⟨by simp, by simp [sizeLine_eq]; omega⟩ rfl).mpr ?_)
  unfold m_tight
  simp only [List.take_succ_cons, List.take_zero, List.drop_succ_cons, List.drop_zero]
  walk_at "ww"
  simp only [kb, need_chains_eq (m := m) (cs := cs) (fun c hc => ⟨(h c hc).1, (h c hc).2.1⟩) hb, seen_pairs_eq (m := m) (cs := cs) (fun c hc => (h c hc).1) hl, tight_settings_eq (m := m) hb (by omega) hps hR, ok_ok]
  first | exact ⟨trivial, trivial⟩ | trivial
end
/-! ### the law's own tight settings -/
abbrev enPP := enP enI enI
theorem isIn_en {α : Type} [DecidableEq α] (e : En α) (h1 : e.dep ≤ 64) (h2 : (enL e).dep ≤ 64) (hf : ∀ a, flatD (e.en a) = false) (a : α) (xs : List α) : isIn (e.en a) (.lst (xs.map e.en)) = some (decide (a ∈ xs)) := by
  unfold isIn
  simp only [hf, Bool.false_and, Bool.false_eq_true, if_false]
  have e1 := e.hp a
  have e2 := pdL_map e xs
  have s1 : SeqAt.shaped (e.p a) = true := by
    unfold SeqAt.shaped
    rw [e.lay, decide_eq_true (Nat.le_trans (e.hd a) h1)]
    rfl
  have s2 : SeqAt.shaped (PyData.list (xs.map e.p)) = true := by
    have a : PyData.canLay0 (.list (xs.map e.p)) = true := (enL e).lay xs
    have b : PyData.depth (.list (xs.map e.p)) ≤ 64 := Nat.le_trans ((enL e).hd xs) h2
    unfold SeqAt.shaped
    rw [a, decide_eq_true b]
    rfl
  rw [e1, e2]
  simp only [s1, s2, Bool.and_self, if_true]
  congr 1
  rw [List.any_map, Bool.eq_iff_iff]
  simp only [List.any_eq_true, Function.comp, decide_eq_true_eq]
  constructor
  · rintro ⟨q, hq, h⟩
    rw [e.eq] at h
    exact (of_decide_eq_true h) ▸ hq
  · intro h
    exact ⟨a, h, by rw [e.eq]; simp⟩
theorem dIn_prs (p : Int × Int) (xs : List (Int × Int)) : dIn [pairD p, prsD xs] = some (.bl (decide (p ∈ xs))) := by
  have := isIn_en enPP (by decide) (by decide) (fun _ => rfl) p xs
  show (isIn (enPP.en p) (.lst (xs.map enPP.en))).map D.bl = _
  rw [this]
  exact congrArg (fun b => some (D.bl b)) (decide_eq_decide.mpr Iff.rfl)
theorem dNin_ls (B : List (Int × Int)) (Bs : List (List (Int × Int))) : dNin [prsD B, .lst (Bs.map prsD)] = some (.bl (!decide (B ∈ Bs))) := by
  have := isIn_en (enL enPP) (by decide) (by decide) (fun _ => rfl) B Bs
  show (isIn ((enL enPP).en B) (.lst (Bs.map (enL enPP).en))).map _ = _
  rw [this]
  exact congrArg (fun b => some (D.bl (!b))) (decide_eq_decide.mpr Iff.rfl)
theorem dEq_nilL (Bs : List (List (Int × Int))) : dEq [.lst (Bs.map prsD), .lst []] = some (.bl (decide (Bs = []))) := by
  have := eqD_en (enL (enL enPP)) (by decide) (fun _ _ => rfl) Bs []
  show (eqD ((enL (enL enPP)).en Bs) ((enL (enL enPP)).en [])).map D.bl = _
  rw [this]; rfl
theorem dMin_2 (i j : Int) : dMin [.int i, .int j] = some (.int (min i j)) := by
  show some (D.int (if j < i then j else i)) = _
  by_cases c : j < i
  · rw [if_pos c, Int.min_eq_right (by omega)]
  · rw [if_neg c, Int.min_eq_left (by omega)]
theorem dMax_2 (i j : Int) : dMax [.int i, .int j] = some (.int (max i j)) := by
  show some (D.int (if j > i then j else i)) = _
  by_cases c : j > i
  · rw [if_pos c, Int.max_eq_right (by omega)]
  · rw [if_neg c, Int.max_eq_left (by omega)]
theorem filter_all (xs : List (Int × Int)) (f : Int × Int → Bool) : decide (xs.filter (fun q => !f q) = []) = xs.all f := by
  rw [Bool.eq_iff_iff, decide_eq_true_iff, List.all_eq_true, List.filter_eq_nil_iff]
  simp
def srt (p : Int × Int) : Int × Int := (min p.1 p.2, max p.1 p.2)
def amongB (xs ys : List (Int × Int)) : Bool := xs.all fun p => decide (p ∈ ys)
def okLot (qs : List (Int × Int)) (B : List (Int × Int)) : Bool := decide ((qs.map srt).filter (fun q => decide (q ∈ B)) = [])
def addL (qs : List (Int × Int)) (acc : List (List (Int × Int))) (B : List (Int × Int)) : List (List (Int × Int)) := if (!decide (B ∈ acc) && okLot qs B) = true then acc ++ [B] else acc
noncomputable def lotsOf (p : Pl) (qs : List (Int × Int)) (ss : List (Int × Int)) : List (List (Int × Int)) := ss.foldl (fun acc s => addL qs acc (barAt p s)) []
def topL (lots : List (List (Int × Int))) (lot : List (Int × Int)) : Bool := decide (lots.filter (fun o => !decide (o = lot) && amongB lot o) = [])
noncomputable def dueOf (p : Pl) (qs : List (Int × Int)) (R : Nat) : List (Int × Int) := sortP (((lotsOf p qs (settsOf R)).filter (topL (lotsOf p qs (settsOf R)))).map (plainOf p.looks))
theorem lots_snoc (p : Pl) (qs : List (Int × Int)) (ss : List (Int × Int)) (s : Int × Int) : lotsOf p qs (ss ++ [s]) = addL qs (lotsOf p qs ss) (barAt p s) := by
  unfold lotsOf
  rw [List.foldl_append]
  rfl
theorem addL_len (qs : List (Int × Int)) (acc : List (List (Int × Int))) (B : List (Int × Int)) : (addL qs acc B).length ≤ acc.length + 1 := by
  unfold addL
  split <;> simp
theorem foldl_addL (p : Pl) (qs : List (Int × Int)) : ∀ (ss : List (Int × Int)) (acc : List (List (Int × Int))), (ss.foldl (fun acc s => addL qs acc (barAt p s)) acc).length ≤ acc.length + ss.length
  | [], acc => Nat.le_refl _
  | s :: ss, acc => by
    have h1 := foldl_addL p qs ss (addL qs acc (barAt p s))
    have h2 := addL_len qs acc (barAt p s)
    simp only [List.foldl_cons, List.length_cons]
    omega
theorem lots_len (p : Pl) (qs ss : List (Int × Int)) : (lotsOf p qs ss).length ≤ ss.length := by
  have := foldl_addL p qs ss []
  simpa [lotsOf] using this
theorem mem_addL {qs : List (Int × Int)} {acc : List (List (Int × Int))} {B C : List (Int × Int)} : C ∈ addL qs acc B ↔ C ∈ acc ∨ (C = B ∧ okLot qs B = true) := by
  unfold addL
  by_cases h : B ∈ acc
  · simp only [h, decide_true, Bool.not_true, Bool.false_and, Bool.false_eq_true, if_false]
    exact ⟨.inl, fun z => z.elim id fun ⟨e, _⟩ => e ▸ h⟩
  · by_cases o : okLot qs B = true
    · simp [h, o]
    · simp [h, o]
theorem mem_foldl_addL (p : Pl) (qs : List (Int × Int)) {C : List (Int × Int)} : ∀ (ss : List (Int × Int)) (acc : List (List (Int × Int))), C ∈ ss.foldl (fun acc s => addL qs acc (barAt p s)) acc ↔ C ∈ acc ∨ ∃ s ∈ ss, C = barAt p s ∧ okLot qs (barAt p s) = true
  | [], acc => by simp
  | s :: ss, acc => by
    rw [List.foldl_cons, mem_foldl_addL p qs ss, mem_addL]
    simp only [List.mem_cons, exists_eq_or_imp, or_assoc]
theorem mem_lots {p : Pl} {qs ss : List (Int × Int)} {C : List (Int × Int)} : C ∈ lotsOf p qs ss ↔ ∃ s ∈ ss, C = barAt p s ∧ okLot qs (barAt p s) = true := by
  unfold lotsOf
  rw [mem_foldl_addL]
  simp
theorem nodup_addL {qs : List (Int × Int)} {acc : List (List (Int × Int))} {B : List (Int × Int)} (h : acc.Nodup) : (addL qs acc B).Nodup := by
  unfold addL
  split
  · rename_i c
    have c' : B ∉ acc := by
      simp only [Bool.and_eq_true, Bool.not_eq_true', decide_eq_false_iff_not] at c
      exact c.1
    exact List.nodup_append.mpr ⟨h, by simp, fun x hx y hy e => by
      have : y = B := by simpa using hy
      exact c' (this ▸ e ▸ hx)⟩
  · exact h
theorem nodup_foldl_addL (p : Pl) (qs : List (Int × Int)) : ∀ (ss : List (Int × Int)) (acc : List (List (Int × Int))), acc.Nodup → (ss.foldl (fun acc s => addL qs acc (barAt p s)) acc).Nodup
  | [], _, h => h
  | s :: ss, acc, h => nodup_foldl_addL p qs ss _ (nodup_addL h)
theorem lots_nodup (p : Pl) (qs ss : List (Int × Int)) : (lotsOf p qs ss).Nodup := nodup_foldl_addL p qs ss [] List.nodup_nil
theorem setts_len {R : Nat} (h : R ≤ 15) : (settsOf R).length ≤ 272 := by
  have e : (settsOf R).length = (R + 2) * (R + 1) := by simp [settsOf, List.length_flatMap, List.map_const', List.sum_replicate_nat]
  have : (R + 2) * (R + 1) ≤ 17 * 16 := Nat.mul_le_mul (by omega) (by omega)
  omega
section
variable {mem : List MO}
theorem among_eq {xs ys : List (Int × Int)} (hl : xs.length ≤ 40000) : S__law_among [prsD xs, prsD ys] mem = .ok (.bl (amongB xs ys)) mem := by
  refine ok_eq ((ok_phi rfl).mpr ?_)
  unfold m__law_among
  walk_at "ww"
  refine ok_of (lc_eq (xs := xs) (en := pairD) (p := fun q => !decide (q ∈ ys)) (g := pairD) rfl rfl (by rw [sizeLine_eq]; omega) fun q _ => ⟨_, rfl, ?_, fun _ => rfl⟩) ?_
  · walk_at "mm"
    simp only [dNin_prs]
    walk_at "mm"
  · walk_at "ww"
    rw [if_pos (by decide)]
    simp only [ok_ok, dEq_nil, filter_all]
    exact ⟨rfl, trivial⟩
theorem ltight_eq {cs : List (List (List Int))} {b : Bk} (h : ∀ c ∈ cs, ChOk c ∧ fitB b c = true ∧ ∀ t ∈ tots c, t ∈ b.sums) (hb : BkOk b) (hl : cs.length ≤ 3) {R : Nat} (hR : b.room = R) : S__law_tight [b.d, .lst (cs.map chD)] mem = .ok (.tup ((sortP (bestOf (foundOf b (seenGo [] (cs.map tots)) (R + 2)))).map Vt.pairD)) mem := by
  have hL := tight_eq (m := mem) (cs := cs) h hb (by omega) hR
  refine ok_eq ((ok_phi rfl).mpr ?_)
  unfold m__law_tight
  generalize (D.tup ((sortP (bestOf (foundOf b (seenGo [] (cs.map tots)) (R + 2)))).map Vt.pairD)) = r at hL
  match cs, hl, hL with
  | [], _, hL =>
    walk_at "ww"
    have : S_tight [b.d] mem = .ok r mem := hL
    simp only [this, ok_ok]
    simp
  | [c1], _, hL =>
    have : S_tight [b.d, chD c1] mem = .ok r mem := hL
    have i0 : dIx [.lst [chD c1], .int 0] = some (chD c1) := rfl
    walk_at "wd"
    simp only [i0, this, ok_ok]
    simp
  | [c1, c2], _, hL =>
    have : S_tight [b.d, chD c1, chD c2] mem = .ok r mem := hL
    have i0 : dIx [.lst [chD c1, chD c2], .int 0] = some (chD c1) := rfl
    have i1 : dIx [.lst [chD c1, chD c2], .int 1] = some (chD c2) := rfl
    walk_at "wd"
    simp only [i0, i1, this, ok_ok]
    simp
  | [c1, c2, c3], _, hL =>
    have : S_tight [b.d, chD c1, chD c2, chD c3] mem = .ok r mem := hL
    have i0 : dIx [.lst [chD c1, chD c2, chD c3], .int 0] = some (chD c1) := rfl
    have i1 : dIx [.lst [chD c1, chD c2, chD c3], .int 1] = some (chD c2) := rfl
    have i2 : dIx [.lst [chD c1, chD c2, chD c3], .int 2] = some (chD c3) := rfl
    walk_at "wd"
    simp only [i0, i1, i2, this, ok_ok]
    simp
  | _ :: _ :: _ :: _ :: _, hl, _ => simp at hl
theorem due_eq {p : Pl} {qs : List (Int × Int)} (hp : PlOk p) (hl : qs.length ≤ 4000) {R : Nat} (hR : p.room = R) : S__law_due [p.d, prsD qs] mem = .ok (.tup ((dueOf p qs R).map pairD)) mem := by
  have r2 := hp.r2
  have hS := setts_len (R := R) (by omega)
  refine ok_eq ((ok_phi rfl).mpr ?_)
  unfold m__law_due
  walk_at "ww"
  simp only [lsettings_eq hp hR, ok_ok]
  refine ok_of (lc_map (xs := qs) (en := pairD) (g := fun q => pairD (srt q)) rfl rfl (by rw [sizeLine_eq]; omega) fun q _ => ⟨_, rfl, ?_⟩) ?_
  · walk_at "mm"
    simp only [dMin_2, dMax_2]
    walk_at "mm"
    rw [if_pos (by decide)]
    rfl
  have eq1 : qs.map (fun q => pairD (srt q)) = (qs.map srt).map Vt.pairD := by rw [List.map_map]; rfl
  rw [eq1]
  refine fk_for (fun ds e m => m = mem ∧ ∃ (pre post : List (Int × Int)) (s7 s8 s9 : Slot), settsOf R = pre ++ post ∧ ds = post.map (enS p) ∧ e = [.val p.d, .val (prsD qs), .val (.lst ((settsOf R).map (enS p))), .own (.lst ((lotsOf p qs pre).map prsD)), .val (.lst ((qs.map srt).map Vt.pairD)), .none, .none, s7, s8, s9, .none, .none, .none]) ?_ ?_ ?_
  · exact ok_of (a := (settsOf R).map (enS p)) (m := mem) rfl ⟨rfl, [], _, _, _, _, rfl, rfl, rfl⟩
  · rintro d ds e m ⟨rfl, pre, post, s7, s8, s9, e1, e2, rfl⟩
    cases post with
    | nil => cases e2
    | cons s post =>
      cases e2
      have hpre : (lotsOf p qs pre).length < 300 := by
        have a := lots_len p qs pre
        have b := congrArg List.length e1
        simp only [List.length_append, List.length_cons] at b
        omega
      refine ⟨_, rfl, ?_⟩
      walk_at "ww"
      simp only [dNin_ls, ok_ok]
      refine ok_of (a := !decide (barAt p s ∈ lotsOf p qs pre) && okLot qs (barAt p s)) (m := m) ?_ ?_
      · have e3 : mLc (.nm 10) (mIt (mVar 4)) (mTB (mBin dIn (mVar 10) (mVar 9))) (mVar 10) [10] [.val p.d, .val (prsD qs), .val (.lst ((settsOf R).map (enS p))), .own (.lst ((lotsOf p qs pre).map prsD)), .val (.lst ((qs.map srt).map Vt.pairD)), .none, .none, .val (.int s.1), .val (.int s.2), .val (prsD (barAt p s)), .none, .none, .none] m = .ok (.lst (((qs.map srt).filter fun q => decide (q ∈ barAt p s)).map Vt.pairD)) m := by
          refine lc_eq (xs := qs.map srt) (en := Vt.pairD) (p := fun q => decide (q ∈ barAt p s)) (g := Vt.pairD) rfl rfl (by rw [sizeLine_eq, List.length_map]; omega) fun q _ => ⟨_, rfl, ?_, fun _ => rfl⟩
          walk_at "mm"
          simp only [dIn_prs]
          walk_at "mm"
        simp only [e3]
        by_cases c : barAt p s ∈ lotsOf p qs pre
        · simp [c]
        · simp only [c, decide_false, Bool.not_false, if_true, Bool.true_and]
          walk_at "mm"
          rw [if_pos (by decide)]
          simp only [dEq_nil]
          rfl
      · have hs : lotsOf p qs (pre ++ [s]) = addL qs (lotsOf p qs pre) (barAt p s) := lots_snoc p qs pre s
        have e5 : settsOf R = (pre ++ [s]) ++ post := by rw [e1]; simp
        generalize hb : (!decide (barAt p s ∈ lotsOf p qs pre) && okLot qs (barAt p s)) = b
        cases b with
        | true =>
          refine ⟨fun _ => ?_, fun h => (nomatch h)⟩
          have e4 : (lotsOf p qs pre).map prsD ++ [prsD (barAt p s)] = (lotsOf p qs (pre ++ [s])).map prsD := by
            rw [hs]; unfold addL; rw [if_pos hb, List.map_append]; rfl
          rw [if_pos (by rw [List.length_map, sizeLine_eq]; omega), e4]
          exact ⟨rfl, pre ++ [s], post, _, _, _, e5, rfl, rfl⟩
        | false =>
          refine ⟨fun h => (nomatch h), fun _ => ?_⟩
          have e4 : lotsOf p qs pre = lotsOf p qs (pre ++ [s]) := by
            rw [hs]; unfold addL; rw [if_neg (by rw [hb]; decide)]
          rw [e4]
          exact ⟨rfl, pre ++ [s], post, _, _, _, e5, rfl, rfl⟩
  · rintro e m ⟨rfl, pre, post, s7, s8, s9, e1, e2, rfl⟩
    have : post = [] := by cases post with
      | nil => rfl
      | cons _ _ => cases e2
    subst this
    rw [List.append_nil] at e1
    subst e1
    have hlots := lots_len p qs (settsOf R)
    have hmem : ∀ lot ∈ lotsOf p qs (settsOf R), ∃ t, (settsOf R).filter (fun s => decide (barAt p s = lot)) = plainOf p.looks lot :: t := fun lot hlot => by
      obtain ⟨s, hs, rfl, -⟩ := mem_lots.mp hlot
      have hs' := mem_setts.mp hs
      exact first_plain (p := p.at s) (at_ok hp ⟨⟨hs'.1.1, by omega⟩, hs'.2.1, by omega⟩) (R := R) hR
    have hlen : ∀ lot ∈ lotsOf p qs (settsOf R), lot.length ≤ 40000 := fun lot hlot => by
      obtain ⟨s, hs, rfl, -⟩ := mem_lots.mp hlot
      have h1 := length_pairsOf p.b.sums
      have h2 := plen hp
      have h3 : p.b.sums.length * p.b.sums.length ≤ 15 * 15 := Nat.mul_le_mul h2 h2
      have h4 : (barAt p s).length ≤ (pairsOf p.b.sums).length := List.length_filter_le _ _
      omega
    unfold dueOf
    generalize lotsOf p qs (settsOf R) = lots at *
    walk_at "ww"
    rw [if_pos (by decide)]
    walk_at "ww"
    refine fk_for (fun ds e m1 => m1 = m ∧ ∃ (pre post : List (List (Int × Int))) (s12 : Slot), lots = pre ++ post ∧ ds = post.map prsD ∧ e = [.val p.d, .val (prsD qs), .val (.lst ((settsOf R).map (enS p))), .val (.lst (lots.map prsD)), .val (.lst ((qs.map srt).map Vt.pairD)), .none, .none, s7, s8, s9, .none, .own (.lst (((pre.filter (topL lots)).map (plainOf p.looks)).map Vt.pairD)), s12]) ?_ ?_ ?_
    · exact ok_of (a := lots.map prsD) (m := m) rfl ⟨rfl, [], _, _, rfl, rfl, rfl⟩
    · rintro d ds e m1 ⟨rfl, pre, post, s12, e1, e2, rfl⟩
      cases post with
      | nil => cases e2
      | cons lot post =>
        cases e2
        have hlot : lot ∈ lots := by rw [e1]; simp
        obtain ⟨t, ht⟩ := hmem lot hlot
        have hform := lform_eq (mem := m1) (p := p) (ss := settsOf R) (B := lot) (by omega) ht
        refine ⟨_, rfl, ?_⟩
        walk_at "ww"
        refine ok_of (lc_eq (xs := lots) (en := prsD) (p := fun o => !decide (o = lot) && amongB lot o) (g := prsD) rfl rfl (by rw [sizeLine_eq]; omega) fun o _ => ⟨_, rfl, ?_, fun _ => rfl⟩) ?_
        · walk_at "mm"
          simp only [dNe_prs]
          walk_at "mm"
          simp only [among_eq (hlen lot hlot)]
          cases decide (o = lot) <;> rfl
        · walk_at "ww"
          rw [if_pos (by decide)]
          simp only [ok_ok, dEq_nilL]
          walk_at "ww"
          have e5 : lots = (pre ++ [lot]) ++ post := by rw [e1]; simp
          have hpl : pre.length ≤ lots.length := by rw [e1]; simp
          have hfl : ((pre.filter (topL lots)).map (plainOf p.looks)).length < 300 := by
            have := List.length_filter_le (topL lots) pre
            rw [List.length_map]; omega
          have e6 : (pre ++ [lot]).filter (topL lots) = pre.filter (topL lots) ++ (if topL lots lot = true then [lot] else []) := by
            rw [List.filter_append]
            simp [List.filter_cons]
          change (topL lots lot = true → _) ∧ (topL lots lot = false → _)
          refine ⟨fun c => ?_, fun c => ?_⟩
          · simp only [hform, ok_ok]
            rw [if_pos (by rw [List.length_map, sizeLine_eq]; omega)]
            have e7 : ((pre.filter (topL lots)).map (plainOf p.looks)).map Vt.pairD ++ [Vt.pairD (plainOf p.looks lot)] = (((pre ++ [lot]).filter (topL lots)).map (plainOf p.looks)).map Vt.pairD := by
              rw [e6, if_pos c, List.map_append, List.map_append]; rfl
            rw [e7]
            exact ⟨rfl, pre ++ [lot], post, _, e5, rfl, rfl⟩
          · have e7 : pre.filter (topL lots) = (pre ++ [lot]).filter (topL lots) := by
              rw [e6, if_neg (by rw [c]; decide), List.append_nil]
            rw [e7]
            exact ⟨pre ++ [lot], post, _, e5, rfl, rfl⟩
    · rintro e m1 ⟨rfl, pre, post, s12, e1, e2, rfl⟩
      have : post = [] := by cases post with
        | nil => rfl
        | cons _ _ => cases e2
      subst this
      rw [List.append_nil] at e1
      subst e1
      walk_at "ww"
      simp only [sortedP_prs, ok_ok]
      exact ok_of rfl ⟨rfl, rfl⟩
end
/-! ### both tell the same -/
section
variable {p : Pl} {s s' : Int × Int} {q : Int × Int}
theorem mem_bar (hq : q ∈ pairsOf p.b.sums) : q ∈ barAt p s ↔ q.1 + q.2 ≤ s.2 ∧ selP p.looks q < s.1 :=
  (mem_barred (b := (p.at s).b) (xs := p.b.sums)).trans ⟨fun h => h.2, fun h => ⟨hq, h⟩⟩
theorem bar_pairs (h : q ∈ barAt p s) : q ∈ pairsOf p.b.sums := (mem_barred (b := (p.at s).b) (xs := p.b.sums)).mp h |>.1
theorem bar_pf : barAt p (plainOf p.looks (barAt p s)) = barAt p s :=
  plain_same (b := (p.at s).b) (c := (p.at (plainOf p.looks (barAt p s))).b) (xs := p.b.sums) (fun x hx => sums_pos hx) rfl rfl rfl
theorem pf_mono (h0 : 0 ≤ s'.1 ∧ 0 ≤ s'.2) (h : ∀ q ∈ barAt p s, q ∈ barAt p s') : (plainOf p.looks (barAt p s)).1 ≤ (plainOf p.looks (barAt p s')).1 ∧ (plainOf p.looks (barAt p s)).2 ≤ (plainOf p.looks (barAt p s')).2 := by
  obtain ⟨g1, -, g2, -⟩ := plain_bds (b := (p.at s').b) (xs := p.b.sums) h0.1 h0.2 fun x hx => sums_pos hx
  have g1 : 0 ≤ (plainOf p.looks (barAt p s')).1 := g1
  have g2 : 0 ≤ (plainOf p.looks (barAt p s')).2 := g2
  have hq : ∀ q ∈ barAt p s, q.1 + q.2 ≤ (plainOf p.looks (barAt p s')).2 ∧ selP p.looks q < (plainOf p.looks (barAt p s')).1 := fun q hq => by
    have hc := h q hq
    have hpq := bar_pairs hc
    rw [← bar_pf] at hc
    exact (mem_bar hpq).mp hc
  generalize plainOf p.looks (barAt p s') = c at *
  unfold plainOf
  by_cases e : barAt p s = []
  · rw [if_pos e]; exact ⟨g1, g2⟩
  · rw [if_neg e]
    have m1 := maxL_mem (xs := (barAt p s).map fun p_1 => if p.looks = ("own" : Str) then p_1.2 else p_1.1) (by simpa using e)
    have m2 := maxL_mem (xs := (barAt p s).map fun p => p.1 + p.2) (by simpa using e)
    obtain ⟨q1, hq1, e1⟩ := List.mem_map.mp m1
    obtain ⟨q2, hq2, e2⟩ := List.mem_map.mp m2
    refine ⟨?_, ?_⟩
    · have := (hq q1 hq1).2
      unfold selP at this
      show maxL _ + 1 ≤ c.1
      rw [← e1]
      omega
    · have := (hq q2 hq2).1
      show maxL _ ≤ c.2
      rw [← e2]
      exact this
theorem pf_anti (h1 : (plainOf p.looks (barAt p s)).1 ≤ (plainOf p.looks (barAt p s')).1) (h2 : (plainOf p.looks (barAt p s)).2 ≤ (plainOf p.looks (barAt p s')).2) : ∀ q ∈ barAt p s, q ∈ barAt p s' := fun q hq => by
  have hpq := bar_pairs hq
  rw [← bar_pf] at hq ⊢
  obtain ⟨a, b⟩ := (mem_bar hpq).mp hq
  exact (mem_bar hpq).mpr ⟨by omega, by omega⟩
theorem pf_one (h : plainOf p.looks (barAt p s) = plainOf p.looks (barAt p s')) : barAt p s = barAt p s' := by
  rw [← bar_pf (s := s), h, bar_pf]
theorem bar_one (h0 : 0 ≤ s.1 ∧ 0 ≤ s.2) (h0' : 0 ≤ s'.1 ∧ 0 ≤ s'.2) (h : ∀ q ∈ barAt p s, q ∈ barAt p s') (h' : ∀ q ∈ barAt p s', q ∈ barAt p s) : barAt p s = barAt p s' := by
  obtain ⟨a, b⟩ := pf_mono h0' h
  obtain ⟨c, d⟩ := pf_mono h0 h'
  exact pf_one (Prod.ext (by omega) (by omega))
theorem sel_srt (looks : Str) : selP looks (srt q) = selS looks q := rfl
theorem sum_srt : (srt q).1 + (srt q).2 = q.1 + q.2 := by unfold srt; show min q.1 q.2 + max q.1 q.2 = _; omega
theorem srt_pairs (h1 : q.1 ∈ p.b.sums) (h2 : q.2 ∈ p.b.sums) : srt q ∈ pairsOf p.b.sums := by
  refine mem_pairsOf.mpr ⟨?_, ?_, by unfold srt; show min q.1 q.2 ≤ max q.1 q.2; omega⟩
  · unfold srt; show min q.1 q.2 ∈ _
    rcases Int.le_total q.1 q.2 with h | h
    · rw [Int.min_eq_left h]; exact h1
    · rw [Int.min_eq_right h]; exact h2
  · unfold srt; show max q.1 q.2 ∈ _
    rcases Int.le_total q.1 q.2 with h | h
    · rw [Int.max_eq_right h]; exact h2
    · rw [Int.max_eq_left h]; exact h1
theorem okLot_iff {qs : List (Int × Int)} {B : List (Int × Int)} : okLot qs B = true ↔ ∀ q ∈ qs, srt q ∉ B := by
  unfold okLot
  rw [decide_eq_true_iff, List.filter_eq_nil_iff]
  simp only [List.mem_map, decide_eq_true_eq]
  exact ⟨fun h q hq => h _ ⟨q, hq, rfl⟩, fun h z ⟨q, hq, e⟩ => e ▸ h q hq⟩
theorem among_iff {xs ys : List (Int × Int)} : amongB xs ys = true ↔ ∀ q ∈ xs, q ∈ ys := by
  unfold amongB
  simp
theorem okLot_bfor {qs ps : List (Int × Int)} {cut side : Str} (hqs : ∀ q ∈ qs, q.1 ∈ p.b.sums ∧ q.2 ∈ p.b.sums) (hm : ∀ q, q ∈ ps ↔ q ∈ qs) (hr : s.2 ≤ p.room) : okLot qs (barAt p s) = true ↔ s.2 ≤ bfor (p.bk cut side) s.1 ps := by
  rw [okLot_iff, le_bfor]
  constructor
  · intro h
    refine ⟨hr, fun q hq hs => ?_⟩
    have hq' := (hm q).mp hq
    obtain ⟨a, b⟩ := hqs q hq'
    have := h q hq'
    rw [mem_bar (srt_pairs a b), sum_srt, sel_srt] at this
    have hs : selS p.looks q < s.1 := hs
    omega
  · rintro ⟨-, h⟩ q hq hb
    obtain ⟨a, b⟩ := hqs q hq
    rw [mem_bar (srt_pairs a b), sum_srt, sel_srt] at hb
    have := h q ((hm q).mpr hq) hb.2
    omega
end
theorem mem_found {b : Bk} {ps : List (Int × Int)} {f : Int × Int} : ∀ {n : Nat}, f ∈ foundOf b ps n ↔ ∃ k, k < n ∧ f = plAt b ps k
  | 0 => by simp [foundOf]
  | n + 1 => by
    rw [found_succ]
    unfold addN
    split
    · rename_i c
      rw [mem_found]
      constructor
      · rintro ⟨k, h, e⟩; exact ⟨k, by omega, e⟩
      · rintro ⟨k, h, e⟩
        by_cases z : k = n
        · subst z; subst e
          obtain ⟨j, hj, e⟩ := mem_found.mp c
          exact ⟨j, hj, e⟩
        · exact ⟨k, by omega, e⟩
    · rw [List.mem_append, mem_found, List.mem_singleton]
      constructor
      · rintro (⟨k, h, e⟩ | e)
        · exact ⟨k, by omega, e⟩
        · exact ⟨n, by omega, e⟩
      · rintro ⟨k, h, e⟩
        by_cases z : k = n
        · subst z; exact .inr e
        · exact .inl ⟨k, by omega, e⟩
theorem found_nodup (b : Bk) (ps : List (Int × Int)) : ∀ n : Nat, (foundOf b ps n).Nodup
  | 0 => by simp [foundOf]
  | n + 1 => by
    have h := found_nodup b ps n
    rw [found_succ]
    unfold addN
    split
    · exact h
    · rename_i c
      exact List.nodup_append.mpr ⟨h, by simp, fun x hx y hy e => by
        have : y = plAt b ps n := by simpa using hy
        exact c (this ▸ e ▸ hx)⟩
theorem gr_iff {o f : Int × Int} : grB o f = true ↔ o ≠ f ∧ f.1 ≤ o.1 ∧ f.2 ≤ o.2 := by
  unfold grB
  simp only [Bool.and_eq_true, Bool.not_eq_true', decide_eq_false_iff_not, decide_eq_true_eq, ne_eq]
theorem mem_best {fs : List (Int × Int)} {f : Int × Int} : f ∈ bestOf fs ↔ f ∈ fs ∧ ∀ o ∈ fs, ¬ (o ≠ f ∧ f.1 ≤ o.1 ∧ f.2 ≤ o.2) := by
  unfold bestOf
  rw [List.mem_filter]
  refine and_congr_right fun _ => ?_
  rw [Bool.not_eq_true', ← Bool.not_eq_true, List.any_eq_true]
  constructor
  · intro h o ho z; exact h ⟨o, ho, gr_iff.mpr z⟩
  · rintro h ⟨o, ho, z⟩; exact h o ho (gr_iff.mp z)
theorem top_iff {lots : List (List (Int × Int))} {lot : List (Int × Int)} : topL lots lot = true ↔ ∀ o ∈ lots, (∀ q ∈ lot, q ∈ o) → o = lot := by
  unfold topL
  rw [decide_eq_true_iff, List.filter_eq_nil_iff]
  constructor
  · intro h o ho hs
    have := h o ho
    rw [among_iff.mpr hs] at this
    by_cases e : o = lot
    · exact e
    · simp [e] at this
  · intro h o ho z
    simp only [Bool.and_eq_true, Bool.not_eq_true', decide_eq_false_iff_not] at z
    exact z.1 (h o ho (among_iff.mp z.2))
theorem due_is {p : Pl} {ps qs : List (Int × Int)} {cut side : Str} (hp : PlOk p) {R : Nat} (hR : p.room = R) (hqs : ∀ q ∈ qs, q.1 ∈ p.b.sums ∧ q.2 ∈ p.b.sums) (hm : ∀ q, q ∈ ps ↔ q ∈ qs) : sortP (bestOf (foundOf (p.bk cut side) ps (R + 2))) = dueOf p qs R := by
  have hbd : ∀ k : Nat, 0 ≤ bfor (p.bk cut side) k ps ∧ bfor (p.bk cut side) k ps ≤ p.room := fun k => bfor_bds (b := p.bk cut side) (by show 0 ≤ p.room; omega) fun q hq => by
    obtain ⟨a, b⟩ := hqs q ((hm q).mp hq)
    exact ⟨sums_pos a, sums_pos b⟩
  have hpl : ∀ k : Nat, plAt (p.bk cut side) ps k = plainOf p.looks (barAt p ((k : Int), bfor (p.bk cut side) k ps)) := fun k => rfl
  -- every lot lies within that of its low mark
  have hin : ∀ k : Nat, k < R + 2 → barAt p ((k : Int), bfor (p.bk cut side) k ps) ∈ lotsOf p qs (settsOf R) := fun k hk => by
    obtain ⟨a, b⟩ := hbd k
    refine mem_lots.mpr ⟨_, mem_setts.mpr ⟨⟨by show (0 : Int) ≤ k; omega, by show (k : Int) ≤ R + 1; omega⟩, a, by show bfor _ _ _ ≤ (R : Int); omega⟩, rfl, ?_⟩
    exact (okLot_bfor (cut := cut) (side := side) (s := ((k : Int), bfor (p.bk cut side) k ps)) hqs hm b).mpr (Int.le_refl _)
  have hcov : ∀ C ∈ lotsOf p qs (settsOf R), ∃ (s : Int × Int) (k : Nat), C = barAt p s ∧ (0 ≤ s.1 ∧ 0 ≤ s.2) ∧ k < R + 2 ∧ ∀ q ∈ C, q ∈ barAt p ((k : Int), bfor (p.bk cut side) k ps) := fun C hC => by
    obtain ⟨s, hs, rfl, ho⟩ := mem_lots.mp hC
    obtain ⟨⟨a, b⟩, c, d⟩ := mem_setts.mp hs
    have hb := (okLot_bfor (cut := cut) (side := side) (s := s) hqs hm (by omega)).mp ho
    refine ⟨s, s.1.toNat, rfl, ⟨a, c⟩, by omega, fun q hq => ?_⟩
    have hk : ((s.1.toNat : Nat) : Int) = s.1 := by omega
    rw [hk]
    have hpq := bar_pairs hq
    obtain ⟨x, y⟩ := (mem_bar hpq).mp hq
    exact (mem_bar hpq).mpr ⟨by show q.1 + q.2 ≤ bfor _ _ _; omega, y⟩
  refine sortP_of ?_
  refine (List.perm_ext_iff_of_nodup ?_ ?_).mpr fun f => ?_
  · exact (found_nodup _ _ _).filter _
  · refine List.pairwise_map.mpr (((lots_nodup p qs (settsOf R)).filter _).imp_of_mem fun {C D} hC hD hne e => hne ?_)
    obtain ⟨s, _, rfl, _⟩ := mem_lots.mp (List.mem_filter.mp hC).1
    obtain ⟨s', _, rfl, _⟩ := mem_lots.mp (List.mem_filter.mp hD).1
    exact pf_one e
  · rw [mem_best, List.mem_map]
    constructor
    · rintro ⟨h1, h2⟩
      obtain ⟨k, hk, rfl⟩ := mem_found.mp h1
      refine ⟨_, List.mem_filter.mpr ⟨hin k hk, top_iff.mpr fun C hC hs => ?_⟩, (hpl k).symm⟩
      obtain ⟨s, j, rfl, h0, hj, hcj⟩ := hcov C hC
      have hkb := hbd k
      have hjb := hbd j
      obtain ⟨m1, m2⟩ := pf_mono (p := p) (s := ((k : Int), bfor (p.bk cut side) k ps)) (s' := ((j : Int), bfor (p.bk cut side) j ps)) ⟨by show (0 : Int) ≤ j; omega, hjb.1⟩ fun q hq => hcj q (hs q hq)
      have hno := h2 _ (mem_found.mpr ⟨j, hj, rfl⟩)
      have he : plAt (p.bk cut side) ps j = plAt (p.bk cut side) ps k := by
        refine Decidable.byContradiction fun z => hno ⟨z, ?_, ?_⟩
        · rw [hpl, hpl]; exact m1
        · rw [hpl, hpl]; exact m2
      rw [hpl, hpl] at he
      have he2 := pf_one he
      refine bar_one h0 ⟨by show (0 : Int) ≤ k; omega, hkb.1⟩ (fun q hq => ?_) hs
      rw [← he2]
      exact hcj q hq
    · rintro ⟨C, hC, rfl⟩
      obtain ⟨hC, ht⟩ := List.mem_filter.mp hC
      have ht := top_iff.mp ht
      obtain ⟨s, k, rfl, h0, hk, hck⟩ := hcov C hC
      have he := ht _ (hin k hk) hck
      refine ⟨mem_found.mpr ⟨k, hk, by rw [hpl, he]⟩, fun o ho ⟨z1, z2, z3⟩ => z1 ?_⟩
      obtain ⟨j, hj, rfl⟩ := mem_found.mp ho
      rw [hpl] at z2 z3 ⊢
      rw [ht _ (hin j hj) (pf_anti z2 z3)]
/-! ### one turn of the law -/
def tupP (ps : List (Int × Int)) : D := .tup (ps.map Vt.pairD)
theorem dEq_tup (x y : List (Int × Int)) : dEq [tupP x, tupP y] = some (.bl (decide (x = y))) := by
  have := eqD_en (enT enPP) (by decide) (fun _ _ => rfl) x y
  show (eqD ((enT enPP).en x) ((enT enPP).en y)).map D.bl = _
  rw [this]; rfl
theorem dNe_tup (x y : List (Int × Int)) : dNe [tupP x, tupP y] = some (.bl (!decide (x = y))) := by
  have := eqD_en (enT enPP) (by decide) (fun _ _ => rfl) x y
  show (eqD ((enT enPP).en x) ((enT enPP).en y)).map _ = _
  rw [this]; rfl
theorem dEq_tups (x y : List (List (Int × Int))) : dEq [.lst (x.map tupP), .lst (y.map tupP)] = some (.bl (decide (x = y))) := by
  have := eqD_en (enL (enT enPP)) (by decide) (fun _ _ => rfl) x y
  show (eqD ((enL (enT enPP)).en x) ((enL (enT enPP)).en y)).map D.bl = _
  rw [this]; rfl
theorem dNe_tups (x y : List (List (Int × Int))) : dNe [.lst (x.map tupP), .lst (y.map tupP)] = some (.bl (!decide (x = y))) := by
  have := eqD_en (enL (enT enPP)) (by decide) (fun _ _ => rfl) x y
  show (eqD ((enL (enT enPP)).en x) ((enL (enT enPP)).en y)).map _ = _
  rw [this]; rfl
section
variable {rest mem : List MO}
theorem methBk_ok {i n : Nat} {φ : Fun} {g : MA} {env : List Slot} {b : Bk} {P : D → List MO → Prop} (h : env[i]? = some (.val b.d)) (hg : Ok (g env mem) fun ds m => ds.length = n ∧ Ok (φ (b.d :: ds) m) P) : Ok (mMethK "Book" n φ (mVar i) g env mem) P := by
  have e : mVar i env mem = .ok b.d mem := by unfold mVar; rw [h]
  unfold mMethK
  rw [e]
  show Ok (if ("Book" : String) = "Book" then (g env mem).bind fun ds m2 => kwCall n φ b.d ds m2 else .bad) P
  rw [if_pos rfl, ok_bind]
  refine hg.imp fun ds m ⟨h1, h2⟩ => ?_
  unfold kwCall
  rw [if_pos h1]
  exact h2
theorem prsOf_le : ∀ {cs : List (List (List Int))}, (∀ c ∈ cs, c.length ≤ 4) → (prsOf cs).length ≤ cs.length * 4
  | [], _ => by simp [prsOf]
  | c :: cs, h => by
    have h1 := prsOf_le (cs := cs) fun c hc => h c (List.mem_cons_of_mem _ hc)
    have h2 := h c List.mem_cons_self
    have h3 : (prsOf (c :: cs)).length = (nbrs (tots c)).length + (prsOf cs).length := by simp [prsOf]
    have h4 : (nbrs (tots c)).length ≤ c.length := by unfold nbrs tots; rw [List.length_zip, List.length_map]; omega
    rw [List.length_cons]
    omega
theorem mem_prs {cs : List (List (List Int))} {q : Int × Int} : q ∈ seenGo [] (cs.map tots) ↔ q ∈ prsOf cs := by
  rw [mem_seenGo]
  unfold prsOf
  simp only [List.mem_map, List.mem_flatMap, List.not_mem_nil, false_or]
  exact ⟨fun ⟨t, ⟨a, ha, e⟩, hp⟩ => ⟨a, ha, e ▸ hp⟩, fun ⟨a, ha, hp⟩ => ⟨_, ⟨a, ha, rfl⟩, hp⟩⟩
theorem mem_prs_rev {cs : List (List (List Int))} {q : Int × Int} : q ∈ seenGo [] (cs.reverse.map tots) ↔ q ∈ prsOf cs := by
  rw [mem_prs]
  unfold prsOf
  simp only [List.mem_flatMap, List.mem_reverse]
theorem turn_ok {p : Pl} {n : Nat} {b : D} (hp : PlOk p) (hn : n ≤ 800000) (h : PenM rest n mem) :
    Ok (mLc (.nm 4) (mRng1 (mCons (mFun S__law_draw (mCons (mVar 0) (mCons (mC (.int 4)) mNil))) mNil)) mYes (mFun S__law_chain (mCons (mVar 0) (mCons (mVar 1) mNil))) [4] [.val (.hnd 0), .val p.d, .val b, .none, .none, .none, .none] mem) fun d m => (∃ cs : List (List (List Int)), cs.length ≤ 3 ∧ (∀ c ∈ cs, LCh p c) ∧ d = .lst (cs.map chD)) ∧ PenM rest (n + 200) m := by
  refine ok_lc (fun ds acc m => ds.length ≤ 3 ∧ PenM rest (n + 200 - ds.length * 40) m ∧ ∃ cs : List (List (List Int)), cs.length + ds.length ≤ 3 ∧ (∀ c ∈ cs, LCh p c) ∧ acc = cs.map chD) ?_ rfl ?_ ?_
  · unfold mRng1
    walk_at "ww"
    refine (draw_ok (many := 4) h (by omega) (by omega) (by omega)).imp fun d m hd => ?_
    obtain ⟨⟨t, rfl, t0, t1⟩, h⟩ := hd
    walk_at "ww"
    simp only [rng1_eq (j := t) (by omega) (by omega), ok_ok, List.length_map, List.length_range]
    exact ⟨by omega, h.mono (by omega), [], by simp; omega, (fun _ h => nomatch h), rfl⟩
  · rintro d ds acc m ⟨hl, h, cs, hz, hcs, rfl⟩
    rw [List.length_cons] at hl h hz
    refine ⟨_, rfl, ?_⟩
    walk_at "ww"
    refine (chain_ok hp h (by omega)).imp fun d m hd => ?_
    obtain ⟨⟨ps, hps, rfl⟩, h⟩ := hd
    refine ⟨by rw [List.length_map, sizeLine_eq]; omega, by omega, h.mono (by omega), cs ++ [ps], by simp; omega, fun c hc => ?_, by simp⟩
    rcases List.mem_append.mp hc with q | q
    · exact hcs c q
    · have : c = ps := by simpa using q
      rw [this]; exact hps
  · rintro acc m ⟨-, h, cs, hz, hcs, rfl⟩
    simp only [List.length_nil, Nat.zero_mul, Nat.sub_zero, Nat.add_zero] at h hz
    exact ⟨⟨cs, hz, hcs, rfl⟩, h⟩
theorem right_ok {n : Nat} (h : PenM rest n mem) (hn : n ≤ 700000) : Ok (S__law_right [.hnd 0] mem) fun d m => d = .bl true ∧ PenM rest (n + 1000) m := by
  refine (ok_phi rfl).mpr ?_
  unfold m__law_right
  walk_at "ww"
  refine (plain_ok h (by omega)).imp fun d m hd => ?_
  obtain ⟨⟨p, hp, rfl⟩, h⟩ := hd
  walk_at "ww"
  simp only [ixd0, ok_ok]
  walk_at "ww"
  refine ⟨fun _ => h.mono (by omega), fun _ => ?_⟩
  refine (text_ok hp h (by omega)).imp fun d m hd => ?_
  obtain ⟨⟨cut, side, hc, hs, rfl⟩, h⟩ := hd
  have hb := pl_ok hp hc hs
  have r1 := hp.r1
  have r2 := hp.r2
  obtain ⟨R, hR⟩ : ∃ R : Nat, p.room = R := ⟨p.room.toNat, by omega⟩
  walk_at "ww"
  simp only [if_pos, Book_read hb, ok_ok]
  refine (turn_ok hp (by omega) h).imp fun d m hd => ?_
  obtain ⟨⟨cs, hz, hcs, rfl⟩, h⟩ := hd
  have hch : ∀ c ∈ cs, ChOk c := fun c hc => lch_ok hp (hcs c hc)
  have hpl : (prsOf cs).length ≤ 12 := by have := prsOf_le fun c hc => (hcs c hc).four; omega
  have hqs : ∀ q ∈ prsOf cs, q.1 ∈ p.b.sums ∧ q.2 ∈ p.b.sums := fun q hq => by
    obtain ⟨c, hc', hq⟩ := List.mem_flatMap.mp hq
    unfold nbrs at hq
    exact ⟨lch_sums hp (hcs c hc') (c := cut) (s := side) _ (List.of_mem_zip hq).1, lch_sums hp (hcs c hc') (c := cut) (s := side) _ (List.mem_of_mem_drop (List.of_mem_zip hq).2)⟩
  have hall : ∀ {l d : Int}, ∀ c ∈ cs, ChOk c ∧ fitB ((p.at (l, d)).bk cut side) c = true ∧ ∀ t ∈ tots c, t ∈ ((p.at (l, d)).bk cut side).sums := fun {l d} c hc' => ⟨hch c hc', lch_fit (p := p) (hcs c hc') (c := cut) (s := side), lch_sums hp (hcs c hc') (c := cut) (s := side)⟩
  have hT : ∀ m, S__law_tight [(p.bk cut side).d, .lst (cs.map chD)] m = .ok (tupP (dueOf p (prsOf cs) R)) m := fun m => by
    have e1 := ltight_eq (mem := m) (cs := cs) (b := p.bk cut side) (fun c hc' => hall (l := p.low) (d := p.bound) c hc') hb hz hR
    rw [due_is hp hR hqs fun _ => mem_prs] at e1
    exact e1
  have hD : ∀ m, S__law_due [p.d, prsD (prsOf cs)] m = .ok (tupP (dueOf p (prsOf cs) R)) m := fun m => due_eq hp (by omega) hR
  have hS : ∀ m, S__law_seen [.lst (cs.map chD)] m = .ok (prsD (prsOf cs)) m := fun m => lseen_eq (fun c hc => ⟨hch c hc, (hcs c hc).four⟩) hz
  simp only [hS, ok_ok, hD, hT, dNe_tup]
  simp only [decide_true, Bool.not_true, ok_ok, Bool.false_eq_true, false_implies, true_and, forall_const]
  have hR' : ∀ {l d : Int}, (0 ≤ l ∧ l ≤ p.room + 1) ∧ 0 ≤ d ∧ d ≤ p.room → ∀ m, S__law_tight [((p.at (l, d)).bk cut side).d, .lst (cs.reverse.map chD)] m = .ok (tupP (dueOf p (prsOf cs) R)) m := fun {l d} hld m => by
    have hb2 := pl_ok (at_ok hp (s := (l, d)) hld) hc hs
    have e1 := ltight_eq (mem := m) (cs := cs.reverse) (fun c hc' => hall (l := l) (d := d) c (List.mem_reverse.mp hc')) hb2 (by rw [List.length_reverse]; exact hz) (R := R) hR
    have e2 := due_is (p := p.at (l, d)) (ps := seenGo [] (cs.reverse.map tots)) (qs := prsOf cs) (cut := cut) (side := side) (at_ok hp (s := (l, d)) hld) (R := R) hR hqs fun _ => mem_prs_rev
    rw [e2] at e1
    exact e1
  obtain ⟨xs, hxs⟩ : ∃ xs, (p.bk cut side).d = .ins "Book" (.int p.room :: xs) := ⟨_, rfl⟩
  refine methBk_ok (b := p.bk cut side) rfl ?_
  rw [hxs]
  walk_at "ww"
  refine (draw_ok (many := p.room + 2) h (by omega) (by omega) (by omega)).imp fun d m hd => ?_
  obtain ⟨⟨l, rfl, l0, l1⟩, h⟩ := hd
  walk_at "ww"
  refine (draw_ok (many := p.room + 1) h (by omega) (by omega) (by omega)).imp fun d m hd => ?_
  obtain ⟨⟨d, rfl, d0, d1⟩, h⟩ := hd
  walk_at "ww"
  rw [← hxs]
  have hld : (0 ≤ l ∧ l ≤ p.room + 1) ∧ 0 ≤ d ∧ d ≤ p.room := ⟨⟨l0, by omega⟩, d0, by omega⟩
  have hbut : ∀ m, S_Book_but_low_bound [(p.bk cut side).d, .int l, .int d] m = .ok ((p.at (l, d)).bk cut side).d m := fun m => but_low_bound (b := p.bk cut side) (pl_ok (at_ok hp (s := (l, d)) hld) hc hs)
  have hrev : (cs.map chD).reverse = cs.reverse.map chD := by rw [List.map_reverse]
  simp only [hbut, ok_ok, hrev, hR' hld, dEq_tup, decide_true]
  exact ⟨trivial, h.mono (by omega)⟩
end
/-! ### the law -/
theorem rep_one {xs : List Int} (h : 1 ∈ xs) : ∀ k : Nat, Rep xs (1 + (k : Int))
  | 0 => .one h
  | k + 1 => by
    have := Rep.add (rep_one h k) h
    have e : 1 + ((k + 1 : Nat) : Int) = 1 + (k : Int) + 1 := by omega
    rw [e]; exact this
def upto (n : Nat) : List Int := (List.range n).map fun k => (1 : Int) + (k : Nat)
theorem sums_one {xs : List Int} (h : 1 ∈ xs) (n : Nat) : sumsOf (n : Int) xs = upto n := by
  unfold sumsOf upto
  rw [List.filter_eq_self.mpr fun t ht => ?_]
  · simp
  · obtain ⟨k, -, rfl⟩ := List.mem_map.mp ht
    exact repB_iff.mpr (rep_one h k)
def B1 : Bk := ⟨8, [1, 2, 3, 4], 4, 8, "own", "even", "left"⟩
def B1n : Bk := ⟨8, [1, 2, 3, 4], 4, 8, "near", "even", "left"⟩
def B2 : Bk := ⟨20, [1], 11, 20, "own", "even", "left"⟩
theorem b1_ok : BkOk B1 := ⟨by decide, by decide, ⟨by decide, by decide, by decide, by decide⟩, by decide, by decide, by decide, by decide, by decide, List.mem_cons_self, List.mem_cons_self, List.mem_cons_self⟩
theorem b1n_ok : BkOk B1n := ⟨by decide, by decide, ⟨by decide, by decide, by decide, by decide⟩, by decide, by decide, by decide, by decide, by decide, List.mem_cons_of_mem _ List.mem_cons_self, List.mem_cons_self, List.mem_cons_self⟩
theorem b2_ok : BkOk B2 := ⟨by decide, by decide, ⟨by decide, by decide, by decide, by decide⟩, by decide, by decide, by decide, by decide, by decide, List.mem_cons_self, List.mem_cons_self, List.mem_cons_self⟩
theorem b1_sums : B1.sums = upto 8 := sums_one (by simp [B1]) 8
theorem b1n_sums : B1n.sums = upto 8 := sums_one (by simp [B1n]) 8
theorem b2_sums : B2.sums = upto 20 := sums_one (by simp [B2]) 20
def plC (b : Bk) (xs : List Int) (ps : List (Int × Int)) (k : Nat) : Int × Int := plainOf b.looks (barredOf { b with low := (k : Int), bound := bfor b k ps } xs)
def foundC (b : Bk) (xs : List Int) (ps : List (Int × Int)) (n : Nat) : List (Int × Int) := (List.range n).foldl (fun acc k => addN acc (plC b xs ps k)) []
theorem tight_is {mem : List MO} {b : Bk} {cs : List (List (List Int))} {xs : List Int} {R : Nat} {r : List (Int × Int)} (hb : BkOk b) (hx : b.sums = xs) (hR : b.room = R) (h : ∀ c ∈ cs, ChOk c ∧ fitB b c = true ∧ ∀ t ∈ tots c, t ∈ xs) (hl : cs.length ≤ 100)
    (hr : sortP (bestOf (foundC b xs (seenGo [] (cs.map tots)) (R + 2))) = r) : S_tight (b.d :: cs.map chD) mem = .ok (tupP r) mem := by
  rw [tight_eq (fun c hc => by rw [hx]; exact h c hc) hb hl hR]
  have e : foundOf b (seenGo [] (cs.map tots)) (R + 2) = foundC b xs (seenGo [] (cs.map tots)) (R + 2) := by subst hx; rfl
  rw [e, hr]
  rfl
def LONG : List (List Int) := [[4, 4], [4, 3], [4, 4], [4, 2], [4, 4], [4, 1], [4, 4], [4], [4, 4], [3], [2]]
theorem fit1 {b : Bk} {c : List (List Int)} {xs : List Int} (h1 : ChOk c) (h2 : fitB b c = true) (h3 : ∀ t ∈ tots c, t ∈ xs) : ∀ c' ∈ [c], ChOk c' ∧ fitB b c' = true ∧ ∀ t ∈ tots c', t ∈ xs := fun c' hc => by
  have : c' = c := by simpa using hc
  subst this
  exact ⟨h1, h2, h3⟩
def C1 : List (List Int) := [[1], [4], [1]]
def C2 : List (List Int) := [[2], [4, 1]]
def C3 : List (List Int) := [[4]]
def C4 : List (List Int) := [[1, 1, 1, 1, 1, 1, 1, 1, 1, 1], [1, 1, 1, 1, 1, 1, 1, 1, 1, 1]]
theorem long_ok : ChOk LONG := ⟨by decide, by decide, by decide⟩
theorem c1_ok : ChOk C1 := ⟨by decide, by decide, by decide⟩
theorem c2_ok : ChOk C2 := ⟨by decide, by decide, by decide⟩
theorem c3_ok : ChOk C3 := ⟨by decide, by decide, by decide⟩
theorem c4_ok : ChOk C4 := ⟨by decide, by decide, by decide⟩
section
variable {mem : List MO}
theorem read1 : S_Book_read [.glo "Book", .str "room 8 lengths 1 2 3 4 low 4 bound 8 own even left"] mem = .ok B1.d mem := by
  have e : ("room 8 lengths 1 2 3 4 low 4 bound 8 own even left" : Str) = Txt.join SP (bookWords B1) := by decide +kernel
  rw [e, Book_read b1_ok]
theorem read2 : S_Book_read [.glo "Book", .str "room 20 lengths 1 low 11 bound 20 own even left"] mem = .ok B2.d mem := by
  have e : ("room 20 lengths 1 low 11 bound 20 own even left" : Str) = Txt.join SP (bookWords B2) := by decide +kernel
  rw [e, Book_read b2_ok]
theorem readL : S_Chain_read [.glo "Chain", .str "4 4 / 4 3 / 4 4 / 4 2 / 4 4 / 4 1 / 4 4 / 4 / 4 4 / 3 / 2"] mem = .ok (chD LONG) mem := by
  have e : ("4 4 / 4 3 / 4 4 / 4 2 / 4 4 / 4 1 / 4 4 / 4 / 4 4 / 3 / 2" : Str) = Txt.join SP (chWords LONG) := by decide +kernel
  rw [e, Chain_read long_ok]
theorem t1 : S_tight [B2.d] mem = .ok (tupP [(20, 20)]) mem := tight_is (cs := []) (R := 20) b2_ok b2_sums rfl (fun _ h => nomatch h) (by decide) (by decide +kernel)
theorem t2 : S_tight [B2.d, chD C4] mem = .ok (tupP [(19, 19)]) mem := tight_is (cs := [C4]) (R := 20) b2_ok b2_sums rfl (fit1 c4_ok (by decide) (by decide)) (by decide) (by decide +kernel)
theorem t3 : S_tight [B1.d, chD LONG] mem = .ok (tupP [(4, 4)]) mem := tight_is (cs := [LONG]) (R := 8) b1_ok b1_sums rfl (fit1 long_ok (by decide) (by decide)) (by decide) (by decide +kernel)
theorem t4 : S_tight [B1.d, chD C1] mem = .ok (tupP [(4, 6)]) mem := tight_is (cs := [C1]) (R := 8) b1_ok b1_sums rfl (fit1 c1_ok (by decide) (by decide)) (by decide) (by decide +kernel)
theorem t5 : S_tight [B1n.d, chD C1] mem = .ok (tupP [(3, 4)]) mem := tight_is (cs := [C1]) (R := 8) b1n_ok b1n_sums rfl (fit1 c1_ok (by decide) (by decide)) (by decide) (by decide +kernel)
theorem t6 : S_tight [B1.d, chD C2] mem = .ok (tupP [(5, 8), (6, 6)]) mem := tight_is (cs := [C2]) (R := 8) b1_ok b1_sums rfl (fit1 c2_ok (by decide) (by decide)) (by decide) (by decide +kernel)
theorem t7 : S_tight [B1.d, chD C3] mem = .ok (tupP [(8, 8)]) mem := tight_is (cs := [C3]) (R := 8) b1_ok b1_sums rfl (fit1 c3_ok (by decide) (by decide)) (by decide) (by decide +kernel)
theorem k1n : S_Book_but_looks [B1.d, .str "near"] mem = .ok B1n.d mem := but_looks b1n_ok
theorem mk1 : fI I_Chain (mkD "Chain") [.tup [.int 1], .tup [.int 4], .tup [.int 1]] mem = .ok (chD C1) mem := Chain_init c1_ok (en := rowD) fun _ => .inr rfl
theorem mk2 : fI I_Chain (mkD "Chain") [.tup [.int 2], .tup [.int 4, .int 1]] mem = .ok (chD C2) mem := Chain_init c2_ok (en := rowD) fun _ => .inr rfl
theorem mk3 : fI I_Chain (mkD "Chain") [.tup [.int 4]] mem = .ok (chD C3) mem := Chain_init c3_ok (en := rowD) fun _ => .inr rfl
theorem ten : dMulT [.tup [.int 1], .int 10] = some (rowD [1, 1, 1, 1, 1, 1, 1, 1, 1, 1]) := by rfl
theorem mk4 : fI I_Chain (mkD "Chain") [rowD [1, 1, 1, 1, 1, 1, 1, 1, 1, 1], rowD [1, 1, 1, 1, 1, 1, 1, 1, 1, 1]] mem = .ok (chD C4) mem := Chain_init c4_ok (en := rowD) fun _ => .inr rfl
theorem q1n {env : List Slot} (h : env[3]? = some (.val B1.d)) : mMethK "Book" 1 S_Book_but_looks (mVar 3) (mCons (mC (.str "near")) mNil) env mem = .ok B1n.d mem := (methBk h rfl rfl).trans k1n
theorem n1 : dNe [.lst [tupP [(20, 20)], tupP [(19, 19)]], .lst [.tup [.tup [.int 20, .int 20]], .tup [.tup [.int 19, .int 19]]]] = some (.bl false) := (dNe_tups [[(20, 20)], [(19, 19)]] [[(20, 20)], [(19, 19)]]).trans (by simp)
theorem n2 : dNe [tupP [(4, 4)], .tup [.tup [.int 4, .int 4]]] = some (.bl false) := (dNe_tup [(4, 4)] [(4, 4)]).trans (by simp)
theorem n3 : dEq [.lst [tupP [(4, 6)], tupP [(3, 4)], tupP [(5, 8), (6, 6)], tupP [(8, 8)]], .lst [.tup [.tup [.int 4, .int 6]], .tup [.tup [.int 3, .int 4]], .tup [.tup [.int 5, .int 8], .tup [.int 6, .int 6]], .tup [.tup [.int 8, .int 8]]]] = some (.bl true) := (dEq_tups [[(4, 6)], [(3, 4)], [(5, 8), (6, 6)], [(8, 8)]] [[(4, 6)], [(3, 4)], [(5, 8), (6, 6)], [(8, 8)]]).trans (by simp)
theorem pen_ok {xs : List Int} : Ok (S__law_pen [.slf (xs.map .int)] []) fun d m => d = .hnd 0 ∧ PenM [] 0 m := by
  refine (ok_phi rfl).mpr ?_
  unfold m__law_pen
  walk_at "ww"
  obtain ⟨ys, hy⟩ : ∃ ys : List Int, dSl none (some 63) (.slf (xs.map .int)) = some (.lst (ys.map .int)) := by
    refine ⟨(xs.drop (HT.sIx (xs.map D.int).length 0 none)).take (HT.sIx (xs.map D.int).length (xs.map D.int).length (some 63) - HT.sIx (xs.map D.int).length 0 none), ?_⟩
    show some (D.lst (Vt.cutD (xs.map .int) none (some 63))) = _
    unfold Vt.cutD
    rw [List.map_take, List.map_drop]
  have hz : dList [.lst (ys.map .int)] = some (.lst (ys.map .int)) := rfl
  simp only [hy, hz, ok_ok]
  rw [if_pos (by decide), ok_ok]
  exact ⟨rfl, ys, 0, 0, rfl, by omega, by omega, by omega⟩
theorem law_ok (xs : List Int) : Ok (S_law [.slf (xs.map .int)] []) fun d _ => d = .bl true := by
  refine (ok_phi rfl).mpr ?_
  unfold m_law
  walk_at "ww"
  refine pen_ok.imp fun d m hd => ?_
  obtain ⟨rfl, h⟩ := hd
  walk_at "ww"
  refine fk_for (fun ds e m => ds.length ≤ 4 ∧ PenM [] (4000 - ds.length * 1000) m ∧ ∃ s2 : Slot, e = [.val (.slf (xs.map .int)), .val (.hnd 0), s2, .none, .none, .none, .none, .none, .none]) ?_ ?_ ?_
  · unfold mRng1
    walk_at "ww"
    simp only [rng1_eq (j := 4) (by omega) (by omega), ok_ok, List.length_map, List.length_range]
    exact ⟨by decide, h.mono (by omega), _, rfl⟩
  · rintro d ds e m ⟨hl, h, s2, rfl⟩
    rw [List.length_cons] at hl h
    refine ⟨_, rfl, ?_⟩
    walk_at "ww"
    refine (right_ok h (by omega)).imp fun d m hd => ?_
    obtain ⟨rfl, h⟩ := hd
    walk_at "ww"
    exact ⟨by omega, h.mono (by omega), _, rfl⟩
  · rintro e m ⟨-, h, s2, rfl⟩
    have s1 : 1 ≤ sizeLine := by decide
    have s2' : 2 ≤ sizeLine := by decide
    have s4 : 4 ≤ sizeLine := by decide
    walk_at "ww"
    simp only [read1, read2, ok_ok, t1, if_pos s1, ten, mk4, t2, if_pos s2', readL]
    simp only [n1, ok_ok, Bool.false_eq_true, if_false]
    walk_at "ww"
    simp only [t3, if_pos s1, if_pos s2', ok_ok, n2, Bool.false_eq_true, false_implies, true_and, forall_const]
    rw [q1n rfl]
    simp only [ok_ok, mk1, mk2, mk3, t4, t5, t6, t7, if_pos s4, n3]
end
end W77
set_option Elab.async false
set_option linter.all false
set_option maxRecDepth 100000
set_option maxHeartbeats 0
set_option autoImplicit false
namespace W77
open PySem PySem.Spec PyProof.Rows L2 Vt
/-- the law's promise from the plain law -/
theorem law_rx {K : PySem.W.Frag} {H : Hp} {a : Addr} {ns : List Int} (hS : SqL K H a (ns.map V.int)) : RX ⟨K, nm⟩ (phi 1 9 m_law) [.ref a] H (fun v _ => v = .bl true) fun _ _ _ => False := by
  obtain ⟨d, m, e, rfl⟩ := law_ok ns
  have e2 : phi 1 9 m_law [.slf (ns.map .int)] [] = .ok (.bl true) m := by
    have := nx_le (phi 1 9 m_law) [.slf (ns.map .int)] [] (by
      have e' : nx (phi 1 9 m_law) [.slf (ns.map .int)] [] = .ok (.bl true) m := e
      rw [e']; exact nofun)
    exact this.trans e
  refine ⟨H, [], [], [.slf (ns.map .int)], ⟨Same.refl H, rfl, List.nodup_nil, nofun, nofun⟩, ⟨_, _, rfl, ⟨a, ns.map V.int, rfl, hS, isl_ints⟩, rfl⟩, ?_⟩
  rw [e2]
  exact fun v F' ad' H' _ h => h
end W77
open PySem PySem.W PySem.Calls PyProof.Rows
theorem PySem.Challenge.cw_pagefloor_k77_whole_tight_settings_of_ch_holds : PySem.Challenge.rw_pagefloor_k77_whole_tight_settings_of_ch.Holds := by
  w_on; o_law
  refine HandSHeadRun.head_any (r := OpenLaw.row PySem.Challenge.rw_pagefloor_k77_whole_tight_settings_of_ch) (q := view (OpenLaw.row PySem.Challenge.rw_pagefloor_k77_whole_tight_settings_of_ch).prog [73]) (H := W77.hk) (ob := W77.ob) (M := 12000) (loose := W77.nms) (d := HandSHeadRun.topDef (OpenLaw.row PySem.Challenge.rw_pagefloor_k77_whole_tight_settings_of_ch).prog 73) (kwd := []) W77.ob_eq
    (by kernel_rfl) (fun s => by kernel_rfl) W77.run (by kernel_rfl) (by kernel_rfl) (by kernel_rfl) (by rfl) (by first | assumption | decide +kernel) (by decide +kernel) ⟨rfl, rfl, rfl, rfl, rfl, by decide +kernel⟩ ?hw ?hc
  case hw => w_witness2
  case hc =>
    refine L2.walk_ofE (l := PySem.Challenge.rw_pagefloor_k77_whole_tight_settings_of_ch) (n := 63) (k := 12) (x := "_law_script") (CX := L2.CX0) rfl (by decide) (by kernel_rfl) ⟨rfl, by decide, by decide⟩ ?F (fun _ _ _ _ z => z)
    intro w mg fa h Y G hmg0
    obtain ⟨K, KX, c⟩ := Y
    have hmg : mg ("law" : PySem.Str) = some (.ref fa) := by
      have e : (HandSHeadRun.topDef (OpenLaw.row PySem.Challenge.rw_pagefloor_k77_whole_tight_settings_of_ch).prog 73).name = ("law" : PySem.Str) := by kernel_rfl
      rw [← e]
      exact hmg0
    have ef := hmg.symm.trans (W77.law_glo KX G c)
    cases ef
    obtain ⟨fd, F⟩ := W77.law_fun c
    have b := L2.FunD.bindsA (ps := ["_law_script"]) F fun _ _ _ _ _ _ us hl => match us, hl with | [_], _ => rfl
    exact ⟨K, fd, _, KX, fun s v => b s [v] rfl, fun H a ns _ _ hS => ⟨rfl, W77.law_rx hS⟩, fun base _ _ => W77.facts KX G c F⟩
