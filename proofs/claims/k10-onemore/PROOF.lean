import PyProof.Rows.All
import Wide.All
import OpenK.AllK
import Wide.FinOn
import HandS.ForMost
import HandS.ForExc
import HandS.Lambda
import HandS.IsInst
import HandS.TupAny
import HandS.Deep
import HandS.SortInts
import HandS.Wide
import HandS.Conv
import HandS.Zip
import HandS.ExcCtx
import HandS.HotCalls
import HandS.ExcIs
import HandS.Style
import KE.GoesEnum
import HandS.TupMul
import HandS.Flow
import PyProof.Rows.IntBool
import HandS.Text
import HandS.EndTab
import HandS.CallLocal
import HandS.Strs
import HandS.TupLe
import HandS.SetFor
import PySem.Challenge.RW_knotspans_k10_whole_places_of_one_more_k
import PyProof.Rows.RegStrFacts
section
set_option Elab.async false
set_option linter.all false
set_option maxRecDepth 100000
set_option maxHeartbeats 4000000
/-! # The layer of plain data over the hand layer: worlds, values, what an expression means in plain data -/
namespace Ks
open PySem PySem.Spec PyProof.Rows L2

abbrev Dt := PyData
/-- the module's names, and the tables of code objects that are told of -/
structure Mg where
  f : Str → Option Value
  T : List (Addr × Str)
variable {T : List (PySem.Addr × PySem.Str)}
/-- an exception: the name of its class, and what it bears -/
structure Exn where
  cls : Str
  arg : Option Dt := none
/-- what a slot holds, in plain data -/
inductive Dv where
  | d (p : Dt) | own (ps : List Dt) | coil | dic (kvs : List (Key × Dt)) | odic (kvs : List (Key × Dt)) | scr (ns : List Int) | fn (f : Addr) | ty (n : String)
def Dv.isOwn : Dv → Bool
  | .own _ => true
  | .odic _ => true
  | _ => false

mutual
/-- v is the datum, in the part of the heap that stands still -/
def Rp (G : Hp) : PyData → V → Prop
  | .none, v => v = .non
  | .bool b, v => v = .bl b
  | .int i, v => v = .int i
  | .str x, v => v = .str x
  | .list ds, v => ∃ a vs, v = .ref a ∧ G a = some (.lst vs) ∧ RpA G ds vs
  | .tuple ds, v => ∃ a vs, v = .ref a ∧ G a = some (.tup vs) ∧ RpA G ds vs
  | .dict kvs, v => ∃ f : Addr, kvs = [(.none, .int (f : Nat))] ∧ v = .ref f
def RpA (G : Hp) : List PyData → List V → Prop
  | [], vs => vs = []
  | d :: ds, vs => ∃ v r, vs = v :: r ∧ Rp G d v ∧ RpA G ds r
end

mutual
theorem Rp.mono {G G' : Hp} (g : Same G G') : ∀ (d : PyData) (v : V), Rp G d v → Rp G' d v
  | .none, v, h => by simpa [Rp] using h
  | .bool b, v, h => by simpa [Rp] using h
  | .int i, v, h => by simpa [Rp] using h
  | .str x, v, h => by simpa [Rp] using h
  | .list ds, v, h => by
    simp only [Rp] at h ⊢
    obtain ⟨a, vs, rfl, ha, hs⟩ := h
    exact ⟨a, vs, rfl, g _ _ ha, RpA.mono g ds vs hs⟩
  | .tuple ds, v, h => by
    simp only [Rp] at h ⊢
    obtain ⟨a, vs, rfl, ha, hs⟩ := h
    exact ⟨a, vs, rfl, g _ _ ha, RpA.mono g ds vs hs⟩
  | .dict _, v, h => by
    simp only [Rp] at h ⊢
    exact h
theorem RpA.mono {G G' : Hp} (g : Same G G') : ∀ (ds : List PyData) (vs : List V), RpA G ds vs → RpA G' ds vs
  | [], vs, h => by simpa [RpA] using h
  | d :: ds, vs, h => by
    simp only [RpA] at h ⊢
    obtain ⟨v, r, rfl, h1, h2⟩ := h
    exact ⟨v, r, rfl, Rp.mono g d v h1, RpA.mono g ds r h2⟩
end
mutual
/-- the layer's own data relation -/
theorem Rp.dp {K : PySem.W.Frag} {G H : Hp} (g : Same G H) : ∀ (d : PyData) (v : V), d.canLay0 = true → Rp G d v → Dp K H v d
  | .none, v, _, h => by simp only [Rp] at h; subst h; exact .non
  | .bool b, v, _, h => by simp only [Rp] at h; subst h; exact .bl b
  | .int i, v, _, h => by simp only [Rp] at h; subst h; exact .int i
  | .str x, v, _, h => by simp only [Rp] at h; subst h; exact .str x
  | .list ds, v, c, h => by
    simp only [Rp] at h
    obtain ⟨a, vs, rfl, ha, hs⟩ := h
    exact .lst (SqL.of (g _ _ ha)) (RpA.dp g ds vs (by unfold PyData.canLay0 at c; exact c) hs)
  | .tuple ds, v, c, h => by
    simp only [Rp] at h
    obtain ⟨a, vs, rfl, ha, hs⟩ := h
    exact .tup (SqT.of (g _ _ ha)) (RpA.dp g ds vs (by unfold PyData.canLay0 at c; exact c) hs)
  | .dict _, v, c, h => by simp [PyData.canLay0] at c
theorem RpA.dp {K : PySem.W.Frag} {G H : Hp} (g : Same G H) : ∀ (ds : List PyData) (vs : List V), PyData.canLayAll0 ds = true → RpA G ds vs → DpAll K H vs ds
  | [], vs, _, h => by simp only [RpA] at h; subst h; exact .nil
  | d :: ds, vs, c, h => by
    simp only [RpA] at h
    obtain ⟨v, r, rfl, h1, h2⟩ := h
    unfold PyData.canLayAll0 at c
    rw [Bool.and_eq_true] at c
    exact .cons (Rp.dp g d v c.1 h1) (RpA.dp g ds r c.2 h2)
end
/-- a def as a datum -/
def fnD (f : Addr) : PyData := .dict [(.none, .int (f : Nat))]
theorem rp_fn {G : Hp} {f : Addr} {v : V} : Rp G (fnD f) v ↔ v = .ref f := by
  unfold fnD
  simp only [Rp]
  constructor
  · rintro ⟨g, e, rfl⟩
    injection e with e _
    injection e with _ e
    injection e with e
    rw [Int.ofNat.inj e]
  · rintro rfl
    exact ⟨f, rfl, rfl⟩
theorem lay_of_shaped {d : PyData} (h : SeqAt.shaped d = true) : d.canLay0 = true := by
  unfold SeqAt.shaped at h
  rw [Bool.and_eq_true] at h
  exact h.1
theorem RpA.length {G : Hp} : ∀ {ds : List PyData} {vs : List V}, RpA G ds vs → vs.length = ds.length
  | [], vs, h => by simp only [RpA] at h; subst h; rfl
  | d :: ds, vs, h => by
    simp only [RpA] at h
    obtain ⟨v, r, rfl, h1, h2⟩ := h
    simp [RpA.length h2]
theorem RpA.get {G : Hp} : ∀ {ds : List PyData} {vs : List V} {i : Nat} {d : PyData}, RpA G ds vs → ds[i]? = some d → ∃ v, vs[i]? = some v ∧ Rp G d v
  | [], vs, i, d, h, e => by simp at e
  | c :: ds, vs, i, d, h, e => by
    simp only [RpA] at h
    obtain ⟨v, r, rfl, h1, h2⟩ := h
    cases i with
    | zero => simp at e; subst e; exact ⟨v, rfl, h1⟩
    | succ i => simpa using RpA.get (i := i) h2 (by simpa using e)
theorem RpA.get' {G : Hp} : ∀ {ds : List PyData} {vs : List V} {i : Nat} {v : V}, RpA G ds vs → vs[i]? = some v → ∃ d, ds[i]? = some d ∧ Rp G d v
  | [], vs, i, v, h, e => by simp only [RpA] at h; subst h; simp at e
  | c :: ds, vs, i, v, h, e => by
    simp only [RpA] at h
    obtain ⟨u, r, rfl, h1, h2⟩ := h
    cases i with
    | zero => simp at e; subst e; exact ⟨c, rfl, h1⟩
    | succ i => simpa using RpA.get' (i := i) h2 (by simpa using e)
theorem RpA.nil {G : Hp} : RpA G [] [] := by simp [RpA]
theorem RpA.cons {G : Hp} {d : PyData} {ds : List PyData} {v : V} {vs : List V} (h : Rp G d v) (t : RpA G ds vs) : RpA G (d :: ds) (v :: vs) := by
  simp only [RpA]
  exact ⟨v, vs, rfl, h, t⟩
theorem RpA.append {G : Hp} : ∀ {ds es : List PyData} {vs us : List V}, RpA G ds vs → RpA G es us → RpA G (ds ++ es) (vs ++ us)
  | [], es, vs, us, h, k => by simp only [RpA] at h; subst h; exact k
  | d :: ds, es, vs, us, h, k => by
    simp only [RpA] at h
    obtain ⟨v, r, rfl, h1, h2⟩ := h
    exact .cons h1 (RpA.append h2 k)
theorem RpA.take {G : Hp} : ∀ {ds : List PyData} {vs : List V} (n : Nat), RpA G ds vs → RpA G (ds.take n) (vs.take n)
  | _, _, 0, h => by simp [RpA]
  | [], vs, n + 1, h => by simp only [RpA] at h; subst h; simp [RpA]
  | d :: ds, vs, n + 1, h => by
    simp only [RpA] at h
    obtain ⟨v, r, rfl, h1, h2⟩ := h
    exact .cons h1 (RpA.take n h2)
theorem RpA.drop {G : Hp} : ∀ {ds : List PyData} {vs : List V} (n : Nat), RpA G ds vs → RpA G (ds.drop n) (vs.drop n)
  | _, _, 0, h => by simpa using h
  | [], vs, n + 1, h => by simp only [RpA] at h; subst h; simp [RpA]
  | d :: ds, vs, n + 1, h => by
    simp only [RpA] at h
    obtain ⟨v, r, rfl, h1, h2⟩ := h
    simpa using RpA.drop n h2
theorem RpA.reverse {G : Hp} : ∀ {ds : List PyData} {vs : List V}, RpA G ds vs → RpA G ds.reverse vs.reverse
  | [], vs, h => by simp only [RpA] at h; subst h; simp [RpA]
  | d :: ds, vs, h => by
    simp only [RpA] at h
    obtain ⟨v, r, rfl, h1, h2⟩ := h
    rw [List.reverse_cons, List.reverse_cons]
    exact .append (RpA.reverse h2) (.cons h1 .nil)
theorem RpA.set {G : Hp} {d : PyData} {v : V} (h : Rp G d v) : ∀ {ds : List PyData} {vs : List V} (i : Nat), RpA G ds vs → RpA G (ds.set i d) (vs.set i v)
  | [], vs, i, k => by simp only [RpA] at k; subst k; simp [RpA]
  | c :: ds, vs, 0, k => by
    simp only [RpA] at k
    obtain ⟨u, r, rfl, h1, h2⟩ := k
    exact .cons h h2
  | c :: ds, vs, i + 1, k => by
    simp only [RpA] at k
    obtain ⟨u, r, rfl, h1, h2⟩ := k
    exact .cons h1 (RpA.set h i h2)
/-- a list of ints -/
def ilst (ns : List Int) : List Dt := ns.map PyData.int
def blst (bs : List Bool) : List Dt := bs.map PyData.bool
def slst (xs : List Str) : List Dt := xs.map PyData.str
theorem RpA.ilst {G : Hp} : ∀ {ns : List Int} {vs : List V}, RpA G (ilst ns) vs → vs = ns.map V.int
  | [], vs, h => by simpa [Ks.ilst, RpA] using h
  | n :: ns, vs, h => by
    simp only [Ks.ilst, List.map_cons, RpA, Rp] at h
    obtain ⟨v, r, rfl, rfl, h2⟩ := h
    rw [RpA.ilst h2]; rfl
theorem RpA.blst {G : Hp} : ∀ {ns : List Bool} {vs : List V}, RpA G (blst ns) vs → vs = ns.map V.bl
  | [], vs, h => by simpa [Ks.blst, RpA] using h
  | n :: ns, vs, h => by
    simp only [Ks.blst, List.map_cons, RpA, Rp] at h
    obtain ⟨v, r, rfl, rfl, h2⟩ := h
    rw [RpA.blst h2]; rfl
theorem RpA.slst {G : Hp} : ∀ {ns : List Str} {vs : List V}, RpA G (slst ns) vs → vs = ns.map V.str
  | [], vs, h => by simpa [Ks.slst, RpA] using h
  | n :: ns, vs, h => by
    simp only [Ks.slst, List.map_cons, RpA, Rp] at h
    obtain ⟨v, r, rfl, rfl, h2⟩ := h
    rw [RpA.slst h2]; rfl
theorem RpA.of_ilst {G : Hp} : ∀ {ns : List Int}, RpA G (Ks.ilst ns) (ns.map V.int)
  | [] => .nil
  | n :: ns => .cons (by simp [Rp]) (RpA.of_ilst (ns := ns))
theorem RpA.of_slst {G : Hp} : ∀ {ns : List Str}, RpA G (Ks.slst ns) (ns.map V.str)
  | [] => .nil
  | n :: ns => .cons (by simp [Rp]) (RpA.of_slst (ns := ns))
theorem RpA.of_blst {G : Hp} : ∀ {ns : List Bool}, RpA G (Ks.blst ns) (ns.map V.bl)
  | [] => .nil
  | n :: ns => .cons (by simp [Rp]) (RpA.of_blst (ns := ns))
/-- dicts' items -/
def RpK (G : Hp) : List (Key × Dt) → List (Key × V) → Prop
  | [], vs => vs = []
  | (k, d) :: ds, vs => ∃ v r, vs = (k, v) :: r ∧ Rp G d v ∧ RpK G ds r
theorem RpK.mono {G G' : Hp} (g : Same G G') : ∀ {ds : List (Key × Dt)} {vs : List (Key × V)}, RpK G ds vs → RpK G' ds vs
  | [], vs, h => h
  | (k, d) :: ds, vs, h => by
    obtain ⟨v, r, rfl, h1, h2⟩ := h
    exact ⟨v, r, rfl, Rp.mono g d v h1, RpK.mono g h2⟩

/-! ### worlds -/
/-- a drawing coil: two ints -/
def CoilAt (H : Hp) (c : Addr) : Prop := ∃ a b : Int, H c = some (.lst [.int a, .int b]) ∧ 0 ≤ a ∧ 0 ≤ b ∧ b ≤ 2147483587
/-- C: the coils; G: what stands still; H: what is tracked -/
structure Wd (T : List (Addr × Str)) where
  C : Addr → Prop
  G : Hp
  H : Hp
  gh : Same G H
  gc : ∀ a, C a → G a = none
  gt : ∀ a ps, G a ≠ some (.tbl ps)
  cat : ∀ c, C c → CoilAt H c
  tabs : LamX.Tabs T H
/-- free, or a table of code objects -/
def Fr (H : Hp) (a : Addr) : Prop := ∀ o, H a = some o → ∃ ps, o = .tbl ps
theorem Fr.of {H : Hp} {a : Addr} (h : H a = none) : Fr H a := fun o e => by rw [h] at e; cases e
theorem Fr.no {H : Hp} {a : Addr} {o : HO} (f : Fr H a) (h : H a = some o) (ho : ∀ ps, o ≠ .tbl ps) : False := by
  obtain ⟨ps, e⟩ := f o h
  exact ho ps e
structure Grow (w w' : Wd T) : Prop where
  gg : Same w.G w'.G
  new : ∀ a o, w.G a = none → w'.G a = some o → Fr w.H a
  keep : ∀ a o, w.H a = some o → ¬ w.C a → (∀ ps, o ≠ .tbl ps) → w'.H a = some o
  dom : ∀ a, Fr w'.H a → Fr w.H a
  cc : ∀ c, w.C c → w'.C c
  cn : ∀ c, w'.C c → ¬ w.C c → Fr w.H c
theorem Grow.refl (w : Wd T) : Grow w w := ⟨Same.refl _, fun _ _ h h' => (by rw [h] at h'; cases h'), fun _ _ h _ _ => h, fun _ h => h, fun _ h => h, fun _ h n => absurd h n⟩
theorem Grow.trans {w w1 w2 : Wd T} (a : Grow w w1) (b : Grow w1 w2) : Grow w w2 where
  gg := a.gg.trans b.gg
  new := fun x o h h2 => by
    cases e : w1.G x with
    | none => exact a.dom x (b.new x o e h2)
    | some u => exact a.new x u h e
  keep := fun x o h nc nt => by
    refine b.keep x o (a.keep x o h nc nt) (fun hc => ?_) nt
    exact (a.cn x hc nc).no h nt
  dom := fun x h => a.dom x (b.dom x h)
  cc := fun c h => b.cc c (a.cc c h)
  cn := fun c h n => by
    by_cases e : w1.C c
    · exact a.cn c e n
    · exact a.dom c (b.cn c h e)
theorem tabs_same {H H' : Hp} (e : Same H H') (T : List (Addr × Str)) (t : LamX.Tabs T H) : LamX.Tabs T H' := t.ext e
theorem CoilAt.same {H H' : Hp} {c : Addr} (e : Same H H') (h : CoilAt H c) : CoilAt H' c := by
  obtain ⟨a, b, h1, h2⟩ := h
  exact ⟨a, b, e _ _ h1, h2⟩
theorem CoilAt.ne {H : Hp} {c p : Addr} (h : CoilAt H c) (hp : H p = none) : c ≠ p := by
  obtain ⟨a, b, h1, _⟩ := h
  exact ne_of_none h1 hp
theorem same_upd {H : Hp} {p : Addr} {o : HO} (h : H p = none) : Same H (upd H p o) := fun b x e => by
  rw [upd_ne (ne_of_none e h)]
  exact e
/-- a new object that stands still -/
def Wd.add (w : Wd T) (p : Addr) (o : HO) (hp : w.H p = none) (ho : ∀ ps, o ≠ .tbl ps) : Wd T where
  C := w.C
  G := upd w.G p o
  H := upd w.H p o
  gh := fun b x e => by
    by_cases hb : b = p
    · subst hb; rw [upd_same] at e ⊢; exact e
    · rw [upd_ne hb] at e ⊢; exact w.gh b x e
  gc := fun a h => by
    have ne : a ≠ p := (w.cat a h).ne hp
    rw [upd_ne ne]; exact w.gc a h
  gt := fun a ps e => by
    by_cases hb : a = p
    · subst hb; rw [upd_same] at e; exact ho ps (Option.some.inj e)
    · rw [upd_ne hb] at e; exact w.gt a ps e
  cat := fun c h => (w.cat c h).same (same_upd hp)
  tabs := w.tabs.ext (same_upd hp)
theorem Wd.g_none {w : Wd T} {p : Addr} (hp : w.H p = none) : w.G p = none := w.gh.free hp
theorem Grow.add {w : Wd T} {p : Addr} {o : HO} (hp : w.H p = none) (ho : ∀ ps, o ≠ .tbl ps) : Grow w (w.add p o hp ho) where
  gg := same_upd (Wd.g_none hp)
  new := fun a u h h' => by
    by_cases e : a = p
    · subst e; exact .of hp
    · rw [show (w.add p o hp ho).G a = w.G a from upd_ne e, h] at h'; cases h'
  keep := fun a u h _ _ => same_upd hp a u h
  dom := fun a h => by
    by_cases e : a = p
    · subst e; exact .of hp
    · exact fun o' h' => h o' ((upd_ne e).trans h')
  cc := fun _ h => h
  cn := fun _ h n => absurd h n
/-- a new object that may yet change -/
def Wd.lay (w : Wd T) (p : Addr) (o : HO) (hp : w.H p = none) : Wd T where
  C := w.C
  G := w.G
  H := upd w.H p o
  gh := w.gh.trans (same_upd hp)
  gc := w.gc
  gt := w.gt
  cat := fun c h => (w.cat c h).same (same_upd hp)
  tabs := w.tabs.ext (same_upd hp)
theorem Grow.lay {w : Wd T} {p : Addr} {o : HO} (hp : w.H p = none) : Grow w (w.lay p o hp) where
  gg := Same.refl _
  new := fun a u h h' => by rw [show (w.lay p o hp).G a = w.G a from rfl, h] at h'; cases h'
  keep := fun a u h _ _ => same_upd hp a u h
  dom := fun a h => by
    by_cases e : a = p
    · subst e; exact .of hp
    · exact fun o' h' => h o' ((upd_ne e).trans h')
  cc := fun _ h => h
  cn := fun _ h n => absurd h n
/-- what may change is to stand still from here on -/
def Wd.fix (w : Wd T) (p : Addr) (o : HO) (hp : w.H p = some o) (hc : ¬ w.C p) (ho : ∀ ps, o ≠ .tbl ps) : Wd T where
  C := w.C
  G := upd w.G p o
  H := w.H
  gh := fun b x e => by
    by_cases hb : b = p
    · subst hb; rw [upd_same] at e; rw [hp]; exact e
    · rw [upd_ne hb] at e; exact w.gh b x e
  gc := fun a h => by
    have ne : a ≠ p := fun e => hc (e ▸ h)
    rw [upd_ne ne]; exact w.gc a h
  gt := fun a ps e => by
    by_cases hb : a = p
    · subst hb; rw [upd_same] at e; exact ho ps (Option.some.inj e)
    · rw [upd_ne hb] at e; exact w.gt a ps e
  cat := w.cat
  tabs := w.tabs

/-! ### what a slot holds -/
def RS (K : PySem.W.Frag) (w : Wd T) : V → Dv → Prop
  | v, .d p => Rp w.G p v
  | v, .own ps => ∃ a vs, v = .ref a ∧ w.G a = none ∧ ¬ w.C a ∧ w.H a = some (.lst vs) ∧ RpA w.G ps vs
  | v, .coil => ∃ c, v = .ref c ∧ w.C c
  | v, .dic kvs => ∃ a vs, v = .ref a ∧ w.G a = some (.dK vs) ∧ RpK w.G kvs vs
  | v, .odic kvs => ∃ a vs, v = .ref a ∧ w.G a = none ∧ ¬ w.C a ∧ w.H a = some (.dK vs) ∧ RpK w.G kvs vs
  | v, .scr ns => ∃ a, v = .ref a ∧ SqL K w.G a (ns.map V.int)
  | v, .fn f => v = .ref f
  | v, .ty n => v = .ty n
theorem Grow.own {w w' : Wd T} (g : Grow w w') {a : Addr} {o : HO} (hg : w.G a = none) (hc : ¬ w.C a) (h : w.H a = some o) (ho : ∀ ps, o ≠ .tbl ps) : w'.G a = none ∧ ¬ w'.C a ∧ w'.H a = some o := by
  refine ⟨?_, fun e => ?_, g.keep a o h hc ho⟩
  · cases e : w'.G a with
    | none => rfl
    | some u =>
      exact ((g.new a u hg e).no h ho).elim
  · exact (g.cn a e hc).no h ho
theorem RS.grow {K : PySem.W.Frag} {w w' : Wd T} (g : Grow w w') : ∀ {v : V} {x : Dv}, RS K w v x → RS K w' v x
  | v, .d p, h => Rp.mono g.gg p v h
  | v, .own ps, h => by
    obtain ⟨a, vs, rfl, h1, h2, h3, h4⟩ := h
    obtain ⟨q1, q2, q3⟩ := g.own h1 h2 h3 (fun ps e => nomatch e)
    exact ⟨a, vs, rfl, q1, q2, q3, RpA.mono g.gg _ _ h4⟩
  | v, .coil, h => by
    obtain ⟨c, rfl, h⟩ := h
    exact ⟨c, rfl, g.cc c h⟩
  | v, .dic kvs, h => by
    obtain ⟨a, vs, rfl, h1, h2⟩ := h
    exact ⟨a, vs, rfl, g.gg _ _ h1, h2.mono g.gg⟩
  | v, .odic kvs, h => by
    obtain ⟨a, vs, rfl, h1, h2, h3, h4⟩ := h
    obtain ⟨q1, q2, q3⟩ := g.own h1 h2 h3 (fun ps e => nomatch e)
    exact ⟨a, vs, rfl, q1, q2, q3, h4.mono g.gg⟩
  | v, .scr ns, h => by
    obtain ⟨a, rfl, h⟩ := h
    exact ⟨a, rfl, g.gg.seq h⟩
  | v, .fn f, h => h
  | v, .ty n, h => h

abbrev Env := List (Option Dv)
/-- the slots σ hold what ρ says; en: the world at the def's entry -/
structure St (K : PySem.W.Frag) (en w : Wd T) (ρ : Env) (σ : L2.St) : Prop where
  len : σ.length = ρ.length
  rs : ∀ (i : Nat) (x : Dv), ρ[i]? = some (some x) → ∃ v, σ[i]? = some (some v) ∧ RS K w v x
  un : ∀ (i j : Nat) (x y : Dv) (a : Addr), ρ[i]? = some (some x) → ρ[j]? = some (some y) → x.isOwn = true → y.isOwn = true → σ[i]? = some (some (.ref a)) → σ[j]? = some (some (.ref a)) → i = j
  fr : ∀ (i : Nat) (x : Dv) (a : Addr), ρ[i]? = some (some x) → x.isOwn = true → σ[i]? = some (some (.ref a)) → Fr en.H a
  gr : Grow en w
theorem St.grow {K : PySem.W.Frag} {en w w' : Wd T} {ρ : Env} {σ : L2.St} (s : St K en w ρ σ) (g : Grow w w') : St K en w' ρ σ :=
  ⟨s.len, fun i x h => let ⟨v, h1, h2⟩ := s.rs i x h; ⟨v, h1, h2.grow g⟩, s.un, s.fr, s.gr.trans g⟩

/-! ### meanings -/
abbrev M (α : Type) := (α → Prop) → (Exn → Prop) → Prop
def ExR (mg : Mg) (x : Exn) (u : Value) (o : Option Addr) : Prop := mg.f x.cls = some u ∧ (x.arg = none → o = none)
/-- the reading t of an expression gives what m says -/
def SE (K : PySem.W.Frag) (mg : Mg) (E : XK) (t : TE) (m : Env → M Dv) : Prop :=
  ∀ (en w : Wd mg.T) (ρ : Env) (σ : L2.St) (Q : Dv → Prop) (Ex : Exn → Prop) (R : VK), St K en w ρ σ → m ρ Q Ex →
    (∀ (x : Dv) (v : V) (w' : Wd mg.T), Grow w w' → RS K w' v x → Q x → R v w'.H) →
    (∀ (x : Exn) (u : Value) (o : Option Addr) (w' : Wd mg.T), Grow w w' → Ex x → ExR mg x u o → E u o w'.H) → t σ w.H R
/-- a test -/
def SB (K : PySem.W.Frag) (mg : Mg) (E : XK) (t : TT) (m : Env → M Bool) : Prop :=
  ∀ (en w : Wd mg.T) (ρ : Env) (σ : L2.St) (Q : Bool → Prop) (Ex : Exn → Prop) (R : Bool → Hp → Prop), St K en w ρ σ → m ρ Q Ex →
    (∀ (x : Bool) (w' : Wd mg.T), Grow w w' → Q x → R x w'.H) →
    (∀ (x : Exn) (u : Value) (o : Option Addr) (w' : Wd mg.T), Grow w w' → Ex x → ExR mg x u o → E u o w'.H) → t σ w.H R
/-- values one by one -/
def RSs (K : PySem.W.Frag) (w : Wd T) : List V → List Dv → Prop
  | [], [] => True
  | v :: vs, x :: xs => RS K w v x ∧ RSs K w vs xs
  | _, _ => False
theorem RSs.grow {K : PySem.W.Frag} {w w' : Wd T} (g : Grow w w') : ∀ {vs : List V} {xs : List Dv}, RSs K w vs xs → RSs K w' vs xs
  | [], [], _ => trivial
  | v :: vs, x :: xs, h => ⟨h.1.grow g, RSs.grow g h.2⟩
  | [], _ :: _, h => h
  | _ :: _, [], h => h
theorem RSs.length {K : PySem.W.Frag} {w : Wd T} : ∀ {vs : List V} {xs : List Dv}, RSs K w vs xs → vs.length = xs.length
  | [], [], _ => rfl
  | v :: vs, x :: xs, h => by simp [RSs.length h.2]
  | [], _ :: _, h => h.elim
  | _ :: _, [], h => h.elim
def SA (K : PySem.W.Frag) (mg : Mg) (E : XK) (n : Nat) (t : TA) (m : Env → M (List Dv)) : Prop :=
  ∀ (en w : Wd mg.T) (ρ : Env) (σ : L2.St) (Q : List Dv → Prop) (Ex : Exn → Prop) (R : List V → Hp → Prop), St K en w ρ σ → m ρ Q Ex →
    (∀ (xs : List Dv) (vs : List V) (w' : Wd mg.T), Grow w w' → RSs K w' vs xs → xs.length = n → Q xs → R vs w'.H) →
    (∀ (x : Exn) (u : Value) (o : Option Addr) (w' : Wd mg.T), Grow w w' → Ex x → ExR mg x u o → E u o w'.H) → t σ w.H R
/-- a new list, not yet standing still -/
def SF (K : PySem.W.Frag) (mg : Mg) (E : XK) (t : TE) (m : Env → M (List Dt)) : Prop :=
  ∀ (en w : Wd mg.T) (ρ : Env) (σ : L2.St) (Q : List Dt → Prop) (Ex : Exn → Prop) (R : VK), St K en w ρ σ → m ρ Q Ex →
    (∀ (ds : List Dt) (a : Addr) (vs : List V) (w' : Wd mg.T), Grow w w' → Fr w.H a → w'.G a = none → ¬ w'.C a → w'.H a = some (.lst vs) → RpA w'.G ds vs → Q ds → R (.ref a) w'.H) →
    (∀ (x : Exn) (u : Value) (o : Option Addr) (w' : Wd mg.T), Grow w w' → Ex x → ExR mg x u o → E u o w'.H) → t σ w.H R

/-- an operation of two values -/
abbrev S2 (K : PySem.W.Frag) (r : R2) (f : Dv → Dv → (Dv → Prop) → Prop) : Prop :=
  ∀ {T : List (PySem.Addr × PySem.Str)} (w : Wd T) (x y : Dv) (v u : V) (Q : Dv → Prop) (R : VK), RS K w v x → RS K w u y → f x y Q →
    (∀ (z : Dv) (v : V) (w' : Wd T), Grow w w' → RS K w' v z → Q z → R v w'.H) → r v u w.H R
abbrev S1 (K : PySem.W.Frag) (r : V → Hp → VK → Prop) (f : Dv → (Dv → Prop) → Prop) : Prop :=
  ∀ {T : List (PySem.Addr × PySem.Str)} (w : Wd T) (x : Dv) (v : V) (Q : Dv → Prop) (R : VK), RS K w v x → f x Q →
    (∀ (z : Dv) (v : V) (w' : Wd T), Grow w w' → RS K w' v z → Q z → R v w'.H) → r v w.H R
/-- a call of a builtin by values -/
abbrev SC (K : PySem.W.Frag) (r : List V → Hp → VK → Prop) (f : List Dv → (Dv → Prop) → Prop) : Prop :=
  ∀ {T : List (PySem.Addr × PySem.Str)} (w : Wd T) (xs : List Dv) (vs : List V) (Q : Dv → Prop) (R : VK), RSs K w vs xs → f xs Q →
    (∀ (z : Dv) (v : V) (w' : Wd T), Grow w w' → RS K w' v z → Q z → R v w'.H) → r vs w.H R

section
variable {K : PySem.W.Frag} {mg : Mg} {E : XK} {ta tb tc : TE} {ma mb mc : Env → M Dv} {tt : TT} {mt : Env → M Bool}
def mVar (i : Nat) : Env → M Dv := fun ρ Q _ => match ρ[i]? with
  | some (some x) => Q x
  | _ => False
theorem se_var (i : Nat) : SE K mg E (tVar i) (mVar i) := fun en w ρ σ Q Ex R s h hq _ => by
  unfold mVar at h
  split at h
  · rename_i x e
    obtain ⟨v, h1, h2⟩ := s.rs i x e
    exact ⟨v, h1, hq x v w (.refl w) h2 h⟩
  · exact h.elim
def mC (p : Dt) : Env → M Dv := fun _ Q _ => Q (.d p)
theorem se_int {i : Int} : SE K mg E (tC (.int i)) (mC (.int i)) := fun en w ρ σ Q Ex R s h hq _ => hq _ _ w (.refl w) (by simp [RS, Rp]) h
theorem se_bl {i : Bool} : SE K mg E (tC (.bl i)) (mC (.bool i)) := fun en w ρ σ Q Ex R s h hq _ => hq _ _ w (.refl w) (by simp [RS, Rp]) h
theorem se_str {i : Str} : SE K mg E (tC (.str i)) (mC (.str i)) := fun en w ρ σ Q Ex R s h hq _ => hq _ _ w (.refl w) (by simp [RS, Rp]) h
theorem se_non : SE K mg E (tC .non) (mC .none) := fun en w ρ σ Q Ex R s h hq _ => hq _ _ w (.refl w) (by simp [RS, Rp]) h
def mBin (f : Dv → Dv → (Dv → Prop) → Prop) (ma mb : Env → M Dv) : Env → M Dv := fun ρ Q Ex => ma ρ (fun x => mb ρ (fun y => f x y Q) Ex) Ex
theorem se_op {r : R2} {f : Dv → Dv → (Dv → Prop) → Prop} (hr : S2 K r f) (ha : SE K mg E ta ma) (hb : SE K mg E tb mb) : SE K mg E (tOp r ta tb) (mBin f ma mb) := fun en w ρ σ Q Ex R s h hq he =>
  ha en w ρ σ _ Ex _ s h (fun x v w1 g1 r1 h1 => hb en w1 ρ σ _ Ex _ (s.grow g1) h1 (fun y u w2 g2 r2 h2 =>
    hr w2 x y v u Q R (r1.grow g2) r2 h2 fun z v' w3 g3 r3 q => hq z v' w3 ((g1.trans g2).trans g3) r3 q) (fun x u o w' g => he x u o w' (g1.trans g))) he
def mUn (f : Dv → (Dv → Prop) → Prop) (ma : Env → M Dv) : Env → M Dv := fun ρ Q Ex => ma ρ (fun x => f x Q) Ex
theorem se_un {r : V → Hp → VK → Prop} {f : Dv → (Dv → Prop) → Prop} (hr : S1 K r f) (ha : SE K mg E ta ma) : SE K mg E (tUn r ta) (mUn f ma) := fun en w ρ σ Q Ex R s h hq he =>
  ha en w ρ σ _ Ex _ s h (fun x v w1 g1 r1 h1 => hr w1 x v Q R r1 h1 fun z v' w3 g3 r3 q => hq z v' w3 (g1.trans g3) r3 q) he
/-- a chain of two comparisons -/
def mChain (f f' : Dv → Dv → (Dv → Prop) → Prop) (ma mb mc : Env → M Dv) : Env → M Dv := fun ρ Q Ex => ma ρ (fun x => mb ρ (fun y => f x y fun z => match z with
  | .d (.bool k) => if k = true then mc ρ (fun u => f' y u Q) Ex else Q (.d (.bool false))
  | _ => False) Ex) Ex
theorem se_chain {r r' : R2} {f f' : Dv → Dv → (Dv → Prop) → Prop} (hr : S2 K r f) (hr' : S2 K r' f') (ha : SE K mg E ta ma) (hb : SE K mg E tb mb) (hc : SE K mg E tc mc) : SE K mg E (tChain r r' ta tb tc) (mChain f f' ma mb mc) := fun en w ρ σ Q Ex R s h hq he =>
  ha en w ρ σ _ Ex _ s h (fun x v w1 g1 r1 h1 => hb en w1 ρ σ _ Ex _ (s.grow g1) h1 (fun y u w2 g2 r2 h2 =>
    hr w2 x y v u _ _ (r1.grow g2) r2 h2 fun z v' w3 g3 r3 q => by
      have g : Grow w w3 := (g1.trans g2).trans g3
      split at q
      · rename_i k
        simp only [RS, Rp] at r3
        subst r3
        refine ⟨k, rfl, ?_⟩
        split at q
        · rename_i hk
          rw [if_pos hk]
          exact hc en w3 ρ σ _ Ex _ (s.grow g) q (fun x' v'' w4 g4 r4 h4 => hr' w4 y x' u v'' Q R ((r2.grow g3).grow g4) r4 h4 fun z v' w5 g5 r5 q5 => hq z v' w5 ((g.trans g4).trans g5) r5 q5) (fun x u o w' g' => he x u o w' (g.trans g'))
        · rename_i hk
          rw [if_neg hk]
          exact hq _ _ w3 g (by simp [RS, Rp]) q
      · exact q.elim) (fun x u o w' g => he x u o w' (g1.trans g))) he
/-- a value as a test -/
def mB (ma : Env → M Dv) : Env → M Bool := fun ρ Q Ex => ma ρ (fun x => match x with
  | .d (.bool k) => Q k
  | _ => False) Ex
theorem sb_B (ha : SE K mg E ta ma) : SB K mg E (tB ta) (mB ma) := fun en w ρ σ Q Ex R s h hq he =>
  ha en w ρ σ _ Ex _ s h (fun x v w1 g1 r1 h1 => by
    split at h1
    · rename_i k
      simp only [RS, Rp] at r1
      exact ⟨k, r1, hq k w1 g1 h1⟩
    · exact h1.elim) he
theorem sb_test (ha : SE K mg E ta ma) : SB K mg E (tTest ta) (mB ma) := sb_B ha
def mAnd (mt mu : Env → M Bool) : Env → M Bool := fun ρ Q Ex => mt ρ (fun c => if c = true then mu ρ Q Ex else Q false) Ex
def mOr (mt mu : Env → M Bool) : Env → M Bool := fun ρ Q Ex => mt ρ (fun c => if c = true then Q true else mu ρ Q Ex) Ex
def mNot (mt : Env → M Bool) : Env → M Bool := fun ρ Q Ex => mt ρ (fun c => Q (!c)) Ex
theorem sb_and {tu : TT} {mu : Env → M Bool} (ht : SB K mg E tt mt) (hu : SB K mg E tu mu) : SB K mg E (tAnd tt tu) (mAnd mt mu) := fun en w ρ σ Q Ex R s h hq he =>
  ht en w ρ σ _ Ex _ s h (fun c w1 g1 h1 => by
    cases c with
    | true =>
      rw [if_pos rfl] at h1 ⊢
      exact hu en w1 ρ σ _ Ex _ (s.grow g1) h1 (fun x w2 g2 q => hq x w2 (g1.trans g2) q) (fun x u o w' g => he x u o w' (g1.trans g))
    | false =>
      rw [if_neg Bool.false_ne_true] at h1 ⊢
      exact hq _ w1 g1 h1) he
theorem sb_or {tu : TT} {mu : Env → M Bool} (ht : SB K mg E tt mt) (hu : SB K mg E tu mu) : SB K mg E (tOr tt tu) (mOr mt mu) := fun en w ρ σ Q Ex R s h hq he =>
  ht en w ρ σ _ Ex _ s h (fun c w1 g1 h1 => by
    cases c with
    | false =>
      rw [if_neg Bool.false_ne_true] at h1 ⊢
      exact hu en w1 ρ σ _ Ex _ (s.grow g1) h1 (fun x w2 g2 q => hq x w2 (g1.trans g2) q) (fun x u o w' g => he x u o w' (g1.trans g))
    | true =>
      rw [if_pos rfl] at h1 ⊢
      exact hq _ w1 g1 h1) he
theorem sb_not (ht : SB K mg E tt mt) : SB K mg E (tNot tt) (mNot mt) := fun en w ρ σ Q Ex R s h hq he =>
  ht en w ρ σ _ Ex _ s h (fun c w1 g1 h1 => hq _ w1 g1 h1) he
/-- and, or, not of bools as values -/
def mAndV (ma mb : Env → M Dv) : Env → M Dv := fun ρ Q Ex => ma ρ (fun x => match x with
  | .d (.bool c) => if c = true then mb ρ Q Ex else Q (.d (.bool false))
  | _ => False) Ex
def mOrV (ma mb : Env → M Dv) : Env → M Dv := fun ρ Q Ex => ma ρ (fun x => match x with
  | .d (.bool c) => if c = true then Q (.d (.bool true)) else mb ρ Q Ex
  | _ => False) Ex
def mNotV (ma : Env → M Dv) : Env → M Dv := fun ρ Q Ex => ma ρ (fun x => match x with
  | .d (.bool c) => Q (.d (.bool (!c)))
  | _ => False) Ex
theorem se_andV (ha : SE K mg E ta ma) (hb : SE K mg E tb mb) : SE K mg E (tAndV ta tb) (mAndV ma mb) := fun en w ρ σ Q Ex R s h hq he =>
  ha en w ρ σ _ Ex _ s h (fun x v w1 g1 r1 h1 => by
    split at h1
    · rename_i c
      simp only [RS, Rp] at r1
      refine ⟨c, r1, ?_⟩
      split at h1
      · rename_i hk
        rw [if_pos hk]
        exact hb en w1 ρ σ _ Ex _ (s.grow g1) h1 (fun x v w2 g2 r2 q => hq x v w2 (g1.trans g2) r2 q) (fun x u o w' g => he x u o w' (g1.trans g))
      · rename_i hk
        rw [if_neg hk]
        exact hq _ _ w1 g1 (by simp [RS, Rp]) h1
    · exact h1.elim) he
theorem se_orV (ha : SE K mg E ta ma) (hb : SE K mg E tb mb) : SE K mg E (tOrV ta tb) (mOrV ma mb) := fun en w ρ σ Q Ex R s h hq he =>
  ha en w ρ σ _ Ex _ s h (fun x v w1 g1 r1 h1 => by
    split at h1
    · rename_i c
      simp only [RS, Rp] at r1
      refine ⟨c, r1, ?_⟩
      split at h1
      · rename_i hk
        rw [if_pos hk]
        exact hq _ _ w1 g1 (by simp [RS, Rp]) h1
      · rename_i hk
        rw [if_neg hk]
        exact hb en w1 ρ σ _ Ex _ (s.grow g1) h1 (fun x v w2 g2 r2 q => hq x v w2 (g1.trans g2) r2 q) (fun x u o w' g => he x u o w' (g1.trans g))
    · exact h1.elim) he
theorem se_notV (ha : SE K mg E ta ma) : SE K mg E (tNotV ta) (mNotV ma) := fun en w ρ σ Q Ex R s h hq he =>
  ha en w ρ σ _ Ex _ s h (fun x v w1 g1 r1 h1 => by
    split at h1
    · rename_i c
      simp only [RS, Rp] at r1
      exact ⟨c, r1, hq _ _ w1 g1 (by simp [RS, Rp]) h1⟩
    · exact h1.elim) he
def mIf (mt : Env → M Bool) (ma mb : Env → M Dv) : Env → M Dv := fun ρ Q Ex => mt ρ (fun c => if c = true then ma ρ Q Ex else mb ρ Q Ex) Ex
theorem se_if (ht : SB K mg E tt mt) (ha : SE K mg E ta ma) (hb : SE K mg E tb mb) : SE K mg E (tIf tt ta tb) (mIf mt ma mb) := fun en w ρ σ Q Ex R s h hq he =>
  ht en w ρ σ _ Ex _ s h (fun c w1 g1 h1 => by
    cases c with
    | true =>
      rw [if_pos rfl] at h1 ⊢
      exact ha en w1 ρ σ _ Ex _ (s.grow g1) h1 (fun x v w2 g2 r2 q => hq x v w2 (g1.trans g2) r2 q) (fun x u o w' g => he x u o w' (g1.trans g))
    | false =>
      rw [if_neg Bool.false_ne_true] at h1 ⊢
      exact hb en w1 ρ σ _ Ex _ (s.grow g1) h1 (fun x v w2 g2 r2 q => hq x v w2 (g1.trans g2) r2 q) (fun x u o w' g => he x u o w' (g1.trans g))) he
/-- arguments -/
def mNil : Env → M (List Dv) := fun _ Q _ => Q []
def mCons (ma : Env → M Dv) (mr : Env → M (List Dv)) : Env → M (List Dv) := fun ρ Q Ex => ma ρ (fun x => mr ρ (fun xs => Q (x :: xs)) Ex) Ex
theorem sa_nil : SA K mg E 0 tNil mNil := fun en w ρ σ Q Ex R s h hq he => hq [] [] w (.refl w) trivial rfl h
theorem sa_cons {n : Nat} {tr : TA} {mr : Env → M (List Dv)} (ha : SE K mg E ta ma) (hr : SA K mg E n tr mr) : SA K mg E (n + 1) (tCons ta tr) (mCons ma mr) := fun en w ρ σ Q Ex R s h hq he =>
  ha en w ρ σ _ Ex _ s h (fun x v w1 g1 r1 h1 => hr en w1 ρ σ _ Ex _ (s.grow g1) h1 (fun xs vs w2 g2 r2 hl h2 => hq (x :: xs) (v :: vs) w2 (g1.trans g2) ⟨r1.grow g2, r2⟩ (by simp [hl]) h2) (fun x u o w' g => he x u o w' (g1.trans g))) he
/-- the plain data of values (an own list read) -/
def Dv.dt? : Dv → Option Dt
  | .d p => some p
  | _ => none
def dts : List Dv → Option (List Dt)
  | [] => some []
  | .d p :: xs => (dts xs).map (p :: ·)
  | _ :: _ => none
theorem dts_rs {w : Wd T} : ∀ {xs : List Dv} {vs : List V} {ps : List Dt}, RSs K w vs xs → dts xs = some ps → RpA w.G ps vs
  | [], [], ps, _, h => by simp [dts] at h; subst h; exact .nil
  | .d p :: xs, v :: vs, ps, r, h => by
    simp only [dts, Option.map_eq_some_iff] at h
    obtain ⟨ps', h1, rfl⟩ := h
    exact .cons r.1 (dts_rs r.2 h1)
  | [], _ :: _, _, r, _ => r.elim
  | _ :: _, [], _, r, _ => r.elim
  | .own _ :: _, _ :: _, _, _, h => by simp [dts] at h
  | .coil :: _, _ :: _, _, _, h => by simp [dts] at h
  | .dic _ :: _, _ :: _, _, _, h => by simp [dts] at h
  | .odic _ :: _, _ :: _, _, _, h => by simp [dts] at h
  | .scr _ :: _, _ :: _, _, _, h => by simp [dts] at h
  | .fn _ :: _, _ :: _, _, _, h => by simp [dts] at h
  | .ty _ :: _, _ :: _, _, _, h => by simp [dts] at h
/-- displays -/
def mTup (n : Nat) (ma : Env → M (List Dv)) : Env → M Dv := fun ρ Q Ex => ma ρ (fun xs => match dts xs with
  | some ps => Q (.d (.tuple ps))
  | none => False) Ex
theorem se_tup {n : Nat} {t : TA} {ma : Env → M (List Dv)} (ha : SA K mg E n t ma) (hn : n ≤ 100000 := by decide) : SE K mg E (tTup t) (mTup n ma) := fun en w ρ σ Q Ex R s h hq he =>
  ha en w ρ σ _ Ex _ s h (fun xs vs w1 g1 r1 hl h1 => by
    split at h1
    · rename_i ps e
      have rp := dts_rs r1 e
      refine ⟨by rw [r1.length, hl]; exact Nat.le_trans hn (by decide), fun p hp => ?_⟩
      refine hq _ _ (w1.add p (.tup vs) hp (fun _ e => nomatch e)) (g1.trans (Grow.add hp _)) ?_ h1
      simp only [RS, Rp]
      exact ⟨p, vs, rfl, upd_same, RpA.mono (Grow.add hp _).gg _ _ rp⟩
    · exact h1.elim) he
def mLst (ma : Env → M (List Dv)) : Env → M (List Dt) := fun ρ Q Ex => ma ρ (fun xs => match dts xs with
  | some ps => Q ps
  | none => False) Ex
theorem sf_lst {n : Nat} {t : TA} {ma : Env → M (List Dv)} (ha : SA K mg E n t ma) (hn : n ≤ 100000 := by decide) : SF K mg E (tLst t) (mLst ma) := fun en w ρ σ Q Ex R s h hq he =>
  ha en w ρ σ _ Ex _ s h (fun xs vs w1 g1 r1 hl h1 => by
    split at h1
    · rename_i ps e
      have rp := dts_rs r1 e
      refine ⟨by rw [r1.length, hl]; exact Nat.le_trans hn (by decide), fun p hp => ?_⟩
      refine hq ps p vs (w1.lay p (.lst vs) hp) (g1.trans (Grow.lay hp)) (g1.dom p (.of hp)) (Wd.g_none (w := w1) hp) (fun hc => (w1.cat p hc).ne hp rfl) upd_same rp h1
    · exact h1.elim) he
/-- a new list as a value -/
def mF (mf : Env → M (List Dt)) : Env → M Dv := fun ρ Q Ex => mf ρ (fun ds => Q (.d (.list ds))) Ex
theorem Grow.fix {w w' : Wd T} {p : Addr} {o : HO} (g : Grow w w') (h0 : Fr w.H p) (hg : w'.G p = none) (hp : w'.H p = some o) (hc : ¬ w'.C p) (ho : ∀ ps, o ≠ .tbl ps) : Grow w (w'.fix p o hp hc ho) where
  gg := g.gg.trans (same_upd hg)
  new := fun a u h h' => by
    by_cases e : a = p
    · subst e; exact h0
    · rw [show (w'.fix p o hp hc ho).G a = w'.G a from upd_ne e] at h'; exact g.new a u h h'
  keep := g.keep
  dom := g.dom
  cc := g.cc
  cn := g.cn
theorem se_f {t : TE} {mf : Env → M (List Dt)} (hf : SF K mg E t mf) : SE K mg E t (mF mf) := fun en w ρ σ Q Ex R s h hq he =>
  hf en w ρ σ _ Ex _ s h (fun ds a vs w1 g1 h0 hg hc hH hr q => hq _ _ (w1.fix a (.lst vs) hH hc (fun _ e => nomatch e)) (g1.fix h0 hg hH hc _) (by
    simp only [RS, Rp]
    exact ⟨a, vs, rfl, upd_same, RpA.mono (same_upd hg) _ _ hr⟩) q) he
/-- a call of a builtin -/
def mCB (f : List Dv → (Dv → Prop) → Prop) (ma : Env → M (List Dv)) : Env → M Dv := fun ρ Q Ex => ma ρ (fun xs => f xs Q) Ex
theorem se_cb {n : Nat} {r : List V → Hp → VK → Prop} {f : List Dv → (Dv → Prop) → Prop} {t : TA} {ma : Env → M (List Dv)} (hr : SC K r f) (ha : SA K mg E n t ma) : SE K mg E (tCB r t) (mCB f ma) := fun en w ρ σ Q Ex R s h hq he =>
  ha en w ρ σ _ Ex _ s h (fun xs vs w1 g1 r1 hl h1 => hr w1 xs vs Q R r1 h1 fun z v w2 g2 r2 q => hq z v w2 (g1.trans g2) r2 q) he
end
end Ks
end

section
set_option Elab.async false
set_option linter.all false
set_option maxRecDepth 100000
set_option maxHeartbeats 4000000
/-! # Operators, comparisons, builtins on plain data -/
namespace Ks
variable {T : List (PySem.Addr × PySem.Str)}
open PySem PySem.Spec PyProof.Rows L2
/-! ### reading values -/
def Dv.ls? : Dv → Option (List Dt)
  | .d (.list ds) => some ds
  | .own ds => some ds
  | _ => none
def Dv.tp? : Dv → Option (List Dt)
  | .d (.tuple ds) => some ds
  | _ => none
theorem ls_rs {K : PySem.W.Frag} {w : Wd T} {v : V} : ∀ {x : Dv} {ds : List Dt}, RS K w v x → x.ls? = some ds → ∃ a vs, v = .ref a ∧ w.H a = some (.lst vs) ∧ RpA w.G ds vs
  | .d (.list es), ds, r, h => by
    simp only [Dv.ls?, Option.some.injEq] at h; subst h
    simp only [RS, Rp] at r
    obtain ⟨a, vs, rfl, h1, h2⟩ := r
    exact ⟨a, vs, rfl, w.gh _ _ h1, h2⟩
  | .own es, ds, r, h => by
    simp only [Dv.ls?, Option.some.injEq] at h; subst h
    obtain ⟨a, vs, rfl, _, _, h1, h2⟩ := r
    exact ⟨a, vs, rfl, h1, h2⟩
  | .d .none, _, _, h => by simp [Dv.ls?] at h
  | .d (.bool _), _, _, h => by simp [Dv.ls?] at h
  | .d (.int _), _, _, h => by simp [Dv.ls?] at h
  | .d (.str _), _, _, h => by simp [Dv.ls?] at h
  | .d (.tuple _), _, _, h => by simp [Dv.ls?] at h
  | .d (.dict _), _, _, h => by simp [Dv.ls?] at h
  | .coil, _, _, h => by simp [Dv.ls?] at h
  | .dic _, _, _, h => by simp [Dv.ls?] at h
  | .odic _, _, _, h => by simp [Dv.ls?] at h
  | .scr _, _, _, h => by simp [Dv.ls?] at h
  | .fn _, _, _, h => by simp [Dv.ls?] at h
  | .ty _, _, _, h => by simp [Dv.ls?] at h
theorem tp_rs {K : PySem.W.Frag} {w : Wd T} {v : V} : ∀ {x : Dv} {ds : List Dt}, RS K w v x → x.tp? = some ds → ∃ a vs, v = .ref a ∧ w.G a = some (.tup vs) ∧ RpA w.G ds vs
  | .d (.tuple es), ds, r, h => by
    simp only [Dv.tp?, Option.some.injEq] at h; subst h
    simp only [RS, Rp] at r
    obtain ⟨a, vs, rfl, h1, h2⟩ := r
    exact ⟨a, vs, rfl, h1, h2⟩
  | .own _, _, _, h => by simp [Dv.tp?] at h
  | .d .none, _, _, h => by simp [Dv.tp?] at h
  | .d (.bool _), _, _, h => by simp [Dv.tp?] at h
  | .d (.int _), _, _, h => by simp [Dv.tp?] at h
  | .d (.str _), _, _, h => by simp [Dv.tp?] at h
  | .d (.list _), _, _, h => by simp [Dv.tp?] at h
  | .d (.dict _), _, _, h => by simp [Dv.tp?] at h
  | .coil, _, _, h => by simp [Dv.tp?] at h
  | .dic _, _, _, h => by simp [Dv.tp?] at h
  | .odic _, _, _, h => by simp [Dv.tp?] at h
  | .scr _, _, _, h => by simp [Dv.tp?] at h
  | .fn _, _, _, h => by simp [Dv.tp?] at h
  | .ty _, _, _, h => by simp [Dv.tp?] at h
theorem lst_nt {vs : List V} : ∀ ps, HO.lst vs ≠ .tbl ps := fun _ e => nomatch e
theorem tup_nt {vs : List V} : ∀ ps, HO.tup vs ≠ .tbl ps := fun _ e => nomatch e
/-- a new list, a new tuple, as a value -/
theorem new_lst {K : PySem.W.Frag} {w : Wd T} {p : Addr} {vs : List V} {ds : List Dt} (hp : w.H p = none) (h : RpA w.G ds vs) : RS K (w.add p (.lst vs) hp lst_nt) (.ref p) (.d (.list ds)) := by
  simp only [RS, Rp]
  exact ⟨p, vs, rfl, upd_same, RpA.mono (Grow.add hp lst_nt).gg _ _ h⟩
theorem new_tup {K : PySem.W.Frag} {w : Wd T} {p : Addr} {vs : List V} {ds : List Dt} (hp : w.H p = none) (h : RpA w.G ds vs) : RS K (w.add p (.tup vs) hp tup_nt) (.ref p) (.d (.tuple ds)) := by
  simp only [RS, Rp]
  exact ⟨p, vs, rfl, upd_same, RpA.mono (Grow.add hp tup_nt).gg _ _ h⟩
theorem RpA.nil_iff {G : Hp} {ds : List Dt} {vs : List V} (h : RpA G ds vs) : vs = [] ↔ ds = [] := by
  have := h.length
  constructor
  · intro e; subst e; simpa using this.symm
  · intro e; subst e; simpa using this
section
variable {K : PySem.W.Frag}
/-! ### arithmetic -/
def opI (C : Int → Int → Prop) (g : Int → Int → Dt) : Dv → Dv → (Dv → Prop) → Prop
  | .d (.int i), .d (.int j), Q => C i j ∧ Q (.d (g i j))
  | _, _, _ => False
theorem s2_I {C C' : Int → Int → Prop} {g : Int → Int → Int} (hc : ∀ i j, C' i j → C i j) : S2 K (rI C fun i j => .int (g i j)) (opI C' fun i j => .int (g i j)) := fun w x y v u Q R rx ry h hq => by
  unfold opI at h
  split at h
  · rename_i i j
    simp only [RS, Rp] at rx ry
    exact ⟨i, j, rx, ry, hc _ _ h.1, hq _ _ w (.refl w) (by simp [RS, Rp]) h.2⟩
  · exact h.elim
def opI0 (g : Int → Int → Dt) : Dv → Dv → (Dv → Prop) → Prop
  | .d (.int i), .d (.int j), Q => Q (.d (g i j))
  | _, _, _ => False
theorem s2_I0 {g : Int → Int → Int} : S2 K (rI0 fun i j => .int (g i j)) (opI0 fun i j => .int (g i j)) := fun w x y v u Q R rx ry h hq => by
  unfold opI0 at h
  split at h
  · rename_i i j
    simp only [RS, Rp] at rx ry
    exact ⟨i, j, rx, ry, hq _ _ w (.refl w) (by simp [RS, Rp]) h⟩
  · exact h.elim
theorem s2_B0 {g : Int → Int → Bool} : S2 K (rI0 fun i j => .bl (g i j)) (opI0 fun i j => .bool (g i j)) := fun w x y v u Q R rx ry h hq => by
  unfold opI0 at h
  split at h
  · rename_i i j
    simp only [RS, Rp] at rx ry
    exact ⟨i, j, rx, ry, hq _ _ w (.refl w) (by simp [RS, Rp]) h⟩
  · exact h.elim
abbrev fSub := opI0 fun i j => .int (i - j)
abbrev fMul := opI CMul fun i j => .int (i * j)
abbrev fMulW := opI CMulW fun i j => .int (i * j)
abbrev fDiv := opI CDivW fun i j => .int (i / j)
abbrev fMod := opI (fun _ j => 0 < j) fun i j => .int (i % j)
abbrev fPow := opI CPow fun i j => .int (i ^ j.toNat)
abbrev fLt := opI0 fun i j => .bool (decide (i < j))
abbrev fLe := opI0 fun i j => .bool (decide (i ≤ j))
abbrev fGt := opI0 fun i j => .bool (decide (j < i))
abbrev fGe := opI0 fun i j => .bool (decide (j ≤ i))
/-- + of ints, texts, lists, tuples -/
def fAdd : Dv → Dv → (Dv → Prop) → Prop
  | .d (.int i), .d (.int j), Q => Q (.d (.int (i + j)))
  | .d (.str x), .d (.str y), Q => x.length + y.length ≤ sizeLine ∧ Q (.d (.str (x ++ y)))
  | .d (.tuple xs), .d (.tuple ys), Q => xs.length + ys.length ≤ sizeLine ∧ Q (.d (.tuple (xs ++ ys)))
  | x, y, Q => match x.ls?, y.ls? with
    | some xs, some ys => xs.length + ys.length ≤ sizeLine ∧ Q (.d (.list (xs ++ ys)))
    | _, _ => False
def rStr2 : R2 := fun x y H Q => ∃ i j, x = .str i ∧ y = .str j ∧ i.length + j.length ≤ sizeLine ∧ Q (.str (i ++ j)) H
def rAddA (K : PySem.W.Frag) : R2 := fun x y H Q => ((rI0 (fun i j => .int (i + j)) x y H Q ∨ rStr2 x y H Q) ∨ rCatA K x y H Q) ∨ rCat x y H Q
theorem op_addA {X : Cx} : OpR X (binaryOp .Add) (rAddA X.K) := (((op_add.or op_add_str).or op_catA).or op_cat)
theorem s2_add : S2 K (rAddA K) fAdd := fun w x y v u Q R rx ry h hq => by
  unfold fAdd at h
  split at h
  · rename_i i j
    simp only [RS, Rp] at rx ry
    exact .inl (.inl (.inl ⟨i, j, rx, ry, hq _ _ w (.refl w) (by simp [RS, Rp]) h⟩))
  · rename_i i j
    simp only [RS, Rp] at rx ry
    exact .inl (.inl (.inr ⟨i, j, rx, ry, h.1, hq _ _ w (.refl w) (by simp [RS, Rp]) h.2⟩))
  · rename_i xs ys
    simp only [RS, Rp] at rx ry
    obtain ⟨a, vs, rfl, h1, h2⟩ := rx
    obtain ⟨b, us, rfl, h3, h4⟩ := ry
    refine .inl (.inr ⟨a, b, vs, us, rfl, rfl, SqT.of (w.gh _ _ h1), SqT.of (w.gh _ _ h3), ?_, fun e => ?_, fun e1 e => ?_, fun e1 e2 p hp => ?_⟩)
    · rw [h2.length, h4.length]; exact h.1
    · have e' := h2.nil_iff.mp e
      subst e'
      exact hq _ _ w (.refl w) (by simp only [RS, Rp]; exact ⟨b, us, rfl, h3, h4⟩) h.2
    · have e' := h4.nil_iff.mp e
      subst e'
      refine hq _ _ w (.refl w) ?_ h.2
      simp only [RS, Rp, List.append_nil]
      exact ⟨a, vs, rfl, h1, h2⟩
    · exact hq _ _ _ (Grow.add hp tup_nt) (new_tup hp (h2.append h4)) h.2
  · split at h
    · rename_i xs ys e1 e2
      obtain ⟨a, vs, rfl, h1, h2⟩ := ls_rs rx e1
      obtain ⟨b, us, rfl, h3, h4⟩ := ls_rs ry e2
      refine .inr ⟨a, b, vs, us, rfl, rfl, h1, h3, ?_, fun p hp => ?_⟩
      · rw [h2.length, h4.length]; exact h.1
      · exact hq _ _ _ (Grow.add hp lst_nt) (new_lst hp (h2.append h4)) h.2
    · exact h.elim
/-! ### == and != of data, in -/
def Dv.pl : Dv → Dv
  | .own ds => .d (.list ds)
  | x => x
def fEq : Dv → Dv → (Dv → Prop) → Prop := fun x y Q => match x.pl, y.pl with
  | .d p, .d q => SeqAt.shaped p = true ∧ SeqAt.shaped q = true ∧ Q (.d (.bool (PyData.eqv p q)))
  | _, _ => False
def fNe : Dv → Dv → (Dv → Prop) → Prop := fun x y Q => match x.pl, y.pl with
  | .d p, .d q => SeqAt.shaped p = true ∧ SeqAt.shaped q = true ∧ Q (.d (.bool (!PyData.eqv p q)))
  | _, _ => False
theorem rs_dp {w : Wd T} {v : V} {x : Dv} {p : Dt} (r : RS K w v x) (h : x.pl = Dv.d p) (c : SeqAt.shaped p = true) : Dp K w.H v p := by
  have c := lay_of_shaped c
  unfold Dv.pl at h
  split at h
  · rename_i ds
    injection h with h; subst h
    obtain ⟨a, vs, rfl, _, _, h1, h2⟩ := r
    exact .lst (SqL.of h1) (RpA.dp w.gh _ _ (by unfold PyData.canLay0 at c; exact c) h2)
  · subst h
    exact Rp.dp w.gh _ _ c r
theorem s2_eq : S2 K (rEqD K) fEq := fun w x y v u Q R rx ry h hq => by
  unfold fEq at h
  split at h
  · rename_i p q e1 e2
    exact ⟨p, q, rs_dp rx e1 h.1, rs_dp ry e2 h.2.1, h.1, h.2.1, hq _ _ w (.refl w) (by simp [RS, Rp]) h.2.2⟩
  · exact h.elim
theorem s2_ne : S2 K (rNeD K) fNe := fun w x y v u Q R rx ry h hq => by
  unfold fNe at h
  split at h
  · rename_i p q e1 e2
    exact ⟨p, q, rs_dp rx e1 h.1, rs_dp ry e2 h.2.1, h.1, h.2.1, hq _ _ w (.refl w) (by simp [RS, Rp]) h.2.2⟩
  · exact h.elim
/-- x in a list of data -/
def fInL (neg : Bool) : Dv → Dv → (Dv → Prop) → Prop := fun x y Q => match x, y.ls? with
  | .d p, some ds => SeqAt.shaped p = true ∧ SeqAt.shaped (.list ds) = true ∧ Q (.d (.bool (if neg then !ds.any fun z => PyData.eqv z p else ds.any fun z => PyData.eqv z p)))
  | _, _ => False
theorem ls_dp {w : Wd T} {v : V} {x : Dv} {ds : List Dt} (r : RS K w v x) (h : x.ls? = some ds) (c : SeqAt.shaped (.list ds) = true) : Dp K w.H v (.list ds) := by
  have c := lay_of_shaped c
  obtain ⟨a, vs, rfl, h1, h2⟩ := ls_rs r h
  exact .lst (SqL.of h1) (RpA.dp w.gh _ _ (by unfold PyData.canLay0 at c; exact c) h2)
theorem s2_inL : S2 K (rInD K) (fInL false) := fun w x y v u Q R rx ry h hq => by
  unfold fInL at h
  split at h
  · rename_i p ds e
    exact ⟨p, ds, Rp.dp w.gh _ _ (lay_of_shaped h.1) rx, ls_dp ry e h.2.1, h.1, h.2.1, hq _ _ w (.refl w) (by simp [RS, Rp]) h.2.2⟩
  · exact h.elim
theorem s2_ninL : S2 K (rNotInD K) (fInL true) := fun w x y v u Q R rx ry h hq => by
  unfold fInL at h
  split at h
  · rename_i p ds e
    exact ⟨p, ds, Rp.dp w.gh _ _ (lay_of_shaped h.1) rx, ls_dp ry e h.2.1, h.1, h.2.1, hq _ _ w (.refl w) (by simp [RS, Rp]) h.2.2⟩
  · exact h.elim
/-- flat values (None, bools, ints, texts) in a list or tuple of such -/
def flatD : Dt → Bool
  | .none => true
  | .bool _ => true
  | .int _ => true
  | .str _ => true
  | _ => false
def eqF : Dt → Dt → Bool
  | .none, .none => true
  | .bool a, .bool b => a == b
  | .bool a, .int b => (if a then 1 else 0) == b
  | .int a, .bool b => a == (if b then 1 else 0)
  | .int a, .int b => a == b
  | .str a, .str b => a == b
  | _, _ => false
theorem flat_rp {G : Hp} : ∀ {p : Dt} {v : V}, Rp G p v → flatD p = true → flatV v = true
  | .none, _, r, _ => by simp only [Rp] at r; subst r; rfl
  | .bool _, _, r, _ => by simp only [Rp] at r; subst r; rfl
  | .int _, _, r, _ => by simp only [Rp] at r; subst r; rfl
  | .str _, _, r, _ => by simp only [Rp] at r; subst r; rfl
  | .list _, _, _, h => by simp [flatD] at h
  | .tuple _, _, _, h => by simp [flatD] at h
  | .dict _, _, _, h => by simp [flatD] at h
theorem eq_rp {G : Hp} {p q : Dt} {v u : V} (r : Rp G p v) (r' : Rp G q u) (h : flatD p = true) (h' : flatD q = true) : eqV v u = eqF p q := by
  cases p <;> simp [flatD] at h <;> cases q <;> simp [flatD] at h' <;> simp only [Rp] at r r' <;> subst r <;> subst r' <;> rfl
theorem flat_rpA {G : Hp} : ∀ {ds : List Dt} {vs : List V}, RpA G ds vs → ds.all flatD = true → vs.all flatV = true
  | [], vs, h, _ => by simp only [RpA] at h; subst h; rfl
  | d :: ds, vs, h, f => by
    simp only [RpA] at h
    obtain ⟨v, r, rfl, h1, h2⟩ := h
    rw [List.all_cons, Bool.and_eq_true_iff] at f
    rw [List.all_cons, flat_rp h1 f.1, flat_rpA h2 f.2]; rfl
theorem inV_rp {G : Hp} {p : Dt} {v : V} (r : Rp G p v) (f : flatD p = true) : ∀ {ds : List Dt} {vs : List V}, RpA G ds vs → ds.all flatD = true → inV v vs = ds.any (fun z => eqF z p)
  | [], vs, h, _ => by simp only [RpA] at h; subst h; rfl
  | d :: ds, vs, h, g => by
    simp only [RpA] at h
    obtain ⟨u, us, rfl, h1, h2⟩ := h
    rw [List.all_cons, Bool.and_eq_true_iff] at g
    have ih := inV_rp r f h2 g.2
    unfold inV at ih ⊢
    rw [List.any_cons, List.any_cons, ih, eq_rp h1 r g.1 f]
def fIn (neg : Bool) : Dv → Dv → (Dv → Prop) → Prop := fun x y Q => match x, (match y.ls? with | some ds => some ds | none => y.tp?) with
  | .d p, some ds => flatD p = true ∧ ds.all flatD = true ∧ Q (.d (.bool (if neg then !ds.any (fun z => eqF z p) else ds.any (fun z => eqF z p))))
  | _, _ => False
theorem s2_in {neg : Bool} : S2 K (rIn K neg) (fIn neg) := fun w x y v u Q R rx ry h hq => by
  unfold fIn at h
  split at h
  · rename_i p ds e
    have key : ∃ a vs, u = .ref a ∧ (SqL K w.H a vs ∨ SqT K w.H a vs) ∧ RpA w.G ds vs := by
      split at e
      · rename_i es e2
        injection e with e; subst e
        obtain ⟨a, vs, rfl, h1, h2⟩ := ls_rs ry e2
        exact ⟨a, vs, rfl, .inl (SqL.of h1), h2⟩
      · obtain ⟨a, vs, rfl, h1, h2⟩ := tp_rs ry e
        exact ⟨a, vs, rfl, .inr (SqT.of (w.gh _ _ h1)), h2⟩
    obtain ⟨a, vs, rfl, h1, h2⟩ := key
    refine ⟨a, vs, rfl, h1, flat_rp rx h.1, flat_rpA h2 h.2.1, ?_⟩
    rw [inV_rp rx h.1 h2 h.2.1]
    exact hq (.d (.bool _)) _ w (.refl w) (by simp [RS, Rp]) h.2.2
  · exact h.elim
/-! ### is None -/
def isNonD : Dv → Bool
  | .d .none => true
  | _ => false
theorem isNon_rs {w : Wd T} {v : V} : ∀ {x : Dv}, RS K w v x → decide (v = .non) = isNonD x
  | .d .none, r => by simp only [RS, Rp] at r; subst r; rfl
  | .d (.bool _), r => by simp only [RS, Rp] at r; subst r; rfl
  | .d (.int _), r => by simp only [RS, Rp] at r; subst r; rfl
  | .d (.str _), r => by simp only [RS, Rp] at r; subst r; rfl
  | .d (.list _), r => by simp only [RS, Rp] at r; obtain ⟨a, vs, rfl, _⟩ := r; rfl
  | .d (.tuple _), r => by simp only [RS, Rp] at r; obtain ⟨a, vs, rfl, _⟩ := r; rfl
  | .d (.dict _), r => by simp only [RS, Rp] at r; obtain ⟨f, _, rfl⟩ := r; rfl
  | .own _, r => by obtain ⟨a, vs, rfl, _⟩ := r; rfl
  | .coil, r => by obtain ⟨a, rfl, _⟩ := r; rfl
  | .dic _, r => by obtain ⟨a, vs, rfl, _⟩ := r; rfl
  | .odic _, r => by obtain ⟨a, vs, rfl, _⟩ := r; rfl
  | .scr _, r => by obtain ⟨a, rfl, _⟩ := r; rfl
  | .fn f, r => by obtain rfl : v = .ref f := r; rfl
  | .ty n, r => by obtain rfl : v = .ty n := r; rfl
def fIs : Dv → Dv → (Dv → Prop) → Prop
  | x, .d .none, Q => Q (.d (.bool (isNonD x)))
  | _, _, _ => False
def fIsNot : Dv → Dv → (Dv → Prop) → Prop
  | x, .d .none, Q => Q (.d (.bool (!isNonD x)))
  | _, _, _ => False
theorem s2_is : S2 K (fun x y H Q => y = .non ∧ Q (.bl (decide (x = .non))) H) fIs := fun w x y v u Q R rx ry h hq => by
  unfold fIs at h
  split at h
  · simp only [RS, Rp] at ry
    refine ⟨ry, ?_⟩
    rw [isNon_rs rx]
    exact hq (.d (.bool _)) _ w (.refl w) (by simp [RS, Rp]) h
  · exact h.elim
theorem s2_isnot : S2 K (fun x y H Q => y = .non ∧ Q (.bl (!decide (x = .non))) H) fIsNot := fun w x y v u Q R rx ry h hq => by
  unfold fIsNot at h
  split at h
  · simp only [RS, Rp] at ry
    refine ⟨ry, ?_⟩
    rw [isNon_rs rx]
    exact hq (.d (.bool _)) _ w (.refl w) (by simp [RS, Rp]) h
  · exact h.elim
/-! ### subscripts -/
theorem atI_rp {G : Hp} {ds : List Dt} {vs : List V} {i : Int} {p : Dt} (r : RpA G ds vs) (h : atI ds i = some p) : ∃ v, atI vs i = some v ∧ Rp G p v := by
  unfold atI at h ⊢
  rw [r.length]
  cases e : ixN ds.length i with
  | none => rw [e] at h; cases h
  | some j =>
    rw [e] at h
    exact r.get h
/-- x[i] of a list, a tuple, a text -/
def fIx : Dv → Dv → (Dv → Prop) → Prop := fun x y Q => match y with
  | .d (.int i) => match (match x.ls? with | some ds => some ds | none => x.tp?) with
    | some ds => ∃ p, atI ds i = some p ∧ Q (.d p)
    | none => match x with
      | .d (.str z) => z.length ≤ sizeLine ∧ ∃ c, atI z.cps.toList i = some c ∧ Q (.d (.str ⟨#[c]⟩))
      | .scr ns => ∃ n, atI ns i = some n ∧ Q (.d (.int n))
      | .coil => (i = 0 ∧ ∀ a : Int, 0 ≤ a → Q (.d (.int a))) ∨ (i = 1 ∧ ∀ a : Int, 0 ≤ a → a ≤ 2147483587 → Q (.d (.int a)))
      | _ => False
  | _ => False
theorem s2_ix : S2 K (rIx K) fIx := fun w x y v u Q R rx ry h hq => by
  unfold fIx at h
  split at h
  · rename_i i
    simp only [RS, Rp] at ry
    subst ry
    split at h
    · rename_i ds e
      obtain ⟨p, h1, h2⟩ := h
      split at e
      · rename_i es e2
        injection e with e; subst e
        obtain ⟨a, vs, rfl, q1, q2⟩ := ls_rs rx e2
        obtain ⟨v', q3, q4⟩ := atI_rp q2 h1
        exact .inl ⟨a, vs, i, v', rfl, rfl, SqL.of q1, q3, hq (.d p) v' w (.refl w) q4 h2⟩
      · obtain ⟨a, vs, rfl, q1, q2⟩ := tp_rs rx e
        obtain ⟨v', q3, q4⟩ := atI_rp q2 h1
        exact .inr (.inl ⟨a, vs, i, v', rfl, rfl, SqT.of (w.gh _ _ q1), q3, hq (.d p) v' w (.refl w) q4 h2⟩)
    · split at h
      · rename_i z e
        obtain ⟨hz, c, h1, h2⟩ := h
        simp only [RS, Rp] at rx
        exact .inr (.inr ⟨z, i, c, rx, rfl, hz, h1, hq _ _ w (.refl w) (by simp [RS, Rp]) h2⟩)
      · rename_i ns e
        obtain ⟨n, h1, h2⟩ := h
        obtain ⟨a, rfl, q1⟩ := rx
        refine .inl ⟨a, _, i, .int n, rfl, rfl, w.gh.seq q1, ?_, hq _ _ w (.refl w) (by simp [RS, Rp]) h2⟩
        unfold atI at h1 ⊢
        rw [List.length_map]
        cases e : ixN ns.length i with
        | none => rw [e] at h1; cases h1
        | some j =>
          rw [e] at h1
          show (ns.map V.int)[j]? = some (V.int n)
          rw [List.getElem?_map]
          rw [show ns[j]? = some n from h1]; rfl
      · obtain ⟨c, rfl, hc⟩ := rx
        obtain ⟨a, b, e1, h0, h1, h2⟩ := w.cat c hc
        rcases h with ⟨rfl, q⟩ | ⟨rfl, q⟩
        · exact .inl ⟨c, _, 0, .int a, rfl, rfl, SqL.of e1, rfl, hq _ _ w (.refl w) (by simp [RS, Rp]) (q a h0)⟩
        · exact .inl ⟨c, _, 1, .int b, rfl, rfl, SqL.of e1, rfl, hq _ _ w (.refl w) (by simp [RS, Rp]) (q b h1 h2)⟩
      · exact h.elim
  · exact h.elim
/-! ### slices -/
def cutD (ds : List Dt) (lo hi : Option Int) : List Dt := (ds.drop (HT.sIx ds.length 0 lo)).take (HT.sIx ds.length ds.length hi - HT.sIx ds.length 0 lo)
theorem cut_rp {G : Hp} {ds : List Dt} {vs : List V} (r : RpA G ds vs) (lo hi : Option Int) : RpA G (cutD ds lo hi) (cutV vs lo hi) := by
  unfold cutD cutV
  rw [r.length]
  exact (r.drop _).take _
def SO (K : PySem.W.Frag) (mg : Mg) (E : XK) (t : TO) (m : Env → M (Option Int)) : Prop :=
  ∀ (en w : Wd mg.T) (ρ : Env) (σ : L2.St) (Q : Option Int → Prop) (Ex : Exn → Prop) (R : Option Int → Hp → Prop), St K en w ρ σ → m ρ Q Ex →
    (∀ (x : Option Int) (w' : Wd mg.T), Grow w w' → Q x → R x w'.H) →
    (∀ (x : Exn) (u : Value) (o : Option Addr) (w' : Wd mg.T), Grow w w' → Ex x → ExR mg x u o → E u o w'.H) → t σ w.H R
def mNoPart : Env → M (Option Int) := fun _ Q _ => Q none
def mPart (ma : Env → M Dv) : Env → M (Option Int) := fun ρ Q Ex => ma ρ (fun x => match x with
  | .d (.int i) => Q (some i)
  | _ => False) Ex
variable {mg : Mg} {E : XK} {ta : TE} {ma : Env → M Dv}
theorem so_none : SO K mg E tNoPart mNoPart := fun en w ρ σ Q Ex R s h hq he => hq _ w (.refl w) h
theorem so_some (ha : SE K mg E ta ma) : SO K mg E (tPart ta) (mPart ma) := fun en w ρ σ Q Ex R s h hq he =>
  ha en w ρ σ _ Ex _ s h (fun x v w1 g1 r1 h1 => by
    split at h1
    · rename_i i
      simp only [RS, Rp] at r1
      exact ⟨i, r1, hq _ w1 g1 h1⟩
    · exact h1.elim) he
def rSl (K : PySem.W.Frag) : V → Option Int → Option Int → Hp → VK → Prop := fun x lo hi H Q => (rSlL K x lo hi H Q ∨ rSlA K x lo hi H Q) ∨ rSlS x lo hi H Q
theorem sl_any {X : Cx} : SlR X (rSl X.K) := (sl_list.or sl_tupA).or sl_str
def fSl : Dv → Option Int → Option Int → (Dv → Prop) → Prop := fun x lo hi Q => match x.ls? with
  | some ds => Q (.d (.list (cutD ds lo hi)))
  | none => match x.tp? with
    | some ds => Q (.d (.tuple (cutD ds lo hi)))
    | none => match x with
      | .d (.str z) => z.length ≤ sizeLine ∧ Q (.d (.str (cutS z lo hi)))
      | _ => False
abbrev S3 (K : PySem.W.Frag) (r : V → Option Int → Option Int → Hp → VK → Prop) (f : Dv → Option Int → Option Int → (Dv → Prop) → Prop) : Prop :=
  ∀ {T : List (PySem.Addr × PySem.Str)} (w : Wd T) (x : Dv) (v : V) (lo hi : Option Int) (Q : Dv → Prop) (R : VK), RS K w v x → f x lo hi Q →
    (∀ (z : Dv) (v : V) (w' : Wd T), Grow w w' → RS K w' v z → Q z → R v w'.H) → r v lo hi w.H R
theorem cutD_whole {ds : List Dt} {lo hi : Option Int} (h : HT.sIx ds.length 0 lo = 0 ∧ HT.sIx ds.length ds.length hi = ds.length) : cutD ds lo hi = ds := by
  unfold cutD
  rw [h.1, h.2]
  simp
theorem s3_sl : S3 K (rSl K) fSl := fun w x v lo hi Q R rx h hq => by
  unfold fSl at h
  split at h
  · rename_i ds e
    obtain ⟨a, vs, rfl, h1, h2⟩ := ls_rs rx e
    exact .inl (.inl ⟨a, vs, rfl, SqL.of h1, fun p hp => hq _ _ _ (Grow.add hp lst_nt) (new_lst hp (cut_rp h2 lo hi)) h⟩)
  · split at h
    · rename_i ds e
      obtain ⟨a, vs, rfl, h1, h2⟩ := tp_rs rx e
      refine .inl (.inr ⟨a, vs, rfl, SqT.of (w.gh _ _ h1), fun hw => ?_, fun hw p hp => ?_⟩)
      · rw [h2.length] at hw
        rw [cutD_whole hw] at h
        exact hq _ _ w (.refl w) (by simp only [RS, Rp]; exact ⟨a, vs, rfl, h1, h2⟩) h
      · exact hq _ _ _ (Grow.add hp tup_nt) (new_tup hp (cut_rp h2 lo hi)) h
    · split at h
      · rename_i z e1 e2
        simp only [RS, Rp] at rx
        exact .inr ⟨z, rx, h.1, hq _ _ w (.refl w) (by simp [RS, Rp]) h.2⟩
      · exact h.elim
def mSl (f : Dv → Option Int → Option Int → (Dv → Prop) → Prop) (ma : Env → M Dv) (ml mh : Env → M (Option Int)) : Env → M Dv := fun ρ Q Ex => ma ρ (fun x => ml ρ (fun lo => mh ρ (fun hi => f x lo hi Q) Ex) Ex) Ex
theorem se_sl {r : V → Option Int → Option Int → Hp → VK → Prop} {f : Dv → Option Int → Option Int → (Dv → Prop) → Prop} {tl th : TO} {ml mh : Env → M (Option Int)} (hr : S3 K r f) (ha : SE K mg E ta ma) (hl : SO K mg E tl ml) (hh : SO K mg E th mh) : SE K mg E (tSl r ta tl th) (mSl f ma ml mh) := fun en w ρ σ Q Ex R s h hq he =>
  ha en w ρ σ _ Ex _ s h (fun x v w1 g1 r1 h1 => hl en w1 ρ σ _ Ex _ (s.grow g1) h1 (fun lo w2 g2 h2 => hh en w2 ρ σ _ Ex _ (s.grow (g1.trans g2)) h2 (fun hi w3 g3 h3 =>
    hr w3 x v lo hi Q R (r1.grow (g2.trans g3)) h3 fun z v' w4 g4 r4 q => hq z v' w4 (((g1.trans g2).trans g3).trans g4) r4 q)
      (fun x u o w' g => he x u o w' ((g1.trans g2).trans g))) (fun x u o w' g => he x u o w' (g1.trans g))) he
/-! ### builtins -/
def fAbs : List Dv → (Dv → Prop) → Prop
  | [.d (.int i)], Q => Q (.d (.int (if i < 0 then -i else i)))
  | _, _ => False
theorem RSs.one {w : Wd T} {vs : List V} {x : Dv} (h : RSs K w vs [x]) : ∃ v, vs = [v] ∧ RS K w v x := by
  cases vs with
  | nil => exact h.elim
  | cons v r => cases r with
    | nil => exact ⟨v, rfl, h.1⟩
    | cons u r => exact h.2.elim
theorem RSs.two {w : Wd T} {vs : List V} {x y : Dv} (h : RSs K w vs [x, y]) : ∃ v u, vs = [v, u] ∧ RS K w v x ∧ RS K w u y := by
  cases vs with
  | nil => exact h.elim
  | cons v r =>
    obtain ⟨u, rfl, q⟩ := RSs.one (K := K) h.2
    exact ⟨v, u, rfl, h.1, q⟩
theorem sc_abs : SC K (fun xs H Q => ∃ i, xs = [V.int i] ∧ Q (.int (if i < 0 then -i else i)) H) fAbs := fun w xs vs Q R r h hq => by
  unfold fAbs at h
  split at h
  · rename_i i
    obtain ⟨v, rfl, rv⟩ := r.one
    simp only [RS, Rp] at rv; subst rv
    exact ⟨i, rfl, hq _ _ w (.refl w) (by simp [RS, Rp]) h⟩
  · exact h.elim
def f2I (g : Int → Int → Int) : List Dv → (Dv → Prop) → Prop
  | [.d (.int i), .d (.int j)], Q => Q (.d (.int (g i j)))
  | _, _ => False
theorem sc_2I {g : Int → Int → Int} : SC K (fun xs H Q => ∃ i j, xs = [V.int i, V.int j] ∧ Q (.int (g i j)) H) (f2I g) := fun w xs vs Q R r h hq => by
  unfold f2I at h
  split at h
  · rename_i i j
    obtain ⟨v, u, rfl, rv, ru⟩ := r.two
    simp only [RS, Rp] at rv ru; subst rv; subst ru
    exact ⟨i, j, rfl, hq _ _ w (.refl w) (by simp [RS, Rp]) h⟩
  · exact h.elim
abbrev fMax2 := f2I fun i j => if j > i then j else i
abbrev fMin2 := f2I fun i j => if j < i then j else i
/-- int(x) of an int, a bool -/
def fInt : List Dv → (Dv → Prop) → Prop
  | [.d (.int i)], Q => Q (.d (.int i))
  | [.d (.bool k)], Q => Q (.d (.int (if k then 1 else 0)))
  | _, _ => False
theorem sc_int : SC K (fun xs H Q => (∃ i, xs = [V.int i] ∧ Q (.int i) H) ∨ ∃ k, xs = [V.bl k] ∧ Q (.int (if k then 1 else 0)) H) fInt := fun w xs vs Q R r h hq => by
  unfold fInt at h
  split at h
  · rename_i i
    obtain ⟨v, rfl, rv⟩ := r.one
    simp only [RS, Rp] at rv; subst rv
    exact .inl ⟨i, rfl, hq _ _ w (.refl w) (by simp [RS, Rp]) h⟩
  · rename_i i
    obtain ⟨v, rfl, rv⟩ := r.one
    simp only [RS, Rp] at rv; subst rv
    exact .inr ⟨i, rfl, hq _ _ w (.refl w) (by simp [RS, Rp]) h⟩
  · exact h.elim
def fStrI : List Dv → (Dv → Prop) → Prop
  | [.d (.int i)], Q => i.natAbs.log2 < 1920 ∧ Q (.d (.str (toString i)))
  | _, _ => False
theorem sc_strI : SC K (fun xs H Q => ∃ i, xs = [V.int i] ∧ i.natAbs.log2 < 1920 ∧ Q (.str (toString i)) H) fStrI := fun w xs vs Q R r h hq => by
  unfold fStrI at h
  split at h
  · rename_i i
    obtain ⟨v, rfl, rv⟩ := r.one
    simp only [RS, Rp] at rv; subst rv
    exact ⟨i, rfl, h.1, hq _ _ w (.refl w) (by simp [RS, Rp]) h.2⟩
  · exact h.elim
/-- len -/
def lenD : Dv → Option Nat
  | .d (.str x) => some x.length
  | .d (.list ds) => some ds.length
  | .d (.tuple ds) => some ds.length
  | .own ds => some ds.length
  | .scr ns => some ns.length
  | _ => none
def fLen : List Dv → (Dv → Prop) → Prop
  | [.d (.str x)], Q => x.length ≤ sizeLine ∧ Q (.d (.int x.length))
  | [x], Q => match lenD x with
    | some n => Q (.d (.int n))
    | none => False
  | _, _ => False
theorem sc_len : SC K (fun xs H Q => ∃ x n, xs = [x] ∧ LenV K x H n ∧ Q (.int (n : Nat)) H) fLen := fun w xs vs Q R r h hq => by
  unfold fLen at h
  split at h
  · rename_i x
    obtain ⟨v, rfl, rv⟩ := r.one
    simp only [RS, Rp] at rv; subst rv
    exact ⟨.str x, x.length, rfl, ⟨h.1, rfl⟩, hq (.d (.int _)) _ w (.refl w) (by simp [RS, Rp]) h.2⟩
  · rename_i x hx
    obtain ⟨v, rfl, rv⟩ := r.one
    split at h
    · rename_i n e
      refine ⟨v, n, rfl, ?_, hq (.d (.int n)) _ w (.refl w) (by simp [RS, Rp]) h⟩
      unfold lenD at e
      split at e
      · rename_i z
        exact absurd rfl (hx z)
      · injection e with e; subst e
        simp only [RS, Rp] at rv
        obtain ⟨a, us, rfl, h1, h2⟩ := rv
        exact .inl ⟨us, SqL.of (w.gh _ _ h1), h2.length.symm⟩
      · injection e with e; subst e
        simp only [RS, Rp] at rv
        obtain ⟨a, us, rfl, h1, h2⟩ := rv
        exact .inr ⟨us, SqT.of (w.gh _ _ h1), h2.length.symm⟩
      · injection e with e; subst e
        obtain ⟨a, us, rfl, _, _, h1, h2⟩ := rv
        exact .inl ⟨us, SqL.of h1, h2.length.symm⟩
      · injection e with e; subst e
        obtain ⟨a, rfl, h1⟩ := rv
        exact .inl ⟨_, w.gh.seq h1, by rw [List.length_map]⟩
      · cases e
    · exact h.elim
  · exact h.elim
/-- the ints, bools, texts of a list of such -/
def intsOf : List Dt → Option (List Int)
  | [] => some []
  | .int i :: r => (intsOf r).map (i :: ·)
  | _ :: _ => none
def blsOf : List Dt → Option (List Bool)
  | [] => some []
  | .bool i :: r => (blsOf r).map (i :: ·)
  | _ :: _ => none
theorem intsOf_eq : ∀ {ds : List Dt} {ns : List Int}, intsOf ds = some ns → ds = ilst ns
  | [], ns, h => by simp [intsOf] at h; subst h; rfl
  | .int i :: r, ns, h => by
    simp only [intsOf, Option.map_eq_some_iff] at h
    obtain ⟨ms, h1, rfl⟩ := h
    rw [intsOf_eq h1]; rfl
  | .none :: _, _, h => by simp [intsOf] at h
  | .bool _ :: _, _, h => by simp [intsOf] at h
  | .str _ :: _, _, h => by simp [intsOf] at h
  | .list _ :: _, _, h => by simp [intsOf] at h
  | .tuple _ :: _, _, h => by simp [intsOf] at h
  | .dict _ :: _, _, h => by simp [intsOf] at h
theorem intsOf_ilst : ∀ ns : List Int, intsOf (ilst ns) = some ns
  | [] => rfl
  | n :: ns => by
    show (intsOf (ilst ns)).map (n :: ·) = some (n :: ns)
    rw [intsOf_ilst ns]; rfl
theorem blsOf_eq : ∀ {ds : List Dt} {ns : List Bool}, blsOf ds = some ns → ds = blst ns
  | [], ns, h => by simp [blsOf] at h; subst h; rfl
  | .bool i :: r, ns, h => by
    simp only [blsOf, Option.map_eq_some_iff] at h
    obtain ⟨ms, h1, rfl⟩ := h
    rw [blsOf_eq h1]; rfl
  | .none :: _, _, h => by simp [blsOf] at h
  | .int _ :: _, _, h => by simp [blsOf] at h
  | .str _ :: _, _, h => by simp [blsOf] at h
  | .list _ :: _, _, h => by simp [blsOf] at h
  | .tuple _ :: _, _, h => by simp [blsOf] at h
  | .dict _ :: _, _, h => by simp [blsOf] at h
theorem blsOf_blst : ∀ ns : List Bool, blsOf (blst ns) = some ns
  | [] => rfl
  | n :: ns => by
    show (blsOf (blst ns)).map (n :: ·) = some (n :: ns)
    rw [blsOf_blst ns]; rfl
def fAll : List Dv → (Dv → Prop) → Prop
  | [x], Q => match x.ls?.bind blsOf with
    | some bs => Q (.d (.bool (bs.all id)))
    | none => False
  | _, _ => False
def fAny : List Dv → (Dv → Prop) → Prop
  | [x], Q => match x.ls?.bind blsOf with
    | some bs => Q (.d (.bool (bs.any id)))
    | none => False
  | _, _ => False
theorem sc_all : SC K (rAll K) fAll := fun w xs vs Q R r h hq => by
  unfold fAll at h
  split at h
  · rename_i x
    obtain ⟨v, rfl, rv⟩ := r.one
    split at h
    · rename_i bs e
      obtain ⟨ds, e1, e2⟩ := Option.bind_eq_some_iff.mp e
      obtain ⟨a, us, rfl, h1, h2⟩ := ls_rs rv e1
      rw [blsOf_eq e2] at h2
      have := h2.blst; subst this
      exact ⟨a, bs, rfl, SqL.of h1, hq (.d (.bool _)) _ w (.refl w) (by simp [RS, Rp]) h⟩
    · exact h.elim
  · exact h.elim
theorem sc_any : SC K (rAny K) fAny := fun w xs vs Q R r h hq => by
  unfold fAny at h
  split at h
  · rename_i x
    obtain ⟨v, rfl, rv⟩ := r.one
    split at h
    · rename_i bs e
      obtain ⟨ds, e1, e2⟩ := Option.bind_eq_some_iff.mp e
      obtain ⟨a, us, rfl, h1, h2⟩ := ls_rs rv e1
      rw [blsOf_eq e2] at h2
      have := h2.blst; subst this
      exact ⟨a, bs, rfl, SqL.of h1, hq (.d (.bool _)) _ w (.refl w) (by simp [RS, Rp]) h⟩
    · exact h.elim
  · exact h.elim
/-- the sorted list of ints -/
def isort (ns : List Int) : List Int := ns.mergeSort (fun a b => decide (a ≤ b))
theorem isort_perm (ns : List Int) : (isort ns).Perm ns := List.mergeSort_perm ns _
theorem isort_sorted (ns : List Int) : (isort ns).Pairwise (· ≤ ·) := by
  have := List.pairwise_mergeSort (le := fun a b : Int => decide (a ≤ b)) (fun a b c h1 h2 => by simp at h1 h2 ⊢; omega) (fun a b => by simp; omega) ns
  exact this.imp (fun h => by simpa using h)
theorem sorted_uniq : ∀ {xs ys : List Int}, xs.Perm ys → xs.Pairwise (· ≤ ·) → ys.Pairwise (· ≤ ·) → xs = ys := fun p h1 h2 =>
  p.eq_of_pairwise (fun a b _ _ x y => Int.le_antisymm x y) h1 h2
theorem isort_uniq {xs ns : List Int} (p : xs.Perm ns) (h : xs.Pairwise (· ≤ ·)) : xs = isort ns := sorted_uniq (p.trans (isort_perm ns).symm) h (isort_sorted ns)
/-- tuple(x), list(x) of a list or tuple -/
def fTupOf : List Dv → (Dv → Prop) → Prop
  | [x], Q => match (match x.ls? with | some ds => some ds | none => x.tp?) with
    | some ds => Q (.d (.tuple ds))
    | none => False
  | _, _ => False
theorem sc_tupOf : SC K (fun xs H Q => ∃ p ys, xs = [V.ref p] ∧ ((SqL K H p ys ∧ ∀ l, H l = none → Q (.ref l) (upd H l (.tup ys))) ∨ (SqT K H p ys ∧ Q (.ref p) H))) fTupOf := fun w xs vs Q R r h hq => by
  unfold fTupOf at h
  split at h
  · rename_i x
    obtain ⟨v, rfl, rv⟩ := r.one
    split at h
    · rename_i ds e
      split at e
      · rename_i es e2
        injection e with e; subst e
        obtain ⟨a, us, rfl, h1, h2⟩ := ls_rs rv e2
        exact ⟨a, us, rfl, .inl ⟨SqL.of h1, fun l hl => hq _ _ _ (Grow.add hl tup_nt) (new_tup hl h2) h⟩⟩
      · obtain ⟨a, us, rfl, h1, h2⟩ := tp_rs rv e
        exact ⟨a, us, rfl, .inr ⟨SqT.of (w.gh _ _ h1), hq _ _ w (.refl w) (by simp only [RS, Rp]; exact ⟨a, us, rfl, h1, h2⟩) h⟩⟩
    · exact h.elim
  · exact h.elim
/-- a builtin that gives a new list -/
abbrev SCF (K : PySem.W.Frag) (r : List V → Hp → VK → Prop) (f : List Dv → (List Dt → Prop) → Prop) : Prop :=
  ∀ {T : List (PySem.Addr × PySem.Str)} (w : Wd T) (xs : List Dv) (vs : List V) (Q : List Dt → Prop) (R : VK), RSs K w vs xs → f xs Q →
    (∀ (ds : List Dt) (a : Addr) (us : List V) (w' : Wd T), Grow w w' → Fr w.H a → w'.G a = none → ¬ w'.C a → w'.H a = some (.lst us) → RpA w'.G ds us → Q ds → R (.ref a) w'.H) → r vs w.H R
def mCF (f : List Dv → (List Dt → Prop) → Prop) (ma : Env → M (List Dv)) : Env → M (List Dt) := fun ρ Q Ex => ma ρ (fun xs => f xs Q) Ex
theorem sf_cb {n : Nat} {r : List V → Hp → VK → Prop} {f : List Dv → (List Dt → Prop) → Prop} {t : TA} {ma : Env → M (List Dv)} (hr : SCF K r f) (ha : SA K mg E n t ma) : SF K mg E (tCB r t) (mCF f ma) := fun en w ρ σ Q Ex R s h hq he =>
  ha en w ρ σ _ Ex _ s h (fun xs vs w1 g1 r1 hl h1 => hr w1 xs vs Q R r1 h1 fun ds a us w2 g2 q0 q1 q2 q3 q4 q5 => hq ds a us w2 (g1.trans g2) (g1.dom a q0) q1 q2 q3 q4 q5) he
def fLstOf : List Dv → (List Dt → Prop) → Prop
  | [x], Q => match (match x.ls? with | some ds => some ds | none => x.tp?) with
    | some ds => Q ds
    | none => False
  | _, _ => False
theorem fresh_lay {w : Wd T} {l : Addr} {us : List V} {ds : List Dt} {Q : List Dt → Prop} {R : VK} (hl : w.H l = none) (h2 : RpA w.G ds us) (h : Q ds)
    (hq : ∀ (ds : List Dt) (a : Addr) (us : List V) (w' : Wd T), Grow w w' → Fr w.H a → w'.G a = none → ¬ w'.C a → w'.H a = some (.lst us) → RpA w'.G ds us → Q ds → R (.ref a) w'.H) : R (.ref l) (upd w.H l (.lst us)) :=
  hq ds l us (w.lay l (.lst us) hl) (Grow.lay hl) (.of hl) (Wd.g_none (w := w) hl) (fun hc => (w.cat l hc).ne hl rfl) upd_same h2 h
theorem sc_lstOf : SCF K (fun xs H Q => ∃ p ys, xs = [V.ref p] ∧ (SqL K H p ys ∨ SqT K H p ys) ∧ ∀ l, H l = none → Q (.ref l) (upd H l (.lst ys))) fLstOf := fun w xs vs Q R r h hq => by
  unfold fLstOf at h
  split at h
  · rename_i x
    obtain ⟨v, rfl, rv⟩ := r.one
    split at h
    · rename_i ds e
      split at e
      · rename_i es e2
        injection e with e; subst e
        obtain ⟨a, us, rfl, h1, h2⟩ := ls_rs rv e2
        exact ⟨a, us, rfl, .inl (SqL.of h1), fun l hl => fresh_lay hl h2 h hq⟩
      · obtain ⟨a, us, rfl, h1, h2⟩ := tp_rs rv e
        exact ⟨a, us, rfl, .inr (SqT.of (w.gh _ _ h1)), fun l hl => fresh_lay hl h2 h hq⟩
    · exact h.elim
  · exact h.elim
def fSortI : List Dv → (List Dt → Prop) → Prop
  | [x], Q => match x.ls?.bind intsOf with
    | some ns => Q (ilst (isort ns))
    | none => False
  | _, _ => False
theorem sc_sortI : SCF K (rSortedI K) fSortI := fun w xs vs Q R r h hq => by
  unfold fSortI at h
  split at h
  · rename_i x
    obtain ⟨v, rfl, rv⟩ := r.one
    split at h
    · rename_i ns e
      obtain ⟨ds, e1, e2⟩ := Option.bind_eq_some_iff.mp e
      obtain ⟨a, us, rfl, h1, h2⟩ := ls_rs rv e1
      rw [intsOf_eq e2] at h2
      have := h2.ilst; subst this
      refine ⟨a, ns, rfl, SqL.of h1, fun ns' p hp hs hn => ?_⟩
      rw [isort_uniq hp hs]
      exact fresh_lay hn .of_ilst h hq
    · exact h.elim
  · exact h.elim
end
end Ks
end

section
set_option Elab.async false
set_option linter.all false
set_option maxRecDepth 100000
set_option maxHeartbeats 4000000
/-! # Statements, loops, comprehensions -/
namespace Ks
variable {T : List (PySem.Addr × PySem.Str)}
open PySem PySem.Spec PyProof.Rows L2
/-- what is wanted behind a statement, in plain data -/
structure Me where
  nx : Env → Prop
  rt : Dv → Prop
  bk : Env → Prop := fun _ => False
  ct : Env → Prop := fun _ => False
  ex : Exn → Prop
structure Link (K : PySem.W.Frag) (mg : Mg) (E : XK) (en : Wd mg.T) (G0 : Hp) (B : Me) (D : Ends) : Prop where
  nx : ∀ w ρ σ, Same G0 w.G → St K en w ρ σ → B.nx ρ → D.nx σ w.H
  rt : ∀ w v x, Grow en w → RS K w v x → x.isOwn = false → B.rt x → D.rt v w.H
  bk : ∀ w ρ σ, Same G0 w.G → St K en w ρ σ → B.bk ρ → D.bk σ w.H
  ct : ∀ w ρ σ, Same G0 w.G → St K en w ρ σ → B.ct ρ → D.ct σ w.H
  ex : ∀ (x : Exn) (u : Value) (o : Option Addr) (w : Wd mg.T), Grow en w → B.ex x → ExR mg x u o → E u o w.H
theorem Link.later {K : PySem.W.Frag} {mg : Mg} {E : XK} {en : Wd mg.T} {G0 G1 : Hp} {B : Me} {D : Ends} (l : Link K mg E en G0 B D) (g : Same G0 G1) : Link K mg E en G1 B D :=
  ⟨fun w ρ σ h => l.nx w ρ σ (g.trans h), l.rt, fun w ρ σ h => l.bk w ρ σ (g.trans h), fun w ρ σ h => l.ct w ρ σ (g.trans h), l.ex⟩
abbrev MS := Me → Env → Prop
def SS (K : PySem.W.Frag) (mg : Mg) (E : XK) (ts : TS) (ms : MS) : Prop :=
  ∀ (en w : Wd mg.T) (ρ : Env) (σ : L2.St) (D : Ends) (B : Me), St K en w ρ σ → ms B ρ → Link K mg E en w.G B D → ts D σ w.H

/-! ### slots -/
theorem get_set {α : Type} {l : List α} {i j : Nat} {x : α} : (l.set i x)[j]? = if i = j then (if i < l.length then some x else none) else l[j]? := by
  rw [List.getElem?_set]
theorem St.set {K : PySem.W.Frag} {en w : Wd T} {ρ : Env} {σ : L2.St} (s : St K en w ρ σ) (i : Nat) {x : Dv} {v : V} (r : RS K w v x) (hx : x.isOwn = false) : St K en w (ρ.set i (some x)) (σ.set i (some v)) where
  len := by rw [List.length_set, List.length_set]; exact s.len
  rs := fun j y h => by
    rw [get_set] at h ⊢
    rw [s.len]
    by_cases e : i = j
    · rw [if_pos e] at h ⊢
      by_cases e2 : i < ρ.length
      · rw [if_pos e2] at h ⊢
        simp only [Option.some.injEq] at h; subst h
        exact ⟨v, rfl, r⟩
      · rw [if_neg e2] at h; cases h
    · rw [if_neg e] at h ⊢
      exact s.rs j y h
  un := fun j k y z a h1 h2 o1 o2 h3 h4 => by
    rw [get_set] at h1 h2
    have ej : i ≠ j := fun e => by
      rw [if_pos e] at h1
      split at h1
      · simp only [Option.some.injEq] at h1; subst h1; rw [hx] at o1; cases o1
      · cases h1
    have ek : i ≠ k := fun e => by
      rw [if_pos e] at h2
      split at h2
      · simp only [Option.some.injEq] at h2; subst h2; rw [hx] at o2; cases o2
      · cases h2
    rw [if_neg ej] at h1
    rw [if_neg ek] at h2
    rw [get_set, if_neg ej] at h3
    rw [get_set, if_neg ek] at h4
    exact s.un j k y z a h1 h2 o1 o2 h3 h4
  fr := fun j y a h1 o1 h3 => by
    rw [get_set] at h1
    have ej : i ≠ j := fun e => by
      rw [if_pos e] at h1
      split at h1
      · simp only [Option.some.injEq] at h1; subst h1; rw [hx] at o1; cases o1
      · cases h1
    rw [if_neg ej] at h1
    rw [get_set, if_neg ej] at h3
    exact s.fr j y a h1 o1 h3
  gr := s.gr
/-- an own thing's address -/
theorem own_at {K : PySem.W.Frag} {w : Wd T} {v : V} : ∀ {x : Dv}, x.isOwn = true → RS K w v x → ∃ a o, v = .ref a ∧ w.G a = none ∧ ¬ w.C a ∧ w.H a = some o ∧ (∀ ps, o ≠ .tbl ps)
  | .own ps, _, r => by
    obtain ⟨a, vs, rfl, h1, h2, h3, _⟩ := r
    exact ⟨a, _, rfl, h1, h2, h3, fun _ e => nomatch e⟩
  | .odic kvs, _, r => by
    obtain ⟨a, vs, rfl, h1, h2, h3, _⟩ := r
    exact ⟨a, _, rfl, h1, h2, h3, fun _ e => nomatch e⟩
  | .d _, h, _ => by cases h
  | .coil, h, _ => by cases h
  | .dic _, h, _ => by cases h
  | .scr _, h, _ => by cases h
  | .fn _, h, _ => by cases h
  | .ty _, h, _ => by cases h
/-- a new own thing into a slot; w0: ahead of its making -/
theorem St.setO {K : PySem.W.Frag} {en w0 w : Wd T} {ρ : Env} {σ : L2.St} (s0 : St K en w0 ρ σ) (g : Grow w0 w) (i : Nat) {x : Dv} {a : Addr} (r : RS K w (.ref a) x) (ha : Fr w0.H a) : St K en w (ρ.set i (some x)) (σ.set i (some (.ref a))) where
  len := by rw [List.length_set, List.length_set]; exact s0.len
  rs := fun j y h => by
    rw [get_set] at h ⊢
    rw [s0.len]
    by_cases e : i = j
    · rw [if_pos e] at h ⊢
      by_cases e2 : i < ρ.length
      · rw [if_pos e2] at h ⊢
        simp only [Option.some.injEq] at h; subst h
        exact ⟨_, rfl, r⟩
      · rw [if_neg e2] at h; cases h
    · rw [if_neg e] at h ⊢
      obtain ⟨v, h1, h2⟩ := s0.rs j y h
      exact ⟨v, h1, h2.grow g⟩
  un := fun j k y z b h1 h2 o1 o2 h3 h4 => by
    have old : ∀ (j : Nat) (y : Dv), i ≠ j → (ρ.set i (some x))[j]? = some (some y) → y.isOwn = true → (σ.set i (some (V.ref a)))[j]? = some (some (V.ref b)) → b ≠ a := fun j y e q1 q2 q3 q4 => by
      rw [get_set, if_neg e] at q1 q3
      obtain ⟨v, p1, p2⟩ := s0.rs j y q1
      rw [q3] at p1
      obtain rfl := (Option.some.inj (Option.some.inj p1)).symm
      obtain ⟨c, o, p3, _, _, p4, p5⟩ := own_at q2 p2
      injection p3 with p3
      subst p3
      rw [q4] at p4
      exact ha.no p4 p5
    have new : ∀ (j : Nat), i = j → (σ.set i (some (V.ref a)))[j]? = some (some (V.ref b)) → b = a := fun j e q => by
      rw [get_set, if_pos e] at q
      split at q
      · injection q with q; injection q with q; injection q with q; exact q.symm
      · cases q
    by_cases ej : i = j
    · by_cases ek : i = k
      · rw [← ej, ← ek]
      · exact absurd (new j ej h3) (old k z ek h2 o2 h4)
    · by_cases ek : i = k
      · exact absurd (new k ek h4) (old j y ej h1 o1 h3)
      · rw [get_set, if_neg ej] at h1 h3
        rw [get_set, if_neg ek] at h2 h4
        exact s0.un j k y z b h1 h2 o1 o2 h3 h4
  fr := fun j y b h1 o1 h3 => by
    by_cases ej : i = j
    · rw [get_set, if_pos ej] at h3
      split at h3
      · injection h3 with q; injection q with q; injection q with q
        subst q
        exact s0.gr.dom _ ha
      · cases h3
    · rw [get_set, if_neg ej] at h1 h3
      exact s0.fr j y b h1 o1 h3
  gr := s0.gr.trans g
/-- an own list is to stand still -/
def fzD : Dv → Dv
  | .own ps => .d (.list ps)
  | .odic kvs => .dic kvs
  | x => x
theorem St.freeze {K : PySem.W.Frag} {en w : Wd T} {ρ : Env} {σ : L2.St} (s : St K en w ρ σ) (i : Nat) {x : Dv} (h : ρ[i]? = some (some x)) (hx : x.isOwn = true) :
    ∃ w' : Wd T, w'.H = w.H ∧ Same w.G w'.G ∧ St K en w' (ρ.set i (some (fzD x))) σ := by
  obtain ⟨v, h1, h2⟩ := s.rs i x h
  obtain ⟨a, o, rfl, q1, q2, q3, q4⟩ := own_at hx h2
  have g : Same w.G (upd w.G a o) := same_upd q1
  have fresh := s.fr i x a h hx h1
  have hil : i < ρ.length := (List.getElem?_eq_some_iff.mp h).1
  have hne : ∀ j y, i ≠ j → ρ[j]? = some (some y) → y.isOwn = true → σ[j]? ≠ some (some (V.ref a)) := fun j y e e1 e2 e3 => e (s.un i j x y a h e1 hx e2 h1 e3)
  refine ⟨w.fix a o q3 q2 q4, rfl, g, ⟨by rw [List.length_set]; exact s.len, fun j y hj => ?_, fun j k y z b z1 z2 o1 o2 z3 z4 => ?_, fun j y b z1 o1 z3 => ?_, ?_⟩⟩
  · rw [get_set] at hj
    by_cases e : i = j
    · rw [if_pos e, if_pos hil] at hj
      simp only [Option.some.injEq] at hj; subst hj; subst e
      refine ⟨_, h1, ?_⟩
      cases x with
      | own ps =>
        obtain ⟨b, vs, eb, _, _, p3, p4⟩ := h2
        injection eb with eb; subst eb
        rw [p3] at q3
        obtain rfl := Option.some.inj q3
        simp only [fzD, RS, Rp]
        exact ⟨a, vs, rfl, upd_same, RpA.mono g _ _ p4⟩
      | odic kvs =>
        obtain ⟨b, vs, eb, _, _, p3, p4⟩ := h2
        injection eb with eb; subst eb
        rw [p3] at q3
        obtain rfl := Option.some.inj q3
        exact ⟨a, vs, rfl, upd_same, p4.mono g⟩
      | d _ => cases hx
      | coil => cases hx
      | dic _ => cases hx
      | scr _ => cases hx
      | fn _ => cases hx
      | ty _ => cases hx
    · rw [if_neg e] at hj
      obtain ⟨u, p1, p2⟩ := s.rs j y hj
      refine ⟨u, p1, ?_⟩
      cases y with
      | d p => exact Rp.mono g p u p2
      | own ps =>
        obtain ⟨b, vs, rfl, r1, r2, r3, r4⟩ := p2
        have hb : b ≠ a := fun e' => hne j _ e hj rfl (e' ▸ p1)
        exact ⟨b, vs, rfl, (upd_ne hb).trans r1, r2, r3, RpA.mono g _ _ r4⟩
      | coil => exact p2
      | dic kvs =>
        obtain ⟨b, vs, rfl, r1, r2⟩ := p2
        exact ⟨b, vs, rfl, g _ _ r1, r2.mono g⟩
      | odic kvs =>
        obtain ⟨b, vs, rfl, r1, r2, r3, r4⟩ := p2
        have hb : b ≠ a := fun e' => hne j _ e hj rfl (e' ▸ p1)
        exact ⟨b, vs, rfl, (upd_ne hb).trans r1, r2, r3, r4.mono g⟩
      | scr ns =>
        obtain ⟨b, rfl, r1⟩ := p2
        exact ⟨b, rfl, g.seq r1⟩
      | fn f => exact p2
      | ty n => exact p2
  · have nf : (fzD x).isOwn = false := by cases x <;> first | rfl | cases hx
    rw [get_set] at z1 z2
    have ej : i ≠ j := fun e => by
      rw [if_pos e, if_pos hil] at z1
      simp only [Option.some.injEq] at z1; subst z1; rw [nf] at o1; cases o1
    have ek : i ≠ k := fun e => by
      rw [if_pos e, if_pos hil] at z2
      simp only [Option.some.injEq] at z2; subst z2; rw [nf] at o2; cases o2
    rw [if_neg ej] at z1
    rw [if_neg ek] at z2
    exact s.un j k y z b z1 z2 o1 o2 z3 z4
  · have nf : (fzD x).isOwn = false := by cases x <;> first | rfl | cases hx
    rw [get_set] at z1
    have ej : i ≠ j := fun e => by
      rw [if_pos e, if_pos hil] at z1
      simp only [Option.some.injEq] at z1; subst z1; rw [nf] at o1; cases o1
    rw [if_neg ej] at z1
    exact s.fr j y b z1 o1 z3
  · exact s.gr.fix fresh q1 q3 q2 q4
theorem tabs_upd {T : List (Addr × Str)} {H : Hp} {a : Addr} {o o' : HO} (t : LamX.Tabs T H) (ha : H a = some o) (n1 : ∀ ps, o ≠ .tbl ps) (n2 : ∀ c q, o ≠ LamX.CodeO c q) : LamX.Tabs T (upd H a o') := fun p hp => by
  obtain ⟨ps, h1, h2, h3⟩ := t p hp
  have ne : p.1 ≠ a := fun e => by rw [e, ha] at h1; exact n1 ps (Option.some.inj h1)
  refine ⟨ps, (upd_ne ne).trans h1, h2, fun pos cv hc => ?_⟩
  obtain ⟨c, e1, e2⟩ := h3 pos cv hc
  have ne2 : c ≠ a := fun e => by rw [e, ha] at e2; exact n2 _ _ (Option.some.inj e2)
  exact ⟨c, e1, (upd_ne ne2).trans e2⟩
/-- an own thing changes -/
theorem St.mut {K : PySem.W.Frag} {en w : Wd T} {ρ : Env} {σ : L2.St} (s : St K en w ρ σ) (i : Nat) {x y : Dv} {a : Addr} {o o' : HO} (h : ρ[i]? = some (some x)) (hx : x.isOwn = true) (hs : σ[i]? = some (some (.ref a)))
    (hg : w.G a = none) (hc : ¬ w.C a) (ho : w.H a = some o) (n1 : ∀ ps, o ≠ .tbl ps) (n2 : ∀ c q, o ≠ LamX.CodeO c q)
    (hy : ∀ w' : Wd T, w'.G = w.G → w'.C = w.C → w'.H a = some o' → RS K w' (.ref a) y) (hyo : y.isOwn = true) :
    ∃ w' : Wd T, w'.H = upd w.H a o' ∧ w'.G = w.G ∧ St K en w' (ρ.set i (some y)) σ ∧ ∀ w0, Grow w0 w → Fr w0.H a → Grow w0 w' := by
  have fresh := s.fr i x a h hx hs
  have hil : i < ρ.length := (List.getElem?_eq_some_iff.mp h).1
  have hne : ∀ j z, i ≠ j → ρ[j]? = some (some z) → z.isOwn = true → σ[j]? ≠ some (some (V.ref a)) := fun j z e e1 e2 e3 => e (s.un i j x z a h e1 hx e2 hs e3)
  have hcat : ∀ c, w.C c → c ≠ a := fun c q e => hc (e ▸ q)
  have hgh : Same w.G (upd w.H a o') := fun b u e => by
    have nb : b ≠ a := fun z => by rw [z, hg] at e; cases e
    exact (upd_ne nb).trans (w.gh b u e)
  have hct : ∀ c, w.C c → CoilAt (upd w.H a o') c := fun c q => by
    obtain ⟨m, n, e1, e2⟩ := w.cat c q
    exact ⟨m, n, (upd_ne (hcat c q)).trans e1, e2⟩
  let w' : Wd T := ⟨w.C, w.G, upd w.H a o', hgh, w.gc, w.gt, hct, tabs_upd w.tabs ho n1 n2⟩
  have growing : ∀ w0, Grow w0 w → Fr w0.H a → Grow w0 w' := fun w0 g fresh => by
    refine ⟨g.gg, g.new, fun b u e nc nt => ?_, fun b e => ?_, g.cc, g.cn⟩
    · have nb : b ≠ a := fun z => fresh.no (z ▸ e) nt
      exact (upd_ne nb).trans (g.keep b u e nc nt)
    · by_cases nb : b = a
      · rw [nb]; exact fresh
      · exact g.dom b fun o2 h2 => e o2 ((upd_ne nb).trans h2)
  refine ⟨w', rfl, rfl, ⟨by rw [List.length_set]; exact s.len, fun j z hj => ?_, fun j k z1 z2 b q1 q2 o1 o2 q3 q4 => ?_, fun j z b q1 o1 q3 => ?_, ?_⟩, growing⟩
  · rw [get_set] at hj
    by_cases e : i = j
    · rw [if_pos e, if_pos hil] at hj
      simp only [Option.some.injEq] at hj; subst hj; subst e
      exact ⟨_, hs, hy w' rfl rfl upd_same⟩
    · rw [if_neg e] at hj
      obtain ⟨u, p1, p2⟩ := s.rs j z hj
      refine ⟨u, p1, ?_⟩
      cases z with
      | d p => exact p2
      | own ps =>
        obtain ⟨b, vs, rfl, r1, r2, r3, r4⟩ := p2
        have hb : b ≠ a := fun e' => hne j _ e hj rfl (e' ▸ p1)
        exact ⟨b, vs, rfl, r1, r2, (upd_ne hb).trans r3, r4⟩
      | coil => exact p2
      | dic kvs => exact p2
      | odic kvs =>
        obtain ⟨b, vs, rfl, r1, r2, r3, r4⟩ := p2
        have hb : b ≠ a := fun e' => hne j _ e hj rfl (e' ▸ p1)
        exact ⟨b, vs, rfl, r1, r2, (upd_ne hb).trans r3, r4⟩
      | scr ns => exact p2
      | fn f => exact p2
      | ty n => exact p2
  · have key : ∀ (j : Nat) (z : Dv), (ρ.set i (some y))[j]? = some (some z) → z.isOwn = true → ∃ z', ρ[j]? = some (some z') ∧ z'.isOwn = true := fun j z q o => by
      rw [get_set] at q
      by_cases e : i = j
      · exact ⟨x, e ▸ h, hx⟩
      · rw [if_neg e] at q; exact ⟨z, q, o⟩
    obtain ⟨y1, r1, r2⟩ := key j z1 q1 o1
    obtain ⟨y2, r3, r4⟩ := key k z2 q2 o2
    exact s.un j k y1 y2 b r1 r3 r2 r4 q3 q4
  · rw [get_set] at q1
    by_cases e : i = j
    · exact s.fr j x b (e ▸ h) hx q3
    · rw [if_neg e] at q1; exact s.fr j z b q1 o1 q3
  · exact growing en s.gr fresh
theorem lst_nc {vs : List V} : ∀ c q, HO.lst vs ≠ LamX.CodeO c q := fun _ _ e => nomatch e
theorem dk_nc {vs : List (Key × V)} : ∀ c q, HO.dK vs ≠ LamX.CodeO c q := fun _ _ e => nomatch e
theorem dk_nt {vs : List (Key × V)} : ∀ ps, HO.dK vs ≠ .tbl ps := fun _ e => nomatch e

section
variable {K : PySem.W.Frag} {mg : Mg} {E : XK} {t u : TS} {m n : MS} {te : TE} {me : Env → M Dv}
def mSeq (m n : MS) : MS := fun B ρ => m { B with nx := n B } ρ
theorem ss_seq (h1 : SS K mg E t m) (h2 : SS K mg E u n) : SS K mg E (tSeq t u) (mSeq m n) := fun en w ρ σ D B s h l =>
  h1 en w ρ σ _ _ s h ⟨fun w' ρ' σ' g s' q => h2 en w' ρ' σ' D B s' q (l.later g), l.rt, l.bk, l.ct, l.ex⟩
def mNext : MS := fun B ρ => B.nx ρ
theorem ss_next : SS K mg E tNext mNext := fun en w ρ σ D B s h l => l.nx w ρ σ (Same.refl _) s h
def mBrk : MS := fun B ρ => B.bk ρ
theorem ss_brk : SS K mg E tBreak mBrk := fun en w ρ σ D B s h l => l.bk w ρ σ (Same.refl _) s h
def mCont : MS := fun B ρ => B.ct ρ
theorem ss_cont : SS K mg E tCont mCont := fun en w ρ σ D B s h l => l.ct w ρ σ (Same.refl _) s h
def mDrop (me : Env → M Dv) : MS := fun B ρ => me ρ (fun _ => B.nx ρ) B.ex
theorem ss_drop (he : SE K mg E te me) : SS K mg E (tDrop te) (mDrop me) := fun en w ρ σ D B s h l =>
  he en w ρ σ _ _ _ s h (fun x v w1 g1 r1 q => l.nx w1 ρ σ g1.gg (s.grow g1) q) (fun x u o w1 g q r => l.ex x u o w1 (s.gr.trans g) q r)
def mRet (me : Env → M Dv) : MS := fun B ρ => me ρ (fun x => x.isOwn = false ∧ B.rt x) B.ex
theorem ss_ret (he : SE K mg E te me) : SS K mg E (tRet te) (mRet me) := fun en w ρ σ D B s h l =>
  he en w ρ σ _ _ _ s h (fun x v w1 g1 r1 q => l.rt w1 v x (s.gr.trans g1) r1 q.1 q.2) (fun x u o w1 g q r => l.ex x u o w1 (s.gr.trans g) q r)
def mIfS (mt : Env → M Bool) (m n : MS) : MS := fun B ρ => mt ρ (fun c => if c = true then m B ρ else n B ρ) B.ex
theorem ss_if {tt : TT} {mt : Env → M Bool} (ht : SB K mg E tt mt) (h1 : SS K mg E t m) (h2 : SS K mg E u n) : SS K mg E (tIfS tt t u) (mIfS mt m n) := fun en w ρ σ D B s h l =>
  ht en w ρ σ _ _ _ s h (fun c w1 g1 q => by
    cases c with
    | true =>
      rw [if_pos rfl] at q ⊢
      exact h1 en w1 ρ σ D B (s.grow g1) q (l.later g1.gg)
    | false =>
      rw [if_neg Bool.false_ne_true] at q ⊢
      exact h2 en w1 ρ σ D B (s.grow g1) q (l.later g1.gg)) (fun x u o w1 g q r => l.ex x u o w1 (s.gr.trans g) q r)
def mFreeze (i : Nat) (m : MS) : MS := fun B ρ => match ρ[i]? with
  | some (some x) => if x.isOwn = true then m B (ρ.set i (some (fzD x))) else m B ρ
  | _ => m B ρ
theorem ss_freeze (i : Nat) (h1 : SS K mg E t m) : SS K mg E t (mFreeze i m) := fun en w ρ σ D B s h l => by
  unfold mFreeze at h
  split at h
  · rename_i x e
    split at h
    · rename_i hx
      obtain ⟨w', e1, e2, s'⟩ := s.freeze i e hx
      have := h1 en w' _ σ D B s' h (l.later e2)
      rw [e1] at this; exact this
    · exact h1 en w ρ σ D B s h l
  · exact h1 en w ρ σ D B s h l
/-! ### what is stored: a value, or a new own thing -/
def SN (K : PySem.W.Frag) (mg : Mg) (E : XK) (t : TE) (m : Env → M Dv) : Prop :=
  ∀ (en w : Wd mg.T) (ρ : Env) (σ : L2.St) (Q : Dv → Prop) (Ex : Exn → Prop) (R : VK), St K en w ρ σ → m ρ Q Ex →
    (∀ (x : Dv) (v : V) (w' : Wd mg.T), Grow w w' → RS K w' v x → (x.isOwn = true → ∃ a, v = .ref a ∧ Fr w.H a) → Q x → R v w'.H) →
    (∀ (x : Exn) (u : Value) (o : Option Addr) (w' : Wd mg.T), Grow w w' → Ex x → ExR mg x u o → E u o w'.H) → t σ w.H R
def mVal (me : Env → M Dv) : Env → M Dv := fun ρ Q Ex => me ρ (fun x => x.isOwn = false ∧ Q x) Ex
theorem sn_val (he : SE K mg E te me) : SN K mg E te (mVal me) := fun en w ρ σ Q Ex R s h hq hx =>
  he en w ρ σ _ Ex R s h (fun x v w1 g1 r1 q => hq x v w1 g1 r1 (fun e => by rw [q.1] at e; cases e) q.2) hx
def mOwn (mf : Env → M (List Dt)) : Env → M Dv := fun ρ Q Ex => mf ρ (fun ds => Q (.own ds)) Ex
theorem sn_own {mf : Env → M (List Dt)} (hf : SF K mg E te mf) : SN K mg E te (mOwn mf) := fun en w ρ σ Q Ex R s h hq hx =>
  hf en w ρ σ _ Ex R s h (fun ds a vs w1 g1 h0 h1 h2 h3 h4 q => hq (.own ds) (.ref a) w1 g1 ⟨a, vs, rfl, h1, h2, h3, h4⟩ (fun _ => ⟨a, rfl, h0⟩) q) hx
theorem St.put {en w0 w : Wd T} {ρ : Env} {σ : L2.St} (s : St K en w0 ρ σ) (g : Grow w0 w) (i : Nat) {x : Dv} {v : V} (r : RS K w v x) (hf : x.isOwn = true → ∃ a, v = .ref a ∧ Fr w0.H a) : St K en w (ρ.set i (some x)) (σ.set i (some v)) := by
  cases hx : x.isOwn with
  | false => exact (s.grow g).set i r hx
  | true =>
    obtain ⟨a, rfl, ha⟩ := hf hx
    exact s.setO g i r ha
def mSet (i : Nat) (me : Env → M Dv) : MS := fun B ρ => me ρ (fun x => B.nx (ρ.set i (some x))) B.ex
theorem ss_set (i : Nat) (he : SN K mg E te me) : SS K mg E (tAsg te (gName i)) (mSet i me) := fun en w ρ σ D B s h l =>
  he en w ρ σ _ _ _ s h (fun x v w1 g1 r1 hf q => l.nx w1 _ _ g1.gg (s.put g1 i r1 hf) q) (fun x u o w1 g q r => l.ex x u o w1 (s.gr.trans g) q r)
/-- a, b = e1, e2 -/
def mPar (i j : Nat) (me mf : Env → M Dv) : MS := fun B ρ => me ρ (fun x => mf ρ (fun y => B.nx ((ρ.set i (some x)).set j (some y))) B.ex) B.ex
theorem ss_par {i j : Nat} (hij : i ≠ j) {tf : TE} {mf : Env → M Dv} (he : SN K mg E te me) (hf : SN K mg E tf mf) : SS K mg E (tPar i j (tCons te (tCons tf tNil))) (mPar i j me mf) := fun en w ρ σ D B s h l =>
  he en w ρ σ _ _ _ s h (fun x v w1 g1 r1 h1 q => hf en w1 ρ σ _ _ _ (s.grow g1) q (fun y u w2 g2 r2 h2 q2 => by
    refine ⟨v, u, rfl, ?_⟩
    refine l.nx w2 _ _ (g1.trans g2).gg ?_ q2
    have s1 := (s.put g1 i r1 h1)
    exact s1.put g2 j r2 h2) (fun x u o w2 g q r => l.ex x u o w2 ((s.gr.trans g1).trans g) q r)) (fun x u o w1 g q r => l.ex x u o w1 (s.gr.trans g) q r)
/-! ### targets -/
abbrev STg (K : PySem.W.Frag) (g : TG) (is : List Nat) (f : Env → Dt → (Env → Prop) → Prop) : Prop :=
  ∀ {T : List (PySem.Addr × PySem.Str)} (en w : Wd T) (ρ : Env) (σ : L2.St) (v : V) (d : Dt) (Q : Env → Prop) (R : L2.St → Hp → Prop), St K en w ρ σ → Rp w.G d v → f ρ d Q →
    (∀ ρ' σ', St K en w ρ' σ' → (∀ j, j ∉ is → σ'[j]? = σ[j]?) → σ'.length = σ.length → Q ρ' → R σ' w.H) → g v σ w.H R
def fName (i : Nat) : Env → Dt → (Env → Prop) → Prop := fun ρ d Q => Q (ρ.set i (some (.d d)))
theorem st_name (i : Nat) : STg K (gName i) [i] (fName i) := fun en w ρ σ v d Q R s r h hq => hq _ _ (s.set i (x := .d d) r rfl) (fun j hj => by rw [get_set, if_neg (fun e => hj (by simp [e]))]) (List.length_set ..) h
def fTup2 (f1 f2 : Env → Dt → (Env → Prop) → Prop) : Env → Dt → (Env → Prop) → Prop := fun ρ d Q => match d with
  | .tuple [a, b] => f1 ρ a fun ρ1 => f2 ρ1 b Q
  | _ => False
theorem st_tup2 {g1 g2 : TG} {is js : List Nat} {f1 f2 : Env → Dt → (Env → Prop) → Prop} (h1 : STg K g1 is f1) (h2 : STg K g2 js f2) : STg K (gTup K 2 (gCons g1 (gCons g2 gNil))) (is ++ js) (fTup2 f1 f2) := fun en w ρ σ v d Q R s r h hq => by
  unfold fTup2 at h
  split at h
  · rename_i a b
    simp only [Rp, RpA] at r
    obtain ⟨p, vs, rfl, hp, x, r', rfl, ra, y, r'', rfl, rb, rfl⟩ := r
    refine ⟨p, _, rfl, SqT.of (w.gh _ _ hp), rfl, x, [y], rfl, ?_⟩
    refine h1 en w ρ σ x a _ _ s ra h fun ρ1 σ1 s1 o1 l1 q1 => ?_
    exact ⟨y, [], rfl, h2 en w ρ1 σ1 y b _ _ s1 rb q1 fun ρ2 σ2 s2 o2 l2 q2 => ⟨rfl, hq ρ2 σ2 s2 (fun j hj => by
      rw [List.mem_append] at hj
      rw [o2 j (fun e => hj (.inr e)), o1 j (fun e => hj (.inl e))]) (l2.trans l1) q2⟩⟩
  · exact h.elim
/-- target = e, by the target -/
def mAsgT (f : Env → Dt → (Env → Prop) → Prop) (me : Env → M Dv) : MS := fun B ρ => me ρ (fun x => match x with
  | .d p => f ρ p B.nx
  | _ => False) B.ex
theorem ss_asgT {g : TG} {is : List Nat} {f : Env → Dt → (Env → Prop) → Prop} (hg : STg K g is f) (he : SE K mg E te me) : SS K mg E (tAsg te g) (mAsgT f me) := fun en w ρ σ D B s h l =>
  he en w ρ σ _ _ _ s h (fun x v w1 g1 r1 q => by
    split at q
    · rename_i p
      exact hg en w1 ρ σ v p _ _ (s.grow g1) r1 q fun ρ' σ' s' _ _ q' => l.nx w1 ρ' σ' g1.gg s' q'
    · exact q.elim) (fun x u o w1 g q r => l.ex x u o w1 (s.gr.trans g) q r)
/-! ### x op= e at a name -/
def mAug (i : Nat) (f : Dv → Dv → (Dv → Prop) → Prop) (me : Env → M Dv) : MS := fun B ρ => match ρ[i]? with
  | some (some x) => me ρ (fun y => f x y fun z => z.isOwn = false ∧ B.nx (ρ.set i (some z))) B.ex
  | _ => False
theorem ss_aug (i : Nat) {r : TIp} {f : Dv → Dv → (Dv → Prop) → Prop} (hr : S2 K r f) (he : SE K mg E te me) : SS K mg E (tAug i te r) (mAug i f me) := fun en w ρ σ D B s h l => by
  unfold mAug at h
  split at h
  · rename_i x e
    obtain ⟨v, h1, h2⟩ := s.rs i x e
    refine ⟨v, h1, ?_⟩
    refine he en w ρ σ _ _ _ s h (fun y u w1 g1 r1 q => ?_) (fun x u o w1 g q r => l.ex x u o w1 (s.gr.trans g) q r)
    exact hr w1 x y v u _ _ (h2.grow g1) r1 q fun z v' w2 g2 r2 q2 => l.nx w2 _ _ (g1.trans g2).gg (((s.grow g1).grow g2).set i r2 q2.1) q2.2
  · exact h.elim
/-! ### an own list grows -/
def mApp (i : Nat) (me : Env → M Dv) : MS := fun B ρ => match ρ[i]? with
  | some (some (.own ds)) => me ρ (fun y => match y with
    | .d p => ds.length < sizeLine ∧ B.nx (ρ.set i (some (.own (ds ++ [p]))))
    | _ => False) B.ex
  | _ => False
theorem ss_app (i : Nat) (he : SE K mg E te me) : SS K mg E (tDrop (tBM K "list" rAppend (tVar i) (tCons te tNil))) (mApp i me) := fun en w ρ σ D B s h l => by
  unfold mApp at h
  split at h
  · rename_i ds eo
    obtain ⟨v, h1, a, vs, rfl, q1, q2, q3, q4⟩ := s.rs i _ eo
    refine ⟨.ref a, h1, .inl ⟨rfl, vs, SqL.of q3⟩, ?_⟩
    refine he en w ρ σ _ _ _ s h (fun y u w1 g1 r1 q => ?_) (fun x u o w1 g q r => l.ex x u o w1 (s.gr.trans g) q r)
    split at q
    · rename_i p
      obtain ⟨p1, p2, p3⟩ := g1.own q1 q2 q3 lst_nt
      refine ⟨a, vs, u, rfl, rfl, p3, by rw [q4.length]; exact q.1, ?_⟩
      obtain ⟨w', e1, e2, s', _⟩ := (s.grow g1).mut i (y := .own (ds ++ [p])) eo rfl h1 p1 p2 p3 lst_nt lst_nc (o' := .lst (vs ++ [u])) (fun w' hG hC hH => ⟨a, _, rfl, by rw [hG]; exact p1, by rw [hC]; exact p2, hH, by rw [hG]; exact (RpA.mono g1.gg _ _ q4).append (.cons r1 .nil)⟩) rfl
      have := l.nx w' _ σ (by rw [e2]; exact g1.gg) s' q.2
      rw [e1] at this; exact this
    · exact q.elim
  · exact h.elim
def mExt (i : Nat) (me : Env → M Dv) : MS := fun B ρ => match ρ[i]? with
  | some (some (.own ds)) => me ρ (fun y => match y.ls? with
    | some es => ds.length + es.length ≤ sizeLine ∧ B.nx (ρ.set i (some (.own (ds ++ es))))
    | none => False) B.ex
  | _ => False
theorem ss_ext (i : Nat) (he : SE K mg E te me) : SS K mg E (tDrop (tBM K "list" rExtend (tVar i) (tCons te tNil))) (mExt i me) := fun en w ρ σ D B s h l => by
  unfold mExt at h
  split at h
  · rename_i ds eo
    obtain ⟨v, h1, a, vs, rfl, q1, q2, q3, q4⟩ := s.rs i _ eo
    refine ⟨.ref a, h1, .inl ⟨rfl, vs, SqL.of q3⟩, ?_⟩
    refine he en w ρ σ _ _ _ s h (fun y u w1 g1 r1 q => ?_) (fun x u o w1 g q r => l.ex x u o w1 (s.gr.trans g) q r)
    split at q
    · rename_i es e2
      obtain ⟨b, us, rfl, z1, z2⟩ := ls_rs r1 e2
      obtain ⟨p1, p2, p3⟩ := g1.own q1 q2 q3 lst_nt
      refine ⟨a, b, vs, us, rfl, rfl, p3, z1, by rw [q4.length, z2.length]; exact q.1, ?_⟩
      obtain ⟨w', e1, e2, s', _⟩ := (s.grow g1).mut i (y := .own (ds ++ es)) eo rfl h1 p1 p2 p3 lst_nt lst_nc (o' := .lst (vs ++ us)) (fun w' hG hC hH => ⟨a, _, rfl, by rw [hG]; exact p1, by rw [hC]; exact p2, hH, by rw [hG]; exact (RpA.mono g1.gg _ _ q4).append z2⟩) rfl
      have := l.nx w' _ σ (by rw [e2]; exact g1.gg) s' q.2
      rw [e1] at this; exact this
    · exact q.elim
  · exact h.elim
/-! ### what is walked -/
structure Wk (K : PySem.W.Frag) (J : It) (ds : List Dt) (G1 : Hp) : Prop where
  go : ∀ {T : List (PySem.Addr × PySem.Str)} (w : Wd T) (i : Nat), Same G1 w.G → i < ds.length → J.go i w.H
  stop : ∀ {T : List (PySem.Addr × PySem.Str)} (w : Wd T) (i : Nat), Same G1 w.G → ds.length ≤ i → J.stop i w.H
  yld : ∀ {T : List (PySem.Addr × PySem.Str)} (w : Wd T) (i : Nat) (x : V) (H' : Hp) (d : Dt), Same G1 w.G → ds[i]? = some d → J.yld i w.H x H' → ∃ w' : Wd T, Grow w w' ∧ w'.H = H' ∧ Rp w'.G d x
def SI (K : PySem.W.Frag) (mg : Mg) (E : XK) (wi : TI) (m : Env → M (List Dt)) : Prop :=
  ∀ (en w : Wd mg.T) (ρ : Env) (σ : L2.St) (Q : List Dt → Prop) (Ex : Exn → Prop) (R : It → Hp → Prop), St K en w ρ σ → m ρ Q Ex →
    (∀ (ds : List Dt) (J : It) (w' : Wd mg.T), Grow w w' → Wk K J ds w'.G → Q ds → R J w'.H) →
    (∀ (x : Exn) (u : Value) (o : Option Addr) (w' : Wd mg.T), Grow w w' → Ex x → ExR mg x u o → E u o w'.H) → wi σ w.H R
/-- a list's items (of data) -/
def mItems (me : Env → M Dv) : Env → M (List Dt) := fun ρ Q Ex => me ρ (fun x => match x with
  | .d (.list ds) => Q ds
  | _ => False) Ex
def mItemsT (me : Env → M Dv) : Env → M (List Dt) := fun ρ Q Ex => me ρ (fun x => match x with
  | .d (.tuple ds) => Q ds
  | _ => False) Ex
theorem wk_list {J : Addr} {G1 : Hp} {vs : List V} {ds : List Dt} (h1 : G1 J = some (.lst vs)) (h2 : RpA G1 ds vs) : Wk K (Itl K J) ds G1 where
  go := fun w i g hi => by
    have e := List.getElem?_eq_getElem hi
    obtain ⟨v, q, _⟩ := h2.get e
    exact ⟨vs, v, SqL.of (w.gh _ _ (g _ _ h1)), q⟩
  stop := fun w i g hi => ⟨vs, SqL.of (w.gh _ _ (g _ _ h1)), by rw [h2.length]; exact hi⟩
  yld := fun w i x H' d g hd y => by
    obtain ⟨rfl, y⟩ := y
    obtain ⟨v, q, r⟩ := h2.get hd
    have := y vs (SqL.of (w.gh _ _ (g _ _ h1)))
    rw [q] at this
    injection this with this; subst this
    exact ⟨w, .refl w, rfl, Rp.mono g _ _ r⟩
theorem wk_tup {J : Addr} {G1 : Hp} {vs : List V} {ds : List Dt} (h1 : G1 J = some (.tup vs)) (h2 : RpA G1 ds vs) : Wk K (Itt K J) ds G1 where
  go := fun w i g hi => by
    have e := List.getElem?_eq_getElem hi
    obtain ⟨v, q, _⟩ := h2.get e
    exact ⟨vs, v, SqT.of (w.gh _ _ (g _ _ h1)), q⟩
  stop := fun w i g hi => ⟨vs, SqT.of (w.gh _ _ (g _ _ h1)), by rw [h2.length]; exact hi⟩
  yld := fun w i x H' d g hd y => by
    obtain ⟨rfl, y⟩ := y
    obtain ⟨v, q, r⟩ := h2.get hd
    have := y vs (SqT.of (w.gh _ _ (g _ _ h1)))
    rw [q] at this
    injection this with this; subst this
    exact ⟨w, .refl w, rfl, Rp.mono g _ _ r⟩
theorem si_list (he : SE K mg E te me) : SI K mg E (iList K te) (mItems me) := fun en w ρ σ Q Ex R s h hq hx =>
  he en w ρ σ _ Ex _ s h (fun x v w1 g1 r1 q => by
    split at q
    · rename_i ds
      simp only [RS, Rp] at r1
      obtain ⟨a, vs, rfl, h1, h2⟩ := r1
      exact ⟨a, rfl, ⟨vs, SqL.of (w1.gh _ _ h1)⟩, hq ds _ w1 g1 (wk_list h1 h2) q⟩
    · exact q.elim) hx
theorem si_tup (he : SE K mg E te me) : SI K mg E (iTup K te) (mItemsT me) := fun en w ρ σ Q Ex R s h hq hx =>
  he en w ρ σ _ Ex _ s h (fun x v w1 g1 r1 q => by
    split at q
    · rename_i ds
      simp only [RS, Rp] at r1
      obtain ⟨a, vs, rfl, h1, h2⟩ := r1
      exact ⟨a, rfl, ⟨vs, SqT.of (w1.gh _ _ h1)⟩, hq ds _ w1 g1 (wk_tup h1 h2) q⟩
    · exact q.elim) hx
/-- lo, lo + 1, .. (n of them) -/
def rngD (lo : Int) (n : Nat) : List Dt := (List.range n).map fun i => .int (lo + (i : Nat))
theorem wk_rng {lo : Int} {n : Nat} {G1 : Hp} : Wk K (Itr lo n) (rngD lo n) G1 where
  go := fun w i g hi => by simpa [rngD, Itr] using hi
  stop := fun w i g hi => by simpa [rngD, Itr] using hi
  yld := fun w i x H' d g hd y => by
    obtain ⟨rfl, rfl⟩ := y
    refine ⟨w, .refl w, rfl, ?_⟩
    unfold rngD at hd
    rw [List.getElem?_map] at hd
    cases e : (List.range n)[i]? with
    | none => rw [e] at hd; cases hd
    | some j =>
      rw [e] at hd
      have hj : j = i := by
        have hb : i < n := by
          have := (List.getElem?_eq_some_iff.mp e).1
          simpa using this
        rw [List.getElem?_range hb] at e
        injection e with e; exact e.symm
      simp only [Option.map_some, Option.some.injEq] at hd
      subst hd; subst hj
      simp [Rp]
def mRng1 (ma : Env → M (List Dv)) : Env → M (List Dt) := fun ρ Q Ex => ma ρ (fun xs => match xs with
  | [.d (.int j)] => -(2 ^ 62) ≤ j ∧ j < 2 ^ 62 ∧ Q (rngD 0 j.toNat)
  | _ => False) Ex
def mRng2 (ma : Env → M (List Dv)) : Env → M (List Dt) := fun ρ Q Ex => ma ρ (fun xs => match xs with
  | [.d (.int i), .d (.int j)] => (-(2 ^ 62) ≤ i ∧ i < 2 ^ 62 ∧ -(2 ^ 62) ≤ j ∧ j < 2 ^ 62) ∧ Q (rngD i (j - i).toNat)
  | _ => False) Ex
theorem si_rng1 {k : Nat} {ta : TA} {ma : Env → M (List Dv)} (ha : SA K mg E k ta ma) : SI K mg E (iRng1 ta) (mRng1 ma) := fun en w ρ σ Q Ex R s h hq hx =>
  ha en w ρ σ _ Ex _ s h (fun xs vs w1 g1 r1 hl q => by
    split at q
    · rename_i j
      obtain ⟨v, rfl, rv⟩ := r1.one
      simp only [RS, Rp] at rv; subst rv
      exact ⟨j, rfl, q.1, q.2.1, hq _ _ w1 g1 wk_rng q.2.2⟩
    · exact q.elim) hx
theorem si_rng2 {k : Nat} {ta : TA} {ma : Env → M (List Dv)} (ha : SA K mg E k ta ma) : SI K mg E (iRng2 ta) (mRng2 ma) := fun en w ρ σ Q Ex R s h hq hx =>
  ha en w ρ σ _ Ex _ s h (fun xs vs w1 g1 r1 hl q => by
    split at q
    · rename_i i j
      obtain ⟨v, u, rfl, rv, ru⟩ := r1.two
      simp only [RS, Rp] at rv ru; subst rv; subst ru
      exact ⟨i, j, rfl, q.1, hq _ _ w1 g1 wk_rng q.2⟩
    · exact q.elim) hx
/-- zip -/
def zipD : List Dt → List Dt → List Dt
  | a :: as, b :: bs => .tuple [a, b] :: zipD as bs
  | _, _ => []
theorem zipD_get : ∀ {as bs : List Dt} {i : Nat} {d : Dt}, (zipD as bs)[i]? = some d → ∃ a b, as[i]? = some a ∧ bs[i]? = some b ∧ d = .tuple [a, b]
  | a :: as, b :: bs, 0, d, h => by simp [zipD] at h; subst h; exact ⟨a, b, rfl, rfl, rfl⟩
  | a :: as, b :: bs, i + 1, d, h => by simpa using zipD_get (as := as) (bs := bs) (i := i) (by simpa [zipD] using h)
  | [], _, i, d, h => by simp [zipD] at h
  | _ :: _, [], i, d, h => by simp [zipD] at h
theorem zipD_len : ∀ (as bs : List Dt), (zipD as bs).length = min as.length bs.length
  | a :: as, b :: bs => by simp [zipD, zipD_len as bs]
  | [], _ => by simp [zipD]
  | _ :: _, [] => by simp [zipD]
def fZip : Dv → Dv → (List Dt → Prop) → Prop
  | .d (.list as), .d (.list bs), Q => Q (zipD as bs)
  | .d (.tuple as), .d (.tuple bs), Q => Q (zipD as bs)
  | _, _, _ => False
def mZip (ma : Env → M (List Dv)) : Env → M (List Dt) := fun ρ Q Ex => ma ρ (fun xs => match xs with
  | [x, y] => fZip x y Q
  | _ => False) Ex
theorem new_pair {w : Wd T} {q : Addr} {x y : V} {a b : Dt} (hT : w.H q = none) (ra : Rp w.G a x) (rb : Rp w.G b y) : ∃ w' : Wd T, Grow w w' ∧ w'.H = upd w.H q (.tup [x, y]) ∧ Rp w'.G (.tuple [a, b]) (.ref q) :=
  ⟨w.add q _ hT tup_nt, Grow.add hT tup_nt, rfl, by
    have g := (Grow.add (w := w) (o := .tup [x, y]) hT tup_nt).gg
    simp only [Rp]
    exact ⟨q, [x, y], rfl, upd_same, .cons (Rp.mono g _ _ ra) (.cons (Rp.mono g _ _ rb) .nil)⟩⟩
theorem si_zip {k : Nat} {ta : TA} {ma : Env → M (List Dv)} (ha : SA K mg E k ta ma) : SI K mg E (RZ.iZipA K ta) (mZip ma) := fun en w ρ σ Q Ex R s h hq hx =>
  ha en w ρ σ _ Ex _ s h (fun xs vs w1 g1 r1 hl q => by
    split at q
    · rename_i x y
      obtain ⟨v, u, rfl, rv, ru⟩ := r1.two
      unfold fZip at q
      split at q
      · rename_i as bs
        simp only [RS, Rp] at rv ru
        obtain ⟨a, vs, rfl, h1, h2⟩ := rv
        obtain ⟨b, us, rfl, h3, h4⟩ := ru
        refine ⟨a, b, vs, us, rfl, .inl ⟨SqL.of (w1.gh _ _ h1), SqL.of (w1.gh _ _ h3), hq _ _ w1 g1 ⟨fun w i g hi => ?_, fun w i g hi => ?_, fun w i z H' d g hd y => ?_⟩ q⟩⟩
        · obtain ⟨x, y, e1, e2, _⟩ := zipD_get (List.getElem?_eq_getElem hi)
          obtain ⟨x', p1, _⟩ := h2.get e1
          obtain ⟨y', p2, _⟩ := h4.get e2
          exact ⟨vs, us, x', y', SqL.of (w.gh _ _ (g _ _ h1)), SqL.of (w.gh _ _ (g _ _ h3)), p1, p2⟩
        · rw [zipD_len] at hi
          exact ⟨vs, us, SqL.of (w.gh _ _ (g _ _ h1)), SqL.of (w.gh _ _ (g _ _ h3)), by rw [h2.length, h4.length]; omega⟩
        · obtain ⟨x, y', e1, e2, rfl⟩ := zipD_get hd
          obtain ⟨x', p1, p1'⟩ := h2.get e1
          obtain ⟨y'', p2, p2'⟩ := h4.get e2
          obtain ⟨T, c, d, rfl, hT, rfl, f1, f2⟩ := y
          have := f1 vs (SqL.of (w.gh _ _ (g _ _ h1)))
          rw [p1] at this; injection this with this; subst this
          have := f2 us (SqL.of (w.gh _ _ (g _ _ h3)))
          rw [p2] at this; injection this with this; subst this
          exact new_pair hT (Rp.mono g _ _ p1') (Rp.mono g _ _ p2')
      · rename_i as bs
        simp only [RS, Rp] at rv ru
        obtain ⟨a, vs, rfl, h1, h2⟩ := rv
        obtain ⟨b, us, rfl, h3, h4⟩ := ru
        refine ⟨a, b, vs, us, rfl, .inr ⟨SqT.of (w1.gh _ _ h1), SqT.of (w1.gh _ _ h3), hq _ _ w1 g1 ⟨fun w i g hi => ?_, fun w i g hi => ?_, fun w i z H' d g hd y => ?_⟩ q⟩⟩
        · obtain ⟨x, y, e1, e2, _⟩ := zipD_get (List.getElem?_eq_getElem hi)
          obtain ⟨x', p1, _⟩ := h2.get e1
          obtain ⟨y', p2, _⟩ := h4.get e2
          exact ⟨vs, us, x', y', SqT.of (w.gh _ _ (g _ _ h1)), SqT.of (w.gh _ _ (g _ _ h3)), p1, p2⟩
        · rw [zipD_len] at hi
          exact ⟨vs, us, SqT.of (w.gh _ _ (g _ _ h1)), SqT.of (w.gh _ _ (g _ _ h3)), by rw [h2.length, h4.length]; omega⟩
        · obtain ⟨x, y', e1, e2, rfl⟩ := zipD_get hd
          obtain ⟨x', p1, p1'⟩ := h2.get e1
          obtain ⟨y'', p2, p2'⟩ := h4.get e2
          obtain ⟨T, c, d, rfl, hT, rfl, f1, f2⟩ := y
          have := f1 vs (SqT.of (w.gh _ _ (g _ _ h1)))
          rw [p1] at this; injection this with this; subst this
          have := f2 us (SqT.of (w.gh _ _ (g _ _ h3)))
          rw [p2] at this; injection this with this; subst this
          exact new_pair hT (Rp.mono g _ _ p1') (Rp.mono g _ _ p2')
      · exact q.elim
    · exact q.elim) hx
/-! ### for, while -/
def forL (f : Env → Dt → (Env → Prop) → Prop) (body : MS) (B : Me) : List Dt → Env → Prop
  | [], ρ => B.nx ρ
  | d :: ds, ρ => f ρ d fun ρ1 => body { B with nx := forL f body B ds, ct := forL f body B ds, bk := B.nx } ρ1
def mFor (mi : Env → M (List Dt)) (f : Env → Dt → (Env → Prop) → Prop) (body : MS) : MS := fun B ρ => mi ρ (fun ds => forL f body B ds ρ) B.ex
theorem ss_for {wi : TI} {mi : Env → M (List Dt)} {g : TG} {is : List Nat} {f : Env → Dt → (Env → Prop) → Prop} {tb : TS} {mb : MS} (hi : SI K mg E wi mi) (hg : STg K g is f) (hb : SS K mg E tb mb) : SS K mg E (tFor wi g tb) (mFor mi f mb) := fun en w ρ σ D B s h l =>
  hi en w ρ σ _ _ _ s h (fun ds J w1 g1 wk q => by
    refine ⟨fun i m σ H => ∃ w ρ, w.H = H ∧ St K en w ρ σ ∧ Same w1.G w.G ∧ forL f mb B (ds.drop i) ρ ∧ m = ds.length - i, ⟨ds.length, w1, ρ, rfl, s.grow g1, Same.refl _, by simpa using q, by simp⟩, ?_⟩
    rintro i m σ' H ⟨w2, ρ2, rfl, s2, g2, q2, rfl⟩
    by_cases hlt : i < ds.length
    · have hd : ds[i]? = some ds[i] := List.getElem?_eq_getElem hlt
      rw [List.drop_eq_getElem_cons hlt] at q2
      refine .inr ⟨wk.go w2 i g2 hlt, fun σ' H' => ∃ w ρ, w.H = H' ∧ St K en w ρ σ' ∧ Same w1.G w.G ∧ forL f mb B (ds.drop (i + 1)) ρ, fun σ' H' ⟨w3, ρ3, e3, s3, g3, q3⟩ => ⟨ds.length - (i + 1), by omega, w3, ρ3, e3, s3, g3, q3, rfl⟩, fun x H' y => ?_⟩
      obtain ⟨w3, g3, rfl, r3⟩ := wk.yld w2 i x H' _ g2 hd y
      refine hg en w3 ρ2 σ' x _ _ _ (s2.grow g3) r3 q2 fun ρ4 σ4 s4 _ _ q4 => ?_
      have g4 : Same w1.G w3.G := g2.trans g3.gg
      exact hb en w3 ρ4 σ4 _ _ s4 q4 ⟨fun w5 ρ5 σ5 g5 s5 q5 => ⟨w5, ρ5, rfl, s5, g4.trans g5, q5⟩, l.rt, fun w5 ρ5 σ5 g5 s5 q5 => l.nx w5 ρ5 σ5 ((g1.gg.trans g4).trans g5) s5 q5, fun w5 ρ5 σ5 g5 s5 q5 => ⟨w5, ρ5, rfl, s5, g4.trans g5, q5⟩, l.ex⟩
    · have e : ds.drop i = [] := List.drop_eq_nil_of_le (by omega)
      rw [e] at q2
      exact .inl ⟨wk.stop w2 i g2 (by omega), l.nx w2 ρ2 σ' (g1.gg.trans g2) s2 q2⟩) (fun x u o w1 g q r => l.ex x u o w1 (s.gr.trans g) q r)
def whileN (mt : Env → M Bool) (body : MS) (B : Me) : Nat → Env → Prop
  | 0, _ => False
  | n + 1, ρ => mt ρ (fun c => if c = true then body { B with nx := whileN mt body B n, ct := whileN mt body B n, bk := B.nx } ρ else B.nx ρ) B.ex
def mWhile (mt : Env → M Bool) (body : MS) : MS := fun B ρ => ∃ n, whileN mt body B n ρ
theorem ss_while {tt : TT} {mt : Env → M Bool} {tb : TS} {mb : MS} (ht : SB K mg E tt mt) (hb : SS K mg E tb mb) : SS K mg E (tWhile tt tb) (mWhile mt mb) := fun en w ρ σ D B s h l => by
  obtain ⟨n, h⟩ := h
  refine ⟨fun m σ H => ∃ w2 ρ, w2.H = H ∧ St K en w2 ρ σ ∧ Same w.G w2.G ∧ whileN mt mb B m ρ, ⟨n, w, ρ, rfl, s, Same.refl _, h⟩, ?_⟩
  rintro m σ' H ⟨w2, ρ2, rfl, s2, g2, q2⟩
  cases m with
  | zero => exact q2.elim
  | succ m =>
    refine ht en w2 ρ2 σ' _ _ _ s2 q2 (fun c w3 g3 q3 => ?_) (fun x u o w1 g q r => l.ex x u o w1 (s2.gr.trans g) q r)
    have g4 : Same w.G w3.G := g2.trans g3.gg
    cases c with
    | true =>
      rw [if_pos rfl] at q3 ⊢
      refine ⟨fun σ' H' => ∃ w5 ρ5, w5.H = H' ∧ St K en w5 ρ5 σ' ∧ Same w.G w5.G ∧ whileN mt mb B m ρ5, fun σ' H' q => ⟨m, Nat.lt_succ_self m, q⟩, ?_⟩
      exact hb en w3 ρ2 σ' _ _ (s2.grow g3) q3 ⟨fun w5 ρ5 σ5 g5 s5 q5 => ⟨w5, ρ5, rfl, s5, g4.trans g5, q5⟩, l.rt, fun w5 ρ5 σ5 g5 s5 q5 => l.nx w5 ρ5 σ5 (g4.trans g5) s5 q5, fun w5 ρ5 σ5 g5 s5 q5 => ⟨w5, ρ5, rfl, s5, g4.trans g5, q5⟩, l.ex⟩
    | false =>
      rw [if_neg Bool.false_ne_true] at q3 ⊢
      exact l.nx w3 ρ2 σ' g4 (s2.grow g3) q3
/-! ### list comprehensions -/
def wipeE (ρ : Env) : List Nat → Env
  | [] => ρ
  | v :: vs => (wipeE ρ vs).set v none
theorem wipeE_length (ρ : Env) : ∀ vs : List Nat, (wipeE ρ vs).length = ρ.length
  | [] => rfl
  | v :: vs => by rw [wipeE, List.length_set, wipeE_length ρ vs]
theorem wipeE_some {ρ : Env} {i : Nat} {x : Dv} : ∀ {vs : List Nat}, (wipeE ρ vs)[i]? = some (some x) → ρ[i]? = some (some x) ∧ i ∉ vs
  | [], h => ⟨h, by simp⟩
  | v :: vs, h => by
    rw [wipeE, get_set] at h
    by_cases e : v = i
    · rw [if_pos e] at h
      split at h
      · cases h
      · cases h
    · rw [if_neg e] at h
      obtain ⟨h1, h2⟩ := wipeE_some h
      exact ⟨h1, by simp [h2, Ne.symm e]⟩
theorem wipe_in {σ : L2.St} {i : Nat} : ∀ {vs : List Nat}, i ∈ vs → (wipe σ vs)[i]? = if i < σ.length then some none else none
  | v :: vs, h => by
    rw [wipe, get_set, wipe_length]
    by_cases e : v = i
    · rw [if_pos e, e]
    · rw [if_neg e]
      exact wipe_in ((List.mem_cons.mp h).resolve_left (Ne.symm e))
theorem wipe_same {σ σ' : L2.St} {vs is : List Nat} (hs : ∀ j ∈ is, j ∈ vs) (h : ∀ j, j ∉ is → σ'[j]? = σ[j]?) (hl : σ'.length = σ.length) : wipe σ' vs = wipe σ vs := by
  apply List.ext_getElem?
  intro j
  by_cases e : j ∈ vs
  · rw [wipe_in e, wipe_in e, hl]
  · rw [wipe_out e, wipe_out e, h j (fun z => e (hs j z))]
theorem wipe_wipe {σ : L2.St} {vs : List Nat} : wipe (wipe σ vs) vs = wipe σ vs := by
  refine wipe_same (is := vs) (fun _ h => h) (fun j hj => wipe_out hj) (wipe_length _ _)
theorem St.wipe {en w : Wd T} {ρ : Env} {σ : L2.St} (s : St K en w ρ σ) (vs : List Nat) : St K en w (wipeE ρ vs) (L2.wipe σ vs) where
  len := by rw [wipe_length, wipeE_length]; exact s.len
  rs := fun i x h => by
    obtain ⟨h1, h2⟩ := wipeE_some h
    rw [wipe_out h2]
    exact s.rs i x h1
  un := fun i j x y a h1 h2 o1 o2 h3 h4 => by
    obtain ⟨p1, p2⟩ := wipeE_some h1
    obtain ⟨p3, p4⟩ := wipeE_some h2
    rw [wipe_out p2] at h3
    rw [wipe_out p4] at h4
    exact s.un i j x y a p1 p3 o1 o2 h3 h4
  fr := fun i x a h1 o1 h3 => by
    obtain ⟨p1, p2⟩ := wipeE_some h1
    rw [wipe_out p2] at h3
    exact s.fr i x a p1 o1 h3
  gr := s.gr
/-- one more slot, and without it -/
theorem St.more {en w0 w : Wd T} {ρ : Env} {σ : L2.St} (s0 : St K en w0 ρ σ) (g : Grow w0 w) {x : Dv} {a : Addr} (r : RS K w (.ref a) x) (ha : Fr w0.H a) : St K en w (ρ ++ [some x]) (σ ++ [some (.ref a)]) := by
  have s1 : St K en w0 (ρ ++ [none]) (σ ++ [none]) := by
    have key : ∀ (i : Nat) (x : Dv), (ρ ++ [none])[i]? = some (some x) → ρ[i]? = some (some x) ∧ i < ρ.length := fun i x h => by
      by_cases e : i < ρ.length
      · rw [List.getElem?_append_left e] at h; exact ⟨h, e⟩
      · rw [List.getElem?_append_right (by omega)] at h
        cases hk : i - ρ.length with
        | zero => rw [hk] at h; simp at h
        | succ k => rw [hk] at h; simp at h
    have lft : ∀ (i : Nat), i < ρ.length → (σ ++ [none])[i]? = σ[i]? := fun i h => List.getElem?_append_left (by rw [s0.len]; exact h)
    refine ⟨by simp [s0.len], fun i x h => ?_, fun i j x y a h1 h2 o1 o2 h3 h4 => ?_, fun i x a h1 o1 h3 => ?_, s0.gr⟩
    · obtain ⟨p1, p2⟩ := key i x h
      rw [lft i p2]; exact s0.rs i x p1
    · obtain ⟨p1, p2⟩ := key i x h1
      obtain ⟨p3, p4⟩ := key j y h2
      rw [lft i p2] at h3
      rw [lft j p4] at h4
      exact s0.un i j x y a p1 p3 o1 o2 h3 h4
    · obtain ⟨p1, p2⟩ := key i x h1
      rw [lft i p2] at h3
      exact s0.fr i x a p1 o1 h3
  have s2 := s1.setO g ρ.length r ha
  have e1 : (ρ ++ [none]).set ρ.length (some x) = ρ ++ [some x] := by
    rw [List.set_append_right _ _ (Nat.le_refl _)]; simp
  have e2 : (σ ++ [none]).set ρ.length (some (V.ref a)) = σ ++ [some (.ref a)] := by
    rw [← s0.len, List.set_append_right _ _ (Nat.le_refl _)]; simp
  rw [e1, e2] at s2
  exact s2
theorem St.less {en w : Wd T} {ρ : Env} {σ : L2.St} {x : Option Dv} {v : Option V} (s : St K en w (ρ ++ [x]) (σ ++ [v])) : St K en w ρ σ := by
  have hl : σ.length = ρ.length := by have := s.len; simpa using this
  have up : ∀ (i : Nat) (x : Dv), ρ[i]? = some (some x) → i < ρ.length := fun i x h => (List.getElem?_eq_some_iff.mp h).1
  have lr : ∀ (i : Nat) (y : Dv), ρ[i]? = some (some y) → (ρ ++ [x])[i]? = some (some y) := fun i y h => by rw [List.getElem?_append_left (up i y h)]; exact h
  have ls : ∀ (i : Nat), i < ρ.length → (σ ++ [v])[i]? = σ[i]? := fun i h => List.getElem?_append_left (by rw [hl]; exact h)
  refine ⟨hl, fun i y h => ?_, fun i j y z a h1 h2 o1 o2 h3 h4 => ?_, fun i y a h1 o1 h3 => ?_, s.gr⟩
  · obtain ⟨u, p1, p2⟩ := s.rs i y (lr i y h)
    rw [ls i (up i y h)] at p1
    exact ⟨u, p1, p2⟩
  · exact s.un i j y z a (lr i y h1) (lr j z h2) o1 o2 (by rw [ls i (up i y h1)]; exact h3) (by rw [ls j (up j z h2)]; exact h4)
  · exact s.fr i y a (lr i y h1) o1 (by rw [ls i (up i y h1)]; exact h3)
def lcL (f : Env → Dt → (Env → Prop) → Prop) (mt : Env → M Bool) (me : Env → M Dv) (ρ0 : Env) (Q : List Dt → Prop) : List Dt → List Dt → Prop
  | [], acc => Q acc
  | d :: ds, acc => f ρ0 d fun ρ1 => mt ρ1 (fun b => if b = true then me ρ1 (fun y => match y with
      | .d p => acc.length < sizeLine ∧ lcL f mt me ρ0 Q ds (acc ++ [p])
      | _ => False) (fun _ => False) else lcL f mt me ρ0 Q ds acc) (fun _ => False)
def mLc (mi : Env → M (List Dt)) (f : Env → Dt → (Env → Prop) → Prop) (mt : Env → M Bool) (me : Env → M Dv) (vs : List Nat) : Env → M (List Dt) := fun ρ Q Ex => mi ρ (fun ds => lcL f mt me (wipeE ρ vs) Q ds []) Ex
abbrev EN : XK := fun _ _ _ => False
def mYes : Env → M Bool := fun _ Q _ => Q true
theorem sb_yes : SB K mg E tYes mYes := fun en w ρ σ Q Ex R s h hq _ => hq true w (.refl w) h
theorem sf_lc {wi : TI} {mi : Env → M (List Dt)} {g : TG} {is vs : List Nat} {f : Env → Dt → (Env → Prop) → Prop} {tt : TT} {mt : Env → M Bool} (hi : SI K mg E wi mi) (hg : STg K g is f) (hs : ∀ j ∈ is, j ∈ vs) (ht : SB K mg EN tt mt) (he : SE K mg EN te me) :
    SF K mg E (tLc wi g tt te vs) (mLc mi f mt me vs) := fun en w ρ σ Q Ex R s h hq hx =>
  hi en w ρ σ _ Ex _ s h (fun ds J w1 g1 wk q => by
    intro D hD
    have s1 : St K en w1 (wipeE ρ vs) (L2.wipe σ vs) := (s.grow g1).wipe vs
    have s2 : St K en (w1.lay D (.lst []) hD) (wipeE ρ vs ++ [some (.own [])]) (L2.wipe σ vs ++ [some (.ref D)]) :=
      s1.more (Grow.lay hD) ⟨D, [], rfl, Wd.g_none (w := w1) hD, fun hc => (w1.cat D hc).ne hD rfl, upd_same, .nil⟩ (.of hD)
    have g0 : Grow w (w1.lay D (.lst []) hD) := g1.trans (Grow.lay hD)
    have h0 : Fr w.H D := g1.dom D (.of hD)
    -- the turns' word
    refine ⟨fun i m H => ∃ w2 acc, w2.H = H ∧ Grow w w2 ∧ St K en w2 (wipeE ρ vs ++ [some (.own acc)]) (L2.wipe σ vs ++ [some (.ref D)]) ∧ Same w1.G w2.G ∧ lcL f mt me (wipeE ρ vs) Q (ds.drop i) acc ∧ m = ds.length - i,
      ⟨ds.length, w1.lay D (.lst []) hD, [], rfl, g0, s2, Same.refl _, by simpa using q, by simp⟩, ?_⟩
    rintro i m H ⟨w2, acc, rfl, sA, sB, g2, q2, rfl⟩
    have at_ : (wipeE ρ vs ++ [some (Dv.own acc)])[(wipeE ρ vs).length]? = some (some (.own acc)) := by simp
    have atD : (L2.wipe σ vs ++ [some (V.ref D)])[(wipeE ρ vs).length]? = some (some (.ref D)) := by
      rw [← s1.len, List.getElem?_append_right (Nat.le_refl _)]; simp
    obtain ⟨v, hv, a, us, rfl, z1, z2, z3, z4⟩ := sB.rs _ _ at_
    rw [atD] at hv
    injection hv with hv; injection hv with hv; injection hv with hv
    subst hv
    by_cases hlt : i < ds.length
    · have hd : ds[i]? = some ds[i] := List.getElem?_eq_getElem hlt
      rw [List.drop_eq_getElem_cons hlt] at q2
      refine .inr ⟨wk.go w2 i g2 hlt, fun H' => ∃ w2 acc, w2.H = H' ∧ Grow w w2 ∧ St K en w2 (wipeE ρ vs ++ [some (.own acc)]) (L2.wipe σ vs ++ [some (.ref D)]) ∧ Same w1.G w2.G ∧ lcL f mt me (wipeE ρ vs) Q (ds.drop (i + 1)) acc,
        fun H' ⟨w3, acc', e3, a3, b3, g3, q3⟩ => ⟨ds.length - (i + 1), by omega, w3, acc', e3, a3, b3, g3, q3, rfl⟩, fun x H' y => ?_⟩
      obtain ⟨w3, g3, rfl, r3⟩ := wk.yld w2 i x H' _ g2 hd y
      refine hg en w3 _ _ x _ _ _ (sB.less.grow g3) r3 q2 fun ρ4 σ4 s4 o4 l4 q4 => ?_
      refine ⟨(wipe_same hs o4 l4).trans wipe_wipe, ?_⟩
      refine ht en w3 ρ4 σ4 _ _ _ s4 q4 (fun b w5 g5 q5 => ?_) (fun x u o w' _ z _ => z.elim)
      split at q5
      · rename_i hb
        rw [if_pos hb]
        refine he en w5 ρ4 σ4 _ _ _ (s4.grow g5) q5 (fun y u w6 g6 r6 q6 => ?_) (fun x u o w' _ z _ => z.elim)
        split at q6
        · rename_i p
          have gg : Grow w2 w6 := (g3.trans g5).trans g6
          obtain ⟨p1, p2, p3⟩ := gg.own z1 z2 z3 lst_nt
          refine ⟨us, p3, by rw [z4.length]; exact q6.1, ?_⟩
          have zz : RpA w6.G (acc ++ [p]) (us ++ [u]) := (RpA.mono gg.gg _ _ z4).append (.cons r6 .nil)
          obtain ⟨w7, e1, e2, s7, s8⟩ := (sB.grow gg).mut (wipeE ρ vs).length (y := .own (acc ++ [p])) at_ rfl atD p1 p2 p3 lst_nt lst_nc (o' := .lst (us ++ [u])) (fun w' hG hC hH => ⟨D, _, rfl, by rw [hG]; exact p1, by rw [hC]; exact p2, hH, by rw [hG]; exact zz⟩) rfl
          have es : (wipeE ρ vs ++ [some (Dv.own acc)]).set (wipeE ρ vs).length (some (Dv.own (acc ++ [p]))) = wipeE ρ vs ++ [some (Dv.own (acc ++ [p]))] := by
            rw [List.set_append_right _ _ (Nat.le_refl _)]; simp
          rw [es] at s7
          exact ⟨w7, acc ++ [p], e1, s8 w (sA.trans gg) h0, s7, by rw [e2]; exact g2.trans gg.gg, q6.2⟩
        · exact q6.elim
      · rename_i hb
        rw [if_neg hb]
        have gg : Grow w2 w5 := g3.trans g5
        exact ⟨w5, acc, rfl, sA.trans gg, sB.grow gg, g2.trans gg.gg, q5⟩
    · have e : ds.drop i = [] := List.drop_eq_nil_of_le (by omega)
      rw [e] at q2
      exact .inl ⟨wk.stop w2 i g2 (by omega), hq acc D us w2 sA h0 z1 z2 z3 z4 q2⟩) hx
end
end Ks
end

section
set_option Elab.async false
set_option linter.all false
set_option maxRecDepth 100000
set_option maxHeartbeats 4000000
/-! # Defs, calls, raising -/
namespace Ks
variable {T : List (PySem.Addr × PySem.Str)}
open PySem PySem.Spec PyProof.Rows L2
def noOwn (xs : List Dv) : Bool := xs.all fun x => !x.isOwn
/-- the promise of a def that means F -/
def spF (K : PySem.W.Frag) (mg : Mg) (n : Nat) (F : List Dv → M Dv) : Sp := fun vs H Q E => ∃ (w : Wd mg.T) (xs : List Dv) (Qd : Dv → Prop) (Ex : Exn → Prop), w.H = H ∧ RSs K w vs xs ∧ xs.length = n ∧ noOwn xs = true ∧ F xs Qd Ex ∧
  (∀ v x w', Grow w w' → RS K w' v x → x.isOwn = false → Qd x → Q v w'.H) ∧ (∀ (x : Exn) (u : Value) (o : Option Addr) (w' : Wd mg.T), Grow w w' → Ex x → ExR mg x u o → E u o w'.H)
/-- a def of the text that means F -/
def Df (P : Program) (w : World) (K : PySem.W.Frag) (mg : Mg) (base : Heap) (x : Str) (k : Nat) (ps : List Str) (F : List Dv → M Dv) : Prop :=
  ∃ (f : Addr) (fd : FuncData), FnOk P w K mg.f base (L2N.CX P w) k f fd ps (spF K mg ps.length F) ∧ mg.f x = some (.ref f) ∧ PySem.W.keepIn K (.ref f) = true ∧ Binds K fd ps []
def FunAt (K : PySem.W.Frag) (mg : Mg) (x : Str) (st : Stmt) : Prop := ∃ f fd, Fun K x x st f fd ∧ mg.f x = some (.ref f)
def mCall (F : List Dv → M Dv) (ma : Env → M (List Dv)) : Env → M Dv := fun ρ Q Ex => ma ρ (fun xs => noOwn xs = true ∧ F xs Q Ex) Ex
section
variable {K : PySem.W.Frag} {mg : Mg} {E : XK}
theorem se_call {n m : Nat} {F : List Dv → M Dv} {t : TA} {ma : Env → M (List Dv)} (ha : SA K mg E n t ma) (hn : n = m := by rfl) : SE K mg E (tCall (spF K mg m F) [] E t) (mCall F ma) := fun en w ρ σ Q Ex R s h hq he => by
  subst hn
  exact ha en w ρ σ _ Ex _ s h (fun xs vs w1 g1 r1 hl q => by
    rw [List.append_nil]
    exact ⟨w1, xs, Q, Ex, rfl, r1, hl, q.1, q.2, fun v x w2 g2 r2 _ q2 => hq x v w2 (g1.trans g2) r2 q2, fun x u o w2 g2 q2 r2 => he x u o w2 (g1.trans g2) q2 r2⟩) he
end
section
variable {X : Cx} {mg : Mg} {x : Str} {k n : Nat} {ps : List Str} {F : List Dv → M Dv} {E : XK} {e : Expr} {es : List Expr} {t : TA} {p pos : Pos}
theorem pe_callD (D : Df X.prog X.w X.K mg X.base x k ps F) (hr : Room k X.A) (hg : Gl X x) (hx : Passes (L2N.CX X.prog X.w) X E) (ha : PA X (e :: es) t) (hmg : mg.f = X.mg := by rfl)
    (hdb : (x == ("__debug__" : Str)) = false := by decide) (hst : starEach (e :: es) X.env = (false, eval e X.env) :: starEach es X.env := by rfl) (hpl : (backTo pos (starEach es X.env)).any (·.1) = false := by rfl) :
    PE X (.Call (.Name x p) (e :: es) [] pos) (tCall (spF X.K mg ps.length F) [] E t) := by
  obtain ⟨f, fd, h1, h2, h3, h4⟩ := D
  rw [hmg] at h1 h2
  exact pe_call h1 hr hg h2 h3 h4 .nil hx ha hdb hst hpl
theorem pe_callD0 (D : Df X.prog X.w X.K mg X.base x k [] F) (hr : Room k X.A) (hg : Gl X x) (hx : Passes (L2N.CX X.prog X.w) X E) (hmg : mg.f = X.mg := by rfl)
    (hdb : (x == ("__debug__" : Str)) = false := by decide) : PE X (.Call (.Name x p) [] [] pos) (tCall (spF X.K mg 0 F) [] E tNil) := by
  obtain ⟨f, fd, h1, h2, h3, h4⟩ := D
  rw [hmg] at h1 h2
  exact pe_call0 h1 hr hg h2 h3 h4 .nil hx hdb
end
/-- an exception passes on in a def's body -/
theorem passX {X : Cx} {E : XK} (tk : L2N.Takes X (fun cls d _ H => E cls d H)) : Passes (L2N.CX X.prog X.w) X E := L2N.passes_call tk (fun _ _ _ _ h => h)
/-- nothing is let out -/
theorem passN {X : Cx} : Passes (L2N.CX X.prog X.w) X EN := fun _ _ _ _ _ _ _ h => by
  obtain ⟨_, _, _, _, _, _, _, _, _, _, _, _, z⟩ := h
  exact z.elim
/-- a def of the text by its body, whatever it lets out -/
theorem okN {P : Program} {w : World} {K : PySem.W.Frag} {mg : Str → Option Value} {base : Heap} {CX : CXT} {x qual : Str} {st : Stmt} {f : Addr} {fd : FuncData} {N ps : List Str} {k : Nat} {sp : Sp} (Fu : Fun K x qual st f fd) (S : FnScope N ps (defScope st)) (len : ∀ vs H Q E, sp vs H Q E → vs.length = ps.length)
    (hbody : ∀ (cdv : Value) (A : Around) (outer : List PySem.Env) (s : Shared) (H : Hp) (vs : List V) (Q : VK) (E : XK), Room k (A.deeper (envOfC qual (defScope st) s.heap.objs.size f cdv)) → sp vs H Q E →
      ∃ t, PSs (cxOf CX P w K mg base N qual (defScope st) f cdv A outer s H E) (defBody st) t ∧ t { nx := fun _ H' => Q .non H', rt := Q } (L2.start N vs) H) : FnOk P w K mg base CX (k + 1) f fd ps sp := by
  obtain ⟨oc, od, kV, doc, pm, an, cdv, ct, osl, rfl, lk, hcd⟩ := Fu.ex
  exact fn_of lk hcd S len fun A outer s H vs Q E hr hsp => hbody cdv A outer s H vs Q E hr hsp
theorem RSs.start {K : PySem.W.Frag} {w : Wd T} : ∀ {vs : List V} {xs : List Dv} (i : Nat) (x : Dv), RSs K w vs xs → xs[i]? = some x → ∃ v, vs[i]? = some v ∧ RS K w v x
  | [], [], i, x, _, h => by simp at h
  | v :: vs, y :: xs, 0, x, r, h => by simp at h; subst h; exact ⟨v, rfl, r.1⟩
  | v :: vs, y :: xs, i + 1, x, r, h => by simpa using RSs.start i x r.2 (by simpa using h)
  | [], _ :: _, _, _, r, _ => r.elim
  | _ :: _, [], _, _, r, _ => r.elim
def startE (N : Nat) (xs : List Dv) : Env := xs.map some ++ List.replicate (N - xs.length) none
theorem St.start {K : PySem.W.Frag} {w : Wd T} {vs : List V} {xs : List Dv} {N : List Str} (r : RSs K w vs xs) (no : noOwn xs = true) : St K w w (startE N.length xs) (L2.start N vs) := by
  have hl := r.length
  have key : ∀ (i : Nat) (x : Dv), (startE N.length xs)[i]? = some (some x) → xs[i]? = some x ∧ i < xs.length := fun i x h => by
    unfold startE at h
    by_cases e : i < (xs.map some).length
    · rw [List.getElem?_append_left e, List.getElem?_map] at h
      cases e2 : xs[i]? with
      | none => rw [e2] at h; cases h
      | some y => rw [e2] at h; simp at h; subst h; exact ⟨rfl, by simpa using e⟩
    · rw [List.getElem?_append_right (by omega), List.getElem?_replicate] at h
      split at h
      · cases h
      · cases h
  have nown : ∀ (i : Nat) (x : Dv), xs[i]? = some x → x.isOwn = false := fun i x h => by
    have := List.all_eq_true.mp no x (List.mem_of_getElem? h)
    simpa using this
  refine ⟨by unfold startE L2.start; simp [hl], fun i x h => ?_, fun i j x y a h1 h2 o1 o2 h3 h4 => ?_, fun i x a h1 o1 h3 => ?_, .refl w⟩
  · obtain ⟨h1, h2⟩ := key i x h
    obtain ⟨v, q1, q2⟩ := r.start i x h1
    refine ⟨v, ?_, q2⟩
    unfold L2.start
    rw [List.getElem?_append_left (by simp; omega), List.getElem?_map, q1]; rfl
  · rw [nown i x (key i x h1).1] at o1; cases o1
  · rw [nown i x (key i x h1).1] at o1; cases o1
/-- what is wanted behind a def's body -/
def endM (Q : Dv → Prop) (Ex : Exn → Prop) : Me := { nx := fun _ => Q (.d .none), rt := Q, ex := Ex }
/-- THE RULE of a def: its body's reading and meaning -/
theorem ok_of {P : Program} {w : World} {K : PySem.W.Frag} {mg : Mg} {base : Heap} {x qual : Str} {st : Stmt} {f : Addr} {fd : FuncData} {N ps : List Str} {k : Nat} {F : List Dv → M Dv} {ms : MS} (Fu : Fun K x qual st f fd) (S : FnScope N ps (defScope st))
    (hb : ∀ (cdv : Value) (A : Around) (outer : List PySem.Env) (s : Shared) (H : Hp) (E : XK), Room k (A.deeper (envOfC qual (defScope st) s.heap.objs.size f cdv)) →
      ∃ ts, PSs (cxOf (L2N.CX P w) P w K mg.f base N qual (defScope st) f cdv A outer s H E) (defBody st) ts ∧ SS K mg E ts ms)
    (hF : ∀ xs Q Ex, xs.length = ps.length → F xs Q Ex → ms (endM Q Ex) (startE N.length xs)) : FnOk P w K mg.f base (L2N.CX P w) (k + 1) f fd ps (spF K mg ps.length F) := by
  refine okN Fu S (fun vs H Q E h => ?_) (fun cdv A outer s H vs Q E hr h => ?_)
  · obtain ⟨w', xs, _, _, _, r, hl, _⟩ := h
    rw [r.length, hl]
  · obtain ⟨w', xs, Qd, Ex, rfl, r, hl, no, hf, hq, he⟩ := h
    obtain ⟨ts, h1, h2⟩ := hb cdv A outer s w'.H E hr
    refine ⟨ts, h1, h2 w' w' _ _ _ _ (St.start r no) (hF xs Qd Ex hl hf) ⟨fun w2 ρ σ _ s2 q => hq .non (.d .none) w2 s2.gr (by simp [RS, Rp]) rfl q, fun w2 v x g r2 o q => hq v x w2 g r2 o q, fun _ _ _ _ _ z => z.elim, fun _ _ _ _ _ z => z.elim, fun x u o w2 g q r => he x u o w2 g q r⟩⟩
theorem df_of {P : Program} {w : World} {K : PySem.W.Frag} {mg : Mg} {base : Heap} {x : Str} {st : Stmt} {N ps : List Str} {k : Nat} {F : List Dv → M Dv} {ms : MS} (T : FunAt K mg x st) (S : FnScope N ps (defScope st))
    (hbind : ∀ (kV doc pm : Value) (an : Option Addr) (cdv ct : Value) (us : List Value), us.length = ps.length → bindArgs (PySem.W.fnOf x x (defArgs st) (defBody st) (defScope st) .none kV doc pm an cdv ct) ⟨us, []⟩ = pure (ps.zip us))
    (hb : ∀ (f : Addr) (cdv : Value) (A : Around) (outer : List PySem.Env) (s : Shared) (H : Hp) (E : XK), Room k (A.deeper (envOfC x (defScope st) s.heap.objs.size f cdv)) →
      ∃ ts, PSs (cxOf (L2N.CX P w) P w K mg.f base N x (defScope st) f cdv A outer s H E) (defBody st) ts ∧ SS K mg E ts ms)
    (hF : ∀ xs Q Ex, xs.length = ps.length → F xs Q Ex → ms (endM Q Ex) (startE N.length xs)) : Df P w K mg base x (k + 1) ps F := by
  obtain ⟨f, fd, Fu, hm⟩ := T
  exact ⟨f, fd, ok_of Fu S (hb f) hF, hm, Fu.kp, Fu.binds hbind⟩
theorem Df.mono {P : Program} {w : World} {K : PySem.W.Frag} {mg : Mg} {base : Heap} {x : Str} {j k : Nat} {ps : List Str} {F : List Dv → M Dv} (D : Df P w K mg base x j ps F) (h : j ≤ k) : Df P w K mg base x k ps F := by
  obtain ⟨f, fd, h1, h2⟩ := D
  exact ⟨f, fd, h1.mono h, h2⟩
/-- another meaning that asks more -/
theorem Df.imp {P : Program} {w : World} {K : PySem.W.Frag} {mg : Mg} {base : Heap} {x : Str} {k : Nat} {ps : List Str} {F F' : List Dv → M Dv} (D : Df P w K mg base x k ps F) (h : ∀ xs Q Ex, xs.length = ps.length → F' xs Q Ex → F xs Q Ex) : Df P w K mg base x k ps F' := by
  obtain ⟨f, fd, h1, h2⟩ := D
  refine ⟨f, fd, h1.imp fun vs H Q E ⟨w, xs, Qd, Ex, e, r, hl, no, hf, q⟩ => ⟨w, xs, Qd, Ex, e, r, hl, no, h _ _ _ hl hf, q⟩, h2⟩
/-! ### raising an own exception without fields -/
def ExcAt (K : PySem.W.Frag) (mg : Mg) (nm : Str) : Prop := ∃ C, mg.f nm = some (.ref C) ∧ PySem.W.excIn K C [.type "ValueError", .type "Exception", .type "BaseException", .type "object"] "ValueError.__new__" = true ∧
  PySem.W.keepIn K (.ref C) = true ∧ PySem.W.subIn K (.ref C) (.type "BaseException") = some true ∧ PySem.W.typeIn K (.ref C) = some (.type "type")
def tRaiseD (mg : Mg) (nm : Str) (E : XK) : TS := fun _ _ H => ∃ u, mg.f nm = some u ∧ E u none H
theorem ps_imp {X : Cx} {st : Stmt} {t t' : TS} (h : PS X st t) (hi : ∀ D σ H, t' D σ H → t D σ H) : PS X st t' := ⟨fun pins s σ H D I q => h.run pins s σ H D I (hi D σ H q)⟩
theorem ps_raiseD {X : Cx} {mg : Mg} {E : XK} {nm m : Str} {j : Nat} {p p2 pos pos2 : Pos} (T : ExcAt X.K mg nm) (hc : X.calm = true) (tk : L2N.Takes X (fun cls d _ H => E cls d H)) (hg : Gl X nm) (hmg : mg.f = X.mg := by rfl) (hdb : (nm == ("__debug__" : Str)) = false := by decide) :
    PS X (.Raise (some (.Call (.Name nm p) [.Constant (.str m) j p2] [] pos)) none pos2) (tRaiseD mg nm E) := by
  obtain ⟨C, h1, h2, h3, h4, h5⟩ := T
  have h1' := h1
  rw [hmg] at h1'
  refine ps_imp (L2N.ps_raise hc tk (L2N.pmk_own PySem.F.excBase_ValueError h2 h1' h3 (raises_own h4 h5) hg hdb)) fun D σ H ⟨u, e, q⟩ => ?_
  rw [h1] at e
  injection e with e; subst e
  exact q
def mRaise (x : Exn) : MS := fun B _ => B.ex x
theorem ss_raise {K : PySem.W.Frag} {mg : Mg} {E : XK} {nm : Str} (T : ExcAt K mg nm) : SS K mg E (tRaiseD mg nm E) (mRaise ⟨nm, none⟩) := fun en w ρ σ D B s h l => by
  obtain ⟨C, h1, _⟩ := T
  exact ⟨_, h1, l.ex _ _ none w s.gr h ⟨h1, fun _ => rfl⟩⟩
/-! ### names of the module -/
def mGlob (p : Dt) : Env → M Dv := mC p
/-! ### isinstance with a builtin class -/
def tyD : Dv → Option String
  | .d .none => some "NoneType"
  | .d (.bool _) => some "bool"
  | .d (.int _) => some "int"
  | .d (.str _) => some "str"
  | .d (.list _) => some "list"
  | .d (.tuple _) => some "tuple"
  | .own _ => some "list"
  | _ => none
theorem tyD_rs {K : PySem.W.Frag} {w : Wd T} {v : V} : ∀ {x : Dv} {t : String}, RS K w v x → tyD x = some t → TyX K w.H v (.type t)
  | .d .none, t, r, h => by simp only [tyD, Option.some.injEq] at h; subst h; simp only [RS, Rp] at r; subst r; exact .base .non
  | .d (.bool b), t, r, h => by simp only [tyD, Option.some.injEq] at h; subst h; simp only [RS, Rp] at r; subst r; exact .base (.bl b)
  | .d (.int b), t, r, h => by simp only [tyD, Option.some.injEq] at h; subst h; simp only [RS, Rp] at r; subst r; exact .base (.int b)
  | .d (.str b), t, r, h => by simp only [tyD, Option.some.injEq] at h; subst h; simp only [RS, Rp] at r; subst r; exact .base (.str b)
  | .d (.list ds), t, r, h => by
    simp only [tyD, Option.some.injEq] at h; subst h
    simp only [RS, Rp] at r
    obtain ⟨a, vs, rfl, h1, _⟩ := r
    exact .base (.lst (w.gh _ _ h1))
  | .d (.tuple ds), t, r, h => by
    simp only [tyD, Option.some.injEq] at h; subst h
    simp only [RS, Rp] at r
    obtain ⟨a, vs, rfl, h1, _⟩ := r
    exact .base (.tup (w.gh _ _ h1))
  | .own ds, t, r, h => by
    simp only [tyD, Option.some.injEq] at h; subst h
    obtain ⟨a, vs, rfl, _, _, h1, _⟩ := r
    exact .base (.lst h1)
  | .d (.dict _), _, _, h => by simp [tyD] at h
  | .coil, _, _, h => by simp [tyD] at h
  | .dic _, _, _, h => by simp [tyD] at h
  | .odic _, _, _, h => by simp [tyD] at h
  | .scr _, _, _, h => by simp [tyD] at h
  | .fn _, _, _, h => by simp [tyD] at h
  | .ty _, _, _, h => by simp [tyD] at h
/-- isinstance of a builtin class, by names -/
def isiB (a b : String) : Option Bool := if a = b then some true else if a = "bool" ∧ b = "int" then some true else if (["NoneType", "bool", "int", "str", "list", "tuple"].contains a && ["int", "bool", "str", "list", "tuple"].contains b) = true then some false else none
theorem isiB_kit {a b : String} {r : Bool} (h : isiB a b = some r) (ha : ["NoneType", "bool", "int", "str", "list", "tuple"].contains a = true) (hb : ["int", "bool", "str", "list", "tuple"].contains b = true) : kitB a b = some r := by
  simp only [List.contains_cons, List.contains_nil, Bool.or_false, Bool.or_eq_true, beq_iff_eq] at ha hb
  rcases ha with rfl | rfl | rfl | rfl | rfl | rfl <;> rcases hb with rfl | rfl | rfl | rfl | rfl <;> (have hr := h; revert hr; revert r; decide +kernel)
theorem tyD_names {x : Dv} {t : String} (h : tyD x = some t) : ["NoneType", "bool", "int", "str", "list", "tuple"].contains t = true := by
  unfold tyD at h
  split at h <;> (cases h <;> decide +kernel)
def fIsI : List Dv → (Dv → Prop) → Prop
  | [x, .ty T], Q => ["int", "bool", "str", "list", "tuple"].contains T = true ∧ match tyD x with
    | some t => match isiB t T with
      | some b => Q (.d (.bool b))
      | none => False
    | none => False
  | _, _ => False
section
variable {K : PySem.W.Frag} {mg : Mg} {E : XK}
theorem sc_isi : SC K (rIsi K) fIsI := fun w xs vs Q R r h hq => by
  unfold fIsI at h
  split at h
  · rename_i x T
    obtain ⟨v, u, rfl, rv, ru⟩ := r.two
    obtain rfl : u = V.ty T := ru
    obtain ⟨hT, h⟩ := h
    split at h
    · rename_i t e1
      split at h
      · rename_i b e2
        exact ⟨v, _, .type t, .type T, b, rfl, .ty T, tyD_rs rv e1, kit_ty (isiB_kit e2 (tyD_names e1) hT), hq _ _ w (.refl w) (by simp [RS, Rp]) h⟩
      · exact h.elim
    · exact h.elim
  · exact h.elim
def mTy (T : String) : Env → M Dv := fun _ Q _ => Q (.ty T)
theorem se_ty {T : String} : SE K mg E (tC (.ty T)) (mTy T) := fun en w ρ σ Q Ex R s h hq _ => hq (.ty T) _ w (.refl w) rfl h
end
end Ks
end

section
set_option Elab.async false
set_option linter.all false
set_option maxRecDepth 100000
set_option maxHeartbeats 4000000
/-! # Rules that the layer lacks: t[::-1] of a tuple, enumerate(tuple) -/
namespace Ks
variable {T : List (PySem.Addr × PySem.Str)}
open PySem PySem.Spec PyProof.Rows L2
section
variable {prog : Program} {w : World} {A : Around} {E : Value → Shared → Prop} {s : Shared}
open HT
theorem sliceApplied_rev {sl : Addr} {n : Nat} {t : Tok} {Q : Int × Int × Nat → Shared → Prop} (hs : s.heap.IsSliceOf sl .none .none (.int (-1) t))
    (h : Q ((n : Int) - 1, -1, n) s) : wpAny (model prog w) A (Builtin.Slice.sliceApplied (.ref sl) (pure (n : Int))) Q E s := by
  obtain ⟨os, hos, hcs, hds⟩ := id hs
  unfold Builtin.Slice.sliceApplied Builtin.Slice.sliceFields
  refine wpAny_bind (wpAny_bind (wpAny_field hos hds (x := .none) rfl (wpAny_bind (wpAny_field hos hds (x := .none) rfl (wpAny_bind (wpAny_field hos hds (x := .int (-1) t) rfl (wpAny_pure ?_)))))))
  refine wpAny_bind (slicePart_int ?_)
  show wpAny _ _ (if ((-1 : Int) == 0) = true then _ else _) _ _ s
  rw [if_neg (by decide)]
  refine wpAny_bind (slicePart_ .none (wpAny_bind (slicePart_ .none (wpAny_bind (wpAny_pure ?_)))))
  show wpAny _ _ (match Builtin.Slice.sliceAdjust none none (-1) (n : Int) with | (lo, hi) => pure (lo, (-1 : Int), Builtin.Slice.slicePlaces lo hi (-1))) _ _ s
  have e1 : Builtin.Slice.sliceAdjust none none (-1) (n : Int) = ((n : Int) - 1, -1) := rfl
  rw [e1]
  show wpAny _ _ (pure ((n : Int) - 1, (-1 : Int), Builtin.Slice.slicePlaces ((n : Int) - 1) (-1) (-1))) _ _ s
  have e2 : Builtin.Slice.slicePlaces ((n : Int) - 1) (-1) (-1) = n := by
    unfold Builtin.Slice.slicePlaces
    have h1 : ¬ ((-1 : Int) > 0) := by omega
    simp only [h1, if_false]
    have h2 : -(-1 : Int) = 1 := by omega
    rw [h2, Int.ediv_one]
    split <;> omega
  rw [e2]
  exact wpAny_pure h
theorem pick_rev (xs : Array Value) : ((List.range xs.size).filterMap fun (m : Nat) => xs[(((xs.size : Nat) : Int) - 1 + (m : Int) * (-1)).toNat]?).toArray = xs.toList.reverse.toArray := by
  congr 1
  apply List.ext_getElem?
  intro i
  have e : (List.range xs.size).filterMap (fun (m : Nat) => xs[(((xs.size : Nat) : Int) - 1 + (m : Int) * (-1)).toNat]?) = (List.range xs.size).map (fun m => xs.toList.getD (xs.size - 1 - m) Value.none) := by
    have key : ∀ l : List Nat, (∀ m ∈ l, m < xs.size) → l.filterMap (fun (m : Nat) => xs[(((xs.size : Nat) : Int) - 1 + (m : Int) * (-1)).toNat]?) = l.map (fun m => xs.toList.getD (xs.size - 1 - m) Value.none) := by
      intro l
      induction l with
      | nil => intro _; rfl
      | cons m l ih =>
        intro hm
        have hm' := hm m (by simp)
        have e1 : (((xs.size : Nat) : Int) - 1 + (m : Int) * (-1)).toNat = xs.size - 1 - m := by omega
        have hlt : xs.size - 1 - m < xs.size := by omega
        have e2 : xs[(((xs.size : Nat) : Int) - 1 + (m : Int) * (-1)).toNat]? = some (xs.toList.getD (xs.size - 1 - m) Value.none) := by
          rw [e1]
          simp [hlt, List.getD]
        rw [List.filterMap_cons, e2, List.map_cons, ih (fun k hk => hm k (by simp [hk]))]
    exact key _ fun m hm => List.mem_range.mp hm
  rw [e, List.getElem?_map]
  by_cases h : i < xs.size
  · rw [List.getElem?_range h, List.getElem?_reverse (by simpa using h)]
    have hlt : xs.size - 1 - i < xs.size := by omega
    simp [hlt, List.getD]
  · rw [List.getElem?_eq_none (by simpa using h), List.getElem?_eq_none (by simpa using h)]
    rfl
theorem getItem_tuple_rev {t sl : Addr} {items : Array Value} {tk : Tok} {Q : Value → Shared → Prop} (ht : IsTup s.heap t items) (hs : s.heap.IsSliceOf sl .none .none (.int (-1) tk))
    (h : Q (.ref s.heap.objs.size) { s with heap := s.heap.push { cls := .type "tuple", data := .seq items.toList.reverse.toArray } })
    (hsz : items.size ≤ sizeLine) : wpAny (model prog w) A (getItem (.ref t) (.ref sl)) Q E s := by
  have htake : sizeOk (.seq items.toList.reverse.toArray) := by
    show items.toList.reverse.toArray.size ≤ sizeLine
    rw [List.size_toArray, List.length_reverse, Array.length_toList]
    exact hsz
  obtain ⟨os, hos, hcs, hds⟩ := id hs
  have hTs : s.TypeIs (.ref sl) "slice" := ⟨os, hos, hcs⟩
  unfold getItem
  try with_reducible refine wpAny_holding ?_
  first | refine wpAny_bind (wpAny_pure ?_) | skip
  refine wpAny_bind (wpAny_sequenceKey ht.typeIs (by decide) ?_)
  refine wpAny_bind (wpAny_callSpecial?_slot (name := Str.ofString "__getitem__") ht.typeIs PyProof.Rows.slot_tuple_getitem
    (wpAny_call_entry PyProof.Rows.slot_tuple_getitem ht.typeIs entry_tuple_getitem ?_ (args_tuple_getitem _ _)))
  show wpAny _ _ (Builtin.Tuple.tupleItemsOf (.ref t) >>= _) _ _ s
  refine wpAny_bind (tupleItemsOf_ ht ?_)
  refine wpAny_bind (wpAny_typeOf hTs ?_)
  rw [if_pos (by decide)]
  refine wpAny_bind (sliceApplied_rev (n := items.size) hs ?_)
  have hno : ¬ ((((items.size : Nat) : Int) - 1 == 0 && (-1 : Int) == 1 && items.size == items.size) = true) := by
    intro q
    rw [Bool.and_eq_true, Bool.and_eq_true] at q
    exact absurd q.1.2 (by decide)
  show wpAny _ _ (if (((items.size : Nat) : Int) - 1 == 0 && (-1 : Int) == 1 && items.size == items.size) = true then _ else _) _ _ s
  rw [if_neg hno, pick_rev]
  first
    | exact wpAny_bind (m := Builtin.Tuple.tupleExact _) (wpAny_newObj_type (wpAny_pure ⟨_, rfl, wpAny_pure h⟩) htake)
    | exact wpAny_bind (m := Builtin.Tuple.tupleExact _) (wpAny_newObj_type (wpAny_bind (wpAny_pure (wpAny_pure ⟨_, rfl, wpAny_pure h⟩))) htake)
    | exact wpAny_bind (wpAny_bind (m := Builtin.Tuple.tupleExact _) (wpAny_newObj_type (wpAny_pure (wpAny_pure ⟨_, rfl, wpAny_pure h⟩)) htake))
    | exact wpAny_bind (wpAny_bind (m := Builtin.Tuple.tupleExact _) (wpAny_newObj_type (wpAny_pure ⟨_, rfl, wpAny_pure h⟩) htake))
end
/-! ### t[::-1], a tuple -/
def tRevT (K : PySem.W.Frag) (te : TE) : TE := fun σ H Q => te σ H fun x H1 => ∃ a xs, x = .ref a ∧ SqT K H1 a xs ∧ ∀ p, H1 p = none → Q (.ref p) (upd H1 p (.tup xs.reverse))
theorem pe_revT {X : Cx} {e : Expr} {te : TE} {k : Nat} {p1 p2 p3 pos : Pos} (he : PE X e te) : PE X (.Subscript e (.Slice none none (some (.UnaryOp .USub (.Constant (.int 1) k p1) p2)) p3) pos) (tRevT X.K te) := by
  refine ⟨fun pins s σ H Q I h => ?_⟩
  refine Subscript_ (thn (he.run pins s σ H _ I h) fun v s1 ⟨x, H1, I1, r1, q1⟩ => ?_)
  obtain ⟨a, xs, ex, hx, q⟩ := q1
  subst ex
  cases r1
  have hst : PO X (some (.UnaryOp .USub (.Constant (.int 1) k p1) p2)) (tPart (tUn (rU fun i => .int (-i)) (tC (.int 1)))) := po_some (pe_un un_neg pe_int)
  refine wpAny_Slice (thn (po_none.run pins s1 σ H1 (fun o H2 => o = none ∧ H2 = H1) I1 ⟨rfl, rfl⟩) fun vl s2 ⟨l, H2, I2, pl, el, e2⟩ => ?_)
  subst el e2
  refine thn (po_none.run pins s2 σ H2 (fun o H3 => o = none ∧ H3 = H2) I2 ⟨rfl, rfl⟩) fun vu s3 ⟨u, H3, I3, pu, eu, e3⟩ => ?_
  subst eu e3
  refine thn (hst.run pins s3 σ H3 (fun o H4 => o = some (-1) ∧ H4 = H3) I3 ⟨1, rfl, -1, rfl, rfl, rfl⟩) fun vs s4 ⟨o, H4, I4, ps, eo, e4⟩ => ?_
  subst eo e4
  cases pl
  cases pu
  cases ps with
  | int i tk =>
  have I5 : Inv X pins σ H4 { s4 with heap := s4.heap.push { cls := .type "slice", data := .fields #[.none, .none, .int (-1) tk] } } := I4.kept (t' := s4.toks) fun b ob q => Heap.get?_push_of_some _ q
  obtain ⟨its, r, ht, hz⟩ := I5.tuple hx
  have hlen := r.length
  show wpAny (model X.prog X.w) X.A (subscriptTail e (.Slice none none (some (.UnaryOp .USub (.Constant (.int 1) k p1) p2)) p3) (.ref a) (.ref s4.heap.objs.size)) (EP X pins σ Q) X.xe { s4 with heap := s4.heap.push { cls := .type "slice", data := .fields #[.none, .none, .int (-1) tk] } }
  refine tail_any (ops := [.ref a, .ref s4.heap.objs.size]) ht.typeIs (PyProof.Rows.slot_tuple_getitem.lookup) ?_ (by with_unfolding_all rfl)
  refine getItem_tuple_rev ht (Heap.IsSliceOf.new _ .none .none (.int (-1) tk)) ?_ (by rw [List.size_toArray]; omega)
  refine ⟨.ref _, _, I5.laid (t' := s4.toks) (o := .tup xs.reverse) (fun b ob q => Heap.get?_push_of_some _ q) (Nat.le_refl _) ?_, rfl, q _ (I5.hok.fresh (Nat.le_refl _))⟩
  exact ⟨by rw [List.length_reverse]; exact hz, _, r.reverse, ⟨_, Heap.get?_push_size _ rfl, rfl, _, rfl⟩⟩
def mRevT (me : Env → M Dv) : Env → M Dv := fun ρ Q Ex => me ρ (fun x => match x with
  | .d (.tuple ds) => Q (.d (.tuple ds.reverse))
  | _ => False) Ex
theorem se_revT {K : PySem.W.Frag} {mg : Mg} {E : XK} {te : TE} {me : Env → M Dv} (he : SE K mg E te me) : SE K mg E (tRevT K te) (mRevT me) := fun en w ρ σ Q Ex R s h hq hx =>
  he en w ρ σ _ Ex _ s h (fun x v w1 g1 r1 q => by
    split at q
    · rename_i ds
      simp only [RS, Rp] at r1
      obtain ⟨a, vs, rfl, h1, h2⟩ := r1
      exact ⟨a, vs, rfl, SqT.of (w1.gh _ _ h1), fun p hp => hq _ _ _ (g1.trans (Grow.add hp tup_nt)) (new_tup hp h2.reverse) q⟩
    · exact q.elim) hx
/-! ### enumerate(a tuple) -/
def IteT (K : PySem.W.Frag) (a : Addr) : It :=
  ⟨fun i H => ∃ (xs : List V) (x : V), SqT K H a xs ∧ xs[i]? = some x, fun i H v H' => ∃ T x, v = .ref T ∧ H T = none ∧ H' = upd H T (.tup [.int (i : Nat), x]) ∧ ∀ xs, SqT K H a xs → xs[i]? = some x, fun i H => ∃ xs : List V, SqT K H a xs ∧ xs.length ≤ i⟩
theorem isTup_tuple {h : Heap} {a : Addr} {its : Array Value} (p : IsTup h a its) : h.IsTuple a its := p
theorem pyNext_enum_endT {prog : Program} {w : World} {A : Around} {E : Value → Shared → Prop} {s : Shared} {e it t : Addr} {j : Nat} {items : Array Value} {i : Int} {old : Value} {Q : Option Value → Shared → Prop} (hh : A.handled = none)
    (he : IsEnum s.heap e it i old) (hit : s.heap.IsTupleIter it t j) (ht : s.heap.IsTuple t items) (hx : items[j]? = none)
    (hQ : ∀ h', Heap.ExtBut it s.heap h' → Q none { s with heap := h' }) : wpAny (model prog w) A (pyNext (.ref e)) Q E s := by
  have hT : s.TypeIs (.ref e) "enumerate" := ⟨_, he, rfl⟩
  unfold pyNext
  refine wpAny_bind (wpAny_attempt (wpAny_callSpecial?_slot (name := Str.ofString "__next__") hT PySem.F.slot_enumerate_next
    (wpAny_call_entry PySem.F.slot_enumerate_next hT PySem.F.entry_enumerate_next ?_ (PySem.F.args_enumerate_next_1 _))))
  show wpAny _ _ (field (.ref e) 2 >>= _) _ _ _
  refine wpAny_bind (wpAny_field he rfl (x := .ref it) rfl ?_)
  refine wpAny_bind (wpAny_nextOf_tuple_end (show A.in1.handled = none from hh) hit ht hx fun h' x he' hx' => ?_)
  obtain ⟨o, ho, hc⟩ := hx'
  refine wpAny_bind (wpAny_isInstance (T := "StopIteration") (b := true) ⟨o, ho, hc⟩ PySem.isSubtype_stop ?_)
  exact wpAny_pure (hQ _ he')
theorem turn_enumT {P : Program} {w : World} {K : PySem.W.Frag} {elts : List Expr} {kk : Nat} {tpos : Pos} (a e it : Addr) :
    Turn P w K (.Tuple elts kk tpos) (IteT K a) [e, it] e (fun i h => (∃ old, IsEnum h e it ((i : Nat) : Int) old) ∧ h.IsTupleIter it a i ∧ e ≠ it ∧ a ≠ it ∧ e ≠ a) where
  mem := by simp
  obj := fun i h st b hb => by
    obtain ⟨⟨old, he⟩, ⟨o, ho, hc, hd⟩, _⟩ := st
    have e' : b = e ∨ b = it := by simpa using hb
    rcases e' with z | z
    · rw [z]; exact ⟨_, he, fun v q => nomatch q⟩
    · rw [z]; exact ⟨o, ho, fun v q => by rw [hd] at q; cases q⟩
  keep := fun i h h' st k => let ⟨⟨old, he⟩, hi, hne⟩ := st; ⟨⟨old, k e (by simp) _ he⟩, hi.at fun o q => k it (by simp) o q, hne⟩
  item := by
    intro X hP hw hK hc i pins s σ H E I hf st hg
    subst hP hw hK
    obtain ⟨⟨old, he⟩, hit, hne, hai, hea⟩ := st
    obtain ⟨xs, x, hq, hx⟩ := hg
    obtain ⟨its, rv, p, hz⟩ := I.tuple hq
    obtain ⟨u, hu, ru⟩ := rv.get hx
    have hel : e < s.heap.objs.size := Heap.lt_size he
    have hil : it < s.heap.objs.size := by obtain ⟨_, q, _⟩ := hit; exact Heap.lt_size q
    have hlt : i < its.toArray.size := by
      have := (List.getElem?_eq_some_iff.mp hu).1
      simpa using this
    refine wpAny_pyNext_enum_itemD (Draws.tuple (show X.A.in1.handled = none from I.ok.hd hc) it a hai its.toArray) he ⟨hit, isTup_tuple p⟩ hlt hne (by simp [hne, hea]) fun y h' tk hy ho st' hT hsz hk => ?_
    have hyu : y = u := by
      have h1 : its.toArray[i]? = some u := by simpa using hu
      rw [h1] at hy; exact (Option.some.inj hy).symm
    subst hyu
    refine ⟨_, rfl, wpAny_letOwnedTupleGo_enum (s := { s with heap := h', toks := tk + 1 }) ho fun h'' he' sb => ?_⟩
    have hT2 : h''.get? s.heap.objs.size = some { cls := .type "tuple", data := .seq #[.int i tk, y] } := (sb.2 _ (Nat.ne_of_gt hel)).trans hT
    have new : ObjOk X.prog X.w (upd H s.heap.objs.size (.tup [.int (i : Nat), x])) h'' s.heap.objs.size (.tup [.int (i : Nat), x]) :=
      ⟨by show 2 ≤ sizeLine; decide, [.int i tk, y], .cons ⟨_, rfl⟩ (.cons ru .nil), ⟨_, hT2, rfl, _, rfl⟩⟩
    have I1 : Inv X pins σ (upd H s.heap.objs.size (.tup [.int (i : Nat), x])) { s with heap := h'', toks := tk + 1 } :=
      I.turnedNew (ch := [e, it]) (fun b ob hb q => (sb.2 b (fun z => hb (by simp [z]))).trans (hk b ob (fun z => hb (by simp [z])) (fun z => hb (by simp [z])) q)) hf (Nat.le_refl _) new
    refine ⟨.ref s.heap.objs.size, _, I1, rfl, ⟨_, x, rfl, I.hok.fresh (Nat.le_refl _), rfl, fun ys hy => by rw [I.tuple_inj hy hq]; exact hx⟩, ⟨⟨y, ?_⟩, st'.1.at fun o q => (sb.2 it (Ne.symm hne)).trans q, hne, hai, hea⟩, fun b hb => ?_⟩
    · have e1 : ((i + 1 : Nat) : Int) = (i : Int) + 1 := by omega
      rw [e1]; exact he'
    · have hb' : b < s.heap.objs.size := by
        have e' : b = e ∨ b = it := by simpa using hb
        rcases e' with z | z
        · rw [z]; exact hel
        · rw [z]; exact hil
      rw [upd_ne (Nat.ne_of_lt hb')]
      exact (hf b hb).1
  done := by
    intro X hP hw hK hc i pins s σ H E I hf st hg
    subst hP hw hK
    obtain ⟨⟨old, he⟩, hit, hne, hai, hea⟩ := st
    obtain ⟨xs, hq, hx⟩ := hg
    obtain ⟨its, rv, p, hz⟩ := I.tuple hq
    obtain ⟨f0, f1, f2, f3, f4, f5⟩ := hf it (by simp)
    have hl := rv.length
    exact pyNext_enum_endT (I.ok.hd hc) he hit (isTup_tuple p) (by simp; omega) fun h' eb => ⟨rfl, I.turned (t' := s.toks) (fun b o hb q => eb b o hb q) f0 f1 f3 f4 f5⟩
  self := fun A i s Q E st h => let ⟨⟨_, he⟩, _⟩ := st; wpAny_pyIter_enum he h
set_option maxHeartbeats 4000000 in
theorem meets_enumerate_newB1 {v : Value} {o : Obj} {H : Heap → Prop} (B : Begins v o H) :
    Meets (Builtin.«enumerate.__new__» ⟨[.type "enumerate", v], []⟩) (fun _ R s => H s.heap ∧
      R (.ok (.ret (.ref (s.heap.push o).objs.size))) { s with heap := (s.heap.push o).push { cls := .type "enumerate", data := .fields #[.none, .bool false, .ref s.heap.objs.size, rawInt 0, .none, .none] } }) :=
  .of_wp fun prog w A R s h => by
    obtain ⟨hp, g, d, tk, os⟩ := s; obtain ⟨h1, h⟩ := h
    have hsub := sub_enumerate
    have q1 : ∀ {A' : Around} {E : Value → Shared → Prop} {Q : Value → Shared → Prop}, Q (.ref hp.objs.size) ⟨hp.push o, g, d, tk, os⟩ → wpAny (model prog w) A' (pyIter v) Q E ⟨hp, g, d, tk, os⟩ :=
      fun q => B.iter prog w _ _ ⟨hp, g, d, tk, os⟩ _ h1 q
    wp_walk using q1
    refine wpAny_stack_any fun st => wpAny_pure ?_
    split
    · rename_i c _ _ _ _ _
      cases (c == Value.type "enumerate")
      · wp_walk using q1
        exact ⟨_, rfl, h⟩
      · wp_walk using q1
        exact ⟨_, rfl, h⟩
    · wp_walk using q1
      exact ⟨_, rfl, h⟩
theorem enum_begins1 {prog : Program} {w : World} {A : Around} {E : Value → Shared → Prop} {s : Shared} {v : Value} {o : Obj} {H : Heap → Prop} {Q : Value → Shared → Prop} (B : Begins v o H) (h1 : H s.heap)
    (h : ∀ h', IsEnum h' (s.heap.objs.size + 1) s.heap.objs.size 0 .none → h'.get? s.heap.objs.size = some o → h'.objs.size = s.heap.objs.size + 2 →
      (∀ b o, s.heap.get? b = some o → h'.get? b = some o) → Q (.ref (s.heap.objs.size + 1)) { s with heap := h' }) :
    wpAny (model prog w) A (call (.type "enumerate") [v]) Q E s := by
  refine callType_new PySem.F.called_enumerate (by decide) (PySem.F.typeCall_enumerate_1 _) (PySem.F.newCall_enumerate_1 _) (fun obj => PySem.F.args_object_init_2 obj _) PySem.F.entry_enumerate_new
    (meets_enumerate_newB1 B) ⟨h1, ?_⟩
  have hz : (s.heap.push o).objs.size = s.heap.objs.size + 1 := Heap.size_push ..
  show _ ∧ _
  rw [hz]
  have he : IsEnum ((s.heap.push o).push { cls := .type "enumerate", data := .fields #[.none, .bool false, .ref s.heap.objs.size, rawInt 0, .none, .none] }) (s.heap.objs.size + 1) s.heap.objs.size 0 .none := by
    have := Heap.get?_push_size (s.heap.push o) (o := { cls := .type "enumerate", data := .fields #[.none, .bool false, .ref s.heap.objs.size, rawInt 0, .none, .none] }) rfl
    rw [hz] at this; exact this
  refine ⟨⟨_, he, rfl⟩, h _ he (Heap.get?_push_of_some _ (Heap.get?_push_size _ B.free)) (by rw [Heap.size_push, hz]) fun b o x => Heap.get?_push_of_some _ (Heap.get?_push_of_some _ x)⟩
/-- enumerate of a list or a tuple -/
def iEnumA (K : PySem.W.Frag) (ta : TA) : TI := fun σ H R => ta σ H fun vs H1 => ∃ a xs, vs = [.ref a] ∧ ((SqL K H1 a xs ∧ R (Ite K a) H1) ∨ (SqT K H1 a xs ∧ R (IteT K a) H1))
theorem pi_enumA {X : Cx} {e : Expr} {ta : TA} {p pos tpos : Pos} {elts : List Expr} {kk : Nat} (hg : Gl X "enumerate") (hm : X.mg "enumerate" = none) (ha : PA X [e] ta) (hs : starEach [e] X.env = [(false, eval e X.env)] := by rfl) :
    PI X (.Tuple elts kk tpos) (.Call (.Name "enumerate" p) [e] [] pos) (iEnumA X.K ta) := by
  refine ⟨fun pins s σ H R I h => ?_⟩
  refine Call_ (ld_blt I hg hm boot_enumerate (PyProof.Rows.callWith_type1 (thn (ha.run pos pins s σ H _ I h) fun us s1 ⟨vs, H1, I1, r1, q1⟩ => ?_) hs rfl))
  obtain ⟨a, xs, ex, q1⟩ := q1
  subst ex
  cases r1 with
  | cons r rr =>
    cases rr
    cases r
    have fresh2 : ∀ b, b ∈ [s1.heap.objs.size + 1, s1.heap.objs.size] → FpOk X pins H1 b := fun b hb => by
      have e' : b = s1.heap.objs.size + 1 ∨ b = s1.heap.objs.size := by simpa using hb
      have hle : s1.heap.objs.size ≤ b := by
        rcases e' with z | z
        · rw [z]; exact Nat.le_add_right _ _
        · rw [z]; exact Nat.le_refl _
      exact I1.fpOk hle (I1.hok.fresh hle)
    rcases q1 with ⟨hq, q⟩ | ⟨hq, q⟩
    · obtain ⟨its, rv, p', hz⟩ := I1.list hq
      refine call_enumerate_list p'.isList fun h' he hit hsz hk => wpAny_pyIter_enum he ?_
      have I2 : Inv X pins σ H1 { s1 with heap := h' } := I1.kept (t' := s1.toks) hk
      exact ⟨s1.heap.objs.size + 1, [s1.heap.objs.size + 1, s1.heap.objs.size], _, _, H1, rfl, I2, turn_enum a (s1.heap.objs.size + 1) s1.heap.objs.size, ⟨⟨.none, he⟩, hit, Nat.succ_ne_self _⟩, fresh2, q⟩
    · obtain ⟨its, rv, p', hz⟩ := I1.tuple hq
      have hlt : a < s1.heap.objs.size := by obtain ⟨o, ho, _⟩ := id p'; exact Heap.lt_size ho
      refine enum_begins1 (begins_tuple a its.toArray) (isTup_tuple p') fun h' he hit hsz hk => wpAny_pyIter_enum he ?_
      have I2 : Inv X pins σ H1 { s1 with heap := h' } := I1.kept (t' := s1.toks) hk
      exact ⟨s1.heap.objs.size + 1, [s1.heap.objs.size + 1, s1.heap.objs.size], _, _, H1, rfl, I2, turn_enumT a (s1.heap.objs.size + 1) s1.heap.objs.size, ⟨⟨.none, he⟩, ⟨_, hit, rfl, rfl⟩, Nat.succ_ne_self _, Nat.ne_of_lt hlt, Nat.ne_of_gt (Nat.lt_succ_of_lt hlt)⟩, fresh2, q⟩
def enumD : Nat → List Dt → List Dt
  | _, [] => []
  | n, d :: ds => .tuple [.int (n : Nat), d] :: enumD (n + 1) ds
theorem enumD_get : ∀ {ds : List Dt} {n i : Nat} {d : Dt}, (enumD n ds)[i]? = some d → ∃ x, ds[i]? = some x ∧ d = .tuple [.int ((n + i : Nat) : Int), x]
  | [], n, i, d, h => by simp [enumD] at h
  | x :: ds, n, 0, d, h => by simp [enumD] at h; subst h; exact ⟨x, rfl, rfl⟩
  | x :: ds, n, i + 1, d, h => by
    obtain ⟨y, h1, h2⟩ := enumD_get (ds := ds) (n := n + 1) (i := i) (by simpa [enumD] using h)
    refine ⟨y, by simpa using h1, ?_⟩
    rw [h2]
    have : n + 1 + i = n + (i + 1) := by omega
    rw [this]
theorem enumD_len : ∀ (ds : List Dt) (n : Nat), (enumD n ds).length = ds.length
  | [], n => rfl
  | d :: ds, n => by simp [enumD, enumD_len ds]
def mEnum (ma : Env → M (List Dv)) : Env → M (List Dt) := fun ρ Q Ex => ma ρ (fun xs => match xs with
  | [.d (.list ds)] => Q (enumD 0 ds)
  | [.d (.tuple ds)] => Q (enumD 0 ds)
  | _ => False) Ex
theorem si_enum {K : PySem.W.Frag} {mg : Mg} {E : XK} {k : Nat} {ta : TA} {ma : Env → M (List Dv)} (ha : SA K mg E k ta ma) : SI K mg E (iEnumA K ta) (mEnum ma) := fun en w ρ σ Q Ex R s h hq hx =>
  ha en w ρ σ _ Ex _ s h (fun xs vs w1 g1 r1 hl q => by
    split at q
    · rename_i ds
      obtain ⟨v, rfl, rv⟩ := r1.one
      simp only [RS, Rp] at rv
      obtain ⟨a, vs, rfl, h1, h2⟩ := rv
      refine ⟨a, vs, rfl, .inl ⟨SqL.of (w1.gh _ _ h1), hq _ _ w1 g1 ⟨fun w i g hi => ?_, fun w i g hi => ?_, fun w i z H' d g hd y => ?_⟩ q⟩⟩
      · rw [enumD_len] at hi
        obtain ⟨v, q1, _⟩ := h2.get (List.getElem?_eq_getElem hi)
        exact ⟨vs, v, SqL.of (w.gh _ _ (g _ _ h1)), q1⟩
      · rw [enumD_len] at hi
        exact ⟨vs, SqL.of (w.gh _ _ (g _ _ h1)), by rw [h2.length]; exact hi⟩
      · obtain ⟨x, e1, rfl⟩ := enumD_get hd
        obtain ⟨x', p1, p2⟩ := h2.get e1
        obtain ⟨T, c, rfl, hT, rfl, f1⟩ := y
        have := f1 vs (SqL.of (w.gh _ _ (g _ _ h1)))
        rw [p1] at this; injection this with this; subst this
        rw [Nat.zero_add]
        exact new_pair hT (by simp [Rp]) (Rp.mono g _ _ p2)
    · rename_i ds
      obtain ⟨v, rfl, rv⟩ := r1.one
      simp only [RS, Rp] at rv
      obtain ⟨a, vs, rfl, h1, h2⟩ := rv
      refine ⟨a, vs, rfl, .inr ⟨SqT.of (w1.gh _ _ h1), hq _ _ w1 g1 ⟨fun w i g hi => ?_, fun w i g hi => ?_, fun w i z H' d g hd y => ?_⟩ q⟩⟩
      · rw [enumD_len] at hi
        obtain ⟨v, q1, _⟩ := h2.get (List.getElem?_eq_getElem hi)
        exact ⟨vs, v, SqT.of (w.gh _ _ (g _ _ h1)), q1⟩
      · rw [enumD_len] at hi
        exact ⟨vs, SqT.of (w.gh _ _ (g _ _ h1)), by rw [h2.length]; exact hi⟩
      · obtain ⟨x, e1, rfl⟩ := enumD_get hd
        obtain ⟨x', p1, p2⟩ := h2.get e1
        obtain ⟨T, c, rfl, hT, rfl, f1⟩ := y
        have := f1 vs (SqT.of (w.gh _ _ (g _ _ h1)))
        rw [p1] at this; injection this with this; subst this
        rw [Nat.zero_add]
        exact new_pair hT (by simp [Rp]) (Rp.mono g _ _ p2)
    · exact q.elim) hx
end Ks
end

section
set_option Elab.async false
set_option linter.all false
set_option maxRecDepth 100000
set_option maxHeartbeats 4000000
/-! # Words that the printed walks use -/
namespace Ks
variable {T : List (PySem.Addr × PySem.Str)}
open PySem PySem.Spec PyProof.Rows L2
theorem boot_len_ : bootBuiltins "len" = some (.builtin "len") := by decide +kernel
theorem boot_abs_ : bootBuiltins "abs" = some (.builtin "abs") := by decide +kernel
theorem boot_all_ : bootBuiltins "all" = some (.builtin "all") := by decide +kernel
theorem boot_any_ : bootBuiltins "any" = some (.builtin "any") := by decide +kernel
theorem boot_isinstance_ : bootBuiltins "isinstance" = some (.builtin "isinstance") := by decide +kernel
theorem boot_sorted_ : bootBuiltins "sorted" = some (.builtin "sorted") := by decide +kernel
theorem boot_max_ : bootBuiltins "max" = some (.builtin "max") := by decide +kernel
theorem boot_min_ : bootBuiltins "min" = some (.builtin "min") := by decide +kernel
theorem boot_list_ : bootBuiltins "list" = some (.type "list") := by decide +kernel
theorem boot_tuple_ : bootBuiltins "tuple" = some (.type "tuple") := by decide +kernel
theorem boot_int_ : bootBuiltins "int" = some (.type "int") := by decide +kernel
theorem boot_bool_ : bootBuiltins "bool" = some (.type "bool") := by decide +kernel
theorem boot_str_ : bootBuiltins "str" = some (.type "str") := by decide +kernel
theorem boot_dict_ : bootBuiltins "dict" = some (.type "dict") := by decide +kernel
/-- an int of the module -/
theorem pe_gint {X : Cx} {x : Str} {i : Int} {pos : Pos} (hg : Gl X x) (hm : ∃ t, X.mg x = some (.int i t)) (hd : (x == ("__debug__" : Str)) = false := by decide) : PE X (.Name x pos) (tC (.int i)) := by
  obtain ⟨t, h⟩ := hm
  exact pe_glob hg h ⟨t, rfl⟩ hd
section
variable {K : PySem.W.Frag} {mg : Mg} {E : XK}
theorem ss_retN : SS K mg E tRetN (mRet (mC .none)) := fun en w ρ σ D B s h l => l.rt w .non (.d .none) s.gr (by simp [RS, Rp]) rfl h.2
/-! ### arithmetic of bools among ints (a law's own odd values) -/
def b2 (b : Bool) : Int := if b = true then 1 else 0
def numD : Dv → Option Int
  | .d (.int i) => some i
  | .d (.bool b) => some (b2 b)
  | _ => none
def rIB (g : Int → Int → Int) : R2 := fun x y H Q => (∃ i j, x = .int i ∧ y = .int j ∧ Q (.int (g i j)) H) ∨ (∃ b j, x = .bl b ∧ y = .int j ∧ Q (.int (g (b2 b) j)) H) ∨ (∃ i b, x = .int i ∧ y = .bl b ∧ Q (.int (g i (b2 b))) H)
theorem op_addIB {X : Cx} : OpR X (binaryOp .Add) (rIB (· + ·)) := by
  intro pins s σ H x y v u Q I rx ry h
  rcases h with ⟨i, j, rfl, rfl, q⟩ | ⟨b, j, rfl, rfl, q⟩ | ⟨i, b, rfl, rfl, q⟩
  · exact op_add pins s σ H _ _ v u Q I rx ry ⟨i, j, rfl, rfl, q⟩
  · cases rx
    obtain ⟨t, rfl⟩ := ry
    exact IntBool.add_bool_int ⟨.int (b2 b + j), H, I.tok _, ⟨_, rfl⟩, q⟩
  · obtain ⟨t, rfl⟩ := rx
    cases ry
    exact add_int_bool ⟨.int (i + b2 b), H, I.tok _, ⟨_, rfl⟩, q⟩
theorem op_subIB {X : Cx} : OpR X (binaryOp .Sub) (rIB (· - ·)) := by
  intro pins s σ H x y v u Q I rx ry h
  rcases h with ⟨i, j, rfl, rfl, q⟩ | ⟨b, j, rfl, rfl, q⟩ | ⟨i, b, rfl, rfl, q⟩
  · exact op_sub pins s σ H _ _ v u Q I rx ry ⟨i, j, rfl, rfl, q⟩
  · cases rx
    obtain ⟨t, rfl⟩ := ry
    exact IntBool.sub_bool_int ⟨.int (b2 b - j), H, I.tok _, ⟨_, rfl⟩, q⟩
  · obtain ⟨t, rfl⟩ := rx
    cases ry
    exact IntBool.sub_int_bool ⟨.int (i - b2 b), H, I.tok _, ⟨_, rfl⟩, q⟩
def fIB (g : Int → Int → Int) : Dv → Dv → (Dv → Prop) → Prop
  | .d (.int i), .d (.int j), Q => Q (.d (.int (g i j)))
  | .d (.bool b), .d (.int j), Q => Q (.d (.int (g (b2 b) j)))
  | .d (.int i), .d (.bool b), Q => Q (.d (.int (g i (b2 b))))
  | _, _, _ => False
theorem s2_IB {g : Int → Int → Int} : S2 K (rIB g) (fIB g) := fun w x y v u Q R rx ry h hq => by
  unfold fIB at h
  split at h
  · simp only [RS, Rp] at rx ry
    exact .inl ⟨_, _, rx, ry, hq _ _ w (.refl w) (by simp [RS, Rp]) h⟩
  · simp only [RS, Rp] at rx ry
    exact .inr (.inl ⟨_, _, rx, ry, hq _ _ w (.refl w) (by simp [RS, Rp]) h⟩)
  · simp only [RS, Rp] at rx ry
    exact .inr (.inr ⟨_, _, rx, ry, hq _ _ w (.refl w) (by simp [RS, Rp]) h⟩)
  · exact h.elim
theorem neg_bool {prog : Program} {w : World} {A : Around} {E : Value → Shared → Prop} {s : Shared} {a : Bool} {Q : Value → Shared → Prop} (h : Q (.int (-(b2 a)) s.toks) { s with toks := s.toks + 1 }) : wpAny (model prog w) A (unaryOp .USub (.bool a)) Q E s := by
  unfold unaryOp
  refine wpAny_holding ?_
  refine wpAny_bind (m := callSpecial? (.bool a) (Str.ofString "__neg__")) (wpAny_callSpecial?_slot (name := Str.ofString "__neg__") (T := "bool") (PySem.typeIs_bool s a) PySem.F.slot_bool_neg
    (wpAny_call_entry PySem.F.slot_bool_neg (PySem.typeIs_bool s a) PySem.F.entry_int_neg ?_ (PySem.F.args_int_neg_1 _)))
  cases a
  · show wpAny _ _ (do ret (← mkInt (-(0 : Int)))) _ _ s
    exact wpAny_ret_mkInt (wpAny_pure h)
  · show wpAny _ _ (do ret (← mkInt (-(1 : Int)))) _ _ s
    exact wpAny_ret_mkInt (wpAny_pure h)
def rNegB : V → Hp → VK → Prop := fun x H Q => (∃ i, x = .int i ∧ Q (.int (-i)) H) ∨ ∃ b, x = .bl b ∧ Q (.int (-(b2 b))) H
theorem un_negB {X : Cx} : UnR X (unaryOp .USub) rNegB := by
  intro pins s σ H x v Q I rx h
  rcases h with ⟨i, rfl, q⟩ | ⟨b, rfl, q⟩
  · exact un_neg pins s σ H _ v Q I rx ⟨i, rfl, q⟩
  · cases rx
    exact neg_bool ⟨.int (-(b2 b)), H, I.tok _, ⟨_, rfl⟩, q⟩
def fNegB : Dv → (Dv → Prop) → Prop
  | .d (.int i), Q => Q (.d (.int (-i)))
  | .d (.bool b), Q => Q (.d (.int (-(b2 b))))
  | _, _ => False
theorem s1_negB : S1 K rNegB fNegB := fun w x v Q R rx h hq => by
  unfold fNegB at h
  split at h
  · simp only [RS, Rp] at rx
    exact .inl ⟨_, rx, hq _ _ w (.refl w) (by simp [RS, Rp]) h⟩
  · simp only [RS, Rp] at rx
    exact .inr ⟨_, rx, hq _ _ w (.refl w) (by simp [RS, Rp]) h⟩
  · exact h.elim
def fNeg : Dv → (Dv → Prop) → Prop
  | .d (.int i), Q => Q (.d (.int (-i)))
  | _, _ => False
theorem s1_neg : S1 K (rU fun i => .int (-i)) fNeg := fun w x v Q R rx h hq => by
  unfold fNeg at h
  split at h
  · simp only [RS, Rp] at rx
    exact ⟨_, rx, hq _ _ w (.refl w) (by simp [RS, Rp]) h⟩
  · exact h.elim
/-- not of an int, a bool -/
def mNotT (ma : Env → M Dv) : Env → M Dv := fun ρ Q Ex => ma ρ (fun x => match numD x with
  | some i => Q (.d (.bool (i == 0)))
  | none => False) Ex
theorem se_notT {ta : TE} {ma : Env → M Dv} (ha : SE K mg E ta ma) : SE K mg E (tNotT K ta) (mNotT ma) := fun en w ρ σ Q Ex R s h hq he =>
  ha en w ρ σ _ Ex _ s h (fun x v w1 g1 r1 q => by
    split at q
    · rename_i i e
      unfold numD at e
      split at e
      · injection e with e; subst e
        simp only [RS, Rp] at r1; subst r1
        refine ⟨_, rfl, hq (.d (.bool _)) _ w1 g1 ?_ q⟩
        rename_i i
        have : (!(i != 0)) = (i == 0) := by simp [bne]
        rw [this]; simp [RS, Rp]
      · injection e with e; subst e
        simp only [RS, Rp] at r1; subst r1
        refine ⟨_, rfl, hq (.d (.bool _)) _ w1 g1 ?_ q⟩
        rename_i b
        cases b <;> simp [RS, Rp, b2]
      · cases e
    · exact q.elim) he
/-! ### products -/
def rMulA (K : PySem.W.Frag) : R2 := fun x y H Q => ((rI CMul (fun i j => .int (i * j)) x y H Q ∨ rI CMulW (fun i j => .int (i * j)) x y H Q) ∨ rRep x y H Q) ∨ rRepT K x y H Q
theorem op_mulA {X : Cx} : OpR X (binaryOp .Mult) (rMulA X.K) := ((op_mul.or op_mulW).or op_rep).or op_repT
def fMulA : Dv → Dv → (Dv → Prop) → Prop
  | .d (.int i), .d (.int j), Q => (CMul i j ∨ CMulW i j) ∧ Q (.d (.int (i * j)))
  | .d (.tuple xs), .d (.int k), Q => xs ≠ [] ∧ 2 ≤ k ∧ k ≤ 1000 ∧ xs.length ≤ 1000 ∧ Q (.d (.tuple (List.replicate k.toNat xs).flatten))
  | x, .d (.int k), Q => match x.ls? with
    | some xs => -(2 ^ 63) ≤ k ∧ k < 2 ^ 63 ∧ xs.length * k.toNat ≤ sizeLine ∧ Q (.d (.list (List.replicate k.toNat xs).flatten))
    | none => False
  | _, _, _ => False
theorem RpA.rep {G : Hp} {ds : List Dt} {vs : List V} (h : RpA G ds vs) : ∀ k : Nat, RpA G (List.replicate k ds).flatten (List.replicate k vs).flatten
  | 0 => .nil
  | k + 1 => by
    rw [List.replicate_succ, List.replicate_succ, List.flatten_cons, List.flatten_cons]
    exact h.append (RpA.rep h k)
theorem s2_mulA : S2 K (rMulA K) fMulA := fun w x y v u Q R rx ry h hq => by
  unfold fMulA at h
  split at h
  · simp only [RS, Rp] at rx ry
    rcases h.1 with c | c
    · exact .inl (.inl (.inl ⟨_, _, rx, ry, c, hq _ _ w (.refl w) (by simp [RS, Rp]) h.2⟩))
    · exact .inl (.inl (.inr ⟨_, _, rx, ry, c, hq _ _ w (.refl w) (by simp [RS, Rp]) h.2⟩))
  · rename_i xs k
    simp only [RS, Rp] at rx ry
    subst ry
    obtain ⟨a, vs, rfl, h1, h2⟩ := rx
    obtain ⟨c1, c2, c3, c4, c5⟩ := h
    exact .inr ⟨a, k, vs, rfl, rfl, SqT.of (w.gh _ _ h1), fun e => c1 (h2.nil_iff.mp e), c2, c3, by rw [h2.length]; exact c4, fun p hp => hq _ _ _ (Grow.add hp tup_nt) (new_tup hp (h2.rep _)) c5⟩
  · rename_i k _ _
    simp only [RS, Rp] at ry
    subst ry
    split at h
    · rename_i xs e
      obtain ⟨a, vs, rfl, h1, h2⟩ := ls_rs rx e
      obtain ⟨c1, c2, c3, c4⟩ := h
      exact .inl (.inr ⟨a, k, vs, rfl, rfl, h1, c1, c2, by rw [h2.length]; exact c3, fun p hp => hq _ _ _ (Grow.add hp lst_nt) (new_lst hp (h2.rep _)) c4⟩)
    · exact h.elim
  · exact h.elim
/-! ### x += e -/
def fAddI : Dv → Dv → (Dv → Prop) → Prop := opI0 fun i j => .int (i + j)
theorem s2_ipadd : S2 K (ipI fun i j => i + j) fAddI := fun w x y v u Q R rx ry h hq => by
  unfold fAddI opI0 at h
  split at h
  · simp only [RS, Rp] at rx ry
    exact ⟨_, _, rx, ry, hq _ _ w (.refl w) (by simp [RS, Rp]) h⟩
  · exact h.elim
theorem s2_ipsub : S2 K (ipI fun i j => i - j) fSub := fun w x y v u Q R rx ry h hq => by
  unfold fSub opI0 at h
  split at h
  · simp only [RS, Rp] at rx ry
    exact ⟨_, _, rx, ry, hq _ _ w (.refl w) (by simp [RS, Rp]) h⟩
  · exact h.elim
/-! ### str(x) of an int, a bool, a text -/
def rStrA : List V → Hp → VK → Prop := fun xs H Q => (∃ i, xs = [.int i] ∧ i.natAbs.log2 < 1920 ∧ Q (.str (toString i)) H) ∨ (∃ b, xs = [.bl b] ∧ Q (.str (if b then "True" else "False")) H)
theorem call_strA {X : Cx} : CallR X (.type "str") rStrA := by
  intro pins s σ H xs us Q I r h
  rcases h with ⟨i, rfl, c, q⟩ | ⟨b, rfl, q⟩
  · exact call_str_int pins s σ H _ us Q I r ⟨i, rfl, c, q⟩
  · obtain ⟨u, rfl, ru⟩ := vals1 r
    cases ru
    exact P.str_of_bool ⟨.str _, H, I.tok _, ⟨_, rfl⟩, q⟩
def fStrA : List Dv → (Dv → Prop) → Prop
  | [.d (.int i)], Q => i.natAbs.log2 < 1920 ∧ Q (.d (.str (toString i)))
  | [.d (.bool b)], Q => Q (.d (.str (if b then "True" else "False")))
  | _, _ => False
theorem sc_strA : SC K rStrA fStrA := fun w xs vs Q R r h hq => by
  unfold fStrA at h
  split at h
  · obtain ⟨v, rfl, rv⟩ := r.one
    simp only [RS, Rp] at rv; subst rv
    exact .inl ⟨_, rfl, h.1, hq _ _ w (.refl w) (by simp [RS, Rp]) h.2⟩
  · obtain ⟨v, rfl, rv⟩ := r.one
    simp only [RS, Rp] at rv; subst rv
    exact .inr ⟨_, rfl, hq _ _ w (.refl w) (by simp [RS, Rp]) h⟩
  · exact h.elim
end
/-- a def that is never called -/
theorem df_no {P : Program} {w : World} {K : PySem.W.Frag} {mg : Mg} {base : Heap} {x : Str} {st : Stmt} {N ps : List Str} {k : Nat} (T : FunAt K mg x st) (S : FnScope N ps (defScope st))
    (hbind : ∀ (kV doc pm : Value) (an : Option Addr) (cdv ct : Value) (us : List Value), us.length = ps.length → bindArgs (PySem.W.fnOf x x (defArgs st) (defBody st) (defScope st) .none kV doc pm an cdv ct) ⟨us, []⟩ = pure (ps.zip us)) : Df P w K mg base x k ps (fun _ _ _ => False) := by
  obtain ⟨f, fd, Fu, hm⟩ := T
  exact ⟨f, fd, ⟨fun vs H Q E h => by obtain ⟨_, _, _, _, _, _, _, _, z, _⟩ := h; exact z.elim, fun _ _ _ _ _ _ _ _ _ _ _ _ _ h => by obtain ⟨_, _, _, _, _, _, _, _, z, _⟩ := h; exact z.elim⟩, hm, Fu.kp, Fu.binds hbind⟩
end Ks
end

section
set_option Elab.async false
set_option linter.all false
set_option maxRecDepth 100000
set_option maxHeartbeats 4000000
/-! # Drawing coils -/
namespace Ks
variable {T : List (PySem.Addr × PySem.Str)}
open PySem PySem.Spec PyProof.Rows L2
/-- the coil at c turns -/
theorem coil_turn {w : Wd T} {c : Addr} {a b : Int} (hc : w.C c) (h0 : 0 ≤ a) (h1 : 0 ≤ b) (h2 : b ≤ 2147483587) : ∃ w' : Wd T, Grow w w' ∧ w'.H = upd w.H c (.lst [.int a, .int b]) := by
  obtain ⟨a0, b0, e0, _⟩ := w.cat c hc
  have hg := w.gc c hc
  have hgh : Same w.G (upd w.H c (.lst [.int a, .int b])) := fun x u e => by
    have nx : x ≠ c := fun z => by rw [z, hg] at e; cases e
    exact (upd_ne nx).trans (w.gh x u e)
  have hct : ∀ d, w.C d → CoilAt (upd w.H c (.lst [.int a, .int b])) d := fun d hd => by
    by_cases e : d = c
    · subst e; exact ⟨a, b, upd_same, h0, h1, h2⟩
    · obtain ⟨m, n, e1, e2⟩ := w.cat d hd
      exact ⟨m, n, (upd_ne e).trans e1, e2⟩
  refine ⟨⟨w.C, w.G, upd w.H c (.lst [.int a, .int b]), hgh, w.gc, w.gt, hct, tabs_upd w.tabs e0 lst_nt lst_nc⟩, ⟨Same.refl _, fun x u h h' => (by
    have h'' : w.G x = some u := h'
    rw [h] at h''; cases h''), fun x u h nc nt => ?_, fun x h => ?_, fun _ h => h, fun _ h n => absurd h n⟩, rfl⟩
  · have nx : x ≠ c := fun e => nc (e ▸ hc)
    exact (upd_ne nx).trans h
  · have nx : x ≠ c := fun e => by
      rw [e] at h
      exact h.no (o := .lst [.int a, .int b]) upd_same lst_nt
    exact fun o' h' => h o' ((upd_ne nx).trans h')
section
variable {K : PySem.W.Frag} {mg : Mg} {E : XK} {te : TE} {me : Env → M Dv}
/-- coil[k] = e, the coil in slot i -/
def mCoil (i : Nat) (k : Int) (me : Env → M Dv) : MS := fun B ρ => match ρ[i]? with
  | some (some .coil) => me ρ (fun x => match x with
    | .d (.int v) => 0 ≤ v ∧ (k = 0 ∨ (k = 1 ∧ v ≤ 2147483587)) ∧ B.nx ρ
    | _ => False) B.ex
  | _ => False
theorem ss_coil (i : Nat) (k : Int) (he : SE K mg E te me) : SS K mg E (tAsg te (gSub (tVar i) (tC (.int k)) rSetL)) (mCoil i k me) := fun en w ρ σ D B s h l => by
  unfold mCoil at h
  split at h
  · rename_i eo
    obtain ⟨v0, h1, c, rfl, hc⟩ := s.rs i _ eo
    refine he en w ρ σ _ _ _ s h (fun x v w1 g1 r1 q => ?_) (fun x u o w1 g q r => l.ex x u o w1 (s.gr.trans g) q r)
    split at q
    · rename_i n
      simp only [RS, Rp] at r1; subst r1
      obtain ⟨q1, q2, q3⟩ := q
      have hc1 := g1.cc c hc
      obtain ⟨a0, b0, e0, p1, p2, p3⟩ := w1.cat c hc1
      refine ⟨.ref c, h1, ?_⟩
      rcases q2 with rfl | ⟨rfl, q2⟩
      · obtain ⟨w2, g2, e2⟩ := coil_turn (a := n) (b := b0) hc1 q1 p2 p3
        refine ⟨c, [.int a0, .int b0], 0, 0, rfl, rfl, e0, rfl, ?_⟩
        have := l.nx w2 ρ σ (g1.trans g2).gg ((s.grow g1).grow g2) q3
        rw [e2] at this; exact this
      · obtain ⟨w2, g2, e2⟩ := coil_turn (a := a0) (b := n) hc1 p1 q1 q2
        refine ⟨c, [.int a0, .int b0], 1, 1, rfl, rfl, e0, rfl, ?_⟩
        have := l.nx w2 ρ σ (g1.trans g2).gg ((s.grow g1).grow g2) q3
        rw [e2] at this; exact this
    · exact q.elim
  · exact h.elim
/-- return [a, b], a new coil -/
def mRetCoil (mf : Env → M (List Dt)) : MS := fun B ρ => mf ρ (fun ds => match ds with
  | [.int a, .int b] => 0 ≤ a ∧ 0 ≤ b ∧ b ≤ 2147483587 ∧ B.rt .coil
  | _ => False) B.ex
theorem ss_retCoil {mf : Env → M (List Dt)} (hf : SF K mg E te mf) : SS K mg E (tRet te) (mRetCoil mf) := fun en w ρ σ D B s h l =>
  hf en w ρ σ _ _ _ s h (fun ds a vs w1 g1 h0 hg hc hH hr q => by
    split at q
    · rename_i m n
      have hv : vs = [.int m, .int n] := by
        have := RpA.ilst (ns := [m, n]) hr
        simpa using this
      subst hv
      have hcat : ∀ c, (w1.C c ∨ c = a) → CoilAt w1.H c := fun c e => by
        rcases e with e | rfl
        · exact w1.cat c e
        · exact ⟨m, n, hH, q.1, q.2.1, q.2.2.1⟩
      have hgc : ∀ c, (w1.C c ∨ c = a) → w1.G c = none := fun c e => by
        rcases e with e | rfl
        · exact w1.gc c e
        · exact hg
      have gr : Grow w ⟨fun c => w1.C c ∨ c = a, w1.G, w1.H, w1.gh, hgc, w1.gt, hcat, w1.tabs⟩ := ⟨g1.gg, g1.new, g1.keep, g1.dom, fun c e => .inl (g1.cc c e), fun c e n => by
        rcases e with e | rfl
        · exact g1.cn c e n
        · exact h0⟩
      exact l.rt ⟨fun c => w1.C c ∨ c = a, w1.G, w1.H, w1.gh, hgc, w1.gt, hcat, w1.tabs⟩ (.ref a) .coil (s.gr.trans gr) (show RS K ⟨fun c => w1.C c ∨ c = a, w1.G, w1.H, w1.gh, hgc, w1.gt, hcat, w1.tabs⟩ (.ref a) .coil from ⟨a, rfl, .inr rfl⟩) rfl q.2.2.2
    · exact q.elim) (fun x u o w1 g q r => l.ex x u o w1 (s.gr.trans g) q r)
end
end Ks
end

section
set_option Elab.async false
set_option linter.all false
set_option maxRecDepth 100000
set_option maxHeartbeats 4000000
/-! # What runs while an exception is handled: ends of iterators, pairs, a comprehension over zip -/
namespace Ks
open PySem PySem.Spec PyProof.Rows L2 HotX

section
variable {prog : Program} {w : World} {A : Around} {E : Value → Shared → Prop} {s : Shared}
theorem hot_keep {x1 : Addr} {h h' : Heap} (t : HotAt A x1 h) (k : ∀ o, h.get? x1 = some o → h'.get? x1 = some o) : HotAt A x1 h' := by
  obtain ⟨hh, o1, vs1, h1, d1, c1⟩ := t
  exact ⟨hh, o1, vs1, k _ h1, d1, c1⟩
theorem stop_hot {α : Type} {x1 : Addr} {Q : α → Shared → Prop} (hot : HotAt A x1 s.heap)
    (hE : ∀ h' e, (∀ b o, s.heap.get? b = some o → h'.get? b = some o) → (∃ o, h'.get? e = some o ∧ o.cls = .type "StopIteration") → E (.ref e) { s with heap := h' }) :
    wpAny (model prog w) A (newExc (.type "StopIteration") [] >>= fun e => (raiseNew e : Sem α)) Q E s := by
  refine wpAny_bind ?_
  simp only [newExc, newTuple]
  refine wpAny_bind (wpAny_newObj_type ?_ (by size_fits))
  refine wpAny_bind (m := firstArgMember _ _) (wpAny_of_eq (a := Value.none) (by first | rfl | (simp only [firstArgMember]; rfl)) ?_)
  refine wpAny_newObj_type ?_ (by size_fits)
  refine raiseNew_hot (hot_keep hot fun _ e => Heap.get?_push_of_some _ (Heap.get?_push_of_some _ e)) (Nat.ne_of_lt ?_) (Heap.get?_push_size _ rfl) rfl (by first | (simp; done) | (simp; omega) | (simp only [Array.size_append]; simp; omega)) ?_
  · obtain ⟨_, o1, _, h1, _⟩ := hot
    exact Heap.lt_size (Heap.get?_push_of_some _ h1)
  · refine hE _ _ (fun b o e => ?_) ⟨_, Heap.get?_update_self _ (Heap.get?_push_size _ rfl) rfl, rfl⟩
    rw [Heap.get?_update_other _ _ (Nat.ne_of_gt (Heap.lt_size (Heap.get?_push_of_some _ e)))]
    exact Heap.get?_push_of_some _ (Heap.get?_push_of_some _ e)
theorem listEndHot {it l x1 : Addr} {i : Nat} {items : Array Value} {Q : Value → Shared → Prop} (hot : HotAt A x1 s.heap) (hx1 : x1 ≠ it) (hit : s.heap.IsListIter it l i) (hl : s.heap.IsList l items) (hx : items[i]? = none)
    (hE : ∀ h' e, Heap.ExtBut it s.heap h' → (∃ o, h'.get? e = some o ∧ o.cls = .type "StopIteration") → E (.ref e) { s with heap := h' }) : wpAny (model prog w) A (Builtin.SmallTypes.nextOf (.ref it)) Q E s := by
  obtain ⟨o, ho, hc, hd⟩ := id hit
  obtain ⟨ol, hol, _, nl, hdl⟩ := hl
  unfold Builtin.SmallTypes.nextOf
  refine wpAny_bind (wpAny_callSpecial?_slot (name := Str.ofString "__next__") hit.typeIs slot_listiter_next
    (wpAny_call_entry slot_listiter_next hit.typeIs entry_listiter_next ?_ (args_listiter_next _)))
  show wpAny _ _ (field (.ref it) 0 >>= _) _ _ s
  refine wpAny_bind (wpAny_field ho hd (x := .ref l) rfl ?_)
  show wpAny _ _ (if (Value.ref l == Value.none) = true then _ else _) _ _ s
  rw [if_neg (show ¬ ((Value.ref l == Value.none) = true) from Bool.false_ne_true)]
  show wpAny _ _ (field (.ref it) 1 >>= _) _ _ s
  refine wpAny_bind (wpAny_field ho hd (x := .int i 0) rfl ?_)
  show wpAny _ _ (seqItems? (.ref l) >>= _) _ _ s
  refine wpAny_bind (wpAny_seqItems hol hdl ?_)
  simp only [Int.toNat_natCast, hx]
  refine wpAny_bind (wpAny_rule (wpAny_bind (wpAny_setField ho hd (by simp) ?_)))
  exact stop_hot (x1 := x1) (hot_keep hot fun _ e => (Heap.SameBut.update ..).extBut _ _ hx1 e) fun h' e k he => hE h' e (fun b o hb q => k b o ((Heap.SameBut.update ..).extBut b o hb q)) he
theorem tupEndHot {it t x1 : Addr} {i : Nat} {items : Array Value} {Q : Option Value → Shared → Prop} (hot : HotAt A x1 s.heap) (hx1 : x1 ≠ it) (hit : IsTupIter s.heap it t i) (ht : IsTup s.heap t items) (hx : items[i]? = none)
    (hQ : ∀ h', Heap.ExtBut it s.heap h' → Q none { s with heap := h' }) : wpAny (model prog w) A (pyNext (.ref it)) Q E s := by
  obtain ⟨o, ho, hc, hd⟩ := id hit
  obtain ⟨ol, hol, _, nl, hdl⟩ := ht
  unfold pyNext
  refine wpAny_bind (wpAny_attempt (wpAny_callSpecial?_slot (name := Str.ofString "__next__") hit.typeIs slot_tupleiter_next
    (wpAny_call_entry slot_tupleiter_next hit.typeIs entry_tupleiter_next ?_ (args_tupleiter_next _))))
  show wpAny _ _ (field (.ref it) 0 >>= _) _ _ s
  refine wpAny_bind (wpAny_field ho hd (x := .ref t) rfl ?_)
  show wpAny _ _ (if (Value.ref t == Value.none) = true then _ else _) _ _ s
  rw [if_neg (show ¬ ((Value.ref t == Value.none) = true) from Bool.false_ne_true)]
  show wpAny _ _ (field (.ref it) 1 >>= _) _ _ s
  refine wpAny_bind (wpAny_field ho hd (x := .int i 0) rfl ?_)
  show wpAny _ _ (seqItems? (.ref t) >>= _) _ _ s
  refine wpAny_bind (wpAny_seqItems hol hdl ?_)
  simp only [Int.toNat_natCast, hx]
  refine wpAny_bind (wpAny_rule (wpAny_bind (wpAny_setField ho hd (by simp) ?_)))
  refine stop_hot (x1 := x1) (hot_keep hot fun _ e => (Heap.SameBut.update ..).extBut _ _ hx1 e) fun h' e k he => ?_
  obtain ⟨oe, hoe, hce⟩ := he
  refine wpAny_bind (wpAny_isInstance (T := "StopIteration") (b := true) ⟨oe, hoe, hce⟩ isSubtype_stop ?_)
  exact wpAny_pure (hQ _ fun b o hb q => k b o ((Heap.SameBut.update ..).extBut b o hb q))
theorem unpackHot {t x1 : Addr} {items : Array Value} {targets : List (Bool × (Value → Sem Unit))} {Q : Unit → Shared → Prop} (hot : HotAt A x1 s.heap) (ht : IsTup s.heap t items)
    (hn : targets.length = items.size) (hstar : targets.findIdx? (·.1) = none)
    (h : ∀ h', Heap.ExtBut s.heap.objs.size s.heap h' → wpAny (model prog w) A (assignInOrder (targets.map (·.2)) items.toList) Q E { s with heap := h' }) :
    wpAny (model prog w) A (unpack (.ref t) targets) Q E s := by
  have hlt : t ≠ s.heap.objs.size := by obtain ⟨o, ho, _⟩ := ht; exact Nat.ne_of_lt (Heap.lt_size ho)
  have hx1 : x1 ≠ s.heap.objs.size := by obtain ⟨_, o, _, ho, _⟩ := hot; exact Nat.ne_of_lt (Heap.lt_size ho)
  unfold unpack
  rw [hn, hstar]
  refine wpAny_bind (wpAny_holding ?_)
  unfold unpackItems
  refine wpAny_bind ?_
  unfold notIterableAtAll
  refine wpAny_bind (wpAny_specialOf ht.typeIs slot_tuple_iter.lookup ?_)
  refine wpAny_pure ?_
  simp only [Bool.false_eq_true, if_false]
  refine wpAny_bind (wpAny_holding (iter_tuple ht ?_))
  refine wpAny_bind (wpAny_holding (draw_tuple hlt items.size 0 _ _ ⟨_, Heap.get?_push_size _ rfl, rfl, rfl⟩ (ht.push _) (by omega) fun h₁ hit₁ hs₁ => ?_))
  have hall : List.take items.size (List.drop 0 items.toList) = items.toList := by
    rw [List.drop_zero]; exact List.take_of_length_le (by simp)
  rw [hall, if_neg (by simp)]
  refine wpAny_bind (wpAny_holding (tupEndHot (x1 := x1) (hot_keep hot fun _ e => hs₁.extBut _ _ hx1 (Heap.get?_push_of_some _ e)) hx1 hit₁ ((ht.push _).extBut hs₁.extBut hlt) (by simp) fun h₂ he₂ => ?_))
  simp only [Option.isSome_none, Bool.false_eq_true, if_false]
  exact wpAny_pure (h h₂ fun b o hb e => he₂ b o hb (hs₁.extBut b o hb (Heap.get?_push_of_some _ e)))
theorem zipEndHot {z TI TO i1 i2 l1 l2 x1 : Addr} {k1 k2 : Nat} {xs ys : Array Value} {a b : Value} {Q : Option Value → Shared → Prop} (hot : HotAt A x1 s.heap) (n1 : x1 ≠ z) (n2 : x1 ≠ TO) (n3 : x1 ≠ i1) (n4 : x1 ≠ i2) (D : ZipApart z TI TO i1 i2 l1 l2)
    (hz : IsZip s.heap z TI TO .none) (hTI : IsPair s.heap TI (.ref i1) (.ref i2)) (hTO : IsPair s.heap TO a b)
    (h1 : s.heap.IsListIter i1 l1 k1) (h2 : s.heap.IsListIter i2 l2 k2) (hl1 : s.heap.IsList l1 xs) (hl2 : s.heap.IsList l2 ys) (hend : xs[k1]? = none ∨ ys[k2]? = none)
    (hQ : ∀ h', (∀ c o, c ≠ z → c ≠ TO → c ≠ i1 → c ≠ i2 → s.heap.get? c = some o → h'.get? c = some o) → Q none { s with heap := h' }) : wpAny (model prog w) A (pyNext (.ref z)) Q E s := by
  have hT : s.TypeIs (.ref z) "zip" := ⟨_, hz, rfl⟩
  unfold pyNext
  refine wpAny_bind (wpAny_attempt (wpAny_callSpecial?_slot (name := Str.ofString "__next__") hT F.slot_zip_next
    (wpAny_call_entry F.slot_zip_next hT F.entry_zip_next ?_ (F.args_zip_next_1 _))))
  have fin : ∀ (h' : Heap) (e : Addr), (∃ o, h'.get? e = some o ∧ o.cls = .type "StopIteration") → (∀ c o, c ≠ z → c ≠ TO → c ≠ i1 → c ≠ i2 → s.heap.get? c = some o → h'.get? c = some o) →
      wpAny (model prog w) A (isInstance (.ref e) (.type "StopIteration") >>= fun b => if b = true then pure none else throw (.ref e)) Q E { s with heap := h' } := fun h' e he hk => by
    obtain ⟨o, ho, hc⟩ := he
    refine wpAny_bind (wpAny_isInstance (T := "StopIteration") (b := true) ⟨o, ho, hc⟩ isSubtype_stop ?_)
    exact wpAny_pure (hQ _ hk)
  show wpAny _ _ (field (.ref z) 2 >>= _) _ _ _
  refine wpAny_bind (wpAny_field hz rfl (x := .bool false) rfl ?_)
  show wpAny _ _ (field (.ref z) 3 >>= _) _ _ _
  refine wpAny_bind (wpAny_field hz rfl (x := .ref TI) rfl ?_)
  refine wpAny_bind (wpAny_seqItems hTI rfl ?_)
  show wpAny _ _ (Builtin.SmallTypes.ownedTupleIsFree (.ref z) >>= _) _ _ _
  refine wpAny_bind ?_
  unfold Builtin.SmallTypes.ownedTupleIsFree
  refine wpAny_bind (wpAny_field hz rfl (x := .none) rfl (wpAny_pure ?_))
  simp only [if_true]
  refine wpAny_bind (wpAny_rule ?_)
  refine wpAny_bind (wpAny_field hz rfl (x := .ref TO) rfl ?_)
  refine wpAny_bind (wpAny_setField_rec hz (by simp) fun h₁ hz₁ hs₁ => ?_)
  replace hz₁ : IsZip h₁ z TI TO .ellipsis := hz₁
  have hot1 : HotAt A x1 h₁ := hot_keep hot fun _ e => hs₁.extBut _ _ n1 e
  refine wpAny_bind ?_
  simp only [List.zipIdx_cons, List.zipIdx_nil, List.forIn_cons, List.forIn_nil]
  refine wpAny_bind (wpAny_bind (wpAny_onRaise ?_))
  show wpAny _ _ (Builtin.SmallTypes.nextOf (.ref i1) >>= _) _ _ _
  cases hx : xs[k1]? with
  | none =>
    refine wpAny_bind (listEndHot (x1 := x1) hot1 n3 (h1.extBut hs₁.extBut D.i1z) (hl1.extBut hs₁.extBut D.l1z) hx fun h₂ e hs₂ he => ?_)
    obtain ⟨oe, hoe, hce⟩ := he
    have hz₂ : IsZip h₂ z TI TO .ellipsis := hs₂ _ _ D.i1z.symm hz₁
    have hez : e ≠ z := fun x => by subst x; rw [hz₂] at hoe; cases hoe; simp at hce
    refine wpAny_setField_rec hz₂ (by simp) fun h₃ _ hs₃ => fin h₃ e ⟨oe, hs₃.extBut _ _ hez hoe, hce⟩ (fun c o c1 _ c3 _ x => hs₃.extBut _ _ c1 (hs₂ _ _ c3 (hs₁.extBut _ _ c1 x)))
  | some x =>
    have hy : ys[k2]? = none := by rcases hend with h | h; rw [hx] at h; cases h; exact h
    refine wpAny_bind (wpAny_nextOf_list_item (h1.extBut hs₁.extBut D.i1z) (hl1.extBut hs₁.extBut D.l1z) hx fun h₂ h1₂ hs₂ => wpAny_pure ?_)
    have hTO₂ : IsPair h₂ TO a b := hs₂.extBut _ _ D.TOi1 (hs₁.extBut _ _ D.TOz hTO)
    refine wpAny_bind (wpAny_seqItems hTO₂ rfl ?_)
    refine wpAny_bind (wpAny_updateSeq_pair hTO₂ fun h₃ hTO₃ hs₃ => ?_)
    refine wpAny_bind (wpAny_letGo (wpAny_pure ?_))
    refine wpAny_bind (wpAny_bind (wpAny_onRaise ?_))
    show wpAny _ _ (Builtin.SmallTypes.nextOf (.ref i2) >>= _) _ _ _
    refine wpAny_bind (listEndHot (x1 := x1) (hot_keep hot1 fun _ e => hs₃.extBut _ _ n2 (hs₂.extBut _ _ n3 e)) n4 (((h2.extBut hs₁.extBut D.i2z).extBut hs₂.extBut D.i12.symm).extBut hs₃.extBut D.TOi2.symm)
      (((hl2.extBut hs₁.extBut D.l2z).extBut hs₂.extBut D.l2i1).extBut hs₃.extBut D.l2TO) hy fun h₄ e hs₄ he => ?_)
    obtain ⟨oe, hoe, hce⟩ := he
    have hz₄ : IsZip h₄ z TI TO .ellipsis := hs₄ _ _ D.i2z.symm (hs₃.extBut _ _ D.TOz.symm (hs₂.extBut _ _ D.i1z.symm hz₁))
    have hez : e ≠ z := fun x => by subst x; rw [hz₄] at hoe; cases hoe; simp at hce
    refine wpAny_setField_rec hz₄ (by simp) fun h₅ _ hs₅ => fin h₅ e ⟨oe, hs₅.extBut _ _ hez hoe, hce⟩ (fun c o c1 c2 c3 c4 x => hs₅.extBut _ _ c1 (hs₄ _ _ c4 (hs₃.extBut _ _ c2 (hs₂.extBut _ _ c3 (hs₁.extBut _ _ c1 x)))))
end
/-- an exception is handled, its object stands out of this context's reach -/
def HotS (X : Cx) : Prop := ∃ x1, HotAt X.A x1 X.s_0.heap ∧ X.H_0 x1 = none ∧ x1 ∉ X.fs ∧ x1 ∉ X.ex
theorem HotS.at {X : Cx} {pins : List (Addr × Obj)} {σ : L2.St} {H : Hp} {s : Shared} (c : HotS X) (I : Inv X pins σ H s) : ∃ x1, HotAt X.A x1 s.heap ∧ x1 ∉ X.ex := by
  obtain ⟨x1, ht, h0, n1, n2⟩ := c
  exact ⟨x1, hot_keep ht fun o e => I.base.keep x1 o e h0 n1 n2, n2⟩
theorem pg_tupB {X : Cx} {es : List Expr} {k : Nat} {t : TGs} {n : Nat} {pos : Pos} (hc : HotS X) (h : PGs X es t)
    (hn : (assignEach es X.env).length = n := by rfl) (hst : (assignEach es X.env).findIdx? (·.1) = none := by rfl) : PG X (.Tuple es k pos) (gTup X.K n t) := by
  refine ⟨fun pins s σ H v u Q I r hw => ?_⟩
  obtain ⟨a, xs, e1, hq, hl, hw⟩ := hw
  subst e1
  cases r
  obtain ⟨its, rv, ht, hz⟩ := I.tuple hq
  obtain ⟨x1, hot, _⟩ := hc.at I
  rw [assign_Tuple]
  refine wpAny_bind (wpAny_standAt (unpackHot hot ht (by simp [hn, ← hl, rv.length]) hst fun h' hx => ?_))
  have I1 : Inv X pins σ H { s with heap := h' } := I.kept (t' := s.toks) fun b o e => hx b o (Nat.ne_of_lt (Heap.lt_size e)) e
  exact h.run pins _ σ H xs _ Q I1 (by simpa using rv) hw

section
variable {X : Cx}
abbrev ZSt (a b z TI TO i1 i2 : Addr) (i : Nat) (h : Heap) : Prop := IsZip h z TI TO .none ∧ IsPair h TI (.ref i1) (.ref i2) ∧ (∃ x y, IsPair h TO x y) ∧ h.IsListIter i1 a i ∧ h.IsListIter i2 b i
theorem zstep {X : Cx} {a b z TI TO i1 i2 : Addr} {elts : List Expr} {kk : Nat} {tpos : Pos} {i : Nat} {pins : List (Addr × Obj)} {s : Shared} {σ : L2.St} {H : Hp} {E : Value → Shared → Prop} (D : ZipApart z TI TO i1 i2 a b)
    (I : Inv X pins σ H s) (hf : ∀ b ∈ [z, TI, TO, i1, i2], FpOk X pins H b) (st : ZSt a b z TI TO i1 i2 i s.heap) (hg : (Itz X.K a b).go i H) :
    wpAny (model X.prog X.w) X.A (pyNext (.ref z)) (fun r s1 => ∃ u, r = some u ∧ wpAny (model X.prog X.w) X.A (letOwnedTupleGo (.Tuple elts kk tpos) (.ref z) u) (fun _ s2 => ∃ x H', Inv X pins σ H' s2 ∧ RelV x u ∧ (Itz X.K a b).yld i H x H' ∧
      ZSt a b z TI TO i1 i2 (i + 1) s2.heap ∧ ∀ b ∈ [z, TI, TO, i1, i2], H' b = none) E s1) E s := by
  obtain ⟨hz, hTI, ⟨x0, y0, hTO⟩, h1, h2⟩ := st
  obtain ⟨xs, ys, x, y, hqx, hqy, hx, hy⟩ := hg
  obtain ⟨its, rv, p, _⟩ := I.list hqx
  obtain ⟨its2, rv2, p2, _⟩ := I.list hqy
  obtain ⟨u, hu, ru⟩ := rv.get hx
  obtain ⟨u2, hu2, ru2⟩ := rv2.get hy
  have hzl : z < s.heap.objs.size := Heap.lt_size hz
  refine wpAny_pyNext_zip_item D hz hTI hTO h1 h2 p.isList p2.isList (x := u) (y := u2) (by simpa using hu) (by simpa using hu2) fun h' z' TO' h1' h2' hT hsz hk => ?_
  refine ⟨_, rfl, wpAny_letOwnedTupleGo_zip (s := { s with heap := h' }) z' fun h'' z'' sb => ?_⟩
  have hT2 : h''.get? s.heap.objs.size = some { cls := .type "tuple", data := .seq #[u, u2] } := (sb.2 _ (Nat.ne_of_gt hzl)).trans hT
  have new : ObjOk X.prog X.w (upd H s.heap.objs.size (.tup [x, y])) h'' s.heap.objs.size (.tup [x, y]) :=
    ⟨by show 2 ≤ sizeLine; decide, [u, u2], .cons ru (.cons ru2 .nil), ⟨_, hT2, rfl, _, rfl⟩⟩
  have I1 : Inv X pins σ (upd H s.heap.objs.size (.tup [x, y])) { s with heap := h'' } :=
    I.turnedNew (t' := s.toks) (ch := [z, TI, TO, i1, i2]) (fun c o hb q => (sb.2 c (fun q' => hb (by simp [q']))).trans (hk c o (fun q' => hb (by simp [q'])) (fun q' => hb (by simp [q'])) (fun q' => hb (by simp [q'])) (fun q' => hb (by simp [q'])) q)) hf (Nat.le_refl _) new
  refine ⟨.ref s.heap.objs.size, _, I1, rfl, ⟨_, x, y, rfl, I.hok.fresh (Nat.le_refl _), rfl, fun l hl => by rw [I.list_inj hl hqx]; exact hx, fun l hl => by rw [I.list_inj hl hqy]; exact hy⟩, ⟨z'', ?_, ⟨u, u2, ?_⟩, ?_, ?_⟩, fun c hcm => ?_⟩
  · exact (sb.2 _ D.TIz).trans (hk _ _ D.TIz D.TITO D.TIi1 D.TIi2 hTI)
  · exact (sb.2 _ D.TOz).trans TO'
  · exact h1'.at fun o q => (sb.2 _ D.i1z).trans q
  · exact h2'.at fun o q => (sb.2 _ D.i2z).trans q
  · have hlt : c < s.heap.objs.size := by
      have e' : c = z ∨ c = TI ∨ c = TO ∨ c = i1 ∨ c = i2 := by simpa using hcm
      rcases e' with q | q | q | q | q
      · rw [q]; exact hzl
      · rw [q]; exact Heap.lt_size hTI
      · rw [q]; exact Heap.lt_size hTO
      · rw [q]; obtain ⟨_, e1, _⟩ := h1; exact Heap.lt_size e1
      · rw [q]; obtain ⟨_, e2, _⟩ := h2; exact Heap.lt_size e2
    rw [upd_ne (Nat.ne_of_lt hlt)]
    exact (hf c hcm).1
theorem zdone {X : Cx} {a b z TI TO i1 i2 : Addr} {i : Nat} {pins : List (Addr × Obj)} {s : Shared} {σ : L2.St} {H : Hp} {E : Value → Shared → Prop} (hc : HotS X) (hex : ∀ c ∈ [z, TI, TO, i1, i2], c ∈ X.ex) (D : ZipApart z TI TO i1 i2 a b)
    (I : Inv X pins σ H s) (hf : ∀ b ∈ [z, TI, TO, i1, i2], FpOk X pins H b) (st : ZSt a b z TI TO i1 i2 i s.heap) (hg : (Itz X.K a b).stop i H) :
    wpAny (model X.prog X.w) X.A (pyNext (.ref z)) (fun r s1 => r = none ∧ Inv X pins σ H s1) E s := by
  obtain ⟨hz, hTI, ⟨x0, y0, hTO⟩, h1, h2⟩ := st
  obtain ⟨xs, ys, hqx, hqy, hend⟩ := hg
  obtain ⟨its, rv, p, _⟩ := I.list hqx
  obtain ⟨its2, rv2, p2, _⟩ := I.list hqy
  have l1 := rv.length
  have l2 := rv2.length
  have he : its.toArray[i]? = none ∨ its2.toArray[i]? = none := by
    rcases hend with q | q
    · exact .inl (by simp; omega)
    · exact .inr (by simp; omega)
  obtain ⟨x1, hot, nx⟩ := hc.at I
  have ne : ∀ c ∈ [z, TI, TO, i1, i2], x1 ≠ c := fun c hm e => nx (e ▸ hex c hm)
  exact zipEndHot hot (ne _ (by simp)) (ne _ (by simp)) (ne _ (by simp)) (ne _ (by simp)) D hz hTI hTO h1 h2 p.isList p2.isList he fun h' hk => ⟨rfl, I.turnedL (t' := s.toks) (ch := [z, TI, TO, i1, i2]) (fun c o hb q =>
    hk c o (fun q' => hb (by simp [q'])) (fun q' => hb (by simp [q'])) (fun q' => hb (by simp [q'])) (fun q' => hb (by simp [q'])) q) hf⟩
/-- [elt for (..) in zip(e, e2) if ..] while an exception is handled -/
theorem pe_lcB {elt : Expr} {e e2 : Expr} {ta : TA} {p pos0 tpos : Pos} {elts : List Expr} {kk : Nat} {ifs : List Expr} {scope : Scope} {own : List (Str × Nat)} {pos : Pos} {g : TG} {tt : TT} {te : TE}
    (hc : L2H.HotC X) (hN : X.N.Nodup) (hgz : Gl X "zip") (hmz : X.mg "zip" = none) (ha : PA X [e, e2] ta) (ok : BlkOk X.N X.env.scope scope own)
    (hg : ∀ (s : Shared) (H : Hp) (C : Addr) (cl : List (Str × Addr)) (fp : List Addr), HotS (X.blk s H scope (compEnvC scope cl C X.env) fp) → PG (X.blk s H scope (compEnvC scope cl C X.env) fp) (.Tuple elts kk tpos) g)
    (ht : ∀ (s : Shared) (H : Hp) (C : Addr) (cl : List (Str × Addr)) (fp : List Addr), PTs (X.blk s H scope (compEnvC scope cl C X.env) fp) ifs tt)
    (he : ∀ (s : Shared) (H : Hp) (C : Addr) (cl : List (Str × Addr)) (fp : List Addr), PE (X.blk s H scope (compEnvC scope cl C X.env) fp) elt te)
    (hs : ∀ x, foldedSetIterable (.Call (.Name "zip" p) [e, e2] [] pos0) X.env x = pure x := by intro _; rfl)
    (hst : starEach [e, e2] X.env = (false, eval e X.env) :: starEach [e2] X.env := by rfl) (hpl : (backTo pos0 (starEach [e2] X.env)).any (·.1) = false := by rfl) :
    PE X (.ListComp elt [⟨.Tuple elts kk tpos, .Call (.Name "zip" p) [e, e2] [] pos0, ifs, 0⟩] scope pos) (tLc (iZip X.K ta) g tt te (own.map (·.2))) := by
  refine ⟨fun pins s σ H Q I h => ?_⟩
  rw [eval_ListComp]
  have hfree : ∀ y ∈ scope.names, y.2 = .free → ∃ c, X.env.cells.lookup y.1 = some c := fun y hy e => by
    rcases ok.free y hy e with k | k
    · exact I.ok.has _ (.inl k)
    · exact I.ok.has _ (.inr k)
  refine wpAny_comprehension_free (use := none) rfl hs (closure_ok hfree) ok.kind (fun y hy e => by rw [ok.uniq y hy, e]) ?_
  refine Call_ (ld_blt I hgz hmz PyProof.Rows.boot_zip (PyProof.Rows.callWith_type1 (thn (ha.run pos0 pins s σ H _ I h) fun us s1 ⟨vs, H2, I1, r1, q1⟩ => ?_) hst hpl))
  obtain ⟨a, b, xs, ys, ex, hqx, hqy, q⟩ := q1
  subst ex
  cases r1 with
  | cons r rr =>
  cases rr with
  | cons r' rr =>
  cases rr
  cases r
  cases r'
  obtain ⟨its, rv, p1, _⟩ := I1.list hqx
  obtain ⟨its2, rv2, p2, _⟩ := I1.list hqy
  have DD := PySem.W.ktu_apart s1.heap.objs.size a b p1.lt p2.lt
  refine call_zip_2 p1.isList p2.isList fun h2 hz hTI hTO hi1 hi2 hsz hk => wpAny_pyIter_zip hz ?_
  have st2 : ZSt a b (s1.heap.objs.size + 4) (s1.heap.objs.size + 2) (s1.heap.objs.size + 3) s1.heap.objs.size (s1.heap.objs.size + 1) 0 h2 := ⟨hz, hTI, ⟨_, _, hTO⟩, hi1, hi2⟩
  have I2 : Inv X pins σ H2 { s1 with heap := h2 } := I1.kept (t' := s1.toks) hk
  generalize hs2 : ({ s1 with heap := h2 } : Shared) = s2 at I2
  have st2 : ZSt a b (s1.heap.objs.size + 4) (s1.heap.objs.size + 2) (s1.heap.objs.size + 3) s1.heap.objs.size (s1.heap.objs.size + 1) 0 s2.heap := by rw [← hs2]; exact st2
  have f2 : ∀ c ∈ [s1.heap.objs.size + 4, s1.heap.objs.size + 2, s1.heap.objs.size + 3, s1.heap.objs.size, s1.heap.objs.size + 1], FpOk X pins H2 c := fun c hcm => by
    have e' : c = s1.heap.objs.size + 4 ∨ c = s1.heap.objs.size + 2 ∨ c = s1.heap.objs.size + 3 ∨ c = s1.heap.objs.size ∨ c = s1.heap.objs.size + 1 := by simpa using hcm
    have hle : s1.heap.objs.size ≤ c := by
      rcases e' with z | z | z | z | z <;> (rw [z]; omega)
    exact I1.fpOk hle (I1.hok.fresh hle)
  have sz2 : s2.heap.objs.size = s1.heap.objs.size + 5 := by rw [← hs2]; exact hsz
  have sz : ∀ c ∈ [s1.heap.objs.size + 4, s1.heap.objs.size + 2, s1.heap.objs.size + 3, s1.heap.objs.size, s1.heap.objs.size + 1], c < s2.heap.objs.size := fun c hcm => by
    have e' : c = s1.heap.objs.size + 4 ∨ c = s1.heap.objs.size + 2 ∨ c = s1.heap.objs.size + 3 ∨ c = s1.heap.objs.size ∨ c = s1.heap.objs.size + 1 := by simpa using hcm
    rcases e' with z | z | z | z | z <;> (rw [z]; omega)
  generalize s1.heap.objs.size + 4 = z, s1.heap.objs.size + 2 = TI, s1.heap.objs.size + 3 = TO, s1.heap.objs.size + 1 = i2 at DD st2 f2 sz ⊢
  generalize s1.heap.objs.size = i1 at DD st2 f2 sz ⊢
  refine wpAny_newObj_type (newEnv_comp ?_) (by show 0 ≤ sizeLine; decide)
  generalize hD : s2.heap.objs.size = D
  have hDn : H2 D = none := I2.hok.fresh (Nat.le_of_eq hD)
  obtain ⟨W, ⟨m0, w0⟩, turn⟩ := q D hDn
  generalize hs3 : ({ s2 with heap := s2.heap.push { cls := .type "list", data := .seq ([] : List Value).toArray } } : Shared) = s3
  have I3 : Inv X pins σ (upd H2 D (.lst [])) s3 := by
    rw [← hs3]
    refine I2.laid (t' := s2.toks) (fun b o e => Heap.get?_push_of_some _ e) (Nat.le_of_eq hD) ⟨Nat.zero_le _, [], 0, .nil, ?_⟩
    rw [← hD]
    exact Heap.get?_push_size _ rfl
  have h3 : s3.heap = s2.heap.push { cls := .type "list", data := .seq ([] : List Value).toArray } := by rw [← hs3]
  generalize hfp : [z, TI, TO, i1, i2] = fp at sz f2
  have f3 : ∀ b ∈ fp, FpOk X pins (upd H2 D (.lst [])) b ∧ b < s3.heap.objs.size := fun b hb => by
    have hlt := sz b hb
    refine ⟨⟨?_, (f2 b hb).2⟩, by rw [h3, Heap.size_push]; exact Nat.lt_succ_of_lt hlt⟩
    rw [upd_ne (by rw [← hD]; exact Nat.ne_of_lt hlt)]
    exact (f2 b hb).1
  have keepT : ∀ (i : Nat) (h h' : Heap), ZSt a b z TI TO i1 i2 i h → (∀ c ∈ fp, ∀ o, h.get? c = some o → h'.get? c = some o) → ZSt a b z TI TO i1 i2 i h' := fun i h h' st k => by
    obtain ⟨hz, hTI, ⟨x, y, hTO⟩, h1, h2⟩ := st
    subst hfp
    exact ⟨k z (by simp) _ hz, k TI (by simp) _ hTI, ⟨x, y, k TO (by simp) _ hTO⟩, h1.at fun o q => k i1 (by simp) o q, h2.at fun o q => k i2 (by simp) o q⟩
  have objT : ∀ (i : Nat) (h : Heap), ZSt a b z TI TO i1 i2 i h → ∀ c ∈ fp, ∃ o, h.get? c = some o ∧ ∀ v, o.data ≠ .cell v := fun i h st c hcm => by
    obtain ⟨hz, hTI, ⟨x, y, hTO⟩, ⟨o1, e1, _, d1⟩, ⟨o2, e2, _, d2⟩⟩ := st
    subst hfp
    have e' : c = z ∨ c = TI ∨ c = TO ∨ c = i1 ∨ c = i2 := by simpa using hcm
    rcases e' with q | q | q | q | q
    · rw [q]; exact ⟨_, hz, fun v q => nomatch q⟩
    · rw [q]; exact ⟨_, hTI, fun v q => nomatch q⟩
    · rw [q]; exact ⟨_, hTO, fun v q => nomatch q⟩
    · rw [q]; exact ⟨o1, e1, fun v q => by rw [d1] at q; cases q⟩
    · rw [q]; exact ⟨o2, e2, fun v q => by rw [d2] at q; cases q⟩
  have st3 : ZSt a b z TI TO i1 i2 0 s3.heap := keepT 0 _ _ st2 fun b _ o e => by rw [h3]; exact Heap.get?_push_of_some _ e
  have I4 := block_start I3 ok hN f3
  have hotB : HotS (X.blk s3 (upd H2 D (.lst [])) scope (compEnvC scope (cellsFrom (s3.heap.objs.size + 1) scope.names (cloFrom X.env.cells scope.names [])) s3.heap.objs.size X.env) fp) := by
    obtain ⟨pp, ⟨hh, v1, e1, c1⟩, hp⟩ := hc
    have P1 := I3.pin pp (List.mem_append_left _ hp)
    refine ⟨pp.1, ⟨hh, pp.2, v1, P1.1, e1, c1⟩, P1.2.1, fun hm => ?_, fun hm => ?_⟩
    · exact (List.mem_cons.mp (I3.stkSub pp.1 hm)).elim P1.2.2.1 P1.2.2.2.1
    · exact (f3 _ hm).1.2.2.2.2.2 pp (List.mem_append_left _ hp) rfl
  have pg := hg s3 (upd H2 D (.lst [])) s3.heap.objs.size (cellsFrom (s3.heap.objs.size + 1) scope.names (cloFrom X.env.cells scope.names [])) fp hotB
  have pt := ht s3 (upd H2 D (.lst [])) s3.heap.objs.size (cellsFrom (s3.heap.objs.size + 1) scope.names (cloFrom X.env.cells scope.names [])) fp
  have pe := he s3 (upd H2 D (.lst [])) s3.heap.objs.size (cellsFrom (s3.heap.objs.size + 1) scope.names (cloFrom X.env.cells scope.names [])) fp
  show codeAny _ _ (.compStart (.ListComp elt [⟨.Tuple elts kk tpos, .Call (.Name "zip" p) [e, e2] [] pos0, ifs, 0⟩] scope pos) 0 (.ref z) (.ref D) (compEnvC scope (cellsFrom (s3.heap.objs.size + 1) scope.names (cloFrom X.env.cells scope.names [])) s3.heap.objs.size X.env)) (compPost (model X.prog X.w) X.A X.xe none _ (.ref D) s3.heap.objs.size) { s3 with heap := pushCells (s3.heap.push { cls := .type "dict", data := .dict #[] }) scope.names }
  have nfp : ∀ b ∈ fp, (upd H2 D (.lst [])) b = none := fun b hb => (f3 b hb).1.1
  generalize hce : compEnvC scope (cellsFrom (s3.heap.objs.size + 1) scope.names (cloFrom X.env.cells scope.names [])) s3.heap.objs.size X.env = ce at I4 pg pt pe hotB ⊢
  have cL : ce.locals = s3.heap.objs.size := by subst hce; rfl
  generalize hH3 : upd H2 D (.lst []) = H3 at I3 I4 pg pt pe w0 nfp f3 hotB
  generalize hs4 : ({ s3 with heap := pushCells (s3.heap.push { cls := .type "dict", data := .dict #[] }) scope.names } : Shared) = s4 at I4 ⊢
  have st4 : ZSt a b z TI TO i1 i2 0 s4.heap := keepT 0 _ _ st3 fun b _ o e => by rw [← hs4]; exact pushCells_keeps _ _ _ _ (Heap.get?_push_of_some _ e)
  have stat : ∀ {σ' : L2.St} {H' : Hp} {s' : Shared}, Inv (X.blk s3 H3 scope ce fp) [] σ' H' s' → (∀ b ∈ fp, H' b = none) → ∀ b ∈ fp, FpOk (X.blk s3 H3 scope ce fp) [] H' b := fun {σ' H' s'} I' hn b hb =>
    ⟨hn b hb, (I'.ok.exf b hb).1, I'.ok.exfs b hb, .inl hb, fun x c e => (I'.ok.exf b hb).2 x c e, fun p hp => absurd (show p ∈ ([] : List (Addr × Obj)) ++ [] from hp) (by simp)⟩
  have loop : codeAny (model X.prog X.w) X.A (.compLoop (.ListComp elt [⟨.Tuple elts kk tpos, .Call (.Name "zip" p) [e, e2] [] pos0, ifs, 0⟩] scope pos) 0 (.ref z) (.ref D) ce) (compPost (model X.prog X.w) X.A X.xe none (EP X pins σ Q) (.ref D) s3.heap.objs.size) s4 := by
    refine compLoop_any (fun n s' => ∃ i H', Inv (X.blk s3 H3 scope ce fp) [] (L2.wipe σ (own.map (·.2))) H' s' ∧ ZSt a b z TI TO i1 i2 i s'.heap ∧ (∀ b ∈ fp, H' b = none) ∧ W i n H') ?_ m0 ⟨0, H3, I4, st4, nfp, w0⟩
    rintro n s5 ⟨i, H5, I5, st5, n5, w5⟩
    rcases turn i n H5 w5 with ⟨stop, qq⟩ | ⟨go, Nx, hNx, step⟩
    · have td := zdone (X := X.blk s3 H3 scope ce fp) (E := fun _ _ => False) hotB (fun c hm => hfp ▸ hm) DD I5 (fun c hm => stat I5 n5 c (hfp ▸ hm)) st5 stop
      refine thnF td fun r s6 ⟨hr, I6⟩ => ?_
      subst hr
      have I7 : Inv X pins σ H5 s6 := I3.call' (ch := fp) I6.os I6.base I6.hok I6.bare fun b hb => ⟨(f3 b hb).1.2.2.2.1, (f3 b hb).1.2.1, (f3 b hb).1.2.2.2.2.1, (f3 b hb).1.2.2.2.2.2⟩
      have nC : H5 s3.heap.objs.size = none := by
        have z : H5 ce.locals = none := I6.free
        rw [cL] at z
        exact z
      obtain ⟨m, hn, _⟩ := I6.loc
      have hn : s6.heap.Ns ce.locals m := hn
      rw [cL] at hn
      refine ⟨m, hn, fun h'' sb => ?_⟩
      obtain ⟨f0, f1, f2, f3, f4, f5⟩ := I3.fpOk (Nat.le_refl _) nC
      exact ⟨.ref D, H5, I7.turned (t' := s6.toks) (fun b o hb e => (sb.2 b hb).trans e) f0 f1 f3 f4 f5, rfl, qq⟩
    · have ti := zstep (X := X.blk s3 H3 scope ce fp) (E := fun _ _ => False) (elts := elts) (kk := kk) (tpos := tpos) DD I5 (fun c hm => stat I5 n5 c (hfp ▸ hm)) st5 go
      refine thnF ti fun r s6 ⟨u, hr, h6⟩ => ?_
      subst hr
      refine thnF h6 fun _ s7 ⟨x, H7, I7, r7, y7, st7, n7⟩ => ?_
      rw [hfp] at n7
      have I7' := I7.pinned (stat I7 n7) (objT _ _ st7)
      refine thnF (pg.run _ s7 _ H7 x u _ I7' r7 (step x H7 y7)) fun _ s8 ⟨σ8, H8, I8, hw8, q8⟩ => ?_
      refine thnF (pt.run _ s8 σ8 H8 _ I8 q8) fun b' s9 ⟨H9, I9, q9⟩ => ?_
      have fin : ∀ {s' : Shared} {H' : Hp}, Inv (X.blk s3 H3 scope ce fp) ([] ++ pinsAt fp s7.heap) σ8 H' s' → Nx H' → ∃ m, m < n ∧ ∃ i H', Inv (X.blk s3 H3 scope ce fp) [] (L2.wipe σ (own.map (·.2))) H' s' ∧ ZSt a b z TI TO i1 i2 i s'.heap ∧ (∀ b ∈ fp, H' b = none) ∧ W i m H' := fun {s' H'} I' nx => by
        obtain ⟨m', hm, w'⟩ := hNx H' nx
        have pin' : ∀ b ∈ fp, ∀ o, s7.heap.get? b = some o → s'.heap.get? b = some o ∧ H' b = none := fun b hb o e =>
          let z := I'.pin (b, o) (List.mem_append_right _ (List.mem_append_right _ (mem_pinsAt hb e)))
          ⟨z.1, z.2.1⟩
        have hl : (L2.wipe σ (own.map (·.2))).length = σ8.length := by rw [← hw8, wipe_length]
        refine ⟨m', hm, i + 1, H', (I'.unpinned (pins := [])).weak hl (fun j v e => ?_), keepT _ _ _ st7 fun b hb o e => (pin' b hb o e).1, fun b hb => ?_, w'⟩
        · rw [← hw8] at e
          exact (wipe_some e).1
        · obtain ⟨o, e, _⟩ := objT _ _ st7 b hb
          exact (pin' b hb o e).2
      cases b' with
      | false =>
        simp only [Bool.false_eq_true, if_false] at q9 ⊢
        exact fin I9 q9
      | true =>
        simp only [if_true] at q9 ⊢
        refine thnF (pe.run _ s9 σ8 H9 _ I9 q9) fun z s10 ⟨yv, H10, I10, r10, acc, hD10, hz10, nx⟩ => ?_
        exact app_ok (X := X.blk s3 H3 scope ce fp) I10 hD10 hz10 r10 fun s11 I11 => fin I11 nx
  exact codeAny_compStart_list loop (wpAny_pyIter_zip st4.1 loop)
end
end Ks
end

section
set_option Elab.async false
set_option linter.all false
set_option maxRecDepth 100000
set_option maxHeartbeats 4000000
/-! # Texts split and joined; the names of a handled exception's classes -/
namespace Ks
variable {T : List (PySem.Addr × PySem.Str)}
open PySem PySem.Spec PyProof.Rows L2 HotX
def strsOf : List Dt → Option (List Str)
  | [] => some []
  | .str x :: ds => (strsOf ds).map (x :: ·)
  | _ :: _ => none
theorem strsOf_eq : ∀ {ds : List Dt} {xs : List Str}, strsOf ds = some xs → ds = slst xs
  | [], xs, h => by simp [strsOf] at h; subst h; rfl
  | .str x :: ds, xs, h => by
    simp only [strsOf, Option.map_eq_some_iff] at h
    obtain ⟨r, h1, rfl⟩ := h
    rw [strsOf_eq h1]; rfl
  | .none :: _, _, h => by simp [strsOf] at h
  | .bool _ :: _, _, h => by simp [strsOf] at h
  | .int _ :: _, _, h => by simp [strsOf] at h
  | .list _ :: _, _, h => by simp [strsOf] at h
  | .tuple _ :: _, _, h => by simp [strsOf] at h
  | .dict _ :: _, _, h => by simp [strsOf] at h
section
variable {K : PySem.W.Frag} {mg : Mg} {E : XK} {to te : TE} {mo me : Env → M Dv}
def mSplit (mo me : Env → M Dv) : Env → M (List Dt) := fun ρ Q Ex => mo ρ (fun x => match x with
  | .d (.str a) => me ρ (fun y => match y with
    | .d (.str b) => (b.length == 0) = false ∧ a.length + 2 ≤ sizeLine ∧ Q (slst (Txt.split a b))
    | _ => False) Ex
  | _ => False) Ex
theorem sf_split (ho : SE K mg E to mo) (he : SE K mg E te me) : SF K mg E (tM1 (fun x xs H Q => ∃ a b, x = .str a ∧ xs = [.str b] ∧ (b.length == 0) = false ∧ a.length + 2 ≤ sizeLine ∧ rNewStrs (Txt.split a b) H Q) to te) (mSplit mo me) := fun en w ρ σ Q Ex R s h hq hx =>
  ho en w ρ σ _ Ex _ s h (fun x v w1 g1 r1 q => by
    split at q
    · rename_i a
      simp only [RS, Rp] at r1
      subst r1
      refine ⟨⟨a, rfl⟩, he en w1 ρ σ _ Ex _ (s.grow g1) q (fun y u w2 g2 r2 q2 => ?_) (fun x u o w' g => hx x u o w' (g1.trans g))⟩
      split at q2
      · rename_i b
        simp only [RS, Rp] at r2
        subst r2
        exact ⟨a, b, rfl, rfl, q2.1, q2.2.1, fun p hp => fresh_lay hp RpA.of_slst q2.2.2 fun ds a us w' g h0 h1 h2 h3 h4 h5 => hq ds a us w' ((g1.trans g2).trans g) ((g1.trans g2).dom a h0) h1 h2 h3 h4 h5⟩
      · exact q2.elim
    · exact q.elim) hx
def mJoin (mo me : Env → M Dv) : Env → M Dv := fun ρ Q Ex => mo ρ (fun x => match x with
  | .d (.str a) => me ρ (fun y => match y.ls?.bind strsOf with
    | some ys => (ys.map (·.length)).sum + ys.length * a.length ≤ 16777216 ∧ Q (.d (.str (Txt.join a ys)))
    | none => False) Ex
  | _ => False) Ex
theorem se_join (ho : SE K mg E to mo) (he : SE K mg E te me) : SE K mg E (tM1 (fun x xs H Q => ∃ a p, ∃ ys : List Str, x = .str a ∧ xs = [.ref p] ∧ (SqL K H p (ys.map V.str) ∨ SqT K H p (ys.map V.str)) ∧
      (ys.map (·.length)).sum + ys.length * a.length ≤ 16777216 ∧ Q (.str (Txt.join a ys)) H) to te) (mJoin mo me) := fun en w ρ σ Q Ex R s h hq hx =>
  ho en w ρ σ _ Ex _ s h (fun x v w1 g1 r1 q => by
    split at q
    · rename_i a
      simp only [RS, Rp] at r1
      subst r1
      refine ⟨⟨a, rfl⟩, he en w1 ρ σ _ Ex _ (s.grow g1) q (fun y u w2 g2 r2 q2 => ?_) (fun x u o w' g => hx x u o w' (g1.trans g))⟩
      split at q2
      · rename_i ys e
        obtain ⟨ds, e1, e2⟩ := Option.bind_eq_some_iff.mp e
        obtain ⟨p, us, rfl, h1, h2⟩ := ls_rs r2 e1
        rw [strsOf_eq e2] at h2
        rw [RpA.slst h2] at h1
        exact ⟨a, p, ys, rfl, rfl, .inl (SqL.of h1), q2.1, hq _ _ w2 (g1.trans g2) (by simp [RS, Rp]) q2.2⟩
      · exact q2.elim
    · exact q.elim) hx
/-- isinstance(error, C), the error in slot i -/
def mIsx (i : Nat) (a : Addr) (b : Bool) : Env → M Dv := fun ρ Q _ => ρ[i]? = some (some (.fn a)) ∧ Q (.d (.bool b))
theorem se_isx {i : Nat} {D a C : Addr} {b : Bool} (e : PySem.W.kitOne K (.ref D) (.ref C) = some b) : SE K mg E (tCB (rIsE K D a) (tCons (tVar i) (tCons (tC (.ref C)) tNil))) (mIsx i a b) := fun en w ρ σ Q Ex R s h hq hx => by
  obtain ⟨v, h1, h2⟩ := s.rs i _ h.1
  obtain rfl : v = .ref a := h2
  exact ⟨_, h1, .ref C, .ref C, b, rfl, fun u r => r, e, hq _ _ w (.refl w) (by simp [RS, Rp]) h.2⟩
theorem se_isv {i : Nat} {D a : Addr} {n : String} {b : Bool} (e : PySem.W.kitOne K (.ref D) (.type n) = some b) : SE K mg E (tCB (rIsE K D a) (tCons (tVar i) (tCons (tC (.ty n)) tNil))) (mIsx i a b) := fun en w ρ σ Q Ex R s h hq hx => by
  obtain ⟨v, h1, h2⟩ := s.rs i _ h.1
  obtain rfl : v = .ref a := h2
  exact ⟨_, h1, .ty n, .type n, b, rfl, fun u r => r, e, hq _ _ w (.refl w) (by simp [RS, Rp]) h.2⟩
end
/-- isinstance of the exception that the context bears -/
theorem call_isH {X : Cx} {a D : Addr} {oe : Obj} (C : ExcC X.K D) (hp : (a, oe) ∈ X.pn) (hz : Zc (.ref D) none oe) (hf : ∃ vs, oe.data = .fields vs) : CallR X (.builtin "isinstance") (rIsE X.K D a) := by
  intro pins s σ H xs us Q I r h
  obtain ⟨c, cv, b, rfl, hcv, e, q⟩ := h
  cases r with
  | cons rx rr =>
    cases rr with
    | cons rt rr =>
      cases rr
      cases rx
      have ec := hcv _ rt
      subst ec
      obtain ⟨hget, _⟩ := I.pin (a, oe) (List.mem_append.mpr (.inl hp))
      obtain ⟨vs, hv⟩ := hf
      have J : PySem.W.InstAt s.heap a oe D none := by
        obtain ⟨oc, od, oda, osl⟩ := oe
        obtain ⟨h1, h2⟩ := hz
        dsimp only at h1 h2 hv
        subst h1 h2 hv
        exact ⟨hget, rfl, rfl, trivial⟩
      exact PySem.W.kia_one (PySem.W.handS_kitx_exc C.hg C.hk C.hs C.hd C.ha C.hn C.ht C.hm) I.kIn J e (fun z => nomatch z) fun tk => ⟨.bl b, H, I.kept (t' := tk) fun _ _ z => z, rfl, q⟩
/-- a def of the text, run while the exception p is handled -/
theorem hot_of {CX : CXT} {P : Program} {w : World} {K : PySem.W.Frag} {mg : Str → Option Value} {base : Heap} {k : Nat} {f : Addr} {name qual : Str} {params : Arguments} {body : List Stmt} {scope : Scope} {dV kV doc pm cdv ct oc : Value} {an od : Option Addr}
    {osl : Array (Option Value)} {N ps : List Str} (lk : K.lookup f = some ⟨oc, od, .func (PySem.W.fnOf name qual params body scope dV kV doc pm an cdv ct), osl⟩) (hcd : PySem.W.codeIn K cdv qual = true) (S : FnScope N ps scope)
    {A : Around} {outer : List PySem.Env} {s : Shared} {H : Hp} {args : Args} {us : List Value} {vs : List V} {Q : VK} {E : XK} {p : Addr × Obj} (hr : L2H.RoomH (k + 1) A) (hpin : L2H.PinOk outer H s p) (e0 : Env0 P w K mg base A outer s H)
    (hb : BindsTo s (PySem.W.fnOf name qual params body scope dV kV doc pm an cdv ct) args (ps.zip us)) (r : Vals vs us) (hl : vs.length = ps.length)
    (hbody : L2H.RoomH k (A.deeper (envOfC qual scope s.heap.objs.size f cdv)) → ∃ t, PSs (L2H.cxH CX P w K mg base N qual scope f cdv A outer s H E p) body t ∧ t { nx := fun _ H' => Q .non H', rt := Q } (L2.start N vs) H) :
    codeAny (model P w) A (.call (.ref f) args) (CR CX outer P w H s Q E) s := by
  have KX : K.In s.heap := e0.mod.kin.keeps fun b o e => (e0.bs b o e).1
  have lim : s.heap.NoLimit := e0.mod.nolimit.keeps fun b o e => (e0.bs b o e).1
  have hkind : ∀ y ∈ ps.zip us, scope.names.lookup y.1 = some .local ∨ (scope.names.lookup y.1 = some .cell ∧ ((cellsFrom (s.heap.objs.size + 1) scope.names []).lookup y.1).isSome = true) := fun ⟨n, v⟩ hy => by
    rcases S.par n (List.of_mem_zip hy).1 with q | q
    · exact .inl q
    · exact .inr ⟨q, PySem.W.cellsFrom_some _ _ _ (.inl q)⟩
  refine codeAny_call_function hr.depth (KX _ _ lk) rfl S.co S.gen rfl (PySem.W.codeRec_of KX hcd) (hb _ _ _ _ ?_)
  refine wpAny_newFunctionEnv_cells S.kind hkind fun env he s1 x => ?_
  subst he
  refine ⟨lim.keeps x.toInCall.keep, codeAny_func ?_⟩
  obtain ⟨t, ht, hq⟩ := hbody (hr.deeper _)
  have I : Inv (L2H.cxH CX P w K mg base N qual scope f cdv A outer s H E p) [] (L2.start N vs) H s1 := L2H.inv_startH S hpin e0 hl r x
  refine wpAny_mono (ht.run [] s1 (L2.start N vs) H _ I hq) (fun fl s' hs => ?_) fun e s' hs => hs
  have fin : ∀ {σ' : L2.St} {H' : Hp} {v : V} {u : Value}, Inv (L2H.cxH CX P w K mg base N qual scope f cdv A outer s H E p) [] σ' H' s' → L2.RelV v u → Q v H' → CE outer P w H s Q u s' :=
    fun {σ' H' v u} J rv q => ⟨v, H', J.os, J.bare, J.base, J.hok, rv, q⟩
  cases fl with
  | ret u =>
    obtain ⟨v, σ', H', J, rv, q⟩ := hs
    exact fin J rv q
  | next =>
    obtain ⟨σ', H', J, q⟩ := hs
    exact fin (v := V.non) (u := Value.none) J rfl q
  | brk =>
    obtain ⟨_, _, _, q⟩ := hs
    exact False.elim q
  | cont =>
    obtain ⟨_, _, _, q⟩ := hs
    exact False.elim q
/-- zip of two lists -/
def mZipL (ma : Env → M (List Dv)) : Env → M (List Dt) := fun ρ Q Ex => ma ρ (fun xs => match xs with
  | [.d (.list as), .d (.list bs)] => Q (zipD as bs)
  | _ => False) Ex
theorem si_zipL {K : PySem.W.Frag} {mg : Mg} {E : XK} {k : Nat} {ta : TA} {ma : Env → M (List Dv)} (ha : SA K mg E k ta ma) : SI K mg E (iZip K ta) (mZipL ma) := fun en w ρ σ Q Ex R s h hq hx =>
  ha en w ρ σ _ Ex _ s h (fun xs vs w1 g1 r1 hl q => by
    split at q
    · rename_i as bs
      obtain ⟨v, u, rfl, rv, ru⟩ := r1.two
      simp only [RS, Rp] at rv ru
      obtain ⟨a, vs, rfl, h1, h2⟩ := rv
      obtain ⟨b, us, rfl, h3, h4⟩ := ru
      refine ⟨a, b, vs, us, rfl, SqL.of (w1.gh _ _ h1), SqL.of (w1.gh _ _ h3), hq _ _ w1 g1 ⟨fun w i g hi => ?_, fun w i g hi => ?_, fun w i z H' d g hd y => ?_⟩ q⟩
      · obtain ⟨x, y, e1, e2, _⟩ := zipD_get (List.getElem?_eq_getElem hi)
        obtain ⟨x', p1, _⟩ := h2.get e1
        obtain ⟨y', p2, _⟩ := h4.get e2
        exact ⟨vs, us, x', y', SqL.of (w.gh _ _ (g _ _ h1)), SqL.of (w.gh _ _ (g _ _ h3)), p1, p2⟩
      · rw [zipD_len] at hi
        exact ⟨vs, us, SqL.of (w.gh _ _ (g _ _ h1)), SqL.of (w.gh _ _ (g _ _ h3)), by rw [h2.length, h4.length]; omega⟩
      · obtain ⟨x, y', e1, e2, rfl⟩ := zipD_get hd
        obtain ⟨x', p1, p1'⟩ := h2.get e1
        obtain ⟨y'', p2, p2'⟩ := h4.get e2
        obtain ⟨T, c, d, rfl, hT, rfl, f1, f2⟩ := y
        have := f1 vs (SqL.of (w.gh _ _ (g _ _ h1)))
        rw [p1] at this; injection this with this; subst this
        have := f2 us (SqL.of (w.gh _ _ (g _ _ h3)))
        rw [p2] at this; injection this with this; subst this
        exact new_pair hT (Rp.mono g _ _ p1') (Rp.mono g _ _ p2')
    · exact q.elim) hx
/-! ### the words -/
def nmL : List Str := ["InvalidRope", "InvalidSpans", "InvalidFact", "InvalidBook", "InvalidQuestion", "InvalidRing", "InvalidSize", "InvalidIndex", "InvalidNumber", "InvalidText", "Unlike", "NoRope", "NothingToUndo", "TooMany", "Failed"]
/-- what isinstance answers of an instance of D, class by class -/
structure NmOk (K : PySem.W.Frag) (mg : Mg) (D : Addr) (bs : Nat → Bool) : Prop where
  ex : ExcC K D
  is : ∀ (i : Nat) (nm : Str), nmL[i]? = some nm → ∃ C, mg.f nm = some (.ref C) ∧ PySem.W.kitOne K (.ref D) (.ref C) = some (bs i)
  vl : PySem.W.kitOne K (.ref D) (.type "ValueError") = some (bs 15)
theorem boot_ValueError_ : bootBuiltins "ValueError" = some (.type "ValueError") := by decide +kernel
end Ks
end

section
set_option Elab.async false
set_option linter.all false
set_option maxRecDepth 100000
set_option maxHeartbeats 4000000
/-! # The words of the error that a call raises -/
namespace Ks
variable {T : List (PySem.Addr × PySem.Str)}
open PySem PySem.Spec PyProof.Rows L2 HotX
/-! ### the def that tells the words -/
def NamesD (P : Program) (w : World) (K : PySem.W.Frag) (mg : Mg) (base : Heap) (k : Nat) (g : (Nat → Bool) → Str) : Prop :=
  ∃ (f : Addr) (fd : FuncData), mg.f "_law_names" = some (.ref f) ∧ PySem.W.keepIn K (.ref f) = true ∧ Binds K fd ["error"] [] ∧
    ∀ (D : Addr) (bs : Nat → Bool) (A : Around) (outer : List PySem.Env) (s : Shared) (args : Args) (p : Addr × Obj) (Q : VK) (E : XK) (wd : Wd mg.T), NmOk K mg D bs → L2H.RoomH k A → L2H.Hot1 A p → Zc (.ref D) none p.2 → L2H.PinOk outer wd.H s p →
      Env0 P w K mg.f base A outer s wd.H → BindsTo s fd args ([("error" : Str)].zip [.ref p.1]) → (∀ w', Grow wd w' → Q (.str (g bs)) w'.H) → codeAny (model P w) A (.call (.ref f) args) (CR (L2N.CX P w) outer P w wd.H s Q E) s
theorem names_of {P : Program} {w : World} {K : PySem.W.Frag} {mg : Mg} {base : Heap} {st : Stmt} {N : List Str} {k : Nat} {g : (Nat → Bool) → Str} {ms : Addr → (Nat → Bool) → MS} (Tn : FunAt K mg "_law_names" st) (S : FnScope N ["error"] (defScope st))
    (hbind : ∀ (kV doc pm : Value) (an : Option Addr) (cdv ct : Value) (us : List Value), us.length = [("error" : Str)].length → bindArgs (PySem.W.fnOf "_law_names" "_law_names" (defArgs st) (defBody st) (defScope st) .none kV doc pm an cdv ct) ⟨us, []⟩ = pure ([("error" : Str)].zip us))
    (hb : ∀ (D : Addr) (bs : Nat → Bool) (p : Addr × Obj), NmOk K mg D bs → Zc (.ref D) none p.2 → (∃ vs, p.2.data = .fields vs) → ∀ (f : Addr) (cdv : Value) (A : Around) (outer : List PySem.Env) (s : Shared) (H : Hp) (E : XK), L2H.Hot1 (A.deeper (envOfC "_law_names" (defScope st) s.heap.objs.size f cdv)) p →
      L2H.RoomH k (A.deeper (envOfC "_law_names" (defScope st) s.heap.objs.size f cdv)) →
      ∃ ts, PSs (L2H.cxH (L2N.CX P w) P w K mg.f base N "_law_names" (defScope st) f cdv A outer s H E p) (defBody st) ts ∧ SS K mg E ts (ms p.1 bs))
    (hF : ∀ (a : Addr) (bs : Nat → Bool) (Q : Dv → Prop), Q (.d (.str (g bs))) → ms a bs (endM Q (fun _ => False)) (startE N.length [.fn a])) : NamesD P w K mg base (k + 1) g := by
  obtain ⟨f, fd, Fu, hm⟩ := Tn
  refine ⟨f, fd, hm, Fu.kp, Fu.binds hbind, fun D bs A outer s args p Q E wd nm hr hot hz hpin e0 hbd hq => ?_⟩
  obtain ⟨oc, od, kV, doc, pm, an, cdv, ct, osl, rfl, lk, hcd⟩ := Fu.ex
  refine hot_of (p := p) (us := [.ref p.1]) (vs := [.ref p.1]) (ps := [("error" : Str)]) lk hcd S hr hpin e0 hbd (.cons rfl .nil) rfl fun hr' => ?_
  obtain ⟨hh, vs, hv, hc⟩ := hot
  obtain ⟨ts, h1, h2⟩ := hb D bs p nm hz ⟨vs, hv⟩ f cdv A outer s wd.H E ⟨hh, vs, hv, hc⟩ hr'
  have r0 : RSs K wd [.ref p.1] [.fn p.1] := ⟨rfl, trivial⟩
  refine ⟨ts, h1, h2 wd wd _ _ _ _ (St.start r0 rfl) (hF p.1 bs (fun x => x = .d (.str (g bs))) rfl) ⟨fun w2 ρ σ _ s2 q => ?_, fun w2 v x g r2 o q => ?_, fun _ _ _ _ _ z => z.elim, fun _ _ _ _ _ z => z.elim, fun x u o w2 g q r => q.elim⟩⟩
  · cases q
  · have q : x = _ := q
    subst q
    simp only [RS, Rp] at r2
    subst r2
    exact hq w2 g
theorem pe_names {X : Cx} {mg : Mg} {k : Nat} {g : (Nat → Bool) → Str} {D : Addr} {bs : Nat → Bool} {p : Addr × Obj} {y : Str} {py : Pos} {te : TE} {q pos : Pos} (N : NamesD X.prog X.w X.K mg X.base k g) (hp : p ∈ X.pn) (hot : L2H.Hot1 X.A p) (hr : L2H.RoomH k X.A) (hg : Gl X "_law_names")
    (nm : NmOk X.K mg D bs) (hz : Zc (.ref D) none p.2) (ha : PE X (.Name y py) te) (hmg : mg.f = X.mg := by rfl) :
    PE X (.Call (.Name "_law_names" q) [.Name y py] [] pos) (fun σ H Q => te σ H fun v H1 => v = .ref p.1 ∧ ∃ wd : Wd mg.T, wd.H = H1 ∧ ∀ w', Grow wd w' → Q (.str (g bs)) w'.H) := by
  refine ⟨fun pins s σ H Q I h => ?_⟩
  obtain ⟨f, fd, hm, hk, hb, run⟩ := N
  rw [hmg] at hm run
  refine wpAny_Call_Name_kw (ld_glob I hg hm ?_ (by decide))
  refine PySem.W.callWith_K (h₀ := X.base) I.ok.mod.kin hk (thn ((pa_cons ha pa_nil).run pos pins s σ H (fun vs H1 => match vs with
    | [v] => v = .ref p.1 ∧ ∃ wd : Wd mg.T, wd.H = H1 ∧ ∀ w', Grow wd w' → Q (.str (g bs)) w'.H
    | _ => False) I h) fun us s1 ⟨vs, H1, I1, r, h1⟩ => ⟨I1.kIn, ?_⟩) (by rfl) (by rfl)
  cases r with
  | nil => exact h1.elim
  | cons r rr =>
    cases rr with
    | cons _ _ => exact h1.elim
    | nil =>
      obtain ⟨e2, wd, e3, q⟩ := h1
      subst e2 e3
      cases r
      have b := hb s1 [.ref p.1] I1.kIn rfl
      rw [List.append_nil] at b
      have P1 := I1.pin p (List.mem_append_left _ hp)
      have hpin : L2H.PinOk X.stack wd.H s1 p := ⟨P1.1, P1.2.1, fun hm => (List.mem_cons.mp (I1.stkSub p.1 hm)).elim P1.2.2.1 P1.2.2.2.1, P1.2.2.2.2⟩
      refine wpAny_call (codeAny_mono (run D bs X.A X.stack s1 ⟨[.ref p.1], []⟩ p Q EN wd nm hr hot hz hpin I1.env0 b q) fun r s' hq => ?_)
      cases r with
      | error e => exact passN pins σ wd.H s1 e s' I1 hq
      | ok fl =>
        cases fl with
        | ret u => exact I1.after hq
        | next => exact False.elim hq
        | brk => exact False.elim hq
        | cont => exact False.elim hq
/-! ### a lambda that may raise -/
/-- the context of the lambda's body, its exceptions told with their contexts -/
abbrev lamN (X : Cx) (A : Around) (outer : List PySem.Env) (s : Shared) (H : Hp) (E : XK) (scope : Scope) (f c' : Addr) : Cx :=
  (LamX.lamCx X A outer s H E scope f c').wish fun e s' => wpAny (model X.prog X.w) (A.deeper (LamX.lamEnv X scope s.heap.objs.size f c')) (leaving (LamX.lamEnv X scope s.heap.objs.size f c') e) (fun _ s'' => L2N.CX X.prog X.w outer H s E e s'') (fun e' s'' => L2N.CX X.prog X.w outer H s E e' s'') s'
theorem pe_actN {X : Cx} {pins : List (Addr × Obj)} {σ : L2.St} {H : Hp} {s : Shared} {CXg : CXT} {Eg : XK} {Ng : List Str} {qg : Str} {sg : Scope} {g f c' : Addr} {cdg pm ctv : Value} {params : Arguments} {body : Expr} {scope : Scope} {k i : Nat} {a : Str} {pn : List (Addr × Obj)} {xe : Value → Shared → Prop} {W : WX} {tl : XK → TE} {p1 p2 : Pos}
    (I : Inv X pins σ H s) (L : LamX.LamS X.env.scope scope) (hf : s.heap.get? f = some (PySem.W.kla_obj "<lambda>" (X.env.qual ++ "<lambda>") params body scope (cloFrom X.env.cells scope.names []) pm c' ctv)) (hfn : H f = none) (hfr : f ∉ frs X.stack)
    (hbind : bindArgs (PySem.W.kla_fn "<lambda>" (X.env.qual ++ "<lambda>") params body scope (cloFrom X.env.cells scope.names []) pm (.ref c') ctv) ⟨[], []⟩ = pure [])
    (tk : L2N.Takes ((cxOf CXg X.prog X.w X.K X.mg X.base Ng qg sg g cdg X.A X.stack s H Eg).tr pn xe) W) (hr : Room (k + 1) (X.A.deeper (envOfC qg sg s.heap.objs.size g cdg)))
    (hbody : ∀ (A : Around) (outer : List PySem.Env) (s : Shared) (H : Hp) (E : XK), Room k (A.deeper (LamX.lamEnv X scope s.heap.objs.size f c')) → PE (lamN X A outer s H E scope f c') body (tl E))
    (hN : Ng[i]? = some a) (hv : Vis sg a) (hd : (a == ("__debug__" : Str)) = false := by decide) (hcd : (a == ("__classdict__" : Str)) = false := by decide) :
    PE ((cxOf CXg X.prog X.w X.K X.mg X.base Ng qg sg g cdg X.A X.stack s H Eg).tr pn xe) (.Call (.Name a p1) [] [] p2)
      (fun σZ HZ Q => σZ[i]? = some (some (.ref f)) ∧ HZ c' = some (LamX.CodeO c' (X.env.qual ++ "<lambda>")) ∧ tl (WE W σZ) σ HZ Q) := by
  refine ⟨fun pinsZ sZ σZ HZ Q IZ h => ?_⟩
  obtain ⟨hs, hc, ht⟩ := h
  refine wpAny_Call_Name_kw (thn ((pe_var (pos := p1) (i := i) hN hv hd hcd).run pinsZ sZ σZ HZ (fun v H1 => v = .ref f ∧ H1 = HZ) IZ ⟨.ref f, hs, rfl, rfl⟩) fun u s1 ⟨v, H1, I1, r1, q1⟩ => ?_)
  obtain ⟨ev, eH⟩ := q1
  subst ev
  rw [eH] at I1
  obtain rfl : u = Value.ref f := r1
  have of1 : s1.heap.get? f = some (PySem.W.kla_obj "<lambda>" (X.env.qual ++ "<lambda>") params body scope (cloFrom X.env.cells scope.names []) pm c' ctv) := I1.base.keep f _ hf hfn hfr (fun z => nomatch (show f ∈ ([] : List Addr) from z))
  refine PySem.W.callWith_F0 ⟨_, _, _, _, of1⟩ ?_
  have un : Un (frs X.stack) [] H HZ s.heap s1.heap := I1.base
  obtain ⟨⟨oc, vs, t, hoc, hdc, hvc⟩, _, _⟩ := I1.hok c' _ hc
  have rc : codeAny (model X.prog X.w) (X.A.deeper (envOfC qg sg s.heap.objs.size g cdg)) (.call (.ref f) ⟨[], []⟩) (CR (L2N.CX X.prog X.w) (envOfC qg sg s.heap.objs.size g cdg :: X.stack) X.prog X.w HZ s1 Q (WE W σZ)) s1 := by
    refine PySem.W.kla_callFunE hr.depth of1 rfl L.co L.gen rfl ⟨c', oc, vs, t, rfl, hoc, hdc, hvc⟩ ?_
    rw [hbind]
    refine wpAny_pure (wpAny_newFunctionEnv (fun y hy => (L.own y hy).2) (fun y hy => absurd hy (by simp)) (fun h₁ hns hsb => ⟨I1.nolimit.fresh _ hsb, ?_⟩) L.kind)
    show codeAny _ _ (.expr body (LamX.lamEnv X scope s1.heap.objs.size f c')) _ _
    have kp : ∀ b o, s1.heap.get? b = some o → h₁.get? b = some o := fun b o e => hsb.extBut b o (Nat.ne_of_lt (Heap.lt_size e)) (Heap.get?_push_of_some _ e)
    have J : Inv (LamX.lamCx X (X.A.deeper (envOfC qg sg s.heap.objs.size g cdg)) (envOfC qg sg s.heap.objs.size g cdg :: X.stack) s1 HZ (WE W σZ) scope f c') [] σ HZ { s1 with heap := h₁, toks := s1.toks + ([] : List (Str × Value)).length } :=
      LamX.lam_start2 I L I1.env0 hr.hd un hns kp
    refine PySem.W.kla_codeExpr (wpAny_mono ((hbody _ _ s1 HZ (WE W σZ) (hr.deeper _)).run [] _ _ HZ Q (J.wish _) ht) (fun v s' hq => ?_) fun e s' hq => hq)
    obtain ⟨w', H', J', rv, q⟩ := hq
    exact ⟨w', H', J'.os, J'.bare, J'.base, J'.hok, rv, q⟩
  have hx : PassesAt (L2N.CX X.prog X.w) ((cxOf CXg X.prog X.w X.K X.mg X.base Ng qg sg g cdg X.A X.stack s H Eg).tr pn xe) σZ (WE W σZ) := L2N.passAt tk σZ
  refine wpAny_call (codeAny_mono rc fun r s' hq => ?_)
  cases r with
  | error e => exact hx pinsZ HZ s1 e s' I1 hq
  | ok fl =>
    cases fl with
    | ret u => exact I1.after hq
    | next => exact False.elim hq
    | brk => exact False.elim hq
    | cont => exact False.elim hq
/-- the context of the lambda's body takes its exceptions -/
theorem takes_lam {X : Cx} {A : Around} {outer : List PySem.Env} {s : Shared} {H : Hp} {E : XK} {scope : Scope} {f c' : Addr} : L2N.Takes (lamN X A outer s H E scope f c') (fun cls d _ H => E cls d H) :=
  L2N.takes_of rfl rfl rfl rfl
/-! ### try: call() except KnotError as error: return _law_names(error); return "" -/
def tsW (K : PySem.W.Frag) (mg : Mg) (g : (Nat → Bool) → Str) : Addr → Value → Option Addr → TS := fun a cls d D σ H =>
  ∃ (D0 : Addr) (bs : Nat → Bool) (wd : Wd mg.T), cls = .ref D0 ∧ d = none ∧ NmOk K mg D0 bs ∧ σ[1]? = some (some (.ref a)) ∧ wd.H = H ∧ ∀ w', Grow wd w' → D.rt (.str (g bs)) w'.H
def EWf (K : PySem.W.Frag) (mg : Mg) (g : (Nat → Bool) → Str) (KE : Addr) (f : Addr) (Q : VK) : XK :=
  WE (wAs K (.ref KE) 1 (tsW K mg g) (fun _ _ _ _ => False) { nx := fun _ H' => Q (.str "") H', rt := Q }) [some (.ref f), none]
def tWord (K : PySem.W.Frag) (mg : Mg) (g : (Nat → Bool) → Str) (KE : Addr) (t : XK → TE) : TE := fun σ H Q => LamX.Tabs mg.T H ∧ ∀ (H1 : Hp) (f : Addr), LamX.ExtN H H1 → LamX.Tabs mg.T H1 → t (EWf K mg g KE f Q) σ H1 (fun _ H' => Q (.str "") H')
theorem takesNo {P : Program} {w : World} {K : PySem.W.Frag} {mg : Str → Option Value} {base : Heap} {N : List Str} {qual : Str} {sc : Scope} {f : Addr} {cd : Value} {A : Around} {outer : List PySem.Env} {s : Shared} {H : Hp} :
    L2N.Takes (cxOf (L2N.CX P w) P w K mg base N qual sc f cd A outer s H EN) (fun _ _ _ _ => False) :=
  (L2N.takes_of rfl rfl rfl rfl).imp fun _ _ _ _ h => h.elim
theorem hot1_suite {X : Cx} {a : Addr} {oe : Obj} {cls : Value} {d : Option Addr} (hz : L2N.Zn cls d oe) (hf : ∃ vs, oe.data = .fields vs) : L2H.Hot1 (X.A.mark (some (.ref a))) (a, oe) := by
  obtain ⟨vs, hv⟩ := hf
  exact ⟨rfl, vs, hv, hz.2.2 vs hv⟩
theorem roomH_mark {X : Cx} {k : Nat} {v : Option Value} (hr : Room k X.A) : L2H.RoomH k (X.A.mark v) := ⟨hr.dp, hr.un⟩
/-- _law_word(lambda: body) -/
theorem pe_word {X : Cx} {mg : Mg} {kn k : Nat} {gw : (Nat → Bool) → Str} {KE c P : Addr} {st : Stmt} {p1 p2 p3 p4 p5 p6 p7 p8 p9 p10 p11 p12 p lpos pos : Pos} {j : Nat} {params : Arguments} {body : Expr} {scope : Scope} {t : XK → TE}
    (N : NamesD X.prog X.w X.K mg X.base kn gw) (hkn : kn ≤ k) (FW : FunAt X.K mg "_law_word" st) (SW : FnScope ["call", "error"] ["call"] (defScope st))
    (bodyW : defBody st = [.Try [.Expr (.Call (.Name "call" p1) [] [] p2) p3] [.ExceptHandler (some (.Name "KnotError" p4)) (some "error") [.Return (some (.Call (.Name "_law_names" p5) [.Name "error" p6] [] p7)) p8] p9] [] [] p10, .Return (some (.Constant (.str "") j p11)) p12])
    (bindW : ∀ (kV doc pm : Value) (an : Option Addr) (cdv ct : Value) (us : List Value), us.length = [("call" : Str)].length → bindArgs (PySem.W.fnOf "_law_word" "_law_word" (defArgs st) (defBody st) (defScope st) .none kV doc pm an cdv ct) ⟨us, []⟩ = pure ([("call" : Str)].zip us))
    (lc : (defScope st).names.lookup ("call" : Str) = some .local) (le : (defScope st).names.lookup ("error" : Str) = some .local) (lk : (defScope st).names.lookup ("KnotError" : Str) = some .globalImplicit) (ln : (defScope st).names.lookup ("_law_names" : Str) = some .globalImplicit)
    (hKE : mg.f "KnotError" = some (.ref KE)) (hg : Gl X "_law_word") (TB : LamX.TabB X.base X.mg c P) (hcode : X.env.code = .ref c) (hmT : (P, X.env.qual ++ "<lambda>") ∈ mg.T) (hu : ∀ p ∈ mg.T, p.1 = P → p.2 = X.env.qual ++ "<lambda>")
    (hr : Room (k + 2) X.A) (L : LamX.LamS X.env.scope scope) (hdef : defaultsOf params X.env = ([], []))
    (hbind : ∀ (q : Str) (cl : List (Str × Addr)) (pm cv ctv : Value), bindArgs (PySem.W.kla_fn "<lambda>" q params body scope cl pm cv ctv) ⟨[], []⟩ = pure [])
    (hbody : ∀ (A : Around) (outer : List PySem.Env) (s : Shared) (H : Hp) (E : XK) (f c' : Addr), Room k (A.deeper (LamX.lamEnv X scope s.heap.objs.size f c')) → PE (lamN X A outer s H E scope f c') body (t E)) (hmg : mg.f = X.mg := by rfl) :
    PE X (.Call (.Name "_law_word" p) [.Lambda params body scope lpos] [] pos) (tWord X.K mg gw KE t) := by
  refine ⟨fun pins s σ H Q I h => ?_⟩
  obtain ⟨hT, h⟩ := h
  obtain ⟨g, fd, Fu, hm⟩ := FW
  have hb := Fu.binds bindW
  have hkp := Fu.kp
  obtain ⟨oc, od, kV, doc, pm, an, cdv, ct, osl, rfl, lkK, hcg⟩ := Fu.ex
  rw [hmg] at hm hKE
  refine wpAny_Call_Name_kw (ld_glob I hg hm ?_ (by decide))
  refine PySem.W.callWith_K (h₀ := X.base) I.ok.mod.kin hkp ?_ (by rfl) (by rfl)
  show wpAny _ _ (spliced ((false, eval (.Lambda params body scope lpos) X.env) :: backTo pos (starEach [] X.env))) _ _ s
  refine Calls.spliced_cons (LamX.lam_make2 I TB hcode hmT hu hT hdef (L.has I.ok) fun f c' pm' ctv H1 s' I1 eN T1 hf hfn hfr hco => ?_)
  refine Calls.spliced_nil ⟨I1.kIn, ?_⟩
  have bb := hb s' [.ref f] I1.kIn rfl
  rw [List.append_nil] at bb
  have rc : codeAny (model X.prog X.w) X.A (.call (.ref g) ⟨[.ref f], []⟩) (CR (L2N.CX X.prog X.w) X.stack X.prog X.w H1 s' Q EN) s' := by
    refine LamX.run_ofS (k := k + 1) (N := ["call", "error"]) (ps := ["call"]) (us := [.ref f]) (vs := [.ref f]) lkK hcg SW hr I1.env0 bb (.cons rfl .nil) rfl fun hr' => ?_
    rw [bodyW]
    refine ⟨_, pss_cons (L2N.ps_try_as (X := cxOf (L2N.CX X.prog X.w) X.prog X.w X.K X.mg X.base ["call", "error"] "_law_word" (defScope st) g cdv X.A X.stack s' H1 EN) (i := 1) (c := .ref KE) (Wout := fun _ _ _ _ => False) (ts := tsW X.K mg gw)
        (tb := fun W D σZ HZ => σZ[0]? = some (some (.ref f)) ∧ HZ c' = some (LamX.CodeO c' (X.env.qual ++ "<lambda>")) ∧ t (WE W σZ) σ HZ fun _ H' => D.nx σZ H')
        rfl rfl (show ([("call" : Str), "error"]).Nodup from by decide) rfl le ⟨lk, by decide, .inl hKE⟩ takesNo (fun W pn xe tk _ => ?_) (fun a oe cls d pn hz hfl => ?_)) (pss_one (ps_ret pe_str)), ?_⟩
    · exact pss_one (ps_expr (pe_actN (i := 0) I1 L hf hfn hfr (hbind _ _ _ _ _) tk hr' (fun A outer s H E hr2 => hbody A outer s H E f c' hr2) rfl (.inl lc)))
    · refine ⟨fun pinsS sS σS HS D IS hS => ?_⟩
      obtain ⟨D0, bs, wd, e1, e2, nm, e3, e4, q⟩ := hS
      subst e1 e2 e4
      have hr'' : Room (k + 1) (cxOf (L2N.CX X.prog X.w) X.prog X.w X.K X.mg X.base ["call", "error"] "_law_word" (defScope st) g cdv X.A X.stack s' H1 EN).A := hr'
      refine (pss_one (ps_ret (pe_names (X := (cxOf (L2N.CX X.prog X.w) X.prog X.w X.K X.mg X.base ["call", "error"] "_law_word" (defScope st) g cdv X.A X.stack s' H1 EN).suite a ((a, oe) :: pn)) (mg := mg) (p := (a, oe)) N List.mem_cons_self (hot1_suite (X := cxOf (L2N.CX X.prog X.w) X.prog X.w X.K X.mg X.base ["call", "error"] "_law_word" (defScope st) g cdv X.A X.stack s' H1 EN) hz hfl) (roomH_mark (hr''.mono (Nat.le_succ_of_le hkn))) ln nm hz.zc (pe_var (i := 1) (x := "error") rfl (.inl le)) hmg))).run pinsS sS σS wd.H D IS ?_
      exact ⟨.ref a, e3, rfl, wd, rfl, q⟩
    · exact ⟨rfl, hco, h H1 f eN T1⟩
  refine wpAny_call (codeAny_mono rc fun r s2 hq => ?_)
  cases r with
  | error e => exact passN pins σ H1 s' e s2 I1 hq
  | ok fl =>
    cases fl with
    | ret u => exact I1.after hq
    | next => exact False.elim hq
    | brk => exact False.elim hq
    | cont => exact False.elim hq
/-! ### in plain data -/
def Wd.lam (w : Wd T) (H1 : Hp) (e : LamX.ExtN w.H H1) (t : LamX.Tabs T H1) : Wd T where
  C := w.C
  G := w.G
  H := H1
  gh := fun a o h => e a o (w.gh a o h) fun ps z => w.gt a ps (z ▸ h)
  gc := w.gc
  gt := w.gt
  cat := fun c h => by
    obtain ⟨a, b, h1, h2⟩ := w.cat c h
    exact ⟨a, b, e _ _ h1 (fun _ z => nomatch z), h2⟩
  tabs := t
theorem Grow.lam {w : Wd T} {H1 : Hp} (e : LamX.ExtN w.H H1) (t : LamX.Tabs T H1) : Grow w (w.lam H1 e t) where
  gg := Same.refl _
  new := fun a u h h' => by rw [show (w.lam H1 e t).G a = w.G a from rfl, h] at h'; cases h'
  keep := fun a u h _ nt => e a u h nt
  dom := fun a h o ho => by
    by_cases nt : ∀ ps, o ≠ .tbl ps
    · exact h o (e a o ho nt)
    · exact Classical.not_forall_not.mp nt
  cc := fun _ h => h
  cn := fun _ h n => absurd h n
/-! ### the plain law of the names -/
def lbL : List Str := ["rope", "spans", "fact", "book", "question", "ring", "size", "index", "number", "text", "unlike", "none", "undo", "many", "failed", "value"]
def pickL : List Str → List Bool → List Str
  | x :: xs, b :: bs => if b = true then x :: pickL xs bs else pickL xs bs
  | _, _ => []
def wordsBs (bs : Nat → Bool) : Str := Txt.join " " (pickL lbL [bs 0, bs 1, bs 2, bs 3, bs 4, bs 5, bs 6, bs 7, bs 8, bs 9, bs 10, bs 11, bs 12, bs 13, bs 14, bs 15])
theorem strsOf_slst : ∀ xs : List Str, strsOf (slst xs) = some xs
  | [] => rfl
  | x :: xs => by
    show (strsOf (slst xs)).map (x :: ·) = _
    rw [strsOf_slst xs]; rfl
theorem pick_sum : ∀ (xs : List Str) (bs : List Bool), ((pickL xs bs).map (·.length)).sum ≤ (xs.map (·.length)).sum ∧ (pickL xs bs).length ≤ xs.length
  | [], bs => by simp [pickL]
  | x :: xs, [] => by simp [pickL]
  | x :: xs, b :: bs => by
    have ih := pick_sum xs bs
    cases b with
    | false => simp only [pickL, Bool.false_eq_true, if_false, List.map_cons, List.sum_cons, List.length_cons]; omega
    | true => simp only [pickL, if_true, List.map_cons, List.sum_cons, List.length_cons]; omega
theorem lc_pick {a : Addr} {u v : Option Dv} {Q : List Dt → Prop} : ∀ (xs : List Str) (bs : List Bool) (acc : List Dt), acc.length + xs.length < sizeLine → Q (acc ++ slst (pickL xs bs)) →
    lcL (fTup2 (fName 3) (fName 4)) (mB (mVar 4)) (mVar 3) [some (.fn a), u, v, none, none] Q (zipD (slst xs) (blst bs)) acc
  | [], bs, acc, hl, h => by
    have e : zipD (slst []) (blst bs) = [] := by cases bs <;> rfl
    rw [e]
    unfold lcL
    simpa [pickL, slst] using h
  | x :: xs, [], acc, hl, h => by
    have e : zipD (slst (x :: xs)) (blst []) = [] := rfl
    rw [e]
    unfold lcL
    simpa [pickL, slst] using h
  | x :: xs, b :: bs, acc, hl, h => by
    have hl' : acc.length + xs.length + 1 < sizeLine := by simpa [Nat.add_assoc] using hl
    have e : zipD (slst (x :: xs)) (blst (b :: bs)) = .tuple [.str x, .bool b] :: zipD (slst xs) (blst bs) := rfl
    rw [e]
    unfold lcL
    show (if b = true then _ else _)
    cases b with
    | true =>
      rw [if_pos rfl]
      refine And.intro (by omega) (lc_pick xs bs _ (by simp; omega) ?_)
      simpa [pickL, slst] using h
    | false =>
      rw [if_neg Bool.false_ne_true]
      exact lc_pick xs bs acc (by omega) (by simpa [pickL] using h)
theorem split_lb : Txt.split "rope spans fact book question ring size index number text unlike none undo many failed value" " " = lbL := by decide +kernel
def bNames (a : Addr) (bs : Nat → Bool) : MS := (mSeq (mSet 1 (mVal (mF (mLst (mCons (mIsx 0 a (bs 0)) (mCons (mIsx 0 a (bs 1)) (mCons (mIsx 0 a (bs 2)) mNil))))))) (mSeq (mSet 1 (mVal (mBin fAdd (mVar 1) (mF (mLst (mCons (mIsx 0 a (bs 3)) (mCons (mIsx 0 a (bs 4)) mNil))))))) (mSeq (mSet 1 (mVal (mBin fAdd (mVar 1) (mF (mLst (mCons (mIsx 0 a (bs 5)) (mCons (mIsx 0 a (bs 6)) (mCons (mIsx 0 a (bs 7)) mNil)))))))) (mSeq (mSet 1 (mVal (mBin fAdd (mVar 1) (mF (mLst (mCons (mIsx 0 a (bs 8)) (mCons (mIsx 0 a (bs 9)) (mCons (mIsx 0 a (bs 10)) mNil)))))))) (mSeq (mSet 1 (mVal (mBin fAdd (mVar 1) (mF (mLst (mCons (mIsx 0 a (bs 11)) (mCons (mIsx 0 a (bs 12)) (mCons (mIsx 0 a (bs 13)) mNil)))))))) (mSeq (mSet 1 (mVal (mBin fAdd (mVar 1) (mF (mLst (mCons (mIsx 0 a (bs 14)) (mCons (mIsx 0 a (bs 15)) mNil))))))) (mSeq (mSet 2 (mVal (mC (.str "rope spans fact book question ring size index number text unlike none undo many failed value")))) (mRet (mJoin (mC (.str " ")) (mF (mLc (mZipL (mCons (mF (mSplit (mVar 2) (mC (.str " ")))) (mCons (mVar 1) mNil))) (fTup2 (fName 3) (fName 4)) (mB (mVar 4)) (mVar 3) [3, 4])))))))))))
theorem sz16 {n : Nat} (h : n ≤ 1000) : n ≤ sizeLine := Nat.le_trans h (by decide)
theorem names_plain {a : Addr} {bs : Nat → Bool} {Q : Dv → Prop} (h : Q (.d (.str (wordsBs bs)))) : bNames a bs (endM Q (fun _ => False)) (startE ["error", "some", "labels", "label", "good"].length [.fn a]) := by
  have s1 : ∀ n : Nat, n ≤ 1000 → n ≤ sizeLine := fun n h => sz16 h
  refine And.intro rfl (And.intro rfl (And.intro rfl ?_))
  refine And.intro rfl ?_
  refine And.intro rfl (And.intro rfl (And.intro (s1 _ (by simp)) (And.intro rfl ?_)))
  refine And.intro rfl (And.intro rfl (And.intro rfl (And.intro (s1 _ (by simp)) (And.intro rfl ?_))))
  refine And.intro rfl (And.intro rfl (And.intro rfl (And.intro (s1 _ (by simp)) (And.intro rfl ?_))))
  refine And.intro rfl (And.intro rfl (And.intro rfl (And.intro (s1 _ (by simp)) (And.intro rfl ?_))))
  refine And.intro rfl (And.intro rfl (And.intro (s1 _ (by simp)) (And.intro rfl ?_)))
  refine And.intro rfl ?_
  refine And.intro (by decide +kernel) (And.intro (s1 _ (by decide +kernel)) ?_)
  show lcL (fTup2 (fName 3) (fName 4)) (mB (mVar 4)) (mVar 3) [some (.fn a), _, _, none, none] _ (zipD (slst (Txt.split "rope spans fact book question ring size index number text unlike none undo many failed value" " ")) (blst [bs 0, bs 1, bs 2, bs 3, bs 4, bs 5, bs 6, bs 7, bs 8, bs 9, bs 10, bs 11, bs 12, bs 13, bs 14, bs 15])) []
  rw [split_lb]
  refine lc_pick lbL _ [] (by decide) ?_
  have hp := pick_sum lbL [bs 0, bs 1, bs 2, bs 3, bs 4, bs 5, bs 6, bs 7, bs 8, bs 9, bs 10, bs 11, bs 12, bs 13, bs 14, bs 15]
  show match (some (slst (pickL lbL _))).bind strsOf with
    | some ys => (ys.map (·.length)).sum + ys.length * (" " : Str).length ≤ 16777216 ∧ _
    | none => False
  rw [Option.bind_some, strsOf_slst]
  have e1 : (lbL.map (·.length)).sum ≤ 1000 := by decide +kernel
  have e2 : lbL.length ≤ 1000 := by decide +kernel
  have e3 : (" " : Str).length ≤ 1 := by decide +kernel
  refine And.intro ?_ (And.intro rfl h)
  have e4 := Nat.mul_le_mul hp.2 e3
  omega
def wordL : List (Str × Str) := ([("InvalidRope", "rope value"), ("InvalidSpans", "spans value"), ("InvalidFact", "fact value"), ("InvalidBook", "book value"), ("InvalidQuestion", "question value"), ("InvalidRing", "ring value"), ("InvalidSize", "size value"),
  ("InvalidIndex", "index value"), ("InvalidNumber", "number value"), ("InvalidText", "text value"), ("Unlike", "unlike value"), ("NoRope", "none value"), ("NothingToUndo", "undo value")] : List (Str × Str))
def wordOf (c : Str) : Option Str := wordL.lookup c
def WordAt (K : PySem.W.Frag) (mg : Mg) (KE : Addr) (g : (Nat → Bool) → Str) (c ws : Str) : Prop := ∃ (D : Addr) (bs : Nat → Bool), mg.f c = some (.ref D) ∧ NmOk K mg D bs ∧ g bs = ws ∧ PySem.W.exmOne K (.ref D) (.ref KE) = some true
def mWord (me : Env → M Dv) : Env → M Dv := fun ρ Q _ => me ρ (fun _ => Q (.d (.str ""))) (fun x => x.arg = none ∧ match wordOf x.cls with
  | some ws => Q (.d (.str ws))
  | none => False)
theorem se_word {K : PySem.W.Frag} {mg : Mg} {E : XK} {KE : Addr} {g : (Nat → Bool) → Str} {t : XK → TE} {me : Env → M Dv} (hw : ∀ c ws, wordOf c = some ws → WordAt K mg KE g c ws) (he : ∀ E, SE K mg E (t E) me) : SE K mg E (tWord K mg g KE t) (mWord me) := fun en w ρ σ Q Ex R s h hq _ => by
  refine ⟨w.tabs, fun H1 f e tb => he _ en (w.lam H1 e tb) ρ σ _ _ _ (s.grow (Grow.lam e tb)) h (fun x v w2 g2 r2 q => hq _ _ w2 ((Grow.lam e tb).trans g2) (by simp [RS, Rp]) q) fun x u o w2 g2 q r => ?_⟩
  obtain ⟨ha, q⟩ := q
  split at q
  · rename_i ws e1
    obtain ⟨D, bs, h1, h2, h3, h4⟩ := hw _ _ e1
    obtain ⟨r1, r2⟩ := r
    rw [h1] at r1
    injection r1 with r1
    subst r1
    exact ⟨true, h4, fun _ a na => ⟨D, bs, w2, rfl, r2 ha, h2, rfl, rfl, fun w' g' => hq (.d (.str (g bs))) _ w' (((Grow.lam e tb).trans g2).trans g') (by simp [RS, Rp]) (by rw [h3]; exact q)⟩, fun z => nomatch z⟩
  · exact q.elim
end Ks
end

section
set_option Elab.async false
set_option linter.all false
set_option maxRecDepth 100000
set_option maxHeartbeats 4000000
/-! # Ranges: downward, as tuples and lists; more rules for a law's own text -/
namespace Ks
variable {T : List (PySem.Addr × PySem.Str)}
open PySem PySem.Spec PyProof.Rows L2
section
variable {K : PySem.W.Frag} {mg : Mg} {E : XK}
/-- lo, lo - 1, .. (n of them) -/
def rngDn (lo : Int) (n : Nat) : List Dt := (List.range n).map fun i => .int (lo - (i : Nat))
theorem wk_rngDn {lo : Int} {n : Nat} {G1 : Hp} : Wk K (Itc lo (-1) n) (rngDn lo n) G1 where
  go := fun w i g hi => by simpa [rngDn, Itc] using hi
  stop := fun w i g hi => by simpa [rngDn, Itc] using hi
  yld := fun w i x H' d g hd y => by
    obtain ⟨rfl, rfl⟩ := y
    refine ⟨w, .refl w, rfl, ?_⟩
    unfold rngDn at hd
    rw [List.getElem?_map] at hd
    cases e : (List.range n)[i]? with
    | none => rw [e] at hd; cases hd
    | some j =>
      rw [e] at hd
      obtain ⟨h1, h2⟩ := List.getElem?_eq_some_iff.mp e
      simp only [List.getElem_range] at h2
      subst h2
      simp only [Option.map_some, Option.some.injEq] at hd
      subst hd
      simp only [Rp]
      congr 1
      omega
def mRng3 (ma : Env → M (List Dv)) : Env → M (List Dt) := fun ρ Q Ex => ma ρ (fun xs => match xs with
  | [.d (.int i), .d (.int j), .d (.int (-1))] => (-(2 ^ 62) ≤ i ∧ i < 2 ^ 62 ∧ -(2 ^ 62) ≤ j ∧ j < 2 ^ 62) ∧ Q (rngDn i (i - j).toNat)
  | _ => False) Ex
theorem RSs.three {w : Wd T} {vs : List V} {x y z : Dv} (h : RSs K w vs [x, y, z]) : ∃ v u t, vs = [v, u, t] ∧ RS K w v x ∧ RS K w u y ∧ RS K w t z := by
  cases vs with
  | nil => exact h.elim
  | cons v vs =>
    obtain ⟨u, t, rfl, h1, h2⟩ := RSs.two h.2
    exact ⟨v, u, t, rfl, h.1, h1, h2⟩
theorem si_rng3 {k : Nat} {ta : TA} {ma : Env → M (List Dv)} (ha : SA K mg E k ta ma) : SI K mg E (iRng3 ta) (mRng3 ma) := fun en w ρ σ Q Ex R s h hq hx =>
  ha en w ρ σ _ Ex _ s h (fun xs vs w1 g1 r1 hl q => by
    split at q
    · rename_i i j
      obtain ⟨v, u, t, rfl, rv, ru, rt⟩ := r1.three
      simp only [RS, Rp] at rv ru rt; subst rv; subst ru; subst rt
      exact ⟨i, j, -1, (i - j).toNat, rfl, RgC.neg q.1.1 q.1.2.1 q.1.2.2.1 q.1.2.2.2, hq _ _ w1 g1 wk_rngDn q.2⟩
    · exact q.elim) hx
theorem rgV_rngD {G : Hp} {a b : Int} : RpA G (rngD a (b - a).toNat) (rgV a b) := by
  unfold rngD rgV
  generalize (b - a).toNat = n
  induction List.range n with
  | nil => exact .nil
  | cons i r ih => exact .cons (by simp [Rp]) ih
/-- tuple(range(n)), list(range(n)) -/
def mTupRg1 (me : Env → M Dv) : Env → M Dv := fun ρ Q Ex => me ρ (fun x => match x with
  | .d (.int n) => (-(2 ^ 62) ≤ n ∧ n ≤ 2 ^ 24) ∧ Q (.d (.tuple (rngD 0 n.toNat)))
  | _ => False) Ex
theorem se_tupRg1 {te : TE} {me : Env → M Dv} (he : SE K mg E te me) : SE K mg E (tTupRg (tRg1 te)) (mTupRg1 me) := fun en w ρ σ Q Ex R s h hq hx =>
  he en w ρ σ _ Ex _ s h (fun x v w1 g1 r1 q => by
    split at q
    · rename_i n
      simp only [RS, Rp] at r1; subst r1
      have e : (n - 0 : Int).toNat = n.toNat := by simp
      refine ⟨n, rfl, ⟨by omega, by omega, q.1.1, by omega, by rw [e]; omega⟩, fun p hp => hq _ _ (w1.add p _ hp tup_nt) (g1.trans (Grow.add hp tup_nt)) (new_tup hp ?_) q.2⟩
      rw [← e]
      exact rgV_rngD
    · exact q.elim) hx
/-- the items of a list or of a tuple -/
def iAny (K : PySem.W.Frag) (te : TE) : TI := fun σ H R => te σ H fun x H1 => ∃ a, x = .ref a ∧ (((∃ xs, SqL K H1 a xs) ∧ R (Itl K a) H1) ∨ ((∃ xs, SqT K H1 a xs) ∧ R (Itt K a) H1))
theorem pi_any {X : Cx} {tg l : Expr} {tl : TE} (hl : PE X l tl) : PI X tg l (iAny X.K tl) := by
  refine ⟨fun pins s σ H R I h => ?_⟩
  refine thn (hl.run pins s σ H _ I h) fun v s1 ⟨x, H1, I1, r1, q1⟩ => ?_
  obtain ⟨a, e, q1⟩ := q1
  subst e
  cases r1
  have fin : ∀ b ∈ [s1.heap.objs.size], FpOk X pins H1 b := fun b hb => by
    have e : b = s1.heap.objs.size := by simpa using hb
    subst e
    exact I1.fpOk (Nat.le_refl _) (I1.hok.fresh (Nat.le_refl _))
  rcases q1 with ⟨⟨xs, hq⟩, q⟩ | ⟨⟨xs, hq⟩, q⟩
  · obtain ⟨its, rv, p, hz⟩ := I1.list hq
    refine wpAny_pyIter_list p.isList ?_
    exact ⟨s1.heap.objs.size, [s1.heap.objs.size], _, _, H1, rfl, I1.kept (t' := s1.toks) fun b o e => Heap.get?_push_of_some _ e, turn_list a _, ⟨_, Heap.get?_push_size _ rfl, rfl, rfl⟩, fin, q⟩
  · obtain ⟨its, rv, p, hz⟩ := I1.tuple hq
    refine wpAny_pyIter_tuple (show s1.heap.IsTuple a its.toArray from p) ?_
    exact ⟨s1.heap.objs.size, [s1.heap.objs.size], _, _, H1, rfl, I1.kept (t' := s1.toks) fun b o e => Heap.get?_push_of_some _ e, turn_tuple a _, ⟨_, Heap.get?_push_size _ rfl, rfl, rfl⟩, fin, q⟩
def mItemsA (me : Env → M Dv) : Env → M (List Dt) := fun ρ Q Ex => me ρ (fun x => match x with
  | .d (.list ds) => Q ds
  | .d (.tuple ds) => Q ds
  | _ => False) Ex
theorem si_any {te : TE} {me : Env → M Dv} (he : SE K mg E te me) : SI K mg E (iAny K te) (mItemsA me) := fun en w ρ σ Q Ex R s h hq hx =>
  he en w ρ σ _ Ex _ s h (fun x v w1 g1 r1 q => by
    split at q
    · rename_i ds
      simp only [RS, Rp] at r1
      obtain ⟨a, vs, rfl, h1, h2⟩ := r1
      exact ⟨a, rfl, .inl ⟨⟨vs, SqL.of (w1.gh _ _ h1)⟩, hq ds _ w1 g1 (wk_list h1 h2) q⟩⟩
    · rename_i ds
      simp only [RS, Rp] at r1
      obtain ⟨a, vs, rfl, h1, h2⟩ := r1
      exact ⟨a, rfl, .inr ⟨⟨vs, SqT.of (w1.gh _ _ h1)⟩, hq ds _ w1 g1 (wk_tup h1 h2) q⟩⟩
    · exact q.elim) hx
/-- + with bools among ints -/
def fAddB : Dv → Dv → (Dv → Prop) → Prop
  | .d (.bool b), .d (.int j), Q => Q (.d (.int (b2 b + j)))
  | .d (.int i), .d (.bool b), Q => Q (.d (.int (i + b2 b)))
  | x, y, Q => fAdd x y Q
def rAddB (K : PySem.W.Frag) : R2 := fun x y H Q => rAddA K x y H Q ∨ rIB (· + ·) x y H Q
theorem op_addB {X : Cx} : OpR X (binaryOp .Add) (rAddB X.K) := op_addA.or op_addIB
theorem s2_addB : S2 K (rAddB K) fAddB := fun w x y v u Q R rx ry h hq => by
  unfold fAddB at h
  split at h
  · exact .inr (s2_IB w _ _ v u Q R rx ry (show fIB (· + ·) (.d (.bool _)) (.d (.int _)) Q from h) hq)
  · exact .inr (s2_IB w _ _ v u Q R rx ry (show fIB (· + ·) (.d (.int _)) (.d (.bool _)) Q from h) hq)
  · exact .inl (s2_add w _ _ v u Q R rx ry h hq)
/-- a def whose code object is known -/
theorem ok_ofC {P : Program} {w : World} {mg : Mg} {base : Heap} {x : Str} {st : Stmt} {f c : Addr} {oc kV doc pm ct : Value} {od an : Option Addr} {osl : Array (Option Value)} {N ps : List Str} {k : Nat} {F : List Dv → M Dv} {ms : MS}
    (lk : K.lookup f = some ⟨oc, od, .func (PySem.W.fnOf x x (defArgs st) (defBody st) (defScope st) .none kV doc pm an (.ref c) ct), osl⟩) (hcd : PySem.W.codeIn K (.ref c) x = true) (S : FnScope N ps (defScope st))
    (hb : ∀ (A : Around) (outer : List PySem.Env) (s : Shared) (H : Hp) (E : XK), Room k (A.deeper (envOfC x (defScope st) s.heap.objs.size f (.ref c))) →
      ∃ ts, PSs (cxOf (L2N.CX P w) P w K mg.f base N x (defScope st) f (.ref c) A outer s H E) (defBody st) ts ∧ SS K mg E ts ms)
    (hF : ∀ xs Q Ex, xs.length = ps.length → F xs Q Ex → ms (endM Q Ex) (startE N.length xs)) : FnOk P w K mg.f base (L2N.CX P w) (k + 1) f (PySem.W.fnOf x x (defArgs st) (defBody st) (defScope st) .none kV doc pm an (.ref c) ct) ps (spF K mg ps.length F) := by
  refine fn_of lk hcd S (fun vs H Q E h => ?_) (fun A outer s H vs Q E hr h => ?_)
  · obtain ⟨w', xs, _, _, _, r, hl, _⟩ := h
    rw [r.length, hl]
  · obtain ⟨w', xs, Qd, Ex, rfl, r, hl, no, hf, hq, he⟩ := h
    obtain ⟨ts, h1, h2⟩ := hb A outer s w'.H E hr
    refine ⟨ts, h1, h2 w' w' _ _ _ _ (St.start r no) (hF xs Qd Ex hl hf) ⟨fun w2 ρ σ _ s2 q => hq .non (.d .none) w2 s2.gr (by simp [RS, Rp]) rfl q, fun w2 v x g r2 o q => hq v x w2 g r2 o q, fun _ _ _ _ _ z => z.elim, fun _ _ _ _ _ z => z.elim, fun x u o w2 g q r => he x u o w2 g q r⟩⟩
end
end Ks
end

section
set_option Elab.async false
set_option linter.all false
set_option maxRecDepth 100000
set_option maxHeartbeats 4000000
/-! # The end: what the top has left, the law's call -/
namespace Ks
open PySem PySem.Spec PyProof.Rows L2
theorem funAt_of {K : PySem.W.Frag} {h : Heap} {mg : Mg} {x : Str} {st : Stmt} {f : Addr} {oc : Value} {od an : Option Addr} {osl : Array (Option Value)} {kV doc pm cdv ct : Value} (X : K.In h) (G : h.Ns mainGlobals mg.f)
    (a : PySem.W.nsIn K mainGlobals x = some (some (.ref f))) (l : K.lookup f = some ⟨oc, od, .func (PySem.W.fnOf x x (defArgs st) (defBody st) (defScope st) .none kV doc pm an cdv ct), osl⟩) (c : PySem.W.codeIn K cdv x = true) (k : PySem.W.keepIn K (.ref f) = true) : FunAt K mg x st :=
  ⟨f, _, fun_mk l c k, PySem.W.mg_of X G a⟩
theorem excAt_of {K : PySem.W.Frag} {h : Heap} {mg : Mg} {x : Str} {C : Addr} (X : K.In h) (G : h.Ns mainGlobals mg.f) (a : PySem.W.nsIn K mainGlobals x = some (some (.ref C)))
    (e : PySem.W.excIn K C [.type "ValueError", .type "Exception", .type "BaseException", .type "object"] "ValueError.__new__" = true) (k : PySem.W.keepIn K (.ref C) = true) (b : PySem.W.subIn K (.ref C) (.type "BaseException") = some true) (t : PySem.W.typeIn K (.ref C) = some (.type "type")) : ExcAt K mg x :=
  ⟨C, PySem.W.mg_of X G a, e, k, b, t⟩
/-- the names of a list of classes -/
theorem nmOk_of {K : PySem.W.Frag} {h : Heap} {mg : Mg} {D : Addr} {bs : Nat → Bool} {Cs : List Addr} (X : K.In h) (G : h.Ns mainGlobals mg.f) (ex : ExcC K D) (hn : nmL.map (PySem.W.nsIn K mainGlobals) = Cs.map fun C => some (some (.ref C)))
    (hk : Cs.map (fun C => PySem.W.kitOne K (.ref D) (.ref C)) = (List.range 15).map fun i => some (bs i)) (hv : PySem.W.kitOne K (.ref D) (.type "ValueError") = some (bs 15)) : NmOk K mg D bs := by
  refine ⟨ex, fun i nm e => ?_, hv⟩
  have h1 : (nmL.map (PySem.W.nsIn K mainGlobals))[i]? = some (PySem.W.nsIn K mainGlobals nm) := by rw [List.getElem?_map, e]; rfl
  rw [hn, List.getElem?_map] at h1
  obtain ⟨C, h2, h3⟩ := Option.map_eq_some_iff.mp h1
  have h4 : (Cs.map (fun C => PySem.W.kitOne K (.ref D) (.ref C)))[i]? = some (PySem.W.kitOne K (.ref D) (.ref C)) := by rw [List.getElem?_map, h2]; rfl
  rw [hk, List.getElem?_map] at h4
  obtain ⟨j, h5, h6⟩ := Option.map_eq_some_iff.mp h4
  have hi := (List.getElem?_eq_some_iff.mp h5)
  obtain ⟨hi, hj⟩ := hi
  simp only [List.getElem_range] at hj
  subst hj
  exact ⟨C, PySem.W.mg_of X G h3.symm, h6.symm⟩
theorem nmap_cons {K : PySem.W.Frag} {x : Str} {C : Addr} {xs : List Str} {Cs : List Addr} (h : PySem.W.nsIn K mainGlobals x = some (some (.ref C))) (t : xs.map (PySem.W.nsIn K mainGlobals) = Cs.map fun C => some (some (.ref C))) :
    (x :: xs).map (PySem.W.nsIn K mainGlobals) = (C :: Cs).map fun C => some (some (.ref C)) := by
  rw [List.map_cons, List.map_cons, h, t]
/-- an error's words, from what the kernel sees of its class -/
theorem wordAt_of {K : PySem.W.Frag} {h : Heap} {mg : Mg} {KE D : Addr} {c ws : Str} {Cs : List Addr} (bs : Nat → Bool) (X : K.In h) (G : h.Ns mainGlobals mg.f) (hn : nmL.map (PySem.W.nsIn K mainGlobals) = Cs.map fun C => some (some (.ref C))) (a : PySem.W.nsIn K mainGlobals c = some (some (.ref D)))
    (e1 : PySem.W.findIn K (.ref D) "__getattribute__" = some (some (.builtin "BaseException.__getattribute__"))) (e2 : PySem.W.findIn K (.ref D) "__getattr__" = some none) (e3 : PySem.W.subIn K (.ref D) (.type "BaseException") = some true) (e4 : PySem.W.hasDictIn K D = true)
    (e5 : PySem.W.findIn K (.ref D) "__class__" = some (some (.builtin "object.__class__"))) (e6 : PySem.W.specialIn K (.builtin "object.__class__") "__get__" = some (some (.builtin "getset_descriptor.__get__"))) (e7 : PySem.W.takesIn K (.builtin "object.__class__") = some true) (e8 : PySem.W.mroIn K D (.type "object") = some true)
    (hk : Cs.map (fun C => PySem.W.kitOne K (.ref D) (.ref C)) = (List.range 15).map fun i => some (bs i)) (hv : PySem.W.kitOne K (.ref D) (.type "ValueError") = some (bs 15)) (hw : wordsBs bs = ws) (he : PySem.W.exmOne K (.ref D) (.ref KE) = some true) : WordAt K mg KE wordsBs c ws :=
  ⟨D, bs, PySem.W.mg_of X G a, nmOk_of X G ⟨e1, e2, e3, e4, e5, e6, e7, e8⟩ hn hk hv, hw, he⟩
section
variable {l : PySem.W.OpenLaw}
theorem walk_ks {n k : Nat} {q : Program} {loose : List Str} {XP : (Str → Option Value) → Heap → Prop} {YP : World → Heap → Prop} {d : DefRec} {K : Params → PySem.W.Frag} {x : Str}
    (hn : l.most = some n) (hn2 : n ≤ sizeLine) (hdf : d.params.defaults = []) (hr : Room k callerA)
    (F : ∀ (w : World) (mg : Str → Option Value) (fa : Addr) (h : Heap), XP mg h → YP w h → h.Ns mainGlobals mg → mg d.name = some (.ref fa) → (K w.params).In h ∧ LamX.LawAtS l w (K w.params) (L2N.CX l.prog w) k n x mg fa h) :
    PySem.W.WalkO q loose XP YP l.row.toRowW d [] (fun f vs => PySem.call f vs) := by
  refine Att.attach_callB hn hdf fun w s₀ s₁ mg mb fa o pm cd doc a vs ns G Y ho hd hcd hmg hobj hints hlen hbits hg => ?_
  obtain ⟨KX, fd, cs, sp, hT, nT, C, hb, hsp, hF⟩ := F w mg fa _ G.X Y G.T.g hmg
  exact LamX.law_callTs KX G.T.g G.T.b G.T.builtins G.T.nolimit hg hT nT C G.T.bmain hobj hints (Nat.le_trans hlen hn2) hr hF hb (fun H hH hS => hsp H a ns hlen hbits hH hS) fun H e s' ⟨_, _, _, _, _, _, _, _, _, _, _, _, z⟩ => z
/-- the world in which the law is called -/
theorem start_ks {K : PySem.W.Frag} {mg : Mg} {H : Hp} {a : Addr} {ns : List Int} {F : List Dv → M Dv} (hT : ∀ p ∈ mg.T, H p.1 = some (.tbl #[])) (hS : SqL K H a (ns.map V.int)) (hm : F [.scr ns] (fun v => v = .d (.bool true)) (fun _ => False)) :
    spF K mg 1 F [.ref a] H (fun v _ => v = .bl true) fun _ _ _ => False := by
  let G : Hp := fun b => match H b with
    | some (.tbl _) => none
    | x => x
  have gh : Same G H := fun b o e => by
    have e' : (match H b with | some (.tbl _) => none | x => x) = some o := e
    split at e'
    · cases e'
    · exact e'
  have gg : ∀ b o, H b = some o → (∀ ps, o ≠ .tbl ps) → G b = some o := fun b o e n => by
    show (match H b with | some (.tbl _) => none | x => x) = some o
    rw [e]
    cases o <;> first | rfl | exact (n _ rfl).elim
  refine ⟨⟨fun _ => False, G, H, gh, fun _ z => z.elim, fun b ps e => ?_, fun _ z => z.elim, fun p hp => LamX.TabS.nil (hT p hp)⟩, [.scr ns], _, _, rfl, ⟨⟨a, rfl, ?_⟩, trivial⟩, rfl, rfl, hm, fun v x w' _ r _ q => ?_, fun _ _ _ _ _ z => z.elim⟩
  · have e' : (match H b with | some (.tbl _) => none | x => x) = some (.tbl ps) := e
    split at e'
    · cases e'
    · rename_i h1
      exact h1 _ e'
  · show SqL K G a (ns.map V.int)
    rcases hS with (h | ⟨o, h⟩) | h
    · exact .inl (.inl (gg _ _ h (fun _ z => nomatch z)))
    · exact .inl (.inr ⟨o, gg _ _ h (fun _ z => nomatch z)⟩)
    · exact .inr h
  · subst q
    simpa [RS, Rp] using r
/-- one def with lambdas, the law itself -/
theorem lawAt1 {w : World} {K : PySem.W.Frag} {k n : Nat} {mg : Str → Option Value} {fa c P : Addr} {h : Heap} {fd : FuncData} {F : List Dv → M Dv} {q : Str} (X : K.In h) (hP : h.get? P = some (PySem.W.tabObj #[])) (nP : K.lookup P = none) (C : PySem.W.codeHdIn K c P = true)
    (hb : ∀ (s : Shared) (u : Value), BindsTo s fd ⟨[u], []⟩ [(("script" : Str), u)]) (hm : ∀ ns : List Int, ns.length ≤ n → (∀ z ∈ ns, Builtin.Int.intBits z ≤ 1048576) → F [.scr ns] (fun v => v = .d (.bool true)) (fun _ => False))
    (hF : ∀ base : Heap, K.In base → base.Ns mainGlobals mg → LamX.TabB base mg c P → FnOk l.prog w K mg base (L2N.CX l.prog w) k fa fd ["script"] (spF K ⟨mg, [(P, q)]⟩ 1 F)) : LamX.LawAtS l w K (L2N.CX l.prog w) k n "script" mg fa h := by
  refine ⟨fd, [(c, P)], _, fun p hp => ?_, fun p hp => ?_, fun p hp => ?_, hb, fun H a ns hl hbits hH hS => start_ks (mg := ⟨mg, [(P, q)]⟩) (fun p hp => ?_) hS (hm ns hl hbits), fun base Kb Gb TB => hF base Kb Gb (TB (c, P) (by simp))⟩
  · obtain rfl : p = (c, P) := by simpa using hp
    exact hP
  · obtain rfl : p = (c, P) := by simpa using hp
    exact nP
  · obtain rfl : p = (c, P) := by simpa using hp
    exact PySem.W.codeHd_of_K X C
  · obtain rfl : p = (P, q) := by simpa using hp
    exact hH (c, P) (by simp)
end
end Ks
end

section
set_option Elab.async false
set_option linter.all false
set_option maxRecDepth 100000
set_option maxHeartbeats 4000000
/-! # Plain words about the meanings: loops, comprehensions, spans of int lists -/
namespace Ks
open PySem PySem.Spec PyProof.Rows L2
theorem lcL_nil {f : Env → Dt → (Env → Prop) → Prop} {mt : Env → M Bool} {me : Env → M Dv} {ρ0 : Env} {Q : List Dt → Prop} {acc : List Dt} : lcL f mt me ρ0 Q [] acc = Q acc := by unfold lcL; rfl
/-- one turn of a comprehension: K1 with the new item, K2 without -/
def Step (f : Env → Dt → (Env → Prop) → Prop) (mt : Env → M Bool) (me : Env → M Dv) (ρ0 : Env) (d : Dt) (K1 : Dt → Prop) (K2 : Prop) : Prop :=
  f ρ0 d fun ρ1 => mt ρ1 (fun b => if b = true then me ρ1 (fun y => match y with
    | .d p => K1 p
    | _ => False) (fun _ => False) else K2) (fun _ => False)
theorem lcL_cons {f : Env → Dt → (Env → Prop) → Prop} {mt : Env → M Bool} {me : Env → M Dv} {ρ0 : Env} {Q : List Dt → Prop} {d : Dt} {ds acc : List Dt} :
    lcL f mt me ρ0 Q (d :: ds) acc = Step f mt me ρ0 d (fun p => acc.length < sizeLine ∧ lcL f mt me ρ0 Q ds (acc ++ [p])) (lcL f mt me ρ0 Q ds acc) := by
  rw [lcL]; rfl
/-- a comprehension without draws: o tells what each item gives -/
theorem lcL_fm {f : Env → Dt → (Env → Prop) → Prop} {mt : Env → M Bool} {me : Env → M Dv} {ρ0 : Env} {Q : List Dt → Prop} (o : Dt → Option Dt) : ∀ (ds acc : List Dt), acc.length + ds.length < sizeLine →
    (∀ d ∈ ds, ∀ (K1 : Dt → Prop) (K2 : Prop), (match o d with | some p => K1 p | none => K2) → Step f mt me ρ0 d K1 K2) → Q (acc ++ ds.filterMap o) → lcL f mt me ρ0 Q ds acc
  | [], acc, _, _, q => by rw [lcL_nil]; simpa using q
  | d :: ds, acc, hl, h, q => by
    rw [lcL_cons]
    refine h d List.mem_cons_self _ _ ?_
    have hl' : acc.length + ds.length + 1 < sizeLine := by simpa [Nat.add_assoc] using hl
    cases e : o d with
    | none =>
      rw [List.filterMap_cons, e] at q
      exact lcL_fm o ds acc (by omega) (fun d hd => h d (List.mem_cons_of_mem _ hd)) q
    | some p =>
      rw [List.filterMap_cons, e] at q
      exact ⟨by omega, lcL_fm o ds (acc ++ [p]) (by simp; omega) (fun d hd => h d (List.mem_cons_of_mem _ hd)) (by simpa using q)⟩
/-- .. each item gives one -/
theorem lcL_map {f : Env → Dt → (Env → Prop) → Prop} {mt : Env → M Bool} {me : Env → M Dv} {ρ0 : Env} {Q : List Dt → Prop} (o : Dt → Dt) (ds : List Dt) (hl : ds.length < sizeLine)
    (h : ∀ d ∈ ds, ∀ (K1 : Dt → Prop) (K2 : Prop), K1 (o d) → Step f mt me ρ0 d K1 K2) (q : Q (ds.map o)) : lcL f mt me ρ0 Q ds [] := by
  refine lcL_fm (fun d => some (o d)) ds [] (by simpa using hl) (fun d hd K1 K2 k => h d hd K1 K2 k) ?_
  simpa using q
/-- a comprehension with draws: P holds of each item -/
theorem lcL_all {f : Env → Dt → (Env → Prop) → Prop} {mt : Env → M Bool} {me : Env → M Dv} {ρ0 : Env} {Q : List Dt → Prop} (P : Dt → Prop) : ∀ (ds acc : List Dt), acc.length + ds.length < sizeLine →
    (∀ d ∈ ds, ∀ (K1 : Dt → Prop) (K2 : Prop), (∀ p, P p → K1 p) → Step f mt me ρ0 d K1 K2) → (∀ ps : List Dt, ps.length = ds.length → (∀ p ∈ ps, P p) → Q (acc ++ ps)) → lcL f mt me ρ0 Q ds acc
  | [], acc, _, _, q => by rw [lcL_nil]; simpa using q [] rfl (fun _ h => nomatch h)
  | d :: ds, acc, hl, h, q => by
    rw [lcL_cons]
    refine h d List.mem_cons_self _ _ fun p hp => ?_
    have hl' : acc.length + ds.length + 1 < sizeLine := by simpa [Nat.add_assoc] using hl
    refine ⟨by omega, lcL_all P ds (acc ++ [p]) (by simp; omega) (fun d hd => h d (List.mem_cons_of_mem _ hd)) fun ps hps hP => ?_⟩
    have := q (p :: ps) (by simp [hps]) (by
      intro x hx
      rcases List.mem_cons.mp hx with rfl | hx
      · exact hp
      · exact hP x hx)
    rw [List.append_assoc]
    exact this
theorem forL_nil {f : Env → Dt → (Env → Prop) → Prop} {body : MS} {B : Me} {ρ : Env} : forL f body B [] ρ = B.nx ρ := by unfold forL; rfl
theorem forL_cons {f : Env → Dt → (Env → Prop) → Prop} {body : MS} {B : Me} {ρ : Env} {d : Dt} {ds : List Dt} : forL f body B (d :: ds) ρ = f ρ d fun ρ1 => body { B with nx := forL f body B ds, ct := forL f body B ds, bk := B.nx } ρ1 := by rw [forL]
/-- a loop by an invariant over what is still to come -/
theorem forL_inv {f : Env → Dt → (Env → Prop) → Prop} {body : MS} {B : Me} (I : List Dt → Env → Prop) (hs : ∀ (d : Dt) (ds : List Dt) (ρ : Env) (N : Env → Prop), I (d :: ds) ρ → (∀ ρ', I ds ρ' → N ρ') → f ρ d fun ρ1 => body { B with nx := N, ct := N, bk := B.nx } ρ1)
    (hd : ∀ ρ, I [] ρ → B.nx ρ) : ∀ (ds : List Dt) (ρ : Env), I ds ρ → forL f body B ds ρ
  | [], ρ, i => by rw [forL_nil]; exact hd ρ i
  | d :: ds, ρ, i => by
    rw [forL_cons]
    exact hs d ds ρ _ i fun ρ' i' => forL_inv I hs hd ds ρ' i'
theorem whileN_succ {mt : Env → M Bool} {body : MS} {B : Me} {n : Nat} {ρ : Env} : whileN mt body B (n + 1) ρ = mt ρ (fun c => if c = true then body { B with nx := whileN mt body B n, ct := whileN mt body B n, bk := B.nx } ρ else B.nx ρ) B.ex := by rw [whileN]
/-! ### the meanings step by step -/
section
variable {m n : MS} {B : Me} {ρ : Env} {mt mu : Env → M Bool} {me mf' ma mb mc : Env → M Dv} {mf : Env → M (List Dt)} {mr : Env → M (List Dv)} {Q : Dv → Prop} {Ex : Exn → Prop} {K : Bool → Prop}
theorem w_seq (h : m { B with nx := n B } ρ) : mSeq m n B ρ := h
theorem w_nx (h : B.nx ρ) : mNext B ρ := h
theorem w_if (h : mt ρ (fun c => if c = true then m B ρ else n B ρ) B.ex) : mIfS mt m n B ρ := h
theorem w_ret (h : me ρ (fun x => x.isOwn = false ∧ B.rt x) B.ex) : mRet me B ρ := h
theorem w_drop (h : me ρ (fun _ => B.nx ρ) B.ex) : mDrop me B ρ := h
theorem w_set {i : Nat} (h : me ρ (fun x => B.nx (ρ.set i (some x))) B.ex) : mSet i me B ρ := h
theorem w_par {i j : Nat} (h : me ρ (fun x => mf' ρ (fun y => B.nx ((ρ.set i (some x)).set j (some y))) B.ex) B.ex) : mPar i j me mf' B ρ := h
theorem w_val (h : me ρ (fun x => x.isOwn = false ∧ Q x) Ex) : mVal me ρ Q Ex := h
theorem w_f (h : mf ρ (fun ds => Q (.d (.list ds))) Ex) : mF mf ρ Q Ex := h
theorem w_lst {Q : List Dt → Prop} (h : mr ρ (fun xs => match dts xs with
  | some ps => Q ps
  | none => False) Ex) : mLst mr ρ Q Ex := h
theorem w_own (h : mf ρ (fun ds => Q (.own ds)) Ex) : mOwn mf ρ Q Ex := h
theorem w_cons {Q : List Dv → Prop} (h : ma ρ (fun x => mr ρ (fun xs => Q (x :: xs)) Ex) Ex) : mCons ma mr ρ Q Ex := h
theorem w_nil {Q : List Dv → Prop} (h : Q []) : mNil ρ Q Ex := h
theorem w_call {F : List Dv → M Dv} (h : mr ρ (fun xs => noOwn xs = true ∧ F xs Q Ex) Ex) : mCall F mr ρ Q Ex := h
theorem w_var {i : Nat} {x : Dv} (e : ρ[i]? = some (some x)) (h : Q x) : mVar i ρ Q Ex := by
  unfold mVar
  rw [e]
  exact h
theorem w_c {p : Dt} (h : Q (.d p)) : mC p ρ Q Ex := h
theorem w_bin {f : Dv → Dv → (Dv → Prop) → Prop} (h : ma ρ (fun x => mb ρ (fun y => f x y Q) Ex) Ex) : mBin f ma mb ρ Q Ex := h
theorem w_cb {f : List Dv → (Dv → Prop) → Prop} (h : mr ρ (fun xs => f xs Q) Ex) : mCB f mr ρ Q Ex := h
theorem w_cf {f : List Dv → (List Dt → Prop) → Prop} {Q : List Dt → Prop} (h : mr ρ (fun xs => f xs Q) Ex) : mCF f mr ρ Q Ex := h
theorem w_and (h : mt ρ (fun c => if c = true then mu ρ K Ex else K false) Ex) : mAnd mt mu ρ K Ex := h
theorem w_or (h : mt ρ (fun c => if c = true then K true else mu ρ K Ex) Ex) : mOr mt mu ρ K Ex := h
theorem w_not (h : mt ρ (fun c => K (!c)) Ex) : mNot mt ρ K Ex := h
theorem w_B (h : ma ρ (fun x => match x with
  | .d (.bool k) => K k
  | _ => False) Ex) : mB ma ρ K Ex := h
theorem w_ifE (h : mt ρ (fun c => if c = true then ma ρ Q Ex else mb ρ Q Ex) Ex) : mIf mt ma mb ρ Q Ex := h
end
/-! ### int lists as data -/
theorem ilst_len (ns : List Int) : (ilst ns).length = ns.length := by simp [ilst]
theorem ilst_map_mem {ns : List Int} {d : Dt} (h : d ∈ ilst ns) : ∃ n ∈ ns, d = .int n := by
  unfold ilst at h
  obtain ⟨n, h1, h2⟩ := List.mem_map.mp h
  exact ⟨n, h1, h2.symm⟩
theorem any_eqF {ns : List Int} {a : Int} : (ilst ns).any (fun z => eqF z (.int a)) = ns.contains a := by
  unfold ilst
  rw [List.any_map]
  induction ns with
  | nil => rfl
  | cons n ns ih =>
    rw [List.any_cons, ih, List.contains_cons]
    congr 1
    show (n == a) = (a == n)
    rw [Bool.eq_iff_iff, beq_iff_eq, beq_iff_eq]
    exact eq_comm
theorem all_flat {ns : List Int} : (ilst ns).all flatD = true := by
  unfold ilst
  simp [flatD]
/-! ### gauges -/
/-- g is the greatest number up to which all are in S -/
def IsGauge (S : List Int) (g : Int) : Prop := 0 ≤ g ∧ (∀ k : Int, 1 ≤ k → k ≤ g → k ∈ S) ∧ g + 1 ∉ S
theorem IsGauge.uniq {S : List Int} {g g' : Int} (h : IsGauge S g) (h' : IsGauge S g') : g = g' := by
  obtain ⟨a, b, c⟩ := h
  obtain ⟨a', b', c'⟩ := h'
  rcases Int.lt_trichotomy g g' with l | l | l
  · exact absurd (b' (g + 1) (by omega) (by omega)) c
  · exact l
  · exact absurd (b (g' + 1) (by omega) (by omega)) c'
theorem nodup_sub_len : ∀ (xs S : List Int), xs.Nodup → (∀ x ∈ xs, x ∈ S) → xs.length ≤ S.length
  | [], S, _, _ => by simp
  | x :: xs, S, nd, sub => by
    obtain ⟨n1, n2⟩ := List.nodup_cons.mp nd
    have hx : x ∈ S := sub x List.mem_cons_self
    have ih := nodup_sub_len xs (S.erase x) n2 fun y hy => by
      have ne : y ≠ x := fun e => n1 (e ▸ hy)
      exact (List.mem_erase_of_ne ne).mpr (sub y (List.mem_cons_of_mem _ hy))
    have e := List.length_erase_of_mem hx
    have : 0 < S.length := List.length_pos_of_mem hx
    rw [List.length_cons]
    omega
theorem pigeon {S : List Int} {n : Nat} (h : ∀ k : Int, 1 ≤ k → k ≤ n → k ∈ S) : n ≤ S.length := by
  have hs : ((List.range n).map fun i => ((i : Nat) : Int) + 1).Nodup := by
    rw [List.nodup_iff_pairwise_ne, List.pairwise_map]
    exact (List.nodup_iff_pairwise_ne.mp List.nodup_range).imp fun h e => h (by omega)
  have hsub : ∀ x ∈ ((List.range n).map fun i => ((i : Nat) : Int) + 1), x ∈ S := fun x hx => by
    obtain ⟨i, hi, rfl⟩ := List.mem_map.mp hx
    have := List.mem_range.mp hi
    exact h _ (by omega) (by omega)
  have := nodup_sub_len _ _ hs hsub
  simpa using this
end Ks
end

section
set_option Elab.async false
set_option linter.all false
set_option maxRecDepth 100000
set_option maxHeartbeats 4000000
/-! # Defs as values, lists put together anew, the order of tuples -/
namespace Ks
variable {T : List (PySem.Addr × PySem.Str)}
open PySem PySem.Spec PyProof.Rows L2
/-- the address of a def, by its name -/
def adOf (mg : Mg) (x : Str) : Addr := match mg.f x with
  | some (.ref a) => a
  | _ => 0
theorem FunAt.ad {K : PySem.W.Frag} {mg : Mg} {x : Str} {st : Stmt} (F : FunAt K mg x st) : mg.f x = some (.ref (adOf mg x)) := by
  obtain ⟨f, fd, _, h⟩ := F
  unfold adOf
  rw [h]
section
variable {K : PySem.W.Frag} {mg : Mg} {E : XK}
def mFn (a : Addr) : Env → M Dv := fun _ Q _ => Q (.d (fnD a))
theorem se_fn {a : Addr} : SE K mg E (tC (.ref a)) (mFn a) := fun en w ρ σ Q Ex R s h hq _ => hq (.d (fnD a)) _ w (.refl w) (rp_fn (G := w.G).mpr rfl) h
abbrev Cand := Addr × (List Dv → M Dv)
/-- a call of what a slot holds: one of some defs -/
def mCallC (i : Nat) (C : List Cand) (ma : Env → M (List Dv)) : Env → M Dv := fun ρ Q Ex => ∃ c ∈ C, ρ[i]? = some (some (.d (fnD c.1))) ∧ ma ρ (fun xs => noOwn xs = true ∧ c.2 xs Q Ex) Ex
structure CandOk (P : Program) (w : World) (K : PySem.W.Frag) (mg : Mg) (base : Heap) (k n : Nat) (c : Cand) : Prop where
  ex : ∃ (fd : FuncData) (ps : List Str), FnOk P w K mg.f base (L2N.CX P w) k c.1 fd ps (spF K mg n c.2) ∧ PySem.W.keepIn K (.ref c.1) = true ∧ Binds K fd ps []
theorem cand_of {P : Program} {w : World} {base : Heap} {x : Str} {k n : Nat} {ps : List Str} {F : List Dv → M Dv} (D : Df P w K mg base x k ps F) (h : ps.length = n := by rfl) : CandOk P w K mg base k n (adOf mg x, F) := by
  obtain ⟨f, fd, h1, h2, h3, h4⟩ := D
  have e : adOf mg x = f := by unfold adOf; rw [h2]
  subst h
  refine ⟨fd, ps, ?_, ?_, h4⟩
  · show FnOk P w K mg.f base (L2N.CX P w) k (adOf mg x) fd ps _
    rw [e]; exact h1
  · show PySem.W.keepIn K (.ref (adOf mg x)) = true
    rw [e]; exact h3
theorem cands_nil {P : Program} {w : World} {base : Heap} {k n : Nat} : ∀ c ∈ ([] : List Cand), CandOk P w K mg base k n c := fun _ h => nomatch h
theorem cands_cons {P : Program} {w : World} {base : Heap} {k n : Nat} {c : Cand} {C : List Cand} (h : CandOk P w K mg base k n c) (t : ∀ c ∈ C, CandOk P w K mg base k n c) : ∀ x ∈ c :: C, CandOk P w K mg base k n x := List.forall_mem_cons.mpr ⟨h, t⟩
def tCallC (K : PySem.W.Frag) (mg : Mg) (n i : Nat) (C : List Cand) (E : XK) (t : TA) : TE := fun σ H Q => ∃ c ∈ C, σ[i]? = some (some (.ref c.1)) ∧ t σ H fun vs H1 => spF K mg n c.2 (vs ++ []) H1 Q E
theorem se_callC {i n : Nat} {C : List Cand} {t : TA} {ma : Env → M (List Dv)} (ha : SA K mg E n t ma) : SE K mg E (tCallC K mg n i C E t) (mCallC i C ma) := fun en w ρ σ Q Ex R s h hq he => by
  obtain ⟨c, hc, e, h⟩ := h
  obtain ⟨v, h1, h2⟩ := s.rs i _ e
  obtain rfl := rp_fn.mp (show Rp w.G (fnD c.1) v from h2)
  refine ⟨c, hc, h1, ha en w ρ σ _ Ex _ s h (fun xs vs w1 g1 r1 hl q => ?_) he⟩
  rw [List.append_nil]
  exact ⟨w1, xs, Q, Ex, rfl, r1, hl, q.1, q.2, fun v x w2 g2 r2 _ q2 => hq x v w2 (g1.trans g2) r2 q2, fun x u o w2 g2 q2 r2 => he x u o w2 (g1.trans g2) q2 r2⟩
end
section
variable {X : Cx} {mg : Mg} {x : Str} {k n i : Nat} {E : XK} {e : Expr} {es : List Expr} {t : TA} {p pos : Pos} {C : List Cand}
theorem pe_callC (h : ∀ c ∈ C, CandOk X.prog X.w X.K mg X.base k n c) (hr : Room k X.A) (hN : X.N[i]? = some x) (hv : Vis X.env.scope x) (hx : Passes (L2N.CX X.prog X.w) X E) (ha : PA X (e :: es) t) (hmg : mg.f = X.mg := by rfl)
    (hdb : (x == ("__debug__" : Str)) = false := by decide) (hcd : (x == ("__classdict__" : Str)) = false := by decide)
    (he : starEach (e :: es) X.env = (false, eval e X.env) :: starEach es X.env := by rfl) (hpl : (backTo pos (starEach es X.env)).any (·.1) = false := by rfl) : PE X (.Call (.Name x p) (e :: es) [] pos) (tCallC X.K mg n i C E t) := by
  refine ⟨fun pins s σ H Q I h' => ?_⟩
  obtain ⟨c, hc, hs, ht⟩ := h'
  obtain ⟨fd, ps, F, hk, hb⟩ := (h c hc).ex
  rw [hmg] at F
  exact (pe_callL F hr hN hv hk hb .nil hx ha hdb hcd he hpl).run pins s σ H Q I ⟨hs, ht⟩
end
/-! ### xs + ys as a new list -/
section
variable {K : PySem.W.Frag} {mg : Mg} {E : XK} {ta tb : TE} {ma mb : Env → M Dv}
def mFAdd (ma mb : Env → M Dv) : Env → M (List Dt) := fun ρ Q Ex => ma ρ (fun x => mb ρ (fun y => match x.ls?, y.ls? with
  | some xs, some ys => xs.length + ys.length ≤ sizeLine ∧ Q (xs ++ ys)
  | _, _ => False) Ex) Ex
theorem sf_add (ha : SE K mg E ta ma) (hb : SE K mg E tb mb) : SF K mg E (tOp (rAddA K) ta tb) (mFAdd ma mb) := fun en w ρ σ Q Ex R s h hq he =>
  ha en w ρ σ _ Ex _ s h (fun x v w1 g1 r1 h1 => hb en w1 ρ σ _ Ex _ (s.grow g1) h1 (fun y u w2 g2 r2 h2 => by
    split at h2
    · rename_i xs ys e1 e2
      obtain ⟨a, vs, rfl, a1, a2⟩ := ls_rs (r1.grow g2) e1
      obtain ⟨b, us, rfl, b1, b2⟩ := ls_rs r2 e2
      refine .inr ⟨a, b, vs, us, rfl, rfl, a1, b1, by rw [a2.length, b2.length]; exact h2.1, fun p hp => ?_⟩
      exact hq (xs ++ ys) p (vs ++ us) (w2.lay p (.lst (vs ++ us)) hp) ((g1.trans g2).trans (Grow.lay hp)) ((g1.trans g2).dom p (.of hp)) (Wd.g_none (w := w2) hp) (fun hc => (w2.cat p hc).ne hp rfl) upd_same (a2.append b2) h2.2
    · exact h2.elim) (fun x u o w' g => he x u o w' (g1.trans g))) he
end
/-! ### the order of tuples of ints -/
def fCmpT (g : Int → Int → Bool) (l : List Int → List Int → Bool) : Dv → Dv → (Dv → Prop) → Prop
  | .d (.int i), .d (.int j), Q => Q (.d (.bool (g i j)))
  | .d (.tuple xs), .d (.tuple ys), Q => match intsOf xs, intsOf ys with
    | some ns, some ms => Q (.d (.bool (l ns ms)))
    | _, _ => False
  | _, _, _ => False
abbrev fLtT := fCmpT (fun i j => decide (i < j)) HT.lexLt
def rLtA (K : PySem.W.Frag) : R2 := fun x y H Q => rI0 (fun i j => .bl (decide (i < j))) x y H Q ∨ rLtT K x y H Q
theorem op_ltA {X : Cx} (hu : X.A.units + 64 < cLine) : OpR X (compareOp .Lt) (rLtA X.K) := op_lt.or (op_ltT (by omega))
theorem rp_ints {G : Hp} {xs : List Dt} {ns : List Int} {v : V} (r : Rp G (.tuple xs) v) (e : intsOf xs = some ns) : ∃ a, v = .ref a ∧ G a = some (.tup (ns.map V.int)) := by
  simp only [Rp] at r
  obtain ⟨a, vs, rfl, h1, h2⟩ := r
  obtain rfl := intsOf_eq e
  rw [RpA.ilst h2] at h1
  exact ⟨a, rfl, h1⟩
theorem s2_ltT {K : PySem.W.Frag} : S2 K (rLtA K) fLtT := fun w x y v u Q R rx ry h hq => by
  unfold fLtT fCmpT at h
  split at h
  · simp only [RS, Rp] at rx ry
    subst rx ry
    exact .inl ⟨_, _, rfl, rfl, hq _ _ w (.refl w) (by simp [RS, Rp]) h⟩
  · split at h
    · rename_i ns ms e1 e2
      obtain ⟨a, rfl, a1⟩ := rp_ints rx e1
      obtain ⟨b, rfl, b1⟩ := rp_ints ry e2
      exact .inr ⟨a, b, ns, ms, rfl, rfl, SqT.of (w.gh _ _ a1), SqT.of (w.gh _ _ b1), hq _ _ w (.refl w) (by simp [RS, Rp]) h⟩
    · exact h.elim
  · exact h.elim
end Ks
end

section
set_option Elab.async false
set_option linter.all false
set_option maxRecDepth 100000
set_option maxHeartbeats 4000000
/-! # set(xs) of a list of ints, sorted(set(xs)) of any length -/
namespace Ks
open PySem PySem.Spec PyProof.Rows L2
section
variable {P : Program} {w : World} {A : Around} {E : Value → Shared → Prop} {s : Shared}
/-- a new set -/
abbrev set0 (w : World) : Obj := { cls := .type "set", dict := none, data := .set #[] 0 (.fresh 0 0 (!w.params.followText "set-order")) }
set_option maxHeartbeats 8000000 in
theorem set_of_list {l : Addr} {its : Array Value} (ns : List Int) {Q : Value → Shared → Prop} (hh : A.handled = none) (hl : s.heap.IsList l its) (hi : IntsAre its.toList ns) (hb : ns.length + 1 < scanBound)
    (hQ : ∀ (h' : Heap) (tk c : Nat), SetR w h' s.heap.objs.size (fun j => decide (j ∈ ns)) c → c ≤ ns.length → (∀ b o, s.heap.get? b = some o → h'.get? b = some o) → Q (.ref s.heap.objs.size) { s with heap := h', toks := tk }) : wpAny (model P w) A (call (.type "set") [.ref l]) Q E s := by
  have zl : its.size = ns.length := (Array.length_toList (xs := its)).symm.trans (IntsAre.length hi)
  obtain ⟨c0, tl, hmro⟩ := F.called_set.mro; have k1 := F.called_set.made; have k2 := F.called_set.sub
  refine wpAny_call (codeAny_of_tree ?_); show wpAny _ _ (callAny (.type "set") _) _ _ _
  refine wpAny_pure ⟨Code.quiet_builtin _ (by decide +kernel), codeAny_builtin F.entry_type_call ?_⟩; rw [Around.under_plain (weight_type_call_type "set" [.ref l] []) rfl]
  have k3 := F.called_set.notType; have k4 := F.called_set.canCreate; have k5 := F.typeCall_set_1 (.ref l)
  repeat (any_goals (first | assumption | wp_step))
  refine codeAny_mono (code_set_led1 (.ref l) (E := E) (Q₁ := fun v s1 => v = .ref s.heap.objs.size ∧ s1 = { s with heap := s.heap.push (set0 w) }) ⟨rfl, rfl⟩) fun r s1 hr => ?_
  cases r with
  | error e => exact hr
  | ok fl =>
    cases fl with
    | ret v =>
      obtain ⟨rfl, rfl⟩ := hr
      have g0 : (s.heap.push (set0 w)).get? s.heap.objs.size = some (set0 w) := Heap.get?_push_size _ rfl
      have hT : Shared.TypeIs { s with heap := s.heap.push (set0 w) } (.ref s.heap.objs.size) "set" := ⟨_, g0, rfl⟩
      have k6 := F.called_set.init.lookup; have k7 := F.called_set.init.bind (.ref s.heap.objs.size)
      repeat (any_goals (first | assumption | wp_step))
      refine codeAny_mono (codeAny_call_builtin (R := wants (fun r s2 => r = .none ∧ ∃ h' tk c, s2 = { s with heap := h', toks := tk } ∧ SetR w h' s.heap.objs.size (fun j => decide (j ∈ ns)) c ∧ c ≤ ns.length ∧ ∀ b o, s.heap.get? b = some o → h'.get? b = some o) E)
        F.called_set.init.plain F.entry_set_init (check_set_init_1 hT ?_)) fun r2 s2 h2 => ?_
      · obtain ⟨⟨ocls, od, odata, osl⟩, ol, oc, n, odt⟩ := hl
        simp only at oc odt; subst oc; subst odt
        have g1 : (s.heap.push (set0 w)).get? l = some { cls := .type "list", dict := od, data := .seq its n, slots := osl } := Heap.get?_push_of_some _ ol
        have k8 := F.sub_list_set; have k9 := F.sub_list_frozenset
        have ne0 : (Value.type "list" == Value.type "dict") = false := by decide
        have l1 : (s.heap.push (set0 w)).IsList l its := ⟨_, g1, rfl, n, rfl⟩
        unfold Builtin.«set.__init__» noKeywords Builtin.Frozenset.updateFrom
        generalize hI : pyIter = I0; wp_walk; subst hI
        refine wpAny_pyIter_list l1 ?_; refine wpAny_bind (wpAny_runValue ?_)
        have lt0 : l < s.heap.objs.size := Heap.lt_size ol
        have hz1 : (s.heap.push (set0 w)).objs.size = s.heap.objs.size + 1 := Heap.size_push ..
        have neI : l ≠ (s.heap.push (set0 w)).objs.size := by rw [hz1]; exact Nat.ne_of_lt (Nat.lt_succ_of_lt lt0)
        have nS : s.heap.objs.size ∉ [(s.heap.push (set0 w)).objs.size, l] := by
          rw [hz1]; exact fun z => (List.mem_cons.mp z).elim (fun e => Nat.ne_of_lt (Nat.lt_succ_self _) e) fun z => Nat.ne_of_gt lt0 (List.mem_singleton.mp z)
        have hv : ∀ (i : Nat) (v : Value), its[i]? = some v → ∃ k t, ns[i]? = some k ∧ v = .int k t := fun i v e => by
          have lt1 : i < ns.length := by rw [← zl]; exact (Array.getElem?_eq_some_iff.mp e).1
          obtain ⟨t, e2⟩ := PyProof.Rows.IntsAre.int_at hi i v (by rw [Array.getElem?_toList]; exact e)
          exact ⟨ns[i], t, List.getElem?_eq_getElem lt1, by rw [e2, List.getD_eq_getElem?_getD, List.getElem?_eq_getElem lt1]; rfl⟩
        have h3 : A.in1.in1.in1.handled = none := by simp [hh]
        refine set_update_ints ((Walks.list h3 _ l neI its).toS) s.heap.objs.size nS ns zl hb hv (its.size - 0) 0 _ (by omega) (Nat.zero_le _) ⟨⟨_, Heap.get?_push_size _ rfl, rfl, rfl⟩, (l1.push _)⟩ ?setFirst ?setLast
        case setFirst => exact ⟨0, Nat.le_refl 0, setR_new_at (Heap.get?_push_of_some _ g0)⟩
        case setLast =>
          intro s' c' hm hc' hS
          obtain ⟨h', gg, dd, tk', oo⟩ := s'
          have e1 : gg = s.gens := hm.gens; have e2 : dd = s.drawn := hm.drawn; have e3 : oo = s.os := hm.os
          subst e1 e2 e3
          show wpAny _ _ _ _ _ _
          refine wpAny_pure ?_; show wpAny _ _ (ret Value.none) _ _ _
          refine wpAny_pure ⟨rfl, h', tk', c', rfl, hS, by rw [← zl]; exact hc', fun b o e => ?_⟩
          have lb : b < s.heap.objs.size := Heap.lt_size e
          exact hm.heap b o (by rw [hz1]; exact fun z => (List.mem_cons.mp z).elim (fun e => Nat.ne_of_lt lb e) fun z => Nat.ne_of_lt (Nat.lt_succ_of_lt lb) (List.mem_singleton.mp z)) (Heap.get?_push_of_some _ (Heap.get?_push_of_some _ e))
      · cases r2 with
        | error e => exact h2
        | ok fl =>
          cases fl with
          | ret v2 =>
            obtain ⟨rfl, h', tk, c, rfl, a1, a2, a3⟩ := h2
            repeat (any_goals (first | assumption | wp_step))
            exact hQ h' tk c a1 a2 a3
          | next => exact h2.elim
          | brk => exact h2.elim
          | cont => exact h2.elim
    | next => exact hr.elim
    | brk => exact hr.elim
    | cont => exact hr.elim
/-- sorted(a set of ints), any number of them -/
theorem sorted_setN {a : Addr} {S : Int → Bool} {n : Nat} {Q : Value → Shared → Prop} (R : SetR w s.heap a S n) (hh : A.handled = none)
    (hQ : ∀ s' p (out : Array Value) (c : Nat) (ns : List Int), (∀ b o, s.heap.get? b = some o → s'.heap.get? b = some o) → s'.gens = s.gens → s'.os = s.os → s.heap.objs.size ≤ p →
      s'.heap.get? p = some (seqObj "list" out c) → IntsAre out.toList ns → ns.Pairwise (· < ·) → (∀ k, k ∈ ns ↔ S k = true) → ns.length = n → n < scanBound → Q (.ref p) s') : wpAny (model P w) A (call (.builtin "sorted") [.ref a]) Q E s := by
  obtain ⟨o, es, ep, t, ho, hex, hd, g, nd, hm, hb, hf, hn, hr, hl⟩ := R
  refine Calls.call_function_entry PyProof.Rows.kind_sorted PyProof.Rows.plain_sorted PyProof.Rows.entry_sorted (PyProof.Rows.args_sorted1 _) ?_
  unfold Builtin.«sorted»
  refine wpAny_bind (m := checkCount "sorted" 1 1 _) (wpAny_pure (wpAny_bind (collect_set (A := A.in1) hh ⟨o, ho, hex.1, hd⟩ hf hb hr hl fun s1 vs q1 hz g1 o1 pm => ?_)))
  have lv : vs.length = n := by rw [pm.length_eq, List.length_map, Array.length_toList]; exact hn
  have iv : IntsAre vs (vs.map Builtin.Re.reRawOf) := ints_of vs fun v hv => by
    obtain ⟨e, he, q⟩ := List.mem_map.mp (pm.mem_iff.mp hv); obtain ⟨k, tk, z, _⟩ := g e he
    exact ⟨k, tk, by rw [← q]; exact z⟩
  have pk : (vs.map Builtin.Re.reRawOf).Perm (es.toList.map keyOf) := by
    have q := pm.map Builtin.Re.reRawOf; rw [List.map_map] at q; exact q
  have sz : vs.length ≤ sizeLine := by rw [lv, ← hn]; exact fits_of_scanBound hb
  refine wpAny_bind (wpAny_newList ?_ sz)
  have oL : (s1.heap.push (seqObj "list" vs.toArray 0)).get? s1.heap.objs.size = some (seqObj "list" vs.toArray 0) := Heap.get?_push_size _ rfl
  refine wpAny_bind (wpAny_holding (wpAny_call_entry PyProof.Rows.slot_list_sort ⟨_, oL, rfl⟩ PyProof.Rows.entry_list_sort (SrtO.list_sort_ord SrtO.swo_int oL sz (fun h2 => SrtO.ints_sortable iv h2) fun out b1 b2 => ⟨_, rfl, ?_⟩) (PyProof.Rows.args_list_sort _)))
  obtain ⟨j1, j2, j3⟩ := SrtO.ints_out iv b1 b2
  obtain ⟨c, hc⟩ := PyProof.Rows.sortedHeap_at (vs := vs) (out := out.toArray) oL
  have pn : (out.map SrtO.iv).Perm (es.toList.map keyOf) := j2.trans pk
  refine wpAny_pure ⟨_, rfl, hQ _ s1.heap.objs.size out.toArray c _ (fun b u e => ?_) g1 o1 hz hc j1 (lt_of_le_nodup _ j3 (pn.nodup_iff.mpr nd)) (fun k => by rw [pn.mem_iff, ← hm k]) ?_ (by rw [← hn]; exact hb)⟩
  · have q := q1 b u e; have lt1 := Heap.lt_size q
    show (PyProof.Rows.sortedHeap (s1.heap.push (seqObj "list" vs.toArray 0)) s1.heap.objs.size vs out.toArray).get? b = some u
    rw [PyProof.Rows.sortedHeap_old (Nat.ne_of_lt lt1) (by rw [Heap.size_push]; exact Nat.lt_succ_of_lt lt1)]; exact Heap.get?_push_of_some _ q
  · rw [pn.length_eq, List.length_map, Array.length_toList]; exact hn
end
/-! ### over the layer -/
section
variable {X : Cx}
def rSetOfI (K : PySem.W.Frag) (w : World) : List V → Hp → VK → Prop := fun vs H Q => ∃ (l : Addr) (ns : List Int), vs = [V.ref l] ∧ SqL K H l (ns.map V.int) ∧ ns.length + 1 < scanBound ∧ ∀ p c, c ≤ ns.length → H p = none → Q (.ref p) (upd H p (SetO w p (fun j => decide (j ∈ ns)) c))
theorem cr_setOfI (hc : X.calm = true) : CallR X (.type "set") (rSetOfI X.K X.w) := by
  intro pins s σ H vs us Q I r h; obtain ⟨l, ns, rfl, hs, hb, q⟩ := h
  obtain ⟨its, rv, hl, hz⟩ := I.list hs; rw [Vals.ref1 r]
  refine set_of_list ns (I.ok.hd hc) hl.isList rv.ints hb fun h' tk c R1 hcn k => ?_
  refine ⟨.ref _, upd H s.heap.objs.size (SetO X.w s.heap.objs.size (fun j => decide (j ∈ ns)) c), I.laid (t' := tk) k (Nat.le_refl _) (setO_new R1), rfl, q _ c hcn (I.hok.fresh (Nat.le_refl _))⟩
def rSortedSetN (w : World) : List V → Hp → VK → Prop := fun vs H Q => ∃ (a : Addr) (S : Int → Bool) (n : Nat), vs = [V.ref a] ∧ H a = some (SetO w a S n) ∧
  ∀ (ns : List Int) (p : Addr), ns.Pairwise (· < ·) → (∀ k : Int, k ∈ ns ↔ S k = true) → H p = none → Q (.ref p) (upd H p (.lst (ns.map V.int)))
theorem cr_sortedSetN (hc : X.calm = true) : CallR X (.builtin "sorted") (rSortedSetN X.w) := by
  intro pins s σ H vs us Q I r h; obtain ⟨a, S, n, rfl, ha, q⟩ := h
  have R := setO_get I ha; rw [Vals.ref1 r]
  refine sorted_setN R (I.ok.hd hc) fun s' p out c ns k g o hp hg hi hs hm hl hn => ?_
  have nf : H p = none := I.hok.fresh hp
  have lz : (ns.map V.int).length ≤ sizeLine := by rw [List.length_map, hl]; exact fits_of_scanBound hn
  have J : Inv X pins σ (upd H p (.lst (ns.map V.int))) { s with heap := s'.heap, gens := s'.gens, drawn := s'.drawn, toks := s'.toks } :=
    I.call (ch := []) (Un.laid k hp nf) (I.hok.laid k hp ⟨lz, out.toList, c, vals_of_ints hi, hg⟩) (by rw [g]; exact I.bare) (fun _ z => nomatch z)
  have e : s' = { s with heap := s'.heap, gens := s'.gens, drawn := s'.drawn, toks := s'.toks } := by cases s'; cases s; cases o; rfl
  rw [e]; exact ⟨.ref p, _, J, rfl, q ns p hs hm nf⟩
end
/-! ### in plain data: sorted(set(xs)) -/
/-- ascending, without doubles -/
def insI (x : Int) : List Int → List Int
  | [] => [x]
  | y :: ys => if x < y then x :: y :: ys else if x = y then y :: ys else y :: insI x ys
def sdI : List Int → List Int
  | [] => []
  | x :: xs => insI x (sdI xs)
theorem insI_mem {x k : Int} : ∀ {l : List Int}, k ∈ insI x l ↔ k = x ∨ k ∈ l
  | [] => by simp [insI]
  | y :: ys => by
    unfold insI
    split
    · simp
    · split
      · rename_i h; subst h; simp
      · rw [List.mem_cons, insI_mem, List.mem_cons]; constructor
        · rintro (h | h | h) <;> simp [h]
        · rintro (h | h | h) <;> simp [h]
theorem insI_sorted {x : Int} : ∀ {l : List Int}, l.Pairwise (· < ·) → (insI x l).Pairwise (· < ·)
  | [], _ => by simp [insI]
  | y :: ys, h => by
    obtain ⟨h1, h2⟩ := List.pairwise_cons.mp h
    unfold insI
    split
    · rename_i c
      refine List.pairwise_cons.mpr ⟨fun z hz => ?_, h⟩
      rcases List.mem_cons.mp hz with rfl | hz
      · exact c
      · have := h1 z hz; omega
    · split
      · exact h
      · refine List.pairwise_cons.mpr ⟨fun z hz => ?_, insI_sorted h2⟩
        rcases insI_mem.mp hz with rfl | hz
        · omega
        · exact h1 z hz
theorem sdI_mem {k : Int} : ∀ {l : List Int}, k ∈ sdI l ↔ k ∈ l
  | [] => by simp [sdI]
  | x :: xs => by rw [sdI, insI_mem, sdI_mem, List.mem_cons]
theorem sdI_sorted : ∀ l : List Int, (sdI l).Pairwise (· < ·)
  | [] => List.Pairwise.nil
  | x :: xs => insI_sorted (sdI_sorted xs)
theorem lt_sorted_uniq : ∀ {xs ys : List Int}, xs.Pairwise (· < ·) → ys.Pairwise (· < ·) → (∀ k, k ∈ xs ↔ k ∈ ys) → xs = ys
  | [], [], _, _, _ => rfl
  | [], y :: ys, _, _, h => absurd ((h y).mpr List.mem_cons_self) (by simp)
  | x :: xs, [], _, _, h => absurd ((h x).mp List.mem_cons_self) (by simp)
  | x :: xs, y :: ys, hx, hy, h => by
    obtain ⟨x1, x2⟩ := List.pairwise_cons.mp hx
    obtain ⟨y1, y2⟩ := List.pairwise_cons.mp hy
    have e : x = y := by
      have a := List.mem_cons.mp ((h x).mp List.mem_cons_self)
      have b := List.mem_cons.mp ((h y).mpr List.mem_cons_self)
      rcases a with a | a
      · exact a
      · rcases b with b | b
        · exact b.symm
        · have := y1 x a; have := x1 y b; omega
    subst e
    rw [lt_sorted_uniq x2 y2 fun k => ?_]
    constructor
    · intro hk
      have lt1 := x1 k hk
      rcases List.mem_cons.mp ((h k).mp (List.mem_cons_of_mem _ hk)) with e | e
      · omega
      · exact e
    · intro hk
      have lt1 := y1 k hk
      rcases List.mem_cons.mp ((h k).mpr (List.mem_cons_of_mem _ hk)) with e | e
      · omega
      · exact e
def mSdI (me : Env → M Dv) : Env → M (List Dt) := fun ρ Q Ex => me ρ (fun x => match x.ls?.bind intsOf with
  | some ns => ns.length < 4000 ∧ Q (ilst (sdI ns))
  | none => False) Ex
def tSdI (K : PySem.W.Frag) (w : World) (te : TE) : TE := tCB (rSortedSetN w) (tCons (tCB (rSetOfI K w) (tCons te tNil)) tNil)
theorem setO_nt {w : World} {p : Addr} {S : Int → Bool} {c : Nat} : ∀ ps, SetO w p S c ≠ .tbl ps := fun _ e => nomatch e
theorem sf_sdI {K : PySem.W.Frag} {mg : Mg} {E : XK} {w0 : World} {te : TE} {me : Env → M Dv} (he : SE K mg E te me) : SF K mg E (tSdI K w0 te) (mSdI me) := fun en w ρ σ Q Ex R s h hq hx =>
  he en w ρ σ _ Ex _ s h (fun x v w1 g1 r1 q => by
    split at q
    · rename_i ns e
      rw [Option.bind_eq_some_iff] at e
      obtain ⟨ds, e1, e2⟩ := e
      obtain ⟨a, vs, rfl, a1, a2⟩ := ls_rs r1 e1
      obtain rfl := intsOf_eq e2
      rw [RpA.ilst a2] at a1
      refine ⟨a, ns, rfl, SqL.of a1, by unfold scanBound; omega, fun p c hc hp => ?_⟩
      have gp : Grow w (w1.lay p (SetO w0 p (fun j => decide (j ∈ ns)) c) hp) := g1.trans (Grow.lay hp)
      refine ⟨p, _, c, rfl, upd_same, fun ms p2 hs hm h2 => ?_⟩
      have em : ms = sdI ns := lt_sorted_uniq hs (sdI_sorted ns) fun k => by rw [hm k, sdI_mem]; simp
      subst em
      have z : ∀ w2 : Wd mg.T, Grow w w2 → ∀ h2 : w2.H p2 = none, R (.ref p2) (upd w2.H p2 (.lst ((sdI ns).map V.int))) := fun w2 g2 h2 =>
        hq _ p2 _ (w2.lay p2 (.lst ((sdI ns).map V.int)) h2) (g2.trans (Grow.lay h2)) (g2.dom p2 (.of h2)) (Wd.g_none (w := w2) h2) (fun hc => (w2.cat p2 hc).ne h2 rfl) upd_same RpA.of_ilst q.2
      exact z _ gp h2
    · exact q.elim) hx
end Ks
end

section
set_option Elab.async false
set_option linter.all false
set_option maxRecDepth 100000
set_option maxHeartbeats 4000000
/-! # min(t, u) of two tuples of ints, min(xs) of what is ordered by the heap -/
namespace Ks
open PySem PySem.Spec PyProof.Rows L2
section
variable {P : Program} {w : World} {A : Around} {E : Value → Shared → Prop}
/-- comparing two items wherever the heap h0 still stands -/
def LtIn (P : Program) (w : World) (A : Around) (h0 : Heap) (Pv : Nat → Value → Prop) (bt : Nat → Nat → Bool) : Prop :=
  ∀ i j vi vj (s : Shared) (Q : Value → Shared → Prop) (E : Value → Shared → Prop), j < i → (∀ b o, h0.get? b = some o → s.heap.get? b = some o) → Pv i vi → Pv j vj → Q (.bool (bt i j)) s → wpAny (model P w) A (richCompare .Lt vi vj) Q E s
theorem best_le (bt : Nat → Nat → Bool) : ∀ k, argBest bt k ≤ k
  | 0 => Nat.le_refl _
  | k + 1 => by
    unfold argBest
    split
    · exact Nat.le_refl _
    · exact Nat.le_succ_of_le (best_le bt k)
/-- the store of the best so far -/
abbrev best2 (v : Value) (c : Nat) : Obj := { cls := .type "list", dict := none, data := .seq #[v, v] c, slots := #[] }
theorem min_goes {R : Result → Shared → Prop} {I : Addr} {fp wr : List Addr} {n : Nat} {Pv : Nat → Value → Prop} {St : Nat → Heap → Prop} {h0 : Heap} (W : Walks P w A.in1 I fp wr n Pv St) (bt : Nat → Nat → Bool) (hc : LtIn P w A.in1 h0 Pv bt)
    (S : Addr) (hSf : S ∉ fp) (n0 : ∀ b ∈ S :: wr, h0.get? b = none) : ∀ (k j : Nat) (s : Shared) (vb : Value) (c : Nat), n - (j + 1) = k → j + 1 ≤ n → St (j + 1) s.heap → Pv (argBest bt j) vb → s.heap.get? S = some (best2 vb c) → (∀ b o, h0.get? b = some o → s.heap.get? b = some o) →
      (∀ v h' tk, Pv (argBest bt (n - 1)) v → (∀ b o, b ∉ wr → b ≠ S → s.heap.get? b = some o → h'.get? b = some o) → R (.ok (.ret v)) { s with heap := h', toks := tk }) → codeAny (model P w) A (.builtin "min.loop" ⟨[.ref I, .none, .ref S], []⟩) R s := by
  have nS : S ∉ wr := fun h => hSf (W.sub _ h)
  have nm : (toString "min" ++ toString ".loop" : String) = "min.loop" := by decide
  have kp : ∀ {s s' : Heap}, (∀ b o, h0.get? b = some o → s.get? b = some o) → (∀ b o, b ∉ wr → b ≠ S → s.get? b = some o → s'.get? b = some o) → ∀ b o, h0.get? b = some o → s'.get? b = some o := fun k1 k2 b o e =>
    k2 b o (fun z => by rw [n0 b (List.mem_cons_of_mem _ z)] at e; cases e) (fun z => by rw [n0 b (z ▸ List.mem_cons_self)] at e; cases e) (k1 b o e)
  intro k; induction k with
  | zero =>
    intro j s vb c hk hj st pb oS _ hR; have hin : j + 1 = n := by omega
    refine codeAny_builtin F.entry_min_loop ?_; rw [Around.under_plainId F.plain_min_loop _]
    show wpAny _ A.in1 (seqItems? (.ref S) >>= _) _ _ s; refine wpAny_bind (wpAny_seqItems oS rfl ?_)
    show wpAny _ A.in1 (tryCatch (pyNext (.ref I)) _ >>= _) _ _ s; refine wpAny_bind (wpAny_tryCatch (W.done s _ _ (hin ▸ st) fun h' tk k1 => ?_))
    show wpAny _ A.in1 (updateSeq S (fun _ => #[]) >>= _) _ _ _; refine wpAny_bind ?_
    refine wpAny_updateSeq (k1 S _ nS oS) rfl (wpAny_bind (wpAny_letGo (wpAny_pure ?_)))
    exact hR vb _ tk (by rw [← hin]; exact pb) fun b o b1 b2 e => (Heap.get?_update_other _ _ (Ne.symm b2)).trans (k1 b o b1 e)
  | succ k ih =>
    intro j s vb c hk hj st pb oS k0 hR; have lt1 : j + 1 < n := by omega
    refine codeAny_builtin F.entry_min_loop ?_; rw [Around.under_plainId F.plain_min_loop _]
    show wpAny _ A.in1 (seqItems? (.ref S) >>= _) _ _ s; refine wpAny_bind (wpAny_seqItems oS rfl ?_)
    show wpAny _ A.in1 (tryCatch (pyNext (.ref I)) _ >>= _) _ _ s; refine wpAny_bind (wpAny_tryCatch (W.item (j + 1) s _ _ lt1 st fun v h' tk pv st' k1 => ?_))
    have oS' := k1 S _ nS oS
    have k2 : ∀ b o, h0.get? b = some o → h'.get? b = some o := kp k0 fun b o b1 _ e => k1 b o b1 e
    show wpAny _ A.in1 (tryCatch (holding [v, v] (richCompare .Lt v vb >>= _)) _ >>= _) _ _ _
    refine wpAny_bind (wpAny_tryCatch (wpAny_holding (wpAny_bind (hc (j + 1) (argBest bt j) v vb _ _ _ (Nat.lt_succ_of_le (best_le bt j)) k2 pv pb (wpAny_bind (wpAny_holding (wpAny_truthy_bool (wpAny_bind (wpAny_letGo (wpAny_pure ?_))))))))))
    cases hb : bt (j + 1) (argBest bt j) with
    | true =>
      simp only [if_true]; refine wpAny_bind ?_
      refine wpAny_updateSeq oS' rfl (wpAny_bind (wpAny_letGo ?_)); rw [nm]
      have k3 : ∀ b o, b ≠ S → h'.get? b = some o → (h'.update S (Obj.mapSeq (fun _ => #[v, v]))).get? b = some o := fun b o b2 e => (Heap.get?_update_other _ _ (Ne.symm b2)).trans e
      refine wpAny_pure ⟨plainId_quiet F.plain_min_loop _, ih (j + 1) _ v _ (by omega) lt1 (W.frame _ _ _ st' fun b hbf o e => k3 b o (fun z => hSf (z ▸ hbf)) e) (by simp only [argBest, hb, if_true]; exact pv) (Heap.get?_update_self _ oS' rfl) (kp k2 fun b o _ b2 e => k3 b o b2 e)
        fun v' h2 tk2 pv' q2 => hR v' h2 tk2 pv' fun b o b1 b2 e => q2 b o b1 b2 (k3 b o b2 (k1 b o b1 e))⟩
    | false =>
      simp only [Bool.false_eq_true, if_false]; refine wpAny_bind (wpAny_letGo ?_); rw [nm]
      exact wpAny_pure ⟨plainId_quiet F.plain_min_loop _, ih (j + 1) _ vb c (by omega) lt1 st' (by simp only [argBest, hb, Bool.false_eq_true, if_false]; exact pb) oS' k2 fun v' h2 tk2 pv' q2 => hR v' h2 tk2 pv' fun b o b1 b2 e => q2 b o b1 b2 (k1 b o b1 e)⟩
theorem min_begins {R : Result → Shared → Prop} {I : Addr} {fp wr : List Addr} {n : Nat} {Pv : Nat → Value → Prop} {St : Nat → Heap → Prop} {h0 : Heap} (W : Walks P w A.in1 I fp wr n Pv St) (bt : Nat → Nat → Bool) (hc : LtIn P w A.in1 h0 Pv bt)
    (S : Addr) (hSf : S ∉ fp) (n0 : ∀ b ∈ S :: wr, h0.get? b = none) (hn : 0 < n) {s : Shared} {c : Nat} (st : St 0 s.heap) (oS : s.heap.get? S = some { cls := .type "list", dict := none, data := .seq #[] c, slots := #[] }) (k0 : ∀ b o, h0.get? b = some o → s.heap.get? b = some o)
    (hR : ∀ v h' tk, Pv (argBest bt (n - 1)) v → (∀ b o, b ∉ wr → b ≠ S → s.heap.get? b = some o → h'.get? b = some o) → R (.ok (.ret v)) { s with heap := h', toks := tk }) : codeAny (model P w) A (.builtin "min.loop" ⟨[.ref I, .none, .ref S], []⟩) R s := by
  have nS : S ∉ wr := fun h => hSf (W.sub _ h)
  have nm : (toString "min" ++ toString ".loop" : String) = "min.loop" := by decide
  refine codeAny_builtin F.entry_min_loop ?_; rw [Around.under_plainId F.plain_min_loop _]
  show wpAny _ A.in1 (seqItems? (.ref S) >>= _) _ _ s; refine wpAny_bind (wpAny_seqItems oS rfl ?_)
  show wpAny _ A.in1 (tryCatch (pyNext (.ref I)) _ >>= _) _ _ s; refine wpAny_bind (wpAny_tryCatch (W.item 0 s _ _ hn st fun v h' tk pv st' k1 => ?_))
  have oS' := k1 S _ nS oS
  show wpAny _ A.in1 (updateSeq S (fun _ => #[v, v]) >>= _) _ _ _; refine wpAny_bind ?_
  refine wpAny_updateSeq oS' rfl ?_; rw [nm]
  have k3 : ∀ b o, b ≠ S → h'.get? b = some o → (h'.update S (Obj.mapSeq (fun _ => #[v, v]))).get? b = some o := fun b o b2 e => (Heap.get?_update_other _ _ (Ne.symm b2)).trans e
  refine wpAny_pure ⟨plainId_quiet F.plain_min_loop _, min_goes W bt hc S hSf n0 _ 0 _ v _ rfl hn (W.frame _ _ _ st' fun b hbf o e => k3 b o (fun z => hSf (z ▸ hbf)) e) pv (Heap.get?_update_self _ oS' rfl) (fun b o e => ?_)
    fun v' h2 tk2 pv' q2 => hR v' h2 tk2 pv' fun b o b1 b2 e => q2 b o b1 b2 (k3 b o b2 (k1 b o b1 e))⟩
  exact k3 b o (fun z => by rw [n0 b (z ▸ List.mem_cons_self)] at e; cases e) (k1 b o (fun z => by rw [n0 b (List.mem_cons_of_mem _ z)] at e; cases e) (k0 b o e))
/-- min(a, b) -/
theorem min_of_two {s : Shared} {a b : Value} {lt : Bool} {Q : Value → Shared → Prop} (hh : A.handled = none)
    (hc : ∀ (s' : Shared) (Q : Value → Shared → Prop) (E : Value → Shared → Prop), (∀ c o, s.heap.get? c = some o → s'.heap.get? c = some o) → Q (.bool lt) s' → wpAny (model P w) A.in1 (richCompare .Lt b a) Q E s')
    (hQ : ∀ h' tk, (∀ c o, s.heap.get? c = some o → h'.get? c = some o) → Q (if lt = true then b else a) { s with heap := h', toks := tk }) : wpAny (model P w) A (call (.builtin "min") [a, b]) Q E s := by
  have nm : (toString "min" ++ toString ".loop" : String) = "min.loop" := by decide
  refine call_function_tree F.kind_min F.plain_min F.entry_min (F.args_min2 _ _) ?_
  show wpAny _ A.in1 (Builtin.Builtins.bindParams "min" ["key", "default"] 0 ⟨[], []⟩ >>= _) _ _ s
  refine wpAny_bind (wpAny_of_eq (show Builtin.Builtins.bindParams "min" ["key", "default"] 0 ⟨[], []⟩ = pure [none, none] from rfl) ?_); show wpAny _ A.in1 (newTuple [a, b] >>= _) _ _ s
  have hT : (s.heap.push { cls := .type "tuple", data := .seq #[a, b] }).IsTuple s.heap.objs.size #[a, b] := ⟨_, Heap.get?_push_size _ rfl, rfl, 0, rfl⟩
  have sz1 : (s.heap.push { cls := .type "tuple", data := .seq #[a, b] }).objs.size = s.heap.objs.size + 1 := Heap.size_push ..
  have nI : s.heap.objs.size ≠ (s.heap.push { cls := .type "tuple", data := .seq #[a, b] }).objs.size := by rw [sz1]; exact Nat.ne_of_lt (Nat.lt_succ_self _)
  refine wpAny_bind (wpAny_newObj_type (wpAny_bind (wpAny_pyIter_tuple hT (wpAny_bind (wpAny_newObj_type ?_))))); rw [nm]
  have W := Walks.tuple (prog := P) (w := w) (A := A.in1) hh _ s.heap.objs.size nI #[a, b]
  generalize hI : (s.heap.push { cls := .type "tuple", data := .seq #[a, b] }).objs.size = I at W nI sz1
  have sz2 : ((s.heap.push { cls := .type "tuple", data := .seq #[a, b] }).push { cls := .type "tuple_iterator", data := .fields #[.ref s.heap.objs.size, .int 0 0] }).objs.size = I + 1 := by rw [Heap.size_push, hI]
  have out : ∀ c o, s.heap.get? c = some o → c < s.heap.objs.size := fun c o e => Heap.lt_size e
  have no : ∀ c, s.heap.objs.size ≤ c → s.heap.get? c = none := fun c hc => by
    cases e : s.heap.get? c with
    | none => rfl
    | some o => exact absurd (out c o e) (Nat.not_lt.mpr hc)
  have in2 : ∀ {j : Nat} {v : Value}, #[a, b][j]? = some v → j < 2 := fun e => (Array.getElem?_eq_some_iff.mp e).1
  refine wpAny_pure ⟨plainId_quiet F.plain_min_loop _, min_begins W (fun _ _ => lt) (h0 := s.heap) (fun i j vi vj s' Q E hji k p q hq => ?_) _ (fun z => ?_) (fun c hc => no c ?_) (Nat.zero_lt_two) ⟨⟨_, Heap.get?_push_of_some _ (by rw [← hI]; exact Heap.get?_push_size _ rfl), rfl, rfl⟩, (hT.push _).push _⟩ (Heap.get?_push_size _ rfl) (fun c o e => Heap.get?_push_of_some _ (Heap.get?_push_of_some _ (Heap.get?_push_of_some _ e))) fun v h' tk pv k => ?_⟩
  · have i2 : i < 2 := in2 p
    obtain ⟨rfl, rfl⟩ : i = 1 ∧ j = 0 := by omega
    have e1 : vi = b := (Option.some.inj p).symm
    have e2 : vj = a := (Option.some.inj q).symm
    subst e1 e2
    exact hc s' Q E k hq
  · rw [sz2] at z
    rcases List.mem_cons.mp z with z | z
    · exact absurd z (Nat.ne_of_gt (Nat.lt_succ_self _))
    · have := List.mem_singleton.mp z
      rw [sz1] at this
      exact absurd this (Nat.ne_of_gt (by show s.heap.objs.size < s.heap.objs.size + 1 + 1; omega))
  · rcases List.mem_cons.mp hc with rfl | hc
    · rw [sz2, sz1]; show s.heap.objs.size ≤ s.heap.objs.size + 1 + 1; omega
    · rw [List.mem_singleton.mp hc, sz1]; exact Nat.le_succ _
  · have ev : v = if lt = true then b else a := by
      have pv' : #[a, b][argBest (fun _ _ => lt) 1]? = some v := pv
      cases lt with
      | true => exact (Option.some.inj pv').symm
      | false => exact (Option.some.inj pv').symm
    rw [ev]
    refine hQ h' tk fun c o e => k c o (fun z => ?_) (fun z => ?_) (Heap.get?_push_of_some _ (Heap.get?_push_of_some _ (Heap.get?_push_of_some _ e)))
    · have := out c o e
      rw [List.mem_singleton.mp z, sz1] at this
      exact absurd this (Nat.not_lt.mpr (Nat.le_succ _))
    · have := out c o e
      rw [z, sz2, sz1] at this
      exact absurd this (Nat.not_lt.mpr (by show s.heap.objs.size ≤ s.heap.objs.size + 1 + 1; omega))
end
/-! ### over the layer -/
section
variable {X : Cx}
/-- min of two ints, or of two tuples of ints -/
def rMin2T (K : PySem.W.Frag) : List V → Hp → VK → Prop := fun xs H Q => ∃ a b ns ms, xs = [.ref a, .ref b] ∧ SqT K H a (ns.map V.int) ∧ SqT K H b (ms.map V.int) ∧ Q (if HT.lexLt ms ns = true then .ref b else .ref a) H
theorem call_min2T (hc : X.calm = true) (hu : X.A.units + 64 < cLine) : CallR X (.builtin "min") (rMin2T X.K) := by
  intro pins s σ H xs us Q I r h; obtain ⟨a, b, ns, ms, rfl, ha, hb, q⟩ := h
  obtain ⟨u, w', rfl, r1, r2⟩ := vals2 r
  cases r1; cases r2
  obtain ⟨its, v1, p1, _⟩ := I.tuple ha
  obtain ⟨it2, v2, p2, _⟩ := I.tuple hb
  have i1 : IntsAre its.toArray.toList ns := ints_of_vals v1
  have i2 : IntsAre it2.toArray.toList ms := ints_of_vals v2
  have tp : ∀ {h' : Heap} {c : Addr} {xs : Array Value}, IsTup s.heap c xs → (∀ d o, s.heap.get? d = some o → h'.get? d = some o) → IsTup h' c xs := fun p k => by
    obtain ⟨o, ho, rest⟩ := p
    exact ⟨o, k _ _ ho, rest⟩
  refine min_of_two (lt := HT.lexLt ms ns) (I.ok.hd hc) (fun s' Q' E' k hq => ?_) fun h' tk k => ?_
  · exact HT.lt_tupInts (tp p2 k) (tp p1 k) i2 i1 (by show X.A.units + 1 < cLine; omega) hq
  · refine ⟨if HT.lexLt ms ns = true then .ref b else .ref a, H, I.kept k, ?_, q⟩
    split <;> rfl
def rMin2A (K : PySem.W.Frag) : List V → Hp → VK → Prop := fun xs H Q => (∃ i j, xs = [.int i, .int j] ∧ Q (.int (if j < i then j else i)) H) ∨ rMin2T K xs H Q
theorem call_min2A (hc : X.calm = true) (hu : X.A.units + 64 < cLine) : CallR X (.builtin "min") (rMin2A X.K) := fun pins s σ H xs us Q I r h =>
  h.elim (call_min2 hc pins s σ H xs us Q I r) (call_min2T hc hu pins s σ H xs us Q I r)
def fMin2T : List Dv → (Dv → Prop) → Prop
  | [.d (.int i), .d (.int j)], Q => Q (.d (.int (if j < i then j else i)))
  | [.d (.tuple xs), .d (.tuple ys)], Q => match intsOf xs, intsOf ys with
    | some ns, some ms => Q (.d (.tuple (if HT.lexLt ms ns = true then ys else xs)))
    | _, _ => False
  | _, _ => False
theorem sc_min2T {K : PySem.W.Frag} : SC K (rMin2A K) fMin2T := fun w xs vs Q R r h hq => by
  unfold fMin2T at h
  split at h
  · obtain ⟨v, u, rfl, r1, r2⟩ := r.two
    simp only [RS, Rp] at r1 r2
    subst r1 r2
    exact .inl ⟨_, _, rfl, hq _ _ w (.refl w) (by simp [RS, Rp]) h⟩
  · obtain ⟨v, u, rfl, r1, r2⟩ := r.two
    split at h
    · rename_i xs ys ns ms e1 e2
      obtain ⟨a, rfl, a1⟩ := rp_ints r1 e1
      obtain ⟨b, rfl, b1⟩ := rp_ints r2 e2
      refine .inr ⟨a, b, ns, ms, rfl, SqT.of (w.gh _ _ a1), SqT.of (w.gh _ _ b1), hq _ _ w (.refl w) ?_ h⟩
      split
      · exact r2
      · exact r1
    · exact h.elim
  · exact h.elim
end
end Ks
end

section
set_option Elab.async false
set_option linter.all false
set_option maxRecDepth 100000
set_option maxHeartbeats 4000000
/-! # Several defs with lambdas; the law's end over them -/
namespace Ks
open PySem PySem.Spec PyProof.Rows L2
/-- the name of a def's lambdas -/
abbrev lamQ (x : Str) : Str := (x ++ ".<locals>.") ++ "<lambda>"
/-- a def that makes lambdas: its code object's table is told of -/
structure LamAt (K : PySem.W.Frag) (mg : Mg) (base : Heap) (x : Str) (st : Stmt) : Prop where
  ex : ∃ (f c P : Addr) (oc kV doc pm ct : Value) (od an : Option Addr) (osl : Array (Option Value)),
    K.lookup f = some ⟨oc, od, .func (PySem.W.fnOf x x (defArgs st) (defBody st) (defScope st) .none kV doc pm an (.ref c) ct), osl⟩ ∧ PySem.W.codeIn K (.ref c) x = true ∧ mg.f x = some (.ref f) ∧ PySem.W.keepIn K (.ref f) = true ∧
      LamX.TabB base mg.f c P ∧ (P, lamQ x) ∈ mg.T ∧ ∀ p ∈ mg.T, p.1 = P → p.2 = lamQ x
theorem LamAt.fn {K : PySem.W.Frag} {mg : Mg} {base : Heap} {x : Str} {st : Stmt} (L : LamAt K mg base x st) : FunAt K mg x st := by
  obtain ⟨f, c, P, oc, kV, doc, pm, ct, od, an, osl, lk, hcd, hm, hk, _⟩ := L.ex
  exact ⟨f, _, ⟨⟨oc, od, kV, doc, pm, an, .ref c, ct, osl, rfl, lk, hcd⟩, hk⟩, hm⟩
theorem df_ofC {P : Program} {w : World} {K : PySem.W.Frag} {mg : Mg} {base : Heap} {x : Str} {st : Stmt} {N ps : List Str} {k : Nat} {F : List Dv → M Dv} {ms : MS} (L : LamAt K mg base x st) (S : FnScope N ps (defScope st))
    (hbind : ∀ (kV doc pm : Value) (an : Option Addr) (cdv ct : Value) (us : List Value), us.length = ps.length → bindArgs (PySem.W.fnOf x x (defArgs st) (defBody st) (defScope st) .none kV doc pm an cdv ct) ⟨us, []⟩ = pure (ps.zip us))
    (hb : ∀ (f c Pt : Addr), LamX.TabB base mg.f c Pt → (Pt, lamQ x) ∈ mg.T → (∀ p ∈ mg.T, p.1 = Pt → p.2 = lamQ x) → ∀ (A : Around) (outer : List PySem.Env) (s : Shared) (H : Hp) (E : XK), Room k (A.deeper (envOfC x (defScope st) s.heap.objs.size f (.ref c))) →
      ∃ ts, PSs (cxOf (L2N.CX P w) P w K mg.f base N x (defScope st) f (.ref c) A outer s H E) (defBody st) ts ∧ SS K mg E ts ms)
    (hF : ∀ xs Q Ex, xs.length = ps.length → F xs Q Ex → ms (endM Q Ex) (startE N.length xs)) : Df P w K mg base x (k + 1) ps F := by
  obtain ⟨f, c, Pt, oc, kV, doc, pm, ct, od, an, osl, lk, hcd, hm, hk, TB, h1, h2⟩ := L.ex
  have Fu : Fun K x x st f (PySem.W.fnOf x x (defArgs st) (defBody st) (defScope st) .none kV doc pm an (.ref c) ct) := ⟨⟨oc, od, kV, doc, pm, an, .ref c, ct, osl, rfl, lk, hcd⟩, hk⟩
  exact ⟨f, _, ok_ofC lk hcd S (hb f c Pt TB h1 h2) hF, hm, hk, Fu.binds hbind⟩
section
variable {l : PySem.W.OpenLaw}
/-- some defs with lambdas -/
theorem lawAtN {w : World} {K : PySem.W.Frag} {k n : Nat} {mg : Str → Option Value} {fa : Addr} {h : Heap} {fd : FuncData} {F : List Dv → M Dv} {cs : List (Addr × Addr)} {qs : List (Addr × Str)} (X : K.In h)
    (hP : ∀ p ∈ cs, h.get? p.2 = some (PySem.W.tabObj #[])) (nP : ∀ p ∈ cs, K.lookup p.2 = none) (C : ∀ p ∈ cs, PySem.W.codeHdIn K p.1 p.2 = true) (hq : ∀ p ∈ qs, ∃ r ∈ cs, r.2 = p.1)
    (hb : ∀ (s : Shared) (u : Value), BindsTo s fd ⟨[u], []⟩ [(("script" : Str), u)]) (hm : ∀ ns : List Int, ns.length ≤ n → (∀ z ∈ ns, Builtin.Int.intBits z ≤ 1048576) → F [.scr ns] (fun v => v = .d (.bool true)) (fun _ => False))
    (hF : ∀ base : Heap, K.In base → base.Ns mainGlobals mg → (∀ p ∈ cs, LamX.TabB base mg p.1 p.2) → FnOk l.prog w K mg base (L2N.CX l.prog w) k fa fd ["script"] (spF K ⟨mg, qs⟩ 1 F)) : LamX.LawAtS l w K (L2N.CX l.prog w) k n "script" mg fa h :=
  ⟨fd, cs, _, hP, nP, fun p hp => PySem.W.codeHd_of_K X (C p hp), hb, fun H a ns hl hbits hH hS => start_ks (mg := ⟨mg, qs⟩) (fun p hp => by
    obtain ⟨r, hr, e⟩ := hq p hp
    rw [← e]
    exact hH r hr) hS (hm ns hl hbits), fun base Kb Gb TB => hF base Kb Gb TB⟩
end
end Ks
namespace Ks
open PySem PySem.Spec PyProof.Rows L2
theorem lamAt_of {K : PySem.W.Frag} {h base : Heap} {mg : Mg} {x : Str} {st : Stmt} {f c P : Addr} {oc kV doc pm ct : Value} {od an : Option Addr} {osl : Array (Option Value)} (X : K.In h) (G : h.Ns mainGlobals mg.f) (a : PySem.W.nsIn K mainGlobals x = some (some (.ref f)))
    (lk : K.lookup f = some ⟨oc, od, .func (PySem.W.fnOf x x (defArgs st) (defBody st) (defScope st) .none kV doc pm an (.ref c) ct), osl⟩) (hcd : PySem.W.codeIn K (.ref c) x = true) (hk : PySem.W.keepIn K (.ref f) = true) (TB : LamX.TabB base mg.f c P) (h1 : (P, lamQ x) ∈ mg.T) (h2 : ∀ p ∈ mg.T, p.1 = P → p.2 = lamQ x) : LamAt K mg base x st :=
  ⟨f, c, P, oc, kV, doc, pm, ct, od, an, osl, lk, hcd, PySem.W.mg_of X G a, hk, TB, h1, h2⟩
end Ks
namespace Ks
open PySem PySem.Spec PyProof.Rows L2
theorem qs_by {qs : List (Addr × Str)} {P : Addr} {q : Str} (h : (qs.all fun p => !decide (p.1 = P) || decide (p.2 = q)) = true) : ∀ p ∈ qs, p.1 = P → p.2 = q := fun p hp e => by
  have := List.all_eq_true.mp h p hp
  simpa [e] using this
end Ks
end

section
set_option Elab.async false
set_option linter.all false
set_option maxRecDepth 100000
set_option maxHeartbeats 4000000
/-! # Meanings that the kernel can run: closed calls by evaluation -/
namespace Ks
open PySem PySem.Spec PyProof.Rows L2
class Chk {α : Type} (m : Env → M α) where
  chk : Env → (α → Bool) → (Exn → Bool) → Bool
  ok : ∀ (ρ : Env) (q : α → Bool) (e : Exn → Bool) (Q : α → Prop) (Ex : Exn → Prop), chk ρ q e = true → (∀ x, q x = true → Q x) → (∀ x, e x = true → Ex x) → m ρ Q Ex
class Op2 (f : Dv → Dv → (Dv → Prop) → Prop) where
  ev : Dv → Dv → Option Dv
  ok : ∀ (x y z : Dv) (Q : Dv → Prop), ev x y = some z → Q z → f x y Q
class Op1 (f : Dv → (Dv → Prop) → Prop) where
  ev : Dv → Option Dv
  ok : ∀ (x z : Dv) (Q : Dv → Prop), ev x = some z → Q z → f x Q
class Bi {α : Type} (f : List Dv → (α → Prop) → Prop) where
  ev : List Dv → Option α
  ok : ∀ (xs : List Dv) (z : α) (Q : α → Prop), ev xs = some z → Q z → f xs Q
class ChkD (F : List Dv → M Dv) where
  chk : List Dv → (Dv → Bool) → (Exn → Bool) → Bool
  ok : ∀ (xs : List Dv) (q : Dv → Bool) (e : Exn → Bool) (Q : Dv → Prop) (Ex : Exn → Prop), chk xs q e = true → (∀ x, q x = true → Q x) → (∀ x, e x = true → Ex x) → F xs Q Ex
structure Bm where
  nx : Env → Bool
  rt : Dv → Bool
  bk : Env → Bool
  ct : Env → Bool
  ex : Exn → Bool
structure BOk (b : Bm) (B : Me) : Prop where
  nx : ∀ ρ, b.nx ρ = true → B.nx ρ
  rt : ∀ x, b.rt x = true → B.rt x
  bk : ∀ ρ, b.bk ρ = true → B.bk ρ
  ct : ∀ ρ, b.ct ρ = true → B.ct ρ
  ex : ∀ x, b.ex x = true → B.ex x
class ChkS (m : MS) where
  chk : Bm → Env → Bool
  ok : ∀ (b : Bm) (B : Me) (ρ : Env), BOk b B → chk b ρ = true → m B ρ
/-- targets -/
class ChkG (f : Env → Dt → (Env → Prop) → Prop) where
  ev : Env → Dt → Option Env
  ok : ∀ (ρ : Env) (d : Dt) (ρ' : Env) (Q : Env → Prop), ev ρ d = some ρ' → Q ρ' → f ρ d Q
section
variable {ma mb mc : Env → M Dv} {mt mu : Env → M Bool} {mr : Env → M (List Dv)} {mf mi : Env → M (List Dt)}
instance {i : Nat} : Chk (mVar i) where
  chk ρ q _ := match ρ[i]? with
    | some (some x) => q x
    | _ => false
  ok ρ q e Q Ex h hq he := by
    unfold mVar
    split at h
    · rename_i x h1
      (try rw [h1]); exact hq _ h
    · cases h
instance {p : Dt} : Chk (mC p) where
  chk _ q _ := q (.d p)
  ok ρ q e Q Ex h hq he := hq _ h
instance {T : String} : Chk (mTy T) where
  chk _ q _ := q (.ty T)
  ok ρ q e Q Ex h hq he := hq _ h
instance {a : Addr} : Chk (mFn a) where
  chk _ q _ := q (.d (fnD a))
  ok ρ q e Q Ex h hq he := hq _ h
instance {f : Dv → Dv → (Dv → Prop) → Prop} [o : Op2 f] [a : Chk ma] [b : Chk mb] : Chk (mBin f ma mb) where
  chk ρ q e := a.chk ρ (fun x => b.chk ρ (fun y => match o.ev x y with
    | some z => q z
    | none => false) e) e
  ok ρ q e Q Ex h hq he := a.ok ρ _ e _ Ex h (fun x hx => b.ok ρ _ e _ Ex hx (fun y hy => by
    split at hy
    · rename_i z hz
      exact o.ok x y z Q hz (hq z hy)
    · cases hy) he) he
instance {f : Dv → (Dv → Prop) → Prop} [o : Op1 f] [a : Chk ma] : Chk (mUn f ma) where
  chk ρ q e := a.chk ρ (fun x => match o.ev x with
    | some z => q z
    | none => false) e
  ok ρ q e Q Ex h hq he := a.ok ρ _ e _ Ex h (fun x hx => by
    split at hx
    · rename_i z hz
      exact o.ok x z Q hz (hq z hx)
    · cases hx) he
instance {f f' : Dv → Dv → (Dv → Prop) → Prop} [o : Op2 f] [o' : Op2 f'] [a : Chk ma] [b : Chk mb] [c : Chk mc] : Chk (mChain f f' ma mb mc) where
  chk ρ q e := a.chk ρ (fun x => b.chk ρ (fun y => match o.ev x y with
    | some (.d (.bool k)) => if k = true then c.chk ρ (fun u => match o'.ev y u with
      | some z => q z
      | none => false) e else q (.d (.bool false))
    | _ => false) e) e
  ok ρ q e Q Ex h hq he := a.ok ρ _ e _ Ex h (fun x hx => b.ok ρ _ e _ Ex hx (fun y hy => by
    split at hy
    · rename_i k hk
      refine o.ok x y _ _ hk ?_
      (try show if k = true then mc ρ (fun u => f' y u Q) Ex else Q (.d (.bool false)))
      split
      · rename_i h1
        rw [if_pos h1] at hy
        exact c.ok ρ _ e _ Ex hy (fun u hu => by
          split at hu
          · rename_i z hz
            exact o'.ok y u z Q hz (hq z hu)
          · cases hu) he
      · rename_i h1
        rw [if_neg h1] at hy
        exact hq _ hy
    · cases hy) he) he
instance [a : Chk ma] : Chk (mB ma) where
  chk ρ q e := a.chk ρ (fun x => match x with
    | .d (.bool k) => q k
    | _ => false) e
  ok ρ q e Q Ex h hq he := a.ok ρ _ e _ Ex h (fun x hx => by
    split at hx
    · exact hq _ hx
    · cases hx) he
instance [t : Chk mt] [u : Chk mu] : Chk (mAnd mt mu) where
  chk ρ q e := t.chk ρ (fun c => if c = true then u.chk ρ q e else q false) e
  ok ρ q e Q Ex h hq he := t.ok ρ _ e _ Ex h (fun c hc => by
    (try show if c = true then mu ρ Q Ex else Q false)
    split
    · rename_i h1
      rw [if_pos h1] at hc
      exact u.ok ρ q e Q Ex hc hq he
    · rename_i h1
      rw [if_neg h1] at hc
      exact hq _ hc) he
instance [t : Chk mt] [u : Chk mu] : Chk (mOr mt mu) where
  chk ρ q e := t.chk ρ (fun c => if c = true then q true else u.chk ρ q e) e
  ok ρ q e Q Ex h hq he := t.ok ρ _ e _ Ex h (fun c hc => by
    (try show if c = true then Q true else mu ρ Q Ex)
    split
    · rename_i h1
      rw [if_pos h1] at hc
      exact hq _ hc
    · rename_i h1
      rw [if_neg h1] at hc
      exact u.ok ρ q e Q Ex hc hq he) he
instance [t : Chk mt] : Chk (mNot mt) where
  chk ρ q e := t.chk ρ (fun c => q (!c)) e
  ok ρ q e Q Ex h hq he := t.ok ρ _ e _ Ex h (fun c hc => hq _ hc) he
instance [a : Chk ma] [b : Chk mb] : Chk (mAndV ma mb) where
  chk ρ q e := a.chk ρ (fun x => match x with
    | .d (.bool c) => if c = true then b.chk ρ q e else q (.d (.bool false))
    | _ => false) e
  ok ρ q e Q Ex h hq he := a.ok ρ _ e _ Ex h (fun x hx => by
    split at hx
    · rename_i c
      (try show if c = true then mb ρ Q Ex else Q (.d (.bool false)))
      split
      · rename_i h1
        rw [if_pos h1] at hx
        exact b.ok ρ q e Q Ex hx hq he
      · rename_i h1
        rw [if_neg h1] at hx
        exact hq _ hx
    · cases hx) he
instance [a : Chk ma] [b : Chk mb] : Chk (mOrV ma mb) where
  chk ρ q e := a.chk ρ (fun x => match x with
    | .d (.bool c) => if c = true then q (.d (.bool true)) else b.chk ρ q e
    | _ => false) e
  ok ρ q e Q Ex h hq he := a.ok ρ _ e _ Ex h (fun x hx => by
    split at hx
    · rename_i c
      (try show if c = true then Q (.d (.bool true)) else mb ρ Q Ex)
      split
      · rename_i h1
        rw [if_pos h1] at hx
        exact hq _ hx
      · rename_i h1
        rw [if_neg h1] at hx
        exact b.ok ρ q e Q Ex hx hq he
    · cases hx) he
instance [a : Chk ma] : Chk (mNotV ma) where
  chk ρ q e := a.chk ρ (fun x => match x with
    | .d (.bool c) => q (.d (.bool (!c)))
    | _ => false) e
  ok ρ q e Q Ex h hq he := a.ok ρ _ e _ Ex h (fun x hx => by
    split at hx
    · exact hq _ hx
    · cases hx) he
instance [t : Chk mt] [a : Chk ma] [b : Chk mb] : Chk (mIf mt ma mb) where
  chk ρ q e := t.chk ρ (fun c => if c = true then a.chk ρ q e else b.chk ρ q e) e
  ok ρ q e Q Ex h hq he := t.ok ρ _ e _ Ex h (fun c hc => by
    (try show if c = true then ma ρ Q Ex else mb ρ Q Ex)
    split
    · rename_i h1
      rw [if_pos h1] at hc
      exact a.ok ρ q e Q Ex hc hq he
    · rename_i h1
      rw [if_neg h1] at hc
      exact b.ok ρ q e Q Ex hc hq he) he
instance : Chk mNil where
  chk _ q _ := q []
  ok ρ q e Q Ex h hq he := hq _ h
instance [a : Chk ma] [r : Chk mr] : Chk (mCons ma mr) where
  chk ρ q e := a.chk ρ (fun x => r.chk ρ (fun xs => q (x :: xs)) e) e
  ok ρ q e Q Ex h hq he := a.ok ρ _ e _ Ex h (fun x hx => r.ok ρ _ e _ Ex hx (fun xs hxs => hq _ hxs) he) he
instance {n : Nat} [r : Chk mr] : Chk (mTup n mr) where
  chk ρ q e := r.chk ρ (fun xs => match dts xs with
    | some ps => q (.d (.tuple ps))
    | none => false) e
  ok ρ q e Q Ex h hq he := r.ok ρ _ e _ Ex h (fun x hx => by
    split at hx
    · rename_i ps h1
      (try show match dts x with | some ps => Q (.d (.tuple ps)) | none => False)
      (try rw [h1]); exact hq _ hx
    · cases hx) he
instance [r : Chk mr] : Chk (mLst mr) where
  chk ρ q e := r.chk ρ (fun xs => match dts xs with
    | some ps => q ps
    | none => false) e
  ok ρ q e Q Ex h hq he := r.ok ρ _ e _ Ex h (fun x hx => by
    split at hx
    · rename_i ps h1
      (try show match dts x with | some ps => Q ps | none => False)
      (try rw [h1]); exact hq _ hx
    · cases hx) he
instance [r : Chk mf] : Chk (mF mf) where
  chk ρ q e := r.chk ρ (fun ds => q (.d (.list ds))) e
  ok ρ q e Q Ex h hq he := r.ok ρ _ e _ Ex h (fun x hx => hq _ hx) he
instance {f : List Dv → (Dv → Prop) → Prop} [o : Bi f] [r : Chk mr] : Chk (mCB f mr) where
  chk ρ q e := r.chk ρ (fun xs => match o.ev xs with
    | some z => q z
    | none => false) e
  ok ρ q e Q Ex h hq he := r.ok ρ _ e _ Ex h (fun x hx => by
    split at hx
    · rename_i z hz
      exact o.ok x z Q hz (hq z hx)
    · cases hx) he
instance {f : List Dv → (List Dt → Prop) → Prop} [o : Bi f] [r : Chk mr] : Chk (mCF f mr) where
  chk ρ q e := r.chk ρ (fun xs => match o.ev xs with
    | some z => q z
    | none => false) e
  ok ρ q e Q Ex h hq he := r.ok ρ _ e _ Ex h (fun x hx => by
    split at hx
    · rename_i z hz
      exact o.ok x z Q hz (hq z hx)
    · cases hx) he
instance {F : List Dv → M Dv} [o : ChkD F] [r : Chk mr] : Chk (mCall F mr) where
  chk ρ q e := r.chk ρ (fun xs => noOwn xs && o.chk xs q e) e
  ok ρ q e Q Ex h hq he := r.ok ρ _ e _ Ex h (fun x hx => by
    rw [Bool.and_eq_true] at hx
    exact ⟨hx.1, o.ok x q e Q Ex hx.2 hq he⟩) he
instance [a : Chk ma] : Chk (mPart ma) where
  chk ρ q e := a.chk ρ (fun x => match x with
    | .d (.int i) => q (some i)
    | _ => false) e
  ok ρ q e Q Ex h hq he := a.ok ρ _ e _ Ex h (fun x hx => by
    split at hx
    · exact hq _ hx
    · cases hx) he
instance : Chk mNoPart where
  chk _ q _ := q none
  ok ρ q e Q Ex h hq he := hq _ h
def evSl (x : Dv) (lo hi : Option Int) : Option Dv := match x.ls? with
  | some ds => some (.d (.list (cutD ds lo hi)))
  | none => match x.tp? with
    | some ds => some (.d (.tuple (cutD ds lo hi)))
    | none => match x with
      | .d (.str z) => if z.length ≤ sizeLine then some (.d (.str (cutS z lo hi))) else none
      | _ => none
theorem evSl_ok {x z : Dv} {lo hi : Option Int} {Q : Dv → Prop} (h : evSl x lo hi = some z) (q : Q z) : fSl x lo hi Q := by
  unfold evSl at h
  unfold fSl
  split at h
  · rename_i ds e
    (try rw [e]); injection h with h; subst h; exact q
  · rename_i e
    (try rw [e])
    split at h
    · rename_i ds e2
      (try rw [e2]); injection h with h; subst h; exact q
    · rename_i e2
      (try rw [e2])
      split at h
      · split at h
        · rename_i hz
          injection h with h; subst h; exact ⟨hz, q⟩
        · cases h
      · cases h
instance {ml mh : Env → M (Option Int)} [a : Chk ma] [l : Chk ml] [u : Chk mh] : Chk (mSl fSl ma ml mh) where
  chk ρ q e := a.chk ρ (fun x => l.chk ρ (fun lo => u.chk ρ (fun hi => match evSl x lo hi with
    | some z => q z
    | none => false) e) e) e
  ok ρ q e Q Ex h hq he := a.ok ρ _ e _ Ex h (fun x hx => l.ok ρ _ e _ Ex hx (fun lo hl => u.ok ρ _ e _ Ex hl (fun hi hh => by
    split at hh
    · rename_i z hz
      exact evSl_ok hz (hq _ hh)
    · cases hh) he) he) he
instance [a : Chk ma] : Chk (mRevT ma) where
  chk ρ q e := a.chk ρ (fun x => match x with
    | .d (.tuple ds) => q (.d (.tuple ds.reverse))
    | _ => false) e
  ok ρ q e Q Ex h hq he := a.ok ρ _ e _ Ex h (fun x hx => by
    split at hx
    · exact hq _ hx
    · cases hx) he
instance [a : Chk ma] : Chk (mItemsA ma) where
  chk ρ q e := a.chk ρ (fun x => match x with
    | .d (.list ds) => q ds
    | .d (.tuple ds) => q ds
    | _ => false) e
  ok ρ q e Q Ex h hq he := a.ok ρ _ e _ Ex h (fun x hx => by
    split at hx
    · exact hq _ hx
    · exact hq _ hx
    · cases hx) he
instance [r : Chk mr] : Chk (mRng1 mr) where
  chk ρ q e := r.chk ρ (fun xs => match xs with
    | [.d (.int j)] => decide (-(2 ^ 62) ≤ j ∧ j < 2 ^ 62) && q (rngD 0 j.toNat)
    | _ => false) e
  ok ρ q e Q Ex h hq he := r.ok ρ _ e _ Ex h (fun x hx => by
    split at hx
    · rw [Bool.and_eq_true, decide_eq_true_eq] at hx
      exact ⟨hx.1.1, hx.1.2, hq _ hx.2⟩
    · cases hx) he
instance [r : Chk mr] : Chk (mRng2 mr) where
  chk ρ q e := r.chk ρ (fun xs => match xs with
    | [.d (.int i), .d (.int j)] => decide (-(2 ^ 62) ≤ i ∧ i < 2 ^ 62 ∧ -(2 ^ 62) ≤ j ∧ j < 2 ^ 62) && q (rngD i (j - i).toNat)
    | _ => false) e
  ok ρ q e Q Ex h hq he := r.ok ρ _ e _ Ex h (fun x hx => by
    split at hx
    · rw [Bool.and_eq_true, decide_eq_true_eq] at hx
      exact ⟨hx.1, hq _ hx.2⟩
    · cases hx) he
instance [r : Chk mr] : Chk (mRng3 mr) where
  chk ρ q e := r.chk ρ (fun xs => match xs with
    | [.d (.int i), .d (.int j), .d (.int (-1))] => decide (-(2 ^ 62) ≤ i ∧ i < 2 ^ 62 ∧ -(2 ^ 62) ≤ j ∧ j < 2 ^ 62) && q (rngDn i (i - j).toNat)
    | _ => false) e
  ok ρ q e Q Ex h hq he := r.ok ρ _ e _ Ex h (fun x hx => by
    split at hx
    · rw [Bool.and_eq_true, decide_eq_true_eq] at hx
      exact ⟨hx.1, hq _ hx.2⟩
    · cases hx) he
instance [r : Chk mr] : Chk (mEnum mr) where
  chk ρ q e := r.chk ρ (fun xs => match xs with
    | [.d (.list ds)] => q (enumD 0 ds)
    | [.d (.tuple ds)] => q (enumD 0 ds)
    | _ => false) e
  ok ρ q e Q Ex h hq he := r.ok ρ _ e _ Ex h (fun x hx => by
    split at hx
    · exact hq _ hx
    · exact hq _ hx
    · cases hx) he
instance [r : Chk mr] : Chk (mZip mr) where
  chk ρ q e := r.chk ρ (fun xs => match xs with
    | [.d (.list as), .d (.list bs)] => q (zipD as bs)
    | [.d (.tuple as), .d (.tuple bs)] => q (zipD as bs)
    | _ => false) e
  ok ρ q e Q Ex h hq he := r.ok ρ _ e _ Ex h (fun x hx => by
    split at hx
    · exact hq _ hx
    · exact hq _ hx
    · cases hx) he
instance [a : Chk ma] : Chk (mTupRg1 ma) where
  chk ρ q e := a.chk ρ (fun x => match x with
    | .d (.int n) => decide (-(2 ^ 62) ≤ n ∧ n ≤ 2 ^ 24) && q (.d (.tuple (rngD 0 n.toNat)))
    | _ => false) e
  ok ρ q e Q Ex h hq he := a.ok ρ _ e _ Ex h (fun x hx => by
    split at hx
    · rw [Bool.and_eq_true, decide_eq_true_eq] at hx
      exact ⟨hx.1, hq _ hx.2⟩
    · cases hx) he
instance [a : Chk ma] [b : Chk mb] : Chk (mFAdd ma mb) where
  chk ρ q e := a.chk ρ (fun x => b.chk ρ (fun y => match x.ls?, y.ls? with
    | some xs, some ys => decide (xs.length + ys.length ≤ sizeLine) && q (xs ++ ys)
    | _, _ => false) e) e
  ok ρ q e Q Ex h hq he := a.ok ρ _ e _ Ex h (fun x hx => b.ok ρ _ e _ Ex hx (fun y hy => by
    split at hy
    · rename_i xs ys e1 e2
      rw [Bool.and_eq_true, decide_eq_true_eq] at hy
      (try show match x.ls?, y.ls? with | some xs, some ys => xs.length + ys.length ≤ sizeLine ∧ Q (xs ++ ys) | _, _ => False)
      (try rw [e1, e2])
      exact ⟨hy.1, hq _ hy.2⟩
    · cases hy) he) he
instance [a : Chk ma] : Chk (mSdI ma) where
  chk ρ q e := a.chk ρ (fun x => match x.ls?.bind intsOf with
    | some ns => decide (ns.length < 4000) && q (ilst (sdI ns))
    | none => false) e
  ok ρ q e Q Ex h hq he := a.ok ρ _ e _ Ex h (fun x hx => by
    split at hx
    · rename_i ns e1
      rw [Bool.and_eq_true, decide_eq_true_eq] at hx
      (try show match x.ls?.bind intsOf with | some ns => ns.length < 4000 ∧ Q (ilst (sdI ns)) | none => False)
      (try rw [e1])
      exact ⟨hx.1, hq _ hx.2⟩
    · cases hx) he
instance [a : Chk ma] [b : Chk mb] : Chk (mSplit ma mb) where
  chk ρ q e := a.chk ρ (fun x => match x with
    | .d (.str a) => b.chk ρ (fun y => match y with
      | .d (.str b) => decide ((b.length == 0) = false ∧ a.length + 2 ≤ sizeLine) && q (slst (Txt.split a b))
      | _ => false) e
    | _ => false) e
  ok ρ q e Q Ex h hq he := a.ok ρ _ e _ Ex h (fun x hx => by
    split at hx
    · exact b.ok ρ _ e _ Ex hx (fun y hy => by
        split at hy
        · rw [Bool.and_eq_true, decide_eq_true_eq] at hy
          exact ⟨hy.1.1, hy.1.2, hq _ hy.2⟩
        · cases hy) he
    · cases hx) he
instance [a : Chk ma] [b : Chk mb] : Chk (mJoin ma mb) where
  chk ρ q e := a.chk ρ (fun x => match x with
    | .d (.str a) => b.chk ρ (fun y => match y.ls?.bind strsOf with
      | some ys => decide ((ys.map (·.length)).sum + ys.length * a.length ≤ 16777216) && q (.d (.str (Txt.join a ys)))
      | none => false) e
    | _ => false) e
  ok ρ q e Q Ex h hq he := a.ok ρ _ e _ Ex h (fun x hx => by
    split at hx
    · rename_i a
      exact b.ok ρ _ e _ Ex hx (fun y hy => by
        split at hy
        · rename_i ys e1
          rw [Bool.and_eq_true, decide_eq_true_eq] at hy
          (try show match y.ls?.bind strsOf with | some ys => (ys.map (·.length)).sum + ys.length * a.length ≤ 16777216 ∧ Q (.d (.str (Txt.join a ys))) | none => False)
          (try rw [e1])
          exact ⟨hy.1, hq _ hy.2⟩
        · cases hy) he
    · cases hx) he
instance : Chk mYes where
  chk _ q _ := q true
  ok ρ q e Q Ex h hq he := hq _ h
instance [a : Chk ma] : Chk (mNotT ma) where
  chk ρ q e := a.chk ρ (fun x => match numD x with
    | some i => q (.d (.bool (i == 0)))
    | none => false) e
  ok ρ q e Q Ex h hq he := a.ok ρ _ e _ Ex h (fun x hx => by
    split at hx
    · rename_i i e1
      (try show match numD x with | some i => Q (.d (.bool (i == 0))) | none => False)
      (try rw [e1]); exact hq _ hx
    · cases hx) he
instance [a : Chk ma] : Chk (mWord ma) where
  chk ρ q e := a.chk ρ (fun _ => q (.d (.str ""))) (fun x => x.arg.isNone && match wordOf x.cls with
    | some ws => q (.d (.str ws))
    | none => false)
  ok ρ q e Q Ex h hq he := a.ok ρ _ _ _ _ h (fun x hx => hq _ hx) (fun x hx => by
    rw [Bool.and_eq_true] at hx
    refine ⟨Option.isNone_iff_eq_none.mp hx.1, ?_⟩
    have h2 := hx.2
    split at h2
    · rename_i ws e1
      (try rw [e1]); exact hq _ h2
    · cases h2)
/-! targets, loops -/
instance {i : Nat} : ChkG (fName i) where
  ev ρ d := some (ρ.set i (some (.d d)))
  ok ρ d ρ' Q h q := by injection h with h; subst h; exact q
instance {f g : Env → Dt → (Env → Prop) → Prop} [a : ChkG f] [b : ChkG g] : ChkG (fTup2 f g) where
  ev ρ d := match d with
    | .tuple [x, y] => (a.ev ρ x).bind fun ρ1 => b.ev ρ1 y
    | _ => none
  ok ρ d ρ' Q h q := by
    split at h
    · rw [Option.bind_eq_some_iff] at h
      obtain ⟨ρ1, h1, h2⟩ := h
      exact a.ok ρ _ ρ1 _ h1 (b.ok ρ1 _ ρ' Q h2 q)
    · cases h
def chkLc (g : Env → Dt → Option Env) (t : Env → (Bool → Bool) → (Exn → Bool) → Bool) (x : Env → (Dv → Bool) → (Exn → Bool) → Bool) (ρ0 : Env) (q : List Dt → Bool) : List Dt → List Dt → Bool
  | [], acc => q acc
  | d :: ds, acc => match g ρ0 d with
    | some ρ1 => t ρ1 (fun b => if b = true then x ρ1 (fun y => match y with
        | .d p => decide (acc.length < sizeLine) && chkLc g t x ρ0 q ds (acc ++ [p])
        | _ => false) (fun _ => false) else chkLc g t x ρ0 q ds acc) (fun _ => false)
    | none => false
theorem chkLc_ok {f : Env → Dt → (Env → Prop) → Prop} {mt : Env → M Bool} {me : Env → M Dv} [g : ChkG f] [t : Chk mt] [x : Chk me] {ρ0 : Env} {q : List Dt → Bool} {Q : List Dt → Prop} (hq : ∀ x, q x = true → Q x) : ∀ (ds acc : List Dt), chkLc g.ev t.chk x.chk ρ0 q ds acc = true → lcL f mt me ρ0 Q ds acc
  | [], acc, h => by unfold lcL; exact hq _ h
  | d :: ds, acc, h => by
    unfold lcL
    unfold chkLc at h
    split at h
    · rename_i ρ1 e
      refine g.ok _ _ _ _ e (t.ok ρ1 _ _ _ _ h (fun b hb => ?_) (fun _ z => by cases z))
      split at hb
      · rename_i h1
        rw [if_pos h1]
        refine x.ok ρ1 _ _ _ _ hb (fun y hy => ?_) (fun _ z => by cases z)
        split at hy
        · rw [Bool.and_eq_true, decide_eq_true_eq] at hy
          exact ⟨hy.1, chkLc_ok hq ds _ hy.2⟩
        · cases hy
      · rename_i h1
        rw [if_neg h1]
        exact chkLc_ok hq ds acc hb
    · cases h
instance {f : Env → Dt → (Env → Prop) → Prop} {vs : List Nat} [i : Chk mi] [g : ChkG f] [t : Chk mt] [x : Chk ma] : Chk (mLc mi f mt ma vs) where
  chk ρ q e := i.chk ρ (fun ds => chkLc g.ev t.chk x.chk (wipeE ρ vs) q ds []) e
  ok ρ q e Q Ex h hq he := i.ok ρ _ e _ Ex h (fun ds hd => chkLc_ok hq ds [] hd) he
end
/-! statements -/
section
variable {m n : MS} {ma mb : Env → M Dv} {mt : Env → M Bool} {mf mi : Env → M (List Dt)}
instance [a : ChkS m] [b : ChkS n] : ChkS (mSeq m n) where
  chk B ρ := a.chk { B with nx := b.chk B } ρ
  ok b' B ρ h c := a.ok { b' with nx := b.chk b' } { B with nx := n B } ρ ⟨fun ρ1 h1 => b.ok b' B ρ1 h h1, h.rt, h.bk, h.ct, h.ex⟩ c
instance : ChkS mNext where
  chk B ρ := B.nx ρ
  ok b B ρ h c := h.nx ρ c
instance : ChkS mBrk where
  chk B ρ := B.bk ρ
  ok b B ρ h c := h.bk ρ c
instance : ChkS mCont where
  chk B ρ := B.ct ρ
  ok b B ρ h c := h.ct ρ c
instance [a : Chk ma] : ChkS (mDrop ma) where
  chk B ρ := a.chk ρ (fun _ => B.nx ρ) B.ex
  ok b B ρ h c := a.ok ρ _ _ _ _ c (fun _ hx => h.nx ρ hx) h.ex
instance [a : Chk ma] : ChkS (mRet ma) where
  chk B ρ := a.chk ρ (fun x => !x.isOwn && B.rt x) B.ex
  ok b B ρ h c := a.ok ρ _ _ _ _ c (fun x hx => by
    rw [Bool.and_eq_true, Bool.not_eq_true'] at hx
    exact ⟨hx.1, h.rt x hx.2⟩) h.ex
instance [t : Chk mt] [a : ChkS m] [b : ChkS n] : ChkS (mIfS mt m n) where
  chk B ρ := t.chk ρ (fun c => if c = true then a.chk B ρ else b.chk B ρ) B.ex
  ok b' B ρ h c := t.ok ρ _ _ _ _ c (fun k hk => by
    (try show if k = true then m B ρ else n B ρ)
    split
    · rename_i h1
      rw [if_pos h1] at hk
      exact a.ok b' B ρ h hk
    · rename_i h1
      rw [if_neg h1] at hk
      exact b.ok b' B ρ h hk) h.ex
instance {i : Nat} [a : ChkS m] : ChkS (mFreeze i m) where
  chk B ρ := match ρ[i]? with
    | some (some x) => if x.isOwn = true then a.chk B (ρ.set i (some (fzD x))) else a.chk B ρ
    | _ => a.chk B ρ
  ok b B ρ h c := by
    unfold mFreeze
    split at c
    · rename_i x e
      (try rw [e])
      (try show if x.isOwn = true then _ else _)
      split
      · rename_i h1
        rw [if_pos h1] at c
        exact a.ok b B _ h c
      · rename_i h1
        rw [if_neg h1] at c
        exact a.ok b B _ h c
    · rename_i e
      first
      | (split
         · rename_i x e2
           exact absurd e2 (e x)
         · exact a.ok b B ρ h c)
      | exact a.ok b B ρ h c
instance [a : Chk ma] : Chk (mVal ma) where
  chk ρ q e := a.chk ρ (fun x => !x.isOwn && q x) e
  ok ρ q e Q Ex h hq he := a.ok ρ _ _ _ _ h (fun x hx => by
    rw [Bool.and_eq_true, Bool.not_eq_true'] at hx
    exact ⟨hx.1, hq x hx.2⟩) he
instance [a : Chk mf] : Chk (mOwn mf) where
  chk ρ q e := a.chk ρ (fun ds => q (.own ds)) e
  ok ρ q e Q Ex h hq he := a.ok ρ _ _ _ _ h (fun x hx => hq _ hx) he
instance {i : Nat} [a : Chk ma] : ChkS (mSet i ma) where
  chk B ρ := a.chk ρ (fun x => B.nx (ρ.set i (some x))) B.ex
  ok b B ρ h c := a.ok ρ _ _ _ _ c (fun x hx => h.nx _ hx) h.ex
instance {i j : Nat} [a : Chk ma] [b : Chk mb] : ChkS (mPar i j ma mb) where
  chk B ρ := a.chk ρ (fun x => b.chk ρ (fun y => B.nx ((ρ.set i (some x)).set j (some y))) B.ex) B.ex
  ok b' B ρ h c := a.ok ρ _ _ _ _ c (fun x hx => b.ok ρ _ _ _ _ hx (fun y hy => h.nx _ hy) h.ex) h.ex
instance {f : Env → Dt → (Env → Prop) → Prop} [g : ChkG f] [a : Chk ma] : ChkS (mAsgT f ma) where
  chk B ρ := a.chk ρ (fun x => match x with
    | .d p => (match g.ev ρ p with
      | some ρ' => B.nx ρ'
      | none => false)
    | _ => false) B.ex
  ok b B ρ h c := a.ok ρ _ _ _ _ c (fun x hx => by
    split at hx
    · split at hx
      · rename_i ρ' e
        exact g.ok _ _ ρ' _ e (h.nx _ hx)
      · cases hx
    · cases hx) h.ex
instance {i : Nat} {f : Dv → Dv → (Dv → Prop) → Prop} [o : Op2 f] [a : Chk ma] : ChkS (mAug i f ma) where
  chk B ρ := match ρ[i]? with
    | some (some x) => a.chk ρ (fun y => match o.ev x y with
      | some z => !z.isOwn && B.nx (ρ.set i (some z))
      | none => false) B.ex
    | _ => false
  ok b B ρ h c := by
    unfold mAug
    split at c
    · rename_i x e
      (try rw [e])
      exact a.ok ρ _ _ _ _ c (fun y hy => by
        split at hy
        · rename_i z hz
          rw [Bool.and_eq_true, Bool.not_eq_true'] at hy
          exact o.ok _ _ z _ hz ⟨hy.1, h.nx _ hy.2⟩
        · cases hy) h.ex
    · cases c
instance {i : Nat} [a : Chk ma] : ChkS (mApp i ma) where
  chk B ρ := match ρ[i]? with
    | some (some (.own ds)) => a.chk ρ (fun y => match y with
      | .d p => decide (ds.length < sizeLine) && B.nx (ρ.set i (some (.own (ds ++ [p]))))
      | _ => false) B.ex
    | _ => false
  ok b B ρ h c := by
    unfold mApp
    split at c
    · rename_i ds e
      (try rw [e])
      exact a.ok ρ _ _ _ _ c (fun y hy => by
        split at hy
        · rw [Bool.and_eq_true, decide_eq_true_eq] at hy
          exact ⟨hy.1, h.nx _ hy.2⟩
        · cases hy) h.ex
    · cases c
instance {i : Nat} [a : Chk ma] : ChkS (mExt i ma) where
  chk B ρ := match ρ[i]? with
    | some (some (.own ds)) => a.chk ρ (fun y => match y.ls? with
      | some es => decide (ds.length + es.length ≤ sizeLine) && B.nx (ρ.set i (some (.own (ds ++ es))))
      | none => false) B.ex
    | _ => false
  ok b B ρ h c := by
    unfold mExt
    split at c
    · rename_i ds e
      (try rw [e])
      exact a.ok ρ _ _ _ _ c (fun y hy => by
        split at hy
        · rename_i es e2
          rw [Bool.and_eq_true, decide_eq_true_eq] at hy
          (try rw [e2])
          exact ⟨hy.1, h.nx _ hy.2⟩
        · cases hy) h.ex
    · cases c
instance {x : Exn} : ChkS (mRaise x) where
  chk B _ := B.ex x
  ok b B ρ h c := h.ex x c
def chkFor (g : Env → Dt → Option Env) (s : Bm → Env → Bool) (B : Bm) : List Dt → Env → Bool
  | [], ρ => B.nx ρ
  | d :: ds, ρ => match g ρ d with
    | some ρ1 => s { B with nx := chkFor g s B ds, ct := chkFor g s B ds, bk := B.nx } ρ1
    | none => false
theorem chkFor_ok {f : Env → Dt → (Env → Prop) → Prop} [g : ChkG f] [s : ChkS m] {b : Bm} {B : Me} (h : BOk b B) : ∀ (ds : List Dt) (ρ : Env), chkFor g.ev s.chk b ds ρ = true → forL f m B ds ρ
  | [], ρ, c => by unfold forL; exact h.nx ρ c
  | d :: ds, ρ, c => by
    unfold forL
    unfold chkFor at c
    split at c
    · rename_i ρ1 e
      exact g.ok _ _ _ _ e (s.ok { b with nx := chkFor g.ev s.chk b ds, ct := chkFor g.ev s.chk b ds, bk := b.nx } { B with nx := forL f m B ds, ct := forL f m B ds, bk := B.nx } ρ1 ⟨fun ρ' h' => chkFor_ok h ds ρ' h', h.rt, h.nx, fun ρ' h' => chkFor_ok h ds ρ' h', h.ex⟩ c)
    · cases c
instance {f : Env → Dt → (Env → Prop) → Prop} [i : Chk mi] [g : ChkG f] [s : ChkS m] : ChkS (mFor mi f m) where
  chk B ρ := i.chk ρ (fun ds => chkFor g.ev s.chk B ds ρ) B.ex
  ok b B ρ h c := i.ok ρ _ _ _ _ c (fun ds hd => chkFor_ok h ds ρ hd) h.ex
def chkWh (t : Env → (Bool → Bool) → (Exn → Bool) → Bool) (s : Bm → Env → Bool) (B : Bm) : Nat → Env → Bool
  | 0, _ => false
  | n + 1, ρ => t ρ (fun c => if c = true then s { B with nx := chkWh t s B n, ct := chkWh t s B n, bk := B.nx } ρ else B.nx ρ) B.ex
theorem chkWh_ok [t : Chk mt] [s : ChkS m] {b : Bm} {B : Me} (h : BOk b B) : ∀ (n : Nat) (ρ : Env), chkWh t.chk s.chk b n ρ = true → whileN mt m B n ρ
  | 0, ρ, c => by cases c
  | n + 1, ρ, c => by
    unfold whileN
    unfold chkWh at c
    refine t.ok ρ _ _ _ _ c (fun k hk => ?_) h.ex
    split at hk
    · rename_i h1
      rw [if_pos h1]
      exact s.ok { b with nx := chkWh t.chk s.chk b n, ct := chkWh t.chk s.chk b n, bk := b.nx } { B with nx := whileN mt m B n, ct := whileN mt m B n, bk := B.nx } ρ ⟨fun ρ' h' => chkWh_ok h n ρ' h', h.rt, h.nx, fun ρ' h' => chkWh_ok h n ρ' h', h.ex⟩ hk
    · rename_i h1
      rw [if_neg h1]
      exact h.nx _ hk
instance [t : Chk mt] [s : ChkS m] : ChkS (mWhile mt m) where
  chk B ρ := chkWh t.chk s.chk B 400 ρ
  ok b B ρ h c := ⟨400, chkWh_ok h 400 ρ c⟩
/-- a def by its body -/
@[reducible] def ChkD.of (m : MS) [s : ChkS m] (n : Nat) : ChkD (fun xs Q Ex => m (endM Q Ex) (startE n xs)) where
  chk xs q e := s.chk { nx := fun _ => q (.d .none), rt := q, bk := fun _ => false, ct := fun _ => false, ex := e } (startE n xs)
  ok xs q e Q Ex h hq he := s.ok { nx := fun _ => q (.d .none), rt := q, bk := fun _ => false, ct := fun _ => false, ex := e } (endM Q Ex) _ ⟨fun _ h => hq _ h, hq, fun _ h => Bool.noConfusion h, fun _ h => Bool.noConfusion h, he⟩ h
@[reducible] def ChkD.no : ChkD (fun _ _ _ => False) where
  chk _ _ _ := false
  ok xs q e Q Ex h hq he := by cases h
end
/-! operations -/
instance {g : Int → Int → Dt} : Op2 (Ks.opI0 g) where
  ev x y := match x, y with
    | .d (.int i), .d (.int j) => some (.d (g i j))
    | _, _ => none
  ok x y z Q h q := by
    split at h
    · injection h with h; subst h; exact q
    · cases h
instance {C : Int → Int → Prop} [∀ i j, Decidable (C i j)] {g : Int → Int → Dt} : Op2 (Ks.opI C g) where
  ev x y := match x, y with
    | .d (.int i), .d (.int j) => if C i j then some (.d (g i j)) else none
    | _, _ => none
  ok x y z Q h q := by
    split at h
    · split at h
      · rename_i hc
        injection h with h; subst h; exact ⟨hc, q⟩
      · cases h
    · cases h
instance {i j : Int} : Decidable (CDivW i j) := by unfold CDivW; infer_instance
instance {i j : Int} : Decidable (CPow i j) := by unfold CPow; infer_instance
instance {i j : Int} : Decidable (CMul i j) := by unfold CMul; infer_instance
instance {i j : Int} : Decidable (CMulW i j) := by unfold CMulW; infer_instance
def evAdd : Dv → Dv → Option Dv
  | .d (.int i), .d (.int j) => some (.d (.int (i + j)))
  | .d (.str x), .d (.str y) => if x.length + y.length ≤ sizeLine then some (.d (.str (x ++ y))) else none
  | .d (.tuple xs), .d (.tuple ys) => if xs.length + ys.length ≤ sizeLine then some (.d (.tuple (xs ++ ys))) else none
  | .d (.list xs), .d (.list ys) => if xs.length + ys.length ≤ sizeLine then some (.d (.list (xs ++ ys))) else none
  | .own xs, .d (.list ys) => if xs.length + ys.length ≤ sizeLine then some (.d (.list (xs ++ ys))) else none
  | _, _ => none
instance : Op2 fAdd where
  ev := evAdd
  ok x y z Q h q := by
    unfold evAdd at h
    split at h
    · injection h with h; subst h; exact q
    all_goals first
      | (split at h
         · rename_i hc
           injection h with h; subst h; exact ⟨hc, q⟩
         · cases h)
      | cases h
instance : Op2 fEq where
  ev x y := match x.pl, y.pl with
    | .d p, .d q => if SeqAt.shaped p = true ∧ SeqAt.shaped q = true then some (.d (.bool (PyData.eqv p q))) else none
    | _, _ => none
  ok x y z Q h q := by
    unfold fEq
    split at h
    · rename_i e1 e2
      (try rw [e1, e2])
      split at h
      · rename_i hc
        injection h with h; subst h; exact ⟨hc.1, hc.2, q⟩
      · cases h
    · cases h
instance : Op2 fNe where
  ev x y := match x.pl, y.pl with
    | .d p, .d q => if SeqAt.shaped p = true ∧ SeqAt.shaped q = true then some (.d (.bool (!PyData.eqv p q))) else none
    | _, _ => none
  ok x y z Q h q := by
    unfold fNe
    split at h
    · rename_i e1 e2
      (try rw [e1, e2])
      split at h
      · rename_i hc
        injection h with h; subst h; exact ⟨hc.1, hc.2, q⟩
      · cases h
    · cases h
def sq? (y : Dv) : Option (List Dt) := match y.ls? with
  | some ds => some ds
  | none => y.tp?
theorem fIn_sq {neg : Bool} {p : Dt} {y : Dv} {ds : List Dt} {Q : Dv → Prop} (e : sq? y = some ds) (h1 : flatD p = true) (h2 : ds.all flatD = true) (q : Q (.d (.bool (if neg then !ds.any (fun z => eqF z p) else ds.any (fun z => eqF z p))))) : fIn neg (.d p) y Q := by
  unfold sq? at e
  unfold fIn
  cases e1 : y.ls? with
  | some d1 =>
    rw [e1] at e; injection e with e; subst e
    exact ⟨h1, h2, q⟩
  | none =>
    rw [e1] at e
    have e : y.tp? = some ds := e
    simp only [e]
    exact ⟨h1, h2, q⟩
instance {neg : Bool} : Op2 (fIn neg) where
  ev x y := match x, sq? y with
    | .d p, some ds => if flatD p = true ∧ ds.all flatD = true then some (.d (.bool (if neg then !ds.any (fun z => eqF z p) else ds.any (fun z => eqF z p)))) else none
    | _, _ => none
  ok x y z Q h q := by
    split at h
    · rename_i p ds e1
      split at h
      · rename_i hc
        injection h with h; subst h; exact fIn_sq e1 hc.1 hc.2 q
      · cases h
    · cases h
instance {neg : Bool} : Op2 (fInL neg) where
  ev x y := match x, y.ls? with
    | .d p, some ds => if SeqAt.shaped p = true ∧ SeqAt.shaped (.list ds) = true then some (.d (.bool (if neg then !ds.any fun z => PyData.eqv z p else ds.any fun z => PyData.eqv z p))) else none
    | _, _ => none
  ok x y z Q h q := by
    unfold fInL
    split at h
    · rename_i p ds e1
      (try rw [e1])
      split at h
      · rename_i hc
        injection h with h; subst h; exact ⟨hc.1, hc.2, q⟩
      · cases h
    · cases h
instance : Op2 fIs where
  ev x y := match y with
    | .d .none => some (.d (.bool (isNonD x)))
    | _ => none
  ok x y z Q h q := by
    split at h
    · injection h with h; subst h; exact q
    · cases h
instance : Op2 fIsNot where
  ev x y := match y with
    | .d .none => some (.d (.bool (!isNonD x)))
    | _ => none
  ok x y z Q h q := by
    split at h
    · injection h with h; subst h; exact q
    · cases h
instance : Op2 fIx where
  ev x y := match y with
    | .d (.int i) => (match (match x.ls? with | some ds => some ds | none => x.tp?) with
      | some ds => (atI ds i).map Dv.d
      | none => match x with
        | .d (.str z) => if z.length ≤ sizeLine then (atI z.cps.toList i).map fun c => .d (.str ⟨#[c]⟩) else none
        | _ => none)
    | _ => none
  ok x y z Q h q := by
    unfold fIx
    split at h
    · rename_i i
      split at h
      · rename_i ds e
        rw [Option.map_eq_some_iff] at h
        obtain ⟨p, h1, rfl⟩ := h
        (try show match (match x.ls? with | some ds => some ds | none => x.tp?) with | some ds => _ | none => _)
        (try rw [e])
        exact ⟨p, h1, q⟩
      · rename_i e
        (try show match (match x.ls? with | some ds => some ds | none => x.tp?) with | some ds => _ | none => _)
        (try rw [e])
        split at h
        · split at h
          · rename_i hz
            rw [Option.map_eq_some_iff] at h
            obtain ⟨p, h1, rfl⟩ := h
            exact ⟨hz, p, h1, q⟩
          · cases h
        · cases h
    · cases h
def evMul : Dv → Dv → Option Dv
  | .d (.int i), .d (.int j) => if CMul i j ∨ CMulW i j then some (.d (.int (i * j))) else none
  | .d (.tuple xs), .d (.int k) => if xs ≠ [] ∧ 2 ≤ k ∧ k ≤ 1000 ∧ xs.length ≤ 1000 then some (.d (.tuple (List.replicate k.toNat xs).flatten)) else none
  | .d (.list xs), .d (.int k) => if -(2 ^ 63) ≤ k ∧ k < 2 ^ 63 ∧ xs.length * k.toNat ≤ sizeLine then some (.d (.list (List.replicate k.toNat xs).flatten)) else none
  | _, _ => none
instance : Op2 fMulA where
  ev := evMul
  ok x y z Q h q := by
    unfold evMul at h
    split at h
    · split at h
      · rename_i hc
        injection h with h; subst h; exact ⟨hc, q⟩
      · cases h
    · split at h
      · rename_i hc
        injection h with h; subst h; exact ⟨hc.1, hc.2.1, hc.2.2.1, hc.2.2.2, q⟩
      · cases h
    · split at h
      · rename_i hc
        injection h with h; subst h; exact ⟨hc.1, hc.2.1, hc.2.2, q⟩
      · cases h
    · cases h
instance {g : Int → Int → Bool} {l : List Int → List Int → Bool} : Op2 (fCmpT g l) where
  ev x y := match x, y with
    | .d (.int i), .d (.int j) => some (.d (.bool (g i j)))
    | .d (.tuple xs), .d (.tuple ys) => (match intsOf xs, intsOf ys with
      | some ns, some ms => some (.d (.bool (l ns ms)))
      | _, _ => none)
    | _, _ => none
  ok x y z Q h q := by
    unfold fCmpT
    split at h
    · injection h with h; subst h; exact q
    · split at h
      · rename_i ns ms e1 e2
        injection h with h; subst h
        (try show match intsOf _, intsOf _ with | some ns, some ms => Q (.d (.bool (l ns ms))) | _, _ => False)
        (try rw [e1, e2]); exact q
      · cases h
    · cases h
instance : Op1 fNeg where
  ev x := match x with
    | .d (.int i) => some (.d (.int (-i)))
    | _ => none
  ok x z Q h q := by
    split at h
    · injection h with h; subst h; exact q
    · cases h
instance : Bi fAbs where
  ev xs := match xs with
    | [.d (.int i)] => some (.d (.int (if i < 0 then -i else i)))
    | _ => none
  ok xs z Q h q := by
    split at h
    · injection h with h; subst h; exact q
    · cases h
instance {g : Int → Int → Int} : Bi (f2I g) where
  ev xs := match xs with
    | [.d (.int i), .d (.int j)] => some (.d (.int (g i j)))
    | _ => none
  ok xs z Q h q := by
    split at h
    · injection h with h; subst h; exact q
    · cases h
instance : Bi fInt where
  ev xs := match xs with
    | [.d (.int i)] => some (.d (.int i))
    | [.d (.bool k)] => some (.d (.int (if k then 1 else 0)))
    | _ => none
  ok xs z Q h q := by
    split at h
    · injection h with h; subst h; exact q
    · injection h with h; subst h; exact q
    · cases h
instance : Bi fStrA where
  ev xs := match xs with
    | [.d (.int i)] => if i.natAbs.log2 < 1920 then some (.d (.str (toString i))) else none
    | [.d (.bool b)] => some (.d (.str (if b then "True" else "False")))
    | _ => none
  ok xs z Q h q := by
    split at h
    · split at h
      · rename_i hc
        injection h with h; subst h; exact ⟨hc, q⟩
      · cases h
    · injection h with h; subst h; exact q
    · cases h
instance : Bi fLen where
  ev xs := match xs with
    | [.d (.str x)] => if x.length ≤ sizeLine then some (.d (.int x.length)) else none
    | [.d (.list ds)] => some (.d (.int ds.length))
    | [.d (.tuple ds)] => some (.d (.int ds.length))
    | [.own ds] => some (.d (.int ds.length))
    | _ => none
  ok xs z Q h q := by
    split at h
    · split at h
      · rename_i hc
        injection h with h; subst h; exact ⟨hc, q⟩
      · cases h
    · injection h with h; subst h; exact q
    · injection h with h; subst h; exact q
    · injection h with h; subst h; exact q
    · cases h
instance : Bi fAll where
  ev xs := match xs with
    | [x] => (x.ls?.bind blsOf).map fun bs => .d (.bool (bs.all id))
    | _ => none
  ok xs z Q h q := by
    split at h
    · rw [Option.map_eq_some_iff] at h
      obtain ⟨bs, h1, rfl⟩ := h
      (try show match Option.bind _ blsOf with | some bs => Q (.d (.bool (bs.all id))) | none => False)
      (try rw [h1]); exact q
    · cases h
instance : Bi fAny where
  ev xs := match xs with
    | [x] => (x.ls?.bind blsOf).map fun bs => .d (.bool (bs.any id))
    | _ => none
  ok xs z Q h q := by
    split at h
    · rw [Option.map_eq_some_iff] at h
      obtain ⟨bs, h1, rfl⟩ := h
      (try show match Option.bind _ blsOf with | some bs => Q (.d (.bool (bs.any id))) | none => False)
      (try rw [h1]); exact q
    · cases h
instance : Bi fTupOf where
  ev xs := match xs with
    | [x] => (match x.ls? with | some ds => some ds | none => x.tp?).map fun ds => .d (.tuple ds)
    | _ => none
  ok xs z Q h q := by
    split at h
    · rw [Option.map_eq_some_iff] at h
      obtain ⟨ds, h1, rfl⟩ := h
      rename_i x
      cases e1 : x.ls? with
      | some d1 =>
        rw [e1] at h1; injection h1 with h1; subst h1
        unfold fTupOf; simp only [e1]; exact q
      | none =>
        rw [e1] at h1
        have h1 : x.tp? = some ds := h1
        unfold fTupOf; simp only [e1, h1]; exact q
    · cases h
instance : Bi fLstOf where
  ev xs := match xs with
    | [x] => (match x.ls? with | some ds => some ds | none => x.tp?)
    | _ => none
  ok xs z Q h q := by
    split at h
    · rename_i x
      cases e1 : x.ls? with
      | some d1 =>
        rw [e1] at h; injection h with h; subst h
        unfold fLstOf; simp only [e1]; exact q
      | none =>
        rw [e1] at h
        have h : x.tp? = some z := h
        unfold fLstOf; simp only [e1, h]; exact q
    · cases h
/-- sorting that the kernel runs -/
def insL (x : Int) : List Int → List Int
  | [] => [x]
  | y :: ys => if x ≤ y then x :: y :: ys else y :: insL x ys
def isrt : List Int → List Int
  | [] => []
  | x :: xs => insL x (isrt xs)
theorem insL_perm (x : Int) : ∀ l : List Int, (insL x l).Perm (x :: l)
  | [] => List.Perm.refl _
  | y :: ys => by
    unfold insL
    split
    · exact List.Perm.refl _
    · exact ((insL_perm x ys).cons y).trans (List.Perm.swap x y ys)
theorem insL_sorted {x : Int} : ∀ {l : List Int}, l.Pairwise (· ≤ ·) → (insL x l).Pairwise (· ≤ ·)
  | [], _ => by simp [insL]
  | y :: ys, h => by
    obtain ⟨h1, h2⟩ := List.pairwise_cons.mp h
    unfold insL
    split
    · rename_i c
      refine List.pairwise_cons.mpr ⟨fun z hz => ?_, h⟩
      rcases List.mem_cons.mp hz with rfl | hz
      · exact c
      · have := h1 z hz; omega
    · refine List.pairwise_cons.mpr ⟨fun z hz => ?_, insL_sorted h2⟩
      rcases List.mem_cons.mp ((insL_perm x ys).mem_iff.mp hz) with rfl | hz
      · omega
      · exact h1 z hz
theorem isrt_perm : ∀ l : List Int, (isrt l).Perm l
  | [] => List.Perm.refl _
  | x :: xs => (insL_perm x _).trans ((isrt_perm xs).cons x)
theorem isrt_sorted : ∀ l : List Int, (isrt l).Pairwise (· ≤ ·)
  | [] => List.Pairwise.nil
  | x :: xs => insL_sorted (isrt_sorted xs)
theorem isrt_eq (l : List Int) : isrt l = isort l := isort_uniq (isrt_perm l) (isrt_sorted l)
instance : Bi fSortI where
  ev xs := match xs with
    | [x] => (x.ls?.bind intsOf).map fun ns => ilst (isrt ns)
    | _ => none
  ok xs z Q h q := by
    split at h
    · rw [Option.map_eq_some_iff] at h
      obtain ⟨bs, h1, rfl⟩ := h
      (try show match Option.bind _ intsOf with | some ns => Q (ilst (isort ns)) | none => False)
      (try rw [h1])
      show Q (ilst (isort bs))
      rw [← isrt_eq]; exact q
    · cases h
instance : Bi fMin2T where
  ev xs := match xs with
    | [.d (.int i), .d (.int j)] => some (.d (.int (if j < i then j else i)))
    | [.d (.tuple xs), .d (.tuple ys)] => (match intsOf xs, intsOf ys with
      | some ns, some ms => some (.d (.tuple (if HT.lexLt ms ns = true then ys else xs)))
      | _, _ => none)
    | _ => none
  ok xs z Q h q := by
    unfold fMin2T
    split at h
    · injection h with h; subst h; exact q
    · split at h
      · rename_i ns ms e1 e2
        injection h with h; subst h
        (try show match intsOf _, intsOf _ with | some ns, some ms => Q _ | _, _ => False)
        (try rw [e1, e2]); exact q
      · cases h
    · cases h
instance : Bi fIsI where
  ev xs := match xs with
    | [x, .ty T] => if ["int", "bool", "str", "list", "tuple"].contains T = true then (tyD x).bind fun t => (isiB t T).map fun b => .d (.bool b) else none
    | _ => none
  ok xs z Q h q := by
    split at h
    · split at h
      · rename_i hc
        rw [Option.bind_eq_some_iff] at h
        obtain ⟨t, h1, h2⟩ := h
        rw [Option.map_eq_some_iff] at h2
        obtain ⟨b, h3, rfl⟩ := h2
        unfold fIsI
        refine ⟨hc, ?_⟩
        (try rw [h1])
        (try show match isiB t _ with | some b => Q (.d (.bool b)) | none => False)
        rw [h3]; exact q
      · cases h
    · cases h
end Ks
end

section
set_option Elab.async false
set_option linter.all false
set_option maxRecDepth 100000
set_option maxHeartbeats 4000000
/-! # Meanings rewritten: equations for simp -/
namespace Ks
open PySem PySem.Spec PyProof.Rows L2
theorem kv_dts1 : dts [] = some [] := rfl
theorem kv_dts2 {p : Dt} {xs : List Dv} : dts (.d p :: xs) = (dts xs).map (p :: ·) := rfl
theorem kv_dts3 {p : Dt} {xs : List Dv} {ps : List Dt} (h : dts xs = some ps) : dts (.d p :: xs) = some (p :: ps) := by rw [kv_dts2, h]; rfl
theorem kv_own {p : Dt} : (Dv.d p).isOwn = false := rfl
theorem kv_noOwn1 : noOwn [] = true := rfl
theorem kv_noOwn2 {p : Dt} {xs : List Dv} : noOwn (.d p :: xs) = noOwn xs := rfl
theorem kv_noOwn3 {xs : List Dv} : noOwn (.coil :: xs) = noOwn xs := rfl
theorem kv_noOwn4 {ns : List Int} {xs : List Dv} : noOwn (.scr ns :: xs) = noOwn xs := rfl
theorem kv_map0 {α β : Type} {f : α → β} : Option.map f none = none := rfl
theorem kv_map1 {α β : Type} {f : α → β} {x : α} : Option.map f (some x) = some (f x) := rfl
section
variable {i j : Int} {Q : Dv → Prop}
theorem kv_sub : fSub (.d (.int i)) (.d (.int j)) Q = Q (.d (.int (i - j))) := rfl
theorem kv_addI : fAdd (.d (.int i)) (.d (.int j)) Q = Q (.d (.int (i + j))) := rfl
theorem kv_lt : fLt (.d (.int i)) (.d (.int j)) Q = Q (.d (.bool (decide (i < j)))) := rfl
theorem kv_le : fLe (.d (.int i)) (.d (.int j)) Q = Q (.d (.bool (decide (i ≤ j)))) := rfl
theorem kv_gt : fGt (.d (.int i)) (.d (.int j)) Q = Q (.d (.bool (decide (j < i)))) := rfl
theorem kv_ge : fGe (.d (.int i)) (.d (.int j)) Q = Q (.d (.bool (decide (j ≤ i)))) := rfl
theorem kv_min2 : fMin2 [.d (.int i), .d (.int j)] Q = Q (.d (.int (if j < i then j else i))) := rfl
theorem kv_max2 : fMax2 [.d (.int i), .d (.int j)] Q = Q (.d (.int (if j > i then j else i))) := rfl
theorem kv_len_t {ds : List Dt} : fLen [.d (.tuple ds)] Q = Q (.d (.int (ds.length : Nat))) := rfl
theorem kv_len_l {ds : List Dt} : fLen [.d (.list ds)] Q = Q (.d (.int (ds.length : Nat))) := rfl
theorem kv_pow (h : CPow i j) : fPow (.d (.int i)) (.d (.int j)) Q = Q (.d (.int (i ^ j.toNat))) := by
  show (CPow i j ∧ Q (.d (.int (i ^ j.toNat)))) = _
  simp [h]
end
theorem shaped_i (a : Int) : SeqAt.shaped (.int a) = true := by
  unfold SeqAt.shaped PyData.canLay0 PyData.depth; rfl
theorem shaped_b (a : Bool) : SeqAt.shaped (.bool a) = true := by
  unfold SeqAt.shaped PyData.canLay0 PyData.depth; rfl
theorem kv_eqv_i (a b : Int) : PyData.eqv (.int a) (.int b) = (a == b) := by unfold PyData.eqv; rfl
theorem kv_eqv_s (a b : Str) : PyData.eqv (.str a) (.str b) = (a == b) := by unfold PyData.eqv; rfl
theorem kv_eqI {a c : Int} {K : Dv → Prop} : fEq (.d (.int a)) (.d (.int c)) K = K (.d (.bool (a == c))) := by
  show (SeqAt.shaped (.int a) = true ∧ SeqAt.shaped (.int c) = true ∧ K (.d (.bool (PyData.eqv (.int a) (.int c))))) = _
  rw [kv_eqv_i, shaped_i, shaped_i]; simp
theorem kv_neI {a c : Int} {K : Dv → Prop} : fNe (.d (.int a)) (.d (.int c)) K = K (.d (.bool (!(a == c)))) := by
  show (SeqAt.shaped (.int a) = true ∧ SeqAt.shaped (.int c) = true ∧ K (.d (.bool (!PyData.eqv (.int a) (.int c))))) = _
  rw [kv_eqv_i, shaped_i, shaped_i]; simp
theorem kv_eqD {a c : Dt} {K : Dv → Prop} (h : SeqAt.shaped a = true) (h' : SeqAt.shaped c = true) : fEq (.d a) (.d c) K = K (.d (.bool (PyData.eqv a c))) := by
  show (SeqAt.shaped a = true ∧ SeqAt.shaped c = true ∧ K (.d (.bool (PyData.eqv a c)))) = _
  rw [h, h']; simp
theorem kv_neD {a c : Dt} {K : Dv → Prop} (h : SeqAt.shaped a = true) (h' : SeqAt.shaped c = true) : fNe (.d a) (.d c) K = K (.d (.bool (!PyData.eqv a c))) := by
  show (SeqAt.shaped a = true ∧ SeqAt.shaped c = true ∧ K (.d (.bool (!PyData.eqv a c)))) = _
  rw [h, h']; simp
theorem kv_eqS {a c : Str} {K : Dv → Prop} (h : PyData.strOk a = true) (h' : PyData.strOk c = true) : fEq (.d (.str a)) (.d (.str c)) K = K (.d (.bool (a == c))) := by
  have s : ∀ x, PyData.strOk x = true → SeqAt.shaped (.str x) = true := fun x hx => by
    unfold SeqAt.shaped PyData.canLay0 PyData.depth
    rw [hx]; rfl
  rw [kv_eqD (s a h) (s c h'), kv_eqv_s]
theorem kv_neS {a c : Str} {K : Dv → Prop} (h : PyData.strOk a = true) (h' : PyData.strOk c = true) : fNe (.d (.str a)) (.d (.str c)) K = K (.d (.bool (!(a == c)))) := by
  have s : ∀ x, PyData.strOk x = true → SeqAt.shaped (.str x) = true := fun x hx => by
    unfold SeqAt.shaped PyData.canLay0 PyData.depth
    rw [hx]; rfl
  rw [kv_neD (s a h) (s c h'), kv_eqv_s]
section
variable {a b c e : Dt} {r : List Dt} {Q : Dv → Prop} {x y z : Str}
theorem at0 : L2.atI (a :: r) 0 = some a := L2.atI_nat (xs := a :: r) (j := 0) rfl
theorem at1 : L2.atI (a :: b :: r) 1 = some b := L2.atI_nat (xs := a :: b :: r) (j := 1) rfl
theorem at2 : L2.atI (a :: b :: c :: r) 2 = some c := L2.atI_nat (xs := a :: b :: c :: r) (j := 2) rfl
theorem at3 : L2.atI (a :: b :: c :: e :: r) 3 = some e := L2.atI_nat (xs := a :: b :: c :: e :: r) (j := 3) rfl
theorem kv_ix {ds : List Dt} {i : Int} {p : Dt} (h : L2.atI ds i = some p) : fIx (.d (.tuple ds)) (.d (.int i)) Q = Q (.d p) := by
  show (∃ p, L2.atI ds i = some p ∧ Q (.d p)) = _
  rw [h]; simp
theorem kv_ixl {ds : List Dt} {i : Int} {p : Dt} (h : L2.atI ds i = some p) : fIx (.d (.list ds)) (.d (.int i)) Q = Q (.d p) := by
  show (∃ p, L2.atI ds i = some p ∧ Q (.d p)) = _
  rw [h]; simp
theorem kv_ix0 : fIx (.d (.tuple (a :: r))) (.d (.int 0)) Q = Q (.d a) := kv_ix at0
theorem kv_ix1 : fIx (.d (.tuple (a :: b :: r))) (.d (.int 1)) Q = Q (.d b) := kv_ix at1
theorem kv_ix2 : fIx (.d (.tuple (a :: b :: c :: r))) (.d (.int 2)) Q = Q (.d c) := kv_ix at2
theorem kv_ix3 : fIx (.d (.tuple (a :: b :: c :: e :: r))) (.d (.int 3)) Q = Q (.d e) := kv_ix at3
theorem kv_inS2 {neg : Bool} : fIn neg (.d (.str x)) (.d (.tuple [.str y, .str z])) Q = Q (.d (.bool (if neg then !(y == x || z == x) else (y == x || z == x)))) := by
  show (flatD (.str x) = true ∧ [PyData.str y, .str z].all flatD = true ∧ Q (.d (.bool (if neg then ![PyData.str y, .str z].any (fun w => eqF w (.str x)) else [PyData.str y, .str z].any (fun w => eqF w (.str x)))))) = _
  simp [flatD, eqF]
theorem kv_inS2l {neg : Bool} : fIn neg (.d (.str x)) (.d (.list [.str y, .str z])) Q = Q (.d (.bool (if neg then !(y == x || z == x) else (y == x || z == x)))) := by
  show (flatD (.str x) = true ∧ [PyData.str y, .str z].all flatD = true ∧ Q (.d (.bool (if neg then ![PyData.str y, .str z].any (fun w => eqF w (.str x)) else [PyData.str y, .str z].any (fun w => eqF w (.str x)))))) = _
  simp [flatD, eqF]
theorem kv_neg {i : Int} : fNeg (.d (.int i)) Q = Q (.d (.int (-i))) := rfl
theorem kv_lstT {ds : List Dt} {K : List Dt → Prop} : fLstOf [.d (.tuple ds)] K = K ds := rfl
theorem kv_lstL {ds : List Dt} {K : List Dt → Prop} : fLstOf [.d (.list ds)] K = K ds := rfl
theorem kv_tupL {ds : List Dt} : fTupOf [.d (.list ds)] Q = Q (.d (.tuple ds)) := rfl
theorem kv_intB {k : Bool} : fInt [.d (.bool k)] Q = Q (.d (.int (if k then 1 else 0))) := rfl
theorem kv_intI {i : Int} : fInt [.d (.int i)] Q = Q (.d (.int i)) := rfl
end
/-! comprehensions -/
theorem lcL_fm_eq {f : Env → Dt → (Env → Prop) → Prop} {mt : Env → M Bool} {me : Env → M Dv} {ρ0 : Env} {Q : List Dt → Prop} (o : Dt → Option Dt) : ∀ (ds acc : List Dt), acc.length + ds.length < sizeLine →
    (∀ d ∈ ds, ∀ (K1 : Dt → Prop) (K2 : Prop), Step f mt me ρ0 d K1 K2 = (match o d with | some p => K1 p | none => K2)) → lcL f mt me ρ0 Q ds acc = Q (acc ++ ds.filterMap o)
  | [], acc, _, _ => by rw [lcL_nil]; simp
  | d :: ds, acc, hl, h => by
    have hl' : acc.length + ds.length + 1 < sizeLine := by simpa [Nat.add_assoc] using hl
    rw [lcL_cons, h d List.mem_cons_self, List.filterMap_cons]
    cases e : o d with
    | none => exact lcL_fm_eq o ds acc (by omega) (fun d hd => h d (List.mem_cons_of_mem _ hd))
    | some p =>
      show (acc.length < sizeLine ∧ lcL f mt me ρ0 Q ds (acc ++ [p])) = Q (acc ++ (p :: ds.filterMap o))
      rw [lcL_fm_eq o ds (acc ++ [p]) (by simp; omega) (fun d hd => h d (List.mem_cons_of_mem _ hd))]
      have : acc.length < sizeLine := by omega
      simp [this]
theorem lcL_map_eq {f : Env → Dt → (Env → Prop) → Prop} {mt : Env → M Bool} {me : Env → M Dv} {ρ0 : Env} {Q : List Dt → Prop} (o : Dt → Dt) (ds : List Dt) (hl : ds.length < sizeLine)
    (h : ∀ d ∈ ds, ∀ (K1 : Dt → Prop) (K2 : Prop), Step f mt me ρ0 d K1 K2 = K1 (o d)) : lcL f mt me ρ0 Q ds [] = Q (ds.map o) := by
  rw [lcL_fm_eq (fun d => some (o d)) ds [] (by simpa using hl) (fun d hd K1 K2 => h d hd K1 K2)]
  simp
end Ks
end

section
set_option Elab.async false
set_option linter.all false
set_option maxRecDepth 100000
set_option maxHeartbeats 4000000
/-! # len(set(..)), list(range(..)) -/
namespace Ks
open PySem PySem.Spec PyProof.Rows L2
theorem nodup_len {xs ys : List Int} (hx : xs.Nodup) (hy : ys.Nodup) (h : ∀ k, k ∈ xs ↔ k ∈ ys) : xs.length = ys.length :=
  Nat.le_antisymm (nodup_sub_len xs ys hx fun k hk => (h k).mp hk) (nodup_sub_len ys xs hy fun k hk => (h k).mpr hk)
theorem sdI_nodup (ns : List Int) : (sdI ns).Nodup := (sdI_sorted ns).imp fun h e => by omega
section
variable {P : Program} {w : World} {A : Around} {E : Value → Shared → Prop} {s : Shared}
/-- len of a set -/
theorem len_setR {a : Addr} {S : Int → Bool} {n : Nat} {Q : Value → Shared → Prop} (R : SetR w s.heap a S n) (hQ : Q (.int (n : Nat) (s.toks + 1)) { s with toks := s.toks + 1 + 1 }) : wpAny (model P w) A (call (.builtin "len") [.ref a]) Q E s := by
  obtain ⟨o, es, ep, t, ho, hex, hd, g, nd, hm, hb, hf, hn, hr, hl⟩ := R
  refine call_len_set ho hex hd hf (by unfold scanBound at hb; omega) ?_
  rw [hn]; exact hQ
theorem setR_card {a : Addr} {ns : List Int} {n : Nat} {h : Heap} (R : SetR w h a (fun j => decide (j ∈ ns)) n) : n = (sdI ns).length := by
  obtain ⟨o, es, ep, t, ho, hex, hd, g, nd, hm, hb, hf, hn, hr, hl⟩ := R
  have := nodup_len nd (sdI_nodup ns) fun k => by rw [← hm k, sdI_mem]; simp
  rw [← this, List.length_map, Array.length_toList, hn]
end
section
variable {X : Cx}
/-- set(xs), ints in a list or a tuple, its size told -/
def rSetOfA (K : PySem.W.Frag) (w : World) : List V → Hp → VK → Prop := fun vs H Q => ∃ (l : Addr) (ns : List Int), vs = [V.ref l] ∧ (SqL K H l (ns.map V.int) ∨ SqT K H l (ns.map V.int)) ∧ ns.length + 1 < scanBound ∧ ∀ p, H p = none → Q (.ref p) (upd H p (SetO w p (fun j => decide (j ∈ ns)) (sdI ns).length))
theorem cr_setOfA (hc : X.calm = true) : CallR X (.type "set") (rSetOfA X.K X.w) := by
  intro pins s σ H vs us Q I r h; obtain ⟨l, ns, rfl, hs, hb, q⟩ := h
  rw [Vals.ref1 r]
  have fin : ∀ (h' : Heap) (tk c : Nat), SetR X.w h' s.heap.objs.size (fun j => decide (j ∈ ns)) c → (∀ b o, s.heap.get? b = some o → h'.get? b = some o) → ∃ (v : V) (H' : Hp), Inv X pins σ H' { s with heap := h', toks := tk } ∧ RelV v (.ref s.heap.objs.size) ∧ Q v H' := fun h' tk c R1 k => by
    have e := setR_card R1
    subst e
    exact ⟨.ref _, upd H s.heap.objs.size (SetO X.w s.heap.objs.size (fun j => decide (j ∈ ns)) (sdI ns).length), I.laid (t' := tk) k (Nat.le_refl _) (setO_new R1), rfl, q _ (I.hok.fresh (Nat.le_refl _))⟩
  rcases hs with hs | hs
  · obtain ⟨its, rv, hl, hz⟩ := I.list hs
    exact set_of_list ns (I.ok.hd hc) hl.isList rv.ints hb fun h' tk c R1 _ k => fin h' tk c R1 k
  · obtain ⟨its, rv, hl, hz⟩ := I.tuple hs
    exact call_set_tupI ns (I.ok.hd hc) (show s.heap.IsTuple l its.toArray from hl) (ints_of_vals rv) hb fun h' tk c R1 _ k => fin h' tk c R1 k
def rLenSet (w : World) : List V → Hp → VK → Prop := fun vs H Q => ∃ (a : Addr) (S : Int → Bool) (n : Nat), vs = [V.ref a] ∧ H a = some (SetO w a S n) ∧ Q (.int (n : Nat)) H
theorem cr_lenSet : CallR X (.builtin "len") (rLenSet X.w) := by
  intro pins s σ H vs us Q I r h; obtain ⟨a, S, n, rfl, ha, q⟩ := h
  have R := setO_get I ha; rw [Vals.ref1 r]
  exact len_setR R ⟨.int (n : Nat), H, I.tok _, ⟨_, rfl⟩, q⟩
end
def mLenSet (me : Env → M Dv) : Env → M Dv := fun ρ Q Ex => me ρ (fun x => match (sq? x).bind intsOf with
  | some ns => ns.length < 4000 ∧ Q (.d (.int ((sdI ns).length : Nat)))
  | none => False) Ex
def tLenSetA (K : PySem.W.Frag) (w : World) (te : TE) : TE := tCB (rLenSet w) (tCons (tCB (rSetOfA K w) (tCons te tNil)) tNil)
theorem sq_rs {K : PySem.W.Frag} {T : List (Addr × Str)} {w : Wd T} {v : V} {x : Dv} {ns : List Int} (r : RS K w v x) (e : (sq? x).bind intsOf = some ns) : ∃ a, v = .ref a ∧ (SqL K w.H a (ns.map V.int) ∨ SqT K w.H a (ns.map V.int)) := by
  rw [Option.bind_eq_some_iff] at e
  obtain ⟨ds, e1, e2⟩ := e
  obtain rfl := intsOf_eq e2
  unfold sq? at e1
  cases h : x.ls? with
  | some d1 =>
    rw [h] at e1; injection e1 with e1; subst e1
    obtain ⟨a, vs, rfl, a1, a2⟩ := ls_rs r h
    rw [RpA.ilst a2] at a1
    exact ⟨a, rfl, .inl (SqL.of a1)⟩
  | none =>
    rw [h] at e1
    have e1 : x.tp? = some (ilst ns) := e1
    obtain ⟨a, vs, rfl, a1, a2⟩ := tp_rs r e1
    rw [RpA.ilst a2] at a1
    exact ⟨a, rfl, .inr (SqT.of (w.gh _ _ a1))⟩
theorem se_lenSet {K : PySem.W.Frag} {mg : Mg} {E : XK} {w0 : World} {te : TE} {me : Env → M Dv} (he : SE K mg E te me) : SE K mg E (tLenSetA K w0 te) (mLenSet me) := fun en w ρ σ Q Ex R s h hq hx =>
  he en w ρ σ _ Ex _ s h (fun x v w1 g1 r1 q => by
    split at q
    · rename_i ns e
      obtain ⟨a, rfl, hs⟩ := sq_rs r1 e
      refine ⟨a, ns, rfl, hs, by unfold scanBound; omega, fun p hp => ?_⟩
      refine ⟨p, _, _, rfl, upd_same, ?_⟩
      exact hq (.d (.int ((sdI ns).length : Nat))) _ (w1.lay p (SetO w0 p (fun j => decide (j ∈ ns)) (sdI ns).length) hp) (g1.trans (Grow.lay hp)) (by simp [RS, Rp]) q.2
    · exact q.elim) hx
instance {ma : Env → M Dv} [a : Chk ma] : Chk (mLenSet ma) where
  chk ρ q e := a.chk ρ (fun x => match (sq? x).bind intsOf with
    | some ns => decide (ns.length < 4000) && q (.d (.int ((sdI ns).length : Nat)))
    | none => false) e
  ok ρ q e Q Ex h hq he := a.ok ρ _ e _ Ex h (fun x hx => by
    split at hx
    · rename_i ns e1
      rw [Bool.and_eq_true, decide_eq_true_eq] at hx
      exact ⟨hx.1, hq _ hx.2⟩
    · cases hx) he
/-! ### list(range(..)) -/
def mLstRg1 (me : Env → M Dv) : Env → M (List Dt) := fun ρ Q Ex => me ρ (fun x => match x with
  | .d (.int n) => (-(2 ^ 62) ≤ n ∧ n ≤ 2 ^ 24) ∧ Q (rngD 0 n.toNat)
  | _ => False) Ex
def mLstRg2 (ma mb : Env → M Dv) : Env → M (List Dt) := fun ρ Q Ex => ma ρ (fun x => mb ρ (fun y => match x, y with
  | .d (.int i), .d (.int j) => (-(2 ^ 61) ≤ i ∧ i < 2 ^ 61 ∧ -(2 ^ 61) ≤ j ∧ j < 2 ^ 61 ∧ j - i ≤ 2 ^ 24) ∧ Q (rngD i (j - i).toNat)
  | _, _ => False) Ex) Ex
section
variable {K : PySem.W.Frag} {mg : Mg} {E : XK} {te ta tb : TE} {me ma mb : Env → M Dv}
theorem fresh_rg {w w1 : Wd mg.T} {a b : Int} {Q : List Dt → Prop} {R : VK} (g1 : Grow w w1) (q : Q (rngD a (b - a).toNat))
    (hq : ∀ (ds : List Dt) (a : Addr) (vs : List V) (w' : Wd mg.T), Grow w w' → Fr w.H a → w'.G a = none → ¬ w'.C a → w'.H a = some (.lst vs) → RpA w'.G ds vs → Q ds → R (.ref a) w'.H) : ∀ p, w1.H p = none → R (.ref p) (upd w1.H p (.lst (rgV a b))) := fun p hp =>
  hq _ p _ (w1.lay p (.lst (rgV a b)) hp) (g1.trans (Grow.lay hp)) (g1.dom p (.of hp)) (Wd.g_none (w := w1) hp) (fun hc => (w1.cat p hc).ne hp rfl) upd_same rgV_rngD q
theorem sf_lstRg1 (he : SE K mg E te me) : SF K mg E (tLstRg (tRg1 te)) (mLstRg1 me) := fun en w ρ σ Q Ex R s h hq hx =>
  he en w ρ σ _ Ex _ s h (fun x v w1 g1 r1 q => by
    split at q
    · rename_i n
      simp only [RS, Rp] at r1; subst r1
      have e : (n - 0 : Int).toNat = n.toNat := by simp
      refine ⟨n, rfl, ⟨by omega, by omega, q.1.1, by omega, by rw [e]; omega⟩, fresh_rg g1 (by rw [e]; exact q.2) hq⟩
    · exact q.elim) hx
theorem sf_lstRg2 (ha : SE K mg E ta ma) (hb : SE K mg E tb mb) : SF K mg E (tLstRg (tRg2 ta tb)) (mLstRg2 ma mb) := fun en w ρ σ Q Ex R s h hq hx =>
  ha en w ρ σ _ Ex _ s h (fun x v w1 g1 r1 h1 => hb en w1 ρ σ _ Ex _ (s.grow g1) h1 (fun y u w2 g2 r2 q => by
    split at q
    · rename_i i j
      simp only [RS, Rp] at r1 r2; subst r1 r2
      exact ⟨i, j, rfl, rfl, ⟨by omega, by omega, by omega, by omega, by omega⟩, fresh_rg (g1.trans g2) q.2 hq⟩
    · exact q.elim) (fun x u o w' g => hx x u o w' (g1.trans g))) hx
end
end Ks
end

section
set_option Elab.async false
set_option linter.all false
set_option maxRecDepth 100000
set_option maxHeartbeats 4000000
namespace Lw
open PySem PySem.Spec PyProof.Rows L2 Ks
def topS (i : Nat) : Stmt := PySem.Challenge.pw_knotspans_k10_whole_places_of_one_more_k.main.body.getD i (.Pass ⟨0, 0, 0, 0⟩)
abbrev s_law_names : Stmt := topS 49
abbrev s_law_word : Stmt := topS 50
abbrev s_rises : Stmt := topS 21
abbrev s_is_integer : Stmt := topS 20
abbrev s_are_numbers : Stmt := topS 22
abbrev s_is_rope : Stmt := topS 23
abbrev s_need_rope : Stmt := topS 25
abbrev s_spans_by : Stmt := topS 24
abbrev s_crowded : Stmt := topS 27
abbrev s_free_places : Stmt := topS 30
abbrev s_halves : Stmt := topS 28
abbrev s_steps_from : Stmt := topS 29
abbrev s_crowding : Stmt := topS 31
abbrev s_matches : Stmt := topS 32
abbrev s_law_written : Stmt := topS 58
abbrev s_law_coil : Stmt := topS 34
abbrev s_law_spans : Stmt := topS 37
abbrev s_law_crowded : Stmt := topS 51
abbrev s_law_wind : Stmt := topS 35
abbrev s_law_plain_rope : Stmt := topS 53
abbrev s_law_crowding_right : Stmt := topS 54
abbrev s_law_pick : Stmt := topS 36
abbrev s_law_any_rope : Stmt := topS 39
abbrev s_law_turned : Stmt := topS 38
abbrev s_law_any_value : Stmt := topS 47
abbrev s_law_bent : Stmt := topS 48
abbrev s_law_whole : Stmt := topS 40
abbrev s_law_row : Stmt := topS 41
abbrev s_law_good_rope : Stmt := topS 42
abbrev s_law_refused : Stmt := topS 57
abbrev s_law_near : Stmt := topS 56
abbrev s_law_match : Stmt := topS 52
abbrev s_law_matches_right : Stmt := topS 55
structure Txt (K : PySem.W.Frag) (mg : Mg) (KE : Addr) (base : Heap) : Prop where
  f_law_names : FunAt K mg "_law_names" s_law_names
  f_law_word : FunAt K mg "_law_word" s_law_word
  f_rises : FunAt K mg "rises" s_rises
  f_is_integer : FunAt K mg "is_integer" s_is_integer
  f_are_numbers : FunAt K mg "are_numbers" s_are_numbers
  f_is_rope : FunAt K mg "is_rope" s_is_rope
  f_need_rope : FunAt K mg "need_rope" s_need_rope
  f_spans_by : FunAt K mg "spans_by" s_spans_by
  f_crowded : FunAt K mg "crowded" s_crowded
  f_free_places : FunAt K mg "free_places" s_free_places
  f_halves : FunAt K mg "halves" s_halves
  f_steps_from : FunAt K mg "steps_from" s_steps_from
  f_crowding : FunAt K mg "crowding" s_crowding
  f_matches : FunAt K mg "matches" s_matches
  f_law_written : FunAt K mg "_law_written" s_law_written
  f_law_coil : FunAt K mg "_law_coil" s_law_coil
  f_law_spans : FunAt K mg "_law_spans" s_law_spans
  f_law_crowded : FunAt K mg "_law_crowded" s_law_crowded
  f_law_wind : FunAt K mg "_law_wind" s_law_wind
  f_law_plain_rope : FunAt K mg "_law_plain_rope" s_law_plain_rope
  f_law_crowding_right : FunAt K mg "_law_crowding_right" s_law_crowding_right
  f_law_pick : FunAt K mg "_law_pick" s_law_pick
  f_law_any_rope : FunAt K mg "_law_any_rope" s_law_any_rope
  f_law_turned : FunAt K mg "_law_turned" s_law_turned
  f_law_any_value : FunAt K mg "_law_any_value" s_law_any_value
  f_law_bent : FunAt K mg "_law_bent" s_law_bent
  f_law_whole : FunAt K mg "_law_whole" s_law_whole
  f_law_row : FunAt K mg "_law_row" s_law_row
  f_law_good_rope : FunAt K mg "_law_good_rope" s_law_good_rope
  f_law_refused : FunAt K mg "_law_refused" s_law_refused
  f_law_near : FunAt K mg "_law_near" s_law_near
  f_law_match : FunAt K mg "_law_match" s_law_match
  f_law_matches_right : FunAt K mg "_law_matches_right" s_law_matches_right
  l_law_refused : LamAt K mg base "_law_refused" s_law_refused
  b_ValueError : mg.f "ValueError" = none
  b_abs : mg.f "abs" = none
  b_all : mg.f "all" = none
  b_any : mg.f "any" = none
  b_bool : mg.f "bool" = none
  b_enumerate : mg.f "enumerate" = none
  b_int : mg.f "int" = none
  b_isinstance : mg.f "isinstance" = none
  b_len : mg.f "len" = none
  b_list : mg.f "list" = none
  b_max : mg.f "max" = none
  b_min : mg.f "min" = none
  b_range : mg.f "range" = none
  b_set : mg.f "set" = none
  b_sorted : mg.f "sorted" = none
  b_str : mg.f "str" = none
  b_tuple : mg.f "tuple" = none
  b_zip : mg.f "zip" = none
  c_GREAT : ∃ t, mg.f "GREAT" = some (.int (1000000000000000000000000000000) t)
  c_MOST_KNOTS : ∃ t, mg.f "MOST_KNOTS" = some (.int (9) t)
  x_InvalidRope : ExcAt K mg "InvalidRope"
  x_Unlike : ExcAt K mg "Unlike"
  ke : mg.f "KnotError" = some (.ref KE)
  words : ∀ c ws, wordOf c = some ws → WordAt K mg KE wordsBs c ws
section
variable {P : Program} {w : World} {K : PySem.W.Frag} {mg : Mg} {base : Heap} {KE : Addr}
theorem sc_law_names : FnScope ["error", "some", "labels", "label", "good"] ["error"] (defScope s_law_names) := ⟨rfl, rfl, rfl, by decide +kernel, rfl, by decide +kernel, by decide +kernel⟩
theorem sc_law_word : FnScope ["call", "error"] ["call"] (defScope s_law_word) := ⟨rfl, rfl, rfl, by decide +kernel, rfl, by decide +kernel, by decide +kernel⟩
def b_law_names (a : Addr) (bs : Nat → Bool) : MS := (mSeq (mSet 1 (mVal (mF (mLst (mCons (mIsx 0 a (bs 0)) (mCons (mIsx 0 a (bs 1)) (mCons (mIsx 0 a (bs 2)) mNil))))))) (mSeq (mSet 1 (mVal (mBin fAdd (mVar 1) (mF (mLst (mCons (mIsx 0 a (bs 3)) (mCons (mIsx 0 a (bs 4)) mNil))))))) (mSeq (mSet 1 (mVal (mBin fAdd (mVar 1) (mF (mLst (mCons (mIsx 0 a (bs 5)) (mCons (mIsx 0 a (bs 6)) (mCons (mIsx 0 a (bs 7)) mNil)))))))) (mSeq (mSet 1 (mVal (mBin fAdd (mVar 1) (mF (mLst (mCons (mIsx 0 a (bs 8)) (mCons (mIsx 0 a (bs 9)) (mCons (mIsx 0 a (bs 10)) mNil)))))))) (mSeq (mSet 1 (mVal (mBin fAdd (mVar 1) (mF (mLst (mCons (mIsx 0 a (bs 11)) (mCons (mIsx 0 a (bs 12)) (mCons (mIsx 0 a (bs 13)) mNil)))))))) (mSeq (mSet 1 (mVal (mBin fAdd (mVar 1) (mF (mLst (mCons (mIsx 0 a (bs 14)) (mCons (mIsx 0 a (bs 15)) mNil))))))) (mSeq (mSet 2 (mVal (mC (.str "rope spans fact book question ring size index number text unlike none undo many failed value")))) (mRet (mJoin (mC (.str " ")) (mF (mLc (mZipL (mCons (mF (mSplit (mVar 2) (mC (.str " ")))) (mCons (mVar 1) mNil))) (fTup2 (fName 3) (fName 4)) (mB (mVar 4)) (mVar 3) [3, 4])))))))))))
theorem d_law_names (T : Txt K mg KE base) : NamesD P w K mg base 1 wordsBs := by
  refine names_of (ms := b_law_names) T.f_law_names sc_law_names (fun _ _ _ _ _ _ us hl => match us, hl with | [_], _ => rfl) (fun D bs p nm hz hfl f cdv A outer s H E hot hr => ?_) (fun a bs Q h => ?_)
  · obtain ⟨C0, m0, k0⟩ := nm.is 0 _ rfl
    obtain ⟨C1, m1, k1⟩ := nm.is 1 _ rfl
    obtain ⟨C2, m2, k2⟩ := nm.is 2 _ rfl
    obtain ⟨C3, m3, k3⟩ := nm.is 3 _ rfl
    obtain ⟨C4, m4, k4⟩ := nm.is 4 _ rfl
    obtain ⟨C5, m5, k5⟩ := nm.is 5 _ rfl
    obtain ⟨C6, m6, k6⟩ := nm.is 6 _ rfl
    obtain ⟨C7, m7, k7⟩ := nm.is 7 _ rfl
    obtain ⟨C8, m8, k8⟩ := nm.is 8 _ rfl
    obtain ⟨C9, m9, k9⟩ := nm.is 9 _ rfl
    obtain ⟨C10, m10, k10⟩ := nm.is 10 _ rfl
    obtain ⟨C11, m11, k11⟩ := nm.is 11 _ rfl
    obtain ⟨C12, m12, k12⟩ := nm.is 12 _ rfl
    obtain ⟨C13, m13, k13⟩ := nm.is 13 _ rfl
    obtain ⟨C14, m14, k14⟩ := nm.is 14 _ rfl
    have hc : L2H.HotC (L2H.cxH (L2N.CX P w) P w K mg.f base ["error", "some", "labels", "label", "good"] "_law_names" (defScope s_law_names) f cdv A outer s H E p) := ⟨p, hot, List.mem_cons_self⟩
    exact ⟨_, (pss_cons (ps_set (i := 1) sc_law_names.nd rfl (by first | exact Or.inl rfl | exact Or.inr rfl) (pe_lst (pa_cons (pe_callB (call_isH nm.ex List.mem_cons_self hz hfl) (by rfl) T.b_isinstance boot_isinstance_ (pa_cons (pv 0) (pa_cons (pe_glob (v := .ref C0) (by rfl) m0 rfl) pa_nil))) (pa_cons (pe_callB (call_isH nm.ex List.mem_cons_self hz hfl) (by rfl) T.b_isinstance boot_isinstance_ (pa_cons (pv 0) (pa_cons (pe_glob (v := .ref C1) (by rfl) m1 rfl) pa_nil))) (pa_cons (pe_callB (call_isH nm.ex List.mem_cons_self hz hfl) (by rfl) T.b_isinstance boot_isinstance_ (pa_cons (pv 0) (pa_cons (pe_glob (v := .ref C2) (by rfl) m2 rfl) pa_nil))) pa_nil))))) (pss_cons (ps_set (i := 1) sc_law_names.nd rfl (by first | exact Or.inl rfl | exact Or.inr rfl) (pe_op op_addA (pv 1) (pe_lst (pa_cons (pe_callB (call_isH nm.ex List.mem_cons_self hz hfl) (by rfl) T.b_isinstance boot_isinstance_ (pa_cons (pv 0) (pa_cons (pe_glob (v := .ref C3) (by rfl) m3 rfl) pa_nil))) (pa_cons (pe_callB (call_isH nm.ex List.mem_cons_self hz hfl) (by rfl) T.b_isinstance boot_isinstance_ (pa_cons (pv 0) (pa_cons (pe_glob (v := .ref C4) (by rfl) m4 rfl) pa_nil))) pa_nil))))) (pss_cons (ps_set (i := 1) sc_law_names.nd rfl (by first | exact Or.inl rfl | exact Or.inr rfl) (pe_op op_addA (pv 1) (pe_lst (pa_cons (pe_callB (call_isH nm.ex List.mem_cons_self hz hfl) (by rfl) T.b_isinstance boot_isinstance_ (pa_cons (pv 0) (pa_cons (pe_glob (v := .ref C5) (by rfl) m5 rfl) pa_nil))) (pa_cons (pe_callB (call_isH nm.ex List.mem_cons_self hz hfl) (by rfl) T.b_isinstance boot_isinstance_ (pa_cons (pv 0) (pa_cons (pe_glob (v := .ref C6) (by rfl) m6 rfl) pa_nil))) (pa_cons (pe_callB (call_isH nm.ex List.mem_cons_self hz hfl) (by rfl) T.b_isinstance boot_isinstance_ (pa_cons (pv 0) (pa_cons (pe_glob (v := .ref C7) (by rfl) m7 rfl) pa_nil))) pa_nil)))))) (pss_cons (ps_set (i := 1) sc_law_names.nd rfl (by first | exact Or.inl rfl | exact Or.inr rfl) (pe_op op_addA (pv 1) (pe_lst (pa_cons (pe_callB (call_isH nm.ex List.mem_cons_self hz hfl) (by rfl) T.b_isinstance boot_isinstance_ (pa_cons (pv 0) (pa_cons (pe_glob (v := .ref C8) (by rfl) m8 rfl) pa_nil))) (pa_cons (pe_callB (call_isH nm.ex List.mem_cons_self hz hfl) (by rfl) T.b_isinstance boot_isinstance_ (pa_cons (pv 0) (pa_cons (pe_glob (v := .ref C9) (by rfl) m9 rfl) pa_nil))) (pa_cons (pe_callB (call_isH nm.ex List.mem_cons_self hz hfl) (by rfl) T.b_isinstance boot_isinstance_ (pa_cons (pv 0) (pa_cons (pe_glob (v := .ref C10) (by rfl) m10 rfl) pa_nil))) pa_nil)))))) (pss_cons (ps_set (i := 1) sc_law_names.nd rfl (by first | exact Or.inl rfl | exact Or.inr rfl) (pe_op op_addA (pv 1) (pe_lst (pa_cons (pe_callB (call_isH nm.ex List.mem_cons_self hz hfl) (by rfl) T.b_isinstance boot_isinstance_ (pa_cons (pv 0) (pa_cons (pe_glob (v := .ref C11) (by rfl) m11 rfl) pa_nil))) (pa_cons (pe_callB (call_isH nm.ex List.mem_cons_self hz hfl) (by rfl) T.b_isinstance boot_isinstance_ (pa_cons (pv 0) (pa_cons (pe_glob (v := .ref C12) (by rfl) m12 rfl) pa_nil))) (pa_cons (pe_callB (call_isH nm.ex List.mem_cons_self hz hfl) (by rfl) T.b_isinstance boot_isinstance_ (pa_cons (pv 0) (pa_cons (pe_glob (v := .ref C13) (by rfl) m13 rfl) pa_nil))) pa_nil)))))) (pss_cons (ps_set (i := 1) sc_law_names.nd rfl (by first | exact Or.inl rfl | exact Or.inr rfl) (pe_op op_addA (pv 1) (pe_lst (pa_cons (pe_callB (call_isH nm.ex List.mem_cons_self hz hfl) (by rfl) T.b_isinstance boot_isinstance_ (pa_cons (pv 0) (pa_cons (pe_glob (v := .ref C14) (by rfl) m14 rfl) pa_nil))) (pa_cons (pe_callB (call_isH nm.ex List.mem_cons_self hz hfl) (by rfl) T.b_isinstance boot_isinstance_ (pa_cons (pv 0) (pa_cons (pe_bltn (v := .ty "ValueError") (by rfl) T.b_ValueError boot_ValueError_ rfl) pa_nil))) pa_nil))))) (pss_cons (ps_set (i := 2) sc_law_names.nd rfl (by first | exact Or.inl rfl | exact Or.inr rfl) pe_str) (pss_one (ps_ret (pe_join pe_str (pe_lcB (own := [("label", 3), ("good", 4)]) hc sc_law_names.nd (by rfl) T.b_zip (pa_cons (pe_split (pv 2) pe_str) (pa_cons (pv 1) pa_nil)) (blkOk_by (own := [("label", 3), ("good", 4)]) (N := ["error", "some", "labels", "label", "good"]) (sc := defScope s_law_names) (by decide +kernel)) (fun _ _ _ _ _ hs => (pg_tupB hs (pgs_cons (pg_name (i := 3) sc_law_names.nd rfl (by first | exact Or.inl rfl | exact Or.inr rfl)) (pgs_cons (pg_name (i := 4) sc_law_names.nd rfl (by first | exact Or.inl rfl | exact Or.inr rfl)) pgs_nil)))) (fun _ _ _ _ _ => (pts_one (pt_val (pv 4)))) (fun _ _ _ _ _ => (pv 3))))))))))))), (ss_seq (ss_set 1 (sn_val (se_f (sf_lst (sa_cons (se_isx k0) (sa_cons (se_isx k1) (sa_cons (se_isx k2) sa_nil))))))) (ss_seq (ss_set 1 (sn_val (se_op s2_add (se_var 1) (se_f (sf_lst (sa_cons (se_isx k3) (sa_cons (se_isx k4) sa_nil))))))) (ss_seq (ss_set 1 (sn_val (se_op s2_add (se_var 1) (se_f (sf_lst (sa_cons (se_isx k5) (sa_cons (se_isx k6) (sa_cons (se_isx k7) sa_nil)))))))) (ss_seq (ss_set 1 (sn_val (se_op s2_add (se_var 1) (se_f (sf_lst (sa_cons (se_isx k8) (sa_cons (se_isx k9) (sa_cons (se_isx k10) sa_nil)))))))) (ss_seq (ss_set 1 (sn_val (se_op s2_add (se_var 1) (se_f (sf_lst (sa_cons (se_isx k11) (sa_cons (se_isx k12) (sa_cons (se_isx k13) sa_nil)))))))) (ss_seq (ss_set 1 (sn_val (se_op s2_add (se_var 1) (se_f (sf_lst (sa_cons (se_isx k14) (sa_cons (se_isv nm.vl) sa_nil))))))) (ss_seq (ss_set 2 (sn_val se_str)) (ss_ret (se_join se_str (se_f (sf_lc (si_zipL (sa_cons (se_f (sf_split (se_var 2) se_str)) (sa_cons (se_var 1) sa_nil))) (st_tup2 (st_name 3) (st_name 4)) (by decide) (sb_B (se_var 4)) (se_var 3))))))))))))⟩
  · exact names_plain h
theorem sc_rises : FnScope ["numbers", "least", "sooner", "later"] ["numbers", "least"] (defScope s_rises) := ⟨rfl, rfl, rfl, by decide +kernel, rfl, by decide +kernel, by decide +kernel⟩
def b_rises : MS := (mRet (mCB fAll (mCons (mF (mLc (mZip (mCons (mVar 0) (mCons (mSl fSl (mVar 0) (mPart (mC (.int 1))) mNoPart) mNil))) (fTup2 (fName 2) (fName 3)) mYes (mBin fGe (mBin fSub (mVar 3) (mVar 2)) (mVar 1)) [2, 3])) mNil)))
def F_rises : List Dv → M Dv := fun xs Q Ex => b_rises (endM Q Ex) (startE 4 xs)
theorem d_rises (T : Txt K mg KE base) : Df P w K mg base "rises" 1 ["numbers", "least"] (F_rises) :=
  df_of T.f_rises sc_rises (fun _ _ _ _ _ _ us hl => match us, hl with | [_, _], _ => rfl) (fun f cdv A outer s H E hr => ⟨_, (pss_one (ps_ret (pe_callB (cr_all rfl) (by rfl) T.b_all boot_all_ (pa_cons (pe_lc (own := [("sooner", 2), ("later", 3)]) rfl sc_rises.nd (RZ.pi_zipA (by rfl) T.b_zip (pa_cons (pv 0) (pa_cons (pe_slice sl_any (pv 0) (po_some pe_int) po_none) pa_nil))) (blkOk_by (own := [("sooner", 2), ("later", 3)]) (N := ["numbers", "least", "sooner", "later"]) (sc := defScope s_rises) (by decide +kernel)) (fun _ _ _ _ _ => (pg_tup rfl (pgs_cons (pg_name (i := 2) sc_rises.nd rfl (by first | exact Or.inl rfl | exact Or.inr rfl)) (pgs_cons (pg_name (i := 3) sc_rises.nd rfl (by first | exact Or.inl rfl | exact Or.inr rfl)) pgs_nil)))) (fun _ _ _ _ _ => pts_nil) (fun _ _ _ _ _ => (pe_cmpR op_ge (pe_op op_sub (pv 3) (pv 2)) (pv 1) (nomark _)))) pa_nil)))), (ss_ret (se_cb sc_all (sa_cons (se_f (sf_lc (si_zip (sa_cons (se_var 0) (sa_cons (se_sl s3_sl (se_var 0) (so_some se_int) so_none) sa_nil))) (st_tup2 (st_name 2) (st_name 3)) (by decide) sb_yes (se_op s2_B0 (se_op s2_I0 (se_var 3) (se_var 2)) (se_var 1)))) sa_nil)))⟩) (fun xs Q Ex _ h => h)
theorem sc_is_integer : FnScope ["value", "low", "high"] ["value", "low", "high"] (defScope s_is_integer) := ⟨rfl, rfl, rfl, by decide +kernel, rfl, by decide +kernel, by decide +kernel⟩
def b_is_integer : MS := (mRet (mAndV (mCB fIsI (mCons (mVar 0) (mCons (mTy "int") mNil))) (mAndV (mNotV (mCB fIsI (mCons (mVar 0) (mCons (mTy "bool") mNil)))) (mChain fLe fLe (mVar 1) (mVar 0) (mVar 2)))))
def F_is_integer : List Dv → M Dv := fun xs Q Ex => b_is_integer (endM Q Ex) (startE 3 xs)
theorem d_is_integer (T : Txt K mg KE base) : Df P w K mg base "is_integer" 1 ["value", "low", "high"] (F_is_integer) :=
  df_of T.f_is_integer sc_is_integer (fun _ _ _ _ _ _ us hl => match us, hl with | [_, _, _], _ => rfl) (fun f cdv A outer s H E hr => ⟨_, (pss_one (ps_ret (pe_and (pe_callB call_isi (by rfl) T.b_isinstance boot_isinstance_ (pa_cons (pv 0) (pa_cons (pe_bltn (v := .ty "int") (by rfl) T.b_int boot_int_ rfl) pa_nil))) (pe_and (pe_not (pe_callB call_isi (by rfl) T.b_isinstance boot_isinstance_ (pa_cons (pv 0) (pa_cons (pe_bltn (v := .ty "bool") (by rfl) T.b_bool boot_bool_ rfl) pa_nil)))) (pe_one (pe_chain op_le op_le (pv 1) (pv 0) (pv 2))))))), (ss_ret (se_andV (se_cb sc_isi (sa_cons (se_var 0) (sa_cons se_ty sa_nil))) (se_andV (se_notV (se_cb sc_isi (sa_cons (se_var 0) (sa_cons se_ty sa_nil)))) (se_chain s2_B0 s2_B0 (se_var 1) (se_var 0) (se_var 2)))))⟩) (fun xs Q Ex _ h => h)
theorem sc_are_numbers : FnScope ["value", "low", "high", "number"] ["value", "low", "high"] (defScope s_are_numbers) := ⟨rfl, rfl, rfl, by decide +kernel, rfl, by decide +kernel, by decide +kernel⟩
def b_are_numbers : MS := (mRet (mAndV (mCB fIsI (mCons (mVar 0) (mCons (mTy "tuple") mNil))) (mCB fAll (mCons (mF (mLc (mItemsA (mVar 0)) (fName 3) mYes (mCall F_is_integer (mCons (mVar 3) (mCons (mVar 1) (mCons (mVar 2) mNil)))) [3])) mNil))))
def F_are_numbers : List Dv → M Dv := fun xs Q Ex => b_are_numbers (endM Q Ex) (startE 4 xs)
theorem d_are_numbers (T : Txt K mg KE base) : Df P w K mg base "are_numbers" 2 ["value", "low", "high"] (F_are_numbers) :=
  df_of T.f_are_numbers sc_are_numbers (fun _ _ _ _ _ _ us hl => match us, hl with | [_, _, _], _ => rfl) (fun f cdv A outer s H E hr => ⟨_, (pss_one (ps_ret (pe_and (pe_callB call_isi (by rfl) T.b_isinstance boot_isinstance_ (pa_cons (pv 0) (pa_cons (pe_bltn (v := .ty "tuple") (by rfl) T.b_tuple boot_tuple_ rfl) pa_nil))) (pe_one (pe_callB (cr_all rfl) (by rfl) T.b_all boot_all_ (pa_cons (pe_lc (own := [("number", 3)]) rfl sc_are_numbers.nd (pi_any (pv 0)) (blkOk_by (own := [("number", 3)]) (N := ["value", "low", "high", "number"]) (sc := defScope s_are_numbers) (by decide +kernel)) (fun _ _ _ _ _ => (pg_name (i := 3) sc_are_numbers.nd rfl (by first | exact Or.inl rfl | exact Or.inr rfl))) (fun _ _ _ _ _ => pts_nil) (fun _ _ _ _ _ => (pe_callD (d_is_integer T) (hr.mono (by decide)) (by rfl) passN (pa_cons (pv 3) (pa_cons (pv 1) (pa_cons (pv 2) pa_nil)))))) pa_nil)))))), (ss_ret (se_andV (se_cb sc_isi (sa_cons (se_var 0) (sa_cons se_ty sa_nil))) (se_cb sc_all (sa_cons (se_f (sf_lc (si_any (se_var 0)) (st_name 3) (by decide) sb_yes (se_call (sa_cons (se_var 3) (sa_cons (se_var 1) (sa_cons (se_var 2) sa_nil)))))) sa_nil))))⟩) (fun xs Q Ex _ h => h)
def t_is_rope_1 : MS := (mRet (mAndV (mBin fEq (mBin fIx (mVar 0) (mC (.int 0))) (mC (.int 0))) (mCall F_rises (mCons (mVar 0) (mCons (mC (.int 1)) mNil)))))
theorem sc_is_rope : FnScope ["value"] ["value"] (defScope s_is_rope) := ⟨rfl, rfl, rfl, by decide +kernel, rfl, by decide +kernel, by decide +kernel⟩
def b_is_rope : MS := (mSeq (mIfS (mOr (mNot (mB (mCall F_are_numbers (mCons (mVar 0) (mCons (mC (.int 0)) (mCons (mC (.int (1000000000000000000000000000000))) mNil)))))) (mNot (mB (mChain fLe fLe (mC (.int 2)) (mCB fLen (mCons (mVar 0) mNil)) (mC (.int (9))))))) (mRet (mC (.bool false))) mNext) (t_is_rope_1))
def F_is_rope : List Dv → M Dv := fun xs Q Ex => b_is_rope (endM Q Ex) (startE 1 xs)
theorem d_is_rope (T : Txt K mg KE base) : Df P w K mg base "is_rope" 3 ["value"] (F_is_rope) :=
  df_of T.f_is_rope sc_is_rope (fun _ _ _ _ _ _ us hl => match us, hl with | [_], _ => rfl) (fun f cdv A outer s H E hr => ⟨_, (pss_cons (ps_if (PW.pt (pw_or (pt_not (pt_val (pe_callD (d_are_numbers T) (hr.mono (by decide)) (by rfl) (passX (L2N.takes_of rfl rfl rfl rfl)) (pa_cons (pv 0) (pa_cons pe_int (pa_cons (pe_gint (by rfl) T.c_GREAT) pa_nil)))))) (pw_or1 (pt_not (pt_chain op_le op_le pe_int (pe_callB call_len (by rfl) T.b_len boot_len_ (pa_cons (pv 0) pa_nil)) (pe_gint (by rfl) T.c_MOST_KNOTS)))))) (pss_one (ps_ret pe_bl)) pss_nil) (pss_one (ps_ret (pe_and (pe_cmpR (op_eqD (Room.units hr)) (pe_ix ix_seq (pv 0) pe_int (fun _ _ => rfl)) pe_int (nomark _)) (pe_one (pe_callD (d_rises T) (hr.mono (by decide)) (by rfl) (passX (L2N.takes_of rfl rfl rfl rfl)) (pa_cons (pv 0) (pa_cons pe_int pa_nil)))))))), (ss_seq (ss_if (sb_or (sb_not (sb_B (se_call (sa_cons (se_var 0) (sa_cons se_int (sa_cons se_int sa_nil)))))) (sb_not (sb_test (se_chain s2_B0 s2_B0 se_int (se_cb sc_len (sa_cons (se_var 0) sa_nil)) se_int)))) (ss_ret se_bl) ss_next) (ss_ret (se_andV (se_op s2_eq (se_op s2_ix (se_var 0) se_int) se_int) (se_call (sa_cons (se_var 0) (sa_cons se_int sa_nil))))))⟩) (fun xs Q Ex _ h => h)
theorem sc_need_rope : FnScope ["value"] ["value"] (defScope s_need_rope) := ⟨rfl, rfl, rfl, by decide +kernel, rfl, by decide +kernel, by decide +kernel⟩
def b_need_rope : MS := (mIfS (mNot (mB (mCall F_is_rope (mCons (mVar 0) mNil)))) (mRaise ⟨"InvalidRope", none⟩) mNext)
def F_need_rope : List Dv → M Dv := fun xs Q Ex => b_need_rope (endM Q Ex) (startE 1 xs)
theorem d_need_rope (T : Txt K mg KE base) : Df P w K mg base "need_rope" 4 ["value"] (F_need_rope) :=
  df_of T.f_need_rope sc_need_rope (fun _ _ _ _ _ _ us hl => match us, hl with | [_], _ => rfl) (fun f cdv A outer s H E hr => ⟨_, (pss_one (ps_if (pt_not (pt_val (pe_callD (d_is_rope T) (hr.mono (by decide)) (by rfl) (passX (L2N.takes_of rfl rfl rfl rfl)) (pa_cons (pv 0) pa_nil)))) (pss_one (ps_raiseD T.x_InvalidRope rfl (L2N.takes_of rfl rfl rfl rfl) (by rfl))) pss_nil)), (ss_if (sb_not (sb_B (se_call (sa_cons (se_var 0) sa_nil)))) (ss_raise T.x_InvalidRope) ss_next)⟩) (fun xs Q Ex _ h => h)
def t_spans_by_1 : MS := (mExt 1 (mF (mLc (mItemsA (mSl fSl (mVar 0) mNoPart (mPart (mVar 2)))) (fName 4) mYes (mCB fAbs (mCons (mBin fSub (mVar 3) (mVar 4)) mNil)) [4])))
def t_spans_by_2 : MS := (mFreeze 1 (mRet (mCB fTupOf (mCons (mF (mCF fSortI (mCons (mVar 1) mNil))) mNil))))
def t_spans_by_3 : MS := (mSeq (mFor (mEnum (mCons (mVar 0) mNil)) (fTup2 (fName 2) (fName 3)) (t_spans_by_1)) (t_spans_by_2))
theorem sc_spans_by : FnScope ["places", "found", "at", "place", "other"] ["places"] (defScope s_spans_by) := ⟨rfl, rfl, rfl, by decide +kernel, rfl, by decide +kernel, by decide +kernel⟩
def b_spans_by : MS := (mSeq (mSet 1 (mOwn (mLst mNil))) (t_spans_by_3))
def F_spans_by : List Dv → M Dv := fun xs Q Ex => b_spans_by (endM Q Ex) (startE 5 xs)
theorem d_spans_by (T : Txt K mg KE base) : Df P w K mg base "spans_by" 1 ["places"] (F_spans_by) :=
  df_of T.f_spans_by sc_spans_by (fun _ _ _ _ _ _ us hl => match us, hl with | [_], _ => rfl) (fun f cdv A outer s H E hr => ⟨_, (pss_cons (ps_set (i := 1) sc_spans_by.nd rfl (by first | exact Or.inl rfl | exact Or.inr rfl) (pe_lst pa_nil)) (pss_cons (ps_for (passes_of rfl) rfl (pi_enumA (by rfl) T.b_enumerate (pa_cons (pv 0) pa_nil)) (pg_tup rfl (pgs_cons (pg_name (i := 2) sc_spans_by.nd rfl (by first | exact Or.inl rfl | exact Or.inr rfl)) (pgs_cons (pg_name (i := 3) sc_spans_by.nd rfl (by first | exact Or.inl rfl | exact Or.inr rfl)) pgs_nil))) (pss_one (ps_expr (pe_bm PySem.F.plainAttrs_list PySem.F.slot_list_extend PySem.F.type_list_extend mt_extend (pv 1) (pa_cons (pe_lc (own := [("other", 4)]) rfl sc_spans_by.nd (pi_any (pe_slice sl_any (pv 0) po_none (po_some (pv 2)))) (blkOk_by (own := [("other", 4)]) (N := ["places", "found", "at", "place", "other"]) (sc := defScope s_spans_by) (by decide +kernel)) (fun _ _ _ _ _ => (pg_name (i := 4) sc_spans_by.nd rfl (by first | exact Or.inl rfl | exact Or.inr rfl))) (fun _ _ _ _ _ => pts_nil) (fun _ _ _ _ _ => (pe_callB call_abs (by rfl) T.b_abs boot_abs_ (pa_cons (pe_op op_sub (pv 3) (pv 4)) pa_nil)))) pa_nil))))) (pss_one (ps_ret (pe_callTy call_tuple_of (by rfl) T.b_tuple boot_tuple_ (pa_cons (pe_callB cr_sortedI (by rfl) T.b_sorted boot_sorted_ (pa_cons (pv 1) pa_nil)) pa_nil)))))), (ss_seq (ss_set 1 (sn_own (sf_lst sa_nil))) (ss_seq (ss_for (si_enum (sa_cons (se_var 0) sa_nil)) (st_tup2 (st_name 2) (st_name 3)) (ss_ext 1 (se_f (sf_lc (si_any (se_sl s3_sl (se_var 0) so_none (so_some (se_var 2)))) (st_name 4) (by decide) sb_yes (se_cb sc_abs (sa_cons (se_op s2_I0 (se_var 3) (se_var 4)) sa_nil)))))) (ss_freeze 1 (ss_ret (se_cb sc_tupOf (sa_cons (se_f (sf_cb sc_sortI (sa_cons (se_var 1) sa_nil))) sa_nil))))))⟩) (fun xs Q Ex _ h => h)
theorem sc_crowded : FnScope ["places"] ["places"] (defScope s_crowded) := ⟨rfl, rfl, rfl, by decide +kernel, rfl, by decide +kernel, by decide +kernel⟩
def b_crowded : MS := (mRet (mNotV (mCall F_rises (mCons (mCall F_spans_by (mCons (mVar 0) mNil)) (mCons (mC (.int 1)) mNil)))))
def F_crowded : List Dv → M Dv := fun xs Q Ex => b_crowded (endM Q Ex) (startE 1 xs)
theorem d_crowded (T : Txt K mg KE base) : Df P w K mg base "crowded" 2 ["places"] (F_crowded) :=
  df_of T.f_crowded sc_crowded (fun _ _ _ _ _ _ us hl => match us, hl with | [_], _ => rfl) (fun f cdv A outer s H E hr => ⟨_, (pss_one (ps_ret (pe_not (pe_callD (d_rises T) (hr.mono (by decide)) (by rfl) (passX (L2N.takes_of rfl rfl rfl rfl)) (pa_cons (pe_callD (d_spans_by T) (hr.mono (by decide)) (by rfl) (passX (L2N.takes_of rfl rfl rfl rfl)) (pa_cons (pv 0) pa_nil)) (pa_cons pe_int pa_nil)))))), (ss_ret (se_notV (se_call (sa_cons (se_call (sa_cons (se_var 0) sa_nil)) (sa_cons se_int sa_nil)))))⟩) (fun xs Q Ex _ h => h)
def t_free_places_1 : MS := (mRet (mF (mLc (mItemsA (mVar 2)) (fName 3) (mNot (mB (mCB fAny (mCons (mF (mLc (mItemsA (mVar 1)) (fName 4) mYes (mBin (fIn false) (mVar 3) (mVar 4)) [4])) mNil)))) (mVar 3) [3])))
theorem sc_free_places : FnScope ["places", "ropes", "found", "place", "rope"] ["places", "ropes"] (defScope s_free_places) := ⟨rfl, rfl, rfl, by decide +kernel, rfl, by decide +kernel, by decide +kernel⟩
def b_free_places : MS := (mSeq (mSet 2 (mVal (mF (mLc (mItemsA (mF (mSdI (mVar 0)))) (fName 3) (mB (mBin fGe (mVar 3) (mC (.int 0)))) (mVar 3) [3])))) (t_free_places_1))
def F_free_places : List Dv → M Dv := fun xs Q Ex => b_free_places (endM Q Ex) (startE 5 xs)
theorem d_free_places (T : Txt K mg KE base) : Df P w K mg base "free_places" 1 ["places", "ropes"] (F_free_places) :=
  df_of T.f_free_places sc_free_places (fun _ _ _ _ _ _ us hl => match us, hl with | [_, _], _ => rfl) (fun f cdv A outer s H E hr => ⟨_, (pss_cons (ps_setLc (i := 2) (own := [("place", 3)]) rfl sc_free_places.nd rfl rfl (sw_true rfl rfl rfl (by decide +kernel)) (pi_any (pe_callB (cr_sortedSetN rfl) (by rfl) T.b_sorted boot_sorted_ (pa_cons (pe_callTy (cr_setOfI rfl) (by rfl) T.b_set PyProof.Rows.boot_set (pa_cons (pv 0) pa_nil)) pa_nil))) (blkOk_by (own := [("place", 3)]) (N := ["places", "ropes", "found", "place", "rope"]) (sc := defScope s_free_places) (by decide +kernel)) (fun _ _ _ _ _ => (pg_name (i := 3) sc_free_places.nd rfl (by first | exact Or.inl rfl | exact Or.inr rfl))) (fun _ _ _ _ _ => (pts_one (pt_cmpR op_ge (pv 3) pe_int (nomark _)))) (fun _ _ _ _ _ => (pv 3))) (pss_one (ps_ret (pe_lc (own := [("place", 3)]) rfl sc_free_places.nd (pi_any (pv 2)) (blkOk_by (own := [("place", 3)]) (N := ["places", "ropes", "found", "place", "rope"]) (sc := defScope s_free_places) (by decide +kernel)) (fun _ _ _ _ _ => (pg_name (i := 3) sc_free_places.nd rfl (by first | exact Or.inl rfl | exact Or.inr rfl))) (fun _ _ _ _ _ => (pts_one (pt_not (pt_val (pe_callB (cr_any rfl) (by rfl) T.b_any boot_any_ (pa_cons (pe_lc (own := [("rope", 4)]) rfl sc_free_places.nd (pi_any (pv 1)) (blkOk_by (own := [("rope", 4)]) (by kernel_rfl)) (fun _ _ _ _ _ => (pg_name (i := 4) sc_free_places.nd rfl (by first | exact Or.inl rfl | exact Or.inr rfl))) (fun _ _ _ _ _ => pts_nil) (fun _ _ _ _ _ => (pe_cmpR op_in_seq (pv 3) (pv 4) (by rfl)))) pa_nil)))))) (fun _ _ _ _ _ => (pv 3)))))), (ss_seq (ss_set 2 (sn_val (se_f (sf_lc (si_any (se_f (sf_sdI (se_var 0)))) (st_name 3) (by decide) (sb_test (se_op s2_B0 (se_var 3) se_int)) (se_var 3))))) (ss_ret (se_f (sf_lc (si_any (se_var 2)) (st_name 3) (by decide) (sb_not (sb_B (se_cb sc_any (sa_cons (se_f (sf_lc (si_any (se_var 1)) (st_name 4) (by decide) sb_yes (se_op s2_in (se_var 3) (se_var 4)))) sa_nil)))) (se_var 3)))))⟩) (fun xs Q Ex _ h => h)
def t_halves_1 : MS := (mExt 2 (mF (mLc (mItemsA (mVar 1)) (fName 4) (mB (mBin fEq (mBin fMod (mBin fAdd (mVar 3) (mVar 4)) (mC (.int 2))) (mC (.int 0)))) (mBin fDiv (mBin fAdd (mVar 3) (mVar 4)) (mC (.int 2))) [4])))
def t_halves_2 : MS := (mFreeze 2 (mRet (mVar 2)))
def t_halves_3 : MS := (mSeq (mFor (mItemsA (mVar 0)) (fName 3) (t_halves_1)) (t_halves_2))
theorem sc_halves : FnScope ["one", "other", "found", "place", "more"] ["one", "other"] (defScope s_halves) := ⟨rfl, rfl, rfl, by decide +kernel, rfl, by decide +kernel, by decide +kernel⟩
def b_halves : MS := (mSeq (mSet 2 (mOwn (mLst mNil))) (t_halves_3))
def F_halves : List Dv → M Dv := fun xs Q Ex => b_halves (endM Q Ex) (startE 5 xs)
theorem d_halves (T : Txt K mg KE base) : Df P w K mg base "halves" 1 ["one", "other"] (F_halves) :=
  df_of T.f_halves sc_halves (fun _ _ _ _ _ _ us hl => match us, hl with | [_, _], _ => rfl) (fun f cdv A outer s H E hr => ⟨_, (pss_cons (ps_set (i := 2) sc_halves.nd rfl (by first | exact Or.inl rfl | exact Or.inr rfl) (pe_lst pa_nil)) (pss_cons (ps_for (passes_of rfl) rfl (pi_any (pv 0)) (pg_name (i := 3) sc_halves.nd rfl (by first | exact Or.inl rfl | exact Or.inr rfl)) (pss_one (ps_expr (pe_bm PySem.F.plainAttrs_list PySem.F.slot_list_extend PySem.F.type_list_extend mt_extend (pv 2) (pa_cons (pe_lc (own := [("more", 4)]) rfl sc_halves.nd (pi_any (pv 1)) (blkOk_by (own := [("more", 4)]) (N := ["one", "other", "found", "place", "more"]) (sc := defScope s_halves) (by decide +kernel)) (fun _ _ _ _ _ => (pg_name (i := 4) sc_halves.nd rfl (by first | exact Or.inl rfl | exact Or.inr rfl))) (fun _ _ _ _ _ => (pts_one (pt_cmpR (op_eqD (Room.units hr)) (pe_op op_mod (pe_op op_addA (pv 3) (pv 4)) pe_int) pe_int (nomark _)))) (fun _ _ _ _ _ => (pe_op op_fdivW (pe_op op_addA (pv 3) (pv 4)) pe_int))) pa_nil))))) (pss_one (ps_ret (pv 2))))), (ss_seq (ss_set 2 (sn_own (sf_lst sa_nil))) (ss_seq (ss_for (si_any (se_var 0)) (st_name 3) (ss_ext 2 (se_f (sf_lc (si_any (se_var 1)) (st_name 4) (by decide) (sb_test (se_op s2_eq (se_op (s2_I fun _ _ h => h) (se_op s2_add (se_var 3) (se_var 4)) se_int) se_int)) (se_op (s2_I fun _ _ h => h) (se_op s2_add (se_var 3) (se_var 4)) se_int))))) (ss_freeze 2 (ss_ret (se_var 2)))))⟩) (fun xs Q Ex _ h => h)
def t_steps_from_1 : MS := (mExt 2 (mBin fAdd (mF (mLc (mItemsA (mVar 1)) (fName 4) mYes (mBin fAdd (mVar 3) (mVar 4)) [4])) (mF (mLc (mItemsA (mVar 1)) (fName 4) mYes (mBin fSub (mVar 3) (mVar 4)) [4]))))
def t_steps_from_2 : MS := (mFreeze 2 (mRet (mVar 2)))
def t_steps_from_3 : MS := (mSeq (mFor (mItemsA (mVar 0)) (fName 3) (t_steps_from_1)) (t_steps_from_2))
theorem sc_steps_from : FnScope ["rope", "lengths", "found", "place", "length"] ["rope", "lengths"] (defScope s_steps_from) := ⟨rfl, rfl, rfl, by decide +kernel, rfl, by decide +kernel, by decide +kernel⟩
def b_steps_from : MS := (mSeq (mSet 2 (mOwn (mLst mNil))) (t_steps_from_3))
def F_steps_from : List Dv → M Dv := fun xs Q Ex => b_steps_from (endM Q Ex) (startE 5 xs)
theorem d_steps_from (T : Txt K mg KE base) : Df P w K mg base "steps_from" 1 ["rope", "lengths"] (F_steps_from) :=
  df_of T.f_steps_from sc_steps_from (fun _ _ _ _ _ _ us hl => match us, hl with | [_, _], _ => rfl) (fun f cdv A outer s H E hr => ⟨_, (pss_cons (ps_set (i := 2) sc_steps_from.nd rfl (by first | exact Or.inl rfl | exact Or.inr rfl) (pe_lst pa_nil)) (pss_cons (ps_for (passes_of rfl) rfl (pi_any (pv 0)) (pg_name (i := 3) sc_steps_from.nd rfl (by first | exact Or.inl rfl | exact Or.inr rfl)) (pss_one (ps_expr (pe_bm PySem.F.plainAttrs_list PySem.F.slot_list_extend PySem.F.type_list_extend mt_extend (pv 2) (pa_cons (pe_op op_addA (pe_lc (own := [("length", 4)]) rfl sc_steps_from.nd (pi_any (pv 1)) (blkOk_by (own := [("length", 4)]) (N := ["rope", "lengths", "found", "place", "length"]) (sc := defScope s_steps_from) (by decide +kernel)) (fun _ _ _ _ _ => (pg_name (i := 4) sc_steps_from.nd rfl (by first | exact Or.inl rfl | exact Or.inr rfl))) (fun _ _ _ _ _ => pts_nil) (fun _ _ _ _ _ => (pe_op op_addA (pv 3) (pv 4)))) (pe_lc (own := [("length", 4)]) rfl sc_steps_from.nd (pi_any (pv 1)) (blkOk_by (own := [("length", 4)]) (N := ["rope", "lengths", "found", "place", "length"]) (sc := defScope s_steps_from) (by decide +kernel)) (fun _ _ _ _ _ => (pg_name (i := 4) sc_steps_from.nd rfl (by first | exact Or.inl rfl | exact Or.inr rfl))) (fun _ _ _ _ _ => pts_nil) (fun _ _ _ _ _ => (pe_op op_sub (pv 3) (pv 4))))) pa_nil))))) (pss_one (ps_ret (pv 2))))), (ss_seq (ss_set 2 (sn_own (sf_lst sa_nil))) (ss_seq (ss_for (si_any (se_var 0)) (st_name 3) (ss_ext 2 (se_op s2_add (se_f (sf_lc (si_any (se_var 1)) (st_name 4) (by decide) sb_yes (se_op s2_add (se_var 3) (se_var 4)))) (se_f (sf_lc (si_any (se_var 1)) (st_name 4) (by decide) sb_yes (se_op s2_I0 (se_var 3) (se_var 4))))))) (ss_freeze 2 (ss_ret (se_var 2)))))⟩) (fun xs Q Ex _ h => h)
def t_crowding_1 : MS := (mRet (mF (mLc (mItemsA (mVar 1)) (fName 2) (mB (mCall F_crowded (mCons (mBin fAdd (mVar 0) (mTup 1 (mCons (mVar 2) mNil))) mNil))) (mVar 2) [2])))
def t_crowding_2 : MS := (mSeq (mSet 1 (mVal (mCall F_free_places (mCons (mBin fAdd (mCall F_halves (mCons (mVar 0) (mCons (mVar 0) mNil))) (mCall F_steps_from (mCons (mVar 0) (mCons (mCall F_spans_by (mCons (mVar 0) mNil)) mNil)))) (mCons (mF (mLst (mCons (mVar 0) mNil))) mNil))))) (t_crowding_1))
def t_crowding_3 : MS := (mSeq (mIfS (mB (mCall F_crowded (mCons (mVar 0) mNil))) (mRaise ⟨"Unlike", none⟩) mNext) (t_crowding_2))
theorem sc_crowding : FnScope ["rope", "spots", "spot"] ["rope"] (defScope s_crowding) := ⟨rfl, rfl, rfl, by decide +kernel, rfl, by decide +kernel, by decide +kernel⟩
def b_crowding : MS := (mSeq (mDrop (mCall F_need_rope (mCons (mVar 0) mNil))) (t_crowding_3))
def F_crowding : List Dv → M Dv := fun xs Q Ex => b_crowding (endM Q Ex) (startE 3 xs)
theorem d_crowding (T : Txt K mg KE base) : Df P w K mg base "crowding" 5 ["rope"] (F_crowding) :=
  df_of T.f_crowding sc_crowding (fun _ _ _ _ _ _ us hl => match us, hl with | [_], _ => rfl) (fun f cdv A outer s H E hr => ⟨_, (pss_cons (ps_expr (pe_callD (d_need_rope T) (hr.mono (by decide)) (by rfl) (passX (L2N.takes_of rfl rfl rfl rfl)) (pa_cons (pv 0) pa_nil))) (pss_cons (ps_if (pt_val (pe_callD (d_crowded T) (hr.mono (by decide)) (by rfl) (passX (L2N.takes_of rfl rfl rfl rfl)) (pa_cons (pv 0) pa_nil))) (pss_one (ps_raiseD T.x_Unlike rfl (L2N.takes_of rfl rfl rfl rfl) (by rfl))) pss_nil) (pss_cons (ps_set (i := 1) sc_crowding.nd rfl (by first | exact Or.inl rfl | exact Or.inr rfl) (pe_callD (d_free_places T) (hr.mono (by decide)) (by rfl) (passX (L2N.takes_of rfl rfl rfl rfl)) (pa_cons (pe_op op_addA (pe_callD (d_halves T) (hr.mono (by decide)) (by rfl) (passX (L2N.takes_of rfl rfl rfl rfl)) (pa_cons (pv 0) (pa_cons (pv 0) pa_nil))) (pe_callD (d_steps_from T) (hr.mono (by decide)) (by rfl) (passX (L2N.takes_of rfl rfl rfl rfl)) (pa_cons (pv 0) (pa_cons (pe_callD (d_spans_by T) (hr.mono (by decide)) (by rfl) (passX (L2N.takes_of rfl rfl rfl rfl)) (pa_cons (pv 0) pa_nil)) pa_nil)))) (pa_cons (pe_lst (pa_cons (pv 0) pa_nil)) pa_nil)))) (pss_one (ps_ret (pe_lc (own := [("spot", 2)]) rfl sc_crowding.nd (pi_any (pv 1)) (blkOk_by (own := [("spot", 2)]) (N := ["rope", "spots", "spot"]) (sc := defScope s_crowding) (by decide +kernel)) (fun _ _ _ _ _ => (pg_name (i := 2) sc_crowding.nd rfl (by first | exact Or.inl rfl | exact Or.inr rfl))) (fun _ _ _ _ _ => (pts_one (pt_val (pe_callD (d_crowded T) (hr.mono (by decide)) (by rfl) passN (pa_cons (pe_op op_addA (pv 0) (pe_tup (pa_cons (pv 2) pa_nil))) pa_nil))))) (fun _ _ _ _ _ => (pv 2)))))))), (ss_seq (ss_drop (se_call (sa_cons (se_var 0) sa_nil))) (ss_seq (ss_if (sb_B (se_call (sa_cons (se_var 0) sa_nil))) (ss_raise T.x_Unlike) ss_next) (ss_seq (ss_set 1 (sn_val (se_call (sa_cons (se_op s2_add (se_call (sa_cons (se_var 0) (sa_cons (se_var 0) sa_nil))) (se_call (sa_cons (se_var 0) (sa_cons (se_call (sa_cons (se_var 0) sa_nil)) sa_nil)))) (sa_cons (se_f (sf_lst (sa_cons (se_var 0) sa_nil))) sa_nil))))) (ss_ret (se_f (sf_lc (si_any (se_var 1)) (st_name 2) (by decide) (sb_B (se_call (sa_cons (se_op s2_add (se_var 0) (se_tup (sa_cons (se_var 2) sa_nil))) sa_nil))) (se_var 2)))))))⟩) (fun xs Q Ex _ h => h)
def t_matches_1 : MS := (mRet (mF (mLc (mItemsA (mVar 3)) (fName 4) (mB (mBin fEq (mCall F_spans_by (mCons (mBin fAdd (mVar 0) (mTup 1 (mCons (mVar 4) mNil))) mNil)) (mCall F_spans_by (mCons (mBin fAdd (mVar 1) (mTup 1 (mCons (mVar 4) mNil))) mNil)))) (mVar 4) [4])))
def t_matches_2 : MS := (mSeq (mSet 3 (mVal (mCall F_free_places (mCons (mBin fAdd (mCall F_halves (mCons (mVar 0) (mCons (mVar 1) mNil))) (mCall F_steps_from (mCons (mBin fAdd (mVar 0) (mVar 1)) (mCons (mVar 2) mNil)))) (mCons (mF (mLst (mCons (mVar 0) (mCons (mVar 1) mNil)))) mNil))))) (t_matches_1))
def t_matches_3 : MS := (mSeq (mSet 2 (mVal (mBin fAdd (mCall F_spans_by (mCons (mVar 0) mNil)) (mCall F_spans_by (mCons (mVar 1) mNil))))) (t_matches_2))
def t_matches_4 : MS := (mSeq (mIfS (mB (mBin fEq (mVar 0) (mVar 1))) (mRet (mC .none)) mNext) (t_matches_3))
def t_matches_5 : MS := (mSeq (mIfS (mB (mBin fNe (mCB fLen (mCons (mVar 0) mNil)) (mCB fLen (mCons (mVar 1) mNil)))) (mRaise ⟨"Unlike", none⟩) mNext) (t_matches_4))
def t_matches_6 : MS := (mSeq (mDrop (mCall F_need_rope (mCons (mVar 1) mNil))) (t_matches_5))
theorem sc_matches : FnScope ["one", "other", "lengths", "spots", "spot"] ["one", "other"] (defScope s_matches) := ⟨rfl, rfl, rfl, by decide +kernel, rfl, by decide +kernel, by decide +kernel⟩
def b_matches : MS := (mSeq (mDrop (mCall F_need_rope (mCons (mVar 0) mNil))) (t_matches_6))
def F_matches : List Dv → M Dv := fun xs Q Ex => b_matches (endM Q Ex) (startE 5 xs)
theorem d_matches (T : Txt K mg KE base) : Df P w K mg base "matches" 5 ["one", "other"] (F_matches) :=
  df_of T.f_matches sc_matches (fun _ _ _ _ _ _ us hl => match us, hl with | [_, _], _ => rfl) (fun f cdv A outer s H E hr => ⟨_, (pss_cons (ps_expr (pe_callD (d_need_rope T) (hr.mono (by decide)) (by rfl) (passX (L2N.takes_of rfl rfl rfl rfl)) (pa_cons (pv 0) pa_nil))) (pss_cons (ps_expr (pe_callD (d_need_rope T) (hr.mono (by decide)) (by rfl) (passX (L2N.takes_of rfl rfl rfl rfl)) (pa_cons (pv 1) pa_nil))) (pss_cons (ps_if (pt_cmpR (op_neD (Room.units hr)) (pe_callB call_len (by rfl) T.b_len boot_len_ (pa_cons (pv 0) pa_nil)) (pe_callB call_len (by rfl) T.b_len boot_len_ (pa_cons (pv 1) pa_nil)) (nomark _)) (pss_one (ps_raiseD T.x_Unlike rfl (L2N.takes_of rfl rfl rfl rfl) (by rfl))) pss_nil) (pss_cons (ps_if (pt_cmpR (op_eqD (Room.units hr)) (pv 0) (pv 1) (nomark _)) (pss_one (ps_ret pe_non)) pss_nil) (pss_cons (ps_set (i := 2) sc_matches.nd rfl (by first | exact Or.inl rfl | exact Or.inr rfl) (pe_op op_addA (pe_callD (d_spans_by T) (hr.mono (by decide)) (by rfl) (passX (L2N.takes_of rfl rfl rfl rfl)) (pa_cons (pv 0) pa_nil)) (pe_callD (d_spans_by T) (hr.mono (by decide)) (by rfl) (passX (L2N.takes_of rfl rfl rfl rfl)) (pa_cons (pv 1) pa_nil)))) (pss_cons (ps_set (i := 3) sc_matches.nd rfl (by first | exact Or.inl rfl | exact Or.inr rfl) (pe_callD (d_free_places T) (hr.mono (by decide)) (by rfl) (passX (L2N.takes_of rfl rfl rfl rfl)) (pa_cons (pe_op op_addA (pe_callD (d_halves T) (hr.mono (by decide)) (by rfl) (passX (L2N.takes_of rfl rfl rfl rfl)) (pa_cons (pv 0) (pa_cons (pv 1) pa_nil))) (pe_callD (d_steps_from T) (hr.mono (by decide)) (by rfl) (passX (L2N.takes_of rfl rfl rfl rfl)) (pa_cons (pe_op op_addA (pv 0) (pv 1)) (pa_cons (pv 2) pa_nil)))) (pa_cons (pe_lst (pa_cons (pv 0) (pa_cons (pv 1) pa_nil))) pa_nil)))) (pss_one (ps_ret (pe_lc (own := [("spot", 4)]) rfl sc_matches.nd (pi_any (pv 3)) (blkOk_by (own := [("spot", 4)]) (N := ["one", "other", "lengths", "spots", "spot"]) (sc := defScope s_matches) (by decide +kernel)) (fun _ _ _ _ _ => (pg_name (i := 4) sc_matches.nd rfl (by first | exact Or.inl rfl | exact Or.inr rfl))) (fun _ _ _ _ _ => (pts_one (pt_cmpR (op_eqD (Room.units hr)) (pe_callD (d_spans_by T) (hr.mono (by decide)) (by rfl) passN (pa_cons (pe_op op_addA (pv 0) (pe_tup (pa_cons (pv 4) pa_nil))) pa_nil)) (pe_callD (d_spans_by T) (hr.mono (by decide)) (by rfl) passN (pa_cons (pe_op op_addA (pv 1) (pe_tup (pa_cons (pv 4) pa_nil))) pa_nil)) (nomark _)))) (fun _ _ _ _ _ => (pv 4))))))))))), (ss_seq (ss_drop (se_call (sa_cons (se_var 0) sa_nil))) (ss_seq (ss_drop (se_call (sa_cons (se_var 1) sa_nil))) (ss_seq (ss_if (sb_test (se_op s2_ne (se_cb sc_len (sa_cons (se_var 0) sa_nil)) (se_cb sc_len (sa_cons (se_var 1) sa_nil)))) (ss_raise T.x_Unlike) ss_next) (ss_seq (ss_if (sb_test (se_op s2_eq (se_var 0) (se_var 1))) (ss_ret se_non) ss_next) (ss_seq (ss_set 2 (sn_val (se_op s2_add (se_call (sa_cons (se_var 0) sa_nil)) (se_call (sa_cons (se_var 1) sa_nil))))) (ss_seq (ss_set 3 (sn_val (se_call (sa_cons (se_op s2_add (se_call (sa_cons (se_var 0) (sa_cons (se_var 1) sa_nil))) (se_call (sa_cons (se_op s2_add (se_var 0) (se_var 1)) (sa_cons (se_var 2) sa_nil)))) (sa_cons (se_f (sf_lst (sa_cons (se_var 0) (sa_cons (se_var 1) sa_nil)))) sa_nil))))) (ss_ret (se_f (sf_lc (si_any (se_var 3)) (st_name 4) (by decide) (sb_test (se_op s2_eq (se_call (sa_cons (se_op s2_add (se_var 0) (se_tup (sa_cons (se_var 4) sa_nil))) sa_nil)) (se_call (sa_cons (se_op s2_add (se_var 1) (se_tup (sa_cons (se_var 4) sa_nil))) sa_nil)))) (se_var 4))))))))))⟩) (fun xs Q Ex _ h => h)
def t_law_written_1 : MS := (mRet (mAndV (mBin fEq (mCall F_matches (mCons (mTup 2 (mCons (mC (.int 0)) (mCons (mC (.int 2)) mNil))) (mCons (mTup 2 (mCons (mC (.int 0)) (mCons (mC (.int 4)) mNil))) mNil))) (mF (mLst (mCons (mC (.int 6)) mNil)))) (mBin fEq (mCall F_matches (mCons (mTup 3 (mCons (mC (.int 0)) (mCons (mC (.int 10)) (mCons (mC (.int 40)) mNil)))) (mCons (mTup 3 (mCons (mC (.int 0)) (mCons (mC (.int 30)) (mCons (mC (.int 40)) mNil)))) mNil))) (mF (mLst (mCons (mC (.int 20)) mNil))))))
def t_law_written_2 : MS := (mSeq (mIfS (mOr (mB (mBin fNe (mCall F_matches (mCons (mTup 3 (mCons (mC (.int 0)) (mCons (mC (.int 1)) (mCons (mC (.int 3)) mNil)))) (mCons (mTup 3 (mCons (mC (.int 0)) (mCons (mC (.int 2)) (mCons (mC (.int 3)) mNil)))) mNil))) (mF (mLst mNil)))) (mOr (mB (mBin fIsNot (mCall F_matches (mCons (mTup 2 (mCons (mC (.int 0)) (mCons (mC (.int 1)) mNil))) (mCons (mTup 2 (mCons (mC (.int 0)) (mCons (mC (.int 1)) mNil))) mNil))) (mC .none))) (mB (mBin fNe (mCall F_matches (mCons (mTup 2 (mCons (mC (.int 0)) (mCons (mC (.int 1)) mNil))) (mCons (mTup 2 (mCons (mC (.int 0)) (mCons (mC (.int 3)) mNil))) mNil))) (mF (mLst (mCons (mC (.int 4)) mNil))))))) (mRet (mC (.bool false))) mNext) (t_law_written_1))
def t_law_written_3 : MS := (mSeq (mIfS (mOr (mB (mBin fNe (mCall F_crowding (mCons (mTup 2 (mCons (mC (.int 0)) (mCons (mVar 0) mNil))) mNil)) (mF (mLst (mCons (mBin fDiv (mVar 0) (mC (.int 2))) (mCons (mBin fMulA (mC (.int 2)) (mVar 0)) mNil)))))) (mB (mBin fNe (mCall F_matches (mCons (mTup 3 (mCons (mC (.int 0)) (mCons (mC (.int 1)) (mCons (mC (.int 4)) mNil)))) (mCons (mTup 3 (mCons (mC (.int 0)) (mCons (mC (.int 3)) (mCons (mC (.int 4)) mNil)))) mNil))) (mF (mLst (mCons (mC (.int 2)) mNil)))))) (mRet (mC (.bool false))) mNext) (t_law_written_2))
def t_law_written_4 : MS := (mSeq (mSet 0 (mVal (mBin fPow (mC (.int 10)) (mC (.int 30))))) (t_law_written_3))
theorem sc_law_written : FnScope ["great"] [] (defScope s_law_written) := ⟨rfl, rfl, rfl, by decide +kernel, rfl, by decide +kernel, by decide +kernel⟩
def b_law_written : MS := (mSeq (mIfS (mOr (mB (mBin fNe (mCall F_crowding (mCons (mTup 3 (mCons (mC (.int 0)) (mCons (mC (.int 1)) (mCons (mC (.int 3)) mNil)))) mNil)) (mF (mLst (mCons (mC (.int 2)) (mCons (mC (.int 4)) (mCons (mC (.int 5)) (mCons (mC (.int 6)) mNil)))))))) (mOr (mB (mBin fNe (mCall F_crowding (mCons (mTup 2 (mCons (mC (.int 0)) (mCons (mC (.int 2)) mNil))) mNil)) (mF (mLst (mCons (mC (.int 1)) (mCons (mC (.int 4)) mNil)))))) (mB (mBin fNe (mCall F_crowding (mCons (mTup 2 (mCons (mC (.int 0)) (mCons (mC (.int 1)) mNil))) mNil)) (mF (mLst (mCons (mC (.int 2)) mNil))))))) (mRet (mC (.bool false))) mNext) (t_law_written_4))
def F_law_written : List Dv → M Dv := fun xs Q Ex => b_law_written (endM Q Ex) (startE 1 xs)
theorem d_law_written (T : Txt K mg KE base) : Df P w K mg base "_law_written" 6 [] (F_law_written) :=
  df_of T.f_law_written sc_law_written (fun _ _ _ _ _ _ us hl => match us, hl with | [], _ => rfl) (fun f cdv A outer s H E hr => ⟨_, (pss_cons (ps_if (PW.pt (pw_or (pt_cmpR (op_neD (Room.units hr)) (pe_callD (d_crowding T) (hr.mono (by decide)) (by rfl) (passX (L2N.takes_of rfl rfl rfl rfl)) (pa_cons (pe_tup (pa_cons pe_int (pa_cons pe_int (pa_cons pe_int pa_nil)))) pa_nil)) (pe_lst (pa_cons pe_int (pa_cons pe_int (pa_cons pe_int (pa_cons pe_int pa_nil))))) (nomark _)) (pw_or (pt_cmpR (op_neD (Room.units hr)) (pe_callD (d_crowding T) (hr.mono (by decide)) (by rfl) (passX (L2N.takes_of rfl rfl rfl rfl)) (pa_cons (pe_tup (pa_cons pe_int (pa_cons pe_int pa_nil))) pa_nil)) (pe_lst (pa_cons pe_int (pa_cons pe_int pa_nil))) (nomark _)) (pw_or1 (pt_cmpR (op_neD (Room.units hr)) (pe_callD (d_crowding T) (hr.mono (by decide)) (by rfl) (passX (L2N.takes_of rfl rfl rfl rfl)) (pa_cons (pe_tup (pa_cons pe_int (pa_cons pe_int pa_nil))) pa_nil)) (pe_lst (pa_cons pe_int pa_nil)) (nomark _)))))) (pss_one (ps_ret pe_bl)) pss_nil) (pss_cons (ps_set (i := 0) sc_law_written.nd rfl (by first | exact Or.inl rfl | exact Or.inr rfl) (pe_op op_pow pe_int pe_int)) (pss_cons (ps_if (PW.pt (pw_or (pt_cmpR (op_neD (Room.units hr)) (pe_callD (d_crowding T) (hr.mono (by decide)) (by rfl) (passX (L2N.takes_of rfl rfl rfl rfl)) (pa_cons (pe_tup (pa_cons pe_int (pa_cons (pv 0) pa_nil))) pa_nil)) (pe_lst (pa_cons (pe_op op_fdivW (pv 0) pe_int) (pa_cons (pe_op op_mulA pe_int (pv 0)) pa_nil))) (nomark _)) (pw_or1 (pt_cmpR (op_neD (Room.units hr)) (pe_callD (d_matches T) (hr.mono (by decide)) (by rfl) (passX (L2N.takes_of rfl rfl rfl rfl)) (pa_cons (pe_tup (pa_cons pe_int (pa_cons pe_int (pa_cons pe_int pa_nil)))) (pa_cons (pe_tup (pa_cons pe_int (pa_cons pe_int (pa_cons pe_int pa_nil)))) pa_nil))) (pe_lst (pa_cons pe_int pa_nil)) (nomark _))))) (pss_one (ps_ret pe_bl)) pss_nil) (pss_cons (ps_if (PW.pt (pw_or (pt_cmpR (op_neD (Room.units hr)) (pe_callD (d_matches T) (hr.mono (by decide)) (by rfl) (passX (L2N.takes_of rfl rfl rfl rfl)) (pa_cons (pe_tup (pa_cons pe_int (pa_cons pe_int (pa_cons pe_int pa_nil)))) (pa_cons (pe_tup (pa_cons pe_int (pa_cons pe_int (pa_cons pe_int pa_nil)))) pa_nil))) (pe_lst pa_nil) (nomark _)) (pw_or (pt_cmpR op_notN (pe_callD (d_matches T) (hr.mono (by decide)) (by rfl) (passX (L2N.takes_of rfl rfl rfl rfl)) (pa_cons (pe_tup (pa_cons pe_int (pa_cons pe_int pa_nil))) (pa_cons (pe_tup (pa_cons pe_int (pa_cons pe_int pa_nil))) pa_nil))) pe_non (nomark _)) (pw_or1 (pt_cmpR (op_neD (Room.units hr)) (pe_callD (d_matches T) (hr.mono (by decide)) (by rfl) (passX (L2N.takes_of rfl rfl rfl rfl)) (pa_cons (pe_tup (pa_cons pe_int (pa_cons pe_int pa_nil))) (pa_cons (pe_tup (pa_cons pe_int (pa_cons pe_int pa_nil))) pa_nil))) (pe_lst (pa_cons pe_int pa_nil)) (nomark _)))))) (pss_one (ps_ret pe_bl)) pss_nil) (pss_one (ps_ret (pe_and (pe_cmpR (op_eqD (Room.units hr)) (pe_callD (d_matches T) (hr.mono (by decide)) (by rfl) (passX (L2N.takes_of rfl rfl rfl rfl)) (pa_cons (pe_tup (pa_cons pe_int (pa_cons pe_int pa_nil))) (pa_cons (pe_tup (pa_cons pe_int (pa_cons pe_int pa_nil))) pa_nil))) (pe_lst (pa_cons pe_int pa_nil)) (nomark _)) (pe_one (pe_cmpR (op_eqD (Room.units hr)) (pe_callD (d_matches T) (hr.mono (by decide)) (by rfl) (passX (L2N.takes_of rfl rfl rfl rfl)) (pa_cons (pe_tup (pa_cons pe_int (pa_cons pe_int (pa_cons pe_int pa_nil)))) (pa_cons (pe_tup (pa_cons pe_int (pa_cons pe_int (pa_cons pe_int pa_nil)))) pa_nil))) (pe_lst (pa_cons pe_int pa_nil)) (nomark _)))))))))), (ss_seq (ss_if (sb_or (sb_test (se_op s2_ne (se_call (sa_cons (se_tup (sa_cons se_int (sa_cons se_int (sa_cons se_int sa_nil)))) sa_nil)) (se_f (sf_lst (sa_cons se_int (sa_cons se_int (sa_cons se_int (sa_cons se_int sa_nil)))))))) (sb_or (sb_test (se_op s2_ne (se_call (sa_cons (se_tup (sa_cons se_int (sa_cons se_int sa_nil))) sa_nil)) (se_f (sf_lst (sa_cons se_int (sa_cons se_int sa_nil)))))) (sb_test (se_op s2_ne (se_call (sa_cons (se_tup (sa_cons se_int (sa_cons se_int sa_nil))) sa_nil)) (se_f (sf_lst (sa_cons se_int sa_nil))))))) (ss_ret se_bl) ss_next) (ss_seq (ss_set 0 (sn_val (se_op (s2_I fun _ _ h => h) se_int se_int))) (ss_seq (ss_if (sb_or (sb_test (se_op s2_ne (se_call (sa_cons (se_tup (sa_cons se_int (sa_cons (se_var 0) sa_nil))) sa_nil)) (se_f (sf_lst (sa_cons (se_op (s2_I fun _ _ h => h) (se_var 0) se_int) (sa_cons (se_op s2_mulA se_int (se_var 0)) sa_nil)))))) (sb_test (se_op s2_ne (se_call (sa_cons (se_tup (sa_cons se_int (sa_cons se_int (sa_cons se_int sa_nil)))) (sa_cons (se_tup (sa_cons se_int (sa_cons se_int (sa_cons se_int sa_nil)))) sa_nil))) (se_f (sf_lst (sa_cons se_int sa_nil)))))) (ss_ret se_bl) ss_next) (ss_seq (ss_if (sb_or (sb_test (se_op s2_ne (se_call (sa_cons (se_tup (sa_cons se_int (sa_cons se_int (sa_cons se_int sa_nil)))) (sa_cons (se_tup (sa_cons se_int (sa_cons se_int (sa_cons se_int sa_nil)))) sa_nil))) (se_f (sf_lst sa_nil)))) (sb_or (sb_test (se_op s2_isnot (se_call (sa_cons (se_tup (sa_cons se_int (sa_cons se_int sa_nil))) (sa_cons (se_tup (sa_cons se_int (sa_cons se_int sa_nil))) sa_nil))) se_non)) (sb_test (se_op s2_ne (se_call (sa_cons (se_tup (sa_cons se_int (sa_cons se_int sa_nil))) (sa_cons (se_tup (sa_cons se_int (sa_cons se_int sa_nil))) sa_nil))) (se_f (sf_lst (sa_cons se_int sa_nil))))))) (ss_ret se_bl) ss_next) (ss_ret (se_andV (se_op s2_eq (se_call (sa_cons (se_tup (sa_cons se_int (sa_cons se_int sa_nil))) (sa_cons (se_tup (sa_cons se_int (sa_cons se_int sa_nil))) sa_nil))) (se_f (sf_lst (sa_cons se_int sa_nil)))) (se_op s2_eq (se_call (sa_cons (se_tup (sa_cons se_int (sa_cons se_int (sa_cons se_int sa_nil)))) (sa_cons (se_tup (sa_cons se_int (sa_cons se_int (sa_cons se_int sa_nil)))) sa_nil))) (se_f (sf_lst (sa_cons se_int sa_nil))))))))))⟩) (fun xs Q Ex _ h => h)
def t_law_coil_1 : MS := (mRetCoil (mLst (mCons (mIf (mB (mBin fGe (mVar 2) (mBin fPow (mC (.int 10)) (mC (.int 18))))) (mVar 2) (mC (.int 0))) (mCons (mBin fAdd (mBin fMod (mCB fInt (mCons (mBin fAdd (mBin fAdd (mBin fMulA (mVar 2) (mC (.int 61))) (mBin fMulA (mC (.int 7309)) (mVar 1))) (mC (.int 17))) mNil)) (mC (.int 2147483587))) (mC (.int 1))) mNil))))
theorem sc_law_coil : FnScope ["script", "k", "cell"] ["script", "k"] (defScope s_law_coil) := ⟨rfl, rfl, rfl, by decide +kernel, rfl, by decide +kernel, by decide +kernel⟩
def b_law_coil : MS := (mSeq (mSet 2 (mVal (mIf (mB (mBin fLt (mVar 1) (mCB fLen (mCons (mVar 0) mNil)))) (mCB fAbs (mCons (mCB fInt (mCons (mBin fIx (mVar 0) (mVar 1)) mNil)) mNil)) (mBin fAdd (mBin fMulA (mC (.int 307)) (mVar 1)) (mC (.int 41)))))) (t_law_coil_1))
def F_law_coil : List Dv → M Dv := fun xs Q Ex => b_law_coil (endM Q Ex) (startE 3 xs)
theorem d_law_coil (T : Txt K mg KE base) : Df P w K mg base "_law_coil" 1 ["script", "k"] (F_law_coil) :=
  df_of T.f_law_coil sc_law_coil (fun _ _ _ _ _ _ us hl => match us, hl with | [_, _], _ => rfl) (fun f cdv A outer s H E hr => ⟨_, (pss_cons (ps_set (i := 2) sc_law_coil.nd rfl (by first | exact Or.inl rfl | exact Or.inr rfl) (pe_ifExp (pt_cmpR op_lt (pv 1) (pe_callB call_len (by rfl) T.b_len boot_len_ (pa_cons (pv 0) pa_nil)) (nomark _)) (pe_callB call_abs (by rfl) T.b_abs boot_abs_ (pa_cons (pe_callTy call_int1 (by rfl) T.b_int boot_int_ (pa_cons (pe_ix ix_seq (pv 0) (pv 1) (fun _ _ => rfl)) pa_nil)) pa_nil)) (pe_op op_addA (pe_op op_mulA pe_int (pv 1)) pe_int))) (pss_one (ps_ret (pe_lst (pa_cons (pe_ifExp (pt_cmpR op_ge (pv 2) (pe_op op_pow pe_int pe_int) (nomark _)) (pv 2) pe_int) (pa_cons (pe_op op_addA (pe_op op_mod (pe_callTy call_int1 (by rfl) T.b_int boot_int_ (pa_cons (pe_op op_addA (pe_op op_addA (pe_op op_mulA (pv 2) pe_int) (pe_op op_mulA pe_int (pv 1))) pe_int) pa_nil)) pe_int) pe_int) pa_nil)))))), (ss_seq (ss_set 2 (sn_val (se_if (sb_test (se_op s2_B0 (se_var 1) (se_cb sc_len (sa_cons (se_var 0) sa_nil)))) (se_cb sc_abs (sa_cons (se_cb sc_int (sa_cons (se_op s2_ix (se_var 0) (se_var 1)) sa_nil)) sa_nil)) (se_op s2_add (se_op s2_mulA se_int (se_var 1)) se_int)))) (ss_retCoil (sf_lst (sa_cons (se_if (sb_test (se_op s2_B0 (se_var 2) (se_op (s2_I fun _ _ h => h) se_int se_int))) (se_var 2) se_int) (sa_cons (se_op s2_add (se_op (s2_I fun _ _ h => h) (se_cb sc_int (sa_cons (se_op s2_add (se_op s2_add (se_op s2_mulA (se_var 2) se_int) (se_op s2_mulA se_int (se_var 1))) se_int) sa_nil)) se_int) se_int) sa_nil)))))⟩) (fun xs Q Ex _ h => h)
def t_law_spans_1 : MS := (mApp 1 (mCB fAbs (mCons (mBin fSub (mBin fIx (mVar 0) (mVar 3)) (mBin fIx (mVar 0) (mVar 2))) mNil)))
def t_law_spans_2 : MS := (mFor (mRng2 (mCons (mBin fAdd (mVar 2) (mC (.int 1))) (mCons (mCB fLen (mCons (mVar 0) mNil)) mNil))) (fName 3) (t_law_spans_1))
def t_law_spans_3 : MS := (mFreeze 1 (mRet (mCB fTupOf (mCons (mF (mCF fSortI (mCons (mVar 1) mNil))) mNil))))
def t_law_spans_4 : MS := (mSeq (mFor (mRng1 (mCons (mCB fLen (mCons (mVar 0) mNil)) mNil)) (fName 2) (t_law_spans_2)) (t_law_spans_3))
theorem sc_law_spans : FnScope ["places", "found", "at", "more"] ["places"] (defScope s_law_spans) := ⟨rfl, rfl, rfl, by decide +kernel, rfl, by decide +kernel, by decide +kernel⟩
def b_law_spans : MS := (mSeq (mSet 1 (mOwn (mLst mNil))) (t_law_spans_4))
def F_law_spans : List Dv → M Dv := fun xs Q Ex => b_law_spans (endM Q Ex) (startE 4 xs)
theorem d_law_spans (T : Txt K mg KE base) : Df P w K mg base "_law_spans" 1 ["places"] (F_law_spans) :=
  df_of T.f_law_spans sc_law_spans (fun _ _ _ _ _ _ us hl => match us, hl with | [_], _ => rfl) (fun f cdv A outer s H E hr => ⟨_, (pss_cons (ps_set (i := 1) sc_law_spans.nd rfl (by first | exact Or.inl rfl | exact Or.inr rfl) (pe_lst pa_nil)) (pss_cons (ps_for (passes_of rfl) rfl (pi_range1 (by rfl) T.b_range (pa_cons (pe_callB call_len (by rfl) T.b_len boot_len_ (pa_cons (pv 0) pa_nil)) pa_nil)) (pg_name (i := 2) sc_law_spans.nd rfl (by first | exact Or.inl rfl | exact Or.inr rfl)) (pss_one (ps_for (passes_of rfl) rfl (pi_range2 (by rfl) T.b_range (pa_cons (pe_op op_addA (pv 2) pe_int) (pa_cons (pe_callB call_len (by rfl) T.b_len boot_len_ (pa_cons (pv 0) pa_nil)) pa_nil))) (pg_name (i := 3) sc_law_spans.nd rfl (by first | exact Or.inl rfl | exact Or.inr rfl)) (pss_one (ps_expr (pe_bm PySem.F.plainAttrs_list PySem.F.slot_list_append PySem.F.type_list_append mt_append (pv 1) (pa_cons (pe_callB call_abs (by rfl) T.b_abs boot_abs_ (pa_cons (pe_op op_sub (pe_ix ix_seq (pv 0) (pv 3) (fun _ _ => rfl)) (pe_ix ix_seq (pv 0) (pv 2) (fun _ _ => rfl))) pa_nil)) pa_nil))))))) (pss_one (ps_ret (pe_callTy call_tuple_of (by rfl) T.b_tuple boot_tuple_ (pa_cons (pe_callB cr_sortedI (by rfl) T.b_sorted boot_sorted_ (pa_cons (pv 1) pa_nil)) pa_nil)))))), (ss_seq (ss_set 1 (sn_own (sf_lst sa_nil))) (ss_seq (ss_for (si_rng1 (sa_cons (se_cb sc_len (sa_cons (se_var 0) sa_nil)) sa_nil)) (st_name 2) (ss_for (si_rng2 (sa_cons (se_op s2_add (se_var 2) se_int) (sa_cons (se_cb sc_len (sa_cons (se_var 0) sa_nil)) sa_nil))) (st_name 3) (ss_app 1 (se_cb sc_abs (sa_cons (se_op s2_I0 (se_op s2_ix (se_var 0) (se_var 3)) (se_op s2_ix (se_var 0) (se_var 2))) sa_nil))))) (ss_freeze 1 (ss_ret (se_cb sc_tupOf (sa_cons (se_f (sf_cb sc_sortI (sa_cons (se_var 1) sa_nil))) sa_nil))))))⟩) (fun xs Q Ex _ h => h)
def t_law_crowded_1 : MS := (mRet (mBin fLt (mLenSet (mVar 1)) (mCB fLen (mCons (mVar 1) mNil))))
theorem sc_law_crowded : FnScope ["places", "spans"] ["places"] (defScope s_law_crowded) := ⟨rfl, rfl, rfl, by decide +kernel, rfl, by decide +kernel, by decide +kernel⟩
def b_law_crowded : MS := (mSeq (mSet 1 (mVal (mCall F_law_spans (mCons (mVar 0) mNil)))) (t_law_crowded_1))
def F_law_crowded : List Dv → M Dv := fun xs Q Ex => b_law_crowded (endM Q Ex) (startE 2 xs)
theorem d_law_crowded (T : Txt K mg KE base) : Df P w K mg base "_law_crowded" 2 ["places"] (F_law_crowded) :=
  df_of T.f_law_crowded sc_law_crowded (fun _ _ _ _ _ _ us hl => match us, hl with | [_], _ => rfl) (fun f cdv A outer s H E hr => ⟨_, (pss_cons (ps_set (i := 1) sc_law_crowded.nd rfl (by first | exact Or.inl rfl | exact Or.inr rfl) (pe_callD (d_law_spans T) (hr.mono (by decide)) (by rfl) (passX (L2N.takes_of rfl rfl rfl rfl)) (pa_cons (pv 0) pa_nil))) (pss_one (ps_ret (pe_cmpR op_lt (pe_callB cr_lenSet (by rfl) T.b_len boot_len_ (pa_cons (pe_callTy (cr_setOfA rfl) (by rfl) T.b_set PyProof.Rows.boot_set (pa_cons (pv 1) pa_nil)) pa_nil)) (pe_callB call_len (by rfl) T.b_len boot_len_ (pa_cons (pv 1) pa_nil)) (nomark _))))), (ss_seq (ss_set 1 (sn_val (se_call (sa_cons (se_var 0) sa_nil)))) (ss_ret (se_op s2_B0 (se_lenSet (se_var 1)) (se_cb sc_len (sa_cons (se_var 1) sa_nil)))))⟩) (fun xs Q Ex _ h => h)
def t_law_wind_1 : MS := (mRet (mVar 3))
def t_law_wind_2 : MS := (mSeq (mCoil 0 0 (mBin fDiv (mBin fIx (mVar 0) (mC (.int 0))) (mVar 1))) (t_law_wind_1))
def t_law_wind_3 : MS := (mRet (mBin fMod (mCB fInt (mCons (mBin fDiv (mVar 2) (mC (.int 32))) mNil)) (mVar 1)))
def t_law_wind_4 : MS := (mSeq (mSet 2 (mVal (mBin fMod (mCB fInt (mCons (mBin fMulA (mBin fIx (mVar 0) (mC (.int 1))) (mBin fAdd (mBin fDiv (mBin fIx (mVar 0) (mC (.int 1))) (mC (.int 9))) (mC (.int 53)))) mNil)) (mC (.int 2147483563))))) (t_law_wind_3))
def t_law_wind_5 : MS := (mSeq (mCoil 0 1 (mBin fMod (mCB fInt (mCons (mBin fAdd (mBin fMulA (mBin fIx (mVar 0) (mC (.int 1))) (mC (.int 46021))) (mC (.int 151))) mNil)) (mC (.int 2147483587)))) (t_law_wind_4))
theorem sc_law_wind : FnScope ["coil", "many", "wide", "part"] ["coil", "many"] (defScope s_law_wind) := ⟨rfl, rfl, rfl, by decide +kernel, rfl, by decide +kernel, by decide +kernel⟩
def b_law_wind : MS := (mSeq (mIfS (mB (mBin fGt (mBin fIx (mVar 0) (mC (.int 0))) (mC (.int 0)))) (mSeq (mSet 3 (mVal (mBin fMod (mCB fInt (mCons (mBin fIx (mVar 0) (mC (.int 0))) mNil)) (mVar 1)))) (t_law_wind_2)) mNext) (t_law_wind_5))
def F_law_wind : List Dv → M Dv := fun xs Q Ex => b_law_wind (endM Q Ex) (startE 4 xs)
theorem d_law_wind (T : Txt K mg KE base) : Df P w K mg base "_law_wind" 1 ["coil", "many"] (F_law_wind) :=
  df_of T.f_law_wind sc_law_wind (fun _ _ _ _ _ _ us hl => match us, hl with | [_, _], _ => rfl) (fun f cdv A outer s H E hr => ⟨_, (pss_cons (ps_if (pt_cmpR op_gt (pe_ix ix_seq (pv 0) pe_int (fun _ _ => rfl)) pe_int (nomark _)) (pss_cons (ps_set (i := 3) sc_law_wind.nd rfl (by first | exact Or.inl rfl | exact Or.inr rfl) (pe_op op_mod (pe_callTy call_int1 (by rfl) T.b_int boot_int_ (pa_cons (pe_ix ix_seq (pv 0) pe_int (fun _ _ => rfl)) pa_nil)) (pv 1))) (pss_cons (ps_asg (pe_op op_fdivW (pe_ix ix_seq (pv 0) pe_int (fun _ _ => rfl)) (pv 1)) (pg_sub (pv 0) pe_int set_list)) (pss_one (ps_ret (pv 3))))) pss_nil) (pss_cons (ps_asg (pe_op op_mod (pe_callTy call_int1 (by rfl) T.b_int boot_int_ (pa_cons (pe_op op_addA (pe_op op_mulA (pe_ix ix_seq (pv 0) pe_int (fun _ _ => rfl)) pe_int) pe_int) pa_nil)) pe_int) (pg_sub (pv 0) pe_int set_list)) (pss_cons (ps_set (i := 2) sc_law_wind.nd rfl (by first | exact Or.inl rfl | exact Or.inr rfl) (pe_op op_mod (pe_callTy call_int1 (by rfl) T.b_int boot_int_ (pa_cons (pe_op op_mulA (pe_ix ix_seq (pv 0) pe_int (fun _ _ => rfl)) (pe_op op_addA (pe_op op_fdivW (pe_ix ix_seq (pv 0) pe_int (fun _ _ => rfl)) pe_int) pe_int)) pa_nil)) pe_int)) (pss_one (ps_ret (pe_op op_mod (pe_callTy call_int1 (by rfl) T.b_int boot_int_ (pa_cons (pe_op op_fdivW (pv 2) pe_int) pa_nil)) (pv 1))))))), (ss_seq (ss_if (sb_test (se_op s2_B0 (se_op s2_ix (se_var 0) se_int) se_int)) (ss_seq (ss_set 3 (sn_val (se_op (s2_I fun _ _ h => h) (se_cb sc_int (sa_cons (se_op s2_ix (se_var 0) se_int) sa_nil)) (se_var 1)))) (ss_seq (ss_coil 0 0 (se_op (s2_I fun _ _ h => h) (se_op s2_ix (se_var 0) se_int) (se_var 1))) (ss_ret (se_var 3)))) ss_next) (ss_seq (ss_coil 0 1 (se_op (s2_I fun _ _ h => h) (se_cb sc_int (sa_cons (se_op s2_add (se_op s2_mulA (se_op s2_ix (se_var 0) se_int) se_int) se_int) sa_nil)) se_int)) (ss_seq (ss_set 2 (sn_val (se_op (s2_I fun _ _ h => h) (se_cb sc_int (sa_cons (se_op s2_mulA (se_op s2_ix (se_var 0) se_int) (se_op s2_add (se_op (s2_I fun _ _ h => h) (se_op s2_ix (se_var 0) se_int) se_int) se_int)) sa_nil)) se_int))) (ss_ret (se_op (s2_I fun _ _ h => h) (se_cb sc_int (sa_cons (se_op (s2_I fun _ _ h => h) (se_var 2) se_int) sa_nil)) (se_var 1))))))⟩) (fun xs Q Ex _ h => h)
def t_law_plain_rope_1 : MS := (mIfS (mAnd (mB (mBin fLt (mCB fLen (mCons (mVar 3) mNil)) (mVar 1))) (mNot (mB (mCall F_law_crowded (mCons (mVar 5) mNil))))) (mSet 3 (mVal (mVar 5))) mNext)
def t_law_plain_rope_2 : MS := (mSeq (mSet 5 (mVal (mBin fAdd (mVar 3) (mTup 1 (mCons (mBin fAdd (mBin fAdd (mBin fIx (mVar 3) (mUn fNeg (mC (.int 1)))) (mC (.int 1))) (mCall F_law_wind (mCons (mVar 0) (mCons (mVar 2) mNil)))) mNil))))) (t_law_plain_rope_1))
def t_law_plain_rope_3 : MS := (mRet (mIf (mB (mBin fGt (mCB fLen (mCons (mVar 3) mNil)) (mC (.int 1)))) (mVar 3) (mTup 2 (mCons (mC (.int 0)) (mCons (mC (.int 2)) mNil)))))
def t_law_plain_rope_4 : MS := (mSeq (mFor (mRng1 (mCons (mBin fMulA (mVar 1) (mC (.int 3))) mNil)) (fName 4) (t_law_plain_rope_2)) (t_law_plain_rope_3))
theorem sc_law_plain_rope : FnScope ["coil", "most", "wide", "rope", "turn", "longer"] ["coil", "most", "wide"] (defScope s_law_plain_rope) := ⟨rfl, rfl, rfl, by decide +kernel, rfl, by decide +kernel, by decide +kernel⟩
def b_law_plain_rope : MS := (mSeq (mSet 3 (mVal (mTup 1 (mCons (mC (.int 0)) mNil)))) (t_law_plain_rope_4))
def F_law_plain_rope : List Dv → M Dv := fun xs Q Ex => b_law_plain_rope (endM Q Ex) (startE 6 xs)
theorem d_law_plain_rope (T : Txt K mg KE base) : Df P w K mg base "_law_plain_rope" 3 ["coil", "most", "wide"] (F_law_plain_rope) :=
  df_of T.f_law_plain_rope sc_law_plain_rope (fun _ _ _ _ _ _ us hl => match us, hl with | [_, _, _], _ => rfl) (fun f cdv A outer s H E hr => ⟨_, (pss_cons (ps_set (i := 3) sc_law_plain_rope.nd rfl (by first | exact Or.inl rfl | exact Or.inr rfl) (pe_tup (pa_cons pe_int pa_nil))) (pss_cons (ps_for (passes_of rfl) rfl (pi_range1 (by rfl) T.b_range (pa_cons (pe_op op_mulA (pv 1) pe_int) pa_nil)) (pg_name (i := 4) sc_law_plain_rope.nd rfl (by first | exact Or.inl rfl | exact Or.inr rfl)) (pss_cons (ps_set (i := 5) sc_law_plain_rope.nd rfl (by first | exact Or.inl rfl | exact Or.inr rfl) (pe_op op_addA (pv 3) (pe_tup (pa_cons (pe_op op_addA (pe_op op_addA (pe_ix ix_seq (pv 3) (pe_un un_neg pe_int) (fun _ _ => rfl)) pe_int) (pe_callD (d_law_wind T) (hr.mono (by decide)) (by rfl) (passX (L2N.takes_of rfl rfl rfl rfl)) (pa_cons (pv 0) (pa_cons (pv 2) pa_nil)))) pa_nil)))) (pss_one (ps_if (PW.pt (pw_and (pt_cmpR op_lt (pe_callB call_len (by rfl) T.b_len boot_len_ (pa_cons (pv 3) pa_nil)) (pv 1) (nomark _)) (pw_and1 (pt_not (pt_val (pe_callD (d_law_crowded T) (hr.mono (by decide)) (by rfl) (passX (L2N.takes_of rfl rfl rfl rfl)) (pa_cons (pv 5) pa_nil))))))) (pss_one (ps_set (i := 3) sc_law_plain_rope.nd rfl (by first | exact Or.inl rfl | exact Or.inr rfl) (pv 5))) pss_nil)))) (pss_one (ps_ret (pe_ifExp (pt_cmpR op_gt (pe_callB call_len (by rfl) T.b_len boot_len_ (pa_cons (pv 3) pa_nil)) pe_int (nomark _)) (pv 3) (pe_tup (pa_cons pe_int (pa_cons pe_int pa_nil)))))))), (ss_seq (ss_set 3 (sn_val (se_tup (sa_cons se_int sa_nil)))) (ss_seq (ss_for (si_rng1 (sa_cons (se_op s2_mulA (se_var 1) se_int) sa_nil)) (st_name 4) (ss_seq (ss_set 5 (sn_val (se_op s2_add (se_var 3) (se_tup (sa_cons (se_op s2_add (se_op s2_add (se_op s2_ix (se_var 3) (se_un s1_neg se_int)) se_int) (se_call (sa_cons (se_var 0) (sa_cons (se_var 2) sa_nil)))) sa_nil))))) (ss_if (sb_and (sb_test (se_op s2_B0 (se_cb sc_len (sa_cons (se_var 3) sa_nil)) (se_var 1))) (sb_not (sb_B (se_call (sa_cons (se_var 5) sa_nil))))) (ss_set 3 (sn_val (se_var 5))) ss_next))) (ss_ret (se_if (sb_test (se_op s2_B0 (se_cb sc_len (sa_cons (se_var 3) sa_nil)) se_int)) (se_var 3) (se_tup (sa_cons se_int (sa_cons se_int sa_nil)))))))⟩) (fun xs Q Ex _ h => h)
def t_law_crowding_right_1 : MS := (mIfS (mB (mBin fNe (mBin (fIn false) (mVar 3) (mVar 2)) (mVar 4))) (mRet (mC (.bool false))) mNext)
def t_law_crowding_right_2 : MS := (mSeq (mSet 4 (mVal (mAndV (mBin (fIn true) (mVar 3) (mVar 0)) (mCall F_law_crowded (mCons (mBin fAdd (mVar 0) (mTup 1 (mCons (mVar 3) mNil))) mNil))))) (t_law_crowding_right_1))
def t_law_crowding_right_3 : MS := (mRet (mC (.bool true)))
def t_law_crowding_right_4 : MS := (mSeq (mFor (mItemsA (mF (mSdI (mBin fAdd (mVar 2) (mVar 1))))) (fName 3) (t_law_crowding_right_2)) (t_law_crowding_right_3))
def t_law_crowding_right_5 : MS := (mSeq (mIfS (mOr (mNot (mB (mCB fIsI (mCons (mVar 2) (mCons (mTy "list") mNil))))) (mOr (mB (mBin fNe (mVar 2) (mF (mSdI (mVar 2))))) (mAnd (mB (mBin fNe (mVar 2) (mF (mLst mNil)))) (mB (mBin fLt (mBin fIx (mVar 2) (mC (.int 0))) (mC (.int 0))))))) (mRet (mC (.bool false))) mNext) (t_law_crowding_right_4))
theorem sc_law_crowding_right : FnScope ["rope", "all_places", "found", "place", "good"] ["rope", "all_places"] (defScope s_law_crowding_right) := ⟨rfl, rfl, rfl, by decide +kernel, rfl, by decide +kernel, by decide +kernel⟩
def b_law_crowding_right : MS := (mSeq (mSet 2 (mVal (mCall F_crowding (mCons (mVar 0) mNil)))) (t_law_crowding_right_5))
def F_law_crowding_right : List Dv → M Dv := fun xs Q Ex => b_law_crowding_right (endM Q Ex) (startE 5 xs)
theorem d_law_crowding_right (T : Txt K mg KE base) : Df P w K mg base "_law_crowding_right" 6 ["rope", "all_places"] (F_law_crowding_right) :=
  df_of T.f_law_crowding_right sc_law_crowding_right (fun _ _ _ _ _ _ us hl => match us, hl with | [_, _], _ => rfl) (fun f cdv A outer s H E hr => ⟨_, (pss_cons (ps_set (i := 2) sc_law_crowding_right.nd rfl (by first | exact Or.inl rfl | exact Or.inr rfl) (pe_callD (d_crowding T) (hr.mono (by decide)) (by rfl) (passX (L2N.takes_of rfl rfl rfl rfl)) (pa_cons (pv 0) pa_nil))) (pss_cons (ps_if (PW.pt (pw_or (pt_not (pt_val (pe_callB call_isi (by rfl) T.b_isinstance boot_isinstance_ (pa_cons (pv 2) (pa_cons (pe_bltn (v := .ty "list") (by rfl) T.b_list boot_list_ rfl) pa_nil))))) (pw_or (pt_cmpR (op_neD (Room.units hr)) (pv 2) (pe_callB (cr_sortedSetN rfl) (by rfl) T.b_sorted boot_sorted_ (pa_cons (pe_callTy (cr_setOfI rfl) (by rfl) T.b_set PyProof.Rows.boot_set (pa_cons (pv 2) pa_nil)) pa_nil)) (nomark _)) (pw_or1 (PW.pt (pw_and (pt_cmpR (op_neD (Room.units hr)) (pv 2) (pe_lst pa_nil) (nomark _)) (pw_and1 (pt_cmpR op_lt (pe_ix ix_seq (pv 2) pe_int (fun _ _ => rfl)) pe_int (nomark _))))))))) (pss_one (ps_ret pe_bl)) pss_nil) (pss_cons (ps_for (passes_of rfl) rfl (pi_any (pe_callB (cr_sortedSetN rfl) (by rfl) T.b_sorted boot_sorted_ (pa_cons (pe_callTy (cr_setOfI rfl) (by rfl) T.b_set PyProof.Rows.boot_set (pa_cons (pe_op op_addA (pv 2) (pv 1)) pa_nil)) pa_nil))) (pg_name (i := 3) sc_law_crowding_right.nd rfl (by first | exact Or.inl rfl | exact Or.inr rfl)) (pss_cons (ps_set (i := 4) sc_law_crowding_right.nd rfl (by first | exact Or.inl rfl | exact Or.inr rfl) (pe_and (pe_cmpR op_notIn_seq (pv 3) (pv 0) (by rfl)) (pe_one (pe_callD (d_law_crowded T) (hr.mono (by decide)) (by rfl) (passX (L2N.takes_of rfl rfl rfl rfl)) (pa_cons (pe_op op_addA (pv 0) (pe_tup (pa_cons (pv 3) pa_nil))) pa_nil))))) (pss_one (ps_if (pt_cmpR (op_neD (Room.units hr)) (pe_cmpR op_in_seq (pv 3) (pv 2) (by rfl)) (pv 4) (nomark _)) (pss_one (ps_ret pe_bl)) pss_nil)))) (pss_one (ps_ret pe_bl))))), (ss_seq (ss_set 2 (sn_val (se_call (sa_cons (se_var 0) sa_nil)))) (ss_seq (ss_if (sb_or (sb_not (sb_B (se_cb sc_isi (sa_cons (se_var 2) (sa_cons se_ty sa_nil))))) (sb_or (sb_test (se_op s2_ne (se_var 2) (se_f (sf_sdI (se_var 2))))) (sb_and (sb_test (se_op s2_ne (se_var 2) (se_f (sf_lst sa_nil)))) (sb_test (se_op s2_B0 (se_op s2_ix (se_var 2) se_int) se_int))))) (ss_ret se_bl) ss_next) (ss_seq (ss_for (si_any (se_f (sf_sdI (se_op s2_add (se_var 2) (se_var 1))))) (st_name 3) (ss_seq (ss_set 4 (sn_val (se_andV (se_op s2_in (se_var 3) (se_var 0)) (se_call (sa_cons (se_op s2_add (se_var 0) (se_tup (sa_cons (se_var 3) sa_nil))) sa_nil))))) (ss_if (sb_test (se_op s2_ne (se_op s2_in (se_var 3) (se_var 2)) (se_var 4))) (ss_ret se_bl) ss_next))) (ss_ret se_bl))))⟩) (fun xs Q Ex _ h => h)
theorem sc_law_pick : FnScope ["coil", "things"] ["coil", "things"] (defScope s_law_pick) := ⟨rfl, rfl, rfl, by decide +kernel, rfl, by decide +kernel, by decide +kernel⟩
def b_law_pick : MS := (mRet (mBin fIx (mVar 1) (mCall F_law_wind (mCons (mVar 0) (mCons (mCB fLen (mCons (mVar 1) mNil)) mNil)))))
def F_law_pick : List Dv → M Dv := fun xs Q Ex => b_law_pick (endM Q Ex) (startE 2 xs)
theorem d_law_pick (T : Txt K mg KE base) : Df P w K mg base "_law_pick" 2 ["coil", "things"] (F_law_pick) :=
  df_of T.f_law_pick sc_law_pick (fun _ _ _ _ _ _ us hl => match us, hl with | [_, _], _ => rfl) (fun f cdv A outer s H E hr => ⟨_, (pss_one (ps_ret (pe_ix ix_seq (pv 1) (pe_callD (d_law_wind T) (hr.mono (by decide)) (by rfl) (passX (L2N.takes_of rfl rfl rfl rfl)) (pa_cons (pv 0) (pa_cons (pe_callB call_len (by rfl) T.b_len boot_len_ (pa_cons (pv 1) pa_nil)) pa_nil))) (fun _ _ => rfl)))), (ss_ret (se_op s2_ix (se_var 1) (se_call (sa_cons (se_var 0) (sa_cons (se_cb sc_len (sa_cons (se_var 1) sa_nil)) sa_nil)))))⟩) (fun xs Q Ex _ h => h)
def t_law_any_rope_1 : MS := (mRet (mCB fTupOf (mCons (mF (mLc (mItemsA (mVar 7)) (fName 8) mYes (mBin fMulA (mVar 8) (mVar 6)) [8])) mNil)))
def t_law_any_rope_2 : MS := (mSeq (mSet 7 (mVal (mCall F_law_pick (mCons (mVar 0) (mCons (mF (mLst (mCons (mTup 6 (mCons (mC (.int 0)) (mCons (mC (.int 1)) (mCons (mC (.int 4)) (mCons (mC (.int 10)) (mCons (mC (.int 12)) (mCons (mC (.int 17)) mNil))))))) (mCons (mTup 6 (mCons (mC (.int 0)) (mCons (mC (.int 1)) (mCons (mC (.int 8)) (mCons (mC (.int 11)) (mCons (mC (.int 13)) (mCons (mC (.int 17)) mNil))))))) mNil)))) mNil))))) (t_law_any_rope_1))
def t_law_any_rope_3 : MS := (mSet 4 (mVal (mBin fAdd (mVar 4) (mTup 1 (mCons (mBin fAdd (mBin fAdd (mBin fIx (mVar 4) (mUn fNeg (mC (.int 1)))) (mC (.int 1))) (mCall F_law_wind (mCons (mVar 0) (mCons (mBin fIx (mF (mLst (mCons (mC (.int 2)) (mCons (mC (.int 3)) (mCons (mC (.int 6)) (mCons (mC (.int 12)) (mCons (mC (.int 40)) (mCons (mBin fPow (mC (.int 10)) (mC (.int 29))) mNil)))))))) (mBin fSub (mVar 3) (mC (.int 1)))) mNil)))) mNil)))))
def t_law_any_rope_4 : MS := (mRet (mVar 4))
def t_law_any_rope_5 : MS := (mSeq (mFor (mRng1 (mCons (mBin fAdd (mBin fSub (mVar 1) (mC (.int 1))) (mCall F_law_wind (mCons (mVar 0) (mCons (mBin fAdd (mBin fSub (mVar 2) (mVar 1)) (mC (.int 1))) mNil)))) mNil)) (fName 5) (t_law_any_rope_3)) (t_law_any_rope_4))
def t_law_any_rope_6 : MS := (mSeq (mSet 4 (mVal (mTup 1 (mCons (mC (.int 0)) mNil)))) (t_law_any_rope_5))
def t_law_any_rope_7 : MS := (mSeq (mIfS (mAnd (mB (mBin fEq (mVar 3) (mC (.int 0)))) (mB (mChain fLe fLe (mVar 1) (mC (.int 6)) (mVar 2)))) (mSeq (mSet 6 (mVal (mCall F_law_pick (mCons (mVar 0) (mCons (mF (mLst (mCons (mC (.int 1)) (mCons (mC (.int 3)) (mCons (mBin fAdd (mBin fPow (mC (.int 10)) (mC (.int 28))) (mCall F_law_wind (mCons (mVar 0) (mCons (mC (.int 99)) mNil)))) mNil))))) mNil))))) (t_law_any_rope_2)) mNext) (t_law_any_rope_6))
theorem sc_law_any_rope : FnScope ["coil", "least", "most", "way", "rope", "turn", "times", "known", "place"] ["coil", "least", "most"] (defScope s_law_any_rope) := ⟨rfl, rfl, rfl, by decide +kernel, rfl, by decide +kernel, by decide +kernel⟩
def b_law_any_rope : MS := (mSeq (mSet 3 (mVal (mCall F_law_wind (mCons (mVar 0) (mCons (mC (.int 7)) mNil))))) (t_law_any_rope_7))
def F_law_any_rope : List Dv → M Dv := fun xs Q Ex => b_law_any_rope (endM Q Ex) (startE 9 xs)
theorem d_law_any_rope (T : Txt K mg KE base) : Df P w K mg base "_law_any_rope" 3 ["coil", "least", "most"] (F_law_any_rope) :=
  df_of T.f_law_any_rope sc_law_any_rope (fun _ _ _ _ _ _ us hl => match us, hl with | [_, _, _], _ => rfl) (fun f cdv A outer s H E hr => ⟨_, (pss_cons (ps_set (i := 3) sc_law_any_rope.nd rfl (by first | exact Or.inl rfl | exact Or.inr rfl) (pe_callD (d_law_wind T) (hr.mono (by decide)) (by rfl) (passX (L2N.takes_of rfl rfl rfl rfl)) (pa_cons (pv 0) (pa_cons pe_int pa_nil)))) (pss_cons (ps_if (PW.pt (pw_and (pt_cmpR (op_eqD (Room.units hr)) (pv 3) pe_int (nomark _)) (pw_and1 (pt_chain op_le op_le (pv 1) pe_int (pv 2))))) (pss_cons (ps_set (i := 6) sc_law_any_rope.nd rfl (by first | exact Or.inl rfl | exact Or.inr rfl) (pe_callD (d_law_pick T) (hr.mono (by decide)) (by rfl) (passX (L2N.takes_of rfl rfl rfl rfl)) (pa_cons (pv 0) (pa_cons (pe_lst (pa_cons pe_int (pa_cons pe_int (pa_cons (pe_op op_addA (pe_op op_pow pe_int pe_int) (pe_callD (d_law_wind T) (hr.mono (by decide)) (by rfl) (passX (L2N.takes_of rfl rfl rfl rfl)) (pa_cons (pv 0) (pa_cons pe_int pa_nil)))) pa_nil)))) pa_nil)))) (pss_cons (ps_set (i := 7) sc_law_any_rope.nd rfl (by first | exact Or.inl rfl | exact Or.inr rfl) (pe_callD (d_law_pick T) (hr.mono (by decide)) (by rfl) (passX (L2N.takes_of rfl rfl rfl rfl)) (pa_cons (pv 0) (pa_cons (pe_lst (pa_cons (pe_tup (pa_cons pe_int (pa_cons pe_int (pa_cons pe_int (pa_cons pe_int (pa_cons pe_int (pa_cons pe_int pa_nil))))))) (pa_cons (pe_tup (pa_cons pe_int (pa_cons pe_int (pa_cons pe_int (pa_cons pe_int (pa_cons pe_int (pa_cons pe_int pa_nil))))))) pa_nil))) pa_nil)))) (pss_one (ps_ret (pe_callTy call_tuple_of (by rfl) T.b_tuple boot_tuple_ (pa_cons (pe_lc (own := [("place", 8)]) rfl sc_law_any_rope.nd (pi_any (pv 7)) (blkOk_by (own := [("place", 8)]) (N := ["coil", "least", "most", "way", "rope", "turn", "times", "known", "place"]) (sc := defScope s_law_any_rope) (by decide +kernel)) (fun _ _ _ _ _ => (pg_name (i := 8) sc_law_any_rope.nd rfl (by first | exact Or.inl rfl | exact Or.inr rfl))) (fun _ _ _ _ _ => pts_nil) (fun _ _ _ _ _ => (pe_op op_mulA (pv 8) (pv 6)))) pa_nil)))))) pss_nil) (pss_cons (ps_set (i := 4) sc_law_any_rope.nd rfl (by first | exact Or.inl rfl | exact Or.inr rfl) (pe_tup (pa_cons pe_int pa_nil))) (pss_cons (ps_for (passes_of rfl) rfl (pi_range1 (by rfl) T.b_range (pa_cons (pe_op op_addA (pe_op op_sub (pv 1) pe_int) (pe_callD (d_law_wind T) (hr.mono (by decide)) (by rfl) (passX (L2N.takes_of rfl rfl rfl rfl)) (pa_cons (pv 0) (pa_cons (pe_op op_addA (pe_op op_sub (pv 2) (pv 1)) pe_int) pa_nil)))) pa_nil)) (pg_name (i := 5) sc_law_any_rope.nd rfl (by first | exact Or.inl rfl | exact Or.inr rfl)) (pss_one (ps_set (i := 4) sc_law_any_rope.nd rfl (by first | exact Or.inl rfl | exact Or.inr rfl) (pe_op op_addA (pv 4) (pe_tup (pa_cons (pe_op op_addA (pe_op op_addA (pe_ix ix_seq (pv 4) (pe_un un_neg pe_int) (fun _ _ => rfl)) pe_int) (pe_callD (d_law_wind T) (hr.mono (by decide)) (by rfl) (passX (L2N.takes_of rfl rfl rfl rfl)) (pa_cons (pv 0) (pa_cons (pe_ix ix_seq (pe_lst (pa_cons pe_int (pa_cons pe_int (pa_cons pe_int (pa_cons pe_int (pa_cons pe_int (pa_cons (pe_op op_pow pe_int pe_int) pa_nil))))))) (pe_op op_sub (pv 3) pe_int) (fun _ _ => rfl)) pa_nil)))) pa_nil)))))) (pss_one (ps_ret (pv 4))))))), (ss_seq (ss_set 3 (sn_val (se_call (sa_cons (se_var 0) (sa_cons se_int sa_nil))))) (ss_seq (ss_if (sb_and (sb_test (se_op s2_eq (se_var 3) se_int)) (sb_test (se_chain s2_B0 s2_B0 (se_var 1) se_int (se_var 2)))) (ss_seq (ss_set 6 (sn_val (se_call (sa_cons (se_var 0) (sa_cons (se_f (sf_lst (sa_cons se_int (sa_cons se_int (sa_cons (se_op s2_add (se_op (s2_I fun _ _ h => h) se_int se_int) (se_call (sa_cons (se_var 0) (sa_cons se_int sa_nil)))) sa_nil))))) sa_nil))))) (ss_seq (ss_set 7 (sn_val (se_call (sa_cons (se_var 0) (sa_cons (se_f (sf_lst (sa_cons (se_tup (sa_cons se_int (sa_cons se_int (sa_cons se_int (sa_cons se_int (sa_cons se_int (sa_cons se_int sa_nil))))))) (sa_cons (se_tup (sa_cons se_int (sa_cons se_int (sa_cons se_int (sa_cons se_int (sa_cons se_int (sa_cons se_int sa_nil))))))) sa_nil)))) sa_nil))))) (ss_ret (se_cb sc_tupOf (sa_cons (se_f (sf_lc (si_any (se_var 7)) (st_name 8) (by decide) sb_yes (se_op s2_mulA (se_var 8) (se_var 6)))) sa_nil))))) ss_next) (ss_seq (ss_set 4 (sn_val (se_tup (sa_cons se_int sa_nil)))) (ss_seq (ss_for (si_rng1 (sa_cons (se_op s2_add (se_op s2_I0 (se_var 1) se_int) (se_call (sa_cons (se_var 0) (sa_cons (se_op s2_add (se_op s2_I0 (se_var 2) (se_var 1)) se_int) sa_nil)))) sa_nil)) (st_name 5) (ss_set 4 (sn_val (se_op s2_add (se_var 4) (se_tup (sa_cons (se_op s2_add (se_op s2_add (se_op s2_ix (se_var 4) (se_un s1_neg se_int)) se_int) (se_call (sa_cons (se_var 0) (sa_cons (se_op s2_ix (se_f (sf_lst (sa_cons se_int (sa_cons se_int (sa_cons se_int (sa_cons se_int (sa_cons se_int (sa_cons (se_op (s2_I fun _ _ h => h) se_int se_int) sa_nil)))))))) (se_op s2_I0 (se_var 3) se_int)) sa_nil)))) sa_nil)))))) (ss_ret (se_var 4))))))⟩) (fun xs Q Ex _ h => h)
theorem sc_law_turned : FnScope ["rope", "place"] ["rope"] (defScope s_law_turned) := ⟨rfl, rfl, rfl, by decide +kernel, rfl, by decide +kernel, by decide +kernel⟩
def b_law_turned : MS := (mRet (mCB fTupOf (mCons (mF (mCF fSortI (mCons (mF (mLc (mItemsA (mVar 0)) (fName 1) mYes (mBin fSub (mBin fIx (mVar 0) (mUn fNeg (mC (.int 1)))) (mVar 1)) [1])) mNil))) mNil)))
def F_law_turned : List Dv → M Dv := fun xs Q Ex => b_law_turned (endM Q Ex) (startE 2 xs)
theorem d_law_turned (T : Txt K mg KE base) : Df P w K mg base "_law_turned" 1 ["rope"] (F_law_turned) :=
  df_of T.f_law_turned sc_law_turned (fun _ _ _ _ _ _ us hl => match us, hl with | [_], _ => rfl) (fun f cdv A outer s H E hr => ⟨_, (pss_one (ps_ret (pe_callTy call_tuple_of (by rfl) T.b_tuple boot_tuple_ (pa_cons (pe_callB cr_sortedI (by rfl) T.b_sorted boot_sorted_ (pa_cons (pe_lc (own := [("place", 1)]) rfl sc_law_turned.nd (pi_any (pv 0)) (blkOk_by (own := [("place", 1)]) (N := ["rope", "place"]) (sc := defScope s_law_turned) (by decide +kernel)) (fun _ _ _ _ _ => (pg_name (i := 1) sc_law_turned.nd rfl (by first | exact Or.inl rfl | exact Or.inr rfl))) (fun _ _ _ _ _ => pts_nil) (fun _ _ _ _ _ => (pe_op op_sub (pe_ix ix_seq (pv 0) (pe_un un_neg pe_int) (fun _ _ => rfl)) (pv 1)))) pa_nil)) pa_nil)))), (ss_ret (se_cb sc_tupOf (sa_cons (se_f (sf_cb sc_sortI (sa_cons (se_f (sf_lc (si_any (se_var 0)) (st_name 1) (by decide) sb_yes (se_op s2_I0 (se_op s2_ix (se_var 0) (se_un s1_neg se_int)) (se_var 1)))) sa_nil))) sa_nil)))⟩) (fun xs Q Ex _ h => h)
def t_law_any_value_1 (rec : List Dv → M Dv) : MS := (mRet (mIf (mB (mBin fEq (mCall F_law_wind (mCons (mVar 0) (mCons (mC (.int 3)) mNil))) (mC (.int 0)))) (mVar 3) (mCB fTupOf (mCons (mVar 3) mNil))))
def t_law_any_value_2 (rec : List Dv → M Dv) : MS := (mSeq (mSet 3 (mVal (mF (mLc (mRng1 (mCons (mCall F_law_wind (mCons (mVar 0) (mCons (mC (.int 4)) mNil))) mNil)) (fName 4) mYes (mCall rec (mCons (mVar 0) (mCons (mBin fSub (mVar 1) (mC (.int 1))) mNil))) [4])))) (t_law_any_value_1 rec))
def t_law_any_value_3 (rec : List Dv → M Dv) : MS := (mSeq (mIfS (mOr (mB (mBin fEq (mVar 1) (mC (.int 0)))) (mB (mBin fLt (mCall F_law_wind (mCons (mVar 0) (mCons (mC (.int 9)) mNil))) (mC (.int 6))))) (mRet (mCall F_law_pick (mCons (mVar 0) (mCons (mVar 2) mNil)))) mNext) (t_law_any_value_2 rec))
def t_law_any_value_4 (rec : List Dv → M Dv) : MS := (mSeq (mSet 2 (mVal (mBin fAdd (mVar 2) (mF (mLst (mCons (mTup 4 (mCons (mC (.str "between")) (mCons (mC (.int 0)) (mCons (mC (.int 8)) (mCons (mC (.int 1)) mNil))))) (mCons (mTup 4 (mCons (mC (.str "between")) (mCons (mC (.int 1)) (mCons (mC (.int 1)) (mCons (mC (.int 1)) mNil))))) (mCons (mTup 2 (mCons (mC (.int 6)) (mCons (mTup 3 (mCons (mC (.int 0)) (mCons (mC (.int 1)) (mCons (mC (.int 3)) mNil)))) mNil))) (mCons (mF (mLst (mCons (mC (.int 0)) (mCons (mC (.int 1)) mNil)))) (mCons (mTup 2 (mCons (mC (.int 2)) (mCons (mTup 2 (mCons (mC (.int 0)) (mCons (mC (.int 1)) mNil))) mNil))) (mCons (mTup 3 (mCons (mC (.int 0)) (mCons (mC (.int 2)) (mCons (mC (.int 1)) mNil)))) mNil))))))))))) (t_law_any_value_3 rec))
def t_law_any_value_5 (rec : List Dv → M Dv) : MS := (mSeq (mSet 2 (mVal (mBin fAdd (mVar 2) (mF (mLst (mCons (mTup 2 (mCons (mC (.int 0)) (mCons (mC (.int 1)) mNil))) (mCons (mTup 3 (mCons (mC (.int 1)) (mCons (mC (.int 1)) (mCons (mC (.int 2)) mNil)))) (mCons (mTup 1 (mCons (mC (.int 0)) mNil)) (mCons (mTup 1 (mCons (mC (.int 1)) mNil)) (mCons (mTup 3 (mCons (mC (.str "at")) (mCons (mC (.int 0)) (mCons (mC (.bool true)) mNil)))) (mCons (mTup 3 (mCons (mC (.str "beside")) (mCons (mC (.int 0)) (mCons (mC (.bool true)) mNil)))) (mCons (mTup 3 (mCons (mC (.str "beside")) (mCons (mC (.int 1)) (mCons (mC (.bool false)) mNil)))) mNil)))))))))))) (t_law_any_value_4 rec))
theorem sc_law_any_value : FnScope ["coil", "deep", "some", "row", "part"] ["coil", "deep"] (defScope s_law_any_value) := ⟨rfl, rfl, rfl, by decide +kernel, rfl, by decide +kernel, by decide +kernel⟩
def b_law_any_value (rec : List Dv → M Dv) : MS := (mSeq (mSet 2 (mVal (mF (mLst (mCons (mC .none) (mCons (mC (.bool true)) (mCons (mC (.bool false)) (mCons (mC (.int 0)) (mCons (mC (.int 1)) (mCons (mC (.int 2)) (mCons (mC (.int 8)) (mCons (mC (.int 9)) (mCons (mUn fNeg (mC (.int 1))) (mCons (mBin fPow (mC (.int 10)) (mC (.int 30))) (mCons (mBin fAdd (mBin fPow (mC (.int 10)) (mC (.int 30))) (mC (.int 1))) (mCons (mC (.str "")) (mCons (mC (.str "at")) (mCons (mC (.str "between")) (mCons (mC (.str "rope 1 2")) (mCons (mTup 0 mNil) (mCons (mF (mLst mNil)) mNil))))))))))))))))))))) (t_law_any_value_5 rec))
def F_law_any_value : Nat → List Dv → M Dv
  | 0 => fun _ _ _ => False
  | n + 1 => fun xs Q Ex => b_law_any_value (F_law_any_value n) (endM Q Ex) (startE 5 xs)
theorem d_law_any_value (T : Txt K mg KE base) : ∀ n : Nat, Df P w K mg base "_law_any_value" (3 + n) ["coil", "deep"] (F_law_any_value n)
  | 0 => df_no T.f_law_any_value sc_law_any_value (fun _ _ _ _ _ _ us hl => match us, hl with | [_, _], _ => rfl)
  | n + 1 => by
    have IH := d_law_any_value T n
    exact df_of T.f_law_any_value sc_law_any_value (fun _ _ _ _ _ _ us hl => match us, hl with | [_, _], _ => rfl) (fun f cdv A outer s H E hr => ⟨_, (pss_cons (ps_set (i := 2) sc_law_any_value.nd rfl (by first | exact Or.inl rfl | exact Or.inr rfl) (pe_lst (pa_cons pe_non (pa_cons pe_bl (pa_cons pe_bl (pa_cons pe_int (pa_cons pe_int (pa_cons pe_int (pa_cons pe_int (pa_cons pe_int (pa_cons (pe_un un_neg pe_int) (pa_cons (pe_op op_pow pe_int pe_int) (pa_cons (pe_op op_addA (pe_op op_pow pe_int pe_int) pe_int) (pa_cons pe_str (pa_cons pe_str (pa_cons pe_str (pa_cons pe_str (pa_cons (pe_tup pa_nil) (pa_cons (pe_lst pa_nil) pa_nil))))))))))))))))))) (pss_cons (ps_set (i := 2) sc_law_any_value.nd rfl (by first | exact Or.inl rfl | exact Or.inr rfl) (pe_op op_addA (pv 2) (pe_lst (pa_cons (pe_tup (pa_cons pe_int (pa_cons pe_int pa_nil))) (pa_cons (pe_tup (pa_cons pe_int (pa_cons pe_int (pa_cons pe_int pa_nil)))) (pa_cons (pe_tup (pa_cons pe_int pa_nil)) (pa_cons (pe_tup (pa_cons pe_int pa_nil)) (pa_cons (pe_tup (pa_cons pe_str (pa_cons pe_int (pa_cons pe_bl pa_nil)))) (pa_cons (pe_tup (pa_cons pe_str (pa_cons pe_int (pa_cons pe_bl pa_nil)))) (pa_cons (pe_tup (pa_cons pe_str (pa_cons pe_int (pa_cons pe_bl pa_nil)))) pa_nil)))))))))) (pss_cons (ps_set (i := 2) sc_law_any_value.nd rfl (by first | exact Or.inl rfl | exact Or.inr rfl) (pe_op op_addA (pv 2) (pe_lst (pa_cons (pe_tup (pa_cons pe_str (pa_cons pe_int (pa_cons pe_int (pa_cons pe_int pa_nil))))) (pa_cons (pe_tup (pa_cons pe_str (pa_cons pe_int (pa_cons pe_int (pa_cons pe_int pa_nil))))) (pa_cons (pe_tup (pa_cons pe_int (pa_cons (pe_tup (pa_cons pe_int (pa_cons pe_int (pa_cons pe_int pa_nil)))) pa_nil))) (pa_cons (pe_lst (pa_cons pe_int (pa_cons pe_int pa_nil))) (pa_cons (pe_tup (pa_cons pe_int (pa_cons (pe_tup (pa_cons pe_int (pa_cons pe_int pa_nil))) pa_nil))) (pa_cons (pe_tup (pa_cons pe_int (pa_cons pe_int (pa_cons pe_int pa_nil)))) pa_nil))))))))) (pss_cons (ps_if (PW.pt (pw_or (pt_cmpR (op_eqD (Room.units hr)) (pv 1) pe_int (nomark _)) (pw_or1 (pt_cmpR op_lt (pe_callD (d_law_wind T) (hr.mono (by first | exact Nat.le_refl _ | exact Nat.le_trans (by decide) (Nat.le_add_right _ _))) (by rfl) (passX (L2N.takes_of rfl rfl rfl rfl)) (pa_cons (pv 0) (pa_cons pe_int pa_nil))) pe_int (nomark _))))) (pss_one (ps_ret (pe_callD (d_law_pick T) (hr.mono (by first | exact Nat.le_refl _ | exact Nat.le_trans (by decide) (Nat.le_add_right _ _))) (by rfl) (passX (L2N.takes_of rfl rfl rfl rfl)) (pa_cons (pv 0) (pa_cons (pv 2) pa_nil))))) pss_nil) (pss_cons (ps_setLc (i := 3) (own := [("part", 4)]) rfl sc_law_any_value.nd rfl rfl (sw_true rfl rfl rfl (by decide +kernel)) (pi_range1 (by rfl) T.b_range (pa_cons (pe_callD (d_law_wind T) (hr.mono (by first | exact Nat.le_refl _ | exact Nat.le_trans (by decide) (Nat.le_add_right _ _))) (by rfl) (passX (L2N.takes_of rfl rfl rfl rfl)) (pa_cons (pv 0) (pa_cons pe_int pa_nil))) pa_nil)) (blkOk_by (own := [("part", 4)]) (N := ["coil", "deep", "some", "row", "part"]) (sc := defScope s_law_any_value) (by decide +kernel)) (fun _ _ _ _ _ => (pg_name (i := 4) sc_law_any_value.nd rfl (by first | exact Or.inl rfl | exact Or.inr rfl))) (fun _ _ _ _ _ => pts_nil) (fun _ _ _ _ _ => (pe_callD IH (hr.mono (by first | exact Nat.le_refl _ | exact Nat.le_trans (by decide) (Nat.le_add_right _ _))) (by rfl) passN (pa_cons (pv 0) (pa_cons (pe_op op_sub (pv 1) pe_int) pa_nil))))) (pss_one (ps_ret (pe_ifExp (pt_cmpR (op_eqD (Room.units hr)) (pe_callD (d_law_wind T) (hr.mono (by first | exact Nat.le_refl _ | exact Nat.le_trans (by decide) (Nat.le_add_right _ _))) (by rfl) (passX (L2N.takes_of rfl rfl rfl rfl)) (pa_cons (pv 0) (pa_cons pe_int pa_nil))) pe_int (nomark _)) (pv 3) (pe_callTy call_tuple_of (by rfl) T.b_tuple boot_tuple_ (pa_cons (pv 3) pa_nil)))))))))), (ss_seq (ss_set 2 (sn_val (se_f (sf_lst (sa_cons se_non (sa_cons se_bl (sa_cons se_bl (sa_cons se_int (sa_cons se_int (sa_cons se_int (sa_cons se_int (sa_cons se_int (sa_cons (se_un s1_neg se_int) (sa_cons (se_op (s2_I fun _ _ h => h) se_int se_int) (sa_cons (se_op s2_add (se_op (s2_I fun _ _ h => h) se_int se_int) se_int) (sa_cons se_str (sa_cons se_str (sa_cons se_str (sa_cons se_str (sa_cons (se_tup sa_nil) (sa_cons (se_f (sf_lst sa_nil)) sa_nil))))))))))))))))))))) (ss_seq (ss_set 2 (sn_val (se_op s2_add (se_var 2) (se_f (sf_lst (sa_cons (se_tup (sa_cons se_int (sa_cons se_int sa_nil))) (sa_cons (se_tup (sa_cons se_int (sa_cons se_int (sa_cons se_int sa_nil)))) (sa_cons (se_tup (sa_cons se_int sa_nil)) (sa_cons (se_tup (sa_cons se_int sa_nil)) (sa_cons (se_tup (sa_cons se_str (sa_cons se_int (sa_cons se_bl sa_nil)))) (sa_cons (se_tup (sa_cons se_str (sa_cons se_int (sa_cons se_bl sa_nil)))) (sa_cons (se_tup (sa_cons se_str (sa_cons se_int (sa_cons se_bl sa_nil)))) sa_nil)))))))))))) (ss_seq (ss_set 2 (sn_val (se_op s2_add (se_var 2) (se_f (sf_lst (sa_cons (se_tup (sa_cons se_str (sa_cons se_int (sa_cons se_int (sa_cons se_int sa_nil))))) (sa_cons (se_tup (sa_cons se_str (sa_cons se_int (sa_cons se_int (sa_cons se_int sa_nil))))) (sa_cons (se_tup (sa_cons se_int (sa_cons (se_tup (sa_cons se_int (sa_cons se_int (sa_cons se_int sa_nil)))) sa_nil))) (sa_cons (se_f (sf_lst (sa_cons se_int (sa_cons se_int sa_nil)))) (sa_cons (se_tup (sa_cons se_int (sa_cons (se_tup (sa_cons se_int (sa_cons se_int sa_nil))) sa_nil))) (sa_cons (se_tup (sa_cons se_int (sa_cons se_int (sa_cons se_int sa_nil)))) sa_nil))))))))))) (ss_seq (ss_if (sb_or (sb_test (se_op s2_eq (se_var 1) se_int)) (sb_test (se_op s2_B0 (se_call (sa_cons (se_var 0) (sa_cons se_int sa_nil))) se_int))) (ss_ret (se_call (sa_cons (se_var 0) (sa_cons (se_var 2) sa_nil)))) ss_next) (ss_seq (ss_set 3 (sn_val (se_f (sf_lc (si_rng1 (sa_cons (se_call (sa_cons (se_var 0) (sa_cons se_int sa_nil))) sa_nil)) (st_name 4) (by decide) sb_yes (se_call (sa_cons (se_var 0) (sa_cons (se_op s2_I0 (se_var 1) se_int) sa_nil))))))) (ss_ret (se_if (sb_test (se_op s2_eq (se_call (sa_cons (se_var 0) (sa_cons se_int sa_nil))) se_int)) (se_var 3) (se_cb sc_tupOf (sa_cons (se_var 3) sa_nil)))))))))⟩) (fun xs Q Ex _ h => h)
def t_law_bent_1 (rec : List Dv → M Dv) : MS := (mRet (mCall F_law_pick (mCons (mVar 0) (mCons (mVar 4) mNil))))
def t_law_bent_2 (rec : List Dv → M Dv) : MS := (mSeq (mIfS (mB (mCB fIsI (mCons (mVar 1) (mCons (mTy "str") mNil)))) (mSet 4 (mVal (mBin fAddB (mVar 4) (mF (mLst (mCons (mC (.str "at")) (mCons (mC (.str "beside")) (mCons (mC (.str "between")) (mCons (mC (.str "At")) (mCons (mBin fAddB (mVar 1) (mC (.str "s"))) mNil)))))))))) (mIfS (mB (mCB fIsI (mCons (mVar 1) (mCons (mTy "int") mNil)))) (mSet 4 (mVal (mBin fAddB (mVar 4) (mF (mLst (mCons (mBin fAddB (mVar 1) (mC (.int 1))) (mCons (mBin (fIB (· - ·)) (mVar 1) (mC (.int 1))) (mCons (mNotT (mVar 1)) (mCons (mCB fStrA (mCons (mVar 1) mNil)) (mCons (mUn fNegB (mVar 1)) (mCons (mBin fAddB (mBin fPow (mC (.int 10)) (mC (.int 30))) (mVar 1)) mNil))))))))))) mNext)) (t_law_bent_1 rec))
def t_law_bent_3 (rec : List Dv → M Dv) : MS := (mRet (mBin fAddB (mBin fAddB (mSl fSl (mVar 1) mNoPart (mPart (mVar 2))) (mTup 1 (mCons (mCall rec (mCons (mVar 0) (mCons (mBin fIx (mVar 1) (mVar 2)) mNil))) mNil))) (mSl fSl (mVar 1) (mPart (mBin fAddB (mVar 2) (mC (.int 1)))) mNoPart)))
def t_law_bent_4 (rec : List Dv → M Dv) : MS := (mSeq (mIfS (mB (mBin fEq (mVar 3) (mC (.int 3)))) (mRet (mF (mCF fLstOf (mCons (mVar 1) mNil)))) mNext) (t_law_bent_3 rec))
def t_law_bent_5 (rec : List Dv → M Dv) : MS := (mSeq (mIfS (mB (mBin fEq (mVar 3) (mC (.int 2)))) (mRet (mRevT (mVar 1))) mNext) (t_law_bent_4 rec))
def t_law_bent_6 (rec : List Dv → M Dv) : MS := (mSeq (mIfS (mB (mBin fEq (mVar 3) (mC (.int 1)))) (mRet (mBin fAddB (mSl fSl (mVar 1) mNoPart (mPart (mBin fAddB (mVar 2) (mC (.int 1))))) (mSl fSl (mVar 1) (mPart (mVar 2)) mNoPart))) mNext) (t_law_bent_5 rec))
def t_law_bent_7 (rec : List Dv → M Dv) : MS := (mSeq (mIfS (mB (mBin fEq (mVar 3) (mC (.int 0)))) (mRet (mBin fAddB (mSl fSl (mVar 1) mNoPart (mPart (mVar 2))) (mSl fSl (mVar 1) (mPart (mBin fAddB (mVar 2) (mC (.int 1)))) mNoPart))) mNext) (t_law_bent_6 rec))
def t_law_bent_8 (rec : List Dv → M Dv) : MS := (mSeq (mPar 2 3 (mVal (mCall F_law_wind (mCons (mVar 0) (mCons (mCB fLen (mCons (mVar 1) mNil)) mNil)))) (mVal (mCall F_law_wind (mCons (mVar 0) (mCons (mC (.int 9)) mNil))))) (t_law_bent_7 rec))
theorem sc_law_bent : FnScope ["coil", "value", "at", "way", "near"] ["coil", "value"] (defScope s_law_bent) := ⟨rfl, rfl, rfl, by decide +kernel, rfl, by decide +kernel, by decide +kernel⟩
def b_law_bent (rec : List Dv → M Dv) : MS := (mSeq (mIfS (mOr (mNot (mB (mCB fIsI (mCons (mVar 1) (mCons (mTy "tuple") mNil))))) (mOr (mB (mBin fEq (mVar 1) (mTup 0 mNil))) (mB (mBin fEq (mCall F_law_wind (mCons (mVar 0) (mCons (mC (.int 7)) mNil))) (mC (.int 0)))))) (mSeq (mSet 4 (mVal (mF (mLst (mCons (mCall (F_law_any_value 5) (mCons (mVar 0) (mCons (mC (.int 1)) mNil))) (mCons (mCall (F_law_any_value 5) (mCons (mVar 0) (mCons (mC (.int 1)) mNil))) mNil)))))) (t_law_bent_2 rec)) mNext) (t_law_bent_8 rec))
def F_law_bent : Nat → List Dv → M Dv
  | 0 => fun _ _ _ => False
  | n + 1 => fun xs Q Ex => b_law_bent (F_law_bent n) (endM Q Ex) (startE 5 xs)
theorem d_law_bent (T : Txt K mg KE base) : ∀ n : Nat, Df P w K mg base "_law_bent" (9 + n) ["coil", "value"] (F_law_bent n)
  | 0 => df_no T.f_law_bent sc_law_bent (fun _ _ _ _ _ _ us hl => match us, hl with | [_, _], _ => rfl)
  | n + 1 => by
    have IH := d_law_bent T n
    exact df_of T.f_law_bent sc_law_bent (fun _ _ _ _ _ _ us hl => match us, hl with | [_, _], _ => rfl) (fun f cdv A outer s H E hr => ⟨_, (pss_cons (ps_if (PW.pt (pw_or (pt_not (pt_val (pe_callB call_isi (by rfl) T.b_isinstance boot_isinstance_ (pa_cons (pv 1) (pa_cons (pe_bltn (v := .ty "tuple") (by rfl) T.b_tuple boot_tuple_ rfl) pa_nil))))) (pw_or (pt_cmpR (op_eqD (Room.units hr)) (pv 1) (pe_tup pa_nil) (nomark _)) (pw_or1 (pt_cmpR (op_eqD (Room.units hr)) (pe_callD (d_law_wind T) (hr.mono (by first | exact Nat.le_refl _ | exact Nat.le_trans (by decide) (Nat.le_add_right _ _))) (by rfl) (passX (L2N.takes_of rfl rfl rfl rfl)) (pa_cons (pv 0) (pa_cons pe_int pa_nil))) pe_int (nomark _)))))) (pss_cons (ps_set (i := 4) sc_law_bent.nd rfl (by first | exact Or.inl rfl | exact Or.inr rfl) (pe_lst (pa_cons (pe_callD (d_law_any_value T 5) (hr.mono (by first | exact Nat.le_refl _ | exact Nat.le_trans (by decide) (Nat.le_add_right _ _))) (by rfl) (passX (L2N.takes_of rfl rfl rfl rfl)) (pa_cons (pv 0) (pa_cons pe_int pa_nil))) (pa_cons (pe_callD (d_law_any_value T 5) (hr.mono (by first | exact Nat.le_refl _ | exact Nat.le_trans (by decide) (Nat.le_add_right _ _))) (by rfl) (passX (L2N.takes_of rfl rfl rfl rfl)) (pa_cons (pv 0) (pa_cons pe_int pa_nil))) pa_nil)))) (pss_cons (ps_if (pt_val (pe_callB call_isi (by rfl) T.b_isinstance boot_isinstance_ (pa_cons (pv 1) (pa_cons (pe_bltn (v := .ty "str") (by rfl) T.b_str boot_str_ rfl) pa_nil)))) (pss_one (ps_set (i := 4) sc_law_bent.nd rfl (by first | exact Or.inl rfl | exact Or.inr rfl) (pe_op op_addB (pv 4) (pe_lst (pa_cons pe_str (pa_cons pe_str (pa_cons pe_str (pa_cons pe_str (pa_cons (pe_op op_addB (pv 1) pe_str) pa_nil))))))))) (pss_one (ps_if (pt_val (pe_callB call_isi (by rfl) T.b_isinstance boot_isinstance_ (pa_cons (pv 1) (pa_cons (pe_bltn (v := .ty "int") (by rfl) T.b_int boot_int_ rfl) pa_nil)))) (pss_one (ps_set (i := 4) sc_law_bent.nd rfl (by first | exact Or.inl rfl | exact Or.inr rfl) (pe_op op_addB (pv 4) (pe_lst (pa_cons (pe_op op_addB (pv 1) pe_int) (pa_cons (pe_op op_subIB (pv 1) pe_int) (pa_cons (pe_notT (pv 1)) (pa_cons (pe_callTy call_strA (by rfl) T.b_str boot_str_ (pa_cons (pv 1) pa_nil)) (pa_cons (pe_un un_negB (pv 1)) (pa_cons (pe_op op_addB (pe_op op_pow pe_int pe_int) (pv 1)) pa_nil)))))))))) pss_nil))) (pss_one (ps_ret (pe_callD (d_law_pick T) (hr.mono (by first | exact Nat.le_refl _ | exact Nat.le_trans (by decide) (Nat.le_add_right _ _))) (by rfl) (passX (L2N.takes_of rfl rfl rfl rfl)) (pa_cons (pv 0) (pa_cons (pv 4) pa_nil))))))) pss_nil) (pss_cons (ps_par (i := 2) (j := 3) (by rfl) sc_law_bent.nd rfl rfl (by decide) rfl rfl (pa_cons (pe_callD (d_law_wind T) (hr.mono (by first | exact Nat.le_refl _ | exact Nat.le_trans (by decide) (Nat.le_add_right _ _))) (by rfl) (passX (L2N.takes_of rfl rfl rfl rfl)) (pa_cons (pv 0) (pa_cons (pe_callB call_len (by rfl) T.b_len boot_len_ (pa_cons (pv 1) pa_nil)) pa_nil))) (pa_cons (pe_callD (d_law_wind T) (hr.mono (by first | exact Nat.le_refl _ | exact Nat.le_trans (by decide) (Nat.le_add_right _ _))) (by rfl) (passX (L2N.takes_of rfl rfl rfl rfl)) (pa_cons (pv 0) (pa_cons pe_int pa_nil))) pa_nil)) (by rfl)) (pss_cons (ps_if (pt_cmpR (op_eqD (Room.units hr)) (pv 3) pe_int (nomark _)) (pss_one (ps_ret (pe_op op_addB (pe_slice sl_any (pv 1) po_none (po_some (pv 2))) (pe_slice sl_any (pv 1) (po_some (pe_op op_addB (pv 2) pe_int)) po_none)))) pss_nil) (pss_cons (ps_if (pt_cmpR (op_eqD (Room.units hr)) (pv 3) pe_int (nomark _)) (pss_one (ps_ret (pe_op op_addB (pe_slice sl_any (pv 1) po_none (po_some (pe_op op_addB (pv 2) pe_int))) (pe_slice sl_any (pv 1) (po_some (pv 2)) po_none)))) pss_nil) (pss_cons (ps_if (pt_cmpR (op_eqD (Room.units hr)) (pv 3) pe_int (nomark _)) (pss_one (ps_ret (pe_revT (pv 1)))) pss_nil) (pss_cons (ps_if (pt_cmpR (op_eqD (Room.units hr)) (pv 3) pe_int (nomark _)) (pss_one (ps_ret (pe_callTy call_list_of (by rfl) T.b_list boot_list_ (pa_cons (pv 1) pa_nil)))) pss_nil) (pss_one (ps_ret (pe_op op_addB (pe_op op_addB (pe_slice sl_any (pv 1) po_none (po_some (pv 2))) (pe_tup (pa_cons (pe_callD IH (hr.mono (by first | exact Nat.le_refl _ | exact Nat.le_trans (by decide) (Nat.le_add_right _ _))) (by rfl) (passX (L2N.takes_of rfl rfl rfl rfl)) (pa_cons (pv 0) (pa_cons (pe_ix ix_seq (pv 1) (pv 2) (fun _ _ => rfl)) pa_nil))) pa_nil))) (pe_slice sl_any (pv 1) (po_some (pe_op op_addB (pv 2) pe_int)) po_none)))))))))), (ss_seq (ss_if (sb_or (sb_not (sb_B (se_cb sc_isi (sa_cons (se_var 1) (sa_cons se_ty sa_nil))))) (sb_or (sb_test (se_op s2_eq (se_var 1) (se_tup sa_nil))) (sb_test (se_op s2_eq (se_call (sa_cons (se_var 0) (sa_cons se_int sa_nil))) se_int)))) (ss_seq (ss_set 4 (sn_val (se_f (sf_lst (sa_cons (se_call (sa_cons (se_var 0) (sa_cons se_int sa_nil))) (sa_cons (se_call (sa_cons (se_var 0) (sa_cons se_int sa_nil))) sa_nil)))))) (ss_seq (ss_if (sb_B (se_cb sc_isi (sa_cons (se_var 1) (sa_cons se_ty sa_nil)))) (ss_set 4 (sn_val (se_op s2_addB (se_var 4) (se_f (sf_lst (sa_cons se_str (sa_cons se_str (sa_cons se_str (sa_cons se_str (sa_cons (se_op s2_addB (se_var 1) se_str) sa_nil)))))))))) (ss_if (sb_B (se_cb sc_isi (sa_cons (se_var 1) (sa_cons se_ty sa_nil)))) (ss_set 4 (sn_val (se_op s2_addB (se_var 4) (se_f (sf_lst (sa_cons (se_op s2_addB (se_var 1) se_int) (sa_cons (se_op s2_IB (se_var 1) se_int) (sa_cons (se_notT (se_var 1)) (sa_cons (se_cb sc_strA (sa_cons (se_var 1) sa_nil)) (sa_cons (se_un s1_negB (se_var 1)) (sa_cons (se_op s2_addB (se_op (s2_I fun _ _ h => h) se_int se_int) (se_var 1)) sa_nil))))))))))) ss_next)) (ss_ret (se_call (sa_cons (se_var 0) (sa_cons (se_var 4) sa_nil)))))) ss_next) (ss_seq (ss_par (by decide) (sn_val (se_call (sa_cons (se_var 0) (sa_cons (se_cb sc_len (sa_cons (se_var 1) sa_nil)) sa_nil)))) (sn_val (se_call (sa_cons (se_var 0) (sa_cons se_int sa_nil))))) (ss_seq (ss_if (sb_test (se_op s2_eq (se_var 3) se_int)) (ss_ret (se_op s2_addB (se_sl s3_sl (se_var 1) so_none (so_some (se_var 2))) (se_sl s3_sl (se_var 1) (so_some (se_op s2_addB (se_var 2) se_int)) so_none))) ss_next) (ss_seq (ss_if (sb_test (se_op s2_eq (se_var 3) se_int)) (ss_ret (se_op s2_addB (se_sl s3_sl (se_var 1) so_none (so_some (se_op s2_addB (se_var 2) se_int))) (se_sl s3_sl (se_var 1) (so_some (se_var 2)) so_none))) ss_next) (ss_seq (ss_if (sb_test (se_op s2_eq (se_var 3) se_int)) (ss_ret (se_revT (se_var 1))) ss_next) (ss_seq (ss_if (sb_test (se_op s2_eq (se_var 3) se_int)) (ss_ret (se_f (sf_cb sc_lstOf (sa_cons (se_var 1) sa_nil)))) ss_next) (ss_ret (se_op s2_addB (se_op s2_addB (se_sl s3_sl (se_var 1) so_none (so_some (se_var 2))) (se_tup (sa_cons (se_call (sa_cons (se_var 0) (sa_cons (se_op s2_ix (se_var 1) (se_var 2)) sa_nil))) sa_nil))) (se_sl s3_sl (se_var 1) (so_some (se_op s2_addB (se_var 2) se_int)) so_none)))))))))⟩) (fun xs Q Ex _ h => h)
theorem sc_law_whole : FnScope ["value", "low", "high"] ["value", "low", "high"] (defScope s_law_whole) := ⟨rfl, rfl, rfl, by decide +kernel, rfl, by decide +kernel, by decide +kernel⟩
def b_law_whole : MS := (mRet (mAndV (mCB fIsI (mCons (mVar 0) (mCons (mTy "int") mNil))) (mAndV (mNotV (mCB fIsI (mCons (mVar 0) (mCons (mTy "bool") mNil)))) (mChain fLe fLe (mVar 1) (mVar 0) (mVar 2)))))
def F_law_whole : List Dv → M Dv := fun xs Q Ex => b_law_whole (endM Q Ex) (startE 3 xs)
theorem d_law_whole (T : Txt K mg KE base) : Df P w K mg base "_law_whole" 1 ["value", "low", "high"] (F_law_whole) :=
  df_of T.f_law_whole sc_law_whole (fun _ _ _ _ _ _ us hl => match us, hl with | [_, _, _], _ => rfl) (fun f cdv A outer s H E hr => ⟨_, (pss_one (ps_ret (pe_and (pe_callB call_isi (by rfl) T.b_isinstance boot_isinstance_ (pa_cons (pv 0) (pa_cons (pe_bltn (v := .ty "int") (by rfl) T.b_int boot_int_ rfl) pa_nil))) (pe_and (pe_not (pe_callB call_isi (by rfl) T.b_isinstance boot_isinstance_ (pa_cons (pv 0) (pa_cons (pe_bltn (v := .ty "bool") (by rfl) T.b_bool boot_bool_ rfl) pa_nil)))) (pe_one (pe_chain op_le op_le (pv 1) (pv 0) (pv 2))))))), (ss_ret (se_andV (se_cb sc_isi (sa_cons (se_var 0) (sa_cons se_ty sa_nil))) (se_andV (se_notV (se_cb sc_isi (sa_cons (se_var 0) (sa_cons se_ty sa_nil)))) (se_chain s2_B0 s2_B0 (se_var 1) (se_var 0) (se_var 2)))))⟩) (fun xs Q Ex _ h => h)
def t_law_row_1 : MS := (mRet (mBin fEq (mF (mLc (mRng2 (mCons (mC (.int 1)) (mCons (mCB fLen (mCons (mVar 0) mNil)) mNil))) (fName 4) (mB (mBin fLt (mBin fSub (mBin fIx (mVar 0) (mVar 4)) (mBin fIx (mVar 0) (mBin fSub (mVar 4) (mC (.int 1))))) (mVar 3))) (mVar 4) [4])) (mF (mLst mNil))))
theorem sc_law_row : FnScope ["value", "low", "high", "least", "at", "one"] ["value", "low", "high", "least"] (defScope s_law_row) := ⟨rfl, rfl, rfl, by decide +kernel, rfl, by decide +kernel, by decide +kernel⟩
def b_law_row : MS := (mSeq (mIfS (mOr (mNot (mB (mCB fIsI (mCons (mVar 0) (mCons (mTy "tuple") mNil))))) (mB (mBin fNe (mF (mLc (mItemsA (mVar 0)) (fName 5) (mNot (mB (mCall F_law_whole (mCons (mVar 5) (mCons (mVar 1) (mCons (mVar 2) mNil)))))) (mVar 5) [5])) (mF (mLst mNil))))) (mRet (mC (.bool false))) mNext) (t_law_row_1))
def F_law_row : List Dv → M Dv := fun xs Q Ex => b_law_row (endM Q Ex) (startE 6 xs)
theorem d_law_row (T : Txt K mg KE base) : Df P w K mg base "_law_row" 2 ["value", "low", "high", "least"] (F_law_row) :=
  df_of T.f_law_row sc_law_row (fun _ _ _ _ _ _ us hl => match us, hl with | [_, _, _, _], _ => rfl) (fun f cdv A outer s H E hr => ⟨_, (pss_cons (ps_if (PW.pt (pw_or (pt_not (pt_val (pe_callB call_isi (by rfl) T.b_isinstance boot_isinstance_ (pa_cons (pv 0) (pa_cons (pe_bltn (v := .ty "tuple") (by rfl) T.b_tuple boot_tuple_ rfl) pa_nil))))) (pw_or1 (pt_cmpR (op_neD (Room.units hr)) (pe_lc (own := [("one", 5)]) rfl sc_law_row.nd (pi_any (pv 0)) (blkOk_by (own := [("one", 5)]) (N := ["value", "low", "high", "least", "at", "one"]) (sc := defScope s_law_row) (by decide +kernel)) (fun _ _ _ _ _ => (pg_name (i := 5) sc_law_row.nd rfl (by first | exact Or.inl rfl | exact Or.inr rfl))) (fun _ _ _ _ _ => (pts_one (pt_not (pt_val (pe_callD (d_law_whole T) (hr.mono (by decide)) (by rfl) passN (pa_cons (pv 5) (pa_cons (pv 1) (pa_cons (pv 2) pa_nil)))))))) (fun _ _ _ _ _ => (pv 5))) (pe_lst pa_nil) (nomark _))))) (pss_one (ps_ret pe_bl)) pss_nil) (pss_one (ps_ret (pe_cmpR (op_eqD (Room.units hr)) (pe_lc (own := [("at", 4)]) rfl sc_law_row.nd (pi_range2 (by rfl) T.b_range (pa_cons pe_int (pa_cons (pe_callB call_len (by rfl) T.b_len boot_len_ (pa_cons (pv 0) pa_nil)) pa_nil))) (blkOk_by (own := [("at", 4)]) (N := ["value", "low", "high", "least", "at", "one"]) (sc := defScope s_law_row) (by decide +kernel)) (fun _ _ _ _ _ => (pg_name (i := 4) sc_law_row.nd rfl (by first | exact Or.inl rfl | exact Or.inr rfl))) (fun _ _ _ _ _ => (pts_one (pt_cmpR op_lt (pe_op op_sub (pe_ix ix_seq (pv 0) (pv 4) (fun _ _ => rfl)) (pe_ix ix_seq (pv 0) (pe_op op_sub (pv 4) pe_int) (fun _ _ => rfl))) (pv 3) (nomark _)))) (fun _ _ _ _ _ => (pv 4))) (pe_lst pa_nil) (nomark _))))), (ss_seq (ss_if (sb_or (sb_not (sb_B (se_cb sc_isi (sa_cons (se_var 0) (sa_cons se_ty sa_nil))))) (sb_test (se_op s2_ne (se_f (sf_lc (si_any (se_var 0)) (st_name 5) (by decide) (sb_not (sb_B (se_call (sa_cons (se_var 5) (sa_cons (se_var 1) (sa_cons (se_var 2) sa_nil)))))) (se_var 5))) (se_f (sf_lst sa_nil))))) (ss_ret se_bl) ss_next) (ss_ret (se_op s2_eq (se_f (sf_lc (si_rng2 (sa_cons se_int (sa_cons (se_cb sc_len (sa_cons (se_var 0) sa_nil)) sa_nil))) (st_name 4) (by decide) (sb_test (se_op s2_B0 (se_op s2_I0 (se_op s2_ix (se_var 0) (se_var 4)) (se_op s2_ix (se_var 0) (se_op s2_I0 (se_var 4) se_int))) (se_var 3))) (se_var 4))) (se_f (sf_lst sa_nil)))))⟩) (fun xs Q Ex _ h => h)
theorem sc_law_good_rope : FnScope ["value"] ["value"] (defScope s_law_good_rope) := ⟨rfl, rfl, rfl, by decide +kernel, rfl, by decide +kernel, by decide +kernel⟩
def b_law_good_rope : MS := (mRet (mAndV (mCall F_law_row (mCons (mVar 0) (mCons (mC (.int 0)) (mCons (mBin fPow (mC (.int 10)) (mC (.int 30))) (mCons (mC (.int 1)) mNil))))) (mAndV (mChain fLe fLe (mC (.int 2)) (mCB fLen (mCons (mVar 0) mNil)) (mC (.int 9))) (mBin fEq (mBin fIx (mVar 0) (mC (.int 0))) (mC (.int 0))))))
def F_law_good_rope : List Dv → M Dv := fun xs Q Ex => b_law_good_rope (endM Q Ex) (startE 1 xs)
theorem d_law_good_rope (T : Txt K mg KE base) : Df P w K mg base "_law_good_rope" 3 ["value"] (F_law_good_rope) :=
  df_of T.f_law_good_rope sc_law_good_rope (fun _ _ _ _ _ _ us hl => match us, hl with | [_], _ => rfl) (fun f cdv A outer s H E hr => ⟨_, (pss_one (ps_ret (pe_and (pe_callD (d_law_row T) (hr.mono (by decide)) (by rfl) (passX (L2N.takes_of rfl rfl rfl rfl)) (pa_cons (pv 0) (pa_cons pe_int (pa_cons (pe_op op_pow pe_int pe_int) (pa_cons pe_int pa_nil))))) (pe_and (pe_chain op_le op_le pe_int (pe_callB call_len (by rfl) T.b_len boot_len_ (pa_cons (pv 0) pa_nil)) pe_int) (pe_one (pe_cmpR (op_eqD (Room.units hr)) (pe_ix ix_seq (pv 0) pe_int (fun _ _ => rfl)) pe_int (nomark _))))))), (ss_ret (se_andV (se_call (sa_cons (se_var 0) (sa_cons se_int (sa_cons (se_op (s2_I fun _ _ h => h) se_int se_int) (sa_cons se_int sa_nil))))) (se_andV (se_chain s2_B0 s2_B0 se_int (se_cb sc_len (sa_cons (se_var 0) sa_nil)) se_int) (se_op s2_eq (se_op s2_ix (se_var 0) se_int) se_int))))⟩) (fun xs Q Ex _ h => h)
def t_law_refused_1 : MS := (mIfS (mB (mBin fNe (mBin fAdd (mVar 3) (mF (mLst (mCons (mWord (mCall F_matches (mCons (mVar 1) (mCons (mVar 2) mNil)))) mNil)))) (mBin fMulA (mF (mLst (mCons (mC (.str "rope value")) mNil))) (mC (.int 3))))) (mRet (mC (.bool false))) mNext)
def t_law_refused_2 : MS := (mSeq (mApp 3 (mWord (mCall F_matches (mCons (mVar 2) (mCons (mC .none) mNil))))) (t_law_refused_1))
def t_law_refused_3 : MS := (mFreeze 3 (mRet (mBin fEq (mVar 3) (mBin fMulA (mF (mLst (mCons (mC (.str "unlike value")) mNil))) (mC (.int 2))))))
def t_law_refused_4 : MS := (mSeq (mApp 3 (mWord (mCall F_matches (mCons (mTup 2 (mCons (mC (.int 0)) (mCons (mC (.int 1)) mNil))) (mCons (mTup 3 (mCons (mC (.int 0)) (mCons (mC (.int 1)) (mCons (mC (.int 3)) mNil)))) mNil))))) (t_law_refused_3))
def t_law_refused_5 : MS := (mSeq (mSet 3 (mOwn (mLst (mCons (mWord (mCall F_crowding (mCons (mTup 3 (mCons (mC (.int 0)) (mCons (mC (.int 1)) (mCons (mC (.int 2)) mNil)))) mNil))) mNil)))) (t_law_refused_4))
def t_law_refused_6 : MS := (mSeq (mIfS (mNot (mB (mCall F_law_good_rope (mCons (mVar 2) mNil)))) (mSeq (mSet 3 (mOwn (mLst (mCons (mWord (mCall F_crowding (mCons (mVar 2) mNil))) mNil)))) (t_law_refused_2)) mNext) (t_law_refused_5))
theorem sc_law_refused : FnScope ["coil", "rope", "odd", "words"] ["coil", "rope"] (defScope s_law_refused) := ⟨rfl, rfl, rfl, by decide +kernel, rfl, by decide +kernel, by decide +kernel⟩
def b_law_refused : MS := (mSeq (mSet 2 (mVal (mCall (F_law_bent 40) (mCons (mVar 0) (mCons (mVar 1) mNil))))) (t_law_refused_6))
def F_law_refused : List Dv → M Dv := fun xs Q Ex => b_law_refused (endM Q Ex) (startE 4 xs)
theorem d_law_refused (T : Txt K mg KE base) : Df P w K mg base "_law_refused" 52 ["coil", "rope"] (F_law_refused) :=
  df_ofC T.l_law_refused sc_law_refused (fun _ _ _ _ _ _ us hl => match us, hl with | [_, _], _ => rfl) (fun f c Pt TB hmT hu A outer s H E hr => ⟨_, (pss_cons (ps_set (i := 2) sc_law_refused.nd rfl (by first | exact Or.inl rfl | exact Or.inr rfl) (pe_callD (d_law_bent T 40) (hr.mono (by decide)) (by rfl) (passX (L2N.takes_of rfl rfl rfl rfl)) (pa_cons (pv 0) (pa_cons (pv 1) pa_nil)))) (pss_cons (ps_if (pt_not (pt_val (pe_callD (d_law_good_rope T) (hr.mono (by decide)) (by rfl) (passX (L2N.takes_of rfl rfl rfl rfl)) (pa_cons (pv 2) pa_nil)))) (pss_cons (ps_set (i := 3) sc_law_refused.nd rfl (by first | exact Or.inl rfl | exact Or.inr rfl) (pe_lst (pa_cons (pe_word (k := 49) (d_law_names T) (by decide) T.f_law_word sc_law_word (by rfl) (fun _ _ _ _ _ _ us hl => match us, hl with | [_], _ => rfl) rfl rfl rfl rfl T.ke (by rfl) TB rfl (by exact hmT) (by exact hu) (hr.mono (by decide)) (LamX.lamS_by (sc := defScope s_law_refused) (by decide +kernel)) (by rfl) (fun _ _ _ _ _ => rfl) (fun A outer s H E f c' hr => (pe_callD (d_crowding T) (hr.mono (by decide)) (by rfl) (passX takes_lam) (pa_cons (pv 2) pa_nil)))) pa_nil))) (pss_cons (ps_expr (pe_bm PySem.F.plainAttrs_list PySem.F.slot_list_append PySem.F.type_list_append mt_append (pv 3) (pa_cons (pe_word (k := 49) (d_law_names T) (by decide) T.f_law_word sc_law_word (by rfl) (fun _ _ _ _ _ _ us hl => match us, hl with | [_], _ => rfl) rfl rfl rfl rfl T.ke (by rfl) TB rfl (by exact hmT) (by exact hu) (hr.mono (by decide)) (LamX.lamS_by (sc := defScope s_law_refused) (by decide +kernel)) (by rfl) (fun _ _ _ _ _ => rfl) (fun A outer s H E f c' hr => (pe_callD (d_matches T) (hr.mono (by decide)) (by rfl) (passX takes_lam) (pa_cons (pv 2) (pa_cons pe_non pa_nil))))) pa_nil))) (pss_one (ps_if (pt_cmpR (op_neD (Room.units hr)) (pe_op op_addA (pv 3) (pe_lst (pa_cons (pe_word (k := 49) (d_law_names T) (by decide) T.f_law_word sc_law_word (by rfl) (fun _ _ _ _ _ _ us hl => match us, hl with | [_], _ => rfl) rfl rfl rfl rfl T.ke (by rfl) TB rfl (by exact hmT) (by exact hu) (hr.mono (by decide)) (LamX.lamS_by (sc := defScope s_law_refused) (by decide +kernel)) (by rfl) (fun _ _ _ _ _ => rfl) (fun A outer s H E f c' hr => (pe_callD (d_matches T) (hr.mono (by decide)) (by rfl) (passX takes_lam) (pa_cons (pv 1) (pa_cons (pv 2) pa_nil))))) pa_nil))) (pe_op op_mulA (pe_lst (pa_cons pe_str pa_nil)) pe_int) (nomark _)) (pss_one (ps_ret pe_bl)) pss_nil)))) pss_nil) (pss_cons (ps_set (i := 3) sc_law_refused.nd rfl (by first | exact Or.inl rfl | exact Or.inr rfl) (pe_lst (pa_cons (pe_word (k := 49) (d_law_names T) (by decide) T.f_law_word sc_law_word (by rfl) (fun _ _ _ _ _ _ us hl => match us, hl with | [_], _ => rfl) rfl rfl rfl rfl T.ke (by rfl) TB rfl (by exact hmT) (by exact hu) (hr.mono (by decide)) (LamX.lamS_by (sc := defScope s_law_refused) (by decide +kernel)) (by rfl) (fun _ _ _ _ _ => rfl) (fun A outer s H E f c' hr => (pe_callD (d_crowding T) (hr.mono (by decide)) (by rfl) (passX takes_lam) (pa_cons (pe_tup (pa_cons pe_int (pa_cons pe_int (pa_cons pe_int pa_nil)))) pa_nil)))) pa_nil))) (pss_cons (ps_expr (pe_bm PySem.F.plainAttrs_list PySem.F.slot_list_append PySem.F.type_list_append mt_append (pv 3) (pa_cons (pe_word (k := 49) (d_law_names T) (by decide) T.f_law_word sc_law_word (by rfl) (fun _ _ _ _ _ _ us hl => match us, hl with | [_], _ => rfl) rfl rfl rfl rfl T.ke (by rfl) TB rfl (by exact hmT) (by exact hu) (hr.mono (by decide)) (LamX.lamS_by (sc := defScope s_law_refused) (by decide +kernel)) (by rfl) (fun _ _ _ _ _ => rfl) (fun A outer s H E f c' hr => (pe_callD (d_matches T) (hr.mono (by decide)) (by rfl) (passX takes_lam) (pa_cons (pe_tup (pa_cons pe_int (pa_cons pe_int pa_nil))) (pa_cons (pe_tup (pa_cons pe_int (pa_cons pe_int (pa_cons pe_int pa_nil)))) pa_nil))))) pa_nil))) (pss_one (ps_ret (pe_cmpR (op_eqD (Room.units hr)) (pv 3) (pe_op op_mulA (pe_lst (pa_cons pe_str pa_nil)) pe_int) (nomark _)))))))), (ss_seq (ss_set 2 (sn_val (se_call (sa_cons (se_var 0) (sa_cons (se_var 1) sa_nil))))) (ss_seq (ss_if (sb_not (sb_B (se_call (sa_cons (se_var 2) sa_nil)))) (ss_seq (ss_set 3 (sn_own (sf_lst (sa_cons (se_word T.words (fun _ => (se_call (sa_cons (se_var 2) sa_nil)))) sa_nil)))) (ss_seq (ss_app 3 (se_word T.words (fun _ => (se_call (sa_cons (se_var 2) (sa_cons se_non sa_nil)))))) (ss_if (sb_test (se_op s2_ne (se_op s2_add (se_var 3) (se_f (sf_lst (sa_cons (se_word T.words (fun _ => (se_call (sa_cons (se_var 1) (sa_cons (se_var 2) sa_nil))))) sa_nil)))) (se_op s2_mulA (se_f (sf_lst (sa_cons se_str sa_nil))) se_int))) (ss_ret se_bl) ss_next))) ss_next) (ss_seq (ss_set 3 (sn_own (sf_lst (sa_cons (se_word T.words (fun _ => (se_call (sa_cons (se_tup (sa_cons se_int (sa_cons se_int (sa_cons se_int sa_nil)))) sa_nil)))) sa_nil)))) (ss_seq (ss_app 3 (se_word T.words (fun _ => (se_call (sa_cons (se_tup (sa_cons se_int (sa_cons se_int sa_nil))) (sa_cons (se_tup (sa_cons se_int (sa_cons se_int (sa_cons se_int sa_nil)))) sa_nil)))))) (ss_freeze 3 (ss_ret (se_op s2_eq (se_var 3) (se_op s2_mulA (se_f (sf_lst (sa_cons se_str sa_nil))) se_int))))))))⟩) (fun xs Q Ex _ h => h)
def t_law_near_1 : MS := (mSet 3 (mVal (mBin fAdd (mVar 3) (mF (mLst (mCons (mBin fDiv (mBin fAdd (mVar 5) (mVar 6)) (mC (.int 2))) (mCons (mBin fAdd (mVar 5) (mCB fAbs (mCons (mBin fSub (mVar 7) (mVar 8)) mNil))) (mCons (mCB fAbs (mCons (mBin fSub (mVar 6) (mCB fAbs (mCons (mBin fSub (mVar 7) (mVar 8)) mNil))) mNil)) mNil))))))))
def t_law_near_2 : MS := (mSeq (mPar 7 8 (mVal (mCall F_law_pick (mCons (mVar 0) (mCons (mBin fAdd (mVar 1) (mVar 2)) mNil)))) (mVal (mCall F_law_pick (mCons (mVar 0) (mCons (mBin fAdd (mVar 1) (mVar 2)) mNil))))) (t_law_near_1))
def t_law_near_3 : MS := (mSeq (mPar 5 6 (mVal (mCall F_law_pick (mCons (mVar 0) (mCons (mVar 1) mNil)))) (mVal (mCall F_law_pick (mCons (mVar 0) (mCons (mVar 2) mNil))))) (t_law_near_2))
def t_law_near_4 : MS := (mRet (mBin fAdd (mVar 3) (mF (mLc (mItemsA (mVar 3)) (fName 9) mYes (mBin fAdd (mVar 9) (mC (.int 1))) [9]))))
def t_law_near_5 : MS := (mSeq (mFor (mRng1 (mCons (mC (.int 30)) mNil)) (fName 4) (t_law_near_3)) (t_law_near_4))
theorem sc_law_near : FnScope ["coil", "one", "other", "found", "turn", "first", "second", "third", "fourth", "place"] ["coil", "one", "other"] (defScope s_law_near) := ⟨rfl, rfl, rfl, by decide +kernel, rfl, by decide +kernel, by decide +kernel⟩
def b_law_near : MS := (mSeq (mSet 3 (mVal (mF (mLst (mCons (mC (.int 0)) (mCons (mC (.int 1)) (mCons (mBin fPow (mC (.int 10)) (mC (.int 30))) (mCons (mBin fPow (mC (.int 10)) (mC (.int 35))) (mCons (mBin fAdd (mBin fAdd (mBin fIx (mVar 1) (mUn fNeg (mC (.int 1)))) (mBin fIx (mVar 2) (mUn fNeg (mC (.int 1))))) (mC (.int 1))) mNil))))))))) (t_law_near_5))
def F_law_near : List Dv → M Dv := fun xs Q Ex => b_law_near (endM Q Ex) (startE 10 xs)
theorem d_law_near (T : Txt K mg KE base) : Df P w K mg base "_law_near" 3 ["coil", "one", "other"] (F_law_near) :=
  df_of T.f_law_near sc_law_near (fun _ _ _ _ _ _ us hl => match us, hl with | [_, _, _], _ => rfl) (fun f cdv A outer s H E hr => ⟨_, (pss_cons (ps_set (i := 3) sc_law_near.nd rfl (by first | exact Or.inl rfl | exact Or.inr rfl) (pe_lst (pa_cons pe_int (pa_cons pe_int (pa_cons (pe_op op_pow pe_int pe_int) (pa_cons (pe_op op_pow pe_int pe_int) (pa_cons (pe_op op_addA (pe_op op_addA (pe_ix ix_seq (pv 1) (pe_un un_neg pe_int) (fun _ _ => rfl)) (pe_ix ix_seq (pv 2) (pe_un un_neg pe_int) (fun _ _ => rfl))) pe_int) pa_nil))))))) (pss_cons (ps_for (passes_of rfl) rfl (pi_range1 (by rfl) T.b_range (pa_cons pe_int pa_nil)) (pg_name (i := 4) sc_law_near.nd rfl (by first | exact Or.inl rfl | exact Or.inr rfl)) (pss_cons (ps_par (i := 5) (j := 6) (by rfl) sc_law_near.nd rfl rfl (by decide) rfl rfl (pa_cons (pe_callD (d_law_pick T) (hr.mono (by decide)) (by rfl) (passX (L2N.takes_of rfl rfl rfl rfl)) (pa_cons (pv 0) (pa_cons (pv 1) pa_nil))) (pa_cons (pe_callD (d_law_pick T) (hr.mono (by decide)) (by rfl) (passX (L2N.takes_of rfl rfl rfl rfl)) (pa_cons (pv 0) (pa_cons (pv 2) pa_nil))) pa_nil)) (by rfl)) (pss_cons (ps_par (i := 7) (j := 8) (by rfl) sc_law_near.nd rfl rfl (by decide) rfl rfl (pa_cons (pe_callD (d_law_pick T) (hr.mono (by decide)) (by rfl) (passX (L2N.takes_of rfl rfl rfl rfl)) (pa_cons (pv 0) (pa_cons (pe_op op_addA (pv 1) (pv 2)) pa_nil))) (pa_cons (pe_callD (d_law_pick T) (hr.mono (by decide)) (by rfl) (passX (L2N.takes_of rfl rfl rfl rfl)) (pa_cons (pv 0) (pa_cons (pe_op op_addA (pv 1) (pv 2)) pa_nil))) pa_nil)) (by rfl)) (pss_one (ps_set (i := 3) sc_law_near.nd rfl (by first | exact Or.inl rfl | exact Or.inr rfl) (pe_op op_addA (pv 3) (pe_lst (pa_cons (pe_op op_fdivW (pe_op op_addA (pv 5) (pv 6)) pe_int) (pa_cons (pe_op op_addA (pv 5) (pe_callB call_abs (by rfl) T.b_abs boot_abs_ (pa_cons (pe_op op_sub (pv 7) (pv 8)) pa_nil))) (pa_cons (pe_callB call_abs (by rfl) T.b_abs boot_abs_ (pa_cons (pe_op op_sub (pv 6) (pe_callB call_abs (by rfl) T.b_abs boot_abs_ (pa_cons (pe_op op_sub (pv 7) (pv 8)) pa_nil))) pa_nil)) pa_nil)))))))))) (pss_one (ps_ret (pe_op op_addA (pv 3) (pe_lc (own := [("place", 9)]) rfl sc_law_near.nd (pi_any (pv 3)) (blkOk_by (own := [("place", 9)]) (N := ["coil", "one", "other", "found", "turn", "first", "second", "third", "fourth", "place"]) (sc := defScope s_law_near) (by decide +kernel)) (fun _ _ _ _ _ => (pg_name (i := 9) sc_law_near.nd rfl (by first | exact Or.inl rfl | exact Or.inr rfl))) (fun _ _ _ _ _ => pts_nil) (fun _ _ _ _ _ => (pe_op op_addA (pv 9) pe_int)))))))), (ss_seq (ss_set 3 (sn_val (se_f (sf_lst (sa_cons se_int (sa_cons se_int (sa_cons (se_op (s2_I fun _ _ h => h) se_int se_int) (sa_cons (se_op (s2_I fun _ _ h => h) se_int se_int) (sa_cons (se_op s2_add (se_op s2_add (se_op s2_ix (se_var 1) (se_un s1_neg se_int)) (se_op s2_ix (se_var 2) (se_un s1_neg se_int))) se_int) sa_nil))))))))) (ss_seq (ss_for (si_rng1 (sa_cons se_int sa_nil)) (st_name 4) (ss_seq (ss_par (by decide) (sn_val (se_call (sa_cons (se_var 0) (sa_cons (se_var 1) sa_nil)))) (sn_val (se_call (sa_cons (se_var 0) (sa_cons (se_var 2) sa_nil))))) (ss_seq (ss_par (by decide) (sn_val (se_call (sa_cons (se_var 0) (sa_cons (se_op s2_add (se_var 1) (se_var 2)) sa_nil)))) (sn_val (se_call (sa_cons (se_var 0) (sa_cons (se_op s2_add (se_var 1) (se_var 2)) sa_nil))))) (ss_set 3 (sn_val (se_op s2_add (se_var 3) (se_f (sf_lst (sa_cons (se_op (s2_I fun _ _ h => h) (se_op s2_add (se_var 5) (se_var 6)) se_int) (sa_cons (se_op s2_add (se_var 5) (se_cb sc_abs (sa_cons (se_op s2_I0 (se_var 7) (se_var 8)) sa_nil))) (sa_cons (se_cb sc_abs (sa_cons (se_op s2_I0 (se_var 6) (se_cb sc_abs (sa_cons (se_op s2_I0 (se_var 7) (se_var 8)) sa_nil))) sa_nil)) sa_nil))))))))))) (ss_ret (se_op s2_add (se_var 3) (se_f (sf_lc (si_any (se_var 3)) (st_name 9) (by decide) sb_yes (se_op s2_add (se_var 9) se_int)))))))⟩) (fun xs Q Ex _ h => h)
theorem sc_law_match : FnScope ["one", "other", "place"] ["one", "other", "place"] (defScope s_law_match) := ⟨rfl, rfl, rfl, by decide +kernel, rfl, by decide +kernel, by decide +kernel⟩
def b_law_match : MS := (mRet (mBin fEq (mCall F_law_spans (mCons (mBin fAdd (mVar 0) (mTup 1 (mCons (mVar 2) mNil))) mNil)) (mCall F_law_spans (mCons (mBin fAdd (mVar 1) (mTup 1 (mCons (mVar 2) mNil))) mNil))))
def F_law_match : List Dv → M Dv := fun xs Q Ex => b_law_match (endM Q Ex) (startE 3 xs)
theorem d_law_match (T : Txt K mg KE base) : Df P w K mg base "_law_match" 2 ["one", "other", "place"] (F_law_match) :=
  df_of T.f_law_match sc_law_match (fun _ _ _ _ _ _ us hl => match us, hl with | [_, _, _], _ => rfl) (fun f cdv A outer s H E hr => ⟨_, (pss_one (ps_ret (pe_cmpR (op_eqD (Room.units hr)) (pe_callD (d_law_spans T) (hr.mono (by decide)) (by rfl) (passX (L2N.takes_of rfl rfl rfl rfl)) (pa_cons (pe_op op_addA (pv 0) (pe_tup (pa_cons (pv 2) pa_nil))) pa_nil)) (pe_callD (d_law_spans T) (hr.mono (by decide)) (by rfl) (passX (L2N.takes_of rfl rfl rfl rfl)) (pa_cons (pe_op op_addA (pv 1) (pe_tup (pa_cons (pv 2) pa_nil))) pa_nil)) (nomark _)))), (ss_ret (se_op s2_eq (se_call (sa_cons (se_op s2_add (se_var 0) (se_tup (sa_cons (se_var 2) sa_nil))) sa_nil)) (se_call (sa_cons (se_op s2_add (se_var 1) (se_tup (sa_cons (se_var 2) sa_nil))) sa_nil))))⟩) (fun xs Q Ex _ h => h)
def t_law_matches_right_1 : MS := (mIfS (mB (mBin fNe (mBin (fIn false) (mVar 4) (mVar 3)) (mVar 5))) (mRet (mC (.bool false))) mNext)
def t_law_matches_right_2 : MS := (mSeq (mSet 5 (mVal (mAndV (mBin (fIn true) (mVar 4) (mVar 0)) (mAndV (mBin (fIn true) (mVar 4) (mVar 1)) (mCall F_law_match (mCons (mVar 0) (mCons (mVar 1) (mCons (mVar 4) mNil)))))))) (t_law_matches_right_1))
def t_law_matches_right_3 : MS := (mRet (mC (.bool true)))
def t_law_matches_right_4 : MS := (mSeq (mFor (mItemsA (mF (mSdI (mBin fAdd (mVar 3) (mVar 2))))) (fName 4) (t_law_matches_right_2)) (t_law_matches_right_3))
def t_law_matches_right_5 : MS := (mSeq (mIfS (mOr (mNot (mB (mCB fIsI (mCons (mVar 3) (mCons (mTy "list") mNil))))) (mOr (mB (mBin fNe (mVar 3) (mF (mSdI (mVar 3))))) (mAnd (mB (mBin fNe (mVar 3) (mF (mLst mNil)))) (mB (mBin fLt (mBin fIx (mVar 3) (mC (.int 0))) (mC (.int 0))))))) (mRet (mC (.bool false))) mNext) (t_law_matches_right_4))
def t_law_matches_right_6 : MS := (mSeq (mIfS (mB (mBin fEq (mVar 0) (mVar 1))) (mRet (mBin fIs (mVar 3) (mC .none))) mNext) (t_law_matches_right_5))
theorem sc_law_matches_right : FnScope ["one", "other", "all_places", "found", "place", "good"] ["one", "other", "all_places"] (defScope s_law_matches_right) := ⟨rfl, rfl, rfl, by decide +kernel, rfl, by decide +kernel, by decide +kernel⟩
def b_law_matches_right : MS := (mSeq (mSet 3 (mVal (mCall F_matches (mCons (mVar 0) (mCons (mVar 1) mNil))))) (t_law_matches_right_6))
def F_law_matches_right : List Dv → M Dv := fun xs Q Ex => b_law_matches_right (endM Q Ex) (startE 6 xs)
theorem d_law_matches_right (T : Txt K mg KE base) : Df P w K mg base "_law_matches_right" 6 ["one", "other", "all_places"] (F_law_matches_right) :=
  df_of T.f_law_matches_right sc_law_matches_right (fun _ _ _ _ _ _ us hl => match us, hl with | [_, _, _], _ => rfl) (fun f cdv A outer s H E hr => ⟨_, (pss_cons (ps_set (i := 3) sc_law_matches_right.nd rfl (by first | exact Or.inl rfl | exact Or.inr rfl) (pe_callD (d_matches T) (hr.mono (by decide)) (by rfl) (passX (L2N.takes_of rfl rfl rfl rfl)) (pa_cons (pv 0) (pa_cons (pv 1) pa_nil)))) (pss_cons (ps_if (pt_cmpR (op_eqD (Room.units hr)) (pv 0) (pv 1) (nomark _)) (pss_one (ps_ret (pe_cmpR op_isN (pv 3) pe_non (nomark _)))) pss_nil) (pss_cons (ps_if (PW.pt (pw_or (pt_not (pt_val (pe_callB call_isi (by rfl) T.b_isinstance boot_isinstance_ (pa_cons (pv 3) (pa_cons (pe_bltn (v := .ty "list") (by rfl) T.b_list boot_list_ rfl) pa_nil))))) (pw_or (pt_cmpR (op_neD (Room.units hr)) (pv 3) (pe_callB (cr_sortedSetN rfl) (by rfl) T.b_sorted boot_sorted_ (pa_cons (pe_callTy (cr_setOfI rfl) (by rfl) T.b_set PyProof.Rows.boot_set (pa_cons (pv 3) pa_nil)) pa_nil)) (nomark _)) (pw_or1 (PW.pt (pw_and (pt_cmpR (op_neD (Room.units hr)) (pv 3) (pe_lst pa_nil) (nomark _)) (pw_and1 (pt_cmpR op_lt (pe_ix ix_seq (pv 3) pe_int (fun _ _ => rfl)) pe_int (nomark _))))))))) (pss_one (ps_ret pe_bl)) pss_nil) (pss_cons (ps_for (passes_of rfl) rfl (pi_any (pe_callB (cr_sortedSetN rfl) (by rfl) T.b_sorted boot_sorted_ (pa_cons (pe_callTy (cr_setOfI rfl) (by rfl) T.b_set PyProof.Rows.boot_set (pa_cons (pe_op op_addA (pv 3) (pv 2)) pa_nil)) pa_nil))) (pg_name (i := 4) sc_law_matches_right.nd rfl (by first | exact Or.inl rfl | exact Or.inr rfl)) (pss_cons (ps_set (i := 5) sc_law_matches_right.nd rfl (by first | exact Or.inl rfl | exact Or.inr rfl) (pe_and (pe_cmpR op_notIn_seq (pv 4) (pv 0) (by rfl)) (pe_and (pe_cmpR op_notIn_seq (pv 4) (pv 1) (by rfl)) (pe_one (pe_callD (d_law_match T) (hr.mono (by decide)) (by rfl) (passX (L2N.takes_of rfl rfl rfl rfl)) (pa_cons (pv 0) (pa_cons (pv 1) (pa_cons (pv 4) pa_nil)))))))) (pss_one (ps_if (pt_cmpR (op_neD (Room.units hr)) (pe_cmpR op_in_seq (pv 4) (pv 3) (by rfl)) (pv 5) (nomark _)) (pss_one (ps_ret pe_bl)) pss_nil)))) (pss_one (ps_ret pe_bl)))))), (ss_seq (ss_set 3 (sn_val (se_call (sa_cons (se_var 0) (sa_cons (se_var 1) sa_nil))))) (ss_seq (ss_if (sb_test (se_op s2_eq (se_var 0) (se_var 1))) (ss_ret (se_op s2_is (se_var 3) se_non)) ss_next) (ss_seq (ss_if (sb_or (sb_not (sb_B (se_cb sc_isi (sa_cons (se_var 3) (sa_cons se_ty sa_nil))))) (sb_or (sb_test (se_op s2_ne (se_var 3) (se_f (sf_sdI (se_var 3))))) (sb_and (sb_test (se_op s2_ne (se_var 3) (se_f (sf_lst sa_nil)))) (sb_test (se_op s2_B0 (se_op s2_ix (se_var 3) se_int) se_int))))) (ss_ret se_bl) ss_next) (ss_seq (ss_for (si_any (se_f (sf_sdI (se_op s2_add (se_var 3) (se_var 2))))) (st_name 4) (ss_seq (ss_set 5 (sn_val (se_andV (se_op s2_in (se_var 4) (se_var 0)) (se_andV (se_op s2_in (se_var 4) (se_var 1)) (se_call (sa_cons (se_var 0) (sa_cons (se_var 1) (sa_cons (se_var 4) sa_nil)))))))) (ss_if (sb_test (se_op s2_ne (se_op s2_in (se_var 4) (se_var 3)) (se_var 5))) (ss_ret se_bl) ss_next))) (ss_ret se_bl)))))⟩) (fun xs Q Ex _ h => h)
end
end Lw
end

section
set_option Elab.async false
set_option linter.all false
set_option maxRecDepth 100000
set_option maxHeartbeats 4000000
namespace Lw
open PySem PySem.Spec PyProof.Rows L2 Ks
abbrev s_law : Stmt := topS 59
section
variable {P : Program} {w : World} {K : PySem.W.Frag} {mg : Mg} {base : Heap} {KE : Addr}
def t_law_1 : MS := (mIfS (mNot (mB (mCall F_law_matches_right (mCons (mVar 6) (mCons (mVar 8) (mCons (mBin fAdd (mVar 9) (mCall F_law_near (mCons (mVar 2) (mCons (mVar 6) (mCons (mVar 8) mNil))))) mNil)))))) (mRet (mC (.bool false))) mNext)
def t_law_2 : MS := (mSeq (mSet 9 (mVal (mIf (mB (mBin fLt (mCB fMax2 (mCons (mBin fIx (mVar 6) (mUn fNeg (mC (.int 1)))) (mCons (mBin fIx (mVar 8) (mUn fNeg (mC (.int 1)))) mNil))) (mC (.int 400)))) (mF (mLstRg2 (mC (.int 0)) (mBin fAdd (mBin fMulA (mC (.int 3)) (mCB fMax2 (mCons (mBin fIx (mVar 6) (mUn fNeg (mC (.int 1)))) (mCons (mBin fIx (mVar 8) (mUn fNeg (mC (.int 1)))) mNil)))) (mC (.int 4))))) (mF (mLst mNil))))) (t_law_1))
def t_law_3 : MS := (mIfS (mNot (mB (mCall F_law_refused (mCons (mVar 2) (mCons (mVar 6) mNil))))) (mRet (mC (.bool false))) mNext)
def t_law_4 : MS := (mSeq (mFor (mItemsA (mF (mLst (mCons (mCall F_law_turned (mCons (mVar 6) mNil)) (mCons (mVar 6) (mCons (mVar 7) mNil)))))) (fName 8) (t_law_2)) (t_law_3))
def t_law_5 : MS := (mSeq (mPar 6 7 (mVal (mCall F_law_any_rope (mCons (mVar 2) (mCons (mVar 5) (mCons (mVar 5) mNil))))) (mVal (mCall F_law_any_rope (mCons (mVar 2) (mCons (mVar 5) (mCons (mVar 5) mNil)))))) (t_law_4))
def t_law_6 : MS := (mSeq (mSet 5 (mVal (mBin fAdd (mC (.int 2)) (mCall F_law_wind (mCons (mVar 2) (mCons (mC (.int 4)) mNil)))))) (t_law_5))
def t_law_7 : MS := (mSeq (mIfS (mNot (mB (mCall F_law_crowding_right (mCons (mVar 4) (mCons (mCall F_law_near (mCons (mVar 2) (mCons (mVar 4) (mCons (mVar 4) mNil)))) mNil))))) (mRet (mC (.bool false))) mNext) (t_law_6))
def t_law_8 : MS := (mSeq (mSet 4 (mVal (mCall F_law_plain_rope (mCons (mVar 2) (mCons (mBin fAdd (mC (.int 2)) (mCall F_law_wind (mCons (mVar 2) (mCons (mC (.int 7)) mNil)))) (mCons (mBin fPow (mC (.int 10)) (mC (.int 28))) mNil)))))) (t_law_7))
def t_law_9 : MS := (mSeq (mIfS (mNot (mB (mCall F_law_crowding_right (mCons (mVar 3) (mCons (mF (mLstRg1 (mBin fAdd (mBin fMulA (mC (.int 3)) (mBin fIx (mVar 3) (mUn fNeg (mC (.int 1))))) (mC (.int 4))))) mNil))))) (mRet (mC (.bool false))) mNext) (t_law_8))
def t_law_10 : MS := (mSeq (mSet 3 (mVal (mCall F_law_plain_rope (mCons (mVar 2) (mCons (mBin fAdd (mC (.int 2)) (mCall F_law_wind (mCons (mVar 2) (mCons (mC (.int 4)) mNil)))) (mCons (mC (.int 12)) mNil)))))) (t_law_9))
def t_law_11 : MS := (mSeq (mSet 2 (mVal (mCall F_law_coil (mCons (mVar 0) (mCons (mVar 1) mNil))))) (t_law_10))
def t_law_12 : MS := (mRet (mCall F_law_written mNil))
theorem sc_law : FnScope ["script", "k", "coil", "one", "wide", "size", "two", "three", "other", "row"] ["script"] (defScope s_law) := ⟨rfl, rfl, rfl, by decide +kernel, rfl, by decide +kernel, by decide +kernel⟩
def b_law : MS := (mSeq (mFor (mRng1 (mCons (mCB fMax2 (mCons (mC (.int 5)) (mCons (mCB fMin2 (mCons (mC (.int 10)) (mCons (mCB fLen (mCons (mVar 0) mNil)) mNil))) mNil))) mNil)) (fName 1) (t_law_11)) (t_law_12))
def F_law : List Dv → M Dv := fun xs Q Ex => b_law (endM Q Ex) (startE 10 xs)
theorem d_law {f c : Addr} {oc kV doc pm ct : Value} {od an : Option Addr} {osl : Array (Option Value)} (T : Txt K mg KE base)
    (lk : K.lookup f = some ⟨oc, od, .func (PySem.W.fnOf "law" "law" (defArgs s_law) (defBody s_law) (defScope s_law) .none kV doc pm an (.ref c) ct), osl⟩) (hcd : PySem.W.codeIn K (.ref c) "law" = true) :
    FnOk P w K mg.f base (L2N.CX P w) 53 f (PySem.W.fnOf "law" "law" (defArgs s_law) (defBody s_law) (defScope s_law) .none kV doc pm an (.ref c) ct) ["script"] (spF K mg 1 (F_law)) :=
  ok_ofC lk hcd sc_law (fun A outer s H E hr => ⟨_, (pss_cons (ps_for (passes_of rfl) rfl (pi_range1 (by rfl) T.b_range (pa_cons (pe_callB (call_max2 rfl) (by rfl) T.b_max boot_max_ (pa_cons pe_int (pa_cons (pe_callB (call_min2 rfl) (by rfl) T.b_min boot_min_ (pa_cons pe_int (pa_cons (pe_callB call_len (by rfl) T.b_len boot_len_ (pa_cons (pv 0) pa_nil)) pa_nil))) pa_nil))) pa_nil)) (pg_name (i := 1) sc_law.nd rfl (by first | exact Or.inl rfl | exact Or.inr rfl)) (pss_cons (ps_set (i := 2) sc_law.nd rfl (by first | exact Or.inl rfl | exact Or.inr rfl) (pe_callD (d_law_coil T) (hr.mono (by decide)) (by rfl) (passX (L2N.takes_of rfl rfl rfl rfl)) (pa_cons (pv 0) (pa_cons (pv 1) pa_nil)))) (pss_cons (ps_set (i := 3) sc_law.nd rfl (by first | exact Or.inl rfl | exact Or.inr rfl) (pe_callD (d_law_plain_rope T) (hr.mono (by decide)) (by rfl) (passX (L2N.takes_of rfl rfl rfl rfl)) (pa_cons (pv 2) (pa_cons (pe_op op_addA pe_int (pe_callD (d_law_wind T) (hr.mono (by decide)) (by rfl) (passX (L2N.takes_of rfl rfl rfl rfl)) (pa_cons (pv 2) (pa_cons pe_int pa_nil)))) (pa_cons pe_int pa_nil))))) (pss_cons (ps_if (pt_not (pt_val (pe_callD (d_law_crowding_right T) (hr.mono (by decide)) (by rfl) (passX (L2N.takes_of rfl rfl rfl rfl)) (pa_cons (pv 3) (pa_cons (pe_listRg rfl (by rfl) T.b_list (prg_1 (by rfl) T.b_range (pe_op op_addA (pe_op op_mulA pe_int (pe_ix ix_seq (pv 3) (pe_un un_neg pe_int) (fun _ _ => rfl))) pe_int))) pa_nil))))) (pss_one (ps_ret pe_bl)) pss_nil) (pss_cons (ps_set (i := 4) sc_law.nd rfl (by first | exact Or.inl rfl | exact Or.inr rfl) (pe_callD (d_law_plain_rope T) (hr.mono (by decide)) (by rfl) (passX (L2N.takes_of rfl rfl rfl rfl)) (pa_cons (pv 2) (pa_cons (pe_op op_addA pe_int (pe_callD (d_law_wind T) (hr.mono (by decide)) (by rfl) (passX (L2N.takes_of rfl rfl rfl rfl)) (pa_cons (pv 2) (pa_cons pe_int pa_nil)))) (pa_cons (pe_op op_pow pe_int pe_int) pa_nil))))) (pss_cons (ps_if (pt_not (pt_val (pe_callD (d_law_crowding_right T) (hr.mono (by decide)) (by rfl) (passX (L2N.takes_of rfl rfl rfl rfl)) (pa_cons (pv 4) (pa_cons (pe_callD (d_law_near T) (hr.mono (by decide)) (by rfl) (passX (L2N.takes_of rfl rfl rfl rfl)) (pa_cons (pv 2) (pa_cons (pv 4) (pa_cons (pv 4) pa_nil)))) pa_nil))))) (pss_one (ps_ret pe_bl)) pss_nil) (pss_cons (ps_set (i := 5) sc_law.nd rfl (by first | exact Or.inl rfl | exact Or.inr rfl) (pe_op op_addA pe_int (pe_callD (d_law_wind T) (hr.mono (by decide)) (by rfl) (passX (L2N.takes_of rfl rfl rfl rfl)) (pa_cons (pv 2) (pa_cons pe_int pa_nil))))) (pss_cons (ps_par (i := 6) (j := 7) (by rfl) sc_law.nd rfl rfl (by decide) rfl rfl (pa_cons (pe_callD (d_law_any_rope T) (hr.mono (by decide)) (by rfl) (passX (L2N.takes_of rfl rfl rfl rfl)) (pa_cons (pv 2) (pa_cons (pv 5) (pa_cons (pv 5) pa_nil)))) (pa_cons (pe_callD (d_law_any_rope T) (hr.mono (by decide)) (by rfl) (passX (L2N.takes_of rfl rfl rfl rfl)) (pa_cons (pv 2) (pa_cons (pv 5) (pa_cons (pv 5) pa_nil)))) pa_nil)) (by rfl)) (pss_cons (ps_for (passes_of rfl) rfl (pi_any (pe_lst (pa_cons (pe_callD (d_law_turned T) (hr.mono (by decide)) (by rfl) (passX (L2N.takes_of rfl rfl rfl rfl)) (pa_cons (pv 6) pa_nil)) (pa_cons (pv 6) (pa_cons (pv 7) pa_nil))))) (pg_name (i := 8) sc_law.nd rfl (by first | exact Or.inl rfl | exact Or.inr rfl)) (pss_cons (ps_set (i := 9) sc_law.nd rfl (by first | exact Or.inl rfl | exact Or.inr rfl) (pe_ifExp (pt_cmpR op_lt (pe_callB (call_max2 rfl) (by rfl) T.b_max boot_max_ (pa_cons (pe_ix ix_seq (pv 6) (pe_un un_neg pe_int) (fun _ _ => rfl)) (pa_cons (pe_ix ix_seq (pv 8) (pe_un un_neg pe_int) (fun _ _ => rfl)) pa_nil))) pe_int (nomark _)) (pe_listRg rfl (by rfl) T.b_list (prg_2 (by rfl) T.b_range pe_int (pe_op op_addA (pe_op op_mulA pe_int (pe_callB (call_max2 rfl) (by rfl) T.b_max boot_max_ (pa_cons (pe_ix ix_seq (pv 6) (pe_un un_neg pe_int) (fun _ _ => rfl)) (pa_cons (pe_ix ix_seq (pv 8) (pe_un un_neg pe_int) (fun _ _ => rfl)) pa_nil)))) pe_int))) (pe_lst pa_nil))) (pss_one (ps_if (pt_not (pt_val (pe_callD (d_law_matches_right T) (hr.mono (by decide)) (by rfl) (passX (L2N.takes_of rfl rfl rfl rfl)) (pa_cons (pv 6) (pa_cons (pv 8) (pa_cons (pe_op op_addA (pv 9) (pe_callD (d_law_near T) (hr.mono (by decide)) (by rfl) (passX (L2N.takes_of rfl rfl rfl rfl)) (pa_cons (pv 2) (pa_cons (pv 6) (pa_cons (pv 8) pa_nil))))) pa_nil)))))) (pss_one (ps_ret pe_bl)) pss_nil)))) (pss_one (ps_if (pt_not (pt_val (pe_callD (d_law_refused T) (hr.mono (by decide)) (by rfl) (passX (L2N.takes_of rfl rfl rfl rfl)) (pa_cons (pv 2) (pa_cons (pv 6) pa_nil))))) (pss_one (ps_ret pe_bl)) pss_nil))))))))))) (pss_one (ps_ret (pe_callD0 (d_law_written T) (hr.mono (by decide)) (by rfl) (passX (L2N.takes_of rfl rfl rfl rfl)))))), (ss_seq (ss_for (si_rng1 (sa_cons (se_cb sc_2I (sa_cons se_int (sa_cons (se_cb sc_2I (sa_cons se_int (sa_cons (se_cb sc_len (sa_cons (se_var 0) sa_nil)) sa_nil))) sa_nil))) sa_nil)) (st_name 1) (ss_seq (ss_set 2 (sn_val (se_call (sa_cons (se_var 0) (sa_cons (se_var 1) sa_nil))))) (ss_seq (ss_set 3 (sn_val (se_call (sa_cons (se_var 2) (sa_cons (se_op s2_add se_int (se_call (sa_cons (se_var 2) (sa_cons se_int sa_nil)))) (sa_cons se_int sa_nil)))))) (ss_seq (ss_if (sb_not (sb_B (se_call (sa_cons (se_var 3) (sa_cons (se_f (sf_lstRg1 (se_op s2_add (se_op s2_mulA se_int (se_op s2_ix (se_var 3) (se_un s1_neg se_int))) se_int))) sa_nil))))) (ss_ret se_bl) ss_next) (ss_seq (ss_set 4 (sn_val (se_call (sa_cons (se_var 2) (sa_cons (se_op s2_add se_int (se_call (sa_cons (se_var 2) (sa_cons se_int sa_nil)))) (sa_cons (se_op (s2_I fun _ _ h => h) se_int se_int) sa_nil)))))) (ss_seq (ss_if (sb_not (sb_B (se_call (sa_cons (se_var 4) (sa_cons (se_call (sa_cons (se_var 2) (sa_cons (se_var 4) (sa_cons (se_var 4) sa_nil)))) sa_nil))))) (ss_ret se_bl) ss_next) (ss_seq (ss_set 5 (sn_val (se_op s2_add se_int (se_call (sa_cons (se_var 2) (sa_cons se_int sa_nil)))))) (ss_seq (ss_par (by decide) (sn_val (se_call (sa_cons (se_var 2) (sa_cons (se_var 5) (sa_cons (se_var 5) sa_nil))))) (sn_val (se_call (sa_cons (se_var 2) (sa_cons (se_var 5) (sa_cons (se_var 5) sa_nil)))))) (ss_seq (ss_for (si_any (se_f (sf_lst (sa_cons (se_call (sa_cons (se_var 6) sa_nil)) (sa_cons (se_var 6) (sa_cons (se_var 7) sa_nil)))))) (st_name 8) (ss_seq (ss_set 9 (sn_val (se_if (sb_test (se_op s2_B0 (se_cb sc_2I (sa_cons (se_op s2_ix (se_var 6) (se_un s1_neg se_int)) (sa_cons (se_op s2_ix (se_var 8) (se_un s1_neg se_int)) sa_nil))) se_int)) (se_f (sf_lstRg2 se_int (se_op s2_add (se_op s2_mulA se_int (se_cb sc_2I (sa_cons (se_op s2_ix (se_var 6) (se_un s1_neg se_int)) (sa_cons (se_op s2_ix (se_var 8) (se_un s1_neg se_int)) sa_nil)))) se_int))) (se_f (sf_lst sa_nil))))) (ss_if (sb_not (sb_B (se_call (sa_cons (se_var 6) (sa_cons (se_var 8) (sa_cons (se_op s2_add (se_var 9) (se_call (sa_cons (se_var 2) (sa_cons (se_var 6) (sa_cons (se_var 8) sa_nil))))) sa_nil)))))) (ss_ret se_bl) ss_next))) (ss_if (sb_not (sb_B (se_call (sa_cons (se_var 2) (sa_cons (se_var 6) sa_nil))))) (ss_ret se_bl) ss_next)))))))))) (ss_ret (se_call sa_nil)))⟩) (fun xs Q Ex _ h => h)
end
end Lw
end

section
open PySem PySem.W PyProof.Rows
set_option Elab.async false
set_option maxRecDepth 100000 in
set_option maxHeartbeats 8000000 in
open_top hd10 for PySem.Challenge.rw_knotspans_k10_whole_places_of_one_more_k
end

section
set_option Elab.async false
set_option linter.all false
set_option maxRecDepth 100000
set_option maxHeartbeats 8000000
open PySem PySem.W PyProof.Rows
namespace Lw
theorem kept : PySem.Challenge.rw_knotspans_k10_whole_places_of_one_more_k = PySem.Challenge.rw_knotspans_k10_whole_places_of_one_more_k ∧ hd10.heap_39 = hd10.heap_39 := by
  k_fill
  exact ⟨rfl, rfl⟩
section
variable {w : World} {mg : Str → Option Value} {h : Heap}
theorem hnm (w : World) : Ks.nmL.map (nsIn (hd10.heap_39 w.params) mainGlobals) = [37, 49, 61, 73, 85, 97, 109, 121, 133, 145, 157, 169, 181, 202, 223].map fun C => some (some (.ref C)) := by
  refine' Ks.nmap_cons ?h0 ?t0
  (case h0 => k_is)
  refine' Ks.nmap_cons ?h1 ?t1
  (case h1 => k_is)
  refine' Ks.nmap_cons ?h2 ?t2
  (case h2 => k_is)
  refine' Ks.nmap_cons ?h3 ?t3
  (case h3 => k_is)
  refine' Ks.nmap_cons ?h4 ?t4
  (case h4 => k_is)
  refine' Ks.nmap_cons ?h5 ?t5
  (case h5 => k_is)
  refine' Ks.nmap_cons ?h6 ?t6
  (case h6 => k_is)
  refine' Ks.nmap_cons ?h7 ?t7
  (case h7 => k_is)
  refine' Ks.nmap_cons ?h8 ?t8
  (case h8 => k_is)
  refine' Ks.nmap_cons ?h9 ?t9
  (case h9 => k_is)
  refine' Ks.nmap_cons ?h10 ?t10
  (case h10 => k_is)
  refine' Ks.nmap_cons ?h11 ?t11
  (case h11 => k_is)
  refine' Ks.nmap_cons ?h12 ?t12
  (case h12 => k_is)
  refine' Ks.nmap_cons ?h13 ?t13
  (case h13 => k_is)
  refine' Ks.nmap_cons ?h14 ?t14
  (case h14 => k_is)
  rfl
theorem w_InvalidRope (X : (hd10.heap_39 w.params).In h) (G : h.Ns mainGlobals mg) (T : List (Addr × Str)) : Ks.WordAt (hd10.heap_39 w.params) ⟨mg, T⟩ 24 Ks.wordsBs "InvalidRope" "rope value" := by
  refine' Ks.wordAt_of (fun i => i == 0 || i == 15) X G (hnm w) ?a ?e1 ?e2 ?e3 ?e4 ?e5 ?e6 ?e7 ?e8 ?hk ?hv ?hw ?he
  (case a => k_is); (case e1 => k_is); (case e2 => k_is); (case e3 => k_is); (case e4 => k_is); (case e5 => k_is); (case e6 => k_is); (case e7 => k_is); (case e8 => k_is)
  (case hk => kernel_rfl); (case hv => kernel_rfl); (case hw => decide +kernel); (case he => kernel_rfl)
theorem w_InvalidSpans (X : (hd10.heap_39 w.params).In h) (G : h.Ns mainGlobals mg) (T : List (Addr × Str)) : Ks.WordAt (hd10.heap_39 w.params) ⟨mg, T⟩ 24 Ks.wordsBs "InvalidSpans" "spans value" := by
  refine' Ks.wordAt_of (fun i => i == 1 || i == 15) X G (hnm w) ?a ?e1 ?e2 ?e3 ?e4 ?e5 ?e6 ?e7 ?e8 ?hk ?hv ?hw ?he
  (case a => k_is); (case e1 => k_is); (case e2 => k_is); (case e3 => k_is); (case e4 => k_is); (case e5 => k_is); (case e6 => k_is); (case e7 => k_is); (case e8 => k_is)
  (case hk => kernel_rfl); (case hv => kernel_rfl); (case hw => decide +kernel); (case he => kernel_rfl)
theorem w_InvalidFact (X : (hd10.heap_39 w.params).In h) (G : h.Ns mainGlobals mg) (T : List (Addr × Str)) : Ks.WordAt (hd10.heap_39 w.params) ⟨mg, T⟩ 24 Ks.wordsBs "InvalidFact" "fact value" := by
  refine' Ks.wordAt_of (fun i => i == 2 || i == 15) X G (hnm w) ?a ?e1 ?e2 ?e3 ?e4 ?e5 ?e6 ?e7 ?e8 ?hk ?hv ?hw ?he
  (case a => k_is); (case e1 => k_is); (case e2 => k_is); (case e3 => k_is); (case e4 => k_is); (case e5 => k_is); (case e6 => k_is); (case e7 => k_is); (case e8 => k_is)
  (case hk => kernel_rfl); (case hv => kernel_rfl); (case hw => decide +kernel); (case he => kernel_rfl)
theorem w_InvalidBook (X : (hd10.heap_39 w.params).In h) (G : h.Ns mainGlobals mg) (T : List (Addr × Str)) : Ks.WordAt (hd10.heap_39 w.params) ⟨mg, T⟩ 24 Ks.wordsBs "InvalidBook" "book value" := by
  refine' Ks.wordAt_of (fun i => i == 3 || i == 15) X G (hnm w) ?a ?e1 ?e2 ?e3 ?e4 ?e5 ?e6 ?e7 ?e8 ?hk ?hv ?hw ?he
  (case a => k_is); (case e1 => k_is); (case e2 => k_is); (case e3 => k_is); (case e4 => k_is); (case e5 => k_is); (case e6 => k_is); (case e7 => k_is); (case e8 => k_is)
  (case hk => kernel_rfl); (case hv => kernel_rfl); (case hw => decide +kernel); (case he => kernel_rfl)
theorem w_InvalidQuestion (X : (hd10.heap_39 w.params).In h) (G : h.Ns mainGlobals mg) (T : List (Addr × Str)) : Ks.WordAt (hd10.heap_39 w.params) ⟨mg, T⟩ 24 Ks.wordsBs "InvalidQuestion" "question value" := by
  refine' Ks.wordAt_of (fun i => i == 4 || i == 15) X G (hnm w) ?a ?e1 ?e2 ?e3 ?e4 ?e5 ?e6 ?e7 ?e8 ?hk ?hv ?hw ?he
  (case a => k_is); (case e1 => k_is); (case e2 => k_is); (case e3 => k_is); (case e4 => k_is); (case e5 => k_is); (case e6 => k_is); (case e7 => k_is); (case e8 => k_is)
  (case hk => kernel_rfl); (case hv => kernel_rfl); (case hw => decide +kernel); (case he => kernel_rfl)
theorem w_InvalidRing (X : (hd10.heap_39 w.params).In h) (G : h.Ns mainGlobals mg) (T : List (Addr × Str)) : Ks.WordAt (hd10.heap_39 w.params) ⟨mg, T⟩ 24 Ks.wordsBs "InvalidRing" "ring value" := by
  refine' Ks.wordAt_of (fun i => i == 5 || i == 15) X G (hnm w) ?a ?e1 ?e2 ?e3 ?e4 ?e5 ?e6 ?e7 ?e8 ?hk ?hv ?hw ?he
  (case a => k_is); (case e1 => k_is); (case e2 => k_is); (case e3 => k_is); (case e4 => k_is); (case e5 => k_is); (case e6 => k_is); (case e7 => k_is); (case e8 => k_is)
  (case hk => kernel_rfl); (case hv => kernel_rfl); (case hw => decide +kernel); (case he => kernel_rfl)
theorem w_InvalidSize (X : (hd10.heap_39 w.params).In h) (G : h.Ns mainGlobals mg) (T : List (Addr × Str)) : Ks.WordAt (hd10.heap_39 w.params) ⟨mg, T⟩ 24 Ks.wordsBs "InvalidSize" "size value" := by
  refine' Ks.wordAt_of (fun i => i == 6 || i == 15) X G (hnm w) ?a ?e1 ?e2 ?e3 ?e4 ?e5 ?e6 ?e7 ?e8 ?hk ?hv ?hw ?he
  (case a => k_is); (case e1 => k_is); (case e2 => k_is); (case e3 => k_is); (case e4 => k_is); (case e5 => k_is); (case e6 => k_is); (case e7 => k_is); (case e8 => k_is)
  (case hk => kernel_rfl); (case hv => kernel_rfl); (case hw => decide +kernel); (case he => kernel_rfl)
theorem w_InvalidIndex (X : (hd10.heap_39 w.params).In h) (G : h.Ns mainGlobals mg) (T : List (Addr × Str)) : Ks.WordAt (hd10.heap_39 w.params) ⟨mg, T⟩ 24 Ks.wordsBs "InvalidIndex" "index value" := by
  refine' Ks.wordAt_of (fun i => i == 7 || i == 15) X G (hnm w) ?a ?e1 ?e2 ?e3 ?e4 ?e5 ?e6 ?e7 ?e8 ?hk ?hv ?hw ?he
  (case a => k_is); (case e1 => k_is); (case e2 => k_is); (case e3 => k_is); (case e4 => k_is); (case e5 => k_is); (case e6 => k_is); (case e7 => k_is); (case e8 => k_is)
  (case hk => kernel_rfl); (case hv => kernel_rfl); (case hw => decide +kernel); (case he => kernel_rfl)
theorem w_InvalidNumber (X : (hd10.heap_39 w.params).In h) (G : h.Ns mainGlobals mg) (T : List (Addr × Str)) : Ks.WordAt (hd10.heap_39 w.params) ⟨mg, T⟩ 24 Ks.wordsBs "InvalidNumber" "number value" := by
  refine' Ks.wordAt_of (fun i => i == 8 || i == 15) X G (hnm w) ?a ?e1 ?e2 ?e3 ?e4 ?e5 ?e6 ?e7 ?e8 ?hk ?hv ?hw ?he
  (case a => k_is); (case e1 => k_is); (case e2 => k_is); (case e3 => k_is); (case e4 => k_is); (case e5 => k_is); (case e6 => k_is); (case e7 => k_is); (case e8 => k_is)
  (case hk => kernel_rfl); (case hv => kernel_rfl); (case hw => decide +kernel); (case he => kernel_rfl)
theorem w_InvalidText (X : (hd10.heap_39 w.params).In h) (G : h.Ns mainGlobals mg) (T : List (Addr × Str)) : Ks.WordAt (hd10.heap_39 w.params) ⟨mg, T⟩ 24 Ks.wordsBs "InvalidText" "text value" := by
  refine' Ks.wordAt_of (fun i => i == 9 || i == 15) X G (hnm w) ?a ?e1 ?e2 ?e3 ?e4 ?e5 ?e6 ?e7 ?e8 ?hk ?hv ?hw ?he
  (case a => k_is); (case e1 => k_is); (case e2 => k_is); (case e3 => k_is); (case e4 => k_is); (case e5 => k_is); (case e6 => k_is); (case e7 => k_is); (case e8 => k_is)
  (case hk => kernel_rfl); (case hv => kernel_rfl); (case hw => decide +kernel); (case he => kernel_rfl)
theorem w_Unlike (X : (hd10.heap_39 w.params).In h) (G : h.Ns mainGlobals mg) (T : List (Addr × Str)) : Ks.WordAt (hd10.heap_39 w.params) ⟨mg, T⟩ 24 Ks.wordsBs "Unlike" "unlike value" := by
  refine' Ks.wordAt_of (fun i => i == 10 || i == 15) X G (hnm w) ?a ?e1 ?e2 ?e3 ?e4 ?e5 ?e6 ?e7 ?e8 ?hk ?hv ?hw ?he
  (case a => k_is); (case e1 => k_is); (case e2 => k_is); (case e3 => k_is); (case e4 => k_is); (case e5 => k_is); (case e6 => k_is); (case e7 => k_is); (case e8 => k_is)
  (case hk => kernel_rfl); (case hv => kernel_rfl); (case hw => decide +kernel); (case he => kernel_rfl)
theorem w_NoRope (X : (hd10.heap_39 w.params).In h) (G : h.Ns mainGlobals mg) (T : List (Addr × Str)) : Ks.WordAt (hd10.heap_39 w.params) ⟨mg, T⟩ 24 Ks.wordsBs "NoRope" "none value" := by
  refine' Ks.wordAt_of (fun i => i == 11 || i == 15) X G (hnm w) ?a ?e1 ?e2 ?e3 ?e4 ?e5 ?e6 ?e7 ?e8 ?hk ?hv ?hw ?he
  (case a => k_is); (case e1 => k_is); (case e2 => k_is); (case e3 => k_is); (case e4 => k_is); (case e5 => k_is); (case e6 => k_is); (case e7 => k_is); (case e8 => k_is)
  (case hk => kernel_rfl); (case hv => kernel_rfl); (case hw => decide +kernel); (case he => kernel_rfl)
theorem w_NothingToUndo (X : (hd10.heap_39 w.params).In h) (G : h.Ns mainGlobals mg) (T : List (Addr × Str)) : Ks.WordAt (hd10.heap_39 w.params) ⟨mg, T⟩ 24 Ks.wordsBs "NothingToUndo" "undo value" := by
  refine' Ks.wordAt_of (fun i => i == 12 || i == 15) X G (hnm w) ?a ?e1 ?e2 ?e3 ?e4 ?e5 ?e6 ?e7 ?e8 ?hk ?hv ?hw ?he
  (case a => k_is); (case e1 => k_is); (case e2 => k_is); (case e3 => k_is); (case e4 => k_is); (case e5 => k_is); (case e6 => k_is); (case e7 => k_is); (case e8 => k_is)
  (case hk => kernel_rfl); (case hv => kernel_rfl); (case hw => decide +kernel); (case he => kernel_rfl)
theorem words (X : (hd10.heap_39 w.params).In h) (G : h.Ns mainGlobals mg) (T : List (Addr × Str)) : ∀ c ws, Ks.wordOf c = some ws → Ks.WordAt (hd10.heap_39 w.params) ⟨mg, T⟩ 24 Ks.wordsBs c ws := fun c ws e => by
  have m : ∀ p ∈ Ks.wordL, Ks.WordAt (hd10.heap_39 w.params) ⟨mg, T⟩ 24 Ks.wordsBs p.1 p.2 := List.forall_mem_cons.mpr ⟨w_InvalidRope X G T, List.forall_mem_cons.mpr ⟨w_InvalidSpans X G T, List.forall_mem_cons.mpr ⟨w_InvalidFact X G T, List.forall_mem_cons.mpr ⟨w_InvalidBook X G T, List.forall_mem_cons.mpr ⟨w_InvalidQuestion X G T, List.forall_mem_cons.mpr ⟨w_InvalidRing X G T, List.forall_mem_cons.mpr ⟨w_InvalidSize X G T, List.forall_mem_cons.mpr ⟨w_InvalidIndex X G T, List.forall_mem_cons.mpr ⟨w_InvalidNumber X G T, List.forall_mem_cons.mpr ⟨w_InvalidText X G T, List.forall_mem_cons.mpr ⟨w_Unlike X G T, List.forall_mem_cons.mpr ⟨w_NoRope X G T, List.forall_mem_cons.mpr ⟨w_NothingToUndo X G T, fun _ z => nomatch z⟩⟩⟩⟩⟩⟩⟩⟩⟩⟩⟩⟩⟩
  exact m (c, ws) (PySem.mem_of_lookup e)
theorem t_f_law_names (X : (hd10.heap_39 w.params).In h) (G : h.Ns mainGlobals mg) (T : List (Addr × Str)) : Ks.FunAt (hd10.heap_39 w.params) ⟨mg, T⟩ "_law_names" s_law_names := by
  refine' Ks.funAt_of X G ?a ?l ?c ?k
  (case a => k_is); (case l => k_is); (case c => k_is); (case k => k_is)
theorem t_f_law_word (X : (hd10.heap_39 w.params).In h) (G : h.Ns mainGlobals mg) (T : List (Addr × Str)) : Ks.FunAt (hd10.heap_39 w.params) ⟨mg, T⟩ "_law_word" s_law_word := by
  refine' Ks.funAt_of X G ?a ?l ?c ?k
  (case a => k_is); (case l => k_is); (case c => k_is); (case k => k_is)
theorem t_f_rises (X : (hd10.heap_39 w.params).In h) (G : h.Ns mainGlobals mg) (T : List (Addr × Str)) : Ks.FunAt (hd10.heap_39 w.params) ⟨mg, T⟩ "rises" s_rises := by
  refine' Ks.funAt_of X G ?a ?l ?c ?k
  (case a => k_is); (case l => k_is); (case c => k_is); (case k => k_is)
theorem t_f_is_integer (X : (hd10.heap_39 w.params).In h) (G : h.Ns mainGlobals mg) (T : List (Addr × Str)) : Ks.FunAt (hd10.heap_39 w.params) ⟨mg, T⟩ "is_integer" s_is_integer := by
  refine' Ks.funAt_of X G ?a ?l ?c ?k
  (case a => k_is); (case l => k_is); (case c => k_is); (case k => k_is)
theorem t_f_are_numbers (X : (hd10.heap_39 w.params).In h) (G : h.Ns mainGlobals mg) (T : List (Addr × Str)) : Ks.FunAt (hd10.heap_39 w.params) ⟨mg, T⟩ "are_numbers" s_are_numbers := by
  refine' Ks.funAt_of X G ?a ?l ?c ?k
  (case a => k_is); (case l => k_is); (case c => k_is); (case k => k_is)
theorem t_f_is_rope (X : (hd10.heap_39 w.params).In h) (G : h.Ns mainGlobals mg) (T : List (Addr × Str)) : Ks.FunAt (hd10.heap_39 w.params) ⟨mg, T⟩ "is_rope" s_is_rope := by
  refine' Ks.funAt_of X G ?a ?l ?c ?k
  (case a => k_is); (case l => k_is); (case c => k_is); (case k => k_is)
theorem t_f_need_rope (X : (hd10.heap_39 w.params).In h) (G : h.Ns mainGlobals mg) (T : List (Addr × Str)) : Ks.FunAt (hd10.heap_39 w.params) ⟨mg, T⟩ "need_rope" s_need_rope := by
  refine' Ks.funAt_of X G ?a ?l ?c ?k
  (case a => k_is); (case l => k_is); (case c => k_is); (case k => k_is)
theorem t_f_spans_by (X : (hd10.heap_39 w.params).In h) (G : h.Ns mainGlobals mg) (T : List (Addr × Str)) : Ks.FunAt (hd10.heap_39 w.params) ⟨mg, T⟩ "spans_by" s_spans_by := by
  refine' Ks.funAt_of X G ?a ?l ?c ?k
  (case a => k_is); (case l => k_is); (case c => k_is); (case k => k_is)
theorem t_f_crowded (X : (hd10.heap_39 w.params).In h) (G : h.Ns mainGlobals mg) (T : List (Addr × Str)) : Ks.FunAt (hd10.heap_39 w.params) ⟨mg, T⟩ "crowded" s_crowded := by
  refine' Ks.funAt_of X G ?a ?l ?c ?k
  (case a => k_is); (case l => k_is); (case c => k_is); (case k => k_is)
theorem t_f_free_places (X : (hd10.heap_39 w.params).In h) (G : h.Ns mainGlobals mg) (T : List (Addr × Str)) : Ks.FunAt (hd10.heap_39 w.params) ⟨mg, T⟩ "free_places" s_free_places := by
  refine' Ks.funAt_of X G ?a ?l ?c ?k
  (case a => k_is); (case l => k_is); (case c => k_is); (case k => k_is)
theorem t_f_halves (X : (hd10.heap_39 w.params).In h) (G : h.Ns mainGlobals mg) (T : List (Addr × Str)) : Ks.FunAt (hd10.heap_39 w.params) ⟨mg, T⟩ "halves" s_halves := by
  refine' Ks.funAt_of X G ?a ?l ?c ?k
  (case a => k_is); (case l => k_is); (case c => k_is); (case k => k_is)
theorem t_f_steps_from (X : (hd10.heap_39 w.params).In h) (G : h.Ns mainGlobals mg) (T : List (Addr × Str)) : Ks.FunAt (hd10.heap_39 w.params) ⟨mg, T⟩ "steps_from" s_steps_from := by
  refine' Ks.funAt_of X G ?a ?l ?c ?k
  (case a => k_is); (case l => k_is); (case c => k_is); (case k => k_is)
theorem t_f_crowding (X : (hd10.heap_39 w.params).In h) (G : h.Ns mainGlobals mg) (T : List (Addr × Str)) : Ks.FunAt (hd10.heap_39 w.params) ⟨mg, T⟩ "crowding" s_crowding := by
  refine' Ks.funAt_of X G ?a ?l ?c ?k
  (case a => k_is); (case l => k_is); (case c => k_is); (case k => k_is)
theorem t_f_matches (X : (hd10.heap_39 w.params).In h) (G : h.Ns mainGlobals mg) (T : List (Addr × Str)) : Ks.FunAt (hd10.heap_39 w.params) ⟨mg, T⟩ "matches" s_matches := by
  refine' Ks.funAt_of X G ?a ?l ?c ?k
  (case a => k_is); (case l => k_is); (case c => k_is); (case k => k_is)
theorem t_f_law_written (X : (hd10.heap_39 w.params).In h) (G : h.Ns mainGlobals mg) (T : List (Addr × Str)) : Ks.FunAt (hd10.heap_39 w.params) ⟨mg, T⟩ "_law_written" s_law_written := by
  refine' Ks.funAt_of X G ?a ?l ?c ?k
  (case a => k_is); (case l => k_is); (case c => k_is); (case k => k_is)
theorem t_f_law_coil (X : (hd10.heap_39 w.params).In h) (G : h.Ns mainGlobals mg) (T : List (Addr × Str)) : Ks.FunAt (hd10.heap_39 w.params) ⟨mg, T⟩ "_law_coil" s_law_coil := by
  refine' Ks.funAt_of X G ?a ?l ?c ?k
  (case a => k_is); (case l => k_is); (case c => k_is); (case k => k_is)
theorem t_f_law_spans (X : (hd10.heap_39 w.params).In h) (G : h.Ns mainGlobals mg) (T : List (Addr × Str)) : Ks.FunAt (hd10.heap_39 w.params) ⟨mg, T⟩ "_law_spans" s_law_spans := by
  refine' Ks.funAt_of X G ?a ?l ?c ?k
  (case a => k_is); (case l => k_is); (case c => k_is); (case k => k_is)
theorem t_f_law_crowded (X : (hd10.heap_39 w.params).In h) (G : h.Ns mainGlobals mg) (T : List (Addr × Str)) : Ks.FunAt (hd10.heap_39 w.params) ⟨mg, T⟩ "_law_crowded" s_law_crowded := by
  refine' Ks.funAt_of X G ?a ?l ?c ?k
  (case a => k_is); (case l => k_is); (case c => k_is); (case k => k_is)
theorem t_f_law_wind (X : (hd10.heap_39 w.params).In h) (G : h.Ns mainGlobals mg) (T : List (Addr × Str)) : Ks.FunAt (hd10.heap_39 w.params) ⟨mg, T⟩ "_law_wind" s_law_wind := by
  refine' Ks.funAt_of X G ?a ?l ?c ?k
  (case a => k_is); (case l => k_is); (case c => k_is); (case k => k_is)
theorem t_f_law_plain_rope (X : (hd10.heap_39 w.params).In h) (G : h.Ns mainGlobals mg) (T : List (Addr × Str)) : Ks.FunAt (hd10.heap_39 w.params) ⟨mg, T⟩ "_law_plain_rope" s_law_plain_rope := by
  refine' Ks.funAt_of X G ?a ?l ?c ?k
  (case a => k_is); (case l => k_is); (case c => k_is); (case k => k_is)
theorem t_f_law_crowding_right (X : (hd10.heap_39 w.params).In h) (G : h.Ns mainGlobals mg) (T : List (Addr × Str)) : Ks.FunAt (hd10.heap_39 w.params) ⟨mg, T⟩ "_law_crowding_right" s_law_crowding_right := by
  refine' Ks.funAt_of X G ?a ?l ?c ?k
  (case a => k_is); (case l => k_is); (case c => k_is); (case k => k_is)
theorem t_f_law_pick (X : (hd10.heap_39 w.params).In h) (G : h.Ns mainGlobals mg) (T : List (Addr × Str)) : Ks.FunAt (hd10.heap_39 w.params) ⟨mg, T⟩ "_law_pick" s_law_pick := by
  refine' Ks.funAt_of X G ?a ?l ?c ?k
  (case a => k_is); (case l => k_is); (case c => k_is); (case k => k_is)
theorem t_f_law_any_rope (X : (hd10.heap_39 w.params).In h) (G : h.Ns mainGlobals mg) (T : List (Addr × Str)) : Ks.FunAt (hd10.heap_39 w.params) ⟨mg, T⟩ "_law_any_rope" s_law_any_rope := by
  refine' Ks.funAt_of X G ?a ?l ?c ?k
  (case a => k_is); (case l => k_is); (case c => k_is); (case k => k_is)
theorem t_f_law_turned (X : (hd10.heap_39 w.params).In h) (G : h.Ns mainGlobals mg) (T : List (Addr × Str)) : Ks.FunAt (hd10.heap_39 w.params) ⟨mg, T⟩ "_law_turned" s_law_turned := by
  refine' Ks.funAt_of X G ?a ?l ?c ?k
  (case a => k_is); (case l => k_is); (case c => k_is); (case k => k_is)
theorem t_f_law_any_value (X : (hd10.heap_39 w.params).In h) (G : h.Ns mainGlobals mg) (T : List (Addr × Str)) : Ks.FunAt (hd10.heap_39 w.params) ⟨mg, T⟩ "_law_any_value" s_law_any_value := by
  refine' Ks.funAt_of X G ?a ?l ?c ?k
  (case a => k_is); (case l => k_is); (case c => k_is); (case k => k_is)
theorem t_f_law_bent (X : (hd10.heap_39 w.params).In h) (G : h.Ns mainGlobals mg) (T : List (Addr × Str)) : Ks.FunAt (hd10.heap_39 w.params) ⟨mg, T⟩ "_law_bent" s_law_bent := by
  refine' Ks.funAt_of X G ?a ?l ?c ?k
  (case a => k_is); (case l => k_is); (case c => k_is); (case k => k_is)
theorem t_f_law_whole (X : (hd10.heap_39 w.params).In h) (G : h.Ns mainGlobals mg) (T : List (Addr × Str)) : Ks.FunAt (hd10.heap_39 w.params) ⟨mg, T⟩ "_law_whole" s_law_whole := by
  refine' Ks.funAt_of X G ?a ?l ?c ?k
  (case a => k_is); (case l => k_is); (case c => k_is); (case k => k_is)
theorem t_f_law_row (X : (hd10.heap_39 w.params).In h) (G : h.Ns mainGlobals mg) (T : List (Addr × Str)) : Ks.FunAt (hd10.heap_39 w.params) ⟨mg, T⟩ "_law_row" s_law_row := by
  refine' Ks.funAt_of X G ?a ?l ?c ?k
  (case a => k_is); (case l => k_is); (case c => k_is); (case k => k_is)
theorem t_f_law_good_rope (X : (hd10.heap_39 w.params).In h) (G : h.Ns mainGlobals mg) (T : List (Addr × Str)) : Ks.FunAt (hd10.heap_39 w.params) ⟨mg, T⟩ "_law_good_rope" s_law_good_rope := by
  refine' Ks.funAt_of X G ?a ?l ?c ?k
  (case a => k_is); (case l => k_is); (case c => k_is); (case k => k_is)
theorem t_f_law_refused (X : (hd10.heap_39 w.params).In h) (G : h.Ns mainGlobals mg) (T : List (Addr × Str)) : Ks.FunAt (hd10.heap_39 w.params) ⟨mg, T⟩ "_law_refused" s_law_refused := by
  refine' Ks.funAt_of X G ?a ?l ?c ?k
  (case a => k_is); (case l => k_is); (case c => k_is); (case k => k_is)
theorem t_f_law_near (X : (hd10.heap_39 w.params).In h) (G : h.Ns mainGlobals mg) (T : List (Addr × Str)) : Ks.FunAt (hd10.heap_39 w.params) ⟨mg, T⟩ "_law_near" s_law_near := by
  refine' Ks.funAt_of X G ?a ?l ?c ?k
  (case a => k_is); (case l => k_is); (case c => k_is); (case k => k_is)
theorem t_f_law_match (X : (hd10.heap_39 w.params).In h) (G : h.Ns mainGlobals mg) (T : List (Addr × Str)) : Ks.FunAt (hd10.heap_39 w.params) ⟨mg, T⟩ "_law_match" s_law_match := by
  refine' Ks.funAt_of X G ?a ?l ?c ?k
  (case a => k_is); (case l => k_is); (case c => k_is); (case k => k_is)
theorem t_f_law_matches_right (X : (hd10.heap_39 w.params).In h) (G : h.Ns mainGlobals mg) (T : List (Addr × Str)) : Ks.FunAt (hd10.heap_39 w.params) ⟨mg, T⟩ "_law_matches_right" s_law_matches_right := by
  refine' Ks.funAt_of X G ?a ?l ?c ?k
  (case a => k_is); (case l => k_is); (case c => k_is); (case k => k_is)
theorem t_b_ValueError (X : (hd10.heap_39 w.params).In h) (G : h.Ns mainGlobals mg) (T : List (Addr × Str)) : mg "ValueError" = none := by
  refine' PySem.W.mg_none_of X G ?a
  k_is
theorem t_b_abs (X : (hd10.heap_39 w.params).In h) (G : h.Ns mainGlobals mg) (T : List (Addr × Str)) : mg "abs" = none := by
  refine' PySem.W.mg_none_of X G ?a
  k_is
theorem t_b_all (X : (hd10.heap_39 w.params).In h) (G : h.Ns mainGlobals mg) (T : List (Addr × Str)) : mg "all" = none := by
  refine' PySem.W.mg_none_of X G ?a
  k_is
theorem t_b_any (X : (hd10.heap_39 w.params).In h) (G : h.Ns mainGlobals mg) (T : List (Addr × Str)) : mg "any" = none := by
  refine' PySem.W.mg_none_of X G ?a
  k_is
theorem t_b_bool (X : (hd10.heap_39 w.params).In h) (G : h.Ns mainGlobals mg) (T : List (Addr × Str)) : mg "bool" = none := by
  refine' PySem.W.mg_none_of X G ?a
  k_is
theorem t_b_enumerate (X : (hd10.heap_39 w.params).In h) (G : h.Ns mainGlobals mg) (T : List (Addr × Str)) : mg "enumerate" = none := by
  refine' PySem.W.mg_none_of X G ?a
  k_is
theorem t_b_int (X : (hd10.heap_39 w.params).In h) (G : h.Ns mainGlobals mg) (T : List (Addr × Str)) : mg "int" = none := by
  refine' PySem.W.mg_none_of X G ?a
  k_is
theorem t_b_isinstance (X : (hd10.heap_39 w.params).In h) (G : h.Ns mainGlobals mg) (T : List (Addr × Str)) : mg "isinstance" = none := by
  refine' PySem.W.mg_none_of X G ?a
  k_is
theorem t_b_len (X : (hd10.heap_39 w.params).In h) (G : h.Ns mainGlobals mg) (T : List (Addr × Str)) : mg "len" = none := by
  refine' PySem.W.mg_none_of X G ?a
  k_is
theorem t_b_list (X : (hd10.heap_39 w.params).In h) (G : h.Ns mainGlobals mg) (T : List (Addr × Str)) : mg "list" = none := by
  refine' PySem.W.mg_none_of X G ?a
  k_is
theorem t_b_max (X : (hd10.heap_39 w.params).In h) (G : h.Ns mainGlobals mg) (T : List (Addr × Str)) : mg "max" = none := by
  refine' PySem.W.mg_none_of X G ?a
  k_is
theorem t_b_min (X : (hd10.heap_39 w.params).In h) (G : h.Ns mainGlobals mg) (T : List (Addr × Str)) : mg "min" = none := by
  refine' PySem.W.mg_none_of X G ?a
  k_is
theorem t_b_range (X : (hd10.heap_39 w.params).In h) (G : h.Ns mainGlobals mg) (T : List (Addr × Str)) : mg "range" = none := by
  refine' PySem.W.mg_none_of X G ?a
  k_is
theorem t_b_set (X : (hd10.heap_39 w.params).In h) (G : h.Ns mainGlobals mg) (T : List (Addr × Str)) : mg "set" = none := by
  refine' PySem.W.mg_none_of X G ?a
  k_is
theorem t_b_sorted (X : (hd10.heap_39 w.params).In h) (G : h.Ns mainGlobals mg) (T : List (Addr × Str)) : mg "sorted" = none := by
  refine' PySem.W.mg_none_of X G ?a
  k_is
theorem t_b_str (X : (hd10.heap_39 w.params).In h) (G : h.Ns mainGlobals mg) (T : List (Addr × Str)) : mg "str" = none := by
  refine' PySem.W.mg_none_of X G ?a
  k_is
theorem t_b_tuple (X : (hd10.heap_39 w.params).In h) (G : h.Ns mainGlobals mg) (T : List (Addr × Str)) : mg "tuple" = none := by
  refine' PySem.W.mg_none_of X G ?a
  k_is
theorem t_b_zip (X : (hd10.heap_39 w.params).In h) (G : h.Ns mainGlobals mg) (T : List (Addr × Str)) : mg "zip" = none := by
  refine' PySem.W.mg_none_of X G ?a
  k_is
theorem t_c_MOST_KNOTS (X : (hd10.heap_39 w.params).In h) (G : h.Ns mainGlobals mg) (T : List (Addr × Str)) : ∃ t, mg "MOST_KNOTS" = some (.int (9) t) := by
  have e : ∃ v, mg "MOST_KNOTS" = some v ∧ ∃ t, v = .int (9) t := by
    refine' ⟨_, PySem.W.mg_of X G ?a, ?b⟩
    (case a => k_is)
    exact ⟨_, rfl⟩
  obtain ⟨v, e, t, rfl⟩ := e
  exact ⟨t, e⟩
theorem t_x_InvalidRope (X : (hd10.heap_39 w.params).In h) (G : h.Ns mainGlobals mg) (T : List (Addr × Str)) : Ks.ExcAt (hd10.heap_39 w.params) ⟨mg, T⟩ "InvalidRope" := by
  refine' Ks.excAt_of X G ?a ?e ?k ?b ?t
  (case a => k_is); (case e => k_exc); (case k => k_is); (case b => k_is); (case t => k_is)
theorem t_x_Unlike (X : (hd10.heap_39 w.params).In h) (G : h.Ns mainGlobals mg) (T : List (Addr × Str)) : Ks.ExcAt (hd10.heap_39 w.params) ⟨mg, T⟩ "Unlike" := by
  refine' Ks.excAt_of X G ?a ?e ?k ?b ?t
  (case a => k_is); (case e => k_exc); (case k => k_is); (case b => k_is); (case t => k_is)
theorem t_ke (X : (hd10.heap_39 w.params).In h) (G : h.Ns mainGlobals mg) (T : List (Addr × Str)) : mg "KnotError" = some (.ref 24) := by
  refine' PySem.W.mg_of X G ?a
  k_is
theorem t_l_law_refused {base : Heap} (X : (hd10.heap_39 w.params).In h) (G : h.Ns mainGlobals mg) (T : List (Addr × Str)) (TB : LamX.TabB base mg 446 442) (h1 : (442, Ks.lamQ "_law_refused") ∈ T) (h2 : ∀ p ∈ T, p.1 = 442 → p.2 = Ks.lamQ "_law_refused") : Ks.LamAt (hd10.heap_39 w.params) ⟨mg, T⟩ base "_law_refused" s_law_refused := by
  refine' Ks.lamAt_of X G ?a ?l ?c ?k TB h1 h2
  (case a => k_is); (case l => k_is); (case c => k_is); (case k => k_is)
theorem txt {base : Heap} (X : (hd10.heap_39 w.params).In h) (G : h.Ns mainGlobals mg) (V : ∃ t, mg "GREAT" = some (.int 1000000000000000000000000000000 t)) (TB_law_refused : LamX.TabB base mg 446 442) : Txt (hd10.heap_39 w.params) ⟨mg, [(442, Ks.lamQ "_law_refused")]⟩ 24 base where
  f_law_names := t_f_law_names X G [(442, Ks.lamQ "_law_refused")]
  f_law_word := t_f_law_word X G [(442, Ks.lamQ "_law_refused")]
  f_rises := t_f_rises X G [(442, Ks.lamQ "_law_refused")]
  f_is_integer := t_f_is_integer X G [(442, Ks.lamQ "_law_refused")]
  f_are_numbers := t_f_are_numbers X G [(442, Ks.lamQ "_law_refused")]
  f_is_rope := t_f_is_rope X G [(442, Ks.lamQ "_law_refused")]
  f_need_rope := t_f_need_rope X G [(442, Ks.lamQ "_law_refused")]
  f_spans_by := t_f_spans_by X G [(442, Ks.lamQ "_law_refused")]
  f_crowded := t_f_crowded X G [(442, Ks.lamQ "_law_refused")]
  f_free_places := t_f_free_places X G [(442, Ks.lamQ "_law_refused")]
  f_halves := t_f_halves X G [(442, Ks.lamQ "_law_refused")]
  f_steps_from := t_f_steps_from X G [(442, Ks.lamQ "_law_refused")]
  f_crowding := t_f_crowding X G [(442, Ks.lamQ "_law_refused")]
  f_matches := t_f_matches X G [(442, Ks.lamQ "_law_refused")]
  f_law_written := t_f_law_written X G [(442, Ks.lamQ "_law_refused")]
  f_law_coil := t_f_law_coil X G [(442, Ks.lamQ "_law_refused")]
  f_law_spans := t_f_law_spans X G [(442, Ks.lamQ "_law_refused")]
  f_law_crowded := t_f_law_crowded X G [(442, Ks.lamQ "_law_refused")]
  f_law_wind := t_f_law_wind X G [(442, Ks.lamQ "_law_refused")]
  f_law_plain_rope := t_f_law_plain_rope X G [(442, Ks.lamQ "_law_refused")]
  f_law_crowding_right := t_f_law_crowding_right X G [(442, Ks.lamQ "_law_refused")]
  f_law_pick := t_f_law_pick X G [(442, Ks.lamQ "_law_refused")]
  f_law_any_rope := t_f_law_any_rope X G [(442, Ks.lamQ "_law_refused")]
  f_law_turned := t_f_law_turned X G [(442, Ks.lamQ "_law_refused")]
  f_law_any_value := t_f_law_any_value X G [(442, Ks.lamQ "_law_refused")]
  f_law_bent := t_f_law_bent X G [(442, Ks.lamQ "_law_refused")]
  f_law_whole := t_f_law_whole X G [(442, Ks.lamQ "_law_refused")]
  f_law_row := t_f_law_row X G [(442, Ks.lamQ "_law_refused")]
  f_law_good_rope := t_f_law_good_rope X G [(442, Ks.lamQ "_law_refused")]
  f_law_refused := t_f_law_refused X G [(442, Ks.lamQ "_law_refused")]
  f_law_near := t_f_law_near X G [(442, Ks.lamQ "_law_refused")]
  f_law_match := t_f_law_match X G [(442, Ks.lamQ "_law_refused")]
  f_law_matches_right := t_f_law_matches_right X G [(442, Ks.lamQ "_law_refused")]
  b_ValueError := t_b_ValueError X G [(442, Ks.lamQ "_law_refused")]
  b_abs := t_b_abs X G [(442, Ks.lamQ "_law_refused")]
  b_all := t_b_all X G [(442, Ks.lamQ "_law_refused")]
  b_any := t_b_any X G [(442, Ks.lamQ "_law_refused")]
  b_bool := t_b_bool X G [(442, Ks.lamQ "_law_refused")]
  b_enumerate := t_b_enumerate X G [(442, Ks.lamQ "_law_refused")]
  b_int := t_b_int X G [(442, Ks.lamQ "_law_refused")]
  b_isinstance := t_b_isinstance X G [(442, Ks.lamQ "_law_refused")]
  b_len := t_b_len X G [(442, Ks.lamQ "_law_refused")]
  b_list := t_b_list X G [(442, Ks.lamQ "_law_refused")]
  b_max := t_b_max X G [(442, Ks.lamQ "_law_refused")]
  b_min := t_b_min X G [(442, Ks.lamQ "_law_refused")]
  b_range := t_b_range X G [(442, Ks.lamQ "_law_refused")]
  b_set := t_b_set X G [(442, Ks.lamQ "_law_refused")]
  b_sorted := t_b_sorted X G [(442, Ks.lamQ "_law_refused")]
  b_str := t_b_str X G [(442, Ks.lamQ "_law_refused")]
  b_tuple := t_b_tuple X G [(442, Ks.lamQ "_law_refused")]
  b_zip := t_b_zip X G [(442, Ks.lamQ "_law_refused")]
  c_GREAT := V
  c_MOST_KNOTS := t_c_MOST_KNOTS X G [(442, Ks.lamQ "_law_refused")]
  x_InvalidRope := t_x_InvalidRope X G [(442, Ks.lamQ "_law_refused")]
  x_Unlike := t_x_Unlike X G [(442, Ks.lamQ "_law_refused")]
  ke := t_ke X G [(442, Ks.lamQ "_law_refused")]
  words := words X G [(442, Ks.lamQ "_law_refused")]
  l_law_refused := t_l_law_refused X G [(442, Ks.lamQ "_law_refused")] TB_law_refused (by simp) (by decide +kernel)
end
theorem lawE {w : World} {K : Frag} {mg : Str → Option Value} {h : Heap} {fa c KE : Addr} {oc kV doc pm ct : Value} {od an : Option Addr} {osl : Array (Option Value)} (X : K.In h) (hP : ∀ p ∈ ([(446, 442)] : List (Addr × Addr)), h.get? p.2 = some (tabObj #[])) (nP : ∀ p ∈ ([(446, 442)] : List (Addr × Addr)), K.lookup p.2 = none)
    (T : ∀ (base : Heap), K.In base → base.Ns mainGlobals mg → LamX.TabB base mg 446 442 → Txt K ⟨mg, [(442, Ks.lamQ "_law_refused")]⟩ KE base) (lk : K.lookup fa = some ⟨oc, od, .func (fnOf "law" "law" (L2.defArgs s_law) (L2.defBody s_law) (L2.defScope s_law) .none kV doc pm an (.ref c) ct), osl⟩) (hcd : codeIn K (.ref c) "law" = true) (C : ∀ p ∈ ([(446, 442)] : List (Addr × Addr)), codeHdIn K p.1 p.2 = true)
    (hm : ∀ ns : List Int, ns.length ≤ 63 → F_law [.scr ns] (fun v => v = .d (.bool true)) (fun _ => False)) : LamX.LawAtS PySem.Challenge.rw_knotspans_k10_whole_places_of_one_more_k w K (L2N.CX (PySem.Challenge.rw_knotspans_k10_whole_places_of_one_more_k).prog w) 53 63 "script" mg fa h := by
  have hF : ∀ base : Heap, K.In base → base.Ns mainGlobals mg → (∀ p ∈ ([(446, 442)] : List (Addr × Addr)), LamX.TabB base mg p.1 p.2) → L2.FnOk (PySem.Challenge.rw_knotspans_k10_whole_places_of_one_more_k).prog w K mg base (L2N.CX (PySem.Challenge.rw_knotspans_k10_whole_places_of_one_more_k).prog w) 53 fa (fnOf "law" "law" (L2.defArgs s_law) (L2.defBody s_law) (L2.defScope s_law) .none kV doc pm an (.ref c) ct) ["script"] (Ks.spF K ⟨mg, [(442, Ks.lamQ "_law_refused")]⟩ 1 F_law) := fun base Kb Gb TB =>
    d_law (mg := ⟨mg, [(442, Ks.lamQ "_law_refused")]⟩) (T base Kb Gb (TB (446, 442) (by simp))) lk hcd
  have hb : ∀ (s : Shared) (u : Value), BindsTo s (fnOf "law" "law" (L2.defArgs s_law) (L2.defBody s_law) (L2.defScope s_law) .none kV doc pm an (.ref c) ct) ⟨[u], []⟩ [("script", u)] := fun s u => .of_eq rfl
  exact Ks.lawAtN X hP nP C (qs := [(442, Ks.lamQ "_law_refused")]) (by simp) hb (fun ns hl _ => hm ns hl) hF
theorem holds (hm : ∀ ns : List Int, ns.length ≤ 63 → F_law [.scr ns] (fun v => v = .d (.bool true)) (fun _ => False)) : PySem.Challenge.rw_knotspans_k10_whole_places_of_one_more_k.Holds := hd10 (by
  refine Ks.walk_ks (n := 63) (k := 53) (K := hd10.heap_39) (x := "script") rfl (by decide) rfl ⟨rfl, by decide, by decide⟩ fun w mg fa h XX Y G hmg => ?_
  have X : (hd10.heap_39 w.params).In h := km_in_of Y
  have e0 : nsIn (hd10.heap_39 w.params) mainGlobals "law" = some (some (.ref 461)) := by k_is
  have e : fa = 461 := by
    have z := PySem.W.mg_of X G e0
    have hmg' : mg "law" = some (.ref fa) := hmg
    rw [hmg'] at z
    exact Value.ref.inj (Option.some.inj z)
  subst e
  have V : ∃ t, mg "GREAT" = some (.int 1000000000000000000000000000000 t) := by
    obtain ⟨v, e1, e2⟩ := XX.2.val (Str.ofString "GREAT", .int 1000000000000000000000000000000) (List.mem_singleton.mpr rfl)
    cases e2
    exact ⟨_, e1⟩
  refine ⟨X, ?_⟩
  refine' lawE X ?hP ?nP (fun base Kb Gb TB0 => txt Kb Gb V TB0) ?lk ?hcd ?C hm
  (case lk => k_is); (case hcd => k_is)
  (case hP => exact List.forall_mem_cons.mpr ⟨km_tabs_of Y 442 (by simp), fun _ z => nomatch z⟩)
  (case nP => exact List.forall_mem_cons.mpr ⟨by kernel_rfl, fun _ z => nomatch z⟩)
  (case C => exact List.forall_mem_cons.mpr ⟨by kernel_rfl, fun _ z => nomatch z⟩))
end Lw
end

section
set_option Elab.async false
set_option linter.all false
set_option maxRecDepth 100000
set_option maxHeartbeats 4000000
set_option synthInstance.maxHeartbeats 400000
set_option synthInstance.maxSize 100000
namespace Lw
open PySem PySem.Spec PyProof.Rows L2 Ks
instance : ChkS (b_rises) := by delta b_rises; infer_instance
instance : ChkD F_rises := show ChkD (fun xs Q Ex => b_rises (endM Q Ex) (startE 4 xs)) from ChkD.of b_rises 4
instance : ChkS (b_is_integer) := by delta b_is_integer; infer_instance
instance : ChkD F_is_integer := show ChkD (fun xs Q Ex => b_is_integer (endM Q Ex) (startE 3 xs)) from ChkD.of b_is_integer 3
instance : ChkS (b_are_numbers) := by delta b_are_numbers; infer_instance
instance : ChkD F_are_numbers := show ChkD (fun xs Q Ex => b_are_numbers (endM Q Ex) (startE 4 xs)) from ChkD.of b_are_numbers 4
instance : ChkS (t_is_rope_1) := by delta t_is_rope_1; infer_instance
instance : ChkS (b_is_rope) := by delta b_is_rope; infer_instance
instance : ChkD F_is_rope := show ChkD (fun xs Q Ex => b_is_rope (endM Q Ex) (startE 1 xs)) from ChkD.of b_is_rope 1
instance : ChkS (b_need_rope) := by delta b_need_rope; infer_instance
instance : ChkD F_need_rope := show ChkD (fun xs Q Ex => b_need_rope (endM Q Ex) (startE 1 xs)) from ChkD.of b_need_rope 1
instance : ChkS (t_spans_by_1) := by delta t_spans_by_1; infer_instance
instance : ChkS (t_spans_by_2) := by delta t_spans_by_2; infer_instance
instance : ChkS (t_spans_by_3) := by delta t_spans_by_3; infer_instance
instance : ChkS (b_spans_by) := by delta b_spans_by; infer_instance
instance : ChkD F_spans_by := show ChkD (fun xs Q Ex => b_spans_by (endM Q Ex) (startE 5 xs)) from ChkD.of b_spans_by 5
instance : ChkS (b_crowded) := by delta b_crowded; infer_instance
instance : ChkD F_crowded := show ChkD (fun xs Q Ex => b_crowded (endM Q Ex) (startE 1 xs)) from ChkD.of b_crowded 1
instance : ChkS (t_free_places_1) := by delta t_free_places_1; infer_instance
instance : ChkS (b_free_places) := by delta b_free_places; infer_instance
instance : ChkD F_free_places := show ChkD (fun xs Q Ex => b_free_places (endM Q Ex) (startE 5 xs)) from ChkD.of b_free_places 5
instance : ChkS (t_halves_1) := by delta t_halves_1; infer_instance
instance : ChkS (t_halves_2) := by delta t_halves_2; infer_instance
instance : ChkS (t_halves_3) := by delta t_halves_3; infer_instance
instance : ChkS (b_halves) := by delta b_halves; infer_instance
instance : ChkD F_halves := show ChkD (fun xs Q Ex => b_halves (endM Q Ex) (startE 5 xs)) from ChkD.of b_halves 5
instance : ChkS (t_steps_from_1) := by delta t_steps_from_1; infer_instance
instance : ChkS (t_steps_from_2) := by delta t_steps_from_2; infer_instance
instance : ChkS (t_steps_from_3) := by delta t_steps_from_3; infer_instance
instance : ChkS (b_steps_from) := by delta b_steps_from; infer_instance
instance : ChkD F_steps_from := show ChkD (fun xs Q Ex => b_steps_from (endM Q Ex) (startE 5 xs)) from ChkD.of b_steps_from 5
instance : ChkS (t_crowding_1) := by delta t_crowding_1; infer_instance
instance : ChkS (t_crowding_2) := by delta t_crowding_2; infer_instance
instance : ChkS (t_crowding_3) := by delta t_crowding_3; infer_instance
instance : ChkS (b_crowding) := by delta b_crowding; infer_instance
instance : ChkD F_crowding := show ChkD (fun xs Q Ex => b_crowding (endM Q Ex) (startE 3 xs)) from ChkD.of b_crowding 3
instance : ChkS (t_matches_1) := by delta t_matches_1; infer_instance
instance : ChkS (t_matches_2) := by delta t_matches_2; infer_instance
instance : ChkS (t_matches_3) := by delta t_matches_3; infer_instance
instance : ChkS (t_matches_4) := by delta t_matches_4; infer_instance
instance : ChkS (t_matches_5) := by delta t_matches_5; infer_instance
instance : ChkS (t_matches_6) := by delta t_matches_6; infer_instance
instance : ChkS (b_matches) := by delta b_matches; infer_instance
instance : ChkD F_matches := show ChkD (fun xs Q Ex => b_matches (endM Q Ex) (startE 5 xs)) from ChkD.of b_matches 5
instance : ChkS (t_law_written_1) := by delta t_law_written_1; infer_instance
instance : ChkS (t_law_written_2) := by delta t_law_written_2; infer_instance
instance : ChkS (t_law_written_3) := by delta t_law_written_3; infer_instance
instance : ChkS (t_law_written_4) := by delta t_law_written_4; infer_instance
instance : ChkS (b_law_written) := by delta b_law_written; infer_instance
instance : ChkD F_law_written := show ChkD (fun xs Q Ex => b_law_written (endM Q Ex) (startE 1 xs)) from ChkD.of b_law_written 1
/-- what a closed call gives -/
theorem closed {F : List Dv → M Dv} [c : ChkD F] {xs : List Dv} {b : Bool} {Q : Dv → Prop} {Ex : Exn → Prop} (h : c.chk xs (fun v => match v with | .d (.bool k) => k == b | _ => false) (fun _ => false) = true) (q : Q (.d (.bool b))) : F xs Q Ex :=
  c.ok xs _ _ Q Ex h (fun x hx => by
    split at hx
    · rename_i k
      rw [beq_iff_eq] at hx
      subst hx; exact q
    · cases hx) (fun _ z => by cases z)
end Lw
end

section
set_option Elab.async false
set_option linter.all false
set_option maxRecDepth 100000
set_option maxHeartbeats 4000000
namespace Lw
open PySem PySem.Spec PyProof.Rows L2 Ks
theorem atI_int {α : Type} {ns : List α} {k : Int} (h0 : 0 ≤ k) (h1 : k < (ns.length : Nat)) : ∃ n, n ∈ ns ∧ ns[k.toNat]? = some n ∧ atI ns k = some n := by
  obtain ⟨j, rfl⟩ := Int.eq_ofNat_of_zero_le h0
  have hj : j < ns.length := by omega
  refine ⟨ns[j], List.getElem_mem hj, by simp [hj], ?_⟩
  exact atI_nat (by simp [hj])
theorem pos_ok {a b : Int} (h : 0 < b) : (fun _ j : Int => 0 < j) a b := h
theorem L_coil {ns : List Int} {k : Int} {Q : Dv → Prop} {Ex : Exn → Prop} (hk : 0 ≤ k) (h : Q .coil) : F_law_coil [.scr ns, .d (.int k)] Q Ex := by
  have key : ∀ cell : Int, 0 ≤ cell → t_law_coil_1 (endM Q Ex) [some (.scr ns), some (.d (.int k)), some (.d (.int cell))] := fun cell hc => by
    have fin : ∀ a : Int, 0 ≤ a → (mCons (mBin fAdd (mBin fMod (mCB fInt (mCons (mBin fAdd (mBin fAdd (mBin fMulA (mVar 2) (mC (.int 61))) (mBin fMulA (mC (.int 7309)) (mVar 1))) (mC (.int 17))) mNil)) (mC (.int 2147483587))) (mC (.int 1))) mNil) [some (.scr ns), some (.d (.int k)), some (.d (.int cell))]
        (fun xs => match dts (.d (.int a) :: xs) with
          | some ps => (match ps with
            | [.int a, .int b] => 0 ≤ a ∧ 0 ≤ b ∧ b ≤ 2147483587 ∧ Q .coil
            | _ => False)
          | none => False) Ex := fun a ha => by
      refine And.intro (.inl (.inr (by decide))) (And.intro (.inl (.inl (by decide))) (And.intro (show (0 : Int) < _ by decide) ?_))
      have e := Int.emod_lt_of_pos (cell * 61 + 7309 * k + 17) (show (0 : Int) < 2147483587 by decide)
      have e0 := Int.emod_nonneg (cell * 61 + 7309 * k + 17) (show (2147483587 : Int) ≠ 0 by decide)
      exact And.intro ha (And.intro (by omega) (And.intro (by omega) h))
    refine And.intro ⟨by decide, by decide, by decide⟩ ?_
    show (if decide ((10 : Int) ^ (18 : Int).toNat ≤ cell) = true then _ else _)
    split
    · exact fin cell hc
    · exact fin 0 (Int.le_refl 0)
  show (if decide (k < ((ns.length : Nat) : Int)) = true then _ else _)
  split
  · rename_i hlt
    have hlt : k < ((ns.length : Nat) : Int) := by simpa using hlt
    obtain ⟨n, _, _, e⟩ := atI_int hk hlt
    refine Exists.intro n (And.intro e (And.intro rfl ?_))
    refine key (if n < 0 then -n else n) ?_
    split <;> omega
  · refine And.intro (.inl (.inl (by decide))) (And.intro rfl ?_)
    exact key (307 * k + 41) (by omega)
theorem L_wind {many : Int} {Q : Dv → Prop} {Ex : Exn → Prop} (h0 : 0 < many) (hb : many.natAbs.log2 < 9000) (h : ∀ n : Int, 0 ≤ n → n < many → Q (.d (.int n))) : F_law_wind [.coil, .d (.int many)] Q Ex := by
  have fin : ∀ x : Int, Q (.d (.int (x % many))) := fun x => h _ (Int.emod_nonneg _ (by omega)) (Int.emod_lt_of_pos _ h0)
  refine .inl (And.intro rfl fun a ha => ?_)
  show (if decide ((0 : Int) < a) = true then _ else _)
  split
  · refine .inl (And.intro rfl fun b hb0 => And.intro (show (0 : Int) < many from h0) (And.intro rfl ?_))
    refine .inl (And.intro rfl fun c hc => And.intro ⟨h0, hb⟩ (And.intro (Int.ediv_nonneg hc (by omega)) (And.intro (.inl rfl) (And.intro rfl (fin b)))))
  · refine .inr (And.intro rfl fun b hb0 hb1 => And.intro (.inl (.inr (by decide))) (And.intro (show (0 : Int) < _ by decide) ?_))
    have e := Int.emod_lt_of_pos (b * 46021 + 151) (show (0 : Int) < 2147483587 by decide)
    have e0 := Int.emod_nonneg (b * 46021 + 151) (show (2147483587 : Int) ≠ 0 by decide)
    refine And.intro e0 (And.intro (.inr (And.intro rfl (by omega))) ?_)
    refine .inr (And.intro rfl fun c hc0 hc1 => ?_)
    refine .inr (And.intro rfl fun d hd0 hd1 => And.intro ⟨by decide, by decide⟩ ?_)
    refine And.intro (.inl (.inl ⟨by omega, by omega⟩)) (And.intro (show (0 : Int) < _ by decide) (And.intro rfl ?_))
    exact And.intro ⟨by decide, by decide⟩ (And.intro (show (0 : Int) < many from h0) (And.intro rfl (fin _)))
theorem L_pick {ds : List Dt} {x : Dv} {Q : Dv → Prop} {Ex : Exn → Prop} (hx : x = .d (.list ds) ∨ x = .d (.tuple ds)) (h0 : ds ≠ []) (h1 : ds.length ≤ 1000) (h : ∀ d ∈ ds, Q (.d d)) : F_law_pick [.coil, x] Q Ex := by
  have hp : 0 < ds.length := List.length_pos_iff.mpr h0
  have lg : ((ds.length : Nat) : Int).natAbs.log2 < 9000 := by
    have : ((ds.length : Nat) : Int).natAbs = ds.length := by omega
    rw [this]
    exact Nat.lt_of_le_of_lt (Nat.log2_le_self _) (by omega)
  rcases hx with rfl | rfl
  · refine And.intro rfl (L_wind (by omega) lg fun n n0 n1 => ?_)
    obtain ⟨d, hd, _, e⟩ := atI_int n0 n1
    exact Exists.intro d (And.intro e (And.intro rfl (h d hd)))
  · refine And.intro rfl (L_wind (by omega) lg fun n n0 n1 => ?_)
    obtain ⟨d, hd, _, e⟩ := atI_int n0 n1
    exact Exists.intro d (And.intro e (And.intro rfl (h d hd)))
end Lw
end

section
set_option Elab.async false
set_option linter.all false
set_option maxRecDepth 100000
set_option maxHeartbeats 4000000
namespace Lw
open PySem PySem.Spec PyProof.Rows L2 Ks
theorem eqv_int (a b : Int) : PyData.eqv (.int a) (.int b) = (a == b) := by unfold PyData.eqv; rfl
theorem shaped_int (a : Int) : SeqAt.shaped (.int a) = true := by
  unfold SeqAt.shaped PyData.canLay0 PyData.depth; rfl
theorem mB_eqI {i : Nat} {a c : Int} {ρ : Ks.Env} {Q : Bool → Prop} {Ex : Exn → Prop} (e : ρ[i]? = some (some (.d (.int a)))) (h : Q (a == c)) : mB (mBin fEq (mVar i) (mC (.int c))) ρ Q Ex := by
  show mVar i ρ _ Ex
  unfold mVar
  rw [e]
  refine And.intro (shaped_int a) (And.intro (shaped_int c) ?_)
  show Q (PyData.eqv (.int a) (.int c))
  rw [eqv_int]
  exact h
def IsRope (ns : List Int) : Prop := 2 ≤ ns.length ∧ ns.length ≤ 9 ∧ ns[0]? = some 0 ∧ ns.Pairwise (· < ·) ∧ ∀ n ∈ ns, 0 ≤ n ∧ n ≤ 10 ^ 30
theorem ilst_app (xs ys : List Int) : ilst (xs ++ ys) = ilst xs ++ ilst ys := by simp [ilst]
abbrev EvR (l m way : Int) (rope turn times known place : Option Dv) : Ks.Env := [some .coil, some (.d (.int l)), some (.d (.int m)), some (.d (.int way)), rope, turn, times, known, place]
theorem times_rope {times : Int} {ks : List Int} (h0 : 0 < times) (h1 : times ≤ 10 ^ 28 + 100) (l2 : 2 ≤ ks.length) (l9 : ks.length ≤ 9) (hd : ks[0]? = some 0) (up : ks.Pairwise (· < ·)) (hb : ∀ k ∈ ks, 0 ≤ k ∧ k ≤ 17) : IsRope (ks.map (· * times)) := by
  refine ⟨by simpa using l2, by simpa using l9, by rw [List.getElem?_map, hd]; simp, ?_, ?_⟩
  · rw [List.pairwise_map]
    exact up.imp fun h => Int.mul_lt_mul_of_pos_right h h0
  · intro n hn
    obtain ⟨k, hk, rfl⟩ := List.mem_map.mp hn
    obtain ⟨b0, b1⟩ := hb k hk
    have e1 := Int.mul_nonneg b0 (Int.le_of_lt h0)
    have e2 := Int.mul_le_mul_of_nonneg_right b1 (Int.le_of_lt h0)
    exact ⟨e1, by omega⟩
theorem known_rope {times : Int} (h0 : 0 < times) (h1 : times ≤ 10 ^ 28 + 100) {ks : List Int} (hk : ks = [0, 1, 4, 10, 12, 17] ∨ ks = [0, 1, 8, 11, 13, 17]) : IsRope (ks.map (· * times)) := by
  rcases hk with rfl | rfl
  · exact times_rope h0 h1 (by decide) (by decide) rfl (by decide) (by decide)
  · exact times_rope h0 h1 (by decide) (by decide) rfl (by decide) (by decide)
/-- what the growing rope is: k gaps so far -/
structure Grown (ns : List Int) (k : Nat) : Prop where
  len : ns.length = k + 1
  hd : ns[0]? = some 0
  up : ns.Pairwise (· < ·)
  le : ∀ n ∈ ns, 0 ≤ n ∧ n ≤ k * 10 ^ 29
theorem Grown.one : Grown [0] 0 := ⟨rfl, rfl, by simp, by simp⟩
theorem Grown.more {ns : List Int} {l x : Int} {k : Nat} (g : Grown (ns ++ [l]) k) (h1 : l < x) (h2 : x ≤ l + 10 ^ 29) : Grown ((ns ++ [l]) ++ [x]) (k + 1) := by
  have hl := g.le l (by simp)
  refine ⟨by rw [List.length_append, g.len]; rfl, ?_, ?_, ?_⟩
  · rw [List.getElem?_append_left (by rw [g.len]; omega)]; exact g.hd
  · rw [List.pairwise_append]
    refine ⟨g.up, by simp, fun a ha b hb => ?_⟩
    obtain rfl : b = x := by simpa using hb
    rcases List.mem_append.mp ha with z | z
    · have := (List.pairwise_append.mp g.up).2.2 a z l (by simp)
      omega
    · obtain rfl : a = l := by simpa using z
      exact h1
  · intro n hn
    rcases List.mem_append.mp hn with z | z
    · have := g.le n z
      push_cast
      omega
    · obtain rfl : n = x := by simpa using z
      push_cast
      omega
theorem Grown.rope {ns : List Int} {k : Nat} (g : Grown ns k) (h1 : 1 ≤ k) (h8 : k ≤ 8) : IsRope ns := by
  refine ⟨by rw [g.len]; omega, by rw [g.len]; omega, g.hd, g.up, fun n hn => ?_⟩
  have := g.le n hn
  omega
theorem gap_at {way : Int} (w0 : 0 ≤ way) (w1 : way < 7) : ∃ gap : Int, 0 < gap ∧ gap ≤ 10 ^ 29 ∧ L2.atI (ilst [2, 3, 6, 12, 40, 10 ^ 29]) (way - 1) = some (.int gap) := by
  by_cases hw : way = 0
  · subst hw
    exact ⟨10 ^ 29, by decide, by decide, L2.atI_last (ilst [2, 3, 6, 12, 40]) (.int (10 ^ 29))⟩
  · obtain ⟨d', hd', _, e'⟩ := atI_int (ns := ilst [2, 3, 6, 12, 40, 10 ^ 29]) (k := way - 1) (by omega) (by rw [ilst_len]; simp; omega)
    obtain ⟨gap, hg, rfl⟩ := ilst_map_mem hd'
    simp only [List.mem_cons, List.not_mem_nil, or_false] at hg
    exact ⟨gap, by omega, by omega, e'⟩
theorem L_any_rope {l m : Int} {Q : Dv → Prop} {Ex : Exn → Prop} (hl : 2 ≤ l) (hlm : l ≤ m) (hm9 : m ≤ 9) (h : ∀ ns : List Int, IsRope ns → l ≤ ns.length → (ns.length : Int) ≤ m → (∀ n ∈ ns, n < 10 ^ 30) → Q (.d (.tuple (ilst ns)))) : F_law_any_rope [.coil, .d (.int l), .d (.int m)] Q Ex := by
  have lgm : (m - l + 1).natAbs.log2 < 9000 := Nat.lt_of_le_of_lt (Nat.log2_le_self _) (by omega)
  have grow : ∀ way : Int, 0 ≤ way → way < 7 → t_law_any_rope_6 (endM Q Ex) (EvR l m way none none none none none) := fun way w0 w1 => by
    refine And.intro rfl ?_
    refine And.intro rfl (L_wind (by omega) lgm fun n n0 n1 => ?_)
    have hm : l - 1 + n = (((l - 1 + n).toNat : Nat) : Int) := by omega
    show (-(2 ^ 62) ≤ l - 1 + n ∧ l - 1 + n < 2 ^ 62 ∧ forL (fName 5) t_law_any_rope_3 _ (rngD 0 (l - 1 + n).toNat) (EvR l m way (some (.d (.tuple (ilst [0])))) none none none none))
    refine ⟨by omega, by omega, ?_⟩
    have hlen : (rngD 0 (l - 1 + n).toNat).length = (l - 1 + n).toNat := by
      unfold rngD
      simp
    refine forL_inv (fun ds ρ => ∃ ns k turn, Grown ns k ∧ k + ds.length = (l - 1 + n).toNat ∧ ρ = EvR l m way (some (.d (.tuple (ilst ns)))) turn none none none) (fun d ds ρ N i hN => ?_) (fun ρ i => ?_) _ _ ⟨[0], 0, none, Grown.one, by rw [hlen]; omega, rfl⟩
    · obtain ⟨ns, k, turn, g, e, rfl⟩ := i
      have hne : ns ≠ [] := fun z => by have := g.len; rw [z] at this; simp at this
      obtain ⟨i, z0, rfl⟩ : ∃ i x, ns = i ++ [x] := ⟨ns.dropLast, ns.getLast hne, (List.dropLast_concat_getLast hne).symm⟩
      have ea : L2.atI (ilst (i ++ [z0])) (-1) = some (.int z0) := by rw [ilst_app]; exact L2.atI_last _ _
      refine Exists.intro _ (And.intro ea ?_)
      refine And.intro ⟨by decide, by decide, by decide⟩ ?_
      obtain ⟨gap, g0, g1, e'⟩ := gap_at w0 w1
      refine Exists.intro _ (And.intro e' ?_)
      refine And.intro rfl (L_wind g0 ?_ fun x x0 x1 => ?_)
      · have : gap.natAbs < 2 ^ 100 := by omega
        exact Nat.lt_of_lt_of_le (PySem.Flt.log2_lt_of (by decide) this) (by decide)
      · have e0 := e
        rw [List.length_cons] at e0
        refine And.intro ?_ (And.intro rfl ?_)
        · rw [ilst_len, g.len]
          show k + 1 + 1 ≤ sizeLine
          have : sizeLine = 16777216 := sizeLine_eq
          omega
        · refine hN _ ⟨(i ++ [z0]) ++ [z0 + 1 + x], k + 1, some (.d d), g.more (by omega) (by omega), by omega, ?_⟩
          rw [ilst_app (i ++ [z0])]
          rfl
    · obtain ⟨ns, k, turn, g, e, rfl⟩ := i
      have e : k = (l - 1 + n).toNat := by simpa using e
      have := g.len
      exact And.intro rfl (h ns (g.rope (by omega) (by omega)) (by omega) (by omega) fun n hn => by have := g.le n hn; omega)
  refine And.intro rfl (L_wind (by decide) (by decide +kernel) fun way w0 w1 => And.intro rfl ?_)
  show t_law_any_rope_7 (endM Q Ex) (EvR l m way none none none none none)
  unfold t_law_any_rope_7 mSeq mIfS mAnd
  refine mB_eqI (a := way) rfl ?_
  by_cases hw : way = 0
  · subst hw
    show (if decide (l ≤ 6) = true then (if decide ((6 : Int) ≤ m) = true then _ else _) else (if false = true then _ else _))
    by_cases c1 : l ≤ 6
    · rw [decide_eq_true c1, if_pos rfl]
      by_cases c2 : 6 ≤ m
      · rw [decide_eq_true c2, if_pos rfl]
        have tail : ∀ times : Int, 0 < times → times ≤ 10 ^ 28 + 100 → t_law_any_rope_2 (endM Q Ex) (EvR l m 0 none none (some (.d (.int times))) none none) := fun times h0 h1 => by
          refine And.intro rfl (L_pick (ds := [.tuple (ilst [0, 1, 4, 10, 12, 17]), .tuple (ilst [0, 1, 8, 11, 13, 17])]) (.inl rfl) (by simp) (by simp) fun d hd => And.intro rfl ?_)
          have hks : ∃ ks : List Int, (ks = [0, 1, 4, 10, 12, 17] ∨ ks = [0, 1, 8, 11, 13, 17]) ∧ d = .tuple (ilst ks) := by
            simp only [List.mem_cons, List.not_mem_nil, or_false] at hd
            rcases hd with rfl | rfl
            · exact ⟨_, .inl rfl, rfl⟩
            · exact ⟨_, .inr rfl, rfl⟩
          obtain ⟨ks, hk, rfl⟩ := hks
          refine lcL_map (fun d => match d with | .int k => .int (k * times) | x => x) (ilst ks) ?_ (fun d hd K1 K2 k => ?_) ?_
          · rw [ilst_len]
            rcases hk with rfl | rfl <;> decide
          · obtain ⟨n, hn, rfl⟩ := ilst_map_mem hd
            refine And.intro (.inl (.inl ?_)) k
            have : 0 ≤ n ∧ n ≤ 17 := by
              rcases hk with rfl | rfl <;> (simp only [List.mem_cons, List.not_mem_nil, or_false] at hn; omega)
            omega
          · have e : (ilst ks).map (fun d => match d with | .int k => .int (k * times) | x => x) = ilst (ks.map (· * times)) := by
              unfold ilst
              rw [List.map_map, List.map_map]
              rfl
            rw [e]
            have l6 : (ks.map (· * times)).length = 6 := by rcases hk with rfl | rfl <;> rfl
            exact And.intro rfl (h _ (known_rope h0 h1 hk) (by omega) (by omega) fun n hn => by
              obtain ⟨k, hk2, rfl⟩ := List.mem_map.mp hn
              have b17 : 0 ≤ k ∧ k ≤ 17 := by rcases hk with rfl | rfl <;> (simp only [List.mem_cons, List.not_mem_nil, or_false] at hk2; omega)
              have := Int.mul_le_mul_of_nonneg_right b17.2 (Int.le_of_lt h0)
              omega)
        refine And.intro ⟨by decide, by decide, by decide⟩ ?_
        refine And.intro rfl (L_wind (by decide) (by decide +kernel) fun n n0 n1 => ?_)
        refine And.intro rfl (L_pick (ds := ilst [1, 3, 10 ^ 28 + n]) (.inl rfl) (by simp [ilst]) (by simp [ilst]) fun d hd => And.intro rfl ?_)
        obtain ⟨t, ht, rfl⟩ := ilst_map_mem hd
        simp only [List.mem_cons, List.not_mem_nil, or_false] at ht
        exact tail t (by omega) (by omega)
      · rw [decide_eq_false c2, if_neg Bool.false_ne_true]
        exact grow 0 (by omega) (by omega)
    · rw [decide_eq_false c1, if_neg Bool.false_ne_true, if_neg Bool.false_ne_true]
      exact grow 0 (by omega) (by omega)
  · have hb : (way == 0) = false := by simpa using hw
    rw [hb]
    exact grow way w0 w1
end Lw
end

section
set_option Elab.async false
set_option linter.all false
set_option maxRecDepth 100000
set_option maxHeartbeats 4000000
namespace Lw
open PySem PySem.Spec PyProof.Rows L2 Ks
/-! ### data within bounds -/
mutual
def fitB (n : Nat) : Dt → Bool
  | .none => true
  | .bool _ => true
  | .int i => decide (i.natAbs < 2 ^ n)
  | .str s => decide (s.length ≤ 2000 + n)
  | .list ds => decide (ds.length ≤ n) && fitA n ds
  | .tuple ds => decide (ds.length ≤ n) && fitA n ds
  | .dict _ => false
def fitA (n : Nat) : List Dt → Bool
  | [] => true
  | d :: ds => fitB n d && fitA n ds
end
def bdB (n k : Nat) (d : Dt) : Bool := d.canLay0 && decide (d.depth ≤ k) && fitB n d
def Bd (n k : Nat) (d : Dt) : Prop := d.canLay0 = true ∧ d.depth ≤ k ∧ fitB n d = true
theorem bd_of {n k : Nat} {d : Dt} (h : bdB n k d = true) : Bd n k d := by
  unfold bdB at h
  simp only [Bool.and_eq_true, decide_eq_true_eq] at h
  exact ⟨h.1.1, h.1.2, h.2⟩
mutual
theorem fitB_mono {n m : Nat} (h : n ≤ m) : ∀ d : Dt, fitB n d = true → fitB m d = true
  | .none, _ => by unfold fitB; rfl
  | .bool _, _ => by unfold fitB; rfl
  | .int i, e => by
    unfold fitB at e ⊢
    rw [decide_eq_true_eq] at e ⊢
    exact Nat.lt_of_lt_of_le e (Nat.pow_le_pow_right (by decide) h)
  | .str s, e => by
    unfold fitB at e ⊢
    rw [decide_eq_true_eq] at e ⊢
    omega
  | .list ds, e => by
    unfold fitB at e ⊢
    rw [Bool.and_eq_true, decide_eq_true_eq] at e ⊢
    exact ⟨by omega, fitA_mono h ds e.2⟩
  | .tuple ds, e => by
    unfold fitB at e ⊢
    rw [Bool.and_eq_true, decide_eq_true_eq] at e ⊢
    exact ⟨by omega, fitA_mono h ds e.2⟩
  | .dict _, e => by unfold fitB at e; cases e
theorem fitA_mono {n m : Nat} (h : n ≤ m) : ∀ ds : List Dt, fitA n ds = true → fitA m ds = true
  | [], _ => by unfold fitA; rfl
  | d :: ds, e => by
    unfold fitA at e ⊢
    rw [Bool.and_eq_true] at e ⊢
    exact ⟨fitB_mono h d e.1, fitA_mono h ds e.2⟩
end
theorem Bd.mono {n k m j : Nat} {d : Dt} (b : Bd n k d) (h : n ≤ m) (h' : k ≤ j) : Bd m j d := ⟨b.1, Nat.le_trans b.2.1 h', fitB_mono h d b.2.2⟩
theorem fitA_iff {n : Nat} : ∀ {ds : List Dt}, fitA n ds = true ↔ ∀ d ∈ ds, fitB n d = true
  | [] => by simp [fitA]
  | d :: ds => by
    unfold fitA
    rw [Bool.and_eq_true, fitA_iff]
    simp
theorem lay_all : ∀ {ds : List Dt}, (∀ d ∈ ds, d.canLay0 = true) → PyData.canLayAll0 ds = true
  | [], _ => by unfold PyData.canLayAll0; rfl
  | d :: ds, h => by
    unfold PyData.canLayAll0
    rw [h d List.mem_cons_self, lay_all fun x hx => h x (List.mem_cons_of_mem _ hx)]
    rfl
theorem lay_mem : ∀ {ds : List Dt} {d : Dt}, PyData.canLayAll0 ds = true → d ∈ ds → d.canLay0 = true
  | x :: ds, d, h, hd => by
    unfold PyData.canLayAll0 at h
    rw [Bool.and_eq_true] at h
    rcases List.mem_cons.mp hd with rfl | hd
    · exact h.1
    · exact lay_mem h.2 hd
theorem depth_all {k : Nat} : ∀ {ds : List Dt}, (∀ d ∈ ds, d.depth ≤ k) → PyData.depthAll ds ≤ k
  | [], _ => by unfold PyData.depthAll; exact Nat.zero_le _
  | d :: ds, h => by
    unfold PyData.depthAll
    exact Nat.max_le.mpr ⟨h d List.mem_cons_self, depth_all (ds := ds) fun x hx => h x (List.mem_cons_of_mem _ hx)⟩
theorem depth_mem : ∀ {ds : List Dt} {d : Dt}, d ∈ ds → d.depth ≤ PyData.depthAll ds
  | x :: ds, d, hd => by
    unfold PyData.depthAll
    rcases List.mem_cons.mp hd with rfl | hd
    · exact Nat.le_max_left _ _
    · exact Nat.le_trans (depth_mem hd) (Nat.le_max_right _ _)
theorem Bd.tup {n k : Nat} {ds : List Dt} (h : ∀ d ∈ ds, Bd n k d) (hl : ds.length ≤ n) : Bd n (k + 1) (.tuple ds) := by
  refine ⟨?_, ?_, ?_⟩
  · unfold PyData.canLay0; exact lay_all fun d hd => (h d hd).1
  · unfold PyData.depth; have := depth_all (k := k) fun d hd => (h d hd).2.1; omega
  · unfold fitB; rw [Bool.and_eq_true, decide_eq_true_eq]; exact ⟨hl, fitA_iff.mpr fun d hd => (h d hd).2.2⟩
theorem Bd.lst {n k : Nat} {ds : List Dt} (h : ∀ d ∈ ds, Bd n k d) (hl : ds.length ≤ n) : Bd n (k + 1) (.list ds) := by
  refine ⟨?_, ?_, ?_⟩
  · unfold PyData.canLay0; exact lay_all fun d hd => (h d hd).1
  · unfold PyData.depth; have := depth_all (k := k) fun d hd => (h d hd).2.1; omega
  · unfold fitB; rw [Bool.and_eq_true, decide_eq_true_eq]; exact ⟨hl, fitA_iff.mpr fun d hd => (h d hd).2.2⟩
theorem Bd.of_tup {n k : Nat} {ds : List Dt} (b : Bd n k (.tuple ds)) : 1 ≤ k ∧ (∀ d ∈ ds, Bd n (k - 1) d) ∧ ds.length ≤ n := by
  obtain ⟨a, b, c⟩ := b
  unfold PyData.canLay0 at a
  unfold PyData.depth at b
  unfold fitB at c
  rw [Bool.and_eq_true, decide_eq_true_eq] at c
  exact ⟨by omega, fun d hd => ⟨lay_mem a hd, by have := depth_mem hd; omega, fitA_iff.mp c.2 d hd⟩, c.1⟩
theorem Bd.of_lst {n k : Nat} {ds : List Dt} (b : Bd n k (.list ds)) : 1 ≤ k ∧ (∀ d ∈ ds, Bd n (k - 1) d) ∧ ds.length ≤ n := by
  obtain ⟨a, b, c⟩ := b
  unfold PyData.canLay0 at a
  unfold PyData.depth at b
  unfold fitB at c
  rw [Bool.and_eq_true, decide_eq_true_eq] at c
  exact ⟨by omega, fun d hd => ⟨lay_mem a hd, by have := depth_mem hd; omega, fitA_iff.mp c.2 d hd⟩, c.1⟩
theorem Bd.int {n k : Nat} {i : Int} (h : i.natAbs < 2 ^ n) : Bd n k (.int i) := ⟨by unfold PyData.canLay0; rfl, by unfold PyData.depth; omega, by unfold fitB; rw [decide_eq_true_eq]; exact h⟩
theorem Bd.of_int {n k : Nat} {i : Int} (b : Bd n k (.int i)) : i.natAbs < 2 ^ n := by
  have := b.2.2
  unfold fitB at this
  rwa [decide_eq_true_eq] at this
theorem Bd.bool {n k : Nat} {b : Bool} : Bd n k (.bool b) := ⟨by unfold PyData.canLay0; rfl, by unfold PyData.depth; omega, by unfold fitB; rfl⟩
theorem char_lt (c : Char) : c.toNat < 0x110000 := by
  rcases c.valid with h | h
  · exact Nat.lt_trans h (by decide)
  · exact h.2
theorem strOk_of (s : String) : PyData.strOk (Str.ofString s) = true := by
  rw [Str.ofString_eq_byList]
  unfold Str.ofStringByList PyData.strOk
  simp only [List.all_toArray, List.all_map, List.all_eq_true, Function.comp, decide_eq_true_eq]
  exact fun c _ => char_lt c
theorem Bd.str {n k : Nat} {s : Str} (h : PyData.strOk s = true) (hl : s.length ≤ 2000 + n) : Bd n k (.str s) := ⟨by unfold PyData.canLay0; exact h, by unfold PyData.depth; omega, by unfold fitB; rw [decide_eq_true_eq]; exact hl⟩
theorem Bd.of_str {n k : Nat} {s : Str} (b : Bd n k (.str s)) : PyData.strOk s = true ∧ s.length ≤ 2000 + n := by
  obtain ⟨a, _, c⟩ := b
  unfold PyData.canLay0 at a
  unfold fitB at c
  rw [decide_eq_true_eq] at c
  exact ⟨a, c⟩
theorem Bd.log2 {n k : Nat} {i : Int} (b : Bd n k (.int i)) (h : 1 ≤ n) : i.natAbs.log2 < n := PySem.Flt.log2_lt_of (by omega) b.of_int
theorem Bd.shaped {n k : Nat} {d : Dt} (b : Bd n k d) (h : k < 64) : SeqAt.shaped d = true := by
  unfold SeqAt.shaped
  rw [b.1]
  have := b.2.1
  simp
  omega
theorem strOk_app {a b : Str} (h1 : PyData.strOk a = true) (h2 : PyData.strOk b = true) : PyData.strOk (a ++ b) = true := by
  unfold PyData.strOk at *
  show ((a.cps ++ b.cps).all _) = true
  rw [Array.all_append, h1, h2]
  rfl
end Lw
end

section
set_option Elab.async false
set_option linter.all false
set_option maxRecDepth 100000
set_option maxHeartbeats 400000
namespace Lw
open PySem PySem.Spec PyProof.Rows L2 Ks
theorem fEq_ii {a c : Int} {K : Dv → Prop} (h : K (.d (.bool (a == c)))) : fEq (.d (.int a)) (.d (.int c)) K := by
  refine And.intro (shaped_int a) (And.intro (shaped_int c) ?_)
  show K (.d (.bool (PyData.eqv (.int a) (.int c))))
  rw [eqv_int]
  exact h
theorem iteT' {b : Bool} {p q : Prop} (e : b = true) (h : p) : if b = true then p else q := by rw [if_pos e]; exact h
theorem iteF' {b : Bool} {p q : Prop} (e : b = false) (h : q) : if b = true then p else q := by rw [e, if_neg Bool.false_ne_true]; exact h
theorem fIsI_of {x : Dv} {t T : String} {b : Bool} {K : Dv → Prop} (h2 : tyD x = some t) (h3 : isiB t T = some b) (h1 : ["int", "bool", "str", "list", "tuple"].contains T = true) (h : K (.d (.bool b))) : fIsI [x, .ty T] K := by
  unfold fIsI
  refine ⟨h1, ?_⟩
  rw [h2]
  show match isiB t T with | some b => K (.d (.bool b)) | none => False
  rw [h3]
  exact h
def tyN : Dt → String
  | .none => "NoneType"
  | .bool _ => "bool"
  | .int _ => "int"
  | .str _ => "str"
  | .list _ => "list"
  | .tuple _ => "tuple"
  | .dict _ => ""
def isiN (d : Dt) (T : String) : Bool := decide (tyN d = T) || (decide (tyN d = "bool") && decide (T = "int"))
theorem fIsI_d {d : Dt} {T : String} {K : Dv → Prop} (hd : d.canLay0 = true) (h1 : ["int", "bool", "str", "list", "tuple"].contains T = true) (h : K (.d (.bool (isiN d T)))) : fIsI [.d d, .ty T] K := by
  have key : ∀ t, tyD (.d d) = some t → t = tyN d → ["NoneType", "bool", "int", "str", "list", "tuple"].contains t = true → fIsI [.d d, .ty T] K := fun t h2 h3 h4 => by
    refine fIsI_of h2 (b := isiN d T) ?_ h1 h
    unfold isiB isiN
    rw [← h3]
    by_cases c1 : t = T
    · simp [c1]
    · by_cases c2 : t = "bool" ∧ T = "int"
      · simp [c1, c2]
      · rw [if_neg c1, if_neg c2, if_pos (by rw [h4, h1]; rfl)]
        congr 1
        simp only [decide_eq_false c1, Bool.false_or, Bool.and_eq_false_iff, eq_comm (a := false)]
        by_cases c3 : t = "bool"
        · right; exact decide_eq_false fun z => c2 ⟨c3, z⟩
        · left; exact decide_eq_false c3
  cases d with
  | dict x => simp [PyData.canLay0] at hd
  | none => exact key _ rfl rfl (by decide +kernel)
  | bool b => exact key _ rfl rfl (by decide +kernel)
  | int i => exact key _ rfl rfl (by decide +kernel)
  | str s => exact key _ rfl rfl (by decide +kernel)
  | list ds => exact key _ rfl rfl (by decide +kernel)
  | tuple ds => exact key _ rfl rfl (by decide +kernel)
theorem mB_isi {i : Nat} {d : Dt} {T : String} {ρ : Ks.Env} {Ex : Exn → Prop} {K : Bool → Prop} (e : ρ[i]? = some (some (.d d))) (hd : d.canLay0 = true) (h1 : ["int", "bool", "str", "list", "tuple"].contains T = true) (h : K (isiN d T)) : mB (mCB fIsI (mCons (mVar i) (mCons (mTy T) mNil))) ρ K Ex := by
  show mVar i ρ _ Ex
  unfold mVar
  rw [e]
  exact fIsI_d (K := fun x => match x with | .d (.bool k) => K k | _ => False) hd h1 h
section
variable {Q : Dv → Prop} {Ex : Exn → Prop} {rec : List Dv → M Dv}
/-! ### values of any kind -/
abbrev EvV (deep : Int) (S : List Dt) (row part : Option Dv) : Ks.Env := [some .coil, some (.d (.int deep)), some (.d (.list S)), row, part]
theorem V3 {deep : Int} {S : List Dt} {k : Nat} (h0 : S ≠ []) (h1 : S.length ≤ 1000) (hS : ∀ d ∈ S, Bd 100 (k + 1) d) (hrec : deep ≠ 0 → ∀ (Q : Dv → Prop) (Ex : Exn → Prop), (∀ d, Bd 100 k d → Q (.d d)) → rec [.coil, .d (.int (deep - 1))] Q Ex) (h : ∀ d, Bd 100 (k + 1) d → Q (.d d)) : t_law_any_value_3 rec (endM Q Ex) (EvV deep S none none) := by
  unfold t_law_any_value_3 mSeq mIfS mOr
  refine mB_eqI (a := deep) rfl ?_
  have pick : mRet (mCall F_law_pick (mCons (mVar 0) (mCons (mVar 2) mNil))) (endM Q Ex) (EvV deep S none none) := And.intro rfl (L_pick (.inl rfl) h0 h1 fun d hd => And.intro rfl (h d (hS d hd)))
  by_cases hz : deep = 0
  · subst hz; exact pick
  · have hb : (deep == 0) = false := by simpa using hz
    rw [hb]
    refine And.intro rfl (L_wind (by decide) (by decide +kernel) fun n n0 n1 => ?_)
    show (if decide (n < 6) = true then mRet _ _ _ else mNext _ _)
    split
    · exact pick
    · show t_law_any_value_2 rec (endM Q Ex) (EvV deep S none none)
      refine And.intro rfl (L_wind (by decide) (by decide +kernel) fun m m0 m1 => ?_)
      refine And.intro (by omega) (And.intro (by omega) ?_)
      have hlen : (rngD 0 m.toNat).length = m.toNat := by unfold rngD; simp
      refine lcL_all (fun p => Bd 100 k p) _ [] (by rw [hlen]; show 0 + m.toNat < sizeLine; have : sizeLine = 16777216 := sizeLine_eq; omega) (fun d hd K1 K2 q => ?_) fun ps hps hP => ?_
      · exact And.intro rfl (hrec hz _ _ fun d hd => q d hd)
      · rw [hlen] at hps
        refine And.intro rfl (And.intro rfl (L_wind (by decide) (by decide +kernel) fun n n0 n1 => w_c (fEq_ii ?_)))
        show (if (n == 0) = true then _ else _)
        split
        · exact And.intro rfl (h _ (Bd.lst hP (by simp; omega)))
        · exact And.intro rfl (h _ (Bd.tup hP (by simp; omega)))
def menuL : List Dt := [.none, .bool true, .bool false, .int 0, .int 1, .int 2, .int 8, .int 9, .int (-1), .int (10 ^ 30), .int (10 ^ 30 + 1), .str "", .str "at", .str "between", .str "rope 1 2", .tuple [], .list [], .tuple [.int 0, .int 1], .tuple [.int 1, .int 1, .int 2], .tuple [.int 0], .tuple [.int 1],
  .tuple [.str "at", .int 0, .bool true], .tuple [.str "beside", .int 0, .bool true], .tuple [.str "beside", .int 1, .bool false], .tuple [.str "between", .int 0, .int 8, .int 1], .tuple [.str "between", .int 1, .int 1, .int 1], .tuple [.int 6, .tuple [.int 0, .int 1, .int 3]], .list [.int 0, .int 1], .tuple [.int 2, .tuple [.int 0, .int 1]], .tuple [.int 0, .int 2, .int 1]]
theorem menu_bd : ∀ d ∈ menuL, Bd 100 2 d := by
  have : menuL.all (bdB 100 2) = true := by decide +kernel
  exact fun d hd => bd_of (List.all_eq_true.mp this d hd)
theorem L_any_value (n : Nat) : ∀ (deep : Nat) (Q : Dv → Prop) (Ex : Exn → Prop), (∀ d, Bd 100 (deep + 2) d → Q (.d d)) → F_law_any_value (deep + n + 1) [.coil, .d (.int (deep : Nat))] Q Ex
  | deep, Q, Ex, h => by
    refine And.intro ⟨by decide, by decide, by decide⟩ (And.intro ⟨by decide, by decide, by decide⟩ (And.intro rfl ?_))
    refine And.intro (sz16 (by decide)) (And.intro rfl ?_)
    refine And.intro (sz16 (by decide)) (And.intro rfl ?_)
    show t_law_any_value_3 (F_law_any_value (deep + n)) (endM Q Ex) (EvV deep menuL none none)
    refine V3 (k := deep + 1) (by simp [menuL]) (by decide) (fun d hd => (menu_bd d hd).mono (Nat.le_refl _) (by omega)) (fun hz Q Ex hq => ?_) h
    match deep, hz with
    | m + 1, _ =>
      have e : ((m + 1 : Nat) : Int) - 1 = (m : Nat) := by omega
      rw [e, show m + 1 + n = m + n + 1 by omega]
      exact L_any_value n m Q Ex hq
theorem L_any_value1 {Q : Dv → Prop} {Ex : Exn → Prop} (h : ∀ d, Bd 100 3 d → Q (.d d)) : F_law_any_value 5 [.coil, .d (.int 1)] Q Ex := L_any_value 3 1 Q Ex h
/-! ### values bent at one place -/
abbrev EvB (v : Dt) (at_ way near : Option Dv) : Ks.Env := [some .coil, some (.d v), at_, way, near]
theorem B1 {v : Dt} {a w : Option Dv} {ds : List Dt} (h0 : ds ≠ []) (h1 : ds.length ≤ 1000) (h : ∀ d ∈ ds, Q (.d d)) : t_law_bent_1 rec (endM Q Ex) (EvB v a w (some (.d (.list ds)))) :=
  And.intro rfl (L_pick (.inl rfl) h0 h1 fun d hd => And.intro rfl (h d hd))
theorem pow_two {n : Nat} (h : 100 ≤ n) {i : Int} (hi : i.natAbs < 2 ^ n) : i.natAbs + 10 ^ 30 < 2 ^ (n + 2) := by
  have a : (2 : Nat) ^ 100 ≤ 2 ^ n := Nat.pow_le_pow_right (by decide) h
  have b : (2 : Nat) ^ (n + 2) = 2 ^ n * 4 := by rw [Nat.pow_add]
  have c : (10 : Nat) ^ 30 < 2 ^ 100 := by decide
  omega
theorem B2 {v d1 d2 : Dt} {n k : Nat} {a w : Option Dv} (hv : Bd n k v) (h100 : 100 ≤ n) (h1000 : n ≤ 1000) (h1 : Bd 100 3 d1) (h2 : Bd 100 3 d2) (h : ∀ d, Bd (n + 2) (k + 3) d → Q (.d d)) : t_law_bent_2 rec (endM Q Ex) (EvB v a w (some (.d (.list [d1, d2])))) := by
  have o1 := h1.mono (m := n + 2) (j := k + 3) (by omega) (by omega)
  have o2 := h2.mono (m := n + 2) (j := k + 3) (by omega) (by omega)
  have szl : sizeLine = 16777216 := sizeLine_eq
  have done : t_law_bent_1 rec (endM Q Ex) (EvB v a w (some (.d (.list [d1, d2])))) := by
    refine B1 (by simp) (by simp) fun d hd => h d ?_
    simp only [List.mem_cons, List.not_mem_nil, or_false] at hd
    rcases hd with rfl | rfl
    · exact o1
    · exact o2
  refine w_seq (w_if (mB_isi rfl hv.1 (by decide +kernel) ?_))
  cases v with
  | dict x => exact absurd hv.1 (by simp [PyData.canLay0])
  | str x =>
    obtain ⟨s1, s2⟩ := hv.of_str
    have l1 : (Str.ofString "s").length = 1 := by decide +kernel
    have l2 : x.length + (Str.ofString "s").length ≤ sizeLine := by omega
    refine And.intro l2 (And.intro (sz16 (by simp)) (And.intro rfl ?_))
    refine B1 (rec := rec) (v := .str x) (a := a) (w := w) (by simp) (by simp) fun d hd => h d ?_
    simp only [List.cons_append, List.nil_append, List.mem_cons, List.not_mem_nil, or_false] at hd
    have lit : ∀ s : Dt, bdB 100 3 s = true → Bd (n + 2) (k + 3) s := fun s hs => (bd_of hs).mono (by omega) (by omega)
    rcases hd with rfl | rfl | rfl | rfl | rfl | rfl | rfl
    · exact o1
    · exact o2
    · exact lit _ (by decide +kernel)
    · exact lit _ (by decide +kernel)
    · exact lit _ (by decide +kernel)
    · exact lit _ (by decide +kernel)
    · refine Bd.str (strOk_app s1 (by decide +kernel)) ?_
      have : (x ++ Str.ofString "s").length = x.length + (Str.ofString "s").length := by
        show (x.cps ++ (Str.ofString "s").cps).size = x.cps.size + (Str.ofString "s").cps.size
        rw [Array.size_append]
      omega
  | int x =>
    have hx := hv.of_int
    have hl := hv.log2 (by omega)
    refine w_if (mB_isi rfl hv.1 (by decide +kernel) ?_)
    refine And.intro (by omega) (And.intro ⟨by decide, by decide, by decide⟩ (And.intro (sz16 (by simp)) (And.intro rfl ?_)))
    refine B1 (rec := rec) (v := .int x) (a := a) (w := w) (by simp) (by simp) fun d hd => h d ?_
    have big := pow_two h100 hx
    simp only [List.cons_append, List.nil_append, List.mem_cons, List.not_mem_nil, or_false] at hd
    rcases hd with rfl | rfl | rfl | rfl | rfl | rfl | rfl | rfl
    · exact o1
    · exact o2
    · exact Bd.int (by omega)
    · exact Bd.int (by omega)
    · exact Bd.bool
    · exact Bd.str (strOk_of _) (by have := PyProof.Rows.int_text_len_1921 (i := x) (by omega); omega)
    · exact Bd.int (by omega)
    · exact Bd.int (by show ((10 : Int) ^ (30 : Int).toNat + x).natAbs < _; have : (10 : Int) ^ (30 : Int).toNat = 10 ^ 30 := rfl; omega)
  | bool b =>
    refine w_if (mB_isi rfl hv.1 (by decide +kernel) ?_)
    refine And.intro ⟨by decide, by decide, by decide⟩ (And.intro (sz16 (by simp)) (And.intro rfl ?_))
    refine B1 (rec := rec) (v := .bool b) (a := a) (w := w) (by simp) (by simp) fun d hd => h d ?_
    have small : ∀ i : Int, i.natAbs < 2 ^ 100 → Bd (n + 2) (k + 3) (.int i) := fun i hi => (Bd.int (n := 100) (k := 3) hi).mono (by omega) (by omega)
    simp only [List.cons_append, List.nil_append, List.mem_cons, List.not_mem_nil, or_false] at hd
    have e2 : b2 b = 0 ∨ b2 b = 1 := by cases b <;> simp [b2]
    rcases hd with rfl | rfl | rfl | rfl | rfl | rfl | rfl | rfl
    · exact o1
    · exact o2
    · exact small _ (by omega)
    · exact small _ (by omega)
    · exact Bd.bool
    · refine Bd.str ?_ ?_
      · cases b <;> decide +kernel
      · cases b
        · show ("False" : Str).length ≤ _
          have : ("False" : Str).length = 5 := by decide +kernel
          omega
        · show ("True" : Str).length ≤ _
          have : ("True" : Str).length = 4 := by decide +kernel
          omega
    · exact small _ (by omega)
    · exact small _ (by show ((10 : Int) ^ (30 : Int).toNat + b2 b).natAbs < _; have : (10 : Int) ^ (30 : Int).toNat = 10 ^ 30 := rfl; omega)
  | none =>
    refine iteF' rfl (w_if (mB_isi rfl hv.1 (by decide +kernel) (iteF' rfl (w_nx ?_))))
    exact done
  | list x =>
    refine iteF' rfl (w_if (mB_isi rfl hv.1 (by decide +kernel) (iteF' rfl (w_nx ?_))))
    exact done
  | tuple x =>
    refine iteF' rfl (w_if (mB_isi rfl hv.1 (by decide +kernel) (iteF' rfl (w_nx ?_))))
    exact done
theorem cut_mem {ds : List Dt} {lo hi : Option Int} {d : Dt} (h : d ∈ Ks.cutD ds lo hi) : d ∈ ds := by
  unfold Ks.cutD at h
  exact List.mem_of_mem_drop (List.mem_of_mem_take h)
/-- two cuts at one place are no longer than the whole and one more -/
theorem cut_two {ds : List Dt} {a : Int} (h0 : 0 ≤ a) (h1 : a < (ds.length : Nat)) : (Ks.cutD ds none (some a)).length = a.toNat ∧ (Ks.cutD ds (some a) none).length = ds.length - a.toNat ∧ (Ks.cutD ds none (some (a + 1))).length = a.toNat + 1 ∧ (Ks.cutD ds (some (a + 1)) none).length = ds.length - (a.toNat + 1) := by
  obtain ⟨j, rfl⟩ := Int.eq_ofNat_of_zero_le h0
  have hj : j < ds.length := by omega
  have e1 : ((j : Nat) : Int) + 1 = ((j + 1 : Nat) : Int) := by omega
  rw [e1]
  unfold Ks.cutD
  simp only [HT.sIx_none, HT.sIx_nat, List.length_take, List.length_drop, Int.toNat_natCast]
  omega
theorem eqI_c {a c : Int} {i : Nat} {m n : MS} {B : Me} {ρ : Ks.Env} (e : ρ[i]? = some (some (.d (.int a)))) (h1 : a = c → m B ρ) (h2 : a ≠ c → n B ρ) : mIfS (mB (mBin fEq (mVar i) (mC (.int c)))) m n B ρ := by
  refine w_if (mB_eqI e ?_)
  by_cases hc : a = c
  · exact iteT' (by simpa using hc) (h1 hc)
  · exact iteF' (by simpa using hc) (h2 hc)
theorem eqv_nilT (ds : List Dt) : PyData.eqv (.tuple ds) (.tuple []) = ds.isEmpty := by
  cases ds with
  | nil => unfold PyData.eqv PyData.eqvAll; rfl
  | cons a r => unfold PyData.eqv PyData.eqvAll; rfl
theorem L_bent {n : Nat} (h100 : 100 ≤ n) (h1000 : n ≤ 1000) : ∀ (fuel k : Nat) (v : Dt) (Q : Dv → Prop) (Ex : Exn → Prop), Bd n k v → k < fuel → k ≤ 60 → (∀ d, Bd (n + 2) (k + 3) d → Q (.d d)) → F_law_bent fuel [.coil, .d v] Q Ex
  | 0, k, v, Q, Ex, _, hf, _, _ => by omega
  | fuel + 1, k, v, Q, Ex, hv, hf, h60, h => by
    show b_law_bent (F_law_bent fuel) (endM Q Ex) (EvB v none none none)
    have szl : sizeLine = 16777216 := sizeLine_eq
    have leaf : mSeq (mSet 4 (mVal (mF (mLst (mCons (mCall (F_law_any_value 5) (mCons (mVar 0) (mCons (mC (.int 1)) mNil))) (mCons (mCall (F_law_any_value 5) (mCons (mVar 0) (mCons (mC (.int 1)) mNil))) mNil)))))) (t_law_bent_2 (F_law_bent fuel)) { endM Q Ex with nx := t_law_bent_8 (F_law_bent fuel) (endM Q Ex) } (EvB v none none none) :=
      And.intro rfl (L_any_value1 fun d1 h1 => And.intro rfl (L_any_value1 fun d2 h2 => And.intro rfl (B2 (rec := F_law_bent fuel) hv h100 h1000 h1 h2 h)))
    refine w_seq (w_if (w_or (w_not (mB_isi rfl hv.1 (by decide +kernel) ?_))))
    cases v with
    | dict x => exact absurd hv.1 (by simp [PyData.canLay0])
    | none => exact leaf
    | bool x => exact leaf
    | int x => exact leaf
    | str x => exact leaf
    | list x => exact leaf
    | tuple ds =>
      obtain ⟨k1, hm, hl⟩ := hv.of_tup
      refine w_or (w_B (w_bin (w_var (x := .d (.tuple ds)) rfl ?_)))
      refine And.intro (hv.shaped (by omega)) (And.intro (by decide +kernel) ?_)
      show (if PyData.eqv (.tuple ds) (.tuple []) = true then _ else _)
      rw [eqv_nilT]
      cases he : ds.isEmpty with
      | true => exact leaf
      | false =>
        have hp : 0 < ds.length := by
          cases ds with
          | nil => cases he
          | cons _ _ => simp
        refine iteF (w_B (w_bin (w_call (w_cons (w_var (x := .coil) rfl (w_cons (w_c (w_nil (And.intro rfl (L_wind (by decide) (by decide +kernel) fun m m0 m1 => w_c (fEq_ii ?_)))))))))))
        show (if (m == 0) = true then _ else _)
        split
        · exact leaf
        · have lg : ((ds.length : Nat) : Int).natAbs.log2 < 9000 := by
            have : ((ds.length : Nat) : Int).natAbs = ds.length := by omega
            rw [this]
            exact Nat.lt_of_le_of_lt (Nat.log2_le_self _) (by omega)
          refine w_nx ?_
          show t_law_bent_8 (F_law_bent fuel) (endM Q Ex) (EvB (.tuple ds) none none none)
          refine And.intro rfl (L_wind (by omega) lg fun at_ a0 a1 => And.intro rfl ?_)
          refine And.intro rfl (L_wind (by decide) (by decide +kernel) fun way w0 w1 => And.intro rfl ?_)
          show t_law_bent_7 (F_law_bent fuel) (endM Q Ex) (EvB (.tuple ds) (some (.d (.int at_))) (some (.d (.int way))) none)
          obtain ⟨c1, c2, c3, c4⟩ := cut_two (ds := ds) a0 a1
          have tup : ∀ es : List Dt, (∀ d ∈ es, Bd (n + 2) (k + 2) d) → es.length ≤ n + 2 → Q (.d (.tuple es)) := fun es h1 h2 => h _ (Bd.tup h1 h2)
          have old : ∀ d ∈ ds, Bd (n + 2) (k + 2) d := fun d hd => (hm d hd).mono (by omega) (by omega)
          have cm : ∀ lo hi, ∀ d ∈ Ks.cutD ds lo hi, Bd (n + 2) (k + 2) d := fun lo hi d hd => old d (cut_mem hd)
          have two : ∀ lo hi lo' hi', (Ks.cutD ds lo hi).length + (Ks.cutD ds lo' hi').length ≤ n + 2 → (Ks.cutD ds lo hi).length + (Ks.cutD ds lo' hi').length ≤ sizeLine ∧ (Dv.d (.tuple (Ks.cutD ds lo hi ++ Ks.cutD ds lo' hi'))).isOwn = false ∧ Q (.d (.tuple (Ks.cutD ds lo hi ++ Ks.cutD ds lo' hi'))) := fun lo hi lo' hi' hs =>
            ⟨by omega, rfl, tup _ (fun d hd => (List.mem_append.mp hd).elim (cm _ _ d) (cm _ _ d)) (by rw [List.length_append]; exact hs)⟩
          refine w_seq (eqI_c (a := way) rfl (fun _ => two _ _ _ _ (by omega)) fun _ => ?_)
          show t_law_bent_6 (F_law_bent fuel) (endM Q Ex) (EvB (.tuple ds) (some (.d (.int at_))) (some (.d (.int way))) none)
          refine w_seq (eqI_c (a := way) rfl (fun _ => two _ _ _ _ (by omega)) fun _ => ?_)
          show t_law_bent_5 (F_law_bent fuel) (endM Q Ex) (EvB (.tuple ds) (some (.d (.int at_))) (some (.d (.int way))) none)
          refine w_seq (eqI_c (a := way) rfl (fun _ => And.intro rfl (tup _ (fun d hd => old d (List.mem_reverse.mp hd)) (by rw [List.length_reverse]; omega))) fun _ => ?_)
          show t_law_bent_4 (F_law_bent fuel) (endM Q Ex) (EvB (.tuple ds) (some (.d (.int at_))) (some (.d (.int way))) none)
          refine w_seq (eqI_c (a := way) rfl (fun _ => And.intro rfl (h _ (Bd.lst old (by omega)))) fun _ => ?_)
          show t_law_bent_3 (F_law_bent fuel) (endM Q Ex) (EvB (.tuple ds) (some (.d (.int at_))) (some (.d (.int way))) none)
          obtain ⟨x, hx, _, e0⟩ := atI_int (ns := ds) a0 a1
          refine Exists.intro _ (And.intro e0 (And.intro rfl (L_bent h100 h1000 fuel (k - 1) x _ _ (hm x hx) (by omega) (by omega) fun d hd => ?_)))
          refine And.intro (by show _ + 1 ≤ sizeLine; omega) (And.intro (by show (_ ++ [_]).length + _ ≤ sizeLine; rw [List.length_append]; show _ + 1 + _ ≤ _; omega) (And.intro rfl (tup _ (fun z hz => ?_) (by rw [List.length_append, List.length_append]; show _ + 1 + _ ≤ _; omega))))
          rcases List.mem_append.mp hz with hz | hz
          · rcases List.mem_append.mp hz with hz | hz
            · exact cm _ _ z hz
            · obtain rfl : z = d := by simpa using hz
              exact hd.mono (Nat.le_refl _) (by omega)
          · exact cm _ _ z hz
end
end Lw
end

section
set_option Elab.async false
set_option linter.all false
set_option maxRecDepth 100000
set_option maxHeartbeats 1000000
namespace Lw
open PySem PySem.Spec PyProof.Rows L2 Ks

def isWhole (lo hi : Int) : Dt → Bool
  | .int x => decide (lo ≤ x) && decide (x ≤ hi)
  | _ => false
section
variable {Q : Dv → Prop} {Ex : Exn → Prop}
theorem L_is_integer {d : Dt} {lo hi : Int} (hd : d.canLay0 = true) (h : Q (.d (.bool (isWhole lo hi d)))) : F_is_integer [.d d, .d (.int lo), .d (.int hi)] Q Ex := by
  show mRet (mAndV (mCB fIsI (mCons (mVar 0) (mCons (mTy "int") mNil))) (mAndV (mNotV (mCB fIsI (mCons (mVar 0) (mCons (mTy "bool") mNil)))) (mChain fLe fLe (mVar 1) (mVar 0) (mVar 2)))) (endM Q Ex) [some (.d d), some (.d (.int lo)), some (.d (.int hi))]
  have no : ∀ t, tyD (.d d) = some t → isiB t "int" = some false → Q (.d (.bool false)) → mRet (mAndV (mCB fIsI (mCons (mVar 0) (mCons (mTy "int") mNil))) (mAndV (mNotV (mCB fIsI (mCons (mVar 0) (mCons (mTy "bool") mNil)))) (mChain fLe fLe (mVar 1) (mVar 0) (mVar 2)))) (endM Q Ex) [some (.d d), some (.d (.int lo)), some (.d (.int hi))] := fun t h1 h2 q => by
    exact fIsI_of (t := t) (K := fun x => match x with
      | .d (.bool c) => if c = true then (mAndV (mNotV (mCB fIsI (mCons (mVar 0) (mCons (mTy "bool") mNil)))) (mChain fLe fLe (mVar 1) (mVar 0) (mVar 2))) [some (.d d), some (.d (.int lo)), some (.d (.int hi))] (fun x => x.isOwn = false ∧ Q x) Ex else (Dv.d (.bool false)).isOwn = false ∧ Q (.d (.bool false))
      | _ => False) h1 h2 (by decide +kernel) (iteF (And.intro rfl q))
  cases d with
  | none => exact no "NoneType" rfl (by decide +kernel) h
  | str x => exact no "str" rfl (by decide +kernel) h
  | list x => exact no "list" rfl (by decide +kernel) h
  | tuple x => exact no "tuple" rfl (by decide +kernel) h
  | dict x => simp [PyData.canLay0] at hd
  | bool b =>
    refine fIsI_of (x := .d (.bool b)) (T := "int") (t := "bool") (b := true) (K := fun x => match x with
      | .d (.bool c) => if c = true then (mAndV (mNotV (mCB fIsI (mCons (mVar 0) (mCons (mTy "bool") mNil)))) (mChain fLe fLe (mVar 1) (mVar 0) (mVar 2))) [some (.d (.bool b)), some (.d (.int lo)), some (.d (.int hi))] (fun x => x.isOwn = false ∧ Q x) Ex else (Dv.d (.bool false)).isOwn = false ∧ Q (.d (.bool false))
      | _ => False) rfl (by decide +kernel) (by decide +kernel) (iteT ?_)
    exact fIsI_of (x := .d (.bool b)) (T := "bool") (t := "bool") (b := true) (K := fun x => match x with
      | .d (.bool c) => (if (!c) = true then (mChain fLe fLe (mVar 1) (mVar 0) (mVar 2)) [some (.d (.bool b)), some (.d (.int lo)), some (.d (.int hi))] (fun x => x.isOwn = false ∧ Q x) Ex else (Dv.d (.bool false)).isOwn = false ∧ Q (.d (.bool false)))
      | _ => False) rfl (by decide +kernel) (by decide +kernel) (iteF (And.intro rfl h))
  | int x =>
    refine fIsI_of (x := .d (.int x)) (T := "int") (t := "int") (b := true) (K := fun y => match y with
      | .d (.bool c) => if c = true then (mAndV (mNotV (mCB fIsI (mCons (mVar 0) (mCons (mTy "bool") mNil)))) (mChain fLe fLe (mVar 1) (mVar 0) (mVar 2))) [some (.d (.int x)), some (.d (.int lo)), some (.d (.int hi))] (fun x => x.isOwn = false ∧ Q x) Ex else (Dv.d (.bool false)).isOwn = false ∧ Q (.d (.bool false))
      | _ => False) rfl (by decide +kernel) (by decide +kernel) (iteT ?_)
    refine fIsI_of (x := .d (.int x)) (T := "bool") (t := "int") (b := false) (K := fun y => match y with
      | .d (.bool c) => (if (!c) = true then (mChain fLe fLe (mVar 1) (mVar 0) (mVar 2)) [some (.d (.int x)), some (.d (.int lo)), some (.d (.int hi))] (fun x => x.isOwn = false ∧ Q x) Ex else (Dv.d (.bool false)).isOwn = false ∧ Q (.d (.bool false)))
      | _ => False) rfl (by decide +kernel) (by decide +kernel) (iteT ?_)
    show (if decide (lo ≤ x) = true then ((Dv.d (.bool (decide (x ≤ hi)))).isOwn = false ∧ Q (.d (.bool (decide (x ≤ hi))))) else ((Dv.d (.bool false)).isOwn = false ∧ Q (.d (.bool false))))
    have e : isWhole lo hi (.int x) = (decide (lo ≤ x) && decide (x ≤ hi)) := rfl
    rw [e] at h
    cases hc : decide (lo ≤ x) with
    | true => rw [hc, Bool.true_and] at h; exact iteT (And.intro rfl h)
    | false => rw [hc, Bool.false_and] at h; exact iteF (And.intro rfl h)
theorem L_law_whole {d : Dt} {lo hi : Int} (hd : d.canLay0 = true) (h : Q (.d (.bool (isWhole lo hi d)))) : F_law_whole [.d d, .d (.int lo), .d (.int hi)] Q Ex := L_is_integer hd h
end

def isTup : Dt → Bool
  | .tuple _ => true
  | _ => false
theorem blsOf_map (f : Dt → Bool) : ∀ ds : List Dt, blsOf (ds.map fun d => .bool (f d)) = some (ds.map f)
  | [] => rfl
  | d :: ds => by
    show (blsOf (ds.map fun d => .bool (f d))).map (f d :: ·) = _
    rw [blsOf_map f ds]; rfl
theorem bd_mem {n k : Nat} {ds : List Dt} (h : Bd n k (.tuple ds)) : (∀ d ∈ ds, d.canLay0 = true ∧ d.depth ≤ k) ∧ ds.length ≤ n :=
  ⟨fun d hd => ⟨(h.of_tup.2.1 d hd).1, Nat.le_trans (h.of_tup.2.1 d hd).2.1 (Nat.sub_le _ _)⟩, h.of_tup.2.2⟩
section
variable {Q : Dv → Prop} {Ex : Exn → Prop}
theorem fIsI_tup {d : Dt} {K : Dv → Prop} (hd : d.canLay0 = true) (h : K (.d (.bool (isTup d)))) : fIsI [.d d, .ty "tuple"] K := by
  cases d with
  | none => exact fIsI_of (t := "NoneType") (b := false) rfl (by decide +kernel) (by decide +kernel) h
  | str x => exact fIsI_of (t := "str") (b := false) rfl (by decide +kernel) (by decide +kernel) h
  | list x => exact fIsI_of (t := "list") (b := false) rfl (by decide +kernel) (by decide +kernel) h
  | tuple x => exact fIsI_of (t := "tuple") (b := true) rfl (by decide +kernel) (by decide +kernel) h
  | dict x => simp [PyData.canLay0] at hd
  | bool x => exact fIsI_of (t := "bool") (b := false) rfl (by decide +kernel) (by decide +kernel) h
  | int x => exact fIsI_of (t := "int") (b := false) rfl (by decide +kernel) (by decide +kernel) h
def allWhole (lo hi : Int) : Dt → Bool
  | .tuple ds => ds.all (isWhole lo hi)
  | _ => false
theorem L_are_numbers {d : Dt} {lo hi : Int} (hd : Bd 300 60 d) (h : Q (.d (.bool (allWhole lo hi d)))) : F_are_numbers [.d d, .d (.int lo), .d (.int hi)] Q Ex := by
  have ly := hd.1
  refine fIsI_tup (K := fun x => match x with
    | .d (.bool c) => if c = true then (mCB fAll (mCons (mF (mLc (mItemsA (mVar 0)) (fName 3) mYes (mCall F_is_integer (mCons (mVar 3) (mCons (mVar 1) (mCons (mVar 2) mNil)))) [3])) mNil)) [some (.d d), some (.d (.int lo)), some (.d (.int hi)), none] (fun x => x.isOwn = false ∧ Q x) Ex else (Dv.d (.bool false)).isOwn = false ∧ Q (.d (.bool false))
    | _ => False) ly ?_
  show (if isTup d = true then _ else _)
  cases d with
  | tuple ds =>
    obtain ⟨hm, hl⟩ := bd_mem hd
    refine iteT ?_
    show lcL (fName 3) mYes (mCall F_is_integer (mCons (mVar 3) (mCons (mVar 1) (mCons (mVar 2) mNil)))) [some (.d (.tuple ds)), some (.d (.int lo)), some (.d (.int hi)), none] _ ds []
    refine lcL_map (fun d => .bool (isWhole lo hi d)) ds ?_ (fun d hd K1 K2 k => ?_) ?_
    · have : sizeLine = 16777216 := sizeLine_eq
      omega
    · exact And.intro rfl (L_is_integer (hm d hd).1 k)
    · show match (some (ds.map fun d => PyData.bool (isWhole lo hi d))).bind blsOf with
        | some bs => (Dv.d (.bool (bs.all id))).isOwn = false ∧ Q (.d (.bool (bs.all id)))
        | none => False
      rw [Option.bind_some, blsOf_map]
      refine And.intro rfl ?_
      have e : (ds.map (isWhole lo hi)).all id = ds.all (isWhole lo hi) := by rw [List.all_map]; rfl
      rw [e]
      exact h
  | none => exact iteF (And.intro rfl h)
  | bool _ => exact iteF (And.intro rfl h)
  | int _ => exact iteF (And.intro rfl h)
  | str _ => exact iteF (And.intro rfl h)
  | list _ => exact iteF (And.intro rfl h)
  | dict _ => exact iteF (And.intro rfl h)
theorem all_ints {lo hi : Int} : ∀ {ds : List Dt}, ds.all (isWhole lo hi) = true → ∃ ns : List Int, ds = ilst ns ∧ ∀ n ∈ ns, lo ≤ n ∧ n ≤ hi
  | [], _ => ⟨[], rfl, fun _ h => nomatch h⟩
  | d :: ds, h => by
    rw [List.all_cons, Bool.and_eq_true] at h
    obtain ⟨ns, rfl, h2⟩ := all_ints h.2
    cases d with
    | int x =>
      have h1 : (decide (lo ≤ x) && decide (x ≤ hi)) = true := h.1
      simp at h1
      refine ⟨x :: ns, rfl, fun n hn => ?_⟩
      rcases List.mem_cons.mp hn with rfl | hn
      · exact h1
      · exact h2 n hn
    | _ => exact absurd h.1 (by simp [isWhole])
end

def riseB (least : Int) (ns : List Int) : Bool := (ns.zip (ns.drop 1)).all fun p => decide (least ≤ p.2 - p.1)
theorem zipD_ilst : ∀ as bs : List Int, zipD (ilst as) (ilst bs) = (as.zip bs).map fun p => .tuple [.int p.1, .int p.2]
  | [], bs => by cases bs <;> rfl
  | a :: as, [] => rfl
  | a :: as, b :: bs => by
    show PyData.tuple [.int a, .int b] :: zipD (ilst as) (ilst bs) = _
    rw [zipD_ilst as bs]; rfl
theorem cut_tail (ns : List Int) : Ks.cutD (ilst ns) (some 1) none = ilst (ns.drop 1) := by
  unfold Ks.cutD HT.sIx
  cases ns with
  | nil => rfl
  | cons a r =>
    have e : (ilst (a :: r)).length = r.length + 1 := by rw [ilst_len]; rfl
    rw [e]
    show ((ilst (a :: r)).drop _).take _ = ilst r
    have h1 : (min (1 : Int) ((r.length + 1 : Nat) : Int)).toNat = 1 := by omega
    simp only [ilst, List.map_cons]
    show (List.drop (HT.sIx (r.length + 1) 0 (some ((1 : Nat) : Int))) (PyData.int a :: r.map PyData.int)).take (HT.sIx (r.length + 1) (r.length + 1) none - HT.sIx (r.length + 1) 0 (some ((1 : Nat) : Int))) = r.map PyData.int
    rw [HT.sIx_nat, HT.sIx_none, Nat.min_eq_left (by omega)]
    show (r.map PyData.int).take (r.length + 1 - 1) = _
    exact List.take_of_length_le (by simp)
def gapB (least : Int) : Dt → Dt
  | .tuple [.int a, .int b] => .bool (decide (least ≤ b - a))
  | x => x
section
variable {Q : Dv → Prop} {Ex : Exn → Prop}
theorem L_rises {ns : List Int} {least : Int} (hl : ns.length ≤ 1000) (h : Q (.d (.bool (riseB least ns)))) : F_rises [.d (.tuple (ilst ns)), .d (.int least)] Q Ex := by
  have e0 := cut_tail ns
  show lcL (fTup2 (fName 2) (fName 3)) mYes (mBin fGe (mBin fSub (mVar 3) (mVar 2)) (mVar 1)) [some (.d (.tuple (ilst ns))), some (.d (.int least)), none, none] _ (zipD (ilst ns) (Ks.cutD (ilst ns) (some 1) none)) []
  rw [e0, zipD_ilst]
  refine lcL_map (gapB least) _ ?_ (fun d hd K1 K2 k => ?_) ?_
  · rw [List.length_map, List.length_zip, List.length_drop]
    have : sizeLine = 16777216 := sizeLine_eq
    omega
  · obtain ⟨p, hp, rfl⟩ := List.mem_map.mp hd
    exact k
  · have e : ((ns.zip (ns.drop 1)).map fun p : Int × Int => PyData.tuple [.int p.1, .int p.2]).map (gapB least) = (ns.zip (ns.drop 1)).map fun p : Int × Int => PyData.bool (decide (least ≤ p.2 - p.1)) := by
      rw [List.map_map]; rfl
    rw [e]
    have e2 : ∀ l : List (Int × Int), blsOf (l.map fun p => PyData.bool (decide (least ≤ p.2 - p.1))) = some (l.map fun p => decide (least ≤ p.2 - p.1)) := fun l => by
      induction l with
      | nil => rfl
      | cons p l ih =>
        show (blsOf (l.map fun p => PyData.bool (decide (least ≤ p.2 - p.1)))).map _ = _
        rw [ih]; rfl
    show match (some ((ns.zip (ns.drop 1)).map fun p => PyData.bool (decide (least ≤ p.2 - p.1)))).bind blsOf with
      | some bs => (Dv.d (.bool (bs.all id))).isOwn = false ∧ Q (.d (.bool (bs.all id)))
      | none => False
    rw [Option.bind_some, e2]
    refine And.intro rfl ?_
    have e3 : ((ns.zip (ns.drop 1)).map fun p => decide (least ≤ p.2 - p.1)).all id = riseB least ns := by
      unfold riseB
      rw [List.all_map]; rfl
    rw [e3]
    exact h
/-- the ints of a rope -/
def GoodI (ns : List Int) : Prop := (∀ n ∈ ns, 0 ≤ n ∧ n ≤ 10 ^ 30) ∧ 2 ≤ ns.length ∧ ns.length ≤ 9 ∧ ns[0]? = some 0 ∧ riseB 1 ns = true
def IsR (d : Dt) : Prop := ∃ ns, d = .tuple (ilst ns) ∧ GoodI ns
theorem ilst_inj : ∀ {xs ys : List Int}, ilst xs = ilst ys → xs = ys
  | [], [], _ => rfl
  | [], y :: ys, h => by cases h
  | x :: xs, [], h => by cases h
  | x :: xs, y :: ys, h => by
    have h1 : (PyData.int x :: ilst xs) = PyData.int y :: ilst ys := h
    injection h1 with h2 h3
    injection h2 with h2
    rw [h2, ilst_inj h3]
theorem isR_all {d : Dt} (h : IsR d) : allWhole 0 (10 ^ 30) d = true := by
  obtain ⟨ns, rfl, h1, _⟩ := h
  show (ilst ns).all (isWhole 0 (10 ^ 30)) = true
  rw [List.all_eq_true]
  intro x hx
  obtain ⟨n, hn, rfl⟩ := ilst_map_mem hx
  have := h1 n hn
  show (decide (0 ≤ n) && decide (n ≤ 10 ^ 30)) = true
  rw [decide_eq_true this.1, decide_eq_true this.2]; rfl
theorem all_tup {lo hi : Int} {d : Dt} (h : allWhole lo hi d = true) : ∃ ns : List Int, d = .tuple (ilst ns) ∧ ∀ n ∈ ns, lo ≤ n ∧ n ≤ hi := by
  cases d with
  | tuple ds =>
    obtain ⟨ns, rfl, h1⟩ := all_ints (show ds.all (isWhole lo hi) = true from h)
    exact ⟨ns, rfl, h1⟩
  | _ => simp [allWhole] at h
theorem head_ix {ns : List Int} (h : 2 ≤ ns.length) : ∃ n0, ns[0]? = some n0 ∧ atI (ilst ns) 0 = some (.int n0) := by
  cases ns with
  | nil => simp at h
  | cons a r => exact ⟨a, rfl, atI_nat (xs := ilst (a :: r)) (j := 0) rfl⟩
theorem L_is_rope {d : Dt} (hd : Bd 300 60 d) (h : ∀ b : Bool, (b = true ↔ IsR d) → Q (.d (.bool b))) : F_is_rope [.d d] Q Ex := by
  show b_is_rope (endM Q Ex) [some (.d d)]
  refine w_seq (w_if (w_or (w_not (w_B (w_call (w_cons (w_var (x := .d d) rfl (w_cons (w_c ?_)))))))))
  refine w_cons (w_c (w_nil (And.intro rfl (L_are_numbers hd ?_))))
  show (if (!allWhole 0 1000000000000000000000000000000 d) = true then _ else _)
  cases ha : allWhole 0 1000000000000000000000000000000 d with
  | false =>
    refine iteT (iteT (And.intro rfl (h false ⟨(fun z => nomatch z), fun z => ?_⟩)))
    have this : allWhole 0 1000000000000000000000000000000 d = true := isR_all z
    rw [ha] at this; cases this
  | true =>
    obtain ⟨ns, rfl, hb⟩ := all_tup ha
    refine iteF (w_not (w_B ?_))
    have hl : (ilst ns).length = ns.length := ilst_len ns
    show (if decide ((2 : Int) ≤ (((ilst ns).length : Nat) : Int)) = true then (if (!(decide ((((ilst ns).length : Nat) : Int) ≤ 9))) = true then _ else _) else (if (!false) = true then _ else _))
    rw [hl]
    by_cases h2 : 2 ≤ ns.length
    · have e2 : decide ((2 : Int) ≤ ((ns.length : Nat) : Int)) = true := by simp; omega
      rw [e2]
      refine iteT ?_
      by_cases h9 : ns.length ≤ 9
      · have e9 : decide (((ns.length : Nat) : Int) ≤ 9) = true := by simp; omega
        rw [e9]
        refine iteF (w_nx ?_)
        show t_is_rope_1 (endM Q Ex) [some (.d (.tuple (ilst ns)))]
        obtain ⟨n0, e0, e1⟩ := head_ix h2
        refine Exists.intro _ (And.intro e1 (w_c (fEq_ii ?_)))
        show (if (n0 == 0) = true then _ else _)
        by_cases hn : n0 = 0
        · have : (n0 == 0) = true := by simpa using hn
          rw [this]
          refine iteT (And.intro rfl (L_rises (by omega) (And.intro rfl (h _ ⟨fun z => ⟨ns, rfl, hb, h2, h9, by rw [e0, hn], z⟩, fun ⟨ms, em, hm⟩ => ?_⟩))))
          injection em with em
          rw [ilst_inj em]
          exact hm.2.2.2.2
        · have : (n0 == 0) = false := by simpa using hn
          rw [this]
          refine iteF (And.intro rfl (h false ⟨(fun z => nomatch z), fun ⟨ms, em, hm⟩ => ?_⟩))
          injection em with em
          rw [← ilst_inj em] at hm
          have h0 := hm.2.2.2.1
          rw [e0] at h0
          exact absurd (Option.some.inj h0) hn
      · have e9 : decide (((ns.length : Nat) : Int) ≤ 9) = false := by simp; omega
        rw [e9]
        refine iteT (And.intro rfl (h false ⟨(fun z => nomatch z), fun ⟨ms, em, hm⟩ => ?_⟩))
        injection em with em
        rw [← ilst_inj em] at hm
        exact absurd hm.2.2.1 h9
    · have e2 : decide ((2 : Int) ≤ ((ns.length : Nat) : Int)) = false := by simp; omega
      rw [e2]
      refine iteF (iteT (And.intro rfl (h false ⟨(fun z => nomatch z), fun ⟨ms, em, hm⟩ => ?_⟩)))
      injection em with em
      rw [← ilst_inj em] at hm
      exact absurd hm.2.1 h2
end

theorem riseB_iff {least : Int} {ns : List Int} : riseB least ns = true ↔ ∀ i, i + 1 < ns.length → least ≤ ns.getD (i + 1) 0 - ns.getD i 0 := by
  unfold riseB
  rw [List.all_eq_true]
  constructor
  · intro h i hi
    have hm : (ns[i], ns[i + 1]) ∈ ns.zip (ns.drop 1) := by
      refine List.mem_of_getElem? (i := i) ?_
      rw [List.getElem?_zip_eq_some]
      refine ⟨by simp, ?_⟩
      rw [List.getElem?_drop, Nat.add_comm]
      simp
    have := h _ hm
    simp only [decide_eq_true_eq] at this
    rw [List.getD_eq_getElem?_getD, List.getD_eq_getElem?_getD, List.getElem?_eq_getElem hi, List.getElem?_eq_getElem (by omega)]
    exact this
  · intro h p hp
    obtain ⟨i, hi⟩ := List.getElem?_of_mem hp
    rw [List.getElem?_zip_eq_some] at hi
    obtain ⟨h1, h2⟩ := hi
    rw [List.getElem?_drop, Nat.add_comm] at h2
    have hl := (List.getElem?_eq_some_iff.mp h2).1
    have := h i hl
    rw [List.getD_eq_getElem?_getD, List.getD_eq_getElem?_getD, h1, h2] at this
    simpa using this
theorem eqv_nil (fs : List Dt) : PyData.eqv (.list fs) (.list []) = fs.isEmpty := by
  cases fs with
  | nil => unfold PyData.eqv PyData.eqvAll; rfl
  | cons a r => unfold PyData.eqv PyData.eqvAll; rfl
theorem shaped_lst {k : Nat} {fs : List Dt} (h : ∀ d ∈ fs, d.canLay0 = true ∧ d.depth ≤ k) (hk : k < 64) : SeqAt.shaped (.list fs) = true := by
  have h1 : PyData.canLayAll0 fs = true := lay_all fun d hd => (h d hd).1
  have h2 : PyData.depthAll fs ≤ k := depth_all fun d hd => (h d hd).2
  unfold SeqAt.shaped PyData.canLay0 PyData.depth
  rw [h1]
  simp
  omega
section
variable {Q : Dv → Prop} {Ex : Exn → Prop}
theorem mB_isTup {i : Nat} {d : Dt} {ρ : Ks.Env} {K : Bool → Prop} (e : ρ[i]? = some (some (.d d))) (hd : d.canLay0 = true) (h : K (isTup d)) : mB (mCB fIsI (mCons (mVar i) (mCons (mTy "tuple") mNil))) ρ K Ex := by
  show mVar i ρ _ Ex
  unfold mVar
  rw [e]
  exact fIsI_tup (K := fun x => match x with | .d (.bool k) => K k | _ => False) hd h
def oWh (lo hi : Int) (d : Dt) : Option Dt := if isWhole lo hi d = true then none else some d
def oGap (ns : List Int) (least : Int) : Dt → Option Dt
  | .int a => if ns.getD a.toNat 0 - ns.getD (a.toNat - 1) 0 < least then some (.int a) else none
  | _ => none
theorem oGap_int (ns : List Int) (least a : Int) : oGap ns least (.int a) = if ns.getD a.toNat 0 - ns.getD (a.toNat - 1) 0 < least then some (.int a) else none := rfl
def RowI (lo hi least : Int) (d : Dt) : Prop := ∃ ns, d = .tuple (ilst ns) ∧ (∀ n ∈ ns, lo ≤ n ∧ n ≤ hi) ∧ riseB least ns = true
theorem atI_getD {ns : List Int} {i : Nat} (h : i < ns.length) : atI (ilst ns) (i : Int) = some (.int (ns.getD i 0)) := by
  refine atI_nat ?_
  unfold ilst
  rw [List.getElem?_map, List.getD_eq_getElem?_getD, List.getElem?_eq_getElem h]
  rfl
theorem L_law_row {d : Dt} {lo hi least : Int} (hd : Bd 300 60 d) (h : ∀ g : Bool, (g = true ↔ RowI lo hi least d) → Q (.d (.bool g))) : F_law_row [.d d, .d (.int lo), .d (.int hi), .d (.int least)] Q Ex := by
  have ly := hd.1
  show b_law_row (endM Q Ex) [some (.d d), some (.d (.int lo)), some (.d (.int hi)), some (.d (.int least)), none, none]
  refine w_seq (w_if (w_or (w_not (mB_isTup (d := d) rfl ly ?_))))
  cases d with
  | tuple ds =>
    obtain ⟨hm, hl⟩ := bd_mem hd
    refine iteF (w_B (w_bin (w_f ?_)))
    show lcL (fName 5) (mNot (mB (mCall F_law_whole (mCons (mVar 5) (mCons (mVar 1) (mCons (mVar 2) mNil)))))) (mVar 5) [some (.d (.tuple ds)), some (.d (.int lo)), some (.d (.int hi)), some (.d (.int least)), none, none] _ ds []
    refine lcL_fm (oWh lo hi) ds [] (by have : sizeLine = 16777216 := sizeLine_eq; simp; omega) (fun d hd K1 K2 k => ?_) ?_
    · refine And.intro rfl (L_law_whole (hm d hd).1 ?_)
      show (if (!isWhole lo hi d) = true then _ else _)
      unfold oWh at k
      cases hw : isWhole lo hi d with
      | true => rw [hw] at k; exact iteF k
      | false => rw [hw] at k; exact iteT k
    · rw [List.nil_append]
      have sh : SeqAt.shaped (.list (ds.filterMap (oWh lo hi))) = true := shaped_lst (k := 60) (fun d hd => by
        obtain ⟨x, hx, e⟩ := List.mem_filterMap.mp hd
        unfold oWh at e
        split at e
        · cases e
        · injection e with e; subst e; exact hm x hx) (by decide)
      refine w_f (w_lst (w_nil (And.intro sh (And.intro (by decide +kernel) ?_))))
      show (if (!PyData.eqv (.list (ds.filterMap (oWh lo hi))) (.list [])) = true then _ else _)
      rw [eqv_nil]
      cases he : (ds.filterMap (oWh lo hi)).isEmpty with
      | false =>
        refine iteT (And.intro rfl (h false ⟨(fun z => nomatch z), fun ⟨ns, e, hb, _⟩ => ?_⟩))
        injection e with e
        subst e
        have : (ilst ns).filterMap (oWh lo hi) = [] := by
          rw [List.filterMap_eq_nil_iff]
          intro x hx
          obtain ⟨n, hn, rfl⟩ := ilst_map_mem hx
          have := hb n hn
          unfold oWh isWhole
          simp [this]
        rw [this] at he
        cases he
      | true =>
        have hnil := List.isEmpty_iff.mp he
        have hall : ds.all (isWhole lo hi) = true := by
          rw [List.all_eq_true]
          intro x hx
          have := List.filterMap_eq_nil_iff.mp hnil x hx
          unfold oWh at this
          split at this
          · assumption
          · cases this
        obtain ⟨ns, rfl, hb⟩ := all_ints hall
        have hln : (ilst ns).length = ns.length := ilst_len ns
        refine iteF (w_nx ?_)
        show t_law_row_1 (endM Q Ex) [some (.d (.tuple (ilst ns))), some (.d (.int lo)), some (.d (.int hi)), some (.d (.int least)), none, none]
        refine w_ret (w_bin (w_f ?_))
        refine And.intro ⟨by decide, by decide, by omega, by omega⟩ ?_
        have hr : ((((ilst ns).length : Nat) : Int) - 1).toNat = ns.length - 1 := by omega
        rw [hr]
        have rm : ∀ d ∈ rngD 1 (ns.length - 1), ∃ i : Nat, i + 1 < ns.length ∧ d = .int ((i + 1 : Nat) : Int) := fun d hd => by
          unfold rngD at hd
          obtain ⟨i, hi, rfl⟩ := List.mem_map.mp hd
          have := List.mem_range.mp hi
          exact ⟨i, by omega, by congr 1; omega⟩
        refine lcL_fm (oGap ns least) _ [] (by unfold rngD; simp; have : sizeLine = 16777216 := sizeLine_eq; omega) (fun d hd K1 K2 k => ?_) ?_
        · obtain ⟨i, hi, rfl⟩ := rm d hd
          refine Exists.intro _ (And.intro (atI_getD hi) ?_)
          have e1 : (((i + 1 : Nat) : Int) - 1) = (i : Int) := by omega
          show ∃ p, atI (ilst ns) (((i + 1 : Nat) : Int) - 1) = some p ∧ _
          rw [e1]
          refine Exists.intro _ (And.intro (atI_getD (by omega)) ?_)
          show (if decide (ns.getD (i + 1) 0 - ns.getD i 0 < least) = true then K1 (.int ((i + 1 : Nat) : Int)) else K2)
          rw [oGap_int] at k
          have e2 : (((i + 1 : Nat) : Int)).toNat = i + 1 := by omega
          rw [e2] at k
          by_cases hc : ns.getD (i + 1) 0 - ns.getD i 0 < least
          · rw [decide_eq_true hc]
            rw [if_pos (show ns.getD (i + 1) 0 - ns.getD (i + 1 - 1) 0 < least from hc)] at k
            exact iteT k
          · rw [decide_eq_false hc]
            rw [if_neg (show ¬ ns.getD (i + 1) 0 - ns.getD (i + 1 - 1) 0 < least from hc)] at k
            exact iteF k
        · rw [List.nil_append]
          have sh2 : SeqAt.shaped (.list ((rngD 1 (ns.length - 1)).filterMap (oGap ns least))) = true := shaped_lst (k := 60) (fun d hd => by
            obtain ⟨x, hx, e⟩ := List.mem_filterMap.mp hd
            obtain ⟨i, hi, rfl⟩ := rm x hx
            rw [oGap_int] at e
            split at e
            · injection e with e
              subst e
              exact ⟨by unfold PyData.canLay0; rfl, by unfold PyData.depth; omega⟩
            · cases e) (by decide)
          refine w_f (w_lst (w_nil (And.intro sh2 (And.intro (by decide +kernel) (And.intro rfl ?_)))))
          show Q (.d (.bool (PyData.eqv (.list ((rngD 1 (ns.length - 1)).filterMap (oGap ns least))) (.list []))))
          rw [eqv_nil]
          refine h _ ?_
          rw [List.isEmpty_iff, List.filterMap_eq_nil_iff]
          constructor
          · intro hz
            refine ⟨ns, rfl, hb, riseB_iff.mpr fun i hi => ?_⟩
            have hz' := hz (.int (1 + (i : Nat))) (by unfold rngD; exact List.mem_map.mpr ⟨i, List.mem_range.mpr (by omega), rfl⟩)
            rw [oGap_int] at hz'
            have e2 : (1 + (i : Int)).toNat = i + 1 := by omega
            rw [e2] at hz'
            split at hz'
            · cases hz'
            · rename_i hc
              have : ns.getD (i + 1 - 1) 0 = ns.getD i 0 := rfl
              omega
          · intro ⟨ms, e, _, hrise⟩ x hx
            injection e with e
            rw [← ilst_inj e] at hrise
            obtain ⟨i, hi, rfl⟩ := rm x hx
            have := riseB_iff.mp hrise i hi
            rw [oGap_int]
            have e2 : (((i + 1 : Nat) : Int)).toNat = i + 1 := by omega
            rw [e2]
            have e3 : ns.getD (i + 1 - 1) 0 = ns.getD i 0 := rfl
            rw [if_neg (by omega)]
  | none => exact iteT (iteT (And.intro rfl (h false ⟨(fun z => nomatch z), fun ⟨ns, e, _⟩ => nomatch e⟩)))
  | bool _ => exact iteT (iteT (And.intro rfl (h false ⟨(fun z => nomatch z), fun ⟨ns, e, _⟩ => nomatch e⟩)))
  | int _ => exact iteT (iteT (And.intro rfl (h false ⟨(fun z => nomatch z), fun ⟨ns, e, _⟩ => nomatch e⟩)))
  | str _ => exact iteT (iteT (And.intro rfl (h false ⟨(fun z => nomatch z), fun ⟨ns, e, _⟩ => nomatch e⟩)))
  | list _ => exact iteT (iteT (And.intro rfl (h false ⟨(fun z => nomatch z), fun ⟨ns, e, _⟩ => nomatch e⟩)))
  | dict _ => exact iteT (iteT (And.intro rfl (h false ⟨(fun z => nomatch z), fun ⟨ns, e, _⟩ => nomatch e⟩)))
theorem L_good_rope {d : Dt} (hd : Bd 300 60 d) (h : ∀ b : Bool, (b = true ↔ IsR d) → Q (.d (.bool b))) : F_law_good_rope [.d d] Q Ex := by
  show mRet _ (endM Q Ex) [some (.d d)]
  refine And.intro ⟨by decide, by decide, by decide⟩ (And.intro rfl (L_law_row (lo := 0) (hi := 10 ^ 30) (least := 1) hd fun g hg => ?_))
  show (if g = true then _ else _)
  cases g with
  | false =>
    refine iteF (And.intro rfl (h false ⟨(fun z => nomatch z), fun ⟨ns, e, hG⟩ => ?_⟩))
    exact hg.mpr ⟨ns, e, hG.1, hG.2.2.2.2⟩
  | true =>
    obtain ⟨ns, rfl, hb, hr⟩ := hg.mp rfl
    have hl : (ilst ns).length = ns.length := ilst_len ns
    refine iteT ?_
    show (if decide ((2 : Int) ≤ (((ilst ns).length : Nat) : Int)) = true then (if decide ((((ilst ns).length : Nat) : Int) ≤ 9) = true then _ else _) else (if false = true then _ else _))
    rw [hl]
    by_cases h2 : 2 ≤ ns.length
    · have e2 : decide ((2 : Int) ≤ ((ns.length : Nat) : Int)) = true := by simp; omega
      rw [e2]
      refine iteT ?_
      by_cases h9 : ns.length ≤ 9
      · have e9 : decide (((ns.length : Nat) : Int) ≤ 9) = true := by simp; omega
        rw [e9]
        obtain ⟨n0, e0, e1⟩ := head_ix h2
        refine iteT (Exists.intro _ (And.intro e1 (w_c (fEq_ii (And.intro rfl (h _ ?_))))))
        constructor
        · intro z
          exact ⟨ns, rfl, hb, h2, h9, by rw [e0, show n0 = 0 by simpa using z], hr⟩
        · intro ⟨ms, em, hm⟩
          injection em with em
          rw [← ilst_inj em] at hm
          have h0 := hm.2.2.2.1
          rw [e0] at h0
          simpa using Option.some.inj h0
      · have e9 : decide (((ns.length : Nat) : Int) ≤ 9) = false := by simp; omega
        rw [e9]
        refine iteF (And.intro rfl (h false ⟨(fun z => nomatch z), fun ⟨ms, em, hm⟩ => ?_⟩))
        injection em with em
        rw [← ilst_inj em] at hm
        exact absurd hm.2.2.1 h9
    · have e2 : decide ((2 : Int) ≤ ((ns.length : Nat) : Int)) = false := by simp; omega
      rw [e2]
      refine iteF (iteF (And.intro rfl (h false ⟨(fun z => nomatch z), fun ⟨ms, em, hm⟩ => ?_⟩)))
      injection em with em
      rw [← ilst_inj em] at hm
      exact absurd hm.2.1 h2
theorem L_need_good {d : Dt} (hd : Bd 300 60 d) (hr : IsR d) (h : Q (.d .none)) : F_need_rope [.d d] Q Ex := by
  show mIfS (mNot (mB (mCall F_is_rope (mCons (mVar 0) mNil)))) _ _ (endM Q Ex) [some (.d d)]
  refine w_if (w_not (w_B (w_call (w_cons (w_var (x := .d d) rfl (w_nil (And.intro rfl (L_is_rope hd fun b hb => ?_))))))))
  have : b = true := hb.mpr hr
  subst this
  exact iteF h
end
end Lw
end

section
set_option Elab.async false
set_option linter.all false
set_option maxRecDepth 100000
set_option maxHeartbeats 1000000
namespace Lw
open PySem PySem.Spec PyProof.Rows L2 Ks
local macro_rules | `(tactic| w_fin) => `(tactic| simp only [mSeq, mNext, mRet, mIfS, mSet, mPar, mDrop, mVal, mOwn, mRaise, mAsgT, fName, fTup2, mVar, mC, mBin, mUn, mChain, mB, mAnd, mOr, mNot, mAndV, mOrV, mNotV, mIf, mNil, mCons, mTup, mLst, mF, mCB, mCF, mCall, mPart, mNoPart, mYes, mTy, mWord, mFreeze, endM,
  List.getElem?_cons_zero, List.getElem?_cons_succ, List.getElem?_nil, List.set_cons_zero, List.set_cons_succ, kv_dts1, kv_dts2, kv_dts3, kv_own, kv_noOwn1, kv_noOwn2, kv_noOwn3, kv_noOwn4, kv_map0, kv_map1, kv_sub, kv_addI, kv_lt, kv_le, kv_gt, kv_ge, kv_min2, kv_max2, kv_len_t, kv_neg, kv_lstT, kv_lstL, kv_tupL, mCF, kv_ix0, kv_ix1, kv_ix2, kv_ix3, kv_inS2, kv_inS2l, kv_intB, kv_intI, kv_len_l, kv_pow, kv_eqI, kv_neI, kv_eqS, kv_neS, true_and, and_true, if_true, if_false, Bool.false_eq_true, Bool.not_true, Bool.not_false, eq_self])
theorem fIsI_eq {d : Dt} {T : String} {K : Dv → Prop} (hd : d.canLay0 = true) (h1 : ["int", "bool", "str", "list", "tuple"].contains T = true) : fIsI [.d d, .ty T] K = K (.d (.bool (isiN d T))) := by
  apply propext
  constructor
  · intro h
    unfold fIsI at h
    obtain ⟨_, h⟩ := h
    have key : ∀ t, tyD (.d d) = some t → (∃ b, isiB t T = some b ∧ K (.d (.bool b))) → K (.d (.bool (isiN d T))) := fun t h2 ⟨b, h3, h4⟩ => by
      have := fIsI_d (d := d) (T := T) (K := fun x => x = .d (.bool b) → K (.d (.bool (isiN d T)))) hd h1 (fun e => by
        injection e with e; injection e with e
        rw [e]; exact h4)
      unfold fIsI at this
      obtain ⟨_, this⟩ := this
      rw [h2] at this
      simp only [h3] at this
      exact this trivial
    cases e : tyD (.d d) with
    | none => rw [e] at h; exact h.elim
    | some t =>
      rw [e] at h
      cases e2 : isiB t T with
      | none => simp only [e2] at h
      | some b => exact key t e ⟨b, e2, by simpa only [e2] using h⟩
  · exact fIsI_d hd h1
theorem isiT (d : Dt) : isiN d "tuple" = isTup d := by cases d <;> simp [isiN, tyN, isTup]
section
variable {Q : Dv → Prop} {Ex : Exn → Prop}
theorem iW_none {lo hi : Int} : isWhole lo hi .none = false := rfl
theorem E_is_integer {d : Dt} {lo hi : Int} (hd : d.canLay0 = true) : F_is_integer [.d d, .d (.int lo), .d (.int hi)] Q Ex = Q (.d (.bool (isWhole lo hi d))) := by
  have e1 := fIsI_eq (d := d) (T := "int") (K := fun x => match x with
    | .d (.bool c) => if c = true then (mAndV (mNotV (mCB fIsI (mCons (mVar 0) (mCons (mTy "bool") mNil)))) (mChain fLe fLe (mVar 1) (mVar 0) (mVar 2))) [some (.d d), some (.d (.int lo)), some (.d (.int hi))] (fun x => x.isOwn = false ∧ Q x) Ex else (Dv.d (.bool false)).isOwn = false ∧ Q (.d (.bool false))
    | _ => False) hd (by decide +kernel)
  refine e1.trans ?_
  cases d with
  | dict x => simp [PyData.canLay0] at hd
  | int i =>
    simp only [isiN, tyN, isWhole]
    simp only [decide_true, Bool.true_or, if_true]
    w_fin
    rw [fIsI_eq (d := .int i) hd (by decide +kernel)]
    simp [isiN, tyN]
    by_cases c : lo ≤ i <;> simp [c]
  | bool b =>
    simp only [isiN, tyN, isWhole]
    simp
    w_fin
    rw [fIsI_eq (d := .bool b) hd (by decide +kernel)]
    simp [isiN, tyN]
  | _ => simp [isiN, tyN, isWhole, Dv.isOwn]
theorem E_law_whole {d : Dt} {lo hi : Int} (hd : d.canLay0 = true) : F_law_whole [.d d, .d (.int lo), .d (.int hi)] Q Ex = Q (.d (.bool (isWhole lo hi d))) := E_is_integer hd
end
end Lw
end

section
set_option Elab.async false
set_option linter.all false
set_option maxRecDepth 100000
set_option maxHeartbeats 1000000
namespace Lw
open PySem PySem.Spec PyProof.Rows L2 Ks
local macro_rules | `(tactic| w_fin) => `(tactic| simp only [mSeq, mNext, mRet, mIfS, mSet, mPar, mDrop, mVal, mOwn, mRaise, mAsgT, fName, fTup2, mVar, mC, mBin, mUn, mChain, mB, mAnd, mOr, mNot, mAndV, mOrV, mNotV, mIf, mNil, mCons, mTup, mLst, mF, mCB, mCF, mCall, mPart, mNoPart, mYes, mTy, mWord, mFreeze, endM,
  List.getElem?_cons_zero, List.getElem?_cons_succ, List.getElem?_nil, List.set_cons_zero, List.set_cons_succ, kv_dts1, kv_dts2, kv_dts3, kv_own, kv_noOwn1, kv_noOwn2, kv_noOwn3, kv_noOwn4, kv_map0, kv_map1, kv_sub, kv_addI, kv_lt, kv_le, kv_gt, kv_ge, kv_min2, kv_max2, kv_len_t, kv_neg, kv_lstT, kv_lstL, kv_tupL, mCF, kv_ix0, kv_ix1, kv_ix2, kv_ix3, kv_inS2, kv_inS2l, kv_intB, kv_intI, kv_len_l, kv_pow, kv_eqI, kv_neI, kv_eqS, kv_neS, true_and, and_true, if_true, if_false, Bool.false_eq_true, Bool.not_true, Bool.not_false, eq_self])
def isStr : Dt → Bool
  | .str _ => true
  | _ => false
def isBl : Dt → Bool
  | .bool _ => true
  | _ => false
theorem isiS (d : Dt) : isiN d "str" = isStr d := by cases d <;> simp [isiN, tyN, isStr]
theorem isiB' (d : Dt) : isiN d "bool" = isBl d := by cases d <;> simp [isiN, tyN, isBl]
abbrev sAt : Str := Str.ofString "at"
abbrev sBe : Str := Str.ofString "beside"
abbrev sBt : Str := Str.ofString "between"
theorem okS : PyData.strOk sAt = true ∧ PyData.strOk sBe = true ∧ PyData.strOk sBt = true := by decide +kernel
theorem neS : (sBt == sAt) = false ∧ (sBt == sBe) = false ∧ (sAt == sBt) = false ∧ (sBe == sBt) = false ∧ (sAt == sBe) = false ∧ (sBe == sAt) = false := by decide +kernel
def isW1 (c b : Dt) : Bool := match c with
  | .int j => isWhole 0 (j - 1) b
  | _ => false
def factB : Dt → Bool
  | .tuple [.str s, b, c] => (s == sAt && isWhole 0 (10 ^ 30) b && isBl c) || (s == sBe && isWhole 1 (10 ^ 30) b && isBl c)
  | .tuple [.str s, b, c, e] => s == sBt && isWhole 1 (10 ^ 30) e && isWhole 1 8 c && isW1 c b
  | _ => false
section
variable {Q : Dv → Prop} {Ex : Exn → Prop}
end
end Lw
end

section
set_option Elab.async false
set_option linter.all false
set_option maxRecDepth 100000
set_option maxHeartbeats 1000000
namespace Lw
open PySem PySem.Spec PyProof.Rows L2 Ks
local macro_rules | `(tactic| w_fin) => `(tactic| simp only [mSeq, mNext, mRet, mIfS, mSet, mPar, mDrop, mVal, mOwn, mRaise, mAsgT, fName, fTup2, mVar, mC, mBin, mUn, mChain, mB, mAnd, mOr, mNot, mAndV, mOrV, mNotV, mIf, mNil, mCons, mTup, mLst, mF, mCB, mCF, mCall, mPart, mNoPart, mYes, mTy, mWord, mFreeze, endM,
  List.getElem?_cons_zero, List.getElem?_cons_succ, List.getElem?_nil, List.set_cons_zero, List.set_cons_succ, kv_dts1, kv_dts2, kv_dts3, kv_own, kv_noOwn1, kv_noOwn2, kv_noOwn3, kv_noOwn4, kv_map0, kv_map1, kv_sub, kv_addI, kv_lt, kv_le, kv_gt, kv_ge, kv_min2, kv_max2, kv_len_t, kv_neg, kv_lstT, kv_lstL, kv_tupL, mCF, kv_ix0, kv_ix1, kv_ix2, kv_ix3, kv_inS2, kv_inS2l, kv_intB, kv_intI, kv_len_l, kv_pow, kv_eqI, kv_neI, kv_eqS, kv_neS, true_and, and_true, if_true, if_false, Bool.false_eq_true, Bool.not_true, Bool.not_false, eq_self])
def bookB : Dt → Bool
  | .tuple ds => ds.all factB && decide (ds.length ≤ 8)
  | _ => false
def sizesL : List Int := [1, 3, 6, 10, 15, 21, 28, 36]
def IsSp (d : Dt) : Prop := ∃ ns : List Int, d = .tuple (ilst ns) ∧ (∀ n ∈ ns, 1 ≤ n ∧ n ≤ 10 ^ 30) ∧ ((ns.length : Nat) : Int) ∈ sizesL ∧ riseB 0 ns = true
def IsRing (d : Dt) : Prop := ∃ (s : Int) (ns : List Int), d = .tuple [.int s, .tuple (ilst ns)] ∧ 3 ≤ s ∧ s ≤ 10 ^ 30 ∧ (∀ n ∈ ns, 0 ≤ n ∧ n ≤ s - 1) ∧ 2 ≤ ns.length ∧ ns.length ≤ 5 ∧ ns[0]? = some 0 ∧ riseB 1 ns = true
theorem szl : sizeLine = 16777216 := sizeLine_eq
section
variable {Q : Dv → Prop} {Ex : Exn → Prop}
theorem blsOf_fact (ds : List Dt) : blsOf (ds.map fun d => .bool (factB d)) = some (ds.map factB) := blsOf_map factB ds
def oBad (d : Dt) : Option Dt := if factB d = true then none else some d
theorem sizes_eq : (rngD 2 8).map (fun d => match d with | .int k => PyData.int (k * (k - 1) / 2) | x => x) = ilst sizesL := rfl
end
end Lw
end

section
set_option Elab.async false
set_option linter.all false
set_option maxRecDepth 100000
set_option maxHeartbeats 1000000
namespace Lw
open PySem PySem.Spec PyProof.Rows L2 Ks
local macro_rules | `(tactic| w_fin) => `(tactic| simp only [mSeq, mNext, mRet, mIfS, mSet, mPar, mDrop, mVal, mOwn, mRaise, mAsgT, fName, fTup2, mVar, mC, mBin, mUn, mChain, mB, mAnd, mOr, mNot, mAndV, mOrV, mNotV, mIf, mNil, mCons, mTup, mLst, mF, mCB, mCF, mCall, mPart, mNoPart, mYes, mTy, mWord, mFreeze, endM,
  List.getElem?_cons_zero, List.getElem?_cons_succ, List.getElem?_nil, List.set_cons_zero, List.set_cons_succ, kv_dts1, kv_dts2, kv_dts3, kv_own, kv_noOwn1, kv_noOwn2, kv_noOwn3, kv_noOwn4, kv_map0, kv_map1, kv_sub, kv_addI, kv_lt, kv_le, kv_gt, kv_ge, kv_min2, kv_max2, kv_len_t, kv_neg, kv_lstT, kv_lstL, kv_tupL, mCF, kv_ix0, kv_ix1, kv_ix2, kv_ix3, kv_inS2, kv_inS2l, kv_intB, kv_intI, kv_len_l, kv_pow, kv_eqI, kv_neI, kv_eqS, kv_neS, true_and, and_true, if_true, if_false, Bool.false_eq_true, Bool.not_true, Bool.not_false, eq_self])
section
variable {Q : Dv → Prop} {Ex : Exn → Prop}
theorem len2 {ds : List Dt} : (!((((ds.length : Nat) : Int)) == 2)) = !decide (ds.length = 2) := by
  rw [Bool.eq_iff_iff]; simp; omega
theorem isW_int {lo hi : Int} {a : Dt} (h : isWhole lo hi a = true) : ∃ s : Int, a = .int s ∧ lo ≤ s ∧ s ≤ hi := by
  cases a with
  | int s => simp [isWhole] at h; exact ⟨s, rfl, h⟩
  | _ => simp [isWhole] at h
end
end Lw
end

section
set_option Elab.async false
set_option linter.all false
set_option maxRecDepth 100000
set_option maxHeartbeats 1000000
namespace Lw
open PySem PySem.Spec PyProof.Rows L2 Ks
local macro_rules | `(tactic| w_fin) => `(tactic| simp only [mSeq, mNext, mRet, mIfS, mSet, mPar, mDrop, mVal, mOwn, mRaise, mAsgT, fName, fTup2, mVar, mC, mBin, mUn, mChain, mB, mAnd, mOr, mNot, mAndV, mOrV, mNotV, mIf, mNil, mCons, mTup, mLst, mF, mCB, mCF, mCall, mPart, mNoPart, mYes, mTy, mWord, mFreeze, endM,
  List.getElem?_cons_zero, List.getElem?_cons_succ, List.getElem?_nil, List.set_cons_zero, List.set_cons_succ, kv_dts1, kv_dts2, kv_dts3, kv_own, kv_noOwn1, kv_noOwn2, kv_noOwn3, kv_noOwn4, kv_map0, kv_map1, kv_sub, kv_addI, kv_lt, kv_le, kv_gt, kv_ge, kv_min2, kv_max2, kv_len_t, kv_neg, kv_lstT, kv_lstL, kv_tupL, mCF, kv_ix0, kv_ix1, kv_ix2, kv_ix3, kv_inS2, kv_inS2l, kv_intB, kv_intI, kv_len_l, kv_pow, kv_eqI, kv_neI, kv_eqS, kv_neS, true_and, and_true, if_true, if_false, Bool.false_eq_true, Bool.not_true, Bool.not_false, eq_self])
theorem bool_same {p : Prop} {a b : Bool} (h1 : a = true ↔ p) (h2 : b = true ↔ p) : a = b := by
  cases a <;> cases b <;> simp_all
def bl5 (a b c d e : Bool) : List Dt := [.bool a, .bool b, .bool c, .bool d, .bool e]
theorem shaped_bl5 (a b c d e : Bool) : SeqAt.shaped (.list (bl5 a b c d e)) = true := by
  cases a <;> cases b <;> cases c <;> cases d <;> cases e <;> decide +kernel
theorem lay_bl5 (a b c d e : Bool) : (PyData.list (bl5 a b c d e)).canLay0 = true := by
  cases a <;> cases b <;> cases c <;> cases d <;> cases e <;> decide +kernel
section
variable {Q : Dv → Prop} {Ex : Exn → Prop}
end
end Lw
end

section
set_option Elab.async false
set_option linter.all false
set_option maxRecDepth 100000
set_option maxHeartbeats 1000000
namespace Lw
open PySem PySem.Spec PyProof.Rows L2 Ks
local macro_rules | `(tactic| w_fin) => `(tactic| simp only [mSeq, mNext, mRet, mIfS, mSet, mPar, mDrop, mVal, mOwn, mRaise, mAsgT, fName, fTup2, mVar, mC, mBin, mUn, mChain, mB, mAnd, mOr, mNot, mAndV, mOrV, mNotV, mIf, mNil, mCons, mTup, mLst, mF, mCB, mCF, mCall, mPart, mNoPart, mYes, mTy, mWord, mFreeze, endM,
  List.getElem?_cons_zero, List.getElem?_cons_succ, List.getElem?_nil, List.set_cons_zero, List.set_cons_succ, kv_dts1, kv_dts2, kv_dts3, kv_own, kv_noOwn1, kv_noOwn2, kv_noOwn3, kv_noOwn4, kv_map0, kv_map1, kv_sub, kv_addI, kv_lt, kv_le, kv_gt, kv_ge, kv_min2, kv_max2, kv_len_t, kv_neg, kv_lstT, kv_lstL, kv_tupL, mCF, kv_ix0, kv_ix1, kv_ix2, kv_ix3, kv_inS2, kv_inS2l, kv_intB, kv_intI, kv_len_l, kv_pow, kv_eqI, kv_neI, kv_eqS, kv_neS, true_and, and_true, if_true, if_false, Bool.false_eq_true, Bool.not_true, Bool.not_false, eq_self])
def absI (d : Int) : Int := if d < 0 then -d else d
theorem absI_sub (a b : Int) : absI (a - b) = absI (b - a) := by unfold absI; split <;> split <;> omega
/-- from each place on to the ones ahead of it -/
def spA : List Int → List Int → List Int
  | _, [] => []
  | seen, y :: ys => seen.map (fun o => absI (y - o)) ++ spA (seen ++ [y]) ys
/-- from each place on to the ones behind it -/
def spB : List Int → List Int
  | [] => []
  | x :: xs => xs.map (fun y => absI (y - x)) ++ spB xs
def cross (seen rest : List Int) : List Int := seen.flatMap fun o => rest.map fun y => absI (y - o)
theorem cross_cons (y : Int) (ys : List Int) : ∀ seen : List Int, (cross seen (y :: ys)).Perm (seen.map (fun o => absI (y - o)) ++ cross seen ys)
  | [] => List.Perm.refl _
  | o :: os => by
    have ih := cross_cons y ys os
    show (absI (y - o) :: (ys.map (fun z => absI (z - o)) ++ cross os (y :: ys))).Perm (absI (y - o) :: (os.map (fun o => absI (y - o)) ++ (ys.map (fun z => absI (z - o)) ++ cross os ys)))
    refine List.Perm.cons _ ?_
    refine (List.Perm.append_left _ ih).trans ?_
    rw [← List.append_assoc, ← List.append_assoc]
    exact List.Perm.append_right _ List.perm_append_comm
theorem cross_snoc (seen ys : List Int) (y : Int) : cross (seen ++ [y]) ys = cross seen ys ++ ys.map fun z => absI (z - y) := by
  unfold cross
  rw [List.flatMap_append]
  simp
theorem spA_perm : ∀ (rest seen : List Int), (spA seen rest).Perm (cross seen rest ++ spB rest)
  | [], seen => by
    have : cross seen [] = [] := by unfold cross; simp
    rw [this]; exact List.Perm.refl _
  | y :: ys, seen => by
    have ih := spA_perm ys (seen ++ [y])
    rw [cross_snoc] at ih
    show (seen.map (fun o => absI (y - o)) ++ spA (seen ++ [y]) ys).Perm (cross seen (y :: ys) ++ (ys.map (fun z => absI (z - y)) ++ spB ys))
    refine (List.Perm.append_left _ ih).trans ?_
    rw [List.append_assoc, ← List.append_assoc]
    exact List.Perm.append_right _ (cross_cons y ys seen).symm
/-- the spans -/
def spI (ns : List Int) : List Int := isort (spB ns)
theorem spI_A (ns : List Int) : isort (spA [] ns) = spI ns := by
  refine isort_uniq ((isort_perm _).trans ?_) (isort_sorted _)
  have := spA_perm ns []
  have e : cross [] ns = [] := rfl
  rw [e, List.nil_append] at this
  exact this
theorem spB_len : ∀ ns : List Int, (spB ns).length ≤ ns.length * ns.length
  | [] => by simp [spB]
  | x :: xs => by
    have := spB_len xs
    simp only [spB, List.length_append, List.length_map, List.length_cons]
    have : xs.length * xs.length + xs.length + xs.length + 1 = (xs.length + 1) * (xs.length + 1) := by
      rw [Nat.add_mul, Nat.mul_add]; omega
    omega
theorem cut_head (ns : List Int) (k : Nat) : Ks.cutD (ilst ns) none (some (k : Int)) = ilst (ns.take k) := by
  unfold Ks.cutD
  rw [HT.sIx_none, HT.sIx_nat, List.drop_zero, Nat.sub_zero, ilst_len]
  unfold ilst
  rw [← List.map_take]
  congr 1
  rw [← List.take_eq_take_min]
def absFrom (p : Int) : Dt → Dt
  | .int o => .int (absI (p - o))
  | x => x
theorem map_absFrom (p : Int) (ns : List Int) : (ilst ns).map (absFrom p) = ilst (ns.map fun o => absI (p - o)) := by
  unfold ilst
  rw [List.map_map, List.map_map]
  rfl
theorem atI_gd {ns : List Int} {i : Nat} (h : i < ns.length) : L2.atI (ilst ns) (i : Int) = some (.int (ns.getD i 0)) := atI_getD h
section
variable {Q : Dv → Prop} {Ex : Exn → Prop}
abbrev EvS (ns fs : List Int) (a b c : Option Dv) : Ks.Env := [some (.d (.tuple (ilst ns))), some (.own (ilst fs)), a, b, c]
theorem tail_spans {fs : List Int} (h : Q (.d (.tuple (ilst (isort fs))))) : fSortI [.d (.list (ilst fs))] (fun ds => fTupOf [.d (.list ds)] Q) := by
  show match (some (ilst fs)).bind intsOf with
    | some ns => fTupOf [.d (.list (ilst (isort ns)))] Q
    | none => False
  rw [Option.bind_some, intsOf_ilst]
  exact h
theorem L_spans_by {ns : List Int} (hl : ns.length ≤ 40) (h : Q (.d (.tuple (ilst (spI ns))))) : F_spans_by [.d (.tuple (ilst ns))] Q Ex := by
  have := szl
  show t_spans_by_3 (endM Q Ex) (EvS ns [] none none none)
  refine w_seq ?_
  show forL (fTup2 (fName 2) (fName 3)) t_spans_by_1 _ (enumD 0 (ilst ns)) (EvS ns [] none none none)
  refine forL_inv (fun ds ρ => ∃ seen rest fs a b c, ns = seen ++ rest ∧ ds = enumD seen.length (ilst rest) ∧ ρ = EvS ns fs a b c ∧ fs.length ≤ seen.length * 40 ∧ fs ++ spA seen rest = spA [] ns) (fun d ds ρ N i hN => ?_) (fun ρ i => ?_) _ _ ⟨[], ns, [], none, none, none, rfl, rfl, rfl, by simp, rfl⟩
  · obtain ⟨seen, rest, fs, a, b, c, en, e, rfl, hf, hm⟩ := i
    cases rest with
    | nil => cases e
    | cons y ys =>
      have e' : d :: ds = PyData.tuple [.int (seen.length : Nat), .int y] :: enumD (seen.length + 1) (ilst ys) := e
      injection e' with e1 e2
      subst e1 e2
      have hsl : seen.length + ys.length + 1 = ns.length := by rw [en]; simp; omega
      show lcL (fName 4) mYes (mCB fAbs (mCons (mBin fSub (mVar 3) (mVar 4)) mNil)) [some (.d (.tuple (ilst ns))), some (.own (ilst fs)), some (.d (.int (seen.length : Nat))), some (.d (.int y)), none] _ (Ks.cutD (ilst ns) none (some ((seen.length : Nat) : Int))) []
      rw [cut_head]
      have et : ns.take seen.length = seen := by rw [en]; simp
      rw [et]
      refine lcL_map (absFrom y) _ (by rw [ilst_len]; omega) (fun d hd K1 K2 q => ?_) ?_
      · obtain ⟨o, ho, rfl⟩ := ilst_map_mem hd
        exact q
      · rw [map_absFrom]
        refine And.intro (by rw [ilst_len, ilst_len, List.length_map]; omega) (hN _ ⟨seen ++ [y], ys, fs ++ seen.map (fun o => absI (y - o)), some (.d (.int (seen.length : Nat))), some (.d (.int y)), c, by rw [en]; simp, by simp, by
          unfold EvS
          rw [ilst_app fs]
          rfl, by simp; omega, ?_⟩)
        rw [← hm, List.append_assoc]
        rfl
  · obtain ⟨seen, rest, fs, a, b, c, en, e, rfl, hf, hm⟩ := i
    cases rest with
    | cons y ys => cases e
    | nil =>
      have hm : fs = spA [] ns := by simpa [spA] using hm
      show fSortI [.d (.list (ilst fs))] (fun ds => fTupOf [.d (.list ds)] (fun x => x.isOwn = false ∧ Q x))
      refine tail_spans (And.intro rfl ?_)
      rw [hm, spI_A]
      exact h
theorem rng_at {lo : Int} {n m : Nat} (h : m < n) : (rngD lo n).drop m = .int (lo + (m : Nat)) :: (rngD lo n).drop (m + 1) := by
  rw [List.drop_eq_getElem_cons (by unfold rngD; simpa using h)]
  congr 1
  unfold rngD
  simp
theorem rng_end {lo : Int} {n m : Nat} (h : n ≤ m) : (rngD lo n).drop m = [] := List.drop_eq_nil_of_le (by unfold rngD; simpa using h)
theorem L_law_spans {ns : List Int} (hl : ns.length ≤ 40) (h : Q (.d (.tuple (ilst (spI ns))))) : F_law_spans [.d (.tuple (ilst ns))] Q Ex := by
  have := szl
  have hln : (ilst ns).length = ns.length := ilst_len ns
  show t_law_spans_4 (endM Q Ex) [some (.d (.tuple (ilst ns))), some (.own []), none, none]
  refine w_seq ?_
  refine And.intro (by omega) (And.intro (by omega) ?_)
  have rl : ((((ilst ns).length : Nat) : Int)).toNat = ns.length := by omega
  rw [rl]
  refine forL_inv (fun ds ρ => ∃ seen rest fs a b, ns = seen ++ rest ∧ ds = (rngD 0 ns.length).drop seen.length ∧ ρ = [some (.d (.tuple (ilst ns))), some (.own (ilst fs)), a, b] ∧ fs.length ≤ seen.length * 40 ∧ fs ++ spB rest = spB ns) (fun d ds ρ N i hN => ?_) (fun ρ i => ?_) _ _ ⟨[], ns, [], none, none, rfl, rfl, rfl, by simp, rfl⟩
  · obtain ⟨seen, rest, fs, a, b, en, e, rfl, hf, hm⟩ := i
    cases rest with
    | nil =>
      rw [rng_end (by rw [en]; simp)] at e
      cases e
    | cons x xs =>
      have hsl : seen.length + xs.length + 1 = ns.length := by rw [en]; simp; omega
      rw [rng_at (by omega)] at e
      injection e with e1 e2
      subst e1 e2
      have gx : ns.getD seen.length 0 = x := by rw [en, List.getD_eq_getElem?_getD]; simp
      rw [Int.zero_add]
      show (-(2 ^ 62) ≤ ((seen.length : Nat) : Int) + 1 ∧ ((seen.length : Nat) : Int) + 1 < 2 ^ 62 ∧ -(2 ^ 62) ≤ (((ilst ns).length : Nat) : Int) ∧ (((ilst ns).length : Nat) : Int) < 2 ^ 62) ∧ forL (fName 3) t_law_spans_1 _ (rngD (((seen.length : Nat) : Int) + 1) ((((ilst ns).length : Nat) : Int) - (((seen.length : Nat) : Int) + 1)).toNat) [some (.d (.tuple (ilst ns))), some (.own (ilst fs)), some (.d (.int (seen.length : Nat))), b]
      refine And.intro ⟨by omega, by omega, by omega, by omega⟩ ?_
      have rl2 : ((((ilst ns).length : Nat) : Int) - (((seen.length : Nat) : Int) + 1)).toNat = xs.length := by omega
      rw [rl2]
      refine forL_inv (fun ds ρ => ∃ (m : Nat) (gs : List Int) (b : Option Dv), m ≤ xs.length ∧ ds = (rngD (((seen.length : Nat) : Int) + 1) xs.length).drop m ∧ ρ = [some (.d (.tuple (ilst ns))), some (.own (ilst gs)), some (.d (.int (seen.length : Nat))), b] ∧ gs = fs ++ (xs.take m).map fun y => absI (y - x)) (fun d ds ρ N2 i hN2 => ?_) (fun ρ i => ?_) _ _ ⟨0, fs, b, Nat.zero_le _, rfl, rfl, by simp⟩
      · obtain ⟨m, gs, b, hm1, e, rfl, hg⟩ := i
        have hm' : m < xs.length := by
          rcases Nat.lt_or_ge m xs.length with z | z
          · exact z
          · rw [rng_end z] at e
            cases e
        rw [rng_at hm'] at e
        injection e with e1 e2
        subst e1 e2
        have ei : ((seen.length : Nat) : Int) + 1 + (m : Nat) = ((seen.length + 1 + m : Nat) : Int) := by omega
        rw [ei]
        have gy : ns.getD (seen.length + 1 + m) 0 = xs[m] := by
          rw [en, List.getD_eq_getElem?_getD, List.getElem?_append_right (by omega)]
          rw [show seen.length + 1 + m - seen.length = m + 1 by omega, List.getElem?_cons_succ, List.getElem?_eq_getElem hm']
          rfl
        refine Exists.intro _ (And.intro (atI_gd (by omega)) (Exists.intro _ (And.intro (atI_gd (by omega)) ?_)))
        rw [gx, gy]
        have hgl : gs.length ≤ seen.length * 40 + m := by rw [hg]; simp; omega
        refine And.intro (by rw [ilst_len]; omega) (hN2 _ ⟨m + 1, gs ++ [absI (xs[m] - x)], some (.d (.int ((seen.length + 1 + m : Nat) : Int))), by omega, rfl, by
          rw [ilst_app gs]
          rfl, ?_⟩)
        rw [hg, List.append_assoc, List.take_add_one, List.getElem?_eq_getElem hm', List.map_append]
        rfl
      · obtain ⟨m, gs, b, hm1, e, rfl, hg⟩ := i
        have hme : m = xs.length := by
          rcases Nat.lt_or_ge m xs.length with z | z
          · rw [rng_at z] at e
            cases e
          · omega
        refine hN _ ⟨seen ++ [x], xs, gs, _, _, by rw [en]; simp, by simp, rfl, by rw [hg]; simp <;> omega, ?_⟩
        rw [← hm, hg, hme, List.take_length, List.append_assoc]
        rfl
  · obtain ⟨seen, rest, fs, a, b, en, e, rfl, hf, hm⟩ := i
    cases rest with
    | cons y ys =>
      rw [rng_at (by rw [en, List.length_append, List.length_cons]; omega)] at e
      cases e
    | nil =>
      have hm : fs = spB ns := by simpa [spB] using hm
      show fSortI [.d (.list (ilst fs))] (fun ds => fTupOf [.d (.list ds)] (fun x => x.isOwn = false ∧ Q x))
      refine tail_spans (And.intro rfl ?_)
      rw [hm]
      exact h
end
end Lw
end

section
set_option Elab.async false
set_option linter.all false
set_option maxRecDepth 100000
set_option maxHeartbeats 1000000
namespace Lw
open PySem PySem.Spec PyProof.Rows L2 Ks
local macro_rules | `(tactic| w_fin) => `(tactic| simp only [mSeq, mNext, mRet, mIfS, mSet, mPar, mDrop, mVal, mOwn, mRaise, mAsgT, fName, fTup2, mVar, mC, mBin, mUn, mChain, mB, mAnd, mOr, mNot, mAndV, mOrV, mNotV, mIf, mNil, mCons, mTup, mLst, mF, mCB, mCF, mCall, mPart, mNoPart, mYes, mTy, mWord, mFreeze, endM,
  List.getElem?_cons_zero, List.getElem?_cons_succ, List.getElem?_nil, List.set_cons_zero, List.set_cons_succ, kv_dts1, kv_dts2, kv_dts3, kv_own, kv_noOwn1, kv_noOwn2, kv_noOwn3, kv_noOwn4, kv_map0, kv_map1, kv_sub, kv_addI, kv_lt, kv_le, kv_gt, kv_ge, kv_min2, kv_max2, kv_len_t, kv_neg, kv_lstT, kv_lstL, kv_tupL, mCF, kv_ix0, kv_ix1, kv_ix2, kv_ix3, kv_inS2, kv_inS2l, kv_intB, kv_intI, kv_len_l, kv_pow, kv_eqI, kv_neI, kv_eqS, kv_neS, true_and, and_true, if_true, if_false, Bool.false_eq_true, Bool.not_true, Bool.not_false, eq_self])
theorem good_of_rope {ns : List Int} (h : IsRope ns) : GoodI ns := by
  obtain ⟨h1, h2, h3, h4, h5⟩ := h
  refine ⟨h5, h1, h2, h3, riseB_iff.mpr fun i hi => ?_⟩
  have := List.pairwise_iff_getElem.mp h4 i (i + 1) (by omega) hi (by omega)
  rw [List.getD_eq_getElem?_getD, List.getD_eq_getElem?_getD, List.getElem?_eq_getElem hi, List.getElem?_eq_getElem (by omega)]
  simp
  omega
/-- each more than the one ahead: all pairs rise -/
theorem rise_pw {ns : List Int} (h : riseB 1 ns = true) : ns.Pairwise (· < ·) := by
  have key : ∀ (j i : Nat), i < j → j < ns.length → ns.getD i 0 < ns.getD j 0 := fun j => by
    induction j with
    | zero => intro i h1; omega
    | succ j ih =>
      intro i h1 h2
      have s := riseB_iff.mp h j h2
      rcases Nat.lt_or_ge i j with z | z
      · have := ih i z (by omega); omega
      · obtain rfl : i = j := by omega
        omega
  rw [List.pairwise_iff_getElem]
  intro i j hi hj hij
  have := key j i hij hj
  rw [List.getD_eq_getElem?_getD, List.getD_eq_getElem?_getD, List.getElem?_eq_getElem hi, List.getElem?_eq_getElem hj] at this
  exact this
theorem rope_of_good {ns : List Int} (h : GoodI ns) : IsRope ns := ⟨h.2.1, h.2.2.1, h.2.2.2.1, rise_pw h.2.2.2.2, h.1⟩
/-- turned -/
def tI (ns : List Int) : List Int := ns.reverse.map fun p => ns.getLastD 0 - p
theorem tI_snoc (i : List Int) (l : Int) : tI (i ++ [l]) = (i ++ [l]).reverse.map fun p => l - p := by
  unfold tI
  rw [List.getLastD_eq_getLast?, List.getLast?_append]
  rfl
theorem rope_snoc {ns : List Int} (h : IsRope ns) : ∃ i l, ns = i ++ [l] := by
  have hne : ns ≠ [] := fun z => by have := h.1; rw [z] at this; simp at this
  exact ⟨ns.dropLast, ns.getLast hne, (List.dropLast_concat_getLast hne).symm⟩
theorem rope_head {ns : List Int} (h : IsRope ns) : ∃ r, ns = 0 :: r := by
  cases ns with
  | nil => have := h.1; simp at this
  | cons a r => exact ⟨r, by have := h.2.2.1; simp at this; rw [this]⟩
theorem tI_rope {ns : List Int} (h : IsRope ns) : IsRope (tI ns) := by
  obtain ⟨i, l, rfl⟩ := rope_snoc h
  rw [tI_snoc]
  obtain ⟨h1, h2, h3, h4, h5⟩ := h
  have hl := h5 l (by simp)
  refine ⟨by simpa using h1, by simpa using h2, by rw [List.reverse_append]; simp, ?_, ?_⟩
  · rw [List.pairwise_map, List.pairwise_reverse]
    exact h4.imp fun h => by omega
  · intro n hn
    obtain ⟨p, hp, rfl⟩ := List.mem_map.mp hn
    have hp := List.mem_reverse.mp hp
    have b := h5 p hp
    refine ⟨?_, by omega⟩
    rcases List.mem_append.mp hp with z | z
    · have := (List.pairwise_append.mp h4).2.2 p z l (by simp); omega
    · have : p = l := by simpa using z
      omega
theorem tI_tI {ns : List Int} (h : IsRope ns) : tI (tI ns) = ns := by
  obtain ⟨r, rfl⟩ := rope_head h
  have e : tI (0 :: r) = (r.reverse.map fun p => (0 :: r).getLastD 0 - p) ++ [(0 :: r).getLastD 0 - 0] := by
    unfold tI
    rw [List.reverse_cons, List.map_append]
    rfl
  generalize (0 :: r).getLastD 0 = L at e
  rw [e, tI_snoc]
  rw [List.reverse_append, List.map_append]
  simp only [List.reverse_cons, List.reverse_nil, List.nil_append, List.map_cons, List.map_nil]
  rw [← List.map_reverse, List.reverse_reverse, List.map_map]
  have : ((fun p => L - 0 - p) ∘ fun p => L - p) = id := by
    funext p
    show L - 0 - (L - p) = p
    omega
  rw [this, List.map_id]
  simp
theorem tI_sorted {ns : List Int} (h : IsRope ns) : isort (ns.map fun p => ns.getLastD 0 - p) = tI ns := by
  refine (isort_uniq (xs := tI ns) ?_ ?_).symm
  · unfold tI
    rw [List.map_reverse]
    exact List.reverse_perm _
  · exact (tI_rope h).2.2.2.1.imp fun h => Int.le_of_lt h
theorem bd_row {ns : List Int} (h : ns.length ≤ 200) (hb : ∀ n ∈ ns, n.natAbs < 2 ^ 300) : Bd 300 60 (.tuple (ilst ns)) :=
  (Bd.tup (n := 300) (k := 0) (fun d hd => by
    obtain ⟨x, hx, rfl⟩ := ilst_map_mem hd
    exact Bd.int (hb x hx)) (by rw [ilst_len]; omega)).mono (Nat.le_refl _) (by omega)
theorem rope_bd {ns : List Int} (h : IsRope ns) : Bd 300 60 (.tuple (ilst ns)) := bd_row (by have := h.2.1; omega) fun n hn => by
  have := h.2.2.2.2 n hn
  have : (2 : Nat) ^ 100 ≤ 2 ^ 300 := Nat.pow_le_pow_right (by decide) (by decide)
  omega
theorem lexLt_irrefl : ∀ a : List Int, HT.lexLt a a = false
  | [] => rfl
  | x :: xs => by unfold HT.lexLt; simp [lexLt_irrefl xs]
theorem lexLt_tri : ∀ a b : List Int, HT.lexLt a b = false → HT.lexLt b a = false → a = b
  | [], [], _, _ => rfl
  | [], y :: ys, h, _ => by unfold HT.lexLt at h; cases h
  | x :: xs, [], _, h => by unfold HT.lexLt at h; cases h
  | x :: xs, y :: ys, h, h' => by
    unfold HT.lexLt at h h'
    by_cases e : x = y
    · subst e
      simp at h h'
      rw [lexLt_tri xs ys h h']
    · have e' : ¬ y = x := fun z => e z.symm
      simp [e] at h
      simp [e'] at h'
      omega
theorem lexLt_asymm : ∀ a b : List Int, HT.lexLt a b = true → HT.lexLt b a = false
  | [], [], h => by unfold HT.lexLt at h; cases h
  | [], y :: ys, _ => by unfold HT.lexLt; rfl
  | x :: xs, [], h => by unfold HT.lexLt at h; cases h
  | x :: xs, y :: ys, h => by
    unfold HT.lexLt at h ⊢
    by_cases e : x = y
    · subst e
      simp at h ⊢
      exact lexLt_asymm xs ys h
    · have e' : ¬ y = x := fun z => e z.symm
      simp [e] at h
      simp [e']
      omega
/-- the lesser one of a rope and itself turned -/
def upI (ns : List Int) : List Int := if HT.lexLt (tI ns) ns = true then tI ns else ns
section
variable {Q : Dv → Prop} {Ex : Exn → Prop}
theorem kv_ltT {a b : List Int} : fLtT (.d (.tuple (ilst a))) (.d (.tuple (ilst b))) Q = Q (.d (.bool (HT.lexLt a b))) := by
  show (match intsOf (ilst a), intsOf (ilst b) with
    | some ns, some ms => Q (.d (.bool (HT.lexLt ns ms)))
    | _, _ => False) = _
  rw [intsOf_ilst, intsOf_ilst]
theorem kv_min2T {a b : List Int} : fMin2T [.d (.tuple (ilst a)), .d (.tuple (ilst b))] Q = Q (.d (.tuple (ilst (if HT.lexLt b a = true then b else a)))) := by
  show (match intsOf (ilst a), intsOf (ilst b) with
    | some ns, some ms => Q (.d (.tuple (if HT.lexLt ms ns = true then ilst b else ilst a)))
    | _, _ => False) = _
  rw [intsOf_ilst, intsOf_ilst]
  show Q (.d (.tuple (if HT.lexLt b a = true then ilst b else ilst a))) = _
  cases HT.lexLt b a <;> rfl
theorem L_law_turned {ns : List Int} (h : IsRope ns) (q : Q (.d (.tuple (ilst (tI ns))))) : F_law_turned [.d (.tuple (ilst ns))] Q Ex := by
  have h9 := h.2.1
  have es := tI_sorted h
  obtain ⟨i, l, rfl⟩ := rope_snoc h
  show lcL (fName 1) mYes (mBin fSub (mBin fIx (mVar 0) (mUn fNeg (mC (.int 1)))) (mVar 1)) [some (.d (.tuple (ilst (i ++ [l])))), none] _ (ilst (i ++ [l])) []
  have ea : L2.atI (ilst (i ++ [l])) (-1) = some (.int l) := by rw [ilst_app]; exact L2.atI_last _ _
  have eg : (i ++ [l]).getLastD 0 = l := by rw [List.getLastD_eq_getLast?, List.getLast?_append]; rfl
  rw [eg] at es
  refine lcL_map (fun d => match d with | .int p => .int (l - p) | x => x) _ (by rw [ilst_len]; have := szl; omega) (fun d hd K1 K2 q => ?_) ?_
  · obtain ⟨p, hp, rfl⟩ := ilst_map_mem hd
    exact Exists.intro _ (And.intro ea q)
  · have em : (ilst (i ++ [l])).map (fun d => match d with | PyData.int p => PyData.int (l - p) | x => x) = ilst ((i ++ [l]).map fun p => l - p) := by
      unfold ilst
      rw [List.map_map, List.map_map]
      rfl
    rw [em]
    show fSortI [.d (.list (ilst ((i ++ [l]).map fun p => l - p)))] (fun ds => fTupOf [.d (.list ds)] (fun x => x.isOwn = false ∧ Q x))
    refine tail_spans (And.intro rfl ?_)
    rw [es]
    exact q
theorem L_need_rope {d : Dt} (hd : Bd 300 60 d) (h1 : IsR d → Q (.d .none)) (h2 : ¬ IsR d → Ex ⟨"InvalidRope", none⟩) : F_need_rope [.d d] Q Ex := by
  show b_need_rope (endM Q Ex) [some (.d d)]
  unfold b_need_rope
  w_fin
  refine L_is_rope hd fun b hb => ?_
  cases b with
  | true => exact iteF' rfl (h1 (hb.mp rfl))
  | false => exact iteT' rfl (h2 fun z => nomatch hb.mpr z)
theorem isR_rope {ns : List Int} (h : IsRope ns) : IsR (.tuple (ilst ns)) := ⟨ns, rfl, good_of_rope h⟩
theorem rope_isR {d : Dt} (h : IsR d) : ∃ ns, d = .tuple (ilst ns) ∧ IsRope ns := by
  obtain ⟨ns, e, g⟩ := h
  exact ⟨ns, e, rope_of_good g⟩
end
end Lw
end

section
set_option Elab.async false
set_option linter.all false
set_option maxRecDepth 100000
set_option maxHeartbeats 1000000
namespace Lw
open PySem PySem.Spec PyProof.Rows L2 Ks
local macro_rules | `(tactic| w_fin) => `(tactic| simp only [mSeq, mNext, mRet, mIfS, mSet, mPar, mDrop, mVal, mOwn, mRaise, mAsgT, fName, fTup2, mVar, mC, mBin, mUn, mChain, mB, mAnd, mOr, mNot, mAndV, mOrV, mNotV, mIf, mNil, mCons, mTup, mLst, mF, mCB, mCF, mCall, mPart, mNoPart, mYes, mTy, mWord, mFreeze, endM,
  List.getElem?_cons_zero, List.getElem?_cons_succ, List.getElem?_nil, List.set_cons_zero, List.set_cons_succ, kv_dts1, kv_dts2, kv_dts3, kv_own, kv_noOwn1, kv_noOwn2, kv_noOwn3, kv_noOwn4, kv_map0, kv_map1, kv_sub, kv_addI, kv_lt, kv_le, kv_gt, kv_ge, kv_min2, kv_max2, kv_len_t, kv_neg, kv_lstT, kv_lstL, kv_tupL, mCF, kv_ix0, kv_ix1, kv_ix2, kv_ix3, kv_inS2, kv_inS2l, kv_intB, kv_intI, kv_len_l, kv_pow, kv_eqI, kv_neI, kv_eqS, kv_neS, true_and, and_true, if_true, if_false, Bool.false_eq_true, Bool.not_true, Bool.not_false, eq_self])
theorem up_turned {ns : List Int} (h : IsRope ns) : upI (tI ns) = upI ns := by
  unfold upI
  rw [tI_tI h]
  cases h1 : HT.lexLt ns (tI ns) with
  | true =>
    rw [if_pos rfl, if_neg (by rw [lexLt_asymm _ _ h1]; exact Bool.false_ne_true)]
  | false =>
    rw [if_neg Bool.false_ne_true]
    cases h2 : HT.lexLt (tI ns) ns with
    | true => rw [if_pos rfl]
    | false => rw [if_neg Bool.false_ne_true]; exact (lexLt_tri ns (tI ns) h1 h2).symm
theorem spI_bd {ns : List Int} (h : IsRope ns) : Bd 300 60 (.tuple (ilst (spI ns))) := by
  have len : (spI ns).length ≤ 81 := by
    have := spB_len ns
    have e : (spI ns).length = (spB ns).length := (isort_perm _).length_eq
    have h9 := h.2.1
    have := Nat.mul_le_mul h9 h9
    omega
  refine bd_row (by omega) fun n hn => ?_
  have hn : n ∈ spB ns := (isort_perm _).mem_iff.mp hn
  have hb : ∀ (ms : List Int), (∀ m ∈ ms, 0 ≤ m ∧ m ≤ 10 ^ 30) → ∀ n ∈ spB ms, n.natAbs ≤ 10 ^ 30 := fun ms => by
    induction ms with
    | nil => intro _ n hn; simp [spB] at hn
    | cons x xs ih =>
      intro hm n hn
      rcases List.mem_append.mp hn with z | z
      · obtain ⟨y, hy, rfl⟩ := List.mem_map.mp z
        have a := hm x List.mem_cons_self
        have b := hm y (List.mem_cons_of_mem _ hy)
        unfold absI
        split <;> omega
      · exact ih (fun m hm' => hm m (List.mem_cons_of_mem _ hm')) n z
  have := hb ns h.2.2.2.2 n hn
  have h2 : (2 : Nat) ^ 100 ≤ 2 ^ 300 := Nat.pow_le_pow_right (by decide) (by decide)
  have h3 : (10 : Nat) ^ 30 < 2 ^ 100 := by decide
  omega
theorem kv_eqR {d : Dt} {Q : Dv → Prop} (h : Bd 300 60 d) : fEq (.d d) (.d d) Q = Q (.d (.bool true)) := by
  rw [kv_eqD (h.shaped (by decide)) (h.shaped (by decide)), PySem.SeqAt.eqv_refl _ h.1]
theorem kv_neR {d : Dt} {Q : Dv → Prop} (h : Bd 300 60 d) : fNe (.d d) (.d d) Q = Q (.d (.bool false)) := by
  rw [kv_neD (h.shaped (by decide)) (h.shaped (by decide)), PySem.SeqAt.eqv_refl _ h.1]; rfl
section
variable {Q : Dv → Prop} {Ex : Exn → Prop}
end
end Lw
end

section
set_option Elab.async false
set_option linter.all false
set_option maxRecDepth 100000
set_option maxHeartbeats 1000000
namespace Lw
open PySem PySem.Spec PyProof.Rows L2 Ks
local macro_rules | `(tactic| w_fin) => `(tactic| simp only [mSeq, mNext, mRet, mIfS, mSet, mPar, mDrop, mVal, mOwn, mRaise, mAsgT, fName, fTup2, mVar, mC, mBin, mUn, mChain, mB, mAnd, mOr, mNot, mAndV, mOrV, mNotV, mIf, mNil, mCons, mTup, mLst, mF, mCB, mCF, mCall, mPart, mNoPart, mYes, mTy, mWord, mFreeze, endM,
  List.getElem?_cons_zero, List.getElem?_cons_succ, List.getElem?_nil, List.set_cons_zero, List.set_cons_succ, kv_dts1, kv_dts2, kv_dts3, kv_own, kv_noOwn1, kv_noOwn2, kv_noOwn3, kv_noOwn4, kv_map0, kv_map1, kv_sub, kv_addI, kv_lt, kv_le, kv_gt, kv_ge, kv_min2, kv_max2, kv_len_t, kv_neg, kv_lstT, kv_lstL, kv_tupL, mCF, kv_ix0, kv_ix1, kv_ix2, kv_ix3, kv_inS2, kv_inS2l, kv_intB, kv_intI, kv_len_l, kv_pow, kv_eqI, kv_neI, kv_eqS, kv_neS, true_and, and_true, if_true, if_false, Bool.false_eq_true, Bool.not_true, Bool.not_false, eq_self])
/-- the gaps of a rope -/
def gapI (ns : List Int) : List Int := (List.range (ns.length - 1)).map fun i => ns.getD (i + 1) 0 - ns.getD i 0
/-- whether a fact is so -/
def soB (ns : List Int) : Dt → Bool
  | .tuple [.str s, .int p, .bool t] => if s = sAt then ns.contains p == t else (gapI ns).contains p == t
  | .tuple [.str _, .int i, .int j, .int k] => decide (j < (ns.length : Nat)) && (ns.getD j.toNat 0 - ns.getD i.toNat 0 == k)
  | _ => false
theorem v_eqv_b (a b : Bool) : PyData.eqv (.bool a) (.bool b) = (a == b) := by unfold PyData.eqv; rfl
theorem kv_eqB {a b : Bool} {K : Dv → Prop} : fEq (.d (.bool a)) (.d (.bool b)) K = K (.d (.bool (a == b))) := by
  rw [kv_eqD (shaped_b a) (shaped_b b), v_eqv_b]
theorem kv_neB {a b : Bool} {K : Dv → Prop} : fNe (.d (.bool a)) (.d (.bool b)) K = K (.d (.bool (!(a == b)))) := by
  rw [kv_neD (shaped_b a) (shaped_b b), v_eqv_b]
theorem kv_inI {neg : Bool} {a : Int} {ns : List Int} {K : Dv → Prop} : fIn neg (.d (.int a)) (.d (.list (ilst ns))) K = K (.d (.bool (if neg then !ns.contains a else ns.contains a))) := by
  show (flatD (.int a) = true ∧ (ilst ns).all flatD = true ∧ K (.d (.bool (if neg then !(ilst ns).any (fun z => eqF z (.int a)) else (ilst ns).any (fun z => eqF z (.int a)))))) = _
  rw [any_eqF, all_flat]; simp [flatD]
theorem kv_inT {neg : Bool} {a : Int} {ns : List Int} {K : Dv → Prop} : fIn neg (.d (.int a)) (.d (.tuple (ilst ns))) K = K (.d (.bool (if neg then !ns.contains a else ns.contains a))) := by
  show (flatD (.int a) = true ∧ (ilst ns).all flatD = true ∧ K (.d (.bool (if neg then !(ilst ns).any (fun z => eqF z (.int a)) else (ilst ns).any (fun z => eqF z (.int a)))))) = _
  rw [any_eqF, all_flat]; simp [flatD]
/-- what a fact can be -/
theorem fact_cases {d : Dt} (h : factB d = true) : (∃ p t, d = .tuple [.str sAt, .int p, .bool t] ∧ 0 ≤ p ∧ p ≤ 10 ^ 30) ∨ (∃ p t, d = .tuple [.str sBe, .int p, .bool t] ∧ 1 ≤ p ∧ p ≤ 10 ^ 30) ∨
    (∃ i j k, d = .tuple [.str sBt, .int i, .int j, .int k] ∧ 0 ≤ i ∧ i < j ∧ j ≤ 8 ∧ 1 ≤ k ∧ k ≤ 10 ^ 30) := by
  unfold factB at h
  split at h
  · rename_i s b c
    rw [Bool.or_eq_true] at h
    simp only [Bool.and_eq_true, beq_iff_eq] at h
    rcases h with ⟨⟨rfl, h1⟩, h2⟩ | ⟨⟨rfl, h1⟩, h2⟩
    · obtain ⟨p, rfl, a, b⟩ := isW_int h1
      cases c with
      | bool t => exact .inl ⟨p, t, rfl, a, b⟩
      | _ => cases h2
    · obtain ⟨p, rfl, a, b⟩ := isW_int h1
      cases c with
      | bool t => exact .inr (.inl ⟨p, t, rfl, a, b⟩)
      | _ => cases h2
  · rename_i s b c e
    simp only [Bool.and_eq_true, beq_iff_eq] at h
    obtain ⟨⟨⟨rfl, h1⟩, h2⟩, h3⟩ := h
    obtain ⟨k, rfl, a, b⟩ := isW_int h1
    obtain ⟨j, rfl, a2, b2⟩ := isW_int h2
    obtain ⟨i, rfl, a3, b3⟩ := isW_int (show isWhole 0 (j - 1) _ = true from h3)
    exact .inr (.inr ⟨i, j, k, rfl, a3, by omega, b2, a, b⟩)
  · cases h
section
variable {Q : Dv → Prop} {Ex : Exn → Prop}
end
end Lw
end

section
set_option Elab.async false
set_option linter.all false
set_option maxRecDepth 100000
set_option maxHeartbeats 1000000
namespace Lw
open PySem PySem.Spec PyProof.Rows L2 Ks
local macro_rules | `(tactic| w_fin) => `(tactic| simp only [mSeq, mNext, mRet, mIfS, mSet, mPar, mDrop, mVal, mOwn, mRaise, mAsgT, fName, fTup2, mVar, mC, mBin, mUn, mChain, mB, mAnd, mOr, mNot, mAndV, mOrV, mNotV, mIf, mNil, mCons, mTup, mLst, mF, mCB, mCF, mCall, mPart, mNoPart, mYes, mTy, mWord, mFreeze, endM,
  List.getElem?_cons_zero, List.getElem?_cons_succ, List.getElem?_nil, List.set_cons_zero, List.set_cons_succ, kv_dts1, kv_dts2, kv_dts3, kv_own, kv_noOwn1, kv_noOwn2, kv_noOwn3, kv_noOwn4, kv_map0, kv_map1, kv_sub, kv_addI, kv_lt, kv_le, kv_gt, kv_ge, kv_min2, kv_max2, kv_len_t, kv_neg, kv_lstT, kv_lstL, kv_tupL, mCF, kv_ix0, kv_ix1, kv_ix2, kv_ix3, kv_inS2, kv_inS2l, kv_intB, kv_intI, kv_len_l, kv_pow, kv_eqI, kv_neI, kv_eqS, kv_neS, true_and, and_true, if_true, if_false, Bool.false_eq_true, Bool.not_true, Bool.not_false, eq_self])
def halvesI (one other : List Int) : List Int := one.flatMap fun p => (other.filter fun m => (p + m) % 2 == 0).map fun m => (p + m) / 2
def stepsI (rope ls : List Int) : List Int := rope.flatMap fun p => ls.map (fun l => p + l) ++ ls.map (fun l => p - l)
def freeI (places : List Int) (ropes : List (List Int)) : List Int := ((sdI places).filter fun p => decide (0 ≤ p)).filter fun p => !ropes.any fun r => r.contains p
def crowdB (ns : List Int) : Bool := !riseB 1 (spI ns)
theorem fm_ilst (p : Int → Bool) (g : Int → Int) : ∀ ns : List Int, (ilst ns).filterMap (fun d => match d with | .int n => if p n = true then some (PyData.int (g n)) else none | _ => none) = ilst ((ns.filter p).map g)
  | [] => rfl
  | n :: ns => by
    have ih := fm_ilst p g ns
    show (PyData.int n :: ilst ns).filterMap _ = _
    rw [List.filterMap_cons, List.filter_cons]
    by_cases c : p n = true
    · simp only [c, if_true]
      rw [ih]; rfl
    · simp only [c, if_false]
      exact ih
/-- a comprehension over integers -/
theorem lcI {f : Ks.Env → Dt → (Ks.Env → Prop) → Prop} {mt : Ks.Env → M Bool} {me : Ks.Env → M Dv} {ρ0 : Ks.Env} {Q : List Dt → Prop} (p : Int → Bool) (g : Int → Int) (ns : List Int) (hl : ns.length < sizeLine)
    (h : ∀ n ∈ ns, ∀ (K1 : Dt → Prop) (K2 : Prop), (if p n = true then K1 (.int (g n)) else K2) → Step f mt me ρ0 (.int n) K1 K2)
    (q : Q (ilst ((ns.filter p).map g))) : lcL f mt me ρ0 Q (ilst ns) [] := by
  refine lcL_fm (fun d => match d with | .int n => if p n = true then some (PyData.int (g n)) else none | _ => none) _ _ (by rw [ilst_len]; simpa using hl) (fun d hd K1 K2 k => ?_) ?_
  · obtain ⟨n, hn, rfl⟩ := ilst_map_mem hd
    refine h n hn K1 K2 ?_
    by_cases c : p n = true
    · rw [if_pos c]; simp only [c, if_true] at k; exact k
    · rw [if_neg c]; simp only [c, if_false] at k; exact k
  · rw [fm_ilst]; exact q
theorem fm_len {α : Type} (g : α → List Int) (k : Nat) : ∀ l : List α, (∀ x ∈ l, (g x).length ≤ k) → (l.flatMap g).length ≤ l.length * k
  | [], _ => by simp
  | x :: xs, h => by
    have := fm_len g k xs fun y hy => h y (List.mem_cons_of_mem _ hy)
    have := h x List.mem_cons_self
    rw [List.flatMap_cons, List.length_append, List.length_cons, Nat.add_mul]
    omega
theorem halves_len (a b : List Int) : (halvesI a b).length ≤ a.length * b.length := fm_len _ _ _ fun x _ => by
  rw [List.length_map]; exact List.length_filter_le _ _
theorem steps_len (a b : List Int) : (stepsI a b).length ≤ a.length * (b.length + b.length) := fm_len _ _ _ fun x _ => by simp
section
variable {Q : Dv → Prop} {Ex : Exn → Prop}
theorem kv_mod2 {i : Int} : fMod (.d (.int i)) (.d (.int 2)) Q = Q (.d (.int (i % 2))) := propext ⟨fun h => h.2, fun h => And.intro (show (0 : Int) < 2 by decide) h⟩
theorem kv_div2 {i : Int} : fDiv (.d (.int i)) (.d (.int 2)) Q = Q (.d (.int (i / 2))) := propext ⟨fun h => h.2, fun h => And.intro ⟨by decide, by decide⟩ h⟩
theorem L_halves {one other : List Int} (h1 : one.length ≤ 40) (h2 : other.length ≤ 40) (q : Q (.d (.list (ilst (halvesI one other))))) : F_halves [.d (.tuple (ilst one)), .d (.tuple (ilst other))] Q Ex := by
  have := szl
  show t_halves_3 (endM Q Ex) [some (.d (.tuple (ilst one))), some (.d (.tuple (ilst other))), some (.own []), none, none]
  refine w_seq ?_
  show forL (fName 3) t_halves_1 _ (ilst one) [some (.d (.tuple (ilst one))), some (.d (.tuple (ilst other))), some (.own []), none, none]
  refine forL_inv (fun ds ρ => ∃ seen rest a b, one = seen ++ rest ∧ ds = ilst rest ∧ ρ = [some (.d (.tuple (ilst one))), some (.d (.tuple (ilst other))), some (.own (ilst (halvesI seen other))), a, b]) (fun d ds ρ N i hN => ?_) (fun ρ i => ?_) _ _ ⟨[], one, none, none, rfl, rfl, rfl⟩
  · obtain ⟨seen, rest, a, b, en, e, rfl⟩ := i
    cases rest with
    | nil => cases e
    | cons p ps =>
      have e' : d :: ds = .int p :: ilst ps := e
      injection e' with e1 e2
      subst e1 e2
      have hs : seen.length ≤ 40 := by rw [en] at h1; simp at h1; omega
      show lcL (fName 4) (mB (mBin fEq (mBin fMod (mBin fAdd (mVar 3) (mVar 4)) (mC (.int 2))) (mC (.int 0)))) (mBin fDiv (mBin fAdd (mVar 3) (mVar 4)) (mC (.int 2))) [some (.d (.tuple (ilst one))), some (.d (.tuple (ilst other))), some (.own (ilst (halvesI seen other))), some (.d (.int p)), none] _ (ilst other) []
      refine lcI (fun m => (p + m) % 2 == 0) (fun m => (p + m) / 2) other (by omega) (fun m hm K1 K2 k => ?_) ?_
      · unfold Ks.Step
        w_fin
        rw [kv_mod2]
        w_fin
        simp only [kv_div2]
        exact k
      · have l1 := halves_len seen other
        have l3 : seen.length * other.length ≤ 40 * 40 := Nat.mul_le_mul hs h2
        have l2 := List.length_filter_le (fun m => (p + m) % 2 == 0) other
        refine And.intro (by rw [ilst_len, ilst_len, List.length_map]; omega) (hN _ ⟨seen ++ [p], ps, some (.d (.int p)), b, by rw [en]; simp, rfl, ?_⟩)
        have : halvesI (seen ++ [p]) other = halvesI seen other ++ (other.filter fun m => (p + m) % 2 == 0).map fun m => (p + m) / 2 := by unfold halvesI; simp
        rw [this, ilst_app]
        rfl
  · obtain ⟨seen, rest, a, b, en, e, rfl⟩ := i
    cases rest with
    | cons y ys => cases e
    | nil =>
      have : one = seen := by simpa using en
      subst this
      exact And.intro rfl q
theorem L_steps_from {rope ls : List Int} {x : Dv} (hx : x = .d (.tuple (ilst ls)) ∨ x = .d (.list (ilst ls))) (h1 : rope.length ≤ 40) (h2 : ls.length ≤ 200) (q : Q (.d (.list (ilst (stepsI rope ls))))) : F_steps_from [.d (.tuple (ilst rope)), x] Q Ex := by
  have := szl
  show t_steps_from_3 (endM Q Ex) [some (.d (.tuple (ilst rope))), some x, some (.own []), none, none]
  refine w_seq ?_
  show forL (fName 3) t_steps_from_1 _ (ilst rope) [some (.d (.tuple (ilst rope))), some x, some (.own []), none, none]
  refine forL_inv (fun ds ρ => ∃ seen rest a b, rope = seen ++ rest ∧ ds = ilst rest ∧ ρ = [some (.d (.tuple (ilst rope))), some x, some (.own (ilst (stepsI seen ls))), a, b]) (fun d ds ρ N i hN => ?_) (fun ρ i => ?_) _ _ ⟨[], rope, none, none, rfl, rfl, rfl⟩
  · obtain ⟨seen, rest, a, b, en, e, rfl⟩ := i
    cases rest with
    | nil => cases e
    | cons p ps =>
      have e' : d :: ds = .int p :: ilst ps := e
      injection e' with e1 e2
      subst e1 e2
      have hs : seen.length ≤ 40 := by rw [en] at h1; simp at h1; omega
      have key : lcL (fName 4) mYes (mBin fAdd (mVar 3) (mVar 4)) [some (.d (.tuple (ilst rope))), some x, some (.own (ilst (stepsI seen ls))), some (.d (.int p)), none] (fun as => lcL (fName 4) mYes (mBin fSub (mVar 3) (mVar 4)) [some (.d (.tuple (ilst rope))), some x, some (.own (ilst (stepsI seen ls))), some (.d (.int p)), none] (fun bs => as.length + bs.length ≤ sizeLine ∧ ((ilst (stepsI seen ls)).length + (as ++ bs).length ≤ sizeLine ∧ N [some (.d (.tuple (ilst rope))), some x, some (.own (ilst (stepsI seen ls) ++ (as ++ bs))), some (.d (.int p)), b])) (ilst ls) []) (ilst ls) [] := by
        refine lcL_map (fun d => match d with | .int l => .int (p + l) | d => d) _ (by rw [ilst_len]; omega) (fun d hd K1 K2 k => ?_) ?_
        · obtain ⟨l, hl, rfl⟩ := ilst_map_mem hd
          exact k
        · refine lcL_map (fun d => match d with | .int l => .int (p - l) | d => d) _ (by rw [ilst_len]; omega) (fun d hd K1 K2 k => ?_) ?_
          · obtain ⟨l, hl, rfl⟩ := ilst_map_mem hd
            exact k
          · have l1 := steps_len seen ls
            have l3 : seen.length * (ls.length + ls.length) ≤ 40 * 400 := Nat.mul_le_mul hs (by omega)
            have e1 : ((ilst ls).map fun d => match d with | .int l => PyData.int (p + l) | d => d) = ilst (ls.map fun l => p + l) := by unfold ilst; rw [List.map_map, List.map_map]; rfl
            have e2 : ((ilst ls).map fun d => match d with | .int l => PyData.int (p - l) | d => d) = ilst (ls.map fun l => p - l) := by unfold ilst; rw [List.map_map, List.map_map]; rfl
            rw [e1, e2]
            refine And.intro (by rw [ilst_len, ilst_len, List.length_map, List.length_map]; omega) (And.intro (by rw [List.length_append, ilst_len, ilst_len, ilst_len, List.length_map, List.length_map]; omega) (hN _ ⟨seen ++ [p], ps, some (.d (.int p)), b, by rw [en]; simp, rfl, ?_⟩))
            have : stepsI (seen ++ [p]) ls = stepsI seen ls ++ (ls.map (fun l => p + l) ++ ls.map (fun l => p - l)) := by unfold stepsI; simp
            rw [this, ilst_app, ilst_app]
      rcases hx with rfl | rfl
      · exact key
      · exact key
  · obtain ⟨seen, rest, a, b, en, e, rfl⟩ := i
    cases rest with
    | cons y ys => cases e
    | nil =>
      have : rope = seen := by simpa using en
      subst this
      exact And.intro rfl q
theorem L_crowded {ns : List Int} (h : ns.length ≤ 30) (q : Q (.d (.bool (crowdB ns)))) : F_crowded [.d (.tuple (ilst ns))] Q Ex := by
  have l2 : (spI ns).length ≤ 900 := by
    rw [show (spI ns).length = (spB ns).length from (isort_perm _).length_eq]
    exact Nat.le_trans (spB_len ns) (Nat.mul_le_mul h h)
  exact And.intro rfl (L_spans_by (by omega) (And.intro rfl (L_rises (by omega) (And.intro rfl q))))
end
end Lw
end

section
set_option Elab.async false
set_option linter.all false
set_option maxRecDepth 100000
set_option maxHeartbeats 1000000
namespace Lw
open PySem PySem.Spec PyProof.Rows L2 Ks
theorem pw_rise {ns : List Int} (h : ns.Pairwise (· < ·)) : riseB 1 ns = true := riseB_iff.mpr fun i hi => by
  have := List.pairwise_iff_getElem.mp h i (i + 1) (by omega) hi (by omega)
  rw [List.getD_eq_getElem?_getD, List.getD_eq_getElem?_getD, List.getElem?_eq_getElem hi, List.getElem?_eq_getElem (by omega)]
  show 1 ≤ ns[i + 1] - ns[i]
  omega
theorem crowd_nd {ns : List Int} : crowdB ns = false ↔ (spB ns).Nodup := by
  unfold crowdB spI
  rw [Bool.not_eq_false']
  constructor
  · intro h
    exact (isort_perm _).nodup_iff.mp ((rise_pw h).imp fun h => by omega)
  · intro h
    have h1 : (isort (spB ns)).Nodup := (isort_perm _).nodup_iff.mpr h
    refine pw_rise ?_
    exact (List.pairwise_and_iff.mpr ⟨isort_sorted (spB ns), h1⟩).imp fun h => by omega
theorem insI_len {x : Int} : ∀ {l : List Int}, l.Pairwise (· < ·) → (insI x l).length = if x ∈ l then l.length else l.length + 1
  | [], _ => by simp [insI]
  | y :: ys, h => by
    obtain ⟨h1, h2⟩ := List.pairwise_cons.mp h
    have ih := insI_len (x := x) h2
    unfold insI
    split
    · rename_i c
      rw [if_neg (fun z => by
        rcases List.mem_cons.mp z with z | z
        · omega
        · have := h1 x z; omega)]
      rfl
    · split
      · rename_i c e
        rw [if_pos (by rw [e]; exact List.mem_cons_self)]
      · rename_i c e
        rw [List.length_cons, ih, List.length_cons]
        by_cases z : x ∈ ys
        · rw [if_pos z, if_pos (List.mem_cons_of_mem _ z)]
        · rw [if_neg z, if_neg (fun q => (List.mem_cons.mp q).elim e z)]
theorem sdI_len : ∀ l : List Int, (sdI l).length ≤ l.length ∧ ((sdI l).length < l.length ↔ ¬ l.Nodup)
  | [] => by simp [sdI]
  | x :: xs => by
    obtain ⟨a, b⟩ := sdI_len xs
    rw [sdI, insI_len (sdI_sorted xs), List.length_cons, List.nodup_cons]
    by_cases z : x ∈ xs
    · rw [if_pos (sdI_mem.mpr z)]
      exact ⟨by omega, ⟨fun _ h => h.1 z, fun _ => by omega⟩⟩
    · rw [if_neg (fun q => z (sdI_mem.mp q))]
      refine ⟨by omega, ⟨fun h q => b.mp (by omega) q.2, fun h => ?_⟩⟩
      have : ¬ xs.Nodup := fun q => h ⟨z, q⟩
      have := b.mpr this
      omega
theorem spB_snoc (p : Int) : ∀ ns : List Int, (spB (ns ++ [p])).Perm (spB ns ++ ns.map fun x => absI (p - x))
  | [] => by simp [spB]
  | x :: xs => by
    have ih := spB_snoc p xs
    show ((xs ++ [p]).map (fun y => absI (y - x)) ++ spB (xs ++ [p])).Perm ((xs.map (fun y => absI (y - x)) ++ spB xs) ++ (absI (p - x) :: xs.map fun x => absI (p - x)))
    rw [List.map_append, List.append_assoc, List.append_assoc]
    refine List.Perm.append_left _ ?_
    show (absI (p - x) :: spB (xs ++ [p])).Perm _
    refine (List.Perm.cons _ ih).trans ?_
    exact List.perm_middle.symm
theorem absI_cases (d : Int) : (absI d = d ∧ 0 ≤ d) ∨ (absI d = -d ∧ d < 0) := by unfold absI; split <;> omega
theorem mem_halves {p x y : Int} {a b : List Int} (hx : x ∈ a) (hy : y ∈ b) (h : absI (p - x) = absI (p - y)) (hn : x ≠ y) : p ∈ halvesI a b := by
  have e : x + y = p + p := by rcases absI_cases (p - x) with h1 | h1 <;> rcases absI_cases (p - y) with h2 | h2 <;> omega
  refine List.mem_flatMap.mpr ⟨x, hx, List.mem_map.mpr ⟨y, List.mem_filter.mpr ⟨hy, ?_⟩, ?_⟩⟩
  · rw [beq_iff_eq]; omega
  · show (x + y) / 2 = p
    omega
theorem mem_steps {p x : Int} {a ls : List Int} (hx : x ∈ a) (h : absI (p - x) ∈ ls) : p ∈ stepsI a ls := by
  refine List.mem_flatMap.mpr ⟨x, hx, List.mem_append.mpr ?_⟩
  rcases absI_cases (p - x) with h1 | h1
  · exact .inl (List.mem_map.mpr ⟨_, h, by omega⟩)
  · exact .inr (List.mem_map.mpr ⟨_, h, by omega⟩)
theorem crowd_all {r : List Int} {p : Int} (h : r.Pairwise (· < ·)) (h1 : crowdB r = false) (h2 : crowdB (r ++ [p]) = true) : p ∈ halvesI r r ++ stepsI r (spI r) := by
  refine Classical.byContradiction fun no => ?_
  rw [List.mem_append, not_or] at no
  have key : (spB (r ++ [p])).Nodup := by
    refine (spB_snoc p r).nodup_iff.mpr (List.nodup_append.mpr ⟨crowd_nd.mp h1, ?_, ?_⟩)
    · refine List.pairwise_map.mpr (h.imp_of_mem fun {x y} hx hy hl e => ?_)
      exact no.1 (mem_halves hx hy e (by omega))
    · intro a ha b hb e
      obtain ⟨x, hx, rfl⟩ := List.mem_map.mp hb
      exact no.2 (mem_steps hx (by
        unfold spI
        rw [(isort_perm _).mem_iff, ← e]; exact ha))
  rw [crowd_nd.mpr key] at h2
  cases h2
theorem sub_len : ∀ {b a : List Int}, a.Pairwise (· < ·) → b.Pairwise (· < ·) → (∀ x ∈ a, x ∈ b) → a.length ≤ b.length ∧ (a.length = b.length → a = b)
  | [], [], _, _, _ => ⟨Nat.le_refl _, fun _ => rfl⟩
  | [], x :: xs, _, _, h => absurd (h x List.mem_cons_self) (by simp)
  | y :: ys, [], _, _, _ => ⟨Nat.zero_le _, fun e => by cases e⟩
  | y :: ys, x :: xs, ha, hb, h => by
    obtain ⟨a1, a2⟩ := List.pairwise_cons.mp ha
    obtain ⟨b1, b2⟩ := List.pairwise_cons.mp hb
    rcases List.mem_cons.mp (h x List.mem_cons_self) with e | e
    · subst e
      obtain ⟨c, d⟩ := sub_len (b := ys) (a := xs) a2 b2 fun z hz => by
        rcases List.mem_cons.mp (h z (List.mem_cons_of_mem _ hz)) with q | q
        · have := a1 z hz; omega
        · exact q
      exact ⟨Nat.succ_le_succ c, fun e => by rw [d (Nat.succ.inj e)]⟩
    · have hx := b1 x e
      obtain ⟨c, d⟩ := sub_len (b := ys) (a := x :: xs) ha b2 fun z hz => by
        rcases List.mem_cons.mp hz with q | q
        · rw [q]; exact e
        · rcases List.mem_cons.mp (h z hz) with r | r
          · have := a1 z q; omega
          · exact r
      exact ⟨Nat.le_succ_of_le c, fun e => by simp only [List.length_cons] at c e; omega⟩
theorem sub_eq {a b : List Int} (ha : a.Pairwise (· < ·)) (hb : b.Pairwise (· < ·)) (hl : a.length = b.length) (hs : ∀ x ∈ a, x ∈ b) : a = b := (sub_len ha hb hs).2 hl
theorem match_all {a b : List Int} {p : Int} (ha : a.Pairwise (· < ·)) (hb : b.Pairwise (· < ·)) (hl : a.length = b.length) (hn : a ≠ b) (h : spI (a ++ [p]) = spI (b ++ [p])) : p ∈ halvesI a b ++ stepsI (a ++ b) (spI a ++ spI b) := by
  have pe : (spB a ++ a.map fun x => absI (p - x)).Perm (spB b ++ b.map fun x => absI (p - x)) := by
    refine (spB_snoc p a).symm.trans (List.Perm.trans ?_ (spB_snoc p b))
    refine (isort_perm _).symm.trans (List.Perm.trans ?_ (isort_perm _))
    show (spI (a ++ [p])).Perm (spI (b ++ [p]))
    rw [h]
  have : ∃ x, x ∈ a ∧ x ∉ b := Classical.byContradiction fun no => hn (sub_eq ha hb hl fun x hx => Classical.byContradiction fun z => no ⟨x, hx, z⟩)
  obtain ⟨x, hx, hxb⟩ := this
  have m : absI (p - x) ∈ spB b ++ b.map fun x => absI (p - x) := pe.mem_iff.mp (List.mem_append_right _ (List.mem_map.mpr ⟨x, hx, rfl⟩))
  rw [List.mem_append]
  rcases List.mem_append.mp m with m | m
  · exact .inr (mem_steps (List.mem_append_left _ hx) (List.mem_append_right _ ((isort_perm _).mem_iff.mpr m)))
  · obtain ⟨y, hy, e⟩ := List.mem_map.mp m
    exact .inl (mem_halves hx hy e.symm fun z => hxb (z ▸ hy))
theorem free_mem {places : List Int} {ropes : List (List Int)} {p : Int} : p ∈ freeI places ropes ↔ p ∈ places ∧ 0 ≤ p ∧ ∀ r ∈ ropes, p ∉ r := by
  unfold freeI
  rw [List.mem_filter, List.mem_filter, sdI_mem, decide_eq_true_eq]
  constructor
  · rintro ⟨⟨h1, h2⟩, h3⟩
    refine ⟨h1, h2, fun r hr q => ?_⟩
    rw [Bool.not_eq_true', List.any_eq_false] at h3
    exact h3 r hr (List.contains_iff_mem.mpr q)
  · rintro ⟨h1, h2, h3⟩
    refine ⟨⟨h1, h2⟩, ?_⟩
    rw [Bool.not_eq_true', List.any_eq_false]
    exact fun r hr q => h3 r hr (List.contains_iff_mem.mp q)
theorem free_sorted (places : List Int) (ropes : List (List Int)) : (freeI places ropes).Pairwise (· < ·) := ((sdI_sorted _).filter _).filter _
theorem free_len (places : List Int) (ropes : List (List Int)) : (freeI places ropes).length ≤ places.length :=
  Nat.le_trans (List.length_filter_le _ _) (Nat.le_trans (List.length_filter_le _ _) (sdI_len places).1)
theorem sd_self {l : List Int} (h : l.Pairwise (· < ·)) : sdI l = l := lt_sorted_uniq (sdI_sorted l) h fun k => sdI_mem
/-- what crowding and matches tell -/
def crowdI (r : List Int) : List Int := (freeI (halvesI r r ++ stepsI r (spI r)) [r]).filter fun p => crowdB (r ++ [p])
def matchI (a b : List Int) : List Int := (freeI (halvesI a b ++ stepsI (a ++ b) (spI a ++ spI b)) [a, b]).filter fun p => spI (a ++ [p]) == spI (b ++ [p])
theorem crowdI_mem {r : List Int} {p : Int} (h : r.Pairwise (· < ·)) (h1 : crowdB r = false) (h0 : 0 ≤ p) : p ∈ crowdI r ↔ p ∉ r ∧ crowdB (r ++ [p]) = true := by
  unfold crowdI
  rw [List.mem_filter, free_mem]
  exact ⟨fun q => ⟨q.1.2.2 r List.mem_cons_self, q.2⟩, fun q => ⟨⟨crowd_all h h1 q.2, h0, fun x hx => by
    have : x = r := by simpa using hx
    rw [this]; exact q.1⟩, q.2⟩⟩
theorem matchI_mem {a b : List Int} {p : Int} (ha : a.Pairwise (· < ·)) (hb : b.Pairwise (· < ·)) (hl : a.length = b.length) (hn : a ≠ b) (h0 : 0 ≤ p) : p ∈ matchI a b ↔ (p ∉ a ∧ p ∉ b) ∧ spI (a ++ [p]) = spI (b ++ [p]) := by
  unfold matchI
  rw [List.mem_filter, free_mem, beq_iff_eq]
  exact ⟨fun q => ⟨⟨q.1.2.2 a List.mem_cons_self, q.1.2.2 b (List.mem_cons_of_mem _ List.mem_cons_self)⟩, q.2⟩, fun q => ⟨⟨match_all ha hb hl hn q.2, h0, fun x hx => by
    simp only [List.mem_cons, List.not_mem_nil, or_false] at hx
    rcases hx with rfl | rfl
    · exact q.1.1
    · exact q.1.2⟩, q.2⟩⟩
theorem crowdI_ok (r : List Int) : (crowdI r).Pairwise (· < ·) ∧ (∀ p ∈ crowdI r, 0 ≤ p) ∧ (crowdI r).length ≤ (halvesI r r ++ stepsI r (spI r)).length :=
  ⟨(free_sorted _ _).filter _, fun p hp => (free_mem.mp (List.mem_filter.mp hp).1).2.1, Nat.le_trans (List.length_filter_le _ _) (free_len _ _)⟩
theorem matchI_ok (a b : List Int) : (matchI a b).Pairwise (· < ·) ∧ (∀ p ∈ matchI a b, 0 ≤ p) ∧ (matchI a b).length ≤ (halvesI a b ++ stepsI (a ++ b) (spI a ++ spI b)).length :=
  ⟨(free_sorted _ _).filter _, fun p hp => (free_mem.mp (List.mem_filter.mp hp).1).2.1, Nat.le_trans (List.length_filter_le _ _) (free_len _ _)⟩
end Lw
end

section
set_option Elab.async false
set_option linter.all false
set_option maxRecDepth 100000
set_option maxHeartbeats 1000000
namespace Lw
open PySem PySem.Spec PyProof.Rows L2 Ks
local macro_rules | `(tactic| w_fin) => `(tactic| simp only [mSeq, mNext, mRet, mIfS, mSet, mPar, mDrop, mVal, mOwn, mRaise, mAsgT, fName, fTup2, mVar, mC, mBin, mUn, mChain, mB, mAnd, mOr, mNot, mAndV, mOrV, mNotV, mIf, mNil, mCons, mTup, mLst, mF, mCB, mCF, mCall, mPart, mNoPart, mYes, mTy, mWord, mFreeze, endM,
  List.getElem?_cons_zero, List.getElem?_cons_succ, List.getElem?_nil, List.set_cons_zero, List.set_cons_succ, kv_dts1, kv_dts2, kv_dts3, kv_own, kv_noOwn1, kv_noOwn2, kv_noOwn3, kv_noOwn4, kv_map0, kv_map1, kv_sub, kv_addI, kv_lt, kv_le, kv_gt, kv_ge, kv_min2, kv_max2, kv_len_t, kv_neg, kv_lstT, kv_lstL, kv_tupL, mCF, kv_ix0, kv_ix1, kv_ix2, kv_ix3, kv_inS2, kv_inS2l, kv_intB, kv_intI, kv_len_l, kv_pow, kv_eqI, kv_neI, kv_eqS, kv_neS, true_and, and_true, if_true, if_false, Bool.false_eq_true, Bool.not_true, Bool.not_false, eq_self])
theorem w_lc {mi : Ks.Env → M (List Dt)} {f : Ks.Env → Dt → (Ks.Env → Prop) → Prop} {mt : Ks.Env → M Bool} {me : Ks.Env → M Dv} {vs : List Nat} {ρ : Ks.Env} {Q : List Dt → Prop} {Ex : Exn → Prop} (h : mi ρ (fun ds => lcL f mt me (wipeE ρ vs) Q ds []) Ex) : mLc mi f mt me vs ρ Q Ex := h
theorem w_fName {i : Nat} {ρ : Ks.Env} {d : Dt} {Q : Ks.Env → Prop} (h : Q (ρ.set i (some (.d d)))) : fName i ρ d Q := h
theorem w_yes {ρ : Ks.Env} {Ex : Exn → Prop} {p q : Prop} (h : p) : mYes ρ (fun b => if b = true then p else q) Ex := by
  show if true = true then p else q
  rw [if_pos rfl]; exact h
theorem w_for {mi : Ks.Env → M (List Dt)} {f : Ks.Env → Dt → (Ks.Env → Prop) → Prop} {body : MS} {B : Me} {ρ : Ks.Env} (h : mi ρ (fun ds => forL f body B ds ρ) B.ex) : mFor mi f body B ρ := h
theorem w_itemsA {me : Ks.Env → M Dv} {ρ : Ks.Env} {Q : List Dt → Prop} {Ex : Exn → Prop} (h : me ρ (fun x => match x with
  | .d (.list ds) => Q ds
  | .d (.tuple ds) => Q ds
  | _ => False) Ex) : mItemsA me ρ Q Ex := h
theorem sd_list {ns : List Int} {Q : List Dt → Prop} (hl : ns.length < 4000) (h : Q (ilst (sdI ns))) : (match (Dv.d (.list (ilst ns))).ls?.bind intsOf with
    | some ns => ns.length < 4000 ∧ Q (ilst (sdI ns))
    | none => False) := by
  show match (some (ilst ns)).bind intsOf with
    | some ns => ns.length < 4000 ∧ Q (ilst (sdI ns))
    | none => False
  rw [Option.bind_some, intsOf_ilst]
  exact ⟨hl, h⟩
theorem sd_var {i : Nat} {ρ : Ks.Env} {ns : List Int} {Q : List Dt → Prop} {Ex : Exn → Prop} (e : ρ[i]? = some (some (.d (.list (ilst ns))))) (hl : ns.length < 4000) (h : Q (ilst (sdI ns))) : mSdI (mVar i) ρ Q Ex := by
  unfold mSdI
  exact w_var e (sd_list hl h)
def hasD (p : Int) : Dt → Bool
  | .tuple ds => (match intsOf ds with | some ns => ns.contains p | none => false)
  | _ => false
theorem hasD_t (p : Int) (r : List Int) : hasD p (.tuple (ilst r)) = r.contains p := by
  show (match intsOf (ilst r) with | some ns => ns.contains p | none => false) = r.contains p
  rw [intsOf_ilst]
abbrev tps (ropes : List (List Int)) : List Dt := ropes.map fun r => .tuple (ilst r)
theorem fAny_of {ds : List Dt} {bs : List Bool} {Q : Dv → Prop} (e : blsOf ds = some bs) (q : Q (.d (.bool (bs.any id)))) : fAny [.d (.list ds)] Q := by
  show match (some ds).bind blsOf with
    | some bs => Q (.d (.bool (bs.any id)))
    | none => False
  rw [Option.bind_some, e]
  exact q
section
variable {Q : Dv → Prop} {Ex : Exn → Prop}
theorem L_free_places {places : List Int} {ropes : List (List Int)} (h1 : places.length < 4000) (h2 : ropes.length ≤ 4) (q : Q (.d (.list (ilst (freeI places ropes))))) : F_free_places [.d (.list (ilst places)), .d (.list (tps ropes))] Q Ex := by
  have := szl
  have fl := (sdI_len places).1
  unfold F_free_places b_free_places
  refine w_seq (w_set (w_val (w_f (w_lc (w_itemsA (w_f (sd_var rfl h1 ?_)))))))
  show lcL (fName 3) (mB (mBin fGe (mVar 3) (mC (.int 0)))) (mVar 3) [some (.d (.list (ilst places))), some (.d (.list (tps ropes))), none, none, none] _ (ilst (sdI places)) []
  refine lcI (fun p => decide (0 ≤ p)) (fun p => p) _ (by omega) (fun p hp K1 K2 k => ?_) ?_
  · exact k
  · rw [List.map_id']
    refine And.intro rfl ?_
    show t_free_places_1 (endM Q Ex) [some (.d (.list (ilst places))), some (.d (.list (tps ropes))), some (.d (.list (ilst ((sdI places).filter fun p => decide (0 ≤ p))))), none, none]
    unfold t_free_places_1
    refine w_ret (w_f (w_lc (w_itemsA (w_var (x := .d (.list (ilst ((sdI places).filter fun p => decide (0 ≤ p))))) rfl ?_))))
    show lcL (fName 3) (mNot (mB (mCB fAny (mCons (mF (mLc (mItemsA (mVar 1)) (fName 4) mYes (mBin (fIn false) (mVar 3) (mVar 4)) [4])) mNil)))) (mVar 3) [some (.d (.list (ilst places))), some (.d (.list (tps ropes))), some (.d (.list (ilst ((sdI places).filter fun p => decide (0 ≤ p))))), none, none] _ (ilst ((sdI places).filter fun p => decide (0 ≤ p))) []
    have l2 := List.length_filter_le (fun p => decide ((0 : Int) ≤ p)) (sdI places)
    refine lcI (fun p => !ropes.any fun r => r.contains p) (fun p => p) _ (by omega) (fun p hp K1 K2 k => ?_) ?_
    · unfold Ks.Step
      refine w_fName ?_
      refine w_not (w_B (w_cb (w_cons (w_f (w_lc (w_itemsA (w_var (x := .d (.list (tps ropes))) rfl ?_)))))))
      show lcL (fName 4) mYes (mBin (fIn false) (mVar 3) (mVar 4)) [some (.d (.list (ilst places))), some (.d (.list (tps ropes))), some (.d (.list (ilst ((sdI places).filter fun p => decide (0 ≤ p))))), some (.d (.int p)), none] _ (tps ropes) []
      refine lcL_map (fun d => .bool (hasD p d)) _ (by rw [List.length_map]; omega) (fun d hd C1 C2 c => ?_) ?_
      · obtain ⟨r, hr, rfl⟩ := List.mem_map.mp hd
        unfold Ks.Step
        refine w_fName (w_yes (w_bin (w_var (x := .d (.int p)) rfl (w_var (x := .d (.tuple (ilst r))) rfl ?_))))
        rw [kv_inT]
        rw [hasD_t] at c
        exact c
      · refine w_nil (fAny_of (blsOf_map (hasD p) _) ?_)
        have e : (((tps ropes).map (hasD p)).any id) = ropes.any fun r => r.contains p := by
          rw [List.any_map, List.any_map]
          congr 1
          funext r
          exact hasD_t p r
        rw [e]
        exact k
    · rw [List.map_id']
      exact And.intro rfl q
theorem L_crowding {d : Dt} (hd : Bd 300 60 d) (h1 : ¬ IsR d → Ex ⟨"InvalidRope", none⟩) (h2 : ∀ r, d = .tuple (ilst r) → IsRope r → crowdB r = true → Ex ⟨"Unlike", none⟩)
    (h3 : ∀ r, d = .tuple (ilst r) → IsRope r → crowdB r = false → Q (.d (.list (ilst (crowdI r))))) : F_crowding [.d d] Q Ex := by
  have := szl
  unfold F_crowding b_crowding
  refine w_seq (w_drop (w_call (w_cons (w_var (x := .d d) rfl (w_nil (And.intro rfl (L_need_rope hd (fun hr => ?_) h1)))))))
  obtain ⟨r, rfl, ir⟩ := rope_isR hr
  have l9 := ir.2.1
  show t_crowding_3 (endM Q Ex) [some (.d (.tuple (ilst r))), none, none]
  unfold t_crowding_3
  refine w_seq (w_if (w_B (w_call (w_cons (w_var (x := .d (.tuple (ilst r))) rfl (w_nil (And.intro rfl (L_crowded (by omega) ?_))))))))
  cases c : crowdB r with
  | true => exact iteT' rfl (h2 r rfl ir c)
  | false =>
    refine iteF' rfl (w_nx ?_)
    show t_crowding_2 (endM Q Ex) [some (.d (.tuple (ilst r))), none, none]
    have h3 := h3 r rfl ir c
    have ls : (spI r).length ≤ 81 := by
      rw [show (spI r).length = (spB r).length from (isort_perm _).length_eq]
      exact Nat.le_trans (spB_len r) (Nat.mul_le_mul l9 l9)
    have lh := halves_len r r
    have lh2 : r.length * r.length ≤ 9 * 9 := Nat.mul_le_mul l9 l9
    have lt := steps_len r (spI r)
    have lt2 : r.length * ((spI r).length + (spI r).length) ≤ 9 * 162 := Nat.mul_le_mul l9 (by omega)
    unfold t_crowding_2
    refine w_seq (w_set (w_val (w_call (w_cons (w_bin (w_call (w_cons (w_var (x := .d (.tuple (ilst r))) rfl (w_cons (w_var (x := .d (.tuple (ilst r))) rfl (w_nil (And.intro rfl (L_halves (by omega) (by omega) ?_)))))))))))))
    refine w_call (w_cons (w_var (x := .d (.tuple (ilst r))) rfl (w_cons (w_call (w_cons (w_var (x := .d (.tuple (ilst r))) rfl (w_nil ?_)))))))
    refine And.intro rfl (L_spans_by (by omega) ?_)
    refine w_nil (And.intro rfl (L_steps_from (ls := spI r) (.inl rfl) (by omega) (by omega) ?_))
    refine And.intro (by rw [ilst_len, ilst_len]; omega) ?_
    rw [← ilst_app]
    refine And.intro rfl (L_free_places (ropes := [r]) (by rw [List.length_append]; omega) (by simp) (And.intro rfl ?_))
    show t_crowding_1 (endM Q Ex) [some (.d (.tuple (ilst r))), some (.d (.list (ilst (freeI (halvesI r r ++ stepsI r (spI r)) [r])))), none]
    unfold t_crowding_1
    refine w_ret (w_f (w_lc (w_itemsA (w_var (x := .d (.list (ilst (freeI (halvesI r r ++ stepsI r (spI r)) [r])))) rfl ?_))))
    show lcL (fName 2) (mB (mCall F_crowded (mCons (mBin fAdd (mVar 0) (mTup 1 (mCons (mVar 2) mNil))) mNil))) (mVar 2) [some (.d (.tuple (ilst r))), some (.d (.list (ilst (freeI (halvesI r r ++ stepsI r (spI r)) [r])))), none] _ (ilst (freeI (halvesI r r ++ stepsI r (spI r)) [r])) []
    have lf := free_len (halvesI r r ++ stepsI r (spI r)) [r]
    rw [List.length_append] at lf
    refine lcI (fun p => crowdB (r ++ [p])) (fun p => p) _ (by omega) (fun p hp K1 K2 k => ?_) ?_
    · refine And.intro (by rw [ilst_len]; exact (by omega : r.length + 1 ≤ sizeLine)) (And.intro rfl ?_)
      have e : ilst r ++ [PyData.int p] = ilst (r ++ [p]) := (ilst_app r [p]).symm
      rw [e]
      exact L_crowded (by simp; omega) k
    · rw [List.map_id']
      exact And.intro rfl h3
end
end Lw
end

section
set_option Elab.async false
set_option linter.all false
set_option maxRecDepth 100000
set_option maxHeartbeats 1000000
namespace Lw
open PySem PySem.Spec PyProof.Rows L2 Ks
local macro_rules | `(tactic| w_fin) => `(tactic| simp only [mSeq, mNext, mRet, mIfS, mSet, mPar, mDrop, mVal, mOwn, mRaise, mAsgT, fName, fTup2, mVar, mC, mBin, mUn, mChain, mB, mAnd, mOr, mNot, mAndV, mOrV, mNotV, mIf, mNil, mCons, mTup, mLst, mF, mCB, mCF, mCall, mPart, mNoPart, mYes, mTy, mWord, mFreeze, endM,
  List.getElem?_cons_zero, List.getElem?_cons_succ, List.getElem?_nil, List.set_cons_zero, List.set_cons_succ, kv_dts1, kv_dts2, kv_dts3, kv_own, kv_noOwn1, kv_noOwn2, kv_noOwn3, kv_noOwn4, kv_map0, kv_map1, kv_sub, kv_addI, kv_lt, kv_le, kv_gt, kv_ge, kv_min2, kv_max2, kv_len_t, kv_neg, kv_lstT, kv_lstL, kv_tupL, mCF, kv_ix0, kv_ix1, kv_ix2, kv_ix3, kv_inS2, kv_inS2l, kv_intB, kv_intI, kv_len_l, kv_pow, kv_eqI, kv_neI, kv_eqS, kv_neS, true_and, and_true, if_true, if_false, Bool.false_eq_true, Bool.not_true, Bool.not_false, eq_self])
theorem eqvA_i : ∀ a b : List Int, PyData.eqvAll (ilst a) (ilst b) = decide (a = b)
  | [], [] => by unfold PyData.eqvAll ilst; rfl
  | [], _ :: _ => by unfold ilst; rw [List.map_nil, List.map_cons]; unfold PyData.eqvAll; simp
  | _ :: _, [] => by unfold ilst; rw [List.map_nil, List.map_cons]; unfold PyData.eqvAll; simp
  | x :: xs, y :: ys => by
    have ih := eqvA_i xs ys
    show PyData.eqvAll (.int x :: ilst xs) (.int y :: ilst ys) = _
    unfold PyData.eqvAll
    rw [ih, kv_eqv_i]
    by_cases e : x = y
    · by_cases e2 : xs = ys
      · simp [e, e2]
      · simp [e, e2]
    · simp [e]
theorem lay_i (ns : List Int) : PyData.canLayAll0 (ilst ns) = true := lay_all fun d hd => by
  obtain ⟨n, _, rfl⟩ := ilst_map_mem hd
  unfold PyData.canLay0; rfl
theorem dep_i (ns : List Int) : PyData.depthAll (ilst ns) ≤ 0 := depth_all fun d hd => by
  obtain ⟨n, _, rfl⟩ := ilst_map_mem hd
  unfold PyData.depth; exact Nat.le_refl _
theorem shaped_tI (ns : List Int) : SeqAt.shaped (.tuple (ilst ns)) = true := by
  have := dep_i ns
  unfold SeqAt.shaped PyData.canLay0 PyData.depth
  rw [lay_i]
  simp
  omega
theorem shaped_lI (ns : List Int) : SeqAt.shaped (.list (ilst ns)) = true := by
  have := dep_i ns
  unfold SeqAt.shaped PyData.canLay0 PyData.depth
  rw [lay_i]
  simp
  omega
theorem eqv_tI (a b : List Int) : PyData.eqv (.tuple (ilst a)) (.tuple (ilst b)) = decide (a = b) := by unfold PyData.eqv; exact eqvA_i a b
theorem eqv_lI (a b : List Int) : PyData.eqv (.list (ilst a)) (.list (ilst b)) = decide (a = b) := by unfold PyData.eqv; exact eqvA_i a b
theorem kv_eqT {a b : List Int} {K : Dv → Prop} : fEq (.d (.tuple (ilst a))) (.d (.tuple (ilst b))) K = K (.d (.bool (decide (a = b)))) := by rw [kv_eqD (shaped_tI a) (shaped_tI b), eqv_tI]
theorem kv_eqL {a b : List Int} {K : Dv → Prop} : fEq (.d (.list (ilst a))) (.d (.list (ilst b))) K = K (.d (.bool (decide (a = b)))) := by rw [kv_eqD (shaped_lI a) (shaped_lI b), eqv_lI]
theorem kv_neL {a b : List Int} {K : Dv → Prop} : fNe (.d (.list (ilst a))) (.d (.list (ilst b))) K = K (.d (.bool (!decide (a = b)))) := by rw [kv_neD (shaped_lI a) (shaped_lI b), eqv_lI]
theorem spI_len (ns : List Int) : (spI ns).length ≤ ns.length * ns.length := by
  rw [show (spI ns).length = (spB ns).length from (isort_perm _).length_eq]
  exact spB_len ns
section
variable {Q : Dv → Prop} {Ex : Exn → Prop}
theorem w_tp {n : Nat} {ma : Ks.Env → M (List Dv)} {ρ : Ks.Env} (h : ma ρ (fun xs => match dts xs with
  | some ps => Q (.d (.tuple ps))
  | none => False) Ex) : mTup n ma ρ Q Ex := h
theorem L_matches {d1 d2 : Dt} (hd1 : Bd 300 60 d1) (hd2 : Bd 300 60 d2) (h0 : ∀ a, d1 = .tuple (ilst a) → IsRope a → a.length ≤ 6) (h1 : ¬ IsR d1 → Ex ⟨"InvalidRope", none⟩) (h2 : IsR d1 → ¬ IsR d2 → Ex ⟨"InvalidRope", none⟩)
    (h3 : ∀ a b, d1 = .tuple (ilst a) → d2 = .tuple (ilst b) → IsRope a → IsRope b → a.length ≠ b.length → Ex ⟨"Unlike", none⟩)
    (h4 : ∀ a b, d1 = .tuple (ilst a) → d2 = .tuple (ilst b) → IsRope a → IsRope b → a = b → Q (.d .none))
    (h5 : ∀ a b, d1 = .tuple (ilst a) → d2 = .tuple (ilst b) → IsRope a → IsRope b → a.length = b.length → a ≠ b → Q (.d (.list (ilst (matchI a b))))) : F_matches [.d d1, .d d2] Q Ex := by
  have := szl
  unfold F_matches b_matches
  refine w_seq (w_drop (w_call (w_cons (w_var (x := .d d1) rfl (w_nil (And.intro rfl (L_need_rope hd1 (fun hr => ?_) h1)))))))
  have h2' := h2 hr
  obtain ⟨a, rfl, ia⟩ := rope_isR hr
  have a6 := h0 a rfl ia
  have a9 := ia.2.1
  show t_matches_6 (endM Q Ex) [some (.d (.tuple (ilst a))), some (.d d2), none, none, none]
  unfold t_matches_6
  refine w_seq (w_drop (w_call (w_cons (w_var (x := .d d2) rfl (w_nil (And.intro rfl (L_need_rope hd2 (fun hr2 => ?_) h2')))))))
  obtain ⟨b, rfl, ib⟩ := rope_isR hr2
  have b9 := ib.2.1
  show t_matches_5 (endM Q Ex) [some (.d (.tuple (ilst a))), some (.d (.tuple (ilst b))), none, none, none]
  unfold t_matches_5
  refine w_seq (w_if (w_B (w_bin (w_cb (w_cons (w_var (x := .d (.tuple (ilst a))) rfl (w_nil ?_)))))))
  rw [kv_len_t]
  refine w_cb (w_cons (w_var (x := .d (.tuple (ilst b))) rfl (w_nil ?_)))
  rw [kv_len_t, kv_neI, ilst_len, ilst_len]
  by_cases hl : a.length = b.length
  · refine iteF' (by rw [hl]; simp) (w_nx ?_)
    show t_matches_4 (endM Q Ex) [some (.d (.tuple (ilst a))), some (.d (.tuple (ilst b))), none, none, none]
    unfold t_matches_4
    refine w_seq (w_if (w_B (w_bin (w_var (x := .d (.tuple (ilst a))) rfl (w_var (x := .d (.tuple (ilst b))) rfl ?_)))))
    rw [kv_eqT]
    by_cases he : a = b
    · exact iteT' (decide_eq_true he) (w_ret (And.intro rfl (h4 a b rfl rfl ia ib he)))
    · refine iteF' (decide_eq_false he) (w_nx ?_)
      have h5 := h5 a b rfl rfl ia ib hl he
      have la := spI_len a
      have lb := spI_len b
      have b6 : b.length ≤ 6 := by omega
      have aa : a.length * a.length ≤ 6 * 6 := Nat.mul_le_mul a6 a6
      have bb : b.length * b.length ≤ 6 * 6 := Nat.mul_le_mul b6 b6
      have lh := halves_len a b
      have ab : a.length * b.length ≤ 9 * 9 := Nat.mul_le_mul a9 b9
      have lt := steps_len (a ++ b) (spI a ++ spI b)
      have lt2 : (a ++ b).length * ((spI a ++ spI b).length + (spI a ++ spI b).length) ≤ 12 * (72 + 72) := Nat.mul_le_mul (by rw [List.length_append]; omega) (by rw [List.length_append]; omega)
      show t_matches_3 (endM Q Ex) [some (.d (.tuple (ilst a))), some (.d (.tuple (ilst b))), none, none, none]
      unfold t_matches_3
      refine w_seq (w_set (w_val (w_bin (w_call (w_cons (w_var (x := .d (.tuple (ilst a))) rfl (w_nil (And.intro rfl (L_spans_by (by omega) ?_)))))))))
      refine w_call (w_cons (w_var (x := .d (.tuple (ilst b))) rfl (w_nil (And.intro rfl (L_spans_by (by omega) ?_)))))
      refine And.intro (by rw [ilst_len, ilst_len]; omega) (And.intro rfl ?_)
      rw [← ilst_app]
      show t_matches_2 (endM Q Ex) [some (.d (.tuple (ilst a))), some (.d (.tuple (ilst b))), some (.d (.tuple (ilst (spI a ++ spI b)))), none, none]
      unfold t_matches_2
      refine w_seq (w_set (w_val (w_call (w_cons (w_bin (w_call (w_cons (w_var (x := .d (.tuple (ilst a))) rfl (w_cons (w_var (x := .d (.tuple (ilst b))) rfl (w_nil (And.intro rfl (L_halves (by omega) (by omega) ?_)))))))))))))
      refine w_call (w_cons (w_bin (w_var (x := .d (.tuple (ilst a))) rfl (w_var (x := .d (.tuple (ilst b))) rfl ?_))))
      refine And.intro (by rw [ilst_len, ilst_len]; omega) ?_
      rw [← ilst_app]
      refine w_cons (w_var (x := .d (.tuple (ilst (spI a ++ spI b)))) rfl (w_nil ?_))
      refine And.intro rfl (L_steps_from (ls := spI a ++ spI b) (.inl rfl) (by rw [List.length_append]; omega) (by rw [List.length_append]; omega) ?_)
      refine And.intro (by rw [ilst_len, ilst_len]; omega) ?_
      rw [← ilst_app]
      refine And.intro rfl (L_free_places (ropes := [a, b]) (by rw [List.length_append]; omega) (by simp) (And.intro rfl ?_))
      show t_matches_1 (endM Q Ex) [some (.d (.tuple (ilst a))), some (.d (.tuple (ilst b))), some (.d (.tuple (ilst (spI a ++ spI b)))), some (.d (.list (ilst (freeI (halvesI a b ++ stepsI (a ++ b) (spI a ++ spI b)) [a, b])))), none]
      unfold t_matches_1
      refine w_ret (w_f (w_lc (w_itemsA (w_var (x := .d (.list (ilst (freeI (halvesI a b ++ stepsI (a ++ b) (spI a ++ spI b)) [a, b])))) rfl ?_))))
      have lf := free_len (halvesI a b ++ stepsI (a ++ b) (spI a ++ spI b)) [a, b]
      rw [List.length_append] at lf
      refine lcI (fun p => spI (a ++ [p]) == spI (b ++ [p])) (fun p => p) _ (by omega) (fun p hp K1 K2 k => ?_) ?_
      · unfold Ks.Step
        refine w_fName (w_B (w_bin (w_call (w_cons (w_bin (w_var (x := .d (.tuple (ilst a))) rfl (w_tp (w_cons (w_var (x := .d (.int p)) rfl (w_nil ?_))))))))))
        refine And.intro (by rw [ilst_len]; exact (by omega : a.length + 1 ≤ sizeLine)) (w_nil (And.intro rfl ?_))
        have ea : ilst a ++ [PyData.int p] = ilst (a ++ [p]) := (ilst_app a [p]).symm
        have eb : ilst b ++ [PyData.int p] = ilst (b ++ [p]) := (ilst_app b [p]).symm
        rw [ea]
        refine L_spans_by (by simp; omega) ?_
        refine w_call (w_cons (w_bin (w_var (x := .d (.tuple (ilst b))) rfl (w_tp (w_cons (w_var (x := .d (.int p)) rfl (w_nil ?_)))))))
        refine And.intro (by rw [ilst_len]; exact (by omega : b.length + 1 ≤ sizeLine)) (w_nil (And.intro rfl ?_))
        rw [eb]
        refine L_spans_by (by simp; omega) ?_
        rw [kv_eqT]
        by_cases c : spI (a ++ [p]) = spI (b ++ [p])
        · rw [if_pos (beq_iff_eq.mpr c)] at k
          exact iteT' (decide_eq_true c) k
        · rw [if_neg (fun z => c (beq_iff_eq.mp z))] at k
          exact iteF' (decide_eq_false c) k
      · rw [List.map_id']
        exact And.intro rfl h5
  · exact iteT' (by simpa using fun z => hl (by omega)) (h3 a b rfl rfl ia ib hl)
end
end Lw
end

section
set_option Elab.async false
set_option linter.all false
set_option maxRecDepth 100000
set_option maxHeartbeats 1000000
namespace Lw
open PySem PySem.Spec PyProof.Rows L2 Ks
local macro_rules | `(tactic| w_fin) => `(tactic| simp only [mSeq, mNext, mRet, mIfS, mSet, mPar, mDrop, mVal, mOwn, mRaise, mAsgT, fName, fTup2, mVar, mC, mBin, mUn, mChain, mB, mAnd, mOr, mNot, mAndV, mOrV, mNotV, mIf, mNil, mCons, mTup, mLst, mF, mCB, mCF, mCall, mPart, mNoPart, mYes, mTy, mWord, mFreeze, endM,
  List.getElem?_cons_zero, List.getElem?_cons_succ, List.getElem?_nil, List.set_cons_zero, List.set_cons_succ, kv_dts1, kv_dts2, kv_dts3, kv_own, kv_noOwn1, kv_noOwn2, kv_noOwn3, kv_noOwn4, kv_map0, kv_map1, kv_sub, kv_addI, kv_lt, kv_le, kv_gt, kv_ge, kv_min2, kv_max2, kv_len_t, kv_neg, kv_lstT, kv_lstL, kv_tupL, mCF, kv_ix0, kv_ix1, kv_ix2, kv_ix3, kv_inS2, kv_inS2l, kv_intB, kv_intI, kv_len_l, kv_pow, kv_eqI, kv_neI, kv_eqS, kv_neS, true_and, and_true, if_true, if_false, Bool.false_eq_true, Bool.not_true, Bool.not_false, eq_self])
theorem fIsI_lst {ds : List Dt} {K : Dv → Prop} (hd : (PyData.list ds).canLay0 = true) (h : K (.d (.bool true))) : fIsI [.d (.list ds), .ty "list"] K := fIsI_d hd (by decide +kernel) h
theorem lay_lI (ns : List Int) : (PyData.list (ilst ns)).canLay0 = true := by unfold PyData.canLay0; exact lay_i ns
theorem w_lnil {ρ : Ks.Env} {Q : List Dt → Prop} {Ex : Exn → Prop} (h : Q []) : mLst mNil ρ Q Ex := h
theorem kv_neLn {a : List Int} {K : Dv → Prop} : fNe (.d (.list (ilst a))) (.d (.list [])) K = K (.d (.bool (!decide (a = [])))) := kv_neL (b := [])
theorem sd_add {i j : Nat} {ρ : Ks.Env} {a b : List Int} {Q : List Dt → Prop} {Ex : Exn → Prop} (e1 : ρ[i]? = some (some (.d (.list (ilst a))))) (e2 : ρ[j]? = some (some (.d (.list (ilst b))))) (hl : a.length + b.length < 4000) (h : Q (ilst (sdI (a ++ b)))) : mSdI (mBin fAdd (mVar i) (mVar j)) ρ Q Ex := by
  have := szl
  unfold mSdI
  refine w_bin (w_var e1 (w_var e2 ?_))
  refine And.intro (by rw [ilst_len, ilst_len]; omega) ?_
  rw [← ilst_app]
  exact sd_list (by rw [List.length_append]; omega) h
theorem w_andV {ma mb : Ks.Env → M Dv} {ρ : Ks.Env} {Q : Dv → Prop} {Ex : Exn → Prop} (h : ma ρ (fun x => match x with
  | .d (.bool c) => if c = true then mb ρ Q Ex else Q (.d (.bool false))
  | _ => False) Ex) : mAndV ma mb ρ Q Ex := h
theorem w_ty {T : String} {ρ : Ks.Env} {Q : Dv → Prop} {Ex : Exn → Prop} (h : Q (.ty T)) : mTy T ρ Q Ex := h
section
variable {Q : Dv → Prop} {Ex : Exn → Prop}
theorem L_law_crowded {ns : List Int} (h : ns.length ≤ 30) (q : Q (.d (.bool (crowdB ns)))) : F_law_crowded [.d (.tuple (ilst ns))] Q Ex := by
  have l2 := spI_len ns
  have l3 : ns.length * ns.length ≤ 30 * 30 := Nat.mul_le_mul h h
  unfold F_law_crowded b_law_crowded
  refine w_seq (w_set (w_val (w_call (w_cons (w_var (x := .d (.tuple (ilst ns))) rfl (w_nil (And.intro rfl (L_law_spans (by omega) (And.intro rfl ?_)))))))))
  show t_law_crowded_1 (endM Q Ex) [some (.d (.tuple (ilst ns))), some (.d (.tuple (ilst (spI ns))))]
  unfold t_law_crowded_1
  refine w_ret (w_bin ?_)
  unfold mLenSet
  refine w_var (x := .d (.tuple (ilst (spI ns)))) rfl ?_
  show match (some (ilst (spI ns))).bind intsOf with
    | some ns => ns.length < 4000 ∧ _
    | none => False
  rw [Option.bind_some, intsOf_ilst]
  refine And.intro (by omega) (w_cb (w_cons (w_var (x := .d (.tuple (ilst (spI ns)))) rfl (w_nil ?_))))
  rw [kv_len_t, kv_lt, ilst_len]
  have e : decide ((((sdI (spI ns)).length : Nat) : Int) < (((spI ns).length : Nat) : Int)) = crowdB ns := by
    have k := (sdI_len (spI ns)).2
    have k2 : (spI ns).Nodup ↔ crowdB ns = false := by
      rw [crowd_nd]
      exact (isort_perm _).nodup_iff
    cases c : crowdB ns with
    | true =>
      have : ¬ (spI ns).Nodup := fun z => by rw [k2.mp z] at c; cases c
      exact decide_eq_true (by have := k.mpr this; omega)
    | false =>
      have z := k2.mpr c
      exact decide_eq_false (fun w => k.mp (by omega) z)
  rw [e]
  exact And.intro rfl q
theorem L_law_match {a b : List Int} {p : Int} (ha : a.length ≤ 20) (hb : b.length ≤ 20) (q : Q (.d (.bool (decide (spI (a ++ [p]) = spI (b ++ [p])))))) : F_law_match [.d (.tuple (ilst a)), .d (.tuple (ilst b)), .d (.int p)] Q Ex := by
  have := szl
  have ea : ilst a ++ [PyData.int p] = ilst (a ++ [p]) := (ilst_app a [p]).symm
  have eb : ilst b ++ [PyData.int p] = ilst (b ++ [p]) := (ilst_app b [p]).symm
  unfold F_law_match b_law_match
  refine w_ret (w_bin (w_call (w_cons (w_bin (w_var (x := .d (.tuple (ilst a))) rfl (w_tp (w_cons (w_var (x := .d (.int p)) rfl (w_nil ?_)))))))))
  refine And.intro (by rw [ilst_len]; exact (by omega : a.length + 1 ≤ sizeLine)) (w_nil (And.intro rfl ?_))
  rw [ea]
  refine L_law_spans (by simp; omega) ?_
  refine w_call (w_cons (w_bin (w_var (x := .d (.tuple (ilst b))) rfl (w_tp (w_cons (w_var (x := .d (.int p)) rfl (w_nil ?_)))))))
  refine And.intro (by rw [ilst_len]; exact (by omega : b.length + 1 ≤ sizeLine)) (w_nil (And.intro rfl ?_))
  rw [eb]
  refine L_law_spans (by simp; omega) ?_
  rw [kv_eqT]
  exact And.intro rfl q
/-- what is told is a list, ascending, from 0 on -/
theorem told_ok {fs : List Int} (hs : fs.Pairwise (· < ·)) (h0 : ∀ p ∈ fs, 0 ≤ p) (hl : fs.length < 4000) {i : Nat} {ρ : Ks.Env} {m n : MS} {B : Me} (e : ρ[i]? = some (some (.d (.list (ilst fs))))) (h : n B ρ) :
    mIfS (mOr (mNot (mB (mCB fIsI (mCons (mVar i) (mCons (mTy "list") mNil))))) (mOr (mB (mBin fNe (mVar i) (mF (mSdI (mVar i))))) (mAnd (mB (mBin fNe (mVar i) (mF (mLst mNil)))) (mB (mBin fLt (mBin fIx (mVar i) (mC (.int 0))) (mC (.int 0))))))) m n B ρ := by
  refine w_if (w_or (w_not (w_B (w_cb (w_cons (w_var e (w_cons (w_ty (w_nil (fIsI_lst (lay_lI fs) ?_)))))))))) 
  refine iteF' rfl (w_or (w_B (w_bin (w_var e (w_f (sd_var e hl ?_))))))
  rw [sd_self hs, kv_neL]
  refine iteF' (by simp) (w_and (w_B (w_bin (w_var e (w_f (w_lnil ?_))))))
  rw [kv_neLn]
  cases fs with
  | nil => exact iteF' (by simp) (iteF' rfl h)
  | cons x xs =>
    refine iteT' (by simp) (w_B (w_bin (w_bin (w_var e (w_c ?_)))))
    rw [kv_ixl (p := .int x) (by simpa [ilst] using at0)]
    refine w_c ?_
    rw [kv_lt]
    have := h0 x List.mem_cons_self
    exact iteF' (decide_eq_false (by omega)) h
theorem L_crowding_right {r as : List Int} (h : IsRope r) (hc : crowdB r = false) (h0 : ∀ p ∈ as, 0 ≤ p) (hl : as.length ≤ 1500) (q : Q (.d (.bool true))) : F_law_crowding_right [.d (.tuple (ilst r)), .d (.list (ilst as))] Q Ex := by
  have := szl
  have l9 := h.2.1
  have pw := h.2.2.2.1
  obtain ⟨c1, c2, c3⟩ := crowdI_ok r
  have ls := spI_len r
  have ls2 : r.length * r.length ≤ 9 * 9 := Nat.mul_le_mul l9 l9
  have lh := halves_len r r
  have lt := steps_len r (spI r)
  have lt2 : r.length * ((spI r).length + (spI r).length) ≤ 9 * 162 := Nat.mul_le_mul l9 (by omega)
  rw [List.length_append] at c3
  unfold F_law_crowding_right b_law_crowding_right
  refine w_seq (w_set (w_val (w_call (w_cons (w_var (x := .d (.tuple (ilst r))) rfl (w_nil ?_))))))
  refine And.intro rfl (L_crowding (rope_bd h) (fun z => absurd (isR_rope h) z) (fun r' e i' c => ?_) fun r' e i' c => ?_)
  · injection e with e
    rw [← ilst_inj e, hc] at c
    cases c
  · injection e with e
    rw [← ilst_inj e]
    refine And.intro rfl ?_
    show t_law_crowding_right_5 (endM Q Ex) [some (.d (.tuple (ilst r))), some (.d (.list (ilst as))), some (.d (.list (ilst (crowdI r)))), none, none]
    unfold t_law_crowding_right_5
    refine w_seq (told_ok c1 c2 (by omega) rfl (w_nx ?_))
    show t_law_crowding_right_4 (endM Q Ex) [some (.d (.tuple (ilst r))), some (.d (.list (ilst as))), some (.d (.list (ilst (crowdI r)))), none, none]
    unfold t_law_crowding_right_4
    refine w_seq (w_for (w_itemsA (w_f (sd_add (a := crowdI r) (b := as) rfl rfl (by omega) ?_))))
    show forL (fName 3) t_law_crowding_right_2 _ (ilst (sdI (crowdI r ++ as))) [some (.d (.tuple (ilst r))), some (.d (.list (ilst as))), some (.d (.list (ilst (crowdI r)))), none, none]
    refine forL_inv (fun ds ρ => (∀ d ∈ ds, ∃ p : Int, d = .int p ∧ 0 ≤ p) ∧ ∃ a b, ρ = [some (.d (.tuple (ilst r))), some (.d (.list (ilst as))), some (.d (.list (ilst (crowdI r)))), a, b]) (fun d ds ρ N i hN => ?_) (fun ρ i => ?_) _ _ ⟨fun d hd => ?_, none, none, rfl⟩
    · obtain ⟨hp, a, b, rfl⟩ := i
      obtain ⟨p, rfl, p0⟩ := hp d List.mem_cons_self
      refine w_fName ?_
      show t_law_crowding_right_2 _ [some (.d (.tuple (ilst r))), some (.d (.list (ilst as))), some (.d (.list (ilst (crowdI r)))), some (.d (.int p)), b]
      have ea : ilst r ++ [PyData.int p] = ilst (r ++ [p]) := (ilst_app r [p]).symm
      have fin : t_law_crowding_right_1 { (endM Q Ex) with nx := N, ct := N, bk := t_law_crowding_right_3 (endM Q Ex) } [some (.d (.tuple (ilst r))), some (.d (.list (ilst as))), some (.d (.list (ilst (crowdI r)))), some (.d (.int p)), some (.d (.bool (!r.contains p && crowdB (r ++ [p]))))] := by
        unfold t_law_crowding_right_1
        refine w_if (w_B (w_bin (w_bin (w_var (x := .d (.int p)) rfl (w_var (x := .d (.list (ilst (crowdI r)))) rfl ?_)))))
        rw [kv_inI]
        refine w_var (x := .d (.bool (!r.contains p && crowdB (r ++ [p])))) rfl ?_
        rw [if_neg (by decide), kv_neB]
        refine iteF' ?_ (w_nx (hN _ ⟨fun d hd => hp d (List.mem_cons_of_mem _ hd), _, _, rfl⟩))
        have k := crowdI_mem pw hc p0
        have : (crowdI r).contains p = (!r.contains p && crowdB (r ++ [p])) := by
          rw [Bool.eq_iff_iff, List.contains_iff_mem, k, Bool.and_eq_true, Bool.not_eq_true', ← Bool.not_eq_true, List.contains_iff_mem]
        rw [this]
        simp
      unfold t_law_crowding_right_2
      refine w_seq (w_set (w_val (w_andV (w_bin (w_var (x := .d (.int p)) rfl (w_var (x := .d (.tuple (ilst r))) rfl ?_))))))
      rw [kv_inT, if_pos rfl]
      cases c : r.contains p with
      | true =>
        rw [c] at fin
        exact iteF' rfl (And.intro rfl fin)
      | false =>
        rw [c] at fin
        refine iteT' rfl (w_call (w_cons (w_bin (w_var (x := .d (.tuple (ilst r))) rfl (w_tp (w_cons (w_var (x := .d (.int p)) rfl (w_nil ?_))))))))
        refine And.intro (by rw [ilst_len]; exact (by omega : r.length + 1 ≤ sizeLine)) (w_nil (And.intro rfl ?_))
        rw [ea]
        exact L_law_crowded (by simp; omega) (And.intro rfl fin)
    · obtain ⟨_, a, b, rfl⟩ := i
      exact And.intro rfl q
    · obtain ⟨p, hp, rfl⟩ := ilst_map_mem hd
      rw [sdI_mem, List.mem_append] at hp
      exact ⟨p, rfl, hp.elim (c2 p) (h0 p)⟩
end
end Lw
end

section
set_option Elab.async false
set_option linter.all false
set_option maxRecDepth 100000
set_option maxHeartbeats 1000000
namespace Lw
open PySem PySem.Spec PyProof.Rows L2 Ks
local macro_rules | `(tactic| w_fin) => `(tactic| simp only [mSeq, mNext, mRet, mIfS, mSet, mPar, mDrop, mVal, mOwn, mRaise, mAsgT, fName, fTup2, mVar, mC, mBin, mUn, mChain, mB, mAnd, mOr, mNot, mAndV, mOrV, mNotV, mIf, mNil, mCons, mTup, mLst, mF, mCB, mCF, mCall, mPart, mNoPart, mYes, mTy, mWord, mFreeze, endM,
  List.getElem?_cons_zero, List.getElem?_cons_succ, List.getElem?_nil, List.set_cons_zero, List.set_cons_succ, kv_dts1, kv_dts2, kv_dts3, kv_own, kv_noOwn1, kv_noOwn2, kv_noOwn3, kv_noOwn4, kv_map0, kv_map1, kv_sub, kv_addI, kv_lt, kv_le, kv_gt, kv_ge, kv_min2, kv_max2, kv_len_t, kv_neg, kv_lstT, kv_lstL, kv_tupL, mCF, kv_ix0, kv_ix1, kv_ix2, kv_ix3, kv_inS2, kv_inS2l, kv_intB, kv_intI, kv_len_l, kv_pow, kv_eqI, kv_neI, kv_eqS, kv_neS, true_and, and_true, if_true, if_false, Bool.false_eq_true, Bool.not_true, Bool.not_false, eq_self])
section
variable {Q : Dv → Prop} {Ex : Exn → Prop}
theorem L_matches_right {a b as : List Int} (ha : IsRope a) (hb : IsRope b) (hl : a.length = b.length) (h6 : a.length ≤ 6) (h0 : ∀ p ∈ as, 0 ≤ p) (hs : as.length ≤ 1900) (q : Q (.d (.bool true))) : F_law_matches_right [.d (.tuple (ilst a)), .d (.tuple (ilst b)), .d (.list (ilst as))] Q Ex := by
  have := szl
  have b6 : b.length ≤ 6 := by omega
  obtain ⟨c1, c2, c3⟩ := matchI_ok a b
  have la := spI_len a
  have lb := spI_len b
  have aa : a.length * a.length ≤ 6 * 6 := Nat.mul_le_mul h6 h6
  have bb : b.length * b.length ≤ 6 * 6 := Nat.mul_le_mul b6 b6
  have lh := halves_len a b
  have ab : a.length * b.length ≤ 6 * 6 := Nat.mul_le_mul h6 b6
  have lt := steps_len (a ++ b) (spI a ++ spI b)
  have lt2 : (a ++ b).length * ((spI a ++ spI b).length + (spI a ++ spI b).length) ≤ 12 * (72 + 72) := Nat.mul_le_mul (by rw [List.length_append]; omega) (by rw [List.length_append]; omega)
  rw [List.length_append] at c3
  unfold F_law_matches_right b_law_matches_right
  refine w_seq (w_set (w_val (w_call (w_cons (w_var (x := .d (.tuple (ilst a))) rfl (w_cons (w_var (x := .d (.tuple (ilst b))) rfl (w_nil ?_))))))))
  refine And.intro rfl (L_matches (rope_bd ha) (rope_bd hb) (fun a' e _ => by injection e with e; rw [← ilst_inj e]; exact h6) (fun z => absurd (isR_rope ha) z) (fun _ z => absurd (isR_rope hb) z) (fun a' b' e1 e2 _ _ z => ?_) (fun a' b' e1 e2 _ _ e => ?_) (fun a' b' e1 e2 _ _ _ ne => ?_))
  · injection e1 with e1; injection e2 with e2
    rw [← ilst_inj e1, ← ilst_inj e2] at z
    exact absurd hl z
  · injection e1 with e1; injection e2 with e2
    rw [← ilst_inj e1, ← ilst_inj e2] at e
    refine And.intro rfl ?_
    show t_law_matches_right_6 (endM Q Ex) [some (.d (.tuple (ilst a))), some (.d (.tuple (ilst b))), some (.d (.list (ilst as))), some (.d .none), none, none]
    unfold t_law_matches_right_6
    refine w_seq (w_if (w_B (w_bin (w_var (x := .d (.tuple (ilst a))) rfl (w_var (x := .d (.tuple (ilst b))) rfl ?_)))))
    rw [kv_eqT]
    exact iteT' (decide_eq_true e) (And.intro rfl q)
  · injection e1 with e1; injection e2 with e2
    rw [← ilst_inj e1, ← ilst_inj e2] at ne ⊢
    refine And.intro rfl ?_
    show t_law_matches_right_6 (endM Q Ex) [some (.d (.tuple (ilst a))), some (.d (.tuple (ilst b))), some (.d (.list (ilst as))), some (.d (.list (ilst (matchI a b)))), none, none]
    unfold t_law_matches_right_6
    refine w_seq (w_if (w_B (w_bin (w_var (x := .d (.tuple (ilst a))) rfl (w_var (x := .d (.tuple (ilst b))) rfl ?_)))))
    rw [kv_eqT]
    refine iteF' (decide_eq_false ne) (w_nx ?_)
    show t_law_matches_right_5 (endM Q Ex) [some (.d (.tuple (ilst a))), some (.d (.tuple (ilst b))), some (.d (.list (ilst as))), some (.d (.list (ilst (matchI a b)))), none, none]
    unfold t_law_matches_right_5
    refine w_seq (told_ok c1 c2 (by omega) rfl (w_nx ?_))
    show t_law_matches_right_4 (endM Q Ex) [some (.d (.tuple (ilst a))), some (.d (.tuple (ilst b))), some (.d (.list (ilst as))), some (.d (.list (ilst (matchI a b)))), none, none]
    unfold t_law_matches_right_4
    refine w_seq (w_for (w_itemsA (w_f (sd_add (a := matchI a b) (b := as) rfl rfl (by omega) ?_))))
    show forL (fName 4) t_law_matches_right_2 _ (ilst (sdI (matchI a b ++ as))) [some (.d (.tuple (ilst a))), some (.d (.tuple (ilst b))), some (.d (.list (ilst as))), some (.d (.list (ilst (matchI a b)))), none, none]
    refine forL_inv (fun ds ρ => (∀ d ∈ ds, ∃ p : Int, d = .int p ∧ 0 ≤ p) ∧ ∃ x y, ρ = [some (.d (.tuple (ilst a))), some (.d (.tuple (ilst b))), some (.d (.list (ilst as))), some (.d (.list (ilst (matchI a b)))), x, y]) (fun d ds ρ N i hN => ?_) (fun ρ i => ?_) _ _ ⟨fun d hd => ?_, none, none, rfl⟩
    · obtain ⟨hp, x, y, rfl⟩ := i
      obtain ⟨p, rfl, p0⟩ := hp d List.mem_cons_self
      refine w_fName ?_
      show t_law_matches_right_2 _ [some (.d (.tuple (ilst a))), some (.d (.tuple (ilst b))), some (.d (.list (ilst as))), some (.d (.list (ilst (matchI a b)))), some (.d (.int p)), y]
      have fin : t_law_matches_right_1 { (endM Q Ex) with nx := N, ct := N, bk := t_law_matches_right_3 (endM Q Ex) } [some (.d (.tuple (ilst a))), some (.d (.tuple (ilst b))), some (.d (.list (ilst as))), some (.d (.list (ilst (matchI a b)))), some (.d (.int p)), some (.d (.bool (!a.contains p && (!b.contains p && decide (spI (a ++ [p]) = spI (b ++ [p]))))))] := by
        unfold t_law_matches_right_1
        refine w_if (w_B (w_bin (w_bin (w_var (x := .d (.int p)) rfl (w_var (x := .d (.list (ilst (matchI a b)))) rfl ?_)))))
        rw [kv_inI]
        refine w_var (x := .d (.bool (!a.contains p && (!b.contains p && decide (spI (a ++ [p]) = spI (b ++ [p])))))) rfl ?_
        rw [if_neg (by decide), kv_neB]
        refine iteF' ?_ (w_nx (hN _ ⟨fun d hd => hp d (List.mem_cons_of_mem _ hd), _, _, rfl⟩))
        have k := matchI_mem ha.2.2.2.1 hb.2.2.2.1 hl ne p0
        have : (matchI a b).contains p = (!a.contains p && (!b.contains p && decide (spI (a ++ [p]) = spI (b ++ [p])))) := by
          rw [Bool.eq_iff_iff, List.contains_iff_mem, k, Bool.and_eq_true, Bool.and_eq_true, Bool.not_eq_true', Bool.not_eq_true', ← Bool.not_eq_true, ← Bool.not_eq_true, List.contains_iff_mem, List.contains_iff_mem, decide_eq_true_eq, and_assoc]
        rw [this]
        simp
      unfold t_law_matches_right_2
      refine w_seq (w_set (w_val (w_andV (w_bin (w_var (x := .d (.int p)) rfl (w_var (x := .d (.tuple (ilst a))) rfl ?_))))))
      rw [kv_inT, if_pos rfl]
      cases c : a.contains p with
      | true =>
        rw [c] at fin
        exact iteF' rfl (And.intro rfl fin)
      | false =>
        rw [c] at fin
        refine iteT' rfl (w_andV (w_bin (w_var (x := .d (.int p)) rfl (w_var (x := .d (.tuple (ilst b))) rfl ?_))))
        rw [kv_inT, if_pos rfl]
        cases c2 : b.contains p with
        | true =>
          rw [c2] at fin
          exact iteF' rfl (And.intro rfl fin)
        | false =>
          rw [c2] at fin
          refine iteT' rfl (w_call (w_cons (w_var (x := .d (.tuple (ilst a))) rfl (w_cons (w_var (x := .d (.tuple (ilst b))) rfl (w_cons (w_var (x := .d (.int p)) rfl (w_nil ?_))))))))
          exact And.intro rfl (L_law_match (by omega) (by omega) (And.intro rfl fin))
    · obtain ⟨_, x, y, rfl⟩ := i
      exact And.intro rfl q
    · obtain ⟨p, hp, rfl⟩ := ilst_map_mem hd
      rw [sdI_mem, List.mem_append] at hp
      exact ⟨p, rfl, hp.elim (c2 p) (h0 p)⟩
end
end Lw
end

section
set_option Elab.async false
set_option linter.all false
set_option maxRecDepth 100000
set_option maxHeartbeats 1000000
namespace Lw
open PySem PySem.Spec PyProof.Rows L2 Ks
local macro_rules | `(tactic| w_fin) => `(tactic| simp only [mSeq, mNext, mRet, mIfS, mSet, mPar, mDrop, mVal, mOwn, mRaise, mAsgT, fName, fTup2, mVar, mC, mBin, mUn, mChain, mB, mAnd, mOr, mNot, mAndV, mOrV, mNotV, mIf, mNil, mCons, mTup, mLst, mF, mCB, mCF, mCall, mPart, mNoPart, mYes, mTy, mWord, mFreeze, endM,
  List.getElem?_cons_zero, List.getElem?_cons_succ, List.getElem?_nil, List.set_cons_zero, List.set_cons_succ, kv_dts1, kv_dts2, kv_dts3, kv_own, kv_noOwn1, kv_noOwn2, kv_noOwn3, kv_noOwn4, kv_map0, kv_map1, kv_sub, kv_addI, kv_lt, kv_le, kv_gt, kv_ge, kv_min2, kv_max2, kv_len_t, kv_neg, kv_lstT, kv_lstL, kv_tupL, mCF, kv_ix0, kv_ix1, kv_ix2, kv_ix3, kv_inS2, kv_inS2l, kv_intB, kv_intI, kv_len_l, kv_pow, kv_eqI, kv_neI, kv_eqS, kv_neS, true_and, and_true, if_true, if_false, Bool.false_eq_true, Bool.not_true, Bool.not_false, eq_self])
section
variable {Q : Dv → Prop} {Ex : Exn → Prop}
abbrev EvP (m wide : Int) (rope turn longer : Option Dv) : Ks.Env := [some .coil, some (.d (.int m)), some (.d (.int wide)), rope, turn, longer]
/-- a row that grows -/
structure GrP (ns : List Int) (m wide : Int) : Prop where
  hd : ns[0]? = some 0
  up : ns.Pairwise (· < ·)
  len : (ns.length : Int) ≤ m
  bd : ∀ n ∈ ns, 0 ≤ n ∧ n ≤ ((ns.length - 1 : Nat) : Int) * wide
  nc : crowdB ns = false
theorem L_plain_rope {m wide : Int} (m2 : 2 ≤ m) (m9 : m ≤ 9) (w0 : 0 < wide) (w1 : wide ≤ 10 ^ 28) (q : ∀ ns : List Int, IsRope ns → crowdB ns = false → (∀ n ∈ ns, n ≤ 8 * wide + 2) → Q (.d (.tuple (ilst ns)))) : F_law_plain_rope [.coil, .d (.int m), .d (.int wide)] Q Ex := by
  have := szl
  have lgw : wide.natAbs.log2 < 9000 := by
    have : wide.natAbs < 2 ^ 100 := by omega
    exact Nat.lt_of_lt_of_le (PySem.Flt.log2_lt_of (by decide) this) (by decide)
  unfold F_law_plain_rope b_law_plain_rope
  refine w_seq (w_set (w_val (w_tp (w_cons (w_c (w_nil (And.intro rfl ?_)))))))
  show t_law_plain_rope_4 (endM Q Ex) (EvP m wide (some (.d (.tuple (ilst [0])))) none none)
  unfold t_law_plain_rope_4
  refine w_seq (w_for ?_)
  unfold mRng1
  refine w_cons (w_bin (w_var (x := .d (.int m)) rfl (w_c ?_)))
  refine And.intro (.inl (.inl (by omega))) (w_nil ?_)
  show (-(2 ^ 62) ≤ m * 3 ∧ m * 3 < 2 ^ 62 ∧ forL (fName 4) t_law_plain_rope_2 _ (rngD 0 (m * 3).toNat) (EvP m wide (some (.d (.tuple (ilst [0])))) none none))
  refine ⟨by omega, by omega, ?_⟩
  refine forL_inv (fun ds ρ => ∃ ns a b, GrP ns m wide ∧ ρ = EvP m wide (some (.d (.tuple (ilst ns)))) a b) (fun d ds ρ N i hN => ?_) (fun ρ i => ?_) _ _ ⟨[0], none, none, ⟨rfl, by simp, by simp; omega, by simp, by decide +kernel⟩, rfl⟩
  · obtain ⟨ns, a, b, g, rfl⟩ := i
    have hne : ns ≠ [] := fun z => by have := g.hd; rw [z] at this; cases this
    obtain ⟨i, l, rfl⟩ : ∃ i x, ns = i ++ [x] := ⟨ns.dropLast, ns.getLast hne, (List.dropLast_concat_getLast hne).symm⟩
    have ea : L2.atI (ilst (i ++ [l])) (-1) = some (.int l) := by rw [ilst_app]; exact L2.atI_last _ _
    have hlen : (i ++ [l]).length = i.length + 1 := by simp
    have gl := g.len
    rw [hlen] at gl
    refine w_fName ?_
    show t_law_plain_rope_2 _ (EvP m wide (some (.d (.tuple (ilst (i ++ [l]))))) (some (.d d)) b)
    unfold t_law_plain_rope_2
    refine w_seq (w_set (w_val (w_bin (w_var (x := .d (.tuple (ilst (i ++ [l])))) rfl ?_))))
    refine w_tp (w_cons (w_bin (w_bin (w_bin (w_var (x := .d (.tuple (ilst (i ++ [l])))) rfl ?_)))))
    refine Exists.intro _ (And.intro ea ?_)
    refine w_c (w_call (w_cons (w_var (x := .coil) rfl (w_cons (w_var (x := .d (.int wide)) rfl (w_nil ?_))))))
    refine And.intro rfl (L_wind w0 lgw fun x x0 x1 => ?_)
    rw [kv_addI]
    refine w_nil ?_
    have e1 : ilst (i ++ [l]) ++ [PyData.int (l + 1 + x)] = ilst ((i ++ [l]) ++ [l + 1 + x]) := (ilst_app _ [l + 1 + x]).symm
    refine And.intro (by rw [ilst_len, hlen]; exact (by omega : i.length + 1 + 1 ≤ sizeLine)) (And.intro rfl ?_)
    rw [e1]
    show t_law_plain_rope_1 _ (EvP m wide (some (.d (.tuple (ilst (i ++ [l]))))) (some (.d d)) (some (.d (.tuple (ilst ((i ++ [l]) ++ [l + 1 + x]))))))
    unfold t_law_plain_rope_1
    refine w_if (w_and (w_B (w_bin (w_cb (w_cons (w_var (x := .d (.tuple (ilst (i ++ [l])))) rfl (w_nil ?_)))))))
    rw [kv_len_t, ilst_len, hlen]
    refine w_var (x := .d (.int m)) rfl ?_
    rw [kv_lt]
    by_cases c : (((i.length + 1 : Nat) : Int)) < m
    · refine iteT' (decide_eq_true c) (w_not (w_B (w_call (w_cons (w_var (x := .d (.tuple (ilst ((i ++ [l]) ++ [l + 1 + x])))) rfl (w_nil (And.intro rfl (L_law_crowded (by simp; omega) ?_))))))))
      cases c2 : crowdB ((i ++ [l]) ++ [l + 1 + x]) with
      | true => exact iteF' rfl (w_nx (hN _ ⟨_, _, _, g, rfl⟩))
      | false =>
        refine iteT' rfl (w_set (w_val (w_var (x := .d (.tuple (ilst ((i ++ [l]) ++ [l + 1 + x])))) rfl (And.intro rfl (hN _ ⟨(i ++ [l]) ++ [l + 1 + x], _, _, ⟨?_, ?_, ?_, ?_, c2⟩, rfl⟩)))))
        · have := g.hd
          rw [List.getElem?_append_left (by simp)]
          exact this
        · refine List.pairwise_append.mpr ⟨g.up, by simp, fun y hy z hz => ?_⟩
          have hz : z = l + 1 + x := by simpa using hz
          have : y ≤ l := by
            have := List.pairwise_append.mp g.up
            rcases List.mem_append.mp hy with k | k
            · have := this.2.2 y k l (by simp); omega
            · have : y = l := by simpa using k
              omega
          omega
        · rw [List.length_append, hlen]
          show ((i.length + 1 + 1 : Nat) : Int) ≤ m
          omega
        · intro n hn
          have e2 : (((i ++ [l]) ++ [l + 1 + x]).length - 1 : Nat) = i.length + 1 := by rw [List.length_append, hlen]; rfl
          rw [e2]
          have e3 : ((i.length + 1 : Nat) : Int) * wide = ((i.length : Nat) : Int) * wide + wide := by
            rw [Int.natCast_add, Int.add_mul]; simp
          have gb := g.bd
          rw [hlen] at gb
          have gl' := gb l (by simp)
          simp only [Nat.add_sub_cancel] at gb gl'
          rcases List.mem_append.mp hn with k | k
          · have := gb n k; omega
          · have : n = l + 1 + x := by simpa using k
            omega
    · exact iteF' (decide_eq_false c) (iteF' rfl (w_nx (hN _ ⟨_, _, _, g, rfl⟩)))
  · obtain ⟨ns, a, b, g, rfl⟩ := i
    show t_law_plain_rope_3 _ (EvP m wide (some (.d (.tuple (ilst ns)))) a b)
    unfold t_law_plain_rope_3
    refine w_ret (w_ifE (w_B (w_bin (w_cb (w_cons (w_var (x := .d (.tuple (ilst ns))) rfl (w_nil ?_)))))))
    rw [kv_len_t, ilst_len]
    refine w_c ?_
    rw [kv_gt]
    have gl := g.len
    by_cases c : 1 < ((ns.length : Nat) : Int)
    · refine iteT' (decide_eq_true c) (w_var (x := .d (.tuple (ilst ns))) rfl (And.intro rfl ?_))
      have big : ((ns.length - 1 : Nat) : Int) * wide ≤ 8 * wide := Int.mul_le_mul_of_nonneg_right (by omega) (by omega)
      refine q ns ⟨by omega, by omega, g.hd, g.up, fun n hn => ?_⟩ g.nc fun n hn => ?_
      · have := g.bd n hn; omega
      · have := g.bd n hn; omega
    · refine iteF' (decide_eq_false c) (w_tp (w_cons (w_c (w_cons (w_c (w_nil (And.intro rfl ?_)))))))
      refine q [0, 2] ⟨by simp, by simp, rfl, by simp, by simp⟩ (by decide +kernel) fun n hn => ?_
      have : n = 0 ∨ n = 2 := by simpa using hn
      omega
end
end Lw
end

section
set_option Elab.async false
set_option linter.all false
set_option maxRecDepth 100000
set_option maxHeartbeats 1000000
namespace Lw
open PySem PySem.Spec PyProof.Rows L2 Ks
local macro_rules | `(tactic| w_fin) => `(tactic| simp only [mSeq, mNext, mRet, mIfS, mSet, mPar, mDrop, mVal, mOwn, mRaise, mAsgT, fName, fTup2, mVar, mC, mBin, mUn, mChain, mB, mAnd, mOr, mNot, mAndV, mOrV, mNotV, mIf, mNil, mCons, mTup, mLst, mF, mCB, mCF, mCall, mPart, mNoPart, mYes, mTy, mWord, mFreeze, endM,
  List.getElem?_cons_zero, List.getElem?_cons_succ, List.getElem?_nil, List.set_cons_zero, List.set_cons_succ, kv_dts1, kv_dts2, kv_dts3, kv_own, kv_noOwn1, kv_noOwn2, kv_noOwn3, kv_noOwn4, kv_map0, kv_map1, kv_sub, kv_addI, kv_lt, kv_le, kv_gt, kv_ge, kv_min2, kv_max2, kv_len_t, kv_neg, kv_lstT, kv_lstL, kv_tupL, mCF, kv_ix0, kv_ix1, kv_ix2, kv_ix3, kv_inS2, kv_inS2l, kv_intB, kv_intI, kv_len_l, kv_pow, kv_eqI, kv_neI, kv_eqS, kv_neS, true_and, and_true, if_true, if_false, Bool.false_eq_true, Bool.not_true, Bool.not_false, eq_self])
section
variable {Q : Dv → Prop} {Ex : Exn → Prop}
abbrev EvN (a b fs : List Int) (c d e f g h : Option Dv) : Ks.Env := [some .coil, some (.d (.tuple (ilst a))), some (.d (.tuple (ilst b))), some (.d (.list (ilst fs))), c, d, e, f, g, h]
theorem pick_int {ns : List Int} {P : Int → Prop} {K : Dv → Prop} (h0 : ns ≠ []) (h1 : ns.length ≤ 1000) (hp : ∀ n ∈ ns, P n) (k : ∀ n, P n → K (.d (.int n))) : F_law_pick [.coil, .d (.tuple (ilst ns))] K Ex :=
  L_pick (ds := ilst ns) (.inr rfl) (fun z => h0 (by have := congrArg List.length z; rw [ilst_len] at this; exact List.length_eq_zero_iff.mp this)) (by rw [ilst_len]; omega) fun d hd => by
    obtain ⟨n, hn, rfl⟩ := ilst_map_mem hd
    exact k n (hp n hn)
theorem L_near {a b : List Int} (ha : IsRope a) (hb : IsRope b) (q : ∀ ns : List Int, (∀ n ∈ ns, 0 ≤ n) → ns.length ≤ 190 → Q (.d (.list (ilst ns)))) : F_law_near [.coil, .d (.tuple (ilst a)), .d (.tuple (ilst b))] Q Ex := by
  have := szl
  have a0 : ∀ n ∈ a, 0 ≤ n := fun n hn => (ha.2.2.2.2 n hn).1
  have b0 : ∀ n ∈ b, 0 ≤ n := fun n hn => (hb.2.2.2.2 n hn).1
  have a9 := ha.2.1
  have b9 := hb.2.1
  have an : a ≠ [] := fun z => by have := ha.1; rw [z] at this; simp at this
  have bn : b ≠ [] := fun z => by have := hb.1; rw [z] at this; simp at this
  obtain ⟨x, hx, ex⟩ : ∃ x, x ∈ a ∧ L2.atI (ilst a) (-1) = some (.int x) := by
    obtain ⟨i, l, rfl⟩ := rope_snoc ha
    exact ⟨l, by simp, by rw [ilst_app]; exact L2.atI_last _ _⟩
  obtain ⟨y, hy, ey⟩ : ∃ x, x ∈ b ∧ L2.atI (ilst b) (-1) = some (.int x) := by
    obtain ⟨i, l, rfl⟩ := rope_snoc hb
    exact ⟨l, by simp, by rw [ilst_app]; exact L2.atI_last _ _⟩
  have x0 := a0 x hx
  have y0 := b0 y hy
  unfold F_law_near b_law_near
  refine w_seq (w_set (w_val (w_f (w_lst (w_cons (w_c (w_cons (w_c (w_cons (w_bin (w_c (w_c ?_)))))))))))) 
  refine And.intro ⟨by decide, by decide, by decide⟩ (w_cons (w_bin (w_c (w_c ?_))))
  refine And.intro ⟨by decide, by decide, by decide⟩ ?_
  refine w_cons (w_bin (w_bin (w_bin (w_var (x := .d (.tuple (ilst a))) rfl ?_))))
  refine Exists.intro _ (And.intro ex ?_)
  refine w_bin (w_var (x := .d (.tuple (ilst b))) rfl ?_)
  refine Exists.intro _ (And.intro ey ?_)
  refine And.intro rfl ?_
  show t_law_near_5 (endM Q Ex) (EvN a b [0, 1, 10 ^ 30, 10 ^ 35, x + y + 1] none none none none none none)
  unfold t_law_near_5
  refine w_seq (w_for ?_)
  show (-(2 ^ 62) ≤ (30 : Int) ∧ (30 : Int) < 2 ^ 62 ∧ forL (fName 4) t_law_near_3 _ (rngD 0 (30 : Int).toNat) (EvN a b [0, 1, 10 ^ 30, 10 ^ 35, x + y + 1] none none none none none none))
  refine ⟨by decide, by decide, ?_⟩
  refine forL_inv (fun ds ρ => ∃ fs c d e f g, (∀ n ∈ fs, 0 ≤ n) ∧ fs.length + 3 * ds.length = 95 ∧ ρ = EvN a b fs c d e f g none) (fun d ds ρ N i hN => ?_) (fun ρ i => ?_) _ _ ⟨[0, 1, 10 ^ 30, 10 ^ 35, x + y + 1], none, none, none, none, none, fun n hn => ?_, rfl, rfl⟩
  · obtain ⟨fs, c, d', e, f, g, h0, hl, rfl⟩ := i
    rw [List.length_cons] at hl
    refine w_fName ?_
    show t_law_near_3 _ (EvN a b fs (some (.d d)) d' e f g none)
    unfold t_law_near_3
    refine w_seq (w_par (w_val (w_call (w_cons (w_var (x := .coil) rfl (w_cons (w_var (x := .d (.tuple (ilst a))) rfl (w_nil ?_))))))))
    refine And.intro rfl (pick_int an (by omega) a0 fun s s0 => And.intro rfl ?_)
    refine w_val (w_call (w_cons (w_var (x := .coil) rfl (w_cons (w_var (x := .d (.tuple (ilst b))) rfl (w_nil ?_))))))
    refine And.intro rfl (pick_int bn (by omega) b0 fun t t0 => And.intro rfl ?_)
    show t_law_near_2 _ (EvN a b fs (some (.d d)) (some (.d (.int s))) (some (.d (.int t))) f g none)
    unfold t_law_near_2
    have ab0 : ∀ n ∈ a ++ b, 0 ≤ n := fun n hn => (List.mem_append.mp hn).elim (a0 n) (b0 n)
    have abn : a ++ b ≠ [] := fun z => an (List.append_eq_nil_iff.mp z).1
    refine w_seq (w_par (w_val (w_call (w_cons (w_var (x := .coil) rfl (w_cons (w_bin (w_var (x := .d (.tuple (ilst a))) rfl (w_var (x := .d (.tuple (ilst b))) rfl ?_)))))))))
    refine And.intro (by rw [ilst_len, ilst_len]; omega) (w_nil ?_)
    rw [← ilst_app]
    refine And.intro rfl (pick_int abn (by rw [List.length_append]; omega) ab0 fun u u0 => And.intro rfl ?_)
    refine w_val (w_call (w_cons (w_var (x := .coil) rfl (w_cons (w_bin (w_var (x := .d (.tuple (ilst a))) rfl (w_var (x := .d (.tuple (ilst b))) rfl ?_)))))))
    refine And.intro (by rw [ilst_len, ilst_len]; omega) (w_nil ?_)
    rw [← ilst_app]
    refine And.intro rfl (pick_int abn (by rw [List.length_append]; omega) ab0 fun v v0 => And.intro rfl ?_)
    show t_law_near_1 _ (EvN a b fs (some (.d d)) (some (.d (.int s))) (some (.d (.int t))) (some (.d (.int u))) (some (.d (.int v))) none)
    unfold t_law_near_1
    refine w_set (w_val (w_bin (w_var (x := .d (.list (ilst fs))) rfl (w_f (w_lst (w_cons (w_bin (w_bin (w_var (x := .d (.int s)) rfl (w_var (x := .d (.int t)) rfl ?_))))))))))
    rw [kv_addI]
    refine w_c ?_
    refine And.intro ⟨by decide, by decide⟩ ?_
    show (ilst fs).length + 3 ≤ sizeLine ∧ _
    refine And.intro (by rw [ilst_len]; omega) (And.intro rfl (hN _ ⟨fs ++ [(s + t) / 2, s + absI (u - v), absI (t - absI (u - v))], some (.d d), some (.d (.int s)), some (.d (.int t)), some (.d (.int u)), some (.d (.int v)), fun n hn => ?_, ?_, ?_⟩))
    · rcases List.mem_append.mp hn with k | k
      · exact h0 n k
      · simp only [List.mem_cons, List.not_mem_nil, or_false] at k
        have := absI_cases (u - v)
        have := absI_cases (t - absI (u - v))
        rcases k with rfl | rfl | rfl <;> omega
    · rw [List.length_append]; simp; omega
    · unfold EvN
      rw [ilst_app fs]
      rfl
  · obtain ⟨fs, c, d', e, f, g, h0, hl, rfl⟩ := i
    have hl : fs.length = 95 := by simpa using hl
    show t_law_near_4 _ (EvN a b fs c d' e f g none)
    unfold t_law_near_4
    refine w_ret (w_bin (w_var (x := .d (.list (ilst fs))) rfl (w_f (w_lc (w_itemsA (w_var (x := .d (.list (ilst fs))) rfl ?_))))))
    refine lcL_map (fun d => match d with | .int p => .int (p + 1) | x => x) _ (by rw [ilst_len]; omega) (fun d hd K1 K2 k => ?_) ?_
    · obtain ⟨p, hp, rfl⟩ := ilst_map_mem hd
      exact k
    · have em : (ilst fs).map (fun d => match d with | PyData.int p => PyData.int (p + 1) | x => x) = ilst (fs.map fun p => p + 1) := by
        unfold ilst
        rw [List.map_map, List.map_map]
        rfl
      rw [em]
      refine And.intro (by rw [ilst_len, ilst_len, List.length_map]; omega) (And.intro rfl ?_)
      rw [← ilst_app]
      refine q _ (fun n hn => ?_) (by rw [List.length_append, List.length_map]; omega)
      rcases List.mem_append.mp hn with k | k
      · exact h0 n k
      · obtain ⟨m, hm, rfl⟩ := List.mem_map.mp k
        have := h0 m hm
        omega
  · simp only [List.mem_cons, List.not_mem_nil, or_false] at hn
    rcases hn with rfl | rfl | rfl | rfl | rfl <;> omega
end
end Lw
end

section
set_option Elab.async false
set_option linter.all false
set_option maxRecDepth 100000
set_option maxHeartbeats 1000000
namespace Lw
open PySem PySem.Spec PyProof.Rows L2 Ks
local macro_rules | `(tactic| w_fin) => `(tactic| simp only [mSeq, mNext, mRet, mIfS, mSet, mPar, mDrop, mVal, mOwn, mRaise, mAsgT, fName, fTup2, mVar, mC, mBin, mUn, mChain, mB, mAnd, mOr, mNot, mAndV, mOrV, mNotV, mIf, mNil, mCons, mTup, mLst, mF, mCB, mCF, mCall, mPart, mNoPart, mYes, mTy, mWord, mFreeze, endM,
  List.getElem?_cons_zero, List.getElem?_cons_succ, List.getElem?_nil, List.set_cons_zero, List.set_cons_succ, kv_dts1, kv_dts2, kv_dts3, kv_own, kv_noOwn1, kv_noOwn2, kv_noOwn3, kv_noOwn4, kv_map0, kv_map1, kv_sub, kv_addI, kv_lt, kv_le, kv_gt, kv_ge, kv_min2, kv_max2, kv_len_t, kv_neg, kv_lstT, kv_lstL, kv_tupL, mCF, kv_ix0, kv_ix1, kv_ix2, kv_ix3, kv_inS2, kv_inS2l, kv_intB, kv_intI, kv_len_l, kv_pow, kv_eqI, kv_neI, kv_eqS, kv_neS, true_and, and_true, if_true, if_false, Bool.false_eq_true, Bool.not_true, Bool.not_false, eq_self])
theorem word_rope : wordOf "InvalidRope" = some "rope value" := by decide +kernel
theorem word_unlike : wordOf "Unlike" = some "unlike value" := by decide +kernel
theorem row_bd {ns : List Int} (hl : ns.length ≤ 110) (hb : ∀ n ∈ ns, n.natAbs ≤ 10 ^ 30) : Bd 110 1 (.tuple (ilst ns)) :=
  Bd.tup (fun d hd => by
    obtain ⟨x, hx, rfl⟩ := ilst_map_mem hd
    have := hb x hx
    exact Bd.int (by omega)) (by rw [ilst_len]; omega)
theorem rope_bd1 {ns : List Int} (h : IsRope ns) : Bd 110 1 (.tuple (ilst ns)) := row_bd (by have := h.2.1; omega) fun n hn => by have := h.2.2.2.2 n hn; omega
abbrev sR : Dt := .str (Str.ofString "rope value")
abbrev sU : Dt := .str (Str.ofString "unlike value")
theorem bd_rep {s : Str} {n : Nat} (h : PyData.strOk s = true) (hl : s.length ≤ 2000) (hn : n ≤ 10) : Bd 300 60 (.list (List.replicate n (.str s))) :=
  (Bd.lst (n := 300) (k := 0) (fun x hx => by
    obtain rfl := List.eq_of_mem_replicate hx
    exact Bd.str h (by omega)) (by simp; omega)).mono (Nat.le_refl _) (by omega)
theorem rope3 : IsRope [0, 1, 2] ∧ IsRope [0, 1] ∧ IsRope [0, 1, 3] ∧ crowdB [0, 1, 2] = true := ⟨⟨by simp, by simp, rfl, by decide, by decide⟩, ⟨by simp, by simp, rfl, by decide, by decide⟩, ⟨by simp, by simp, rfl, by decide, by decide⟩, by
  cases c : crowdB [0, 1, 2] with
  | true => rfl
  | false => exact absurd (crowd_nd.mp c) (by decide)⟩
theorem okU : PyData.strOk (Str.ofString "rope value") = true ∧ PyData.strOk (Str.ofString "unlike value") = true ∧ (Str.ofString "unlike value").length ≤ 2000 := by decide +kernel
section
variable {Q : Dv → Prop} {Ex : Exn → Prop}
theorem L_bent40 {n k : Nat} {v : Dt} (h1 : 100 ≤ n) (h2 : n ≤ 1000) (hv : Bd n k v) (hk : k < 40) (h : ∀ d, Bd (n + 2) (k + 3) d → Q (.d d)) : F_law_bent 40 [.coil, .d v] Q Ex := L_bent h1 h2 40 k v Q Ex hv hk (by omega) h
abbrev Kx (K : Dv → Prop) : Exn → Prop := fun x => x.arg = none ∧ match wordOf x.cls with
  | some ws => K (.d (.str ws))
  | none => False
theorem kx_rope {K : Dv → Prop} (k : K (.d sR)) : Kx K ⟨"InvalidRope", none⟩ := by
  show (none : Option Dt) = none ∧ match wordOf "InvalidRope" with
    | some ws => K (.d (.str ws))
    | none => False
  rw [word_rope]; exact ⟨rfl, k⟩
theorem kx_unl {K : Dv → Prop} (k : K (.d sU)) : Kx K ⟨"Unlike", none⟩ := by
  show (none : Option Dt) = none ∧ match wordOf "Unlike" with
    | some ws => K (.d (.str ws))
    | none => False
  rw [word_unlike]; exact ⟨rfl, k⟩
theorem w_W {me : Ks.Env → M Dv} {ρ : Ks.Env} (w : Str) (hw : ∀ K : Dv → Prop, K (.d (.str w)) → me ρ (fun _ => K (.d (.str ""))) (Kx K)) (q : Q (.d (.str w))) : mWord me ρ Q Ex := hw Q q
theorem w_appW {i : Nat} {me : Ks.Env → M Dv} {B : Me} {ρ : Ks.Env} {ds : List Dt} (w : Str) (e : ρ[i]? = some (some (.own ds))) (hl : ds.length ≤ 10) (hw : ∀ K : Dv → Prop, K (.d (.str w)) → me ρ (fun _ => K (.d (.str ""))) (Kx K)) (q : B.nx (ρ.set i (some (.own (ds ++ [.str w]))))) : mApp i (mWord me) B ρ := by
  have := szl
  unfold mApp
  simp only [e]
  exact w_W w hw (And.intro (by omega) q)
theorem w_frz {i : Nat} {m : MS} {B : Me} {ρ : Ks.Env} {ds : List Dt} (e : ρ[i]? = some (some (.own ds))) (h : m B (ρ.set i (some (.d (.list ds))))) : mFreeze i m B ρ := by
  unfold mFreeze
  simp only [e]
  exact iteT' rfl h
theorem w_ownW {i : Nat} {me : Ks.Env → M Dv} {B : Me} {ρ : Ks.Env} (w : Str) (hw : ∀ K : Dv → Prop, K (.d (.str w)) → me ρ (fun _ => K (.d (.str ""))) (Kx K)) (q : B.nx (ρ.set i (some (.own [.str w])))) : mSet i (mOwn (mLst (mCons (mWord me) mNil))) B ρ :=
  w_set (w_own (w_lst (w_cons (w_W w hw (w_nil q)))))
theorem W1 {d : Dt} (hd : Bd 300 60 d) (hn : ¬ IsR d) {K : Dv → Prop} (k : K (.d sR)) : F_crowding [.d d] (fun _ => K (.d (.str ""))) (Kx K) :=
  L_crowding hd (fun _ => kx_rope k) (fun r e h _ => absurd (e ▸ isR_rope h) hn) (fun r e h _ => absurd (e ▸ isR_rope h) hn)
theorem W2 {K : Dv → Prop} (k : K (.d sU)) : F_crowding [.d (.tuple (ilst [0, 1, 2]))] (fun _ => K (.d (.str ""))) (Kx K) :=
  L_crowding (rope_bd rope3.1) (fun z => absurd (isR_rope rope3.1) z) (fun r e _ _ => kx_unl k) (fun r e _ c => by
    injection e with e
    rw [← ilst_inj e, rope3.2.2.2] at c
    cases c)
theorem W3 {d : Dt} (hd : Bd 300 60 d) (hn : ¬ IsR d) {K : Dv → Prop} (k : K (.d sR)) : F_matches [.d d, .d .none] (fun _ => K (.d (.str ""))) (Kx K) :=
  L_matches hd ⟨by unfold PyData.canLay0; rfl, by unfold PyData.depth; omega, by unfold fitB; rfl⟩ (fun a e h => absurd (e ▸ isR_rope h) hn) (fun _ => kx_rope k) (fun z => absurd z hn) (fun a b e _ h _ => absurd (e ▸ isR_rope h) hn) (fun a b e _ h _ => absurd (e ▸ isR_rope h) hn) (fun a b e _ h _ => absurd (e ▸ isR_rope h) hn)
theorem W4 {r : List Int} (hr : IsRope r) (h6 : r.length ≤ 6) {d : Dt} (hd : Bd 300 60 d) (hn : ¬ IsR d) {K : Dv → Prop} (k : K (.d sR)) : F_matches [.d (.tuple (ilst r)), .d d] (fun _ => K (.d (.str ""))) (Kx K) :=
  L_matches (rope_bd hr) hd (fun a e _ => by injection e with e; rw [← ilst_inj e]; exact h6) (fun z => absurd (isR_rope hr) z) (fun _ _ => kx_rope k) (fun a b _ e _ h => absurd (e ▸ isR_rope h) hn) (fun a b _ e _ h => absurd (e ▸ isR_rope h) hn) (fun a b _ e _ h => absurd (e ▸ isR_rope h) hn)
theorem W5 {K : Dv → Prop} (k : K (.d sU)) : F_matches [.d (.tuple (ilst [0, 1])), .d (.tuple (ilst [0, 1, 3]))] (fun _ => K (.d (.str ""))) (Kx K) :=
  L_matches (rope_bd rope3.2.1) (rope_bd rope3.2.2.1) (fun a e _ => by injection e with e; rw [← ilst_inj e]; decide) (fun z => absurd (isR_rope rope3.2.1) z) (fun _ z => absurd (isR_rope rope3.2.2.1) z) (fun a b e1 e2 _ _ _ => kx_unl k)
    (fun a b e1 e2 _ _ z => by
      injection e1 with e1; injection e2 with e2
      rw [← ilst_inj e1, ← ilst_inj e2] at z
      exact absurd z (by decide))
    (fun a b e1 e2 _ _ z _ => by
      injection e1 with e1; injection e2 with e2
      rw [← ilst_inj e1, ← ilst_inj e2] at z
      exact absurd z (by decide))
abbrev EvU (r : List Int) (odd words : Option Dv) : Ks.Env := [some .coil, some (.d (.tuple (ilst r))), odd, words]
theorem U4 {r : List Int} {odd : Option Dv} (q : Q (.d (.bool true))) : t_law_refused_4 (endM Q Ex) (EvU r odd (some (.own [sU]))) := by
  have := szl
  unfold t_law_refused_4
  refine w_seq (w_appW (ds := [sU]) (Str.ofString "unlike value") rfl (by simp) (fun K k => w_call (w_cons (w_tp (w_cons (w_c (w_cons (w_c (w_nil (w_cons (w_tp (w_cons (w_c (w_cons (w_c (w_cons (w_c (w_nil (w_nil (And.intro rfl (W5 k)))))))))))))))))))) ?_)
  show t_law_refused_3 (endM Q Ex) (EvU r odd (some (.own [sU, sU])))
  unfold t_law_refused_3
  refine w_frz (ds := [sU, sU]) rfl ?_
  refine w_ret (w_bin (w_var (x := .d (.list [sU, sU])) rfl ?_))
  refine w_bin (w_f (w_lst (w_cons (w_c (w_nil (w_c ?_))))))
  refine And.intro (by decide) (And.intro (by decide) (And.intro (show 1 * 2 ≤ sizeLine by omega) ?_))
  show fEq (.d (.list [sU, sU])) (.d (.list [sU, sU])) _
  refine Eq.mpr (kv_eqR (bd_rep (n := 2) okU.2.1 okU.2.2 (by omega))) ?_
  exact And.intro rfl q
theorem U5 {r : List Int} {odd words : Option Dv} (q : Q (.d (.bool true))) : t_law_refused_5 (endM Q Ex) (EvU r odd words) := by
  unfold t_law_refused_5
  refine w_seq ?_
  refine w_ownW (Str.ofString "unlike value") (fun K k => w_call (w_cons (w_tp (w_cons (w_c (w_cons (w_c (w_cons (w_c (w_nil (w_nil (And.intro rfl (W2 k))))))))))))) ?_
  show t_law_refused_4 (endM Q Ex) (EvU r odd (some (.own [sU])))
  exact U4 q
theorem U1 {r : List Int} {d : Dt} (hr : IsRope r) (h6 : r.length ≤ 6) (hd : Bd 300 60 d) (hn : ¬ IsR d) {B : Me} (q : B.nx (EvU r (some (.d d)) (some (.own [sR, sR])))) : t_law_refused_1 B (EvU r (some (.d d)) (some (.own [sR, sR]))) := by
  have := szl
  unfold t_law_refused_1
  refine w_if (w_B (w_bin (w_bin (w_var (x := .own [sR, sR]) rfl (w_f (w_lst (w_cons (w_W (Str.ofString "rope value") (fun K k => w_call (w_cons (w_var (x := .d (.tuple (ilst r))) rfl (w_cons (w_var (x := .d d) rfl (w_nil (And.intro rfl (W4 hr h6 hd hn k)))))))) ?_))))))))
  refine w_nil (And.intro (show 2 + 1 ≤ sizeLine by omega) ?_)
  refine w_bin (w_f (w_lst (w_cons (w_c (w_nil (w_c ?_))))))
  refine And.intro (by decide) (And.intro (by decide) (And.intro (show 1 * 3 ≤ sizeLine by omega) ?_))
  show fNe (.d (.list [sR, sR, sR])) (.d (.list [sR, sR, sR])) _
  refine Eq.mpr (kv_neR (bd_rep (n := 3) okU.1 (by decide +kernel) (by omega))) ?_
  exact iteF' rfl (w_nx q)
theorem U2 {r : List Int} {d : Dt} (hr : IsRope r) (h6 : r.length ≤ 6) (hd : Bd 300 60 d) (hn : ¬ IsR d) {B : Me} (q : B.nx (EvU r (some (.d d)) (some (.own [sR, sR])))) : t_law_refused_2 B (EvU r (some (.d d)) (some (.own [sR]))) := by
  unfold t_law_refused_2
  refine w_seq (w_appW (ds := [sR]) (Str.ofString "rope value") rfl (by simp) (fun K k => w_call (w_cons (w_var (x := .d d) rfl (w_cons (w_c (w_nil (And.intro rfl (W3 hd hn k)))))))) ?_)
  show t_law_refused_1 _ (EvU r (some (.d d)) (some (.own [sR, sR])))
  exact U1 hr h6 hd hn q
theorem U6 {r : List Int} {d : Dt} (hr : IsRope r) (h6 : r.length ≤ 6) (hd : Bd 300 60 d) (q : Q (.d (.bool true))) : t_law_refused_6 (endM Q Ex) (EvU r (some (.d d)) none) := by
  unfold t_law_refused_6
  refine w_seq (w_if (w_not (w_B (w_call (w_cons (w_var (x := .d d) rfl (w_nil (And.intro rfl (L_good_rope hd fun b hb => ?_)))))))))
  cases b with
  | true =>
    refine iteF' rfl (w_nx ?_)
    show t_law_refused_5 (endM Q Ex) (EvU r (some (.d d)) none)
    exact U5 q
  | false =>
    have hn : ¬ IsR d := fun z => by have := hb.mpr z; cases this
    refine iteT' rfl (w_seq ?_)
    refine w_ownW (Str.ofString "rope value") (fun K k => w_call (w_cons (w_var (x := .d d) rfl (w_nil (And.intro rfl (W1 hd hn k)))))) ?_
    show t_law_refused_2 _ (EvU r (some (.d d)) (some (.own [sR])))
    exact U2 hr h6 hd hn (U5 q)
theorem L_refused {r : List Int} (hr : IsRope r) (h6 : r.length ≤ 6) (q : Q (.d (.bool true))) : F_law_refused [.coil, .d (.tuple (ilst r))] Q Ex := by
  unfold F_law_refused b_law_refused
  refine w_seq (w_set (w_val (w_call (w_cons (w_var (x := .coil) rfl (w_cons (w_var (x := .d (.tuple (ilst r))) rfl (w_nil ?_))))))))
  refine And.intro rfl (L_bent40 (n := 110) (by omega) (by omega) (rope_bd1 hr) (by omega) fun d hd => And.intro rfl ?_)
  show t_law_refused_6 (endM Q Ex) (EvU r (some (.d d)) none)
  exact U6 hr h6 (hd.mono (by omega) (by omega)) q
end
end Lw
end

section
set_option Elab.async false
set_option linter.all false
set_option maxRecDepth 100000
set_option maxHeartbeats 1000000
namespace Lw
open PySem PySem.Spec PyProof.Rows L2 Ks
local macro_rules | `(tactic| w_fin) => `(tactic| simp only [mSeq, mNext, mRet, mIfS, mSet, mPar, mDrop, mVal, mOwn, mRaise, mAsgT, fName, fTup2, mVar, mC, mBin, mUn, mChain, mB, mAnd, mOr, mNot, mAndV, mOrV, mNotV, mIf, mNil, mCons, mTup, mLst, mF, mCB, mCF, mCall, mPart, mNoPart, mYes, mTy, mWord, mFreeze, endM,
  List.getElem?_cons_zero, List.getElem?_cons_succ, List.getElem?_nil, List.set_cons_zero, List.set_cons_succ, kv_dts1, kv_dts2, kv_dts3, kv_own, kv_noOwn1, kv_noOwn2, kv_noOwn3, kv_noOwn4, kv_map0, kv_map1, kv_sub, kv_addI, kv_lt, kv_le, kv_gt, kv_ge, kv_min2, kv_max2, kv_len_t, kv_neg, kv_lstT, kv_lstL, kv_tupL, mCF, kv_ix0, kv_ix1, kv_ix2, kv_ix3, kv_inS2, kv_inS2l, kv_intB, kv_intI, kv_len_l, kv_pow, kv_eqI, kv_neI, kv_eqS, kv_neS, true_and, and_true, if_true, if_false, Bool.false_eq_true, Bool.not_true, Bool.not_false, eq_self])
theorem rng_ilst (n : Nat) : rngD 0 n = ilst ((List.range n).map fun i => ((i : Nat) : Int)) := by
  unfold rngD ilst
  rw [List.map_map]
  congr 1
  funext i
  simp
theorem rng_ok (n : Nat) : (∀ p ∈ (List.range n).map fun i => ((i : Nat) : Int), 0 ≤ p) ∧ ((List.range n).map fun i => ((i : Nat) : Int)).length = n :=
  ⟨fun p hp => by obtain ⟨i, _, rfl⟩ := List.mem_map.mp hp; omega, by simp⟩
theorem last_of {a : List Int} (h : IsRope a) : ∃ x, x ∈ a ∧ L2.atI (ilst a) (-1) = some (.int x) := by
  obtain ⟨i, l, rfl⟩ := rope_snoc h
  exact ⟨l, by simp, by rw [ilst_app]; exact L2.atI_last _ _⟩
section
variable {Q : Dv → Prop} {Ex : Exn → Prop}
abbrev EvX (sc : List Int) (a1 a2 a3 a4 a5 a6 a7 a8 a9 : Option Dv) : Ks.Env := [some (.scr sc), a1, a2, a3, a4, a5, a6, a7, a8, a9]
abbrev oT (ns : List Int) : Option Dv := some (.d (.tuple (ilst ns)))
variable {sc : List Int} {a1 a2 a3 a4 a5 a6 a7 a8 a9 : Option Dv} {B : Me}
theorem J1 {a b row : List Int} (ha : IsRope a) (hb : IsRope b) (hl : a.length = b.length) (h6 : a.length ≤ 6) (h0 : ∀ p ∈ row, 0 ≤ p) (hs : row.length ≤ 1300) (h : B.nx (EvX sc a1 (some .coil) a3 a4 a5 (oT a) a7 (oT b) (some (.d (.list (ilst row)))))) :
    t_law_1 B (EvX sc a1 (some .coil) a3 a4 a5 (oT a) a7 (oT b) (some (.d (.list (ilst row))))) := by
  have := szl
  unfold t_law_1
  refine w_if (w_not (w_B (w_call (w_cons (w_var (x := .d (.tuple (ilst a))) rfl (w_cons (w_var (x := .d (.tuple (ilst b))) rfl (w_cons (w_bin (w_var (x := .d (.list (ilst row))) rfl ?_))))))))))
  refine w_call (w_cons (w_var (x := .coil) rfl (w_cons (w_var (x := .d (.tuple (ilst a))) rfl (w_cons (w_var (x := .d (.tuple (ilst b))) rfl (w_nil ?_)))))))
  refine And.intro rfl (L_near ha hb fun ns n0 nl => ?_)
  refine And.intro (by rw [ilst_len, ilst_len]; omega) (w_nil ?_)
  rw [← ilst_app]
  refine And.intro rfl (L_matches_right ha hb hl h6 (fun p hp => (List.mem_append.mp hp).elim (h0 p) (n0 p)) (by rw [List.length_append]; omega) ?_)
  exact iteF' rfl (w_nx h)
theorem J2 {a b : List Int} (ha : IsRope a) (hb : IsRope b) (hl : a.length = b.length) (h6 : a.length ≤ 6) (h : ∀ b9, B.nx (EvX sc a1 (some .coil) a3 a4 a5 (oT a) a7 (oT b) b9)) : t_law_2 B (EvX sc a1 (some .coil) a3 a4 a5 (oT a) a7 (oT b) a9) := by
  have := szl
  obtain ⟨x, hx, ex⟩ := last_of ha
  obtain ⟨y, hy, ey⟩ := last_of hb
  have x0 := (ha.2.2.2.2 x hx).1
  have y0 := (hb.2.2.2.2 y hy).1
  unfold t_law_2
  refine w_seq (w_set (w_val (w_ifE (w_B (w_bin (w_cb (w_cons (w_bin (w_var (x := .d (.tuple (ilst a))) rfl ?_)))))))))
  refine Exists.intro _ (And.intro ex ?_)
  refine w_cons (w_bin (w_var (x := .d (.tuple (ilst b))) rfl ?_))
  refine Exists.intro _ (And.intro ey ?_)
  refine w_nil ?_
  rw [kv_max2]
  refine w_c ?_
  rw [kv_lt]
  have m0 : 0 ≤ (if y > x then y else x) := by split <;> omega
  by_cases c : (if y > x then y else x) < 400
  · refine iteT' (decide_eq_true c) (w_f ?_)
    unfold mLstRg2
    refine w_c (w_bin (w_bin (w_c (w_cb (w_cons (w_bin (w_var (x := .d (.tuple (ilst a))) rfl ?_)))))))
    refine Exists.intro _ (And.intro ex ?_)
    refine w_cons (w_bin (w_var (x := .d (.tuple (ilst b))) rfl ?_))
    refine Exists.intro _ (And.intro ey ?_)
    refine w_nil ?_
    rw [kv_max2]
    refine And.intro (.inl (.inl (by omega))) ?_
    refine w_c ?_
    rw [kv_addI]
    refine And.intro ⟨by omega, by omega, by omega, by omega, by omega⟩ (And.intro rfl ?_)
    rw [rng_ilst]
    show t_law_1 B (EvX sc a1 (some .coil) a3 a4 a5 (oT a) a7 (oT b) (some (.d (.list (ilst ((List.range (3 * (if y > x then y else x) + 4 - 0).toNat).map fun i => ((i : Nat) : Int)))))))
    exact J1 ha hb hl h6 (rng_ok _).1 (by rw [(rng_ok _).2]; omega) (h _)
  · refine iteF' (decide_eq_false c) (w_f (w_lnil (And.intro rfl ?_)))
    show t_law_1 B (EvX sc a1 (some .coil) a3 a4 a5 (oT a) a7 (oT b) (some (.d (.list (ilst [])))))
    exact J1 ha hb hl h6 (fun _ z => nomatch z) (by simp) (h _)
theorem J3 {a : List Int} (ha : IsRope a) (h6 : a.length ≤ 6) (h : B.nx (EvX sc a1 (some .coil) a3 a4 a5 (oT a) a7 a8 a9)) : t_law_3 B (EvX sc a1 (some .coil) a3 a4 a5 (oT a) a7 a8 a9) := by
  unfold t_law_3
  refine w_if (w_not (w_B (w_call (w_cons (w_var (x := .coil) rfl (w_cons (w_var (x := .d (.tuple (ilst a))) rfl (w_nil (And.intro rfl (L_refused ha h6 ?_))))))))))
  exact iteF' rfl (w_nx h)
theorem J4 {a b : List Int} (ha : IsRope a) (hb : IsRope b) (hl : a.length = b.length) (h6 : a.length ≤ 6) (h : ∀ b8 b9, B.nx (EvX sc a1 (some .coil) a3 a4 a5 (oT a) (oT b) b8 b9)) : t_law_4 B (EvX sc a1 (some .coil) a3 a4 a5 (oT a) (oT b) a8 a9) := by
  unfold t_law_4
  refine w_seq (w_for (w_itemsA (w_f (w_lst (w_cons (w_call (w_cons (w_var (x := .d (.tuple (ilst a))) rfl (w_nil (And.intro rfl (L_law_turned ha ?_)))))))))))
  refine w_cons (w_var (x := .d (.tuple (ilst a))) rfl (w_cons (w_var (x := .d (.tuple (ilst b))) rfl (w_nil ?_))))
  have tl : (tI a).length = a.length := by unfold tI; simp
  refine forL_inv (fun ds ρ => (∀ d ∈ ds, ∃ c : List Int, d = .tuple (ilst c) ∧ IsRope c ∧ c.length = a.length) ∧ ∃ b8 b9, ρ = EvX sc a1 (some .coil) a3 a4 a5 (oT a) (oT b) b8 b9) (fun d ds ρ N i hN => ?_) (fun ρ i => ?_) _ _ ⟨fun d hd => ?_, a8, a9, rfl⟩
  · obtain ⟨hall, b8, b9, rfl⟩ := i
    obtain ⟨c, rfl, hc, lc⟩ := hall d List.mem_cons_self
    refine w_fName ?_
    show t_law_2 _ (EvX sc a1 (some .coil) a3 a4 a5 (oT a) (oT b) (oT c) b9)
    exact J2 ha hc lc.symm h6 fun c9 => hN _ ⟨fun d hd => hall d (List.mem_cons_of_mem _ hd), _, _, rfl⟩
  · obtain ⟨_, b8, b9, rfl⟩ := i
    exact J3 ha h6 (h _ _)
  · simp only [List.mem_cons, List.not_mem_nil, or_false] at hd
    rcases hd with rfl | rfl | rfl
    · exact ⟨_, rfl, tI_rope ha, tl⟩
    · exact ⟨_, rfl, ha, rfl⟩
    · exact ⟨_, rfl, hb, hl.symm⟩
theorem J6 (h : ∀ b5 b6 b7 b8 b9, B.nx (EvX sc a1 (some .coil) a3 a4 b5 b6 b7 b8 b9)) : t_law_6 B (EvX sc a1 (some .coil) a3 a4 a5 a6 a7 a8 a9) := by
  unfold t_law_6
  refine w_seq (w_set (w_val (w_bin (w_c (w_call (w_cons (w_var (x := .coil) rfl (w_cons (w_c (w_nil ?_))))))))))
  refine And.intro rfl (L_wind (by decide) (by decide +kernel) fun x x0 x1 => ?_)
  rw [kv_addI]
  refine And.intro rfl ?_
  show t_law_5 B (EvX sc a1 (some .coil) a3 a4 (some (.d (.int (2 + x)))) a6 a7 a8 a9)
  unfold t_law_5
  refine w_seq (w_par (w_val (w_call (w_cons (w_var (x := .coil) rfl (w_cons (w_var (x := .d (.int (2 + x))) rfl (w_cons (w_var (x := .d (.int (2 + x))) rfl (w_nil ?_))))))))))
  refine And.intro rfl (L_any_rope (by omega) (by omega) (by omega) fun a ha la la' _ => And.intro rfl ?_)
  refine w_val (w_call (w_cons (w_var (x := .coil) rfl (w_cons (w_var (x := .d (.int (2 + x))) rfl (w_cons (w_var (x := .d (.int (2 + x))) rfl (w_nil ?_))))))))
  refine And.intro rfl (L_any_rope (by omega) (by omega) (by omega) fun b hb lb lb' _ => And.intro rfl ?_)
  show t_law_4 B (EvX sc a1 (some .coil) a3 a4 (some (.d (.int (2 + x)))) (oT a) (oT b) a8 a9)
  exact J4 ha hb (by omega) (by omega) fun b8 b9 => h _ _ _ _ _
end
end Lw
end

section
set_option Elab.async false
set_option linter.all false
set_option maxRecDepth 100000
set_option maxHeartbeats 1000000
namespace Lw
open PySem PySem.Spec PyProof.Rows L2 Ks
local macro_rules | `(tactic| w_fin) => `(tactic| simp only [mSeq, mNext, mRet, mIfS, mSet, mPar, mDrop, mVal, mOwn, mRaise, mAsgT, fName, fTup2, mVar, mC, mBin, mUn, mChain, mB, mAnd, mOr, mNot, mAndV, mOrV, mNotV, mIf, mNil, mCons, mTup, mLst, mF, mCB, mCF, mCall, mPart, mNoPart, mYes, mTy, mWord, mFreeze, endM,
  List.getElem?_cons_zero, List.getElem?_cons_succ, List.getElem?_nil, List.set_cons_zero, List.set_cons_succ, kv_dts1, kv_dts2, kv_dts3, kv_own, kv_noOwn1, kv_noOwn2, kv_noOwn3, kv_noOwn4, kv_map0, kv_map1, kv_sub, kv_addI, kv_lt, kv_le, kv_gt, kv_ge, kv_min2, kv_max2, kv_len_t, kv_neg, kv_lstT, kv_lstL, kv_tupL, mCF, kv_ix0, kv_ix1, kv_ix2, kv_ix3, kv_inS2, kv_inS2l, kv_intB, kv_intI, kv_len_l, kv_pow, kv_eqI, kv_neI, kv_eqS, kv_neS, true_and, and_true, if_true, if_false, Bool.false_eq_true, Bool.not_true, Bool.not_false, eq_self])
section
variable {Q : Dv → Prop} {Ex : Exn → Prop}
variable {sc : List Int} {a1 a2 a3 a4 a5 a6 a7 a8 a9 : Option Dv} {B : Me}
theorem J7 {r : List Int} (hr : IsRope r) (hc : crowdB r = false) (h : ∀ b5 b6 b7 b8 b9, B.nx (EvX sc a1 (some .coil) a3 (oT r) b5 b6 b7 b8 b9)) : t_law_7 B (EvX sc a1 (some .coil) a3 (oT r) a5 a6 a7 a8 a9) := by
  unfold t_law_7
  refine w_seq (w_if (w_not (w_B (w_call (w_cons (w_var (x := .d (.tuple (ilst r))) rfl (w_cons (w_call (w_cons (w_var (x := .coil) rfl (w_cons (w_var (x := .d (.tuple (ilst r))) rfl (w_cons (w_var (x := .d (.tuple (ilst r))) rfl (w_nil ?_)))))))))))))))
  refine And.intro rfl (L_near hr hr fun ns n0 nl => ?_)
  refine w_nil (And.intro rfl (L_crowding_right hr hc n0 (by omega) ?_))
  refine iteF' rfl (w_nx ?_)
  show t_law_6 B (EvX sc a1 (some .coil) a3 (oT r) a5 a6 a7 a8 a9)
  exact J6 fun b5 b6 b7 b8 b9 => h _ _ _ _ _
theorem J8 (h : ∀ b4 b5 b6 b7 b8 b9, B.nx (EvX sc a1 (some .coil) a3 b4 b5 b6 b7 b8 b9)) : t_law_8 B (EvX sc a1 (some .coil) a3 a4 a5 a6 a7 a8 a9) := by
  unfold t_law_8
  refine w_seq (w_set (w_val (w_call (w_cons (w_var (x := .coil) rfl (w_cons (w_bin (w_c (w_call (w_cons (w_var (x := .coil) rfl (w_cons (w_c (w_nil ?_))))))))))))))
  refine And.intro rfl (L_wind (by decide) (by decide +kernel) fun x x0 x1 => ?_)
  rw [kv_addI]
  refine w_cons (w_bin (w_c (w_c ?_)))
  refine And.intro ⟨by decide, by decide, by decide⟩ (w_nil ?_)
  refine And.intro rfl (L_plain_rope (by omega) (by omega) (by decide) (by decide) fun r hr hc _ => And.intro rfl ?_)
  show t_law_7 B (EvX sc a1 (some .coil) a3 (oT r) a5 a6 a7 a8 a9)
  exact J7 hr hc fun b5 b6 b7 b8 b9 => h _ _ _ _ _ _
theorem J9 {r : List Int} (hr : IsRope r) (hc : crowdB r = false) (hb : ∀ n ∈ r, n ≤ 8 * 12 + 2) (h : ∀ b4 b5 b6 b7 b8 b9, B.nx (EvX sc a1 (some .coil) (oT r) b4 b5 b6 b7 b8 b9)) : t_law_9 B (EvX sc a1 (some .coil) (oT r) a4 a5 a6 a7 a8 a9) := by
  have := szl
  obtain ⟨x, hx, ex⟩ := last_of hr
  have x0 := (hr.2.2.2.2 x hx).1
  have x1 := hb x hx
  unfold t_law_9
  refine w_seq (w_if (w_not (w_B (w_call (w_cons (w_var (x := .d (.tuple (ilst r))) rfl (w_cons (w_f ?_))))))))
  unfold mLstRg1
  refine w_bin (w_bin (w_c (w_bin (w_var (x := .d (.tuple (ilst r))) rfl ?_))))
  refine Exists.intro _ (And.intro ex ?_)
  refine And.intro (.inl (.inl (by omega))) ?_
  refine w_c ?_
  rw [kv_addI]
  refine And.intro ⟨by omega, by omega⟩ (w_nil ?_)
  rw [rng_ilst]
  refine And.intro rfl (L_crowding_right hr hc (rng_ok _).1 (by rw [(rng_ok _).2]; omega) ?_)
  refine iteF' rfl (w_nx ?_)
  show t_law_8 B (EvX sc a1 (some .coil) (oT r) a4 a5 a6 a7 a8 a9)
  exact J8 fun b4 b5 b6 b7 b8 b9 => h _ _ _ _ _ _
theorem J10 (h : ∀ b3 b4 b5 b6 b7 b8 b9, B.nx (EvX sc a1 (some .coil) b3 b4 b5 b6 b7 b8 b9)) : t_law_10 B (EvX sc a1 (some .coil) a3 a4 a5 a6 a7 a8 a9) := by
  unfold t_law_10
  refine w_seq (w_set (w_val (w_call (w_cons (w_var (x := .coil) rfl (w_cons (w_bin (w_c (w_call (w_cons (w_var (x := .coil) rfl (w_cons (w_c (w_nil ?_))))))))))))))
  refine And.intro rfl (L_wind (by decide) (by decide +kernel) fun x x0 x1 => ?_)
  rw [kv_addI]
  refine w_cons (w_c (w_nil ?_))
  refine And.intro rfl (L_plain_rope (by omega) (by omega) (by decide) (by decide) fun r hr hc hb => And.intro rfl ?_)
  show t_law_9 B (EvX sc a1 (some .coil) (oT r) a4 a5 a6 a7 a8 a9)
  exact J9 hr hc hb fun b4 b5 b6 b7 b8 b9 => h _ _ _ _ _ _ _
theorem J11 {k : Int} (hk : 0 ≤ k) (h : ∀ b2 b3 b4 b5 b6 b7 b8 b9, B.nx (EvX sc (some (.d (.int k))) b2 b3 b4 b5 b6 b7 b8 b9)) : t_law_11 B (EvX sc (some (.d (.int k))) a2 a3 a4 a5 a6 a7 a8 a9) := by
  unfold t_law_11
  refine w_seq (w_set (w_val (w_call (w_cons (w_var (x := .scr sc) rfl (w_cons (w_var (x := .d (.int k)) rfl (w_nil ?_))))))))
  refine And.intro rfl (L_coil hk (And.intro rfl ?_))
  show t_law_10 B (EvX sc (some (.d (.int k))) (some .coil) a3 a4 a5 a6 a7 a8 a9)
  exact J10 fun b3 b4 b5 b6 b7 b8 b9 => h _ _ _ _ _ _ _ _
theorem E_law_written (q : Q (.d (.bool true))) : F_law_written [] Q Ex := closed (by decide +kernel) q
theorem rng_mem {n : Nat} {d : Dt} (h : d ∈ rngD 0 n) : ∃ m : Nat, m < n ∧ d = .int (m : Nat) := by
  unfold rngD at h
  obtain ⟨i, hi, rfl⟩ := List.mem_map.mp h
  exact ⟨i, List.mem_range.mp hi, by simp⟩
theorem plain (sc : List Int) (hl : sc.length ≤ 63) : F_law [.scr sc] (fun v => v = .d (.bool true)) (fun _ => False) := by
  show b_law (endM (fun v => v = .d (.bool true)) (fun _ => False)) (EvX sc none none none none none none none none none)
  unfold b_law
  refine w_seq (w_for ?_)
  refine And.intro ?_ (And.intro ?_ ?_)
  · show -(2 ^ 62) ≤ (if (if ((sc.length : Nat) : Int) < 10 then ((sc.length : Nat) : Int) else 10) > 5 then (if ((sc.length : Nat) : Int) < 10 then ((sc.length : Nat) : Int) else 10) else 5)
    split <;> omega
  · show (if (if ((sc.length : Nat) : Int) < 10 then ((sc.length : Nat) : Int) else 10) > 5 then (if ((sc.length : Nat) : Int) < 10 then ((sc.length : Nat) : Int) else 10) else 5) < 2 ^ 62
    split <;> omega
  · refine forL_inv (fun ds ρ => (∀ d ∈ ds, ∃ m : Nat, d = .int (m : Nat)) ∧ ∃ b1 b2 b3 b4 b5 b6 b7 b8 b9, ρ = EvX sc b1 b2 b3 b4 b5 b6 b7 b8 b9) (fun d ds ρ N i hN => ?_) (fun ρ i => ?_) _ _ ⟨fun d hd => ?_, _, _, _, _, _, _, _, _, _, rfl⟩
    · obtain ⟨hall, b1, b2, b3, b4, b5, b6, b7, b8, b9, rfl⟩ := i
      obtain ⟨m, rfl⟩ := hall d List.mem_cons_self
      exact J11 (B := { endM (fun v => v = .d (.bool true)) (fun _ => False) with nx := N, ct := N, bk := t_law_12 (endM (fun v => v = .d (.bool true)) (fun _ => False)) }) (by omega) fun c2 c3 c4 c5 c6 c7 c8 c9 => hN _ ⟨fun d hd => hall d (List.mem_cons_of_mem _ hd), _, _, _, _, _, _, _, _, _, rfl⟩
    · obtain ⟨_, b1, b2, b3, b4, b5, b6, b7, b8, b9, rfl⟩ := i
      show t_law_12 (endM (fun v => v = .d (.bool true)) (fun _ => False)) (EvX sc b1 b2 b3 b4 b5 b6 b7 b8 b9)
      unfold t_law_12
      exact And.intro rfl (E_law_written (And.intro rfl rfl))
    · obtain ⟨m, _, e⟩ := rng_mem hd
      exact ⟨m, e⟩
end
end Lw
end
theorem PySem.Challenge.cw_knotspans_k10_whole_places_of_one_more_k_holds : PySem.Challenge.rw_knotspans_k10_whole_places_of_one_more_k.Holds :=
  Lw.holds Lw.plain
