import PyProof.Rows.All
import Wide.All
import OpenK.AllK
import Wide.FinOn
import HandS.ForMost
import HandS.ForExc
import HandS.Lambda
import HandS.IsInst
import HandS.TupAny
import HandS.Deep
import HandS.SortInts
import HandS.Wide
import HandS.Conv
import HandS.Zip
import HandS.ExcCtx
import HandS.HotCalls
import HandS.ExcIs
import HandS.Style
import KE.GoesEnum
import HandS.TupMul
import HandS.Flow
import PyProof.Rows.IntBool
import HandS.Text
import HandS.EndTab
import PySem.Challenge.RW_knotspans_k09_gauges_of_ropes
section
set_option Elab.async false
set_option linter.all false
set_option maxRecDepth 100000
set_option maxHeartbeats 4000000
/-! # The layer of plain data over the hand layer: worlds, values, what an expression means in plain data -/
namespace Ks
open PySem PySem.Spec PyProof.Rows L2

abbrev Dt := PyData
/-- the module's names, and the tables of code objects that are told of -/
structure Mg where
  f : Str → Option Value
  T : List (Addr × Str)
variable {T : List (PySem.Addr × PySem.Str)}
/-- an exception: the name of its class, and what it bears -/
structure Exn where
  cls : Str
  arg : Option Dt := none
/-- what a slot holds, in plain data -/
inductive Dv where
  | d (p : Dt) | own (ps : List Dt) | coil | dic (kvs : List (Key × Dt)) | odic (kvs : List (Key × Dt)) | scr (ns : List Int) | fn (f : Addr) | ty (n : String)
def Dv.isOwn : Dv → Bool
  | .own _ => true
  | .odic _ => true
  | _ => false

mutual
/-- v is the datum, in the part of the heap that stands still -/
def Rp (G : Hp) : PyData → V → Prop
  | .none, v => v = .non
  | .bool b, v => v = .bl b
  | .int i, v => v = .int i
  | .str x, v => v = .str x
  | .list ds, v => ∃ a vs, v = .ref a ∧ G a = some (.lst vs) ∧ RpA G ds vs
  | .tuple ds, v => ∃ a vs, v = .ref a ∧ G a = some (.tup vs) ∧ RpA G ds vs
  | .dict _, _ => False
def RpA (G : Hp) : List PyData → List V → Prop
  | [], vs => vs = []
  | d :: ds, vs => ∃ v r, vs = v :: r ∧ Rp G d v ∧ RpA G ds r
end

mutual
theorem Rp.mono {G G' : Hp} (g : Same G G') : ∀ (d : PyData) (v : V), Rp G d v → Rp G' d v
  | .none, v, h => by simpa [Rp] using h
  | .bool b, v, h => by simpa [Rp] using h
  | .int i, v, h => by simpa [Rp] using h
  | .str x, v, h => by simpa [Rp] using h
  | .list ds, v, h => by
    simp only [Rp] at h ⊢
    obtain ⟨a, vs, rfl, ha, hs⟩ := h
    exact ⟨a, vs, rfl, g _ _ ha, RpA.mono g ds vs hs⟩
  | .tuple ds, v, h => by
    simp only [Rp] at h ⊢
    obtain ⟨a, vs, rfl, ha, hs⟩ := h
    exact ⟨a, vs, rfl, g _ _ ha, RpA.mono g ds vs hs⟩
  | .dict _, v, h => by simp [Rp] at h
theorem RpA.mono {G G' : Hp} (g : Same G G') : ∀ (ds : List PyData) (vs : List V), RpA G ds vs → RpA G' ds vs
  | [], vs, h => by simpa [RpA] using h
  | d :: ds, vs, h => by
    simp only [RpA] at h ⊢
    obtain ⟨v, r, rfl, h1, h2⟩ := h
    exact ⟨v, r, rfl, Rp.mono g d v h1, RpA.mono g ds r h2⟩
end
mutual
/-- the layer's own data relation -/
theorem Rp.dp {K : PySem.W.Frag} {G H : Hp} (g : Same G H) : ∀ (d : PyData) (v : V), Rp G d v → Dp K H v d
  | .none, v, h => by simp only [Rp] at h; subst h; exact .non
  | .bool b, v, h => by simp only [Rp] at h; subst h; exact .bl b
  | .int i, v, h => by simp only [Rp] at h; subst h; exact .int i
  | .str x, v, h => by simp only [Rp] at h; subst h; exact .str x
  | .list ds, v, h => by
    simp only [Rp] at h
    obtain ⟨a, vs, rfl, ha, hs⟩ := h
    exact .lst (SqL.of (g _ _ ha)) (RpA.dp g ds vs hs)
  | .tuple ds, v, h => by
    simp only [Rp] at h
    obtain ⟨a, vs, rfl, ha, hs⟩ := h
    exact .tup (SqT.of (g _ _ ha)) (RpA.dp g ds vs hs)
  | .dict _, v, h => by simp [Rp] at h
theorem RpA.dp {K : PySem.W.Frag} {G H : Hp} (g : Same G H) : ∀ (ds : List PyData) (vs : List V), RpA G ds vs → DpAll K H vs ds
  | [], vs, h => by simp only [RpA] at h; subst h; exact .nil
  | d :: ds, vs, h => by
    simp only [RpA] at h
    obtain ⟨v, r, rfl, h1, h2⟩ := h
    exact .cons (Rp.dp g d v h1) (RpA.dp g ds r h2)
end
theorem RpA.length {G : Hp} : ∀ {ds : List PyData} {vs : List V}, RpA G ds vs → vs.length = ds.length
  | [], vs, h => by simp only [RpA] at h; subst h; rfl
  | d :: ds, vs, h => by
    simp only [RpA] at h
    obtain ⟨v, r, rfl, h1, h2⟩ := h
    simp [RpA.length h2]
theorem RpA.get {G : Hp} : ∀ {ds : List PyData} {vs : List V} {i : Nat} {d : PyData}, RpA G ds vs → ds[i]? = some d → ∃ v, vs[i]? = some v ∧ Rp G d v
  | [], vs, i, d, h, e => by simp at e
  | c :: ds, vs, i, d, h, e => by
    simp only [RpA] at h
    obtain ⟨v, r, rfl, h1, h2⟩ := h
    cases i with
    | zero => simp at e; subst e; exact ⟨v, rfl, h1⟩
    | succ i => simpa using RpA.get (i := i) h2 (by simpa using e)
theorem RpA.get' {G : Hp} : ∀ {ds : List PyData} {vs : List V} {i : Nat} {v : V}, RpA G ds vs → vs[i]? = some v → ∃ d, ds[i]? = some d ∧ Rp G d v
  | [], vs, i, v, h, e => by simp only [RpA] at h; subst h; simp at e
  | c :: ds, vs, i, v, h, e => by
    simp only [RpA] at h
    obtain ⟨u, r, rfl, h1, h2⟩ := h
    cases i with
    | zero => simp at e; subst e; exact ⟨c, rfl, h1⟩
    | succ i => simpa using RpA.get' (i := i) h2 (by simpa using e)
theorem RpA.nil {G : Hp} : RpA G [] [] := by simp [RpA]
theorem RpA.cons {G : Hp} {d : PyData} {ds : List PyData} {v : V} {vs : List V} (h : Rp G d v) (t : RpA G ds vs) : RpA G (d :: ds) (v :: vs) := by
  simp only [RpA]
  exact ⟨v, vs, rfl, h, t⟩
theorem RpA.append {G : Hp} : ∀ {ds es : List PyData} {vs us : List V}, RpA G ds vs → RpA G es us → RpA G (ds ++ es) (vs ++ us)
  | [], es, vs, us, h, k => by simp only [RpA] at h; subst h; exact k
  | d :: ds, es, vs, us, h, k => by
    simp only [RpA] at h
    obtain ⟨v, r, rfl, h1, h2⟩ := h
    exact .cons h1 (RpA.append h2 k)
theorem RpA.take {G : Hp} : ∀ {ds : List PyData} {vs : List V} (n : Nat), RpA G ds vs → RpA G (ds.take n) (vs.take n)
  | _, _, 0, h => by simp [RpA]
  | [], vs, n + 1, h => by simp only [RpA] at h; subst h; simp [RpA]
  | d :: ds, vs, n + 1, h => by
    simp only [RpA] at h
    obtain ⟨v, r, rfl, h1, h2⟩ := h
    exact .cons h1 (RpA.take n h2)
theorem RpA.drop {G : Hp} : ∀ {ds : List PyData} {vs : List V} (n : Nat), RpA G ds vs → RpA G (ds.drop n) (vs.drop n)
  | _, _, 0, h => by simpa using h
  | [], vs, n + 1, h => by simp only [RpA] at h; subst h; simp [RpA]
  | d :: ds, vs, n + 1, h => by
    simp only [RpA] at h
    obtain ⟨v, r, rfl, h1, h2⟩ := h
    simpa using RpA.drop n h2
theorem RpA.reverse {G : Hp} : ∀ {ds : List PyData} {vs : List V}, RpA G ds vs → RpA G ds.reverse vs.reverse
  | [], vs, h => by simp only [RpA] at h; subst h; simp [RpA]
  | d :: ds, vs, h => by
    simp only [RpA] at h
    obtain ⟨v, r, rfl, h1, h2⟩ := h
    rw [List.reverse_cons, List.reverse_cons]
    exact .append (RpA.reverse h2) (.cons h1 .nil)
theorem RpA.set {G : Hp} {d : PyData} {v : V} (h : Rp G d v) : ∀ {ds : List PyData} {vs : List V} (i : Nat), RpA G ds vs → RpA G (ds.set i d) (vs.set i v)
  | [], vs, i, k => by simp only [RpA] at k; subst k; simp [RpA]
  | c :: ds, vs, 0, k => by
    simp only [RpA] at k
    obtain ⟨u, r, rfl, h1, h2⟩ := k
    exact .cons h h2
  | c :: ds, vs, i + 1, k => by
    simp only [RpA] at k
    obtain ⟨u, r, rfl, h1, h2⟩ := k
    exact .cons h1 (RpA.set h i h2)
/-- a list of ints -/
def ilst (ns : List Int) : List Dt := ns.map PyData.int
def blst (bs : List Bool) : List Dt := bs.map PyData.bool
def slst (xs : List Str) : List Dt := xs.map PyData.str
theorem RpA.ilst {G : Hp} : ∀ {ns : List Int} {vs : List V}, RpA G (ilst ns) vs → vs = ns.map V.int
  | [], vs, h => by simpa [Ks.ilst, RpA] using h
  | n :: ns, vs, h => by
    simp only [Ks.ilst, List.map_cons, RpA, Rp] at h
    obtain ⟨v, r, rfl, rfl, h2⟩ := h
    rw [RpA.ilst h2]; rfl
theorem RpA.blst {G : Hp} : ∀ {ns : List Bool} {vs : List V}, RpA G (blst ns) vs → vs = ns.map V.bl
  | [], vs, h => by simpa [Ks.blst, RpA] using h
  | n :: ns, vs, h => by
    simp only [Ks.blst, List.map_cons, RpA, Rp] at h
    obtain ⟨v, r, rfl, rfl, h2⟩ := h
    rw [RpA.blst h2]; rfl
theorem RpA.slst {G : Hp} : ∀ {ns : List Str} {vs : List V}, RpA G (slst ns) vs → vs = ns.map V.str
  | [], vs, h => by simpa [Ks.slst, RpA] using h
  | n :: ns, vs, h => by
    simp only [Ks.slst, List.map_cons, RpA, Rp] at h
    obtain ⟨v, r, rfl, rfl, h2⟩ := h
    rw [RpA.slst h2]; rfl
theorem RpA.of_ilst {G : Hp} : ∀ {ns : List Int}, RpA G (Ks.ilst ns) (ns.map V.int)
  | [] => .nil
  | n :: ns => .cons (by simp [Rp]) (RpA.of_ilst (ns := ns))
theorem RpA.of_slst {G : Hp} : ∀ {ns : List Str}, RpA G (Ks.slst ns) (ns.map V.str)
  | [] => .nil
  | n :: ns => .cons (by simp [Rp]) (RpA.of_slst (ns := ns))
theorem RpA.of_blst {G : Hp} : ∀ {ns : List Bool}, RpA G (Ks.blst ns) (ns.map V.bl)
  | [] => .nil
  | n :: ns => .cons (by simp [Rp]) (RpA.of_blst (ns := ns))
/-- dicts' items -/
def RpK (G : Hp) : List (Key × Dt) → List (Key × V) → Prop
  | [], vs => vs = []
  | (k, d) :: ds, vs => ∃ v r, vs = (k, v) :: r ∧ Rp G d v ∧ RpK G ds r
theorem RpK.mono {G G' : Hp} (g : Same G G') : ∀ {ds : List (Key × Dt)} {vs : List (Key × V)}, RpK G ds vs → RpK G' ds vs
  | [], vs, h => h
  | (k, d) :: ds, vs, h => by
    obtain ⟨v, r, rfl, h1, h2⟩ := h
    exact ⟨v, r, rfl, Rp.mono g d v h1, RpK.mono g h2⟩

/-! ### worlds -/
/-- a drawing coil: two ints -/
def CoilAt (H : Hp) (c : Addr) : Prop := ∃ a b : Int, H c = some (.lst [.int a, .int b]) ∧ 0 ≤ a ∧ 0 ≤ b ∧ b ≤ 2147483587
/-- C: the coils; G: what stands still; H: what is tracked -/
structure Wd (T : List (Addr × Str)) where
  C : Addr → Prop
  G : Hp
  H : Hp
  gh : Same G H
  gc : ∀ a, C a → G a = none
  gt : ∀ a ps, G a ≠ some (.tbl ps)
  cat : ∀ c, C c → CoilAt H c
  tabs : LamX.Tabs T H
/-- free, or a table of code objects -/
def Fr (H : Hp) (a : Addr) : Prop := ∀ o, H a = some o → ∃ ps, o = .tbl ps
theorem Fr.of {H : Hp} {a : Addr} (h : H a = none) : Fr H a := fun o e => by rw [h] at e; cases e
theorem Fr.no {H : Hp} {a : Addr} {o : HO} (f : Fr H a) (h : H a = some o) (ho : ∀ ps, o ≠ .tbl ps) : False := by
  obtain ⟨ps, e⟩ := f o h
  exact ho ps e
structure Grow (w w' : Wd T) : Prop where
  gg : Same w.G w'.G
  new : ∀ a o, w.G a = none → w'.G a = some o → Fr w.H a
  keep : ∀ a o, w.H a = some o → ¬ w.C a → (∀ ps, o ≠ .tbl ps) → w'.H a = some o
  dom : ∀ a, Fr w'.H a → Fr w.H a
  cc : ∀ c, w.C c → w'.C c
  cn : ∀ c, w'.C c → ¬ w.C c → Fr w.H c
theorem Grow.refl (w : Wd T) : Grow w w := ⟨Same.refl _, fun _ _ h h' => (by rw [h] at h'; cases h'), fun _ _ h _ _ => h, fun _ h => h, fun _ h => h, fun _ h n => absurd h n⟩
theorem Grow.trans {w w1 w2 : Wd T} (a : Grow w w1) (b : Grow w1 w2) : Grow w w2 where
  gg := a.gg.trans b.gg
  new := fun x o h h2 => by
    cases e : w1.G x with
    | none => exact a.dom x (b.new x o e h2)
    | some u => exact a.new x u h e
  keep := fun x o h nc nt => by
    refine b.keep x o (a.keep x o h nc nt) (fun hc => ?_) nt
    exact (a.cn x hc nc).no h nt
  dom := fun x h => a.dom x (b.dom x h)
  cc := fun c h => b.cc c (a.cc c h)
  cn := fun c h n => by
    by_cases e : w1.C c
    · exact a.cn c e n
    · exact a.dom c (b.cn c h e)
theorem tabs_same {H H' : Hp} (e : Same H H') (T : List (Addr × Str)) (t : LamX.Tabs T H) : LamX.Tabs T H' := t.ext e
theorem CoilAt.same {H H' : Hp} {c : Addr} (e : Same H H') (h : CoilAt H c) : CoilAt H' c := by
  obtain ⟨a, b, h1, h2⟩ := h
  exact ⟨a, b, e _ _ h1, h2⟩
theorem CoilAt.ne {H : Hp} {c p : Addr} (h : CoilAt H c) (hp : H p = none) : c ≠ p := by
  obtain ⟨a, b, h1, _⟩ := h
  exact ne_of_none h1 hp
theorem same_upd {H : Hp} {p : Addr} {o : HO} (h : H p = none) : Same H (upd H p o) := fun b x e => by
  rw [upd_ne (ne_of_none e h)]
  exact e
/-- a new object that stands still -/
def Wd.add (w : Wd T) (p : Addr) (o : HO) (hp : w.H p = none) (ho : ∀ ps, o ≠ .tbl ps) : Wd T where
  C := w.C
  G := upd w.G p o
  H := upd w.H p o
  gh := fun b x e => by
    by_cases hb : b = p
    · subst hb; rw [upd_same] at e ⊢; exact e
    · rw [upd_ne hb] at e ⊢; exact w.gh b x e
  gc := fun a h => by
    have ne : a ≠ p := (w.cat a h).ne hp
    rw [upd_ne ne]; exact w.gc a h
  gt := fun a ps e => by
    by_cases hb : a = p
    · subst hb; rw [upd_same] at e; exact ho ps (Option.some.inj e)
    · rw [upd_ne hb] at e; exact w.gt a ps e
  cat := fun c h => (w.cat c h).same (same_upd hp)
  tabs := w.tabs.ext (same_upd hp)
theorem Wd.g_none {w : Wd T} {p : Addr} (hp : w.H p = none) : w.G p = none := w.gh.free hp
theorem Grow.add {w : Wd T} {p : Addr} {o : HO} (hp : w.H p = none) (ho : ∀ ps, o ≠ .tbl ps) : Grow w (w.add p o hp ho) where
  gg := same_upd (Wd.g_none hp)
  new := fun a u h h' => by
    by_cases e : a = p
    · subst e; exact .of hp
    · rw [show (w.add p o hp ho).G a = w.G a from upd_ne e, h] at h'; cases h'
  keep := fun a u h _ _ => same_upd hp a u h
  dom := fun a h => by
    by_cases e : a = p
    · subst e; exact .of hp
    · exact fun o' h' => h o' ((upd_ne e).trans h')
  cc := fun _ h => h
  cn := fun _ h n => absurd h n
/-- a new object that may yet change -/
def Wd.lay (w : Wd T) (p : Addr) (o : HO) (hp : w.H p = none) : Wd T where
  C := w.C
  G := w.G
  H := upd w.H p o
  gh := w.gh.trans (same_upd hp)
  gc := w.gc
  gt := w.gt
  cat := fun c h => (w.cat c h).same (same_upd hp)
  tabs := w.tabs.ext (same_upd hp)
theorem Grow.lay {w : Wd T} {p : Addr} {o : HO} (hp : w.H p = none) : Grow w (w.lay p o hp) where
  gg := Same.refl _
  new := fun a u h h' => by rw [show (w.lay p o hp).G a = w.G a from rfl, h] at h'; cases h'
  keep := fun a u h _ _ => same_upd hp a u h
  dom := fun a h => by
    by_cases e : a = p
    · subst e; exact .of hp
    · exact fun o' h' => h o' ((upd_ne e).trans h')
  cc := fun _ h => h
  cn := fun _ h n => absurd h n
/-- what may change is to stand still from here on -/
def Wd.fix (w : Wd T) (p : Addr) (o : HO) (hp : w.H p = some o) (hc : ¬ w.C p) (ho : ∀ ps, o ≠ .tbl ps) : Wd T where
  C := w.C
  G := upd w.G p o
  H := w.H
  gh := fun b x e => by
    by_cases hb : b = p
    · subst hb; rw [upd_same] at e; rw [hp]; exact e
    · rw [upd_ne hb] at e; exact w.gh b x e
  gc := fun a h => by
    have ne : a ≠ p := fun e => hc (e ▸ h)
    rw [upd_ne ne]; exact w.gc a h
  gt := fun a ps e => by
    by_cases hb : a = p
    · subst hb; rw [upd_same] at e; exact ho ps (Option.some.inj e)
    · rw [upd_ne hb] at e; exact w.gt a ps e
  cat := w.cat
  tabs := w.tabs

/-! ### what a slot holds -/
def RS (K : PySem.W.Frag) (w : Wd T) : V → Dv → Prop
  | v, .d p => Rp w.G p v
  | v, .own ps => ∃ a vs, v = .ref a ∧ w.G a = none ∧ ¬ w.C a ∧ w.H a = some (.lst vs) ∧ RpA w.G ps vs
  | v, .coil => ∃ c, v = .ref c ∧ w.C c
  | v, .dic kvs => ∃ a vs, v = .ref a ∧ w.G a = some (.dK vs) ∧ RpK w.G kvs vs
  | v, .odic kvs => ∃ a vs, v = .ref a ∧ w.G a = none ∧ ¬ w.C a ∧ w.H a = some (.dK vs) ∧ RpK w.G kvs vs
  | v, .scr ns => ∃ a, v = .ref a ∧ SqL K w.G a (ns.map V.int)
  | v, .fn f => v = .ref f
  | v, .ty n => v = .ty n
theorem Grow.own {w w' : Wd T} (g : Grow w w') {a : Addr} {o : HO} (hg : w.G a = none) (hc : ¬ w.C a) (h : w.H a = some o) (ho : ∀ ps, o ≠ .tbl ps) : w'.G a = none ∧ ¬ w'.C a ∧ w'.H a = some o := by
  refine ⟨?_, fun e => ?_, g.keep a o h hc ho⟩
  · cases e : w'.G a with
    | none => rfl
    | some u =>
      exact ((g.new a u hg e).no h ho).elim
  · exact (g.cn a e hc).no h ho
theorem RS.grow {K : PySem.W.Frag} {w w' : Wd T} (g : Grow w w') : ∀ {v : V} {x : Dv}, RS K w v x → RS K w' v x
  | v, .d p, h => Rp.mono g.gg p v h
  | v, .own ps, h => by
    obtain ⟨a, vs, rfl, h1, h2, h3, h4⟩ := h
    obtain ⟨q1, q2, q3⟩ := g.own h1 h2 h3 (fun ps e => nomatch e)
    exact ⟨a, vs, rfl, q1, q2, q3, RpA.mono g.gg _ _ h4⟩
  | v, .coil, h => by
    obtain ⟨c, rfl, h⟩ := h
    exact ⟨c, rfl, g.cc c h⟩
  | v, .dic kvs, h => by
    obtain ⟨a, vs, rfl, h1, h2⟩ := h
    exact ⟨a, vs, rfl, g.gg _ _ h1, h2.mono g.gg⟩
  | v, .odic kvs, h => by
    obtain ⟨a, vs, rfl, h1, h2, h3, h4⟩ := h
    obtain ⟨q1, q2, q3⟩ := g.own h1 h2 h3 (fun ps e => nomatch e)
    exact ⟨a, vs, rfl, q1, q2, q3, h4.mono g.gg⟩
  | v, .scr ns, h => by
    obtain ⟨a, rfl, h⟩ := h
    exact ⟨a, rfl, g.gg.seq h⟩
  | v, .fn f, h => h
  | v, .ty n, h => h

abbrev Env := List (Option Dv)
/-- the slots σ hold what ρ says; en: the world at the def's entry -/
structure St (K : PySem.W.Frag) (en w : Wd T) (ρ : Env) (σ : L2.St) : Prop where
  len : σ.length = ρ.length
  rs : ∀ (i : Nat) (x : Dv), ρ[i]? = some (some x) → ∃ v, σ[i]? = some (some v) ∧ RS K w v x
  un : ∀ (i j : Nat) (x y : Dv) (a : Addr), ρ[i]? = some (some x) → ρ[j]? = some (some y) → x.isOwn = true → y.isOwn = true → σ[i]? = some (some (.ref a)) → σ[j]? = some (some (.ref a)) → i = j
  fr : ∀ (i : Nat) (x : Dv) (a : Addr), ρ[i]? = some (some x) → x.isOwn = true → σ[i]? = some (some (.ref a)) → Fr en.H a
  gr : Grow en w
theorem St.grow {K : PySem.W.Frag} {en w w' : Wd T} {ρ : Env} {σ : L2.St} (s : St K en w ρ σ) (g : Grow w w') : St K en w' ρ σ :=
  ⟨s.len, fun i x h => let ⟨v, h1, h2⟩ := s.rs i x h; ⟨v, h1, h2.grow g⟩, s.un, s.fr, s.gr.trans g⟩

/-! ### meanings -/
abbrev M (α : Type) := (α → Prop) → (Exn → Prop) → Prop
def ExR (mg : Mg) (x : Exn) (u : Value) (o : Option Addr) : Prop := mg.f x.cls = some u ∧ (x.arg = none → o = none)
/-- the reading t of an expression gives what m says -/
def SE (K : PySem.W.Frag) (mg : Mg) (E : XK) (t : TE) (m : Env → M Dv) : Prop :=
  ∀ (en w : Wd mg.T) (ρ : Env) (σ : L2.St) (Q : Dv → Prop) (Ex : Exn → Prop) (R : VK), St K en w ρ σ → m ρ Q Ex →
    (∀ (x : Dv) (v : V) (w' : Wd mg.T), Grow w w' → RS K w' v x → Q x → R v w'.H) →
    (∀ (x : Exn) (u : Value) (o : Option Addr) (w' : Wd mg.T), Grow w w' → Ex x → ExR mg x u o → E u o w'.H) → t σ w.H R
/-- a test -/
def SB (K : PySem.W.Frag) (mg : Mg) (E : XK) (t : TT) (m : Env → M Bool) : Prop :=
  ∀ (en w : Wd mg.T) (ρ : Env) (σ : L2.St) (Q : Bool → Prop) (Ex : Exn → Prop) (R : Bool → Hp → Prop), St K en w ρ σ → m ρ Q Ex →
    (∀ (x : Bool) (w' : Wd mg.T), Grow w w' → Q x → R x w'.H) →
    (∀ (x : Exn) (u : Value) (o : Option Addr) (w' : Wd mg.T), Grow w w' → Ex x → ExR mg x u o → E u o w'.H) → t σ w.H R
/-- values one by one -/
def RSs (K : PySem.W.Frag) (w : Wd T) : List V → List Dv → Prop
  | [], [] => True
  | v :: vs, x :: xs => RS K w v x ∧ RSs K w vs xs
  | _, _ => False
theorem RSs.grow {K : PySem.W.Frag} {w w' : Wd T} (g : Grow w w') : ∀ {vs : List V} {xs : List Dv}, RSs K w vs xs → RSs K w' vs xs
  | [], [], _ => trivial
  | v :: vs, x :: xs, h => ⟨h.1.grow g, RSs.grow g h.2⟩
  | [], _ :: _, h => h
  | _ :: _, [], h => h
theorem RSs.length {K : PySem.W.Frag} {w : Wd T} : ∀ {vs : List V} {xs : List Dv}, RSs K w vs xs → vs.length = xs.length
  | [], [], _ => rfl
  | v :: vs, x :: xs, h => by simp [RSs.length h.2]
  | [], _ :: _, h => h.elim
  | _ :: _, [], h => h.elim
def SA (K : PySem.W.Frag) (mg : Mg) (E : XK) (n : Nat) (t : TA) (m : Env → M (List Dv)) : Prop :=
  ∀ (en w : Wd mg.T) (ρ : Env) (σ : L2.St) (Q : List Dv → Prop) (Ex : Exn → Prop) (R : List V → Hp → Prop), St K en w ρ σ → m ρ Q Ex →
    (∀ (xs : List Dv) (vs : List V) (w' : Wd mg.T), Grow w w' → RSs K w' vs xs → xs.length = n → Q xs → R vs w'.H) →
    (∀ (x : Exn) (u : Value) (o : Option Addr) (w' : Wd mg.T), Grow w w' → Ex x → ExR mg x u o → E u o w'.H) → t σ w.H R
/-- a new list, not yet standing still -/
def SF (K : PySem.W.Frag) (mg : Mg) (E : XK) (t : TE) (m : Env → M (List Dt)) : Prop :=
  ∀ (en w : Wd mg.T) (ρ : Env) (σ : L2.St) (Q : List Dt → Prop) (Ex : Exn → Prop) (R : VK), St K en w ρ σ → m ρ Q Ex →
    (∀ (ds : List Dt) (a : Addr) (vs : List V) (w' : Wd mg.T), Grow w w' → Fr w.H a → w'.G a = none → ¬ w'.C a → w'.H a = some (.lst vs) → RpA w'.G ds vs → Q ds → R (.ref a) w'.H) →
    (∀ (x : Exn) (u : Value) (o : Option Addr) (w' : Wd mg.T), Grow w w' → Ex x → ExR mg x u o → E u o w'.H) → t σ w.H R

/-- an operation of two values -/
abbrev S2 (K : PySem.W.Frag) (r : R2) (f : Dv → Dv → (Dv → Prop) → Prop) : Prop :=
  ∀ {T : List (PySem.Addr × PySem.Str)} (w : Wd T) (x y : Dv) (v u : V) (Q : Dv → Prop) (R : VK), RS K w v x → RS K w u y → f x y Q →
    (∀ (z : Dv) (v : V) (w' : Wd T), Grow w w' → RS K w' v z → Q z → R v w'.H) → r v u w.H R
abbrev S1 (K : PySem.W.Frag) (r : V → Hp → VK → Prop) (f : Dv → (Dv → Prop) → Prop) : Prop :=
  ∀ {T : List (PySem.Addr × PySem.Str)} (w : Wd T) (x : Dv) (v : V) (Q : Dv → Prop) (R : VK), RS K w v x → f x Q →
    (∀ (z : Dv) (v : V) (w' : Wd T), Grow w w' → RS K w' v z → Q z → R v w'.H) → r v w.H R
/-- a call of a builtin by values -/
abbrev SC (K : PySem.W.Frag) (r : List V → Hp → VK → Prop) (f : List Dv → (Dv → Prop) → Prop) : Prop :=
  ∀ {T : List (PySem.Addr × PySem.Str)} (w : Wd T) (xs : List Dv) (vs : List V) (Q : Dv → Prop) (R : VK), RSs K w vs xs → f xs Q →
    (∀ (z : Dv) (v : V) (w' : Wd T), Grow w w' → RS K w' v z → Q z → R v w'.H) → r vs w.H R

section
variable {K : PySem.W.Frag} {mg : Mg} {E : XK} {ta tb tc : TE} {ma mb mc : Env → M Dv} {tt : TT} {mt : Env → M Bool}
def mVar (i : Nat) : Env → M Dv := fun ρ Q _ => match ρ[i]? with
  | some (some x) => Q x
  | _ => False
theorem se_var (i : Nat) : SE K mg E (tVar i) (mVar i) := fun en w ρ σ Q Ex R s h hq _ => by
  unfold mVar at h
  split at h
  · rename_i x e
    obtain ⟨v, h1, h2⟩ := s.rs i x e
    exact ⟨v, h1, hq x v w (.refl w) h2 h⟩
  · exact h.elim
def mC (p : Dt) : Env → M Dv := fun _ Q _ => Q (.d p)
theorem se_int {i : Int} : SE K mg E (tC (.int i)) (mC (.int i)) := fun en w ρ σ Q Ex R s h hq _ => hq _ _ w (.refl w) (by simp [RS, Rp]) h
theorem se_bl {i : Bool} : SE K mg E (tC (.bl i)) (mC (.bool i)) := fun en w ρ σ Q Ex R s h hq _ => hq _ _ w (.refl w) (by simp [RS, Rp]) h
theorem se_str {i : Str} : SE K mg E (tC (.str i)) (mC (.str i)) := fun en w ρ σ Q Ex R s h hq _ => hq _ _ w (.refl w) (by simp [RS, Rp]) h
theorem se_non : SE K mg E (tC .non) (mC .none) := fun en w ρ σ Q Ex R s h hq _ => hq _ _ w (.refl w) (by simp [RS, Rp]) h
def mBin (f : Dv → Dv → (Dv → Prop) → Prop) (ma mb : Env → M Dv) : Env → M Dv := fun ρ Q Ex => ma ρ (fun x => mb ρ (fun y => f x y Q) Ex) Ex
theorem se_op {r : R2} {f : Dv → Dv → (Dv → Prop) → Prop} (hr : S2 K r f) (ha : SE K mg E ta ma) (hb : SE K mg E tb mb) : SE K mg E (tOp r ta tb) (mBin f ma mb) := fun en w ρ σ Q Ex R s h hq he =>
  ha en w ρ σ _ Ex _ s h (fun x v w1 g1 r1 h1 => hb en w1 ρ σ _ Ex _ (s.grow g1) h1 (fun y u w2 g2 r2 h2 =>
    hr w2 x y v u Q R (r1.grow g2) r2 h2 fun z v' w3 g3 r3 q => hq z v' w3 ((g1.trans g2).trans g3) r3 q) (fun x u o w' g => he x u o w' (g1.trans g))) he
def mUn (f : Dv → (Dv → Prop) → Prop) (ma : Env → M Dv) : Env → M Dv := fun ρ Q Ex => ma ρ (fun x => f x Q) Ex
theorem se_un {r : V → Hp → VK → Prop} {f : Dv → (Dv → Prop) → Prop} (hr : S1 K r f) (ha : SE K mg E ta ma) : SE K mg E (tUn r ta) (mUn f ma) := fun en w ρ σ Q Ex R s h hq he =>
  ha en w ρ σ _ Ex _ s h (fun x v w1 g1 r1 h1 => hr w1 x v Q R r1 h1 fun z v' w3 g3 r3 q => hq z v' w3 (g1.trans g3) r3 q) he
/-- a chain of two comparisons -/
def mChain (f f' : Dv → Dv → (Dv → Prop) → Prop) (ma mb mc : Env → M Dv) : Env → M Dv := fun ρ Q Ex => ma ρ (fun x => mb ρ (fun y => f x y fun z => match z with
  | .d (.bool k) => if k = true then mc ρ (fun u => f' y u Q) Ex else Q (.d (.bool false))
  | _ => False) Ex) Ex
theorem se_chain {r r' : R2} {f f' : Dv → Dv → (Dv → Prop) → Prop} (hr : S2 K r f) (hr' : S2 K r' f') (ha : SE K mg E ta ma) (hb : SE K mg E tb mb) (hc : SE K mg E tc mc) : SE K mg E (tChain r r' ta tb tc) (mChain f f' ma mb mc) := fun en w ρ σ Q Ex R s h hq he =>
  ha en w ρ σ _ Ex _ s h (fun x v w1 g1 r1 h1 => hb en w1 ρ σ _ Ex _ (s.grow g1) h1 (fun y u w2 g2 r2 h2 =>
    hr w2 x y v u _ _ (r1.grow g2) r2 h2 fun z v' w3 g3 r3 q => by
      have g : Grow w w3 := (g1.trans g2).trans g3
      split at q
      · rename_i k
        simp only [RS, Rp] at r3
        subst r3
        refine ⟨k, rfl, ?_⟩
        split at q
        · rename_i hk
          rw [if_pos hk]
          exact hc en w3 ρ σ _ Ex _ (s.grow g) q (fun x' v'' w4 g4 r4 h4 => hr' w4 y x' u v'' Q R ((r2.grow g3).grow g4) r4 h4 fun z v' w5 g5 r5 q5 => hq z v' w5 ((g.trans g4).trans g5) r5 q5) (fun x u o w' g' => he x u o w' (g.trans g'))
        · rename_i hk
          rw [if_neg hk]
          exact hq _ _ w3 g (by simp [RS, Rp]) q
      · exact q.elim) (fun x u o w' g => he x u o w' (g1.trans g))) he
/-- a value as a test -/
def mB (ma : Env → M Dv) : Env → M Bool := fun ρ Q Ex => ma ρ (fun x => match x with
  | .d (.bool k) => Q k
  | _ => False) Ex
theorem sb_B (ha : SE K mg E ta ma) : SB K mg E (tB ta) (mB ma) := fun en w ρ σ Q Ex R s h hq he =>
  ha en w ρ σ _ Ex _ s h (fun x v w1 g1 r1 h1 => by
    split at h1
    · rename_i k
      simp only [RS, Rp] at r1
      exact ⟨k, r1, hq k w1 g1 h1⟩
    · exact h1.elim) he
theorem sb_test (ha : SE K mg E ta ma) : SB K mg E (tTest ta) (mB ma) := sb_B ha
def mAnd (mt mu : Env → M Bool) : Env → M Bool := fun ρ Q Ex => mt ρ (fun c => if c = true then mu ρ Q Ex else Q false) Ex
def mOr (mt mu : Env → M Bool) : Env → M Bool := fun ρ Q Ex => mt ρ (fun c => if c = true then Q true else mu ρ Q Ex) Ex
def mNot (mt : Env → M Bool) : Env → M Bool := fun ρ Q Ex => mt ρ (fun c => Q (!c)) Ex
theorem sb_and {tu : TT} {mu : Env → M Bool} (ht : SB K mg E tt mt) (hu : SB K mg E tu mu) : SB K mg E (tAnd tt tu) (mAnd mt mu) := fun en w ρ σ Q Ex R s h hq he =>
  ht en w ρ σ _ Ex _ s h (fun c w1 g1 h1 => by
    cases c with
    | true =>
      rw [if_pos rfl] at h1 ⊢
      exact hu en w1 ρ σ _ Ex _ (s.grow g1) h1 (fun x w2 g2 q => hq x w2 (g1.trans g2) q) (fun x u o w' g => he x u o w' (g1.trans g))
    | false =>
      rw [if_neg Bool.false_ne_true] at h1 ⊢
      exact hq _ w1 g1 h1) he
theorem sb_or {tu : TT} {mu : Env → M Bool} (ht : SB K mg E tt mt) (hu : SB K mg E tu mu) : SB K mg E (tOr tt tu) (mOr mt mu) := fun en w ρ σ Q Ex R s h hq he =>
  ht en w ρ σ _ Ex _ s h (fun c w1 g1 h1 => by
    cases c with
    | false =>
      rw [if_neg Bool.false_ne_true] at h1 ⊢
      exact hu en w1 ρ σ _ Ex _ (s.grow g1) h1 (fun x w2 g2 q => hq x w2 (g1.trans g2) q) (fun x u o w' g => he x u o w' (g1.trans g))
    | true =>
      rw [if_pos rfl] at h1 ⊢
      exact hq _ w1 g1 h1) he
theorem sb_not (ht : SB K mg E tt mt) : SB K mg E (tNot tt) (mNot mt) := fun en w ρ σ Q Ex R s h hq he =>
  ht en w ρ σ _ Ex _ s h (fun c w1 g1 h1 => hq _ w1 g1 h1) he
/-- and, or, not of bools as values -/
def mAndV (ma mb : Env → M Dv) : Env → M Dv := fun ρ Q Ex => ma ρ (fun x => match x with
  | .d (.bool c) => if c = true then mb ρ Q Ex else Q (.d (.bool false))
  | _ => False) Ex
def mOrV (ma mb : Env → M Dv) : Env → M Dv := fun ρ Q Ex => ma ρ (fun x => match x with
  | .d (.bool c) => if c = true then Q (.d (.bool true)) else mb ρ Q Ex
  | _ => False) Ex
def mNotV (ma : Env → M Dv) : Env → M Dv := fun ρ Q Ex => ma ρ (fun x => match x with
  | .d (.bool c) => Q (.d (.bool (!c)))
  | _ => False) Ex
theorem se_andV (ha : SE K mg E ta ma) (hb : SE K mg E tb mb) : SE K mg E (tAndV ta tb) (mAndV ma mb) := fun en w ρ σ Q Ex R s h hq he =>
  ha en w ρ σ _ Ex _ s h (fun x v w1 g1 r1 h1 => by
    split at h1
    · rename_i c
      simp only [RS, Rp] at r1
      refine ⟨c, r1, ?_⟩
      split at h1
      · rename_i hk
        rw [if_pos hk]
        exact hb en w1 ρ σ _ Ex _ (s.grow g1) h1 (fun x v w2 g2 r2 q => hq x v w2 (g1.trans g2) r2 q) (fun x u o w' g => he x u o w' (g1.trans g))
      · rename_i hk
        rw [if_neg hk]
        exact hq _ _ w1 g1 (by simp [RS, Rp]) h1
    · exact h1.elim) he
theorem se_orV (ha : SE K mg E ta ma) (hb : SE K mg E tb mb) : SE K mg E (tOrV ta tb) (mOrV ma mb) := fun en w ρ σ Q Ex R s h hq he =>
  ha en w ρ σ _ Ex _ s h (fun x v w1 g1 r1 h1 => by
    split at h1
    · rename_i c
      simp only [RS, Rp] at r1
      refine ⟨c, r1, ?_⟩
      split at h1
      · rename_i hk
        rw [if_pos hk]
        exact hq _ _ w1 g1 (by simp [RS, Rp]) h1
      · rename_i hk
        rw [if_neg hk]
        exact hb en w1 ρ σ _ Ex _ (s.grow g1) h1 (fun x v w2 g2 r2 q => hq x v w2 (g1.trans g2) r2 q) (fun x u o w' g => he x u o w' (g1.trans g))
    · exact h1.elim) he
theorem se_notV (ha : SE K mg E ta ma) : SE K mg E (tNotV ta) (mNotV ma) := fun en w ρ σ Q Ex R s h hq he =>
  ha en w ρ σ _ Ex _ s h (fun x v w1 g1 r1 h1 => by
    split at h1
    · rename_i c
      simp only [RS, Rp] at r1
      exact ⟨c, r1, hq _ _ w1 g1 (by simp [RS, Rp]) h1⟩
    · exact h1.elim) he
def mIf (mt : Env → M Bool) (ma mb : Env → M Dv) : Env → M Dv := fun ρ Q Ex => mt ρ (fun c => if c = true then ma ρ Q Ex else mb ρ Q Ex) Ex
theorem se_if (ht : SB K mg E tt mt) (ha : SE K mg E ta ma) (hb : SE K mg E tb mb) : SE K mg E (tIf tt ta tb) (mIf mt ma mb) := fun en w ρ σ Q Ex R s h hq he =>
  ht en w ρ σ _ Ex _ s h (fun c w1 g1 h1 => by
    cases c with
    | true =>
      rw [if_pos rfl] at h1 ⊢
      exact ha en w1 ρ σ _ Ex _ (s.grow g1) h1 (fun x v w2 g2 r2 q => hq x v w2 (g1.trans g2) r2 q) (fun x u o w' g => he x u o w' (g1.trans g))
    | false =>
      rw [if_neg Bool.false_ne_true] at h1 ⊢
      exact hb en w1 ρ σ _ Ex _ (s.grow g1) h1 (fun x v w2 g2 r2 q => hq x v w2 (g1.trans g2) r2 q) (fun x u o w' g => he x u o w' (g1.trans g))) he
/-- arguments -/
def mNil : Env → M (List Dv) := fun _ Q _ => Q []
def mCons (ma : Env → M Dv) (mr : Env → M (List Dv)) : Env → M (List Dv) := fun ρ Q Ex => ma ρ (fun x => mr ρ (fun xs => Q (x :: xs)) Ex) Ex
theorem sa_nil : SA K mg E 0 tNil mNil := fun en w ρ σ Q Ex R s h hq he => hq [] [] w (.refl w) trivial rfl h
theorem sa_cons {n : Nat} {tr : TA} {mr : Env → M (List Dv)} (ha : SE K mg E ta ma) (hr : SA K mg E n tr mr) : SA K mg E (n + 1) (tCons ta tr) (mCons ma mr) := fun en w ρ σ Q Ex R s h hq he =>
  ha en w ρ σ _ Ex _ s h (fun x v w1 g1 r1 h1 => hr en w1 ρ σ _ Ex _ (s.grow g1) h1 (fun xs vs w2 g2 r2 hl h2 => hq (x :: xs) (v :: vs) w2 (g1.trans g2) ⟨r1.grow g2, r2⟩ (by simp [hl]) h2) (fun x u o w' g => he x u o w' (g1.trans g))) he
/-- the plain data of values (an own list read) -/
def Dv.dt? : Dv → Option Dt
  | .d p => some p
  | _ => none
def dts : List Dv → Option (List Dt)
  | [] => some []
  | .d p :: xs => (dts xs).map (p :: ·)
  | _ :: _ => none
theorem dts_rs {w : Wd T} : ∀ {xs : List Dv} {vs : List V} {ps : List Dt}, RSs K w vs xs → dts xs = some ps → RpA w.G ps vs
  | [], [], ps, _, h => by simp [dts] at h; subst h; exact .nil
  | .d p :: xs, v :: vs, ps, r, h => by
    simp only [dts, Option.map_eq_some_iff] at h
    obtain ⟨ps', h1, rfl⟩ := h
    exact .cons r.1 (dts_rs r.2 h1)
  | [], _ :: _, _, r, _ => r.elim
  | _ :: _, [], _, r, _ => r.elim
  | .own _ :: _, _ :: _, _, _, h => by simp [dts] at h
  | .coil :: _, _ :: _, _, _, h => by simp [dts] at h
  | .dic _ :: _, _ :: _, _, _, h => by simp [dts] at h
  | .odic _ :: _, _ :: _, _, _, h => by simp [dts] at h
  | .scr _ :: _, _ :: _, _, _, h => by simp [dts] at h
  | .fn _ :: _, _ :: _, _, _, h => by simp [dts] at h
  | .ty _ :: _, _ :: _, _, _, h => by simp [dts] at h
/-- displays -/
def mTup (n : Nat) (ma : Env → M (List Dv)) : Env → M Dv := fun ρ Q Ex => ma ρ (fun xs => match dts xs with
  | some ps => Q (.d (.tuple ps))
  | none => False) Ex
theorem se_tup {n : Nat} {t : TA} {ma : Env → M (List Dv)} (ha : SA K mg E n t ma) (hn : n ≤ 100000 := by decide) : SE K mg E (tTup t) (mTup n ma) := fun en w ρ σ Q Ex R s h hq he =>
  ha en w ρ σ _ Ex _ s h (fun xs vs w1 g1 r1 hl h1 => by
    split at h1
    · rename_i ps e
      have rp := dts_rs r1 e
      refine ⟨by rw [r1.length, hl]; exact Nat.le_trans hn (by decide), fun p hp => ?_⟩
      refine hq _ _ (w1.add p (.tup vs) hp (fun _ e => nomatch e)) (g1.trans (Grow.add hp _)) ?_ h1
      simp only [RS, Rp]
      exact ⟨p, vs, rfl, upd_same, RpA.mono (Grow.add hp _).gg _ _ rp⟩
    · exact h1.elim) he
def mLst (ma : Env → M (List Dv)) : Env → M (List Dt) := fun ρ Q Ex => ma ρ (fun xs => match dts xs with
  | some ps => Q ps
  | none => False) Ex
theorem sf_lst {n : Nat} {t : TA} {ma : Env → M (List Dv)} (ha : SA K mg E n t ma) (hn : n ≤ 100000 := by decide) : SF K mg E (tLst t) (mLst ma) := fun en w ρ σ Q Ex R s h hq he =>
  ha en w ρ σ _ Ex _ s h (fun xs vs w1 g1 r1 hl h1 => by
    split at h1
    · rename_i ps e
      have rp := dts_rs r1 e
      refine ⟨by rw [r1.length, hl]; exact Nat.le_trans hn (by decide), fun p hp => ?_⟩
      refine hq ps p vs (w1.lay p (.lst vs) hp) (g1.trans (Grow.lay hp)) (g1.dom p (.of hp)) (Wd.g_none (w := w1) hp) (fun hc => (w1.cat p hc).ne hp rfl) upd_same rp h1
    · exact h1.elim) he
/-- a new list as a value -/
def mF (mf : Env → M (List Dt)) : Env → M Dv := fun ρ Q Ex => mf ρ (fun ds => Q (.d (.list ds))) Ex
theorem Grow.fix {w w' : Wd T} {p : Addr} {o : HO} (g : Grow w w') (h0 : Fr w.H p) (hg : w'.G p = none) (hp : w'.H p = some o) (hc : ¬ w'.C p) (ho : ∀ ps, o ≠ .tbl ps) : Grow w (w'.fix p o hp hc ho) where
  gg := g.gg.trans (same_upd hg)
  new := fun a u h h' => by
    by_cases e : a = p
    · subst e; exact h0
    · rw [show (w'.fix p o hp hc ho).G a = w'.G a from upd_ne e] at h'; exact g.new a u h h'
  keep := g.keep
  dom := g.dom
  cc := g.cc
  cn := g.cn
theorem se_f {t : TE} {mf : Env → M (List Dt)} (hf : SF K mg E t mf) : SE K mg E t (mF mf) := fun en w ρ σ Q Ex R s h hq he =>
  hf en w ρ σ _ Ex _ s h (fun ds a vs w1 g1 h0 hg hc hH hr q => hq _ _ (w1.fix a (.lst vs) hH hc (fun _ e => nomatch e)) (g1.fix h0 hg hH hc _) (by
    simp only [RS, Rp]
    exact ⟨a, vs, rfl, upd_same, RpA.mono (same_upd hg) _ _ hr⟩) q) he
/-- a call of a builtin -/
def mCB (f : List Dv → (Dv → Prop) → Prop) (ma : Env → M (List Dv)) : Env → M Dv := fun ρ Q Ex => ma ρ (fun xs => f xs Q) Ex
theorem se_cb {n : Nat} {r : List V → Hp → VK → Prop} {f : List Dv → (Dv → Prop) → Prop} {t : TA} {ma : Env → M (List Dv)} (hr : SC K r f) (ha : SA K mg E n t ma) : SE K mg E (tCB r t) (mCB f ma) := fun en w ρ σ Q Ex R s h hq he =>
  ha en w ρ σ _ Ex _ s h (fun xs vs w1 g1 r1 hl h1 => hr w1 xs vs Q R r1 h1 fun z v w2 g2 r2 q => hq z v w2 (g1.trans g2) r2 q) he
end
end Ks
end

section
set_option Elab.async false
set_option linter.all false
set_option maxRecDepth 100000
set_option maxHeartbeats 4000000
/-! # Operators, comparisons, builtins on plain data -/
namespace Ks
variable {T : List (PySem.Addr × PySem.Str)}
open PySem PySem.Spec PyProof.Rows L2
/-! ### reading values -/
def Dv.ls? : Dv → Option (List Dt)
  | .d (.list ds) => some ds
  | .own ds => some ds
  | _ => none
def Dv.tp? : Dv → Option (List Dt)
  | .d (.tuple ds) => some ds
  | _ => none
theorem ls_rs {K : PySem.W.Frag} {w : Wd T} {v : V} : ∀ {x : Dv} {ds : List Dt}, RS K w v x → x.ls? = some ds → ∃ a vs, v = .ref a ∧ w.H a = some (.lst vs) ∧ RpA w.G ds vs
  | .d (.list es), ds, r, h => by
    simp only [Dv.ls?, Option.some.injEq] at h; subst h
    simp only [RS, Rp] at r
    obtain ⟨a, vs, rfl, h1, h2⟩ := r
    exact ⟨a, vs, rfl, w.gh _ _ h1, h2⟩
  | .own es, ds, r, h => by
    simp only [Dv.ls?, Option.some.injEq] at h; subst h
    obtain ⟨a, vs, rfl, _, _, h1, h2⟩ := r
    exact ⟨a, vs, rfl, h1, h2⟩
  | .d .none, _, _, h => by simp [Dv.ls?] at h
  | .d (.bool _), _, _, h => by simp [Dv.ls?] at h
  | .d (.int _), _, _, h => by simp [Dv.ls?] at h
  | .d (.str _), _, _, h => by simp [Dv.ls?] at h
  | .d (.tuple _), _, _, h => by simp [Dv.ls?] at h
  | .d (.dict _), _, _, h => by simp [Dv.ls?] at h
  | .coil, _, _, h => by simp [Dv.ls?] at h
  | .dic _, _, _, h => by simp [Dv.ls?] at h
  | .odic _, _, _, h => by simp [Dv.ls?] at h
  | .scr _, _, _, h => by simp [Dv.ls?] at h
  | .fn _, _, _, h => by simp [Dv.ls?] at h
  | .ty _, _, _, h => by simp [Dv.ls?] at h
theorem tp_rs {K : PySem.W.Frag} {w : Wd T} {v : V} : ∀ {x : Dv} {ds : List Dt}, RS K w v x → x.tp? = some ds → ∃ a vs, v = .ref a ∧ w.G a = some (.tup vs) ∧ RpA w.G ds vs
  | .d (.tuple es), ds, r, h => by
    simp only [Dv.tp?, Option.some.injEq] at h; subst h
    simp only [RS, Rp] at r
    obtain ⟨a, vs, rfl, h1, h2⟩ := r
    exact ⟨a, vs, rfl, h1, h2⟩
  | .own _, _, _, h => by simp [Dv.tp?] at h
  | .d .none, _, _, h => by simp [Dv.tp?] at h
  | .d (.bool _), _, _, h => by simp [Dv.tp?] at h
  | .d (.int _), _, _, h => by simp [Dv.tp?] at h
  | .d (.str _), _, _, h => by simp [Dv.tp?] at h
  | .d (.list _), _, _, h => by simp [Dv.tp?] at h
  | .d (.dict _), _, _, h => by simp [Dv.tp?] at h
  | .coil, _, _, h => by simp [Dv.tp?] at h
  | .dic _, _, _, h => by simp [Dv.tp?] at h
  | .odic _, _, _, h => by simp [Dv.tp?] at h
  | .scr _, _, _, h => by simp [Dv.tp?] at h
  | .fn _, _, _, h => by simp [Dv.tp?] at h
  | .ty _, _, _, h => by simp [Dv.tp?] at h
theorem lst_nt {vs : List V} : ∀ ps, HO.lst vs ≠ .tbl ps := fun _ e => nomatch e
theorem tup_nt {vs : List V} : ∀ ps, HO.tup vs ≠ .tbl ps := fun _ e => nomatch e
/-- a new list, a new tuple, as a value -/
theorem new_lst {K : PySem.W.Frag} {w : Wd T} {p : Addr} {vs : List V} {ds : List Dt} (hp : w.H p = none) (h : RpA w.G ds vs) : RS K (w.add p (.lst vs) hp lst_nt) (.ref p) (.d (.list ds)) := by
  simp only [RS, Rp]
  exact ⟨p, vs, rfl, upd_same, RpA.mono (Grow.add hp lst_nt).gg _ _ h⟩
theorem new_tup {K : PySem.W.Frag} {w : Wd T} {p : Addr} {vs : List V} {ds : List Dt} (hp : w.H p = none) (h : RpA w.G ds vs) : RS K (w.add p (.tup vs) hp tup_nt) (.ref p) (.d (.tuple ds)) := by
  simp only [RS, Rp]
  exact ⟨p, vs, rfl, upd_same, RpA.mono (Grow.add hp tup_nt).gg _ _ h⟩
theorem RpA.nil_iff {G : Hp} {ds : List Dt} {vs : List V} (h : RpA G ds vs) : vs = [] ↔ ds = [] := by
  have := h.length
  constructor
  · intro e; subst e; simpa using this.symm
  · intro e; subst e; simpa using this
section
variable {K : PySem.W.Frag}
/-! ### arithmetic -/
def opI (C : Int → Int → Prop) (g : Int → Int → Dt) : Dv → Dv → (Dv → Prop) → Prop
  | .d (.int i), .d (.int j), Q => C i j ∧ Q (.d (g i j))
  | _, _, _ => False
theorem s2_I {C C' : Int → Int → Prop} {g : Int → Int → Int} (hc : ∀ i j, C' i j → C i j) : S2 K (rI C fun i j => .int (g i j)) (opI C' fun i j => .int (g i j)) := fun w x y v u Q R rx ry h hq => by
  unfold opI at h
  split at h
  · rename_i i j
    simp only [RS, Rp] at rx ry
    exact ⟨i, j, rx, ry, hc _ _ h.1, hq _ _ w (.refl w) (by simp [RS, Rp]) h.2⟩
  · exact h.elim
def opI0 (g : Int → Int → Dt) : Dv → Dv → (Dv → Prop) → Prop
  | .d (.int i), .d (.int j), Q => Q (.d (g i j))
  | _, _, _ => False
theorem s2_I0 {g : Int → Int → Int} : S2 K (rI0 fun i j => .int (g i j)) (opI0 fun i j => .int (g i j)) := fun w x y v u Q R rx ry h hq => by
  unfold opI0 at h
  split at h
  · rename_i i j
    simp only [RS, Rp] at rx ry
    exact ⟨i, j, rx, ry, hq _ _ w (.refl w) (by simp [RS, Rp]) h⟩
  · exact h.elim
theorem s2_B0 {g : Int → Int → Bool} : S2 K (rI0 fun i j => .bl (g i j)) (opI0 fun i j => .bool (g i j)) := fun w x y v u Q R rx ry h hq => by
  unfold opI0 at h
  split at h
  · rename_i i j
    simp only [RS, Rp] at rx ry
    exact ⟨i, j, rx, ry, hq _ _ w (.refl w) (by simp [RS, Rp]) h⟩
  · exact h.elim
abbrev fSub := opI0 fun i j => .int (i - j)
abbrev fMul := opI CMul fun i j => .int (i * j)
abbrev fMulW := opI CMulW fun i j => .int (i * j)
abbrev fDiv := opI CDivW fun i j => .int (i / j)
abbrev fMod := opI (fun _ j => 0 < j) fun i j => .int (i % j)
abbrev fPow := opI CPow fun i j => .int (i ^ j.toNat)
abbrev fLt := opI0 fun i j => .bool (decide (i < j))
abbrev fLe := opI0 fun i j => .bool (decide (i ≤ j))
abbrev fGt := opI0 fun i j => .bool (decide (j < i))
abbrev fGe := opI0 fun i j => .bool (decide (j ≤ i))
/-- + of ints, texts, lists, tuples -/
def fAdd : Dv → Dv → (Dv → Prop) → Prop
  | .d (.int i), .d (.int j), Q => Q (.d (.int (i + j)))
  | .d (.str x), .d (.str y), Q => x.length + y.length ≤ sizeLine ∧ Q (.d (.str (x ++ y)))
  | .d (.tuple xs), .d (.tuple ys), Q => xs.length + ys.length ≤ sizeLine ∧ Q (.d (.tuple (xs ++ ys)))
  | x, y, Q => match x.ls?, y.ls? with
    | some xs, some ys => xs.length + ys.length ≤ sizeLine ∧ Q (.d (.list (xs ++ ys)))
    | _, _ => False
def rStr2 : R2 := fun x y H Q => ∃ i j, x = .str i ∧ y = .str j ∧ i.length + j.length ≤ sizeLine ∧ Q (.str (i ++ j)) H
def rAddA (K : PySem.W.Frag) : R2 := fun x y H Q => ((rI0 (fun i j => .int (i + j)) x y H Q ∨ rStr2 x y H Q) ∨ rCatA K x y H Q) ∨ rCat x y H Q
theorem op_addA {X : Cx} : OpR X (binaryOp .Add) (rAddA X.K) := (((op_add.or op_add_str).or op_catA).or op_cat)
theorem s2_add : S2 K (rAddA K) fAdd := fun w x y v u Q R rx ry h hq => by
  unfold fAdd at h
  split at h
  · rename_i i j
    simp only [RS, Rp] at rx ry
    exact .inl (.inl (.inl ⟨i, j, rx, ry, hq _ _ w (.refl w) (by simp [RS, Rp]) h⟩))
  · rename_i i j
    simp only [RS, Rp] at rx ry
    exact .inl (.inl (.inr ⟨i, j, rx, ry, h.1, hq _ _ w (.refl w) (by simp [RS, Rp]) h.2⟩))
  · rename_i xs ys
    simp only [RS, Rp] at rx ry
    obtain ⟨a, vs, rfl, h1, h2⟩ := rx
    obtain ⟨b, us, rfl, h3, h4⟩ := ry
    refine .inl (.inr ⟨a, b, vs, us, rfl, rfl, SqT.of (w.gh _ _ h1), SqT.of (w.gh _ _ h3), ?_, fun e => ?_, fun e1 e => ?_, fun e1 e2 p hp => ?_⟩)
    · rw [h2.length, h4.length]; exact h.1
    · have e' := h2.nil_iff.mp e
      subst e'
      exact hq _ _ w (.refl w) (by simp only [RS, Rp]; exact ⟨b, us, rfl, h3, h4⟩) h.2
    · have e' := h4.nil_iff.mp e
      subst e'
      refine hq _ _ w (.refl w) ?_ h.2
      simp only [RS, Rp, List.append_nil]
      exact ⟨a, vs, rfl, h1, h2⟩
    · exact hq _ _ _ (Grow.add hp tup_nt) (new_tup hp (h2.append h4)) h.2
  · split at h
    · rename_i xs ys e1 e2
      obtain ⟨a, vs, rfl, h1, h2⟩ := ls_rs rx e1
      obtain ⟨b, us, rfl, h3, h4⟩ := ls_rs ry e2
      refine .inr ⟨a, b, vs, us, rfl, rfl, h1, h3, ?_, fun p hp => ?_⟩
      · rw [h2.length, h4.length]; exact h.1
      · exact hq _ _ _ (Grow.add hp lst_nt) (new_lst hp (h2.append h4)) h.2
    · exact h.elim
/-! ### == and != of data, in -/
def Dv.pl : Dv → Dv
  | .own ds => .d (.list ds)
  | x => x
def fEq : Dv → Dv → (Dv → Prop) → Prop := fun x y Q => match x.pl, y.pl with
  | .d p, .d q => SeqAt.shaped p = true ∧ SeqAt.shaped q = true ∧ Q (.d (.bool (PyData.eqv p q)))
  | _, _ => False
def fNe : Dv → Dv → (Dv → Prop) → Prop := fun x y Q => match x.pl, y.pl with
  | .d p, .d q => SeqAt.shaped p = true ∧ SeqAt.shaped q = true ∧ Q (.d (.bool (!PyData.eqv p q)))
  | _, _ => False
theorem rs_dp {w : Wd T} {v : V} {x : Dv} {p : Dt} (r : RS K w v x) (h : x.pl = Dv.d p) : Dp K w.H v p := by
  unfold Dv.pl at h
  split at h
  · rename_i ds
    injection h with h; subst h
    obtain ⟨a, vs, rfl, _, _, h1, h2⟩ := r
    exact .lst (SqL.of h1) (RpA.dp w.gh _ _ h2)
  · subst h
    exact Rp.dp w.gh _ _ r
theorem s2_eq : S2 K (rEqD K) fEq := fun w x y v u Q R rx ry h hq => by
  unfold fEq at h
  split at h
  · rename_i p q e1 e2
    exact ⟨p, q, rs_dp rx e1, rs_dp ry e2, h.1, h.2.1, hq _ _ w (.refl w) (by simp [RS, Rp]) h.2.2⟩
  · exact h.elim
theorem s2_ne : S2 K (rNeD K) fNe := fun w x y v u Q R rx ry h hq => by
  unfold fNe at h
  split at h
  · rename_i p q e1 e2
    exact ⟨p, q, rs_dp rx e1, rs_dp ry e2, h.1, h.2.1, hq _ _ w (.refl w) (by simp [RS, Rp]) h.2.2⟩
  · exact h.elim
/-- x in a list of data -/
def fInL (neg : Bool) : Dv → Dv → (Dv → Prop) → Prop := fun x y Q => match x, y.ls? with
  | .d p, some ds => SeqAt.shaped p = true ∧ SeqAt.shaped (.list ds) = true ∧ Q (.d (.bool (if neg then !ds.any fun z => PyData.eqv z p else ds.any fun z => PyData.eqv z p)))
  | _, _ => False
theorem ls_dp {w : Wd T} {v : V} {x : Dv} {ds : List Dt} (r : RS K w v x) (h : x.ls? = some ds) : Dp K w.H v (.list ds) := by
  obtain ⟨a, vs, rfl, h1, h2⟩ := ls_rs r h
  exact .lst (SqL.of h1) (RpA.dp w.gh _ _ h2)
theorem s2_inL : S2 K (rInD K) (fInL false) := fun w x y v u Q R rx ry h hq => by
  unfold fInL at h
  split at h
  · rename_i p ds e
    exact ⟨p, ds, Rp.dp w.gh _ _ rx, ls_dp ry e, h.1, h.2.1, hq _ _ w (.refl w) (by simp [RS, Rp]) h.2.2⟩
  · exact h.elim
theorem s2_ninL : S2 K (rNotInD K) (fInL true) := fun w x y v u Q R rx ry h hq => by
  unfold fInL at h
  split at h
  · rename_i p ds e
    exact ⟨p, ds, Rp.dp w.gh _ _ rx, ls_dp ry e, h.1, h.2.1, hq _ _ w (.refl w) (by simp [RS, Rp]) h.2.2⟩
  · exact h.elim
/-- flat values (None, bools, ints, texts) in a list or tuple of such -/
def flatD : Dt → Bool
  | .none => true
  | .bool _ => true
  | .int _ => true
  | .str _ => true
  | _ => false
def eqF : Dt → Dt → Bool
  | .none, .none => true
  | .bool a, .bool b => a == b
  | .bool a, .int b => (if a then 1 else 0) == b
  | .int a, .bool b => a == (if b then 1 else 0)
  | .int a, .int b => a == b
  | .str a, .str b => a == b
  | _, _ => false
theorem flat_rp {G : Hp} : ∀ {p : Dt} {v : V}, Rp G p v → flatD p = true → flatV v = true
  | .none, _, r, _ => by simp only [Rp] at r; subst r; rfl
  | .bool _, _, r, _ => by simp only [Rp] at r; subst r; rfl
  | .int _, _, r, _ => by simp only [Rp] at r; subst r; rfl
  | .str _, _, r, _ => by simp only [Rp] at r; subst r; rfl
  | .list _, _, _, h => by simp [flatD] at h
  | .tuple _, _, _, h => by simp [flatD] at h
  | .dict _, _, _, h => by simp [flatD] at h
theorem eq_rp {G : Hp} {p q : Dt} {v u : V} (r : Rp G p v) (r' : Rp G q u) (h : flatD p = true) (h' : flatD q = true) : eqV v u = eqF p q := by
  cases p <;> simp [flatD] at h <;> cases q <;> simp [flatD] at h' <;> simp only [Rp] at r r' <;> subst r <;> subst r' <;> rfl
theorem flat_rpA {G : Hp} : ∀ {ds : List Dt} {vs : List V}, RpA G ds vs → ds.all flatD = true → vs.all flatV = true
  | [], vs, h, _ => by simp only [RpA] at h; subst h; rfl
  | d :: ds, vs, h, f => by
    simp only [RpA] at h
    obtain ⟨v, r, rfl, h1, h2⟩ := h
    rw [List.all_cons, Bool.and_eq_true_iff] at f
    rw [List.all_cons, flat_rp h1 f.1, flat_rpA h2 f.2]; rfl
theorem inV_rp {G : Hp} {p : Dt} {v : V} (r : Rp G p v) (f : flatD p = true) : ∀ {ds : List Dt} {vs : List V}, RpA G ds vs → ds.all flatD = true → inV v vs = ds.any (fun z => eqF z p)
  | [], vs, h, _ => by simp only [RpA] at h; subst h; rfl
  | d :: ds, vs, h, g => by
    simp only [RpA] at h
    obtain ⟨u, us, rfl, h1, h2⟩ := h
    rw [List.all_cons, Bool.and_eq_true_iff] at g
    have ih := inV_rp r f h2 g.2
    unfold inV at ih ⊢
    rw [List.any_cons, List.any_cons, ih, eq_rp h1 r g.1 f]
def fIn (neg : Bool) : Dv → Dv → (Dv → Prop) → Prop := fun x y Q => match x, (match y.ls? with | some ds => some ds | none => y.tp?) with
  | .d p, some ds => flatD p = true ∧ ds.all flatD = true ∧ Q (.d (.bool (if neg then !ds.any (fun z => eqF z p) else ds.any (fun z => eqF z p))))
  | _, _ => False
theorem s2_in {neg : Bool} : S2 K (rIn K neg) (fIn neg) := fun w x y v u Q R rx ry h hq => by
  unfold fIn at h
  split at h
  · rename_i p ds e
    have key : ∃ a vs, u = .ref a ∧ (SqL K w.H a vs ∨ SqT K w.H a vs) ∧ RpA w.G ds vs := by
      split at e
      · rename_i es e2
        injection e with e; subst e
        obtain ⟨a, vs, rfl, h1, h2⟩ := ls_rs ry e2
        exact ⟨a, vs, rfl, .inl (SqL.of h1), h2⟩
      · obtain ⟨a, vs, rfl, h1, h2⟩ := tp_rs ry e
        exact ⟨a, vs, rfl, .inr (SqT.of (w.gh _ _ h1)), h2⟩
    obtain ⟨a, vs, rfl, h1, h2⟩ := key
    refine ⟨a, vs, rfl, h1, flat_rp rx h.1, flat_rpA h2 h.2.1, ?_⟩
    rw [inV_rp rx h.1 h2 h.2.1]
    exact hq (.d (.bool _)) _ w (.refl w) (by simp [RS, Rp]) h.2.2
  · exact h.elim
/-! ### is None -/
def isNonD : Dv → Bool
  | .d .none => true
  | _ => false
theorem isNon_rs {w : Wd T} {v : V} : ∀ {x : Dv}, RS K w v x → decide (v = .non) = isNonD x
  | .d .none, r => by simp only [RS, Rp] at r; subst r; rfl
  | .d (.bool _), r => by simp only [RS, Rp] at r; subst r; rfl
  | .d (.int _), r => by simp only [RS, Rp] at r; subst r; rfl
  | .d (.str _), r => by simp only [RS, Rp] at r; subst r; rfl
  | .d (.list _), r => by simp only [RS, Rp] at r; obtain ⟨a, vs, rfl, _⟩ := r; rfl
  | .d (.tuple _), r => by simp only [RS, Rp] at r; obtain ⟨a, vs, rfl, _⟩ := r; rfl
  | .d (.dict _), r => by simp [RS, Rp] at r
  | .own _, r => by obtain ⟨a, vs, rfl, _⟩ := r; rfl
  | .coil, r => by obtain ⟨a, rfl, _⟩ := r; rfl
  | .dic _, r => by obtain ⟨a, vs, rfl, _⟩ := r; rfl
  | .odic _, r => by obtain ⟨a, vs, rfl, _⟩ := r; rfl
  | .scr _, r => by obtain ⟨a, rfl, _⟩ := r; rfl
  | .fn f, r => by obtain rfl : v = .ref f := r; rfl
  | .ty n, r => by obtain rfl : v = .ty n := r; rfl
def fIs : Dv → Dv → (Dv → Prop) → Prop
  | x, .d .none, Q => Q (.d (.bool (isNonD x)))
  | _, _, _ => False
def fIsNot : Dv → Dv → (Dv → Prop) → Prop
  | x, .d .none, Q => Q (.d (.bool (!isNonD x)))
  | _, _, _ => False
theorem s2_is : S2 K (fun x y H Q => y = .non ∧ Q (.bl (decide (x = .non))) H) fIs := fun w x y v u Q R rx ry h hq => by
  unfold fIs at h
  split at h
  · simp only [RS, Rp] at ry
    refine ⟨ry, ?_⟩
    rw [isNon_rs rx]
    exact hq (.d (.bool _)) _ w (.refl w) (by simp [RS, Rp]) h
  · exact h.elim
theorem s2_isnot : S2 K (fun x y H Q => y = .non ∧ Q (.bl (!decide (x = .non))) H) fIsNot := fun w x y v u Q R rx ry h hq => by
  unfold fIsNot at h
  split at h
  · simp only [RS, Rp] at ry
    refine ⟨ry, ?_⟩
    rw [isNon_rs rx]
    exact hq (.d (.bool _)) _ w (.refl w) (by simp [RS, Rp]) h
  · exact h.elim
/-! ### subscripts -/
theorem atI_rp {G : Hp} {ds : List Dt} {vs : List V} {i : Int} {p : Dt} (r : RpA G ds vs) (h : atI ds i = some p) : ∃ v, atI vs i = some v ∧ Rp G p v := by
  unfold atI at h ⊢
  rw [r.length]
  cases e : ixN ds.length i with
  | none => rw [e] at h; cases h
  | some j =>
    rw [e] at h
    exact r.get h
/-- x[i] of a list, a tuple, a text -/
def fIx : Dv → Dv → (Dv → Prop) → Prop := fun x y Q => match y with
  | .d (.int i) => match (match x.ls? with | some ds => some ds | none => x.tp?) with
    | some ds => ∃ p, atI ds i = some p ∧ Q (.d p)
    | none => match x with
      | .d (.str z) => z.length ≤ sizeLine ∧ ∃ c, atI z.cps.toList i = some c ∧ Q (.d (.str ⟨#[c]⟩))
      | .scr ns => ∃ n, atI ns i = some n ∧ Q (.d (.int n))
      | .coil => (i = 0 ∧ ∀ a : Int, 0 ≤ a → Q (.d (.int a))) ∨ (i = 1 ∧ ∀ a : Int, 0 ≤ a → a ≤ 2147483587 → Q (.d (.int a)))
      | _ => False
  | _ => False
theorem s2_ix : S2 K (rIx K) fIx := fun w x y v u Q R rx ry h hq => by
  unfold fIx at h
  split at h
  · rename_i i
    simp only [RS, Rp] at ry
    subst ry
    split at h
    · rename_i ds e
      obtain ⟨p, h1, h2⟩ := h
      split at e
      · rename_i es e2
        injection e with e; subst e
        obtain ⟨a, vs, rfl, q1, q2⟩ := ls_rs rx e2
        obtain ⟨v', q3, q4⟩ := atI_rp q2 h1
        exact .inl ⟨a, vs, i, v', rfl, rfl, SqL.of q1, q3, hq (.d p) v' w (.refl w) q4 h2⟩
      · obtain ⟨a, vs, rfl, q1, q2⟩ := tp_rs rx e
        obtain ⟨v', q3, q4⟩ := atI_rp q2 h1
        exact .inr (.inl ⟨a, vs, i, v', rfl, rfl, SqT.of (w.gh _ _ q1), q3, hq (.d p) v' w (.refl w) q4 h2⟩)
    · split at h
      · rename_i z e
        obtain ⟨hz, c, h1, h2⟩ := h
        simp only [RS, Rp] at rx
        exact .inr (.inr ⟨z, i, c, rx, rfl, hz, h1, hq _ _ w (.refl w) (by simp [RS, Rp]) h2⟩)
      · rename_i ns e
        obtain ⟨n, h1, h2⟩ := h
        obtain ⟨a, rfl, q1⟩ := rx
        refine .inl ⟨a, _, i, .int n, rfl, rfl, w.gh.seq q1, ?_, hq _ _ w (.refl w) (by simp [RS, Rp]) h2⟩
        unfold atI at h1 ⊢
        rw [List.length_map]
        cases e : ixN ns.length i with
        | none => rw [e] at h1; cases h1
        | some j =>
          rw [e] at h1
          show (ns.map V.int)[j]? = some (V.int n)
          rw [List.getElem?_map]
          rw [show ns[j]? = some n from h1]; rfl
      · obtain ⟨c, rfl, hc⟩ := rx
        obtain ⟨a, b, e1, h0, h1, h2⟩ := w.cat c hc
        rcases h with ⟨rfl, q⟩ | ⟨rfl, q⟩
        · exact .inl ⟨c, _, 0, .int a, rfl, rfl, SqL.of e1, rfl, hq _ _ w (.refl w) (by simp [RS, Rp]) (q a h0)⟩
        · exact .inl ⟨c, _, 1, .int b, rfl, rfl, SqL.of e1, rfl, hq _ _ w (.refl w) (by simp [RS, Rp]) (q b h1 h2)⟩
      · exact h.elim
  · exact h.elim
/-! ### slices -/
def cutD (ds : List Dt) (lo hi : Option Int) : List Dt := (ds.drop (HT.sIx ds.length 0 lo)).take (HT.sIx ds.length ds.length hi - HT.sIx ds.length 0 lo)
theorem cut_rp {G : Hp} {ds : List Dt} {vs : List V} (r : RpA G ds vs) (lo hi : Option Int) : RpA G (cutD ds lo hi) (cutV vs lo hi) := by
  unfold cutD cutV
  rw [r.length]
  exact (r.drop _).take _
def SO (K : PySem.W.Frag) (mg : Mg) (E : XK) (t : TO) (m : Env → M (Option Int)) : Prop :=
  ∀ (en w : Wd mg.T) (ρ : Env) (σ : L2.St) (Q : Option Int → Prop) (Ex : Exn → Prop) (R : Option Int → Hp → Prop), St K en w ρ σ → m ρ Q Ex →
    (∀ (x : Option Int) (w' : Wd mg.T), Grow w w' → Q x → R x w'.H) →
    (∀ (x : Exn) (u : Value) (o : Option Addr) (w' : Wd mg.T), Grow w w' → Ex x → ExR mg x u o → E u o w'.H) → t σ w.H R
def mNoPart : Env → M (Option Int) := fun _ Q _ => Q none
def mPart (ma : Env → M Dv) : Env → M (Option Int) := fun ρ Q Ex => ma ρ (fun x => match x with
  | .d (.int i) => Q (some i)
  | _ => False) Ex
variable {mg : Mg} {E : XK} {ta : TE} {ma : Env → M Dv}
theorem so_none : SO K mg E tNoPart mNoPart := fun en w ρ σ Q Ex R s h hq he => hq _ w (.refl w) h
theorem so_some (ha : SE K mg E ta ma) : SO K mg E (tPart ta) (mPart ma) := fun en w ρ σ Q Ex R s h hq he =>
  ha en w ρ σ _ Ex _ s h (fun x v w1 g1 r1 h1 => by
    split at h1
    · rename_i i
      simp only [RS, Rp] at r1
      exact ⟨i, r1, hq _ w1 g1 h1⟩
    · exact h1.elim) he
def rSl (K : PySem.W.Frag) : V → Option Int → Option Int → Hp → VK → Prop := fun x lo hi H Q => (rSlL K x lo hi H Q ∨ rSlA K x lo hi H Q) ∨ rSlS x lo hi H Q
theorem sl_any {X : Cx} : SlR X (rSl X.K) := (sl_list.or sl_tupA).or sl_str
def fSl : Dv → Option Int → Option Int → (Dv → Prop) → Prop := fun x lo hi Q => match x.ls? with
  | some ds => Q (.d (.list (cutD ds lo hi)))
  | none => match x.tp? with
    | some ds => Q (.d (.tuple (cutD ds lo hi)))
    | none => match x with
      | .d (.str z) => z.length ≤ sizeLine ∧ Q (.d (.str (cutS z lo hi)))
      | _ => False
abbrev S3 (K : PySem.W.Frag) (r : V → Option Int → Option Int → Hp → VK → Prop) (f : Dv → Option Int → Option Int → (Dv → Prop) → Prop) : Prop :=
  ∀ {T : List (PySem.Addr × PySem.Str)} (w : Wd T) (x : Dv) (v : V) (lo hi : Option Int) (Q : Dv → Prop) (R : VK), RS K w v x → f x lo hi Q →
    (∀ (z : Dv) (v : V) (w' : Wd T), Grow w w' → RS K w' v z → Q z → R v w'.H) → r v lo hi w.H R
theorem cutD_whole {ds : List Dt} {lo hi : Option Int} (h : HT.sIx ds.length 0 lo = 0 ∧ HT.sIx ds.length ds.length hi = ds.length) : cutD ds lo hi = ds := by
  unfold cutD
  rw [h.1, h.2]
  simp
theorem s3_sl : S3 K (rSl K) fSl := fun w x v lo hi Q R rx h hq => by
  unfold fSl at h
  split at h
  · rename_i ds e
    obtain ⟨a, vs, rfl, h1, h2⟩ := ls_rs rx e
    exact .inl (.inl ⟨a, vs, rfl, SqL.of h1, fun p hp => hq _ _ _ (Grow.add hp lst_nt) (new_lst hp (cut_rp h2 lo hi)) h⟩)
  · split at h
    · rename_i ds e
      obtain ⟨a, vs, rfl, h1, h2⟩ := tp_rs rx e
      refine .inl (.inr ⟨a, vs, rfl, SqT.of (w.gh _ _ h1), fun hw => ?_, fun hw p hp => ?_⟩)
      · rw [h2.length] at hw
        rw [cutD_whole hw] at h
        exact hq _ _ w (.refl w) (by simp only [RS, Rp]; exact ⟨a, vs, rfl, h1, h2⟩) h
      · exact hq _ _ _ (Grow.add hp tup_nt) (new_tup hp (cut_rp h2 lo hi)) h
    · split at h
      · rename_i z e1 e2
        simp only [RS, Rp] at rx
        exact .inr ⟨z, rx, h.1, hq _ _ w (.refl w) (by simp [RS, Rp]) h.2⟩
      · exact h.elim
def mSl (f : Dv → Option Int → Option Int → (Dv → Prop) → Prop) (ma : Env → M Dv) (ml mh : Env → M (Option Int)) : Env → M Dv := fun ρ Q Ex => ma ρ (fun x => ml ρ (fun lo => mh ρ (fun hi => f x lo hi Q) Ex) Ex) Ex
theorem se_sl {r : V → Option Int → Option Int → Hp → VK → Prop} {f : Dv → Option Int → Option Int → (Dv → Prop) → Prop} {tl th : TO} {ml mh : Env → M (Option Int)} (hr : S3 K r f) (ha : SE K mg E ta ma) (hl : SO K mg E tl ml) (hh : SO K mg E th mh) : SE K mg E (tSl r ta tl th) (mSl f ma ml mh) := fun en w ρ σ Q Ex R s h hq he =>
  ha en w ρ σ _ Ex _ s h (fun x v w1 g1 r1 h1 => hl en w1 ρ σ _ Ex _ (s.grow g1) h1 (fun lo w2 g2 h2 => hh en w2 ρ σ _ Ex _ (s.grow (g1.trans g2)) h2 (fun hi w3 g3 h3 =>
    hr w3 x v lo hi Q R (r1.grow (g2.trans g3)) h3 fun z v' w4 g4 r4 q => hq z v' w4 (((g1.trans g2).trans g3).trans g4) r4 q)
      (fun x u o w' g => he x u o w' ((g1.trans g2).trans g))) (fun x u o w' g => he x u o w' (g1.trans g))) he
/-! ### builtins -/
def fAbs : List Dv → (Dv → Prop) → Prop
  | [.d (.int i)], Q => Q (.d (.int (if i < 0 then -i else i)))
  | _, _ => False
theorem RSs.one {w : Wd T} {vs : List V} {x : Dv} (h : RSs K w vs [x]) : ∃ v, vs = [v] ∧ RS K w v x := by
  cases vs with
  | nil => exact h.elim
  | cons v r => cases r with
    | nil => exact ⟨v, rfl, h.1⟩
    | cons u r => exact h.2.elim
theorem RSs.two {w : Wd T} {vs : List V} {x y : Dv} (h : RSs K w vs [x, y]) : ∃ v u, vs = [v, u] ∧ RS K w v x ∧ RS K w u y := by
  cases vs with
  | nil => exact h.elim
  | cons v r =>
    obtain ⟨u, rfl, q⟩ := RSs.one (K := K) h.2
    exact ⟨v, u, rfl, h.1, q⟩
theorem sc_abs : SC K (fun xs H Q => ∃ i, xs = [V.int i] ∧ Q (.int (if i < 0 then -i else i)) H) fAbs := fun w xs vs Q R r h hq => by
  unfold fAbs at h
  split at h
  · rename_i i
    obtain ⟨v, rfl, rv⟩ := r.one
    simp only [RS, Rp] at rv; subst rv
    exact ⟨i, rfl, hq _ _ w (.refl w) (by simp [RS, Rp]) h⟩
  · exact h.elim
def f2I (g : Int → Int → Int) : List Dv → (Dv → Prop) → Prop
  | [.d (.int i), .d (.int j)], Q => Q (.d (.int (g i j)))
  | _, _ => False
theorem sc_2I {g : Int → Int → Int} : SC K (fun xs H Q => ∃ i j, xs = [V.int i, V.int j] ∧ Q (.int (g i j)) H) (f2I g) := fun w xs vs Q R r h hq => by
  unfold f2I at h
  split at h
  · rename_i i j
    obtain ⟨v, u, rfl, rv, ru⟩ := r.two
    simp only [RS, Rp] at rv ru; subst rv; subst ru
    exact ⟨i, j, rfl, hq _ _ w (.refl w) (by simp [RS, Rp]) h⟩
  · exact h.elim
abbrev fMax2 := f2I fun i j => if j > i then j else i
abbrev fMin2 := f2I fun i j => if j < i then j else i
/-- int(x) of an int, a bool -/
def fInt : List Dv → (Dv → Prop) → Prop
  | [.d (.int i)], Q => Q (.d (.int i))
  | [.d (.bool k)], Q => Q (.d (.int (if k then 1 else 0)))
  | _, _ => False
theorem sc_int : SC K (fun xs H Q => (∃ i, xs = [V.int i] ∧ Q (.int i) H) ∨ ∃ k, xs = [V.bl k] ∧ Q (.int (if k then 1 else 0)) H) fInt := fun w xs vs Q R r h hq => by
  unfold fInt at h
  split at h
  · rename_i i
    obtain ⟨v, rfl, rv⟩ := r.one
    simp only [RS, Rp] at rv; subst rv
    exact .inl ⟨i, rfl, hq _ _ w (.refl w) (by simp [RS, Rp]) h⟩
  · rename_i i
    obtain ⟨v, rfl, rv⟩ := r.one
    simp only [RS, Rp] at rv; subst rv
    exact .inr ⟨i, rfl, hq _ _ w (.refl w) (by simp [RS, Rp]) h⟩
  · exact h.elim
def fStrI : List Dv → (Dv → Prop) → Prop
  | [.d (.int i)], Q => i.natAbs.log2 < 1920 ∧ Q (.d (.str (toString i)))
  | _, _ => False
theorem sc_strI : SC K (fun xs H Q => ∃ i, xs = [V.int i] ∧ i.natAbs.log2 < 1920 ∧ Q (.str (toString i)) H) fStrI := fun w xs vs Q R r h hq => by
  unfold fStrI at h
  split at h
  · rename_i i
    obtain ⟨v, rfl, rv⟩ := r.one
    simp only [RS, Rp] at rv; subst rv
    exact ⟨i, rfl, h.1, hq _ _ w (.refl w) (by simp [RS, Rp]) h.2⟩
  · exact h.elim
/-- len -/
def lenD : Dv → Option Nat
  | .d (.str x) => some x.length
  | .d (.list ds) => some ds.length
  | .d (.tuple ds) => some ds.length
  | .own ds => some ds.length
  | .scr ns => some ns.length
  | _ => none
def fLen : List Dv → (Dv → Prop) → Prop
  | [.d (.str x)], Q => x.length ≤ sizeLine ∧ Q (.d (.int x.length))
  | [x], Q => match lenD x with
    | some n => Q (.d (.int n))
    | none => False
  | _, _ => False
theorem sc_len : SC K (fun xs H Q => ∃ x n, xs = [x] ∧ LenV K x H n ∧ Q (.int (n : Nat)) H) fLen := fun w xs vs Q R r h hq => by
  unfold fLen at h
  split at h
  · rename_i x
    obtain ⟨v, rfl, rv⟩ := r.one
    simp only [RS, Rp] at rv; subst rv
    exact ⟨.str x, x.length, rfl, ⟨h.1, rfl⟩, hq (.d (.int _)) _ w (.refl w) (by simp [RS, Rp]) h.2⟩
  · rename_i x hx
    obtain ⟨v, rfl, rv⟩ := r.one
    split at h
    · rename_i n e
      refine ⟨v, n, rfl, ?_, hq (.d (.int n)) _ w (.refl w) (by simp [RS, Rp]) h⟩
      unfold lenD at e
      split at e
      · rename_i z
        exact absurd rfl (hx z)
      · injection e with e; subst e
        simp only [RS, Rp] at rv
        obtain ⟨a, us, rfl, h1, h2⟩ := rv
        exact .inl ⟨us, SqL.of (w.gh _ _ h1), h2.length.symm⟩
      · injection e with e; subst e
        simp only [RS, Rp] at rv
        obtain ⟨a, us, rfl, h1, h2⟩ := rv
        exact .inr ⟨us, SqT.of (w.gh _ _ h1), h2.length.symm⟩
      · injection e with e; subst e
        obtain ⟨a, us, rfl, _, _, h1, h2⟩ := rv
        exact .inl ⟨us, SqL.of h1, h2.length.symm⟩
      · injection e with e; subst e
        obtain ⟨a, rfl, h1⟩ := rv
        exact .inl ⟨_, w.gh.seq h1, by rw [List.length_map]⟩
      · cases e
    · exact h.elim
  · exact h.elim
/-- the ints, bools, texts of a list of such -/
def intsOf : List Dt → Option (List Int)
  | [] => some []
  | .int i :: r => (intsOf r).map (i :: ·)
  | _ :: _ => none
def blsOf : List Dt → Option (List Bool)
  | [] => some []
  | .bool i :: r => (blsOf r).map (i :: ·)
  | _ :: _ => none
theorem intsOf_eq : ∀ {ds : List Dt} {ns : List Int}, intsOf ds = some ns → ds = ilst ns
  | [], ns, h => by simp [intsOf] at h; subst h; rfl
  | .int i :: r, ns, h => by
    simp only [intsOf, Option.map_eq_some_iff] at h
    obtain ⟨ms, h1, rfl⟩ := h
    rw [intsOf_eq h1]; rfl
  | .none :: _, _, h => by simp [intsOf] at h
  | .bool _ :: _, _, h => by simp [intsOf] at h
  | .str _ :: _, _, h => by simp [intsOf] at h
  | .list _ :: _, _, h => by simp [intsOf] at h
  | .tuple _ :: _, _, h => by simp [intsOf] at h
  | .dict _ :: _, _, h => by simp [intsOf] at h
theorem intsOf_ilst : ∀ ns : List Int, intsOf (ilst ns) = some ns
  | [] => rfl
  | n :: ns => by
    show (intsOf (ilst ns)).map (n :: ·) = some (n :: ns)
    rw [intsOf_ilst ns]; rfl
theorem blsOf_eq : ∀ {ds : List Dt} {ns : List Bool}, blsOf ds = some ns → ds = blst ns
  | [], ns, h => by simp [blsOf] at h; subst h; rfl
  | .bool i :: r, ns, h => by
    simp only [blsOf, Option.map_eq_some_iff] at h
    obtain ⟨ms, h1, rfl⟩ := h
    rw [blsOf_eq h1]; rfl
  | .none :: _, _, h => by simp [blsOf] at h
  | .int _ :: _, _, h => by simp [blsOf] at h
  | .str _ :: _, _, h => by simp [blsOf] at h
  | .list _ :: _, _, h => by simp [blsOf] at h
  | .tuple _ :: _, _, h => by simp [blsOf] at h
  | .dict _ :: _, _, h => by simp [blsOf] at h
theorem blsOf_blst : ∀ ns : List Bool, blsOf (blst ns) = some ns
  | [] => rfl
  | n :: ns => by
    show (blsOf (blst ns)).map (n :: ·) = some (n :: ns)
    rw [blsOf_blst ns]; rfl
def fAll : List Dv → (Dv → Prop) → Prop
  | [x], Q => match x.ls?.bind blsOf with
    | some bs => Q (.d (.bool (bs.all id)))
    | none => False
  | _, _ => False
def fAny : List Dv → (Dv → Prop) → Prop
  | [x], Q => match x.ls?.bind blsOf with
    | some bs => Q (.d (.bool (bs.any id)))
    | none => False
  | _, _ => False
theorem sc_all : SC K (rAll K) fAll := fun w xs vs Q R r h hq => by
  unfold fAll at h
  split at h
  · rename_i x
    obtain ⟨v, rfl, rv⟩ := r.one
    split at h
    · rename_i bs e
      obtain ⟨ds, e1, e2⟩ := Option.bind_eq_some_iff.mp e
      obtain ⟨a, us, rfl, h1, h2⟩ := ls_rs rv e1
      rw [blsOf_eq e2] at h2
      have := h2.blst; subst this
      exact ⟨a, bs, rfl, SqL.of h1, hq (.d (.bool _)) _ w (.refl w) (by simp [RS, Rp]) h⟩
    · exact h.elim
  · exact h.elim
theorem sc_any : SC K (rAny K) fAny := fun w xs vs Q R r h hq => by
  unfold fAny at h
  split at h
  · rename_i x
    obtain ⟨v, rfl, rv⟩ := r.one
    split at h
    · rename_i bs e
      obtain ⟨ds, e1, e2⟩ := Option.bind_eq_some_iff.mp e
      obtain ⟨a, us, rfl, h1, h2⟩ := ls_rs rv e1
      rw [blsOf_eq e2] at h2
      have := h2.blst; subst this
      exact ⟨a, bs, rfl, SqL.of h1, hq (.d (.bool _)) _ w (.refl w) (by simp [RS, Rp]) h⟩
    · exact h.elim
  · exact h.elim
/-- the sorted list of ints -/
def isort (ns : List Int) : List Int := ns.mergeSort (fun a b => decide (a ≤ b))
theorem isort_perm (ns : List Int) : (isort ns).Perm ns := List.mergeSort_perm ns _
theorem isort_sorted (ns : List Int) : (isort ns).Pairwise (· ≤ ·) := by
  have := List.pairwise_mergeSort (le := fun a b : Int => decide (a ≤ b)) (fun a b c h1 h2 => by simp at h1 h2 ⊢; omega) (fun a b => by simp; omega) ns
  exact this.imp (fun h => by simpa using h)
theorem sorted_uniq : ∀ {xs ys : List Int}, xs.Perm ys → xs.Pairwise (· ≤ ·) → ys.Pairwise (· ≤ ·) → xs = ys := fun p h1 h2 =>
  p.eq_of_pairwise (fun a b _ _ x y => Int.le_antisymm x y) h1 h2
theorem isort_uniq {xs ns : List Int} (p : xs.Perm ns) (h : xs.Pairwise (· ≤ ·)) : xs = isort ns := sorted_uniq (p.trans (isort_perm ns).symm) h (isort_sorted ns)
/-- tuple(x), list(x) of a list or tuple -/
def fTupOf : List Dv → (Dv → Prop) → Prop
  | [x], Q => match (match x.ls? with | some ds => some ds | none => x.tp?) with
    | some ds => Q (.d (.tuple ds))
    | none => False
  | _, _ => False
theorem sc_tupOf : SC K (fun xs H Q => ∃ p ys, xs = [V.ref p] ∧ ((SqL K H p ys ∧ ∀ l, H l = none → Q (.ref l) (upd H l (.tup ys))) ∨ (SqT K H p ys ∧ Q (.ref p) H))) fTupOf := fun w xs vs Q R r h hq => by
  unfold fTupOf at h
  split at h
  · rename_i x
    obtain ⟨v, rfl, rv⟩ := r.one
    split at h
    · rename_i ds e
      split at e
      · rename_i es e2
        injection e with e; subst e
        obtain ⟨a, us, rfl, h1, h2⟩ := ls_rs rv e2
        exact ⟨a, us, rfl, .inl ⟨SqL.of h1, fun l hl => hq _ _ _ (Grow.add hl tup_nt) (new_tup hl h2) h⟩⟩
      · obtain ⟨a, us, rfl, h1, h2⟩ := tp_rs rv e
        exact ⟨a, us, rfl, .inr ⟨SqT.of (w.gh _ _ h1), hq _ _ w (.refl w) (by simp only [RS, Rp]; exact ⟨a, us, rfl, h1, h2⟩) h⟩⟩
    · exact h.elim
  · exact h.elim
/-- a builtin that gives a new list -/
abbrev SCF (K : PySem.W.Frag) (r : List V → Hp → VK → Prop) (f : List Dv → (List Dt → Prop) → Prop) : Prop :=
  ∀ {T : List (PySem.Addr × PySem.Str)} (w : Wd T) (xs : List Dv) (vs : List V) (Q : List Dt → Prop) (R : VK), RSs K w vs xs → f xs Q →
    (∀ (ds : List Dt) (a : Addr) (us : List V) (w' : Wd T), Grow w w' → Fr w.H a → w'.G a = none → ¬ w'.C a → w'.H a = some (.lst us) → RpA w'.G ds us → Q ds → R (.ref a) w'.H) → r vs w.H R
def mCF (f : List Dv → (List Dt → Prop) → Prop) (ma : Env → M (List Dv)) : Env → M (List Dt) := fun ρ Q Ex => ma ρ (fun xs => f xs Q) Ex
theorem sf_cb {n : Nat} {r : List V → Hp → VK → Prop} {f : List Dv → (List Dt → Prop) → Prop} {t : TA} {ma : Env → M (List Dv)} (hr : SCF K r f) (ha : SA K mg E n t ma) : SF K mg E (tCB r t) (mCF f ma) := fun en w ρ σ Q Ex R s h hq he =>
  ha en w ρ σ _ Ex _ s h (fun xs vs w1 g1 r1 hl h1 => hr w1 xs vs Q R r1 h1 fun ds a us w2 g2 q0 q1 q2 q3 q4 q5 => hq ds a us w2 (g1.trans g2) (g1.dom a q0) q1 q2 q3 q4 q5) he
def fLstOf : List Dv → (List Dt → Prop) → Prop
  | [x], Q => match (match x.ls? with | some ds => some ds | none => x.tp?) with
    | some ds => Q ds
    | none => False
  | _, _ => False
theorem fresh_lay {w : Wd T} {l : Addr} {us : List V} {ds : List Dt} {Q : List Dt → Prop} {R : VK} (hl : w.H l = none) (h2 : RpA w.G ds us) (h : Q ds)
    (hq : ∀ (ds : List Dt) (a : Addr) (us : List V) (w' : Wd T), Grow w w' → Fr w.H a → w'.G a = none → ¬ w'.C a → w'.H a = some (.lst us) → RpA w'.G ds us → Q ds → R (.ref a) w'.H) : R (.ref l) (upd w.H l (.lst us)) :=
  hq ds l us (w.lay l (.lst us) hl) (Grow.lay hl) (.of hl) (Wd.g_none (w := w) hl) (fun hc => (w.cat l hc).ne hl rfl) upd_same h2 h
theorem sc_lstOf : SCF K (fun xs H Q => ∃ p ys, xs = [V.ref p] ∧ (SqL K H p ys ∨ SqT K H p ys) ∧ ∀ l, H l = none → Q (.ref l) (upd H l (.lst ys))) fLstOf := fun w xs vs Q R r h hq => by
  unfold fLstOf at h
  split at h
  · rename_i x
    obtain ⟨v, rfl, rv⟩ := r.one
    split at h
    · rename_i ds e
      split at e
      · rename_i es e2
        injection e with e; subst e
        obtain ⟨a, us, rfl, h1, h2⟩ := ls_rs rv e2
        exact ⟨a, us, rfl, .inl (SqL.of h1), fun l hl => fresh_lay hl h2 h hq⟩
      · obtain ⟨a, us, rfl, h1, h2⟩ := tp_rs rv e
        exact ⟨a, us, rfl, .inr (SqT.of (w.gh _ _ h1)), fun l hl => fresh_lay hl h2 h hq⟩
    · exact h.elim
  · exact h.elim
def fSortI : List Dv → (List Dt → Prop) → Prop
  | [x], Q => match x.ls?.bind intsOf with
    | some ns => Q (ilst (isort ns))
    | none => False
  | _, _ => False
theorem sc_sortI : SCF K (rSortedI K) fSortI := fun w xs vs Q R r h hq => by
  unfold fSortI at h
  split at h
  · rename_i x
    obtain ⟨v, rfl, rv⟩ := r.one
    split at h
    · rename_i ns e
      obtain ⟨ds, e1, e2⟩ := Option.bind_eq_some_iff.mp e
      obtain ⟨a, us, rfl, h1, h2⟩ := ls_rs rv e1
      rw [intsOf_eq e2] at h2
      have := h2.ilst; subst this
      refine ⟨a, ns, rfl, SqL.of h1, fun ns' p hp hs hn => ?_⟩
      rw [isort_uniq hp hs]
      exact fresh_lay hn .of_ilst h hq
    · exact h.elim
  · exact h.elim
end
end Ks
end

section
set_option Elab.async false
set_option linter.all false
set_option maxRecDepth 100000
set_option maxHeartbeats 4000000
/-! # Statements, loops, comprehensions -/
namespace Ks
variable {T : List (PySem.Addr × PySem.Str)}
open PySem PySem.Spec PyProof.Rows L2
/-- what is wanted behind a statement, in plain data -/
structure Me where
  nx : Env → Prop
  rt : Dv → Prop
  bk : Env → Prop := fun _ => False
  ct : Env → Prop := fun _ => False
  ex : Exn → Prop
structure Link (K : PySem.W.Frag) (mg : Mg) (E : XK) (en : Wd mg.T) (G0 : Hp) (B : Me) (D : Ends) : Prop where
  nx : ∀ w ρ σ, Same G0 w.G → St K en w ρ σ → B.nx ρ → D.nx σ w.H
  rt : ∀ w v x, Grow en w → RS K w v x → x.isOwn = false → B.rt x → D.rt v w.H
  bk : ∀ w ρ σ, Same G0 w.G → St K en w ρ σ → B.bk ρ → D.bk σ w.H
  ct : ∀ w ρ σ, Same G0 w.G → St K en w ρ σ → B.ct ρ → D.ct σ w.H
  ex : ∀ (x : Exn) (u : Value) (o : Option Addr) (w : Wd mg.T), Grow en w → B.ex x → ExR mg x u o → E u o w.H
theorem Link.later {K : PySem.W.Frag} {mg : Mg} {E : XK} {en : Wd mg.T} {G0 G1 : Hp} {B : Me} {D : Ends} (l : Link K mg E en G0 B D) (g : Same G0 G1) : Link K mg E en G1 B D :=
  ⟨fun w ρ σ h => l.nx w ρ σ (g.trans h), l.rt, fun w ρ σ h => l.bk w ρ σ (g.trans h), fun w ρ σ h => l.ct w ρ σ (g.trans h), l.ex⟩
abbrev MS := Me → Env → Prop
def SS (K : PySem.W.Frag) (mg : Mg) (E : XK) (ts : TS) (ms : MS) : Prop :=
  ∀ (en w : Wd mg.T) (ρ : Env) (σ : L2.St) (D : Ends) (B : Me), St K en w ρ σ → ms B ρ → Link K mg E en w.G B D → ts D σ w.H

/-! ### slots -/
theorem get_set {α : Type} {l : List α} {i j : Nat} {x : α} : (l.set i x)[j]? = if i = j then (if i < l.length then some x else none) else l[j]? := by
  rw [List.getElem?_set]
theorem St.set {K : PySem.W.Frag} {en w : Wd T} {ρ : Env} {σ : L2.St} (s : St K en w ρ σ) (i : Nat) {x : Dv} {v : V} (r : RS K w v x) (hx : x.isOwn = false) : St K en w (ρ.set i (some x)) (σ.set i (some v)) where
  len := by rw [List.length_set, List.length_set]; exact s.len
  rs := fun j y h => by
    rw [get_set] at h ⊢
    rw [s.len]
    by_cases e : i = j
    · rw [if_pos e] at h ⊢
      by_cases e2 : i < ρ.length
      · rw [if_pos e2] at h ⊢
        simp only [Option.some.injEq] at h; subst h
        exact ⟨v, rfl, r⟩
      · rw [if_neg e2] at h; cases h
    · rw [if_neg e] at h ⊢
      exact s.rs j y h
  un := fun j k y z a h1 h2 o1 o2 h3 h4 => by
    rw [get_set] at h1 h2
    have ej : i ≠ j := fun e => by
      rw [if_pos e] at h1
      split at h1
      · simp only [Option.some.injEq] at h1; subst h1; rw [hx] at o1; cases o1
      · cases h1
    have ek : i ≠ k := fun e => by
      rw [if_pos e] at h2
      split at h2
      · simp only [Option.some.injEq] at h2; subst h2; rw [hx] at o2; cases o2
      · cases h2
    rw [if_neg ej] at h1
    rw [if_neg ek] at h2
    rw [get_set, if_neg ej] at h3
    rw [get_set, if_neg ek] at h4
    exact s.un j k y z a h1 h2 o1 o2 h3 h4
  fr := fun j y a h1 o1 h3 => by
    rw [get_set] at h1
    have ej : i ≠ j := fun e => by
      rw [if_pos e] at h1
      split at h1
      · simp only [Option.some.injEq] at h1; subst h1; rw [hx] at o1; cases o1
      · cases h1
    rw [if_neg ej] at h1
    rw [get_set, if_neg ej] at h3
    exact s.fr j y a h1 o1 h3
  gr := s.gr
/-- an own thing's address -/
theorem own_at {K : PySem.W.Frag} {w : Wd T} {v : V} : ∀ {x : Dv}, x.isOwn = true → RS K w v x → ∃ a o, v = .ref a ∧ w.G a = none ∧ ¬ w.C a ∧ w.H a = some o ∧ (∀ ps, o ≠ .tbl ps)
  | .own ps, _, r => by
    obtain ⟨a, vs, rfl, h1, h2, h3, _⟩ := r
    exact ⟨a, _, rfl, h1, h2, h3, fun _ e => nomatch e⟩
  | .odic kvs, _, r => by
    obtain ⟨a, vs, rfl, h1, h2, h3, _⟩ := r
    exact ⟨a, _, rfl, h1, h2, h3, fun _ e => nomatch e⟩
  | .d _, h, _ => by cases h
  | .coil, h, _ => by cases h
  | .dic _, h, _ => by cases h
  | .scr _, h, _ => by cases h
  | .fn _, h, _ => by cases h
  | .ty _, h, _ => by cases h
/-- a new own thing into a slot; w0: ahead of its making -/
theorem St.setO {K : PySem.W.Frag} {en w0 w : Wd T} {ρ : Env} {σ : L2.St} (s0 : St K en w0 ρ σ) (g : Grow w0 w) (i : Nat) {x : Dv} {a : Addr} (r : RS K w (.ref a) x) (ha : Fr w0.H a) : St K en w (ρ.set i (some x)) (σ.set i (some (.ref a))) where
  len := by rw [List.length_set, List.length_set]; exact s0.len
  rs := fun j y h => by
    rw [get_set] at h ⊢
    rw [s0.len]
    by_cases e : i = j
    · rw [if_pos e] at h ⊢
      by_cases e2 : i < ρ.length
      · rw [if_pos e2] at h ⊢
        simp only [Option.some.injEq] at h; subst h
        exact ⟨_, rfl, r⟩
      · rw [if_neg e2] at h; cases h
    · rw [if_neg e] at h ⊢
      obtain ⟨v, h1, h2⟩ := s0.rs j y h
      exact ⟨v, h1, h2.grow g⟩
  un := fun j k y z b h1 h2 o1 o2 h3 h4 => by
    have old : ∀ (j : Nat) (y : Dv), i ≠ j → (ρ.set i (some x))[j]? = some (some y) → y.isOwn = true → (σ.set i (some (V.ref a)))[j]? = some (some (V.ref b)) → b ≠ a := fun j y e q1 q2 q3 q4 => by
      rw [get_set, if_neg e] at q1 q3
      obtain ⟨v, p1, p2⟩ := s0.rs j y q1
      rw [q3] at p1
      obtain rfl := (Option.some.inj (Option.some.inj p1)).symm
      obtain ⟨c, o, p3, _, _, p4, p5⟩ := own_at q2 p2
      injection p3 with p3
      subst p3
      rw [q4] at p4
      exact ha.no p4 p5
    have new : ∀ (j : Nat), i = j → (σ.set i (some (V.ref a)))[j]? = some (some (V.ref b)) → b = a := fun j e q => by
      rw [get_set, if_pos e] at q
      split at q
      · injection q with q; injection q with q; injection q with q; exact q.symm
      · cases q
    by_cases ej : i = j
    · by_cases ek : i = k
      · rw [← ej, ← ek]
      · exact absurd (new j ej h3) (old k z ek h2 o2 h4)
    · by_cases ek : i = k
      · exact absurd (new k ek h4) (old j y ej h1 o1 h3)
      · rw [get_set, if_neg ej] at h1 h3
        rw [get_set, if_neg ek] at h2 h4
        exact s0.un j k y z b h1 h2 o1 o2 h3 h4
  fr := fun j y b h1 o1 h3 => by
    by_cases ej : i = j
    · rw [get_set, if_pos ej] at h3
      split at h3
      · injection h3 with q; injection q with q; injection q with q
        subst q
        exact s0.gr.dom _ ha
      · cases h3
    · rw [get_set, if_neg ej] at h1 h3
      exact s0.fr j y b h1 o1 h3
  gr := s0.gr.trans g
/-- an own list is to stand still -/
def fzD : Dv → Dv
  | .own ps => .d (.list ps)
  | .odic kvs => .dic kvs
  | x => x
theorem St.freeze {K : PySem.W.Frag} {en w : Wd T} {ρ : Env} {σ : L2.St} (s : St K en w ρ σ) (i : Nat) {x : Dv} (h : ρ[i]? = some (some x)) (hx : x.isOwn = true) :
    ∃ w' : Wd T, w'.H = w.H ∧ Same w.G w'.G ∧ St K en w' (ρ.set i (some (fzD x))) σ := by
  obtain ⟨v, h1, h2⟩ := s.rs i x h
  obtain ⟨a, o, rfl, q1, q2, q3, q4⟩ := own_at hx h2
  have g : Same w.G (upd w.G a o) := same_upd q1
  have fresh := s.fr i x a h hx h1
  have hil : i < ρ.length := (List.getElem?_eq_some_iff.mp h).1
  have hne : ∀ j y, i ≠ j → ρ[j]? = some (some y) → y.isOwn = true → σ[j]? ≠ some (some (V.ref a)) := fun j y e e1 e2 e3 => e (s.un i j x y a h e1 hx e2 h1 e3)
  refine ⟨w.fix a o q3 q2 q4, rfl, g, ⟨by rw [List.length_set]; exact s.len, fun j y hj => ?_, fun j k y z b z1 z2 o1 o2 z3 z4 => ?_, fun j y b z1 o1 z3 => ?_, ?_⟩⟩
  · rw [get_set] at hj
    by_cases e : i = j
    · rw [if_pos e, if_pos hil] at hj
      simp only [Option.some.injEq] at hj; subst hj; subst e
      refine ⟨_, h1, ?_⟩
      cases x with
      | own ps =>
        obtain ⟨b, vs, eb, _, _, p3, p4⟩ := h2
        injection eb with eb; subst eb
        rw [p3] at q3
        obtain rfl := Option.some.inj q3
        simp only [fzD, RS, Rp]
        exact ⟨a, vs, rfl, upd_same, RpA.mono g _ _ p4⟩
      | odic kvs =>
        obtain ⟨b, vs, eb, _, _, p3, p4⟩ := h2
        injection eb with eb; subst eb
        rw [p3] at q3
        obtain rfl := Option.some.inj q3
        exact ⟨a, vs, rfl, upd_same, p4.mono g⟩
      | d _ => cases hx
      | coil => cases hx
      | dic _ => cases hx
      | scr _ => cases hx
      | fn _ => cases hx
      | ty _ => cases hx
    · rw [if_neg e] at hj
      obtain ⟨u, p1, p2⟩ := s.rs j y hj
      refine ⟨u, p1, ?_⟩
      cases y with
      | d p => exact Rp.mono g p u p2
      | own ps =>
        obtain ⟨b, vs, rfl, r1, r2, r3, r4⟩ := p2
        have hb : b ≠ a := fun e' => hne j _ e hj rfl (e' ▸ p1)
        exact ⟨b, vs, rfl, (upd_ne hb).trans r1, r2, r3, RpA.mono g _ _ r4⟩
      | coil => exact p2
      | dic kvs =>
        obtain ⟨b, vs, rfl, r1, r2⟩ := p2
        exact ⟨b, vs, rfl, g _ _ r1, r2.mono g⟩
      | odic kvs =>
        obtain ⟨b, vs, rfl, r1, r2, r3, r4⟩ := p2
        have hb : b ≠ a := fun e' => hne j _ e hj rfl (e' ▸ p1)
        exact ⟨b, vs, rfl, (upd_ne hb).trans r1, r2, r3, r4.mono g⟩
      | scr ns =>
        obtain ⟨b, rfl, r1⟩ := p2
        exact ⟨b, rfl, g.seq r1⟩
      | fn f => exact p2
      | ty n => exact p2
  · have nf : (fzD x).isOwn = false := by cases x <;> first | rfl | cases hx
    rw [get_set] at z1 z2
    have ej : i ≠ j := fun e => by
      rw [if_pos e, if_pos hil] at z1
      simp only [Option.some.injEq] at z1; subst z1; rw [nf] at o1; cases o1
    have ek : i ≠ k := fun e => by
      rw [if_pos e, if_pos hil] at z2
      simp only [Option.some.injEq] at z2; subst z2; rw [nf] at o2; cases o2
    rw [if_neg ej] at z1
    rw [if_neg ek] at z2
    exact s.un j k y z b z1 z2 o1 o2 z3 z4
  · have nf : (fzD x).isOwn = false := by cases x <;> first | rfl | cases hx
    rw [get_set] at z1
    have ej : i ≠ j := fun e => by
      rw [if_pos e, if_pos hil] at z1
      simp only [Option.some.injEq] at z1; subst z1; rw [nf] at o1; cases o1
    rw [if_neg ej] at z1
    exact s.fr j y b z1 o1 z3
  · exact s.gr.fix fresh q1 q3 q2 q4
theorem tabs_upd {T : List (Addr × Str)} {H : Hp} {a : Addr} {o o' : HO} (t : LamX.Tabs T H) (ha : H a = some o) (n1 : ∀ ps, o ≠ .tbl ps) (n2 : ∀ c q, o ≠ LamX.CodeO c q) : LamX.Tabs T (upd H a o') := fun p hp => by
  obtain ⟨ps, h1, h2, h3⟩ := t p hp
  have ne : p.1 ≠ a := fun e => by rw [e, ha] at h1; exact n1 ps (Option.some.inj h1)
  refine ⟨ps, (upd_ne ne).trans h1, h2, fun pos cv hc => ?_⟩
  obtain ⟨c, e1, e2⟩ := h3 pos cv hc
  have ne2 : c ≠ a := fun e => by rw [e, ha] at e2; exact n2 _ _ (Option.some.inj e2)
  exact ⟨c, e1, (upd_ne ne2).trans e2⟩
/-- an own thing changes -/
theorem St.mut {K : PySem.W.Frag} {en w : Wd T} {ρ : Env} {σ : L2.St} (s : St K en w ρ σ) (i : Nat) {x y : Dv} {a : Addr} {o o' : HO} (h : ρ[i]? = some (some x)) (hx : x.isOwn = true) (hs : σ[i]? = some (some (.ref a)))
    (hg : w.G a = none) (hc : ¬ w.C a) (ho : w.H a = some o) (n1 : ∀ ps, o ≠ .tbl ps) (n2 : ∀ c q, o ≠ LamX.CodeO c q)
    (hy : ∀ w' : Wd T, w'.G = w.G → w'.C = w.C → w'.H a = some o' → RS K w' (.ref a) y) (hyo : y.isOwn = true) :
    ∃ w' : Wd T, w'.H = upd w.H a o' ∧ w'.G = w.G ∧ St K en w' (ρ.set i (some y)) σ ∧ ∀ w0, Grow w0 w → Fr w0.H a → Grow w0 w' := by
  have fresh := s.fr i x a h hx hs
  have hil : i < ρ.length := (List.getElem?_eq_some_iff.mp h).1
  have hne : ∀ j z, i ≠ j → ρ[j]? = some (some z) → z.isOwn = true → σ[j]? ≠ some (some (V.ref a)) := fun j z e e1 e2 e3 => e (s.un i j x z a h e1 hx e2 hs e3)
  have hcat : ∀ c, w.C c → c ≠ a := fun c q e => hc (e ▸ q)
  have hgh : Same w.G (upd w.H a o') := fun b u e => by
    have nb : b ≠ a := fun z => by rw [z, hg] at e; cases e
    exact (upd_ne nb).trans (w.gh b u e)
  have hct : ∀ c, w.C c → CoilAt (upd w.H a o') c := fun c q => by
    obtain ⟨m, n, e1, e2⟩ := w.cat c q
    exact ⟨m, n, (upd_ne (hcat c q)).trans e1, e2⟩
  let w' : Wd T := ⟨w.C, w.G, upd w.H a o', hgh, w.gc, w.gt, hct, tabs_upd w.tabs ho n1 n2⟩
  have growing : ∀ w0, Grow w0 w → Fr w0.H a → Grow w0 w' := fun w0 g fresh => by
    refine ⟨g.gg, g.new, fun b u e nc nt => ?_, fun b e => ?_, g.cc, g.cn⟩
    · have nb : b ≠ a := fun z => fresh.no (z ▸ e) nt
      exact (upd_ne nb).trans (g.keep b u e nc nt)
    · by_cases nb : b = a
      · rw [nb]; exact fresh
      · exact g.dom b fun o2 h2 => e o2 ((upd_ne nb).trans h2)
  refine ⟨w', rfl, rfl, ⟨by rw [List.length_set]; exact s.len, fun j z hj => ?_, fun j k z1 z2 b q1 q2 o1 o2 q3 q4 => ?_, fun j z b q1 o1 q3 => ?_, ?_⟩, growing⟩
  · rw [get_set] at hj
    by_cases e : i = j
    · rw [if_pos e, if_pos hil] at hj
      simp only [Option.some.injEq] at hj; subst hj; subst e
      exact ⟨_, hs, hy w' rfl rfl upd_same⟩
    · rw [if_neg e] at hj
      obtain ⟨u, p1, p2⟩ := s.rs j z hj
      refine ⟨u, p1, ?_⟩
      cases z with
      | d p => exact p2
      | own ps =>
        obtain ⟨b, vs, rfl, r1, r2, r3, r4⟩ := p2
        have hb : b ≠ a := fun e' => hne j _ e hj rfl (e' ▸ p1)
        exact ⟨b, vs, rfl, r1, r2, (upd_ne hb).trans r3, r4⟩
      | coil => exact p2
      | dic kvs => exact p2
      | odic kvs =>
        obtain ⟨b, vs, rfl, r1, r2, r3, r4⟩ := p2
        have hb : b ≠ a := fun e' => hne j _ e hj rfl (e' ▸ p1)
        exact ⟨b, vs, rfl, r1, r2, (upd_ne hb).trans r3, r4⟩
      | scr ns => exact p2
      | fn f => exact p2
      | ty n => exact p2
  · have key : ∀ (j : Nat) (z : Dv), (ρ.set i (some y))[j]? = some (some z) → z.isOwn = true → ∃ z', ρ[j]? = some (some z') ∧ z'.isOwn = true := fun j z q o => by
      rw [get_set] at q
      by_cases e : i = j
      · exact ⟨x, e ▸ h, hx⟩
      · rw [if_neg e] at q; exact ⟨z, q, o⟩
    obtain ⟨y1, r1, r2⟩ := key j z1 q1 o1
    obtain ⟨y2, r3, r4⟩ := key k z2 q2 o2
    exact s.un j k y1 y2 b r1 r3 r2 r4 q3 q4
  · rw [get_set] at q1
    by_cases e : i = j
    · exact s.fr j x b (e ▸ h) hx q3
    · rw [if_neg e] at q1; exact s.fr j z b q1 o1 q3
  · exact growing en s.gr fresh
theorem lst_nc {vs : List V} : ∀ c q, HO.lst vs ≠ LamX.CodeO c q := fun _ _ e => nomatch e
theorem dk_nc {vs : List (Key × V)} : ∀ c q, HO.dK vs ≠ LamX.CodeO c q := fun _ _ e => nomatch e
theorem dk_nt {vs : List (Key × V)} : ∀ ps, HO.dK vs ≠ .tbl ps := fun _ e => nomatch e

section
variable {K : PySem.W.Frag} {mg : Mg} {E : XK} {t u : TS} {m n : MS} {te : TE} {me : Env → M Dv}
def mSeq (m n : MS) : MS := fun B ρ => m { B with nx := n B } ρ
theorem ss_seq (h1 : SS K mg E t m) (h2 : SS K mg E u n) : SS K mg E (tSeq t u) (mSeq m n) := fun en w ρ σ D B s h l =>
  h1 en w ρ σ _ _ s h ⟨fun w' ρ' σ' g s' q => h2 en w' ρ' σ' D B s' q (l.later g), l.rt, l.bk, l.ct, l.ex⟩
def mNext : MS := fun B ρ => B.nx ρ
theorem ss_next : SS K mg E tNext mNext := fun en w ρ σ D B s h l => l.nx w ρ σ (Same.refl _) s h
def mBrk : MS := fun B ρ => B.bk ρ
theorem ss_brk : SS K mg E tBreak mBrk := fun en w ρ σ D B s h l => l.bk w ρ σ (Same.refl _) s h
def mCont : MS := fun B ρ => B.ct ρ
theorem ss_cont : SS K mg E tCont mCont := fun en w ρ σ D B s h l => l.ct w ρ σ (Same.refl _) s h
def mDrop (me : Env → M Dv) : MS := fun B ρ => me ρ (fun _ => B.nx ρ) B.ex
theorem ss_drop (he : SE K mg E te me) : SS K mg E (tDrop te) (mDrop me) := fun en w ρ σ D B s h l =>
  he en w ρ σ _ _ _ s h (fun x v w1 g1 r1 q => l.nx w1 ρ σ g1.gg (s.grow g1) q) (fun x u o w1 g q r => l.ex x u o w1 (s.gr.trans g) q r)
def mRet (me : Env → M Dv) : MS := fun B ρ => me ρ (fun x => x.isOwn = false ∧ B.rt x) B.ex
theorem ss_ret (he : SE K mg E te me) : SS K mg E (tRet te) (mRet me) := fun en w ρ σ D B s h l =>
  he en w ρ σ _ _ _ s h (fun x v w1 g1 r1 q => l.rt w1 v x (s.gr.trans g1) r1 q.1 q.2) (fun x u o w1 g q r => l.ex x u o w1 (s.gr.trans g) q r)
def mIfS (mt : Env → M Bool) (m n : MS) : MS := fun B ρ => mt ρ (fun c => if c = true then m B ρ else n B ρ) B.ex
theorem ss_if {tt : TT} {mt : Env → M Bool} (ht : SB K mg E tt mt) (h1 : SS K mg E t m) (h2 : SS K mg E u n) : SS K mg E (tIfS tt t u) (mIfS mt m n) := fun en w ρ σ D B s h l =>
  ht en w ρ σ _ _ _ s h (fun c w1 g1 q => by
    cases c with
    | true =>
      rw [if_pos rfl] at q ⊢
      exact h1 en w1 ρ σ D B (s.grow g1) q (l.later g1.gg)
    | false =>
      rw [if_neg Bool.false_ne_true] at q ⊢
      exact h2 en w1 ρ σ D B (s.grow g1) q (l.later g1.gg)) (fun x u o w1 g q r => l.ex x u o w1 (s.gr.trans g) q r)
def mFreeze (i : Nat) (m : MS) : MS := fun B ρ => match ρ[i]? with
  | some (some x) => if x.isOwn = true then m B (ρ.set i (some (fzD x))) else m B ρ
  | _ => m B ρ
theorem ss_freeze (i : Nat) (h1 : SS K mg E t m) : SS K mg E t (mFreeze i m) := fun en w ρ σ D B s h l => by
  unfold mFreeze at h
  split at h
  · rename_i x e
    split at h
    · rename_i hx
      obtain ⟨w', e1, e2, s'⟩ := s.freeze i e hx
      have := h1 en w' _ σ D B s' h (l.later e2)
      rw [e1] at this; exact this
    · exact h1 en w ρ σ D B s h l
  · exact h1 en w ρ σ D B s h l
/-! ### what is stored: a value, or a new own thing -/
def SN (K : PySem.W.Frag) (mg : Mg) (E : XK) (t : TE) (m : Env → M Dv) : Prop :=
  ∀ (en w : Wd mg.T) (ρ : Env) (σ : L2.St) (Q : Dv → Prop) (Ex : Exn → Prop) (R : VK), St K en w ρ σ → m ρ Q Ex →
    (∀ (x : Dv) (v : V) (w' : Wd mg.T), Grow w w' → RS K w' v x → (x.isOwn = true → ∃ a, v = .ref a ∧ Fr w.H a) → Q x → R v w'.H) →
    (∀ (x : Exn) (u : Value) (o : Option Addr) (w' : Wd mg.T), Grow w w' → Ex x → ExR mg x u o → E u o w'.H) → t σ w.H R
def mVal (me : Env → M Dv) : Env → M Dv := fun ρ Q Ex => me ρ (fun x => x.isOwn = false ∧ Q x) Ex
theorem sn_val (he : SE K mg E te me) : SN K mg E te (mVal me) := fun en w ρ σ Q Ex R s h hq hx =>
  he en w ρ σ _ Ex R s h (fun x v w1 g1 r1 q => hq x v w1 g1 r1 (fun e => by rw [q.1] at e; cases e) q.2) hx
def mOwn (mf : Env → M (List Dt)) : Env → M Dv := fun ρ Q Ex => mf ρ (fun ds => Q (.own ds)) Ex
theorem sn_own {mf : Env → M (List Dt)} (hf : SF K mg E te mf) : SN K mg E te (mOwn mf) := fun en w ρ σ Q Ex R s h hq hx =>
  hf en w ρ σ _ Ex R s h (fun ds a vs w1 g1 h0 h1 h2 h3 h4 q => hq (.own ds) (.ref a) w1 g1 ⟨a, vs, rfl, h1, h2, h3, h4⟩ (fun _ => ⟨a, rfl, h0⟩) q) hx
theorem St.put {en w0 w : Wd T} {ρ : Env} {σ : L2.St} (s : St K en w0 ρ σ) (g : Grow w0 w) (i : Nat) {x : Dv} {v : V} (r : RS K w v x) (hf : x.isOwn = true → ∃ a, v = .ref a ∧ Fr w0.H a) : St K en w (ρ.set i (some x)) (σ.set i (some v)) := by
  cases hx : x.isOwn with
  | false => exact (s.grow g).set i r hx
  | true =>
    obtain ⟨a, rfl, ha⟩ := hf hx
    exact s.setO g i r ha
def mSet (i : Nat) (me : Env → M Dv) : MS := fun B ρ => me ρ (fun x => B.nx (ρ.set i (some x))) B.ex
theorem ss_set (i : Nat) (he : SN K mg E te me) : SS K mg E (tAsg te (gName i)) (mSet i me) := fun en w ρ σ D B s h l =>
  he en w ρ σ _ _ _ s h (fun x v w1 g1 r1 hf q => l.nx w1 _ _ g1.gg (s.put g1 i r1 hf) q) (fun x u o w1 g q r => l.ex x u o w1 (s.gr.trans g) q r)
/-- a, b = e1, e2 -/
def mPar (i j : Nat) (me mf : Env → M Dv) : MS := fun B ρ => me ρ (fun x => mf ρ (fun y => B.nx ((ρ.set i (some x)).set j (some y))) B.ex) B.ex
theorem ss_par {i j : Nat} (hij : i ≠ j) {tf : TE} {mf : Env → M Dv} (he : SN K mg E te me) (hf : SN K mg E tf mf) : SS K mg E (tPar i j (tCons te (tCons tf tNil))) (mPar i j me mf) := fun en w ρ σ D B s h l =>
  he en w ρ σ _ _ _ s h (fun x v w1 g1 r1 h1 q => hf en w1 ρ σ _ _ _ (s.grow g1) q (fun y u w2 g2 r2 h2 q2 => by
    refine ⟨v, u, rfl, ?_⟩
    refine l.nx w2 _ _ (g1.trans g2).gg ?_ q2
    have s1 := (s.put g1 i r1 h1)
    exact s1.put g2 j r2 h2) (fun x u o w2 g q r => l.ex x u o w2 ((s.gr.trans g1).trans g) q r)) (fun x u o w1 g q r => l.ex x u o w1 (s.gr.trans g) q r)
/-! ### targets -/
abbrev STg (K : PySem.W.Frag) (g : TG) (is : List Nat) (f : Env → Dt → (Env → Prop) → Prop) : Prop :=
  ∀ {T : List (PySem.Addr × PySem.Str)} (en w : Wd T) (ρ : Env) (σ : L2.St) (v : V) (d : Dt) (Q : Env → Prop) (R : L2.St → Hp → Prop), St K en w ρ σ → Rp w.G d v → f ρ d Q →
    (∀ ρ' σ', St K en w ρ' σ' → (∀ j, j ∉ is → σ'[j]? = σ[j]?) → σ'.length = σ.length → Q ρ' → R σ' w.H) → g v σ w.H R
def fName (i : Nat) : Env → Dt → (Env → Prop) → Prop := fun ρ d Q => Q (ρ.set i (some (.d d)))
theorem st_name (i : Nat) : STg K (gName i) [i] (fName i) := fun en w ρ σ v d Q R s r h hq => hq _ _ (s.set i (x := .d d) r rfl) (fun j hj => by rw [get_set, if_neg (fun e => hj (by simp [e]))]) (List.length_set ..) h
def fTup2 (f1 f2 : Env → Dt → (Env → Prop) → Prop) : Env → Dt → (Env → Prop) → Prop := fun ρ d Q => match d with
  | .tuple [a, b] => f1 ρ a fun ρ1 => f2 ρ1 b Q
  | _ => False
theorem st_tup2 {g1 g2 : TG} {is js : List Nat} {f1 f2 : Env → Dt → (Env → Prop) → Prop} (h1 : STg K g1 is f1) (h2 : STg K g2 js f2) : STg K (gTup K 2 (gCons g1 (gCons g2 gNil))) (is ++ js) (fTup2 f1 f2) := fun en w ρ σ v d Q R s r h hq => by
  unfold fTup2 at h
  split at h
  · rename_i a b
    simp only [Rp, RpA] at r
    obtain ⟨p, vs, rfl, hp, x, r', rfl, ra, y, r'', rfl, rb, rfl⟩ := r
    refine ⟨p, _, rfl, SqT.of (w.gh _ _ hp), rfl, x, [y], rfl, ?_⟩
    refine h1 en w ρ σ x a _ _ s ra h fun ρ1 σ1 s1 o1 l1 q1 => ?_
    exact ⟨y, [], rfl, h2 en w ρ1 σ1 y b _ _ s1 rb q1 fun ρ2 σ2 s2 o2 l2 q2 => ⟨rfl, hq ρ2 σ2 s2 (fun j hj => by
      rw [List.mem_append] at hj
      rw [o2 j (fun e => hj (.inr e)), o1 j (fun e => hj (.inl e))]) (l2.trans l1) q2⟩⟩
  · exact h.elim
/-- target = e, by the target -/
def mAsgT (f : Env → Dt → (Env → Prop) → Prop) (me : Env → M Dv) : MS := fun B ρ => me ρ (fun x => match x with
  | .d p => f ρ p B.nx
  | _ => False) B.ex
theorem ss_asgT {g : TG} {is : List Nat} {f : Env → Dt → (Env → Prop) → Prop} (hg : STg K g is f) (he : SE K mg E te me) : SS K mg E (tAsg te g) (mAsgT f me) := fun en w ρ σ D B s h l =>
  he en w ρ σ _ _ _ s h (fun x v w1 g1 r1 q => by
    split at q
    · rename_i p
      exact hg en w1 ρ σ v p _ _ (s.grow g1) r1 q fun ρ' σ' s' _ _ q' => l.nx w1 ρ' σ' g1.gg s' q'
    · exact q.elim) (fun x u o w1 g q r => l.ex x u o w1 (s.gr.trans g) q r)
/-! ### x op= e at a name -/
def mAug (i : Nat) (f : Dv → Dv → (Dv → Prop) → Prop) (me : Env → M Dv) : MS := fun B ρ => match ρ[i]? with
  | some (some x) => me ρ (fun y => f x y fun z => z.isOwn = false ∧ B.nx (ρ.set i (some z))) B.ex
  | _ => False
theorem ss_aug (i : Nat) {r : TIp} {f : Dv → Dv → (Dv → Prop) → Prop} (hr : S2 K r f) (he : SE K mg E te me) : SS K mg E (tAug i te r) (mAug i f me) := fun en w ρ σ D B s h l => by
  unfold mAug at h
  split at h
  · rename_i x e
    obtain ⟨v, h1, h2⟩ := s.rs i x e
    refine ⟨v, h1, ?_⟩
    refine he en w ρ σ _ _ _ s h (fun y u w1 g1 r1 q => ?_) (fun x u o w1 g q r => l.ex x u o w1 (s.gr.trans g) q r)
    exact hr w1 x y v u _ _ (h2.grow g1) r1 q fun z v' w2 g2 r2 q2 => l.nx w2 _ _ (g1.trans g2).gg (((s.grow g1).grow g2).set i r2 q2.1) q2.2
  · exact h.elim
/-! ### an own list grows -/
def mApp (i : Nat) (me : Env → M Dv) : MS := fun B ρ => match ρ[i]? with
  | some (some (.own ds)) => me ρ (fun y => match y with
    | .d p => ds.length < sizeLine ∧ B.nx (ρ.set i (some (.own (ds ++ [p]))))
    | _ => False) B.ex
  | _ => False
theorem ss_app (i : Nat) (he : SE K mg E te me) : SS K mg E (tDrop (tBM K "list" rAppend (tVar i) (tCons te tNil))) (mApp i me) := fun en w ρ σ D B s h l => by
  unfold mApp at h
  split at h
  · rename_i ds eo
    obtain ⟨v, h1, a, vs, rfl, q1, q2, q3, q4⟩ := s.rs i _ eo
    refine ⟨.ref a, h1, .inl ⟨rfl, vs, SqL.of q3⟩, ?_⟩
    refine he en w ρ σ _ _ _ s h (fun y u w1 g1 r1 q => ?_) (fun x u o w1 g q r => l.ex x u o w1 (s.gr.trans g) q r)
    split at q
    · rename_i p
      obtain ⟨p1, p2, p3⟩ := g1.own q1 q2 q3 lst_nt
      refine ⟨a, vs, u, rfl, rfl, p3, by rw [q4.length]; exact q.1, ?_⟩
      obtain ⟨w', e1, e2, s', _⟩ := (s.grow g1).mut i (y := .own (ds ++ [p])) eo rfl h1 p1 p2 p3 lst_nt lst_nc (o' := .lst (vs ++ [u])) (fun w' hG hC hH => ⟨a, _, rfl, by rw [hG]; exact p1, by rw [hC]; exact p2, hH, by rw [hG]; exact (RpA.mono g1.gg _ _ q4).append (.cons r1 .nil)⟩) rfl
      have := l.nx w' _ σ (by rw [e2]; exact g1.gg) s' q.2
      rw [e1] at this; exact this
    · exact q.elim
  · exact h.elim
def mExt (i : Nat) (me : Env → M Dv) : MS := fun B ρ => match ρ[i]? with
  | some (some (.own ds)) => me ρ (fun y => match y.ls? with
    | some es => ds.length + es.length ≤ sizeLine ∧ B.nx (ρ.set i (some (.own (ds ++ es))))
    | none => False) B.ex
  | _ => False
theorem ss_ext (i : Nat) (he : SE K mg E te me) : SS K mg E (tDrop (tBM K "list" rExtend (tVar i) (tCons te tNil))) (mExt i me) := fun en w ρ σ D B s h l => by
  unfold mExt at h
  split at h
  · rename_i ds eo
    obtain ⟨v, h1, a, vs, rfl, q1, q2, q3, q4⟩ := s.rs i _ eo
    refine ⟨.ref a, h1, .inl ⟨rfl, vs, SqL.of q3⟩, ?_⟩
    refine he en w ρ σ _ _ _ s h (fun y u w1 g1 r1 q => ?_) (fun x u o w1 g q r => l.ex x u o w1 (s.gr.trans g) q r)
    split at q
    · rename_i es e2
      obtain ⟨b, us, rfl, z1, z2⟩ := ls_rs r1 e2
      obtain ⟨p1, p2, p3⟩ := g1.own q1 q2 q3 lst_nt
      refine ⟨a, b, vs, us, rfl, rfl, p3, z1, by rw [q4.length, z2.length]; exact q.1, ?_⟩
      obtain ⟨w', e1, e2, s', _⟩ := (s.grow g1).mut i (y := .own (ds ++ es)) eo rfl h1 p1 p2 p3 lst_nt lst_nc (o' := .lst (vs ++ us)) (fun w' hG hC hH => ⟨a, _, rfl, by rw [hG]; exact p1, by rw [hC]; exact p2, hH, by rw [hG]; exact (RpA.mono g1.gg _ _ q4).append z2⟩) rfl
      have := l.nx w' _ σ (by rw [e2]; exact g1.gg) s' q.2
      rw [e1] at this; exact this
    · exact q.elim
  · exact h.elim
/-! ### what is walked -/
structure Wk (K : PySem.W.Frag) (J : It) (ds : List Dt) (G1 : Hp) : Prop where
  go : ∀ {T : List (PySem.Addr × PySem.Str)} (w : Wd T) (i : Nat), Same G1 w.G → i < ds.length → J.go i w.H
  stop : ∀ {T : List (PySem.Addr × PySem.Str)} (w : Wd T) (i : Nat), Same G1 w.G → ds.length ≤ i → J.stop i w.H
  yld : ∀ {T : List (PySem.Addr × PySem.Str)} (w : Wd T) (i : Nat) (x : V) (H' : Hp) (d : Dt), Same G1 w.G → ds[i]? = some d → J.yld i w.H x H' → ∃ w' : Wd T, Grow w w' ∧ w'.H = H' ∧ Rp w'.G d x
def SI (K : PySem.W.Frag) (mg : Mg) (E : XK) (wi : TI) (m : Env → M (List Dt)) : Prop :=
  ∀ (en w : Wd mg.T) (ρ : Env) (σ : L2.St) (Q : List Dt → Prop) (Ex : Exn → Prop) (R : It → Hp → Prop), St K en w ρ σ → m ρ Q Ex →
    (∀ (ds : List Dt) (J : It) (w' : Wd mg.T), Grow w w' → Wk K J ds w'.G → Q ds → R J w'.H) →
    (∀ (x : Exn) (u : Value) (o : Option Addr) (w' : Wd mg.T), Grow w w' → Ex x → ExR mg x u o → E u o w'.H) → wi σ w.H R
/-- a list's items (of data) -/
def mItems (me : Env → M Dv) : Env → M (List Dt) := fun ρ Q Ex => me ρ (fun x => match x with
  | .d (.list ds) => Q ds
  | _ => False) Ex
def mItemsT (me : Env → M Dv) : Env → M (List Dt) := fun ρ Q Ex => me ρ (fun x => match x with
  | .d (.tuple ds) => Q ds
  | _ => False) Ex
theorem wk_list {J : Addr} {G1 : Hp} {vs : List V} {ds : List Dt} (h1 : G1 J = some (.lst vs)) (h2 : RpA G1 ds vs) : Wk K (Itl K J) ds G1 where
  go := fun w i g hi => by
    have e := List.getElem?_eq_getElem hi
    obtain ⟨v, q, _⟩ := h2.get e
    exact ⟨vs, v, SqL.of (w.gh _ _ (g _ _ h1)), q⟩
  stop := fun w i g hi => ⟨vs, SqL.of (w.gh _ _ (g _ _ h1)), by rw [h2.length]; exact hi⟩
  yld := fun w i x H' d g hd y => by
    obtain ⟨rfl, y⟩ := y
    obtain ⟨v, q, r⟩ := h2.get hd
    have := y vs (SqL.of (w.gh _ _ (g _ _ h1)))
    rw [q] at this
    injection this with this; subst this
    exact ⟨w, .refl w, rfl, Rp.mono g _ _ r⟩
theorem wk_tup {J : Addr} {G1 : Hp} {vs : List V} {ds : List Dt} (h1 : G1 J = some (.tup vs)) (h2 : RpA G1 ds vs) : Wk K (Itt K J) ds G1 where
  go := fun w i g hi => by
    have e := List.getElem?_eq_getElem hi
    obtain ⟨v, q, _⟩ := h2.get e
    exact ⟨vs, v, SqT.of (w.gh _ _ (g _ _ h1)), q⟩
  stop := fun w i g hi => ⟨vs, SqT.of (w.gh _ _ (g _ _ h1)), by rw [h2.length]; exact hi⟩
  yld := fun w i x H' d g hd y => by
    obtain ⟨rfl, y⟩ := y
    obtain ⟨v, q, r⟩ := h2.get hd
    have := y vs (SqT.of (w.gh _ _ (g _ _ h1)))
    rw [q] at this
    injection this with this; subst this
    exact ⟨w, .refl w, rfl, Rp.mono g _ _ r⟩
theorem si_list (he : SE K mg E te me) : SI K mg E (iList K te) (mItems me) := fun en w ρ σ Q Ex R s h hq hx =>
  he en w ρ σ _ Ex _ s h (fun x v w1 g1 r1 q => by
    split at q
    · rename_i ds
      simp only [RS, Rp] at r1
      obtain ⟨a, vs, rfl, h1, h2⟩ := r1
      exact ⟨a, rfl, ⟨vs, SqL.of (w1.gh _ _ h1)⟩, hq ds _ w1 g1 (wk_list h1 h2) q⟩
    · exact q.elim) hx
theorem si_tup (he : SE K mg E te me) : SI K mg E (iTup K te) (mItemsT me) := fun en w ρ σ Q Ex R s h hq hx =>
  he en w ρ σ _ Ex _ s h (fun x v w1 g1 r1 q => by
    split at q
    · rename_i ds
      simp only [RS, Rp] at r1
      obtain ⟨a, vs, rfl, h1, h2⟩ := r1
      exact ⟨a, rfl, ⟨vs, SqT.of (w1.gh _ _ h1)⟩, hq ds _ w1 g1 (wk_tup h1 h2) q⟩
    · exact q.elim) hx
/-- lo, lo + 1, .. (n of them) -/
def rngD (lo : Int) (n : Nat) : List Dt := (List.range n).map fun i => .int (lo + (i : Nat))
theorem wk_rng {lo : Int} {n : Nat} {G1 : Hp} : Wk K (Itr lo n) (rngD lo n) G1 where
  go := fun w i g hi => by simpa [rngD, Itr] using hi
  stop := fun w i g hi => by simpa [rngD, Itr] using hi
  yld := fun w i x H' d g hd y => by
    obtain ⟨rfl, rfl⟩ := y
    refine ⟨w, .refl w, rfl, ?_⟩
    unfold rngD at hd
    rw [List.getElem?_map] at hd
    cases e : (List.range n)[i]? with
    | none => rw [e] at hd; cases hd
    | some j =>
      rw [e] at hd
      have hj : j = i := by
        have hb : i < n := by
          have := (List.getElem?_eq_some_iff.mp e).1
          simpa using this
        rw [List.getElem?_range hb] at e
        injection e with e; exact e.symm
      simp only [Option.map_some, Option.some.injEq] at hd
      subst hd; subst hj
      simp [Rp]
def mRng1 (ma : Env → M (List Dv)) : Env → M (List Dt) := fun ρ Q Ex => ma ρ (fun xs => match xs with
  | [.d (.int j)] => -(2 ^ 62) ≤ j ∧ j < 2 ^ 62 ∧ Q (rngD 0 j.toNat)
  | _ => False) Ex
def mRng2 (ma : Env → M (List Dv)) : Env → M (List Dt) := fun ρ Q Ex => ma ρ (fun xs => match xs with
  | [.d (.int i), .d (.int j)] => (-(2 ^ 62) ≤ i ∧ i < 2 ^ 62 ∧ -(2 ^ 62) ≤ j ∧ j < 2 ^ 62) ∧ Q (rngD i (j - i).toNat)
  | _ => False) Ex
theorem si_rng1 {k : Nat} {ta : TA} {ma : Env → M (List Dv)} (ha : SA K mg E k ta ma) : SI K mg E (iRng1 ta) (mRng1 ma) := fun en w ρ σ Q Ex R s h hq hx =>
  ha en w ρ σ _ Ex _ s h (fun xs vs w1 g1 r1 hl q => by
    split at q
    · rename_i j
      obtain ⟨v, rfl, rv⟩ := r1.one
      simp only [RS, Rp] at rv; subst rv
      exact ⟨j, rfl, q.1, q.2.1, hq _ _ w1 g1 wk_rng q.2.2⟩
    · exact q.elim) hx
theorem si_rng2 {k : Nat} {ta : TA} {ma : Env → M (List Dv)} (ha : SA K mg E k ta ma) : SI K mg E (iRng2 ta) (mRng2 ma) := fun en w ρ σ Q Ex R s h hq hx =>
  ha en w ρ σ _ Ex _ s h (fun xs vs w1 g1 r1 hl q => by
    split at q
    · rename_i i j
      obtain ⟨v, u, rfl, rv, ru⟩ := r1.two
      simp only [RS, Rp] at rv ru; subst rv; subst ru
      exact ⟨i, j, rfl, q.1, hq _ _ w1 g1 wk_rng q.2⟩
    · exact q.elim) hx
/-- zip -/
def zipD : List Dt → List Dt → List Dt
  | a :: as, b :: bs => .tuple [a, b] :: zipD as bs
  | _, _ => []
theorem zipD_get : ∀ {as bs : List Dt} {i : Nat} {d : Dt}, (zipD as bs)[i]? = some d → ∃ a b, as[i]? = some a ∧ bs[i]? = some b ∧ d = .tuple [a, b]
  | a :: as, b :: bs, 0, d, h => by simp [zipD] at h; subst h; exact ⟨a, b, rfl, rfl, rfl⟩
  | a :: as, b :: bs, i + 1, d, h => by simpa using zipD_get (as := as) (bs := bs) (i := i) (by simpa [zipD] using h)
  | [], _, i, d, h => by simp [zipD] at h
  | _ :: _, [], i, d, h => by simp [zipD] at h
theorem zipD_len : ∀ (as bs : List Dt), (zipD as bs).length = min as.length bs.length
  | a :: as, b :: bs => by simp [zipD, zipD_len as bs]
  | [], _ => by simp [zipD]
  | _ :: _, [] => by simp [zipD]
def fZip : Dv → Dv → (List Dt → Prop) → Prop
  | .d (.list as), .d (.list bs), Q => Q (zipD as bs)
  | .d (.tuple as), .d (.tuple bs), Q => Q (zipD as bs)
  | _, _, _ => False
def mZip (ma : Env → M (List Dv)) : Env → M (List Dt) := fun ρ Q Ex => ma ρ (fun xs => match xs with
  | [x, y] => fZip x y Q
  | _ => False) Ex
theorem new_pair {w : Wd T} {q : Addr} {x y : V} {a b : Dt} (hT : w.H q = none) (ra : Rp w.G a x) (rb : Rp w.G b y) : ∃ w' : Wd T, Grow w w' ∧ w'.H = upd w.H q (.tup [x, y]) ∧ Rp w'.G (.tuple [a, b]) (.ref q) :=
  ⟨w.add q _ hT tup_nt, Grow.add hT tup_nt, rfl, by
    have g := (Grow.add (w := w) (o := .tup [x, y]) hT tup_nt).gg
    simp only [Rp]
    exact ⟨q, [x, y], rfl, upd_same, .cons (Rp.mono g _ _ ra) (.cons (Rp.mono g _ _ rb) .nil)⟩⟩
theorem si_zip {k : Nat} {ta : TA} {ma : Env → M (List Dv)} (ha : SA K mg E k ta ma) : SI K mg E (RZ.iZipA K ta) (mZip ma) := fun en w ρ σ Q Ex R s h hq hx =>
  ha en w ρ σ _ Ex _ s h (fun xs vs w1 g1 r1 hl q => by
    split at q
    · rename_i x y
      obtain ⟨v, u, rfl, rv, ru⟩ := r1.two
      unfold fZip at q
      split at q
      · rename_i as bs
        simp only [RS, Rp] at rv ru
        obtain ⟨a, vs, rfl, h1, h2⟩ := rv
        obtain ⟨b, us, rfl, h3, h4⟩ := ru
        refine ⟨a, b, vs, us, rfl, .inl ⟨SqL.of (w1.gh _ _ h1), SqL.of (w1.gh _ _ h3), hq _ _ w1 g1 ⟨fun w i g hi => ?_, fun w i g hi => ?_, fun w i z H' d g hd y => ?_⟩ q⟩⟩
        · obtain ⟨x, y, e1, e2, _⟩ := zipD_get (List.getElem?_eq_getElem hi)
          obtain ⟨x', p1, _⟩ := h2.get e1
          obtain ⟨y', p2, _⟩ := h4.get e2
          exact ⟨vs, us, x', y', SqL.of (w.gh _ _ (g _ _ h1)), SqL.of (w.gh _ _ (g _ _ h3)), p1, p2⟩
        · rw [zipD_len] at hi
          exact ⟨vs, us, SqL.of (w.gh _ _ (g _ _ h1)), SqL.of (w.gh _ _ (g _ _ h3)), by rw [h2.length, h4.length]; omega⟩
        · obtain ⟨x, y', e1, e2, rfl⟩ := zipD_get hd
          obtain ⟨x', p1, p1'⟩ := h2.get e1
          obtain ⟨y'', p2, p2'⟩ := h4.get e2
          obtain ⟨T, c, d, rfl, hT, rfl, f1, f2⟩ := y
          have := f1 vs (SqL.of (w.gh _ _ (g _ _ h1)))
          rw [p1] at this; injection this with this; subst this
          have := f2 us (SqL.of (w.gh _ _ (g _ _ h3)))
          rw [p2] at this; injection this with this; subst this
          exact new_pair hT (Rp.mono g _ _ p1') (Rp.mono g _ _ p2')
      · rename_i as bs
        simp only [RS, Rp] at rv ru
        obtain ⟨a, vs, rfl, h1, h2⟩ := rv
        obtain ⟨b, us, rfl, h3, h4⟩ := ru
        refine ⟨a, b, vs, us, rfl, .inr ⟨SqT.of (w1.gh _ _ h1), SqT.of (w1.gh _ _ h3), hq _ _ w1 g1 ⟨fun w i g hi => ?_, fun w i g hi => ?_, fun w i z H' d g hd y => ?_⟩ q⟩⟩
        · obtain ⟨x, y, e1, e2, _⟩ := zipD_get (List.getElem?_eq_getElem hi)
          obtain ⟨x', p1, _⟩ := h2.get e1
          obtain ⟨y', p2, _⟩ := h4.get e2
          exact ⟨vs, us, x', y', SqT.of (w.gh _ _ (g _ _ h1)), SqT.of (w.gh _ _ (g _ _ h3)), p1, p2⟩
        · rw [zipD_len] at hi
          exact ⟨vs, us, SqT.of (w.gh _ _ (g _ _ h1)), SqT.of (w.gh _ _ (g _ _ h3)), by rw [h2.length, h4.length]; omega⟩
        · obtain ⟨x, y', e1, e2, rfl⟩ := zipD_get hd
          obtain ⟨x', p1, p1'⟩ := h2.get e1
          obtain ⟨y'', p2, p2'⟩ := h4.get e2
          obtain ⟨T, c, d, rfl, hT, rfl, f1, f2⟩ := y
          have := f1 vs (SqT.of (w.gh _ _ (g _ _ h1)))
          rw [p1] at this; injection this with this; subst this
          have := f2 us (SqT.of (w.gh _ _ (g _ _ h3)))
          rw [p2] at this; injection this with this; subst this
          exact new_pair hT (Rp.mono g _ _ p1') (Rp.mono g _ _ p2')
      · exact q.elim
    · exact q.elim) hx
/-! ### for, while -/
def forL (f : Env → Dt → (Env → Prop) → Prop) (body : MS) (B : Me) : List Dt → Env → Prop
  | [], ρ => B.nx ρ
  | d :: ds, ρ => f ρ d fun ρ1 => body { B with nx := forL f body B ds, ct := forL f body B ds, bk := B.nx } ρ1
def mFor (mi : Env → M (List Dt)) (f : Env → Dt → (Env → Prop) → Prop) (body : MS) : MS := fun B ρ => mi ρ (fun ds => forL f body B ds ρ) B.ex
theorem ss_for {wi : TI} {mi : Env → M (List Dt)} {g : TG} {is : List Nat} {f : Env → Dt → (Env → Prop) → Prop} {tb : TS} {mb : MS} (hi : SI K mg E wi mi) (hg : STg K g is f) (hb : SS K mg E tb mb) : SS K mg E (tFor wi g tb) (mFor mi f mb) := fun en w ρ σ D B s h l =>
  hi en w ρ σ _ _ _ s h (fun ds J w1 g1 wk q => by
    refine ⟨fun i m σ H => ∃ w ρ, w.H = H ∧ St K en w ρ σ ∧ Same w1.G w.G ∧ forL f mb B (ds.drop i) ρ ∧ m = ds.length - i, ⟨ds.length, w1, ρ, rfl, s.grow g1, Same.refl _, by simpa using q, by simp⟩, ?_⟩
    rintro i m σ' H ⟨w2, ρ2, rfl, s2, g2, q2, rfl⟩
    by_cases hlt : i < ds.length
    · have hd : ds[i]? = some ds[i] := List.getElem?_eq_getElem hlt
      rw [List.drop_eq_getElem_cons hlt] at q2
      refine .inr ⟨wk.go w2 i g2 hlt, fun σ' H' => ∃ w ρ, w.H = H' ∧ St K en w ρ σ' ∧ Same w1.G w.G ∧ forL f mb B (ds.drop (i + 1)) ρ, fun σ' H' ⟨w3, ρ3, e3, s3, g3, q3⟩ => ⟨ds.length - (i + 1), by omega, w3, ρ3, e3, s3, g3, q3, rfl⟩, fun x H' y => ?_⟩
      obtain ⟨w3, g3, rfl, r3⟩ := wk.yld w2 i x H' _ g2 hd y
      refine hg en w3 ρ2 σ' x _ _ _ (s2.grow g3) r3 q2 fun ρ4 σ4 s4 _ _ q4 => ?_
      have g4 : Same w1.G w3.G := g2.trans g3.gg
      exact hb en w3 ρ4 σ4 _ _ s4 q4 ⟨fun w5 ρ5 σ5 g5 s5 q5 => ⟨w5, ρ5, rfl, s5, g4.trans g5, q5⟩, l.rt, fun w5 ρ5 σ5 g5 s5 q5 => l.nx w5 ρ5 σ5 ((g1.gg.trans g4).trans g5) s5 q5, fun w5 ρ5 σ5 g5 s5 q5 => ⟨w5, ρ5, rfl, s5, g4.trans g5, q5⟩, l.ex⟩
    · have e : ds.drop i = [] := List.drop_eq_nil_of_le (by omega)
      rw [e] at q2
      exact .inl ⟨wk.stop w2 i g2 (by omega), l.nx w2 ρ2 σ' (g1.gg.trans g2) s2 q2⟩) (fun x u o w1 g q r => l.ex x u o w1 (s.gr.trans g) q r)
def whileN (mt : Env → M Bool) (body : MS) (B : Me) : Nat → Env → Prop
  | 0, _ => False
  | n + 1, ρ => mt ρ (fun c => if c = true then body { B with nx := whileN mt body B n, ct := whileN mt body B n, bk := B.nx } ρ else B.nx ρ) B.ex
def mWhile (mt : Env → M Bool) (body : MS) : MS := fun B ρ => ∃ n, whileN mt body B n ρ
theorem ss_while {tt : TT} {mt : Env → M Bool} {tb : TS} {mb : MS} (ht : SB K mg E tt mt) (hb : SS K mg E tb mb) : SS K mg E (tWhile tt tb) (mWhile mt mb) := fun en w ρ σ D B s h l => by
  obtain ⟨n, h⟩ := h
  refine ⟨fun m σ H => ∃ w2 ρ, w2.H = H ∧ St K en w2 ρ σ ∧ Same w.G w2.G ∧ whileN mt mb B m ρ, ⟨n, w, ρ, rfl, s, Same.refl _, h⟩, ?_⟩
  rintro m σ' H ⟨w2, ρ2, rfl, s2, g2, q2⟩
  cases m with
  | zero => exact q2.elim
  | succ m =>
    refine ht en w2 ρ2 σ' _ _ _ s2 q2 (fun c w3 g3 q3 => ?_) (fun x u o w1 g q r => l.ex x u o w1 (s2.gr.trans g) q r)
    have g4 : Same w.G w3.G := g2.trans g3.gg
    cases c with
    | true =>
      rw [if_pos rfl] at q3 ⊢
      refine ⟨fun σ' H' => ∃ w5 ρ5, w5.H = H' ∧ St K en w5 ρ5 σ' ∧ Same w.G w5.G ∧ whileN mt mb B m ρ5, fun σ' H' q => ⟨m, Nat.lt_succ_self m, q⟩, ?_⟩
      exact hb en w3 ρ2 σ' _ _ (s2.grow g3) q3 ⟨fun w5 ρ5 σ5 g5 s5 q5 => ⟨w5, ρ5, rfl, s5, g4.trans g5, q5⟩, l.rt, fun w5 ρ5 σ5 g5 s5 q5 => l.nx w5 ρ5 σ5 (g4.trans g5) s5 q5, fun w5 ρ5 σ5 g5 s5 q5 => ⟨w5, ρ5, rfl, s5, g4.trans g5, q5⟩, l.ex⟩
    | false =>
      rw [if_neg Bool.false_ne_true] at q3 ⊢
      exact l.nx w3 ρ2 σ' g4 (s2.grow g3) q3
/-! ### list comprehensions -/
def wipeE (ρ : Env) : List Nat → Env
  | [] => ρ
  | v :: vs => (wipeE ρ vs).set v none
theorem wipeE_length (ρ : Env) : ∀ vs : List Nat, (wipeE ρ vs).length = ρ.length
  | [] => rfl
  | v :: vs => by rw [wipeE, List.length_set, wipeE_length ρ vs]
theorem wipeE_some {ρ : Env} {i : Nat} {x : Dv} : ∀ {vs : List Nat}, (wipeE ρ vs)[i]? = some (some x) → ρ[i]? = some (some x) ∧ i ∉ vs
  | [], h => ⟨h, by simp⟩
  | v :: vs, h => by
    rw [wipeE, get_set] at h
    by_cases e : v = i
    · rw [if_pos e] at h
      split at h
      · cases h
      · cases h
    · rw [if_neg e] at h
      obtain ⟨h1, h2⟩ := wipeE_some h
      exact ⟨h1, by simp [h2, Ne.symm e]⟩
theorem wipe_in {σ : L2.St} {i : Nat} : ∀ {vs : List Nat}, i ∈ vs → (wipe σ vs)[i]? = if i < σ.length then some none else none
  | v :: vs, h => by
    rw [wipe, get_set, wipe_length]
    by_cases e : v = i
    · rw [if_pos e, e]
    · rw [if_neg e]
      exact wipe_in ((List.mem_cons.mp h).resolve_left (Ne.symm e))
theorem wipe_same {σ σ' : L2.St} {vs is : List Nat} (hs : ∀ j ∈ is, j ∈ vs) (h : ∀ j, j ∉ is → σ'[j]? = σ[j]?) (hl : σ'.length = σ.length) : wipe σ' vs = wipe σ vs := by
  apply List.ext_getElem?
  intro j
  by_cases e : j ∈ vs
  · rw [wipe_in e, wipe_in e, hl]
  · rw [wipe_out e, wipe_out e, h j (fun z => e (hs j z))]
theorem wipe_wipe {σ : L2.St} {vs : List Nat} : wipe (wipe σ vs) vs = wipe σ vs := by
  refine wipe_same (is := vs) (fun _ h => h) (fun j hj => wipe_out hj) (wipe_length _ _)
theorem St.wipe {en w : Wd T} {ρ : Env} {σ : L2.St} (s : St K en w ρ σ) (vs : List Nat) : St K en w (wipeE ρ vs) (L2.wipe σ vs) where
  len := by rw [wipe_length, wipeE_length]; exact s.len
  rs := fun i x h => by
    obtain ⟨h1, h2⟩ := wipeE_some h
    rw [wipe_out h2]
    exact s.rs i x h1
  un := fun i j x y a h1 h2 o1 o2 h3 h4 => by
    obtain ⟨p1, p2⟩ := wipeE_some h1
    obtain ⟨p3, p4⟩ := wipeE_some h2
    rw [wipe_out p2] at h3
    rw [wipe_out p4] at h4
    exact s.un i j x y a p1 p3 o1 o2 h3 h4
  fr := fun i x a h1 o1 h3 => by
    obtain ⟨p1, p2⟩ := wipeE_some h1
    rw [wipe_out p2] at h3
    exact s.fr i x a p1 o1 h3
  gr := s.gr
/-- one more slot, and without it -/
theorem St.more {en w0 w : Wd T} {ρ : Env} {σ : L2.St} (s0 : St K en w0 ρ σ) (g : Grow w0 w) {x : Dv} {a : Addr} (r : RS K w (.ref a) x) (ha : Fr w0.H a) : St K en w (ρ ++ [some x]) (σ ++ [some (.ref a)]) := by
  have s1 : St K en w0 (ρ ++ [none]) (σ ++ [none]) := by
    have key : ∀ (i : Nat) (x : Dv), (ρ ++ [none])[i]? = some (some x) → ρ[i]? = some (some x) ∧ i < ρ.length := fun i x h => by
      by_cases e : i < ρ.length
      · rw [List.getElem?_append_left e] at h; exact ⟨h, e⟩
      · rw [List.getElem?_append_right (by omega)] at h
        cases hk : i - ρ.length with
        | zero => rw [hk] at h; simp at h
        | succ k => rw [hk] at h; simp at h
    have lft : ∀ (i : Nat), i < ρ.length → (σ ++ [none])[i]? = σ[i]? := fun i h => List.getElem?_append_left (by rw [s0.len]; exact h)
    refine ⟨by simp [s0.len], fun i x h => ?_, fun i j x y a h1 h2 o1 o2 h3 h4 => ?_, fun i x a h1 o1 h3 => ?_, s0.gr⟩
    · obtain ⟨p1, p2⟩ := key i x h
      rw [lft i p2]; exact s0.rs i x p1
    · obtain ⟨p1, p2⟩ := key i x h1
      obtain ⟨p3, p4⟩ := key j y h2
      rw [lft i p2] at h3
      rw [lft j p4] at h4
      exact s0.un i j x y a p1 p3 o1 o2 h3 h4
    · obtain ⟨p1, p2⟩ := key i x h1
      rw [lft i p2] at h3
      exact s0.fr i x a p1 o1 h3
  have s2 := s1.setO g ρ.length r ha
  have e1 : (ρ ++ [none]).set ρ.length (some x) = ρ ++ [some x] := by
    rw [List.set_append_right _ _ (Nat.le_refl _)]; simp
  have e2 : (σ ++ [none]).set ρ.length (some (V.ref a)) = σ ++ [some (.ref a)] := by
    rw [← s0.len, List.set_append_right _ _ (Nat.le_refl _)]; simp
  rw [e1, e2] at s2
  exact s2
theorem St.less {en w : Wd T} {ρ : Env} {σ : L2.St} {x : Option Dv} {v : Option V} (s : St K en w (ρ ++ [x]) (σ ++ [v])) : St K en w ρ σ := by
  have hl : σ.length = ρ.length := by have := s.len; simpa using this
  have up : ∀ (i : Nat) (x : Dv), ρ[i]? = some (some x) → i < ρ.length := fun i x h => (List.getElem?_eq_some_iff.mp h).1
  have lr : ∀ (i : Nat) (y : Dv), ρ[i]? = some (some y) → (ρ ++ [x])[i]? = some (some y) := fun i y h => by rw [List.getElem?_append_left (up i y h)]; exact h
  have ls : ∀ (i : Nat), i < ρ.length → (σ ++ [v])[i]? = σ[i]? := fun i h => List.getElem?_append_left (by rw [hl]; exact h)
  refine ⟨hl, fun i y h => ?_, fun i j y z a h1 h2 o1 o2 h3 h4 => ?_, fun i y a h1 o1 h3 => ?_, s.gr⟩
  · obtain ⟨u, p1, p2⟩ := s.rs i y (lr i y h)
    rw [ls i (up i y h)] at p1
    exact ⟨u, p1, p2⟩
  · exact s.un i j y z a (lr i y h1) (lr j z h2) o1 o2 (by rw [ls i (up i y h1)]; exact h3) (by rw [ls j (up j z h2)]; exact h4)
  · exact s.fr i y a (lr i y h1) o1 (by rw [ls i (up i y h1)]; exact h3)
def lcL (f : Env → Dt → (Env → Prop) → Prop) (mt : Env → M Bool) (me : Env → M Dv) (ρ0 : Env) (Q : List Dt → Prop) : List Dt → List Dt → Prop
  | [], acc => Q acc
  | d :: ds, acc => f ρ0 d fun ρ1 => mt ρ1 (fun b => if b = true then me ρ1 (fun y => match y with
      | .d p => acc.length < sizeLine ∧ lcL f mt me ρ0 Q ds (acc ++ [p])
      | _ => False) (fun _ => False) else lcL f mt me ρ0 Q ds acc) (fun _ => False)
def mLc (mi : Env → M (List Dt)) (f : Env → Dt → (Env → Prop) → Prop) (mt : Env → M Bool) (me : Env → M Dv) (vs : List Nat) : Env → M (List Dt) := fun ρ Q Ex => mi ρ (fun ds => lcL f mt me (wipeE ρ vs) Q ds []) Ex
abbrev EN : XK := fun _ _ _ => False
def mYes : Env → M Bool := fun _ Q _ => Q true
theorem sb_yes : SB K mg E tYes mYes := fun en w ρ σ Q Ex R s h hq _ => hq true w (.refl w) h
theorem sf_lc {wi : TI} {mi : Env → M (List Dt)} {g : TG} {is vs : List Nat} {f : Env → Dt → (Env → Prop) → Prop} {tt : TT} {mt : Env → M Bool} (hi : SI K mg E wi mi) (hg : STg K g is f) (hs : ∀ j ∈ is, j ∈ vs) (ht : SB K mg EN tt mt) (he : SE K mg EN te me) :
    SF K mg E (tLc wi g tt te vs) (mLc mi f mt me vs) := fun en w ρ σ Q Ex R s h hq hx =>
  hi en w ρ σ _ Ex _ s h (fun ds J w1 g1 wk q => by
    intro D hD
    have s1 : St K en w1 (wipeE ρ vs) (L2.wipe σ vs) := (s.grow g1).wipe vs
    have s2 : St K en (w1.lay D (.lst []) hD) (wipeE ρ vs ++ [some (.own [])]) (L2.wipe σ vs ++ [some (.ref D)]) :=
      s1.more (Grow.lay hD) ⟨D, [], rfl, Wd.g_none (w := w1) hD, fun hc => (w1.cat D hc).ne hD rfl, upd_same, .nil⟩ (.of hD)
    have g0 : Grow w (w1.lay D (.lst []) hD) := g1.trans (Grow.lay hD)
    have h0 : Fr w.H D := g1.dom D (.of hD)
    -- the turns' word
    refine ⟨fun i m H => ∃ w2 acc, w2.H = H ∧ Grow w w2 ∧ St K en w2 (wipeE ρ vs ++ [some (.own acc)]) (L2.wipe σ vs ++ [some (.ref D)]) ∧ Same w1.G w2.G ∧ lcL f mt me (wipeE ρ vs) Q (ds.drop i) acc ∧ m = ds.length - i,
      ⟨ds.length, w1.lay D (.lst []) hD, [], rfl, g0, s2, Same.refl _, by simpa using q, by simp⟩, ?_⟩
    rintro i m H ⟨w2, acc, rfl, sA, sB, g2, q2, rfl⟩
    have at_ : (wipeE ρ vs ++ [some (Dv.own acc)])[(wipeE ρ vs).length]? = some (some (.own acc)) := by simp
    have atD : (L2.wipe σ vs ++ [some (V.ref D)])[(wipeE ρ vs).length]? = some (some (.ref D)) := by
      rw [← s1.len, List.getElem?_append_right (Nat.le_refl _)]; simp
    obtain ⟨v, hv, a, us, rfl, z1, z2, z3, z4⟩ := sB.rs _ _ at_
    rw [atD] at hv
    injection hv with hv; injection hv with hv; injection hv with hv
    subst hv
    by_cases hlt : i < ds.length
    · have hd : ds[i]? = some ds[i] := List.getElem?_eq_getElem hlt
      rw [List.drop_eq_getElem_cons hlt] at q2
      refine .inr ⟨wk.go w2 i g2 hlt, fun H' => ∃ w2 acc, w2.H = H' ∧ Grow w w2 ∧ St K en w2 (wipeE ρ vs ++ [some (.own acc)]) (L2.wipe σ vs ++ [some (.ref D)]) ∧ Same w1.G w2.G ∧ lcL f mt me (wipeE ρ vs) Q (ds.drop (i + 1)) acc,
        fun H' ⟨w3, acc', e3, a3, b3, g3, q3⟩ => ⟨ds.length - (i + 1), by omega, w3, acc', e3, a3, b3, g3, q3, rfl⟩, fun x H' y => ?_⟩
      obtain ⟨w3, g3, rfl, r3⟩ := wk.yld w2 i x H' _ g2 hd y
      refine hg en w3 _ _ x _ _ _ (sB.less.grow g3) r3 q2 fun ρ4 σ4 s4 o4 l4 q4 => ?_
      refine ⟨(wipe_same hs o4 l4).trans wipe_wipe, ?_⟩
      refine ht en w3 ρ4 σ4 _ _ _ s4 q4 (fun b w5 g5 q5 => ?_) (fun x u o w' _ z _ => z.elim)
      split at q5
      · rename_i hb
        rw [if_pos hb]
        refine he en w5 ρ4 σ4 _ _ _ (s4.grow g5) q5 (fun y u w6 g6 r6 q6 => ?_) (fun x u o w' _ z _ => z.elim)
        split at q6
        · rename_i p
          have gg : Grow w2 w6 := (g3.trans g5).trans g6
          obtain ⟨p1, p2, p3⟩ := gg.own z1 z2 z3 lst_nt
          refine ⟨us, p3, by rw [z4.length]; exact q6.1, ?_⟩
          have zz : RpA w6.G (acc ++ [p]) (us ++ [u]) := (RpA.mono gg.gg _ _ z4).append (.cons r6 .nil)
          obtain ⟨w7, e1, e2, s7, s8⟩ := (sB.grow gg).mut (wipeE ρ vs).length (y := .own (acc ++ [p])) at_ rfl atD p1 p2 p3 lst_nt lst_nc (o' := .lst (us ++ [u])) (fun w' hG hC hH => ⟨D, _, rfl, by rw [hG]; exact p1, by rw [hC]; exact p2, hH, by rw [hG]; exact zz⟩) rfl
          have es : (wipeE ρ vs ++ [some (Dv.own acc)]).set (wipeE ρ vs).length (some (Dv.own (acc ++ [p]))) = wipeE ρ vs ++ [some (Dv.own (acc ++ [p]))] := by
            rw [List.set_append_right _ _ (Nat.le_refl _)]; simp
          rw [es] at s7
          exact ⟨w7, acc ++ [p], e1, s8 w (sA.trans gg) h0, s7, by rw [e2]; exact g2.trans gg.gg, q6.2⟩
        · exact q6.elim
      · rename_i hb
        rw [if_neg hb]
        have gg : Grow w2 w5 := g3.trans g5
        exact ⟨w5, acc, rfl, sA.trans gg, sB.grow gg, g2.trans gg.gg, q5⟩
    · have e : ds.drop i = [] := List.drop_eq_nil_of_le (by omega)
      rw [e] at q2
      exact .inl ⟨wk.stop w2 i g2 (by omega), hq acc D us w2 sA h0 z1 z2 z3 z4 q2⟩) hx
end
end Ks
end

section
set_option Elab.async false
set_option linter.all false
set_option maxRecDepth 100000
set_option maxHeartbeats 4000000
/-! # Defs, calls, raising -/
namespace Ks
variable {T : List (PySem.Addr × PySem.Str)}
open PySem PySem.Spec PyProof.Rows L2
def noOwn (xs : List Dv) : Bool := xs.all fun x => !x.isOwn
/-- the promise of a def that means F -/
def spF (K : PySem.W.Frag) (mg : Mg) (n : Nat) (F : List Dv → M Dv) : Sp := fun vs H Q E => ∃ (w : Wd mg.T) (xs : List Dv) (Qd : Dv → Prop) (Ex : Exn → Prop), w.H = H ∧ RSs K w vs xs ∧ xs.length = n ∧ noOwn xs = true ∧ F xs Qd Ex ∧
  (∀ v x w', Grow w w' → RS K w' v x → x.isOwn = false → Qd x → Q v w'.H) ∧ (∀ (x : Exn) (u : Value) (o : Option Addr) (w' : Wd mg.T), Grow w w' → Ex x → ExR mg x u o → E u o w'.H)
/-- a def of the text that means F -/
def Df (P : Program) (w : World) (K : PySem.W.Frag) (mg : Mg) (base : Heap) (x : Str) (k : Nat) (ps : List Str) (F : List Dv → M Dv) : Prop :=
  ∃ (f : Addr) (fd : FuncData), FnOk P w K mg.f base (L2N.CX P w) k f fd ps (spF K mg ps.length F) ∧ mg.f x = some (.ref f) ∧ PySem.W.keepIn K (.ref f) = true ∧ Binds K fd ps []
def FunAt (K : PySem.W.Frag) (mg : Mg) (x : Str) (st : Stmt) : Prop := ∃ f fd, Fun K x x st f fd ∧ mg.f x = some (.ref f)
def mCall (F : List Dv → M Dv) (ma : Env → M (List Dv)) : Env → M Dv := fun ρ Q Ex => ma ρ (fun xs => noOwn xs = true ∧ F xs Q Ex) Ex
section
variable {K : PySem.W.Frag} {mg : Mg} {E : XK}
theorem se_call {n m : Nat} {F : List Dv → M Dv} {t : TA} {ma : Env → M (List Dv)} (ha : SA K mg E n t ma) (hn : n = m := by rfl) : SE K mg E (tCall (spF K mg m F) [] E t) (mCall F ma) := fun en w ρ σ Q Ex R s h hq he => by
  subst hn
  exact ha en w ρ σ _ Ex _ s h (fun xs vs w1 g1 r1 hl q => by
    rw [List.append_nil]
    exact ⟨w1, xs, Q, Ex, rfl, r1, hl, q.1, q.2, fun v x w2 g2 r2 _ q2 => hq x v w2 (g1.trans g2) r2 q2, fun x u o w2 g2 q2 r2 => he x u o w2 (g1.trans g2) q2 r2⟩) he
end
section
variable {X : Cx} {mg : Mg} {x : Str} {k n : Nat} {ps : List Str} {F : List Dv → M Dv} {E : XK} {e : Expr} {es : List Expr} {t : TA} {p pos : Pos}
theorem pe_callD (D : Df X.prog X.w X.K mg X.base x k ps F) (hr : Room k X.A) (hg : Gl X x) (hx : Passes (L2N.CX X.prog X.w) X E) (ha : PA X (e :: es) t) (hmg : mg.f = X.mg := by rfl)
    (hdb : (x == ("__debug__" : Str)) = false := by decide) (hst : starEach (e :: es) X.env = (false, eval e X.env) :: starEach es X.env := by rfl) (hpl : (backTo pos (starEach es X.env)).any (·.1) = false := by rfl) :
    PE X (.Call (.Name x p) (e :: es) [] pos) (tCall (spF X.K mg ps.length F) [] E t) := by
  obtain ⟨f, fd, h1, h2, h3, h4⟩ := D
  rw [hmg] at h1 h2
  exact pe_call h1 hr hg h2 h3 h4 .nil hx ha hdb hst hpl
theorem pe_callD0 (D : Df X.prog X.w X.K mg X.base x k [] F) (hr : Room k X.A) (hg : Gl X x) (hx : Passes (L2N.CX X.prog X.w) X E) (hmg : mg.f = X.mg := by rfl)
    (hdb : (x == ("__debug__" : Str)) = false := by decide) : PE X (.Call (.Name x p) [] [] pos) (tCall (spF X.K mg 0 F) [] E tNil) := by
  obtain ⟨f, fd, h1, h2, h3, h4⟩ := D
  rw [hmg] at h1 h2
  exact pe_call0 h1 hr hg h2 h3 h4 .nil hx hdb
end
/-- an exception passes on in a def's body -/
theorem passX {X : Cx} {E : XK} (tk : L2N.Takes X (fun cls d _ H => E cls d H)) : Passes (L2N.CX X.prog X.w) X E := L2N.passes_call tk (fun _ _ _ _ h => h)
/-- nothing is let out -/
theorem passN {X : Cx} : Passes (L2N.CX X.prog X.w) X EN := fun _ _ _ _ _ _ _ h => by
  obtain ⟨_, _, _, _, _, _, _, _, _, _, _, _, z⟩ := h
  exact z.elim
/-- a def of the text by its body, whatever it lets out -/
theorem okN {P : Program} {w : World} {K : PySem.W.Frag} {mg : Str → Option Value} {base : Heap} {CX : CXT} {x qual : Str} {st : Stmt} {f : Addr} {fd : FuncData} {N ps : List Str} {k : Nat} {sp : Sp} (Fu : Fun K x qual st f fd) (S : FnScope N ps (defScope st)) (len : ∀ vs H Q E, sp vs H Q E → vs.length = ps.length)
    (hbody : ∀ (cdv : Value) (A : Around) (outer : List PySem.Env) (s : Shared) (H : Hp) (vs : List V) (Q : VK) (E : XK), Room k (A.deeper (envOfC qual (defScope st) s.heap.objs.size f cdv)) → sp vs H Q E →
      ∃ t, PSs (cxOf CX P w K mg base N qual (defScope st) f cdv A outer s H E) (defBody st) t ∧ t { nx := fun _ H' => Q .non H', rt := Q } (L2.start N vs) H) : FnOk P w K mg base CX (k + 1) f fd ps sp := by
  obtain ⟨oc, od, kV, doc, pm, an, cdv, ct, osl, rfl, lk, hcd⟩ := Fu.ex
  exact fn_of lk hcd S len fun A outer s H vs Q E hr hsp => hbody cdv A outer s H vs Q E hr hsp
theorem RSs.start {K : PySem.W.Frag} {w : Wd T} : ∀ {vs : List V} {xs : List Dv} (i : Nat) (x : Dv), RSs K w vs xs → xs[i]? = some x → ∃ v, vs[i]? = some v ∧ RS K w v x
  | [], [], i, x, _, h => by simp at h
  | v :: vs, y :: xs, 0, x, r, h => by simp at h; subst h; exact ⟨v, rfl, r.1⟩
  | v :: vs, y :: xs, i + 1, x, r, h => by simpa using RSs.start i x r.2 (by simpa using h)
  | [], _ :: _, _, _, r, _ => r.elim
  | _ :: _, [], _, _, r, _ => r.elim
def startE (N : Nat) (xs : List Dv) : Env := xs.map some ++ List.replicate (N - xs.length) none
theorem St.start {K : PySem.W.Frag} {w : Wd T} {vs : List V} {xs : List Dv} {N : List Str} (r : RSs K w vs xs) (no : noOwn xs = true) : St K w w (startE N.length xs) (L2.start N vs) := by
  have hl := r.length
  have key : ∀ (i : Nat) (x : Dv), (startE N.length xs)[i]? = some (some x) → xs[i]? = some x ∧ i < xs.length := fun i x h => by
    unfold startE at h
    by_cases e : i < (xs.map some).length
    · rw [List.getElem?_append_left e, List.getElem?_map] at h
      cases e2 : xs[i]? with
      | none => rw [e2] at h; cases h
      | some y => rw [e2] at h; simp at h; subst h; exact ⟨rfl, by simpa using e⟩
    · rw [List.getElem?_append_right (by omega), List.getElem?_replicate] at h
      split at h
      · cases h
      · cases h
  have nown : ∀ (i : Nat) (x : Dv), xs[i]? = some x → x.isOwn = false := fun i x h => by
    have := List.all_eq_true.mp no x (List.mem_of_getElem? h)
    simpa using this
  refine ⟨by unfold startE L2.start; simp [hl], fun i x h => ?_, fun i j x y a h1 h2 o1 o2 h3 h4 => ?_, fun i x a h1 o1 h3 => ?_, .refl w⟩
  · obtain ⟨h1, h2⟩ := key i x h
    obtain ⟨v, q1, q2⟩ := r.start i x h1
    refine ⟨v, ?_, q2⟩
    unfold L2.start
    rw [List.getElem?_append_left (by simp; omega), List.getElem?_map, q1]; rfl
  · rw [nown i x (key i x h1).1] at o1; cases o1
  · rw [nown i x (key i x h1).1] at o1; cases o1
/-- what is wanted behind a def's body -/
def endM (Q : Dv → Prop) (Ex : Exn → Prop) : Me := { nx := fun _ => Q (.d .none), rt := Q, ex := Ex }
/-- THE RULE of a def: its body's reading and meaning -/
theorem ok_of {P : Program} {w : World} {K : PySem.W.Frag} {mg : Mg} {base : Heap} {x qual : Str} {st : Stmt} {f : Addr} {fd : FuncData} {N ps : List Str} {k : Nat} {F : List Dv → M Dv} {ms : MS} (Fu : Fun K x qual st f fd) (S : FnScope N ps (defScope st))
    (hb : ∀ (cdv : Value) (A : Around) (outer : List PySem.Env) (s : Shared) (H : Hp) (E : XK), Room k (A.deeper (envOfC qual (defScope st) s.heap.objs.size f cdv)) →
      ∃ ts, PSs (cxOf (L2N.CX P w) P w K mg.f base N qual (defScope st) f cdv A outer s H E) (defBody st) ts ∧ SS K mg E ts ms)
    (hF : ∀ xs Q Ex, xs.length = ps.length → F xs Q Ex → ms (endM Q Ex) (startE N.length xs)) : FnOk P w K mg.f base (L2N.CX P w) (k + 1) f fd ps (spF K mg ps.length F) := by
  refine okN Fu S (fun vs H Q E h => ?_) (fun cdv A outer s H vs Q E hr h => ?_)
  · obtain ⟨w', xs, _, _, _, r, hl, _⟩ := h
    rw [r.length, hl]
  · obtain ⟨w', xs, Qd, Ex, rfl, r, hl, no, hf, hq, he⟩ := h
    obtain ⟨ts, h1, h2⟩ := hb cdv A outer s w'.H E hr
    refine ⟨ts, h1, h2 w' w' _ _ _ _ (St.start r no) (hF xs Qd Ex hl hf) ⟨fun w2 ρ σ _ s2 q => hq .non (.d .none) w2 s2.gr (by simp [RS, Rp]) rfl q, fun w2 v x g r2 o q => hq v x w2 g r2 o q, fun _ _ _ _ _ z => z.elim, fun _ _ _ _ _ z => z.elim, fun x u o w2 g q r => he x u o w2 g q r⟩⟩
theorem df_of {P : Program} {w : World} {K : PySem.W.Frag} {mg : Mg} {base : Heap} {x : Str} {st : Stmt} {N ps : List Str} {k : Nat} {F : List Dv → M Dv} {ms : MS} (T : FunAt K mg x st) (S : FnScope N ps (defScope st))
    (hbind : ∀ (kV doc pm : Value) (an : Option Addr) (cdv ct : Value) (us : List Value), us.length = ps.length → bindArgs (PySem.W.fnOf x x (defArgs st) (defBody st) (defScope st) .none kV doc pm an cdv ct) ⟨us, []⟩ = pure (ps.zip us))
    (hb : ∀ (f : Addr) (cdv : Value) (A : Around) (outer : List PySem.Env) (s : Shared) (H : Hp) (E : XK), Room k (A.deeper (envOfC x (defScope st) s.heap.objs.size f cdv)) →
      ∃ ts, PSs (cxOf (L2N.CX P w) P w K mg.f base N x (defScope st) f cdv A outer s H E) (defBody st) ts ∧ SS K mg E ts ms)
    (hF : ∀ xs Q Ex, xs.length = ps.length → F xs Q Ex → ms (endM Q Ex) (startE N.length xs)) : Df P w K mg base x (k + 1) ps F := by
  obtain ⟨f, fd, Fu, hm⟩ := T
  exact ⟨f, fd, ok_of Fu S (hb f) hF, hm, Fu.kp, Fu.binds hbind⟩
theorem Df.mono {P : Program} {w : World} {K : PySem.W.Frag} {mg : Mg} {base : Heap} {x : Str} {j k : Nat} {ps : List Str} {F : List Dv → M Dv} (D : Df P w K mg base x j ps F) (h : j ≤ k) : Df P w K mg base x k ps F := by
  obtain ⟨f, fd, h1, h2⟩ := D
  exact ⟨f, fd, h1.mono h, h2⟩
/-- another meaning that asks more -/
theorem Df.imp {P : Program} {w : World} {K : PySem.W.Frag} {mg : Mg} {base : Heap} {x : Str} {k : Nat} {ps : List Str} {F F' : List Dv → M Dv} (D : Df P w K mg base x k ps F) (h : ∀ xs Q Ex, xs.length = ps.length → F' xs Q Ex → F xs Q Ex) : Df P w K mg base x k ps F' := by
  obtain ⟨f, fd, h1, h2⟩ := D
  refine ⟨f, fd, h1.imp fun vs H Q E ⟨w, xs, Qd, Ex, e, r, hl, no, hf, q⟩ => ⟨w, xs, Qd, Ex, e, r, hl, no, h _ _ _ hl hf, q⟩, h2⟩
/-! ### raising an own exception without fields -/
def ExcAt (K : PySem.W.Frag) (mg : Mg) (nm : Str) : Prop := ∃ C, mg.f nm = some (.ref C) ∧ PySem.W.excIn K C [.type "ValueError", .type "Exception", .type "BaseException", .type "object"] "ValueError.__new__" = true ∧
  PySem.W.keepIn K (.ref C) = true ∧ PySem.W.subIn K (.ref C) (.type "BaseException") = some true ∧ PySem.W.typeIn K (.ref C) = some (.type "type")
def tRaiseD (mg : Mg) (nm : Str) (E : XK) : TS := fun _ _ H => ∃ u, mg.f nm = some u ∧ E u none H
theorem ps_imp {X : Cx} {st : Stmt} {t t' : TS} (h : PS X st t) (hi : ∀ D σ H, t' D σ H → t D σ H) : PS X st t' := ⟨fun pins s σ H D I q => h.run pins s σ H D I (hi D σ H q)⟩
theorem ps_raiseD {X : Cx} {mg : Mg} {E : XK} {nm m : Str} {j : Nat} {p p2 pos pos2 : Pos} (T : ExcAt X.K mg nm) (hc : X.calm = true) (tk : L2N.Takes X (fun cls d _ H => E cls d H)) (hg : Gl X nm) (hmg : mg.f = X.mg := by rfl) (hdb : (nm == ("__debug__" : Str)) = false := by decide) :
    PS X (.Raise (some (.Call (.Name nm p) [.Constant (.str m) j p2] [] pos)) none pos2) (tRaiseD mg nm E) := by
  obtain ⟨C, h1, h2, h3, h4, h5⟩ := T
  have h1' := h1
  rw [hmg] at h1'
  refine ps_imp (L2N.ps_raise hc tk (L2N.pmk_own PySem.F.excBase_ValueError h2 h1' h3 (raises_own h4 h5) hg hdb)) fun D σ H ⟨u, e, q⟩ => ?_
  rw [h1] at e
  injection e with e; subst e
  exact q
def mRaise (x : Exn) : MS := fun B _ => B.ex x
theorem ss_raise {K : PySem.W.Frag} {mg : Mg} {E : XK} {nm : Str} (T : ExcAt K mg nm) : SS K mg E (tRaiseD mg nm E) (mRaise ⟨nm, none⟩) := fun en w ρ σ D B s h l => by
  obtain ⟨C, h1, _⟩ := T
  exact ⟨_, h1, l.ex _ _ none w s.gr h ⟨h1, fun _ => rfl⟩⟩
/-! ### names of the module -/
def mGlob (p : Dt) : Env → M Dv := mC p
/-! ### isinstance with a builtin class -/
def tyD : Dv → Option String
  | .d .none => some "NoneType"
  | .d (.bool _) => some "bool"
  | .d (.int _) => some "int"
  | .d (.str _) => some "str"
  | .d (.list _) => some "list"
  | .d (.tuple _) => some "tuple"
  | .own _ => some "list"
  | _ => none
theorem tyD_rs {K : PySem.W.Frag} {w : Wd T} {v : V} : ∀ {x : Dv} {t : String}, RS K w v x → tyD x = some t → TyX K w.H v (.type t)
  | .d .none, t, r, h => by simp only [tyD, Option.some.injEq] at h; subst h; simp only [RS, Rp] at r; subst r; exact .base .non
  | .d (.bool b), t, r, h => by simp only [tyD, Option.some.injEq] at h; subst h; simp only [RS, Rp] at r; subst r; exact .base (.bl b)
  | .d (.int b), t, r, h => by simp only [tyD, Option.some.injEq] at h; subst h; simp only [RS, Rp] at r; subst r; exact .base (.int b)
  | .d (.str b), t, r, h => by simp only [tyD, Option.some.injEq] at h; subst h; simp only [RS, Rp] at r; subst r; exact .base (.str b)
  | .d (.list ds), t, r, h => by
    simp only [tyD, Option.some.injEq] at h; subst h
    simp only [RS, Rp] at r
    obtain ⟨a, vs, rfl, h1, _⟩ := r
    exact .base (.lst (w.gh _ _ h1))
  | .d (.tuple ds), t, r, h => by
    simp only [tyD, Option.some.injEq] at h; subst h
    simp only [RS, Rp] at r
    obtain ⟨a, vs, rfl, h1, _⟩ := r
    exact .base (.tup (w.gh _ _ h1))
  | .own ds, t, r, h => by
    simp only [tyD, Option.some.injEq] at h; subst h
    obtain ⟨a, vs, rfl, _, _, h1, _⟩ := r
    exact .base (.lst h1)
  | .d (.dict _), _, _, h => by simp [tyD] at h
  | .coil, _, _, h => by simp [tyD] at h
  | .dic _, _, _, h => by simp [tyD] at h
  | .odic _, _, _, h => by simp [tyD] at h
  | .scr _, _, _, h => by simp [tyD] at h
  | .fn _, _, _, h => by simp [tyD] at h
  | .ty _, _, _, h => by simp [tyD] at h
/-- isinstance of a builtin class, by names -/
def isiB (a b : String) : Option Bool := if a = b then some true else if a = "bool" ∧ b = "int" then some true else if (["NoneType", "bool", "int", "str", "list", "tuple"].contains a && ["int", "bool", "str", "list", "tuple"].contains b) = true then some false else none
theorem isiB_kit {a b : String} {r : Bool} (h : isiB a b = some r) (ha : ["NoneType", "bool", "int", "str", "list", "tuple"].contains a = true) (hb : ["int", "bool", "str", "list", "tuple"].contains b = true) : kitB a b = some r := by
  simp only [List.contains_cons, List.contains_nil, Bool.or_false, Bool.or_eq_true, beq_iff_eq] at ha hb
  rcases ha with rfl | rfl | rfl | rfl | rfl | rfl <;> rcases hb with rfl | rfl | rfl | rfl | rfl <;> (have hr := h; revert hr; revert r; decide +kernel)
theorem tyD_names {x : Dv} {t : String} (h : tyD x = some t) : ["NoneType", "bool", "int", "str", "list", "tuple"].contains t = true := by
  unfold tyD at h
  split at h <;> (cases h <;> decide +kernel)
def fIsI : List Dv → (Dv → Prop) → Prop
  | [x, .ty T], Q => ["int", "bool", "str", "list", "tuple"].contains T = true ∧ match tyD x with
    | some t => match isiB t T with
      | some b => Q (.d (.bool b))
      | none => False
    | none => False
  | _, _ => False
section
variable {K : PySem.W.Frag} {mg : Mg} {E : XK}
theorem sc_isi : SC K (rIsi K) fIsI := fun w xs vs Q R r h hq => by
  unfold fIsI at h
  split at h
  · rename_i x T
    obtain ⟨v, u, rfl, rv, ru⟩ := r.two
    obtain rfl : u = V.ty T := ru
    obtain ⟨hT, h⟩ := h
    split at h
    · rename_i t e1
      split at h
      · rename_i b e2
        exact ⟨v, _, .type t, .type T, b, rfl, .ty T, tyD_rs rv e1, kit_ty (isiB_kit e2 (tyD_names e1) hT), hq _ _ w (.refl w) (by simp [RS, Rp]) h⟩
      · exact h.elim
    · exact h.elim
  · exact h.elim
def mTy (T : String) : Env → M Dv := fun _ Q _ => Q (.ty T)
theorem se_ty {T : String} : SE K mg E (tC (.ty T)) (mTy T) := fun en w ρ σ Q Ex R s h hq _ => hq (.ty T) _ w (.refl w) rfl h
end
end Ks
end

section
set_option Elab.async false
set_option linter.all false
set_option maxRecDepth 100000
set_option maxHeartbeats 4000000
/-! # Rules that the layer lacks: t[::-1] of a tuple, enumerate(tuple) -/
namespace Ks
variable {T : List (PySem.Addr × PySem.Str)}
open PySem PySem.Spec PyProof.Rows L2
section
variable {prog : Program} {w : World} {A : Around} {E : Value → Shared → Prop} {s : Shared}
open HT
theorem sliceApplied_rev {sl : Addr} {n : Nat} {t : Tok} {Q : Int × Int × Nat → Shared → Prop} (hs : s.heap.IsSliceOf sl .none .none (.int (-1) t))
    (h : Q ((n : Int) - 1, -1, n) s) : wpAny (model prog w) A (Builtin.Slice.sliceApplied (.ref sl) (pure (n : Int))) Q E s := by
  obtain ⟨os, hos, hcs, hds⟩ := id hs
  unfold Builtin.Slice.sliceApplied Builtin.Slice.sliceFields
  refine wpAny_bind (wpAny_bind (wpAny_field hos hds (x := .none) rfl (wpAny_bind (wpAny_field hos hds (x := .none) rfl (wpAny_bind (wpAny_field hos hds (x := .int (-1) t) rfl (wpAny_pure ?_)))))))
  refine wpAny_bind (slicePart_int ?_)
  show wpAny _ _ (if ((-1 : Int) == 0) = true then _ else _) _ _ s
  rw [if_neg (by decide)]
  refine wpAny_bind (slicePart_ .none (wpAny_bind (slicePart_ .none (wpAny_bind (wpAny_pure ?_)))))
  show wpAny _ _ (match Builtin.Slice.sliceAdjust none none (-1) (n : Int) with | (lo, hi) => pure (lo, (-1 : Int), Builtin.Slice.slicePlaces lo hi (-1))) _ _ s
  have e1 : Builtin.Slice.sliceAdjust none none (-1) (n : Int) = ((n : Int) - 1, -1) := rfl
  rw [e1]
  show wpAny _ _ (pure ((n : Int) - 1, (-1 : Int), Builtin.Slice.slicePlaces ((n : Int) - 1) (-1) (-1))) _ _ s
  have e2 : Builtin.Slice.slicePlaces ((n : Int) - 1) (-1) (-1) = n := by
    unfold Builtin.Slice.slicePlaces
    have h1 : ¬ ((-1 : Int) > 0) := by omega
    simp only [h1, if_false]
    have h2 : -(-1 : Int) = 1 := by omega
    rw [h2, Int.ediv_one]
    split <;> omega
  rw [e2]
  exact wpAny_pure h
theorem pick_rev (xs : Array Value) : ((List.range xs.size).filterMap fun (m : Nat) => xs[(((xs.size : Nat) : Int) - 1 + (m : Int) * (-1)).toNat]?).toArray = xs.toList.reverse.toArray := by
  congr 1
  apply List.ext_getElem?
  intro i
  have e : (List.range xs.size).filterMap (fun (m : Nat) => xs[(((xs.size : Nat) : Int) - 1 + (m : Int) * (-1)).toNat]?) = (List.range xs.size).map (fun m => xs.toList.getD (xs.size - 1 - m) Value.none) := by
    have key : ∀ l : List Nat, (∀ m ∈ l, m < xs.size) → l.filterMap (fun (m : Nat) => xs[(((xs.size : Nat) : Int) - 1 + (m : Int) * (-1)).toNat]?) = l.map (fun m => xs.toList.getD (xs.size - 1 - m) Value.none) := by
      intro l
      induction l with
      | nil => intro _; rfl
      | cons m l ih =>
        intro hm
        have hm' := hm m (by simp)
        have e1 : (((xs.size : Nat) : Int) - 1 + (m : Int) * (-1)).toNat = xs.size - 1 - m := by omega
        have hlt : xs.size - 1 - m < xs.size := by omega
        have e2 : xs[(((xs.size : Nat) : Int) - 1 + (m : Int) * (-1)).toNat]? = some (xs.toList.getD (xs.size - 1 - m) Value.none) := by
          rw [e1]
          simp [hlt, List.getD]
        rw [List.filterMap_cons, e2, List.map_cons, ih (fun k hk => hm k (by simp [hk]))]
    exact key _ fun m hm => List.mem_range.mp hm
  rw [e, List.getElem?_map]
  by_cases h : i < xs.size
  · rw [List.getElem?_range h, List.getElem?_reverse (by simpa using h)]
    have hlt : xs.size - 1 - i < xs.size := by omega
    simp [hlt, List.getD]
  · rw [List.getElem?_eq_none (by simpa using h), List.getElem?_eq_none (by simpa using h)]
    rfl
theorem getItem_tuple_rev {t sl : Addr} {items : Array Value} {tk : Tok} {Q : Value → Shared → Prop} (ht : IsTup s.heap t items) (hs : s.heap.IsSliceOf sl .none .none (.int (-1) tk))
    (h : Q (.ref s.heap.objs.size) { s with heap := s.heap.push { cls := .type "tuple", data := .seq items.toList.reverse.toArray } })
    (hsz : items.size ≤ sizeLine) : wpAny (model prog w) A (getItem (.ref t) (.ref sl)) Q E s := by
  have htake : sizeOk (.seq items.toList.reverse.toArray) := by
    show items.toList.reverse.toArray.size ≤ sizeLine
    rw [List.size_toArray, List.length_reverse, Array.length_toList]
    exact hsz
  obtain ⟨os, hos, hcs, hds⟩ := id hs
  have hTs : s.TypeIs (.ref sl) "slice" := ⟨os, hos, hcs⟩
  unfold getItem
  try with_reducible refine wpAny_holding ?_
  first | refine wpAny_bind (wpAny_pure ?_) | skip
  refine wpAny_bind (wpAny_sequenceKey ht.typeIs (by decide) ?_)
  refine wpAny_bind (wpAny_callSpecial?_slot (name := Str.ofString "__getitem__") ht.typeIs PyProof.Rows.slot_tuple_getitem
    (wpAny_call_entry PyProof.Rows.slot_tuple_getitem ht.typeIs entry_tuple_getitem ?_ (args_tuple_getitem _ _)))
  show wpAny _ _ (Builtin.Tuple.tupleItemsOf (.ref t) >>= _) _ _ s
  refine wpAny_bind (tupleItemsOf_ ht ?_)
  refine wpAny_bind (wpAny_typeOf hTs ?_)
  rw [if_pos (by decide)]
  refine wpAny_bind (sliceApplied_rev (n := items.size) hs ?_)
  have hno : ¬ ((((items.size : Nat) : Int) - 1 == 0 && (-1 : Int) == 1 && items.size == items.size) = true) := by
    intro q
    rw [Bool.and_eq_true, Bool.and_eq_true] at q
    exact absurd q.1.2 (by decide)
  show wpAny _ _ (if (((items.size : Nat) : Int) - 1 == 0 && (-1 : Int) == 1 && items.size == items.size) = true then _ else _) _ _ s
  rw [if_neg hno, pick_rev]
  first
    | exact wpAny_bind (m := Builtin.Tuple.tupleExact _) (wpAny_newObj_type (wpAny_pure ⟨_, rfl, wpAny_pure h⟩) htake)
    | exact wpAny_bind (m := Builtin.Tuple.tupleExact _) (wpAny_newObj_type (wpAny_bind (wpAny_pure (wpAny_pure ⟨_, rfl, wpAny_pure h⟩))) htake)
    | exact wpAny_bind (wpAny_bind (m := Builtin.Tuple.tupleExact _) (wpAny_newObj_type (wpAny_pure (wpAny_pure ⟨_, rfl, wpAny_pure h⟩)) htake))
    | exact wpAny_bind (wpAny_bind (m := Builtin.Tuple.tupleExact _) (wpAny_newObj_type (wpAny_pure ⟨_, rfl, wpAny_pure h⟩) htake))
end
/-! ### t[::-1], a tuple -/
def tRevT (K : PySem.W.Frag) (te : TE) : TE := fun σ H Q => te σ H fun x H1 => ∃ a xs, x = .ref a ∧ SqT K H1 a xs ∧ ∀ p, H1 p = none → Q (.ref p) (upd H1 p (.tup xs.reverse))
theorem pe_revT {X : Cx} {e : Expr} {te : TE} {k : Nat} {p1 p2 p3 pos : Pos} (he : PE X e te) : PE X (.Subscript e (.Slice none none (some (.UnaryOp .USub (.Constant (.int 1) k p1) p2)) p3) pos) (tRevT X.K te) := by
  refine ⟨fun pins s σ H Q I h => ?_⟩
  refine Subscript_ (thn (he.run pins s σ H _ I h) fun v s1 ⟨x, H1, I1, r1, q1⟩ => ?_)
  obtain ⟨a, xs, ex, hx, q⟩ := q1
  subst ex
  cases r1
  have hst : PO X (some (.UnaryOp .USub (.Constant (.int 1) k p1) p2)) (tPart (tUn (rU fun i => .int (-i)) (tC (.int 1)))) := po_some (pe_un un_neg pe_int)
  refine wpAny_Slice (thn (po_none.run pins s1 σ H1 (fun o H2 => o = none ∧ H2 = H1) I1 ⟨rfl, rfl⟩) fun vl s2 ⟨l, H2, I2, pl, el, e2⟩ => ?_)
  subst el e2
  refine thn (po_none.run pins s2 σ H2 (fun o H3 => o = none ∧ H3 = H2) I2 ⟨rfl, rfl⟩) fun vu s3 ⟨u, H3, I3, pu, eu, e3⟩ => ?_
  subst eu e3
  refine thn (hst.run pins s3 σ H3 (fun o H4 => o = some (-1) ∧ H4 = H3) I3 ⟨1, rfl, -1, rfl, rfl, rfl⟩) fun vs s4 ⟨o, H4, I4, ps, eo, e4⟩ => ?_
  subst eo e4
  cases pl
  cases pu
  cases ps with
  | int i tk =>
  have I5 : Inv X pins σ H4 { s4 with heap := s4.heap.push { cls := .type "slice", data := .fields #[.none, .none, .int (-1) tk] } } := I4.kept (t' := s4.toks) fun b ob q => Heap.get?_push_of_some _ q
  obtain ⟨its, r, ht, hz⟩ := I5.tuple hx
  have hlen := r.length
  show wpAny (model X.prog X.w) X.A (subscriptTail e (.Slice none none (some (.UnaryOp .USub (.Constant (.int 1) k p1) p2)) p3) (.ref a) (.ref s4.heap.objs.size)) (EP X pins σ Q) X.xe { s4 with heap := s4.heap.push { cls := .type "slice", data := .fields #[.none, .none, .int (-1) tk] } }
  refine tail_any (ops := [.ref a, .ref s4.heap.objs.size]) ht.typeIs (PyProof.Rows.slot_tuple_getitem.lookup) ?_ (by with_unfolding_all rfl)
  refine getItem_tuple_rev ht (Heap.IsSliceOf.new _ .none .none (.int (-1) tk)) ?_ (by rw [List.size_toArray]; omega)
  refine ⟨.ref _, _, I5.laid (t' := s4.toks) (o := .tup xs.reverse) (fun b ob q => Heap.get?_push_of_some _ q) (Nat.le_refl _) ?_, rfl, q _ (I5.hok.fresh (Nat.le_refl _))⟩
  exact ⟨by rw [List.length_reverse]; exact hz, _, r.reverse, ⟨_, Heap.get?_push_size _ rfl, rfl, _, rfl⟩⟩
def mRevT (me : Env → M Dv) : Env → M Dv := fun ρ Q Ex => me ρ (fun x => match x with
  | .d (.tuple ds) => Q (.d (.tuple ds.reverse))
  | _ => False) Ex
theorem se_revT {K : PySem.W.Frag} {mg : Mg} {E : XK} {te : TE} {me : Env → M Dv} (he : SE K mg E te me) : SE K mg E (tRevT K te) (mRevT me) := fun en w ρ σ Q Ex R s h hq hx =>
  he en w ρ σ _ Ex _ s h (fun x v w1 g1 r1 q => by
    split at q
    · rename_i ds
      simp only [RS, Rp] at r1
      obtain ⟨a, vs, rfl, h1, h2⟩ := r1
      exact ⟨a, vs, rfl, SqT.of (w1.gh _ _ h1), fun p hp => hq _ _ _ (g1.trans (Grow.add hp tup_nt)) (new_tup hp h2.reverse) q⟩
    · exact q.elim) hx
/-! ### enumerate(a tuple) -/
def IteT (K : PySem.W.Frag) (a : Addr) : It :=
  ⟨fun i H => ∃ (xs : List V) (x : V), SqT K H a xs ∧ xs[i]? = some x, fun i H v H' => ∃ T x, v = .ref T ∧ H T = none ∧ H' = upd H T (.tup [.int (i : Nat), x]) ∧ ∀ xs, SqT K H a xs → xs[i]? = some x, fun i H => ∃ xs : List V, SqT K H a xs ∧ xs.length ≤ i⟩
theorem isTup_tuple {h : Heap} {a : Addr} {its : Array Value} (p : IsTup h a its) : h.IsTuple a its := p
theorem pyNext_enum_endT {prog : Program} {w : World} {A : Around} {E : Value → Shared → Prop} {s : Shared} {e it t : Addr} {j : Nat} {items : Array Value} {i : Int} {old : Value} {Q : Option Value → Shared → Prop} (hh : A.handled = none)
    (he : IsEnum s.heap e it i old) (hit : s.heap.IsTupleIter it t j) (ht : s.heap.IsTuple t items) (hx : items[j]? = none)
    (hQ : ∀ h', Heap.ExtBut it s.heap h' → Q none { s with heap := h' }) : wpAny (model prog w) A (pyNext (.ref e)) Q E s := by
  have hT : s.TypeIs (.ref e) "enumerate" := ⟨_, he, rfl⟩
  unfold pyNext
  refine wpAny_bind (wpAny_attempt (wpAny_callSpecial?_slot (name := Str.ofString "__next__") hT PySem.F.slot_enumerate_next
    (wpAny_call_entry PySem.F.slot_enumerate_next hT PySem.F.entry_enumerate_next ?_ (PySem.F.args_enumerate_next_1 _))))
  show wpAny _ _ (field (.ref e) 2 >>= _) _ _ _
  refine wpAny_bind (wpAny_field he rfl (x := .ref it) rfl ?_)
  refine wpAny_bind (wpAny_nextOf_tuple_end (show A.in1.handled = none from hh) hit ht hx fun h' x he' hx' => ?_)
  obtain ⟨o, ho, hc⟩ := hx'
  refine wpAny_bind (wpAny_isInstance (T := "StopIteration") (b := true) ⟨o, ho, hc⟩ PySem.isSubtype_stop ?_)
  exact wpAny_pure (hQ _ he')
theorem turn_enumT {P : Program} {w : World} {K : PySem.W.Frag} {elts : List Expr} {kk : Nat} {tpos : Pos} (a e it : Addr) :
    Turn P w K (.Tuple elts kk tpos) (IteT K a) [e, it] e (fun i h => (∃ old, IsEnum h e it ((i : Nat) : Int) old) ∧ h.IsTupleIter it a i ∧ e ≠ it ∧ a ≠ it ∧ e ≠ a) where
  mem := by simp
  obj := fun i h st b hb => by
    obtain ⟨⟨old, he⟩, ⟨o, ho, hc, hd⟩, _⟩ := st
    have e' : b = e ∨ b = it := by simpa using hb
    rcases e' with z | z
    · rw [z]; exact ⟨_, he, fun v q => nomatch q⟩
    · rw [z]; exact ⟨o, ho, fun v q => by rw [hd] at q; cases q⟩
  keep := fun i h h' st k => let ⟨⟨old, he⟩, hi, hne⟩ := st; ⟨⟨old, k e (by simp) _ he⟩, hi.at fun o q => k it (by simp) o q, hne⟩
  item := by
    intro X hP hw hK hc i pins s σ H E I hf st hg
    subst hP hw hK
    obtain ⟨⟨old, he⟩, hit, hne, hai, hea⟩ := st
    obtain ⟨xs, x, hq, hx⟩ := hg
    obtain ⟨its, rv, p, hz⟩ := I.tuple hq
    obtain ⟨u, hu, ru⟩ := rv.get hx
    have hel : e < s.heap.objs.size := Heap.lt_size he
    have hil : it < s.heap.objs.size := by obtain ⟨_, q, _⟩ := hit; exact Heap.lt_size q
    have hlt : i < its.toArray.size := by
      have := (List.getElem?_eq_some_iff.mp hu).1
      simpa using this
    refine wpAny_pyNext_enum_itemD (Draws.tuple (show X.A.in1.handled = none from I.ok.hd hc) it a hai its.toArray) he ⟨hit, isTup_tuple p⟩ hlt hne (by simp [hne, hea]) fun y h' tk hy ho st' hT hsz hk => ?_
    have hyu : y = u := by
      have h1 : its.toArray[i]? = some u := by simpa using hu
      rw [h1] at hy; exact (Option.some.inj hy).symm
    subst hyu
    refine ⟨_, rfl, wpAny_letOwnedTupleGo_enum (s := { s with heap := h', toks := tk + 1 }) ho fun h'' he' sb => ?_⟩
    have hT2 : h''.get? s.heap.objs.size = some { cls := .type "tuple", data := .seq #[.int i tk, y] } := (sb.2 _ (Nat.ne_of_gt hel)).trans hT
    have new : ObjOk X.prog X.w (upd H s.heap.objs.size (.tup [.int (i : Nat), x])) h'' s.heap.objs.size (.tup [.int (i : Nat), x]) :=
      ⟨by show 2 ≤ sizeLine; decide, [.int i tk, y], .cons ⟨_, rfl⟩ (.cons ru .nil), ⟨_, hT2, rfl, _, rfl⟩⟩
    have I1 : Inv X pins σ (upd H s.heap.objs.size (.tup [.int (i : Nat), x])) { s with heap := h'', toks := tk + 1 } :=
      I.turnedNew (ch := [e, it]) (fun b ob hb q => (sb.2 b (fun z => hb (by simp [z]))).trans (hk b ob (fun z => hb (by simp [z])) (fun z => hb (by simp [z])) q)) hf (Nat.le_refl _) new
    refine ⟨.ref s.heap.objs.size, _, I1, rfl, ⟨_, x, rfl, I.hok.fresh (Nat.le_refl _), rfl, fun ys hy => by rw [I.tuple_inj hy hq]; exact hx⟩, ⟨⟨y, ?_⟩, st'.1.at fun o q => (sb.2 it (Ne.symm hne)).trans q, hne, hai, hea⟩, fun b hb => ?_⟩
    · have e1 : ((i + 1 : Nat) : Int) = (i : Int) + 1 := by omega
      rw [e1]; exact he'
    · have hb' : b < s.heap.objs.size := by
        have e' : b = e ∨ b = it := by simpa using hb
        rcases e' with z | z
        · rw [z]; exact hel
        · rw [z]; exact hil
      rw [upd_ne (Nat.ne_of_lt hb')]
      exact (hf b hb).1
  done := by
    intro X hP hw hK hc i pins s σ H E I hf st hg
    subst hP hw hK
    obtain ⟨⟨old, he⟩, hit, hne, hai, hea⟩ := st
    obtain ⟨xs, hq, hx⟩ := hg
    obtain ⟨its, rv, p, hz⟩ := I.tuple hq
    obtain ⟨f0, f1, f2, f3, f4, f5⟩ := hf it (by simp)
    have hl := rv.length
    exact pyNext_enum_endT (I.ok.hd hc) he hit (isTup_tuple p) (by simp; omega) fun h' eb => ⟨rfl, I.turned (t' := s.toks) (fun b o hb q => eb b o hb q) f0 f1 f3 f4 f5⟩
  self := fun A i s Q E st h => let ⟨⟨_, he⟩, _⟩ := st; wpAny_pyIter_enum he h
set_option maxHeartbeats 4000000 in
theorem meets_enumerate_newB1 {v : Value} {o : Obj} {H : Heap → Prop} (B : Begins v o H) :
    Meets (Builtin.«enumerate.__new__» ⟨[.type "enumerate", v], []⟩) (fun _ R s => H s.heap ∧
      R (.ok (.ret (.ref (s.heap.push o).objs.size))) { s with heap := (s.heap.push o).push { cls := .type "enumerate", data := .fields #[.none, .bool false, .ref s.heap.objs.size, rawInt 0, .none, .none] } }) :=
  .of_wp fun prog w A R s h => by
    obtain ⟨hp, g, d, tk, os⟩ := s; obtain ⟨h1, h⟩ := h
    have hsub := sub_enumerate
    have q1 : ∀ {A' : Around} {E : Value → Shared → Prop} {Q : Value → Shared → Prop}, Q (.ref hp.objs.size) ⟨hp.push o, g, d, tk, os⟩ → wpAny (model prog w) A' (pyIter v) Q E ⟨hp, g, d, tk, os⟩ :=
      fun q => B.iter prog w _ _ ⟨hp, g, d, tk, os⟩ _ h1 q
    wp_walk using q1
    refine wpAny_stack_any fun st => wpAny_pure ?_
    split
    · rename_i c _ _ _ _ _
      cases (c == Value.type "enumerate")
      · wp_walk using q1
        exact ⟨_, rfl, h⟩
      · wp_walk using q1
        exact ⟨_, rfl, h⟩
    · wp_walk using q1
      exact ⟨_, rfl, h⟩
theorem enum_begins1 {prog : Program} {w : World} {A : Around} {E : Value → Shared → Prop} {s : Shared} {v : Value} {o : Obj} {H : Heap → Prop} {Q : Value → Shared → Prop} (B : Begins v o H) (h1 : H s.heap)
    (h : ∀ h', IsEnum h' (s.heap.objs.size + 1) s.heap.objs.size 0 .none → h'.get? s.heap.objs.size = some o → h'.objs.size = s.heap.objs.size + 2 →
      (∀ b o, s.heap.get? b = some o → h'.get? b = some o) → Q (.ref (s.heap.objs.size + 1)) { s with heap := h' }) :
    wpAny (model prog w) A (call (.type "enumerate") [v]) Q E s := by
  refine callType_new PySem.F.called_enumerate (by decide) (PySem.F.typeCall_enumerate_1 _) (PySem.F.newCall_enumerate_1 _) (fun obj => PySem.F.args_object_init_2 obj _) PySem.F.entry_enumerate_new
    (meets_enumerate_newB1 B) ⟨h1, ?_⟩
  have hz : (s.heap.push o).objs.size = s.heap.objs.size + 1 := Heap.size_push ..
  show _ ∧ _
  rw [hz]
  have he : IsEnum ((s.heap.push o).push { cls := .type "enumerate", data := .fields #[.none, .bool false, .ref s.heap.objs.size, rawInt 0, .none, .none] }) (s.heap.objs.size + 1) s.heap.objs.size 0 .none := by
    have := Heap.get?_push_size (s.heap.push o) (o := { cls := .type "enumerate", data := .fields #[.none, .bool false, .ref s.heap.objs.size, rawInt 0, .none, .none] }) rfl
    rw [hz] at this; exact this
  refine ⟨⟨_, he, rfl⟩, h _ he (Heap.get?_push_of_some _ (Heap.get?_push_size _ B.free)) (by rw [Heap.size_push, hz]) fun b o x => Heap.get?_push_of_some _ (Heap.get?_push_of_some _ x)⟩
/-- enumerate of a list or a tuple -/
def iEnumA (K : PySem.W.Frag) (ta : TA) : TI := fun σ H R => ta σ H fun vs H1 => ∃ a xs, vs = [.ref a] ∧ ((SqL K H1 a xs ∧ R (Ite K a) H1) ∨ (SqT K H1 a xs ∧ R (IteT K a) H1))
theorem pi_enumA {X : Cx} {e : Expr} {ta : TA} {p pos tpos : Pos} {elts : List Expr} {kk : Nat} (hg : Gl X "enumerate") (hm : X.mg "enumerate" = none) (ha : PA X [e] ta) (hs : starEach [e] X.env = [(false, eval e X.env)] := by rfl) :
    PI X (.Tuple elts kk tpos) (.Call (.Name "enumerate" p) [e] [] pos) (iEnumA X.K ta) := by
  refine ⟨fun pins s σ H R I h => ?_⟩
  refine Call_ (ld_blt I hg hm boot_enumerate (PyProof.Rows.callWith_type1 (thn (ha.run pos pins s σ H _ I h) fun us s1 ⟨vs, H1, I1, r1, q1⟩ => ?_) hs rfl))
  obtain ⟨a, xs, ex, q1⟩ := q1
  subst ex
  cases r1 with
  | cons r rr =>
    cases rr
    cases r
    have fresh2 : ∀ b, b ∈ [s1.heap.objs.size + 1, s1.heap.objs.size] → FpOk X pins H1 b := fun b hb => by
      have e' : b = s1.heap.objs.size + 1 ∨ b = s1.heap.objs.size := by simpa using hb
      have hle : s1.heap.objs.size ≤ b := by
        rcases e' with z | z
        · rw [z]; exact Nat.le_add_right _ _
        · rw [z]; exact Nat.le_refl _
      exact I1.fpOk hle (I1.hok.fresh hle)
    rcases q1 with ⟨hq, q⟩ | ⟨hq, q⟩
    · obtain ⟨its, rv, p', hz⟩ := I1.list hq
      refine call_enumerate_list p'.isList fun h' he hit hsz hk => wpAny_pyIter_enum he ?_
      have I2 : Inv X pins σ H1 { s1 with heap := h' } := I1.kept (t' := s1.toks) hk
      exact ⟨s1.heap.objs.size + 1, [s1.heap.objs.size + 1, s1.heap.objs.size], _, _, H1, rfl, I2, turn_enum a (s1.heap.objs.size + 1) s1.heap.objs.size, ⟨⟨.none, he⟩, hit, Nat.succ_ne_self _⟩, fresh2, q⟩
    · obtain ⟨its, rv, p', hz⟩ := I1.tuple hq
      have hlt : a < s1.heap.objs.size := by obtain ⟨o, ho, _⟩ := id p'; exact Heap.lt_size ho
      refine enum_begins1 (begins_tuple a its.toArray) (isTup_tuple p') fun h' he hit hsz hk => wpAny_pyIter_enum he ?_
      have I2 : Inv X pins σ H1 { s1 with heap := h' } := I1.kept (t' := s1.toks) hk
      exact ⟨s1.heap.objs.size + 1, [s1.heap.objs.size + 1, s1.heap.objs.size], _, _, H1, rfl, I2, turn_enumT a (s1.heap.objs.size + 1) s1.heap.objs.size, ⟨⟨.none, he⟩, ⟨_, hit, rfl, rfl⟩, Nat.succ_ne_self _, Nat.ne_of_lt hlt, Nat.ne_of_gt (Nat.lt_succ_of_lt hlt)⟩, fresh2, q⟩
def enumD : Nat → List Dt → List Dt
  | _, [] => []
  | n, d :: ds => .tuple [.int (n : Nat), d] :: enumD (n + 1) ds
theorem enumD_get : ∀ {ds : List Dt} {n i : Nat} {d : Dt}, (enumD n ds)[i]? = some d → ∃ x, ds[i]? = some x ∧ d = .tuple [.int ((n + i : Nat) : Int), x]
  | [], n, i, d, h => by simp [enumD] at h
  | x :: ds, n, 0, d, h => by simp [enumD] at h; subst h; exact ⟨x, rfl, rfl⟩
  | x :: ds, n, i + 1, d, h => by
    obtain ⟨y, h1, h2⟩ := enumD_get (ds := ds) (n := n + 1) (i := i) (by simpa [enumD] using h)
    refine ⟨y, by simpa using h1, ?_⟩
    rw [h2]
    have : n + 1 + i = n + (i + 1) := by omega
    rw [this]
theorem enumD_len : ∀ (ds : List Dt) (n : Nat), (enumD n ds).length = ds.length
  | [], n => rfl
  | d :: ds, n => by simp [enumD, enumD_len ds]
def mEnum (ma : Env → M (List Dv)) : Env → M (List Dt) := fun ρ Q Ex => ma ρ (fun xs => match xs with
  | [.d (.list ds)] => Q (enumD 0 ds)
  | [.d (.tuple ds)] => Q (enumD 0 ds)
  | _ => False) Ex
theorem si_enum {K : PySem.W.Frag} {mg : Mg} {E : XK} {k : Nat} {ta : TA} {ma : Env → M (List Dv)} (ha : SA K mg E k ta ma) : SI K mg E (iEnumA K ta) (mEnum ma) := fun en w ρ σ Q Ex R s h hq hx =>
  ha en w ρ σ _ Ex _ s h (fun xs vs w1 g1 r1 hl q => by
    split at q
    · rename_i ds
      obtain ⟨v, rfl, rv⟩ := r1.one
      simp only [RS, Rp] at rv
      obtain ⟨a, vs, rfl, h1, h2⟩ := rv
      refine ⟨a, vs, rfl, .inl ⟨SqL.of (w1.gh _ _ h1), hq _ _ w1 g1 ⟨fun w i g hi => ?_, fun w i g hi => ?_, fun w i z H' d g hd y => ?_⟩ q⟩⟩
      · rw [enumD_len] at hi
        obtain ⟨v, q1, _⟩ := h2.get (List.getElem?_eq_getElem hi)
        exact ⟨vs, v, SqL.of (w.gh _ _ (g _ _ h1)), q1⟩
      · rw [enumD_len] at hi
        exact ⟨vs, SqL.of (w.gh _ _ (g _ _ h1)), by rw [h2.length]; exact hi⟩
      · obtain ⟨x, e1, rfl⟩ := enumD_get hd
        obtain ⟨x', p1, p2⟩ := h2.get e1
        obtain ⟨T, c, rfl, hT, rfl, f1⟩ := y
        have := f1 vs (SqL.of (w.gh _ _ (g _ _ h1)))
        rw [p1] at this; injection this with this; subst this
        rw [Nat.zero_add]
        exact new_pair hT (by simp [Rp]) (Rp.mono g _ _ p2)
    · rename_i ds
      obtain ⟨v, rfl, rv⟩ := r1.one
      simp only [RS, Rp] at rv
      obtain ⟨a, vs, rfl, h1, h2⟩ := rv
      refine ⟨a, vs, rfl, .inr ⟨SqT.of (w1.gh _ _ h1), hq _ _ w1 g1 ⟨fun w i g hi => ?_, fun w i g hi => ?_, fun w i z H' d g hd y => ?_⟩ q⟩⟩
      · rw [enumD_len] at hi
        obtain ⟨v, q1, _⟩ := h2.get (List.getElem?_eq_getElem hi)
        exact ⟨vs, v, SqT.of (w.gh _ _ (g _ _ h1)), q1⟩
      · rw [enumD_len] at hi
        exact ⟨vs, SqT.of (w.gh _ _ (g _ _ h1)), by rw [h2.length]; exact hi⟩
      · obtain ⟨x, e1, rfl⟩ := enumD_get hd
        obtain ⟨x', p1, p2⟩ := h2.get e1
        obtain ⟨T, c, rfl, hT, rfl, f1⟩ := y
        have := f1 vs (SqT.of (w.gh _ _ (g _ _ h1)))
        rw [p1] at this; injection this with this; subst this
        rw [Nat.zero_add]
        exact new_pair hT (by simp [Rp]) (Rp.mono g _ _ p2)
    · exact q.elim) hx
end Ks
end

section
set_option Elab.async false
set_option linter.all false
set_option maxRecDepth 100000
set_option maxHeartbeats 4000000
/-! # Words that the printed walks use -/
namespace Ks
variable {T : List (PySem.Addr × PySem.Str)}
open PySem PySem.Spec PyProof.Rows L2
theorem boot_len_ : bootBuiltins "len" = some (.builtin "len") := by decide +kernel
theorem boot_abs_ : bootBuiltins "abs" = some (.builtin "abs") := by decide +kernel
theorem boot_all_ : bootBuiltins "all" = some (.builtin "all") := by decide +kernel
theorem boot_any_ : bootBuiltins "any" = some (.builtin "any") := by decide +kernel
theorem boot_isinstance_ : bootBuiltins "isinstance" = some (.builtin "isinstance") := by decide +kernel
theorem boot_sorted_ : bootBuiltins "sorted" = some (.builtin "sorted") := by decide +kernel
theorem boot_max_ : bootBuiltins "max" = some (.builtin "max") := by decide +kernel
theorem boot_min_ : bootBuiltins "min" = some (.builtin "min") := by decide +kernel
theorem boot_list_ : bootBuiltins "list" = some (.type "list") := by decide +kernel
theorem boot_tuple_ : bootBuiltins "tuple" = some (.type "tuple") := by decide +kernel
theorem boot_int_ : bootBuiltins "int" = some (.type "int") := by decide +kernel
theorem boot_bool_ : bootBuiltins "bool" = some (.type "bool") := by decide +kernel
theorem boot_str_ : bootBuiltins "str" = some (.type "str") := by decide +kernel
theorem boot_dict_ : bootBuiltins "dict" = some (.type "dict") := by decide +kernel
/-- an int of the module -/
theorem pe_gint {X : Cx} {x : Str} {i : Int} {pos : Pos} (hg : Gl X x) (hm : ∃ t, X.mg x = some (.int i t)) (hd : (x == ("__debug__" : Str)) = false := by decide) : PE X (.Name x pos) (tC (.int i)) := by
  obtain ⟨t, h⟩ := hm
  exact pe_glob hg h ⟨t, rfl⟩ hd
section
variable {K : PySem.W.Frag} {mg : Mg} {E : XK}
theorem ss_retN : SS K mg E tRetN (mRet (mC .none)) := fun en w ρ σ D B s h l => l.rt w .non (.d .none) s.gr (by simp [RS, Rp]) rfl h.2
/-! ### arithmetic of bools among ints (a law's own odd values) -/
def b2 (b : Bool) : Int := if b = true then 1 else 0
def numD : Dv → Option Int
  | .d (.int i) => some i
  | .d (.bool b) => some (b2 b)
  | _ => none
def rIB (g : Int → Int → Int) : R2 := fun x y H Q => (∃ i j, x = .int i ∧ y = .int j ∧ Q (.int (g i j)) H) ∨ (∃ b j, x = .bl b ∧ y = .int j ∧ Q (.int (g (b2 b) j)) H) ∨ (∃ i b, x = .int i ∧ y = .bl b ∧ Q (.int (g i (b2 b))) H)
theorem op_addIB {X : Cx} : OpR X (binaryOp .Add) (rIB (· + ·)) := by
  intro pins s σ H x y v u Q I rx ry h
  rcases h with ⟨i, j, rfl, rfl, q⟩ | ⟨b, j, rfl, rfl, q⟩ | ⟨i, b, rfl, rfl, q⟩
  · exact op_add pins s σ H _ _ v u Q I rx ry ⟨i, j, rfl, rfl, q⟩
  · cases rx
    obtain ⟨t, rfl⟩ := ry
    exact IntBool.add_bool_int ⟨.int (b2 b + j), H, I.tok _, ⟨_, rfl⟩, q⟩
  · obtain ⟨t, rfl⟩ := rx
    cases ry
    exact add_int_bool ⟨.int (i + b2 b), H, I.tok _, ⟨_, rfl⟩, q⟩
theorem op_subIB {X : Cx} : OpR X (binaryOp .Sub) (rIB (· - ·)) := by
  intro pins s σ H x y v u Q I rx ry h
  rcases h with ⟨i, j, rfl, rfl, q⟩ | ⟨b, j, rfl, rfl, q⟩ | ⟨i, b, rfl, rfl, q⟩
  · exact op_sub pins s σ H _ _ v u Q I rx ry ⟨i, j, rfl, rfl, q⟩
  · cases rx
    obtain ⟨t, rfl⟩ := ry
    exact IntBool.sub_bool_int ⟨.int (b2 b - j), H, I.tok _, ⟨_, rfl⟩, q⟩
  · obtain ⟨t, rfl⟩ := rx
    cases ry
    exact IntBool.sub_int_bool ⟨.int (i - b2 b), H, I.tok _, ⟨_, rfl⟩, q⟩
def fIB (g : Int → Int → Int) : Dv → Dv → (Dv → Prop) → Prop
  | .d (.int i), .d (.int j), Q => Q (.d (.int (g i j)))
  | .d (.bool b), .d (.int j), Q => Q (.d (.int (g (b2 b) j)))
  | .d (.int i), .d (.bool b), Q => Q (.d (.int (g i (b2 b))))
  | _, _, _ => False
theorem s2_IB {g : Int → Int → Int} : S2 K (rIB g) (fIB g) := fun w x y v u Q R rx ry h hq => by
  unfold fIB at h
  split at h
  · simp only [RS, Rp] at rx ry
    exact .inl ⟨_, _, rx, ry, hq _ _ w (.refl w) (by simp [RS, Rp]) h⟩
  · simp only [RS, Rp] at rx ry
    exact .inr (.inl ⟨_, _, rx, ry, hq _ _ w (.refl w) (by simp [RS, Rp]) h⟩)
  · simp only [RS, Rp] at rx ry
    exact .inr (.inr ⟨_, _, rx, ry, hq _ _ w (.refl w) (by simp [RS, Rp]) h⟩)
  · exact h.elim
theorem neg_bool {prog : Program} {w : World} {A : Around} {E : Value → Shared → Prop} {s : Shared} {a : Bool} {Q : Value → Shared → Prop} (h : Q (.int (-(b2 a)) s.toks) { s with toks := s.toks + 1 }) : wpAny (model prog w) A (unaryOp .USub (.bool a)) Q E s := by
  unfold unaryOp
  refine wpAny_holding ?_
  refine wpAny_bind (m := callSpecial? (.bool a) (Str.ofString "__neg__")) (wpAny_callSpecial?_slot (name := Str.ofString "__neg__") (T := "bool") (PySem.typeIs_bool s a) PySem.F.slot_bool_neg
    (wpAny_call_entry PySem.F.slot_bool_neg (PySem.typeIs_bool s a) PySem.F.entry_int_neg ?_ (PySem.F.args_int_neg_1 _)))
  cases a
  · show wpAny _ _ (do ret (← mkInt (-(0 : Int)))) _ _ s
    exact wpAny_ret_mkInt (wpAny_pure h)
  · show wpAny _ _ (do ret (← mkInt (-(1 : Int)))) _ _ s
    exact wpAny_ret_mkInt (wpAny_pure h)
def rNegB : V → Hp → VK → Prop := fun x H Q => (∃ i, x = .int i ∧ Q (.int (-i)) H) ∨ ∃ b, x = .bl b ∧ Q (.int (-(b2 b))) H
theorem un_negB {X : Cx} : UnR X (unaryOp .USub) rNegB := by
  intro pins s σ H x v Q I rx h
  rcases h with ⟨i, rfl, q⟩ | ⟨b, rfl, q⟩
  · exact un_neg pins s σ H _ v Q I rx ⟨i, rfl, q⟩
  · cases rx
    exact neg_bool ⟨.int (-(b2 b)), H, I.tok _, ⟨_, rfl⟩, q⟩
def fNegB : Dv → (Dv → Prop) → Prop
  | .d (.int i), Q => Q (.d (.int (-i)))
  | .d (.bool b), Q => Q (.d (.int (-(b2 b))))
  | _, _ => False
theorem s1_negB : S1 K rNegB fNegB := fun w x v Q R rx h hq => by
  unfold fNegB at h
  split at h
  · simp only [RS, Rp] at rx
    exact .inl ⟨_, rx, hq _ _ w (.refl w) (by simp [RS, Rp]) h⟩
  · simp only [RS, Rp] at rx
    exact .inr ⟨_, rx, hq _ _ w (.refl w) (by simp [RS, Rp]) h⟩
  · exact h.elim
def fNeg : Dv → (Dv → Prop) → Prop
  | .d (.int i), Q => Q (.d (.int (-i)))
  | _, _ => False
theorem s1_neg : S1 K (rU fun i => .int (-i)) fNeg := fun w x v Q R rx h hq => by
  unfold fNeg at h
  split at h
  · simp only [RS, Rp] at rx
    exact ⟨_, rx, hq _ _ w (.refl w) (by simp [RS, Rp]) h⟩
  · exact h.elim
/-- not of an int, a bool -/
def mNotT (ma : Env → M Dv) : Env → M Dv := fun ρ Q Ex => ma ρ (fun x => match numD x with
  | some i => Q (.d (.bool (i == 0)))
  | none => False) Ex
theorem se_notT {ta : TE} {ma : Env → M Dv} (ha : SE K mg E ta ma) : SE K mg E (tNotT K ta) (mNotT ma) := fun en w ρ σ Q Ex R s h hq he =>
  ha en w ρ σ _ Ex _ s h (fun x v w1 g1 r1 q => by
    split at q
    · rename_i i e
      unfold numD at e
      split at e
      · injection e with e; subst e
        simp only [RS, Rp] at r1; subst r1
        refine ⟨_, rfl, hq (.d (.bool _)) _ w1 g1 ?_ q⟩
        rename_i i
        have : (!(i != 0)) = (i == 0) := by simp [bne]
        rw [this]; simp [RS, Rp]
      · injection e with e; subst e
        simp only [RS, Rp] at r1; subst r1
        refine ⟨_, rfl, hq (.d (.bool _)) _ w1 g1 ?_ q⟩
        rename_i b
        cases b <;> simp [RS, Rp, b2]
      · cases e
    · exact q.elim) he
/-! ### products -/
def rMulA (K : PySem.W.Frag) : R2 := fun x y H Q => ((rI CMul (fun i j => .int (i * j)) x y H Q ∨ rI CMulW (fun i j => .int (i * j)) x y H Q) ∨ rRep x y H Q) ∨ rRepT K x y H Q
theorem op_mulA {X : Cx} : OpR X (binaryOp .Mult) (rMulA X.K) := ((op_mul.or op_mulW).or op_rep).or op_repT
def fMulA : Dv → Dv → (Dv → Prop) → Prop
  | .d (.int i), .d (.int j), Q => (CMul i j ∨ CMulW i j) ∧ Q (.d (.int (i * j)))
  | .d (.tuple xs), .d (.int k), Q => xs ≠ [] ∧ 2 ≤ k ∧ k ≤ 1000 ∧ xs.length ≤ 1000 ∧ Q (.d (.tuple (List.replicate k.toNat xs).flatten))
  | x, .d (.int k), Q => match x.ls? with
    | some xs => -(2 ^ 63) ≤ k ∧ k < 2 ^ 63 ∧ xs.length * k.toNat ≤ sizeLine ∧ Q (.d (.list (List.replicate k.toNat xs).flatten))
    | none => False
  | _, _, _ => False
theorem RpA.rep {G : Hp} {ds : List Dt} {vs : List V} (h : RpA G ds vs) : ∀ k : Nat, RpA G (List.replicate k ds).flatten (List.replicate k vs).flatten
  | 0 => .nil
  | k + 1 => by
    rw [List.replicate_succ, List.replicate_succ, List.flatten_cons, List.flatten_cons]
    exact h.append (RpA.rep h k)
theorem s2_mulA : S2 K (rMulA K) fMulA := fun w x y v u Q R rx ry h hq => by
  unfold fMulA at h
  split at h
  · simp only [RS, Rp] at rx ry
    rcases h.1 with c | c
    · exact .inl (.inl (.inl ⟨_, _, rx, ry, c, hq _ _ w (.refl w) (by simp [RS, Rp]) h.2⟩))
    · exact .inl (.inl (.inr ⟨_, _, rx, ry, c, hq _ _ w (.refl w) (by simp [RS, Rp]) h.2⟩))
  · rename_i xs k
    simp only [RS, Rp] at rx ry
    subst ry
    obtain ⟨a, vs, rfl, h1, h2⟩ := rx
    obtain ⟨c1, c2, c3, c4, c5⟩ := h
    exact .inr ⟨a, k, vs, rfl, rfl, SqT.of (w.gh _ _ h1), fun e => c1 (h2.nil_iff.mp e), c2, c3, by rw [h2.length]; exact c4, fun p hp => hq _ _ _ (Grow.add hp tup_nt) (new_tup hp (h2.rep _)) c5⟩
  · rename_i k _ _
    simp only [RS, Rp] at ry
    subst ry
    split at h
    · rename_i xs e
      obtain ⟨a, vs, rfl, h1, h2⟩ := ls_rs rx e
      obtain ⟨c1, c2, c3, c4⟩ := h
      exact .inl (.inr ⟨a, k, vs, rfl, rfl, h1, c1, c2, by rw [h2.length]; exact c3, fun p hp => hq _ _ _ (Grow.add hp lst_nt) (new_lst hp (h2.rep _)) c4⟩)
    · exact h.elim
  · exact h.elim
/-! ### x += e -/
def fAddI : Dv → Dv → (Dv → Prop) → Prop := opI0 fun i j => .int (i + j)
theorem s2_ipadd : S2 K (ipI fun i j => i + j) fAddI := fun w x y v u Q R rx ry h hq => by
  unfold fAddI opI0 at h
  split at h
  · simp only [RS, Rp] at rx ry
    exact ⟨_, _, rx, ry, hq _ _ w (.refl w) (by simp [RS, Rp]) h⟩
  · exact h.elim
theorem s2_ipsub : S2 K (ipI fun i j => i - j) fSub := fun w x y v u Q R rx ry h hq => by
  unfold fSub opI0 at h
  split at h
  · simp only [RS, Rp] at rx ry
    exact ⟨_, _, rx, ry, hq _ _ w (.refl w) (by simp [RS, Rp]) h⟩
  · exact h.elim
/-! ### str(x) of an int, a bool, a text -/
def rStrA : List V → Hp → VK → Prop := fun xs H Q => (∃ i, xs = [.int i] ∧ i.natAbs.log2 < 1920 ∧ Q (.str (toString i)) H) ∨ (∃ b, xs = [.bl b] ∧ Q (.str (if b then "True" else "False")) H)
theorem call_strA {X : Cx} : CallR X (.type "str") rStrA := by
  intro pins s σ H xs us Q I r h
  rcases h with ⟨i, rfl, c, q⟩ | ⟨b, rfl, q⟩
  · exact call_str_int pins s σ H _ us Q I r ⟨i, rfl, c, q⟩
  · obtain ⟨u, rfl, ru⟩ := vals1 r
    cases ru
    exact P.str_of_bool ⟨.str _, H, I.tok _, ⟨_, rfl⟩, q⟩
def fStrA : List Dv → (Dv → Prop) → Prop
  | [.d (.int i)], Q => i.natAbs.log2 < 1920 ∧ Q (.d (.str (toString i)))
  | [.d (.bool b)], Q => Q (.d (.str (if b then "True" else "False")))
  | _, _ => False
theorem sc_strA : SC K rStrA fStrA := fun w xs vs Q R r h hq => by
  unfold fStrA at h
  split at h
  · obtain ⟨v, rfl, rv⟩ := r.one
    simp only [RS, Rp] at rv; subst rv
    exact .inl ⟨_, rfl, h.1, hq _ _ w (.refl w) (by simp [RS, Rp]) h.2⟩
  · obtain ⟨v, rfl, rv⟩ := r.one
    simp only [RS, Rp] at rv; subst rv
    exact .inr ⟨_, rfl, hq _ _ w (.refl w) (by simp [RS, Rp]) h⟩
  · exact h.elim
end
/-- a def that is never called -/
theorem df_no {P : Program} {w : World} {K : PySem.W.Frag} {mg : Mg} {base : Heap} {x : Str} {st : Stmt} {N ps : List Str} {k : Nat} (T : FunAt K mg x st) (S : FnScope N ps (defScope st))
    (hbind : ∀ (kV doc pm : Value) (an : Option Addr) (cdv ct : Value) (us : List Value), us.length = ps.length → bindArgs (PySem.W.fnOf x x (defArgs st) (defBody st) (defScope st) .none kV doc pm an cdv ct) ⟨us, []⟩ = pure (ps.zip us)) : Df P w K mg base x k ps (fun _ _ _ => False) := by
  obtain ⟨f, fd, Fu, hm⟩ := T
  exact ⟨f, fd, ⟨fun vs H Q E h => by obtain ⟨_, _, _, _, _, _, _, _, z, _⟩ := h; exact z.elim, fun _ _ _ _ _ _ _ _ _ _ _ _ _ h => by obtain ⟨_, _, _, _, _, _, _, _, z, _⟩ := h; exact z.elim⟩, hm, Fu.kp, Fu.binds hbind⟩
end Ks
end

section
set_option Elab.async false
set_option linter.all false
set_option maxRecDepth 100000
set_option maxHeartbeats 4000000
/-! # Drawing coils -/
namespace Ks
variable {T : List (PySem.Addr × PySem.Str)}
open PySem PySem.Spec PyProof.Rows L2
/-- the coil at c turns -/
theorem coil_turn {w : Wd T} {c : Addr} {a b : Int} (hc : w.C c) (h0 : 0 ≤ a) (h1 : 0 ≤ b) (h2 : b ≤ 2147483587) : ∃ w' : Wd T, Grow w w' ∧ w'.H = upd w.H c (.lst [.int a, .int b]) := by
  obtain ⟨a0, b0, e0, _⟩ := w.cat c hc
  have hg := w.gc c hc
  have hgh : Same w.G (upd w.H c (.lst [.int a, .int b])) := fun x u e => by
    have nx : x ≠ c := fun z => by rw [z, hg] at e; cases e
    exact (upd_ne nx).trans (w.gh x u e)
  have hct : ∀ d, w.C d → CoilAt (upd w.H c (.lst [.int a, .int b])) d := fun d hd => by
    by_cases e : d = c
    · subst e; exact ⟨a, b, upd_same, h0, h1, h2⟩
    · obtain ⟨m, n, e1, e2⟩ := w.cat d hd
      exact ⟨m, n, (upd_ne e).trans e1, e2⟩
  refine ⟨⟨w.C, w.G, upd w.H c (.lst [.int a, .int b]), hgh, w.gc, w.gt, hct, tabs_upd w.tabs e0 lst_nt lst_nc⟩, ⟨Same.refl _, fun x u h h' => (by
    have h'' : w.G x = some u := h'
    rw [h] at h''; cases h''), fun x u h nc nt => ?_, fun x h => ?_, fun _ h => h, fun _ h n => absurd h n⟩, rfl⟩
  · have nx : x ≠ c := fun e => nc (e ▸ hc)
    exact (upd_ne nx).trans h
  · have nx : x ≠ c := fun e => by
      rw [e] at h
      exact h.no (o := .lst [.int a, .int b]) upd_same lst_nt
    exact fun o' h' => h o' ((upd_ne nx).trans h')
section
variable {K : PySem.W.Frag} {mg : Mg} {E : XK} {te : TE} {me : Env → M Dv}
/-- coil[k] = e, the coil in slot i -/
def mCoil (i : Nat) (k : Int) (me : Env → M Dv) : MS := fun B ρ => match ρ[i]? with
  | some (some .coil) => me ρ (fun x => match x with
    | .d (.int v) => 0 ≤ v ∧ (k = 0 ∨ (k = 1 ∧ v ≤ 2147483587)) ∧ B.nx ρ
    | _ => False) B.ex
  | _ => False
theorem ss_coil (i : Nat) (k : Int) (he : SE K mg E te me) : SS K mg E (tAsg te (gSub (tVar i) (tC (.int k)) rSetL)) (mCoil i k me) := fun en w ρ σ D B s h l => by
  unfold mCoil at h
  split at h
  · rename_i eo
    obtain ⟨v0, h1, c, rfl, hc⟩ := s.rs i _ eo
    refine he en w ρ σ _ _ _ s h (fun x v w1 g1 r1 q => ?_) (fun x u o w1 g q r => l.ex x u o w1 (s.gr.trans g) q r)
    split at q
    · rename_i n
      simp only [RS, Rp] at r1; subst r1
      obtain ⟨q1, q2, q3⟩ := q
      have hc1 := g1.cc c hc
      obtain ⟨a0, b0, e0, p1, p2, p3⟩ := w1.cat c hc1
      refine ⟨.ref c, h1, ?_⟩
      rcases q2 with rfl | ⟨rfl, q2⟩
      · obtain ⟨w2, g2, e2⟩ := coil_turn (a := n) (b := b0) hc1 q1 p2 p3
        refine ⟨c, [.int a0, .int b0], 0, 0, rfl, rfl, e0, rfl, ?_⟩
        have := l.nx w2 ρ σ (g1.trans g2).gg ((s.grow g1).grow g2) q3
        rw [e2] at this; exact this
      · obtain ⟨w2, g2, e2⟩ := coil_turn (a := a0) (b := n) hc1 p1 q1 q2
        refine ⟨c, [.int a0, .int b0], 1, 1, rfl, rfl, e0, rfl, ?_⟩
        have := l.nx w2 ρ σ (g1.trans g2).gg ((s.grow g1).grow g2) q3
        rw [e2] at this; exact this
    · exact q.elim
  · exact h.elim
/-- return [a, b], a new coil -/
def mRetCoil (mf : Env → M (List Dt)) : MS := fun B ρ => mf ρ (fun ds => match ds with
  | [.int a, .int b] => 0 ≤ a ∧ 0 ≤ b ∧ b ≤ 2147483587 ∧ B.rt .coil
  | _ => False) B.ex
theorem ss_retCoil {mf : Env → M (List Dt)} (hf : SF K mg E te mf) : SS K mg E (tRet te) (mRetCoil mf) := fun en w ρ σ D B s h l =>
  hf en w ρ σ _ _ _ s h (fun ds a vs w1 g1 h0 hg hc hH hr q => by
    split at q
    · rename_i m n
      have hv : vs = [.int m, .int n] := by
        have := RpA.ilst (ns := [m, n]) hr
        simpa using this
      subst hv
      have hcat : ∀ c, (w1.C c ∨ c = a) → CoilAt w1.H c := fun c e => by
        rcases e with e | rfl
        · exact w1.cat c e
        · exact ⟨m, n, hH, q.1, q.2.1, q.2.2.1⟩
      have hgc : ∀ c, (w1.C c ∨ c = a) → w1.G c = none := fun c e => by
        rcases e with e | rfl
        · exact w1.gc c e
        · exact hg
      have gr : Grow w ⟨fun c => w1.C c ∨ c = a, w1.G, w1.H, w1.gh, hgc, w1.gt, hcat, w1.tabs⟩ := ⟨g1.gg, g1.new, g1.keep, g1.dom, fun c e => .inl (g1.cc c e), fun c e n => by
        rcases e with e | rfl
        · exact g1.cn c e n
        · exact h0⟩
      exact l.rt ⟨fun c => w1.C c ∨ c = a, w1.G, w1.H, w1.gh, hgc, w1.gt, hcat, w1.tabs⟩ (.ref a) .coil (s.gr.trans gr) (show RS K ⟨fun c => w1.C c ∨ c = a, w1.G, w1.H, w1.gh, hgc, w1.gt, hcat, w1.tabs⟩ (.ref a) .coil from ⟨a, rfl, .inr rfl⟩) rfl q.2.2.2
    · exact q.elim) (fun x u o w1 g q r => l.ex x u o w1 (s.gr.trans g) q r)
end
end Ks
end

section
set_option Elab.async false
set_option linter.all false
set_option maxRecDepth 100000
set_option maxHeartbeats 4000000
/-! # What runs while an exception is handled: ends of iterators, pairs, a comprehension over zip -/
namespace Ks
open PySem PySem.Spec PyProof.Rows L2 HotX

section
variable {prog : Program} {w : World} {A : Around} {E : Value → Shared → Prop} {s : Shared}
theorem hot_keep {x1 : Addr} {h h' : Heap} (t : HotAt A x1 h) (k : ∀ o, h.get? x1 = some o → h'.get? x1 = some o) : HotAt A x1 h' := by
  obtain ⟨hh, o1, vs1, h1, d1, c1⟩ := t
  exact ⟨hh, o1, vs1, k _ h1, d1, c1⟩
theorem stop_hot {α : Type} {x1 : Addr} {Q : α → Shared → Prop} (hot : HotAt A x1 s.heap)
    (hE : ∀ h' e, (∀ b o, s.heap.get? b = some o → h'.get? b = some o) → (∃ o, h'.get? e = some o ∧ o.cls = .type "StopIteration") → E (.ref e) { s with heap := h' }) :
    wpAny (model prog w) A (newExc (.type "StopIteration") [] >>= fun e => (raiseNew e : Sem α)) Q E s := by
  refine wpAny_bind ?_
  simp only [newExc, newTuple]
  refine wpAny_bind (wpAny_newObj_type ?_ (by size_fits))
  refine wpAny_bind (m := firstArgMember _ _) (wpAny_of_eq (a := Value.none) (by first | rfl | (simp only [firstArgMember]; rfl)) ?_)
  refine wpAny_newObj_type ?_ (by size_fits)
  refine raiseNew_hot (hot_keep hot fun _ e => Heap.get?_push_of_some _ (Heap.get?_push_of_some _ e)) (Nat.ne_of_lt ?_) (Heap.get?_push_size _ rfl) rfl (by first | (simp; done) | (simp; omega) | (simp only [Array.size_append]; simp; omega)) ?_
  · obtain ⟨_, o1, _, h1, _⟩ := hot
    exact Heap.lt_size (Heap.get?_push_of_some _ h1)
  · refine hE _ _ (fun b o e => ?_) ⟨_, Heap.get?_update_self _ (Heap.get?_push_size _ rfl) rfl, rfl⟩
    rw [Heap.get?_update_other _ _ (Nat.ne_of_gt (Heap.lt_size (Heap.get?_push_of_some _ e)))]
    exact Heap.get?_push_of_some _ (Heap.get?_push_of_some _ e)
theorem listEndHot {it l x1 : Addr} {i : Nat} {items : Array Value} {Q : Value → Shared → Prop} (hot : HotAt A x1 s.heap) (hx1 : x1 ≠ it) (hit : s.heap.IsListIter it l i) (hl : s.heap.IsList l items) (hx : items[i]? = none)
    (hE : ∀ h' e, Heap.ExtBut it s.heap h' → (∃ o, h'.get? e = some o ∧ o.cls = .type "StopIteration") → E (.ref e) { s with heap := h' }) : wpAny (model prog w) A (Builtin.SmallTypes.nextOf (.ref it)) Q E s := by
  obtain ⟨o, ho, hc, hd⟩ := id hit
  obtain ⟨ol, hol, _, nl, hdl⟩ := hl
  unfold Builtin.SmallTypes.nextOf
  refine wpAny_bind (wpAny_callSpecial?_slot (name := Str.ofString "__next__") hit.typeIs slot_listiter_next
    (wpAny_call_entry slot_listiter_next hit.typeIs entry_listiter_next ?_ (args_listiter_next _)))
  show wpAny _ _ (field (.ref it) 0 >>= _) _ _ s
  refine wpAny_bind (wpAny_field ho hd (x := .ref l) rfl ?_)
  show wpAny _ _ (if (Value.ref l == Value.none) = true then _ else _) _ _ s
  rw [if_neg (show ¬ ((Value.ref l == Value.none) = true) from Bool.false_ne_true)]
  show wpAny _ _ (field (.ref it) 1 >>= _) _ _ s
  refine wpAny_bind (wpAny_field ho hd (x := .int i 0) rfl ?_)
  show wpAny _ _ (seqItems? (.ref l) >>= _) _ _ s
  refine wpAny_bind (wpAny_seqItems hol hdl ?_)
  simp only [Int.toNat_natCast, hx]
  refine wpAny_bind (wpAny_rule (wpAny_bind (wpAny_setField ho hd (by simp) ?_)))
  exact stop_hot (x1 := x1) (hot_keep hot fun _ e => (Heap.SameBut.update ..).extBut _ _ hx1 e) fun h' e k he => hE h' e (fun b o hb q => k b o ((Heap.SameBut.update ..).extBut b o hb q)) he
theorem tupEndHot {it t x1 : Addr} {i : Nat} {items : Array Value} {Q : Option Value → Shared → Prop} (hot : HotAt A x1 s.heap) (hx1 : x1 ≠ it) (hit : IsTupIter s.heap it t i) (ht : IsTup s.heap t items) (hx : items[i]? = none)
    (hQ : ∀ h', Heap.ExtBut it s.heap h' → Q none { s with heap := h' }) : wpAny (model prog w) A (pyNext (.ref it)) Q E s := by
  obtain ⟨o, ho, hc, hd⟩ := id hit
  obtain ⟨ol, hol, _, nl, hdl⟩ := ht
  unfold pyNext
  refine wpAny_bind (wpAny_attempt (wpAny_callSpecial?_slot (name := Str.ofString "__next__") hit.typeIs slot_tupleiter_next
    (wpAny_call_entry slot_tupleiter_next hit.typeIs entry_tupleiter_next ?_ (args_tupleiter_next _))))
  show wpAny _ _ (field (.ref it) 0 >>= _) _ _ s
  refine wpAny_bind (wpAny_field ho hd (x := .ref t) rfl ?_)
  show wpAny _ _ (if (Value.ref t == Value.none) = true then _ else _) _ _ s
  rw [if_neg (show ¬ ((Value.ref t == Value.none) = true) from Bool.false_ne_true)]
  show wpAny _ _ (field (.ref it) 1 >>= _) _ _ s
  refine wpAny_bind (wpAny_field ho hd (x := .int i 0) rfl ?_)
  show wpAny _ _ (seqItems? (.ref t) >>= _) _ _ s
  refine wpAny_bind (wpAny_seqItems hol hdl ?_)
  simp only [Int.toNat_natCast, hx]
  refine wpAny_bind (wpAny_rule (wpAny_bind (wpAny_setField ho hd (by simp) ?_)))
  refine stop_hot (x1 := x1) (hot_keep hot fun _ e => (Heap.SameBut.update ..).extBut _ _ hx1 e) fun h' e k he => ?_
  obtain ⟨oe, hoe, hce⟩ := he
  refine wpAny_bind (wpAny_isInstance (T := "StopIteration") (b := true) ⟨oe, hoe, hce⟩ isSubtype_stop ?_)
  exact wpAny_pure (hQ _ fun b o hb q => k b o ((Heap.SameBut.update ..).extBut b o hb q))
theorem unpackHot {t x1 : Addr} {items : Array Value} {targets : List (Bool × (Value → Sem Unit))} {Q : Unit → Shared → Prop} (hot : HotAt A x1 s.heap) (ht : IsTup s.heap t items)
    (hn : targets.length = items.size) (hstar : targets.findIdx? (·.1) = none)
    (h : ∀ h', Heap.ExtBut s.heap.objs.size s.heap h' → wpAny (model prog w) A (assignInOrder (targets.map (·.2)) items.toList) Q E { s with heap := h' }) :
    wpAny (model prog w) A (unpack (.ref t) targets) Q E s := by
  have hlt : t ≠ s.heap.objs.size := by obtain ⟨o, ho, _⟩ := ht; exact Nat.ne_of_lt (Heap.lt_size ho)
  have hx1 : x1 ≠ s.heap.objs.size := by obtain ⟨_, o, _, ho, _⟩ := hot; exact Nat.ne_of_lt (Heap.lt_size ho)
  unfold unpack
  rw [hn, hstar]
  refine wpAny_bind (wpAny_holding ?_)
  unfold unpackItems
  refine wpAny_bind ?_
  unfold notIterableAtAll
  refine wpAny_bind (wpAny_specialOf ht.typeIs slot_tuple_iter.lookup ?_)
  refine wpAny_pure ?_
  simp only [Bool.false_eq_true, if_false]
  refine wpAny_bind (wpAny_holding (iter_tuple ht ?_))
  refine wpAny_bind (wpAny_holding (draw_tuple hlt items.size 0 _ _ ⟨_, Heap.get?_push_size _ rfl, rfl, rfl⟩ (ht.push _) (by omega) fun h₁ hit₁ hs₁ => ?_))
  have hall : List.take items.size (List.drop 0 items.toList) = items.toList := by
    rw [List.drop_zero]; exact List.take_of_length_le (by simp)
  rw [hall, if_neg (by simp)]
  refine wpAny_bind (wpAny_holding (tupEndHot (x1 := x1) (hot_keep hot fun _ e => hs₁.extBut _ _ hx1 (Heap.get?_push_of_some _ e)) hx1 hit₁ ((ht.push _).extBut hs₁.extBut hlt) (by simp) fun h₂ he₂ => ?_))
  simp only [Option.isSome_none, Bool.false_eq_true, if_false]
  exact wpAny_pure (h h₂ fun b o hb e => he₂ b o hb (hs₁.extBut b o hb (Heap.get?_push_of_some _ e)))
theorem zipEndHot {z TI TO i1 i2 l1 l2 x1 : Addr} {k1 k2 : Nat} {xs ys : Array Value} {a b : Value} {Q : Option Value → Shared → Prop} (hot : HotAt A x1 s.heap) (n1 : x1 ≠ z) (n2 : x1 ≠ TO) (n3 : x1 ≠ i1) (n4 : x1 ≠ i2) (D : ZipApart z TI TO i1 i2 l1 l2)
    (hz : IsZip s.heap z TI TO .none) (hTI : IsPair s.heap TI (.ref i1) (.ref i2)) (hTO : IsPair s.heap TO a b)
    (h1 : s.heap.IsListIter i1 l1 k1) (h2 : s.heap.IsListIter i2 l2 k2) (hl1 : s.heap.IsList l1 xs) (hl2 : s.heap.IsList l2 ys) (hend : xs[k1]? = none ∨ ys[k2]? = none)
    (hQ : ∀ h', (∀ c o, c ≠ z → c ≠ TO → c ≠ i1 → c ≠ i2 → s.heap.get? c = some o → h'.get? c = some o) → Q none { s with heap := h' }) : wpAny (model prog w) A (pyNext (.ref z)) Q E s := by
  have hT : s.TypeIs (.ref z) "zip" := ⟨_, hz, rfl⟩
  unfold pyNext
  refine wpAny_bind (wpAny_attempt (wpAny_callSpecial?_slot (name := Str.ofString "__next__") hT F.slot_zip_next
    (wpAny_call_entry F.slot_zip_next hT F.entry_zip_next ?_ (F.args_zip_next_1 _))))
  have fin : ∀ (h' : Heap) (e : Addr), (∃ o, h'.get? e = some o ∧ o.cls = .type "StopIteration") → (∀ c o, c ≠ z → c ≠ TO → c ≠ i1 → c ≠ i2 → s.heap.get? c = some o → h'.get? c = some o) →
      wpAny (model prog w) A (isInstance (.ref e) (.type "StopIteration") >>= fun b => if b = true then pure none else throw (.ref e)) Q E { s with heap := h' } := fun h' e he hk => by
    obtain ⟨o, ho, hc⟩ := he
    refine wpAny_bind (wpAny_isInstance (T := "StopIteration") (b := true) ⟨o, ho, hc⟩ isSubtype_stop ?_)
    exact wpAny_pure (hQ _ hk)
  show wpAny _ _ (field (.ref z) 2 >>= _) _ _ _
  refine wpAny_bind (wpAny_field hz rfl (x := .bool false) rfl ?_)
  show wpAny _ _ (field (.ref z) 3 >>= _) _ _ _
  refine wpAny_bind (wpAny_field hz rfl (x := .ref TI) rfl ?_)
  refine wpAny_bind (wpAny_seqItems hTI rfl ?_)
  show wpAny _ _ (Builtin.SmallTypes.ownedTupleIsFree (.ref z) >>= _) _ _ _
  refine wpAny_bind ?_
  unfold Builtin.SmallTypes.ownedTupleIsFree
  refine wpAny_bind (wpAny_field hz rfl (x := .none) rfl (wpAny_pure ?_))
  simp only [if_true]
  refine wpAny_bind (wpAny_rule ?_)
  refine wpAny_bind (wpAny_field hz rfl (x := .ref TO) rfl ?_)
  refine wpAny_bind (wpAny_setField_rec hz (by simp) fun h₁ hz₁ hs₁ => ?_)
  replace hz₁ : IsZip h₁ z TI TO .ellipsis := hz₁
  have hot1 : HotAt A x1 h₁ := hot_keep hot fun _ e => hs₁.extBut _ _ n1 e
  refine wpAny_bind ?_
  simp only [List.zipIdx_cons, List.zipIdx_nil, List.forIn_cons, List.forIn_nil]
  refine wpAny_bind (wpAny_bind (wpAny_onRaise ?_))
  show wpAny _ _ (Builtin.SmallTypes.nextOf (.ref i1) >>= _) _ _ _
  cases hx : xs[k1]? with
  | none =>
    refine wpAny_bind (listEndHot (x1 := x1) hot1 n3 (h1.extBut hs₁.extBut D.i1z) (hl1.extBut hs₁.extBut D.l1z) hx fun h₂ e hs₂ he => ?_)
    obtain ⟨oe, hoe, hce⟩ := he
    have hz₂ : IsZip h₂ z TI TO .ellipsis := hs₂ _ _ D.i1z.symm hz₁
    have hez : e ≠ z := fun x => by subst x; rw [hz₂] at hoe; cases hoe; simp at hce
    refine wpAny_setField_rec hz₂ (by simp) fun h₃ _ hs₃ => fin h₃ e ⟨oe, hs₃.extBut _ _ hez hoe, hce⟩ (fun c o c1 _ c3 _ x => hs₃.extBut _ _ c1 (hs₂ _ _ c3 (hs₁.extBut _ _ c1 x)))
  | some x =>
    have hy : ys[k2]? = none := by rcases hend with h | h; rw [hx] at h; cases h; exact h
    refine wpAny_bind (wpAny_nextOf_list_item (h1.extBut hs₁.extBut D.i1z) (hl1.extBut hs₁.extBut D.l1z) hx fun h₂ h1₂ hs₂ => wpAny_pure ?_)
    have hTO₂ : IsPair h₂ TO a b := hs₂.extBut _ _ D.TOi1 (hs₁.extBut _ _ D.TOz hTO)
    refine wpAny_bind (wpAny_seqItems hTO₂ rfl ?_)
    refine wpAny_bind (wpAny_updateSeq_pair hTO₂ fun h₃ hTO₃ hs₃ => ?_)
    refine wpAny_bind (wpAny_letGo (wpAny_pure ?_))
    refine wpAny_bind (wpAny_bind (wpAny_onRaise ?_))
    show wpAny _ _ (Builtin.SmallTypes.nextOf (.ref i2) >>= _) _ _ _
    refine wpAny_bind (listEndHot (x1 := x1) (hot_keep hot1 fun _ e => hs₃.extBut _ _ n2 (hs₂.extBut _ _ n3 e)) n4 (((h2.extBut hs₁.extBut D.i2z).extBut hs₂.extBut D.i12.symm).extBut hs₃.extBut D.TOi2.symm)
      (((hl2.extBut hs₁.extBut D.l2z).extBut hs₂.extBut D.l2i1).extBut hs₃.extBut D.l2TO) hy fun h₄ e hs₄ he => ?_)
    obtain ⟨oe, hoe, hce⟩ := he
    have hz₄ : IsZip h₄ z TI TO .ellipsis := hs₄ _ _ D.i2z.symm (hs₃.extBut _ _ D.TOz.symm (hs₂.extBut _ _ D.i1z.symm hz₁))
    have hez : e ≠ z := fun x => by subst x; rw [hz₄] at hoe; cases hoe; simp at hce
    refine wpAny_setField_rec hz₄ (by simp) fun h₅ _ hs₅ => fin h₅ e ⟨oe, hs₅.extBut _ _ hez hoe, hce⟩ (fun c o c1 c2 c3 c4 x => hs₅.extBut _ _ c1 (hs₄ _ _ c4 (hs₃.extBut _ _ c2 (hs₂.extBut _ _ c3 (hs₁.extBut _ _ c1 x)))))
end
/-- an exception is handled, its object stands out of this context's reach -/
def HotS (X : Cx) : Prop := ∃ x1, HotAt X.A x1 X.s_0.heap ∧ X.H_0 x1 = none ∧ x1 ∉ X.fs ∧ x1 ∉ X.ex
theorem HotS.at {X : Cx} {pins : List (Addr × Obj)} {σ : L2.St} {H : Hp} {s : Shared} (c : HotS X) (I : Inv X pins σ H s) : ∃ x1, HotAt X.A x1 s.heap ∧ x1 ∉ X.ex := by
  obtain ⟨x1, ht, h0, n1, n2⟩ := c
  exact ⟨x1, hot_keep ht fun o e => I.base.keep x1 o e h0 n1 n2, n2⟩
theorem pg_tupB {X : Cx} {es : List Expr} {k : Nat} {t : TGs} {n : Nat} {pos : Pos} (hc : HotS X) (h : PGs X es t)
    (hn : (assignEach es X.env).length = n := by rfl) (hst : (assignEach es X.env).findIdx? (·.1) = none := by rfl) : PG X (.Tuple es k pos) (gTup X.K n t) := by
  refine ⟨fun pins s σ H v u Q I r hw => ?_⟩
  obtain ⟨a, xs, e1, hq, hl, hw⟩ := hw
  subst e1
  cases r
  obtain ⟨its, rv, ht, hz⟩ := I.tuple hq
  obtain ⟨x1, hot, _⟩ := hc.at I
  rw [assign_Tuple]
  refine wpAny_bind (wpAny_standAt (unpackHot hot ht (by simp [hn, ← hl, rv.length]) hst fun h' hx => ?_))
  have I1 : Inv X pins σ H { s with heap := h' } := I.kept (t' := s.toks) fun b o e => hx b o (Nat.ne_of_lt (Heap.lt_size e)) e
  exact h.run pins _ σ H xs _ Q I1 (by simpa using rv) hw

section
variable {X : Cx}
abbrev ZSt (a b z TI TO i1 i2 : Addr) (i : Nat) (h : Heap) : Prop := IsZip h z TI TO .none ∧ IsPair h TI (.ref i1) (.ref i2) ∧ (∃ x y, IsPair h TO x y) ∧ h.IsListIter i1 a i ∧ h.IsListIter i2 b i
theorem zstep {X : Cx} {a b z TI TO i1 i2 : Addr} {elts : List Expr} {kk : Nat} {tpos : Pos} {i : Nat} {pins : List (Addr × Obj)} {s : Shared} {σ : L2.St} {H : Hp} {E : Value → Shared → Prop} (D : ZipApart z TI TO i1 i2 a b)
    (I : Inv X pins σ H s) (hf : ∀ b ∈ [z, TI, TO, i1, i2], FpOk X pins H b) (st : ZSt a b z TI TO i1 i2 i s.heap) (hg : (Itz X.K a b).go i H) :
    wpAny (model X.prog X.w) X.A (pyNext (.ref z)) (fun r s1 => ∃ u, r = some u ∧ wpAny (model X.prog X.w) X.A (letOwnedTupleGo (.Tuple elts kk tpos) (.ref z) u) (fun _ s2 => ∃ x H', Inv X pins σ H' s2 ∧ RelV x u ∧ (Itz X.K a b).yld i H x H' ∧
      ZSt a b z TI TO i1 i2 (i + 1) s2.heap ∧ ∀ b ∈ [z, TI, TO, i1, i2], H' b = none) E s1) E s := by
  obtain ⟨hz, hTI, ⟨x0, y0, hTO⟩, h1, h2⟩ := st
  obtain ⟨xs, ys, x, y, hqx, hqy, hx, hy⟩ := hg
  obtain ⟨its, rv, p, _⟩ := I.list hqx
  obtain ⟨its2, rv2, p2, _⟩ := I.list hqy
  obtain ⟨u, hu, ru⟩ := rv.get hx
  obtain ⟨u2, hu2, ru2⟩ := rv2.get hy
  have hzl : z < s.heap.objs.size := Heap.lt_size hz
  refine wpAny_pyNext_zip_item D hz hTI hTO h1 h2 p.isList p2.isList (x := u) (y := u2) (by simpa using hu) (by simpa using hu2) fun h' z' TO' h1' h2' hT hsz hk => ?_
  refine ⟨_, rfl, wpAny_letOwnedTupleGo_zip (s := { s with heap := h' }) z' fun h'' z'' sb => ?_⟩
  have hT2 : h''.get? s.heap.objs.size = some { cls := .type "tuple", data := .seq #[u, u2] } := (sb.2 _ (Nat.ne_of_gt hzl)).trans hT
  have new : ObjOk X.prog X.w (upd H s.heap.objs.size (.tup [x, y])) h'' s.heap.objs.size (.tup [x, y]) :=
    ⟨by show 2 ≤ sizeLine; decide, [u, u2], .cons ru (.cons ru2 .nil), ⟨_, hT2, rfl, _, rfl⟩⟩
  have I1 : Inv X pins σ (upd H s.heap.objs.size (.tup [x, y])) { s with heap := h'' } :=
    I.turnedNew (t' := s.toks) (ch := [z, TI, TO, i1, i2]) (fun c o hb q => (sb.2 c (fun q' => hb (by simp [q']))).trans (hk c o (fun q' => hb (by simp [q'])) (fun q' => hb (by simp [q'])) (fun q' => hb (by simp [q'])) (fun q' => hb (by simp [q'])) q)) hf (Nat.le_refl _) new
  refine ⟨.ref s.heap.objs.size, _, I1, rfl, ⟨_, x, y, rfl, I.hok.fresh (Nat.le_refl _), rfl, fun l hl => by rw [I.list_inj hl hqx]; exact hx, fun l hl => by rw [I.list_inj hl hqy]; exact hy⟩, ⟨z'', ?_, ⟨u, u2, ?_⟩, ?_, ?_⟩, fun c hcm => ?_⟩
  · exact (sb.2 _ D.TIz).trans (hk _ _ D.TIz D.TITO D.TIi1 D.TIi2 hTI)
  · exact (sb.2 _ D.TOz).trans TO'
  · exact h1'.at fun o q => (sb.2 _ D.i1z).trans q
  · exact h2'.at fun o q => (sb.2 _ D.i2z).trans q
  · have hlt : c < s.heap.objs.size := by
      have e' : c = z ∨ c = TI ∨ c = TO ∨ c = i1 ∨ c = i2 := by simpa using hcm
      rcases e' with q | q | q | q | q
      · rw [q]; exact hzl
      · rw [q]; exact Heap.lt_size hTI
      · rw [q]; exact Heap.lt_size hTO
      · rw [q]; obtain ⟨_, e1, _⟩ := h1; exact Heap.lt_size e1
      · rw [q]; obtain ⟨_, e2, _⟩ := h2; exact Heap.lt_size e2
    rw [upd_ne (Nat.ne_of_lt hlt)]
    exact (hf c hcm).1
theorem zdone {X : Cx} {a b z TI TO i1 i2 : Addr} {i : Nat} {pins : List (Addr × Obj)} {s : Shared} {σ : L2.St} {H : Hp} {E : Value → Shared → Prop} (hc : HotS X) (hex : ∀ c ∈ [z, TI, TO, i1, i2], c ∈ X.ex) (D : ZipApart z TI TO i1 i2 a b)
    (I : Inv X pins σ H s) (hf : ∀ b ∈ [z, TI, TO, i1, i2], FpOk X pins H b) (st : ZSt a b z TI TO i1 i2 i s.heap) (hg : (Itz X.K a b).stop i H) :
    wpAny (model X.prog X.w) X.A (pyNext (.ref z)) (fun r s1 => r = none ∧ Inv X pins σ H s1) E s := by
  obtain ⟨hz, hTI, ⟨x0, y0, hTO⟩, h1, h2⟩ := st
  obtain ⟨xs, ys, hqx, hqy, hend⟩ := hg
  obtain ⟨its, rv, p, _⟩ := I.list hqx
  obtain ⟨its2, rv2, p2, _⟩ := I.list hqy
  have l1 := rv.length
  have l2 := rv2.length
  have he : its.toArray[i]? = none ∨ its2.toArray[i]? = none := by
    rcases hend with q | q
    · exact .inl (by simp; omega)
    · exact .inr (by simp; omega)
  obtain ⟨x1, hot, nx⟩ := hc.at I
  have ne : ∀ c ∈ [z, TI, TO, i1, i2], x1 ≠ c := fun c hm e => nx (e ▸ hex c hm)
  exact zipEndHot hot (ne _ (by simp)) (ne _ (by simp)) (ne _ (by simp)) (ne _ (by simp)) D hz hTI hTO h1 h2 p.isList p2.isList he fun h' hk => ⟨rfl, I.turnedL (t' := s.toks) (ch := [z, TI, TO, i1, i2]) (fun c o hb q =>
    hk c o (fun q' => hb (by simp [q'])) (fun q' => hb (by simp [q'])) (fun q' => hb (by simp [q'])) (fun q' => hb (by simp [q'])) q) hf⟩
/-- [elt for (..) in zip(e, e2) if ..] while an exception is handled -/
theorem pe_lcB {elt : Expr} {e e2 : Expr} {ta : TA} {p pos0 tpos : Pos} {elts : List Expr} {kk : Nat} {ifs : List Expr} {scope : Scope} {own : List (Str × Nat)} {pos : Pos} {g : TG} {tt : TT} {te : TE}
    (hc : L2H.HotC X) (hN : X.N.Nodup) (hgz : Gl X "zip") (hmz : X.mg "zip" = none) (ha : PA X [e, e2] ta) (ok : BlkOk X.N X.env.scope scope own)
    (hg : ∀ (s : Shared) (H : Hp) (C : Addr) (cl : List (Str × Addr)) (fp : List Addr), HotS (X.blk s H scope (compEnvC scope cl C X.env) fp) → PG (X.blk s H scope (compEnvC scope cl C X.env) fp) (.Tuple elts kk tpos) g)
    (ht : ∀ (s : Shared) (H : Hp) (C : Addr) (cl : List (Str × Addr)) (fp : List Addr), PTs (X.blk s H scope (compEnvC scope cl C X.env) fp) ifs tt)
    (he : ∀ (s : Shared) (H : Hp) (C : Addr) (cl : List (Str × Addr)) (fp : List Addr), PE (X.blk s H scope (compEnvC scope cl C X.env) fp) elt te)
    (hs : ∀ x, foldedSetIterable (.Call (.Name "zip" p) [e, e2] [] pos0) X.env x = pure x := by intro _; rfl)
    (hst : starEach [e, e2] X.env = (false, eval e X.env) :: starEach [e2] X.env := by rfl) (hpl : (backTo pos0 (starEach [e2] X.env)).any (·.1) = false := by rfl) :
    PE X (.ListComp elt [⟨.Tuple elts kk tpos, .Call (.Name "zip" p) [e, e2] [] pos0, ifs, 0⟩] scope pos) (tLc (iZip X.K ta) g tt te (own.map (·.2))) := by
  refine ⟨fun pins s σ H Q I h => ?_⟩
  rw [eval_ListComp]
  have hfree : ∀ y ∈ scope.names, y.2 = .free → ∃ c, X.env.cells.lookup y.1 = some c := fun y hy e => by
    rcases ok.free y hy e with k | k
    · exact I.ok.has _ (.inl k)
    · exact I.ok.has _ (.inr k)
  refine wpAny_comprehension_free (use := none) rfl hs (closure_ok hfree) ok.kind (fun y hy e => by rw [ok.uniq y hy, e]) ?_
  refine Call_ (ld_blt I hgz hmz PyProof.Rows.boot_zip (PyProof.Rows.callWith_type1 (thn (ha.run pos0 pins s σ H _ I h) fun us s1 ⟨vs, H2, I1, r1, q1⟩ => ?_) hst hpl))
  obtain ⟨a, b, xs, ys, ex, hqx, hqy, q⟩ := q1
  subst ex
  cases r1 with
  | cons r rr =>
  cases rr with
  | cons r' rr =>
  cases rr
  cases r
  cases r'
  obtain ⟨its, rv, p1, _⟩ := I1.list hqx
  obtain ⟨its2, rv2, p2, _⟩ := I1.list hqy
  have DD := PySem.W.ktu_apart s1.heap.objs.size a b p1.lt p2.lt
  refine call_zip_2 p1.isList p2.isList fun h2 hz hTI hTO hi1 hi2 hsz hk => wpAny_pyIter_zip hz ?_
  have st2 : ZSt a b (s1.heap.objs.size + 4) (s1.heap.objs.size + 2) (s1.heap.objs.size + 3) s1.heap.objs.size (s1.heap.objs.size + 1) 0 h2 := ⟨hz, hTI, ⟨_, _, hTO⟩, hi1, hi2⟩
  have I2 : Inv X pins σ H2 { s1 with heap := h2 } := I1.kept (t' := s1.toks) hk
  generalize hs2 : ({ s1 with heap := h2 } : Shared) = s2 at I2
  have st2 : ZSt a b (s1.heap.objs.size + 4) (s1.heap.objs.size + 2) (s1.heap.objs.size + 3) s1.heap.objs.size (s1.heap.objs.size + 1) 0 s2.heap := by rw [← hs2]; exact st2
  have f2 : ∀ c ∈ [s1.heap.objs.size + 4, s1.heap.objs.size + 2, s1.heap.objs.size + 3, s1.heap.objs.size, s1.heap.objs.size + 1], FpOk X pins H2 c := fun c hcm => by
    have e' : c = s1.heap.objs.size + 4 ∨ c = s1.heap.objs.size + 2 ∨ c = s1.heap.objs.size + 3 ∨ c = s1.heap.objs.size ∨ c = s1.heap.objs.size + 1 := by simpa using hcm
    have hle : s1.heap.objs.size ≤ c := by
      rcases e' with z | z | z | z | z <;> (rw [z]; omega)
    exact I1.fpOk hle (I1.hok.fresh hle)
  have sz2 : s2.heap.objs.size = s1.heap.objs.size + 5 := by rw [← hs2]; exact hsz
  have sz : ∀ c ∈ [s1.heap.objs.size + 4, s1.heap.objs.size + 2, s1.heap.objs.size + 3, s1.heap.objs.size, s1.heap.objs.size + 1], c < s2.heap.objs.size := fun c hcm => by
    have e' : c = s1.heap.objs.size + 4 ∨ c = s1.heap.objs.size + 2 ∨ c = s1.heap.objs.size + 3 ∨ c = s1.heap.objs.size ∨ c = s1.heap.objs.size + 1 := by simpa using hcm
    rcases e' with z | z | z | z | z <;> (rw [z]; omega)
  generalize s1.heap.objs.size + 4 = z, s1.heap.objs.size + 2 = TI, s1.heap.objs.size + 3 = TO, s1.heap.objs.size + 1 = i2 at DD st2 f2 sz ⊢
  generalize s1.heap.objs.size = i1 at DD st2 f2 sz ⊢
  refine wpAny_newObj_type (newEnv_comp ?_) (by show 0 ≤ sizeLine; decide)
  generalize hD : s2.heap.objs.size = D
  have hDn : H2 D = none := I2.hok.fresh (Nat.le_of_eq hD)
  obtain ⟨W, ⟨m0, w0⟩, turn⟩ := q D hDn
  generalize hs3 : ({ s2 with heap := s2.heap.push { cls := .type "list", data := .seq ([] : List Value).toArray } } : Shared) = s3
  have I3 : Inv X pins σ (upd H2 D (.lst [])) s3 := by
    rw [← hs3]
    refine I2.laid (t' := s2.toks) (fun b o e => Heap.get?_push_of_some _ e) (Nat.le_of_eq hD) ⟨Nat.zero_le _, [], 0, .nil, ?_⟩
    rw [← hD]
    exact Heap.get?_push_size _ rfl
  have h3 : s3.heap = s2.heap.push { cls := .type "list", data := .seq ([] : List Value).toArray } := by rw [← hs3]
  generalize hfp : [z, TI, TO, i1, i2] = fp at sz f2
  have f3 : ∀ b ∈ fp, FpOk X pins (upd H2 D (.lst [])) b ∧ b < s3.heap.objs.size := fun b hb => by
    have hlt := sz b hb
    refine ⟨⟨?_, (f2 b hb).2⟩, by rw [h3, Heap.size_push]; exact Nat.lt_succ_of_lt hlt⟩
    rw [upd_ne (by rw [← hD]; exact Nat.ne_of_lt hlt)]
    exact (f2 b hb).1
  have keepT : ∀ (i : Nat) (h h' : Heap), ZSt a b z TI TO i1 i2 i h → (∀ c ∈ fp, ∀ o, h.get? c = some o → h'.get? c = some o) → ZSt a b z TI TO i1 i2 i h' := fun i h h' st k => by
    obtain ⟨hz, hTI, ⟨x, y, hTO⟩, h1, h2⟩ := st
    subst hfp
    exact ⟨k z (by simp) _ hz, k TI (by simp) _ hTI, ⟨x, y, k TO (by simp) _ hTO⟩, h1.at fun o q => k i1 (by simp) o q, h2.at fun o q => k i2 (by simp) o q⟩
  have objT : ∀ (i : Nat) (h : Heap), ZSt a b z TI TO i1 i2 i h → ∀ c ∈ fp, ∃ o, h.get? c = some o ∧ ∀ v, o.data ≠ .cell v := fun i h st c hcm => by
    obtain ⟨hz, hTI, ⟨x, y, hTO⟩, ⟨o1, e1, _, d1⟩, ⟨o2, e2, _, d2⟩⟩ := st
    subst hfp
    have e' : c = z ∨ c = TI ∨ c = TO ∨ c = i1 ∨ c = i2 := by simpa using hcm
    rcases e' with q | q | q | q | q
    · rw [q]; exact ⟨_, hz, fun v q => nomatch q⟩
    · rw [q]; exact ⟨_, hTI, fun v q => nomatch q⟩
    · rw [q]; exact ⟨_, hTO, fun v q => nomatch q⟩
    · rw [q]; exact ⟨o1, e1, fun v q => by rw [d1] at q; cases q⟩
    · rw [q]; exact ⟨o2, e2, fun v q => by rw [d2] at q; cases q⟩
  have st3 : ZSt a b z TI TO i1 i2 0 s3.heap := keepT 0 _ _ st2 fun b _ o e => by rw [h3]; exact Heap.get?_push_of_some _ e
  have I4 := block_start I3 ok hN f3
  have hotB : HotS (X.blk s3 (upd H2 D (.lst [])) scope (compEnvC scope (cellsFrom (s3.heap.objs.size + 1) scope.names (cloFrom X.env.cells scope.names [])) s3.heap.objs.size X.env) fp) := by
    obtain ⟨pp, ⟨hh, v1, e1, c1⟩, hp⟩ := hc
    have P1 := I3.pin pp (List.mem_append_left _ hp)
    refine ⟨pp.1, ⟨hh, pp.2, v1, P1.1, e1, c1⟩, P1.2.1, fun hm => ?_, fun hm => ?_⟩
    · exact (List.mem_cons.mp (I3.stkSub pp.1 hm)).elim P1.2.2.1 P1.2.2.2.1
    · exact (f3 _ hm).1.2.2.2.2.2 pp (List.mem_append_left _ hp) rfl
  have pg := hg s3 (upd H2 D (.lst [])) s3.heap.objs.size (cellsFrom (s3.heap.objs.size + 1) scope.names (cloFrom X.env.cells scope.names [])) fp hotB
  have pt := ht s3 (upd H2 D (.lst [])) s3.heap.objs.size (cellsFrom (s3.heap.objs.size + 1) scope.names (cloFrom X.env.cells scope.names [])) fp
  have pe := he s3 (upd H2 D (.lst [])) s3.heap.objs.size (cellsFrom (s3.heap.objs.size + 1) scope.names (cloFrom X.env.cells scope.names [])) fp
  show codeAny _ _ (.compStart (.ListComp elt [⟨.Tuple elts kk tpos, .Call (.Name "zip" p) [e, e2] [] pos0, ifs, 0⟩] scope pos) 0 (.ref z) (.ref D) (compEnvC scope (cellsFrom (s3.heap.objs.size + 1) scope.names (cloFrom X.env.cells scope.names [])) s3.heap.objs.size X.env)) (compPost (model X.prog X.w) X.A X.xe none _ (.ref D) s3.heap.objs.size) { s3 with heap := pushCells (s3.heap.push { cls := .type "dict", data := .dict #[] }) scope.names }
  have nfp : ∀ b ∈ fp, (upd H2 D (.lst [])) b = none := fun b hb => (f3 b hb).1.1
  generalize hce : compEnvC scope (cellsFrom (s3.heap.objs.size + 1) scope.names (cloFrom X.env.cells scope.names [])) s3.heap.objs.size X.env = ce at I4 pg pt pe hotB ⊢
  have cL : ce.locals = s3.heap.objs.size := by subst hce; rfl
  generalize hH3 : upd H2 D (.lst []) = H3 at I3 I4 pg pt pe w0 nfp f3 hotB
  generalize hs4 : ({ s3 with heap := pushCells (s3.heap.push { cls := .type "dict", data := .dict #[] }) scope.names } : Shared) = s4 at I4 ⊢
  have st4 : ZSt a b z TI TO i1 i2 0 s4.heap := keepT 0 _ _ st3 fun b _ o e => by rw [← hs4]; exact pushCells_keeps _ _ _ _ (Heap.get?_push_of_some _ e)
  have stat : ∀ {σ' : L2.St} {H' : Hp} {s' : Shared}, Inv (X.blk s3 H3 scope ce fp) [] σ' H' s' → (∀ b ∈ fp, H' b = none) → ∀ b ∈ fp, FpOk (X.blk s3 H3 scope ce fp) [] H' b := fun {σ' H' s'} I' hn b hb =>
    ⟨hn b hb, (I'.ok.exf b hb).1, I'.ok.exfs b hb, .inl hb, fun x c e => (I'.ok.exf b hb).2 x c e, fun p hp => absurd (show p ∈ ([] : List (Addr × Obj)) ++ [] from hp) (by simp)⟩
  have loop : codeAny (model X.prog X.w) X.A (.compLoop (.ListComp elt [⟨.Tuple elts kk tpos, .Call (.Name "zip" p) [e, e2] [] pos0, ifs, 0⟩] scope pos) 0 (.ref z) (.ref D) ce) (compPost (model X.prog X.w) X.A X.xe none (EP X pins σ Q) (.ref D) s3.heap.objs.size) s4 := by
    refine compLoop_any (fun n s' => ∃ i H', Inv (X.blk s3 H3 scope ce fp) [] (L2.wipe σ (own.map (·.2))) H' s' ∧ ZSt a b z TI TO i1 i2 i s'.heap ∧ (∀ b ∈ fp, H' b = none) ∧ W i n H') ?_ m0 ⟨0, H3, I4, st4, nfp, w0⟩
    rintro n s5 ⟨i, H5, I5, st5, n5, w5⟩
    rcases turn i n H5 w5 with ⟨stop, qq⟩ | ⟨go, Nx, hNx, step⟩
    · have td := zdone (X := X.blk s3 H3 scope ce fp) (E := fun _ _ => False) hotB (fun c hm => hfp ▸ hm) DD I5 (fun c hm => stat I5 n5 c (hfp ▸ hm)) st5 stop
      refine thnF td fun r s6 ⟨hr, I6⟩ => ?_
      subst hr
      have I7 : Inv X pins σ H5 s6 := I3.call' (ch := fp) I6.os I6.base I6.hok I6.bare fun b hb => ⟨(f3 b hb).1.2.2.2.1, (f3 b hb).1.2.1, (f3 b hb).1.2.2.2.2.1, (f3 b hb).1.2.2.2.2.2⟩
      have nC : H5 s3.heap.objs.size = none := by
        have z : H5 ce.locals = none := I6.free
        rw [cL] at z
        exact z
      obtain ⟨m, hn, _⟩ := I6.loc
      have hn : s6.heap.Ns ce.locals m := hn
      rw [cL] at hn
      refine ⟨m, hn, fun h'' sb => ?_⟩
      obtain ⟨f0, f1, f2, f3, f4, f5⟩ := I3.fpOk (Nat.le_refl _) nC
      exact ⟨.ref D, H5, I7.turned (t' := s6.toks) (fun b o hb e => (sb.2 b hb).trans e) f0 f1 f3 f4 f5, rfl, qq⟩
    · have ti := zstep (X := X.blk s3 H3 scope ce fp) (E := fun _ _ => False) (elts := elts) (kk := kk) (tpos := tpos) DD I5 (fun c hm => stat I5 n5 c (hfp ▸ hm)) st5 go
      refine thnF ti fun r s6 ⟨u, hr, h6⟩ => ?_
      subst hr
      refine thnF h6 fun _ s7 ⟨x, H7, I7, r7, y7, st7, n7⟩ => ?_
      rw [hfp] at n7
      have I7' := I7.pinned (stat I7 n7) (objT _ _ st7)
      refine thnF (pg.run _ s7 _ H7 x u _ I7' r7 (step x H7 y7)) fun _ s8 ⟨σ8, H8, I8, hw8, q8⟩ => ?_
      refine thnF (pt.run _ s8 σ8 H8 _ I8 q8) fun b' s9 ⟨H9, I9, q9⟩ => ?_
      have fin : ∀ {s' : Shared} {H' : Hp}, Inv (X.blk s3 H3 scope ce fp) ([] ++ pinsAt fp s7.heap) σ8 H' s' → Nx H' → ∃ m, m < n ∧ ∃ i H', Inv (X.blk s3 H3 scope ce fp) [] (L2.wipe σ (own.map (·.2))) H' s' ∧ ZSt a b z TI TO i1 i2 i s'.heap ∧ (∀ b ∈ fp, H' b = none) ∧ W i m H' := fun {s' H'} I' nx => by
        obtain ⟨m', hm, w'⟩ := hNx H' nx
        have pin' : ∀ b ∈ fp, ∀ o, s7.heap.get? b = some o → s'.heap.get? b = some o ∧ H' b = none := fun b hb o e =>
          let z := I'.pin (b, o) (List.mem_append_right _ (List.mem_append_right _ (mem_pinsAt hb e)))
          ⟨z.1, z.2.1⟩
        have hl : (L2.wipe σ (own.map (·.2))).length = σ8.length := by rw [← hw8, wipe_length]
        refine ⟨m', hm, i + 1, H', (I'.unpinned (pins := [])).weak hl (fun j v e => ?_), keepT _ _ _ st7 fun b hb o e => (pin' b hb o e).1, fun b hb => ?_, w'⟩
        · rw [← hw8] at e
          exact (wipe_some e).1
        · obtain ⟨o, e, _⟩ := objT _ _ st7 b hb
          exact (pin' b hb o e).2
      cases b' with
      | false =>
        simp only [Bool.false_eq_true, if_false] at q9 ⊢
        exact fin I9 q9
      | true =>
        simp only [if_true] at q9 ⊢
        refine thnF (pe.run _ s9 σ8 H9 _ I9 q9) fun z s10 ⟨yv, H10, I10, r10, acc, hD10, hz10, nx⟩ => ?_
        exact app_ok (X := X.blk s3 H3 scope ce fp) I10 hD10 hz10 r10 fun s11 I11 => fin I11 nx
  exact codeAny_compStart_list loop (wpAny_pyIter_zip st4.1 loop)
end
end Ks
end

section
set_option Elab.async false
set_option linter.all false
set_option maxRecDepth 100000
set_option maxHeartbeats 4000000
/-! # Texts split and joined; the names of a handled exception's classes -/
namespace Ks
variable {T : List (PySem.Addr × PySem.Str)}
open PySem PySem.Spec PyProof.Rows L2 HotX
def strsOf : List Dt → Option (List Str)
  | [] => some []
  | .str x :: ds => (strsOf ds).map (x :: ·)
  | _ :: _ => none
theorem strsOf_eq : ∀ {ds : List Dt} {xs : List Str}, strsOf ds = some xs → ds = slst xs
  | [], xs, h => by simp [strsOf] at h; subst h; rfl
  | .str x :: ds, xs, h => by
    simp only [strsOf, Option.map_eq_some_iff] at h
    obtain ⟨r, h1, rfl⟩ := h
    rw [strsOf_eq h1]; rfl
  | .none :: _, _, h => by simp [strsOf] at h
  | .bool _ :: _, _, h => by simp [strsOf] at h
  | .int _ :: _, _, h => by simp [strsOf] at h
  | .list _ :: _, _, h => by simp [strsOf] at h
  | .tuple _ :: _, _, h => by simp [strsOf] at h
  | .dict _ :: _, _, h => by simp [strsOf] at h
section
variable {K : PySem.W.Frag} {mg : Mg} {E : XK} {to te : TE} {mo me : Env → M Dv}
def mSplit (mo me : Env → M Dv) : Env → M (List Dt) := fun ρ Q Ex => mo ρ (fun x => match x with
  | .d (.str a) => me ρ (fun y => match y with
    | .d (.str b) => (b.length == 0) = false ∧ a.length + 2 ≤ sizeLine ∧ Q (slst (Txt.split a b))
    | _ => False) Ex
  | _ => False) Ex
theorem sf_split (ho : SE K mg E to mo) (he : SE K mg E te me) : SF K mg E (tM1 (fun x xs H Q => ∃ a b, x = .str a ∧ xs = [.str b] ∧ (b.length == 0) = false ∧ a.length + 2 ≤ sizeLine ∧ rNewStrs (Txt.split a b) H Q) to te) (mSplit mo me) := fun en w ρ σ Q Ex R s h hq hx =>
  ho en w ρ σ _ Ex _ s h (fun x v w1 g1 r1 q => by
    split at q
    · rename_i a
      simp only [RS, Rp] at r1
      subst r1
      refine ⟨⟨a, rfl⟩, he en w1 ρ σ _ Ex _ (s.grow g1) q (fun y u w2 g2 r2 q2 => ?_) (fun x u o w' g => hx x u o w' (g1.trans g))⟩
      split at q2
      · rename_i b
        simp only [RS, Rp] at r2
        subst r2
        exact ⟨a, b, rfl, rfl, q2.1, q2.2.1, fun p hp => fresh_lay hp RpA.of_slst q2.2.2 fun ds a us w' g h0 h1 h2 h3 h4 h5 => hq ds a us w' ((g1.trans g2).trans g) ((g1.trans g2).dom a h0) h1 h2 h3 h4 h5⟩
      · exact q2.elim
    · exact q.elim) hx
def mJoin (mo me : Env → M Dv) : Env → M Dv := fun ρ Q Ex => mo ρ (fun x => match x with
  | .d (.str a) => me ρ (fun y => match y.ls?.bind strsOf with
    | some ys => (ys.map (·.length)).sum + ys.length * a.length ≤ 16777216 ∧ Q (.d (.str (Txt.join a ys)))
    | none => False) Ex
  | _ => False) Ex
theorem se_join (ho : SE K mg E to mo) (he : SE K mg E te me) : SE K mg E (tM1 (fun x xs H Q => ∃ a p, ∃ ys : List Str, x = .str a ∧ xs = [.ref p] ∧ (SqL K H p (ys.map V.str) ∨ SqT K H p (ys.map V.str)) ∧
      (ys.map (·.length)).sum + ys.length * a.length ≤ 16777216 ∧ Q (.str (Txt.join a ys)) H) to te) (mJoin mo me) := fun en w ρ σ Q Ex R s h hq hx =>
  ho en w ρ σ _ Ex _ s h (fun x v w1 g1 r1 q => by
    split at q
    · rename_i a
      simp only [RS, Rp] at r1
      subst r1
      refine ⟨⟨a, rfl⟩, he en w1 ρ σ _ Ex _ (s.grow g1) q (fun y u w2 g2 r2 q2 => ?_) (fun x u o w' g => hx x u o w' (g1.trans g))⟩
      split at q2
      · rename_i ys e
        obtain ⟨ds, e1, e2⟩ := Option.bind_eq_some_iff.mp e
        obtain ⟨p, us, rfl, h1, h2⟩ := ls_rs r2 e1
        rw [strsOf_eq e2] at h2
        rw [RpA.slst h2] at h1
        exact ⟨a, p, ys, rfl, rfl, .inl (SqL.of h1), q2.1, hq _ _ w2 (g1.trans g2) (by simp [RS, Rp]) q2.2⟩
      · exact q2.elim
    · exact q.elim) hx
/-- isinstance(error, C), the error in slot i -/
def mIsx (i : Nat) (a : Addr) (b : Bool) : Env → M Dv := fun ρ Q _ => ρ[i]? = some (some (.fn a)) ∧ Q (.d (.bool b))
theorem se_isx {i : Nat} {D a C : Addr} {b : Bool} (e : PySem.W.kitOne K (.ref D) (.ref C) = some b) : SE K mg E (tCB (rIsE K D a) (tCons (tVar i) (tCons (tC (.ref C)) tNil))) (mIsx i a b) := fun en w ρ σ Q Ex R s h hq hx => by
  obtain ⟨v, h1, h2⟩ := s.rs i _ h.1
  obtain rfl : v = .ref a := h2
  exact ⟨_, h1, .ref C, .ref C, b, rfl, fun u r => r, e, hq _ _ w (.refl w) (by simp [RS, Rp]) h.2⟩
theorem se_isv {i : Nat} {D a : Addr} {n : String} {b : Bool} (e : PySem.W.kitOne K (.ref D) (.type n) = some b) : SE K mg E (tCB (rIsE K D a) (tCons (tVar i) (tCons (tC (.ty n)) tNil))) (mIsx i a b) := fun en w ρ σ Q Ex R s h hq hx => by
  obtain ⟨v, h1, h2⟩ := s.rs i _ h.1
  obtain rfl : v = .ref a := h2
  exact ⟨_, h1, .ty n, .type n, b, rfl, fun u r => r, e, hq _ _ w (.refl w) (by simp [RS, Rp]) h.2⟩
end
/-- isinstance of the exception that the context bears -/
theorem call_isH {X : Cx} {a D : Addr} {oe : Obj} (C : ExcC X.K D) (hp : (a, oe) ∈ X.pn) (hz : Zc (.ref D) none oe) (hf : ∃ vs, oe.data = .fields vs) : CallR X (.builtin "isinstance") (rIsE X.K D a) := by
  intro pins s σ H xs us Q I r h
  obtain ⟨c, cv, b, rfl, hcv, e, q⟩ := h
  cases r with
  | cons rx rr =>
    cases rr with
    | cons rt rr =>
      cases rr
      cases rx
      have ec := hcv _ rt
      subst ec
      obtain ⟨hget, _⟩ := I.pin (a, oe) (List.mem_append.mpr (.inl hp))
      obtain ⟨vs, hv⟩ := hf
      have J : PySem.W.InstAt s.heap a oe D none := by
        obtain ⟨oc, od, oda, osl⟩ := oe
        obtain ⟨h1, h2⟩ := hz
        dsimp only at h1 h2 hv
        subst h1 h2 hv
        exact ⟨hget, rfl, rfl, trivial⟩
      exact PySem.W.kia_one (PySem.W.handS_kitx_exc C.hg C.hk C.hs C.hd C.ha C.hn C.ht C.hm) I.kIn J e (fun z => nomatch z) fun tk => ⟨.bl b, H, I.kept (t' := tk) fun _ _ z => z, rfl, q⟩
/-- a def of the text, run while the exception p is handled -/
theorem hot_of {CX : CXT} {P : Program} {w : World} {K : PySem.W.Frag} {mg : Str → Option Value} {base : Heap} {k : Nat} {f : Addr} {name qual : Str} {params : Arguments} {body : List Stmt} {scope : Scope} {dV kV doc pm cdv ct oc : Value} {an od : Option Addr}
    {osl : Array (Option Value)} {N ps : List Str} (lk : K.lookup f = some ⟨oc, od, .func (PySem.W.fnOf name qual params body scope dV kV doc pm an cdv ct), osl⟩) (hcd : PySem.W.codeIn K cdv qual = true) (S : FnScope N ps scope)
    {A : Around} {outer : List PySem.Env} {s : Shared} {H : Hp} {args : Args} {us : List Value} {vs : List V} {Q : VK} {E : XK} {p : Addr × Obj} (hr : L2H.RoomH (k + 1) A) (hpin : L2H.PinOk outer H s p) (e0 : Env0 P w K mg base A outer s H)
    (hb : BindsTo s (PySem.W.fnOf name qual params body scope dV kV doc pm an cdv ct) args (ps.zip us)) (r : Vals vs us) (hl : vs.length = ps.length)
    (hbody : L2H.RoomH k (A.deeper (envOfC qual scope s.heap.objs.size f cdv)) → ∃ t, PSs (L2H.cxH CX P w K mg base N qual scope f cdv A outer s H E p) body t ∧ t { nx := fun _ H' => Q .non H', rt := Q } (L2.start N vs) H) :
    codeAny (model P w) A (.call (.ref f) args) (CR CX outer P w H s Q E) s := by
  have KX : K.In s.heap := e0.mod.kin.keeps fun b o e => (e0.bs b o e).1
  have lim : s.heap.NoLimit := e0.mod.nolimit.keeps fun b o e => (e0.bs b o e).1
  have hkind : ∀ y ∈ ps.zip us, scope.names.lookup y.1 = some .local ∨ (scope.names.lookup y.1 = some .cell ∧ ((cellsFrom (s.heap.objs.size + 1) scope.names []).lookup y.1).isSome = true) := fun ⟨n, v⟩ hy => by
    rcases S.par n (List.of_mem_zip hy).1 with q | q
    · exact .inl q
    · exact .inr ⟨q, PySem.W.cellsFrom_some _ _ _ (.inl q)⟩
  refine codeAny_call_function hr.depth (KX _ _ lk) rfl S.co S.gen rfl (PySem.W.codeRec_of KX hcd) (hb _ _ _ _ ?_)
  refine wpAny_newFunctionEnv_cells S.kind hkind fun env he s1 x => ?_
  subst he
  refine ⟨lim.keeps x.toInCall.keep, codeAny_func ?_⟩
  obtain ⟨t, ht, hq⟩ := hbody (hr.deeper _)
  have I : Inv (L2H.cxH CX P w K mg base N qual scope f cdv A outer s H E p) [] (L2.start N vs) H s1 := L2H.inv_startH S hpin e0 hl r x
  refine wpAny_mono (ht.run [] s1 (L2.start N vs) H _ I hq) (fun fl s' hs => ?_) fun e s' hs => hs
  have fin : ∀ {σ' : L2.St} {H' : Hp} {v : V} {u : Value}, Inv (L2H.cxH CX P w K mg base N qual scope f cdv A outer s H E p) [] σ' H' s' → L2.RelV v u → Q v H' → CE outer P w H s Q u s' :=
    fun {σ' H' v u} J rv q => ⟨v, H', J.os, J.bare, J.base, J.hok, rv, q⟩
  cases fl with
  | ret u =>
    obtain ⟨v, σ', H', J, rv, q⟩ := hs
    exact fin J rv q
  | next =>
    obtain ⟨σ', H', J, q⟩ := hs
    exact fin (v := V.non) (u := Value.none) J rfl q
  | brk =>
    obtain ⟨_, _, _, q⟩ := hs
    exact False.elim q
  | cont =>
    obtain ⟨_, _, _, q⟩ := hs
    exact False.elim q
/-- zip of two lists -/
def mZipL (ma : Env → M (List Dv)) : Env → M (List Dt) := fun ρ Q Ex => ma ρ (fun xs => match xs with
  | [.d (.list as), .d (.list bs)] => Q (zipD as bs)
  | _ => False) Ex
theorem si_zipL {K : PySem.W.Frag} {mg : Mg} {E : XK} {k : Nat} {ta : TA} {ma : Env → M (List Dv)} (ha : SA K mg E k ta ma) : SI K mg E (iZip K ta) (mZipL ma) := fun en w ρ σ Q Ex R s h hq hx =>
  ha en w ρ σ _ Ex _ s h (fun xs vs w1 g1 r1 hl q => by
    split at q
    · rename_i as bs
      obtain ⟨v, u, rfl, rv, ru⟩ := r1.two
      simp only [RS, Rp] at rv ru
      obtain ⟨a, vs, rfl, h1, h2⟩ := rv
      obtain ⟨b, us, rfl, h3, h4⟩ := ru
      refine ⟨a, b, vs, us, rfl, SqL.of (w1.gh _ _ h1), SqL.of (w1.gh _ _ h3), hq _ _ w1 g1 ⟨fun w i g hi => ?_, fun w i g hi => ?_, fun w i z H' d g hd y => ?_⟩ q⟩
      · obtain ⟨x, y, e1, e2, _⟩ := zipD_get (List.getElem?_eq_getElem hi)
        obtain ⟨x', p1, _⟩ := h2.get e1
        obtain ⟨y', p2, _⟩ := h4.get e2
        exact ⟨vs, us, x', y', SqL.of (w.gh _ _ (g _ _ h1)), SqL.of (w.gh _ _ (g _ _ h3)), p1, p2⟩
      · rw [zipD_len] at hi
        exact ⟨vs, us, SqL.of (w.gh _ _ (g _ _ h1)), SqL.of (w.gh _ _ (g _ _ h3)), by rw [h2.length, h4.length]; omega⟩
      · obtain ⟨x, y', e1, e2, rfl⟩ := zipD_get hd
        obtain ⟨x', p1, p1'⟩ := h2.get e1
        obtain ⟨y'', p2, p2'⟩ := h4.get e2
        obtain ⟨T, c, d, rfl, hT, rfl, f1, f2⟩ := y
        have := f1 vs (SqL.of (w.gh _ _ (g _ _ h1)))
        rw [p1] at this; injection this with this; subst this
        have := f2 us (SqL.of (w.gh _ _ (g _ _ h3)))
        rw [p2] at this; injection this with this; subst this
        exact new_pair hT (Rp.mono g _ _ p1') (Rp.mono g _ _ p2')
    · exact q.elim) hx
/-! ### the words -/
def nmL : List Str := ["InvalidRope", "InvalidSpans", "InvalidFact", "InvalidBook", "InvalidQuestion", "InvalidRing", "InvalidSize", "InvalidIndex", "InvalidNumber", "InvalidText", "Unlike", "NoRope", "NothingToUndo", "TooMany", "Failed"]
/-- what isinstance answers of an instance of D, class by class -/
structure NmOk (K : PySem.W.Frag) (mg : Mg) (D : Addr) (bs : Nat → Bool) : Prop where
  ex : ExcC K D
  is : ∀ (i : Nat) (nm : Str), nmL[i]? = some nm → ∃ C, mg.f nm = some (.ref C) ∧ PySem.W.kitOne K (.ref D) (.ref C) = some (bs i)
  vl : PySem.W.kitOne K (.ref D) (.type "ValueError") = some (bs 15)
theorem boot_ValueError_ : bootBuiltins "ValueError" = some (.type "ValueError") := by decide +kernel
end Ks
end

section
set_option Elab.async false
set_option linter.all false
set_option maxRecDepth 100000
set_option maxHeartbeats 4000000
/-! # The words of the error that a call raises -/
namespace Ks
variable {T : List (PySem.Addr × PySem.Str)}
open PySem PySem.Spec PyProof.Rows L2 HotX
/-! ### the def that tells the words -/
def NamesD (P : Program) (w : World) (K : PySem.W.Frag) (mg : Mg) (base : Heap) (k : Nat) (g : (Nat → Bool) → Str) : Prop :=
  ∃ (f : Addr) (fd : FuncData), mg.f "_law_names" = some (.ref f) ∧ PySem.W.keepIn K (.ref f) = true ∧ Binds K fd ["error"] [] ∧
    ∀ (D : Addr) (bs : Nat → Bool) (A : Around) (outer : List PySem.Env) (s : Shared) (args : Args) (p : Addr × Obj) (Q : VK) (E : XK) (wd : Wd mg.T), NmOk K mg D bs → L2H.RoomH k A → L2H.Hot1 A p → Zc (.ref D) none p.2 → L2H.PinOk outer wd.H s p →
      Env0 P w K mg.f base A outer s wd.H → BindsTo s fd args ([("error" : Str)].zip [.ref p.1]) → (∀ w', Grow wd w' → Q (.str (g bs)) w'.H) → codeAny (model P w) A (.call (.ref f) args) (CR (L2N.CX P w) outer P w wd.H s Q E) s
theorem names_of {P : Program} {w : World} {K : PySem.W.Frag} {mg : Mg} {base : Heap} {st : Stmt} {N : List Str} {k : Nat} {g : (Nat → Bool) → Str} {ms : Addr → (Nat → Bool) → MS} (Tn : FunAt K mg "_law_names" st) (S : FnScope N ["error"] (defScope st))
    (hbind : ∀ (kV doc pm : Value) (an : Option Addr) (cdv ct : Value) (us : List Value), us.length = [("error" : Str)].length → bindArgs (PySem.W.fnOf "_law_names" "_law_names" (defArgs st) (defBody st) (defScope st) .none kV doc pm an cdv ct) ⟨us, []⟩ = pure ([("error" : Str)].zip us))
    (hb : ∀ (D : Addr) (bs : Nat → Bool) (p : Addr × Obj), NmOk K mg D bs → Zc (.ref D) none p.2 → (∃ vs, p.2.data = .fields vs) → ∀ (f : Addr) (cdv : Value) (A : Around) (outer : List PySem.Env) (s : Shared) (H : Hp) (E : XK), L2H.Hot1 (A.deeper (envOfC "_law_names" (defScope st) s.heap.objs.size f cdv)) p →
      L2H.RoomH k (A.deeper (envOfC "_law_names" (defScope st) s.heap.objs.size f cdv)) →
      ∃ ts, PSs (L2H.cxH (L2N.CX P w) P w K mg.f base N "_law_names" (defScope st) f cdv A outer s H E p) (defBody st) ts ∧ SS K mg E ts (ms p.1 bs))
    (hF : ∀ (a : Addr) (bs : Nat → Bool) (Q : Dv → Prop), Q (.d (.str (g bs))) → ms a bs (endM Q (fun _ => False)) (startE N.length [.fn a])) : NamesD P w K mg base (k + 1) g := by
  obtain ⟨f, fd, Fu, hm⟩ := Tn
  refine ⟨f, fd, hm, Fu.kp, Fu.binds hbind, fun D bs A outer s args p Q E wd nm hr hot hz hpin e0 hbd hq => ?_⟩
  obtain ⟨oc, od, kV, doc, pm, an, cdv, ct, osl, rfl, lk, hcd⟩ := Fu.ex
  refine hot_of (p := p) (us := [.ref p.1]) (vs := [.ref p.1]) (ps := [("error" : Str)]) lk hcd S hr hpin e0 hbd (.cons rfl .nil) rfl fun hr' => ?_
  obtain ⟨hh, vs, hv, hc⟩ := hot
  obtain ⟨ts, h1, h2⟩ := hb D bs p nm hz ⟨vs, hv⟩ f cdv A outer s wd.H E ⟨hh, vs, hv, hc⟩ hr'
  have r0 : RSs K wd [.ref p.1] [.fn p.1] := ⟨rfl, trivial⟩
  refine ⟨ts, h1, h2 wd wd _ _ _ _ (St.start r0 rfl) (hF p.1 bs (fun x => x = .d (.str (g bs))) rfl) ⟨fun w2 ρ σ _ s2 q => ?_, fun w2 v x g r2 o q => ?_, fun _ _ _ _ _ z => z.elim, fun _ _ _ _ _ z => z.elim, fun x u o w2 g q r => q.elim⟩⟩
  · cases q
  · have q : x = _ := q
    subst q
    simp only [RS, Rp] at r2
    subst r2
    exact hq w2 g
theorem pe_names {X : Cx} {mg : Mg} {k : Nat} {g : (Nat → Bool) → Str} {D : Addr} {bs : Nat → Bool} {p : Addr × Obj} {y : Str} {py : Pos} {te : TE} {q pos : Pos} (N : NamesD X.prog X.w X.K mg X.base k g) (hp : p ∈ X.pn) (hot : L2H.Hot1 X.A p) (hr : L2H.RoomH k X.A) (hg : Gl X "_law_names")
    (nm : NmOk X.K mg D bs) (hz : Zc (.ref D) none p.2) (ha : PE X (.Name y py) te) (hmg : mg.f = X.mg := by rfl) :
    PE X (.Call (.Name "_law_names" q) [.Name y py] [] pos) (fun σ H Q => te σ H fun v H1 => v = .ref p.1 ∧ ∃ wd : Wd mg.T, wd.H = H1 ∧ ∀ w', Grow wd w' → Q (.str (g bs)) w'.H) := by
  refine ⟨fun pins s σ H Q I h => ?_⟩
  obtain ⟨f, fd, hm, hk, hb, run⟩ := N
  rw [hmg] at hm run
  refine wpAny_Call_Name_kw (ld_glob I hg hm ?_ (by decide))
  refine PySem.W.callWith_K (h₀ := X.base) I.ok.mod.kin hk (thn ((pa_cons ha pa_nil).run pos pins s σ H (fun vs H1 => match vs with
    | [v] => v = .ref p.1 ∧ ∃ wd : Wd mg.T, wd.H = H1 ∧ ∀ w', Grow wd w' → Q (.str (g bs)) w'.H
    | _ => False) I h) fun us s1 ⟨vs, H1, I1, r, h1⟩ => ⟨I1.kIn, ?_⟩) (by rfl) (by rfl)
  cases r with
  | nil => exact h1.elim
  | cons r rr =>
    cases rr with
    | cons _ _ => exact h1.elim
    | nil =>
      obtain ⟨e2, wd, e3, q⟩ := h1
      subst e2 e3
      cases r
      have b := hb s1 [.ref p.1] I1.kIn rfl
      rw [List.append_nil] at b
      have P1 := I1.pin p (List.mem_append_left _ hp)
      have hpin : L2H.PinOk X.stack wd.H s1 p := ⟨P1.1, P1.2.1, fun hm => (List.mem_cons.mp (I1.stkSub p.1 hm)).elim P1.2.2.1 P1.2.2.2.1, P1.2.2.2.2⟩
      refine wpAny_call (codeAny_mono (run D bs X.A X.stack s1 ⟨[.ref p.1], []⟩ p Q EN wd nm hr hot hz hpin I1.env0 b q) fun r s' hq => ?_)
      cases r with
      | error e => exact passN pins σ wd.H s1 e s' I1 hq
      | ok fl =>
        cases fl with
        | ret u => exact I1.after hq
        | next => exact False.elim hq
        | brk => exact False.elim hq
        | cont => exact False.elim hq
/-! ### a lambda that may raise -/
/-- the context of the lambda's body, its exceptions told with their contexts -/
abbrev lamN (X : Cx) (A : Around) (outer : List PySem.Env) (s : Shared) (H : Hp) (E : XK) (scope : Scope) (f c' : Addr) : Cx :=
  (LamX.lamCx X A outer s H E scope f c').wish fun e s' => wpAny (model X.prog X.w) (A.deeper (LamX.lamEnv X scope s.heap.objs.size f c')) (leaving (LamX.lamEnv X scope s.heap.objs.size f c') e) (fun _ s'' => L2N.CX X.prog X.w outer H s E e s'') (fun e' s'' => L2N.CX X.prog X.w outer H s E e' s'') s'
theorem pe_actN {X : Cx} {pins : List (Addr × Obj)} {σ : L2.St} {H : Hp} {s : Shared} {CXg : CXT} {Eg : XK} {Ng : List Str} {qg : Str} {sg : Scope} {g f c' : Addr} {cdg pm ctv : Value} {params : Arguments} {body : Expr} {scope : Scope} {k i : Nat} {a : Str} {pn : List (Addr × Obj)} {xe : Value → Shared → Prop} {W : WX} {tl : XK → TE} {p1 p2 : Pos}
    (I : Inv X pins σ H s) (L : LamX.LamS X.env.scope scope) (hf : s.heap.get? f = some (PySem.W.kla_obj "<lambda>" (X.env.qual ++ "<lambda>") params body scope (cloFrom X.env.cells scope.names []) pm c' ctv)) (hfn : H f = none) (hfr : f ∉ frs X.stack)
    (hbind : bindArgs (PySem.W.kla_fn "<lambda>" (X.env.qual ++ "<lambda>") params body scope (cloFrom X.env.cells scope.names []) pm (.ref c') ctv) ⟨[], []⟩ = pure [])
    (tk : L2N.Takes ((cxOf CXg X.prog X.w X.K X.mg X.base Ng qg sg g cdg X.A X.stack s H Eg).tr pn xe) W) (hr : Room (k + 1) (X.A.deeper (envOfC qg sg s.heap.objs.size g cdg)))
    (hbody : ∀ (A : Around) (outer : List PySem.Env) (s : Shared) (H : Hp) (E : XK), Room k (A.deeper (LamX.lamEnv X scope s.heap.objs.size f c')) → PE (lamN X A outer s H E scope f c') body (tl E))
    (hN : Ng[i]? = some a) (hv : Vis sg a) (hd : (a == ("__debug__" : Str)) = false := by decide) (hcd : (a == ("__classdict__" : Str)) = false := by decide) :
    PE ((cxOf CXg X.prog X.w X.K X.mg X.base Ng qg sg g cdg X.A X.stack s H Eg).tr pn xe) (.Call (.Name a p1) [] [] p2)
      (fun σZ HZ Q => σZ[i]? = some (some (.ref f)) ∧ HZ c' = some (LamX.CodeO c' (X.env.qual ++ "<lambda>")) ∧ tl (WE W σZ) σ HZ Q) := by
  refine ⟨fun pinsZ sZ σZ HZ Q IZ h => ?_⟩
  obtain ⟨hs, hc, ht⟩ := h
  refine wpAny_Call_Name_kw (thn ((pe_var (pos := p1) (i := i) hN hv hd hcd).run pinsZ sZ σZ HZ (fun v H1 => v = .ref f ∧ H1 = HZ) IZ ⟨.ref f, hs, rfl, rfl⟩) fun u s1 ⟨v, H1, I1, r1, q1⟩ => ?_)
  obtain ⟨ev, eH⟩ := q1
  subst ev
  rw [eH] at I1
  obtain rfl : u = Value.ref f := r1
  have of1 : s1.heap.get? f = some (PySem.W.kla_obj "<lambda>" (X.env.qual ++ "<lambda>") params body scope (cloFrom X.env.cells scope.names []) pm c' ctv) := I1.base.keep f _ hf hfn hfr (fun z => nomatch (show f ∈ ([] : List Addr) from z))
  refine PySem.W.callWith_F0 ⟨_, _, _, _, of1⟩ ?_
  have un : Un (frs X.stack) [] H HZ s.heap s1.heap := I1.base
  obtain ⟨⟨oc, vs, t, hoc, hdc, hvc⟩, _, _⟩ := I1.hok c' _ hc
  have rc : codeAny (model X.prog X.w) (X.A.deeper (envOfC qg sg s.heap.objs.size g cdg)) (.call (.ref f) ⟨[], []⟩) (CR (L2N.CX X.prog X.w) (envOfC qg sg s.heap.objs.size g cdg :: X.stack) X.prog X.w HZ s1 Q (WE W σZ)) s1 := by
    refine PySem.W.kla_callFunE hr.depth of1 rfl L.co L.gen rfl ⟨c', oc, vs, t, rfl, hoc, hdc, hvc⟩ ?_
    rw [hbind]
    refine wpAny_pure (wpAny_newFunctionEnv (fun y hy => (L.own y hy).2) (fun y hy => absurd hy (by simp)) (fun h₁ hns hsb => ⟨I1.nolimit.fresh _ hsb, ?_⟩) L.kind)
    show codeAny _ _ (.expr body (LamX.lamEnv X scope s1.heap.objs.size f c')) _ _
    have kp : ∀ b o, s1.heap.get? b = some o → h₁.get? b = some o := fun b o e => hsb.extBut b o (Nat.ne_of_lt (Heap.lt_size e)) (Heap.get?_push_of_some _ e)
    have J : Inv (LamX.lamCx X (X.A.deeper (envOfC qg sg s.heap.objs.size g cdg)) (envOfC qg sg s.heap.objs.size g cdg :: X.stack) s1 HZ (WE W σZ) scope f c') [] σ HZ { s1 with heap := h₁, toks := s1.toks + ([] : List (Str × Value)).length } :=
      LamX.lam_start2 I L I1.env0 hr.hd un hns kp
    refine PySem.W.kla_codeExpr (wpAny_mono ((hbody _ _ s1 HZ (WE W σZ) (hr.deeper _)).run [] _ _ HZ Q (J.wish _) ht) (fun v s' hq => ?_) fun e s' hq => hq)
    obtain ⟨w', H', J', rv, q⟩ := hq
    exact ⟨w', H', J'.os, J'.bare, J'.base, J'.hok, rv, q⟩
  have hx : PassesAt (L2N.CX X.prog X.w) ((cxOf CXg X.prog X.w X.K X.mg X.base Ng qg sg g cdg X.A X.stack s H Eg).tr pn xe) σZ (WE W σZ) := L2N.passAt tk σZ
  refine wpAny_call (codeAny_mono rc fun r s' hq => ?_)
  cases r with
  | error e => exact hx pinsZ HZ s1 e s' I1 hq
  | ok fl =>
    cases fl with
    | ret u => exact I1.after hq
    | next => exact False.elim hq
    | brk => exact False.elim hq
    | cont => exact False.elim hq
/-- the context of the lambda's body takes its exceptions -/
theorem takes_lam {X : Cx} {A : Around} {outer : List PySem.Env} {s : Shared} {H : Hp} {E : XK} {scope : Scope} {f c' : Addr} : L2N.Takes (lamN X A outer s H E scope f c') (fun cls d _ H => E cls d H) :=
  L2N.takes_of rfl rfl rfl rfl
/-! ### try: call() except KnotError as error: return _law_names(error); return "" -/
def tsW (K : PySem.W.Frag) (mg : Mg) (g : (Nat → Bool) → Str) : Addr → Value → Option Addr → TS := fun a cls d D σ H =>
  ∃ (D0 : Addr) (bs : Nat → Bool) (wd : Wd mg.T), cls = .ref D0 ∧ d = none ∧ NmOk K mg D0 bs ∧ σ[1]? = some (some (.ref a)) ∧ wd.H = H ∧ ∀ w', Grow wd w' → D.rt (.str (g bs)) w'.H
def EWf (K : PySem.W.Frag) (mg : Mg) (g : (Nat → Bool) → Str) (KE : Addr) (f : Addr) (Q : VK) : XK :=
  WE (wAs K (.ref KE) 1 (tsW K mg g) (fun _ _ _ _ => False) { nx := fun _ H' => Q (.str "") H', rt := Q }) [some (.ref f), none]
def tWord (K : PySem.W.Frag) (mg : Mg) (g : (Nat → Bool) → Str) (KE : Addr) (t : XK → TE) : TE := fun σ H Q => LamX.Tabs mg.T H ∧ ∀ (H1 : Hp) (f : Addr), LamX.ExtN H H1 → LamX.Tabs mg.T H1 → t (EWf K mg g KE f Q) σ H1 (fun _ H' => Q (.str "") H')
theorem takesNo {P : Program} {w : World} {K : PySem.W.Frag} {mg : Str → Option Value} {base : Heap} {N : List Str} {qual : Str} {sc : Scope} {f : Addr} {cd : Value} {A : Around} {outer : List PySem.Env} {s : Shared} {H : Hp} :
    L2N.Takes (cxOf (L2N.CX P w) P w K mg base N qual sc f cd A outer s H EN) (fun _ _ _ _ => False) :=
  (L2N.takes_of rfl rfl rfl rfl).imp fun _ _ _ _ h => h.elim
theorem hot1_suite {X : Cx} {a : Addr} {oe : Obj} {cls : Value} {d : Option Addr} (hz : L2N.Zn cls d oe) (hf : ∃ vs, oe.data = .fields vs) : L2H.Hot1 (X.A.mark (some (.ref a))) (a, oe) := by
  obtain ⟨vs, hv⟩ := hf
  exact ⟨rfl, vs, hv, hz.2.2 vs hv⟩
theorem roomH_mark {X : Cx} {k : Nat} {v : Option Value} (hr : Room k X.A) : L2H.RoomH k (X.A.mark v) := ⟨hr.dp, hr.un⟩
/-- _law_word(lambda: body) -/
theorem pe_word {X : Cx} {mg : Mg} {kn k : Nat} {gw : (Nat → Bool) → Str} {KE c P : Addr} {st : Stmt} {p1 p2 p3 p4 p5 p6 p7 p8 p9 p10 p11 p12 p lpos pos : Pos} {j : Nat} {params : Arguments} {body : Expr} {scope : Scope} {t : XK → TE}
    (N : NamesD X.prog X.w X.K mg X.base kn gw) (hkn : kn ≤ k) (FW : FunAt X.K mg "_law_word" st) (SW : FnScope ["call", "error"] ["call"] (defScope st))
    (bodyW : defBody st = [.Try [.Expr (.Call (.Name "call" p1) [] [] p2) p3] [.ExceptHandler (some (.Name "KnotError" p4)) (some "error") [.Return (some (.Call (.Name "_law_names" p5) [.Name "error" p6] [] p7)) p8] p9] [] [] p10, .Return (some (.Constant (.str "") j p11)) p12])
    (bindW : ∀ (kV doc pm : Value) (an : Option Addr) (cdv ct : Value) (us : List Value), us.length = [("call" : Str)].length → bindArgs (PySem.W.fnOf "_law_word" "_law_word" (defArgs st) (defBody st) (defScope st) .none kV doc pm an cdv ct) ⟨us, []⟩ = pure ([("call" : Str)].zip us))
    (lc : (defScope st).names.lookup ("call" : Str) = some .local) (le : (defScope st).names.lookup ("error" : Str) = some .local) (lk : (defScope st).names.lookup ("KnotError" : Str) = some .globalImplicit) (ln : (defScope st).names.lookup ("_law_names" : Str) = some .globalImplicit)
    (hKE : mg.f "KnotError" = some (.ref KE)) (hg : Gl X "_law_word") (TB : LamX.TabB X.base X.mg c P) (hcode : X.env.code = .ref c) (hmT : (P, X.env.qual ++ "<lambda>") ∈ mg.T) (hu : ∀ p ∈ mg.T, p.1 = P → p.2 = X.env.qual ++ "<lambda>")
    (hr : Room (k + 2) X.A) (L : LamX.LamS X.env.scope scope) (hdef : defaultsOf params X.env = ([], []))
    (hbind : ∀ (q : Str) (cl : List (Str × Addr)) (pm cv ctv : Value), bindArgs (PySem.W.kla_fn "<lambda>" q params body scope cl pm cv ctv) ⟨[], []⟩ = pure [])
    (hbody : ∀ (A : Around) (outer : List PySem.Env) (s : Shared) (H : Hp) (E : XK) (f c' : Addr), Room k (A.deeper (LamX.lamEnv X scope s.heap.objs.size f c')) → PE (lamN X A outer s H E scope f c') body (t E)) (hmg : mg.f = X.mg := by rfl) :
    PE X (.Call (.Name "_law_word" p) [.Lambda params body scope lpos] [] pos) (tWord X.K mg gw KE t) := by
  refine ⟨fun pins s σ H Q I h => ?_⟩
  obtain ⟨hT, h⟩ := h
  obtain ⟨g, fd, Fu, hm⟩ := FW
  have hb := Fu.binds bindW
  have hkp := Fu.kp
  obtain ⟨oc, od, kV, doc, pm, an, cdv, ct, osl, rfl, lkK, hcg⟩ := Fu.ex
  rw [hmg] at hm hKE
  refine wpAny_Call_Name_kw (ld_glob I hg hm ?_ (by decide))
  refine PySem.W.callWith_K (h₀ := X.base) I.ok.mod.kin hkp ?_ (by rfl) (by rfl)
  show wpAny _ _ (spliced ((false, eval (.Lambda params body scope lpos) X.env) :: backTo pos (starEach [] X.env))) _ _ s
  refine Calls.spliced_cons (LamX.lam_make2 I TB hcode hmT hu hT hdef (L.has I.ok) fun f c' pm' ctv H1 s' I1 eN T1 hf hfn hfr hco => ?_)
  refine Calls.spliced_nil ⟨I1.kIn, ?_⟩
  have bb := hb s' [.ref f] I1.kIn rfl
  rw [List.append_nil] at bb
  have rc : codeAny (model X.prog X.w) X.A (.call (.ref g) ⟨[.ref f], []⟩) (CR (L2N.CX X.prog X.w) X.stack X.prog X.w H1 s' Q EN) s' := by
    refine LamX.run_ofS (k := k + 1) (N := ["call", "error"]) (ps := ["call"]) (us := [.ref f]) (vs := [.ref f]) lkK hcg SW hr I1.env0 bb (.cons rfl .nil) rfl fun hr' => ?_
    rw [bodyW]
    refine ⟨_, pss_cons (L2N.ps_try_as (X := cxOf (L2N.CX X.prog X.w) X.prog X.w X.K X.mg X.base ["call", "error"] "_law_word" (defScope st) g cdv X.A X.stack s' H1 EN) (i := 1) (c := .ref KE) (Wout := fun _ _ _ _ => False) (ts := tsW X.K mg gw)
        (tb := fun W D σZ HZ => σZ[0]? = some (some (.ref f)) ∧ HZ c' = some (LamX.CodeO c' (X.env.qual ++ "<lambda>")) ∧ t (WE W σZ) σ HZ fun _ H' => D.nx σZ H')
        rfl rfl (show ([("call" : Str), "error"]).Nodup from by decide) rfl le ⟨lk, by decide, .inl hKE⟩ takesNo (fun W pn xe tk _ => ?_) (fun a oe cls d pn hz hfl => ?_)) (pss_one (ps_ret pe_str)), ?_⟩
    · exact pss_one (ps_expr (pe_actN (i := 0) I1 L hf hfn hfr (hbind _ _ _ _ _) tk hr' (fun A outer s H E hr2 => hbody A outer s H E f c' hr2) rfl (.inl lc)))
    · refine ⟨fun pinsS sS σS HS D IS hS => ?_⟩
      obtain ⟨D0, bs, wd, e1, e2, nm, e3, e4, q⟩ := hS
      subst e1 e2 e4
      have hr'' : Room (k + 1) (cxOf (L2N.CX X.prog X.w) X.prog X.w X.K X.mg X.base ["call", "error"] "_law_word" (defScope st) g cdv X.A X.stack s' H1 EN).A := hr'
      refine (pss_one (ps_ret (pe_names (X := (cxOf (L2N.CX X.prog X.w) X.prog X.w X.K X.mg X.base ["call", "error"] "_law_word" (defScope st) g cdv X.A X.stack s' H1 EN).suite a ((a, oe) :: pn)) (mg := mg) (p := (a, oe)) N List.mem_cons_self (hot1_suite (X := cxOf (L2N.CX X.prog X.w) X.prog X.w X.K X.mg X.base ["call", "error"] "_law_word" (defScope st) g cdv X.A X.stack s' H1 EN) hz hfl) (roomH_mark (hr''.mono (Nat.le_succ_of_le hkn))) ln nm hz.zc (pe_var (i := 1) (x := "error") rfl (.inl le)) hmg))).run pinsS sS σS wd.H D IS ?_
      exact ⟨.ref a, e3, rfl, wd, rfl, q⟩
    · exact ⟨rfl, hco, h H1 f eN T1⟩
  refine wpAny_call (codeAny_mono rc fun r s2 hq => ?_)
  cases r with
  | error e => exact passN pins σ H1 s' e s2 I1 hq
  | ok fl =>
    cases fl with
    | ret u => exact I1.after hq
    | next => exact False.elim hq
    | brk => exact False.elim hq
    | cont => exact False.elim hq
/-! ### in plain data -/
def Wd.lam (w : Wd T) (H1 : Hp) (e : LamX.ExtN w.H H1) (t : LamX.Tabs T H1) : Wd T where
  C := w.C
  G := w.G
  H := H1
  gh := fun a o h => e a o (w.gh a o h) fun ps z => w.gt a ps (z ▸ h)
  gc := w.gc
  gt := w.gt
  cat := fun c h => by
    obtain ⟨a, b, h1, h2⟩ := w.cat c h
    exact ⟨a, b, e _ _ h1 (fun _ z => nomatch z), h2⟩
  tabs := t
theorem Grow.lam {w : Wd T} {H1 : Hp} (e : LamX.ExtN w.H H1) (t : LamX.Tabs T H1) : Grow w (w.lam H1 e t) where
  gg := Same.refl _
  new := fun a u h h' => by rw [show (w.lam H1 e t).G a = w.G a from rfl, h] at h'; cases h'
  keep := fun a u h _ nt => e a u h nt
  dom := fun a h o ho => by
    by_cases nt : ∀ ps, o ≠ .tbl ps
    · exact h o (e a o ho nt)
    · exact Classical.not_forall_not.mp nt
  cc := fun _ h => h
  cn := fun _ h n => absurd h n
/-! ### the plain law of the names -/
def lbL : List Str := ["rope", "spans", "fact", "book", "question", "ring", "size", "index", "number", "text", "unlike", "none", "undo", "many", "failed", "value"]
def pickL : List Str → List Bool → List Str
  | x :: xs, b :: bs => if b = true then x :: pickL xs bs else pickL xs bs
  | _, _ => []
def wordsBs (bs : Nat → Bool) : Str := Txt.join " " (pickL lbL [bs 0, bs 1, bs 2, bs 3, bs 4, bs 5, bs 6, bs 7, bs 8, bs 9, bs 10, bs 11, bs 12, bs 13, bs 14, bs 15])
theorem strsOf_slst : ∀ xs : List Str, strsOf (slst xs) = some xs
  | [] => rfl
  | x :: xs => by
    show (strsOf (slst xs)).map (x :: ·) = _
    rw [strsOf_slst xs]; rfl
theorem pick_sum : ∀ (xs : List Str) (bs : List Bool), ((pickL xs bs).map (·.length)).sum ≤ (xs.map (·.length)).sum ∧ (pickL xs bs).length ≤ xs.length
  | [], bs => by simp [pickL]
  | x :: xs, [] => by simp [pickL]
  | x :: xs, b :: bs => by
    have ih := pick_sum xs bs
    cases b with
    | false => simp only [pickL, Bool.false_eq_true, if_false, List.map_cons, List.sum_cons, List.length_cons]; omega
    | true => simp only [pickL, if_true, List.map_cons, List.sum_cons, List.length_cons]; omega
theorem lc_pick {a : Addr} {u v : Option Dv} {Q : List Dt → Prop} : ∀ (xs : List Str) (bs : List Bool) (acc : List Dt), acc.length + xs.length < sizeLine → Q (acc ++ slst (pickL xs bs)) →
    lcL (fTup2 (fName 3) (fName 4)) (mB (mVar 4)) (mVar 3) [some (.fn a), u, v, none, none] Q (zipD (slst xs) (blst bs)) acc
  | [], bs, acc, hl, h => by
    have e : zipD (slst []) (blst bs) = [] := by cases bs <;> rfl
    rw [e]
    unfold lcL
    simpa [pickL, slst] using h
  | x :: xs, [], acc, hl, h => by
    have e : zipD (slst (x :: xs)) (blst []) = [] := rfl
    rw [e]
    unfold lcL
    simpa [pickL, slst] using h
  | x :: xs, b :: bs, acc, hl, h => by
    have hl' : acc.length + xs.length + 1 < sizeLine := by simpa [Nat.add_assoc] using hl
    have e : zipD (slst (x :: xs)) (blst (b :: bs)) = .tuple [.str x, .bool b] :: zipD (slst xs) (blst bs) := rfl
    rw [e]
    unfold lcL
    show (if b = true then _ else _)
    cases b with
    | true =>
      rw [if_pos rfl]
      refine And.intro (by omega) (lc_pick xs bs _ (by simp; omega) ?_)
      simpa [pickL, slst] using h
    | false =>
      rw [if_neg Bool.false_ne_true]
      exact lc_pick xs bs acc (by omega) (by simpa [pickL] using h)
theorem split_lb : Txt.split "rope spans fact book question ring size index number text unlike none undo many failed value" " " = lbL := by decide +kernel
def bNames (a : Addr) (bs : Nat → Bool) : MS := (mSeq (mSet 1 (mVal (mF (mLst (mCons (mIsx 0 a (bs 0)) (mCons (mIsx 0 a (bs 1)) (mCons (mIsx 0 a (bs 2)) mNil))))))) (mSeq (mSet 1 (mVal (mBin fAdd (mVar 1) (mF (mLst (mCons (mIsx 0 a (bs 3)) (mCons (mIsx 0 a (bs 4)) mNil))))))) (mSeq (mSet 1 (mVal (mBin fAdd (mVar 1) (mF (mLst (mCons (mIsx 0 a (bs 5)) (mCons (mIsx 0 a (bs 6)) (mCons (mIsx 0 a (bs 7)) mNil)))))))) (mSeq (mSet 1 (mVal (mBin fAdd (mVar 1) (mF (mLst (mCons (mIsx 0 a (bs 8)) (mCons (mIsx 0 a (bs 9)) (mCons (mIsx 0 a (bs 10)) mNil)))))))) (mSeq (mSet 1 (mVal (mBin fAdd (mVar 1) (mF (mLst (mCons (mIsx 0 a (bs 11)) (mCons (mIsx 0 a (bs 12)) (mCons (mIsx 0 a (bs 13)) mNil)))))))) (mSeq (mSet 1 (mVal (mBin fAdd (mVar 1) (mF (mLst (mCons (mIsx 0 a (bs 14)) (mCons (mIsx 0 a (bs 15)) mNil))))))) (mSeq (mSet 2 (mVal (mC (.str "rope spans fact book question ring size index number text unlike none undo many failed value")))) (mRet (mJoin (mC (.str " ")) (mF (mLc (mZipL (mCons (mF (mSplit (mVar 2) (mC (.str " ")))) (mCons (mVar 1) mNil))) (fTup2 (fName 3) (fName 4)) (mB (mVar 4)) (mVar 3) [3, 4])))))))))))
theorem sz16 {n : Nat} (h : n ≤ 1000) : n ≤ sizeLine := Nat.le_trans h (by decide)
theorem names_plain {a : Addr} {bs : Nat → Bool} {Q : Dv → Prop} (h : Q (.d (.str (wordsBs bs)))) : bNames a bs (endM Q (fun _ => False)) (startE ["error", "some", "labels", "label", "good"].length [.fn a]) := by
  have s1 : ∀ n : Nat, n ≤ 1000 → n ≤ sizeLine := fun n h => sz16 h
  refine And.intro rfl (And.intro rfl (And.intro rfl ?_))
  refine And.intro rfl ?_
  refine And.intro rfl (And.intro rfl (And.intro (s1 _ (by simp)) (And.intro rfl ?_)))
  refine And.intro rfl (And.intro rfl (And.intro rfl (And.intro (s1 _ (by simp)) (And.intro rfl ?_))))
  refine And.intro rfl (And.intro rfl (And.intro rfl (And.intro (s1 _ (by simp)) (And.intro rfl ?_))))
  refine And.intro rfl (And.intro rfl (And.intro rfl (And.intro (s1 _ (by simp)) (And.intro rfl ?_))))
  refine And.intro rfl (And.intro rfl (And.intro (s1 _ (by simp)) (And.intro rfl ?_)))
  refine And.intro rfl ?_
  refine And.intro (by decide +kernel) (And.intro (s1 _ (by decide +kernel)) ?_)
  show lcL (fTup2 (fName 3) (fName 4)) (mB (mVar 4)) (mVar 3) [some (.fn a), _, _, none, none] _ (zipD (slst (Txt.split "rope spans fact book question ring size index number text unlike none undo many failed value" " ")) (blst [bs 0, bs 1, bs 2, bs 3, bs 4, bs 5, bs 6, bs 7, bs 8, bs 9, bs 10, bs 11, bs 12, bs 13, bs 14, bs 15])) []
  rw [split_lb]
  refine lc_pick lbL _ [] (by decide) ?_
  have hp := pick_sum lbL [bs 0, bs 1, bs 2, bs 3, bs 4, bs 5, bs 6, bs 7, bs 8, bs 9, bs 10, bs 11, bs 12, bs 13, bs 14, bs 15]
  show match (some (slst (pickL lbL _))).bind strsOf with
    | some ys => (ys.map (·.length)).sum + ys.length * (" " : Str).length ≤ 16777216 ∧ _
    | none => False
  rw [Option.bind_some, strsOf_slst]
  have e1 : (lbL.map (·.length)).sum ≤ 1000 := by decide +kernel
  have e2 : lbL.length ≤ 1000 := by decide +kernel
  have e3 : (" " : Str).length ≤ 1 := by decide +kernel
  refine And.intro ?_ (And.intro rfl h)
  have e4 := Nat.mul_le_mul hp.2 e3
  omega
def wordL : List (Str × Str) := ([("InvalidRope", "rope value"), ("InvalidSpans", "spans value"), ("InvalidFact", "fact value"), ("InvalidBook", "book value"), ("InvalidQuestion", "question value"), ("InvalidRing", "ring value"), ("InvalidSize", "size value"),
  ("InvalidIndex", "index value"), ("InvalidNumber", "number value"), ("InvalidText", "text value"), ("Unlike", "unlike value"), ("NoRope", "none value"), ("NothingToUndo", "undo value")] : List (Str × Str))
def wordOf (c : Str) : Option Str := wordL.lookup c
def WordAt (K : PySem.W.Frag) (mg : Mg) (KE : Addr) (g : (Nat → Bool) → Str) (c ws : Str) : Prop := ∃ (D : Addr) (bs : Nat → Bool), mg.f c = some (.ref D) ∧ NmOk K mg D bs ∧ g bs = ws ∧ PySem.W.exmOne K (.ref D) (.ref KE) = some true
def mWord (me : Env → M Dv) : Env → M Dv := fun ρ Q _ => me ρ (fun _ => Q (.d (.str ""))) (fun x => x.arg = none ∧ match wordOf x.cls with
  | some ws => Q (.d (.str ws))
  | none => False)
theorem se_word {K : PySem.W.Frag} {mg : Mg} {E : XK} {KE : Addr} {g : (Nat → Bool) → Str} {t : XK → TE} {me : Env → M Dv} (hw : ∀ c ws, wordOf c = some ws → WordAt K mg KE g c ws) (he : ∀ E, SE K mg E (t E) me) : SE K mg E (tWord K mg g KE t) (mWord me) := fun en w ρ σ Q Ex R s h hq _ => by
  refine ⟨w.tabs, fun H1 f e tb => he _ en (w.lam H1 e tb) ρ σ _ _ _ (s.grow (Grow.lam e tb)) h (fun x v w2 g2 r2 q => hq _ _ w2 ((Grow.lam e tb).trans g2) (by simp [RS, Rp]) q) fun x u o w2 g2 q r => ?_⟩
  obtain ⟨ha, q⟩ := q
  split at q
  · rename_i ws e1
    obtain ⟨D, bs, h1, h2, h3, h4⟩ := hw _ _ e1
    obtain ⟨r1, r2⟩ := r
    rw [h1] at r1
    injection r1 with r1
    subst r1
    exact ⟨true, h4, fun _ a na => ⟨D, bs, w2, rfl, r2 ha, h2, rfl, rfl, fun w' g' => hq (.d (.str (g bs))) _ w' (((Grow.lam e tb).trans g2).trans g') (by simp [RS, Rp]) (by rw [h3]; exact q)⟩, fun z => nomatch z⟩
  · exact q.elim
end Ks
end

section
set_option Elab.async false
set_option linter.all false
set_option maxRecDepth 100000
set_option maxHeartbeats 4000000
/-! # Ranges: downward, as tuples and lists; more rules for a law's own text -/
namespace Ks
variable {T : List (PySem.Addr × PySem.Str)}
open PySem PySem.Spec PyProof.Rows L2
section
variable {K : PySem.W.Frag} {mg : Mg} {E : XK}
/-- lo, lo - 1, .. (n of them) -/
def rngDn (lo : Int) (n : Nat) : List Dt := (List.range n).map fun i => .int (lo - (i : Nat))
theorem wk_rngDn {lo : Int} {n : Nat} {G1 : Hp} : Wk K (Itc lo (-1) n) (rngDn lo n) G1 where
  go := fun w i g hi => by simpa [rngDn, Itc] using hi
  stop := fun w i g hi => by simpa [rngDn, Itc] using hi
  yld := fun w i x H' d g hd y => by
    obtain ⟨rfl, rfl⟩ := y
    refine ⟨w, .refl w, rfl, ?_⟩
    unfold rngDn at hd
    rw [List.getElem?_map] at hd
    cases e : (List.range n)[i]? with
    | none => rw [e] at hd; cases hd
    | some j =>
      rw [e] at hd
      obtain ⟨h1, h2⟩ := List.getElem?_eq_some_iff.mp e
      simp only [List.getElem_range] at h2
      subst h2
      simp only [Option.map_some, Option.some.injEq] at hd
      subst hd
      simp only [Rp]
      congr 1
      omega
def mRng3 (ma : Env → M (List Dv)) : Env → M (List Dt) := fun ρ Q Ex => ma ρ (fun xs => match xs with
  | [.d (.int i), .d (.int j), .d (.int (-1))] => (-(2 ^ 62) ≤ i ∧ i < 2 ^ 62 ∧ -(2 ^ 62) ≤ j ∧ j < 2 ^ 62) ∧ Q (rngDn i (i - j).toNat)
  | _ => False) Ex
theorem RSs.three {w : Wd T} {vs : List V} {x y z : Dv} (h : RSs K w vs [x, y, z]) : ∃ v u t, vs = [v, u, t] ∧ RS K w v x ∧ RS K w u y ∧ RS K w t z := by
  cases vs with
  | nil => exact h.elim
  | cons v vs =>
    obtain ⟨u, t, rfl, h1, h2⟩ := RSs.two h.2
    exact ⟨v, u, t, rfl, h.1, h1, h2⟩
theorem si_rng3 {k : Nat} {ta : TA} {ma : Env → M (List Dv)} (ha : SA K mg E k ta ma) : SI K mg E (iRng3 ta) (mRng3 ma) := fun en w ρ σ Q Ex R s h hq hx =>
  ha en w ρ σ _ Ex _ s h (fun xs vs w1 g1 r1 hl q => by
    split at q
    · rename_i i j
      obtain ⟨v, u, t, rfl, rv, ru, rt⟩ := r1.three
      simp only [RS, Rp] at rv ru rt; subst rv; subst ru; subst rt
      exact ⟨i, j, -1, (i - j).toNat, rfl, RgC.neg q.1.1 q.1.2.1 q.1.2.2.1 q.1.2.2.2, hq _ _ w1 g1 wk_rngDn q.2⟩
    · exact q.elim) hx
theorem rgV_rngD {G : Hp} {a b : Int} : RpA G (rngD a (b - a).toNat) (rgV a b) := by
  unfold rngD rgV
  generalize (b - a).toNat = n
  induction List.range n with
  | nil => exact .nil
  | cons i r ih => exact .cons (by simp [Rp]) ih
/-- tuple(range(n)), list(range(n)) -/
def mTupRg1 (me : Env → M Dv) : Env → M Dv := fun ρ Q Ex => me ρ (fun x => match x with
  | .d (.int n) => (-(2 ^ 62) ≤ n ∧ n ≤ 2 ^ 24) ∧ Q (.d (.tuple (rngD 0 n.toNat)))
  | _ => False) Ex
theorem se_tupRg1 {te : TE} {me : Env → M Dv} (he : SE K mg E te me) : SE K mg E (tTupRg (tRg1 te)) (mTupRg1 me) := fun en w ρ σ Q Ex R s h hq hx =>
  he en w ρ σ _ Ex _ s h (fun x v w1 g1 r1 q => by
    split at q
    · rename_i n
      simp only [RS, Rp] at r1; subst r1
      have e : (n - 0 : Int).toNat = n.toNat := by simp
      refine ⟨n, rfl, ⟨by omega, by omega, q.1.1, by omega, by rw [e]; omega⟩, fun p hp => hq _ _ (w1.add p _ hp tup_nt) (g1.trans (Grow.add hp tup_nt)) (new_tup hp ?_) q.2⟩
      rw [← e]
      exact rgV_rngD
    · exact q.elim) hx
/-- the items of a list or of a tuple -/
def iAny (K : PySem.W.Frag) (te : TE) : TI := fun σ H R => te σ H fun x H1 => ∃ a, x = .ref a ∧ (((∃ xs, SqL K H1 a xs) ∧ R (Itl K a) H1) ∨ ((∃ xs, SqT K H1 a xs) ∧ R (Itt K a) H1))
theorem pi_any {X : Cx} {tg l : Expr} {tl : TE} (hl : PE X l tl) : PI X tg l (iAny X.K tl) := by
  refine ⟨fun pins s σ H R I h => ?_⟩
  refine thn (hl.run pins s σ H _ I h) fun v s1 ⟨x, H1, I1, r1, q1⟩ => ?_
  obtain ⟨a, e, q1⟩ := q1
  subst e
  cases r1
  have fin : ∀ b ∈ [s1.heap.objs.size], FpOk X pins H1 b := fun b hb => by
    have e : b = s1.heap.objs.size := by simpa using hb
    subst e
    exact I1.fpOk (Nat.le_refl _) (I1.hok.fresh (Nat.le_refl _))
  rcases q1 with ⟨⟨xs, hq⟩, q⟩ | ⟨⟨xs, hq⟩, q⟩
  · obtain ⟨its, rv, p, hz⟩ := I1.list hq
    refine wpAny_pyIter_list p.isList ?_
    exact ⟨s1.heap.objs.size, [s1.heap.objs.size], _, _, H1, rfl, I1.kept (t' := s1.toks) fun b o e => Heap.get?_push_of_some _ e, turn_list a _, ⟨_, Heap.get?_push_size _ rfl, rfl, rfl⟩, fin, q⟩
  · obtain ⟨its, rv, p, hz⟩ := I1.tuple hq
    refine wpAny_pyIter_tuple (show s1.heap.IsTuple a its.toArray from p) ?_
    exact ⟨s1.heap.objs.size, [s1.heap.objs.size], _, _, H1, rfl, I1.kept (t' := s1.toks) fun b o e => Heap.get?_push_of_some _ e, turn_tuple a _, ⟨_, Heap.get?_push_size _ rfl, rfl, rfl⟩, fin, q⟩
def mItemsA (me : Env → M Dv) : Env → M (List Dt) := fun ρ Q Ex => me ρ (fun x => match x with
  | .d (.list ds) => Q ds
  | .d (.tuple ds) => Q ds
  | _ => False) Ex
theorem si_any {te : TE} {me : Env → M Dv} (he : SE K mg E te me) : SI K mg E (iAny K te) (mItemsA me) := fun en w ρ σ Q Ex R s h hq hx =>
  he en w ρ σ _ Ex _ s h (fun x v w1 g1 r1 q => by
    split at q
    · rename_i ds
      simp only [RS, Rp] at r1
      obtain ⟨a, vs, rfl, h1, h2⟩ := r1
      exact ⟨a, rfl, .inl ⟨⟨vs, SqL.of (w1.gh _ _ h1)⟩, hq ds _ w1 g1 (wk_list h1 h2) q⟩⟩
    · rename_i ds
      simp only [RS, Rp] at r1
      obtain ⟨a, vs, rfl, h1, h2⟩ := r1
      exact ⟨a, rfl, .inr ⟨⟨vs, SqT.of (w1.gh _ _ h1)⟩, hq ds _ w1 g1 (wk_tup h1 h2) q⟩⟩
    · exact q.elim) hx
/-- + with bools among ints -/
def fAddB : Dv → Dv → (Dv → Prop) → Prop
  | .d (.bool b), .d (.int j), Q => Q (.d (.int (b2 b + j)))
  | .d (.int i), .d (.bool b), Q => Q (.d (.int (i + b2 b)))
  | x, y, Q => fAdd x y Q
def rAddB (K : PySem.W.Frag) : R2 := fun x y H Q => rAddA K x y H Q ∨ rIB (· + ·) x y H Q
theorem op_addB {X : Cx} : OpR X (binaryOp .Add) (rAddB X.K) := op_addA.or op_addIB
theorem s2_addB : S2 K (rAddB K) fAddB := fun w x y v u Q R rx ry h hq => by
  unfold fAddB at h
  split at h
  · exact .inr (s2_IB w _ _ v u Q R rx ry (show fIB (· + ·) (.d (.bool _)) (.d (.int _)) Q from h) hq)
  · exact .inr (s2_IB w _ _ v u Q R rx ry (show fIB (· + ·) (.d (.int _)) (.d (.bool _)) Q from h) hq)
  · exact .inl (s2_add w _ _ v u Q R rx ry h hq)
/-- a def whose code object is known -/
theorem ok_ofC {P : Program} {w : World} {mg : Mg} {base : Heap} {x : Str} {st : Stmt} {f c : Addr} {oc kV doc pm ct : Value} {od an : Option Addr} {osl : Array (Option Value)} {N ps : List Str} {k : Nat} {F : List Dv → M Dv} {ms : MS}
    (lk : K.lookup f = some ⟨oc, od, .func (PySem.W.fnOf x x (defArgs st) (defBody st) (defScope st) .none kV doc pm an (.ref c) ct), osl⟩) (hcd : PySem.W.codeIn K (.ref c) x = true) (S : FnScope N ps (defScope st))
    (hb : ∀ (A : Around) (outer : List PySem.Env) (s : Shared) (H : Hp) (E : XK), Room k (A.deeper (envOfC x (defScope st) s.heap.objs.size f (.ref c))) →
      ∃ ts, PSs (cxOf (L2N.CX P w) P w K mg.f base N x (defScope st) f (.ref c) A outer s H E) (defBody st) ts ∧ SS K mg E ts ms)
    (hF : ∀ xs Q Ex, xs.length = ps.length → F xs Q Ex → ms (endM Q Ex) (startE N.length xs)) : FnOk P w K mg.f base (L2N.CX P w) (k + 1) f (PySem.W.fnOf x x (defArgs st) (defBody st) (defScope st) .none kV doc pm an (.ref c) ct) ps (spF K mg ps.length F) := by
  refine fn_of lk hcd S (fun vs H Q E h => ?_) (fun A outer s H vs Q E hr h => ?_)
  · obtain ⟨w', xs, _, _, _, r, hl, _⟩ := h
    rw [r.length, hl]
  · obtain ⟨w', xs, Qd, Ex, rfl, r, hl, no, hf, hq, he⟩ := h
    obtain ⟨ts, h1, h2⟩ := hb A outer s w'.H E hr
    refine ⟨ts, h1, h2 w' w' _ _ _ _ (St.start r no) (hF xs Qd Ex hl hf) ⟨fun w2 ρ σ _ s2 q => hq .non (.d .none) w2 s2.gr (by simp [RS, Rp]) rfl q, fun w2 v x g r2 o q => hq v x w2 g r2 o q, fun _ _ _ _ _ z => z.elim, fun _ _ _ _ _ z => z.elim, fun x u o w2 g q r => he x u o w2 g q r⟩⟩
end
end Ks
end

section
set_option Elab.async false
set_option linter.all false
set_option maxRecDepth 100000
set_option maxHeartbeats 4000000
/-! # The end: what the top has left, the law's call -/
namespace Ks
open PySem PySem.Spec PyProof.Rows L2
theorem funAt_of {K : PySem.W.Frag} {h : Heap} {mg : Mg} {x : Str} {st : Stmt} {f : Addr} {oc : Value} {od an : Option Addr} {osl : Array (Option Value)} {kV doc pm cdv ct : Value} (X : K.In h) (G : h.Ns mainGlobals mg.f)
    (a : PySem.W.nsIn K mainGlobals x = some (some (.ref f))) (l : K.lookup f = some ⟨oc, od, .func (PySem.W.fnOf x x (defArgs st) (defBody st) (defScope st) .none kV doc pm an cdv ct), osl⟩) (c : PySem.W.codeIn K cdv x = true) (k : PySem.W.keepIn K (.ref f) = true) : FunAt K mg x st :=
  ⟨f, _, fun_mk l c k, PySem.W.mg_of X G a⟩
theorem excAt_of {K : PySem.W.Frag} {h : Heap} {mg : Mg} {x : Str} {C : Addr} (X : K.In h) (G : h.Ns mainGlobals mg.f) (a : PySem.W.nsIn K mainGlobals x = some (some (.ref C)))
    (e : PySem.W.excIn K C [.type "ValueError", .type "Exception", .type "BaseException", .type "object"] "ValueError.__new__" = true) (k : PySem.W.keepIn K (.ref C) = true) (b : PySem.W.subIn K (.ref C) (.type "BaseException") = some true) (t : PySem.W.typeIn K (.ref C) = some (.type "type")) : ExcAt K mg x :=
  ⟨C, PySem.W.mg_of X G a, e, k, b, t⟩
/-- the names of a list of classes -/
theorem nmOk_of {K : PySem.W.Frag} {h : Heap} {mg : Mg} {D : Addr} {bs : Nat → Bool} {Cs : List Addr} (X : K.In h) (G : h.Ns mainGlobals mg.f) (ex : ExcC K D) (hn : nmL.map (PySem.W.nsIn K mainGlobals) = Cs.map fun C => some (some (.ref C)))
    (hk : Cs.map (fun C => PySem.W.kitOne K (.ref D) (.ref C)) = (List.range 15).map fun i => some (bs i)) (hv : PySem.W.kitOne K (.ref D) (.type "ValueError") = some (bs 15)) : NmOk K mg D bs := by
  refine ⟨ex, fun i nm e => ?_, hv⟩
  have h1 : (nmL.map (PySem.W.nsIn K mainGlobals))[i]? = some (PySem.W.nsIn K mainGlobals nm) := by rw [List.getElem?_map, e]; rfl
  rw [hn, List.getElem?_map] at h1
  obtain ⟨C, h2, h3⟩ := Option.map_eq_some_iff.mp h1
  have h4 : (Cs.map (fun C => PySem.W.kitOne K (.ref D) (.ref C)))[i]? = some (PySem.W.kitOne K (.ref D) (.ref C)) := by rw [List.getElem?_map, h2]; rfl
  rw [hk, List.getElem?_map] at h4
  obtain ⟨j, h5, h6⟩ := Option.map_eq_some_iff.mp h4
  have hi := (List.getElem?_eq_some_iff.mp h5)
  obtain ⟨hi, hj⟩ := hi
  simp only [List.getElem_range] at hj
  subst hj
  exact ⟨C, PySem.W.mg_of X G h3.symm, h6.symm⟩
theorem nmap_cons {K : PySem.W.Frag} {x : Str} {C : Addr} {xs : List Str} {Cs : List Addr} (h : PySem.W.nsIn K mainGlobals x = some (some (.ref C))) (t : xs.map (PySem.W.nsIn K mainGlobals) = Cs.map fun C => some (some (.ref C))) :
    (x :: xs).map (PySem.W.nsIn K mainGlobals) = (C :: Cs).map fun C => some (some (.ref C)) := by
  rw [List.map_cons, List.map_cons, h, t]
/-- an error's words, from what the kernel sees of its class -/
theorem wordAt_of {K : PySem.W.Frag} {h : Heap} {mg : Mg} {KE D : Addr} {c ws : Str} {Cs : List Addr} (bs : Nat → Bool) (X : K.In h) (G : h.Ns mainGlobals mg.f) (hn : nmL.map (PySem.W.nsIn K mainGlobals) = Cs.map fun C => some (some (.ref C))) (a : PySem.W.nsIn K mainGlobals c = some (some (.ref D)))
    (e1 : PySem.W.findIn K (.ref D) "__getattribute__" = some (some (.builtin "BaseException.__getattribute__"))) (e2 : PySem.W.findIn K (.ref D) "__getattr__" = some none) (e3 : PySem.W.subIn K (.ref D) (.type "BaseException") = some true) (e4 : PySem.W.hasDictIn K D = true)
    (e5 : PySem.W.findIn K (.ref D) "__class__" = some (some (.builtin "object.__class__"))) (e6 : PySem.W.specialIn K (.builtin "object.__class__") "__get__" = some (some (.builtin "getset_descriptor.__get__"))) (e7 : PySem.W.takesIn K (.builtin "object.__class__") = some true) (e8 : PySem.W.mroIn K D (.type "object") = some true)
    (hk : Cs.map (fun C => PySem.W.kitOne K (.ref D) (.ref C)) = (List.range 15).map fun i => some (bs i)) (hv : PySem.W.kitOne K (.ref D) (.type "ValueError") = some (bs 15)) (hw : wordsBs bs = ws) (he : PySem.W.exmOne K (.ref D) (.ref KE) = some true) : WordAt K mg KE wordsBs c ws :=
  ⟨D, bs, PySem.W.mg_of X G a, nmOk_of X G ⟨e1, e2, e3, e4, e5, e6, e7, e8⟩ hn hk hv, hw, he⟩
section
variable {l : PySem.W.OpenLaw}
theorem walk_ks {n k : Nat} {q : Program} {loose : List Str} {XP : (Str → Option Value) → Heap → Prop} {YP : World → Heap → Prop} {d : DefRec} {K : Params → PySem.W.Frag} {x : Str}
    (hn : l.most = some n) (hn2 : n ≤ sizeLine) (hdf : d.params.defaults = []) (hr : Room k callerA)
    (F : ∀ (w : World) (mg : Str → Option Value) (fa : Addr) (h : Heap), XP mg h → YP w h → h.Ns mainGlobals mg → mg d.name = some (.ref fa) → (K w.params).In h ∧ LamX.LawAtS l w (K w.params) (L2N.CX l.prog w) k n x mg fa h) :
    PySem.W.WalkO q loose XP YP l.row.toRowW d [] (fun f vs => PySem.call f vs) := by
  refine Att.attach_callB hn hdf fun w s₀ s₁ mg mb fa o pm cd doc a vs ns G Y ho hd hcd hmg hobj hints hlen hbits hg => ?_
  obtain ⟨KX, fd, cs, sp, hT, nT, C, hb, hsp, hF⟩ := F w mg fa _ G.X Y G.T.g hmg
  exact LamX.law_callTs KX G.T.g G.T.b G.T.builtins G.T.nolimit hg hT nT C G.T.bmain hobj hints (Nat.le_trans hlen hn2) hr hF hb (fun H hH hS => hsp H a ns hlen hbits hH hS) fun H e s' ⟨_, _, _, _, _, _, _, _, _, _, _, _, z⟩ => z
/-- the world in which the law is called -/
theorem start_ks {K : PySem.W.Frag} {mg : Mg} {H : Hp} {a : Addr} {ns : List Int} {F : List Dv → M Dv} (hT : ∀ p ∈ mg.T, H p.1 = some (.tbl #[])) (hS : SqL K H a (ns.map V.int)) (hm : F [.scr ns] (fun v => v = .d (.bool true)) (fun _ => False)) :
    spF K mg 1 F [.ref a] H (fun v _ => v = .bl true) fun _ _ _ => False := by
  let G : Hp := fun b => match H b with
    | some (.tbl _) => none
    | x => x
  have gh : Same G H := fun b o e => by
    have e' : (match H b with | some (.tbl _) => none | x => x) = some o := e
    split at e'
    · cases e'
    · exact e'
  have gg : ∀ b o, H b = some o → (∀ ps, o ≠ .tbl ps) → G b = some o := fun b o e n => by
    show (match H b with | some (.tbl _) => none | x => x) = some o
    rw [e]
    cases o <;> first | rfl | exact (n _ rfl).elim
  refine ⟨⟨fun _ => False, G, H, gh, fun _ z => z.elim, fun b ps e => ?_, fun _ z => z.elim, fun p hp => LamX.TabS.nil (hT p hp)⟩, [.scr ns], _, _, rfl, ⟨⟨a, rfl, ?_⟩, trivial⟩, rfl, rfl, hm, fun v x w' _ r _ q => ?_, fun _ _ _ _ _ z => z.elim⟩
  · have e' : (match H b with | some (.tbl _) => none | x => x) = some (.tbl ps) := e
    split at e'
    · cases e'
    · rename_i h1
      exact h1 _ e'
  · show SqL K G a (ns.map V.int)
    rcases hS with (h | ⟨o, h⟩) | h
    · exact .inl (.inl (gg _ _ h (fun _ z => nomatch z)))
    · exact .inl (.inr ⟨o, gg _ _ h (fun _ z => nomatch z)⟩)
    · exact .inr h
  · subst q
    simpa [RS, Rp] using r
/-- one def with lambdas, the law itself -/
theorem lawAt1 {w : World} {K : PySem.W.Frag} {k n : Nat} {mg : Str → Option Value} {fa c P : Addr} {h : Heap} {fd : FuncData} {F : List Dv → M Dv} {q : Str} (X : K.In h) (hP : h.get? P = some (PySem.W.tabObj #[])) (nP : K.lookup P = none) (C : PySem.W.codeHdIn K c P = true)
    (hb : ∀ (s : Shared) (u : Value), BindsTo s fd ⟨[u], []⟩ [(("script" : Str), u)]) (hm : ∀ ns : List Int, ns.length ≤ n → (∀ z ∈ ns, Builtin.Int.intBits z ≤ 1048576) → F [.scr ns] (fun v => v = .d (.bool true)) (fun _ => False))
    (hF : ∀ base : Heap, K.In base → base.Ns mainGlobals mg → LamX.TabB base mg c P → FnOk l.prog w K mg base (L2N.CX l.prog w) k fa fd ["script"] (spF K ⟨mg, [(P, q)]⟩ 1 F)) : LamX.LawAtS l w K (L2N.CX l.prog w) k n "script" mg fa h := by
  refine ⟨fd, [(c, P)], _, fun p hp => ?_, fun p hp => ?_, fun p hp => ?_, hb, fun H a ns hl hbits hH hS => start_ks (mg := ⟨mg, [(P, q)]⟩) (fun p hp => ?_) hS (hm ns hl hbits), fun base Kb Gb TB => hF base Kb Gb (TB (c, P) (by simp))⟩
  · obtain rfl : p = (c, P) := by simpa using hp
    exact hP
  · obtain rfl : p = (c, P) := by simpa using hp
    exact nP
  · obtain rfl : p = (c, P) := by simpa using hp
    exact PySem.W.codeHd_of_K X C
  · obtain rfl : p = (P, q) := by simpa using hp
    exact hH (c, P) (by simp)
end
end Ks
end

section
set_option Elab.async false
set_option linter.all false
set_option maxRecDepth 100000
set_option maxHeartbeats 4000000
/-! # Plain words about the meanings: loops, comprehensions, spans of int lists -/
namespace Ks
open PySem PySem.Spec PyProof.Rows L2
theorem lcL_nil {f : Env → Dt → (Env → Prop) → Prop} {mt : Env → M Bool} {me : Env → M Dv} {ρ0 : Env} {Q : List Dt → Prop} {acc : List Dt} : lcL f mt me ρ0 Q [] acc = Q acc := by unfold lcL; rfl
/-- one turn of a comprehension: K1 with the new item, K2 without -/
def Step (f : Env → Dt → (Env → Prop) → Prop) (mt : Env → M Bool) (me : Env → M Dv) (ρ0 : Env) (d : Dt) (K1 : Dt → Prop) (K2 : Prop) : Prop :=
  f ρ0 d fun ρ1 => mt ρ1 (fun b => if b = true then me ρ1 (fun y => match y with
    | .d p => K1 p
    | _ => False) (fun _ => False) else K2) (fun _ => False)
theorem lcL_cons {f : Env → Dt → (Env → Prop) → Prop} {mt : Env → M Bool} {me : Env → M Dv} {ρ0 : Env} {Q : List Dt → Prop} {d : Dt} {ds acc : List Dt} :
    lcL f mt me ρ0 Q (d :: ds) acc = Step f mt me ρ0 d (fun p => acc.length < sizeLine ∧ lcL f mt me ρ0 Q ds (acc ++ [p])) (lcL f mt me ρ0 Q ds acc) := by
  rw [lcL]; rfl
/-- a comprehension without draws: o tells what each item gives -/
theorem lcL_fm {f : Env → Dt → (Env → Prop) → Prop} {mt : Env → M Bool} {me : Env → M Dv} {ρ0 : Env} {Q : List Dt → Prop} (o : Dt → Option Dt) : ∀ (ds acc : List Dt), acc.length + ds.length < sizeLine →
    (∀ d ∈ ds, ∀ (K1 : Dt → Prop) (K2 : Prop), (match o d with | some p => K1 p | none => K2) → Step f mt me ρ0 d K1 K2) → Q (acc ++ ds.filterMap o) → lcL f mt me ρ0 Q ds acc
  | [], acc, _, _, q => by rw [lcL_nil]; simpa using q
  | d :: ds, acc, hl, h, q => by
    rw [lcL_cons]
    refine h d List.mem_cons_self _ _ ?_
    have hl' : acc.length + ds.length + 1 < sizeLine := by simpa [Nat.add_assoc] using hl
    cases e : o d with
    | none =>
      rw [List.filterMap_cons, e] at q
      exact lcL_fm o ds acc (by omega) (fun d hd => h d (List.mem_cons_of_mem _ hd)) q
    | some p =>
      rw [List.filterMap_cons, e] at q
      exact ⟨by omega, lcL_fm o ds (acc ++ [p]) (by simp; omega) (fun d hd => h d (List.mem_cons_of_mem _ hd)) (by simpa using q)⟩
/-- .. each item gives one -/
theorem lcL_map {f : Env → Dt → (Env → Prop) → Prop} {mt : Env → M Bool} {me : Env → M Dv} {ρ0 : Env} {Q : List Dt → Prop} (o : Dt → Dt) (ds : List Dt) (hl : ds.length < sizeLine)
    (h : ∀ d ∈ ds, ∀ (K1 : Dt → Prop) (K2 : Prop), K1 (o d) → Step f mt me ρ0 d K1 K2) (q : Q (ds.map o)) : lcL f mt me ρ0 Q ds [] := by
  refine lcL_fm (fun d => some (o d)) ds [] (by simpa using hl) (fun d hd K1 K2 k => h d hd K1 K2 k) ?_
  simpa using q
/-- a comprehension with draws: P holds of each item -/
theorem lcL_all {f : Env → Dt → (Env → Prop) → Prop} {mt : Env → M Bool} {me : Env → M Dv} {ρ0 : Env} {Q : List Dt → Prop} (P : Dt → Prop) : ∀ (ds acc : List Dt), acc.length + ds.length < sizeLine →
    (∀ d ∈ ds, ∀ (K1 : Dt → Prop) (K2 : Prop), (∀ p, P p → K1 p) → Step f mt me ρ0 d K1 K2) → (∀ ps : List Dt, ps.length = ds.length → (∀ p ∈ ps, P p) → Q (acc ++ ps)) → lcL f mt me ρ0 Q ds acc
  | [], acc, _, _, q => by rw [lcL_nil]; simpa using q [] rfl (fun _ h => nomatch h)
  | d :: ds, acc, hl, h, q => by
    rw [lcL_cons]
    refine h d List.mem_cons_self _ _ fun p hp => ?_
    have hl' : acc.length + ds.length + 1 < sizeLine := by simpa [Nat.add_assoc] using hl
    refine ⟨by omega, lcL_all P ds (acc ++ [p]) (by simp; omega) (fun d hd => h d (List.mem_cons_of_mem _ hd)) fun ps hps hP => ?_⟩
    have := q (p :: ps) (by simp [hps]) (by
      intro x hx
      rcases List.mem_cons.mp hx with rfl | hx
      · exact hp
      · exact hP x hx)
    rw [List.append_assoc]
    exact this
theorem forL_nil {f : Env → Dt → (Env → Prop) → Prop} {body : MS} {B : Me} {ρ : Env} : forL f body B [] ρ = B.nx ρ := by unfold forL; rfl
theorem forL_cons {f : Env → Dt → (Env → Prop) → Prop} {body : MS} {B : Me} {ρ : Env} {d : Dt} {ds : List Dt} : forL f body B (d :: ds) ρ = f ρ d fun ρ1 => body { B with nx := forL f body B ds, ct := forL f body B ds, bk := B.nx } ρ1 := by rw [forL]
/-- a loop by an invariant over what is still to come -/
theorem forL_inv {f : Env → Dt → (Env → Prop) → Prop} {body : MS} {B : Me} (I : List Dt → Env → Prop) (hs : ∀ (d : Dt) (ds : List Dt) (ρ : Env) (N : Env → Prop), I (d :: ds) ρ → (∀ ρ', I ds ρ' → N ρ') → f ρ d fun ρ1 => body { B with nx := N, ct := N, bk := B.nx } ρ1)
    (hd : ∀ ρ, I [] ρ → B.nx ρ) : ∀ (ds : List Dt) (ρ : Env), I ds ρ → forL f body B ds ρ
  | [], ρ, i => by rw [forL_nil]; exact hd ρ i
  | d :: ds, ρ, i => by
    rw [forL_cons]
    exact hs d ds ρ _ i fun ρ' i' => forL_inv I hs hd ds ρ' i'
theorem whileN_succ {mt : Env → M Bool} {body : MS} {B : Me} {n : Nat} {ρ : Env} : whileN mt body B (n + 1) ρ = mt ρ (fun c => if c = true then body { B with nx := whileN mt body B n, ct := whileN mt body B n, bk := B.nx } ρ else B.nx ρ) B.ex := by rw [whileN]
/-! ### the meanings step by step -/
section
variable {m n : MS} {B : Me} {ρ : Env} {mt mu : Env → M Bool} {me mf' ma mb mc : Env → M Dv} {mf : Env → M (List Dt)} {mr : Env → M (List Dv)} {Q : Dv → Prop} {Ex : Exn → Prop} {K : Bool → Prop}
theorem w_seq (h : m { B with nx := n B } ρ) : mSeq m n B ρ := h
theorem w_nx (h : B.nx ρ) : mNext B ρ := h
theorem w_if (h : mt ρ (fun c => if c = true then m B ρ else n B ρ) B.ex) : mIfS mt m n B ρ := h
theorem w_ret (h : me ρ (fun x => x.isOwn = false ∧ B.rt x) B.ex) : mRet me B ρ := h
theorem w_drop (h : me ρ (fun _ => B.nx ρ) B.ex) : mDrop me B ρ := h
theorem w_set {i : Nat} (h : me ρ (fun x => B.nx (ρ.set i (some x))) B.ex) : mSet i me B ρ := h
theorem w_par {i j : Nat} (h : me ρ (fun x => mf' ρ (fun y => B.nx ((ρ.set i (some x)).set j (some y))) B.ex) B.ex) : mPar i j me mf' B ρ := h
theorem w_val (h : me ρ (fun x => x.isOwn = false ∧ Q x) Ex) : mVal me ρ Q Ex := h
theorem w_f (h : mf ρ (fun ds => Q (.d (.list ds))) Ex) : mF mf ρ Q Ex := h
theorem w_lst {Q : List Dt → Prop} (h : mr ρ (fun xs => match dts xs with
  | some ps => Q ps
  | none => False) Ex) : mLst mr ρ Q Ex := h
theorem w_own (h : mf ρ (fun ds => Q (.own ds)) Ex) : mOwn mf ρ Q Ex := h
theorem w_cons {Q : List Dv → Prop} (h : ma ρ (fun x => mr ρ (fun xs => Q (x :: xs)) Ex) Ex) : mCons ma mr ρ Q Ex := h
theorem w_nil {Q : List Dv → Prop} (h : Q []) : mNil ρ Q Ex := h
theorem w_call {F : List Dv → M Dv} (h : mr ρ (fun xs => noOwn xs = true ∧ F xs Q Ex) Ex) : mCall F mr ρ Q Ex := h
theorem w_var {i : Nat} {x : Dv} (e : ρ[i]? = some (some x)) (h : Q x) : mVar i ρ Q Ex := by
  unfold mVar
  rw [e]
  exact h
theorem w_c {p : Dt} (h : Q (.d p)) : mC p ρ Q Ex := h
theorem w_bin {f : Dv → Dv → (Dv → Prop) → Prop} (h : ma ρ (fun x => mb ρ (fun y => f x y Q) Ex) Ex) : mBin f ma mb ρ Q Ex := h
theorem w_cb {f : List Dv → (Dv → Prop) → Prop} (h : mr ρ (fun xs => f xs Q) Ex) : mCB f mr ρ Q Ex := h
theorem w_cf {f : List Dv → (List Dt → Prop) → Prop} {Q : List Dt → Prop} (h : mr ρ (fun xs => f xs Q) Ex) : mCF f mr ρ Q Ex := h
theorem w_and (h : mt ρ (fun c => if c = true then mu ρ K Ex else K false) Ex) : mAnd mt mu ρ K Ex := h
theorem w_or (h : mt ρ (fun c => if c = true then K true else mu ρ K Ex) Ex) : mOr mt mu ρ K Ex := h
theorem w_not (h : mt ρ (fun c => K (!c)) Ex) : mNot mt ρ K Ex := h
theorem w_B (h : ma ρ (fun x => match x with
  | .d (.bool k) => K k
  | _ => False) Ex) : mB ma ρ K Ex := h
theorem w_ifE (h : mt ρ (fun c => if c = true then ma ρ Q Ex else mb ρ Q Ex) Ex) : mIf mt ma mb ρ Q Ex := h
end
/-! ### int lists as data -/
theorem ilst_len (ns : List Int) : (ilst ns).length = ns.length := by simp [ilst]
theorem ilst_map_mem {ns : List Int} {d : Dt} (h : d ∈ ilst ns) : ∃ n ∈ ns, d = .int n := by
  unfold ilst at h
  obtain ⟨n, h1, h2⟩ := List.mem_map.mp h
  exact ⟨n, h1, h2.symm⟩
theorem any_eqF {ns : List Int} {a : Int} : (ilst ns).any (fun z => eqF z (.int a)) = ns.contains a := by
  unfold ilst
  rw [List.any_map]
  induction ns with
  | nil => rfl
  | cons n ns ih =>
    rw [List.any_cons, ih, List.contains_cons]
    congr 1
    show (n == a) = (a == n)
    rw [Bool.eq_iff_iff, beq_iff_eq, beq_iff_eq]
    exact eq_comm
theorem all_flat {ns : List Int} : (ilst ns).all flatD = true := by
  unfold ilst
  simp [flatD]
/-! ### gauges -/
/-- g is the greatest number up to which all are in S -/
def IsGauge (S : List Int) (g : Int) : Prop := 0 ≤ g ∧ (∀ k : Int, 1 ≤ k → k ≤ g → k ∈ S) ∧ g + 1 ∉ S
theorem IsGauge.uniq {S : List Int} {g g' : Int} (h : IsGauge S g) (h' : IsGauge S g') : g = g' := by
  obtain ⟨a, b, c⟩ := h
  obtain ⟨a', b', c'⟩ := h'
  rcases Int.lt_trichotomy g g' with l | l | l
  · exact absurd (b' (g + 1) (by omega) (by omega)) c
  · exact l
  · exact absurd (b (g' + 1) (by omega) (by omega)) c'
theorem nodup_sub_len : ∀ (xs S : List Int), xs.Nodup → (∀ x ∈ xs, x ∈ S) → xs.length ≤ S.length
  | [], S, _, _ => by simp
  | x :: xs, S, nd, sub => by
    obtain ⟨n1, n2⟩ := List.nodup_cons.mp nd
    have hx : x ∈ S := sub x List.mem_cons_self
    have ih := nodup_sub_len xs (S.erase x) n2 fun y hy => by
      have ne : y ≠ x := fun e => n1 (e ▸ hy)
      exact (List.mem_erase_of_ne ne).mpr (sub y (List.mem_cons_of_mem _ hy))
    have e := List.length_erase_of_mem hx
    have : 0 < S.length := List.length_pos_of_mem hx
    rw [List.length_cons]
    omega
theorem pigeon {S : List Int} {n : Nat} (h : ∀ k : Int, 1 ≤ k → k ≤ n → k ∈ S) : n ≤ S.length := by
  have hs : ((List.range n).map fun i => ((i : Nat) : Int) + 1).Nodup := by
    rw [List.nodup_iff_pairwise_ne, List.pairwise_map]
    exact (List.nodup_iff_pairwise_ne.mp List.nodup_range).imp fun h e => h (by omega)
  have hsub : ∀ x ∈ ((List.range n).map fun i => ((i : Nat) : Int) + 1), x ∈ S := fun x hx => by
    obtain ⟨i, hi, rfl⟩ := List.mem_map.mp hx
    have := List.mem_range.mp hi
    exact h _ (by omega) (by omega)
  have := nodup_sub_len _ _ hs hsub
  simpa using this
end Ks
end

section
set_option Elab.async false
set_option linter.all false
set_option maxRecDepth 100000
set_option maxHeartbeats 4000000
namespace Lw
open PySem PySem.Spec PyProof.Rows L2 Ks
def topS (i : Nat) : Stmt := PySem.Challenge.pw_knotspans_k09_gauges_of_ropes.main.body.getD i (.Pass ⟨0, 0, 0, 0⟩)
abbrev s_law_names : Stmt := topS 49
abbrev s_law_word : Stmt := topS 50
abbrev s_law_coil : Stmt := topS 34
abbrev s_law_wind : Stmt := topS 35
abbrev s_law_pick : Stmt := topS 36
abbrev s_law_any_rope : Stmt := topS 39
abbrev s_law_any_value : Stmt := topS 47
abbrev s_law_bent : Stmt := topS 48
abbrev s_many_spans : Stmt := topS 24
abbrev s_is_integer : Stmt := topS 20
abbrev s_spans_by : Stmt := topS 25
abbrev s_gauge_by : Stmt := topS 29
abbrev s_full_with : Stmt := topS 30
abbrev s_full_gauges : Stmt := topS 32
abbrev s_law_turned : Stmt := topS 38
abbrev s_rises : Stmt := topS 21
abbrev s_are_numbers : Stmt := topS 22
abbrev s_is_rope : Stmt := topS 23
abbrev s_need_rope : Stmt := topS 26
abbrev s_gauge : Stmt := topS 31
abbrev s_law_whole : Stmt := topS 40
abbrev s_law_row : Stmt := topS 41
abbrev s_law_good_rope : Stmt := topS 42
abbrev s_law_all : Stmt := topS 52
abbrev s_law_spans : Stmt := topS 37
abbrev s_law_gauge : Stmt := topS 51
abbrev s_law_full : Stmt := topS 53
abbrev s_law : Stmt := topS 54
structure Txt (K : PySem.W.Frag) (mg : Mg) (KE : Addr) : Prop where
  f_law_names : FunAt K mg "_law_names" s_law_names
  f_law_word : FunAt K mg "_law_word" s_law_word
  f_law_coil : FunAt K mg "_law_coil" s_law_coil
  f_law_wind : FunAt K mg "_law_wind" s_law_wind
  f_law_pick : FunAt K mg "_law_pick" s_law_pick
  f_law_any_rope : FunAt K mg "_law_any_rope" s_law_any_rope
  f_law_any_value : FunAt K mg "_law_any_value" s_law_any_value
  f_law_bent : FunAt K mg "_law_bent" s_law_bent
  f_many_spans : FunAt K mg "many_spans" s_many_spans
  f_is_integer : FunAt K mg "is_integer" s_is_integer
  f_spans_by : FunAt K mg "spans_by" s_spans_by
  f_gauge_by : FunAt K mg "gauge_by" s_gauge_by
  f_full_with : FunAt K mg "full_with" s_full_with
  f_full_gauges : FunAt K mg "full_gauges" s_full_gauges
  f_law_turned : FunAt K mg "_law_turned" s_law_turned
  f_rises : FunAt K mg "rises" s_rises
  f_are_numbers : FunAt K mg "are_numbers" s_are_numbers
  f_is_rope : FunAt K mg "is_rope" s_is_rope
  f_need_rope : FunAt K mg "need_rope" s_need_rope
  f_gauge : FunAt K mg "gauge" s_gauge
  f_law_whole : FunAt K mg "_law_whole" s_law_whole
  f_law_row : FunAt K mg "_law_row" s_law_row
  f_law_good_rope : FunAt K mg "_law_good_rope" s_law_good_rope
  f_law_all : FunAt K mg "_law_all" s_law_all
  f_law_spans : FunAt K mg "_law_spans" s_law_spans
  f_law_gauge : FunAt K mg "_law_gauge" s_law_gauge
  f_law_full : FunAt K mg "_law_full" s_law_full
  b_ValueError : mg.f "ValueError" = none
  b_abs : mg.f "abs" = none
  b_all : mg.f "all" = none
  b_bool : mg.f "bool" = none
  b_enumerate : mg.f "enumerate" = none
  b_int : mg.f "int" = none
  b_isinstance : mg.f "isinstance" = none
  b_len : mg.f "len" = none
  b_list : mg.f "list" = none
  b_max : mg.f "max" = none
  b_min : mg.f "min" = none
  b_range : mg.f "range" = none
  b_sorted : mg.f "sorted" = none
  b_str : mg.f "str" = none
  b_tuple : mg.f "tuple" = none
  b_zip : mg.f "zip" = none
  c_GREAT : ∃ t, mg.f "GREAT" = some (.int (1000000000000000000000000000000) t)
  c_MOST_FULL : ∃ t, mg.f "MOST_FULL" = some (.int (6) t)
  c_MOST_KNOTS : ∃ t, mg.f "MOST_KNOTS" = some (.int (9) t)
  x_InvalidNumber : ExcAt K mg "InvalidNumber"
  x_InvalidRope : ExcAt K mg "InvalidRope"
  ke : mg.f "KnotError" = some (.ref KE)
  words : ∀ c ws, wordOf c = some ws → WordAt K mg KE wordsBs c ws
section
variable {P : Program} {w : World} {K : PySem.W.Frag} {mg : Mg} {base : Heap} {KE : Addr}
theorem sc_law_names : FnScope ["error", "some", "labels", "label", "good"] ["error"] (defScope s_law_names) := ⟨rfl, rfl, rfl, by decide +kernel, rfl, by decide +kernel, by decide +kernel⟩
theorem sc_law_word : FnScope ["call", "error"] ["call"] (defScope s_law_word) := ⟨rfl, rfl, rfl, by decide +kernel, rfl, by decide +kernel, by decide +kernel⟩
def b_law_names (a : Addr) (bs : Nat → Bool) : MS := (mSeq (mSet 1 (mVal (mF (mLst (mCons (mIsx 0 a (bs 0)) (mCons (mIsx 0 a (bs 1)) (mCons (mIsx 0 a (bs 2)) mNil))))))) (mSeq (mSet 1 (mVal (mBin fAdd (mVar 1) (mF (mLst (mCons (mIsx 0 a (bs 3)) (mCons (mIsx 0 a (bs 4)) mNil))))))) (mSeq (mSet 1 (mVal (mBin fAdd (mVar 1) (mF (mLst (mCons (mIsx 0 a (bs 5)) (mCons (mIsx 0 a (bs 6)) (mCons (mIsx 0 a (bs 7)) mNil)))))))) (mSeq (mSet 1 (mVal (mBin fAdd (mVar 1) (mF (mLst (mCons (mIsx 0 a (bs 8)) (mCons (mIsx 0 a (bs 9)) (mCons (mIsx 0 a (bs 10)) mNil)))))))) (mSeq (mSet 1 (mVal (mBin fAdd (mVar 1) (mF (mLst (mCons (mIsx 0 a (bs 11)) (mCons (mIsx 0 a (bs 12)) (mCons (mIsx 0 a (bs 13)) mNil)))))))) (mSeq (mSet 1 (mVal (mBin fAdd (mVar 1) (mF (mLst (mCons (mIsx 0 a (bs 14)) (mCons (mIsx 0 a (bs 15)) mNil))))))) (mSeq (mSet 2 (mVal (mC (.str "rope spans fact book question ring size index number text unlike none undo many failed value")))) (mRet (mJoin (mC (.str " ")) (mF (mLc (mZipL (mCons (mF (mSplit (mVar 2) (mC (.str " ")))) (mCons (mVar 1) mNil))) (fTup2 (fName 3) (fName 4)) (mB (mVar 4)) (mVar 3) [3, 4])))))))))))
theorem d_law_names (T : Txt K mg KE) : NamesD P w K mg base 1 wordsBs := by
  refine names_of (ms := b_law_names) T.f_law_names sc_law_names (fun _ _ _ _ _ _ us hl => match us, hl with | [_], _ => rfl) (fun D bs p nm hz hfl f cdv A outer s H E hot hr => ?_) (fun a bs Q h => ?_)
  · obtain ⟨C0, m0, k0⟩ := nm.is 0 _ rfl
    obtain ⟨C1, m1, k1⟩ := nm.is 1 _ rfl
    obtain ⟨C2, m2, k2⟩ := nm.is 2 _ rfl
    obtain ⟨C3, m3, k3⟩ := nm.is 3 _ rfl
    obtain ⟨C4, m4, k4⟩ := nm.is 4 _ rfl
    obtain ⟨C5, m5, k5⟩ := nm.is 5 _ rfl
    obtain ⟨C6, m6, k6⟩ := nm.is 6 _ rfl
    obtain ⟨C7, m7, k7⟩ := nm.is 7 _ rfl
    obtain ⟨C8, m8, k8⟩ := nm.is 8 _ rfl
    obtain ⟨C9, m9, k9⟩ := nm.is 9 _ rfl
    obtain ⟨C10, m10, k10⟩ := nm.is 10 _ rfl
    obtain ⟨C11, m11, k11⟩ := nm.is 11 _ rfl
    obtain ⟨C12, m12, k12⟩ := nm.is 12 _ rfl
    obtain ⟨C13, m13, k13⟩ := nm.is 13 _ rfl
    obtain ⟨C14, m14, k14⟩ := nm.is 14 _ rfl
    have hc : L2H.HotC (L2H.cxH (L2N.CX P w) P w K mg.f base ["error", "some", "labels", "label", "good"] "_law_names" (defScope s_law_names) f cdv A outer s H E p) := ⟨p, hot, List.mem_cons_self⟩
    exact ⟨_, (pss_cons (ps_set (i := 1) sc_law_names.nd rfl (by first | exact Or.inl rfl | exact Or.inr rfl) (pe_lst (pa_cons (pe_callB (call_isH nm.ex List.mem_cons_self hz hfl) (by rfl) T.b_isinstance boot_isinstance_ (pa_cons (pv 0) (pa_cons (pe_glob (v := .ref C0) (by rfl) m0 rfl) pa_nil))) (pa_cons (pe_callB (call_isH nm.ex List.mem_cons_self hz hfl) (by rfl) T.b_isinstance boot_isinstance_ (pa_cons (pv 0) (pa_cons (pe_glob (v := .ref C1) (by rfl) m1 rfl) pa_nil))) (pa_cons (pe_callB (call_isH nm.ex List.mem_cons_self hz hfl) (by rfl) T.b_isinstance boot_isinstance_ (pa_cons (pv 0) (pa_cons (pe_glob (v := .ref C2) (by rfl) m2 rfl) pa_nil))) pa_nil))))) (pss_cons (ps_set (i := 1) sc_law_names.nd rfl (by first | exact Or.inl rfl | exact Or.inr rfl) (pe_op op_addA (pv 1) (pe_lst (pa_cons (pe_callB (call_isH nm.ex List.mem_cons_self hz hfl) (by rfl) T.b_isinstance boot_isinstance_ (pa_cons (pv 0) (pa_cons (pe_glob (v := .ref C3) (by rfl) m3 rfl) pa_nil))) (pa_cons (pe_callB (call_isH nm.ex List.mem_cons_self hz hfl) (by rfl) T.b_isinstance boot_isinstance_ (pa_cons (pv 0) (pa_cons (pe_glob (v := .ref C4) (by rfl) m4 rfl) pa_nil))) pa_nil))))) (pss_cons (ps_set (i := 1) sc_law_names.nd rfl (by first | exact Or.inl rfl | exact Or.inr rfl) (pe_op op_addA (pv 1) (pe_lst (pa_cons (pe_callB (call_isH nm.ex List.mem_cons_self hz hfl) (by rfl) T.b_isinstance boot_isinstance_ (pa_cons (pv 0) (pa_cons (pe_glob (v := .ref C5) (by rfl) m5 rfl) pa_nil))) (pa_cons (pe_callB (call_isH nm.ex List.mem_cons_self hz hfl) (by rfl) T.b_isinstance boot_isinstance_ (pa_cons (pv 0) (pa_cons (pe_glob (v := .ref C6) (by rfl) m6 rfl) pa_nil))) (pa_cons (pe_callB (call_isH nm.ex List.mem_cons_self hz hfl) (by rfl) T.b_isinstance boot_isinstance_ (pa_cons (pv 0) (pa_cons (pe_glob (v := .ref C7) (by rfl) m7 rfl) pa_nil))) pa_nil)))))) (pss_cons (ps_set (i := 1) sc_law_names.nd rfl (by first | exact Or.inl rfl | exact Or.inr rfl) (pe_op op_addA (pv 1) (pe_lst (pa_cons (pe_callB (call_isH nm.ex List.mem_cons_self hz hfl) (by rfl) T.b_isinstance boot_isinstance_ (pa_cons (pv 0) (pa_cons (pe_glob (v := .ref C8) (by rfl) m8 rfl) pa_nil))) (pa_cons (pe_callB (call_isH nm.ex List.mem_cons_self hz hfl) (by rfl) T.b_isinstance boot_isinstance_ (pa_cons (pv 0) (pa_cons (pe_glob (v := .ref C9) (by rfl) m9 rfl) pa_nil))) (pa_cons (pe_callB (call_isH nm.ex List.mem_cons_self hz hfl) (by rfl) T.b_isinstance boot_isinstance_ (pa_cons (pv 0) (pa_cons (pe_glob (v := .ref C10) (by rfl) m10 rfl) pa_nil))) pa_nil)))))) (pss_cons (ps_set (i := 1) sc_law_names.nd rfl (by first | exact Or.inl rfl | exact Or.inr rfl) (pe_op op_addA (pv 1) (pe_lst (pa_cons (pe_callB (call_isH nm.ex List.mem_cons_self hz hfl) (by rfl) T.b_isinstance boot_isinstance_ (pa_cons (pv 0) (pa_cons (pe_glob (v := .ref C11) (by rfl) m11 rfl) pa_nil))) (pa_cons (pe_callB (call_isH nm.ex List.mem_cons_self hz hfl) (by rfl) T.b_isinstance boot_isinstance_ (pa_cons (pv 0) (pa_cons (pe_glob (v := .ref C12) (by rfl) m12 rfl) pa_nil))) (pa_cons (pe_callB (call_isH nm.ex List.mem_cons_self hz hfl) (by rfl) T.b_isinstance boot_isinstance_ (pa_cons (pv 0) (pa_cons (pe_glob (v := .ref C13) (by rfl) m13 rfl) pa_nil))) pa_nil)))))) (pss_cons (ps_set (i := 1) sc_law_names.nd rfl (by first | exact Or.inl rfl | exact Or.inr rfl) (pe_op op_addA (pv 1) (pe_lst (pa_cons (pe_callB (call_isH nm.ex List.mem_cons_self hz hfl) (by rfl) T.b_isinstance boot_isinstance_ (pa_cons (pv 0) (pa_cons (pe_glob (v := .ref C14) (by rfl) m14 rfl) pa_nil))) (pa_cons (pe_callB (call_isH nm.ex List.mem_cons_self hz hfl) (by rfl) T.b_isinstance boot_isinstance_ (pa_cons (pv 0) (pa_cons (pe_bltn (v := .ty "ValueError") (by rfl) T.b_ValueError boot_ValueError_ rfl) pa_nil))) pa_nil))))) (pss_cons (ps_set (i := 2) sc_law_names.nd rfl (by first | exact Or.inl rfl | exact Or.inr rfl) pe_str) (pss_one (ps_ret (pe_join pe_str (pe_lcB (own := [("label", 3), ("good", 4)]) hc sc_law_names.nd (by rfl) T.b_zip (pa_cons (pe_split (pv 2) pe_str) (pa_cons (pv 1) pa_nil)) (blkOk_by (own := [("label", 3), ("good", 4)]) (N := ["error", "some", "labels", "label", "good"]) (sc := defScope s_law_names) (by decide +kernel)) (fun _ _ _ _ _ hs => (pg_tupB hs (pgs_cons (pg_name (i := 3) sc_law_names.nd rfl (by first | exact Or.inl rfl | exact Or.inr rfl)) (pgs_cons (pg_name (i := 4) sc_law_names.nd rfl (by first | exact Or.inl rfl | exact Or.inr rfl)) pgs_nil)))) (fun _ _ _ _ _ => (pts_one (pt_val (pv 4)))) (fun _ _ _ _ _ => (pv 3))))))))))))), (ss_seq (ss_set 1 (sn_val (se_f (sf_lst (sa_cons (se_isx k0) (sa_cons (se_isx k1) (sa_cons (se_isx k2) sa_nil))))))) (ss_seq (ss_set 1 (sn_val (se_op s2_add (se_var 1) (se_f (sf_lst (sa_cons (se_isx k3) (sa_cons (se_isx k4) sa_nil))))))) (ss_seq (ss_set 1 (sn_val (se_op s2_add (se_var 1) (se_f (sf_lst (sa_cons (se_isx k5) (sa_cons (se_isx k6) (sa_cons (se_isx k7) sa_nil)))))))) (ss_seq (ss_set 1 (sn_val (se_op s2_add (se_var 1) (se_f (sf_lst (sa_cons (se_isx k8) (sa_cons (se_isx k9) (sa_cons (se_isx k10) sa_nil)))))))) (ss_seq (ss_set 1 (sn_val (se_op s2_add (se_var 1) (se_f (sf_lst (sa_cons (se_isx k11) (sa_cons (se_isx k12) (sa_cons (se_isx k13) sa_nil)))))))) (ss_seq (ss_set 1 (sn_val (se_op s2_add (se_var 1) (se_f (sf_lst (sa_cons (se_isx k14) (sa_cons (se_isv nm.vl) sa_nil))))))) (ss_seq (ss_set 2 (sn_val se_str)) (ss_ret (se_join se_str (se_f (sf_lc (si_zipL (sa_cons (se_f (sf_split (se_var 2) se_str)) (sa_cons (se_var 1) sa_nil))) (st_tup2 (st_name 3) (st_name 4)) (by decide) (sb_B (se_var 4)) (se_var 3))))))))))))⟩
  · exact names_plain h
def t_law_coil_1 : MS := (mRetCoil (mLst (mCons (mIf (mB (mBin fGe (mVar 2) (mBin fPow (mC (.int 10)) (mC (.int 18))))) (mVar 2) (mC (.int 0))) (mCons (mBin fAdd (mBin fMod (mCB fInt (mCons (mBin fAdd (mBin fAdd (mBin fMulA (mVar 2) (mC (.int 61))) (mBin fMulA (mC (.int 7309)) (mVar 1))) (mC (.int 17))) mNil)) (mC (.int 2147483587))) (mC (.int 1))) mNil))))
theorem sc_law_coil : FnScope ["script", "k", "cell"] ["script", "k"] (defScope s_law_coil) := ⟨rfl, rfl, rfl, by decide +kernel, rfl, by decide +kernel, by decide +kernel⟩
def b_law_coil : MS := (mSeq (mSet 2 (mVal (mIf (mB (mBin fLt (mVar 1) (mCB fLen (mCons (mVar 0) mNil)))) (mCB fAbs (mCons (mCB fInt (mCons (mBin fIx (mVar 0) (mVar 1)) mNil)) mNil)) (mBin fAdd (mBin fMulA (mC (.int 307)) (mVar 1)) (mC (.int 41)))))) (t_law_coil_1))
def F_law_coil : List Dv → M Dv := fun xs Q Ex => b_law_coil (endM Q Ex) (startE 3 xs)
theorem d_law_coil (T : Txt K mg KE) : Df P w K mg base "_law_coil" 1 ["script", "k"] F_law_coil :=
  df_of T.f_law_coil sc_law_coil (fun _ _ _ _ _ _ us hl => match us, hl with | [_, _], _ => rfl) (fun f cdv A outer s H E hr => ⟨_, (pss_cons (ps_set (i := 2) sc_law_coil.nd rfl (by first | exact Or.inl rfl | exact Or.inr rfl) (pe_ifExp (pt_cmpR op_lt (pv 1) (pe_callB call_len (by rfl) T.b_len boot_len_ (pa_cons (pv 0) pa_nil)) (nomark _)) (pe_callB call_abs (by rfl) T.b_abs boot_abs_ (pa_cons (pe_callTy call_int1 (by rfl) T.b_int boot_int_ (pa_cons (pe_ix ix_seq (pv 0) (pv 1) (fun _ _ => rfl)) pa_nil)) pa_nil)) (pe_op op_addA (pe_op op_mulA pe_int (pv 1)) pe_int))) (pss_one (ps_ret (pe_lst (pa_cons (pe_ifExp (pt_cmpR op_ge (pv 2) (pe_op op_pow pe_int pe_int) (nomark _)) (pv 2) pe_int) (pa_cons (pe_op op_addA (pe_op op_mod (pe_callTy call_int1 (by rfl) T.b_int boot_int_ (pa_cons (pe_op op_addA (pe_op op_addA (pe_op op_mulA (pv 2) pe_int) (pe_op op_mulA pe_int (pv 1))) pe_int) pa_nil)) pe_int) pe_int) pa_nil)))))), (ss_seq (ss_set 2 (sn_val (se_if (sb_test (se_op s2_B0 (se_var 1) (se_cb sc_len (sa_cons (se_var 0) sa_nil)))) (se_cb sc_abs (sa_cons (se_cb sc_int (sa_cons (se_op s2_ix (se_var 0) (se_var 1)) sa_nil)) sa_nil)) (se_op s2_add (se_op s2_mulA se_int (se_var 1)) se_int)))) (ss_retCoil (sf_lst (sa_cons (se_if (sb_test (se_op s2_B0 (se_var 2) (se_op (s2_I fun _ _ h => h) se_int se_int))) (se_var 2) se_int) (sa_cons (se_op s2_add (se_op (s2_I fun _ _ h => h) (se_cb sc_int (sa_cons (se_op s2_add (se_op s2_add (se_op s2_mulA (se_var 2) se_int) (se_op s2_mulA se_int (se_var 1))) se_int) sa_nil)) se_int) se_int) sa_nil)))))⟩) (fun xs Q Ex _ h => h)
def t_law_wind_1 : MS := (mRet (mVar 3))
def t_law_wind_2 : MS := (mSeq (mCoil 0 0 (mBin fDiv (mBin fIx (mVar 0) (mC (.int 0))) (mVar 1))) (t_law_wind_1))
def t_law_wind_3 : MS := (mRet (mBin fMod (mCB fInt (mCons (mBin fDiv (mVar 2) (mC (.int 32))) mNil)) (mVar 1)))
def t_law_wind_4 : MS := (mSeq (mSet 2 (mVal (mBin fMod (mCB fInt (mCons (mBin fMulA (mBin fIx (mVar 0) (mC (.int 1))) (mBin fAdd (mBin fDiv (mBin fIx (mVar 0) (mC (.int 1))) (mC (.int 9))) (mC (.int 53)))) mNil)) (mC (.int 2147483563))))) (t_law_wind_3))
def t_law_wind_5 : MS := (mSeq (mCoil 0 1 (mBin fMod (mCB fInt (mCons (mBin fAdd (mBin fMulA (mBin fIx (mVar 0) (mC (.int 1))) (mC (.int 46021))) (mC (.int 151))) mNil)) (mC (.int 2147483587)))) (t_law_wind_4))
theorem sc_law_wind : FnScope ["coil", "many", "wide", "part"] ["coil", "many"] (defScope s_law_wind) := ⟨rfl, rfl, rfl, by decide +kernel, rfl, by decide +kernel, by decide +kernel⟩
def b_law_wind : MS := (mSeq (mIfS (mB (mBin fGt (mBin fIx (mVar 0) (mC (.int 0))) (mC (.int 0)))) (mSeq (mSet 3 (mVal (mBin fMod (mCB fInt (mCons (mBin fIx (mVar 0) (mC (.int 0))) mNil)) (mVar 1)))) (t_law_wind_2)) mNext) (t_law_wind_5))
def F_law_wind : List Dv → M Dv := fun xs Q Ex => b_law_wind (endM Q Ex) (startE 4 xs)
theorem d_law_wind (T : Txt K mg KE) : Df P w K mg base "_law_wind" 1 ["coil", "many"] F_law_wind :=
  df_of T.f_law_wind sc_law_wind (fun _ _ _ _ _ _ us hl => match us, hl with | [_, _], _ => rfl) (fun f cdv A outer s H E hr => ⟨_, (pss_cons (ps_if (pt_cmpR op_gt (pe_ix ix_seq (pv 0) pe_int (fun _ _ => rfl)) pe_int (nomark _)) (pss_cons (ps_set (i := 3) sc_law_wind.nd rfl (by first | exact Or.inl rfl | exact Or.inr rfl) (pe_op op_mod (pe_callTy call_int1 (by rfl) T.b_int boot_int_ (pa_cons (pe_ix ix_seq (pv 0) pe_int (fun _ _ => rfl)) pa_nil)) (pv 1))) (pss_cons (ps_asg (pe_op op_fdivW (pe_ix ix_seq (pv 0) pe_int (fun _ _ => rfl)) (pv 1)) (pg_sub (pv 0) pe_int set_list)) (pss_one (ps_ret (pv 3))))) pss_nil) (pss_cons (ps_asg (pe_op op_mod (pe_callTy call_int1 (by rfl) T.b_int boot_int_ (pa_cons (pe_op op_addA (pe_op op_mulA (pe_ix ix_seq (pv 0) pe_int (fun _ _ => rfl)) pe_int) pe_int) pa_nil)) pe_int) (pg_sub (pv 0) pe_int set_list)) (pss_cons (ps_set (i := 2) sc_law_wind.nd rfl (by first | exact Or.inl rfl | exact Or.inr rfl) (pe_op op_mod (pe_callTy call_int1 (by rfl) T.b_int boot_int_ (pa_cons (pe_op op_mulA (pe_ix ix_seq (pv 0) pe_int (fun _ _ => rfl)) (pe_op op_addA (pe_op op_fdivW (pe_ix ix_seq (pv 0) pe_int (fun _ _ => rfl)) pe_int) pe_int)) pa_nil)) pe_int)) (pss_one (ps_ret (pe_op op_mod (pe_callTy call_int1 (by rfl) T.b_int boot_int_ (pa_cons (pe_op op_fdivW (pv 2) pe_int) pa_nil)) (pv 1))))))), (ss_seq (ss_if (sb_test (se_op s2_B0 (se_op s2_ix (se_var 0) se_int) se_int)) (ss_seq (ss_set 3 (sn_val (se_op (s2_I fun _ _ h => h) (se_cb sc_int (sa_cons (se_op s2_ix (se_var 0) se_int) sa_nil)) (se_var 1)))) (ss_seq (ss_coil 0 0 (se_op (s2_I fun _ _ h => h) (se_op s2_ix (se_var 0) se_int) (se_var 1))) (ss_ret (se_var 3)))) ss_next) (ss_seq (ss_coil 0 1 (se_op (s2_I fun _ _ h => h) (se_cb sc_int (sa_cons (se_op s2_add (se_op s2_mulA (se_op s2_ix (se_var 0) se_int) se_int) se_int) sa_nil)) se_int)) (ss_seq (ss_set 2 (sn_val (se_op (s2_I fun _ _ h => h) (se_cb sc_int (sa_cons (se_op s2_mulA (se_op s2_ix (se_var 0) se_int) (se_op s2_add (se_op (s2_I fun _ _ h => h) (se_op s2_ix (se_var 0) se_int) se_int) se_int)) sa_nil)) se_int))) (ss_ret (se_op (s2_I fun _ _ h => h) (se_cb sc_int (sa_cons (se_op (s2_I fun _ _ h => h) (se_var 2) se_int) sa_nil)) (se_var 1))))))⟩) (fun xs Q Ex _ h => h)
theorem sc_law_pick : FnScope ["coil", "things"] ["coil", "things"] (defScope s_law_pick) := ⟨rfl, rfl, rfl, by decide +kernel, rfl, by decide +kernel, by decide +kernel⟩
def b_law_pick : MS := (mRet (mBin fIx (mVar 1) (mCall F_law_wind (mCons (mVar 0) (mCons (mCB fLen (mCons (mVar 1) mNil)) mNil)))))
def F_law_pick : List Dv → M Dv := fun xs Q Ex => b_law_pick (endM Q Ex) (startE 2 xs)
theorem d_law_pick (T : Txt K mg KE) : Df P w K mg base "_law_pick" 2 ["coil", "things"] F_law_pick :=
  df_of T.f_law_pick sc_law_pick (fun _ _ _ _ _ _ us hl => match us, hl with | [_, _], _ => rfl) (fun f cdv A outer s H E hr => ⟨_, (pss_one (ps_ret (pe_ix ix_seq (pv 1) (pe_callD (d_law_wind T) (hr.mono (by decide)) (by rfl) (passX (L2N.takes_of rfl rfl rfl rfl)) (pa_cons (pv 0) (pa_cons (pe_callB call_len (by rfl) T.b_len boot_len_ (pa_cons (pv 1) pa_nil)) pa_nil))) (fun _ _ => rfl)))), (ss_ret (se_op s2_ix (se_var 1) (se_call (sa_cons (se_var 0) (sa_cons (se_cb sc_len (sa_cons (se_var 1) sa_nil)) sa_nil)))))⟩) (fun xs Q Ex _ h => h)
def t_law_any_rope_1 : MS := (mRet (mCB fTupOf (mCons (mF (mLc (mItemsA (mVar 7)) (fName 8) mYes (mBin fMulA (mVar 8) (mVar 6)) [8])) mNil)))
def t_law_any_rope_2 : MS := (mSeq (mSet 7 (mVal (mCall F_law_pick (mCons (mVar 0) (mCons (mF (mLst (mCons (mTup 6 (mCons (mC (.int 0)) (mCons (mC (.int 1)) (mCons (mC (.int 4)) (mCons (mC (.int 10)) (mCons (mC (.int 12)) (mCons (mC (.int 17)) mNil))))))) (mCons (mTup 6 (mCons (mC (.int 0)) (mCons (mC (.int 1)) (mCons (mC (.int 8)) (mCons (mC (.int 11)) (mCons (mC (.int 13)) (mCons (mC (.int 17)) mNil))))))) mNil)))) mNil))))) (t_law_any_rope_1))
def t_law_any_rope_3 : MS := (mSet 4 (mVal (mBin fAdd (mVar 4) (mTup 1 (mCons (mBin fAdd (mBin fAdd (mBin fIx (mVar 4) (mUn fNeg (mC (.int 1)))) (mC (.int 1))) (mCall F_law_wind (mCons (mVar 0) (mCons (mBin fIx (mF (mLst (mCons (mC (.int 2)) (mCons (mC (.int 3)) (mCons (mC (.int 6)) (mCons (mC (.int 12)) (mCons (mC (.int 40)) (mCons (mBin fPow (mC (.int 10)) (mC (.int 29))) mNil)))))))) (mBin fSub (mVar 3) (mC (.int 1)))) mNil)))) mNil)))))
def t_law_any_rope_4 : MS := (mRet (mVar 4))
def t_law_any_rope_5 : MS := (mSeq (mFor (mRng1 (mCons (mBin fAdd (mBin fSub (mVar 1) (mC (.int 1))) (mCall F_law_wind (mCons (mVar 0) (mCons (mBin fAdd (mBin fSub (mVar 2) (mVar 1)) (mC (.int 1))) mNil)))) mNil)) (fName 5) (t_law_any_rope_3)) (t_law_any_rope_4))
def t_law_any_rope_6 : MS := (mSeq (mSet 4 (mVal (mTup 1 (mCons (mC (.int 0)) mNil)))) (t_law_any_rope_5))
def t_law_any_rope_7 : MS := (mSeq (mIfS (mAnd (mB (mBin fEq (mVar 3) (mC (.int 0)))) (mB (mChain fLe fLe (mVar 1) (mC (.int 6)) (mVar 2)))) (mSeq (mSet 6 (mVal (mCall F_law_pick (mCons (mVar 0) (mCons (mF (mLst (mCons (mC (.int 1)) (mCons (mC (.int 3)) (mCons (mBin fAdd (mBin fPow (mC (.int 10)) (mC (.int 28))) (mCall F_law_wind (mCons (mVar 0) (mCons (mC (.int 99)) mNil)))) mNil))))) mNil))))) (t_law_any_rope_2)) mNext) (t_law_any_rope_6))
theorem sc_law_any_rope : FnScope ["coil", "least", "most", "way", "rope", "turn", "times", "known", "place"] ["coil", "least", "most"] (defScope s_law_any_rope) := ⟨rfl, rfl, rfl, by decide +kernel, rfl, by decide +kernel, by decide +kernel⟩
def b_law_any_rope : MS := (mSeq (mSet 3 (mVal (mCall F_law_wind (mCons (mVar 0) (mCons (mC (.int 7)) mNil))))) (t_law_any_rope_7))
def F_law_any_rope : List Dv → M Dv := fun xs Q Ex => b_law_any_rope (endM Q Ex) (startE 9 xs)
theorem d_law_any_rope (T : Txt K mg KE) : Df P w K mg base "_law_any_rope" 3 ["coil", "least", "most"] F_law_any_rope :=
  df_of T.f_law_any_rope sc_law_any_rope (fun _ _ _ _ _ _ us hl => match us, hl with | [_, _, _], _ => rfl) (fun f cdv A outer s H E hr => ⟨_, (pss_cons (ps_set (i := 3) sc_law_any_rope.nd rfl (by first | exact Or.inl rfl | exact Or.inr rfl) (pe_callD (d_law_wind T) (hr.mono (by decide)) (by rfl) (passX (L2N.takes_of rfl rfl rfl rfl)) (pa_cons (pv 0) (pa_cons pe_int pa_nil)))) (pss_cons (ps_if (PW.pt (pw_and (pt_cmpR (op_eqD (Room.units hr)) (pv 3) pe_int (nomark _)) (pw_and1 (pt_chain op_le op_le (pv 1) pe_int (pv 2))))) (pss_cons (ps_set (i := 6) sc_law_any_rope.nd rfl (by first | exact Or.inl rfl | exact Or.inr rfl) (pe_callD (d_law_pick T) (hr.mono (by decide)) (by rfl) (passX (L2N.takes_of rfl rfl rfl rfl)) (pa_cons (pv 0) (pa_cons (pe_lst (pa_cons pe_int (pa_cons pe_int (pa_cons (pe_op op_addA (pe_op op_pow pe_int pe_int) (pe_callD (d_law_wind T) (hr.mono (by decide)) (by rfl) (passX (L2N.takes_of rfl rfl rfl rfl)) (pa_cons (pv 0) (pa_cons pe_int pa_nil)))) pa_nil)))) pa_nil)))) (pss_cons (ps_set (i := 7) sc_law_any_rope.nd rfl (by first | exact Or.inl rfl | exact Or.inr rfl) (pe_callD (d_law_pick T) (hr.mono (by decide)) (by rfl) (passX (L2N.takes_of rfl rfl rfl rfl)) (pa_cons (pv 0) (pa_cons (pe_lst (pa_cons (pe_tup (pa_cons pe_int (pa_cons pe_int (pa_cons pe_int (pa_cons pe_int (pa_cons pe_int (pa_cons pe_int pa_nil))))))) (pa_cons (pe_tup (pa_cons pe_int (pa_cons pe_int (pa_cons pe_int (pa_cons pe_int (pa_cons pe_int (pa_cons pe_int pa_nil))))))) pa_nil))) pa_nil)))) (pss_one (ps_ret (pe_callTy call_tuple_of (by rfl) T.b_tuple boot_tuple_ (pa_cons (pe_lc (own := [("place", 8)]) rfl sc_law_any_rope.nd (pi_any (pv 7)) (blkOk_by (own := [("place", 8)]) (N := ["coil", "least", "most", "way", "rope", "turn", "times", "known", "place"]) (sc := defScope s_law_any_rope) (by decide +kernel)) (fun _ _ _ _ _ => (pg_name (i := 8) sc_law_any_rope.nd rfl (by first | exact Or.inl rfl | exact Or.inr rfl))) (fun _ _ _ _ _ => pts_nil) (fun _ _ _ _ _ => (pe_op op_mulA (pv 8) (pv 6)))) pa_nil)))))) pss_nil) (pss_cons (ps_set (i := 4) sc_law_any_rope.nd rfl (by first | exact Or.inl rfl | exact Or.inr rfl) (pe_tup (pa_cons pe_int pa_nil))) (pss_cons (ps_for (passes_of rfl) rfl (pi_range1 (by rfl) T.b_range (pa_cons (pe_op op_addA (pe_op op_sub (pv 1) pe_int) (pe_callD (d_law_wind T) (hr.mono (by decide)) (by rfl) (passX (L2N.takes_of rfl rfl rfl rfl)) (pa_cons (pv 0) (pa_cons (pe_op op_addA (pe_op op_sub (pv 2) (pv 1)) pe_int) pa_nil)))) pa_nil)) (pg_name (i := 5) sc_law_any_rope.nd rfl (by first | exact Or.inl rfl | exact Or.inr rfl)) (pss_one (ps_set (i := 4) sc_law_any_rope.nd rfl (by first | exact Or.inl rfl | exact Or.inr rfl) (pe_op op_addA (pv 4) (pe_tup (pa_cons (pe_op op_addA (pe_op op_addA (pe_ix ix_seq (pv 4) (pe_un un_neg pe_int) (fun _ _ => rfl)) pe_int) (pe_callD (d_law_wind T) (hr.mono (by decide)) (by rfl) (passX (L2N.takes_of rfl rfl rfl rfl)) (pa_cons (pv 0) (pa_cons (pe_ix ix_seq (pe_lst (pa_cons pe_int (pa_cons pe_int (pa_cons pe_int (pa_cons pe_int (pa_cons pe_int (pa_cons (pe_op op_pow pe_int pe_int) pa_nil))))))) (pe_op op_sub (pv 3) pe_int) (fun _ _ => rfl)) pa_nil)))) pa_nil)))))) (pss_one (ps_ret (pv 4))))))), (ss_seq (ss_set 3 (sn_val (se_call (sa_cons (se_var 0) (sa_cons se_int sa_nil))))) (ss_seq (ss_if (sb_and (sb_test (se_op s2_eq (se_var 3) se_int)) (sb_test (se_chain s2_B0 s2_B0 (se_var 1) se_int (se_var 2)))) (ss_seq (ss_set 6 (sn_val (se_call (sa_cons (se_var 0) (sa_cons (se_f (sf_lst (sa_cons se_int (sa_cons se_int (sa_cons (se_op s2_add (se_op (s2_I fun _ _ h => h) se_int se_int) (se_call (sa_cons (se_var 0) (sa_cons se_int sa_nil)))) sa_nil))))) sa_nil))))) (ss_seq (ss_set 7 (sn_val (se_call (sa_cons (se_var 0) (sa_cons (se_f (sf_lst (sa_cons (se_tup (sa_cons se_int (sa_cons se_int (sa_cons se_int (sa_cons se_int (sa_cons se_int (sa_cons se_int sa_nil))))))) (sa_cons (se_tup (sa_cons se_int (sa_cons se_int (sa_cons se_int (sa_cons se_int (sa_cons se_int (sa_cons se_int sa_nil))))))) sa_nil)))) sa_nil))))) (ss_ret (se_cb sc_tupOf (sa_cons (se_f (sf_lc (si_any (se_var 7)) (st_name 8) (by decide) sb_yes (se_op s2_mulA (se_var 8) (se_var 6)))) sa_nil))))) ss_next) (ss_seq (ss_set 4 (sn_val (se_tup (sa_cons se_int sa_nil)))) (ss_seq (ss_for (si_rng1 (sa_cons (se_op s2_add (se_op s2_I0 (se_var 1) se_int) (se_call (sa_cons (se_var 0) (sa_cons (se_op s2_add (se_op s2_I0 (se_var 2) (se_var 1)) se_int) sa_nil)))) sa_nil)) (st_name 5) (ss_set 4 (sn_val (se_op s2_add (se_var 4) (se_tup (sa_cons (se_op s2_add (se_op s2_add (se_op s2_ix (se_var 4) (se_un s1_neg se_int)) se_int) (se_call (sa_cons (se_var 0) (sa_cons (se_op s2_ix (se_f (sf_lst (sa_cons se_int (sa_cons se_int (sa_cons se_int (sa_cons se_int (sa_cons se_int (sa_cons (se_op (s2_I fun _ _ h => h) se_int se_int) sa_nil)))))))) (se_op s2_I0 (se_var 3) se_int)) sa_nil)))) sa_nil)))))) (ss_ret (se_var 4))))))⟩) (fun xs Q Ex _ h => h)
def t_law_any_value_1 (rec : List Dv → M Dv) : MS := (mRet (mIf (mB (mBin fEq (mCall F_law_wind (mCons (mVar 0) (mCons (mC (.int 3)) mNil))) (mC (.int 0)))) (mVar 3) (mCB fTupOf (mCons (mVar 3) mNil))))
def t_law_any_value_2 (rec : List Dv → M Dv) : MS := (mSeq (mSet 3 (mVal (mF (mLc (mRng1 (mCons (mCall F_law_wind (mCons (mVar 0) (mCons (mC (.int 4)) mNil))) mNil)) (fName 4) mYes (mCall rec (mCons (mVar 0) (mCons (mBin fSub (mVar 1) (mC (.int 1))) mNil))) [4])))) (t_law_any_value_1 rec))
def t_law_any_value_3 (rec : List Dv → M Dv) : MS := (mSeq (mIfS (mOr (mB (mBin fEq (mVar 1) (mC (.int 0)))) (mB (mBin fLt (mCall F_law_wind (mCons (mVar 0) (mCons (mC (.int 9)) mNil))) (mC (.int 6))))) (mRet (mCall F_law_pick (mCons (mVar 0) (mCons (mVar 2) mNil)))) mNext) (t_law_any_value_2 rec))
def t_law_any_value_4 (rec : List Dv → M Dv) : MS := (mSeq (mSet 2 (mVal (mBin fAdd (mVar 2) (mF (mLst (mCons (mTup 4 (mCons (mC (.str "between")) (mCons (mC (.int 0)) (mCons (mC (.int 8)) (mCons (mC (.int 1)) mNil))))) (mCons (mTup 4 (mCons (mC (.str "between")) (mCons (mC (.int 1)) (mCons (mC (.int 1)) (mCons (mC (.int 1)) mNil))))) (mCons (mTup 2 (mCons (mC (.int 6)) (mCons (mTup 3 (mCons (mC (.int 0)) (mCons (mC (.int 1)) (mCons (mC (.int 3)) mNil)))) mNil))) (mCons (mF (mLst (mCons (mC (.int 0)) (mCons (mC (.int 1)) mNil)))) (mCons (mTup 2 (mCons (mC (.int 2)) (mCons (mTup 2 (mCons (mC (.int 0)) (mCons (mC (.int 1)) mNil))) mNil))) (mCons (mTup 3 (mCons (mC (.int 0)) (mCons (mC (.int 2)) (mCons (mC (.int 1)) mNil)))) mNil))))))))))) (t_law_any_value_3 rec))
def t_law_any_value_5 (rec : List Dv → M Dv) : MS := (mSeq (mSet 2 (mVal (mBin fAdd (mVar 2) (mF (mLst (mCons (mTup 2 (mCons (mC (.int 0)) (mCons (mC (.int 1)) mNil))) (mCons (mTup 3 (mCons (mC (.int 1)) (mCons (mC (.int 1)) (mCons (mC (.int 2)) mNil)))) (mCons (mTup 1 (mCons (mC (.int 0)) mNil)) (mCons (mTup 1 (mCons (mC (.int 1)) mNil)) (mCons (mTup 3 (mCons (mC (.str "at")) (mCons (mC (.int 0)) (mCons (mC (.bool true)) mNil)))) (mCons (mTup 3 (mCons (mC (.str "beside")) (mCons (mC (.int 0)) (mCons (mC (.bool true)) mNil)))) (mCons (mTup 3 (mCons (mC (.str "beside")) (mCons (mC (.int 1)) (mCons (mC (.bool false)) mNil)))) mNil)))))))))))) (t_law_any_value_4 rec))
theorem sc_law_any_value : FnScope ["coil", "deep", "some", "row", "part"] ["coil", "deep"] (defScope s_law_any_value) := ⟨rfl, rfl, rfl, by decide +kernel, rfl, by decide +kernel, by decide +kernel⟩
def b_law_any_value (rec : List Dv → M Dv) : MS := (mSeq (mSet 2 (mVal (mF (mLst (mCons (mC .none) (mCons (mC (.bool true)) (mCons (mC (.bool false)) (mCons (mC (.int 0)) (mCons (mC (.int 1)) (mCons (mC (.int 2)) (mCons (mC (.int 8)) (mCons (mC (.int 9)) (mCons (mUn fNeg (mC (.int 1))) (mCons (mBin fPow (mC (.int 10)) (mC (.int 30))) (mCons (mBin fAdd (mBin fPow (mC (.int 10)) (mC (.int 30))) (mC (.int 1))) (mCons (mC (.str "")) (mCons (mC (.str "at")) (mCons (mC (.str "between")) (mCons (mC (.str "rope 1 2")) (mCons (mTup 0 mNil) (mCons (mF (mLst mNil)) mNil))))))))))))))))))))) (t_law_any_value_5 rec))
def F_law_any_value : Nat → List Dv → M Dv
  | 0 => fun _ _ _ => False
  | n + 1 => fun xs Q Ex => b_law_any_value (F_law_any_value n) (endM Q Ex) (startE 5 xs)
theorem d_law_any_value (T : Txt K mg KE) : ∀ n : Nat, Df P w K mg base "_law_any_value" (3 + n) ["coil", "deep"] (F_law_any_value n)
  | 0 => df_no T.f_law_any_value sc_law_any_value (fun _ _ _ _ _ _ us hl => match us, hl with | [_, _], _ => rfl)
  | n + 1 => by
    have IH := d_law_any_value T n
    exact df_of T.f_law_any_value sc_law_any_value (fun _ _ _ _ _ _ us hl => match us, hl with | [_, _], _ => rfl) (fun f cdv A outer s H E hr => ⟨_, (pss_cons (ps_set (i := 2) sc_law_any_value.nd rfl (by first | exact Or.inl rfl | exact Or.inr rfl) (pe_lst (pa_cons pe_non (pa_cons pe_bl (pa_cons pe_bl (pa_cons pe_int (pa_cons pe_int (pa_cons pe_int (pa_cons pe_int (pa_cons pe_int (pa_cons (pe_un un_neg pe_int) (pa_cons (pe_op op_pow pe_int pe_int) (pa_cons (pe_op op_addA (pe_op op_pow pe_int pe_int) pe_int) (pa_cons pe_str (pa_cons pe_str (pa_cons pe_str (pa_cons pe_str (pa_cons (pe_tup pa_nil) (pa_cons (pe_lst pa_nil) pa_nil))))))))))))))))))) (pss_cons (ps_set (i := 2) sc_law_any_value.nd rfl (by first | exact Or.inl rfl | exact Or.inr rfl) (pe_op op_addA (pv 2) (pe_lst (pa_cons (pe_tup (pa_cons pe_int (pa_cons pe_int pa_nil))) (pa_cons (pe_tup (pa_cons pe_int (pa_cons pe_int (pa_cons pe_int pa_nil)))) (pa_cons (pe_tup (pa_cons pe_int pa_nil)) (pa_cons (pe_tup (pa_cons pe_int pa_nil)) (pa_cons (pe_tup (pa_cons pe_str (pa_cons pe_int (pa_cons pe_bl pa_nil)))) (pa_cons (pe_tup (pa_cons pe_str (pa_cons pe_int (pa_cons pe_bl pa_nil)))) (pa_cons (pe_tup (pa_cons pe_str (pa_cons pe_int (pa_cons pe_bl pa_nil)))) pa_nil)))))))))) (pss_cons (ps_set (i := 2) sc_law_any_value.nd rfl (by first | exact Or.inl rfl | exact Or.inr rfl) (pe_op op_addA (pv 2) (pe_lst (pa_cons (pe_tup (pa_cons pe_str (pa_cons pe_int (pa_cons pe_int (pa_cons pe_int pa_nil))))) (pa_cons (pe_tup (pa_cons pe_str (pa_cons pe_int (pa_cons pe_int (pa_cons pe_int pa_nil))))) (pa_cons (pe_tup (pa_cons pe_int (pa_cons (pe_tup (pa_cons pe_int (pa_cons pe_int (pa_cons pe_int pa_nil)))) pa_nil))) (pa_cons (pe_lst (pa_cons pe_int (pa_cons pe_int pa_nil))) (pa_cons (pe_tup (pa_cons pe_int (pa_cons (pe_tup (pa_cons pe_int (pa_cons pe_int pa_nil))) pa_nil))) (pa_cons (pe_tup (pa_cons pe_int (pa_cons pe_int (pa_cons pe_int pa_nil)))) pa_nil))))))))) (pss_cons (ps_if (PW.pt (pw_or (pt_cmpR (op_eqD (Room.units hr)) (pv 1) pe_int (nomark _)) (pw_or1 (pt_cmpR op_lt (pe_callD (d_law_wind T) (hr.mono (by first | exact Nat.le_refl _ | exact Nat.le_trans (by decide) (Nat.le_add_right _ _))) (by rfl) (passX (L2N.takes_of rfl rfl rfl rfl)) (pa_cons (pv 0) (pa_cons pe_int pa_nil))) pe_int (nomark _))))) (pss_one (ps_ret (pe_callD (d_law_pick T) (hr.mono (by first | exact Nat.le_refl _ | exact Nat.le_trans (by decide) (Nat.le_add_right _ _))) (by rfl) (passX (L2N.takes_of rfl rfl rfl rfl)) (pa_cons (pv 0) (pa_cons (pv 2) pa_nil))))) pss_nil) (pss_cons (ps_setLc (i := 3) (own := [("part", 4)]) rfl sc_law_any_value.nd rfl rfl (sw_true rfl rfl rfl (by decide +kernel)) (pi_range1 (by rfl) T.b_range (pa_cons (pe_callD (d_law_wind T) (hr.mono (by first | exact Nat.le_refl _ | exact Nat.le_trans (by decide) (Nat.le_add_right _ _))) (by rfl) (passX (L2N.takes_of rfl rfl rfl rfl)) (pa_cons (pv 0) (pa_cons pe_int pa_nil))) pa_nil)) (blkOk_by (own := [("part", 4)]) (N := ["coil", "deep", "some", "row", "part"]) (sc := defScope s_law_any_value) (by decide +kernel)) (fun _ _ _ _ _ => (pg_name (i := 4) sc_law_any_value.nd rfl (by first | exact Or.inl rfl | exact Or.inr rfl))) (fun _ _ _ _ _ => pts_nil) (fun _ _ _ _ _ => (pe_callD IH (hr.mono (by first | exact Nat.le_refl _ | exact Nat.le_trans (by decide) (Nat.le_add_right _ _))) (by rfl) passN (pa_cons (pv 0) (pa_cons (pe_op op_sub (pv 1) pe_int) pa_nil))))) (pss_one (ps_ret (pe_ifExp (pt_cmpR (op_eqD (Room.units hr)) (pe_callD (d_law_wind T) (hr.mono (by first | exact Nat.le_refl _ | exact Nat.le_trans (by decide) (Nat.le_add_right _ _))) (by rfl) (passX (L2N.takes_of rfl rfl rfl rfl)) (pa_cons (pv 0) (pa_cons pe_int pa_nil))) pe_int (nomark _)) (pv 3) (pe_callTy call_tuple_of (by rfl) T.b_tuple boot_tuple_ (pa_cons (pv 3) pa_nil)))))))))), (ss_seq (ss_set 2 (sn_val (se_f (sf_lst (sa_cons se_non (sa_cons se_bl (sa_cons se_bl (sa_cons se_int (sa_cons se_int (sa_cons se_int (sa_cons se_int (sa_cons se_int (sa_cons (se_un s1_neg se_int) (sa_cons (se_op (s2_I fun _ _ h => h) se_int se_int) (sa_cons (se_op s2_add (se_op (s2_I fun _ _ h => h) se_int se_int) se_int) (sa_cons se_str (sa_cons se_str (sa_cons se_str (sa_cons se_str (sa_cons (se_tup sa_nil) (sa_cons (se_f (sf_lst sa_nil)) sa_nil))))))))))))))))))))) (ss_seq (ss_set 2 (sn_val (se_op s2_add (se_var 2) (se_f (sf_lst (sa_cons (se_tup (sa_cons se_int (sa_cons se_int sa_nil))) (sa_cons (se_tup (sa_cons se_int (sa_cons se_int (sa_cons se_int sa_nil)))) (sa_cons (se_tup (sa_cons se_int sa_nil)) (sa_cons (se_tup (sa_cons se_int sa_nil)) (sa_cons (se_tup (sa_cons se_str (sa_cons se_int (sa_cons se_bl sa_nil)))) (sa_cons (se_tup (sa_cons se_str (sa_cons se_int (sa_cons se_bl sa_nil)))) (sa_cons (se_tup (sa_cons se_str (sa_cons se_int (sa_cons se_bl sa_nil)))) sa_nil)))))))))))) (ss_seq (ss_set 2 (sn_val (se_op s2_add (se_var 2) (se_f (sf_lst (sa_cons (se_tup (sa_cons se_str (sa_cons se_int (sa_cons se_int (sa_cons se_int sa_nil))))) (sa_cons (se_tup (sa_cons se_str (sa_cons se_int (sa_cons se_int (sa_cons se_int sa_nil))))) (sa_cons (se_tup (sa_cons se_int (sa_cons (se_tup (sa_cons se_int (sa_cons se_int (sa_cons se_int sa_nil)))) sa_nil))) (sa_cons (se_f (sf_lst (sa_cons se_int (sa_cons se_int sa_nil)))) (sa_cons (se_tup (sa_cons se_int (sa_cons (se_tup (sa_cons se_int (sa_cons se_int sa_nil))) sa_nil))) (sa_cons (se_tup (sa_cons se_int (sa_cons se_int (sa_cons se_int sa_nil)))) sa_nil))))))))))) (ss_seq (ss_if (sb_or (sb_test (se_op s2_eq (se_var 1) se_int)) (sb_test (se_op s2_B0 (se_call (sa_cons (se_var 0) (sa_cons se_int sa_nil))) se_int))) (ss_ret (se_call (sa_cons (se_var 0) (sa_cons (se_var 2) sa_nil)))) ss_next) (ss_seq (ss_set 3 (sn_val (se_f (sf_lc (si_rng1 (sa_cons (se_call (sa_cons (se_var 0) (sa_cons se_int sa_nil))) sa_nil)) (st_name 4) (by decide) sb_yes (se_call (sa_cons (se_var 0) (sa_cons (se_op s2_I0 (se_var 1) se_int) sa_nil))))))) (ss_ret (se_if (sb_test (se_op s2_eq (se_call (sa_cons (se_var 0) (sa_cons se_int sa_nil))) se_int)) (se_var 3) (se_cb sc_tupOf (sa_cons (se_var 3) sa_nil)))))))))⟩) (fun xs Q Ex _ h => h)
def t_law_bent_1 (rec : List Dv → M Dv) : MS := (mRet (mCall F_law_pick (mCons (mVar 0) (mCons (mVar 4) mNil))))
def t_law_bent_2 (rec : List Dv → M Dv) : MS := (mSeq (mIfS (mB (mCB fIsI (mCons (mVar 1) (mCons (mTy "str") mNil)))) (mSet 4 (mVal (mBin fAddB (mVar 4) (mF (mLst (mCons (mC (.str "at")) (mCons (mC (.str "beside")) (mCons (mC (.str "between")) (mCons (mC (.str "At")) (mCons (mBin fAddB (mVar 1) (mC (.str "s"))) mNil)))))))))) (mIfS (mB (mCB fIsI (mCons (mVar 1) (mCons (mTy "int") mNil)))) (mSet 4 (mVal (mBin fAddB (mVar 4) (mF (mLst (mCons (mBin fAddB (mVar 1) (mC (.int 1))) (mCons (mBin (fIB (· - ·)) (mVar 1) (mC (.int 1))) (mCons (mNotT (mVar 1)) (mCons (mCB fStrA (mCons (mVar 1) mNil)) (mCons (mUn fNegB (mVar 1)) (mCons (mBin fAddB (mBin fPow (mC (.int 10)) (mC (.int 30))) (mVar 1)) mNil))))))))))) mNext)) (t_law_bent_1 rec))
def t_law_bent_3 (rec : List Dv → M Dv) : MS := (mRet (mBin fAddB (mBin fAddB (mSl fSl (mVar 1) mNoPart (mPart (mVar 2))) (mTup 1 (mCons (mCall rec (mCons (mVar 0) (mCons (mBin fIx (mVar 1) (mVar 2)) mNil))) mNil))) (mSl fSl (mVar 1) (mPart (mBin fAddB (mVar 2) (mC (.int 1)))) mNoPart)))
def t_law_bent_4 (rec : List Dv → M Dv) : MS := (mSeq (mIfS (mB (mBin fEq (mVar 3) (mC (.int 3)))) (mRet (mF (mCF fLstOf (mCons (mVar 1) mNil)))) mNext) (t_law_bent_3 rec))
def t_law_bent_5 (rec : List Dv → M Dv) : MS := (mSeq (mIfS (mB (mBin fEq (mVar 3) (mC (.int 2)))) (mRet (mRevT (mVar 1))) mNext) (t_law_bent_4 rec))
def t_law_bent_6 (rec : List Dv → M Dv) : MS := (mSeq (mIfS (mB (mBin fEq (mVar 3) (mC (.int 1)))) (mRet (mBin fAddB (mSl fSl (mVar 1) mNoPart (mPart (mBin fAddB (mVar 2) (mC (.int 1))))) (mSl fSl (mVar 1) (mPart (mVar 2)) mNoPart))) mNext) (t_law_bent_5 rec))
def t_law_bent_7 (rec : List Dv → M Dv) : MS := (mSeq (mIfS (mB (mBin fEq (mVar 3) (mC (.int 0)))) (mRet (mBin fAddB (mSl fSl (mVar 1) mNoPart (mPart (mVar 2))) (mSl fSl (mVar 1) (mPart (mBin fAddB (mVar 2) (mC (.int 1)))) mNoPart))) mNext) (t_law_bent_6 rec))
def t_law_bent_8 (rec : List Dv → M Dv) : MS := (mSeq (mPar 2 3 (mVal (mCall F_law_wind (mCons (mVar 0) (mCons (mCB fLen (mCons (mVar 1) mNil)) mNil)))) (mVal (mCall F_law_wind (mCons (mVar 0) (mCons (mC (.int 9)) mNil))))) (t_law_bent_7 rec))
theorem sc_law_bent : FnScope ["coil", "value", "at", "way", "near"] ["coil", "value"] (defScope s_law_bent) := ⟨rfl, rfl, rfl, by decide +kernel, rfl, by decide +kernel, by decide +kernel⟩
def b_law_bent (rec : List Dv → M Dv) : MS := (mSeq (mIfS (mOr (mNot (mB (mCB fIsI (mCons (mVar 1) (mCons (mTy "tuple") mNil))))) (mOr (mB (mBin fEq (mVar 1) (mTup 0 mNil))) (mB (mBin fEq (mCall F_law_wind (mCons (mVar 0) (mCons (mC (.int 7)) mNil))) (mC (.int 0)))))) (mSeq (mSet 4 (mVal (mF (mLst (mCons (mCall (F_law_any_value 5) (mCons (mVar 0) (mCons (mC (.int 1)) mNil))) (mCons (mCall (F_law_any_value 5) (mCons (mVar 0) (mCons (mC (.int 1)) mNil))) mNil)))))) (t_law_bent_2 rec)) mNext) (t_law_bent_8 rec))
def F_law_bent : Nat → List Dv → M Dv
  | 0 => fun _ _ _ => False
  | n + 1 => fun xs Q Ex => b_law_bent (F_law_bent n) (endM Q Ex) (startE 5 xs)
theorem d_law_bent (T : Txt K mg KE) : ∀ n : Nat, Df P w K mg base "_law_bent" (9 + n) ["coil", "value"] (F_law_bent n)
  | 0 => df_no T.f_law_bent sc_law_bent (fun _ _ _ _ _ _ us hl => match us, hl with | [_, _], _ => rfl)
  | n + 1 => by
    have IH := d_law_bent T n
    exact df_of T.f_law_bent sc_law_bent (fun _ _ _ _ _ _ us hl => match us, hl with | [_, _], _ => rfl) (fun f cdv A outer s H E hr => ⟨_, (pss_cons (ps_if (PW.pt (pw_or (pt_not (pt_val (pe_callB call_isi (by rfl) T.b_isinstance boot_isinstance_ (pa_cons (pv 1) (pa_cons (pe_bltn (v := .ty "tuple") (by rfl) T.b_tuple boot_tuple_ rfl) pa_nil))))) (pw_or (pt_cmpR (op_eqD (Room.units hr)) (pv 1) (pe_tup pa_nil) (nomark _)) (pw_or1 (pt_cmpR (op_eqD (Room.units hr)) (pe_callD (d_law_wind T) (hr.mono (by first | exact Nat.le_refl _ | exact Nat.le_trans (by decide) (Nat.le_add_right _ _))) (by rfl) (passX (L2N.takes_of rfl rfl rfl rfl)) (pa_cons (pv 0) (pa_cons pe_int pa_nil))) pe_int (nomark _)))))) (pss_cons (ps_set (i := 4) sc_law_bent.nd rfl (by first | exact Or.inl rfl | exact Or.inr rfl) (pe_lst (pa_cons (pe_callD (d_law_any_value T 5) (hr.mono (by first | exact Nat.le_refl _ | exact Nat.le_trans (by decide) (Nat.le_add_right _ _))) (by rfl) (passX (L2N.takes_of rfl rfl rfl rfl)) (pa_cons (pv 0) (pa_cons pe_int pa_nil))) (pa_cons (pe_callD (d_law_any_value T 5) (hr.mono (by first | exact Nat.le_refl _ | exact Nat.le_trans (by decide) (Nat.le_add_right _ _))) (by rfl) (passX (L2N.takes_of rfl rfl rfl rfl)) (pa_cons (pv 0) (pa_cons pe_int pa_nil))) pa_nil)))) (pss_cons (ps_if (pt_val (pe_callB call_isi (by rfl) T.b_isinstance boot_isinstance_ (pa_cons (pv 1) (pa_cons (pe_bltn (v := .ty "str") (by rfl) T.b_str boot_str_ rfl) pa_nil)))) (pss_one (ps_set (i := 4) sc_law_bent.nd rfl (by first | exact Or.inl rfl | exact Or.inr rfl) (pe_op op_addB (pv 4) (pe_lst (pa_cons pe_str (pa_cons pe_str (pa_cons pe_str (pa_cons pe_str (pa_cons (pe_op op_addB (pv 1) pe_str) pa_nil))))))))) (pss_one (ps_if (pt_val (pe_callB call_isi (by rfl) T.b_isinstance boot_isinstance_ (pa_cons (pv 1) (pa_cons (pe_bltn (v := .ty "int") (by rfl) T.b_int boot_int_ rfl) pa_nil)))) (pss_one (ps_set (i := 4) sc_law_bent.nd rfl (by first | exact Or.inl rfl | exact Or.inr rfl) (pe_op op_addB (pv 4) (pe_lst (pa_cons (pe_op op_addB (pv 1) pe_int) (pa_cons (pe_op op_subIB (pv 1) pe_int) (pa_cons (pe_notT (pv 1)) (pa_cons (pe_callTy call_strA (by rfl) T.b_str boot_str_ (pa_cons (pv 1) pa_nil)) (pa_cons (pe_un un_negB (pv 1)) (pa_cons (pe_op op_addB (pe_op op_pow pe_int pe_int) (pv 1)) pa_nil)))))))))) pss_nil))) (pss_one (ps_ret (pe_callD (d_law_pick T) (hr.mono (by first | exact Nat.le_refl _ | exact Nat.le_trans (by decide) (Nat.le_add_right _ _))) (by rfl) (passX (L2N.takes_of rfl rfl rfl rfl)) (pa_cons (pv 0) (pa_cons (pv 4) pa_nil))))))) pss_nil) (pss_cons (ps_par (i := 2) (j := 3) (by rfl) sc_law_bent.nd rfl rfl (by decide) rfl rfl (pa_cons (pe_callD (d_law_wind T) (hr.mono (by first | exact Nat.le_refl _ | exact Nat.le_trans (by decide) (Nat.le_add_right _ _))) (by rfl) (passX (L2N.takes_of rfl rfl rfl rfl)) (pa_cons (pv 0) (pa_cons (pe_callB call_len (by rfl) T.b_len boot_len_ (pa_cons (pv 1) pa_nil)) pa_nil))) (pa_cons (pe_callD (d_law_wind T) (hr.mono (by first | exact Nat.le_refl _ | exact Nat.le_trans (by decide) (Nat.le_add_right _ _))) (by rfl) (passX (L2N.takes_of rfl rfl rfl rfl)) (pa_cons (pv 0) (pa_cons pe_int pa_nil))) pa_nil)) (by rfl)) (pss_cons (ps_if (pt_cmpR (op_eqD (Room.units hr)) (pv 3) pe_int (nomark _)) (pss_one (ps_ret (pe_op op_addB (pe_slice sl_any (pv 1) po_none (po_some (pv 2))) (pe_slice sl_any (pv 1) (po_some (pe_op op_addB (pv 2) pe_int)) po_none)))) pss_nil) (pss_cons (ps_if (pt_cmpR (op_eqD (Room.units hr)) (pv 3) pe_int (nomark _)) (pss_one (ps_ret (pe_op op_addB (pe_slice sl_any (pv 1) po_none (po_some (pe_op op_addB (pv 2) pe_int))) (pe_slice sl_any (pv 1) (po_some (pv 2)) po_none)))) pss_nil) (pss_cons (ps_if (pt_cmpR (op_eqD (Room.units hr)) (pv 3) pe_int (nomark _)) (pss_one (ps_ret (pe_revT (pv 1)))) pss_nil) (pss_cons (ps_if (pt_cmpR (op_eqD (Room.units hr)) (pv 3) pe_int (nomark _)) (pss_one (ps_ret (pe_callTy call_list_of (by rfl) T.b_list boot_list_ (pa_cons (pv 1) pa_nil)))) pss_nil) (pss_one (ps_ret (pe_op op_addB (pe_op op_addB (pe_slice sl_any (pv 1) po_none (po_some (pv 2))) (pe_tup (pa_cons (pe_callD IH (hr.mono (by first | exact Nat.le_refl _ | exact Nat.le_trans (by decide) (Nat.le_add_right _ _))) (by rfl) (passX (L2N.takes_of rfl rfl rfl rfl)) (pa_cons (pv 0) (pa_cons (pe_ix ix_seq (pv 1) (pv 2) (fun _ _ => rfl)) pa_nil))) pa_nil))) (pe_slice sl_any (pv 1) (po_some (pe_op op_addB (pv 2) pe_int)) po_none)))))))))), (ss_seq (ss_if (sb_or (sb_not (sb_B (se_cb sc_isi (sa_cons (se_var 1) (sa_cons se_ty sa_nil))))) (sb_or (sb_test (se_op s2_eq (se_var 1) (se_tup sa_nil))) (sb_test (se_op s2_eq (se_call (sa_cons (se_var 0) (sa_cons se_int sa_nil))) se_int)))) (ss_seq (ss_set 4 (sn_val (se_f (sf_lst (sa_cons (se_call (sa_cons (se_var 0) (sa_cons se_int sa_nil))) (sa_cons (se_call (sa_cons (se_var 0) (sa_cons se_int sa_nil))) sa_nil)))))) (ss_seq (ss_if (sb_B (se_cb sc_isi (sa_cons (se_var 1) (sa_cons se_ty sa_nil)))) (ss_set 4 (sn_val (se_op s2_addB (se_var 4) (se_f (sf_lst (sa_cons se_str (sa_cons se_str (sa_cons se_str (sa_cons se_str (sa_cons (se_op s2_addB (se_var 1) se_str) sa_nil)))))))))) (ss_if (sb_B (se_cb sc_isi (sa_cons (se_var 1) (sa_cons se_ty sa_nil)))) (ss_set 4 (sn_val (se_op s2_addB (se_var 4) (se_f (sf_lst (sa_cons (se_op s2_addB (se_var 1) se_int) (sa_cons (se_op s2_IB (se_var 1) se_int) (sa_cons (se_notT (se_var 1)) (sa_cons (se_cb sc_strA (sa_cons (se_var 1) sa_nil)) (sa_cons (se_un s1_negB (se_var 1)) (sa_cons (se_op s2_addB (se_op (s2_I fun _ _ h => h) se_int se_int) (se_var 1)) sa_nil))))))))))) ss_next)) (ss_ret (se_call (sa_cons (se_var 0) (sa_cons (se_var 4) sa_nil)))))) ss_next) (ss_seq (ss_par (by decide) (sn_val (se_call (sa_cons (se_var 0) (sa_cons (se_cb sc_len (sa_cons (se_var 1) sa_nil)) sa_nil)))) (sn_val (se_call (sa_cons (se_var 0) (sa_cons se_int sa_nil))))) (ss_seq (ss_if (sb_test (se_op s2_eq (se_var 3) se_int)) (ss_ret (se_op s2_addB (se_sl s3_sl (se_var 1) so_none (so_some (se_var 2))) (se_sl s3_sl (se_var 1) (so_some (se_op s2_addB (se_var 2) se_int)) so_none))) ss_next) (ss_seq (ss_if (sb_test (se_op s2_eq (se_var 3) se_int)) (ss_ret (se_op s2_addB (se_sl s3_sl (se_var 1) so_none (so_some (se_op s2_addB (se_var 2) se_int))) (se_sl s3_sl (se_var 1) (so_some (se_var 2)) so_none))) ss_next) (ss_seq (ss_if (sb_test (se_op s2_eq (se_var 3) se_int)) (ss_ret (se_revT (se_var 1))) ss_next) (ss_seq (ss_if (sb_test (se_op s2_eq (se_var 3) se_int)) (ss_ret (se_f (sf_cb sc_lstOf (sa_cons (se_var 1) sa_nil)))) ss_next) (ss_ret (se_op s2_addB (se_op s2_addB (se_sl s3_sl (se_var 1) so_none (so_some (se_var 2))) (se_tup (sa_cons (se_call (sa_cons (se_var 0) (sa_cons (se_op s2_ix (se_var 1) (se_var 2)) sa_nil))) sa_nil))) (se_sl s3_sl (se_var 1) (so_some (se_op s2_addB (se_var 2) se_int)) so_none)))))))))⟩) (fun xs Q Ex _ h => h)
theorem sc_many_spans : FnScope ["knots"] ["knots"] (defScope s_many_spans) := ⟨rfl, rfl, rfl, by decide +kernel, rfl, by decide +kernel, by decide +kernel⟩
def b_many_spans : MS := (mRet (mBin fDiv (mBin fMulA (mVar 0) (mBin fSub (mVar 0) (mC (.int 1)))) (mC (.int 2))))
def F_many_spans : List Dv → M Dv := fun xs Q Ex => b_many_spans (endM Q Ex) (startE 1 xs)
theorem d_many_spans (T : Txt K mg KE) : Df P w K mg base "many_spans" 1 ["knots"] F_many_spans :=
  df_of T.f_many_spans sc_many_spans (fun _ _ _ _ _ _ us hl => match us, hl with | [_], _ => rfl) (fun f cdv A outer s H E hr => ⟨_, (pss_one (ps_ret (pe_op op_fdivW (pe_op op_mulA (pv 0) (pe_op op_sub (pv 0) pe_int)) pe_int))), (ss_ret (se_op (s2_I fun _ _ h => h) (se_op s2_mulA (se_var 0) (se_op s2_I0 (se_var 0) se_int)) se_int))⟩) (fun xs Q Ex _ h => h)
theorem sc_is_integer : FnScope ["value", "low", "high"] ["value", "low", "high"] (defScope s_is_integer) := ⟨rfl, rfl, rfl, by decide +kernel, rfl, by decide +kernel, by decide +kernel⟩
def b_is_integer : MS := (mRet (mAndV (mCB fIsI (mCons (mVar 0) (mCons (mTy "int") mNil))) (mAndV (mNotV (mCB fIsI (mCons (mVar 0) (mCons (mTy "bool") mNil)))) (mChain fLe fLe (mVar 1) (mVar 0) (mVar 2)))))
def F_is_integer : List Dv → M Dv := fun xs Q Ex => b_is_integer (endM Q Ex) (startE 3 xs)
theorem d_is_integer (T : Txt K mg KE) : Df P w K mg base "is_integer" 1 ["value", "low", "high"] F_is_integer :=
  df_of T.f_is_integer sc_is_integer (fun _ _ _ _ _ _ us hl => match us, hl with | [_, _, _], _ => rfl) (fun f cdv A outer s H E hr => ⟨_, (pss_one (ps_ret (pe_and (pe_callB call_isi (by rfl) T.b_isinstance boot_isinstance_ (pa_cons (pv 0) (pa_cons (pe_bltn (v := .ty "int") (by rfl) T.b_int boot_int_ rfl) pa_nil))) (pe_and (pe_not (pe_callB call_isi (by rfl) T.b_isinstance boot_isinstance_ (pa_cons (pv 0) (pa_cons (pe_bltn (v := .ty "bool") (by rfl) T.b_bool boot_bool_ rfl) pa_nil)))) (pe_one (pe_chain op_le op_le (pv 1) (pv 0) (pv 2))))))), (ss_ret (se_andV (se_cb sc_isi (sa_cons (se_var 0) (sa_cons se_ty sa_nil))) (se_andV (se_notV (se_cb sc_isi (sa_cons (se_var 0) (sa_cons se_ty sa_nil)))) (se_chain s2_B0 s2_B0 (se_var 1) (se_var 0) (se_var 2)))))⟩) (fun xs Q Ex _ h => h)
def t_spans_by_1 : MS := (mExt 1 (mF (mLc (mItemsA (mSl fSl (mVar 0) mNoPart (mPart (mVar 2)))) (fName 4) mYes (mCB fAbs (mCons (mBin fSub (mVar 3) (mVar 4)) mNil)) [4])))
def t_spans_by_2 : MS := (mFreeze 1 (mRet (mCB fTupOf (mCons (mF (mCF fSortI (mCons (mVar 1) mNil))) mNil))))
def t_spans_by_3 : MS := (mSeq (mFor (mEnum (mCons (mVar 0) mNil)) (fTup2 (fName 2) (fName 3)) (t_spans_by_1)) (t_spans_by_2))
theorem sc_spans_by : FnScope ["places", "found", "at", "place", "other"] ["places"] (defScope s_spans_by) := ⟨rfl, rfl, rfl, by decide +kernel, rfl, by decide +kernel, by decide +kernel⟩
def b_spans_by : MS := (mSeq (mSet 1 (mOwn (mLst mNil))) (t_spans_by_3))
def F_spans_by : List Dv → M Dv := fun xs Q Ex => b_spans_by (endM Q Ex) (startE 5 xs)
theorem d_spans_by (T : Txt K mg KE) : Df P w K mg base "spans_by" 1 ["places"] F_spans_by :=
  df_of T.f_spans_by sc_spans_by (fun _ _ _ _ _ _ us hl => match us, hl with | [_], _ => rfl) (fun f cdv A outer s H E hr => ⟨_, (pss_cons (ps_set (i := 1) sc_spans_by.nd rfl (by first | exact Or.inl rfl | exact Or.inr rfl) (pe_lst pa_nil)) (pss_cons (ps_for (passes_of rfl) rfl (pi_enumA (by rfl) T.b_enumerate (pa_cons (pv 0) pa_nil)) (pg_tup rfl (pgs_cons (pg_name (i := 2) sc_spans_by.nd rfl (by first | exact Or.inl rfl | exact Or.inr rfl)) (pgs_cons (pg_name (i := 3) sc_spans_by.nd rfl (by first | exact Or.inl rfl | exact Or.inr rfl)) pgs_nil))) (pss_one (ps_expr (pe_bm PySem.F.plainAttrs_list PySem.F.slot_list_extend PySem.F.type_list_extend mt_extend (pv 1) (pa_cons (pe_lc (own := [("other", 4)]) rfl sc_spans_by.nd (pi_any (pe_slice sl_any (pv 0) po_none (po_some (pv 2)))) (blkOk_by (own := [("other", 4)]) (N := ["places", "found", "at", "place", "other"]) (sc := defScope s_spans_by) (by decide +kernel)) (fun _ _ _ _ _ => (pg_name (i := 4) sc_spans_by.nd rfl (by first | exact Or.inl rfl | exact Or.inr rfl))) (fun _ _ _ _ _ => pts_nil) (fun _ _ _ _ _ => (pe_callB call_abs (by rfl) T.b_abs boot_abs_ (pa_cons (pe_op op_sub (pv 3) (pv 4)) pa_nil)))) pa_nil))))) (pss_one (ps_ret (pe_callTy call_tuple_of (by rfl) T.b_tuple boot_tuple_ (pa_cons (pe_callB cr_sortedI (by rfl) T.b_sorted boot_sorted_ (pa_cons (pv 1) pa_nil)) pa_nil)))))), (ss_seq (ss_set 1 (sn_own (sf_lst sa_nil))) (ss_seq (ss_for (si_enum (sa_cons (se_var 0) sa_nil)) (st_tup2 (st_name 2) (st_name 3)) (ss_ext 1 (se_f (sf_lc (si_any (se_sl s3_sl (se_var 0) so_none (so_some (se_var 2)))) (st_name 4) (by decide) sb_yes (se_cb sc_abs (sa_cons (se_op s2_I0 (se_var 3) (se_var 4)) sa_nil)))))) (ss_freeze 1 (ss_ret (se_cb sc_tupOf (sa_cons (se_f (sf_cb sc_sortI (sa_cons (se_var 1) sa_nil))) sa_nil))))))⟩) (fun xs Q Ex _ h => h)
def t_gauge_by_1 : MS := (mRet (mVar 2))
def t_gauge_by_2 : MS := (mSeq (mWhile (mB (mBin (fIn false) (mBin fAdd (mVar 2) (mC (.int 1))) (mVar 1))) (mAug 2 fAddI (mC (.int 1)))) (t_gauge_by_1))
theorem sc_gauge_by : FnScope ["rope", "spans", "many"] ["rope"] (defScope s_gauge_by) := ⟨rfl, rfl, rfl, by decide +kernel, rfl, by decide +kernel, by decide +kernel⟩
def b_gauge_by : MS := (mSeq (mPar 1 2 (mVal (mCall F_spans_by (mCons (mVar 0) mNil))) (mVal (mC (.int 0)))) (t_gauge_by_2))
def F_gauge_by : List Dv → M Dv := fun xs Q Ex => b_gauge_by (endM Q Ex) (startE 3 xs)
theorem d_gauge_by (T : Txt K mg KE) : Df P w K mg base "gauge_by" 2 ["rope"] F_gauge_by :=
  df_of T.f_gauge_by sc_gauge_by (fun _ _ _ _ _ _ us hl => match us, hl with | [_], _ => rfl) (fun f cdv A outer s H E hr => ⟨_, (pss_cons (ps_par (i := 1) (j := 2) (by rfl) sc_gauge_by.nd rfl rfl (by decide) rfl rfl (pa_cons (pe_callD (d_spans_by T) (hr.mono (by decide)) (by rfl) (passX (L2N.takes_of rfl rfl rfl rfl)) (pa_cons (pv 0) pa_nil)) (pa_cons pe_int pa_nil)) (by rfl)) (pss_cons (ps_while (passes_of rfl) (pt_cmpR op_in_seq (pe_op op_addA (pv 2) pe_int) (pv 1) (by rfl)) (pss_one (ps_aug (i := 2) sc_gauge_by.nd rfl (by first | exact Or.inl rfl | exact Or.inr rfl) pe_int ip_add))) (pss_one (ps_ret (pv 2))))), (ss_seq (ss_par (by decide) (sn_val (se_call (sa_cons (se_var 0) sa_nil))) (sn_val se_int)) (ss_seq (ss_while (sb_test (se_op s2_in (se_op s2_add (se_var 2) se_int) (se_var 1))) (ss_aug 2 s2_ipadd se_int)) (ss_ret (se_var 2))))⟩) (fun xs Q Ex _ h => h)
def t_full_with_1 (rec : List Dv → M Dv) : MS := (mRet (mIf (mB (mBin fEq (mCall F_gauge_by (mCons (mVar 5) mNil)) (mVar 1))) (mF (mLst (mCons (mVar 5) mNil))) (mF (mLst mNil))))
def t_full_with_2 (rec : List Dv → M Dv) : MS := (mExt 3 (mCall rec (mCons (mBin fAdd (mVar 0) (mTup 1 (mCons (mVar 4) mNil))) (mCons (mVar 1) (mCons (mBin fSub (mVar 2) (mC (.int 1))) mNil)))))
def t_full_with_3 (rec : List Dv → M Dv) : MS := (mFreeze 3 (mRet (mVar 3)))
def t_full_with_4 (rec : List Dv → M Dv) : MS := (mSeq (mFor (mRng2 (mCons (mBin fAdd (mBin fIx (mVar 0) (mUn fNeg (mC (.int 1)))) (mC (.int 1))) (mCons (mVar 1) mNil))) (fName 4) (t_full_with_2 rec)) (t_full_with_3 rec))
def t_full_with_5 (rec : List Dv → M Dv) : MS := (mSeq (mSet 3 (mOwn (mLst mNil))) (t_full_with_4 rec))
theorem sc_full_with : FnScope ["places", "last", "knots", "found", "place", "rope"] ["places", "last", "knots"] (defScope s_full_with) := ⟨rfl, rfl, rfl, by decide +kernel, rfl, by decide +kernel, by decide +kernel⟩
def b_full_with (rec : List Dv → M Dv) : MS := (mSeq (mIfS (mB (mBin fEq (mVar 2) (mC (.int 1)))) (mSeq (mSet 5 (mVal (mBin fAdd (mVar 0) (mTup 1 (mCons (mVar 1) mNil))))) (t_full_with_1 rec)) mNext) (t_full_with_5 rec))
def F_full_with : Nat → List Dv → M Dv
  | 0 => fun _ _ _ => False
  | n + 1 => fun xs Q Ex => b_full_with (F_full_with n) (endM Q Ex) (startE 6 xs)
theorem d_full_with (T : Txt K mg KE) : ∀ n : Nat, Df P w K mg base "full_with" (3 + n) ["places", "last", "knots"] (F_full_with n)
  | 0 => df_no T.f_full_with sc_full_with (fun _ _ _ _ _ _ us hl => match us, hl with | [_, _, _], _ => rfl)
  | n + 1 => by
    have IH := d_full_with T n
    exact df_of T.f_full_with sc_full_with (fun _ _ _ _ _ _ us hl => match us, hl with | [_, _, _], _ => rfl) (fun f cdv A outer s H E hr => ⟨_, (pss_cons (ps_if (pt_cmpR (op_eqD (Room.units hr)) (pv 2) pe_int (nomark _)) (pss_cons (ps_set (i := 5) sc_full_with.nd rfl (by first | exact Or.inl rfl | exact Or.inr rfl) (pe_op op_addA (pv 0) (pe_tup (pa_cons (pv 1) pa_nil)))) (pss_one (ps_ret (pe_ifExp (pt_cmpR (op_eqD (Room.units hr)) (pe_callD (d_gauge_by T) (hr.mono (by first | exact Nat.le_refl _ | exact Nat.le_trans (by decide) (Nat.le_add_right _ _))) (by rfl) (passX (L2N.takes_of rfl rfl rfl rfl)) (pa_cons (pv 5) pa_nil)) (pv 1) (nomark _)) (pe_lst (pa_cons (pv 5) pa_nil)) (pe_lst pa_nil))))) pss_nil) (pss_cons (ps_set (i := 3) sc_full_with.nd rfl (by first | exact Or.inl rfl | exact Or.inr rfl) (pe_lst pa_nil)) (pss_cons (ps_for (passes_of rfl) rfl (pi_range2 (by rfl) T.b_range (pa_cons (pe_op op_addA (pe_ix ix_seq (pv 0) (pe_un un_neg pe_int) (fun _ _ => rfl)) pe_int) (pa_cons (pv 1) pa_nil))) (pg_name (i := 4) sc_full_with.nd rfl (by first | exact Or.inl rfl | exact Or.inr rfl)) (pss_one (ps_expr (pe_bm PySem.F.plainAttrs_list PySem.F.slot_list_extend PySem.F.type_list_extend mt_extend (pv 3) (pa_cons (pe_callD IH (hr.mono (by first | exact Nat.le_refl _ | exact Nat.le_trans (by decide) (Nat.le_add_right _ _))) (by rfl) (passX (L2N.takes_of rfl rfl rfl rfl)) (pa_cons (pe_op op_addA (pv 0) (pe_tup (pa_cons (pv 4) pa_nil))) (pa_cons (pv 1) (pa_cons (pe_op op_sub (pv 2) pe_int) pa_nil)))) pa_nil))))) (pss_one (ps_ret (pv 3)))))), (ss_seq (ss_if (sb_test (se_op s2_eq (se_var 2) se_int)) (ss_seq (ss_set 5 (sn_val (se_op s2_add (se_var 0) (se_tup (sa_cons (se_var 1) sa_nil))))) (ss_ret (se_if (sb_test (se_op s2_eq (se_call (sa_cons (se_var 5) sa_nil)) (se_var 1))) (se_f (sf_lst (sa_cons (se_var 5) sa_nil))) (se_f (sf_lst sa_nil))))) ss_next) (ss_seq (ss_set 3 (sn_own (sf_lst sa_nil))) (ss_seq (ss_for (si_rng2 (sa_cons (se_op s2_add (se_op s2_ix (se_var 0) (se_un s1_neg se_int)) se_int) (sa_cons (se_var 1) sa_nil))) (st_name 4) (ss_ext 3 (se_call (sa_cons (se_op s2_add (se_var 0) (se_tup (sa_cons (se_var 4) sa_nil))) (sa_cons (se_var 1) (sa_cons (se_op s2_I0 (se_var 2) se_int) sa_nil)))))) (ss_freeze 3 (ss_ret (se_var 3))))))⟩) (fun xs Q Ex _ h => h)
def t_full_gauges_1 : MS := (mRet (mTup 2 (mCons (mVar 1) (mCons (mCall (F_full_with 6) (mCons (mTup 1 (mCons (mC (.int 0)) mNil)) (mCons (mVar 1) (mCons (mBin fSub (mVar 0) (mC (.int 1))) mNil)))) mNil))))
def t_full_gauges_2 : MS := (mSeq (mWhile (mB (mBin fEq (mCall (F_full_with 6) (mCons (mTup 1 (mCons (mC (.int 0)) mNil)) (mCons (mVar 1) (mCons (mBin fSub (mVar 0) (mC (.int 1))) mNil)))) (mF (mLst mNil)))) (mAug 1 fSub (mC (.int 1)))) (t_full_gauges_1))
def t_full_gauges_3 : MS := (mSeq (mSet 1 (mVal (mCall F_many_spans (mCons (mVar 0) mNil)))) (t_full_gauges_2))
theorem sc_full_gauges : FnScope ["many", "last"] ["many"] (defScope s_full_gauges) := ⟨rfl, rfl, rfl, by decide +kernel, rfl, by decide +kernel, by decide +kernel⟩
def b_full_gauges : MS := (mSeq (mIfS (mNot (mB (mCall F_is_integer (mCons (mVar 0) (mCons (mC (.int 2)) (mCons (mC (.int (6))) mNil)))))) (mRaise ⟨"InvalidNumber", none⟩) mNext) (t_full_gauges_3))
def F_full_gauges : List Dv → M Dv := fun xs Q Ex => b_full_gauges (endM Q Ex) (startE 2 xs)
theorem d_full_gauges (T : Txt K mg KE) : Df P w K mg base "full_gauges" 10 ["many"] F_full_gauges :=
  df_of T.f_full_gauges sc_full_gauges (fun _ _ _ _ _ _ us hl => match us, hl with | [_], _ => rfl) (fun f cdv A outer s H E hr => ⟨_, (pss_cons (ps_if (pt_not (pt_val (pe_callD (d_is_integer T) (hr.mono (by decide)) (by rfl) (passX (L2N.takes_of rfl rfl rfl rfl)) (pa_cons (pv 0) (pa_cons pe_int (pa_cons (pe_gint (by rfl) T.c_MOST_FULL) pa_nil)))))) (pss_one (ps_raiseD T.x_InvalidNumber rfl (L2N.takes_of rfl rfl rfl rfl) (by rfl))) pss_nil) (pss_cons (ps_set (i := 1) sc_full_gauges.nd rfl (by first | exact Or.inl rfl | exact Or.inr rfl) (pe_callD (d_many_spans T) (hr.mono (by decide)) (by rfl) (passX (L2N.takes_of rfl rfl rfl rfl)) (pa_cons (pv 0) pa_nil))) (pss_cons (ps_while (passes_of rfl) (pt_cmpR (op_eqD (Room.units hr)) (pe_callD (d_full_with T 6) (hr.mono (by decide)) (by rfl) (passX (L2N.takes_of rfl rfl rfl rfl)) (pa_cons (pe_tup (pa_cons pe_int pa_nil)) (pa_cons (pv 1) (pa_cons (pe_op op_sub (pv 0) pe_int) pa_nil)))) (pe_lst pa_nil) (nomark _)) (pss_one (ps_aug (i := 1) sc_full_gauges.nd rfl (by first | exact Or.inl rfl | exact Or.inr rfl) pe_int ip_sub))) (pss_one (ps_ret (pe_tup (pa_cons (pv 1) (pa_cons (pe_callD (d_full_with T 6) (hr.mono (by decide)) (by rfl) (passX (L2N.takes_of rfl rfl rfl rfl)) (pa_cons (pe_tup (pa_cons pe_int pa_nil)) (pa_cons (pv 1) (pa_cons (pe_op op_sub (pv 0) pe_int) pa_nil)))) pa_nil)))))))), (ss_seq (ss_if (sb_not (sb_B (se_call (sa_cons (se_var 0) (sa_cons se_int (sa_cons se_int sa_nil)))))) (ss_raise T.x_InvalidNumber) ss_next) (ss_seq (ss_set 1 (sn_val (se_call (sa_cons (se_var 0) sa_nil)))) (ss_seq (ss_while (sb_test (se_op s2_eq (se_call (sa_cons (se_tup (sa_cons se_int sa_nil)) (sa_cons (se_var 1) (sa_cons (se_op s2_I0 (se_var 0) se_int) sa_nil)))) (se_f (sf_lst sa_nil)))) (ss_aug 1 s2_ipsub se_int)) (ss_ret (se_tup (sa_cons (se_var 1) (sa_cons (se_call (sa_cons (se_tup (sa_cons se_int sa_nil)) (sa_cons (se_var 1) (sa_cons (se_op s2_I0 (se_var 0) se_int) sa_nil)))) sa_nil)))))))⟩) (fun xs Q Ex _ h => h)
theorem sc_law_turned : FnScope ["rope", "place"] ["rope"] (defScope s_law_turned) := ⟨rfl, rfl, rfl, by decide +kernel, rfl, by decide +kernel, by decide +kernel⟩
def b_law_turned : MS := (mRet (mCB fTupOf (mCons (mF (mCF fSortI (mCons (mF (mLc (mItemsA (mVar 0)) (fName 1) mYes (mBin fSub (mBin fIx (mVar 0) (mUn fNeg (mC (.int 1)))) (mVar 1)) [1])) mNil))) mNil)))
def F_law_turned : List Dv → M Dv := fun xs Q Ex => b_law_turned (endM Q Ex) (startE 2 xs)
theorem d_law_turned (T : Txt K mg KE) : Df P w K mg base "_law_turned" 1 ["rope"] F_law_turned :=
  df_of T.f_law_turned sc_law_turned (fun _ _ _ _ _ _ us hl => match us, hl with | [_], _ => rfl) (fun f cdv A outer s H E hr => ⟨_, (pss_one (ps_ret (pe_callTy call_tuple_of (by rfl) T.b_tuple boot_tuple_ (pa_cons (pe_callB cr_sortedI (by rfl) T.b_sorted boot_sorted_ (pa_cons (pe_lc (own := [("place", 1)]) rfl sc_law_turned.nd (pi_any (pv 0)) (blkOk_by (own := [("place", 1)]) (N := ["rope", "place"]) (sc := defScope s_law_turned) (by decide +kernel)) (fun _ _ _ _ _ => (pg_name (i := 1) sc_law_turned.nd rfl (by first | exact Or.inl rfl | exact Or.inr rfl))) (fun _ _ _ _ _ => pts_nil) (fun _ _ _ _ _ => (pe_op op_sub (pe_ix ix_seq (pv 0) (pe_un un_neg pe_int) (fun _ _ => rfl)) (pv 1)))) pa_nil)) pa_nil)))), (ss_ret (se_cb sc_tupOf (sa_cons (se_f (sf_cb sc_sortI (sa_cons (se_f (sf_lc (si_any (se_var 0)) (st_name 1) (by decide) sb_yes (se_op s2_I0 (se_op s2_ix (se_var 0) (se_un s1_neg se_int)) (se_var 1)))) sa_nil))) sa_nil)))⟩) (fun xs Q Ex _ h => h)
theorem sc_rises : FnScope ["numbers", "least", "sooner", "later"] ["numbers", "least"] (defScope s_rises) := ⟨rfl, rfl, rfl, by decide +kernel, rfl, by decide +kernel, by decide +kernel⟩
def b_rises : MS := (mRet (mCB fAll (mCons (mF (mLc (mZip (mCons (mVar 0) (mCons (mSl fSl (mVar 0) (mPart (mC (.int 1))) mNoPart) mNil))) (fTup2 (fName 2) (fName 3)) mYes (mBin fGe (mBin fSub (mVar 3) (mVar 2)) (mVar 1)) [2, 3])) mNil)))
def F_rises : List Dv → M Dv := fun xs Q Ex => b_rises (endM Q Ex) (startE 4 xs)
theorem d_rises (T : Txt K mg KE) : Df P w K mg base "rises" 1 ["numbers", "least"] F_rises :=
  df_of T.f_rises sc_rises (fun _ _ _ _ _ _ us hl => match us, hl with | [_, _], _ => rfl) (fun f cdv A outer s H E hr => ⟨_, (pss_one (ps_ret (pe_callB (cr_all rfl) (by rfl) T.b_all boot_all_ (pa_cons (pe_lc (own := [("sooner", 2), ("later", 3)]) rfl sc_rises.nd (RZ.pi_zipA (by rfl) T.b_zip (pa_cons (pv 0) (pa_cons (pe_slice sl_any (pv 0) (po_some pe_int) po_none) pa_nil))) (blkOk_by (own := [("sooner", 2), ("later", 3)]) (N := ["numbers", "least", "sooner", "later"]) (sc := defScope s_rises) (by decide +kernel)) (fun _ _ _ _ _ => (pg_tup rfl (pgs_cons (pg_name (i := 2) sc_rises.nd rfl (by first | exact Or.inl rfl | exact Or.inr rfl)) (pgs_cons (pg_name (i := 3) sc_rises.nd rfl (by first | exact Or.inl rfl | exact Or.inr rfl)) pgs_nil)))) (fun _ _ _ _ _ => pts_nil) (fun _ _ _ _ _ => (pe_cmpR op_ge (pe_op op_sub (pv 3) (pv 2)) (pv 1) (nomark _)))) pa_nil)))), (ss_ret (se_cb sc_all (sa_cons (se_f (sf_lc (si_zip (sa_cons (se_var 0) (sa_cons (se_sl s3_sl (se_var 0) (so_some se_int) so_none) sa_nil))) (st_tup2 (st_name 2) (st_name 3)) (by decide) sb_yes (se_op s2_B0 (se_op s2_I0 (se_var 3) (se_var 2)) (se_var 1)))) sa_nil)))⟩) (fun xs Q Ex _ h => h)
theorem sc_are_numbers : FnScope ["value", "low", "high", "number"] ["value", "low", "high"] (defScope s_are_numbers) := ⟨rfl, rfl, rfl, by decide +kernel, rfl, by decide +kernel, by decide +kernel⟩
def b_are_numbers : MS := (mRet (mAndV (mCB fIsI (mCons (mVar 0) (mCons (mTy "tuple") mNil))) (mCB fAll (mCons (mF (mLc (mItemsA (mVar 0)) (fName 3) mYes (mCall F_is_integer (mCons (mVar 3) (mCons (mVar 1) (mCons (mVar 2) mNil)))) [3])) mNil))))
def F_are_numbers : List Dv → M Dv := fun xs Q Ex => b_are_numbers (endM Q Ex) (startE 4 xs)
theorem d_are_numbers (T : Txt K mg KE) : Df P w K mg base "are_numbers" 2 ["value", "low", "high"] F_are_numbers :=
  df_of T.f_are_numbers sc_are_numbers (fun _ _ _ _ _ _ us hl => match us, hl with | [_, _, _], _ => rfl) (fun f cdv A outer s H E hr => ⟨_, (pss_one (ps_ret (pe_and (pe_callB call_isi (by rfl) T.b_isinstance boot_isinstance_ (pa_cons (pv 0) (pa_cons (pe_bltn (v := .ty "tuple") (by rfl) T.b_tuple boot_tuple_ rfl) pa_nil))) (pe_one (pe_callB (cr_all rfl) (by rfl) T.b_all boot_all_ (pa_cons (pe_lc (own := [("number", 3)]) rfl sc_are_numbers.nd (pi_any (pv 0)) (blkOk_by (own := [("number", 3)]) (N := ["value", "low", "high", "number"]) (sc := defScope s_are_numbers) (by decide +kernel)) (fun _ _ _ _ _ => (pg_name (i := 3) sc_are_numbers.nd rfl (by first | exact Or.inl rfl | exact Or.inr rfl))) (fun _ _ _ _ _ => pts_nil) (fun _ _ _ _ _ => (pe_callD (d_is_integer T) (hr.mono (by decide)) (by rfl) passN (pa_cons (pv 3) (pa_cons (pv 1) (pa_cons (pv 2) pa_nil)))))) pa_nil)))))), (ss_ret (se_andV (se_cb sc_isi (sa_cons (se_var 0) (sa_cons se_ty sa_nil))) (se_cb sc_all (sa_cons (se_f (sf_lc (si_any (se_var 0)) (st_name 3) (by decide) sb_yes (se_call (sa_cons (se_var 3) (sa_cons (se_var 1) (sa_cons (se_var 2) sa_nil)))))) sa_nil))))⟩) (fun xs Q Ex _ h => h)
def t_is_rope_1 : MS := (mRet (mAndV (mBin fEq (mBin fIx (mVar 0) (mC (.int 0))) (mC (.int 0))) (mCall F_rises (mCons (mVar 0) (mCons (mC (.int 1)) mNil)))))
theorem sc_is_rope : FnScope ["value"] ["value"] (defScope s_is_rope) := ⟨rfl, rfl, rfl, by decide +kernel, rfl, by decide +kernel, by decide +kernel⟩
def b_is_rope : MS := (mSeq (mIfS (mOr (mNot (mB (mCall F_are_numbers (mCons (mVar 0) (mCons (mC (.int 0)) (mCons (mC (.int (1000000000000000000000000000000))) mNil)))))) (mNot (mB (mChain fLe fLe (mC (.int 2)) (mCB fLen (mCons (mVar 0) mNil)) (mC (.int (9))))))) (mRet (mC (.bool false))) mNext) (t_is_rope_1))
def F_is_rope : List Dv → M Dv := fun xs Q Ex => b_is_rope (endM Q Ex) (startE 1 xs)
theorem d_is_rope (T : Txt K mg KE) : Df P w K mg base "is_rope" 3 ["value"] F_is_rope :=
  df_of T.f_is_rope sc_is_rope (fun _ _ _ _ _ _ us hl => match us, hl with | [_], _ => rfl) (fun f cdv A outer s H E hr => ⟨_, (pss_cons (ps_if (PW.pt (pw_or (pt_not (pt_val (pe_callD (d_are_numbers T) (hr.mono (by decide)) (by rfl) (passX (L2N.takes_of rfl rfl rfl rfl)) (pa_cons (pv 0) (pa_cons pe_int (pa_cons (pe_gint (by rfl) T.c_GREAT) pa_nil)))))) (pw_or1 (pt_not (pt_chain op_le op_le pe_int (pe_callB call_len (by rfl) T.b_len boot_len_ (pa_cons (pv 0) pa_nil)) (pe_gint (by rfl) T.c_MOST_KNOTS)))))) (pss_one (ps_ret pe_bl)) pss_nil) (pss_one (ps_ret (pe_and (pe_cmpR (op_eqD (Room.units hr)) (pe_ix ix_seq (pv 0) pe_int (fun _ _ => rfl)) pe_int (nomark _)) (pe_one (pe_callD (d_rises T) (hr.mono (by decide)) (by rfl) (passX (L2N.takes_of rfl rfl rfl rfl)) (pa_cons (pv 0) (pa_cons pe_int pa_nil)))))))), (ss_seq (ss_if (sb_or (sb_not (sb_B (se_call (sa_cons (se_var 0) (sa_cons se_int (sa_cons se_int sa_nil)))))) (sb_not (sb_test (se_chain s2_B0 s2_B0 se_int (se_cb sc_len (sa_cons (se_var 0) sa_nil)) se_int)))) (ss_ret se_bl) ss_next) (ss_ret (se_andV (se_op s2_eq (se_op s2_ix (se_var 0) se_int) se_int) (se_call (sa_cons (se_var 0) (sa_cons se_int sa_nil))))))⟩) (fun xs Q Ex _ h => h)
theorem sc_need_rope : FnScope ["value"] ["value"] (defScope s_need_rope) := ⟨rfl, rfl, rfl, by decide +kernel, rfl, by decide +kernel, by decide +kernel⟩
def b_need_rope : MS := (mIfS (mNot (mB (mCall F_is_rope (mCons (mVar 0) mNil)))) (mRaise ⟨"InvalidRope", none⟩) mNext)
def F_need_rope : List Dv → M Dv := fun xs Q Ex => b_need_rope (endM Q Ex) (startE 1 xs)
theorem d_need_rope (T : Txt K mg KE) : Df P w K mg base "need_rope" 4 ["value"] F_need_rope :=
  df_of T.f_need_rope sc_need_rope (fun _ _ _ _ _ _ us hl => match us, hl with | [_], _ => rfl) (fun f cdv A outer s H E hr => ⟨_, (pss_one (ps_if (pt_not (pt_val (pe_callD (d_is_rope T) (hr.mono (by decide)) (by rfl) (passX (L2N.takes_of rfl rfl rfl rfl)) (pa_cons (pv 0) pa_nil)))) (pss_one (ps_raiseD T.x_InvalidRope rfl (L2N.takes_of rfl rfl rfl rfl) (by rfl))) pss_nil)), (ss_if (sb_not (sb_B (se_call (sa_cons (se_var 0) sa_nil)))) (ss_raise T.x_InvalidRope) ss_next)⟩) (fun xs Q Ex _ h => h)
def t_gauge_1 : MS := (mRet (mCall F_gauge_by (mCons (mVar 0) mNil)))
theorem sc_gauge : FnScope ["rope"] ["rope"] (defScope s_gauge) := ⟨rfl, rfl, rfl, by decide +kernel, rfl, by decide +kernel, by decide +kernel⟩
def b_gauge : MS := (mSeq (mDrop (mCall F_need_rope (mCons (mVar 0) mNil))) (t_gauge_1))
def F_gauge : List Dv → M Dv := fun xs Q Ex => b_gauge (endM Q Ex) (startE 1 xs)
theorem d_gauge (T : Txt K mg KE) : Df P w K mg base "gauge" 5 ["rope"] F_gauge :=
  df_of T.f_gauge sc_gauge (fun _ _ _ _ _ _ us hl => match us, hl with | [_], _ => rfl) (fun f cdv A outer s H E hr => ⟨_, (pss_cons (ps_expr (pe_callD (d_need_rope T) (hr.mono (by decide)) (by rfl) (passX (L2N.takes_of rfl rfl rfl rfl)) (pa_cons (pv 0) pa_nil))) (pss_one (ps_ret (pe_callD (d_gauge_by T) (hr.mono (by decide)) (by rfl) (passX (L2N.takes_of rfl rfl rfl rfl)) (pa_cons (pv 0) pa_nil))))), (ss_seq (ss_drop (se_call (sa_cons (se_var 0) sa_nil))) (ss_ret (se_call (sa_cons (se_var 0) sa_nil))))⟩) (fun xs Q Ex _ h => h)
theorem sc_law_whole : FnScope ["value", "low", "high"] ["value", "low", "high"] (defScope s_law_whole) := ⟨rfl, rfl, rfl, by decide +kernel, rfl, by decide +kernel, by decide +kernel⟩
def b_law_whole : MS := (mRet (mAndV (mCB fIsI (mCons (mVar 0) (mCons (mTy "int") mNil))) (mAndV (mNotV (mCB fIsI (mCons (mVar 0) (mCons (mTy "bool") mNil)))) (mChain fLe fLe (mVar 1) (mVar 0) (mVar 2)))))
def F_law_whole : List Dv → M Dv := fun xs Q Ex => b_law_whole (endM Q Ex) (startE 3 xs)
theorem d_law_whole (T : Txt K mg KE) : Df P w K mg base "_law_whole" 1 ["value", "low", "high"] F_law_whole :=
  df_of T.f_law_whole sc_law_whole (fun _ _ _ _ _ _ us hl => match us, hl with | [_, _, _], _ => rfl) (fun f cdv A outer s H E hr => ⟨_, (pss_one (ps_ret (pe_and (pe_callB call_isi (by rfl) T.b_isinstance boot_isinstance_ (pa_cons (pv 0) (pa_cons (pe_bltn (v := .ty "int") (by rfl) T.b_int boot_int_ rfl) pa_nil))) (pe_and (pe_not (pe_callB call_isi (by rfl) T.b_isinstance boot_isinstance_ (pa_cons (pv 0) (pa_cons (pe_bltn (v := .ty "bool") (by rfl) T.b_bool boot_bool_ rfl) pa_nil)))) (pe_one (pe_chain op_le op_le (pv 1) (pv 0) (pv 2))))))), (ss_ret (se_andV (se_cb sc_isi (sa_cons (se_var 0) (sa_cons se_ty sa_nil))) (se_andV (se_notV (se_cb sc_isi (sa_cons (se_var 0) (sa_cons se_ty sa_nil)))) (se_chain s2_B0 s2_B0 (se_var 1) (se_var 0) (se_var 2)))))⟩) (fun xs Q Ex _ h => h)
def t_law_row_1 : MS := (mRet (mBin fEq (mF (mLc (mRng2 (mCons (mC (.int 1)) (mCons (mCB fLen (mCons (mVar 0) mNil)) mNil))) (fName 4) (mB (mBin fLt (mBin fSub (mBin fIx (mVar 0) (mVar 4)) (mBin fIx (mVar 0) (mBin fSub (mVar 4) (mC (.int 1))))) (mVar 3))) (mVar 4) [4])) (mF (mLst mNil))))
theorem sc_law_row : FnScope ["value", "low", "high", "least", "at", "one"] ["value", "low", "high", "least"] (defScope s_law_row) := ⟨rfl, rfl, rfl, by decide +kernel, rfl, by decide +kernel, by decide +kernel⟩
def b_law_row : MS := (mSeq (mIfS (mOr (mNot (mB (mCB fIsI (mCons (mVar 0) (mCons (mTy "tuple") mNil))))) (mB (mBin fNe (mF (mLc (mItemsA (mVar 0)) (fName 5) (mNot (mB (mCall F_law_whole (mCons (mVar 5) (mCons (mVar 1) (mCons (mVar 2) mNil)))))) (mVar 5) [5])) (mF (mLst mNil))))) (mRet (mC (.bool false))) mNext) (t_law_row_1))
def F_law_row : List Dv → M Dv := fun xs Q Ex => b_law_row (endM Q Ex) (startE 6 xs)
theorem d_law_row (T : Txt K mg KE) : Df P w K mg base "_law_row" 2 ["value", "low", "high", "least"] F_law_row :=
  df_of T.f_law_row sc_law_row (fun _ _ _ _ _ _ us hl => match us, hl with | [_, _, _, _], _ => rfl) (fun f cdv A outer s H E hr => ⟨_, (pss_cons (ps_if (PW.pt (pw_or (pt_not (pt_val (pe_callB call_isi (by rfl) T.b_isinstance boot_isinstance_ (pa_cons (pv 0) (pa_cons (pe_bltn (v := .ty "tuple") (by rfl) T.b_tuple boot_tuple_ rfl) pa_nil))))) (pw_or1 (pt_cmpR (op_neD (Room.units hr)) (pe_lc (own := [("one", 5)]) rfl sc_law_row.nd (pi_any (pv 0)) (blkOk_by (own := [("one", 5)]) (N := ["value", "low", "high", "least", "at", "one"]) (sc := defScope s_law_row) (by decide +kernel)) (fun _ _ _ _ _ => (pg_name (i := 5) sc_law_row.nd rfl (by first | exact Or.inl rfl | exact Or.inr rfl))) (fun _ _ _ _ _ => (pts_one (pt_not (pt_val (pe_callD (d_law_whole T) (hr.mono (by decide)) (by rfl) passN (pa_cons (pv 5) (pa_cons (pv 1) (pa_cons (pv 2) pa_nil)))))))) (fun _ _ _ _ _ => (pv 5))) (pe_lst pa_nil) (nomark _))))) (pss_one (ps_ret pe_bl)) pss_nil) (pss_one (ps_ret (pe_cmpR (op_eqD (Room.units hr)) (pe_lc (own := [("at", 4)]) rfl sc_law_row.nd (pi_range2 (by rfl) T.b_range (pa_cons pe_int (pa_cons (pe_callB call_len (by rfl) T.b_len boot_len_ (pa_cons (pv 0) pa_nil)) pa_nil))) (blkOk_by (own := [("at", 4)]) (N := ["value", "low", "high", "least", "at", "one"]) (sc := defScope s_law_row) (by decide +kernel)) (fun _ _ _ _ _ => (pg_name (i := 4) sc_law_row.nd rfl (by first | exact Or.inl rfl | exact Or.inr rfl))) (fun _ _ _ _ _ => (pts_one (pt_cmpR op_lt (pe_op op_sub (pe_ix ix_seq (pv 0) (pv 4) (fun _ _ => rfl)) (pe_ix ix_seq (pv 0) (pe_op op_sub (pv 4) pe_int) (fun _ _ => rfl))) (pv 3) (nomark _)))) (fun _ _ _ _ _ => (pv 4))) (pe_lst pa_nil) (nomark _))))), (ss_seq (ss_if (sb_or (sb_not (sb_B (se_cb sc_isi (sa_cons (se_var 0) (sa_cons se_ty sa_nil))))) (sb_test (se_op s2_ne (se_f (sf_lc (si_any (se_var 0)) (st_name 5) (by decide) (sb_not (sb_B (se_call (sa_cons (se_var 5) (sa_cons (se_var 1) (sa_cons (se_var 2) sa_nil)))))) (se_var 5))) (se_f (sf_lst sa_nil))))) (ss_ret se_bl) ss_next) (ss_ret (se_op s2_eq (se_f (sf_lc (si_rng2 (sa_cons se_int (sa_cons (se_cb sc_len (sa_cons (se_var 0) sa_nil)) sa_nil))) (st_name 4) (by decide) (sb_test (se_op s2_B0 (se_op s2_I0 (se_op s2_ix (se_var 0) (se_var 4)) (se_op s2_ix (se_var 0) (se_op s2_I0 (se_var 4) se_int))) (se_var 3))) (se_var 4))) (se_f (sf_lst sa_nil)))))⟩) (fun xs Q Ex _ h => h)
theorem sc_law_good_rope : FnScope ["value"] ["value"] (defScope s_law_good_rope) := ⟨rfl, rfl, rfl, by decide +kernel, rfl, by decide +kernel, by decide +kernel⟩
def b_law_good_rope : MS := (mRet (mAndV (mCall F_law_row (mCons (mVar 0) (mCons (mC (.int 0)) (mCons (mBin fPow (mC (.int 10)) (mC (.int 30))) (mCons (mC (.int 1)) mNil))))) (mAndV (mChain fLe fLe (mC (.int 2)) (mCB fLen (mCons (mVar 0) mNil)) (mC (.int 9))) (mBin fEq (mBin fIx (mVar 0) (mC (.int 0))) (mC (.int 0))))))
def F_law_good_rope : List Dv → M Dv := fun xs Q Ex => b_law_good_rope (endM Q Ex) (startE 1 xs)
theorem d_law_good_rope (T : Txt K mg KE) : Df P w K mg base "_law_good_rope" 3 ["value"] F_law_good_rope :=
  df_of T.f_law_good_rope sc_law_good_rope (fun _ _ _ _ _ _ us hl => match us, hl with | [_], _ => rfl) (fun f cdv A outer s H E hr => ⟨_, (pss_one (ps_ret (pe_and (pe_callD (d_law_row T) (hr.mono (by decide)) (by rfl) (passX (L2N.takes_of rfl rfl rfl rfl)) (pa_cons (pv 0) (pa_cons pe_int (pa_cons (pe_op op_pow pe_int pe_int) (pa_cons pe_int pa_nil))))) (pe_and (pe_chain op_le op_le pe_int (pe_callB call_len (by rfl) T.b_len boot_len_ (pa_cons (pv 0) pa_nil)) pe_int) (pe_one (pe_cmpR (op_eqD (Room.units hr)) (pe_ix ix_seq (pv 0) pe_int (fun _ _ => rfl)) pe_int (nomark _))))))), (ss_ret (se_andV (se_call (sa_cons (se_var 0) (sa_cons se_int (sa_cons (se_op (s2_I fun _ _ h => h) se_int se_int) (sa_cons se_int sa_nil))))) (se_andV (se_chain s2_B0 s2_B0 se_int (se_cb sc_len (sa_cons (se_var 0) sa_nil)) se_int) (se_op s2_eq (se_op s2_ix (se_var 0) se_int) se_int))))⟩) (fun xs Q Ex _ h => h)
def t_law_all_1 : MS := (mSet 4 (mVal (mBin fAdd (mVar 4) (mF (mLc (mRng2 (mCons (mBin fAdd (mBin fIx (mVar 5) (mUn fNeg (mC (.int 1)))) (mC (.int 1))) (mCons (mVar 1) mNil))) (fName 6) mYes (mBin fAdd (mVar 5) (mTup 1 (mCons (mVar 6) mNil))) [6])))))
def t_law_all_2 : MS := (mSet 2 (mVal (mVar 4)))
def t_law_all_3 : MS := (mSeq (mFor (mItemsA (mVar 2)) (fName 5) (t_law_all_1)) (t_law_all_2))
def t_law_all_4 : MS := (mSeq (mSet 4 (mVal (mF (mLst mNil)))) (t_law_all_3))
def t_law_all_5 : MS := (mRet (mF (mLc (mItemsA (mVar 2)) (fName 5) mYes (mBin fAdd (mVar 5) (mTup 1 (mCons (mVar 1) mNil))) [5])))
def t_law_all_6 : MS := (mSeq (mFor (mRng1 (mCons (mBin fSub (mVar 0) (mC (.int 2))) mNil)) (fName 3) (t_law_all_4)) (t_law_all_5))
theorem sc_law_all : FnScope ["many", "last", "found", "turn", "longer", "row", "place"] ["many", "last"] (defScope s_law_all) := ⟨rfl, rfl, rfl, by decide +kernel, rfl, by decide +kernel, by decide +kernel⟩
def b_law_all : MS := (mSeq (mSet 2 (mVal (mF (mLst (mCons (mTup 1 (mCons (mC (.int 0)) mNil)) mNil))))) (t_law_all_6))
def F_law_all : List Dv → M Dv := fun xs Q Ex => b_law_all (endM Q Ex) (startE 7 xs)
theorem d_law_all (T : Txt K mg KE) : Df P w K mg base "_law_all" 1 ["many", "last"] F_law_all :=
  df_of T.f_law_all sc_law_all (fun _ _ _ _ _ _ us hl => match us, hl with | [_, _], _ => rfl) (fun f cdv A outer s H E hr => ⟨_, (pss_cons (ps_set (i := 2) sc_law_all.nd rfl (by first | exact Or.inl rfl | exact Or.inr rfl) (pe_lst (pa_cons (pe_tup (pa_cons pe_int pa_nil)) pa_nil))) (pss_cons (ps_for (passes_of rfl) rfl (pi_range1 (by rfl) T.b_range (pa_cons (pe_op op_sub (pv 0) pe_int) pa_nil)) (pg_name (i := 3) sc_law_all.nd rfl (by first | exact Or.inl rfl | exact Or.inr rfl)) (pss_cons (ps_set (i := 4) sc_law_all.nd rfl (by first | exact Or.inl rfl | exact Or.inr rfl) (pe_lst pa_nil)) (pss_cons (ps_for (passes_of rfl) rfl (pi_any (pv 2)) (pg_name (i := 5) sc_law_all.nd rfl (by first | exact Or.inl rfl | exact Or.inr rfl)) (pss_one (ps_set (i := 4) sc_law_all.nd rfl (by first | exact Or.inl rfl | exact Or.inr rfl) (pe_op op_addA (pv 4) (pe_lc (own := [("place", 6)]) rfl sc_law_all.nd (pi_range2 (by rfl) T.b_range (pa_cons (pe_op op_addA (pe_ix ix_seq (pv 5) (pe_un un_neg pe_int) (fun _ _ => rfl)) pe_int) (pa_cons (pv 1) pa_nil))) (blkOk_by (own := [("place", 6)]) (N := ["many", "last", "found", "turn", "longer", "row", "place"]) (sc := defScope s_law_all) (by decide +kernel)) (fun _ _ _ _ _ => (pg_name (i := 6) sc_law_all.nd rfl (by first | exact Or.inl rfl | exact Or.inr rfl))) (fun _ _ _ _ _ => pts_nil) (fun _ _ _ _ _ => (pe_op op_addA (pv 5) (pe_tup (pa_cons (pv 6) pa_nil))))))))) (pss_one (ps_set (i := 2) sc_law_all.nd rfl (by first | exact Or.inl rfl | exact Or.inr rfl) (pv 4)))))) (pss_one (ps_ret (pe_lc (own := [("row", 5)]) rfl sc_law_all.nd (pi_any (pv 2)) (blkOk_by (own := [("row", 5)]) (N := ["many", "last", "found", "turn", "longer", "row", "place"]) (sc := defScope s_law_all) (by decide +kernel)) (fun _ _ _ _ _ => (pg_name (i := 5) sc_law_all.nd rfl (by first | exact Or.inl rfl | exact Or.inr rfl))) (fun _ _ _ _ _ => pts_nil) (fun _ _ _ _ _ => (pe_op op_addA (pv 5) (pe_tup (pa_cons (pv 1) pa_nil))))))))), (ss_seq (ss_set 2 (sn_val (se_f (sf_lst (sa_cons (se_tup (sa_cons se_int sa_nil)) sa_nil))))) (ss_seq (ss_for (si_rng1 (sa_cons (se_op s2_I0 (se_var 0) se_int) sa_nil)) (st_name 3) (ss_seq (ss_set 4 (sn_val (se_f (sf_lst sa_nil)))) (ss_seq (ss_for (si_any (se_var 2)) (st_name 5) (ss_set 4 (sn_val (se_op s2_add (se_var 4) (se_f (sf_lc (si_rng2 (sa_cons (se_op s2_add (se_op s2_ix (se_var 5) (se_un s1_neg se_int)) se_int) (sa_cons (se_var 1) sa_nil))) (st_name 6) (by decide) sb_yes (se_op s2_add (se_var 5) (se_tup (sa_cons (se_var 6) sa_nil))))))))) (ss_set 2 (sn_val (se_var 4)))))) (ss_ret (se_f (sf_lc (si_any (se_var 2)) (st_name 5) (by decide) sb_yes (se_op s2_add (se_var 5) (se_tup (sa_cons (se_var 1) sa_nil))))))))⟩) (fun xs Q Ex _ h => h)
def t_law_spans_1 : MS := (mApp 1 (mCB fAbs (mCons (mBin fSub (mBin fIx (mVar 0) (mVar 3)) (mBin fIx (mVar 0) (mVar 2))) mNil)))
def t_law_spans_2 : MS := (mFor (mRng2 (mCons (mBin fAdd (mVar 2) (mC (.int 1))) (mCons (mCB fLen (mCons (mVar 0) mNil)) mNil))) (fName 3) (t_law_spans_1))
def t_law_spans_3 : MS := (mFreeze 1 (mRet (mCB fTupOf (mCons (mF (mCF fSortI (mCons (mVar 1) mNil))) mNil))))
def t_law_spans_4 : MS := (mSeq (mFor (mRng1 (mCons (mCB fLen (mCons (mVar 0) mNil)) mNil)) (fName 2) (t_law_spans_2)) (t_law_spans_3))
theorem sc_law_spans : FnScope ["places", "found", "at", "more"] ["places"] (defScope s_law_spans) := ⟨rfl, rfl, rfl, by decide +kernel, rfl, by decide +kernel, by decide +kernel⟩
def b_law_spans : MS := (mSeq (mSet 1 (mOwn (mLst mNil))) (t_law_spans_4))
def F_law_spans : List Dv → M Dv := fun xs Q Ex => b_law_spans (endM Q Ex) (startE 4 xs)
theorem d_law_spans (T : Txt K mg KE) : Df P w K mg base "_law_spans" 1 ["places"] F_law_spans :=
  df_of T.f_law_spans sc_law_spans (fun _ _ _ _ _ _ us hl => match us, hl with | [_], _ => rfl) (fun f cdv A outer s H E hr => ⟨_, (pss_cons (ps_set (i := 1) sc_law_spans.nd rfl (by first | exact Or.inl rfl | exact Or.inr rfl) (pe_lst pa_nil)) (pss_cons (ps_for (passes_of rfl) rfl (pi_range1 (by rfl) T.b_range (pa_cons (pe_callB call_len (by rfl) T.b_len boot_len_ (pa_cons (pv 0) pa_nil)) pa_nil)) (pg_name (i := 2) sc_law_spans.nd rfl (by first | exact Or.inl rfl | exact Or.inr rfl)) (pss_one (ps_for (passes_of rfl) rfl (pi_range2 (by rfl) T.b_range (pa_cons (pe_op op_addA (pv 2) pe_int) (pa_cons (pe_callB call_len (by rfl) T.b_len boot_len_ (pa_cons (pv 0) pa_nil)) pa_nil))) (pg_name (i := 3) sc_law_spans.nd rfl (by first | exact Or.inl rfl | exact Or.inr rfl)) (pss_one (ps_expr (pe_bm PySem.F.plainAttrs_list PySem.F.slot_list_append PySem.F.type_list_append mt_append (pv 1) (pa_cons (pe_callB call_abs (by rfl) T.b_abs boot_abs_ (pa_cons (pe_op op_sub (pe_ix ix_seq (pv 0) (pv 3) (fun _ _ => rfl)) (pe_ix ix_seq (pv 0) (pv 2) (fun _ _ => rfl))) pa_nil)) pa_nil))))))) (pss_one (ps_ret (pe_callTy call_tuple_of (by rfl) T.b_tuple boot_tuple_ (pa_cons (pe_callB cr_sortedI (by rfl) T.b_sorted boot_sorted_ (pa_cons (pv 1) pa_nil)) pa_nil)))))), (ss_seq (ss_set 1 (sn_own (sf_lst sa_nil))) (ss_seq (ss_for (si_rng1 (sa_cons (se_cb sc_len (sa_cons (se_var 0) sa_nil)) sa_nil)) (st_name 2) (ss_for (si_rng2 (sa_cons (se_op s2_add (se_var 2) se_int) (sa_cons (se_cb sc_len (sa_cons (se_var 0) sa_nil)) sa_nil))) (st_name 3) (ss_app 1 (se_cb sc_abs (sa_cons (se_op s2_I0 (se_op s2_ix (se_var 0) (se_var 3)) (se_op s2_ix (se_var 0) (se_var 2))) sa_nil))))) (ss_freeze 1 (ss_ret (se_cb sc_tupOf (sa_cons (se_f (sf_cb sc_sortI (sa_cons (se_var 1) sa_nil))) sa_nil))))))⟩) (fun xs Q Ex _ h => h)
def t_law_gauge_1 : MS := (mIfS (mB (mBin (fIn true) (mVar 2) (mVar 1))) (mRet (mBin fSub (mVar 2) (mC (.int 1)))) mNext)
def t_law_gauge_2 : MS := (mRet (mCB fLen (mCons (mVar 1) mNil)))
def t_law_gauge_3 : MS := (mSeq (mFor (mRng2 (mCons (mC (.int 1)) (mCons (mBin fAdd (mCB fLen (mCons (mVar 1) mNil)) (mC (.int 1))) mNil))) (fName 2) (t_law_gauge_1)) (t_law_gauge_2))
theorem sc_law_gauge : FnScope ["rope", "spans", "length"] ["rope"] (defScope s_law_gauge) := ⟨rfl, rfl, rfl, by decide +kernel, rfl, by decide +kernel, by decide +kernel⟩
def b_law_gauge : MS := (mSeq (mSet 1 (mVal (mF (mCF fLstOf (mCons (mCall F_law_spans (mCons (mVar 0) mNil)) mNil))))) (t_law_gauge_3))
def F_law_gauge : List Dv → M Dv := fun xs Q Ex => b_law_gauge (endM Q Ex) (startE 3 xs)
theorem d_law_gauge (T : Txt K mg KE) : Df P w K mg base "_law_gauge" 2 ["rope"] F_law_gauge :=
  df_of T.f_law_gauge sc_law_gauge (fun _ _ _ _ _ _ us hl => match us, hl with | [_], _ => rfl) (fun f cdv A outer s H E hr => ⟨_, (pss_cons (ps_set (i := 1) sc_law_gauge.nd rfl (by first | exact Or.inl rfl | exact Or.inr rfl) (pe_callTy call_list_of (by rfl) T.b_list boot_list_ (pa_cons (pe_callD (d_law_spans T) (hr.mono (by decide)) (by rfl) (passX (L2N.takes_of rfl rfl rfl rfl)) (pa_cons (pv 0) pa_nil)) pa_nil))) (pss_cons (ps_for (passes_of rfl) rfl (pi_range2 (by rfl) T.b_range (pa_cons pe_int (pa_cons (pe_op op_addA (pe_callB call_len (by rfl) T.b_len boot_len_ (pa_cons (pv 1) pa_nil)) pe_int) pa_nil))) (pg_name (i := 2) sc_law_gauge.nd rfl (by first | exact Or.inl rfl | exact Or.inr rfl)) (pss_one (ps_if (pt_cmpR op_notIn_seq (pv 2) (pv 1) (by rfl)) (pss_one (ps_ret (pe_op op_sub (pv 2) pe_int))) pss_nil))) (pss_one (ps_ret (pe_callB call_len (by rfl) T.b_len boot_len_ (pa_cons (pv 1) pa_nil)))))), (ss_seq (ss_set 1 (sn_val (se_f (sf_cb sc_lstOf (sa_cons (se_call (sa_cons (se_var 0) sa_nil)) sa_nil))))) (ss_seq (ss_for (si_rng2 (sa_cons se_int (sa_cons (se_op s2_add (se_cb sc_len (sa_cons (se_var 1) sa_nil)) se_int) sa_nil))) (st_name 2) (ss_if (sb_test (se_op s2_in (se_var 2) (se_var 1))) (ss_ret (se_op s2_I0 (se_var 2) se_int)) ss_next)) (ss_ret (se_cb sc_len (sa_cons (se_var 1) sa_nil)))))⟩) (fun xs Q Ex _ h => h)
def t_law_full_1 : MS := (mIfS (mB (mBin fNe (mVar 2) (mF (mLst mNil)))) (mRet (mTup 2 (mCons (mVar 1) (mCons (mVar 2) mNil)))) mNext)
def t_law_full_2 : MS := (mSeq (mSet 2 (mVal (mF (mLc (mItemsA (mCall F_law_all (mCons (mVar 0) (mCons (mVar 1) mNil)))) (fName 3) (mB (mBin fEq (mCall F_law_gauge (mCons (mVar 3) mNil)) (mVar 1))) (mVar 3) [3])))) (t_law_full_1))
def t_law_full_3 : MS := (mRet (mTup 2 (mCons (mC (.int 0)) (mCons (mF (mLst mNil)) mNil))))
theorem sc_law_full : FnScope ["many", "last", "found", "rope"] ["many"] (defScope s_law_full) := ⟨rfl, rfl, rfl, by decide +kernel, rfl, by decide +kernel, by decide +kernel⟩
def b_law_full : MS := (mSeq (mFor (mRng3 (mCons (mBin fDiv (mBin fMulA (mVar 0) (mBin fSub (mVar 0) (mC (.int 1)))) (mC (.int 2))) (mCons (mC (.int 0)) (mCons (mUn fNeg (mC (.int 1))) mNil)))) (fName 1) (t_law_full_2)) (t_law_full_3))
def F_law_full : List Dv → M Dv := fun xs Q Ex => b_law_full (endM Q Ex) (startE 4 xs)
theorem d_law_full (T : Txt K mg KE) : Df P w K mg base "_law_full" 3 ["many"] F_law_full :=
  df_of T.f_law_full sc_law_full (fun _ _ _ _ _ _ us hl => match us, hl with | [_], _ => rfl) (fun f cdv A outer s H E hr => ⟨_, (pss_cons (ps_for (passes_of rfl) rfl (pi_range3 (by rfl) T.b_range (pa_cons (pe_op op_fdivW (pe_op op_mulA (pv 0) (pe_op op_sub (pv 0) pe_int)) pe_int) (pa_cons pe_int (pa_cons (pe_un un_neg pe_int) pa_nil)))) (pg_name (i := 1) sc_law_full.nd rfl (by first | exact Or.inl rfl | exact Or.inr rfl)) (pss_cons (ps_setLc (i := 2) (own := [("rope", 3)]) rfl sc_law_full.nd rfl rfl (sw_true rfl rfl rfl (by decide +kernel)) (pi_any (pe_callD (d_law_all T) (hr.mono (by decide)) (by rfl) (passX (L2N.takes_of rfl rfl rfl rfl)) (pa_cons (pv 0) (pa_cons (pv 1) pa_nil)))) (blkOk_by (own := [("rope", 3)]) (N := ["many", "last", "found", "rope"]) (sc := defScope s_law_full) (by decide +kernel)) (fun _ _ _ _ _ => (pg_name (i := 3) sc_law_full.nd rfl (by first | exact Or.inl rfl | exact Or.inr rfl))) (fun _ _ _ _ _ => (pts_one (pt_cmpR (op_eqD (Room.units hr)) (pe_callD (d_law_gauge T) (hr.mono (by decide)) (by rfl) passN (pa_cons (pv 3) pa_nil)) (pv 1) (nomark _)))) (fun _ _ _ _ _ => (pv 3))) (pss_one (ps_if (pt_cmpR (op_neD (Room.units hr)) (pv 2) (pe_lst pa_nil) (nomark _)) (pss_one (ps_ret (pe_tup (pa_cons (pv 1) (pa_cons (pv 2) pa_nil))))) pss_nil)))) (pss_one (ps_ret (pe_tup (pa_cons pe_int (pa_cons (pe_lst pa_nil) pa_nil)))))), (ss_seq (ss_for (si_rng3 (sa_cons (se_op (s2_I fun _ _ h => h) (se_op s2_mulA (se_var 0) (se_op s2_I0 (se_var 0) se_int)) se_int) (sa_cons se_int (sa_cons (se_un s1_neg se_int) sa_nil)))) (st_name 1) (ss_seq (ss_set 2 (sn_val (se_f (sf_lc (si_any (se_call (sa_cons (se_var 0) (sa_cons (se_var 1) sa_nil)))) (st_name 3) (by decide) (sb_test (se_op s2_eq (se_call (sa_cons (se_var 3) sa_nil)) (se_var 1))) (se_var 3))))) (ss_if (sb_test (se_op s2_ne (se_var 2) (se_f (sf_lst sa_nil)))) (ss_ret (se_tup (sa_cons (se_var 1) (sa_cons (se_var 2) sa_nil)))) ss_next))) (ss_ret (se_tup (sa_cons se_int (sa_cons (se_f (sf_lst sa_nil)) sa_nil)))))⟩) (fun xs Q Ex _ h => h)
def t_law_1 : MS := (mIfS (mOr (mB (mBin fNe (mCall F_gauge (mCons (mVar 7) mNil)) (mCall F_law_gauge (mCons (mVar 7) mNil)))) (mB (mCB fIsI (mCons (mCall F_gauge (mCons (mVar 7) mNil)) (mCons (mTy "bool") mNil))))) (mRet (mC (.bool false))) mNext)
def t_law_2 : MS := (mIfS (mAnd (mNot (mB (mCall F_law_good_rope (mCons (mVar 2) mNil)))) (mB (mBin fNe (mWord (mCall F_gauge (mCons (mVar 2) mNil))) (mC (.str "rope value"))))) (mRet (mC (.bool false))) mNext)
def t_law_3 : MS := (mSeq (mSet 2 (mVal (mCall (F_law_bent 40) (mCons (mVar 4) (mCons (mVar 5) mNil))))) (t_law_2))
def t_law_4 : MS := (mSeq (mFor (mItemsA (mF (mLst (mCons (mVar 5) (mCons (mVar 6) (mCons (mCall F_law_turned (mCons (mVar 6) mNil)) (mCons (mTupRg1 (mBin fAdd (mC (.int 2)) (mCall F_law_wind (mCons (mVar 4) (mCons (mC (.int 8)) mNil))))) mNil))))))) (fName 7) (t_law_1)) (t_law_3))
def t_law_5 : MS := (mSeq (mSet 6 (mVal (mBin fAdd (mBin fAdd (mTup 1 (mCons (mC (.int 0)) mNil)) (mCB fTupOf (mCons (mF (mLc (mRng1 (mCons (mBin fAdd (mC (.int 1)) (mCall F_law_wind (mCons (mVar 4) (mCons (mC (.int 3)) mNil)))) mNil)) (fName 9) mYes (mBin fAdd (mVar 9) (mC (.int 1))) [9])) mNil))) (mTup 1 (mCons (mBin fAdd (mC (.int 9)) (mCall F_law_wind (mCons (mVar 4) (mCons (mC (.int 3)) mNil)))) mNil))))) (t_law_4))
def t_law_6 : MS := (mSeq (mSet 5 (mVal (mCall F_law_any_rope (mCons (mVar 4) (mCons (mC (.int 2)) (mCons (mC (.int 9)) mNil)))))) (t_law_5))
def t_law_7 : MS := (mSeq (mSet 4 (mVal (mCall F_law_coil (mCons (mVar 0) (mCons (mVar 1) mNil))))) (t_law_6))
def t_law_8 : MS := (mIfS (mB (mBin fNe (mWord (mCall F_full_gauges (mCons (mVar 2) mNil))) (mC (.str "number value")))) (mRet (mC (.bool false))) mNext)
def t_law_9 : MS := (mIfS (mOr (mB (mBin fNe (mVar 8) (mCall F_law_full (mCons (mVar 3) mNil)))) (mNot (mB (mCB fIsI (mCons (mBin fIx (mVar 8) (mC (.int 1))) (mCons (mTy "list") mNil)))))) (mRet (mC (.bool false))) mNext)
def t_law_10 : MS := (mSeq (mSet 8 (mVal (mCall F_full_gauges (mCons (mVar 3) mNil)))) (t_law_9))
def t_law_11 : MS := (mRet (mAndV (mBin fEq (mCall F_gauge (mCons (mTup 6 (mCons (mC (.int 0)) (mCons (mC (.int 1)) (mCons (mC (.int 4)) (mCons (mC (.int 10)) (mCons (mC (.int 12)) (mCons (mC (.int 17)) mNil))))))) mNil)) (mC (.int 13))) (mAndV (mBin fEq (mCall F_gauge (mCons (mTup 2 (mCons (mC (.int 0)) (mCons (mC (.int 2)) mNil))) mNil)) (mC (.int 0))) (mBin fEq (mCall F_gauge (mCons (mTup 9 (mCons (mC (.int 0)) (mCons (mC (.int 1)) (mCons (mC (.int 3)) (mCons (mC (.int 4)) (mCons (mC (.int 5)) (mCons (mC (.int 7)) (mCons (mC (.int 12)) (mCons (mC (.int 13)) (mCons (mC (.int 15)) mNil)))))))))) mNil)) (mC (.int 15))))))
def t_law_12 : MS := (mSeq (mIfS (mOr (mB (mBin fNe (mCall F_full_gauges (mCons (mC (.int 4)) mNil)) (mTup 2 (mCons (mC (.int 6)) (mCons (mF (mLst (mCons (mTup 4 (mCons (mC (.int 0)) (mCons (mC (.int 1)) (mCons (mC (.int 4)) (mCons (mC (.int 6)) mNil))))) (mCons (mTup 4 (mCons (mC (.int 0)) (mCons (mC (.int 2)) (mCons (mC (.int 5)) (mCons (mC (.int 6)) mNil))))) mNil)))) mNil))))) (mOr (mB (mBin fNe (mBin fIx (mCall F_full_gauges (mCons (mC (.int 6)) mNil)) (mC (.int 0))) (mC (.int 13)))) (mB (mBin fNe (mBin fIx (mCall F_full_gauges (mCons (mC (.int 5)) mNil)) (mC (.int 0))) (mC (.int 9)))))) (mRet (mC (.bool false))) mNext) (t_law_11))
def t_law_13 : MS := (mSeq (mFor (mItemsA (mTup 5 (mCons (mC (.int 2)) (mCons (mC (.int 3)) (mCons (mC (.int 4)) (mCons (mC (.int 5)) (mCons (mC (.int 6)) mNil))))))) (fName 3) (t_law_10)) (t_law_12))
def t_law_14 : MS := (mSeq (mFor (mItemsA (mF (mLst (mCons (mC .none) (mCons (mC (.int 1)) (mCons (mC (.int 7)) (mCons (mC (.bool true)) (mCons (mC (.str "3")) (mCons (mTup 1 (mCons (mC (.int 3)) mNil)) mNil))))))))) (fName 2) (t_law_8)) (t_law_13))
theorem sc_law : FnScope ["script", "k", "odd", "many", "coil", "rope", "small", "one", "found", "place"] ["script"] (defScope s_law) := ⟨rfl, rfl, rfl, by decide +kernel, rfl, by decide +kernel, by decide +kernel⟩
def b_law : MS := (mSeq (mFor (mRng1 (mCons (mCB fMax2 (mCons (mC (.int 6)) (mCons (mCB fMin2 (mCons (mC (.int 12)) (mCons (mCB fLen (mCons (mVar 0) mNil)) mNil))) mNil))) mNil)) (fName 1) (t_law_7)) (t_law_14))
def F_law : List Dv → M Dv := fun xs Q Ex => b_law (endM Q Ex) (startE 10 xs)
theorem d_law {f c Pt : Addr} {oc kV doc pm ct : Value} {od an : Option Addr} {osl : Array (Option Value)} (T : Txt K mg KE) (TB : LamX.TabB base mg.f c Pt) (hmT : (Pt, (envOfC "law" (defScope s_law) 0 0 (.ref c)).qual ++ "<lambda>") ∈ mg.T) (hu : ∀ p ∈ mg.T, p.1 = Pt → p.2 = (envOfC "law" (defScope s_law) 0 0 (.ref c)).qual ++ "<lambda>")
    (lk : K.lookup f = some ⟨oc, od, .func (PySem.W.fnOf "law" "law" (defArgs s_law) (defBody s_law) (defScope s_law) .none kV doc pm an (.ref c) ct), osl⟩) (hcd : PySem.W.codeIn K (.ref c) "law" = true) :
    FnOk P w K mg.f base (L2N.CX P w) 50 f (PySem.W.fnOf "law" "law" (defArgs s_law) (defBody s_law) (defScope s_law) .none kV doc pm an (.ref c) ct) ["script"] (spF K mg 1 F_law) :=
  ok_ofC lk hcd sc_law (fun A outer s H E hr => ⟨_, (pss_cons (ps_for (passes_of rfl) rfl (pi_range1 (by rfl) T.b_range (pa_cons (pe_callB (call_max2 rfl) (by rfl) T.b_max boot_max_ (pa_cons pe_int (pa_cons (pe_callB (call_min2 rfl) (by rfl) T.b_min boot_min_ (pa_cons pe_int (pa_cons (pe_callB call_len (by rfl) T.b_len boot_len_ (pa_cons (pv 0) pa_nil)) pa_nil))) pa_nil))) pa_nil)) (pg_name (i := 1) sc_law.nd rfl (by first | exact Or.inl rfl | exact Or.inr rfl)) (pss_cons (ps_set (i := 4) sc_law.nd rfl (by first | exact Or.inl rfl | exact Or.inr rfl) (pe_callD (d_law_coil T) (hr.mono (by decide)) (by rfl) (passX (L2N.takes_of rfl rfl rfl rfl)) (pa_cons (pv 0) (pa_cons (pv 1) pa_nil)))) (pss_cons (ps_set (i := 5) sc_law.nd rfl (by first | exact Or.inl rfl | exact Or.inr rfl) (pe_callD (d_law_any_rope T) (hr.mono (by decide)) (by rfl) (passX (L2N.takes_of rfl rfl rfl rfl)) (pa_cons (pv 4) (pa_cons pe_int (pa_cons pe_int pa_nil))))) (pss_cons (ps_set (i := 6) sc_law.nd rfl (by first | exact Or.inl rfl | exact Or.inr rfl) (pe_op op_addA (pe_op op_addA (pe_tup (pa_cons pe_int pa_nil)) (pe_callTy call_tuple_of (by rfl) T.b_tuple boot_tuple_ (pa_cons (pe_lc (own := [("place", 9)]) rfl sc_law.nd (pi_range1 (by rfl) T.b_range (pa_cons (pe_op op_addA pe_int (pe_callD (d_law_wind T) (hr.mono (by decide)) (by rfl) (passX (L2N.takes_of rfl rfl rfl rfl)) (pa_cons (pv 4) (pa_cons pe_int pa_nil)))) pa_nil)) (blkOk_by (own := [("place", 9)]) (N := ["script", "k", "odd", "many", "coil", "rope", "small", "one", "found", "place"]) (sc := defScope s_law) (by decide +kernel)) (fun _ _ _ _ _ => (pg_name (i := 9) sc_law.nd rfl (by first | exact Or.inl rfl | exact Or.inr rfl))) (fun _ _ _ _ _ => pts_nil) (fun _ _ _ _ _ => (pe_op op_addA (pv 9) pe_int))) pa_nil))) (pe_tup (pa_cons (pe_op op_addA pe_int (pe_callD (d_law_wind T) (hr.mono (by decide)) (by rfl) (passX (L2N.takes_of rfl rfl rfl rfl)) (pa_cons (pv 4) (pa_cons pe_int pa_nil)))) pa_nil)))) (pss_cons (ps_for (passes_of rfl) rfl (pi_any (pe_lst (pa_cons (pv 5) (pa_cons (pv 6) (pa_cons (pe_callD (d_law_turned T) (hr.mono (by decide)) (by rfl) (passX (L2N.takes_of rfl rfl rfl rfl)) (pa_cons (pv 6) pa_nil)) (pa_cons (pe_tupRg rfl (by rfl) T.b_tuple (prg_1 (by rfl) T.b_range (pe_op op_addA pe_int (pe_callD (d_law_wind T) (hr.mono (by decide)) (by rfl) (passX (L2N.takes_of rfl rfl rfl rfl)) (pa_cons (pv 4) (pa_cons pe_int pa_nil)))))) pa_nil)))))) (pg_name (i := 7) sc_law.nd rfl (by first | exact Or.inl rfl | exact Or.inr rfl)) (pss_one (ps_if (PW.pt (pw_or (pt_cmpR (op_neD (Room.units hr)) (pe_callD (d_gauge T) (hr.mono (by decide)) (by rfl) (passX (L2N.takes_of rfl rfl rfl rfl)) (pa_cons (pv 7) pa_nil)) (pe_callD (d_law_gauge T) (hr.mono (by decide)) (by rfl) (passX (L2N.takes_of rfl rfl rfl rfl)) (pa_cons (pv 7) pa_nil)) (nomark _)) (pw_or1 (pt_val (pe_callB call_isi (by rfl) T.b_isinstance boot_isinstance_ (pa_cons (pe_callD (d_gauge T) (hr.mono (by decide)) (by rfl) (passX (L2N.takes_of rfl rfl rfl rfl)) (pa_cons (pv 7) pa_nil)) (pa_cons (pe_bltn (v := .ty "bool") (by rfl) T.b_bool boot_bool_ rfl) pa_nil))))))) (pss_one (ps_ret pe_bl)) pss_nil))) (pss_cons (ps_set (i := 2) sc_law.nd rfl (by first | exact Or.inl rfl | exact Or.inr rfl) (pe_callD (d_law_bent T 40) (hr.mono (by decide)) (by rfl) (passX (L2N.takes_of rfl rfl rfl rfl)) (pa_cons (pv 4) (pa_cons (pv 5) pa_nil)))) (pss_one (ps_if (PW.pt (pw_and (pt_not (pt_val (pe_callD (d_law_good_rope T) (hr.mono (by decide)) (by rfl) (passX (L2N.takes_of rfl rfl rfl rfl)) (pa_cons (pv 2) pa_nil)))) (pw_and1 (pt_cmpR (op_neD (Room.units hr)) (pe_word (k := 10) (d_law_names T) (by decide) T.f_law_word sc_law_word (by rfl) (fun _ _ _ _ _ _ us hl => match us, hl with | [_], _ => rfl) rfl rfl rfl rfl T.ke (by rfl) TB rfl hmT hu (hr.mono (by decide)) (LamX.lamS_by (sc := defScope s_law) (by decide +kernel)) (by rfl) (fun _ _ _ _ _ => rfl) (fun A outer s H E f c' hr => (pe_callD (d_gauge T) (hr.mono (by decide)) (by rfl) (passX takes_lam) (pa_cons (pv 2) pa_nil)))) pe_str (nomark _))))) (pss_one (ps_ret pe_bl)) pss_nil)))))))) (pss_cons (ps_for (passes_of rfl) rfl (pi_any (pe_lst (pa_cons pe_non (pa_cons pe_int (pa_cons pe_int (pa_cons pe_bl (pa_cons pe_str (pa_cons (pe_tup (pa_cons pe_int pa_nil)) pa_nil)))))))) (pg_name (i := 2) sc_law.nd rfl (by first | exact Or.inl rfl | exact Or.inr rfl)) (pss_one (ps_if (pt_cmpR (op_neD (Room.units hr)) (pe_word (k := 10) (d_law_names T) (by decide) T.f_law_word sc_law_word (by rfl) (fun _ _ _ _ _ _ us hl => match us, hl with | [_], _ => rfl) rfl rfl rfl rfl T.ke (by rfl) TB rfl hmT hu (hr.mono (by decide)) (LamX.lamS_by (sc := defScope s_law) (by decide +kernel)) (by rfl) (fun _ _ _ _ _ => rfl) (fun A outer s H E f c' hr => (pe_callD (d_full_gauges T) (hr.mono (by decide)) (by rfl) (passX takes_lam) (pa_cons (pv 2) pa_nil)))) pe_str (nomark _)) (pss_one (ps_ret pe_bl)) pss_nil))) (pss_cons (ps_for (passes_of rfl) rfl (pi_any (pe_tup (pa_cons pe_int (pa_cons pe_int (pa_cons pe_int (pa_cons pe_int (pa_cons pe_int pa_nil))))))) (pg_name (i := 3) sc_law.nd rfl (by first | exact Or.inl rfl | exact Or.inr rfl)) (pss_cons (ps_set (i := 8) sc_law.nd rfl (by first | exact Or.inl rfl | exact Or.inr rfl) (pe_callD (d_full_gauges T) (hr.mono (by decide)) (by rfl) (passX (L2N.takes_of rfl rfl rfl rfl)) (pa_cons (pv 3) pa_nil))) (pss_one (ps_if (PW.pt (pw_or (pt_cmpR (op_neD (Room.units hr)) (pv 8) (pe_callD (d_law_full T) (hr.mono (by decide)) (by rfl) (passX (L2N.takes_of rfl rfl rfl rfl)) (pa_cons (pv 3) pa_nil)) (nomark _)) (pw_or1 (pt_not (pt_val (pe_callB call_isi (by rfl) T.b_isinstance boot_isinstance_ (pa_cons (pe_ix ix_seq (pv 8) pe_int (fun _ _ => rfl)) (pa_cons (pe_bltn (v := .ty "list") (by rfl) T.b_list boot_list_ rfl) pa_nil)))))))) (pss_one (ps_ret pe_bl)) pss_nil)))) (pss_cons (ps_if (PW.pt (pw_or (pt_cmpR (op_neD (Room.units hr)) (pe_callD (d_full_gauges T) (hr.mono (by decide)) (by rfl) (passX (L2N.takes_of rfl rfl rfl rfl)) (pa_cons pe_int pa_nil)) (pe_tup (pa_cons pe_int (pa_cons (pe_lst (pa_cons (pe_tup (pa_cons pe_int (pa_cons pe_int (pa_cons pe_int (pa_cons pe_int pa_nil))))) (pa_cons (pe_tup (pa_cons pe_int (pa_cons pe_int (pa_cons pe_int (pa_cons pe_int pa_nil))))) pa_nil))) pa_nil))) (nomark _)) (pw_or (pt_cmpR (op_neD (Room.units hr)) (pe_ix ix_seq (pe_callD (d_full_gauges T) (hr.mono (by decide)) (by rfl) (passX (L2N.takes_of rfl rfl rfl rfl)) (pa_cons pe_int pa_nil)) pe_int (fun _ _ => rfl)) pe_int (nomark _)) (pw_or1 (pt_cmpR (op_neD (Room.units hr)) (pe_ix ix_seq (pe_callD (d_full_gauges T) (hr.mono (by decide)) (by rfl) (passX (L2N.takes_of rfl rfl rfl rfl)) (pa_cons pe_int pa_nil)) pe_int (fun _ _ => rfl)) pe_int (nomark _)))))) (pss_one (ps_ret pe_bl)) pss_nil) (pss_one (ps_ret (pe_and (pe_cmpR (op_eqD (Room.units hr)) (pe_callD (d_gauge T) (hr.mono (by decide)) (by rfl) (passX (L2N.takes_of rfl rfl rfl rfl)) (pa_cons (pe_tup (pa_cons pe_int (pa_cons pe_int (pa_cons pe_int (pa_cons pe_int (pa_cons pe_int (pa_cons pe_int pa_nil))))))) pa_nil)) pe_int (nomark _)) (pe_and (pe_cmpR (op_eqD (Room.units hr)) (pe_callD (d_gauge T) (hr.mono (by decide)) (by rfl) (passX (L2N.takes_of rfl rfl rfl rfl)) (pa_cons (pe_tup (pa_cons pe_int (pa_cons pe_int pa_nil))) pa_nil)) pe_int (nomark _)) (pe_one (pe_cmpR (op_eqD (Room.units hr)) (pe_callD (d_gauge T) (hr.mono (by decide)) (by rfl) (passX (L2N.takes_of rfl rfl rfl rfl)) (pa_cons (pe_tup (pa_cons pe_int (pa_cons pe_int (pa_cons pe_int (pa_cons pe_int (pa_cons pe_int (pa_cons pe_int (pa_cons pe_int (pa_cons pe_int (pa_cons pe_int pa_nil)))))))))) pa_nil)) pe_int (nomark _))))))))))), (ss_seq (ss_for (si_rng1 (sa_cons (se_cb sc_2I (sa_cons se_int (sa_cons (se_cb sc_2I (sa_cons se_int (sa_cons (se_cb sc_len (sa_cons (se_var 0) sa_nil)) sa_nil))) sa_nil))) sa_nil)) (st_name 1) (ss_seq (ss_set 4 (sn_val (se_call (sa_cons (se_var 0) (sa_cons (se_var 1) sa_nil))))) (ss_seq (ss_set 5 (sn_val (se_call (sa_cons (se_var 4) (sa_cons se_int (sa_cons se_int sa_nil)))))) (ss_seq (ss_set 6 (sn_val (se_op s2_add (se_op s2_add (se_tup (sa_cons se_int sa_nil)) (se_cb sc_tupOf (sa_cons (se_f (sf_lc (si_rng1 (sa_cons (se_op s2_add se_int (se_call (sa_cons (se_var 4) (sa_cons se_int sa_nil)))) sa_nil)) (st_name 9) (by decide) sb_yes (se_op s2_add (se_var 9) se_int))) sa_nil))) (se_tup (sa_cons (se_op s2_add se_int (se_call (sa_cons (se_var 4) (sa_cons se_int sa_nil)))) sa_nil))))) (ss_seq (ss_for (si_any (se_f (sf_lst (sa_cons (se_var 5) (sa_cons (se_var 6) (sa_cons (se_call (sa_cons (se_var 6) sa_nil)) (sa_cons (se_tupRg1 (se_op s2_add se_int (se_call (sa_cons (se_var 4) (sa_cons se_int sa_nil))))) sa_nil))))))) (st_name 7) (ss_if (sb_or (sb_test (se_op s2_ne (se_call (sa_cons (se_var 7) sa_nil)) (se_call (sa_cons (se_var 7) sa_nil)))) (sb_B (se_cb sc_isi (sa_cons (se_call (sa_cons (se_var 7) sa_nil)) (sa_cons se_ty sa_nil))))) (ss_ret se_bl) ss_next)) (ss_seq (ss_set 2 (sn_val (se_call (sa_cons (se_var 4) (sa_cons (se_var 5) sa_nil))))) (ss_if (sb_and (sb_not (sb_B (se_call (sa_cons (se_var 2) sa_nil)))) (sb_test (se_op s2_ne (se_word T.words (fun _ => (se_call (sa_cons (se_var 2) sa_nil)))) se_str))) (ss_ret se_bl) ss_next))))))) (ss_seq (ss_for (si_any (se_f (sf_lst (sa_cons se_non (sa_cons se_int (sa_cons se_int (sa_cons se_bl (sa_cons se_str (sa_cons (se_tup (sa_cons se_int sa_nil)) sa_nil))))))))) (st_name 2) (ss_if (sb_test (se_op s2_ne (se_word T.words (fun _ => (se_call (sa_cons (se_var 2) sa_nil)))) se_str)) (ss_ret se_bl) ss_next)) (ss_seq (ss_for (si_any (se_tup (sa_cons se_int (sa_cons se_int (sa_cons se_int (sa_cons se_int (sa_cons se_int sa_nil))))))) (st_name 3) (ss_seq (ss_set 8 (sn_val (se_call (sa_cons (se_var 3) sa_nil)))) (ss_if (sb_or (sb_test (se_op s2_ne (se_var 8) (se_call (sa_cons (se_var 3) sa_nil)))) (sb_not (sb_B (se_cb sc_isi (sa_cons (se_op s2_ix (se_var 8) se_int) (sa_cons se_ty sa_nil)))))) (ss_ret se_bl) ss_next))) (ss_seq (ss_if (sb_or (sb_test (se_op s2_ne (se_call (sa_cons se_int sa_nil)) (se_tup (sa_cons se_int (sa_cons (se_f (sf_lst (sa_cons (se_tup (sa_cons se_int (sa_cons se_int (sa_cons se_int (sa_cons se_int sa_nil))))) (sa_cons (se_tup (sa_cons se_int (sa_cons se_int (sa_cons se_int (sa_cons se_int sa_nil))))) sa_nil)))) sa_nil))))) (sb_or (sb_test (se_op s2_ne (se_op s2_ix (se_call (sa_cons se_int sa_nil)) se_int) se_int)) (sb_test (se_op s2_ne (se_op s2_ix (se_call (sa_cons se_int sa_nil)) se_int) se_int)))) (ss_ret se_bl) ss_next) (ss_ret (se_andV (se_op s2_eq (se_call (sa_cons (se_tup (sa_cons se_int (sa_cons se_int (sa_cons se_int (sa_cons se_int (sa_cons se_int (sa_cons se_int sa_nil))))))) sa_nil)) se_int) (se_andV (se_op s2_eq (se_call (sa_cons (se_tup (sa_cons se_int (sa_cons se_int sa_nil))) sa_nil)) se_int) (se_op s2_eq (se_call (sa_cons (se_tup (sa_cons se_int (sa_cons se_int (sa_cons se_int (sa_cons se_int (sa_cons se_int (sa_cons se_int (sa_cons se_int (sa_cons se_int (sa_cons se_int sa_nil)))))))))) sa_nil)) se_int))))))))⟩) (fun xs Q Ex _ h => h)
end
end Lw
end

section
open PySem PySem.W PyProof.Rows
set_option Elab.async false
set_option maxRecDepth 100000 in
set_option maxHeartbeats 8000000 in
open_top hd09 for PySem.Challenge.rw_knotspans_k09_gauges_of_ropes
end

section
set_option Elab.async false
set_option linter.all false
set_option maxRecDepth 100000
set_option maxHeartbeats 8000000
open PySem PySem.W PyProof.Rows
namespace Lw
theorem kept : PySem.Challenge.rw_knotspans_k09_gauges_of_ropes = PySem.Challenge.rw_knotspans_k09_gauges_of_ropes ∧ hd09.heap_39 = hd09.heap_39 := by
  k_fill
  exact ⟨rfl, rfl⟩
section
variable {w : World} {mg : Str → Option Value} {h : Heap}
theorem hnm (w : World) : Ks.nmL.map (nsIn (hd09.heap_39 w.params) mainGlobals) = [37, 49, 61, 73, 85, 97, 109, 121, 133, 145, 157, 169, 181, 202, 223].map fun C => some (some (.ref C)) := by
  refine' Ks.nmap_cons ?h0 ?t0
  (case h0 => k_is)
  refine' Ks.nmap_cons ?h1 ?t1
  (case h1 => k_is)
  refine' Ks.nmap_cons ?h2 ?t2
  (case h2 => k_is)
  refine' Ks.nmap_cons ?h3 ?t3
  (case h3 => k_is)
  refine' Ks.nmap_cons ?h4 ?t4
  (case h4 => k_is)
  refine' Ks.nmap_cons ?h5 ?t5
  (case h5 => k_is)
  refine' Ks.nmap_cons ?h6 ?t6
  (case h6 => k_is)
  refine' Ks.nmap_cons ?h7 ?t7
  (case h7 => k_is)
  refine' Ks.nmap_cons ?h8 ?t8
  (case h8 => k_is)
  refine' Ks.nmap_cons ?h9 ?t9
  (case h9 => k_is)
  refine' Ks.nmap_cons ?h10 ?t10
  (case h10 => k_is)
  refine' Ks.nmap_cons ?h11 ?t11
  (case h11 => k_is)
  refine' Ks.nmap_cons ?h12 ?t12
  (case h12 => k_is)
  refine' Ks.nmap_cons ?h13 ?t13
  (case h13 => k_is)
  refine' Ks.nmap_cons ?h14 ?t14
  (case h14 => k_is)
  rfl
theorem w_InvalidRope (X : (hd09.heap_39 w.params).In h) (G : h.Ns mainGlobals mg) (T : List (Addr × Str)) : Ks.WordAt (hd09.heap_39 w.params) ⟨mg, T⟩ 24 Ks.wordsBs "InvalidRope" "rope value" := by
  refine' Ks.wordAt_of (fun i => i == 0 || i == 15) X G (hnm w) ?a ?e1 ?e2 ?e3 ?e4 ?e5 ?e6 ?e7 ?e8 ?hk ?hv ?hw ?he
  (case a => k_is); (case e1 => k_is); (case e2 => k_is); (case e3 => k_is); (case e4 => k_is); (case e5 => k_is); (case e6 => k_is); (case e7 => k_is); (case e8 => k_is)
  (case hk => kernel_rfl); (case hv => kernel_rfl); (case hw => decide +kernel); (case he => kernel_rfl)
theorem w_InvalidSpans (X : (hd09.heap_39 w.params).In h) (G : h.Ns mainGlobals mg) (T : List (Addr × Str)) : Ks.WordAt (hd09.heap_39 w.params) ⟨mg, T⟩ 24 Ks.wordsBs "InvalidSpans" "spans value" := by
  refine' Ks.wordAt_of (fun i => i == 1 || i == 15) X G (hnm w) ?a ?e1 ?e2 ?e3 ?e4 ?e5 ?e6 ?e7 ?e8 ?hk ?hv ?hw ?he
  (case a => k_is); (case e1 => k_is); (case e2 => k_is); (case e3 => k_is); (case e4 => k_is); (case e5 => k_is); (case e6 => k_is); (case e7 => k_is); (case e8 => k_is)
  (case hk => kernel_rfl); (case hv => kernel_rfl); (case hw => decide +kernel); (case he => kernel_rfl)
theorem w_InvalidFact (X : (hd09.heap_39 w.params).In h) (G : h.Ns mainGlobals mg) (T : List (Addr × Str)) : Ks.WordAt (hd09.heap_39 w.params) ⟨mg, T⟩ 24 Ks.wordsBs "InvalidFact" "fact value" := by
  refine' Ks.wordAt_of (fun i => i == 2 || i == 15) X G (hnm w) ?a ?e1 ?e2 ?e3 ?e4 ?e5 ?e6 ?e7 ?e8 ?hk ?hv ?hw ?he
  (case a => k_is); (case e1 => k_is); (case e2 => k_is); (case e3 => k_is); (case e4 => k_is); (case e5 => k_is); (case e6 => k_is); (case e7 => k_is); (case e8 => k_is)
  (case hk => kernel_rfl); (case hv => kernel_rfl); (case hw => decide +kernel); (case he => kernel_rfl)
theorem w_InvalidBook (X : (hd09.heap_39 w.params).In h) (G : h.Ns mainGlobals mg) (T : List (Addr × Str)) : Ks.WordAt (hd09.heap_39 w.params) ⟨mg, T⟩ 24 Ks.wordsBs "InvalidBook" "book value" := by
  refine' Ks.wordAt_of (fun i => i == 3 || i == 15) X G (hnm w) ?a ?e1 ?e2 ?e3 ?e4 ?e5 ?e6 ?e7 ?e8 ?hk ?hv ?hw ?he
  (case a => k_is); (case e1 => k_is); (case e2 => k_is); (case e3 => k_is); (case e4 => k_is); (case e5 => k_is); (case e6 => k_is); (case e7 => k_is); (case e8 => k_is)
  (case hk => kernel_rfl); (case hv => kernel_rfl); (case hw => decide +kernel); (case he => kernel_rfl)
theorem w_InvalidQuestion (X : (hd09.heap_39 w.params).In h) (G : h.Ns mainGlobals mg) (T : List (Addr × Str)) : Ks.WordAt (hd09.heap_39 w.params) ⟨mg, T⟩ 24 Ks.wordsBs "InvalidQuestion" "question value" := by
  refine' Ks.wordAt_of (fun i => i == 4 || i == 15) X G (hnm w) ?a ?e1 ?e2 ?e3 ?e4 ?e5 ?e6 ?e7 ?e8 ?hk ?hv ?hw ?he
  (case a => k_is); (case e1 => k_is); (case e2 => k_is); (case e3 => k_is); (case e4 => k_is); (case e5 => k_is); (case e6 => k_is); (case e7 => k_is); (case e8 => k_is)
  (case hk => kernel_rfl); (case hv => kernel_rfl); (case hw => decide +kernel); (case he => kernel_rfl)
theorem w_InvalidRing (X : (hd09.heap_39 w.params).In h) (G : h.Ns mainGlobals mg) (T : List (Addr × Str)) : Ks.WordAt (hd09.heap_39 w.params) ⟨mg, T⟩ 24 Ks.wordsBs "InvalidRing" "ring value" := by
  refine' Ks.wordAt_of (fun i => i == 5 || i == 15) X G (hnm w) ?a ?e1 ?e2 ?e3 ?e4 ?e5 ?e6 ?e7 ?e8 ?hk ?hv ?hw ?he
  (case a => k_is); (case e1 => k_is); (case e2 => k_is); (case e3 => k_is); (case e4 => k_is); (case e5 => k_is); (case e6 => k_is); (case e7 => k_is); (case e8 => k_is)
  (case hk => kernel_rfl); (case hv => kernel_rfl); (case hw => decide +kernel); (case he => kernel_rfl)
theorem w_InvalidSize (X : (hd09.heap_39 w.params).In h) (G : h.Ns mainGlobals mg) (T : List (Addr × Str)) : Ks.WordAt (hd09.heap_39 w.params) ⟨mg, T⟩ 24 Ks.wordsBs "InvalidSize" "size value" := by
  refine' Ks.wordAt_of (fun i => i == 6 || i == 15) X G (hnm w) ?a ?e1 ?e2 ?e3 ?e4 ?e5 ?e6 ?e7 ?e8 ?hk ?hv ?hw ?he
  (case a => k_is); (case e1 => k_is); (case e2 => k_is); (case e3 => k_is); (case e4 => k_is); (case e5 => k_is); (case e6 => k_is); (case e7 => k_is); (case e8 => k_is)
  (case hk => kernel_rfl); (case hv => kernel_rfl); (case hw => decide +kernel); (case he => kernel_rfl)
theorem w_InvalidIndex (X : (hd09.heap_39 w.params).In h) (G : h.Ns mainGlobals mg) (T : List (Addr × Str)) : Ks.WordAt (hd09.heap_39 w.params) ⟨mg, T⟩ 24 Ks.wordsBs "InvalidIndex" "index value" := by
  refine' Ks.wordAt_of (fun i => i == 7 || i == 15) X G (hnm w) ?a ?e1 ?e2 ?e3 ?e4 ?e5 ?e6 ?e7 ?e8 ?hk ?hv ?hw ?he
  (case a => k_is); (case e1 => k_is); (case e2 => k_is); (case e3 => k_is); (case e4 => k_is); (case e5 => k_is); (case e6 => k_is); (case e7 => k_is); (case e8 => k_is)
  (case hk => kernel_rfl); (case hv => kernel_rfl); (case hw => decide +kernel); (case he => kernel_rfl)
theorem w_InvalidNumber (X : (hd09.heap_39 w.params).In h) (G : h.Ns mainGlobals mg) (T : List (Addr × Str)) : Ks.WordAt (hd09.heap_39 w.params) ⟨mg, T⟩ 24 Ks.wordsBs "InvalidNumber" "number value" := by
  refine' Ks.wordAt_of (fun i => i == 8 || i == 15) X G (hnm w) ?a ?e1 ?e2 ?e3 ?e4 ?e5 ?e6 ?e7 ?e8 ?hk ?hv ?hw ?he
  (case a => k_is); (case e1 => k_is); (case e2 => k_is); (case e3 => k_is); (case e4 => k_is); (case e5 => k_is); (case e6 => k_is); (case e7 => k_is); (case e8 => k_is)
  (case hk => kernel_rfl); (case hv => kernel_rfl); (case hw => decide +kernel); (case he => kernel_rfl)
theorem w_InvalidText (X : (hd09.heap_39 w.params).In h) (G : h.Ns mainGlobals mg) (T : List (Addr × Str)) : Ks.WordAt (hd09.heap_39 w.params) ⟨mg, T⟩ 24 Ks.wordsBs "InvalidText" "text value" := by
  refine' Ks.wordAt_of (fun i => i == 9 || i == 15) X G (hnm w) ?a ?e1 ?e2 ?e3 ?e4 ?e5 ?e6 ?e7 ?e8 ?hk ?hv ?hw ?he
  (case a => k_is); (case e1 => k_is); (case e2 => k_is); (case e3 => k_is); (case e4 => k_is); (case e5 => k_is); (case e6 => k_is); (case e7 => k_is); (case e8 => k_is)
  (case hk => kernel_rfl); (case hv => kernel_rfl); (case hw => decide +kernel); (case he => kernel_rfl)
theorem w_Unlike (X : (hd09.heap_39 w.params).In h) (G : h.Ns mainGlobals mg) (T : List (Addr × Str)) : Ks.WordAt (hd09.heap_39 w.params) ⟨mg, T⟩ 24 Ks.wordsBs "Unlike" "unlike value" := by
  refine' Ks.wordAt_of (fun i => i == 10 || i == 15) X G (hnm w) ?a ?e1 ?e2 ?e3 ?e4 ?e5 ?e6 ?e7 ?e8 ?hk ?hv ?hw ?he
  (case a => k_is); (case e1 => k_is); (case e2 => k_is); (case e3 => k_is); (case e4 => k_is); (case e5 => k_is); (case e6 => k_is); (case e7 => k_is); (case e8 => k_is)
  (case hk => kernel_rfl); (case hv => kernel_rfl); (case hw => decide +kernel); (case he => kernel_rfl)
theorem w_NoRope (X : (hd09.heap_39 w.params).In h) (G : h.Ns mainGlobals mg) (T : List (Addr × Str)) : Ks.WordAt (hd09.heap_39 w.params) ⟨mg, T⟩ 24 Ks.wordsBs "NoRope" "none value" := by
  refine' Ks.wordAt_of (fun i => i == 11 || i == 15) X G (hnm w) ?a ?e1 ?e2 ?e3 ?e4 ?e5 ?e6 ?e7 ?e8 ?hk ?hv ?hw ?he
  (case a => k_is); (case e1 => k_is); (case e2 => k_is); (case e3 => k_is); (case e4 => k_is); (case e5 => k_is); (case e6 => k_is); (case e7 => k_is); (case e8 => k_is)
  (case hk => kernel_rfl); (case hv => kernel_rfl); (case hw => decide +kernel); (case he => kernel_rfl)
theorem w_NothingToUndo (X : (hd09.heap_39 w.params).In h) (G : h.Ns mainGlobals mg) (T : List (Addr × Str)) : Ks.WordAt (hd09.heap_39 w.params) ⟨mg, T⟩ 24 Ks.wordsBs "NothingToUndo" "undo value" := by
  refine' Ks.wordAt_of (fun i => i == 12 || i == 15) X G (hnm w) ?a ?e1 ?e2 ?e3 ?e4 ?e5 ?e6 ?e7 ?e8 ?hk ?hv ?hw ?he
  (case a => k_is); (case e1 => k_is); (case e2 => k_is); (case e3 => k_is); (case e4 => k_is); (case e5 => k_is); (case e6 => k_is); (case e7 => k_is); (case e8 => k_is)
  (case hk => kernel_rfl); (case hv => kernel_rfl); (case hw => decide +kernel); (case he => kernel_rfl)
theorem words (X : (hd09.heap_39 w.params).In h) (G : h.Ns mainGlobals mg) (T : List (Addr × Str)) : ∀ c ws, Ks.wordOf c = some ws → Ks.WordAt (hd09.heap_39 w.params) ⟨mg, T⟩ 24 Ks.wordsBs c ws := fun c ws e => by
  have m : ∀ p ∈ Ks.wordL, Ks.WordAt (hd09.heap_39 w.params) ⟨mg, T⟩ 24 Ks.wordsBs p.1 p.2 := List.forall_mem_cons.mpr ⟨w_InvalidRope X G T, List.forall_mem_cons.mpr ⟨w_InvalidSpans X G T, List.forall_mem_cons.mpr ⟨w_InvalidFact X G T, List.forall_mem_cons.mpr ⟨w_InvalidBook X G T, List.forall_mem_cons.mpr ⟨w_InvalidQuestion X G T, List.forall_mem_cons.mpr ⟨w_InvalidRing X G T, List.forall_mem_cons.mpr ⟨w_InvalidSize X G T, List.forall_mem_cons.mpr ⟨w_InvalidIndex X G T, List.forall_mem_cons.mpr ⟨w_InvalidNumber X G T, List.forall_mem_cons.mpr ⟨w_InvalidText X G T, List.forall_mem_cons.mpr ⟨w_Unlike X G T, List.forall_mem_cons.mpr ⟨w_NoRope X G T, List.forall_mem_cons.mpr ⟨w_NothingToUndo X G T, fun _ z => nomatch z⟩⟩⟩⟩⟩⟩⟩⟩⟩⟩⟩⟩⟩
  exact m (c, ws) (PySem.mem_of_lookup e)
theorem t_f_law_names (X : (hd09.heap_39 w.params).In h) (G : h.Ns mainGlobals mg) (T : List (Addr × Str)) : Ks.FunAt (hd09.heap_39 w.params) ⟨mg, T⟩ "_law_names" s_law_names := by
  refine' Ks.funAt_of X G ?a ?l ?c ?k
  (case a => k_is); (case l => k_is); (case c => k_is); (case k => k_is)
theorem t_f_law_word (X : (hd09.heap_39 w.params).In h) (G : h.Ns mainGlobals mg) (T : List (Addr × Str)) : Ks.FunAt (hd09.heap_39 w.params) ⟨mg, T⟩ "_law_word" s_law_word := by
  refine' Ks.funAt_of X G ?a ?l ?c ?k
  (case a => k_is); (case l => k_is); (case c => k_is); (case k => k_is)
theorem t_f_law_coil (X : (hd09.heap_39 w.params).In h) (G : h.Ns mainGlobals mg) (T : List (Addr × Str)) : Ks.FunAt (hd09.heap_39 w.params) ⟨mg, T⟩ "_law_coil" s_law_coil := by
  refine' Ks.funAt_of X G ?a ?l ?c ?k
  (case a => k_is); (case l => k_is); (case c => k_is); (case k => k_is)
theorem t_f_law_wind (X : (hd09.heap_39 w.params).In h) (G : h.Ns mainGlobals mg) (T : List (Addr × Str)) : Ks.FunAt (hd09.heap_39 w.params) ⟨mg, T⟩ "_law_wind" s_law_wind := by
  refine' Ks.funAt_of X G ?a ?l ?c ?k
  (case a => k_is); (case l => k_is); (case c => k_is); (case k => k_is)
theorem t_f_law_pick (X : (hd09.heap_39 w.params).In h) (G : h.Ns mainGlobals mg) (T : List (Addr × Str)) : Ks.FunAt (hd09.heap_39 w.params) ⟨mg, T⟩ "_law_pick" s_law_pick := by
  refine' Ks.funAt_of X G ?a ?l ?c ?k
  (case a => k_is); (case l => k_is); (case c => k_is); (case k => k_is)
theorem t_f_law_any_rope (X : (hd09.heap_39 w.params).In h) (G : h.Ns mainGlobals mg) (T : List (Addr × Str)) : Ks.FunAt (hd09.heap_39 w.params) ⟨mg, T⟩ "_law_any_rope" s_law_any_rope := by
  refine' Ks.funAt_of X G ?a ?l ?c ?k
  (case a => k_is); (case l => k_is); (case c => k_is); (case k => k_is)
theorem t_f_law_any_value (X : (hd09.heap_39 w.params).In h) (G : h.Ns mainGlobals mg) (T : List (Addr × Str)) : Ks.FunAt (hd09.heap_39 w.params) ⟨mg, T⟩ "_law_any_value" s_law_any_value := by
  refine' Ks.funAt_of X G ?a ?l ?c ?k
  (case a => k_is); (case l => k_is); (case c => k_is); (case k => k_is)
theorem t_f_law_bent (X : (hd09.heap_39 w.params).In h) (G : h.Ns mainGlobals mg) (T : List (Addr × Str)) : Ks.FunAt (hd09.heap_39 w.params) ⟨mg, T⟩ "_law_bent" s_law_bent := by
  refine' Ks.funAt_of X G ?a ?l ?c ?k
  (case a => k_is); (case l => k_is); (case c => k_is); (case k => k_is)
theorem t_f_many_spans (X : (hd09.heap_39 w.params).In h) (G : h.Ns mainGlobals mg) (T : List (Addr × Str)) : Ks.FunAt (hd09.heap_39 w.params) ⟨mg, T⟩ "many_spans" s_many_spans := by
  refine' Ks.funAt_of X G ?a ?l ?c ?k
  (case a => k_is); (case l => k_is); (case c => k_is); (case k => k_is)
theorem t_f_is_integer (X : (hd09.heap_39 w.params).In h) (G : h.Ns mainGlobals mg) (T : List (Addr × Str)) : Ks.FunAt (hd09.heap_39 w.params) ⟨mg, T⟩ "is_integer" s_is_integer := by
  refine' Ks.funAt_of X G ?a ?l ?c ?k
  (case a => k_is); (case l => k_is); (case c => k_is); (case k => k_is)
theorem t_f_spans_by (X : (hd09.heap_39 w.params).In h) (G : h.Ns mainGlobals mg) (T : List (Addr × Str)) : Ks.FunAt (hd09.heap_39 w.params) ⟨mg, T⟩ "spans_by" s_spans_by := by
  refine' Ks.funAt_of X G ?a ?l ?c ?k
  (case a => k_is); (case l => k_is); (case c => k_is); (case k => k_is)
theorem t_f_gauge_by (X : (hd09.heap_39 w.params).In h) (G : h.Ns mainGlobals mg) (T : List (Addr × Str)) : Ks.FunAt (hd09.heap_39 w.params) ⟨mg, T⟩ "gauge_by" s_gauge_by := by
  refine' Ks.funAt_of X G ?a ?l ?c ?k
  (case a => k_is); (case l => k_is); (case c => k_is); (case k => k_is)
theorem t_f_full_with (X : (hd09.heap_39 w.params).In h) (G : h.Ns mainGlobals mg) (T : List (Addr × Str)) : Ks.FunAt (hd09.heap_39 w.params) ⟨mg, T⟩ "full_with" s_full_with := by
  refine' Ks.funAt_of X G ?a ?l ?c ?k
  (case a => k_is); (case l => k_is); (case c => k_is); (case k => k_is)
theorem t_f_full_gauges (X : (hd09.heap_39 w.params).In h) (G : h.Ns mainGlobals mg) (T : List (Addr × Str)) : Ks.FunAt (hd09.heap_39 w.params) ⟨mg, T⟩ "full_gauges" s_full_gauges := by
  refine' Ks.funAt_of X G ?a ?l ?c ?k
  (case a => k_is); (case l => k_is); (case c => k_is); (case k => k_is)
theorem t_f_law_turned (X : (hd09.heap_39 w.params).In h) (G : h.Ns mainGlobals mg) (T : List (Addr × Str)) : Ks.FunAt (hd09.heap_39 w.params) ⟨mg, T⟩ "_law_turned" s_law_turned := by
  refine' Ks.funAt_of X G ?a ?l ?c ?k
  (case a => k_is); (case l => k_is); (case c => k_is); (case k => k_is)
theorem t_f_rises (X : (hd09.heap_39 w.params).In h) (G : h.Ns mainGlobals mg) (T : List (Addr × Str)) : Ks.FunAt (hd09.heap_39 w.params) ⟨mg, T⟩ "rises" s_rises := by
  refine' Ks.funAt_of X G ?a ?l ?c ?k
  (case a => k_is); (case l => k_is); (case c => k_is); (case k => k_is)
theorem t_f_are_numbers (X : (hd09.heap_39 w.params).In h) (G : h.Ns mainGlobals mg) (T : List (Addr × Str)) : Ks.FunAt (hd09.heap_39 w.params) ⟨mg, T⟩ "are_numbers" s_are_numbers := by
  refine' Ks.funAt_of X G ?a ?l ?c ?k
  (case a => k_is); (case l => k_is); (case c => k_is); (case k => k_is)
theorem t_f_is_rope (X : (hd09.heap_39 w.params).In h) (G : h.Ns mainGlobals mg) (T : List (Addr × Str)) : Ks.FunAt (hd09.heap_39 w.params) ⟨mg, T⟩ "is_rope" s_is_rope := by
  refine' Ks.funAt_of X G ?a ?l ?c ?k
  (case a => k_is); (case l => k_is); (case c => k_is); (case k => k_is)
theorem t_f_need_rope (X : (hd09.heap_39 w.params).In h) (G : h.Ns mainGlobals mg) (T : List (Addr × Str)) : Ks.FunAt (hd09.heap_39 w.params) ⟨mg, T⟩ "need_rope" s_need_rope := by
  refine' Ks.funAt_of X G ?a ?l ?c ?k
  (case a => k_is); (case l => k_is); (case c => k_is); (case k => k_is)
theorem t_f_gauge (X : (hd09.heap_39 w.params).In h) (G : h.Ns mainGlobals mg) (T : List (Addr × Str)) : Ks.FunAt (hd09.heap_39 w.params) ⟨mg, T⟩ "gauge" s_gauge := by
  refine' Ks.funAt_of X G ?a ?l ?c ?k
  (case a => k_is); (case l => k_is); (case c => k_is); (case k => k_is)
theorem t_f_law_whole (X : (hd09.heap_39 w.params).In h) (G : h.Ns mainGlobals mg) (T : List (Addr × Str)) : Ks.FunAt (hd09.heap_39 w.params) ⟨mg, T⟩ "_law_whole" s_law_whole := by
  refine' Ks.funAt_of X G ?a ?l ?c ?k
  (case a => k_is); (case l => k_is); (case c => k_is); (case k => k_is)
theorem t_f_law_row (X : (hd09.heap_39 w.params).In h) (G : h.Ns mainGlobals mg) (T : List (Addr × Str)) : Ks.FunAt (hd09.heap_39 w.params) ⟨mg, T⟩ "_law_row" s_law_row := by
  refine' Ks.funAt_of X G ?a ?l ?c ?k
  (case a => k_is); (case l => k_is); (case c => k_is); (case k => k_is)
theorem t_f_law_good_rope (X : (hd09.heap_39 w.params).In h) (G : h.Ns mainGlobals mg) (T : List (Addr × Str)) : Ks.FunAt (hd09.heap_39 w.params) ⟨mg, T⟩ "_law_good_rope" s_law_good_rope := by
  refine' Ks.funAt_of X G ?a ?l ?c ?k
  (case a => k_is); (case l => k_is); (case c => k_is); (case k => k_is)
theorem t_f_law_all (X : (hd09.heap_39 w.params).In h) (G : h.Ns mainGlobals mg) (T : List (Addr × Str)) : Ks.FunAt (hd09.heap_39 w.params) ⟨mg, T⟩ "_law_all" s_law_all := by
  refine' Ks.funAt_of X G ?a ?l ?c ?k
  (case a => k_is); (case l => k_is); (case c => k_is); (case k => k_is)
theorem t_f_law_spans (X : (hd09.heap_39 w.params).In h) (G : h.Ns mainGlobals mg) (T : List (Addr × Str)) : Ks.FunAt (hd09.heap_39 w.params) ⟨mg, T⟩ "_law_spans" s_law_spans := by
  refine' Ks.funAt_of X G ?a ?l ?c ?k
  (case a => k_is); (case l => k_is); (case c => k_is); (case k => k_is)
theorem t_f_law_gauge (X : (hd09.heap_39 w.params).In h) (G : h.Ns mainGlobals mg) (T : List (Addr × Str)) : Ks.FunAt (hd09.heap_39 w.params) ⟨mg, T⟩ "_law_gauge" s_law_gauge := by
  refine' Ks.funAt_of X G ?a ?l ?c ?k
  (case a => k_is); (case l => k_is); (case c => k_is); (case k => k_is)
theorem t_f_law_full (X : (hd09.heap_39 w.params).In h) (G : h.Ns mainGlobals mg) (T : List (Addr × Str)) : Ks.FunAt (hd09.heap_39 w.params) ⟨mg, T⟩ "_law_full" s_law_full := by
  refine' Ks.funAt_of X G ?a ?l ?c ?k
  (case a => k_is); (case l => k_is); (case c => k_is); (case k => k_is)
theorem t_b_ValueError (X : (hd09.heap_39 w.params).In h) (G : h.Ns mainGlobals mg) (T : List (Addr × Str)) : mg "ValueError" = none := by
  refine' PySem.W.mg_none_of X G ?a
  k_is
theorem t_b_abs (X : (hd09.heap_39 w.params).In h) (G : h.Ns mainGlobals mg) (T : List (Addr × Str)) : mg "abs" = none := by
  refine' PySem.W.mg_none_of X G ?a
  k_is
theorem t_b_all (X : (hd09.heap_39 w.params).In h) (G : h.Ns mainGlobals mg) (T : List (Addr × Str)) : mg "all" = none := by
  refine' PySem.W.mg_none_of X G ?a
  k_is
theorem t_b_bool (X : (hd09.heap_39 w.params).In h) (G : h.Ns mainGlobals mg) (T : List (Addr × Str)) : mg "bool" = none := by
  refine' PySem.W.mg_none_of X G ?a
  k_is
theorem t_b_enumerate (X : (hd09.heap_39 w.params).In h) (G : h.Ns mainGlobals mg) (T : List (Addr × Str)) : mg "enumerate" = none := by
  refine' PySem.W.mg_none_of X G ?a
  k_is
theorem t_b_int (X : (hd09.heap_39 w.params).In h) (G : h.Ns mainGlobals mg) (T : List (Addr × Str)) : mg "int" = none := by
  refine' PySem.W.mg_none_of X G ?a
  k_is
theorem t_b_isinstance (X : (hd09.heap_39 w.params).In h) (G : h.Ns mainGlobals mg) (T : List (Addr × Str)) : mg "isinstance" = none := by
  refine' PySem.W.mg_none_of X G ?a
  k_is
theorem t_b_len (X : (hd09.heap_39 w.params).In h) (G : h.Ns mainGlobals mg) (T : List (Addr × Str)) : mg "len" = none := by
  refine' PySem.W.mg_none_of X G ?a
  k_is
theorem t_b_list (X : (hd09.heap_39 w.params).In h) (G : h.Ns mainGlobals mg) (T : List (Addr × Str)) : mg "list" = none := by
  refine' PySem.W.mg_none_of X G ?a
  k_is
theorem t_b_max (X : (hd09.heap_39 w.params).In h) (G : h.Ns mainGlobals mg) (T : List (Addr × Str)) : mg "max" = none := by
  refine' PySem.W.mg_none_of X G ?a
  k_is
theorem t_b_min (X : (hd09.heap_39 w.params).In h) (G : h.Ns mainGlobals mg) (T : List (Addr × Str)) : mg "min" = none := by
  refine' PySem.W.mg_none_of X G ?a
  k_is
theorem t_b_range (X : (hd09.heap_39 w.params).In h) (G : h.Ns mainGlobals mg) (T : List (Addr × Str)) : mg "range" = none := by
  refine' PySem.W.mg_none_of X G ?a
  k_is
theorem t_b_sorted (X : (hd09.heap_39 w.params).In h) (G : h.Ns mainGlobals mg) (T : List (Addr × Str)) : mg "sorted" = none := by
  refine' PySem.W.mg_none_of X G ?a
  k_is
theorem t_b_str (X : (hd09.heap_39 w.params).In h) (G : h.Ns mainGlobals mg) (T : List (Addr × Str)) : mg "str" = none := by
  refine' PySem.W.mg_none_of X G ?a
  k_is
theorem t_b_tuple (X : (hd09.heap_39 w.params).In h) (G : h.Ns mainGlobals mg) (T : List (Addr × Str)) : mg "tuple" = none := by
  refine' PySem.W.mg_none_of X G ?a
  k_is
theorem t_b_zip (X : (hd09.heap_39 w.params).In h) (G : h.Ns mainGlobals mg) (T : List (Addr × Str)) : mg "zip" = none := by
  refine' PySem.W.mg_none_of X G ?a
  k_is
theorem t_c_MOST_FULL (X : (hd09.heap_39 w.params).In h) (G : h.Ns mainGlobals mg) (T : List (Addr × Str)) : ∃ t, mg "MOST_FULL" = some (.int (6) t) := by
  have e : ∃ v, mg "MOST_FULL" = some v ∧ ∃ t, v = .int (6) t := by
    refine' ⟨_, PySem.W.mg_of X G ?a, ?b⟩
    (case a => k_is)
    exact ⟨_, rfl⟩
  obtain ⟨v, e, t, rfl⟩ := e
  exact ⟨t, e⟩
theorem t_c_MOST_KNOTS (X : (hd09.heap_39 w.params).In h) (G : h.Ns mainGlobals mg) (T : List (Addr × Str)) : ∃ t, mg "MOST_KNOTS" = some (.int (9) t) := by
  have e : ∃ v, mg "MOST_KNOTS" = some v ∧ ∃ t, v = .int (9) t := by
    refine' ⟨_, PySem.W.mg_of X G ?a, ?b⟩
    (case a => k_is)
    exact ⟨_, rfl⟩
  obtain ⟨v, e, t, rfl⟩ := e
  exact ⟨t, e⟩
theorem t_x_InvalidNumber (X : (hd09.heap_39 w.params).In h) (G : h.Ns mainGlobals mg) (T : List (Addr × Str)) : Ks.ExcAt (hd09.heap_39 w.params) ⟨mg, T⟩ "InvalidNumber" := by
  refine' Ks.excAt_of X G ?a ?e ?k ?b ?t
  (case a => k_is); (case e => k_exc); (case k => k_is); (case b => k_is); (case t => k_is)
theorem t_x_InvalidRope (X : (hd09.heap_39 w.params).In h) (G : h.Ns mainGlobals mg) (T : List (Addr × Str)) : Ks.ExcAt (hd09.heap_39 w.params) ⟨mg, T⟩ "InvalidRope" := by
  refine' Ks.excAt_of X G ?a ?e ?k ?b ?t
  (case a => k_is); (case e => k_exc); (case k => k_is); (case b => k_is); (case t => k_is)
theorem t_ke (X : (hd09.heap_39 w.params).In h) (G : h.Ns mainGlobals mg) (T : List (Addr × Str)) : mg "KnotError" = some (.ref 24) := by
  refine' PySem.W.mg_of X G ?a
  k_is
theorem txt (X : (hd09.heap_39 w.params).In h) (G : h.Ns mainGlobals mg) (V : ∃ t, mg "GREAT" = some (.int 1000000000000000000000000000000 t)) (T : List (Addr × Str)) : Txt (hd09.heap_39 w.params) ⟨mg, T⟩ 24 where
  f_law_names := t_f_law_names X G T
  f_law_word := t_f_law_word X G T
  f_law_coil := t_f_law_coil X G T
  f_law_wind := t_f_law_wind X G T
  f_law_pick := t_f_law_pick X G T
  f_law_any_rope := t_f_law_any_rope X G T
  f_law_any_value := t_f_law_any_value X G T
  f_law_bent := t_f_law_bent X G T
  f_many_spans := t_f_many_spans X G T
  f_is_integer := t_f_is_integer X G T
  f_spans_by := t_f_spans_by X G T
  f_gauge_by := t_f_gauge_by X G T
  f_full_with := t_f_full_with X G T
  f_full_gauges := t_f_full_gauges X G T
  f_law_turned := t_f_law_turned X G T
  f_rises := t_f_rises X G T
  f_are_numbers := t_f_are_numbers X G T
  f_is_rope := t_f_is_rope X G T
  f_need_rope := t_f_need_rope X G T
  f_gauge := t_f_gauge X G T
  f_law_whole := t_f_law_whole X G T
  f_law_row := t_f_law_row X G T
  f_law_good_rope := t_f_law_good_rope X G T
  f_law_all := t_f_law_all X G T
  f_law_spans := t_f_law_spans X G T
  f_law_gauge := t_f_law_gauge X G T
  f_law_full := t_f_law_full X G T
  b_ValueError := t_b_ValueError X G T
  b_abs := t_b_abs X G T
  b_all := t_b_all X G T
  b_bool := t_b_bool X G T
  b_enumerate := t_b_enumerate X G T
  b_int := t_b_int X G T
  b_isinstance := t_b_isinstance X G T
  b_len := t_b_len X G T
  b_list := t_b_list X G T
  b_max := t_b_max X G T
  b_min := t_b_min X G T
  b_range := t_b_range X G T
  b_sorted := t_b_sorted X G T
  b_str := t_b_str X G T
  b_tuple := t_b_tuple X G T
  b_zip := t_b_zip X G T
  c_GREAT := V
  c_MOST_FULL := t_c_MOST_FULL X G T
  c_MOST_KNOTS := t_c_MOST_KNOTS X G T
  x_InvalidNumber := t_x_InvalidNumber X G T
  x_InvalidRope := t_x_InvalidRope X G T
  ke := t_ke X G T
  words := words X G T
end
theorem lawE {w : World} {K : Frag} {mg : Str → Option Value} {h : Heap} {fa c P KE : Addr} {oc kV doc pm ct : Value} {od an : Option Addr} {osl : Array (Option Value)} (X : K.In h) (hP : h.get? P = some (tabObj #[])) (nP : K.lookup P = none)
    (T : ∀ (base : Heap) (T : List (Addr × Str)), K.In base → base.Ns mainGlobals mg → Txt K ⟨mg, T⟩ KE) (lk : K.lookup fa = some ⟨oc, od, .func (fnOf "law" "law" (L2.defArgs s_law) (L2.defBody s_law) (L2.defScope s_law) .none kV doc pm an (.ref c) ct), osl⟩) (hcd : codeIn K (.ref c) "law" = true) (C : codeHdIn K c P = true)
    (hm : ∀ ns : List Int, ns.length ≤ 63 → F_law [.scr ns] (fun v => v = .d (.bool true)) (fun _ => False)) : LamX.LawAtS PySem.Challenge.rw_knotspans_k09_gauges_of_ropes w K (L2N.CX (PySem.Challenge.rw_knotspans_k09_gauges_of_ropes).prog w) 50 63 "script" mg fa h := by
  have hF : ∀ base : Heap, K.In base → base.Ns mainGlobals mg → LamX.TabB base mg c P → L2.FnOk (PySem.Challenge.rw_knotspans_k09_gauges_of_ropes).prog w K mg base (L2N.CX (PySem.Challenge.rw_knotspans_k09_gauges_of_ropes).prog w) 50 fa (fnOf "law" "law" (L2.defArgs s_law) (L2.defBody s_law) (L2.defScope s_law) .none kV doc pm an (.ref c) ct) ["script"] (Ks.spF K ⟨mg, [(P, (envOfC "law" (L2.defScope s_law) 0 0 (.ref c)).qual ++ "<lambda>")]⟩ 1 F_law) := fun base Kb Gb TB =>
    d_law (mg := ⟨mg, [(P, (envOfC "law" (L2.defScope s_law) 0 0 (.ref c)).qual ++ "<lambda>")]⟩) (T base _ Kb Gb) TB (List.mem_singleton.mpr rfl) (fun p hp _ => congrArg Prod.snd (List.mem_singleton.mp hp)) lk hcd
  have hb : ∀ (s : Shared) (u : Value), BindsTo s (fnOf "law" "law" (L2.defArgs s_law) (L2.defBody s_law) (L2.defScope s_law) .none kV doc pm an (.ref c) ct) ⟨[u], []⟩ [("script", u)] := fun s u => .of_eq rfl
  exact Ks.lawAt1 X hP nP C hb (fun ns hl _ => hm ns hl) hF
theorem holds (hm : ∀ ns : List Int, ns.length ≤ 63 → F_law [.scr ns] (fun v => v = .d (.bool true)) (fun _ => False)) : PySem.Challenge.rw_knotspans_k09_gauges_of_ropes.Holds := hd09 (by
  refine Ks.walk_ks (n := 63) (k := 50) (K := hd09.heap_39) (x := "script") rfl (by decide) rfl ⟨rfl, by decide, by decide⟩ fun w mg fa h XX Y G hmg => ?_
  have X : (hd09.heap_39 w.params).In h := km_in_of Y
  have e0 : nsIn (hd09.heap_39 w.params) mainGlobals "law" = some (some (.ref 425)) := by k_is
  have e : fa = 425 := by
    have z := PySem.W.mg_of X G e0
    have hmg' : mg "law" = some (.ref fa) := hmg
    rw [hmg'] at z
    exact Value.ref.inj (Option.some.inj z)
  subst e
  have V : ∃ t, mg "GREAT" = some (.int 1000000000000000000000000000000 t) := by
    obtain ⟨v, e1, e2⟩ := XX.2.val (Str.ofString "GREAT", .int 1000000000000000000000000000000) (List.mem_singleton.mpr rfl)
    cases e2
    exact ⟨_, e1⟩
  refine ⟨X, ?_⟩
  refine' lawE X (km_tabs_of Y 422 (List.mem_singleton.mpr rfl)) ?nP (fun base T Kb Gb => txt Kb Gb V T) ?lk ?hcd ?C hm
  (case lk => k_is); (case hcd => k_is); (case nP => kernel_rfl); (case C => kernel_rfl))
end Lw
end

section
set_option Elab.async false
set_option linter.all false
set_option maxRecDepth 100000
set_option maxHeartbeats 4000000
namespace Lw
open PySem PySem.Spec PyProof.Rows L2 Ks
theorem atI_int {α : Type} {ns : List α} {k : Int} (h0 : 0 ≤ k) (h1 : k < (ns.length : Nat)) : ∃ n, n ∈ ns ∧ ns[k.toNat]? = some n ∧ atI ns k = some n := by
  obtain ⟨j, rfl⟩ := Int.eq_ofNat_of_zero_le h0
  have hj : j < ns.length := by omega
  refine ⟨ns[j], List.getElem_mem hj, by simp [hj], ?_⟩
  exact atI_nat (by simp [hj])
theorem pos_ok {a b : Int} (h : 0 < b) : (fun _ j : Int => 0 < j) a b := h
theorem L_coil {ns : List Int} {k : Int} {Q : Dv → Prop} {Ex : Exn → Prop} (hk : 0 ≤ k) (h : Q .coil) : F_law_coil [.scr ns, .d (.int k)] Q Ex := by
  have key : ∀ cell : Int, 0 ≤ cell → t_law_coil_1 (endM Q Ex) [some (.scr ns), some (.d (.int k)), some (.d (.int cell))] := fun cell hc => by
    have fin : ∀ a : Int, 0 ≤ a → (mCons (mBin fAdd (mBin fMod (mCB fInt (mCons (mBin fAdd (mBin fAdd (mBin fMulA (mVar 2) (mC (.int 61))) (mBin fMulA (mC (.int 7309)) (mVar 1))) (mC (.int 17))) mNil)) (mC (.int 2147483587))) (mC (.int 1))) mNil) [some (.scr ns), some (.d (.int k)), some (.d (.int cell))]
        (fun xs => match dts (.d (.int a) :: xs) with
          | some ps => (match ps with
            | [.int a, .int b] => 0 ≤ a ∧ 0 ≤ b ∧ b ≤ 2147483587 ∧ Q .coil
            | _ => False)
          | none => False) Ex := fun a ha => by
      refine And.intro (.inl (.inr (by decide))) (And.intro (.inl (.inl (by decide))) (And.intro (show (0 : Int) < _ by decide) ?_))
      have e := Int.emod_lt_of_pos (cell * 61 + 7309 * k + 17) (show (0 : Int) < 2147483587 by decide)
      have e0 := Int.emod_nonneg (cell * 61 + 7309 * k + 17) (show (2147483587 : Int) ≠ 0 by decide)
      exact And.intro ha (And.intro (by omega) (And.intro (by omega) h))
    refine And.intro ⟨by decide, by decide, by decide⟩ ?_
    show (if decide ((10 : Int) ^ (18 : Int).toNat ≤ cell) = true then _ else _)
    split
    · exact fin cell hc
    · exact fin 0 (Int.le_refl 0)
  show (if decide (k < ((ns.length : Nat) : Int)) = true then _ else _)
  split
  · rename_i hlt
    have hlt : k < ((ns.length : Nat) : Int) := by simpa using hlt
    obtain ⟨n, _, _, e⟩ := atI_int hk hlt
    refine Exists.intro n (And.intro e (And.intro rfl ?_))
    refine key (if n < 0 then -n else n) ?_
    split <;> omega
  · refine And.intro (.inl (.inl (by decide))) (And.intro rfl ?_)
    exact key (307 * k + 41) (by omega)
theorem L_wind {many : Int} {Q : Dv → Prop} {Ex : Exn → Prop} (h0 : 0 < many) (hb : many.natAbs.log2 < 9000) (h : ∀ n : Int, 0 ≤ n → n < many → Q (.d (.int n))) : F_law_wind [.coil, .d (.int many)] Q Ex := by
  have fin : ∀ x : Int, Q (.d (.int (x % many))) := fun x => h _ (Int.emod_nonneg _ (by omega)) (Int.emod_lt_of_pos _ h0)
  refine .inl (And.intro rfl fun a ha => ?_)
  show (if decide ((0 : Int) < a) = true then _ else _)
  split
  · refine .inl (And.intro rfl fun b hb0 => And.intro (show (0 : Int) < many from h0) (And.intro rfl ?_))
    refine .inl (And.intro rfl fun c hc => And.intro ⟨h0, hb⟩ (And.intro (Int.ediv_nonneg hc (by omega)) (And.intro (.inl rfl) (And.intro rfl (fin b)))))
  · refine .inr (And.intro rfl fun b hb0 hb1 => And.intro (.inl (.inr (by decide))) (And.intro (show (0 : Int) < _ by decide) ?_))
    have e := Int.emod_lt_of_pos (b * 46021 + 151) (show (0 : Int) < 2147483587 by decide)
    have e0 := Int.emod_nonneg (b * 46021 + 151) (show (2147483587 : Int) ≠ 0 by decide)
    refine And.intro e0 (And.intro (.inr (And.intro rfl (by omega))) ?_)
    refine .inr (And.intro rfl fun c hc0 hc1 => ?_)
    refine .inr (And.intro rfl fun d hd0 hd1 => And.intro ⟨by decide, by decide⟩ ?_)
    refine And.intro (.inl (.inl ⟨by omega, by omega⟩)) (And.intro (show (0 : Int) < _ by decide) (And.intro rfl ?_))
    exact And.intro ⟨by decide, by decide⟩ (And.intro (show (0 : Int) < many from h0) (And.intro rfl (fin _)))
theorem L_pick {ds : List Dt} {x : Dv} {Q : Dv → Prop} {Ex : Exn → Prop} (hx : x = .d (.list ds) ∨ x = .d (.tuple ds)) (h0 : ds ≠ []) (h1 : ds.length ≤ 1000) (h : ∀ d ∈ ds, Q (.d d)) : F_law_pick [.coil, x] Q Ex := by
  have hp : 0 < ds.length := List.length_pos_iff.mpr h0
  have lg : ((ds.length : Nat) : Int).natAbs.log2 < 9000 := by
    have : ((ds.length : Nat) : Int).natAbs = ds.length := by omega
    rw [this]
    exact Nat.lt_of_le_of_lt (Nat.log2_le_self _) (by omega)
  rcases hx with rfl | rfl
  · refine And.intro rfl (L_wind (by omega) lg fun n n0 n1 => ?_)
    obtain ⟨d, hd, _, e⟩ := atI_int n0 n1
    exact Exists.intro d (And.intro e (And.intro rfl (h d hd)))
  · refine And.intro rfl (L_wind (by omega) lg fun n n0 n1 => ?_)
    obtain ⟨d, hd, _, e⟩ := atI_int n0 n1
    exact Exists.intro d (And.intro e (And.intro rfl (h d hd)))
end Lw
end

section
set_option Elab.async false
set_option linter.all false
set_option maxRecDepth 100000
set_option maxHeartbeats 4000000
namespace Lw
open PySem PySem.Spec PyProof.Rows L2 Ks
theorem eqv_int (a b : Int) : PyData.eqv (.int a) (.int b) = (a == b) := by unfold PyData.eqv; rfl
theorem shaped_int (a : Int) : SeqAt.shaped (.int a) = true := by
  unfold SeqAt.shaped PyData.canLay0 PyData.depth; rfl
theorem mB_eqI {i : Nat} {a c : Int} {ρ : Ks.Env} {Q : Bool → Prop} {Ex : Exn → Prop} (e : ρ[i]? = some (some (.d (.int a)))) (h : Q (a == c)) : mB (mBin fEq (mVar i) (mC (.int c))) ρ Q Ex := by
  show mVar i ρ _ Ex
  unfold mVar
  rw [e]
  refine And.intro (shaped_int a) (And.intro (shaped_int c) ?_)
  show Q (PyData.eqv (.int a) (.int c))
  rw [eqv_int]
  exact h
def IsRope (ns : List Int) : Prop := 2 ≤ ns.length ∧ ns.length ≤ 9 ∧ ns[0]? = some 0 ∧ ns.Pairwise (· < ·) ∧ ∀ n ∈ ns, 0 ≤ n ∧ n ≤ 10 ^ 30
theorem ilst_app (xs ys : List Int) : ilst (xs ++ ys) = ilst xs ++ ilst ys := by simp [ilst]
abbrev EvR (way : Int) (rope turn times known place : Option Dv) : Ks.Env := [some .coil, some (.d (.int 2)), some (.d (.int 9)), some (.d (.int way)), rope, turn, times, known, place]
theorem times_rope {times : Int} {ks : List Int} (h0 : 0 < times) (h1 : times ≤ 10 ^ 28 + 100) (l2 : 2 ≤ ks.length) (l9 : ks.length ≤ 9) (hd : ks[0]? = some 0) (up : ks.Pairwise (· < ·)) (hb : ∀ k ∈ ks, 0 ≤ k ∧ k ≤ 17) : IsRope (ks.map (· * times)) := by
  refine ⟨by simpa using l2, by simpa using l9, by rw [List.getElem?_map, hd]; simp, ?_, ?_⟩
  · rw [List.pairwise_map]
    exact up.imp fun h => Int.mul_lt_mul_of_pos_right h h0
  · intro n hn
    obtain ⟨k, hk, rfl⟩ := List.mem_map.mp hn
    obtain ⟨b0, b1⟩ := hb k hk
    have e1 := Int.mul_nonneg b0 (Int.le_of_lt h0)
    have e2 := Int.mul_le_mul_of_nonneg_right b1 (Int.le_of_lt h0)
    exact ⟨e1, by omega⟩
theorem known_rope {times : Int} (h0 : 0 < times) (h1 : times ≤ 10 ^ 28 + 100) {ks : List Int} (hk : ks = [0, 1, 4, 10, 12, 17] ∨ ks = [0, 1, 8, 11, 13, 17]) : IsRope (ks.map (· * times)) := by
  rcases hk with rfl | rfl
  · exact times_rope h0 h1 (by decide) (by decide) rfl (by decide) (by decide)
  · exact times_rope h0 h1 (by decide) (by decide) rfl (by decide) (by decide)
/-- what the growing rope is: k gaps so far -/
structure Grown (ns : List Int) (k : Nat) : Prop where
  len : ns.length = k + 1
  hd : ns[0]? = some 0
  up : ns.Pairwise (· < ·)
  le : ∀ n ∈ ns, 0 ≤ n ∧ n ≤ k * 10 ^ 29
theorem Grown.one : Grown [0] 0 := ⟨rfl, rfl, by simp, by simp⟩
theorem Grown.more {ns : List Int} {l x : Int} {k : Nat} (g : Grown (ns ++ [l]) k) (h1 : l < x) (h2 : x ≤ l + 10 ^ 29) : Grown ((ns ++ [l]) ++ [x]) (k + 1) := by
  have hl := g.le l (by simp)
  refine ⟨by rw [List.length_append, g.len]; rfl, ?_, ?_, ?_⟩
  · rw [List.getElem?_append_left (by rw [g.len]; omega)]; exact g.hd
  · rw [List.pairwise_append]
    refine ⟨g.up, by simp, fun a ha b hb => ?_⟩
    obtain rfl : b = x := by simpa using hb
    rcases List.mem_append.mp ha with z | z
    · have := (List.pairwise_append.mp g.up).2.2 a z l (by simp)
      omega
    · obtain rfl : a = l := by simpa using z
      exact h1
  · intro n hn
    rcases List.mem_append.mp hn with z | z
    · have := g.le n z
      push_cast
      omega
    · obtain rfl : n = x := by simpa using z
      push_cast
      omega
theorem Grown.rope {ns : List Int} {k : Nat} (g : Grown ns k) (h1 : 1 ≤ k) (h8 : k ≤ 8) : IsRope ns := by
  refine ⟨by rw [g.len]; omega, by rw [g.len]; omega, g.hd, g.up, fun n hn => ?_⟩
  have := g.le n hn
  omega
theorem L_any_rope {Q : Dv → Prop} {Ex : Exn → Prop} (h : ∀ ns, IsRope ns → Q (.d (.tuple (ilst ns)))) : F_law_any_rope [.coil, .d (.int 2), .d (.int 9)] Q Ex := by
  have grow : ∀ way : Int, 1 ≤ way → way < 7 → t_law_any_rope_6 (endM Q Ex) (EvR way none none none none none) := fun way w0 w1 => by
    refine And.intro rfl ?_
    refine And.intro rfl (L_wind (by decide) (by decide +kernel) fun m m0 m1 => ?_)
    have hm : (2 : Int) - 1 + m = ((m.toNat + 1 : Nat) : Int) := by omega
    show (-(2 ^ 62) ≤ (2 : Int) - 1 + m ∧ (2 : Int) - 1 + m < 2 ^ 62 ∧ forL (fName 5) t_law_any_rope_3 _ (rngD 0 ((2 : Int) - 1 + m).toNat) (EvR way (some (.d (.tuple (ilst [0])))) none none none none))
    refine ⟨by omega, by omega, ?_⟩
    have hlen : (rngD 0 ((2 : Int) - 1 + m).toNat).length = m.toNat + 1 := by
      unfold rngD
      simp
      omega
    refine forL_inv (fun ds ρ => ∃ ns k turn, Grown ns k ∧ k + ds.length = m.toNat + 1 ∧ ρ = EvR way (some (.d (.tuple (ilst ns)))) turn none none none) (fun d ds ρ N i hN => ?_) (fun ρ i => ?_) _ _ ⟨[0], 0, none, Grown.one, by rw [hlen]; omega, rfl⟩
    · obtain ⟨ns, k, turn, g, e, rfl⟩ := i
      have hne : ns ≠ [] := fun z => by have := g.len; rw [z] at this; simp at this
      obtain ⟨i, l, rfl⟩ : ∃ i l, ns = i ++ [l] := ⟨ns.dropLast, ns.getLast hne, (List.dropLast_concat_getLast hne).symm⟩
      have ea : atI (ilst (i ++ [l])) (-1) = some (.int l) := by rw [ilst_app]; exact atI_last _ _
      refine Exists.intro _ (And.intro ea ?_)
      refine And.intro ⟨by decide, by decide, by decide⟩ ?_
      obtain ⟨d', hd', _, e'⟩ := atI_int (ns := ilst [2, 3, 6, 12, 40, 10 ^ 29]) (k := way - 1) (by omega) (by rw [ilst_len]; simp; omega)
      obtain ⟨gap, hg, rfl⟩ := ilst_map_mem hd'
      have hgap : 0 < gap ∧ gap ≤ 10 ^ 29 := by
        simp only [List.mem_cons, List.not_mem_nil, or_false] at hg
        omega
      refine Exists.intro _ (And.intro e' ?_)
      refine And.intro rfl (L_wind hgap.1 ?_ fun x x0 x1 => ?_)
      · have : gap.natAbs < 2 ^ 100 := by omega
        exact Nat.lt_of_lt_of_le (PySem.Flt.log2_lt_of (by decide) this) (by decide)
      · have e0 := e
        rw [List.length_cons] at e0
        refine And.intro ?_ (And.intro rfl ?_)
        · rw [ilst_len, g.len]
          show k + 1 + 1 ≤ sizeLine
          have : sizeLine = 16777216 := sizeLine_eq
          omega
        · refine hN _ ⟨(i ++ [l]) ++ [l + 1 + x], k + 1, some (.d d), g.more (by omega) (by omega), by omega, ?_⟩
          rw [ilst_app (i ++ [l])]
          rfl
    · obtain ⟨ns, k, turn, g, e, rfl⟩ := i
      have e : k = m.toNat + 1 := by simpa using e
      exact And.intro rfl (h ns (g.rope (by omega) (by omega)))
  refine And.intro rfl (L_wind (by decide) (by decide +kernel) fun way w0 w1 => And.intro rfl ?_)
  show t_law_any_rope_7 (endM Q Ex) (EvR way none none none none none)
  unfold t_law_any_rope_7 mSeq mIfS mAnd
  refine mB_eqI (a := way) rfl ?_
  by_cases hw : way = 0
  · subst hw
    have tail : ∀ times : Int, 0 < times → times ≤ 10 ^ 28 + 100 → t_law_any_rope_2 (endM Q Ex) (EvR 0 none none (some (.d (.int times))) none none) := fun times h0 h1 => by
      refine And.intro rfl (L_pick (ds := [.tuple (ilst [0, 1, 4, 10, 12, 17]), .tuple (ilst [0, 1, 8, 11, 13, 17])]) (.inl rfl) (by simp) (by simp) fun d hd => And.intro rfl ?_)
      have hks : ∃ ks : List Int, (ks = [0, 1, 4, 10, 12, 17] ∨ ks = [0, 1, 8, 11, 13, 17]) ∧ d = .tuple (ilst ks) := by
        simp only [List.mem_cons, List.not_mem_nil, or_false] at hd
        rcases hd with rfl | rfl
        · exact ⟨_, .inl rfl, rfl⟩
        · exact ⟨_, .inr rfl, rfl⟩
      obtain ⟨ks, hk, rfl⟩ := hks
      refine lcL_map (fun d => match d with | .int k => .int (k * times) | x => x) (ilst ks) ?_ (fun d hd K1 K2 k => ?_) ?_
      · rw [ilst_len]
        rcases hk with rfl | rfl <;> decide
      · obtain ⟨n, hn, rfl⟩ := ilst_map_mem hd
        refine And.intro (.inl (.inl ?_)) k
        have : 0 ≤ n ∧ n ≤ 17 := by
          rcases hk with rfl | rfl <;> (simp only [List.mem_cons, List.not_mem_nil, or_false] at hn; omega)
        omega
      · have e : (ilst ks).map (fun d => match d with | .int k => .int (k * times) | x => x) = ilst (ks.map (· * times)) := by
          unfold ilst
          rw [List.map_map, List.map_map]
          rfl
        rw [e]
        exact And.intro rfl (h _ (known_rope h0 h1 hk))
    refine And.intro ⟨by decide, by decide, by decide⟩ ?_
    refine And.intro rfl (L_wind (by decide) (by decide +kernel) fun n n0 n1 => ?_)
    refine And.intro rfl (L_pick (ds := ilst [1, 3, 10 ^ 28 + n]) (.inl rfl) (by simp [ilst]) (by simp [ilst]) fun d hd => And.intro rfl ?_)
    obtain ⟨t, ht, rfl⟩ := ilst_map_mem hd
    simp only [List.mem_cons, List.not_mem_nil, or_false] at ht
    exact tail t (by omega) (by omega)
  · have hb : (way == 0) = false := by simpa using hw
    rw [hb]
    exact grow way (by omega) w1
end Lw
end

section
set_option Elab.async false
set_option linter.all false
set_option maxRecDepth 100000
set_option maxHeartbeats 4000000
namespace Lw
open PySem PySem.Spec PyProof.Rows L2 Ks
def topLen : Dt → Nat
  | .list ds => ds.length
  | .tuple ds => ds.length
  | _ => 0
/-- a value whose size is bounded -/
def odB (k m : Nat) (d : Dt) : Bool := d.canLay0 && decide (d.depth ≤ k) && decide (topLen d ≤ m)
theorem odB_iff {k m : Nat} {d : Dt} : odB k m d = true ↔ d.canLay0 = true ∧ d.depth ≤ k ∧ topLen d ≤ m := by
  unfold odB
  simp [and_assoc]
theorem lay_all : ∀ {ds : List Dt}, (∀ d ∈ ds, d.canLay0 = true) → PyData.canLayAll0 ds = true
  | [], _ => by unfold PyData.canLayAll0; rfl
  | d :: ds, h => by
    unfold PyData.canLayAll0
    rw [h d List.mem_cons_self, lay_all fun x hx => h x (List.mem_cons_of_mem _ hx)]
    rfl
theorem depth_all {k : Nat} : ∀ {ds : List Dt}, (∀ d ∈ ds, d.depth ≤ k) → PyData.depthAll ds ≤ k
  | [], _ => by unfold PyData.depthAll; exact Nat.zero_le _
  | d :: ds, h => by
    unfold PyData.depthAll
    have h1 := h d List.mem_cons_self
    have h2 := depth_all (ds := ds) fun x hx => h x (List.mem_cons_of_mem _ hx)
    exact Nat.max_le.mpr ⟨h1, h2⟩
theorem od_list {k m n : Nat} {ds : List Dt} (h : ∀ d ∈ ds, odB k m d = true) (hl : ds.length ≤ n) : odB (k + 1) n (.list ds) = true ∧ odB (k + 1) n (.tuple ds) = true := by
  have h1 : PyData.canLayAll0 ds = true := lay_all fun d hd => (odB_iff.mp (h d hd)).1
  have h2 : PyData.depthAll ds ≤ k := depth_all fun d hd => (odB_iff.mp (h d hd)).2.1
  refine ⟨odB_iff.mpr ⟨?_, ?_, hl⟩, odB_iff.mpr ⟨?_, ?_, hl⟩⟩
  · unfold PyData.canLay0; exact h1
  · unfold PyData.depth; omega
  · unfold PyData.canLay0; exact h1
  · unfold PyData.depth; omega
theorem od_mono {k m k' m' : Nat} {d : Dt} (h : odB k m d = true) (h1 : k ≤ k') (h2 : m ≤ m') : odB k' m' d = true := by
  obtain ⟨a, b, c⟩ := odB_iff.mp h
  exact odB_iff.mpr ⟨a, by omega, by omega⟩
theorem shaped_od {k m : Nat} {d : Dt} (h : odB k m d = true) (hk : k ≤ 64) : SeqAt.shaped d = true := by
  obtain ⟨a, b, c⟩ := odB_iff.mp h
  unfold SeqAt.shaped
  rw [a]
  simp
  omega
theorem fEq_ii {a c : Int} {K : Dv → Prop} (h : K (.d (.bool (a == c)))) : fEq (.d (.int a)) (.d (.int c)) K := by
  refine And.intro (shaped_int a) (And.intro (shaped_int c) ?_)
  show K (.d (.bool (PyData.eqv (.int a) (.int c))))
  rw [eqv_int]
  exact h
section
variable {Q : Dv → Prop} {Ex : Exn → Prop} {S : List Dt} {rec : List Dv → M Dv}
abbrev EvV (deep : Int) (S : List Dt) (row part : Option Dv) : Ks.Env := [some .coil, some (.d (.int deep)), some (.d (.list S)), row, part]
theorem V3_0 (h0 : S ≠ []) (h1 : S.length ≤ 1000) (hS : S.all (odB 4 8) = true) (h : ∀ d, odB 4 8 d = true → Q (.d d)) : t_law_any_value_3 rec (endM Q Ex) (EvV 0 S none none) := by
  unfold t_law_any_value_3 mSeq mIfS mOr
  refine mB_eqI (a := 0) rfl ?_
  exact And.intro rfl (L_pick (.inl rfl) h0 h1 fun d hd => And.intro rfl (h d (List.all_eq_true.mp hS d hd)))
theorem V3_1 (h0 : S ≠ []) (h1 : S.length ≤ 1000) (hS : S.all (odB 4 8) = true) (hrec : ∀ (Q : Dv → Prop) (Ex : Exn → Prop), (∀ d, odB 4 8 d = true → Q (.d d)) → rec [.coil, .d (.int 0)] Q Ex) (h : ∀ d, odB 5 8 d = true → Q (.d d)) : t_law_any_value_3 rec (endM Q Ex) (EvV 1 S none none) := by
  unfold t_law_any_value_3 mSeq mIfS mOr
  refine mB_eqI (a := 1) rfl ?_
  refine And.intro rfl (L_wind (by decide) (by decide +kernel) fun n n0 n1 => ?_)
  show (if decide (n < 6) = true then mRet _ _ _ else mNext _ _)
  split
  · exact And.intro rfl (L_pick (.inl rfl) h0 h1 fun d hd => And.intro rfl (h d (od_mono (List.all_eq_true.mp hS d hd) (by decide) (by decide))))
  · show t_law_any_value_2 rec (endM Q Ex) (EvV 1 S none none)
    refine And.intro rfl (L_wind (by decide) (by decide +kernel) fun m m0 m1 => ?_)
    refine And.intro (by omega) (And.intro (by omega) ?_)
    have hlen : (rngD 0 m.toNat).length = m.toNat := by unfold rngD; simp
    refine lcL_all (fun p => odB 4 8 p = true) _ [] (by rw [hlen]; show 0 + m.toNat < sizeLine; have : sizeLine = 16777216 := sizeLine_eq; omega) (fun d hd K1 K2 k => ?_) fun ps hps hP => ?_
    · exact And.intro rfl (hrec _ _ fun d hd => k d hd)
    · rw [hlen] at hps
      obtain ⟨o1, o2⟩ := od_list (n := 8) hP (by omega)
      refine And.intro rfl (And.intro rfl (L_wind (by decide) (by decide +kernel) fun n n0 n1 => ?_))
      unfold mC
      refine fEq_ii ?_
      show (if (n == 0) = true then _ else _)
      split
      · exact And.intro rfl (h _ o1)
      · exact And.intro rfl (h _ o2)
theorem L_any_value_0 (n : Nat) (h : ∀ d, odB 4 8 d = true → Q (.d d)) : F_law_any_value (n + 1) [.coil, .d (.int 0)] Q Ex := by
  refine And.intro ⟨by decide, by decide, by decide⟩ (And.intro ⟨by decide, by decide, by decide⟩ (And.intro rfl ?_))
  refine And.intro (sz16 (by decide)) (And.intro rfl ?_)
  refine And.intro (sz16 (by decide)) (And.intro rfl ?_)
  exact V3_0 (by simp) (by decide) (by decide +kernel) h
theorem L_any_value_1 (n : Nat) (h : ∀ d, odB 5 8 d = true → Q (.d d)) : F_law_any_value (n + 2) [.coil, .d (.int 1)] Q Ex := by
  refine And.intro ⟨by decide, by decide, by decide⟩ (And.intro ⟨by decide, by decide, by decide⟩ (And.intro rfl ?_))
  refine And.intro (sz16 (by decide)) (And.intro rfl ?_)
  refine And.intro (sz16 (by decide)) (And.intro rfl ?_)
  exact V3_1 (by simp) (by decide) (by decide +kernel) (fun Q Ex hq => L_any_value_0 n hq) h
end
end Lw
end

section
set_option Elab.async false
set_option linter.all false
set_option maxRecDepth 100000
set_option maxHeartbeats 4000000
namespace Lw
open PySem PySem.Spec PyProof.Rows L2 Ks
theorem char_lt (c : Char) : c.toNat < 0x110000 := by
  rcases c.valid with h | h
  · exact Nat.lt_trans h (by decide)
  · exact h.2
theorem strOk_of (s : String) : PyData.strOk (Str.ofString s) = true := by
  rw [Str.ofString_eq_byList]
  unfold Str.ofStringByList PyData.strOk
  simp only [List.all_toArray, List.all_map, List.all_eq_true, Function.comp, decide_eq_true_eq]
  exact fun c _ => char_lt c
theorem od_int {k m : Nat} (x : Int) : odB k m (.int x) = true := odB_iff.mpr ⟨by unfold PyData.canLay0; rfl, by unfold PyData.depth; omega, Nat.zero_le _⟩
theorem od_bool {k m : Nat} (x : Bool) : odB k m (.bool x) = true := odB_iff.mpr ⟨by unfold PyData.canLay0; rfl, by unfold PyData.depth; omega, Nat.zero_le _⟩
theorem od_str {k m : Nat} (x : String) : odB k m (.str (Str.ofString x)) = true := odB_iff.mpr ⟨by unfold PyData.canLay0; exact strOk_of x, by unfold PyData.depth; omega, Nat.zero_le _⟩
section
variable {Q : Dv → Prop} {Ex : Exn → Prop}
theorem fIsI_of {x : Dv} {t T : String} {b : Bool} {K : Dv → Prop} (h2 : tyD x = some t) (h3 : isiB t T = some b) (h1 : ["int", "bool", "str", "list", "tuple"].contains T = true) (h : K (.d (.bool b))) : fIsI [x, .ty T] K := by
  unfold fIsI
  refine ⟨h1, ?_⟩
  rw [h2]
  show match isiB t T with | some b => K (.d (.bool b)) | none => False
  rw [h3]
  exact h
theorem mB_isi {i : Nat} {x : Dv} {t T : String} {b : Bool} {ρ : Ks.Env} {K : Bool → Prop} (e : ρ[i]? = some (some x)) (h2 : tyD x = some t) (h3 : isiB t T = some b) (h1 : ["int", "bool", "str", "list", "tuple"].contains T = true) (h : K b) : mB (mCB fIsI (mCons (mVar i) (mCons (mTy T) mNil))) ρ K Ex := by
  show mVar i ρ _ Ex
  unfold mVar
  rw [e]
  exact fIsI_of (K := fun x => match x with | .d (.bool k) => K k | _ => False) h2 h3 h1 h
abbrev EvB (v : Dt) (at_ way near : Option Dv) : Ks.Env := [some .coil, some (.d v), at_, way, near]
theorem L_bent_int (n : Nat) (v : Int) (hv : v.natAbs.log2 < 1900) (h : ∀ d, odB 5 8 d = true → Q (.d d)) : F_law_bent (n + 1) [.coil, .d (.int v)] Q Ex := by
  show b_law_bent (F_law_bent n) (endM Q Ex) (EvB (.int v) none none none)
  refine w_seq (w_if (w_or (w_not ?_)))
  refine mB_isi (x := .d (.int v)) rfl (t := "int") rfl (b := false) (by decide +kernel) (by decide +kernel) ?_
  refine And.intro rfl (L_any_value_1 3 fun d1 h1 => And.intro rfl (L_any_value_1 3 fun d2 h2 => And.intro rfl ?_))
  show t_law_bent_2 (F_law_bent n) (endM Q Ex) (EvB (.int v) none none (some (.d (.list [d1, d2]))))
  refine w_seq (w_if ?_)
  refine mB_isi (x := .d (.int v)) rfl (t := "int") rfl (b := false) (by decide +kernel) (by decide +kernel) ?_
  refine iteF (w_if ?_)
  refine mB_isi (x := .d (.int v)) rfl (t := "int") rfl (b := true) (by decide +kernel) (by decide +kernel) ?_
  refine And.intro (by omega) (And.intro ⟨by decide, by decide, by decide⟩ (And.intro (sz16 (by simp)) (And.intro rfl ?_)))
  refine And.intro rfl (L_pick (.inl rfl) (by simp) (by simp) fun d hd => And.intro rfl (h d ?_))
  simp only [List.cons_append, List.nil_append, List.mem_cons, List.not_mem_nil, or_false] at hd
  rcases hd with rfl | rfl | rfl | rfl | rfl | rfl | rfl | rfl
  · exact h1
  · exact h2
  · exact od_int _
  · exact od_int _
  · exact od_bool _
  · exact od_str _
  · exact od_int _
  · exact od_int _
end
end Lw
end

section
set_option Elab.async false
set_option linter.all false
set_option maxRecDepth 100000
set_option maxHeartbeats 4000000
namespace Lw
open PySem PySem.Spec PyProof.Rows L2 Ks
theorem cut_mem {ds : List Dt} {lo hi : Option Int} {d : Dt} (h : d ∈ Ks.cutD ds lo hi) : d ∈ ds := by
  unfold Ks.cutD at h
  exact List.mem_of_mem_drop (List.mem_of_mem_take h)
theorem cut_len (ds : List Dt) (lo hi : Option Int) : (Ks.cutD ds lo hi).length ≤ ds.length := by
  unfold Ks.cutD
  rw [List.length_take, List.length_drop]
  omega
section
variable {Q : Dv → Prop} {Ex : Exn → Prop}
theorem B1 {rec : List Dv → M Dv} {v : Dt} {a w : Option Dv} {ds : List Dt} (h0 : ds ≠ []) (h1 : ds.length ≤ 1000) (h : ∀ d ∈ ds, Q (.d d)) : t_law_bent_1 rec (endM Q Ex) (EvB v a w (some (.d (.list ds)))) :=
  And.intro rfl (L_pick (.inl rfl) h0 h1 fun d hd => And.intro rfl (h d hd))
theorem eqI_c {a c : Int} {i : Nat} {m n : MS} {B : Me} {ρ : Ks.Env} (e : ρ[i]? = some (some (.d (.int a)))) (h1 : a = c → m B ρ) (h2 : a ≠ c → n B ρ) : mIfS (mB (mBin fEq (mVar i) (mC (.int c)))) m n B ρ := by
  refine w_if (mB_eqI e ?_)
  by_cases hc : a = c
  · have : (a == c) = true := by simpa using hc
    rw [this]
    exact iteT (h1 hc)
  · have : (a == c) = false := by simpa using hc
    rw [this]
    exact iteF (h2 hc)
theorem L_bent_rope (n : Nat) {ns : List Int} (hr : IsRope ns) (h : ∀ d, odB 6 20 d = true → Q (.d d)) : F_law_bent (n + 2) [.coil, .d (.tuple (ilst ns))] Q Ex := by
  obtain ⟨l2, l9, _, _, hb⟩ := hr
  have hlen : (ilst ns).length = ns.length := ilst_len ns
  have sz : ∀ k : Nat, k ≤ 1000 → k ≤ sizeLine := fun k hk => sz16 hk
  have oi : ∀ d ∈ ilst ns, odB 5 8 d = true := fun d hd => by
    obtain ⟨x, _, rfl⟩ := ilst_map_mem hd
    exact od_int x
  have tup : ∀ ds : List Dt, (∀ d ∈ ds, odB 5 8 d = true) → ds.length ≤ 20 → Q (.d (.tuple ds)) ∧ Q (.d (.list ds)) := fun ds h1 h2 => ⟨h _ (od_list h1 h2).2, h _ (od_list h1 h2).1⟩
  show b_law_bent (F_law_bent (n + 1)) (endM Q Ex) (EvB (.tuple (ilst ns)) none none none)
  refine w_seq (w_if (w_or (w_not ?_)))
  refine mB_isi (x := .d (.tuple (ilst ns))) rfl (t := "tuple") rfl (b := true) (by decide +kernel) (by decide +kernel) ?_
  refine iteF (w_or (w_B (w_bin (w_var (x := .d (.tuple (ilst ns))) rfl ?_))))
  have sh : SeqAt.shaped (.tuple (ilst ns)) = true := shaped_od (od_list (n := 1000) oi (by omega)).2 (by decide)
  have ne : PyData.eqv (.tuple (ilst ns)) (.tuple []) = false := by
    cases ns with
    | nil => simp at l2
    | cons a r =>
      show PyData.eqv (.tuple (.int a :: ilst r)) (.tuple []) = false
      unfold PyData.eqv PyData.eqvAll
      rfl
  refine And.intro sh (And.intro (by decide +kernel) ?_)
  show (if PyData.eqv (.tuple (ilst ns)) (.tuple []) = true then _ else _)
  rw [ne]
  refine iteF (w_B (w_bin (w_call (w_cons (w_var (x := .coil) rfl (w_cons (w_c (w_nil (And.intro rfl (L_wind (by decide) (by decide +kernel) fun m m0 m1 => w_c (fEq_ii ?_)))))))))))
  show (if (m == 0) = true then _ else _)
  split
  · refine w_seq (w_set (w_val (w_f (w_lst (w_cons ?_)))))
    refine w_call (w_cons (w_var (x := .coil) rfl (w_cons (w_c (w_nil ?_)))))
    refine And.intro rfl (L_any_value_1 3 fun d1 h1 => ?_)
    refine w_cons ?_
    refine w_call (w_cons (w_var (x := .coil) rfl (w_cons (w_c (w_nil ?_)))))
    refine And.intro rfl (L_any_value_1 3 fun d2 h2 => w_nil (And.intro rfl ?_))
    show t_law_bent_2 (F_law_bent (n + 1)) (endM Q Ex) (EvB (.tuple (ilst ns)) none none (some (.d (.list [d1, d2]))))
    refine w_seq (w_if ?_)
    refine mB_isi (x := .d (.tuple (ilst ns))) rfl (t := "tuple") rfl (b := false) (by decide +kernel) (by decide +kernel) ?_
    refine iteF (w_if ?_)
    refine mB_isi (x := .d (.tuple (ilst ns))) rfl (t := "tuple") rfl (b := false) (by decide +kernel) (by decide +kernel) ?_
    refine iteF (w_nx ?_)
    show t_law_bent_1 (F_law_bent (n + 1)) (endM Q Ex) (EvB (.tuple (ilst ns)) none none (some (.d (.list [d1, d2]))))
    refine B1 (by simp) (by simp) fun d hd => h d ?_
    simp only [List.mem_cons, List.not_mem_nil, or_false] at hd
    rcases hd with rfl | rfl
    · exact od_mono h1 (by decide) (by decide)
    · exact od_mono h2 (by decide) (by decide)
  · have lg : (((ilst ns).length : Nat) : Int).natAbs.log2 < 9000 := by
      have : (((ilst ns).length : Nat) : Int).natAbs = (ilst ns).length := by omega
      rw [this]
      exact Nat.lt_of_le_of_lt (Nat.log2_le_self _) (by omega)
    refine w_nx ?_
    show t_law_bent_8 (F_law_bent (n + 1)) (endM Q Ex) (EvB (.tuple (ilst ns)) none none none)
    refine And.intro rfl (L_wind (by omega) lg fun at_ a0 a1 => And.intro rfl ?_)
    refine And.intro rfl (L_wind (by decide) (by decide +kernel) fun way w0 w1 => And.intro rfl ?_)
    show t_law_bent_7 (F_law_bent (n + 1)) (endM Q Ex) (EvB (.tuple (ilst ns)) (some (.d (.int at_))) (some (.d (.int way))) none)
    have cm : ∀ lo hi, ∀ d ∈ Ks.cutD (ilst ns) lo hi, odB 5 8 d = true := fun lo hi d hd => oi d (cut_mem hd)
    have cl : ∀ lo hi, (Ks.cutD (ilst ns) lo hi).length ≤ 9 := fun lo hi => Nat.le_trans (cut_len _ _ _) (by omega)
    have two : ∀ lo hi lo' hi', (Ks.cutD (ilst ns) lo hi).length + (Ks.cutD (ilst ns) lo' hi').length ≤ sizeLine ∧ (Dv.d (.tuple (Ks.cutD (ilst ns) lo hi ++ Ks.cutD (ilst ns) lo' hi'))).isOwn = false ∧ Q (.d (.tuple (Ks.cutD (ilst ns) lo hi ++ Ks.cutD (ilst ns) lo' hi'))) := fun lo hi lo' hi' => by
      have c1 := cl lo hi
      have c2 := cl lo' hi'
      refine ⟨sz _ (by omega), rfl, (tup _ (fun d hd => ?_) (by rw [List.length_append]; omega)).1⟩
      rcases List.mem_append.mp hd with z | z
      · exact cm _ _ d z
      · exact cm _ _ d z
    refine w_seq (eqI_c (a := way) rfl (fun _ => two _ _ _ _) fun _ => ?_)
    refine w_nx ?_
    show t_law_bent_6 (F_law_bent (n + 1)) (endM Q Ex) (EvB (.tuple (ilst ns)) (some (.d (.int at_))) (some (.d (.int way))) none)
    refine w_seq (eqI_c (a := way) rfl (fun _ => two _ _ _ _) fun _ => ?_)
    refine w_nx ?_
    show t_law_bent_5 (F_law_bent (n + 1)) (endM Q Ex) (EvB (.tuple (ilst ns)) (some (.d (.int at_))) (some (.d (.int way))) none)
    refine w_seq (eqI_c (a := way) rfl (fun _ => And.intro rfl ?_) fun _ => ?_)
    · exact (tup _ (fun d hd => oi d (List.mem_reverse.mp hd)) (by rw [List.length_reverse]; omega)).1
    · refine w_nx ?_
      show t_law_bent_4 (F_law_bent (n + 1)) (endM Q Ex) (EvB (.tuple (ilst ns)) (some (.d (.int at_))) (some (.d (.int way))) none)
      refine w_seq (eqI_c (a := way) rfl (fun _ => And.intro rfl (tup _ oi (by omega)).2) fun _ => ?_)
      refine w_nx ?_
      show t_law_bent_3 (F_law_bent (n + 1)) (endM Q Ex) (EvB (.tuple (ilst ns)) (some (.d (.int at_))) (some (.d (.int way))) none)
      obtain ⟨d0, hd0, _, e0⟩ := atI_int (ns := ilst ns) a0 a1
      obtain ⟨x, hx, rfl⟩ := ilst_map_mem hd0
      have hx2 := hb x hx
      refine Exists.intro _ (And.intro e0 (And.intro rfl (L_bent_int n x ?_ fun d hd => ?_)))
      · have : x.natAbs < 2 ^ 120 := by omega
        exact Nat.lt_of_lt_of_le (PySem.Flt.log2_lt_of (by decide) this) (by decide)
      · have c1 := cl none (some at_)
        have c2 := cl (some (at_ + 1)) none
        refine And.intro (sz _ (by simp; omega)) (And.intro (sz _ (by simp; omega)) (And.intro rfl (tup _ (fun z hz => ?_) (by simp; omega)).1))
        rcases List.mem_append.mp hz with hz | hz
        · rcases List.mem_append.mp hz with hz | hz
          · exact cm _ _ z hz
          · obtain rfl : z = d := by simpa using hz
            exact hd
        · exact cm _ _ z hz
end
end Lw
end

section
set_option Elab.async false
set_option linter.all false
set_option maxRecDepth 100000
set_option maxHeartbeats 4000000
namespace Lw
open PySem PySem.Spec PyProof.Rows L2 Ks
def isWhole (lo hi : Int) : Dt → Bool
  | .int x => decide (lo ≤ x) && decide (x ≤ hi)
  | _ => false
section
variable {Q : Dv → Prop} {Ex : Exn → Prop}
theorem L_is_integer {d : Dt} {lo hi : Int} (hd : d.canLay0 = true) (h : Q (.d (.bool (isWhole lo hi d)))) : F_is_integer [.d d, .d (.int lo), .d (.int hi)] Q Ex := by
  show mRet (mAndV (mCB fIsI (mCons (mVar 0) (mCons (mTy "int") mNil))) (mAndV (mNotV (mCB fIsI (mCons (mVar 0) (mCons (mTy "bool") mNil)))) (mChain fLe fLe (mVar 1) (mVar 0) (mVar 2)))) (endM Q Ex) [some (.d d), some (.d (.int lo)), some (.d (.int hi))]
  have no : ∀ t, tyD (.d d) = some t → isiB t "int" = some false → Q (.d (.bool false)) → mRet (mAndV (mCB fIsI (mCons (mVar 0) (mCons (mTy "int") mNil))) (mAndV (mNotV (mCB fIsI (mCons (mVar 0) (mCons (mTy "bool") mNil)))) (mChain fLe fLe (mVar 1) (mVar 0) (mVar 2)))) (endM Q Ex) [some (.d d), some (.d (.int lo)), some (.d (.int hi))] := fun t h1 h2 q => by
    exact fIsI_of (t := t) (K := fun x => match x with
      | .d (.bool c) => if c = true then (mAndV (mNotV (mCB fIsI (mCons (mVar 0) (mCons (mTy "bool") mNil)))) (mChain fLe fLe (mVar 1) (mVar 0) (mVar 2))) [some (.d d), some (.d (.int lo)), some (.d (.int hi))] (fun x => x.isOwn = false ∧ Q x) Ex else (Dv.d (.bool false)).isOwn = false ∧ Q (.d (.bool false))
      | _ => False) h1 h2 (by decide +kernel) (iteF (And.intro rfl q))
  cases d with
  | none => exact no "NoneType" rfl (by decide +kernel) h
  | str x => exact no "str" rfl (by decide +kernel) h
  | list x => exact no "list" rfl (by decide +kernel) h
  | tuple x => exact no "tuple" rfl (by decide +kernel) h
  | dict x => simp [PyData.canLay0] at hd
  | bool b =>
    refine fIsI_of (x := .d (.bool b)) (T := "int") (t := "bool") (b := true) (K := fun x => match x with
      | .d (.bool c) => if c = true then (mAndV (mNotV (mCB fIsI (mCons (mVar 0) (mCons (mTy "bool") mNil)))) (mChain fLe fLe (mVar 1) (mVar 0) (mVar 2))) [some (.d (.bool b)), some (.d (.int lo)), some (.d (.int hi))] (fun x => x.isOwn = false ∧ Q x) Ex else (Dv.d (.bool false)).isOwn = false ∧ Q (.d (.bool false))
      | _ => False) rfl (by decide +kernel) (by decide +kernel) (iteT ?_)
    exact fIsI_of (x := .d (.bool b)) (T := "bool") (t := "bool") (b := true) (K := fun x => match x with
      | .d (.bool c) => (if (!c) = true then (mChain fLe fLe (mVar 1) (mVar 0) (mVar 2)) [some (.d (.bool b)), some (.d (.int lo)), some (.d (.int hi))] (fun x => x.isOwn = false ∧ Q x) Ex else (Dv.d (.bool false)).isOwn = false ∧ Q (.d (.bool false)))
      | _ => False) rfl (by decide +kernel) (by decide +kernel) (iteF (And.intro rfl h))
  | int x =>
    refine fIsI_of (x := .d (.int x)) (T := "int") (t := "int") (b := true) (K := fun y => match y with
      | .d (.bool c) => if c = true then (mAndV (mNotV (mCB fIsI (mCons (mVar 0) (mCons (mTy "bool") mNil)))) (mChain fLe fLe (mVar 1) (mVar 0) (mVar 2))) [some (.d (.int x)), some (.d (.int lo)), some (.d (.int hi))] (fun x => x.isOwn = false ∧ Q x) Ex else (Dv.d (.bool false)).isOwn = false ∧ Q (.d (.bool false))
      | _ => False) rfl (by decide +kernel) (by decide +kernel) (iteT ?_)
    refine fIsI_of (x := .d (.int x)) (T := "bool") (t := "int") (b := false) (K := fun y => match y with
      | .d (.bool c) => (if (!c) = true then (mChain fLe fLe (mVar 1) (mVar 0) (mVar 2)) [some (.d (.int x)), some (.d (.int lo)), some (.d (.int hi))] (fun x => x.isOwn = false ∧ Q x) Ex else (Dv.d (.bool false)).isOwn = false ∧ Q (.d (.bool false)))
      | _ => False) rfl (by decide +kernel) (by decide +kernel) (iteT ?_)
    show (if decide (lo ≤ x) = true then ((Dv.d (.bool (decide (x ≤ hi)))).isOwn = false ∧ Q (.d (.bool (decide (x ≤ hi))))) else ((Dv.d (.bool false)).isOwn = false ∧ Q (.d (.bool false))))
    have e : isWhole lo hi (.int x) = (decide (lo ≤ x) && decide (x ≤ hi)) := rfl
    rw [e] at h
    cases hc : decide (lo ≤ x) with
    | true => rw [hc, Bool.true_and] at h; exact iteT (And.intro rfl h)
    | false => rw [hc, Bool.false_and] at h; exact iteF (And.intro rfl h)
theorem L_law_whole {d : Dt} {lo hi : Int} (hd : d.canLay0 = true) (h : Q (.d (.bool (isWhole lo hi d)))) : F_law_whole [.d d, .d (.int lo), .d (.int hi)] Q Ex := L_is_integer hd h
end
end Lw
end

section
set_option Elab.async false
set_option linter.all false
set_option maxRecDepth 100000
set_option maxHeartbeats 4000000
namespace Lw
open PySem PySem.Spec PyProof.Rows L2 Ks
def isTup : Dt → Bool
  | .tuple _ => true
  | _ => false
theorem blsOf_map (f : Dt → Bool) : ∀ ds : List Dt, blsOf (ds.map fun d => .bool (f d)) = some (ds.map f)
  | [] => rfl
  | d :: ds => by
    show (blsOf (ds.map fun d => .bool (f d))).map (f d :: ·) = _
    rw [blsOf_map f ds]; rfl
theorem lay_mem : ∀ {ds : List Dt} {d : Dt}, PyData.canLayAll0 ds = true → d ∈ ds → d.canLay0 = true
  | x :: ds, d, h, hd => by
    unfold PyData.canLayAll0 at h
    rw [Bool.and_eq_true] at h
    rcases List.mem_cons.mp hd with rfl | hd
    · exact h.1
    · exact lay_mem h.2 hd
theorem depth_mem : ∀ {ds : List Dt} {d : Dt}, d ∈ ds → d.depth ≤ PyData.depthAll ds
  | x :: ds, d, hd => by
    unfold PyData.depthAll
    rcases List.mem_cons.mp hd with rfl | hd
    · exact Nat.le_max_left _ _
    · exact Nat.le_trans (depth_mem hd) (Nat.le_max_right _ _)
theorem od_mem {k m : Nat} {ds : List Dt} (h : odB k m (.tuple ds) = true) : (∀ d ∈ ds, d.canLay0 = true ∧ d.depth ≤ k) ∧ ds.length ≤ m := by
  obtain ⟨a, b, c⟩ := odB_iff.mp h
  unfold PyData.canLay0 at a
  unfold PyData.depth at b
  exact ⟨fun d hd => ⟨lay_mem a hd, Nat.le_trans (depth_mem hd) (by omega)⟩, c⟩
section
variable {Q : Dv → Prop} {Ex : Exn → Prop}
theorem fIsI_tup {d : Dt} {K : Dv → Prop} (hd : d.canLay0 = true) (h : K (.d (.bool (isTup d)))) : fIsI [.d d, .ty "tuple"] K := by
  cases d with
  | none => exact fIsI_of (t := "NoneType") (b := false) rfl (by decide +kernel) (by decide +kernel) h
  | str x => exact fIsI_of (t := "str") (b := false) rfl (by decide +kernel) (by decide +kernel) h
  | list x => exact fIsI_of (t := "list") (b := false) rfl (by decide +kernel) (by decide +kernel) h
  | tuple x => exact fIsI_of (t := "tuple") (b := true) rfl (by decide +kernel) (by decide +kernel) h
  | dict x => simp [PyData.canLay0] at hd
  | bool x => exact fIsI_of (t := "bool") (b := false) rfl (by decide +kernel) (by decide +kernel) h
  | int x => exact fIsI_of (t := "int") (b := false) rfl (by decide +kernel) (by decide +kernel) h
def allWhole (lo hi : Int) : Dt → Bool
  | .tuple ds => ds.all (isWhole lo hi)
  | _ => false
theorem L_are_numbers {d : Dt} {lo hi : Int} (hd : odB 7 30 d = true) (h : Q (.d (.bool (allWhole lo hi d)))) : F_are_numbers [.d d, .d (.int lo), .d (.int hi)] Q Ex := by
  have ly := (odB_iff.mp hd).1
  refine fIsI_tup (K := fun x => match x with
    | .d (.bool c) => if c = true then (mCB fAll (mCons (mF (mLc (mItemsA (mVar 0)) (fName 3) mYes (mCall F_is_integer (mCons (mVar 3) (mCons (mVar 1) (mCons (mVar 2) mNil)))) [3])) mNil)) [some (.d d), some (.d (.int lo)), some (.d (.int hi)), none] (fun x => x.isOwn = false ∧ Q x) Ex else (Dv.d (.bool false)).isOwn = false ∧ Q (.d (.bool false))
    | _ => False) ly ?_
  show (if isTup d = true then _ else _)
  cases d with
  | tuple ds =>
    obtain ⟨hm, hl⟩ := od_mem hd
    refine iteT ?_
    show lcL (fName 3) mYes (mCall F_is_integer (mCons (mVar 3) (mCons (mVar 1) (mCons (mVar 2) mNil)))) [some (.d (.tuple ds)), some (.d (.int lo)), some (.d (.int hi)), none] _ ds []
    refine lcL_map (fun d => .bool (isWhole lo hi d)) ds ?_ (fun d hd K1 K2 k => ?_) ?_
    · have : sizeLine = 16777216 := sizeLine_eq
      omega
    · exact And.intro rfl (L_is_integer (hm d hd).1 k)
    · show match (some (ds.map fun d => PyData.bool (isWhole lo hi d))).bind blsOf with
        | some bs => (Dv.d (.bool (bs.all id))).isOwn = false ∧ Q (.d (.bool (bs.all id)))
        | none => False
      rw [Option.bind_some, blsOf_map]
      refine And.intro rfl ?_
      have e : (ds.map (isWhole lo hi)).all id = ds.all (isWhole lo hi) := by rw [List.all_map]; rfl
      rw [e]
      exact h
  | none => exact iteF (And.intro rfl h)
  | bool _ => exact iteF (And.intro rfl h)
  | int _ => exact iteF (And.intro rfl h)
  | str _ => exact iteF (And.intro rfl h)
  | list _ => exact iteF (And.intro rfl h)
  | dict _ => exact iteF (And.intro rfl h)
theorem all_ints {lo hi : Int} : ∀ {ds : List Dt}, ds.all (isWhole lo hi) = true → ∃ ns : List Int, ds = ilst ns ∧ ∀ n ∈ ns, lo ≤ n ∧ n ≤ hi
  | [], _ => ⟨[], rfl, fun _ h => nomatch h⟩
  | d :: ds, h => by
    rw [List.all_cons, Bool.and_eq_true] at h
    obtain ⟨ns, rfl, h2⟩ := all_ints h.2
    cases d with
    | int x =>
      have h1 : (decide (lo ≤ x) && decide (x ≤ hi)) = true := h.1
      simp at h1
      refine ⟨x :: ns, rfl, fun n hn => ?_⟩
      rcases List.mem_cons.mp hn with rfl | hn
      · exact h1
      · exact h2 n hn
    | _ => exact absurd h.1 (by simp [isWhole])
end
end Lw
end

section
set_option Elab.async false
set_option linter.all false
set_option maxRecDepth 100000
set_option maxHeartbeats 4000000
namespace Lw
open PySem PySem.Spec PyProof.Rows L2 Ks
def riseB (least : Int) (ns : List Int) : Bool := (ns.zip (ns.drop 1)).all fun p => decide (least ≤ p.2 - p.1)
theorem zipD_ilst : ∀ as bs : List Int, zipD (ilst as) (ilst bs) = (as.zip bs).map fun p => .tuple [.int p.1, .int p.2]
  | [], bs => by cases bs <;> rfl
  | a :: as, [] => rfl
  | a :: as, b :: bs => by
    show PyData.tuple [.int a, .int b] :: zipD (ilst as) (ilst bs) = _
    rw [zipD_ilst as bs]; rfl
theorem cut_tail (ns : List Int) : Ks.cutD (ilst ns) (some 1) none = ilst (ns.drop 1) := by
  unfold Ks.cutD HT.sIx
  cases ns with
  | nil => rfl
  | cons a r =>
    have e : (ilst (a :: r)).length = r.length + 1 := by rw [ilst_len]; rfl
    rw [e]
    show ((ilst (a :: r)).drop _).take _ = ilst r
    have h1 : (min (1 : Int) ((r.length + 1 : Nat) : Int)).toNat = 1 := by omega
    simp only [ilst, List.map_cons]
    show (List.drop (HT.sIx (r.length + 1) 0 (some ((1 : Nat) : Int))) (PyData.int a :: r.map PyData.int)).take (HT.sIx (r.length + 1) (r.length + 1) none - HT.sIx (r.length + 1) 0 (some ((1 : Nat) : Int))) = r.map PyData.int
    rw [HT.sIx_nat, HT.sIx_none, Nat.min_eq_left (by omega)]
    show (r.map PyData.int).take (r.length + 1 - 1) = _
    exact List.take_of_length_le (by simp)
def gapB (least : Int) : Dt → Dt
  | .tuple [.int a, .int b] => .bool (decide (least ≤ b - a))
  | x => x
section
variable {Q : Dv → Prop} {Ex : Exn → Prop}
theorem L_rises {ns : List Int} {least : Int} (hl : ns.length ≤ 1000) (h : Q (.d (.bool (riseB least ns)))) : F_rises [.d (.tuple (ilst ns)), .d (.int least)] Q Ex := by
  have e0 := cut_tail ns
  show lcL (fTup2 (fName 2) (fName 3)) mYes (mBin fGe (mBin fSub (mVar 3) (mVar 2)) (mVar 1)) [some (.d (.tuple (ilst ns))), some (.d (.int least)), none, none] _ (zipD (ilst ns) (Ks.cutD (ilst ns) (some 1) none)) []
  rw [e0, zipD_ilst]
  refine lcL_map (gapB least) _ ?_ (fun d hd K1 K2 k => ?_) ?_
  · rw [List.length_map, List.length_zip, List.length_drop]
    have : sizeLine = 16777216 := sizeLine_eq
    omega
  · obtain ⟨p, hp, rfl⟩ := List.mem_map.mp hd
    exact k
  · have e : ((ns.zip (ns.drop 1)).map fun p : Int × Int => PyData.tuple [.int p.1, .int p.2]).map (gapB least) = (ns.zip (ns.drop 1)).map fun p : Int × Int => PyData.bool (decide (least ≤ p.2 - p.1)) := by
      rw [List.map_map]; rfl
    rw [e]
    have e2 : ∀ l : List (Int × Int), blsOf (l.map fun p => PyData.bool (decide (least ≤ p.2 - p.1))) = some (l.map fun p => decide (least ≤ p.2 - p.1)) := fun l => by
      induction l with
      | nil => rfl
      | cons p l ih =>
        show (blsOf (l.map fun p => PyData.bool (decide (least ≤ p.2 - p.1)))).map _ = _
        rw [ih]; rfl
    show match (some ((ns.zip (ns.drop 1)).map fun p => PyData.bool (decide (least ≤ p.2 - p.1)))).bind blsOf with
      | some bs => (Dv.d (.bool (bs.all id))).isOwn = false ∧ Q (.d (.bool (bs.all id)))
      | none => False
    rw [Option.bind_some, e2]
    refine And.intro rfl ?_
    have e3 : ((ns.zip (ns.drop 1)).map fun p => decide (least ≤ p.2 - p.1)).all id = riseB least ns := by
      unfold riseB
      rw [List.all_map]; rfl
    rw [e3]
    exact h
/-- the ints of a rope -/
def GoodI (ns : List Int) : Prop := (∀ n ∈ ns, 0 ≤ n ∧ n ≤ 10 ^ 30) ∧ 2 ≤ ns.length ∧ ns.length ≤ 9 ∧ ns[0]? = some 0 ∧ riseB 1 ns = true
def IsR (d : Dt) : Prop := ∃ ns, d = .tuple (ilst ns) ∧ GoodI ns
theorem ilst_inj : ∀ {xs ys : List Int}, ilst xs = ilst ys → xs = ys
  | [], [], _ => rfl
  | [], y :: ys, h => by cases h
  | x :: xs, [], h => by cases h
  | x :: xs, y :: ys, h => by
    have h1 : (PyData.int x :: ilst xs) = PyData.int y :: ilst ys := h
    injection h1 with h2 h3
    injection h2 with h2
    rw [h2, ilst_inj h3]
theorem isR_all {d : Dt} (h : IsR d) : allWhole 0 (10 ^ 30) d = true := by
  obtain ⟨ns, rfl, h1, _⟩ := h
  show (ilst ns).all (isWhole 0 (10 ^ 30)) = true
  rw [List.all_eq_true]
  intro x hx
  obtain ⟨n, hn, rfl⟩ := ilst_map_mem hx
  have := h1 n hn
  show (decide (0 ≤ n) && decide (n ≤ 10 ^ 30)) = true
  rw [decide_eq_true this.1, decide_eq_true this.2]; rfl
theorem all_tup {lo hi : Int} {d : Dt} (h : allWhole lo hi d = true) : ∃ ns : List Int, d = .tuple (ilst ns) ∧ ∀ n ∈ ns, lo ≤ n ∧ n ≤ hi := by
  cases d with
  | tuple ds =>
    obtain ⟨ns, rfl, h1⟩ := all_ints (show ds.all (isWhole lo hi) = true from h)
    exact ⟨ns, rfl, h1⟩
  | _ => simp [allWhole] at h
theorem head_ix {ns : List Int} (h : 2 ≤ ns.length) : ∃ n0, ns[0]? = some n0 ∧ atI (ilst ns) 0 = some (.int n0) := by
  cases ns with
  | nil => simp at h
  | cons a r => exact ⟨a, rfl, atI_nat (xs := ilst (a :: r)) (j := 0) rfl⟩
theorem L_is_rope {d : Dt} (hd : odB 7 30 d = true) (h : ∀ b : Bool, (b = true ↔ IsR d) → Q (.d (.bool b))) : F_is_rope [.d d] Q Ex := by
  show b_is_rope (endM Q Ex) [some (.d d)]
  refine w_seq (w_if (w_or (w_not (w_B (w_call (w_cons (w_var (x := .d d) rfl (w_cons (w_c ?_)))))))))
  refine w_cons (w_c (w_nil (And.intro rfl (L_are_numbers hd ?_))))
  show (if (!allWhole 0 1000000000000000000000000000000 d) = true then _ else _)
  cases ha : allWhole 0 1000000000000000000000000000000 d with
  | false =>
    refine iteT (iteT (And.intro rfl (h false ⟨(fun z => nomatch z), fun z => ?_⟩)))
    have this : allWhole 0 1000000000000000000000000000000 d = true := isR_all z
    rw [ha] at this; cases this
  | true =>
    obtain ⟨ns, rfl, hb⟩ := all_tup ha
    refine iteF (w_not (w_B ?_))
    have hl : (ilst ns).length = ns.length := ilst_len ns
    show (if decide ((2 : Int) ≤ (((ilst ns).length : Nat) : Int)) = true then (if (!(decide ((((ilst ns).length : Nat) : Int) ≤ 9))) = true then _ else _) else (if (!false) = true then _ else _))
    rw [hl]
    by_cases h2 : 2 ≤ ns.length
    · have e2 : decide ((2 : Int) ≤ ((ns.length : Nat) : Int)) = true := by simp; omega
      rw [e2]
      refine iteT ?_
      by_cases h9 : ns.length ≤ 9
      · have e9 : decide (((ns.length : Nat) : Int) ≤ 9) = true := by simp; omega
        rw [e9]
        refine iteF (w_nx ?_)
        show t_is_rope_1 (endM Q Ex) [some (.d (.tuple (ilst ns)))]
        obtain ⟨n0, e0, e1⟩ := head_ix h2
        refine Exists.intro _ (And.intro e1 (w_c (fEq_ii ?_)))
        show (if (n0 == 0) = true then _ else _)
        by_cases hn : n0 = 0
        · have : (n0 == 0) = true := by simpa using hn
          rw [this]
          refine iteT (And.intro rfl (L_rises (by omega) (And.intro rfl (h _ ⟨fun z => ⟨ns, rfl, hb, h2, h9, by rw [e0, hn], z⟩, fun ⟨ms, em, hm⟩ => ?_⟩))))
          injection em with em
          rw [ilst_inj em]
          exact hm.2.2.2.2
        · have : (n0 == 0) = false := by simpa using hn
          rw [this]
          refine iteF (And.intro rfl (h false ⟨(fun z => nomatch z), fun ⟨ms, em, hm⟩ => ?_⟩))
          injection em with em
          rw [← ilst_inj em] at hm
          have h0 := hm.2.2.2.1
          rw [e0] at h0
          exact absurd (Option.some.inj h0) hn
      · have e9 : decide (((ns.length : Nat) : Int) ≤ 9) = false := by simp; omega
        rw [e9]
        refine iteT (And.intro rfl (h false ⟨(fun z => nomatch z), fun ⟨ms, em, hm⟩ => ?_⟩))
        injection em with em
        rw [← ilst_inj em] at hm
        exact absurd hm.2.2.1 h9
    · have e2 : decide ((2 : Int) ≤ ((ns.length : Nat) : Int)) = false := by simp; omega
      rw [e2]
      refine iteF (iteT (And.intro rfl (h false ⟨(fun z => nomatch z), fun ⟨ms, em, hm⟩ => ?_⟩)))
      injection em with em
      rw [← ilst_inj em] at hm
      exact absurd hm.2.1 h2
end
end Lw
end

section
set_option Elab.async false
set_option linter.all false
set_option maxRecDepth 100000
set_option maxHeartbeats 4000000
namespace Lw
open PySem PySem.Spec PyProof.Rows L2 Ks
theorem riseB_iff {least : Int} {ns : List Int} : riseB least ns = true ↔ ∀ i, i + 1 < ns.length → least ≤ ns.getD (i + 1) 0 - ns.getD i 0 := by
  unfold riseB
  rw [List.all_eq_true]
  constructor
  · intro h i hi
    have hm : (ns[i], ns[i + 1]) ∈ ns.zip (ns.drop 1) := by
      refine List.mem_of_getElem? (i := i) ?_
      rw [List.getElem?_zip_eq_some]
      refine ⟨by simp, ?_⟩
      rw [List.getElem?_drop, Nat.add_comm]
      simp
    have := h _ hm
    simp only [decide_eq_true_eq] at this
    rw [List.getD_eq_getElem?_getD, List.getD_eq_getElem?_getD, List.getElem?_eq_getElem hi, List.getElem?_eq_getElem (by omega)]
    exact this
  · intro h p hp
    obtain ⟨i, hi⟩ := List.getElem?_of_mem hp
    rw [List.getElem?_zip_eq_some] at hi
    obtain ⟨h1, h2⟩ := hi
    rw [List.getElem?_drop, Nat.add_comm] at h2
    have hl := (List.getElem?_eq_some_iff.mp h2).1
    have := h i hl
    rw [List.getD_eq_getElem?_getD, List.getD_eq_getElem?_getD, h1, h2] at this
    simpa using this
theorem eqv_nil (fs : List Dt) : PyData.eqv (.list fs) (.list []) = fs.isEmpty := by
  cases fs with
  | nil => unfold PyData.eqv PyData.eqvAll; rfl
  | cons a r => unfold PyData.eqv PyData.eqvAll; rfl
theorem shaped_lst {k : Nat} {fs : List Dt} (h : ∀ d ∈ fs, d.canLay0 = true ∧ d.depth ≤ k) (hk : k < 64) : SeqAt.shaped (.list fs) = true := by
  have h1 : PyData.canLayAll0 fs = true := lay_all fun d hd => (h d hd).1
  have h2 : PyData.depthAll fs ≤ k := depth_all fun d hd => (h d hd).2
  unfold SeqAt.shaped PyData.canLay0 PyData.depth
  rw [h1]
  simp
  omega
section
variable {Q : Dv → Prop} {Ex : Exn → Prop}
theorem mB_isTup {i : Nat} {d : Dt} {ρ : Ks.Env} {K : Bool → Prop} (e : ρ[i]? = some (some (.d d))) (hd : d.canLay0 = true) (h : K (isTup d)) : mB (mCB fIsI (mCons (mVar i) (mCons (mTy "tuple") mNil))) ρ K Ex := by
  show mVar i ρ _ Ex
  unfold mVar
  rw [e]
  exact fIsI_tup (K := fun x => match x with | .d (.bool k) => K k | _ => False) hd h
def oWh (lo hi : Int) (d : Dt) : Option Dt := if isWhole lo hi d = true then none else some d
def oGap (ns : List Int) (least : Int) : Dt → Option Dt
  | .int a => if ns.getD a.toNat 0 - ns.getD (a.toNat - 1) 0 < least then some (.int a) else none
  | _ => none
theorem oGap_int (ns : List Int) (least a : Int) : oGap ns least (.int a) = if ns.getD a.toNat 0 - ns.getD (a.toNat - 1) 0 < least then some (.int a) else none := rfl
def RowI (lo hi least : Int) (d : Dt) : Prop := ∃ ns, d = .tuple (ilst ns) ∧ (∀ n ∈ ns, lo ≤ n ∧ n ≤ hi) ∧ riseB least ns = true
theorem atI_getD {ns : List Int} {i : Nat} (h : i < ns.length) : atI (ilst ns) (i : Int) = some (.int (ns.getD i 0)) := by
  refine atI_nat ?_
  unfold ilst
  rw [List.getElem?_map, List.getD_eq_getElem?_getD, List.getElem?_eq_getElem h]
  rfl
theorem L_law_row {d : Dt} {lo hi least : Int} (hd : odB 7 30 d = true) (h : ∀ g : Bool, (g = true ↔ RowI lo hi least d) → Q (.d (.bool g))) : F_law_row [.d d, .d (.int lo), .d (.int hi), .d (.int least)] Q Ex := by
  have ly := (odB_iff.mp hd).1
  show b_law_row (endM Q Ex) [some (.d d), some (.d (.int lo)), some (.d (.int hi)), some (.d (.int least)), none, none]
  refine w_seq (w_if (w_or (w_not (mB_isTup (d := d) rfl ly ?_))))
  cases d with
  | tuple ds =>
    obtain ⟨hm, hl⟩ := od_mem hd
    refine iteF (w_B (w_bin (w_f ?_)))
    show lcL (fName 5) (mNot (mB (mCall F_law_whole (mCons (mVar 5) (mCons (mVar 1) (mCons (mVar 2) mNil)))))) (mVar 5) [some (.d (.tuple ds)), some (.d (.int lo)), some (.d (.int hi)), some (.d (.int least)), none, none] _ ds []
    refine lcL_fm (oWh lo hi) ds [] (by have : sizeLine = 16777216 := sizeLine_eq; simp; omega) (fun d hd K1 K2 k => ?_) ?_
    · refine And.intro rfl (L_law_whole (hm d hd).1 ?_)
      show (if (!isWhole lo hi d) = true then _ else _)
      unfold oWh at k
      cases hw : isWhole lo hi d with
      | true => rw [hw] at k; exact iteF k
      | false => rw [hw] at k; exact iteT k
    · rw [List.nil_append]
      have sh : SeqAt.shaped (.list (ds.filterMap (oWh lo hi))) = true := shaped_lst (k := 7) (fun d hd => by
        obtain ⟨x, hx, e⟩ := List.mem_filterMap.mp hd
        unfold oWh at e
        split at e
        · cases e
        · injection e with e; subst e; exact hm x hx) (by decide)
      refine w_f (w_lst (w_nil (And.intro sh (And.intro (by decide +kernel) ?_))))
      show (if (!PyData.eqv (.list (ds.filterMap (oWh lo hi))) (.list [])) = true then _ else _)
      rw [eqv_nil]
      cases he : (ds.filterMap (oWh lo hi)).isEmpty with
      | false =>
        refine iteT (And.intro rfl (h false ⟨(fun z => nomatch z), fun ⟨ns, e, hb, _⟩ => ?_⟩))
        injection e with e
        subst e
        have : (ilst ns).filterMap (oWh lo hi) = [] := by
          rw [List.filterMap_eq_nil_iff]
          intro x hx
          obtain ⟨n, hn, rfl⟩ := ilst_map_mem hx
          have := hb n hn
          unfold oWh isWhole
          simp [this]
        rw [this] at he
        cases he
      | true =>
        have hnil := List.isEmpty_iff.mp he
        have hall : ds.all (isWhole lo hi) = true := by
          rw [List.all_eq_true]
          intro x hx
          have := List.filterMap_eq_nil_iff.mp hnil x hx
          unfold oWh at this
          split at this
          · assumption
          · cases this
        obtain ⟨ns, rfl, hb⟩ := all_ints hall
        have hln : (ilst ns).length = ns.length := ilst_len ns
        refine iteF (w_nx ?_)
        show t_law_row_1 (endM Q Ex) [some (.d (.tuple (ilst ns))), some (.d (.int lo)), some (.d (.int hi)), some (.d (.int least)), none, none]
        refine w_ret (w_bin (w_f ?_))
        refine And.intro ⟨by decide, by decide, by omega, by omega⟩ ?_
        have hr : ((((ilst ns).length : Nat) : Int) - 1).toNat = ns.length - 1 := by omega
        rw [hr]
        have rm : ∀ d ∈ rngD 1 (ns.length - 1), ∃ i : Nat, i + 1 < ns.length ∧ d = .int ((i + 1 : Nat) : Int) := fun d hd => by
          unfold rngD at hd
          obtain ⟨i, hi, rfl⟩ := List.mem_map.mp hd
          have := List.mem_range.mp hi
          exact ⟨i, by omega, by congr 1; omega⟩
        refine lcL_fm (oGap ns least) _ [] (by unfold rngD; simp; have : sizeLine = 16777216 := sizeLine_eq; omega) (fun d hd K1 K2 k => ?_) ?_
        · obtain ⟨i, hi, rfl⟩ := rm d hd
          refine Exists.intro _ (And.intro (atI_getD hi) ?_)
          have e1 : (((i + 1 : Nat) : Int) - 1) = (i : Int) := by omega
          show ∃ p, atI (ilst ns) (((i + 1 : Nat) : Int) - 1) = some p ∧ _
          rw [e1]
          refine Exists.intro _ (And.intro (atI_getD (by omega)) ?_)
          show (if decide (ns.getD (i + 1) 0 - ns.getD i 0 < least) = true then K1 (.int ((i + 1 : Nat) : Int)) else K2)
          rw [oGap_int] at k
          have e2 : (((i + 1 : Nat) : Int)).toNat = i + 1 := by omega
          rw [e2] at k
          by_cases hc : ns.getD (i + 1) 0 - ns.getD i 0 < least
          · rw [decide_eq_true hc]
            rw [if_pos (show ns.getD (i + 1) 0 - ns.getD (i + 1 - 1) 0 < least from hc)] at k
            exact iteT k
          · rw [decide_eq_false hc]
            rw [if_neg (show ¬ ns.getD (i + 1) 0 - ns.getD (i + 1 - 1) 0 < least from hc)] at k
            exact iteF k
        · rw [List.nil_append]
          have sh2 : SeqAt.shaped (.list ((rngD 1 (ns.length - 1)).filterMap (oGap ns least))) = true := shaped_lst (k := 7) (fun d hd => by
            obtain ⟨x, hx, e⟩ := List.mem_filterMap.mp hd
            obtain ⟨i, hi, rfl⟩ := rm x hx
            rw [oGap_int] at e
            split at e
            · injection e with e
              subst e
              exact ⟨by unfold PyData.canLay0; rfl, by unfold PyData.depth; omega⟩
            · cases e) (by decide)
          refine w_f (w_lst (w_nil (And.intro sh2 (And.intro (by decide +kernel) (And.intro rfl ?_)))))
          show Q (.d (.bool (PyData.eqv (.list ((rngD 1 (ns.length - 1)).filterMap (oGap ns least))) (.list []))))
          rw [eqv_nil]
          refine h _ ?_
          rw [List.isEmpty_iff, List.filterMap_eq_nil_iff]
          constructor
          · intro hz
            refine ⟨ns, rfl, hb, riseB_iff.mpr fun i hi => ?_⟩
            have hz' := hz (.int (1 + (i : Nat))) (by unfold rngD; exact List.mem_map.mpr ⟨i, List.mem_range.mpr (by omega), rfl⟩)
            rw [oGap_int] at hz'
            have e2 : (1 + (i : Int)).toNat = i + 1 := by omega
            rw [e2] at hz'
            split at hz'
            · cases hz'
            · rename_i hc
              have : ns.getD (i + 1 - 1) 0 = ns.getD i 0 := rfl
              omega
          · intro ⟨ms, e, _, hrise⟩ x hx
            injection e with e
            rw [← ilst_inj e] at hrise
            obtain ⟨i, hi, rfl⟩ := rm x hx
            have := riseB_iff.mp hrise i hi
            rw [oGap_int]
            have e2 : (((i + 1 : Nat) : Int)).toNat = i + 1 := by omega
            rw [e2]
            have e3 : ns.getD (i + 1 - 1) 0 = ns.getD i 0 := rfl
            rw [if_neg (by omega)]
  | none => exact iteT (iteT (And.intro rfl (h false ⟨(fun z => nomatch z), fun ⟨ns, e, _⟩ => nomatch e⟩)))
  | bool _ => exact iteT (iteT (And.intro rfl (h false ⟨(fun z => nomatch z), fun ⟨ns, e, _⟩ => nomatch e⟩)))
  | int _ => exact iteT (iteT (And.intro rfl (h false ⟨(fun z => nomatch z), fun ⟨ns, e, _⟩ => nomatch e⟩)))
  | str _ => exact iteT (iteT (And.intro rfl (h false ⟨(fun z => nomatch z), fun ⟨ns, e, _⟩ => nomatch e⟩)))
  | list _ => exact iteT (iteT (And.intro rfl (h false ⟨(fun z => nomatch z), fun ⟨ns, e, _⟩ => nomatch e⟩)))
  | dict _ => exact iteT (iteT (And.intro rfl (h false ⟨(fun z => nomatch z), fun ⟨ns, e, _⟩ => nomatch e⟩)))
theorem L_good_rope {d : Dt} (hd : odB 7 30 d = true) (h : ∀ b : Bool, (b = true ↔ IsR d) → Q (.d (.bool b))) : F_law_good_rope [.d d] Q Ex := by
  show mRet _ (endM Q Ex) [some (.d d)]
  refine And.intro ⟨by decide, by decide, by decide⟩ (And.intro rfl (L_law_row (lo := 0) (hi := 10 ^ 30) (least := 1) hd fun g hg => ?_))
  show (if g = true then _ else _)
  cases g with
  | false =>
    refine iteF (And.intro rfl (h false ⟨(fun z => nomatch z), fun ⟨ns, e, hG⟩ => ?_⟩))
    exact hg.mpr ⟨ns, e, hG.1, hG.2.2.2.2⟩
  | true =>
    obtain ⟨ns, rfl, hb, hr⟩ := hg.mp rfl
    have hl : (ilst ns).length = ns.length := ilst_len ns
    refine iteT ?_
    show (if decide ((2 : Int) ≤ (((ilst ns).length : Nat) : Int)) = true then (if decide ((((ilst ns).length : Nat) : Int) ≤ 9) = true then _ else _) else (if false = true then _ else _))
    rw [hl]
    by_cases h2 : 2 ≤ ns.length
    · have e2 : decide ((2 : Int) ≤ ((ns.length : Nat) : Int)) = true := by simp; omega
      rw [e2]
      refine iteT ?_
      by_cases h9 : ns.length ≤ 9
      · have e9 : decide (((ns.length : Nat) : Int) ≤ 9) = true := by simp; omega
        rw [e9]
        obtain ⟨n0, e0, e1⟩ := head_ix h2
        refine iteT (Exists.intro _ (And.intro e1 (w_c (fEq_ii (And.intro rfl (h _ ?_))))))
        constructor
        · intro z
          exact ⟨ns, rfl, hb, h2, h9, by rw [e0, show n0 = 0 by simpa using z], hr⟩
        · intro ⟨ms, em, hm⟩
          injection em with em
          rw [← ilst_inj em] at hm
          have h0 := hm.2.2.2.1
          rw [e0] at h0
          simpa using Option.some.inj h0
      · have e9 : decide (((ns.length : Nat) : Int) ≤ 9) = false := by simp; omega
        rw [e9]
        refine iteF (And.intro rfl (h false ⟨(fun z => nomatch z), fun ⟨ms, em, hm⟩ => ?_⟩))
        injection em with em
        rw [← ilst_inj em] at hm
        exact absurd hm.2.2.1 h9
    · have e2 : decide ((2 : Int) ≤ ((ns.length : Nat) : Int)) = false := by simp; omega
      rw [e2]
      refine iteF (iteF (And.intro rfl (h false ⟨(fun z => nomatch z), fun ⟨ms, em, hm⟩ => ?_⟩)))
      injection em with em
      rw [← ilst_inj em] at hm
      exact absurd hm.2.1 h2
theorem L_need_good {d : Dt} (hd : odB 7 30 d = true) (hr : IsR d) (h : Q (.d .none)) : F_need_rope [.d d] Q Ex := by
  show mIfS (mNot (mB (mCall F_is_rope (mCons (mVar 0) mNil)))) _ _ (endM Q Ex) [some (.d d)]
  refine w_if (w_not (w_B (w_call (w_cons (w_var (x := .d d) rfl (w_nil (And.intro rfl (L_is_rope hd fun b hb => ?_))))))))
  have : b = true := hb.mpr hr
  subst this
  exact iteF h
theorem L_gauge_bad {d : Dt} (hd : odB 7 30 d = true) (hr : ¬ IsR d) (h : Ex ⟨"InvalidRope", none⟩) : F_gauge [.d d] Q Ex := by
  show b_gauge (endM Q Ex) [some (.d d)]
  refine w_seq (w_drop (w_call (w_cons (w_var (x := .d d) rfl (w_nil (And.intro rfl ?_))))))
  show mIfS (mNot (mB (mCall F_is_rope (mCons (mVar 0) mNil)))) _ _ (endM _ Ex) [some (.d d)]
  refine w_if (w_not (w_B (w_call (w_cons (w_var (x := .d d) rfl (w_nil (And.intro rfl (L_is_rope hd fun b hb => ?_))))))))
  have : b = false := by
    cases b with
    | false => rfl
    | true => exact absurd (hb.mp rfl) hr
  subst this
  exact iteT h
end
end Lw
end

section
set_option Elab.async false
set_option linter.all false
set_option maxRecDepth 100000
set_option maxHeartbeats 4000000
namespace Lw
open PySem PySem.Spec PyProof.Rows L2 Ks
def absI (d : Int) : Int := if d < 0 then -d else d
theorem absI_sub (a b : Int) : absI (a - b) = absI (b - a) := by unfold absI; split <;> split <;> omega
/-- how far two places lie apart, the later one below k -/
def SpanB (ns : List Int) (k : Nat) (x : Int) : Prop := ∃ i j, i < j ∧ j < k ∧ x = absI (ns.getD j 0 - ns.getD i 0)
def SpanSet (ns : List Int) (x : Int) : Prop := SpanB ns ns.length x
theorem cut_head (ns : List Int) (k : Nat) : Ks.cutD (ilst ns) none (some (k : Int)) = ilst (ns.take k) := by
  unfold Ks.cutD
  rw [HT.sIx_none, HT.sIx_nat, List.drop_zero, Nat.sub_zero, ilst_len]
  unfold ilst
  rw [← List.map_take]
  congr 1
  rw [← List.take_eq_take_min]
theorem getD_take_mem {ns : List Int} {k : Nat} {x : Int} (hk : k ≤ ns.length) : x ∈ ns.take k ↔ ∃ i, i < k ∧ x = ns.getD i 0 := by
  constructor
  · intro h
    obtain ⟨i, hi⟩ := List.getElem?_of_mem h
    rw [List.getElem?_take] at hi
    split at hi
    · rename_i hlt
      exact ⟨i, hlt, by rw [List.getD_eq_getElem?_getD, hi]; rfl⟩
    · cases hi
  · rintro ⟨i, hi, rfl⟩
    refine List.mem_of_getElem? (i := i) ?_
    rw [List.getElem?_take, if_pos hi, List.getD_eq_getElem?_getD, List.getElem?_eq_getElem (by omega)]
    rfl
def absFrom (p : Int) : Dt → Dt
  | .int o => .int (absI (p - o))
  | x => x
section
variable {Q : Dv → Prop} {Ex : Exn → Prop}
abbrev EvS (ns fs : List Int) (a b c : Option Dv) : Ks.Env := [some (.d (.tuple (ilst ns))), some (.own (ilst fs)), a, b, c]
theorem tail_spans {fs : List Int} (h : Q (.d (.tuple (ilst (isort fs))))) : fSortI [.d (.list (ilst fs))] (fun ds => fTupOf [.d (.list ds)] Q) := by
  show match (some (ilst fs)).bind intsOf with
    | some ns => fTupOf [.d (.list (ilst (isort ns)))] Q
    | none => False
  rw [Option.bind_some, intsOf_ilst]
  exact h
theorem L_spans_by {ns : List Int} (hl : ns.length ≤ 9) (h : ∀ S : List Int, S.length ≤ 81 → (∀ x, x ∈ S ↔ SpanSet ns x) → Q (.d (.tuple (ilst S)))) : F_spans_by [.d (.tuple (ilst ns))] Q Ex := by
  have szl : sizeLine = 16777216 := sizeLine_eq
  show t_spans_by_3 (endM Q Ex) (EvS ns [] none none none)
  refine w_seq ?_
  show forL (fTup2 (fName 2) (fName 3)) t_spans_by_1 _ (enumD 0 (ilst ns)) (EvS ns [] none none none)
  refine forL_inv (fun ds ρ => ∃ k fs a b c, k ≤ ns.length ∧ ds = enumD k (ilst (ns.drop k)) ∧ ρ = EvS ns fs a b c ∧ fs.length ≤ k * 9 ∧ ∀ x, x ∈ fs ↔ SpanB ns k x) (fun d ds ρ N i hN => ?_) (fun ρ i => ?_) _ _ ⟨0, [], none, none, none, Nat.zero_le _, by rw [List.drop_zero], rfl, by simp, fun x => ⟨fun h => by simp at h, fun ⟨i, j, _, hj, _⟩ => by omega⟩⟩
  · obtain ⟨k, fs, a, b, c, hk, e, rfl, hf, hm⟩ := i
    have hk' : k < ns.length := by
      rcases Nat.lt_or_ge k ns.length with z | z
      · exact z
      · rw [List.drop_eq_nil_of_le z] at e
        cases e
    rw [List.drop_eq_getElem_cons hk'] at e
    have e' : d :: ds = PyData.tuple [.int (k : Nat), .int ns[k]] :: enumD (k + 1) (ilst (ns.drop (k + 1))) := e
    injection e' with e1 e2
    subst e1 e2
    show lcL (fName 4) mYes (mCB fAbs (mCons (mBin fSub (mVar 3) (mVar 4)) mNil)) [some (.d (.tuple (ilst ns))), some (.own (ilst fs)), some (.d (.int (k : Nat))), some (.d (.int ns[k])), none] _ (Ks.cutD (ilst ns) none (some ((k : Nat) : Int))) []
    rw [cut_head]
    refine lcL_map (absFrom ns[k]) _ ?_ (fun d hd K1 K2 q => ?_) ?_
    · rw [ilst_len, List.length_take]; omega
    · obtain ⟨o, ho, rfl⟩ := ilst_map_mem hd
      exact q
    · have em : (ilst (ns.take k)).map (absFrom ns[k]) = ilst ((ns.take k).map fun o => absI (ns[k] - o)) := by
        unfold ilst
        rw [List.map_map, List.map_map]
        rfl
      rw [em]
      refine And.intro ?_ (hN _ ⟨k + 1, fs ++ (ns.take k).map fun o => absI (ns[k] - o), some (.d (.int (k : Nat))), some (.d (.int ns[k])), c, hk', rfl, by
        have e9 := ilst_app fs ((ns.take k).map fun o => absI (ns[k] - o))
        unfold EvS
        rw [e9]
        rfl, ?_, fun x => ?_⟩)
      · rw [ilst_len, ilst_len, List.length_map, List.length_take]; omega
      · rw [List.length_append, List.length_map, List.length_take]; omega
      · rw [List.mem_append, hm x, List.mem_map]
        have eg : ns.getD k 0 = ns[k] := by rw [List.getD_eq_getElem?_getD, List.getElem?_eq_getElem hk']; rfl
        constructor
        · rintro (⟨i, j, h1, h2, h3⟩ | ⟨o, ho, rfl⟩)
          · exact ⟨i, j, h1, by omega, h3⟩
          · obtain ⟨i, hi, rfl⟩ := (getD_take_mem hk).mp ho
            exact ⟨i, k, hi, by omega, by rw [eg]⟩
        · rintro ⟨i, j, h1, h2, h3⟩
          rcases Nat.lt_or_ge j k with z | z
          · exact .inl ⟨i, j, h1, z, h3⟩
          · obtain rfl : j = k := by omega
            exact .inr ⟨ns.getD i 0, (getD_take_mem hk).mpr ⟨i, h1, rfl⟩, by rw [h3, eg]⟩
  · obtain ⟨k, fs, a, b, c, hk, e, rfl, hf, hm⟩ := i
    have hkl : k = ns.length := by
      rcases Nat.lt_or_ge k ns.length with z | z
      · rw [List.drop_eq_getElem_cons z] at e
        cases e
      · omega
    subst hkl
    show fSortI [.d (.list (ilst fs))] (fun ds => fTupOf [.d (.list ds)] (fun x => x.isOwn = false ∧ Q x))
    refine tail_spans (And.intro rfl (h _ ?_ fun x => ?_))
    · rw [(isort_perm fs).length_eq]; omega
    · rw [(isort_perm fs).mem_iff]
      exact hm x
/-- the nested loops of the law's own spans -/
theorem L_law_spans {ns : List Int} (hl : ns.length ≤ 9) (h : ∀ S : List Int, S.length ≤ 81 → (∀ x, x ∈ S ↔ SpanSet ns x) → Q (.d (.tuple (ilst S)))) : F_law_spans [.d (.tuple (ilst ns))] Q Ex := by
  have szl : sizeLine = 16777216 := sizeLine_eq
  have hln : (ilst ns).length = ns.length := ilst_len ns
  show t_law_spans_4 (endM Q Ex) [some (.d (.tuple (ilst ns))), some (.own []), none, none]
  refine w_seq ?_
  refine And.intro (by omega) (And.intro (by omega) ?_)
  have rl : ((((ilst ns).length : Nat) : Int)).toNat = ns.length := by omega
  rw [rl]
  have rn : ∀ (k : Nat), k < ns.length → (rngD 0 ns.length).drop k = .int (k : Nat) :: (rngD 0 ns.length).drop (k + 1) := fun k hk => by
    rw [List.drop_eq_getElem_cons (by unfold rngD; simpa using hk)]
    congr 1
    unfold rngD
    simp
  refine forL_inv (fun ds ρ => ∃ k fs a b, k ≤ ns.length ∧ ds = (rngD 0 ns.length).drop k ∧ ρ = [some (.d (.tuple (ilst ns))), some (.own (ilst fs)), a, b] ∧ fs.length ≤ k * 9 ∧ ∀ x, x ∈ fs ↔ ∃ i j, i < j ∧ i < k ∧ j < ns.length ∧ x = absI (ns.getD j 0 - ns.getD i 0)) (fun d ds ρ N i hN => ?_) (fun ρ i => ?_) _ _ ⟨0, [], none, none, Nat.zero_le _, rfl, rfl, by simp, fun x => ⟨fun h => by simp at h, fun ⟨i, j, _, hj, _⟩ => by omega⟩⟩
  · obtain ⟨k, fs, a, b, hk, e, rfl, hf, hm⟩ := i
    have hk' : k < ns.length := by
      rcases Nat.lt_or_ge k ns.length with z | z
      · exact z
      · rw [List.drop_eq_nil_of_le (by unfold rngD; simpa using z)] at e
        cases e
    rw [rn k hk'] at e
    injection e with e1 e2
    subst e1 e2
    show (-(2 ^ 62) ≤ ((k : Nat) : Int) + 1 ∧ ((k : Nat) : Int) + 1 < 2 ^ 62 ∧ -(2 ^ 62) ≤ (((ilst ns).length : Nat) : Int) ∧ (((ilst ns).length : Nat) : Int) < 2 ^ 62) ∧ forL (fName 3) t_law_spans_1 _ (rngD (((k : Nat) : Int) + 1) ((((ilst ns).length : Nat) : Int) - (((k : Nat) : Int) + 1)).toNat) [some (.d (.tuple (ilst ns))), some (.own (ilst fs)), some (.d (.int (k : Nat))), b]
    refine And.intro ⟨by omega, by omega, by omega, by omega⟩ ?_
    have rl2 : ((((ilst ns).length : Nat) : Int) - (((k : Nat) : Int) + 1)).toNat = ns.length - (k + 1) := by omega
    rw [rl2]
    have rn2 : ∀ (m : Nat), m < ns.length - (k + 1) → (rngD (((k : Nat) : Int) + 1) (ns.length - (k + 1))).drop m = .int ((k + 1 + m : Nat) : Int) :: (rngD (((k : Nat) : Int) + 1) (ns.length - (k + 1))).drop (m + 1) := fun m hm => by
      rw [List.drop_eq_getElem_cons (by unfold rngD; simpa using hm)]
      congr 1
      unfold rngD
      simp
    refine forL_inv (fun ds ρ => ∃ m gs b, m ≤ ns.length - (k + 1) ∧ ds = (rngD (((k : Nat) : Int) + 1) (ns.length - (k + 1))).drop m ∧ ρ = [some (.d (.tuple (ilst ns))), some (.own (ilst gs)), some (.d (.int (k : Nat))), b] ∧ gs.length ≤ k * 9 + m ∧ ∀ x, x ∈ gs ↔ (x ∈ fs ∨ ∃ j, k < j ∧ j < k + 1 + m ∧ x = absI (ns.getD j 0 - ns.getD k 0))) (fun d ds ρ N2 i hN2 => ?_) (fun ρ i => ?_) _ _ ⟨0, fs, b, Nat.zero_le _, rfl, rfl, by omega, fun x => ⟨.inl, fun h => h.elim id fun ⟨j, h1, h2, _⟩ => by omega⟩⟩
    · obtain ⟨m, gs, b, hm1, e, rfl, hg, hmg⟩ := i
      have hm' : m < ns.length - (k + 1) := by
        rcases Nat.lt_or_ge m (ns.length - (k + 1)) with z | z
        · exact z
        · rw [List.drop_eq_nil_of_le (by unfold rngD; simpa using z)] at e
          cases e
      rw [rn2 m hm'] at e
      injection e with e1 e2
      subst e1 e2
      refine Exists.intro _ (And.intro (atI_getD (by omega)) (Exists.intro _ (And.intro (atI_getD (by omega)) ?_)))
      refine And.intro (by rw [ilst_len]; omega) (hN2 _ ⟨m + 1, gs ++ [absI (ns.getD (k + 1 + m) 0 - ns.getD k 0)], some (.d (.int ((k + 1 + m : Nat) : Int))), by omega, rfl, by
        have e9 := ilst_app gs [absI (ns.getD (k + 1 + m) 0 - ns.getD k 0)]
        rw [e9]
        rfl, by simp; omega, fun x => ?_⟩)
      rw [List.mem_append, hmg x, List.mem_singleton]
      constructor
      · rintro ((h1 | ⟨j, h1, h2, h3⟩) | h1)
        · exact .inl h1
        · exact .inr ⟨j, h1, by omega, h3⟩
        · exact .inr ⟨k + 1 + m, by omega, by omega, h1⟩
      · rintro (h1 | ⟨j, h1, h2, h3⟩)
        · exact .inl (.inl h1)
        · rcases Nat.lt_or_ge j (k + 1 + m) with z | z
          · exact .inl (.inr ⟨j, h1, z, h3⟩)
          · obtain rfl : j = k + 1 + m := by omega
            exact .inr h3
    · obtain ⟨m, gs, b, hm1, e, rfl, hg, hmg⟩ := i
      have hme : m = ns.length - (k + 1) := by
        rcases Nat.lt_or_ge m (ns.length - (k + 1)) with z | z
        · rw [rn2 m z] at e
          cases e
        · omega
      refine hN _ ⟨k + 1, gs, _, _, hk', rfl, rfl, by omega, fun x => ?_⟩
      rw [hmg x, hm x]
      constructor
      · rintro (⟨i, j, h1, h2, h3, h4⟩ | ⟨j, h1, h2, h3⟩)
        · exact ⟨i, j, h1, by omega, h3, h4⟩
        · exact ⟨k, j, h1, by omega, by omega, h3⟩
      · rintro ⟨i, j, h1, h2, h3, h4⟩
        rcases Nat.lt_or_ge i k with z | z
        · exact .inl ⟨i, j, h1, z, h3, h4⟩
        · obtain rfl : i = k := by omega
          exact .inr ⟨j, h1, by omega, h4⟩
  · obtain ⟨k, fs, a, b, hk, e, rfl, hf, hm⟩ := i
    have hkl : k = ns.length := by
      rcases Nat.lt_or_ge k ns.length with z | z
      · rw [rn k z] at e
        cases e
      · omega
    subst hkl
    show fSortI [.d (.list (ilst fs))] (fun ds => fTupOf [.d (.list ds)] (fun x => x.isOwn = false ∧ Q x))
    refine tail_spans (And.intro rfl (h _ ?_ fun x => ?_))
    · rw [(isort_perm fs).length_eq]; omega
    · rw [(isort_perm fs).mem_iff, hm x]
      constructor
      · rintro ⟨i, j, h1, h2, h3, h4⟩
        exact ⟨i, j, h1, h3, h4⟩
      · rintro ⟨i, j, h1, h3, h4⟩
        exact ⟨i, j, h1, by omega, h3, h4⟩
end
end Lw
end

section
set_option Elab.async false
set_option linter.all false
set_option maxRecDepth 100000
set_option maxHeartbeats 4000000
namespace Lw
open PySem PySem.Spec PyProof.Rows L2 Ks
def IsG (P : Int → Prop) (g : Int) : Prop := 0 ≤ g ∧ (∀ k : Int, 1 ≤ k → k ≤ g → P k) ∧ ¬ P (g + 1)
theorem IsG.uniq {P : Int → Prop} {g g' : Int} (h : IsG P g) (h' : IsG P g') : g = g' := by
  obtain ⟨a, b, c⟩ := h
  obtain ⟨a', b', c'⟩ := h'
  rcases Int.lt_trichotomy g g' with l | l | l
  · exact absurd (b' (g + 1) (by omega) (by omega)) c
  · exact l
  · exact absurd (b (g' + 1) (by omega) (by omega)) c'
theorem gauge_of {P : Int → Prop} {S : List Int} {g : Int} (h : ∀ x, x ∈ S ↔ P x) (hg : IsGauge S g) : IsG P g :=
  ⟨hg.1, fun k h1 h2 => (h k).mp (hg.2.1 k h1 h2), fun z => hg.2.2 ((h _).mpr z)⟩
theorem gauge_ex (S : List Int) : ∃ g, IsGauge S g ∧ g ≤ S.length := by
  have key : ∀ n : Nat, (∃ g : Int, IsGauge S g ∧ g ≤ n) ∨ ∀ k : Int, 1 ≤ k → k ≤ n → k ∈ S := fun n => by
    induction n with
    | zero => exact .inr fun k h1 h2 => by omega
    | succ n ih =>
      rcases ih with ⟨g, h1, h2⟩ | h
      · exact .inl ⟨g, h1, by omega⟩
      · by_cases hn : ((n : Nat) : Int) + 1 ∈ S
        · refine .inr fun k h1 h2 => ?_
          rcases Int.lt_or_le ((n : Nat) : Int) k with z | z
          · have : k = ((n : Nat) : Int) + 1 := by omega
            rw [this]; exact hn
          · exact h k h1 z
        · exact .inl ⟨((n : Nat) : Int), ⟨by omega, h, hn⟩, by omega⟩
  rcases key (S.length + 1) with ⟨g, h1, h2⟩ | h
  · refine ⟨g, h1, ?_⟩
    rcases Int.lt_or_le ((S.length : Nat) : Int) g with z | z
    · have := pigeon (S := S) (n := S.length + 1) fun k k1 k2 => h1.2.1 k k1 (by omega)
      omega
    · exact z
  · have := pigeon h
    omega
section
variable {Q : Dv → Prop} {Ex : Exn → Prop}
theorem fIn_tup {neg : Bool} {a : Int} {S : List Int} {K : Dv → Prop} (h : K (.d (.bool (if neg then !S.contains a else S.contains a)))) : fIn neg (.d (.int a)) (.d (.tuple (ilst S))) K := by
  refine And.intro rfl (And.intro all_flat ?_)
  rw [any_eqF]
  exact h
theorem fIn_lst {neg : Bool} {a : Int} {S : List Int} {K : Dv → Prop} (h : K (.d (.bool (if neg then !S.contains a else S.contains a)))) : fIn neg (.d (.int a)) (.d (.list (ilst S))) K := by
  refine And.intro rfl (And.intro all_flat ?_)
  rw [any_eqF]
  exact h
theorem w_addI {a b : Int} {K : Dv → Prop} (h : K (.d (.int (a + b)))) : fAdd (.d (.int a)) (.d (.int b)) K := h
theorem while_up {r : Dv} {S : List Int} {g : Int} {B : Me} (hg : IsGauge S g) (hB : B.nx [some r, some (.d (.tuple (ilst S))), some (.d (.int g))]) : ∀ (n : Nat) (k : Int), 0 ≤ k → g - k = n →
    whileN (mB (mBin (fIn false) (mBin fAdd (mVar 2) (mC (.int 1))) (mVar 1))) (mAug 2 fAddI (mC (.int 1))) B (n + 1) [some r, some (.d (.tuple (ilst S))), some (.d (.int k))]
  | 0, k, h0, e => by
    rw [whileN_succ]
    have ek : k = g := by omega
    subst ek
    refine w_B (w_bin (w_bin (w_var (x := .d (.int k)) rfl (w_c ?_))))
    refine w_addI ?_
    refine w_var (x := .d (.tuple (ilst S))) rfl ?_
    refine fIn_tup ?_
    have : S.contains (k + 1) = false := by
      rw [Bool.eq_false_iff]
      intro z
      exact hg.2.2 (List.contains_iff_mem.mp z)
    show (if S.contains (k + 1) = true then _ else _)
    rw [this]
    exact iteF hB
  | n + 1, k, h0, e => by
    rw [whileN_succ]
    refine w_B (w_bin (w_bin (w_var (x := .d (.int k)) rfl (w_c ?_))))
    refine w_addI ?_
    refine w_var (x := .d (.tuple (ilst S))) rfl ?_
    refine fIn_tup ?_
    have : S.contains (k + 1) = true := List.contains_iff_mem.mpr (hg.2.1 (k + 1) (by omega) (by omega))
    show (if S.contains (k + 1) = true then _ else _)
    rw [this]
    refine iteT (And.intro rfl ?_)
    exact while_up hg hB n (k + 1) (by omega) (by omega)
theorem L_gauge_by {ns : List Int} (hl : ns.length ≤ 9) (h : ∀ g, IsG (SpanSet ns) g → Q (.d (.int g))) : F_gauge_by [.d (.tuple (ilst ns))] Q Ex := by
  show b_gauge_by (endM Q Ex) [some (.d (.tuple (ilst ns))), none, none]
  refine w_seq (w_par (w_val (w_call (w_cons (w_var (x := .d (.tuple (ilst ns))) rfl (w_nil (And.intro rfl (L_spans_by hl fun S hS hm => ?_))))))))
  refine And.intro rfl (And.intro rfl ?_)
  obtain ⟨g, hg, hgl⟩ := gauge_ex S
  refine Exists.intro (g.toNat + 1) (while_up hg (And.intro rfl (h g (gauge_of hm hg))) g.toNat 0 (Int.le_refl 0) ?_)
  have := hg.1
  omega
theorem L_law_gauge {ns : List Int} (hl : ns.length ≤ 9) (h : ∀ g, IsG (SpanSet ns) g → Q (.d (.int g))) : F_law_gauge [.d (.tuple (ilst ns))] Q Ex := by
  show b_law_gauge (endM Q Ex) [some (.d (.tuple (ilst ns))), none, none]
  refine w_seq (w_set (w_val (w_f (w_cf (w_cons (w_call (w_cons (w_var (x := .d (.tuple (ilst ns))) rfl (w_nil (And.intro rfl (L_law_spans hl fun S hS hm => ?_)))))))))))
  refine And.intro rfl ?_
  have hln : (ilst S).length = S.length := ilst_len S
  show (-(2 ^ 62) ≤ (1 : Int) ∧ (1 : Int) < 2 ^ 62 ∧ -(2 ^ 62) ≤ (((ilst S).length : Nat) : Int) + 1 ∧ (((ilst S).length : Nat) : Int) + 1 < 2 ^ 62) ∧ forL (fName 2) t_law_gauge_1 _ (rngD 1 ((((ilst S).length : Nat) : Int) + 1 - 1).toNat) [some (.d (.tuple (ilst ns))), some (.d (.list (ilst S))), none]
  refine And.intro ⟨by omega, by omega, by omega, by omega⟩ ?_
  have rl : ((((ilst S).length : Nat) : Int) + 1 - 1).toNat = S.length := by omega
  rw [rl]
  have rn : ∀ (k : Nat), k < S.length → (rngD 1 S.length).drop k = .int ((k + 1 : Nat) : Int) :: (rngD 1 S.length).drop (k + 1) := fun k hk => by
    rw [List.drop_eq_getElem_cons (by unfold rngD; simpa using hk)]
    congr 1
    unfold rngD
    simp
    omega
  refine forL_inv (fun ds ρ => ∃ (k : Nat) (a : Option Dv), k ≤ S.length ∧ ds = (rngD 1 S.length).drop k ∧ ρ = [some (.d (.tuple (ilst ns))), some (.d (.list (ilst S))), a] ∧ ∀ j : Int, 1 ≤ j → j ≤ k → j ∈ S) (fun d ds ρ N i hN => ?_) (fun ρ i => ?_) _ _ ⟨0, none, Nat.zero_le _, rfl, rfl, fun j h1 h2 => by omega⟩
  · obtain ⟨k, a, hk, e, rfl, hin⟩ := i
    have hk' : k < S.length := by
      rcases Nat.lt_or_ge k S.length with z | z
      · exact z
      · rw [List.drop_eq_nil_of_le (by unfold rngD; simpa using z)] at e
        cases e
    rw [rn k hk'] at e
    injection e with e1 e2
    subst e1 e2
    show t_law_gauge_1 _ [some (.d (.tuple (ilst ns))), some (.d (.list (ilst S))), some (.d (.int ((k + 1 : Nat) : Int)))]
    refine w_if (w_B (w_bin (w_var (x := .d (.int ((k + 1 : Nat) : Int))) rfl (w_var (x := .d (.list (ilst S))) rfl (fIn_lst (a := ((k + 1 : Nat) : Int)) ?_)))))
    show (if (!S.contains ((k + 1 : Nat) : Int)) = true then _ else _)
    cases hc : S.contains ((k + 1 : Nat) : Int) with
    | true =>
      refine iteF (hN _ ⟨k + 1, _, hk', rfl, rfl, fun j h1 h2 => ?_⟩)
      rcases Int.lt_or_le ((k : Nat) : Int) j with z | z
      · have : j = ((k + 1 : Nat) : Int) := by omega
        rw [this]; exact List.contains_iff_mem.mp hc
      · exact hin j h1 z
    | false =>
      refine iteT (And.intro rfl (h _ (gauge_of hm ⟨by omega, fun j h1 h2 => hin j h1 (by omega), fun z => ?_⟩)))
      have e3 : (((k + 1 : Nat) : Int) - 1 + 1) = ((k + 1 : Nat) : Int) := by omega
      rw [e3] at z
      rw [List.contains_iff_mem.mpr z] at hc
      cases hc
  · obtain ⟨k, a, hk, e, rfl, hin⟩ := i
    have hkl : k = S.length := by
      rcases Nat.lt_or_ge k S.length with z | z
      · rw [rn k z] at e
        cases e
      · omega
    subst hkl
    refine And.intro rfl ?_
    show Q (.d (.int (((ilst S).length : Nat) : Int)))
    rw [hln]
    refine h _ (gauge_of hm ⟨by omega, hin, fun z => ?_⟩)
    have := pigeon (S := S) (n := S.length + 1) fun j h1 h2 => by
      rcases Int.lt_or_le ((S.length : Nat) : Int) j with y | y
      · have e4 : j = ((S.length : Nat) : Int) + 1 := by omega
        rw [e4]; exact z
      · exact hin j h1 y
    omega
end
end Lw
end

section
set_option Elab.async false
set_option linter.all false
set_option maxRecDepth 100000
set_option maxHeartbeats 4000000
namespace Lw
open PySem PySem.Spec PyProof.Rows L2 Ks
def spansL (ns : List Int) : List Int := (List.range ns.length).flatMap fun j => (ns.take j).map fun o => absI (ns.getD j 0 - o)
theorem spansL_mem {ns : List Int} {x : Int} : x ∈ spansL ns ↔ SpanSet ns x := by
  unfold spansL SpanSet SpanB
  rw [List.mem_flatMap]
  constructor
  · rintro ⟨j, hj, hx⟩
    obtain ⟨o, ho, rfl⟩ := List.mem_map.mp hx
    have hj := List.mem_range.mp hj
    obtain ⟨i, hi, rfl⟩ := (getD_take_mem (by omega)).mp ho
    exact ⟨i, j, hi, hj, rfl⟩
  · rintro ⟨i, j, hi, hj, rfl⟩
    exact ⟨j, List.mem_range.mpr hj, List.mem_map.mpr ⟨ns.getD i 0, (getD_take_mem (by omega)).mpr ⟨i, hi, rfl⟩, rfl⟩⟩
def gUp (S : List Int) : Nat → Int → Int
  | 0, k => k
  | n + 1, k => if S.contains (k + 1) = true then gUp S n (k + 1) else k
def gaugeF (ns : List Int) : Int := gUp (spansL ns) (spansL ns).length 0
theorem gUp_is {S : List Int} {g : Int} (hg : IsGauge S g) : ∀ (n : Nat) (k : Int), 0 ≤ k → k ≤ g → g ≤ k + n → gUp S n k = g
  | 0, k, h0, h1, h2 => by unfold gUp; omega
  | n + 1, k, h0, h1, h2 => by
    unfold gUp
    by_cases hk : k = g
    · subst hk
      rw [if_neg (fun z => hg.2.2 (List.contains_iff_mem.mp z))]
    · rw [if_pos (List.contains_iff_mem.mpr (hg.2.1 (k + 1) (by omega) (by omega)))]
      exact gUp_is hg n (k + 1) (by omega) (by omega) (by omega)
theorem gaugeF_is (ns : List Int) : IsG (SpanSet ns) (gaugeF ns) := by
  obtain ⟨g, hg, hl⟩ := gauge_ex (spansL ns)
  have : gaugeF ns = g := gUp_is hg _ 0 (Int.le_refl 0) hg.1 (by omega)
  rw [this]
  exact gauge_of (fun x => spansL_mem) hg
theorem isG_eq {ns : List Int} {g : Int} (h : IsG (SpanSet ns) g) : g = gaugeF ns := h.uniq (gaugeF_is ns)
/-- the ropes one knot longer -/
def ext1 (last : Int) (row : List Int) : List (List Int) := (List.range (last - (row.getLastD 0 + 1)).toNat).map fun i => row ++ [row.getLastD 0 + 1 + (i : Nat)]
def extN (last : Int) : Nat → List (List Int) → List (List Int)
  | 0, rs => rs
  | k + 1, rs => extN last k (rs.flatMap (ext1 last))
def okF (last : Int) (r : List Int) : Bool := gaugeF r == last
def fw (last : Int) : Nat → List Int → List (List Int)
  | 0, pl => if okF last (pl ++ [last]) = true then [pl ++ [last]] else []
  | k + 1, pl => (ext1 last pl).flatMap (fw last k)
def allF (last : Int) (k : Nat) : List (List Int) := (extN last k [[0]]).map (· ++ [last])
theorem extN_app (last : Int) : ∀ (k : Nat) (rs ss : List (List Int)), extN last k (rs ++ ss) = extN last k rs ++ extN last k ss
  | 0, rs, ss => rfl
  | k + 1, rs, ss => by
    unfold extN
    rw [List.flatMap_append, extN_app last k]
theorem extN_flat (last : Int) (k : Nat) : ∀ rs : List (List Int), extN last k rs = rs.flatMap fun r => extN last k [r]
  | [] => by
    induction k with
    | zero => rfl
    | succ k ih => unfold extN; simpa using ih
  | r :: rs => by
    rw [show r :: rs = [r] ++ rs from rfl, extN_app, List.flatMap_append, ← extN_flat last k rs]
    simp
theorem fw_eq (last : Int) : ∀ (k : Nat) (pl : List Int), fw last k pl = ((extN last k [pl]).map (· ++ [last])).filter (okF last)
  | 0, pl => by
    unfold fw extN
    simp only [List.map_cons, List.map_nil, List.filter_cons, List.filter_nil]
  | k + 1, pl => by
    unfold fw extN
    rw [show [pl].flatMap (ext1 last) = ext1 last pl by simp, extN_flat last k (ext1 last pl), List.map_flatMap, List.filter_flatMap]
    congr 1
    funext r
    exact fw_eq last k r
theorem fw_all (last : Int) (k : Nat) : fw last k [0] = (allF last k).filter (okF last) := fw_eq last k [0]
theorem full6a : fw 15 4 [0] = [] := by decide +kernel
theorem full6b : fw 14 4 [0] = [] := by decide +kernel
theorem full5a : fw 10 3 [0] = [] := by decide +kernel
theorem full4 : fw 6 2 [0] = [[0, 1, 4, 6], [0, 2, 5, 6]] := by decide +kernel
theorem full3 : fw 3 1 [0] ≠ [] := by decide +kernel
theorem full2 : fw 1 0 [0] ≠ [] := by decide +kernel
theorem full5 : fw 9 3 [0] ≠ [] := by decide +kernel
theorem full6 : fw 13 4 [0] ≠ [] := by decide +kernel
end Lw
end

section
set_option Elab.async false
set_option linter.all false
set_option maxRecDepth 100000
set_option maxHeartbeats 4000000
namespace Lw
open PySem PySem.Spec PyProof.Rows L2 Ks
theorem forL_rng {f : Ks.Env → Dt → (Ks.Env → Prop) → Prop} {body : MS} {B : Me} {lo : Int} {n : Nat} (I : Nat → Ks.Env → Prop) (hs : ∀ (m : Nat) (ρ : Ks.Env) (N : Ks.Env → Prop), m < n → I m ρ → (∀ ρ', I (m + 1) ρ' → N ρ') → f ρ (.int (lo + (m : Nat))) fun ρ1 => body { B with nx := N, ct := N, bk := B.nx } ρ1)
    (hd : ∀ ρ, I n ρ → B.nx ρ) (ρ : Ks.Env) (h0 : I 0 ρ) : forL f body B (rngD lo n) ρ := by
  have hl : (rngD lo n).length = n := by unfold rngD; simp
  refine forL_inv (fun ds ρ => ∃ m, m ≤ n ∧ ds = (rngD lo n).drop m ∧ I m ρ) (fun d ds ρ N i hN => ?_) (fun ρ i => ?_) _ _ ⟨0, Nat.zero_le _, rfl, h0⟩
  · obtain ⟨m, hm, e, i⟩ := i
    have hm' : m < n := by
      rcases Nat.lt_or_ge m n with z | z
      · exact z
      · rw [List.drop_eq_nil_of_le (by omega)] at e
        cases e
    rw [List.drop_eq_getElem_cons (by omega)] at e
    injection e with e1 e2
    have e3 : (rngD lo n)[m]'(by omega) = .int (lo + (m : Nat)) := by unfold rngD; simp
    rw [e1, e3]
    exact hs m ρ N hm' i fun ρ' i' => hN ρ' ⟨m + 1, hm', e2, i'⟩
  · obtain ⟨m, hm, e, i⟩ := i
    have : m = n := by
      have := congrArg List.length e
      rw [List.length_drop, hl] at this
      simp at this
      omega
    subst this
    exact hd ρ i
def rowsD (rs : List (List Int)) : List Dt := rs.map fun r => .tuple (ilst r)
theorem rowsD_len (rs : List (List Int)) : (rowsD rs).length = rs.length := by simp [rowsD]
theorem rowsD_app (rs ss : List (List Int)) : rowsD (rs ++ ss) = rowsD rs ++ rowsD ss := by simp [rowsD]
theorem lay_ilst (ns : List Int) : ∀ d ∈ ilst ns, d.canLay0 = true ∧ d.depth ≤ 0 := fun d hd => by
  obtain ⟨x, _, rfl⟩ := ilst_map_mem hd
  exact ⟨by unfold PyData.canLay0; rfl, by unfold PyData.depth; omega⟩
theorem lay_row (r : List Int) : (PyData.tuple (ilst r)).canLay0 = true ∧ (PyData.tuple (ilst r)).depth ≤ 1 := by
  refine ⟨?_, ?_⟩
  · unfold PyData.canLay0; exact lay_all fun d hd => (lay_ilst r d hd).1
  · unfold PyData.depth
    have := depth_all (k := 0) fun d hd => (lay_ilst r d hd).2
    omega
theorem lay_rows (rs : List (List Int)) : ∀ d ∈ rowsD rs, d.canLay0 = true ∧ d.depth ≤ 1 := fun d hd => by
  obtain ⟨r, _, rfl⟩ := List.mem_map.mp hd
  exact lay_row r
theorem shaped_rows (rs : List (List Int)) : SeqAt.shaped (.list (rowsD rs)) = true := shaped_lst (k := 1) (lay_rows rs) (by decide)
/-- a row that is still growing -/
def RowOk (last : Int) (r : List Int) : Prop := ∃ i l, r = i ++ [l] ∧ 0 ≤ l ∧ l ≤ 15
theorem ext1_len {last : Int} {r : List Int} (h : RowOk last r) (hl : last ≤ 15) : (ext1 last r).length ≤ 16 := by
  obtain ⟨i, l, rfl, h0, h1⟩ := h
  unfold ext1
  rw [List.length_map, List.length_range]
  simp
  omega
theorem ext1_ok {last : Int} {r : List Int} (h : RowOk last r) (hl : last ≤ 15) : ∀ s ∈ ext1 last r, RowOk last s ∧ s.length = r.length + 1 := fun s hs => by
  obtain ⟨i, l, rfl, h0, h1⟩ := h
  unfold ext1 at hs
  obtain ⟨j, hj, rfl⟩ := List.mem_map.mp hs
  have hj := List.mem_range.mp hj
  simp at hj
  refine ⟨⟨i ++ [l], _, rfl, ?_, ?_⟩, by simp⟩
  · simp; omega
  · simp; omega
theorem fw_len {last : Int} (hl : last ≤ 15) : ∀ (k : Nat) (pl : List Int), RowOk last pl → (fw last k pl).length ≤ 16 ^ k
  | 0, pl, h => by
    unfold fw
    split <;> simp
  | k + 1, pl, h => by
    unfold fw
    have key : ∀ rs : List (List Int), (∀ r ∈ rs, RowOk last r) → (rs.flatMap (fw last k)).length ≤ rs.length * 16 ^ k := fun rs => by
      induction rs with
      | nil => intro _; simp
      | cons r rs ih =>
        intro hr
        rw [List.flatMap_cons, List.length_append, List.length_cons, Nat.add_mul]
        have a := fw_len hl k r (hr r List.mem_cons_self)
        have b := ih fun x hx => hr x (List.mem_cons_of_mem _ hx)
        omega
    have a := key (ext1 last pl) fun r hr => (ext1_ok h hl r hr).1
    have b := Nat.mul_le_mul_right (16 ^ k) (ext1_len h hl)
    rw [Nat.pow_succ]
    omega
section
variable {Q : Dv → Prop} {Ex : Exn → Prop}
theorem fEq_gl {g last : Int} {r : List Int} {K : Dv → Prop} (hg : IsG (SpanSet r) g) (h : K (.d (.bool (okF last r)))) : fEq (.d (.int g)) (.d (.int last)) K := by
  refine fEq_ii ?_
  have := isG_eq hg
  subst this
  exact h
theorem L_full_with {last : Int} (hl0 : 0 ≤ last) (hl : last ≤ 15) : ∀ (k m : Nat) (pl : List Int) {Q : Dv → Prop} {Ex : Exn → Prop}, RowOk last pl → pl.length + k ≤ 8 → k ≤ 4 → Q (.d (.list (rowsD (fw last k pl)))) → F_full_with (k + 1 + m) [.d (.tuple (ilst pl)), .d (.int last), .d (.int ((k + 1 : Nat) : Int))] Q Ex
  | 0, m, pl, Q, Ex, hp, hn, hk, h => by
    rw [show 0 + 1 + m = m + 1 by omega]
    show b_full_with (F_full_with m) (endM Q Ex) [some (.d (.tuple (ilst pl))), some (.d (.int last)), some (.d (.int ((1 : Nat) : Int))), none, none, none]
    refine w_seq (eqI_c (a := ((1 : Nat) : Int)) rfl (fun _ => ?_) (fun hne => absurd rfl hne))
    have szl : sizeLine = 16777216 := sizeLine_eq
    refine And.intro (by rw [ilst_len]; simp; omega) (And.intro rfl ?_)
    have ea : ilst pl ++ [PyData.int last] = ilst (pl ++ [last]) := by rw [ilst_app]; rfl
    show t_full_with_1 (F_full_with m) (endM Q Ex) [some (.d (.tuple (ilst pl))), some (.d (.int last)), some (.d (.int ((1 : Nat) : Int))), none, none, some (.d (.tuple (ilst pl ++ [PyData.int last])))]
    rw [ea]
    refine w_ret (w_ifE (w_B (w_bin (w_call (w_cons (w_var (x := .d (.tuple (ilst (pl ++ [last])))) rfl (w_nil (And.intro rfl (L_gauge_by (by simp; omega) fun g hg => ?_)))))))))
    refine w_var (x := .d (.int last)) rfl (fEq_gl hg ?_)
    show (if okF last (pl ++ [last]) = true then _ else _)
    unfold fw at h
    split
    · rename_i hc
      rw [if_pos hc] at h
      exact And.intro rfl h
    · rename_i hc
      rw [if_neg hc] at h
      exact And.intro rfl h
  | k + 1, m, pl, Q, Ex, hp, hn, hk, h => by
    rw [show k + 1 + 1 + m = (k + 1 + m) + 1 by omega]
    have szl : sizeLine = 16777216 := sizeLine_eq
    have hall : (fw last (k + 1) pl).length ≤ 65536 := by
      have a := fw_len hl (k + 1) pl hp
      have b : (16 : Nat) ^ (k + 1) ≤ 16 ^ 4 := Nat.pow_le_pow_right (by decide) (by omega)
      have c : (16 : Nat) ^ 4 = 65536 := by decide
      omega
    obtain ⟨i, l, rfl, h0, h1⟩ := hp
    have hp : RowOk last (i ++ [l]) := ⟨i, l, rfl, h0, h1⟩
    show b_full_with (F_full_with (k + 1 + m)) (endM Q Ex) [some (.d (.tuple (ilst (i ++ [l])))), some (.d (.int last)), some (.d (.int ((k + 1 + 1 : Nat) : Int))), none, none, none]
    refine w_seq (eqI_c (a := ((k + 1 + 1 : Nat) : Int)) rfl (fun hz => by omega) (fun _ => ?_))
    refine w_nx ?_
    show t_full_with_4 (F_full_with (k + 1 + m)) (endM Q Ex) [some (.d (.tuple (ilst (i ++ [l])))), some (.d (.int last)), some (.d (.int ((k + 1 + 1 : Nat) : Int))), some (.own []), none, none]
    have ea : atI (ilst (i ++ [l])) (-1) = some (.int l) := by rw [ilst_app]; exact L2.atI_last _ _
    refine Exists.intro _ (And.intro ea ?_)
    refine And.intro ⟨by omega, by omega, by omega, by omega⟩ ?_
    have exl : ext1 last (i ++ [l]) = (List.range (last - (l + 1)).toNat).map fun j => (i ++ [l]) ++ [l + 1 + (j : Nat)] := by
      unfold ext1
      simp
    have hlen : (ext1 last (i ++ [l])).length = (last - (l + 1)).toNat := by rw [exl]; simp
    refine forL_rng (fun t ρ => ∃ p, ρ = [some (.d (.tuple (ilst (i ++ [l])))), some (.d (.int last)), some (.d (.int ((k + 1 + 1 : Nat) : Int))), some (.own (rowsD (((ext1 last (i ++ [l])).take t).flatMap (fw last k)))), p, none]) (fun t ρ N ht ii hN => ?_) (fun ρ ii => ?_) _ ⟨none, by simp [rowsD]⟩
    · obtain ⟨p, rfl⟩ := ii
      have hx : (ext1 last (i ++ [l]))[t]? = some ((i ++ [l]) ++ [l + 1 + (t : Nat)]) := by
        rw [exl, List.getElem?_map, List.getElem?_range ht]
        rfl
      have ok := ext1_ok hp hl _ (List.mem_of_getElem? hx)
      refine And.intro (by rw [ilst_len]; simp; simp at hn; omega) ?_
      have ek : ((k + 1 + 1 : Nat) : Int) - 1 = ((k + 1 : Nat) : Int) := by omega
      have ea2 : ilst (i ++ [l]) ++ [PyData.int (l + 1 + (t : Nat))] = ilst ((i ++ [l]) ++ [l + 1 + (t : Nat)]) := by rw [ilst_app (i ++ [l])]; rfl
      show noOwn _ = true ∧ F_full_with (k + 1 + m) [.d (.tuple (ilst (i ++ [l]) ++ [PyData.int (l + 1 + (t : Nat))])), .d (.int last), .d (.int (((k + 1 + 1 : Nat) : Int) - 1))] _ Ex
      rw [ea2, ek]
      refine And.intro rfl (L_full_with hl0 hl k m _ ok.1 (by rw [ok.2]; simp at hn ⊢; omega) (by omega) ?_)
      have tk : (ext1 last (i ++ [l])).take (t + 1) = (ext1 last (i ++ [l])).take t ++ [(i ++ [l]) ++ [l + 1 + (t : Nat)]] := by
        rw [List.take_add_one, hx]; rfl
      have fm : ((ext1 last (i ++ [l])).take (t + 1)).flatMap (fw last k) = ((ext1 last (i ++ [l])).take t).flatMap (fw last k) ++ fw last k ((i ++ [l]) ++ [l + 1 + (t : Nat)]) := by
        rw [tk, List.flatMap_append]; simp
      have sz : (((ext1 last (i ++ [l])).take (t + 1)).flatMap (fw last k)).length ≤ 65536 := by
        have : ((ext1 last (i ++ [l])).take (t + 1)).flatMap (fw last k) ++ ((ext1 last (i ++ [l])).drop (t + 1)).flatMap (fw last k) = fw last (k + 1) (i ++ [l]) := by
          rw [← List.flatMap_append, List.take_append_drop]; rfl
        have := congrArg List.length this
        rw [List.length_append] at this
        omega
      refine And.intro ?_ (hN _ ⟨some (.d (.int (l + 1 + (t : Nat)))), ?_⟩)
      · rw [rowsD_len, rowsD_len, ← List.length_append, ← fm]; omega
      · rw [fm, rowsD_app]; rfl
    · obtain ⟨p, rfl⟩ := ii
      have tl : (ext1 last (i ++ [l])).take (last - (l + 1)).toNat = ext1 last (i ++ [l]) := List.take_of_length_le (by omega)
      rw [tl]
      exact And.intro rfl h
end
end Lw
end

section
set_option Elab.async false
set_option linter.all false
set_option maxRecDepth 100000
set_option maxHeartbeats 4000000
namespace Lw
open PySem PySem.Spec PyProof.Rows L2 Ks
theorem extN_succ (last : Int) : ∀ (k : Nat) (rs : List (List Int)), extN last (k + 1) rs = (extN last k rs).flatMap (ext1 last)
  | 0, rs => rfl
  | k + 1, rs => by
    show extN last (k + 1) (rs.flatMap (ext1 last)) = _
    rw [extN_succ last k]
    rfl
theorem extN_ok {last : Int} (hl : last ≤ 15) : ∀ (k : Nat), (∀ r ∈ extN last k [[0]], RowOk last r ∧ r.length = k + 1) ∧ (extN last k [[0]]).length ≤ 16 ^ k
  | 0 => ⟨fun r hr => by
      obtain rfl : r = [0] := by simpa [extN] using hr
      exact ⟨⟨[], 0, rfl, by decide, by decide⟩, rfl⟩, by simp [extN]⟩
  | k + 1 => by
    obtain ⟨h1, h2⟩ := extN_ok hl k
    rw [extN_succ]
    refine ⟨fun r hr => ?_, ?_⟩
    · obtain ⟨s, hs, hr⟩ := List.mem_flatMap.mp hr
      have := ext1_ok (h1 s hs).1 hl r hr
      exact ⟨this.1, by rw [this.2, (h1 s hs).2]⟩
    · have key : ∀ rs : List (List Int), (∀ r ∈ rs, RowOk last r) → (rs.flatMap (ext1 last)).length ≤ rs.length * 16 := fun rs => by
        induction rs with
        | nil => intro _; simp
        | cons r rs ih =>
          intro hr
          rw [List.flatMap_cons, List.length_append, List.length_cons, Nat.add_mul]
          have a := ext1_len (hr r List.mem_cons_self) hl
          have b := ih fun x hx => hr x (List.mem_cons_of_mem _ hx)
          omega
      have a := key _ fun r hr => (h1 r hr).1
      rw [Nat.pow_succ]
      omega
section
variable {Q : Dv → Prop} {Ex : Exn → Prop}
abbrev EvA (many last : Int) (found : List (List Int)) (turn longer row place : Option Dv) : Ks.Env := [some (.d (.int many)), some (.d (.int last)), some (.d (.list (rowsD found))), turn, longer, row, place]
theorem L_law_all {last : Int} (hl0 : 0 ≤ last) (hl : last ≤ 15) {k : Nat} (hk : k ≤ 4) (h : Q (.d (.list (rowsD (allF last k))))) : F_law_all [.d (.int ((k + 2 : Nat) : Int)), .d (.int last)] Q Ex := by
  have szl : sizeLine = 16777216 := sizeLine_eq
  refine And.intro rfl ?_
  show t_law_all_6 (endM Q Ex) (EvA ((k + 2 : Nat) : Int) last [[0]] none none none none)
  refine w_seq ?_
  refine And.intro (by omega) (And.intro (by omega) ?_)
  have rl : (((k + 2 : Nat) : Int) - 2).toNat = k := by omega
  rw [rl]
  have bound : ∀ t, t ≤ 4 → (extN last t [[0]]).length ≤ 65536 := fun t ht => by
    have a := (extN_ok hl t).2
    have b : (16 : Nat) ^ t ≤ 16 ^ 4 := Nat.pow_le_pow_right (by decide) ht
    have c : (16 : Nat) ^ 4 = 65536 := by decide
    omega
  refine forL_rng (fun t ρ => ∃ a b c, ρ = EvA ((k + 2 : Nat) : Int) last (extN last t [[0]]) a b c none) (fun t ρ N ht ii hN => ?_) (fun ρ ii => ?_) _ ⟨none, none, none, rfl⟩
  · obtain ⟨a, b, c, rfl⟩ := ii
    obtain ⟨hok, hlen⟩ := extN_ok hl t
    show t_law_all_4 _ (EvA ((k + 2 : Nat) : Int) last (extN last t [[0]]) (some (.d (.int (0 + (t : Nat))))) b c none)
    refine And.intro rfl ?_
    show t_law_all_3 _ (EvA ((k + 2 : Nat) : Int) last (extN last t [[0]]) (some (.d (.int (0 + (t : Nat))))) (some (.d (.list []))) c none)
    refine w_seq ?_
    show forL (fName 5) t_law_all_1 _ (rowsD (extN last t [[0]])) (EvA ((k + 2 : Nat) : Int) last (extN last t [[0]]) (some (.d (.int (0 + (t : Nat))))) (some (.d (.list []))) c none)
    have b5 := bound (t + 1) (by omega)
    rw [extN_succ] at b5
    refine forL_inv (fun ds ρ => ∃ m c, m ≤ (extN last t [[0]]).length ∧ ds = (rowsD (extN last t [[0]])).drop m ∧ ρ = EvA ((k + 2 : Nat) : Int) last (extN last t [[0]]) (some (.d (.int (0 + (t : Nat))))) (some (.d (.list (rowsD (((extN last t [[0]]).take m).flatMap (ext1 last)))))) c none) (fun d ds ρ N2 ii hN2 => ?_) (fun ρ ii => ?_) _ _ ⟨0, c, Nat.zero_le _, rfl, by simp [rowsD]⟩
    · obtain ⟨m, c, hm, e, rfl⟩ := ii
      have hm' : m < (extN last t [[0]]).length := by
        rcases Nat.lt_or_ge m (extN last t [[0]]).length with z | z
        · exact z
        · rw [List.drop_eq_nil_of_le (by rw [rowsD_len]; exact z)] at e
          cases e
      rw [List.drop_eq_getElem_cons (by rw [rowsD_len]; exact hm')] at e
      injection e with e1 e2
      have e3 : (rowsD (extN last t [[0]]))[m]'(by rw [rowsD_len]; exact hm') = .tuple (ilst ((extN last t [[0]])[m])) := by unfold rowsD; simp
      rw [e3] at e1
      subst e1 e2
      have hx : (extN last t [[0]])[m]? = some (extN last t [[0]])[m] := List.getElem?_eq_getElem hm'
      generalize (extN last t [[0]])[m] = r at hx
      obtain ⟨ro, rlen⟩ := hok r (List.mem_of_getElem? hx)
      have el := ext1_len ro hl
      obtain ⟨i, l, rfl, h0, h1⟩ := ro
      have tk : (extN last t [[0]]).take (m + 1) = (extN last t [[0]]).take m ++ [i ++ [l]] := by
        rw [List.take_add_one, hx]; rfl
      have fm : ((extN last t [[0]]).take (m + 1)).flatMap (ext1 last) = ((extN last t [[0]]).take m).flatMap (ext1 last) ++ ext1 last (i ++ [l]) := by
        rw [tk, List.flatMap_append]; simp
      have sz : (((extN last t [[0]]).take (m + 1)).flatMap (ext1 last)).length ≤ 65536 := by
        have : ((extN last t [[0]]).take (m + 1)).flatMap (ext1 last) ++ ((extN last t [[0]]).drop (m + 1)).flatMap (ext1 last) = (extN last t [[0]]).flatMap (ext1 last) := by
          rw [← List.flatMap_append, List.take_append_drop]
        have := congrArg List.length this
        rw [List.length_append] at this
        omega
      show t_law_all_1 _ (EvA ((k + 2 : Nat) : Int) last (extN last t [[0]]) (some (.d (.int (0 + (t : Nat))))) (some (.d (.list (rowsD (((extN last t [[0]]).take m).flatMap (ext1 last)))))) (some (.d (.tuple (ilst (i ++ [l]))))) none)
      have ea : atI (ilst (i ++ [l])) (-1) = some (.int l) := by rw [ilst_app]; exact L2.atI_last _ _
      refine Exists.intro _ (And.intro ea ?_)
      refine And.intro ⟨by omega, by omega, by omega, by omega⟩ ?_
      refine lcL_map (fun d => match d with | .int p => .tuple (ilst (i ++ [l]) ++ [.int p]) | x => x) _ ?_ (fun d hd K1 K2 q => ?_) ?_
      · unfold rngD; simp; omega
      · unfold rngD at hd
        obtain ⟨j, hj, rfl⟩ := List.mem_map.mp hd
        refine And.intro ?_ q
        rw [ilst_len]; simp; simp at rlen; omega
      · have em : (rngD (l + 1) (last - (l + 1)).toNat).map (fun d => match d with | PyData.int p => PyData.tuple (ilst (i ++ [l]) ++ [.int p]) | x => x) = rowsD (ext1 last (i ++ [l])) := by
          unfold rngD rowsD ext1
          rw [List.map_map, List.map_map]
          simp [ilst_app, ilst, Function.comp_def]
        rw [em]
        refine And.intro ?_ (And.intro rfl (hN2 _ ⟨m + 1, some (.d (.tuple (ilst (i ++ [l])))), hm', rfl, ?_⟩))
        · rw [rowsD_len, rowsD_len, ← List.length_append, ← fm]; omega
        · rw [fm, rowsD_app]; rfl
    · obtain ⟨m, c, hm, e, rfl⟩ := ii
      have hme : (extN last t [[0]]).length ≤ m := by
        have := congrArg List.length e
        rw [List.length_drop, rowsD_len] at this
        simp at this
        omega
      rw [List.take_of_length_le hme, ← extN_succ]
      exact And.intro rfl (hN _ ⟨_, _, _, rfl⟩)
  · obtain ⟨a, b, c, rfl⟩ := ii
    have b4 := bound k hk
    obtain ⟨hok, _⟩ := extN_ok hl k
    show lcL (fName 5) mYes (mBin fAdd (mVar 5) (mTup 1 (mCons (mVar 1) mNil))) [some (.d (.int ((k + 2 : Nat) : Int))), some (.d (.int last)), some (.d (.list (rowsD (extN last k [[0]])))), a, b, none, none] _ (rowsD (extN last k [[0]])) []
    refine lcL_map (fun d => match d with | .tuple r => .tuple (r ++ [.int last]) | x => x) _ (by rw [rowsD_len]; omega) (fun d hd K1 K2 q => ?_) ?_
    · obtain ⟨r, hr, rfl⟩ := List.mem_map.mp hd
      refine And.intro ?_ q
      rw [ilst_len, (hok r hr).2]; simp; omega
    · have em : (rowsD (extN last k [[0]])).map (fun d => match d with | PyData.tuple r => PyData.tuple (r ++ [.int last]) | x => x) = rowsD (allF last k) := by
        unfold rowsD allF
        rw [List.map_map, List.map_map]
        simp [ilst_app, ilst, Function.comp_def]
      rw [em]
      exact And.intro rfl h
end
end Lw
end

section
set_option Elab.async false
set_option linter.all false
set_option maxRecDepth 100000
set_option maxHeartbeats 4000000
namespace Lw
open PySem PySem.Spec PyProof.Rows L2 Ks
def oFull (l : Int) : Dt → Option Dt
  | .tuple r => (match intsOf r with
    | some ns => if okF l ns = true then some (.tuple (ilst ns)) else none
    | none => none)
  | _ => none
theorem oFull_row (l : Int) (r : List Int) : oFull l (.tuple (ilst r)) = if okF l r = true then some (.tuple (ilst r)) else none := by
  unfold oFull
  simp only [intsOf_ilst]
section
variable {Q : Dv → Prop} {Ex : Exn → Prop}
/-- what both tell of k + 2 knots: the last place g, the rows with it -/
structure FullAt (k : Nat) (top g : Int) : Prop where
  k4 : k ≤ 4
  tp : ((k + 2 : Nat) : Int) * (((k + 2 : Nat) : Int) - 1) / 2 = top
  t15 : top ≤ 15
  g1 : 1 ≤ g
  gt : g ≤ top
  no : ∀ l : Int, g < l → l ≤ top → fw l k [0] = []
  yes : fw g k [0] ≠ []
theorem row0 (last : Int) : RowOk last [0] := ⟨[], 0, rfl, by decide, by decide⟩
theorem rows_nil (rs : List (List Int)) : PyData.eqv (.list (rowsD rs)) (.list []) = rs.isEmpty := by
  rw [eqv_nil]
  cases rs <;> rfl
theorem call_fw {k : Nat} (hk : k ≤ 4) {l : Int} (h0 : 0 ≤ l) (h1 : l ≤ 15) (h : Q (.d (.list (rowsD (fw l k [0]))))) : F_full_with 6 [.d (.tuple [.int 0]), .d (.int l), .d (.int (((k + 2 : Nat) : Int) - 1))] Q Ex := by
  have e : (((k + 2 : Nat) : Int) - 1) = ((k + 1 : Nat) : Int) := by omega
  rw [e]
  have := L_full_with (Ex := Ex) h0 h1 k (5 - k) [0] (row0 l) (by simp; omega) hk h
  rw [show k + 1 + (5 - k) = 6 by omega] at this
  exact this
theorem L_full_gauges {k : Nat} {top g : Int} (f : FullAt k top g) (h : Q (.d (.tuple [.int g, .list (rowsD (fw g k [0]))]))) : F_full_gauges [.d (.int ((k + 2 : Nat) : Int))] Q Ex := by
  have hk := f.k4
  show b_full_gauges (endM Q Ex) [some (.d (.int ((k + 2 : Nat) : Int))), none]
  refine w_seq (w_if (w_not (w_B (w_call (w_cons (w_var (x := .d (.int ((k + 2 : Nat) : Int))) rfl (w_cons (w_c (w_cons (w_c (w_nil ?_)))))))))))
  refine And.intro rfl (L_is_integer (by unfold PyData.canLay0; rfl) ?_)
  have iw : isWhole 2 6 (.int ((k + 2 : Nat) : Int)) = true := by
    show (decide ((2 : Int) ≤ ((k + 2 : Nat) : Int)) && decide (((k + 2 : Nat) : Int) ≤ 6)) = true
    rw [decide_eq_true (by omega), decide_eq_true (by omega)]; rfl
  show (if (!isWhole 2 6 (.int ((k + 2 : Nat) : Int))) = true then _ else _)
  rw [iw]
  refine iteF (w_nx ?_)
  show t_full_gauges_3 (endM Q Ex) [some (.d (.int ((k + 2 : Nat) : Int))), none]
  refine w_seq (w_set (w_val (w_call (w_cons (w_var (x := .d (.int ((k + 2 : Nat) : Int))) rfl (w_nil (And.intro rfl ?_)))))))
  show (CMul ((k + 2 : Nat) : Int) (((k + 2 : Nat) : Int) - 1) ∨ CMulW ((k + 2 : Nat) : Int) (((k + 2 : Nat) : Int) - 1)) ∧ CDivW (((k + 2 : Nat) : Int) * (((k + 2 : Nat) : Int) - 1)) 2 ∧ _
  refine And.intro (.inl (.inl ⟨by omega, by omega⟩)) (And.intro ⟨by decide, by decide⟩ (And.intro rfl (And.intro rfl ?_)))
  show t_full_gauges_2 (endM Q Ex) [some (.d (.int ((k + 2 : Nat) : Int))), some (.d (.int (((k + 2 : Nat) : Int) * (((k + 2 : Nat) : Int) - 1) / 2)))]
  rw [f.tp]
  refine w_seq ?_
  have up : ∀ (n : Nat) (l : Int), l - g = n → l ≤ top → whileN (mB (mBin fEq (mCall (F_full_with 6) (mCons (mTup 1 (mCons (mC (.int 0)) mNil)) (mCons (mVar 1) (mCons (mBin fSub (mVar 0) (mC (.int 1))) mNil)))) (mF (mLst mNil)))) (mAug 1 fSub (mC (.int 1))) { endM Q Ex with nx := t_full_gauges_1 (endM Q Ex) } (n + 1) [some (.d (.int ((k + 2 : Nat) : Int))), some (.d (.int l))] := fun n => by
    induction n with
    | zero =>
      intro l e1 e2
      have el : l = g := by omega
      subst el
      rw [whileN_succ]
      refine w_B (w_bin (w_call (w_cons ?_)))
      refine And.intro rfl (call_fw hk (by have := f.g1; omega) (by have := f.t15; omega) ?_)
      refine w_f (w_lst (w_nil (And.intro (shaped_rows _) (And.intro (by decide +kernel) ?_))))
      show (if PyData.eqv (.list (rowsD (fw l k [0]))) (.list []) = true then _ else _)
      rw [rows_nil]
      have : (fw l k [0]).isEmpty = false := by
        rw [Bool.eq_false_iff]
        intro z
        exact f.yes (List.isEmpty_iff.mp z)
      rw [this]
      refine iteF ?_
      show t_full_gauges_1 (endM Q Ex) [some (.d (.int ((k + 2 : Nat) : Int))), some (.d (.int l))]
      refine And.intro rfl (call_fw hk (by have := f.g1; omega) (by have := f.t15; omega) ?_)
      exact And.intro rfl h
    | succ n ih =>
      intro l e1 e2
      rw [whileN_succ]
      refine w_B (w_bin (w_call (w_cons ?_)))
      refine And.intro rfl (call_fw hk (by have := f.g1; omega) (by have := f.t15; omega) ?_)
      refine w_f (w_lst (w_nil (And.intro (shaped_rows _) (And.intro (by decide +kernel) ?_))))
      show (if PyData.eqv (.list (rowsD (fw l k [0]))) (.list []) = true then _ else _)
      rw [rows_nil, f.no l (by omega) e2]
      exact iteT (And.intro rfl (ih (l - 1) (by omega) (by omega)))
  have := f.gt
  exact Exists.intro ((top - g).toNat + 1) (up (top - g).toNat top (by omega) (Int.le_refl _))
theorem L_law_full {k : Nat} {top g : Int} (f : FullAt k top g) (h : Q (.d (.tuple [.int g, .list (rowsD (fw g k [0]))]))) : F_law_full [.d (.int ((k + 2 : Nat) : Int))] Q Ex := by
  have hk := f.k4
  have szl : sizeLine = 16777216 := sizeLine_eq
  have htop := f.t15
  have hg1 := f.g1
  have hgt := f.gt
  show b_law_full (endM Q Ex) [some (.d (.int ((k + 2 : Nat) : Int))), none, none, none]
  refine w_seq ?_
  refine And.intro (.inl (.inl ⟨by omega, by omega⟩)) (And.intro ⟨by decide, by decide⟩ ?_)
  show (-(2 ^ 62) ≤ ((k + 2 : Nat) : Int) * (((k + 2 : Nat) : Int) - 1) / 2 ∧ ((k + 2 : Nat) : Int) * (((k + 2 : Nat) : Int) - 1) / 2 < 2 ^ 62 ∧ -(2 ^ 62) ≤ (0 : Int) ∧ (0 : Int) < 2 ^ 62) ∧ forL (fName 1) t_law_full_2 _ (rngDn (((k + 2 : Nat) : Int) * (((k + 2 : Nat) : Int) - 1) / 2) (((k + 2 : Nat) : Int) * (((k + 2 : Nat) : Int) - 1) / 2 - 0).toNat) [some (.d (.int ((k + 2 : Nat) : Int))), none, none, none]
  rw [f.tp]
  refine And.intro ⟨by omega, by omega, by decide, by decide⟩ ?_
  have hl : (rngDn top (top - 0).toNat).length = top.toNat := by unfold rngDn; simp
  refine forL_inv (fun ds ρ => ∃ (m : Nat) (a b : Option Dv), (m : Int) ≤ top - g ∧ ds = (rngDn top (top - 0).toNat).drop m ∧ ρ = [some (.d (.int ((k + 2 : Nat) : Int))), a, b, none]) (fun d ds ρ N ii hN => ?_) (fun ρ ii => ?_) _ _ ⟨0, none, none, by omega, rfl, rfl⟩
  · obtain ⟨m, a, b, hm, e, rfl⟩ := ii
    rw [List.drop_eq_getElem_cons (by omega)] at e
    injection e with e1 e2
    have e3 : (rngDn top (top - 0).toNat)[m]'(by omega) = .int (top - (m : Nat)) := by unfold rngDn; simp
    rw [e3] at e1
    subst e1 e2
    generalize hlv : top - (m : Nat) = l
    show t_law_full_2 _ [some (.d (.int ((k + 2 : Nat) : Int))), some (.d (.int l)), b, none]
    refine w_seq (w_set (w_val (w_f ?_)))
    refine And.intro rfl (L_law_all (by omega) (by omega) hk ?_)
    show lcL (fName 3) (mB (mBin fEq (mCall F_law_gauge (mCons (mVar 3) mNil)) (mVar 1))) (mVar 3) [some (.d (.int ((k + 2 : Nat) : Int))), some (.d (.int l)), b, none] _ (rowsD (allF l k)) []
    have hal : (allF l k).length ≤ 65536 := by
      unfold allF
      rw [List.length_map]
      have a := (extN_ok (last := l) (by omega) k).2
      have b : (16 : Nat) ^ k ≤ 16 ^ 4 := Nat.pow_le_pow_right (by decide) hk
      have c : (16 : Nat) ^ 4 = 65536 := by decide
      omega
    have hrl : ∀ r ∈ allF l k, r.length ≤ 9 := fun r hr => by
      unfold allF at hr
      obtain ⟨s, hs, rfl⟩ := List.mem_map.mp hr
      have := ((extN_ok (last := l) (by omega) k).1 s hs).2
      simp; omega
    refine lcL_fm (oFull l) _ [] (by rw [rowsD_len]; simp; omega) (fun d hd K1 K2 q => ?_) ?_
    · obtain ⟨r, hr, rfl⟩ := List.mem_map.mp hd
      rw [oFull_row] at q
      refine w_B (w_bin (w_call (w_cons (w_var (x := .d (.tuple (ilst r))) rfl (w_nil (And.intro rfl (L_law_gauge (hrl r hr) fun gg hgg => ?_)))))))
      refine w_var (x := .d (.int l)) rfl (fEq_gl hgg ?_)
      show (if okF l r = true then K1 (.tuple (ilst r)) else K2)
      split
      · rename_i hc
        rw [if_pos hc] at q
        exact q
      · rename_i hc
        rw [if_neg hc] at q
        exact q
    · have em : ∀ rs : List (List Int), (rowsD rs).filterMap (oFull l) = rowsD (rs.filter (okF l)) := fun rs => by
        induction rs with
        | nil => rfl
        | cons r rs ih =>
          show ((PyData.tuple (ilst r)) :: rowsD rs).filterMap _ = _
          rw [List.filterMap_cons, ih, oFull_row, List.filter_cons]
          cases okF l r <;> rfl
      rw [em, ← fw_all, List.nil_append]
      refine And.intro rfl ?_
      show t_law_full_1 _ [some (.d (.int ((k + 2 : Nat) : Int))), some (.d (.int l)), some (.d (.list (rowsD (fw l k [0])))), none]
      refine w_if (w_B (w_bin (w_var (x := .d (.list (rowsD (fw l k [0])))) rfl (w_f (w_lst (w_nil (And.intro (shaped_rows _) (And.intro (by decide +kernel) ?_))))))))
      show (if (!PyData.eqv (.list (rowsD (fw l k [0]))) (.list [])) = true then _ else _)
      rw [rows_nil]
      by_cases hlg : l = g
      · subst hlg
        have : (fw l k [0]).isEmpty = false := by
          rw [Bool.eq_false_iff]
          intro z
          exact f.yes (List.isEmpty_iff.mp z)
        rw [this]
        exact iteT (And.intro rfl h)
      · rw [f.no l (by omega) (by omega)]
        exact iteF (hN _ ⟨m + 1, _, _, by omega, rfl, rfl⟩)
  · obtain ⟨m, a, b, hm, e, rfl⟩ := ii
    have := congrArg List.length e
    rw [List.length_drop, hl] at this
    simp at this
    omega
end
end Lw
end

section
set_option Elab.async false
set_option linter.all false
set_option maxRecDepth 100000
set_option maxHeartbeats 4000000
namespace Lw
open PySem PySem.Spec PyProof.Rows L2 Ks
instance (ns : List Int) : Decidable (GoodI ns) := by unfold GoodI; infer_instance
theorem good_of_rope {ns : List Int} (h : IsRope ns) : GoodI ns := by
  obtain ⟨h1, h2, h3, h4, h5⟩ := h
  refine ⟨h5, h1, h2, h3, riseB_iff.mpr fun i hi => ?_⟩
  have := List.pairwise_iff_getElem.mp h4 i (i + 1) (by omega) hi (by omega)
  rw [List.getD_eq_getElem?_getD, List.getD_eq_getElem?_getD, List.getElem?_eq_getElem hi, List.getElem?_eq_getElem (by omega)]
  simp
  omega
theorem od_row {ns : List Int} (h : ns.length ≤ 9) : odB 7 30 (.tuple (ilst ns)) = true :=
  od_mono (od_list (k := 5) (m := 8) (n := 30) (fun d hd => by
    obtain ⟨x, _, rfl⟩ := ilst_map_mem hd
    exact od_int x) (by rw [ilst_len]; omega)).2 (by decide) (by decide)
theorem isort_rev {xs : List Int} (h : xs.Pairwise (· ≥ ·)) : isort xs = xs.reverse :=
  sorted_uniq ((isort_perm xs).trans (List.reverse_perm xs).symm) (isort_sorted xs) (List.pairwise_reverse.mpr h)
def smallN (m : Nat) (j : Int) : List Int := 0 :: ((List.range m).map fun i => ((i : Nat) : Int) + 1) ++ [9 + j]
theorem small_good : ∀ m ∈ [1, 2, 3], ∀ j ∈ [(0 : Int), 1, 2], GoodI (smallN m j) ∧ ((smallN m j).map fun p => 9 + j - p).Pairwise (· ≥ ·) ∧ GoodI ((smallN m j).map fun p => 9 + j - p).reverse := by decide +kernel
theorem range_good : ∀ n ∈ [2, 3, 4, 5, 6, 7, 8, 9], GoodI ((List.range n).map fun i => ((i : Nat) : Int)) := by decide +kernel
section
variable {Q : Dv → Prop} {Ex : Exn → Prop}
theorem L_gauge_rope {ns : List Int} (hG : GoodI ns) (h : ∀ g, IsG (SpanSet ns) g → Q (.d (.int g))) : F_gauge [.d (.tuple (ilst ns))] Q Ex := by
  show b_gauge (endM Q Ex) [some (.d (.tuple (ilst ns)))]
  refine w_seq (w_drop (w_call (w_cons (w_var (x := .d (.tuple (ilst ns))) rfl (w_nil (And.intro rfl (L_need_good (od_row hG.2.2.1) ⟨ns, rfl, hG⟩ ?_)))))))
  show t_gauge_1 (endM Q Ex) [some (.d (.tuple (ilst ns)))]
  exact And.intro rfl (L_gauge_by hG.2.2.1 fun g hg => And.intro rfl (h g hg))
theorem fNe_ii {a c : Int} {K : Dv → Prop} (h : K (.d (.bool (!(a == c))))) : fNe (.d (.int a)) (.d (.int c)) K := by
  refine And.intro (shaped_int a) (And.intro (shaped_int c) ?_)
  show K (.d (.bool (!PyData.eqv (.int a) (.int c))))
  rw [eqv_int]
  exact h
theorem L_turned {i : List Int} {l : Int} (hl : i.length ≤ 100) (h : Q (.d (.tuple (ilst (isort ((i ++ [l]).map fun p => l - p)))))) : F_law_turned [.d (.tuple (ilst (i ++ [l])))] Q Ex := by
  show lcL (fName 1) mYes (mBin fSub (mBin fIx (mVar 0) (mUn fNeg (mC (.int 1)))) (mVar 1)) [some (.d (.tuple (ilst (i ++ [l])))), none] _ (ilst (i ++ [l])) []
  have ea : atI (ilst (i ++ [l])) (-1) = some (.int l) := by rw [ilst_app]; exact L2.atI_last _ _
  refine lcL_map (fun d => match d with | .int p => .int (l - p) | x => x) _ (by rw [ilst_len]; have : sizeLine = 16777216 := sizeLine_eq; simp; omega) (fun d hd K1 K2 q => ?_) ?_
  · obtain ⟨p, hp, rfl⟩ := ilst_map_mem hd
    exact Exists.intro _ (And.intro ea q)
  · have em : (ilst (i ++ [l])).map (fun d => match d with | PyData.int p => PyData.int (l - p) | x => x) = ilst ((i ++ [l]).map fun p => l - p) := by
      unfold ilst
      rw [List.map_map, List.map_map]
      rfl
    rw [em]
    show fSortI [.d (.list (ilst ((i ++ [l]).map fun p => l - p)))] (fun ds => fTupOf [.d (.list ds)] (fun x => x.isOwn = false ∧ Q x))
    exact tail_spans (And.intro rfl h)
abbrev EvX (ns : List Int) (a1 a2 a3 a4 a5 a6 a7 a8 : Option Dv) : Ks.Env := [some (.scr ns), a1, a2, a3, a4, a5, a6, a7, a8, none]
theorem T1 {sc ns : List Int} {a1 a2 a3 a4 a5 a6 a8 : Option Dv} {B : Me} (hG : GoodI ns) (h : B.nx (EvX sc a1 a2 a3 a4 a5 a6 (some (.d (.tuple (ilst ns)))) a8)) : t_law_1 B (EvX sc a1 a2 a3 a4 a5 a6 (some (.d (.tuple (ilst ns)))) a8) := by
  refine w_if (w_or (w_B (w_bin (w_call (w_cons (w_var (x := .d (.tuple (ilst ns))) rfl (w_nil (And.intro rfl (L_gauge_rope hG fun g hg => ?_)))))))))
  refine w_call (w_cons (w_var (x := .d (.tuple (ilst ns))) rfl (w_nil (And.intro rfl (L_law_gauge hG.2.2.1 fun g' hg' => ?_)))))
  refine fNe_ii ?_
  have e : g = g' := hg.uniq hg'
  subst e
  show (if (!(g == g)) = true then _ else _)
  have eb : (!(g == g)) = false := by simp
  rw [eb]
  refine iteF (w_B (w_cb (w_cons (w_call (w_cons (w_var (x := .d (.tuple (ilst ns))) rfl (w_nil (And.intro rfl (L_gauge_rope hG fun g2 hg2 => ?_)))))))))
  exact fIsI_of (x := .d (.int g2)) (T := "bool") (t := "int") (b := false) (K := fun x => match x with | .d (.bool k) => (if k = true then (mRet (mC (.bool false))) B (EvX sc a1 a2 a3 a4 a5 a6 (some (.d (.tuple (ilst ns)))) a8) else mNext B (EvX sc a1 a2 a3 a4 a5 a6 (some (.d (.tuple (ilst ns)))) a8)) | _ => False) rfl (by decide +kernel) (by decide +kernel) (iteF h)
theorem word_rope : wordOf "InvalidRope" = some "rope value" := by decide +kernel
theorem word_number : wordOf "InvalidNumber" = some "number value" := by decide +kernel
theorem fNe_str {x : Str} {K : Dv → Prop} (hx : PyData.canLay0 (.str x) = true) (h : K (.d (.bool false))) : fNe (.d (.str x)) (.d (.str x)) K := by
  have sh : SeqAt.shaped (.str x) = true := by
    unfold SeqAt.shaped
    rw [hx]
    unfold PyData.depth
    rfl
  refine And.intro sh (And.intro sh ?_)
  show K (.d (.bool (!PyData.eqv (.str x) (.str x))))
  rw [PySem.SeqAt.eqv_refl _ hx]
  exact h
theorem T2 {sc : List Int} {d : Dt} {a1 a3 a4 a5 a6 a7 a8 : Option Dv} {B : Me} (hd : odB 7 30 d = true) (h : B.nx (EvX sc a1 (some (.d d)) a3 a4 a5 a6 a7 a8)) : t_law_2 B (EvX sc a1 (some (.d d)) a3 a4 a5 a6 a7 a8) := by
  refine w_if (w_and (w_not (w_B (w_call (w_cons (w_var (x := .d d) rfl (w_nil (And.intro rfl (L_good_rope hd fun b hb => ?_)))))))))
  show (if (!b) = true then _ else _)
  cases b with
  | true => exact iteF (iteF h)
  | false =>
    have hn : ¬ IsR d := fun z => by have := hb.mpr z; cases this
    refine iteT (w_B (w_bin ?_))
    show mCall F_gauge (mCons (mVar 2) mNil) (EvX sc a1 (some (.d d)) a3 a4 a5 a6 a7 a8) _ _
    refine w_call (w_cons (w_var (x := .d d) rfl (w_nil (And.intro rfl (L_gauge_bad hd hn ?_)))))
    refine And.intro rfl ?_
    show match wordOf "InvalidRope" with | some ws => _ | none => False
    rw [word_rope]
    exact w_c (fNe_str (by decide +kernel) (iteF h))
theorem L_full_bad {d : Dt} (hd : d.canLay0 = true) (hw : isWhole 2 6 d = false) (h : Ex ⟨"InvalidNumber", none⟩) : F_full_gauges [.d d] Q Ex := by
  show b_full_gauges (endM Q Ex) [some (.d d), none]
  refine w_seq (w_if (w_not (w_B (w_call (w_cons (w_var (x := .d d) rfl (w_cons (w_c (w_cons (w_c (w_nil ?_)))))))))))
  refine And.intro rfl (L_is_integer hd ?_)
  show (if (!isWhole 2 6 d) = true then _ else _)
  rw [hw]
  exact iteT h
theorem T8 {sc : List Int} {d : Dt} {a1 a3 a4 a5 a6 a7 a8 : Option Dv} {B : Me} (hd : d.canLay0 = true) (hw : isWhole 2 6 d = false) (h : B.nx (EvX sc a1 (some (.d d)) a3 a4 a5 a6 a7 a8)) : t_law_8 B (EvX sc a1 (some (.d d)) a3 a4 a5 a6 a7 a8) := by
  refine w_if (w_B (w_bin ?_))
  show mCall F_full_gauges (mCons (mVar 2) mNil) (EvX sc a1 (some (.d d)) a3 a4 a5 a6 a7 a8) _ _
  refine w_call (w_cons (w_var (x := .d d) rfl (w_nil (And.intro rfl (L_full_bad hd hw ?_)))))
  refine And.intro rfl ?_
  show match wordOf "InvalidNumber" with | some ws => _ | none => False
  rw [word_number]
  exact w_c (fNe_str (by decide +kernel) (iteF h))
end
end Lw
end

section
set_option Elab.async false
set_option linter.all false
set_option maxRecDepth 100000
set_option maxHeartbeats 4000000
namespace Lw
open PySem PySem.Spec PyProof.Rows L2 Ks
section
variable {Q : Dv → Prop} {Ex : Exn → Prop}
def FAt (k : Nat) : Int × Int := match k with
  | 0 => (1, 1)
  | 1 => (3, 3)
  | 2 => (6, 6)
  | 3 => (10, 9)
  | _ => (15, 13)
theorem fullAt : ∀ k : Nat, k ≤ 4 → FullAt k (FAt k).1 (FAt k).2
  | 0, _ => ⟨by decide, by decide, by decide, by decide, by decide, fun l h1 h2 => absurd h1 (by have : l ≤ 1 := h2; show ¬ (1 : Int) < l; omega), full2⟩
  | 1, _ => ⟨by decide, by decide, by decide, by decide, by decide, fun l h1 h2 => absurd h1 (by have : l ≤ 3 := h2; show ¬ (3 : Int) < l; omega), full3⟩
  | 2, _ => ⟨by decide, by decide, by decide, by decide, by decide, fun l h1 h2 => absurd h1 (by have : l ≤ 6 := h2; show ¬ (6 : Int) < l; omega), by show fw 6 2 [0] ≠ []; rw [full4]; simp⟩
  | 3, _ => ⟨by decide, by decide, by decide, by decide, by decide, fun l h1 h2 => by
      have h1 : (9 : Int) < l := h1
      have h2 : l ≤ 10 := h2
      obtain rfl : l = 10 := by omega
      exact full5a, full5⟩
  | 4, _ => ⟨by decide, by decide, by decide, by decide, by decide, fun l h1 h2 => by
      have h1 : (13 : Int) < l := h1
      have h2 : l ≤ 15 := h2
      rcases (show l = 14 ∨ l = 15 by omega) with rfl | rfl
      · exact full6b
      · exact full6a, full6⟩
theorem lay_ans (g : Int) (rs : List (List Int)) : (PyData.tuple [.int g, .list (rowsD rs)]).canLay0 = true ∧ (PyData.tuple [.int g, .list (rowsD rs)]).depth ≤ 10 := by
  have key : ∀ d ∈ [PyData.int g, .list (rowsD rs)], d.canLay0 = true ∧ d.depth ≤ 2 := fun d hd => by
    have h1 : PyData.canLayAll0 (rowsD rs) = true := lay_all fun d hd => (lay_rows rs d hd).1
    have h2 : PyData.depthAll (rowsD rs) ≤ 1 := depth_all fun d hd => (lay_rows rs d hd).2
    simp only [List.mem_cons, List.not_mem_nil, or_false] at hd
    rcases hd with rfl | rfl
    · exact ⟨by unfold PyData.canLay0; rfl, by unfold PyData.depth; omega⟩
    · exact ⟨by unfold PyData.canLay0; exact h1, by unfold PyData.depth; omega⟩
  refine ⟨?_, ?_⟩
  · unfold PyData.canLay0; exact lay_all fun d hd => (key d hd).1
  · unfold PyData.depth
    have := depth_all (k := 2) fun d hd => (key d hd).2
    omega
theorem shaped_ans (g : Int) (rs : List (List Int)) : SeqAt.shaped (.tuple [.int g, .list (rowsD rs)]) = true := by
  obtain ⟨a, b⟩ := lay_ans g rs
  unfold SeqAt.shaped
  rw [a]
  simp
  omega
theorem fNe_same {d : Dt} {K : Dv → Prop} (hs : SeqAt.shaped d = true) (hl : d.canLay0 = true) (h : K (.d (.bool false))) : fNe (.d d) (.d d) K := by
  refine And.intro (by
    have : (Dv.d d).pl = .d d := rfl
    exact hs) (And.intro hs ?_)
  show K (.d (.bool (!PyData.eqv d d)))
  rw [PySem.SeqAt.eqv_refl _ hl]
  exact h
theorem T10 {sc : List Int} {k : Nat} (hk : k ≤ 4) {a1 a2 a4 a5 a6 a7 a8 : Option Dv} {B : Me} (h : ∀ b8, B.nx (EvX sc a1 a2 (some (.d (.int ((k + 2 : Nat) : Int)))) a4 a5 a6 a7 b8)) : t_law_10 B (EvX sc a1 a2 (some (.d (.int ((k + 2 : Nat) : Int)))) a4 a5 a6 a7 a8) := by
  have f := fullAt k hk
  generalize (FAt k).1 = top at f
  generalize (FAt k).2 = g at f
  refine w_seq (w_set (w_val (w_call (w_cons (w_var (x := .d (.int ((k + 2 : Nat) : Int))) rfl (w_nil (And.intro rfl (L_full_gauges f (And.intro rfl ?_)))))))))
  show t_law_9 B (EvX sc a1 a2 (some (.d (.int ((k + 2 : Nat) : Int)))) a4 a5 a6 a7 (some (.d (.tuple [.int g, .list (rowsD (fw g k [0]))]))))
  refine w_if (w_or (w_B (w_bin (w_var (x := .d (.tuple [.int g, .list (rowsD (fw g k [0]))])) rfl (w_call (w_cons (w_var (x := .d (.int ((k + 2 : Nat) : Int))) rfl (w_nil (And.intro rfl (L_law_full f ?_))))))))))
  refine fNe_same (shaped_ans _ _) (lay_ans _ _).1 ?_
  refine iteF (w_not (w_B (w_cb (w_cons (w_bin (w_var (x := .d (.tuple [.int g, .list (rowsD (fw g k [0]))])) rfl (w_c ?_)))))))
  refine Exists.intro (.list (rowsD (fw g k [0]))) (And.intro (atI_nat (xs := [PyData.int g, .list (rowsD (fw g k [0]))]) (j := 1) rfl) ?_)
  exact fIsI_of (x := .d (.list (rowsD (fw g k [0])))) (T := "list") (t := "list") (b := true) (K := fun x => match x with | .d (.bool c) => (if (!c) = true then (mRet (mC (.bool false))) B (EvX sc a1 a2 (some (.d (.int ((k + 2 : Nat) : Int)))) a4 a5 a6 a7 (some (.d (.tuple [.int g, .list (rowsD (fw g k [0]))])))) else mNext B (EvX sc a1 a2 (some (.d (.int ((k + 2 : Nat) : Int)))) a4 a5 a6 a7 (some (.d (.tuple [.int g, .list (rowsD (fw g k [0]))]))))) | _ => False) rfl (by decide +kernel) (by decide +kernel) (iteF (h _))
theorem T11 {sc : List Int} {a1 a2 a3 a4 a5 a6 a7 a8 : Option Dv} (h : Q (.d (.bool true))) : t_law_11 (endM Q Ex) (EvX sc a1 a2 a3 a4 a5 a6 a7 a8) := by
  have g1 : gaugeF [0, 1, 4, 10, 12, 17] = 13 := by decide +kernel
  have g2 : gaugeF [0, 2] = 0 := by decide +kernel
  have g3 : gaugeF [0, 1, 3, 4, 5, 7, 12, 13, 15] = 15 := by decide +kernel
  refine And.intro rfl (L_gauge_rope (ns := [0, 1, 4, 10, 12, 17]) (by decide +kernel) fun g hg => w_c (fEq_ii ?_))
  rw [isG_eq hg, g1]
  refine iteT (And.intro rfl (L_gauge_rope (ns := [0, 2]) (by decide +kernel) fun g hg => w_c (fEq_ii ?_)))
  rw [isG_eq hg, g2]
  refine iteT (And.intro rfl (L_gauge_rope (ns := [0, 1, 3, 4, 5, 7, 12, 13, 15]) (by decide +kernel) fun g hg => w_c (fEq_ii ?_)))
  rw [isG_eq hg, g3]
  exact And.intro rfl h
theorem T12 {sc : List Int} {a1 a2 a3 a4 a5 a6 a7 a8 : Option Dv} (h : Q (.d (.bool true))) : t_law_12 (endM Q Ex) (EvX sc a1 a2 a3 a4 a5 a6 a7 a8) := by
  refine w_seq (w_if (w_or (w_B (w_bin (w_call (w_cons (w_c (w_nil ?_))))))))
  refine And.intro rfl (L_full_gauges (k := 2) (fullAt 2 (by decide)) ?_)
  show mTup 2 _ _ _ _
  refine And.intro (shaped_ans _ _) (And.intro (by decide +kernel) ?_)
  show (if (!PyData.eqv (.tuple [.int 6, .list (rowsD (fw 6 2 [0]))]) (.tuple [.int 6, .list [.tuple [.int 0, .int 1, .int 4, .int 6], .tuple [.int 0, .int 2, .int 5, .int 6]]])) = true then _ else _)
  rw [full4]
  have e : PyData.eqv (.tuple [.int 6, .list (rowsD [[0, 1, 4, 6], [0, 2, 5, 6]])]) (.tuple [.int 6, .list [.tuple [.int 0, .int 1, .int 4, .int 6], .tuple [.int 0, .int 2, .int 5, .int 6]]]) = true := by decide +kernel
  rw [e]
  refine iteF (w_or (w_B (w_bin (w_bin (w_call (w_cons (w_c (w_nil ?_))))))))
  refine And.intro rfl (L_full_gauges (k := 4) (fullAt 4 (by decide)) (w_c ?_))
  refine Exists.intro (.int 13) (And.intro (atI_nat (xs := [PyData.int 13, .list (rowsD (fw 13 4 [0]))]) (j := 0) rfl) (w_c (fNe_ii ?_)))
  refine iteF (w_B (w_bin (w_bin (w_call (w_cons (w_c (w_nil ?_)))))))
  refine And.intro rfl (L_full_gauges (k := 3) (fullAt 3 (by decide)) (w_c ?_))
  refine Exists.intro (.int 9) (And.intro (atI_nat (xs := [PyData.int 9, .list (rowsD (fw 9 3 [0]))]) (j := 0) rfl) (w_c (fNe_ii ?_)))
  refine iteF (w_nx ?_)
  exact T11 h
end
end Lw
end

section
set_option Elab.async false
set_option linter.all false
set_option maxRecDepth 100000
set_option maxHeartbeats 4000000
namespace Lw
open PySem PySem.Spec PyProof.Rows L2 Ks
theorem w_for {mi : Ks.Env → M (List Dt)} {f : Ks.Env → Dt → (Ks.Env → Prop) → Prop} {body : MS} {B : Me} {ρ : Ks.Env} (h : mi ρ (fun ds => forL f body B ds ρ) B.ex) : mFor mi f body B ρ := h
theorem w_itemsA {me : Ks.Env → M Dv} {ρ : Ks.Env} {Q : List Dt → Prop} {Ex : Exn → Prop} (h : me ρ (fun x => match x with
  | .d (.list ds) => Q ds
  | .d (.tuple ds) => Q ds
  | _ => False) Ex) : mItemsA me ρ Q Ex := h
section
variable {Q : Dv → Prop} {Ex : Exn → Prop}
theorem T3 {sc ns : List Int} {a1 a2 a3 a6 a7 a8 : Option Dv} {B : Me} (hr : IsRope ns) (h : ∀ b2, B.nx (EvX sc a1 b2 a3 (some .coil) (some (.d (.tuple (ilst ns)))) a6 a7 a8)) : t_law_3 B (EvX sc a1 a2 a3 (some .coil) (some (.d (.tuple (ilst ns)))) a6 a7 a8) := by
  refine w_seq (w_set (w_val (w_call (w_cons (w_var (x := .coil) rfl (w_cons (w_var (x := .d (.tuple (ilst ns))) rfl (w_nil ?_))))))))
  refine And.intro rfl (L_bent_rope 38 hr fun d hd => And.intro rfl ?_)
  exact T2 (d := d) (od_mono hd (by decide) (by decide)) (h _)
theorem rng_ilst (n : Nat) : rngD 0 n = ilst ((List.range n).map fun i => ((i : Nat) : Int)) := by
  unfold rngD ilst
  rw [List.map_map]
  refine List.map_congr_left fun i _ => ?_
  simp
theorem T4 {sc ns : List Int} {m : Nat} {j : Int} {a1 a2 a3 a7 a8 : Option Dv} {B : Me} (hr : IsRope ns) (hm : m ∈ [1, 2, 3]) (hj : j ∈ [(0 : Int), 1, 2]) (h : ∀ b2 b6 b7, B.nx (EvX sc a1 b2 a3 (some .coil) (some (.d (.tuple (ilst ns)))) b6 b7 a8)) :
    t_law_4 B (EvX sc a1 a2 a3 (some .coil) (some (.d (.tuple (ilst ns)))) (some (.d (.tuple (ilst (smallN m j))))) a7 a8) := by
  obtain ⟨s1, s2, s3⟩ := small_good m hm j hj
  have lm : m ≤ 3 := by
    simp only [List.mem_cons, List.not_mem_nil, or_false] at hm
    omega
  refine w_seq (w_for (w_itemsA (w_f (w_lst (w_cons (w_var (x := .d (.tuple (ilst ns))) rfl ?_))))))
  refine w_cons (w_var (x := .d (.tuple (ilst (smallN m j)))) rfl (w_cons ?_))
  refine w_call (w_cons (w_var (x := .d (.tuple (ilst (smallN m j)))) rfl (w_nil (And.intro rfl ?_))))
  refine L_turned (i := 0 :: (List.range m).map fun i => ((i : Nat) : Int) + 1) (l := 9 + j) (by simp; omega) ?_
  have er : isort ((0 :: ((List.range m).map fun i => ((i : Nat) : Int) + 1) ++ [9 + j]).map fun p => 9 + j - p) = ((smallN m j).map fun p => 9 + j - p).reverse := isort_rev s2
  rw [er]
  refine And.intro rfl ?_
  refine L_wind (by decide) (by decide +kernel) fun w w0 w1 => ?_
  refine And.intro ⟨by omega, by omega⟩ (w_nil ?_)
  have hn : ((2 : Int) + w).toNat ∈ [2, 3, 4, 5, 6, 7, 8, 9] := by
    simp only [List.mem_cons, List.not_mem_nil, or_false]
    omega
  have hg := range_good _ hn
  rw [rng_ilst]
  generalize ((2 : Int) + w).toNat = n at hg
  refine forL_inv (fun ds ρ => (∀ d ∈ ds, ∃ ms, d = .tuple (ilst ms) ∧ GoodI ms) ∧ ∃ b7, ρ = EvX sc a1 a2 a3 (some .coil) (some (.d (.tuple (ilst ns)))) (some (.d (.tuple (ilst (smallN m j))))) b7 a8) (fun d ds ρ N ii hN => ?_) (fun ρ ii => ?_) _ _ ⟨fun d hd => ?_, a7, rfl⟩
  · obtain ⟨hall, b7, rfl⟩ := ii
    obtain ⟨ms, rfl, hG⟩ := hall d List.mem_cons_self
    exact T1 hG (hN _ ⟨fun d hd => hall d (List.mem_cons_of_mem _ hd), _, rfl⟩)
  · obtain ⟨_, b7, rfl⟩ := ii
    exact T3 hr fun b2 => h _ _ _
  · simp only [List.mem_cons, List.not_mem_nil, or_false] at hd
    rcases hd with rfl | rfl | rfl | rfl
    · exact ⟨_, rfl, good_of_rope hr⟩
    · exact ⟨_, rfl, s1⟩
    · exact ⟨_, rfl, s3⟩
    · exact ⟨_, rfl, hg⟩
end
end Lw
end

section
set_option Elab.async false
set_option linter.all false
set_option maxRecDepth 100000
set_option maxHeartbeats 400000
namespace Lw
open PySem PySem.Spec PyProof.Rows L2 Ks
section
variable {Q : Dv → Prop} {Ex : Exn → Prop}
theorem T5 {sc ns : List Int} {a1 a2 a3 a6 a7 a8 : Option Dv} {B : Me} (hr : IsRope ns) (h : ∀ b2 b6 b7, B.nx (EvX sc a1 b2 a3 (some .coil) (some (.d (.tuple (ilst ns)))) b6 b7 a8)) :
    t_law_5 B (EvX sc a1 a2 a3 (some .coil) (some (.d (.tuple (ilst ns)))) a6 a7 a8) := by
  refine w_seq (w_set (w_val (w_bin (w_bin ?_))))
  refine And.intro rfl (L_wind (by decide) (by decide +kernel) fun w w0 w1 => ?_)
  refine And.intro (by omega) (And.intro (by omega) ?_)
  have em : ((1 : Int) + w).toNat ∈ [1, 2, 3] := by
    simp only [List.mem_cons, List.not_mem_nil, or_false]
    omega
  have lm : ((1 : Int) + w).toNat ≤ 3 := by omega
  rw [rng_ilst]
  generalize ((1 : Int) + w).toNat = m at em lm
  refine lcL_map (fun d => match d with | .int p => .int (p + 1) | x => x) _ (by rw [ilst_len]; have : sizeLine = 16777216 := sizeLine_eq; simp; omega) (fun d hd K1 K2 q => ?_) ?_
  · obtain ⟨p, hp, rfl⟩ := ilst_map_mem hd
    exact q
  · have e2 : (ilst ((List.range m).map fun i => ((i : Nat) : Int))).map (fun d => match d with | PyData.int p => PyData.int (p + 1) | x => x) = ilst ((List.range m).map fun i => ((i : Nat) : Int) + 1) := by
      unfold ilst
      rw [List.map_map, List.map_map, List.map_map]
      rfl
    rw [e2]
    have szl : sizeLine = 16777216 := sizeLine_eq
    refine And.intro (by rw [ilst_len]; simp; omega) ?_
    refine And.intro rfl (L_wind (by decide) (by decide +kernel) fun j j0 j1 => ?_)
    refine And.intro (by simp [ilst]; omega) (And.intro rfl ?_)
    have ej : j ∈ [(0 : Int), 1, 2] := by
      simp only [List.mem_cons, List.not_mem_nil, or_false]
      omega
    have es : ([PyData.int 0] ++ ilst ((List.range m).map fun i => ((i : Nat) : Int) + 1)) ++ [PyData.int (9 + j)] = ilst (smallN m j) := by
      unfold smallN
      rw [ilst_app]
      rfl
    show t_law_4 B (EvX sc a1 a2 a3 (some .coil) (some (.d (.tuple (ilst ns)))) (some (.d (.tuple (([PyData.int 0] ++ ilst ((List.range m).map fun i => ((i : Nat) : Int) + 1)) ++ [PyData.int (9 + j)])))) a7 a8)
    rw [es]
    exact T4 hr em ej h
end
end Lw
end

section
set_option Elab.async false
set_option linter.all false
set_option maxRecDepth 100000
set_option maxHeartbeats 400000
namespace Lw
open PySem PySem.Spec PyProof.Rows L2 Ks
section
variable {Q : Dv → Prop} {Ex : Exn → Prop}
theorem w_tp {n : Nat} {ma : Ks.Env → M (List Dv)} {ρ : Ks.Env} (h : ma ρ (fun xs => match dts xs with
  | some ps => Q (.d (.tuple ps))
  | none => False) Ex) : mTup n ma ρ Q Ex := h
def oddL : List Dt := [.none, .int 1, .int 7, .bool true, .str (Str.ofString "3"), .tuple [.int 3]]
def manyL : List Dt := [.int 2, .int 3, .int 4, .int 5, .int 6]
theorem oddL_bad : ∀ d ∈ oddL, d.canLay0 = true ∧ isWhole 2 6 d = false := by
  intro d hd
  simp only [oddL, List.mem_cons, List.not_mem_nil, or_false] at hd
  rcases hd with rfl | rfl | rfl | rfl | rfl | rfl <;> exact ⟨by decide +kernel, by decide +kernel⟩
theorem T7 {sc : List Int} {k : Int} {a2 a3 a4 a5 a6 a7 a8 : Option Dv} {B : Me} (hk : 0 ≤ k) (h : ∀ b1 b2 b3 b4 b5 b6 b7 b8, B.nx (EvX sc b1 b2 b3 b4 b5 b6 b7 b8)) : t_law_7 B (EvX sc (some (.d (.int k))) a2 a3 a4 a5 a6 a7 a8) := by
  refine w_seq (w_set (w_val (w_call (w_cons (w_var (x := .scr sc) rfl (w_cons (w_var (x := .d (.int k)) rfl (w_nil ?_))))))))
  refine And.intro rfl (L_coil hk (And.intro rfl ?_))
  show t_law_6 B (EvX sc (some (.d (.int k))) a2 a3 (some .coil) a5 a6 a7 a8)
  refine w_seq (w_set (w_val (w_call (w_cons (w_var (x := .coil) rfl (w_cons (w_c (w_cons (w_c (w_nil ?_)))))))))) 
  refine And.intro rfl (L_any_rope fun ns hr => And.intro rfl ?_)
  exact T5 hr fun b2 b6 b7 => h _ _ _ _ _ _ _ _
theorem plain (sc : List Int) (hl : sc.length ≤ 63) : F_law [.scr sc] (fun v => v = .d (.bool true)) (fun _ => False) := by
  show b_law (endM (fun v => v = .d (.bool true)) (fun _ => False)) (EvX sc none none none none none none none none)
  refine w_seq (w_for ?_)
  refine And.intro ?_ (And.intro ?_ ?_)
  · show -(2 ^ 62) ≤ (if (if ((sc.length : Nat) : Int) < 12 then ((sc.length : Nat) : Int) else 12) > 6 then (if ((sc.length : Nat) : Int) < 12 then ((sc.length : Nat) : Int) else 12) else 6)
    split <;> omega
  · show (if (if ((sc.length : Nat) : Int) < 12 then ((sc.length : Nat) : Int) else 12) > 6 then (if ((sc.length : Nat) : Int) < 12 then ((sc.length : Nat) : Int) else 12) else 6) < 2 ^ 62
    split <;> omega
  · refine forL_rng (fun _ ρ => ∃ b1 b2 b3 b4 b5 b6 b7 b8, ρ = EvX sc b1 b2 b3 b4 b5 b6 b7 b8) (fun m ρ N hm ii hN => ?_) (fun ρ ii => ?_) _ ⟨_, _, _, _, _, _, _, _, rfl⟩
    · obtain ⟨b1, b2, b3, b4, b5, b6, b7, b8, rfl⟩ := ii
      exact T7 (by omega) fun c1 c2 c3 c4 c5 c6 c7 c8 => hN _ ⟨_, _, _, _, _, _, _, _, rfl⟩
    · obtain ⟨b1, b2, b3, b4, b5, b6, b7, b8, rfl⟩ := ii
      show t_law_14 (endM (fun v => v = .d (.bool true)) (fun _ => False)) (EvX sc b1 b2 b3 b4 b5 b6 b7 b8)
      refine w_seq (w_for (w_itemsA (w_f (w_lst (w_cons (w_c (w_cons (w_c (w_cons (w_c (w_cons (w_c (w_cons (w_c (w_cons ?_)))))))))))))))
      refine w_tp (w_cons (w_c (w_nil (w_nil ?_))))
      show forL (fName 2) t_law_8 _ oddL _
      refine forL_inv (fun ds ρ => (∀ d ∈ ds, d.canLay0 = true ∧ isWhole 2 6 d = false) ∧ ∃ b1 b2 b3 b4 b5 b6 b7 b8, ρ = EvX sc b1 b2 b3 b4 b5 b6 b7 b8) (fun d ds ρ N ii hN => ?_) (fun ρ ii => ?_) _ _ ⟨oddL_bad, _, _, _, _, _, _, _, _, rfl⟩
      · obtain ⟨hall, b1, b2, b3, b4, b5, b6, b7, b8, rfl⟩ := ii
        obtain ⟨h1, h2⟩ := hall d List.mem_cons_self
        exact T8 h1 h2 (hN _ ⟨fun d hd => hall d (List.mem_cons_of_mem _ hd), _, _, _, _, _, _, _, _, rfl⟩)
      · obtain ⟨_, b1, b2, b3, b4, b5, b6, b7, b8, rfl⟩ := ii
        show t_law_13 (endM (fun v => v = .d (.bool true)) (fun _ => False)) (EvX sc b1 b2 b3 b4 b5 b6 b7 b8)
        refine w_seq (w_for (w_itemsA (w_tp (w_cons (w_c (w_cons (w_c (w_cons (w_c (w_cons (w_c (w_cons (w_c (w_nil ?_))))))))))))))
        show forL (fName 3) t_law_10 _ manyL _
        refine forL_inv (fun ds ρ => (∀ d ∈ ds, ∃ k : Nat, k ≤ 4 ∧ d = .int ((k + 2 : Nat) : Int)) ∧ ∃ b1 b2 b3 b4 b5 b6 b7 b8, ρ = EvX sc b1 b2 b3 b4 b5 b6 b7 b8) (fun d ds ρ N ii hN => ?_) (fun ρ ii => ?_) _ _ ⟨fun d hd => ?_, _, _, _, _, _, _, _, _, rfl⟩
        · obtain ⟨hall, b1, b2, b3, b4, b5, b6, b7, b8, rfl⟩ := ii
          obtain ⟨k, hk, rfl⟩ := hall d List.mem_cons_self
          exact T10 hk fun c8 => hN _ ⟨fun d hd => hall d (List.mem_cons_of_mem _ hd), _, _, _, _, _, _, _, _, rfl⟩
        · obtain ⟨_, b1, b2, b3, b4, b5, b6, b7, b8, rfl⟩ := ii
          exact T12 rfl
        · simp only [manyL, List.mem_cons, List.not_mem_nil, or_false] at hd
          rcases hd with rfl | rfl | rfl | rfl | rfl
          · exact ⟨0, by decide, rfl⟩
          · exact ⟨1, by decide, rfl⟩
          · exact ⟨2, by decide, rfl⟩
          · exact ⟨3, by decide, rfl⟩
          · exact ⟨4, by decide, rfl⟩
end
end Lw
end
theorem PySem.Challenge.cw_knotspans_k09_gauges_of_ropes_holds : PySem.Challenge.rw_knotspans_k09_gauges_of_ropes.Holds :=
  Lw.holds Lw.plain
