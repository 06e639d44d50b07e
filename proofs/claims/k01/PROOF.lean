import PyProof.Rows.All
import Wide.All
import OpenK.AllK
import Wide.FinOn
import HandS.ForMost
import HandS.Exc
import HandS.TryOnly
import HandS.ExcOwn
import HandS.ExcCtx
import HandS.WordsExc
import HandS.Lambda
import HandS.EndTab
import KE.KNest
import HandS.IsInst
import HandS.Wide
import HandS.Zip
import HandS.Flow
import HandS.Style
import HandS.HotCalls
import HandS.ExcIs
import HandS.SortKw
import HandS.SortInts
import HandS.Walk
import HandS.CallLocal
import HandS.FStr
import HandS.Conv
import HandS.Deep
import HandS.TupAny
import HandS.TupLe
import KE.SortData
import HandS.SetFor
import HandS.Strs
import HandS.SetKeys
import KE.GoesMore
import KE.GoesZip
import KE.GoesEnum
import HandS.TupMul
import HandS.Hot
import HandS.Defaults
import HandS.Head0
import HandS.Head1
import HandS.Head2
import HandS.HeadEnd
import HandS.HeadHook1
import HandS.HeadHook2
import HandS.HeadHook3
import HandS.HeadHook4
import HandS.HeadWalk
import PySem.Challenge.RW_patchedrings_k01_jobs_and_orders
set_option Elab.async false
set_option linter.all false
set_option maxRecDepth 100000
set_option maxHeartbeats 1000000
/-! DL: a layer of pure data over the hand layer. -/
namespace DL
open PySem PySem.Spec PyProof.Rows L2

abbrev D := PyData
/-- a def or class of the text, by its name, as data -/
abbrev fnD (x : Str) : D := .dict [(.str x, .none)]
/-- an object, by its address -/
abbrev adD (a : Addr) : D := .dict [(.int (a : Nat), .none)]
/-- the script, read only -/
abbrev scD (ns : List Int) : D := .dict [(.none, .list (ns.map .int))]

section
variable (K : PySem.W.Frag) (mg : Str → Option Value)
def RepX (G : Hp) (kvs : List (D × D)) (v : V) : Prop := match kvs with
  | [(.str x, .none)] => ∃ f, v = V.ref f ∧ mg x = some (.ref f)
  | [(.none, .list ds)] => ∃ (a : Addr) (ns : List Int), v = V.ref a ∧ ds = ns.map .int ∧ SqL K G a (ns.map V.int)
  | [(.int n, .none)] => v = V.ref n.toNat
  | _ => False
mutual
def Rep (G : Hp) : D → V → Prop
  | .none, v => v = .non
  | .bool b, v => v = .bl b
  | .int i, v => v = .int i
  | .str s, v => v = .str s
  | .list ds, v => ∃ a xs, v = V.ref a ∧ G a = some (.lst xs) ∧ RepL G ds xs
  | .tuple ds, v => ∃ a xs, v = V.ref a ∧ G a = some (.tup xs) ∧ RepL G ds xs
  | .dict kvs, v => RepX K mg G kvs v
def RepL (G : Hp) : List D → List V → Prop
  | [], vs => vs = []
  | d :: ds, vs => ∃ v ws, vs = v :: ws ∧ Rep G d v ∧ RepL G ds ws
end
end

section
variable {K : PySem.W.Frag} {mg : Str → Option Value} {G G' H H' F : Hp}
theorem RepX.mono (s : Same G G') {kvs : List (D × D)} {v : V} (h : RepX K mg G kvs v) : RepX K mg G' kvs v := by
  unfold RepX at h ⊢
  split at h
  · exact h
  · obtain ⟨a, ns, e1, e2, h⟩ := h
    exact ⟨a, ns, e1, e2, s.seq h⟩
  · exact h
  · exact h.elim
mutual
theorem Rep.mono (s : Same G G') : ∀ (d : D) (v : V), Rep K mg G d v → Rep K mg G' d v
  | .none, v, h => by rw [Rep] at h ⊢; exact h
  | .bool b, v, h => by rw [Rep] at h ⊢; exact h
  | .int i, v, h => by rw [Rep] at h ⊢; exact h
  | .str x, v, h => by rw [Rep] at h ⊢; exact h
  | .list ds, v, h => by
    rw [Rep] at h ⊢
    obtain ⟨a, xs, e, g, r⟩ := h
    exact ⟨a, xs, e, s _ _ g, RepL.mono s ds xs r⟩
  | .tuple ds, v, h => by
    rw [Rep] at h ⊢
    obtain ⟨a, xs, e, g, r⟩ := h
    exact ⟨a, xs, e, s _ _ g, RepL.mono s ds xs r⟩
  | .dict kvs, v, h => by rw [Rep] at h ⊢; exact h.mono s
theorem RepL.mono (s : Same G G') : ∀ (ds : List D) (vs : List V), RepL K mg G ds vs → RepL K mg G' ds vs
  | [], vs, h => by rw [RepL] at h ⊢; exact h
  | d :: ds, vs, h => by
    rw [RepL] at h ⊢
    obtain ⟨v, ws, e, r, q⟩ := h
    exact ⟨v, ws, e, Rep.mono s d v r, RepL.mono s ds ws q⟩
end
theorem RepL.length : ∀ {ds : List D} {vs : List V}, RepL K mg G ds vs → ds.length = vs.length
  | [], vs, h => by rw [RepL] at h; rw [h]; rfl
  | d :: ds, vs, h => by
    rw [RepL] at h
    obtain ⟨v, ws, e, r, q⟩ := h
    rw [e, List.length_cons, List.length_cons, RepL.length q]
theorem RepL.get : ∀ {ds : List D} {vs : List V} {i : Nat} {d : D}, RepL K mg G ds vs → ds[i]? = some d → ∃ v, vs[i]? = some v ∧ Rep K mg G d v
  | [], vs, i, d, h, e => by simp at e
  | d0 :: ds, vs, i, d, h, e => by
    rw [RepL] at h
    obtain ⟨v, ws, rfl, r, q⟩ := h
    cases i with
    | zero => simp at e; subst e; exact ⟨v, rfl, r⟩
    | succ i => simp at e; obtain ⟨w, h1, h2⟩ := RepL.get q e; exact ⟨w, by simpa using h1, h2⟩
theorem RepL.get' : ∀ {ds : List D} {vs : List V} {i : Nat} {v : V}, RepL K mg G ds vs → vs[i]? = some v → ∃ d, ds[i]? = some d ∧ Rep K mg G d v
  | [], vs, i, v, h, e => by rw [RepL] at h; subst h; simp at e
  | d0 :: ds, vs, i, v, h, e => by
    rw [RepL] at h
    obtain ⟨v0, ws, rfl, r, q⟩ := h
    cases i with
    | zero => simp at e; subst e; exact ⟨d0, rfl, r⟩
    | succ i => simp at e; obtain ⟨w, h1, h2⟩ := RepL.get' q e; exact ⟨w, by simpa using h1, h2⟩
theorem RepL.cons {d : D} {v : V} {ds : List D} {vs : List V} (r : Rep K mg G d v) (q : RepL K mg G ds vs) : RepL K mg G (d :: ds) (v :: vs) := by
  rw [RepL]; exact ⟨v, vs, rfl, r, q⟩
theorem RepL.nil : RepL K mg G [] [] := by rw [RepL]
theorem RepL.app : ∀ {ds es : List D} {vs ws : List V}, RepL K mg G ds vs → RepL K mg G es ws → RepL K mg G (ds ++ es) (vs ++ ws)
  | [], es, vs, ws, h, q => by rw [RepL] at h; subst h; exact q
  | d :: ds, es, vs, ws, h, q => by
    rw [RepL] at h
    obtain ⟨v, us, rfl, r, t⟩ := h
    exact RepL.cons r (RepL.app t q)
theorem RepL.drop : ∀ {ds : List D} {vs : List V} (n : Nat), RepL K mg G ds vs → RepL K mg G (ds.drop n) (vs.drop n)
  | ds, vs, 0, h => h
  | [], vs, n + 1, h => by rw [RepL] at h; subst h; exact RepL.nil
  | d :: ds, vs, n + 1, h => by
    rw [RepL] at h
    obtain ⟨v, us, rfl, r, t⟩ := h
    exact RepL.drop n t
theorem RepL.take : ∀ {ds : List D} {vs : List V} (n : Nat), RepL K mg G ds vs → RepL K mg G (ds.take n) (vs.take n)
  | ds, vs, 0, h => by simp only [List.take_zero]; exact RepL.nil
  | [], vs, n + 1, h => by rw [RepL] at h; subst h; exact RepL.nil
  | d :: ds, vs, n + 1, h => by
    rw [RepL] at h
    obtain ⟨v, us, rfl, r, t⟩ := h
    exact RepL.cons r (RepL.take n t)
theorem RepL.set {d : D} {v : V} (r : Rep K mg G d v) : ∀ {ds : List D} {vs : List V} (n : Nat), RepL K mg G ds vs → RepL K mg G (ds.set n d) (vs.set n v)
  | [], vs, n, h => by rw [RepL] at h; subst h; exact RepL.nil
  | d0 :: ds, vs, 0, h => by
    rw [RepL] at h
    obtain ⟨v0, us, rfl, _, t⟩ := h
    exact RepL.cons r t
  | d0 :: ds, vs, n + 1, h => by
    rw [RepL] at h
    obtain ⟨v0, us, rfl, r0, t⟩ := h
    exact RepL.cons r0 (RepL.set r n t)
theorem RepL.reverse : ∀ {ds : List D} {vs : List V}, RepL K mg G ds vs → RepL K mg G ds.reverse vs.reverse
  | [], vs, h => by rw [RepL] at h; subst h; exact RepL.nil
  | d :: ds, vs, h => by
    rw [RepL] at h
    obtain ⟨v, us, rfl, r, t⟩ := h
    rw [List.reverse_cons, List.reverse_cons]
    exact RepL.app (RepL.reverse t) (RepL.cons r RepL.nil)
theorem RepL.ints : ∀ {ns : List Int} {vs : List V}, RepL K mg G (ns.map .int) vs → vs = ns.map V.int
  | [], vs, h => by rw [List.map_nil, RepL] at h; rw [h]; rfl
  | n :: ns, vs, h => by
    rw [List.map_cons, RepL] at h
    obtain ⟨v, us, rfl, r, t⟩ := h
    rw [Rep] at r
    rw [RepL.ints t, r, List.map_cons]
theorem RepL.of_ints : ∀ (ns : List Int), RepL K mg G (ns.map .int) (ns.map V.int)
  | [] => RepL.nil
  | n :: ns => RepL.cons (by rw [Rep]) (RepL.of_ints ns)
theorem RepL.strs : ∀ {ns : List Str} {vs : List V}, RepL K mg G (ns.map .str) vs → vs = ns.map V.str
  | [], vs, h => by rw [List.map_nil, RepL] at h; rw [h]; rfl
  | n :: ns, vs, h => by
    rw [List.map_cons, RepL] at h
    obtain ⟨v, us, rfl, r, t⟩ := h
    rw [Rep] at r
    rw [RepL.strs t, r, List.map_cons]
theorem RepL.of_strs : ∀ (ns : List Str), RepL K mg G (ns.map .str) (ns.map V.str)
  | [] => RepL.nil
  | n :: ns => RepL.cons (by rw [Rep]) (RepL.of_strs ns)
theorem RepL.bls : ∀ {ns : List Bool} {vs : List V}, RepL K mg G (ns.map .bool) vs → vs = ns.map V.bl
  | [], vs, h => by rw [List.map_nil, RepL] at h; rw [h]; rfl
  | n :: ns, vs, h => by
    rw [List.map_cons, RepL] at h
    obtain ⟨v, us, rfl, r, t⟩ := h
    rw [Rep] at r
    rw [RepL.bls t, r, List.map_cons]
end

/-! ### tables of code objects: of the defs that make a lambda, by their names; they grow -/
def lamNames : List (Str × Str) := [("_law_by_two", "_law_by_two.<locals>.<lambda>"), ("_law_by_three", "_law_by_three.<locals>.<lambda>"), ("_law_by_four", "_law_by_four.<locals>.<lambda>"), ("_law_refusals", "_law_refusals.<locals>.<lambda>"),
  ("_law_written", "_law_written.<locals>.<lambda>"), ("law", "law.<locals>.<lambda>"), ("_law_called", "_law_called.<locals>.<lambda>"), ("_law_sure", "_law_sure.<locals>.<lambda>"), ("_law_made_right", "_law_made_right.<locals>.<lambda>")]
def Zt (K : PySem.W.Frag) (H : Hp) : Prop := ∀ p ∈ lamNames, ∀ c P, PySem.W.tabIn K p.1 = some (c, P) → LamX.TabS H P p.2
/-- without the tables -/
def nT (H : Hp) : Hp := fun b => match H b with
  | some (.tbl _) => none
  | o => o
theorem nT_of {H : Hp} {b : Addr} {o : HO} (e : H b = some o) (n : ∀ ps, o ≠ .tbl ps) : nT H b = some o := by
  unfold nT
  rw [e]
  cases o <;> first | rfl | exact absurd rfl (n _)
theorem nT_some {H : Hp} {b : Addr} {o : HO} (e : nT H b = some o) : H b = some o ∧ ∀ ps, o ≠ .tbl ps := by
  unfold nT at e
  cases h : H b with
  | none => rw [h] at e; cases e
  | some u =>
    rw [h] at e
    cases u <;> first | (cases e; exact ⟨rfl, fun _ => nofun⟩) | cases e
theorem nT_none {H : Hp} {b : Addr} (e : H b = none) : nT H b = none := by
  unfold nT; rw [e]
theorem nT_same (H : Hp) : Same (nT H) H := fun b o e => (nT_some e).1
def NoTb (G : Hp) : Prop := ∀ b ps, G b ≠ some (.tbl ps)
theorem NoTb.nT {H : Hp} : NoTb (nT H) := fun b ps e => (nT_some e).2 ps rfl
theorem same_nT {G H : Hp} (s : Same G H) (n : NoTb G) : Same G (nT H) := fun b o e => nT_of (s b o e) fun ps z => n b ps (z ▸ e)
theorem nT_mono {H H' : Hp} (s : Same H H') : Same (nT H) (nT H') := fun b o e => nT_of (s b o (nT_some e).1) (nT_some e).2
theorem NoTb.upd {G : Hp} {p : Addr} {o : HO} (n : NoTb G) (h : ∀ ps, o ≠ .tbl ps) : NoTb (L2.upd G p o) := fun b ps e => by
  by_cases hb : b = p
  · subst hb; rw [upd_same] at e; cases e; exact h _ rfl
  · rw [upd_ne hb] at e; exact n b ps e
theorem Zt.keep {K : PySem.W.Frag} {H H' : Hp} (z : Zt K H) (k : ∀ b o, H b = some o → (∀ vs, o ≠ .lst vs) → H' b = some o) : Zt K H' := fun p hp c P e => by
  obtain ⟨ps, h1, h2, h3⟩ := z p hp c P e
  refine ⟨ps, k _ _ h1 (fun _ => nofun), h2, fun pos cv hc => ?_⟩
  obtain ⟨d, e1, e2⟩ := h3 pos cv hc
  exact ⟨d, e1, k _ _ e2 (fun _ => nofun)⟩
theorem Zt.same {K : PySem.W.Frag} {H H' : Hp} (z : Zt K H) (s : Same H H') : Zt K H' := z.keep fun b o e _ => s b o e
theorem Zt.upd {K : PySem.W.Frag} {H : Hp} {p : Addr} {o : HO} (z : Zt K H) (h : H p = none ∨ ∃ vs, H p = some (.lst vs)) : Zt K (L2.upd H p o) := z.keep fun b u e n => by
  have hb : b ≠ p := by
    rintro rfl
    rcases h with h | ⟨vs, h⟩
    · rw [h] at e; cases e
    · rw [h] at e; cases e; exact n _ rfl
  rw [upd_ne hb]; exact e
/-! ### heaps that grow -/
/-- the tracked heap grows (what was tracked stands), and of the new things some are frozen -/
structure Grow (G H G' H' : Hp) : Prop where
  gg : Same G G'
  gh : Same G' H'
  hh : Same H H'
  old : ∀ b, H b ≠ none → G' b = G b
  nt : NoTb G → NoTb G'
theorem Same.upd' {H : Hp} {p : Addr} {o : HO} (h : H p = none) : Same H (upd H p o) := fun b u e => by
  rw [upd_ne (ne_of_none e h)]; exact e
theorem same_upd2 {G H : Hp} {p : Addr} {o : HO} (s : Same G H) : Same (upd G p o) (upd H p o) := fun b u e => by
  by_cases hb : b = p
  · subst hb; rw [upd_same] at e ⊢; exact e
  · rw [upd_ne hb] at e ⊢; exact s b u e
theorem Grow.refl {G H : Hp} (s : Same G H) : Grow G H G H := ⟨Same.refl _, s, Same.refl _, fun _ _ => rfl, id⟩
theorem Grow.new {G H : Hp} {p : Addr} {o : HO} (s : Same G H) (h : H p = none) (ho : ∀ ps, o ≠ .tbl ps := by intro _ z; cases z) : Grow G H (upd G p o) (upd H p o) where
  gg := Same.upd' (s.free h)
  gh := same_upd2 s
  hh := Same.upd' h
  old := fun b hb => upd_ne fun e => hb (by rw [e]; exact h)
  nt := fun n b ps e => by
    by_cases hb : b = p
    · subst hb; rw [upd_same] at e; cases e; exact ho _ rfl
    · rw [upd_ne hb] at e; exact n b ps e
theorem Grow.loose {G H : Hp} {p : Addr} {o : HO} (s : Same G H) (h : H p = none) : Grow G H G (upd H p o) where
  gg := Same.refl _
  gh := s.trans (Same.upd' h)
  hh := Same.upd' h
  old := fun _ _ => rfl
  nt := id
theorem Grow.trans {G H G1 H1 G2 H2 : Hp} (a : Grow G H G1 H1) (b : Grow G1 H1 G2 H2) : Grow G H G2 H2 where
  gg := a.gg.trans b.gg
  gh := b.gh
  hh := a.hh.trans b.hh
  old := fun c hc => by
    rw [b.old c, a.old c hc]
    cases e : H c with
    | none => exact absurd e hc
    | some u => rw [a.hh c u e]; simp
  nt := fun n => b.nt (a.nt n)

/-- the frozen heap grows; where the frame F stands, it is as it was -/
structure Ext (F G G' : Hp) : Prop where
  gg : Same G G'
  fr : ∀ b, F b ≠ none → G' b = G b
theorem Ext.refl {F G : Hp} : Ext F G G := ⟨Same.refl _, fun _ _ => rfl⟩
theorem Ext.trans {F G G1 G2 : Hp} (a : Ext F G G1) (b : Ext F G1 G2) : Ext F G G2 := ⟨a.gg.trans b.gg, fun c h => (b.fr c h).trans (a.fr c h)⟩
theorem Ext.less {F F' G G' : Hp} (a : Ext F G G') (h : Same F' F) : Ext F' G G' := ⟨a.gg, fun b hb => a.fr b (by
  cases e : F' b with
  | none => exact absurd e hb
  | some u => rw [h b u e]; simp)⟩
theorem Grow.ext {F G H G' H' : Hp} (g : Grow G H G' H') (f : Same F H) : Ext F G G' := ⟨g.gg, fun b hb => g.old b (by
  cases e : F b with
  | none => exact absurd e hb
  | some u => rw [f b u e]; simp)⟩

/-! ### slots -/
inductive SV where
  | un | dat (d : D) | cel (a : Addr) (ds : List D)
def SlotOk (K : PySem.W.Frag) (mg : Str → Option Value) (G F : Hp) (H : Hp) (o : Option (Option V)) : SV → Prop
  | .un => True
  | .dat d => ∃ v, o = some (some v) ∧ Rep K mg G d v
  | .cel a ds => o = some (some (V.ref a)) ∧ ∃ vs, H a = some (.lst vs) ∧ RepL K mg G ds vs ∧ G a = none ∧ F a = none
structure Rel (K : PySem.W.Frag) (mg : Str → Option Value) (G F : Hp) (ρ : List SV) (σ : L2.St) (H : Hp) : Prop where
  gh : Same G H
  fh : Same F H
  len : σ.length = ρ.length
  slot : ∀ (i : Nat) (s : SV), ρ[i]? = some s → SlotOk K mg G F H σ[i]? s
  sep : ∀ (i j : Nat) (a : Addr) (ds es : List D), ρ[i]? = some (.cel a ds) → ρ[j]? = some (.cel a es) → i = j
  gt : NoTb G
  ft : NoTb F
  tb : Zt K H
section
variable {K : PySem.W.Frag} {mg : Str → Option Value} {G G' H H' F : Hp} {ρ : List SV} {σ : L2.St}
theorem SlotOk.grow {o : Option (Option V)} {s : SV} (g : Grow G H G' H') (h : SlotOk K mg G F H o s) : SlotOk K mg G' F H' o s := by
  cases s with
  | un => trivial
  | dat d => obtain ⟨v, e, r⟩ := h; exact ⟨v, e, Rep.mono g.gg d v r⟩
  | cel a ds =>
    obtain ⟨e, vs, ha, r, ga, fa⟩ := h
    exact ⟨e, vs, g.hh _ _ ha, RepL.mono g.gg ds vs r, by rw [g.old a (by rw [ha]; simp)]; exact ga, fa⟩
theorem Rel.grow (R : Rel K mg G F ρ σ H) (g : Grow G H G' H') : Rel K mg G' F ρ σ H' :=
  ⟨g.gh, R.fh.trans g.hh, R.len, fun i s e => (R.slot i s e).grow g, R.sep, g.nt R.gt, R.ft, R.tb.same g.hh⟩
/-- more of the heap is to be kept -/
theorem Rel.frame (R : Rel K mg G F ρ σ H) {F' : Hp} (h : Same F' H) (hn : ∀ (i : Nat) (a : Addr) (ds : List D), ρ[i]? = some (.cel a ds) → F' a = none) (nt : NoTb F') : Rel K mg G F' ρ σ H :=
  ⟨R.gh, h, R.len, fun i s e => by
    have := R.slot i s e
    cases s with
    | un => trivial
    | dat d => exact this
    | cel a ds => obtain ⟨e1, vs, ha, r, ga, fa⟩ := this; exact ⟨e1, vs, ha, r, ga, hn i a ds e⟩, R.sep, R.gt, nt, R.tb⟩
/-- a call: its tables may grow -/
theorem Rel.growT (R : Rel K mg G F ρ σ H) (gg : Same G G') (gh : Same G' H') (hh : Same (nT H) H') (old : ∀ b, nT H b ≠ none → G' b = G b) (nt : NoTb G') (tb : Zt K H') : Rel K mg G' F ρ σ H' :=
  ⟨gh, (same_nT R.fh R.ft).trans hh, R.len, fun i s e => by
    have h := R.slot i s e
    cases s with
    | un => trivial
    | dat d => obtain ⟨v, e, r⟩ := h; exact ⟨v, e, Rep.mono gg d v r⟩
    | cel a ds =>
      obtain ⟨e, vs, ha, r, ga, fa⟩ := h
      have hn : nT H a = some (.lst vs) := nT_of ha fun _ => nofun
      exact ⟨e, vs, hh _ _ hn, RepL.mono gg ds vs r, by rw [old a (by rw [hn]; simp)]; exact ga, fa⟩, R.sep, nt, R.ft, tb⟩
end

/-! ### data-level predicate transformers -/
/-- a value: itself, or what stands in a slot (read when it is used) -/
inductive BV where
  | val (d : D) | slot (i : Nat)
abbrev ED := Str → Prop
abbrev DW := ED → List SV → (D → List SV → Prop) → Prop
abbrev BW := ED → List SV → (BV → List SV → Prop) → Prop
abbrev TW := ED → List SV → (Bool → List SV → Prop) → Prop
abbrev AW := ED → List SV → (List BV → List SV → Prop) → Prop
structure OW where
  nx : List SV → Prop
  rt : D → List SV → Prop
  bk : List SV → Prop := fun _ => False
  ct : List SV → Prop := fun _ => False
abbrev SW := ED → List SV → OW → Prop

def res (b : BV) (ρ : List SV) : Option D := match b with
  | .val d => some d
  | .slot i => match ρ[i]? with
    | some (.dat d) => some d
    | some (.cel _ ds) => some (.list ds)
    | _ => none
/-- what is read of it, the list in a slot frozen -/
def ownR (b : BV) (ρ : List SV) : Option (D × List SV) := match b with
  | .val d => some (d, ρ)
  | .slot i => match ρ[i]? with
    | some (.dat d) => some (d, ρ)
    | some (.cel _ ds) => some (.list ds, ρ.set i (.dat (.list ds)))
    | _ => none
def own (w : BW) : DW := fun E ρ P => w E ρ fun b ρ1 => match ownR b ρ1 with
  | some z => P z.1 z.2
  | none => False

section
variable (K : PySem.W.Frag) (mg : Str → Option Value) (E : XK)
def Exits (F : Hp) (X : ED) : Prop := ∀ (x : Str) (C : Addr) (H' : Hp), X x → mg x = some (.ref C) → Same F H' → Zt K H' → E (.ref C) none H'
def RepB (G : Hp) (σ : L2.St) : BV → V → Prop
  | .val d, v => Rep K mg G d v
  | .slot i, v => σ[i]? = some (some v)
def RepH (G H : Hp) (d : D) (v : V) : Prop := Rep K mg G d v ∨ ∃ (a : Addr) (ds : List D) (vs : List V), d = .list ds ∧ v = V.ref a ∧ H a = some (.lst vs) ∧ RepL K mg G ds vs
def RepBs (G : Hp) (σ : L2.St) : List BV → List V → Prop
  | [], vs => vs = []
  | b :: bs, vs => ∃ v ws, vs = v :: ws ∧ RepB K mg G σ b v ∧ RepBs G σ bs ws
def RepHs (G H : Hp) : List D → List V → Prop
  | [], vs => vs = []
  | b :: bs, vs => ∃ v ws, vs = v :: ws ∧ RepH K mg G H b v ∧ RepHs G H bs ws
/-- an expression's reading over data -/
def tB (w : BW) : TE := fun σ H Q => ∃ (G F : Hp) (ρ : List SV) (X : ED) (P : BV → List SV → Prop), Rel K mg G F ρ σ H ∧ Exits K mg E F X ∧ w X ρ P ∧
  ∀ b ρ' v H' G', P b ρ' → Ext F G G' → Rel K mg G' F ρ' σ H' → RepB K mg G' σ b v → Q v H'
def tE (w : DW) : TE := fun σ H Q => ∃ (G F : Hp) (ρ : List SV) (X : ED) (P : D → List SV → Prop), Rel K mg G F ρ σ H ∧ Exits K mg E F X ∧ w X ρ P ∧
  ∀ d ρ' v H' G', P d ρ' → Ext F G G' → Rel K mg G' F ρ' σ H' → Rep K mg G' d v → Q v H'
def tT (w : TW) : TT := fun σ H Q => ∃ (G F : Hp) (ρ : List SV) (X : ED) (P : Bool → List SV → Prop), Rel K mg G F ρ σ H ∧ Exits K mg E F X ∧ w X ρ P ∧
  ∀ b ρ' H' G', P b ρ' → Ext F G G' → Rel K mg G' F ρ' σ H' → Q b H'
def tA (w : AW) : TA := fun σ H Q => ∃ (G F : Hp) (ρ : List SV) (X : ED) (P : List BV → List SV → Prop), Rel K mg G F ρ σ H ∧ Exits K mg E F X ∧ w X ρ P ∧
  ∀ bs ρ' vs H' G', P bs ρ' → Ext F G G' → Rel K mg G' F ρ' σ H' → RepBs K mg G' σ bs vs → Q vs H'
structure Meets (G F : Hp) (O : OW) (Dn : Ends) : Prop where
  nx : ∀ ρ' σ' H' G', O.nx ρ' → Ext F G G' → Rel K mg G' F ρ' σ' H' → Dn.nx σ' H'
  rt : ∀ d ρ' σ' v H' G', O.rt d ρ' → Ext F G G' → Rel K mg G' F ρ' σ' H' → Rep K mg G' d v → Dn.rt v H'
  bk : ∀ ρ' σ' H' G', O.bk ρ' → Ext F G G' → Rel K mg G' F ρ' σ' H' → Dn.bk σ' H'
  ct : ∀ ρ' σ' H' G', O.ct ρ' → Ext F G G' → Rel K mg G' F ρ' σ' H' → Dn.ct σ' H'
def tS (w : SW) : TS := fun Dn σ H => ∃ (G F : Hp) (ρ : List SV) (X : ED) (O : OW), Rel K mg G F ρ σ H ∧ Exits K mg E F X ∧ w X ρ O ∧ Meets K mg G F O Dn
end

section
variable {X : Cx}
theorem pe_weak {e : Expr} {t t' : TE} (h : PE X e t) (m : ∀ σ H Q, t' σ H Q → t σ H Q) : PE X e t' := ⟨fun pins s σ H Q I q => h.run pins s σ H Q I (m σ H Q q)⟩
theorem pt_weak {e : Expr} {t t' : TT} (h : PT X e t) (m : ∀ σ H Q, t' σ H Q → t σ H Q) : PT X e t' := ⟨fun pins s σ H Q I q => h.run pins s σ H Q I (m σ H Q q)⟩
theorem pw_weak {e : Expr} {t t' : TT} (h : PW X e t) (m : ∀ σ H Q, t' σ H Q → t σ H Q) : PW X e t' := ⟨fun wh pins s σ H Q I q => h.run wh pins s σ H Q I (m σ H Q q)⟩
theorem pa_weak {e : List Expr} {t t' : TA} (h : PA X e t) (m : ∀ σ H Q, t' σ H Q → t σ H Q) : PA X e t' := ⟨fun p pins s σ H Q I q => h.run p pins s σ H Q I (m σ H Q q)⟩
theorem ps_weak {e : Stmt} {t t' : TS} (h : PS X e t) (m : ∀ D σ H, t' D σ H → t D σ H) : PS X e t' := ⟨fun pins s σ H D I q => h.run pins s σ H D I (m D σ H q)⟩
theorem pss_weak {e : List Stmt} {t t' : TS} (h : PSs X e t) (m : ∀ D σ H, t' D σ H → t D σ H) : PSs X e t' := ⟨fun pins s σ H D I q => h.run pins s σ H D I (m D σ H q)⟩
end

section
variable {K : PySem.W.Frag} {mg : Str → Option Value} {E : XK} {G G' H H' F : Hp} {ρ : List SV} {σ : L2.St}
theorem RepB.mono {b : BV} {v : V} (s : Same G G') (h : RepB K mg G σ b v) : RepB K mg G' σ b v := by
  cases b with
  | val d => exact Rep.mono s d v h
  | slot i => exact h
theorem RepBs.mono (s : Same G G') : ∀ {bs : List BV} {vs : List V}, RepBs K mg G σ bs vs → RepBs K mg G' σ bs vs
  | [], _, h => h
  | b :: bs, vs, h => by obtain ⟨v, ws, e, r, q⟩ := h; exact ⟨v, ws, e, r.mono s, RepBs.mono s q⟩
theorem RepB.res {b : BV} {v : V} {d : D} (R : Rel K mg G F ρ σ H) (h : RepB K mg G σ b v) (e : DL.res b ρ = some d) : RepH K mg G H d v := by
  cases b with
  | val d' => unfold DL.res at e; cases e; exact .inl h
  | slot i =>
    unfold DL.res at e
    cases hs : ρ[i]? with
    | none => simp [hs] at e
    | some s =>
      have so := R.slot i s hs
      cases s with
      | un => simp [hs] at e
      | dat d' =>
        simp [hs] at e; subst e
        obtain ⟨v', e1, r⟩ := so
        have h' : σ[i]? = some (some v) := h
        rw [h'] at e1; cases e1
        exact .inl r
      | cel a ds =>
        simp [hs] at e; subst e
        obtain ⟨e1, vs, ha, r, _⟩ := so
        have h' : σ[i]? = some (some v) := h
        rw [h'] at e1; cases e1
        exact .inr ⟨a, ds, vs, rfl, rfl, ha, r⟩
def ress : List BV → List SV → Option (List D)
  | [], _ => some []
  | b :: bs, ρ => match DL.res b ρ, ress bs ρ with
    | some d, some ds => some (d :: ds)
    | _, _ => none
theorem RepBs.res (R : Rel K mg G F ρ σ H) : ∀ {bs : List BV} {vs : List V} {ds : List D}, RepBs K mg G σ bs vs → ress bs ρ = some ds → RepHs K mg G H ds vs
  | [], vs, ds, h, e => by unfold ress at e; cases e; exact h
  | b :: bs, vs, ds, h, e => by
    obtain ⟨v, ws, e1, r, q⟩ := h
    unfold ress at e
    cases h1 : DL.res b ρ with
    | none => simp [h1] at e
    | some d =>
      cases h2 : ress bs ρ with
      | none => simp [h1, h2] at e
      | some ds' =>
        simp [h1, h2] at e; subst e
        exact ⟨v, ws, e1, r.res R h1, RepBs.res R q h2⟩
/-- a list in a slot is frozen -/
theorem Rel.freeze {i : Nat} {a : Addr} {ds : List D} (R : Rel K mg G F ρ σ H) (h : ρ[i]? = some (.cel a ds)) :
    ∃ vs, σ[i]? = some (some (V.ref a)) ∧ H a = some (.lst vs) ∧ Ext F G (upd G a (.lst vs)) ∧ Rel K mg (upd G a (.lst vs)) F (ρ.set i (.dat (.list ds))) σ H ∧ Rep K mg (upd G a (.lst vs)) (.list ds) (V.ref a) := by
  obtain ⟨e, vs, ha, r, ga, fa⟩ := R.slot i _ h
  have sg : Same G (upd G a (.lst vs)) := Same.upd' ga
  have rl : Rep K mg (upd G a (.lst vs)) (.list ds) (V.ref a) := by
    rw [Rep]; exact ⟨a, vs, rfl, upd_same, RepL.mono sg _ _ r⟩
  refine ⟨vs, e, ha, ⟨sg, fun b hb => upd_ne fun z => hb (by rw [z]; exact fa)⟩, ⟨fun b o q => ?_, R.fh, by rw [List.length_set]; exact R.len, fun j s hj => ?_, fun j k b es fs hj hk => ?_, R.gt.upd fun _ => nofun, R.ft, R.tb⟩, rl⟩
  · by_cases hb : b = a
    · subst hb; rw [upd_same] at q; cases q; exact ha
    · rw [upd_ne hb] at q; exact R.gh _ _ q
  · by_cases hij : i = j
    · subst hij
      have hi : i < ρ.length := (List.getElem?_eq_some_iff.mp h).1
      rw [List.getElem?_set_self hi] at hj
      cases hj
      exact ⟨_, e, rl⟩
    · rw [List.getElem?_set_ne hij] at hj
      have so := R.slot j s hj
      cases s with
      | un => trivial
      | dat d => obtain ⟨v, e1, r1⟩ := so; exact ⟨v, e1, Rep.mono sg _ _ r1⟩
      | cel b es =>
        obtain ⟨e1, ws, hb, r1, gb, fb⟩ := so
        have hne : b ≠ a := by
          rintro rfl
          exact hij (R.sep _ _ _ _ _ h hj)
        exact ⟨e1, ws, hb, RepL.mono sg _ _ r1, by rw [upd_ne hne]; exact gb, fb⟩
  · have old : ∀ {m : Nat} {b : Addr} {us : List D}, (ρ.set i (.dat (.list ds)))[m]? = some (.cel b us) → ρ[m]? = some (.cel b us) := fun {m b us} q => by
      by_cases him : i = m
      · subst him
        have hi : i < ρ.length := (List.getElem?_eq_some_iff.mp h).1
        rw [List.getElem?_set_self hi] at q
        cases q
      · rw [List.getElem?_set_ne him] at q; exact q
    exact R.sep _ _ _ _ _ (old hj) (old hk)
/-- what is read is owned -/
theorem tE_of_tB {w : BW} {Q : VK} (h : tE K mg E (own w) σ H Q) : tB K mg E w σ H Q := by
  obtain ⟨G, F, ρ, X, P, R, ex, hw, q⟩ := h
  refine ⟨G, F, ρ, X, _, R, ex, hw, fun b ρ' v H' G' p sg R' rb => ?_⟩
  cases b with
  | val d => exact q d ρ' v H' G' p sg R' rb
  | slot i =>
    unfold ownR at p
    dsimp only at p
    cases hs : ρ'[i]? with
    | none => rw [hs] at p; exact p.elim
    | some s =>
      rw [hs] at p
      have rb' : σ[i]? = some (some v) := rb
      cases s with
      | un => exact p.elim
      | dat d =>
        obtain ⟨v', e1, r⟩ := R'.slot i _ hs
        rw [rb'] at e1; cases e1
        exact q d ρ' v H' G' p sg R' r
      | cel a ds =>
        obtain ⟨vs, e1, ha, s2, R2, r2⟩ := R'.freeze hs
        rw [rb'] at e1; cases e1
        exact q _ _ _ H' _ p (sg.trans s2) R2 r2
end
section
variable {X : Cx} {E : XK}
theorem pe_own {e : Expr} {w : BW} (h : PE X e (tB X.K X.mg E w)) : PE X e (tE X.K X.mg E (DL.own w)) := pe_weak h fun _ _ _ q => tE_of_tB q
end
end DL
set_option Elab.async false
set_option linter.all false
set_option maxRecDepth 100000
set_option maxHeartbeats 1000000
namespace DL
open PySem PySem.Spec PyProof.Rows L2

/-! ### how a value is used -/
def use (b : BV) (ρ : List SV) (k : D → Prop) : Prop := match res b ρ with
  | some d => k d
  | none => False
theorem use_res {b : BV} {ρ : List SV} {k : D → Prop} (h : use b ρ k) : ∃ d, res b ρ = some d ∧ k d := by
  unfold use at h
  cases e : res b ρ with
  | none => rw [e] at h; exact h.elim
  | some d => rw [e] at h; exact ⟨d, rfl, h⟩
def uses : List BV → List SV → (List D → Prop) → Prop
  | [], _, k => k []
  | b :: bs, ρ, k => use b ρ fun d => uses bs ρ fun ds => k (d :: ds)
theorem uses_res : ∀ {bs : List BV} {ρ : List SV} {k : List D → Prop}, uses bs ρ k → ∃ ds, ress bs ρ = some ds ∧ k ds
  | [], _, _, h => ⟨[], rfl, h⟩
  | b :: bs, ρ, k, h => by
    obtain ⟨d, e, h⟩ := use_res (show use b ρ fun d => uses bs ρ fun ds => k (d :: ds) from h)
    obtain ⟨ds, e2, h⟩ := uses_res h
    exact ⟨d :: ds, by unfold ress; rw [e, e2], h⟩

def seqOf : D → Option (List D)
  | .list ds => some ds
  | .tuple ds => some ds
  | _ => none
/-! ### operators over data -/
abbrev G1 := D → (D → Prop) → Prop
abbrev G2 := D → D → (D → Prop) → Prop
abbrev GL := List D → (D → Prop) → Prop
def rD (K : PySem.W.Frag) (mg : Str → Option Value) (g : G1) : V → Hp → VK → Prop := fun x H Q => ∃ (G : Hp) (d : D) (P : D → Prop), Same G H ∧ RepH K mg G H d x ∧ g d P ∧ ∀ z v G' H', P z → Grow G H G' H' → Rep K mg G' z v → Q v H'
def rD2 (K : PySem.W.Frag) (mg : Str → Option Value) (g : G2) : R2 := fun x y H Q => ∃ (G : Hp) (d e : D) (P : D → Prop), Same G H ∧ RepH K mg G H d x ∧ RepH K mg G H e y ∧ g d e P ∧ ∀ z v G' H', P z → Grow G H G' H' → Rep K mg G' z v → Q v H'
def rDL (K : PySem.W.Frag) (mg : Str → Option Value) (g : GL) : List V → Hp → VK → Prop := fun xs H Q => ∃ (G : Hp) (ds : List D) (P : D → Prop), Same G H ∧ RepHs K mg G H ds xs ∧ g ds P ∧ ∀ z v G' H', P z → Grow G H G' H' → Rep K mg G' z v → Q v H'
def bOp (g : G2) (wa wb : BW) : BW := fun E ρ P => wa E ρ fun x ρ1 => wb E ρ1 fun y ρ2 => use x ρ2 fun d => use y ρ2 fun e => g d e fun z => P (.val z) ρ2
def bUn (g : G1) (wa : BW) : BW := fun E ρ P => wa E ρ fun x ρ1 => use x ρ1 fun d => g d fun z => P (.val z) ρ1
def bCB (g : GL) (wa : AW) : BW := fun E ρ P => wa E ρ fun xs ρ1 => uses xs ρ1 fun ds => g ds fun z => P (.val z) ρ1
section
variable {K : PySem.W.Frag} {mg : Str → Option Value} {E : XK}
theorem tB_op {g : G2} {wa wb : BW} {σ : L2.St} {H : Hp} {Q : VK} (h : tB K mg E (bOp g wa wb) σ H Q) : tOp (rD2 K mg g) (tB K mg E wa) (tB K mg E wb) σ H Q := by
  obtain ⟨G, F, ρ, X, P, R, ex, hw, q⟩ := h
  refine ⟨G, F, ρ, X, _, R, ex, hw, fun x ρ1 v H1 G1 p sg1 R1 rx => ?_⟩
  refine ⟨G1, F, ρ1, X, _, R1, ex, p, fun y ρ2 u H2 G2 p2 sg2 R2 ry => ?_⟩
  obtain ⟨d, ed, p2⟩ := use_res p2
  obtain ⟨e, ee, p2⟩ := use_res p2
  refine ⟨G2, d, e, _, R2.gh, (rx.mono sg2.gg).res R2 ed, ry.res R2 ee, p2, fun z w G3 H3 pz gr rz => ?_⟩
  exact q _ _ w H3 G3 pz ((sg1.trans sg2).trans (gr.ext R2.fh)) (R2.grow gr) rz
theorem tB_un {g : G1} {wa : BW} {σ : L2.St} {H : Hp} {Q : VK} (h : tB K mg E (bUn g wa) σ H Q) : tUn (rD K mg g) (tB K mg E wa) σ H Q := by
  obtain ⟨G, F, ρ, X, P, R, ex, hw, q⟩ := h
  refine ⟨G, F, ρ, X, _, R, ex, hw, fun x ρ1 v H1 G1 p sg1 R1 rx => ?_⟩
  obtain ⟨d, ed, p⟩ := use_res p
  exact ⟨G1, d, _, R1.gh, rx.res R1 ed, p, fun z w G3 H3 pz gr rz => q _ _ w H3 G3 pz (sg1.trans (gr.ext R1.fh)) (R1.grow gr) rz⟩
theorem tB_cb {g : GL} {wa : AW} {σ : L2.St} {H : Hp} {Q : VK} (h : tB K mg E (bCB g wa) σ H Q) : tCB (rDL K mg g) (tA K mg E wa) σ H Q := by
  obtain ⟨G, F, ρ, X, P, R, ex, hw, q⟩ := h
  refine ⟨G, F, ρ, X, _, R, ex, hw, fun xs ρ1 vs H1 G1 p sg1 R1 rx => ?_⟩
  obtain ⟨ds, ed, p⟩ := uses_res p
  exact ⟨G1, ds, _, R1.gh, rx.res R1 ed, p, fun z w G3 H3 pz gr rz => q _ _ w H3 G3 pz (sg1.trans (gr.ext R1.fh)) (R1.grow gr) rz⟩
/-! ### arguments -/
def aNil : AW := fun _ ρ P => P [] ρ
def aCons (wa : BW) (wr : AW) : AW := fun E ρ P => wa E ρ fun x ρ1 => wr E ρ1 fun xs ρ2 => P (x :: xs) ρ2
theorem tA_nil {σ : L2.St} {H : Hp} {Q : List V → Hp → Prop} (h : tA K mg E aNil σ H Q) : tNil σ H Q := by
  obtain ⟨G, F, ρ, X, P, R, ex, hw, q⟩ := h
  exact q [] ρ [] H G hw Ext.refl R rfl
theorem tA_cons {wa : BW} {wr : AW} {σ : L2.St} {H : Hp} {Q : List V → Hp → Prop} (h : tA K mg E (aCons wa wr) σ H Q) : tCons (tB K mg E wa) (tA K mg E wr) σ H Q := by
  obtain ⟨G, F, ρ, X, P, R, ex, hw, q⟩ := h
  refine ⟨G, F, ρ, X, _, R, ex, hw, fun x ρ1 v H1 G1 p sg1 R1 rx => ?_⟩
  refine ⟨G1, F, ρ1, X, _, R1, ex, p, fun xs ρ2 vs H2 G2 p2 sg2 R2 rs => ?_⟩
  exact q _ _ _ H2 G2 p2 (sg1.trans sg2) R2 ⟨v, vs, rfl, rx.mono sg2.gg, rs⟩
end
section
variable {K : PySem.W.Frag} {mg : Str → Option Value} {G H : Hp} {v : V}
theorem RepH.flat {d : D} (h : RepH K mg G H d v) (n : ∀ ds, d ≠ .list ds) : Rep K mg G d v := by
  rcases h with h | ⟨a, ds, vs, e, _⟩
  · exact h
  · exact absurd e (n ds)
theorem RepH.non (h : RepH K mg G H .none v) : v = .non := by have := h.flat (fun _ => nofun); rwa [Rep] at this
theorem RepH.bl {b : Bool} (h : RepH K mg G H (.bool b) v) : v = .bl b := by have := h.flat (fun _ => nofun); rwa [Rep] at this
theorem RepH.int {i : Int} (h : RepH K mg G H (.int i) v) : v = .int i := by have := h.flat (fun _ => nofun); rwa [Rep] at this
theorem RepH.str {x : Str} (h : RepH K mg G H (.str x) v) : v = .str x := by have := h.flat (fun _ => nofun); rwa [Rep] at this
theorem RepH.lst {ds : List D} (s : Same G H) (h : RepH K mg G H (.list ds) v) : ∃ (a : Addr) (vs : List V), v = .ref a ∧ H a = some (.lst vs) ∧ RepL K mg G ds vs := by
  rcases h with h | ⟨a, ds', vs, e, e2, ha, r⟩
  · rw [Rep] at h; obtain ⟨a, xs, e, g, r⟩ := h; exact ⟨a, xs, e, s _ _ g, r⟩
  · cases e; exact ⟨a, vs, e2, ha, r⟩
theorem RepH.tup {ds : List D} (s : Same G H) (h : RepH K mg G H (.tuple ds) v) : ∃ (a : Addr) (vs : List V), v = .ref a ∧ H a = some (.tup vs) ∧ RepL K mg G ds vs := by
  have := h.flat (fun _ => nofun)
  rw [Rep] at this; obtain ⟨a, xs, e, g, r⟩ := this; exact ⟨a, xs, e, s _ _ g, r⟩
theorem rep_int {i : Int} : Rep K mg G (.int i) (.int i) := by rw [Rep]
theorem rep_bl {i : Bool} : Rep K mg G (.bool i) (.bl i) := by rw [Rep]
theorem rep_str {i : Str} : Rep K mg G (.str i) (.str i) := by rw [Rep]
theorem rep_non : Rep K mg G .none .non := by rw [Rep]
theorem rep_lst_new {ds : List D} {vs : List V} {p : Addr} (s : Same G H) (h : H p = none) (r : RepL K mg G ds vs) : Rep K mg (upd G p (.lst vs)) (.list ds) (.ref p) := by
  rw [Rep]; exact ⟨p, vs, rfl, upd_same, RepL.mono (Same.upd' (s.free h)) _ _ r⟩
theorem rep_tup_new {ds : List D} {vs : List V} {p : Addr} (s : Same G H) (h : H p = none) (r : RepL K mg G ds vs) : Rep K mg (upd G p (.tup vs)) (.tuple ds) (.ref p) := by
  rw [Rep]; exact ⟨p, vs, rfl, upd_same, RepL.mono (Same.upd' (s.free h)) _ _ r⟩
/-- data whatever reads lists deep, at the tracked heap -/
theorem RepH.cases {d : D} (h : RepH K mg G H d v) : Rep K mg G d v ∨ ∃ (a : Addr) (ds : List D) (vs : List V), d = .list ds ∧ v = .ref a ∧ H a = some (.lst vs) ∧ RepL K mg G ds vs := h
end

def gAdd : G2 := fun d e P => match d, e with
  | .int i, .int j => P (.int (i + j))
  | .str a, .str b => a.length + b.length ≤ 16777216 ∧ P (.str (a ++ b))
  | .list a, .list b => a.length + b.length ≤ 16777216 ∧ P (.list (a ++ b))
  | .tuple a, .tuple b => a.length + b.length ≤ 16777216 ∧ P (.tuple (a ++ b))
  | _, _ => False
def gSub : G2 := fun d e P => match d, e with
  | .int i, .int j => P (.int (i - j))
  | _, _ => False
def gMul : G2 := fun d e P => match d, e with
  | .int i, .int j => CMul i j ∧ P (.int (i * j))
  | _, _ => False
def gDiv : G2 := fun d e P => match d, e with
  | .int i, .int j => CDivW i j ∧ P (.int (i / j))
  | _, _ => False
def gMod : G2 := fun d e P => match d, e with
  | .int i, .int j => 0 < j ∧ P (.int (i % j))
  | _, _ => False
def gPow : G2 := fun d e P => match d, e with
  | .int i, .int j => CPow i j ∧ P (.int (i ^ j.toNat))
  | _, _ => False
def gLt : G2 := fun d e P => match d, e with
  | .int i, .int j => P (.bool (decide (i < j)))
  | _, _ => False
def gGt : G2 := fun d e P => match d, e with
  | .int i, .int j => P (.bool (decide (j < i)))
  | _, _ => False
def gGe : G2 := fun d e P => match d, e with
  | .int i, .int j => P (.bool (decide (j ≤ i)))
  | _, _ => False
def intsOf : List D → Option (List Int)
  | [] => some []
  | .int i :: ds => match intsOf ds with
    | some is => some (i :: is)
    | none => none
  | _ :: _ => none
theorem intsOf_eq : ∀ {ds : List D} {is : List Int}, intsOf ds = some is → ds = is.map .int
  | [], is, h => by unfold intsOf at h; cases h; rfl
  | d :: ds, is, h => by
    cases d with
    | int i =>
      unfold intsOf at h
      cases e : intsOf ds with
      | none => simp [e] at h
      | some js => simp [e] at h; subst h; rw [intsOf_eq e]; rfl
    | _ => simp [intsOf] at h
theorem intsOf_map : ∀ (is : List Int), intsOf (is.map .int) = some is
  | [] => rfl
  | i :: is => by rw [List.map_cons]; unfold intsOf; rw [intsOf_map is]
/-- x <= y of tuples of ints -/
def leInts (ns ms : List Int) : Bool := Ob.lexAt (fun j => decide (ns.getD j 0 = ms.getD j 0)) (fun j => decide (ns.getD j 0 ≤ ms.getD j 0)) (decide (ns.length ≤ ms.length)) 0 (min ns.length ms.length)
def gLe : G2 := fun d e P => match d, e with
  | .int i, .int j => P (.bool (decide (i ≤ j)))
  | .tuple a, .tuple b => match intsOf a, intsOf b with
    | some ns, some ms => P (.bool (leInts ns ms))
    | _, _ => False
  | _, _ => False
def shp (d : D) : Bool := SeqAt.shaped d
def gEq : G2 := fun d e P => shp d = true ∧ shp e = true ∧ P (.bool (PyData.eqv d e))
def gNe : G2 := fun d e P => shp d = true ∧ shp e = true ∧ P (.bool (!PyData.eqv d e))
def isNonD : D → Bool
  | .none => true
  | _ => false
/-- is, is not: of None or of truth values on the right -/
def gIs : G2 := fun d e P => match e with
  | .none => P (.bool (isNonD d))
  | .bool b => match d with
    | .bool c => P (.bool (decide (c = b)))
    | _ => False
  | _ => False
def gIsNot : G2 := fun d e P => match e with
  | .none => P (.bool (!isNonD d))
  | .bool b => match d with
    | .bool c => P (.bool (!decide (c = b)))
    | _ => False
  | _ => False
def inD (d : D) (ds : List D) : Bool := ds.any fun z => PyData.eqv z d
def gIn : G2 := fun d e P => match e with
  | .list ds => shp d = true ∧ shp (.list ds) = true ∧ P (.bool (inD d ds))
  | .tuple ds => shp d = true ∧ shp (.tuple ds) = true ∧ P (.bool (inD d ds))
  | .str y => match d with
    | .str x => P (.bool (!(Builtin.Str.occurrences y x 0 y.length 1).isEmpty))
    | _ => False
  | _ => False
def gNotIn : G2 := fun d e P => match e with
  | .list ds => shp d = true ∧ shp (.list ds) = true ∧ P (.bool (!inD d ds))
  | .tuple ds => shp d = true ∧ shp (.tuple ds) = true ∧ P (.bool (!inD d ds))
  | .str y => match d with
    | .str x => P (.bool (!(!(Builtin.Str.occurrences y x 0 y.length 1).isEmpty)))
    | _ => False
  | _ => False

section
variable {X : Cx}
abbrev OpD (X : Cx) (f : Value → Value → Sem Value) (g : G2) : Prop := OpR X f (rD2 X.K X.mg g)
theorem od_int {f : Value → Value → Sem Value} {C : Int → Int → Prop} {k : Int → Int → Int} (h : OpR X f (rI C fun i j => .int (k i j))) :
    OpD X f (fun d e P => match d, e with | .int i, .int j => C i j ∧ P (.int (k i j)) | _, _ => False) := by
  intro pins s σ H x y v u Q I rx ry ⟨G, d, e, P, sg, hx, hy, g, q⟩
  dsimp only at g
  split at g
  · obtain ⟨c, p⟩ := g
    exact h pins s σ H x y v u Q I rx ry ⟨_, _, hx.int, hy.int, c, q _ _ G H p (Grow.refl sg) rep_int⟩
  · exact g.elim
theorem od_int0 {f : Value → Value → Sem Value} {k : Int → Int → Int} (h : OpR X f (rI0 fun i j => .int (k i j))) :
    OpD X f (fun d e P => match d, e with | .int i, .int j => P (.int (k i j)) | _, _ => False) := by
  intro pins s σ H x y v u Q I rx ry ⟨G, d, e, P, sg, hx, hy, g, q⟩
  dsimp only at g
  split at g
  · exact h pins s σ H x y v u Q I rx ry ⟨_, _, hx.int, hy.int, q _ _ G H g (Grow.refl sg) rep_int⟩
  · exact g.elim
theorem od_bl0 {f : Value → Value → Sem Value} {k : Int → Int → Bool} (h : OpR X f (rI0 fun i j => .bl (k i j))) :
    OpD X f (fun d e P => match d, e with | .int i, .int j => P (.bool (k i j)) | _, _ => False) := by
  intro pins s σ H x y v u Q I rx ry ⟨G, d, e, P, sg, hx, hy, g, q⟩
  dsimp only at g
  split at g
  · exact h pins s σ H x y v u Q I rx ry ⟨_, _, hx.int, hy.int, q _ _ G H g (Grow.refl sg) rep_bl⟩
  · exact g.elim
theorem od_sub : OpD X (binaryOp .Sub) gSub := od_int0 op_sub
theorem od_mul : OpD X (binaryOp .Mult) gMul := od_int op_mul
theorem od_div : OpD X (binaryOp .FloorDiv) gDiv := od_int op_fdivW
theorem od_mod : OpD X (binaryOp .Mod) gMod := od_int op_mod
theorem od_pow : OpD X (binaryOp .Pow) gPow := od_int op_pow
theorem od_lt : OpD X (compareOp .Lt) gLt := od_bl0 op_lt
theorem od_gt : OpD X (compareOp .Gt) gGt := od_bl0 op_gt
theorem od_ge : OpD X (compareOp .GtE) gGe := od_bl0 op_ge
theorem od_add : OpD X (binaryOp .Add) gAdd := by
  intro pins s σ H x y v u Q I rx ry ⟨G, d, e, P, sg, hx, hy, g, q⟩
  unfold gAdd at g
  split at g
  · exact op_add pins s σ H x y v u Q I rx ry ⟨_, _, hx.int, hy.int, q _ _ G H g (Grow.refl sg) rep_int⟩
  · obtain ⟨l, p⟩ := g
    exact op_add_str pins s σ H x y v u Q I rx ry ⟨_, _, hx.str, hy.str, by rw [sizeLine_eq]; exact l, q _ _ G H p (Grow.refl sg) rep_str⟩
  · obtain ⟨l, p⟩ := g
    obtain ⟨a, vs, e1, ha, ra⟩ := hx.lst sg
    obtain ⟨b, ws, e2, hb, rb⟩ := hy.lst sg
    exact op_cat pins s σ H x y v u Q I rx ry ⟨a, b, vs, ws, e1, e2, ha, hb, by rw [← ra.length, ← rb.length, sizeLine_eq]; exact l, fun pa hp =>
      q _ _ _ _ p (Grow.new sg hp) (rep_lst_new sg hp (ra.app rb))⟩
  · obtain ⟨l, p⟩ := g
    obtain ⟨a, vs, e1, ha, ra⟩ := hx.tup sg
    obtain ⟨b, ws, e2, hb, rb⟩ := hy.tup sg
    have hx' := hx.flat (fun _ => nofun)
    have hy' := hy.flat (fun _ => nofun)
    refine op_catA pins s σ H x y v u Q I rx ry ⟨a, b, vs, ws, e1, e2, .of ha, .of hb, by rw [← ra.length, ← rb.length, sizeLine_eq]; exact l, fun z => ?_, fun _ z => ?_, fun _ _ pa hp =>
      q _ _ _ _ p (Grow.new sg hp) (rep_tup_new sg hp (ra.app rb))⟩
    · subst z
      have e0 := ra.length
      rw [List.length_nil] at e0
      have e3 := List.length_eq_zero_iff.mp e0
      rw [e3, List.nil_append] at p
      exact q _ _ G H p (Grow.refl sg) (e2 ▸ hy')
    · subst z
      have e0 := rb.length
      rw [List.length_nil] at e0
      have e3 := List.length_eq_zero_iff.mp e0
      rw [e3, List.append_nil] at p
      exact q _ _ G H p (Grow.refl sg) (e1 ▸ hx')
  · exact g.elim
theorem od_le (hu : X.A.units < cLine) : OpD X (compareOp .LtE) gLe := by
  intro pins s σ H x y v u Q I rx ry ⟨G, d, e, P, sg, hx, hy, g, q⟩
  unfold gLe at g
  split at g
  · exact op_le pins s σ H x y v u Q I rx ry ⟨_, _, hx.int, hy.int, q _ _ G H g (Grow.refl sg) rep_bl⟩
  · rename_i da db
    cases h1 : intsOf da with
    | none => simp [h1] at g
    | some ns =>
      cases h2 : intsOf db with
      | none => simp [h1, h2] at g
      | some ms =>
        simp only [h1, h2] at g
        obtain ⟨a, vs, e1, ha, ra⟩ := hx.tup sg
        obtain ⟨b, ws, e2, hb, rb⟩ := hy.tup sg
        rw [intsOf_eq h1] at ra
        rw [intsOf_eq h2] at rb
        have t1 := ra.ints
        have t2 := rb.ints
        subst t1 t2
        exact op_leT hu pins s σ H x y v u Q I rx ry ⟨a, b, ns, ms, e1, e2, .of ha, .of hb, q _ _ G H g (Grow.refl sg) rep_bl⟩
  · exact g.elim
end
mutual
theorem Rep.dp {K : PySem.W.Frag} {mg : Str → Option Value} {G H : Hp} (s : Same G H) : ∀ (d : D) (v : V), d.canLay0 = true → Rep K mg G d v → Dp K H v d
  | .none, v, _, h => by rw [Rep] at h; subst h; exact .non
  | .bool b, v, _, h => by rw [Rep] at h; subst h; exact .bl b
  | .int i, v, _, h => by rw [Rep] at h; subst h; exact .int i
  | .str x, v, _, h => by rw [Rep] at h; subst h; exact .str x
  | .list ds, v, c, h => by
    rw [Rep] at h
    obtain ⟨a, xs, e, g, r⟩ := h
    subst e
    exact .lst (.of (s _ _ g)) (RepL.dp s ds xs (by simpa [PyData.canLay0] using c) r)
  | .tuple ds, v, c, h => by
    rw [Rep] at h
    obtain ⟨a, xs, e, g, r⟩ := h
    subst e
    exact .tup (.of (s _ _ g)) (RepL.dp s ds xs (by simpa [PyData.canLay0] using c) r)
  | .dict kvs, v, c, h => by simp [PyData.canLay0] at c
theorem RepL.dp {K : PySem.W.Frag} {mg : Str → Option Value} {G H : Hp} (s : Same G H) : ∀ (ds : List D) (vs : List V), PyData.canLayAll0 ds = true → RepL K mg G ds vs → DpAll K H vs ds
  | [], vs, _, h => by rw [RepL] at h; subst h; exact .nil
  | d :: ds, vs, c, h => by
    rw [RepL] at h
    obtain ⟨v, ws, e, r, q⟩ := h
    subst e
    have c' : d.canLay0 = true ∧ PyData.canLayAll0 ds = true := by simpa [PyData.canLayAll0] using c
    exact .cons (Rep.dp s d v c'.1 r) (RepL.dp s ds ws c'.2 q)
end
theorem RepH.dp {K : PySem.W.Frag} {mg : Str → Option Value} {G H : Hp} {d : D} {v : V} (s : Same G H) (c : d.canLay0 = true) (h : RepH K mg G H d v) : Dp K H v d := by
  rcases h with h | ⟨a, ds, vs, e, e2, ha, r⟩
  · exact Rep.dp s d v c h
  · subst e e2
    exact .lst (.of ha) (RepL.dp s ds vs (by simpa [PyData.canLay0] using c) r)
theorem shp_lay {d : D} (h : shp d = true) : d.canLay0 = true := SeqAt.canLay_of_shaped h
section
variable {X : Cx}
theorem od_eq (hu : X.A.units + 64 < cLine) : OpD X (compareOp .Eq) gEq := by
  intro pins s σ H x y v u Q I rx ry ⟨G, d, e, P, sg, hx, hy, ⟨s1, s2, g⟩, q⟩
  exact op_eqD hu pins s σ H x y v u Q I rx ry ⟨d, e, hx.dp sg (shp_lay s1), hy.dp sg (shp_lay s2), s1, s2, q _ _ G H g (Grow.refl sg) rep_bl⟩
theorem od_ne (hu : X.A.units + 64 < cLine) : OpD X (compareOp .NotEq) gNe := by
  intro pins s σ H x y v u Q I rx ry ⟨G, d, e, P, sg, hx, hy, ⟨s1, s2, g⟩, q⟩
  exact op_neD hu pins s σ H x y v u Q I rx ry ⟨d, e, hx.dp sg (shp_lay s1), hy.dp sg (shp_lay s2), s1, s2, q _ _ G H g (Grow.refl sg) rep_bl⟩
theorem Rep.isnon {K : PySem.W.Frag} {mg : Str → Option Value} {G H : Hp} {d : D} {x : V} (h : RepH K mg G H d x) : decide (x = V.non) = isNonD d := by
  cases d with
  | none => rw [h.non]; rfl
  | bool b => rw [h.bl]; rfl
  | int b => rw [h.int]; rfl
  | str b => rw [h.str]; rfl
  | list ds =>
    rcases h with h | ⟨a, ds', vs, e, e2, _⟩
    · rw [Rep] at h; obtain ⟨a, xs, e, _⟩ := h; subst e; rfl
    · subst e2; rfl
  | tuple ds =>
    have h := h.flat (fun _ => nofun)
    rw [Rep] at h; obtain ⟨a, xs, e, _⟩ := h; subst e; rfl
  | dict kvs =>
    have h := h.flat (fun _ => nofun)
    rw [Rep] at h
    unfold RepX at h
    split at h
    · obtain ⟨f, e, _⟩ := h; subst e; rfl
    · obtain ⟨a, ns, e, _⟩ := h; subst e; rfl
    · subst h; rfl
    · exact h.elim
theorem od_is : OpD X (compareOp .Is) gIs := by
  intro pins s σ H x y v u Q I rx ry ⟨G, d, e, P, sg, hx, hy, g, q⟩
  unfold gIs at g
  split at g
  · refine op_isN pins s σ H x y v u Q I rx ry ⟨hy.non, ?_⟩
    rw [Rep.isnon hx]
    exact q _ _ G H g (Grow.refl sg) rep_bl
  · split at g
    · exact op_is_bl pins s σ H x y v u Q I rx ry ⟨_, _, hx.bl, hy.bl, q _ _ G H g (Grow.refl sg) rep_bl⟩
    · exact g.elim
  · exact g.elim
theorem od_isnot : OpD X (compareOp .IsNot) gIsNot := by
  intro pins s σ H x y v u Q I rx ry ⟨G, d, e, P, sg, hx, hy, g, q⟩
  unfold gIsNot at g
  split at g
  · refine op_notN pins s σ H x y v u Q I rx ry ⟨hy.non, ?_⟩
    rw [Rep.isnon hx]
    exact q _ _ G H g (Grow.refl sg) rep_bl
  · split at g
    · exact op_isnot_bl pins s σ H x y v u Q I rx ry ⟨_, _, hx.bl, hy.bl, q _ _ G H g (Grow.refl sg) rep_bl⟩
    · exact g.elim
  · exact g.elim
end
end DL
set_option Elab.async false
set_option linter.all false
set_option maxRecDepth 100000
set_option maxHeartbeats 1000000
namespace DL
open PySem PySem.Spec PyProof.Rows L2

theorem repB_bl {K : PySem.W.Frag} {mg : Str → Option Value} {G : Hp} {σ : L2.St} {b : Bool} : RepB K mg G σ (.val (.bool b)) (.bl b) := by show Rep K mg G (.bool b) (.bl b); rw [Rep]

/-! ### leaves -/
def varR (i : Nat) (ρ : List SV) : Option BV := match ρ[i]? with
  | some (.dat d) => some (.val d)
  | some (.cel _ _) => some (.slot i)
  | _ => none
def bVar (i : Nat) : BW := fun _ ρ P => match varR i ρ with
  | some b => P b ρ
  | none => False
def bC (d : D) : BW := fun _ ρ P => P (.val d) ρ
section
variable {K : PySem.W.Frag} {mg : Str → Option Value} {E : XK} {σ : L2.St} {H : Hp}
theorem tB_var {i : Nat} {Q : VK} (h : tB K mg E (bVar i) σ H Q) : tVar i σ H Q := by
  obtain ⟨G, F, ρ, X, P, R, ex, hw, q⟩ := h
  unfold bVar varR at hw
  cases hs : ρ[i]? with
  | none => rw [hs] at hw; exact hw.elim
  | some s =>
    rw [hs] at hw
    cases s with
    | un => exact hw.elim
    | dat d =>
      obtain ⟨v, e, r⟩ := R.slot i _ hs
      exact ⟨v, e, q _ ρ v H G hw Ext.refl R r⟩
    | cel a ds =>
      obtain ⟨e, _⟩ := R.slot i _ hs
      exact ⟨_, e, q _ ρ _ H G hw Ext.refl R e⟩
theorem tB_c {d : D} {v : V} (hr : ∀ G, Rep K mg G d v) {Q : VK} (h : tB K mg E (bC d) σ H Q) : tC v σ H Q := by
  obtain ⟨G, F, ρ, X, P, R, ex, hw, q⟩ := h
  exact q _ ρ v H G hw Ext.refl R (hr G)
end

/-! ### in, not in -/
section
variable {X : Cx}
theorem od_in (hu : X.A.units + 65 < cLine) : OpD X (compareOp .In) gIn := by
  intro pins s σ H x y v u Q I rx ry ⟨G, d, e, P, sg, hx, hy, g, q⟩
  unfold gIn at g
  split at g
  · obtain ⟨s1, s2, p⟩ := g
    exact op_inD hu pins s σ H x y v u Q I rx ry ⟨d, _, hx.dp sg (shp_lay s1), hy.dp sg (shp_lay s2), s1, s2, q _ _ G H p (Grow.refl sg) rep_bl⟩
  · rename_i ds
    obtain ⟨s1, s2, p⟩ := g
    obtain ⟨as, r1⟩ := Dp.reads I d x v (hx.dp sg (shp_lay s1)) rx
    obtain ⟨bs, r2⟩ := Dp.reads I (.tuple ds) y u (hy.dp sg (shp_lay s2)) ry
    exact SeqAt.in_tuple_reads r2 r1 (SeqAt.canLay_of_shaped s2) (SeqAt.canLay_of_shaped s1) (PyProof.Rows.room_in_shaped s1 hu) ⟨.bl _, H, I, rfl, q _ _ G H p (Grow.refl sg) rep_bl⟩
  · split at g
    · exact op_in_str pins s σ H x y v u Q I rx ry ⟨_, _, hx.str, hy.str, q _ _ G H g (Grow.refl sg) rep_bl⟩
    · exact g.elim
  · exact g.elim
theorem od_notIn (hu : X.A.units + 65 < cLine) : OpD X (compareOp .NotIn) gNotIn := by
  intro pins s σ H x y v u Q I rx ry ⟨G, d, e, P, sg, hx, hy, g, q⟩
  unfold gNotIn at g
  split at g
  · obtain ⟨s1, s2, p⟩ := g
    exact op_notInD hu pins s σ H x y v u Q I rx ry ⟨d, _, hx.dp sg (shp_lay s1), hy.dp sg (shp_lay s2), s1, s2, q _ _ G H p (Grow.refl sg) rep_bl⟩
  · rename_i ds
    obtain ⟨s1, s2, p⟩ := g
    obtain ⟨as, r1⟩ := Dp.reads I d x v (hx.dp sg (shp_lay s1)) rx
    obtain ⟨bs, r2⟩ := Dp.reads I (.tuple ds) y u (hy.dp sg (shp_lay s2)) ry
    exact SeqAt.notIn_tuple_reads r2 r1 (SeqAt.canLay_of_shaped s2) (SeqAt.canLay_of_shaped s1) (PyProof.Rows.room_in_shaped s1 hu) ⟨.bl _, H, I, rfl, q _ _ G H p (Grow.refl sg) rep_bl⟩
  · split at g
    · exact op_notIn_str pins s σ H x y v u Q I rx ry ⟨_, _, hx.str, hy.str, q _ _ G H g (Grow.refl sg) rep_bl⟩
    · exact g.elim
  · exact g.elim
end

/-! ### tests -/
def truD : D → Option Bool
  | .none => some false
  | .bool b => some b
  | .int i => some (i != 0)
  | .list ds => some (!ds.isEmpty)
  | .tuple ds => some (!ds.isEmpty)
  | _ => none
def tVal (wa : BW) : TW := fun E ρ P => wa E ρ fun x ρ1 => use x ρ1 fun d => match truD d with
  | some k => P k ρ1
  | none => False
def tBl (wa : BW) : TW := fun E ρ P => wa E ρ fun x ρ1 => use x ρ1 fun d => match d with
  | .bool k => P k ρ1
  | _ => False
def wNot (t : TW) : TW := fun E ρ P => t E ρ fun b ρ1 => P (!b) ρ1
def wAnd (t u : TW) : TW := fun E ρ P => t E ρ fun b ρ1 => if b = true then u E ρ1 P else P false ρ1
def wOr (t u : TW) : TW := fun E ρ P => t E ρ fun b ρ1 => if b = true then P true ρ1 else u E ρ1 P
def bAnd (wa wb : BW) : BW := fun E ρ P => wa E ρ fun x ρ1 => use x ρ1 fun d => match d with
  | .bool k => if k = true then wb E ρ1 P else P (.val (.bool false)) ρ1
  | _ => False
def bOr (wa wb : BW) : BW := fun E ρ P => wa E ρ fun x ρ1 => use x ρ1 fun d => match d with
  | .bool k => if k = true then P (.val (.bool true)) ρ1 else wb E ρ1 P
  | _ => False
def bNot (wa : BW) : BW := fun E ρ P => wa E ρ fun x ρ1 => use x ρ1 fun d => match d with
  | .bool k => P (.val (.bool (!k))) ρ1
  | _ => False
def bIf (t : TW) (wa wb : BW) : BW := fun E ρ P => t E ρ fun b ρ1 => if b = true then wa E ρ1 P else wb E ρ1 P
def bChain (g g' : G2) (wa wb wc : BW) : BW := fun E ρ P => wa E ρ fun x ρ1 => wb E ρ1 fun y ρ2 => use x ρ2 fun d => use y ρ2 fun e => g d e fun z => match z with
  | .bool k => if k = true then wc E ρ2 fun w ρ3 => use y ρ3 fun e' => use w ρ3 fun f => g' e' f fun z' => P (.val z') ρ3 else P (.val (.bool false)) ρ2
  | _ => False
theorem lst_empty {K : PySem.W.Frag} {mg : Str → Option Value} {G : Hp} {ds : List D} {vs : List V} (r : RepL K mg G ds vs) : vs.isEmpty = ds.isEmpty := by
  have := r.length
  cases ds <;> cases vs <;> simp_all
section
variable {K : PySem.W.Frag} {mg : Str → Option Value} {E : XK} {σ : L2.St} {H : Hp}
theorem tT_val {wa : BW} {Q : Bool → Hp → Prop} (h : tT K mg E (tVal wa) σ H Q) : tB K mg E wa σ H fun x H' => ∃ k, TruV K x H' k ∧ Q k H' := by
  obtain ⟨G, F, ρ, X, P, R, ex, hw, q⟩ := h
  refine ⟨G, F, ρ, X, _, R, ex, hw, fun x ρ1 v H1 G1 p sg1 R1 rx => ?_⟩
  obtain ⟨d, ed, p⟩ := use_res p
  have rh := rx.res R1 ed
  cases d with
  | none => have e := rh.non; subst e; exact ⟨_, rfl, q _ _ H1 G1 p sg1 R1⟩
  | bool b => have e := rh.bl; subst e; exact ⟨_, rfl, q _ _ H1 G1 p sg1 R1⟩
  | int b => have e := rh.int; subst e; exact ⟨_, rfl, q _ _ H1 G1 p sg1 R1⟩
  | list ds =>
    obtain ⟨a, vs, e, ha, r⟩ := rh.lst R1.gh
    subst e
    exact ⟨_, .inl ⟨vs, .of ha, by rw [lst_empty r]⟩, q _ _ H1 G1 p sg1 R1⟩
  | tuple ds =>
    obtain ⟨a, vs, e, ha, r⟩ := rh.tup R1.gh
    subst e
    exact ⟨_, .inr (.inl ⟨vs, .of ha, by rw [lst_empty r]⟩), q _ _ H1 G1 p sg1 R1⟩
  | str b => exact p.elim
  | dict b => exact p.elim
theorem tT_bl {wa : BW} {Q : Bool → Hp → Prop} (h : tT K mg E (tBl wa) σ H Q) : tTest (tB K mg E wa) σ H Q := by
  obtain ⟨G, F, ρ, X, P, R, ex, hw, q⟩ := h
  refine ⟨G, F, ρ, X, _, R, ex, hw, fun x ρ1 v H1 G1 p sg1 R1 rx => ?_⟩
  obtain ⟨d, ed, p⟩ := use_res p
  have rh := rx.res R1 ed
  cases d with
  | bool b => have e := rh.bl; subst e; exact ⟨_, rfl, q _ _ H1 G1 p sg1 R1⟩
  | _ => exact p.elim
theorem tT_not {t : TW} {Q : Bool → Hp → Prop} (h : tT K mg E (wNot t) σ H Q) : tNot (tT K mg E t) σ H Q := by
  obtain ⟨G, F, ρ, X, P, R, ex, hw, q⟩ := h
  exact ⟨G, F, ρ, X, _, R, ex, hw, fun b ρ1 H1 G1 p sg1 R1 => q _ _ H1 G1 p sg1 R1⟩
theorem tT_and {t u : TW} {Q : Bool → Hp → Prop} (h : tT K mg E (wAnd t u) σ H Q) : tAnd (tT K mg E t) (tT K mg E u) σ H Q := by
  obtain ⟨G, F, ρ, X, P, R, ex, hw, q⟩ := h
  refine ⟨G, F, ρ, X, _, R, ex, hw, fun b ρ1 H1 G1 p sg1 R1 => ?_⟩
  by_cases hb : b = true
  · rw [if_pos hb] at p ⊢
    exact ⟨G1, F, ρ1, X, _, R1, ex, p, fun b ρ2 H2 G2 p2 sg2 R2 => q _ _ H2 G2 p2 (sg1.trans sg2) R2⟩
  · rw [if_neg hb] at p ⊢
    exact q _ _ H1 G1 p sg1 R1
theorem tT_or {t u : TW} {Q : Bool → Hp → Prop} (h : tT K mg E (wOr t u) σ H Q) : tOr (tT K mg E t) (tT K mg E u) σ H Q := by
  obtain ⟨G, F, ρ, X, P, R, ex, hw, q⟩ := h
  refine ⟨G, F, ρ, X, _, R, ex, hw, fun b ρ1 H1 G1 p sg1 R1 => ?_⟩
  by_cases hb : b = true
  · rw [if_pos hb] at p ⊢
    exact q _ _ H1 G1 p sg1 R1
  · rw [if_neg hb] at p ⊢
    exact ⟨G1, F, ρ1, X, _, R1, ex, p, fun b ρ2 H2 G2 p2 sg2 R2 => q _ _ H2 G2 p2 (sg1.trans sg2) R2⟩
theorem tB_and {wa wb : BW} {Q : VK} (h : tB K mg E (bAnd wa wb) σ H Q) : tAndV (tB K mg E wa) (tB K mg E wb) σ H Q := by
  obtain ⟨G, F, ρ, X, P, R, ex, hw, q⟩ := h
  refine ⟨G, F, ρ, X, _, R, ex, hw, fun x ρ1 v H1 G1 p sg1 R1 rx => ?_⟩
  obtain ⟨d, ed, p⟩ := use_res p
  have rh := rx.res R1 ed
  cases d with
  | bool b =>
    have e := rh.bl; subst e
    refine ⟨b, rfl, ?_⟩
    dsimp only at p
    by_cases hb : b = true
    · rw [if_pos hb] at p ⊢
      exact ⟨G1, F, ρ1, X, _, R1, ex, p, fun b ρ2 v H2 G2 p2 sg2 R2 r2 => q _ _ _ H2 G2 p2 (sg1.trans sg2) R2 r2⟩
    · rw [if_neg hb] at p ⊢
      exact q _ _ _ H1 G1 p sg1 R1 repB_bl
  | _ => exact p.elim
theorem tB_or {wa wb : BW} {Q : VK} (h : tB K mg E (bOr wa wb) σ H Q) : tOrV (tB K mg E wa) (tB K mg E wb) σ H Q := by
  obtain ⟨G, F, ρ, X, P, R, ex, hw, q⟩ := h
  refine ⟨G, F, ρ, X, _, R, ex, hw, fun x ρ1 v H1 G1 p sg1 R1 rx => ?_⟩
  obtain ⟨d, ed, p⟩ := use_res p
  have rh := rx.res R1 ed
  cases d with
  | bool b =>
    have e := rh.bl; subst e
    refine ⟨b, rfl, ?_⟩
    dsimp only at p
    by_cases hb : b = true
    · rw [if_pos hb] at p ⊢
      exact q _ _ _ H1 G1 p sg1 R1 repB_bl
    · rw [if_neg hb] at p ⊢
      exact ⟨G1, F, ρ1, X, _, R1, ex, p, fun b ρ2 v H2 G2 p2 sg2 R2 r2 => q _ _ _ H2 G2 p2 (sg1.trans sg2) R2 r2⟩
  | _ => exact p.elim
theorem tB_not {wa : BW} {Q : VK} (h : tB K mg E (bNot wa) σ H Q) : tNotV (tB K mg E wa) σ H Q := by
  obtain ⟨G, F, ρ, X, P, R, ex, hw, q⟩ := h
  refine ⟨G, F, ρ, X, _, R, ex, hw, fun x ρ1 v H1 G1 p sg1 R1 rx => ?_⟩
  obtain ⟨d, ed, p⟩ := use_res p
  have rh := rx.res R1 ed
  cases d with
  | bool b =>
    have e := rh.bl; subst e
    exact ⟨b, rfl, q _ _ _ H1 G1 p sg1 R1 repB_bl⟩
  | _ => exact p.elim
theorem tB_if {t : TW} {wa wb : BW} {Q : VK} (h : tB K mg E (bIf t wa wb) σ H Q) : tIf (tT K mg E t) (tB K mg E wa) (tB K mg E wb) σ H Q := by
  obtain ⟨G, F, ρ, X, P, R, ex, hw, q⟩ := h
  refine ⟨G, F, ρ, X, _, R, ex, hw, fun b ρ1 H1 G1 p sg1 R1 => ?_⟩
  by_cases hb : b = true
  · rw [if_pos hb] at p ⊢
    exact ⟨G1, F, ρ1, X, _, R1, ex, p, fun b ρ2 v H2 G2 p2 sg2 R2 r2 => q _ _ _ H2 G2 p2 (sg1.trans sg2) R2 r2⟩
  · rw [if_neg hb] at p ⊢
    exact ⟨G1, F, ρ1, X, _, R1, ex, p, fun b ρ2 v H2 G2 p2 sg2 R2 r2 => q _ _ _ H2 G2 p2 (sg1.trans sg2) R2 r2⟩
theorem RepB.rel {G G' F : Hp} {ρ ρ' : List SV} {b : BV} {v : V} (s : Same G G') (h : RepB K mg G σ b v) : RepB K mg G' σ b v := h.mono s
theorem tB_chain {g g' : G2} {wa wb wc : BW} {Q : VK} (h : tB K mg E (bChain g g' wa wb wc) σ H Q) :
    tChain (rD2 K mg g) (rD2 K mg g') (tB K mg E wa) (tB K mg E wb) (tB K mg E wc) σ H Q := by
  obtain ⟨G, F, ρ, X, P, R, ex, hw, q⟩ := h
  refine ⟨G, F, ρ, X, _, R, ex, hw, fun x ρ1 v H1 G1 p sg1 R1 rx => ?_⟩
  refine ⟨G1, F, ρ1, X, _, R1, ex, p, fun y ρ2 u H2 G2 p2 sg2 R2 ry => ?_⟩
  obtain ⟨d, ed, p2⟩ := use_res p2
  obtain ⟨e, ee, p2⟩ := use_res p2
  refine ⟨G2, d, e, _, R2.gh, (rx.mono sg2.gg).res R2 ed, ry.res R2 ee, p2, fun z w G3 H3 pz gr rz => ?_⟩
  have R3 := R2.grow gr
  have sg3 := (sg1.trans sg2).trans (gr.ext R2.fh)
  cases z with
  | bool k =>
    have e : w = .bl k := by rw [Rep] at rz; exact rz
    subst e
    refine ⟨k, rfl, ?_⟩
    dsimp only at pz
    by_cases hb : k = true
    · rw [if_pos hb] at pz ⊢
      refine ⟨G3, F, ρ2, X, _, R3, ex, pz, fun b ρ4 v4 H4 G4 p4 sg4 R4 r4 => ?_⟩
      obtain ⟨e', ee', p4⟩ := use_res p4
      obtain ⟨f, ef, p4⟩ := use_res p4
      exact ⟨G4, e', f, _, R4.gh, ((ry.mono gr.gg).mono sg4.gg).res R4 ee', r4.res R4 ef, p4, fun z' w' G5 H5 pz' gr' rz' => q _ _ _ H5 G5 pz' ((sg3.trans sg4).trans (gr'.ext R4.fh)) (R4.grow gr') rz'⟩
    · rw [if_neg hb] at pz ⊢
      exact q _ _ _ H3 G3 pz sg3 R3 repB_bl
  | _ => exact pz.elim
end

/-! ### subscripts, slices -/
def gIx : G2 := fun d e P => match d, e with
  | .list ds, .int i => match atI ds i with
    | some z => P z
    | none => False
  | .tuple ds, .int i => match atI ds i with
    | some z => P z
    | none => False
  | .dict [(.none, .list ds)], .int i => match atI ds i with
    | some z => P z
    | none => False
  | _, _ => False
theorem atI_rep {K : PySem.W.Frag} {mg : Str → Option Value} {G : Hp} {ds : List D} {vs : List V} {i : Int} {z : D} (r : RepL K mg G ds vs) (h : atI ds i = some z) : ∃ v, atI vs i = some v ∧ Rep K mg G z v := by
  unfold atI at h ⊢
  rw [r.length] at h
  cases e : ixN vs.length i with
  | none => rw [e] at h; cases h
  | some j => rw [e] at h; exact r.get h
abbrev IxD (X : Cx) (g : G2) : Prop := IxR X (rD2 X.K X.mg g)
theorem ixd {X : Cx} : IxD X gIx := by
  intro va sl pins s σ H x y v u Q I rx ry ⟨G, d, e, P, sg, hx, hy, g, q⟩ hs
  unfold gIx at g
  split at g
  · split at g
    · rename_i h
      obtain ⟨a, vs, e1, ha, r⟩ := hx.lst sg
      obtain ⟨w, e2, rw'⟩ := atI_rep r h
      exact ix_list va sl pins s σ H x y v u Q I rx ry ⟨a, vs, _, w, e1, hy.int, .of ha, e2, q _ _ G H g (Grow.refl sg) rw'⟩ hs
    · exact g.elim
  · split at g
    · rename_i h
      obtain ⟨a, vs, e1, ha, r⟩ := hx.tup sg
      obtain ⟨w, e2, rw'⟩ := atI_rep r h
      exact ix_tup va sl pins s σ H x y v u Q I rx ry ⟨a, vs, _, w, e1, hy.int, .of ha, e2, q _ _ G H g (Grow.refl sg) rw'⟩ hs
    · exact g.elim
  · split at g
    · rename_i h
      have hx := hx.flat (fun _ => nofun)
      rw [Rep] at hx
      obtain ⟨a, ns, e1, e3, ha⟩ := hx
      obtain ⟨w, e2, rw'⟩ := atI_rep (K := X.K) (mg := X.mg) (G := G) (e3 ▸ RepL.of_ints ns) h
      exact ix_list va sl pins s σ H x y v u Q I rx ry ⟨a, _, _, w, e1, hy.int, sg.seq ha, e2, q _ _ G H g (Grow.refl sg) rw'⟩ hs
    · exact g.elim
  · exact g.elim
theorem plainIx {b : Expr} (h : ∀ l u st p, b ≠ .Slice l u st p) : PlainIx b := by
  intro o i
  cases b with
  | Slice l u st p => exact absurd rfl (h l u st p)
  | _ => rfl
def cutL {α : Type} (xs : List α) (lo hi : Option Int) : List α := (xs.drop (HT.sIx xs.length 0 lo)).take (HT.sIx xs.length xs.length hi - HT.sIx xs.length 0 lo)
def gSl : D → Option Int → Option Int → (D → Prop) → Prop := fun d lo hi P => match d with
  | .list ds => P (.list (cutL ds lo hi))
  | .tuple ds => P (.tuple (cutL ds lo hi))
  | .str x => x.length ≤ 16777216 ∧ P (.str (cutS x lo hi))
  | _ => False
def okSl : D → Prop
  | .list _ => True
  | .tuple _ => True
  | .str x => x.length ≤ 16777216
  | _ => False
def vSl : D → Option Int → Option Int → D
  | .list ds, lo, hi => .list (cutL ds lo hi)
  | .tuple ds, lo, hi => .tuple (cutL ds lo hi)
  | .str x, lo, hi => .str (cutS x lo hi)
  | _, _, _ => .none
def qSl : D → Option Int → Option Int → (D → Prop) → Prop := fun d lo hi P => okSl d ∧ P (vSl d lo hi)
theorem qsl {d : D} {lo hi : Option Int} {P : D → Prop} (h : qSl d lo hi P) : gSl d lo hi P := by
  cases d <;> first | exact h.1.elim | exact h.2 | exact h
def rDS (K : PySem.W.Frag) (mg : Str → Option Value) : V → Option Int → Option Int → Hp → VK → Prop := fun x lo hi H Q => ∃ (G : Hp) (d : D) (P : D → Prop), Same G H ∧ RepH K mg G H d x ∧ gSl d lo hi P ∧ ∀ z v G' H', P z → Grow G H G' H' → Rep K mg G' z v → Q v H'
theorem RepL.cut {K : PySem.W.Frag} {mg : Str → Option Value} {G : Hp} {ds : List D} {vs : List V} (r : RepL K mg G ds vs) (lo hi : Option Int) : RepL K mg G (cutL ds lo hi) (cutV vs lo hi) := by
  unfold cutL cutV
  rw [r.length]
  exact (r.drop _).take _
theorem cut_whole {α : Type} (xs : List α) (lo hi : Option Int) (h : HT.sIx xs.length 0 lo = 0 ∧ HT.sIx xs.length xs.length hi = xs.length) : cutL xs lo hi = xs := by
  unfold cutL; rw [h.1, h.2]; simp
theorem sld {X : Cx} : SlR X (rDS X.K X.mg) := by
  intro pins s σ H x v vl vu lo hi sl Q I rx hs pl pu ⟨G, d, P, sg, hx, g, q⟩
  unfold gSl at g
  split at g
  · obtain ⟨a, vs, e1, ha, r⟩ := hx.lst sg
    exact sl_list pins s σ H x v vl vu lo hi sl Q I rx hs pl pu ⟨a, vs, e1, .of ha, fun p hp => q _ _ _ _ g (Grow.new sg hp) (rep_lst_new sg hp (r.cut lo hi))⟩
  · obtain ⟨a, vs, e1, ha, r⟩ := hx.tup sg
    have hx' := hx.flat (fun _ => nofun)
    refine sl_tupA pins s σ H x v vl vu lo hi sl Q I rx hs pl pu ⟨a, vs, e1, .of ha, fun w => ?_, fun _ p hp => q _ _ _ _ g (Grow.new sg hp) (rep_tup_new sg hp (r.cut lo hi))⟩
    rw [← r.length] at w
    rw [cut_whole _ _ _ w] at g
    exact q _ _ G H g (Grow.refl sg) (e1 ▸ hx')
  · obtain ⟨l, g⟩ := g
    exact sl_str pins s σ H x v vl vu lo hi sl Q I rx hs pl pu ⟨_, hx.str, by rw [sizeLine_eq]; exact l, q _ _ G H g (Grow.refl sg) rep_str⟩
  · exact g.elim
/-- a part of a slice -/
abbrev OWt := ED → List SV → (Option Int → List SV → Prop) → Prop
def oNone : OWt := fun _ ρ P => P none ρ
def oSome (wa : BW) : OWt := fun E ρ P => wa E ρ fun x ρ1 => use x ρ1 fun d => match d with
  | .int i => P (some i) ρ1
  | _ => False
def bSl (wa : BW) (wl wh : OWt) : BW := fun E ρ P => wa E ρ fun x ρ1 => wl E ρ1 fun lo ρ2 => wh E ρ2 fun hi ρ3 => use x ρ3 fun d => qSl d lo hi fun z => P (.val z) ρ3
def tO (K : PySem.W.Frag) (mg : Str → Option Value) (E : XK) (w : OWt) : TO := fun σ H Q => ∃ (G F : Hp) (ρ : List SV) (X : ED) (P : Option Int → List SV → Prop), Rel K mg G F ρ σ H ∧ Exits K mg E F X ∧ w X ρ P ∧
  ∀ b ρ' H' G', P b ρ' → Ext F G G' → Rel K mg G' F ρ' σ H' → Q b H'
section
variable {K : PySem.W.Frag} {mg : Str → Option Value} {E : XK} {σ : L2.St} {H : Hp}
theorem tO_none {Q : Option Int → Hp → Prop} (h : tO K mg E oNone σ H Q) : tNoPart σ H Q := by
  obtain ⟨G, F, ρ, X, P, R, ex, hw, q⟩ := h
  exact q _ _ H G hw Ext.refl R
theorem tO_some {wa : BW} {Q : Option Int → Hp → Prop} (h : tO K mg E (oSome wa) σ H Q) : tPart (tB K mg E wa) σ H Q := by
  obtain ⟨G, F, ρ, X, P, R, ex, hw, q⟩ := h
  refine ⟨G, F, ρ, X, _, R, ex, hw, fun x ρ1 v H1 G1 p sg1 R1 rx => ?_⟩
  obtain ⟨d, ed, p⟩ := use_res p
  have rh := rx.res R1 ed
  cases d with
  | int b => exact ⟨b, rh.int, q _ _ H1 G1 p sg1 R1⟩
  | _ => exact p.elim
theorem tB_sl {wa : BW} {wl wh : OWt} {Q : VK} (h : tB K mg E (bSl wa wl wh) σ H Q) : tSl (rDS K mg) (tB K mg E wa) (tO K mg E wl) (tO K mg E wh) σ H Q := by
  obtain ⟨G, F, ρ, X, P, R, ex, hw, q⟩ := h
  refine ⟨G, F, ρ, X, _, R, ex, hw, fun x ρ1 v H1 G1 p sg1 R1 rx => ?_⟩
  refine ⟨G1, F, ρ1, X, _, R1, ex, p, fun lo ρ2 H2 G2 p2 sg2 R2 => ?_⟩
  refine ⟨G2, F, ρ2, X, _, R2, ex, p2, fun hi ρ3 H3 G3 p3 sg3 R3 => ?_⟩
  obtain ⟨d, ed, p3⟩ := use_res p3
  exact ⟨G3, d, _, R3.gh, ((rx.mono sg2.gg).mono sg3.gg).res R3 ed, qsl p3, fun z w G4 H4 pz gr rz => q _ _ _ H4 G4 pz (((sg1.trans sg2).trans sg3).trans (gr.ext R3.fh)) (R3.grow gr) rz⟩
end
theorem po_weak {X : Cx} {e : Option Expr} {t t' : TO} (h : PO X e t) (m : ∀ σ H Q, t' σ H Q → t σ H Q) : PO X e t' := ⟨fun pins s σ H Q I q => h.run pins s σ H Q I (m σ H Q q)⟩

/-! ### displays: what is put in is owned -/
abbrev DA := ED → List SV → (List D → List SV → Prop) → Prop
def tAD (K : PySem.W.Frag) (mg : Str → Option Value) (E : XK) (w : DA) : TA := fun σ H Q => ∃ (G F : Hp) (ρ : List SV) (X : ED) (P : List D → List SV → Prop), Rel K mg G F ρ σ H ∧ Exits K mg E F X ∧ w X ρ P ∧
  ∀ ds ρ' vs H' G', P ds ρ' → Ext F G G' → Rel K mg G' F ρ' σ H' → RepL K mg G' ds vs → Q vs H'
def oNil : DA := fun _ ρ P => P [] ρ
def oCons (wa : DW) (wr : DA) : DA := fun E ρ P => wa E ρ fun x ρ1 => wr E ρ1 fun xs ρ2 => P (x :: xs) ρ2
def bTup (w : DA) : BW := fun E ρ P => w E ρ fun ds ρ1 => ds.length ≤ 16777216 ∧ P (.val (.tuple ds)) ρ1
/-- a new list, not frozen yet -/
def fLst (w : DA) : DA := fun E ρ P => w E ρ fun ds ρ1 => ds.length ≤ 16777216 ∧ P ds ρ1
def frz (w : DA) : BW := fun E ρ P => w E ρ fun ds ρ1 => P (.val (.list ds)) ρ1
def NoCel (ρ : List SV) (p : Addr) : Prop := ∀ (i : Nat) (es : List D), ρ[i]? ≠ some (.cel p es)
def tF (K : PySem.W.Frag) (mg : Str → Option Value) (E : XK) (w : DA) : TE := fun σ H Q => ∃ (G F : Hp) (ρ : List SV) (X : ED) (P : List D → List SV → Prop), Rel K mg G F ρ σ H ∧ Exits K mg E F X ∧ w X ρ P ∧
  ∀ ds ρ' p vs H' G', P ds ρ' → Ext F G G' → Rel K mg G' F ρ' σ H' → H' p = some (.lst vs) → RepL K mg G' ds vs → G' p = none → F p = none → NoCel ρ' p → Q (.ref p) H'
section
variable {K : PySem.W.Frag} {mg : Str → Option Value} {E : XK} {σ : L2.St} {H : Hp}
theorem Rel.freezeAt {G F : Hp} {ρ : List SV} {p : Addr} {vs : List V} (R : Rel K mg G F ρ σ H) (hp : H p = some (.lst vs)) (hg : G p = none) (hn : NoCel ρ p) : Rel K mg (upd G p (.lst vs)) F ρ σ H := by
  have sg : Same G (upd G p (.lst vs)) := Same.upd' hg
  refine ⟨fun b o q => ?_, R.fh, R.len, fun j s hj => ?_, R.sep, R.gt.upd fun _ => nofun, R.ft, R.tb⟩
  · by_cases hb : b = p
    · subst hb; rw [upd_same] at q; cases q; exact hp
    · rw [upd_ne hb] at q; exact R.gh _ _ q
  · have so := R.slot j s hj
    cases s with
    | un => trivial
    | dat d => obtain ⟨v, e1, r1⟩ := so; exact ⟨v, e1, Rep.mono sg _ _ r1⟩
    | cel b es =>
      obtain ⟨e1, ws, hb, r1, gb, fb⟩ := so
      have hne : b ≠ p := by rintro rfl; exact hn j es hj
      exact ⟨e1, ws, hb, RepL.mono sg _ _ r1, by rw [upd_ne hne]; exact gb, fb⟩
theorem tF_of_tB {w : DA} {Q : VK} (h : tB K mg E (frz w) σ H Q) : tF K mg E w σ H Q := by
  obtain ⟨G, F, ρ, X, P, R, ex, hw, q⟩ := h
  refine ⟨G, F, ρ, X, _, R, ex, hw, fun ds ρ1 p vs H1 G1 pp sg1 R1 hp r gp fp nc => ?_⟩
  refine q _ _ _ H1 (upd G1 p (.lst vs)) pp (sg1.trans ⟨Same.upd' gp, fun b hb => upd_ne fun z => hb (by rw [z]; exact fp)⟩) (R1.freezeAt hp gp nc) ?_
  show Rep K mg _ (.list ds) _
  rw [Rep]; exact ⟨p, vs, rfl, upd_same, RepL.mono (Same.upd' gp) _ _ r⟩
theorem tAD_nil {Q : List V → Hp → Prop} (h : tAD K mg E oNil σ H Q) : tNil σ H Q := by
  obtain ⟨G, F, ρ, X, P, R, ex, hw, q⟩ := h
  exact q [] ρ [] H G hw Ext.refl R RepL.nil
theorem tAD_cons {wa : DW} {wr : DA} {Q : List V → Hp → Prop} (h : tAD K mg E (oCons wa wr) σ H Q) : tCons (tE K mg E wa) (tAD K mg E wr) σ H Q := by
  obtain ⟨G, F, ρ, X, P, R, ex, hw, q⟩ := h
  refine ⟨G, F, ρ, X, _, R, ex, hw, fun x ρ1 v H1 G1 p sg1 R1 rx => ?_⟩
  refine ⟨G1, F, ρ1, X, _, R1, ex, p, fun xs ρ2 vs H2 G2 p2 sg2 R2 rs => ?_⟩
  exact q _ _ _ H2 G2 p2 (sg1.trans sg2) R2 (RepL.cons (Rep.mono sg2.gg _ _ rx) rs)
theorem tB_tup {w : DA} {Q : VK} (h : tB K mg E (bTup w) σ H Q) : tTup (tAD K mg E w) σ H Q := by
  obtain ⟨G, F, ρ, X, P, R, ex, hw, q⟩ := h
  refine ⟨G, F, ρ, X, _, R, ex, hw, fun xs ρ2 vs H2 G2 ⟨l, p2⟩ sg2 R2 rs => ⟨by rw [← rs.length, sizeLine_eq]; exact l, fun p hp => ?_⟩⟩
  have gr := Grow.new (o := .tup vs) R2.gh hp
  exact q _ _ _ _ _ p2 (sg2.trans (gr.ext R2.fh)) (R2.grow gr) (rep_tup_new R2.gh hp rs)
theorem noCel_new {G F : Hp} {ρ : List SV} {p : Addr} (R : Rel K mg G F ρ σ H) (hp : H p = none) : NoCel ρ p := fun i es e => by
  obtain ⟨_, vs, ha, _⟩ := R.slot i _ e
  rw [hp] at ha; cases ha
theorem tF_lst {w : DA} {Q : VK} (h : tF K mg E (fLst w) σ H Q) : tLst (tAD K mg E w) σ H Q := by
  obtain ⟨G, F, ρ, X, P, R, ex, hw, q⟩ := h
  refine ⟨G, F, ρ, X, _, R, ex, hw, fun xs ρ2 vs H2 G2 ⟨l, p2⟩ sg2 R2 rs => ⟨by rw [← rs.length, sizeLine_eq]; exact l, fun p hp => ?_⟩⟩
  exact q _ _ _ _ _ _ p2 sg2 (R2.grow (Grow.loose R2.gh hp)) upd_same rs (R2.gh.free hp) (R2.fh.free hp) (noCel_new R2 hp)
end
end DL
set_option Elab.async false
set_option linter.all false
set_option maxRecDepth 100000
set_option maxHeartbeats 1000000
namespace DL
open PySem PySem.Spec PyProof.Rows L2

/-! ### built-ins over data -/
def boolsOf : List D → Option (List Bool)
  | [] => some []
  | .bool i :: ds => match boolsOf ds with
    | some is => some (i :: is)
    | none => none
  | _ :: _ => none
theorem boolsOf_eq : ∀ {ds : List D} {is : List Bool}, boolsOf ds = some is → ds = is.map .bool
  | [], is, h => by unfold boolsOf at h; cases h; rfl
  | d :: ds, is, h => by
    cases d with
    | bool i =>
      unfold boolsOf at h
      cases e : boolsOf ds with
      | none => simp [e] at h
      | some js => simp [e] at h; subst h; rw [boolsOf_eq e]; rfl
    | _ => simp [boolsOf] at h
theorem boolsOf_map : ∀ (is : List Bool), boolsOf (is.map .bool) = some is
  | [] => rfl
  | i :: is => by rw [List.map_cons]; unfold boolsOf; rw [boolsOf_map is]
def strsOf : List D → Option (List Str)
  | [] => some []
  | .str i :: ds => match strsOf ds with
    | some is => some (i :: is)
    | none => none
  | _ :: _ => none
theorem strsOf_eq : ∀ {ds : List D} {is : List Str}, strsOf ds = some is → ds = is.map .str
  | [], is, h => by unfold strsOf at h; cases h; rfl
  | d :: ds, is, h => by
    cases d with
    | str i =>
      unfold strsOf at h
      cases e : strsOf ds with
      | none => simp [e] at h
      | some js => simp [e] at h; subst h; rw [strsOf_eq e]; rfl
    | _ => simp [strsOf] at h
theorem strsOf_map : ∀ (is : List Str), strsOf (is.map .str) = some is
  | [] => rfl
  | i :: is => by rw [List.map_cons]; unfold strsOf; rw [strsOf_map is]
def minL : List Int → Int
  | [] => 0
  | x :: xs => xs.foldl min x
theorem foldl_min_le : ∀ (xs : List Int) (x : Int), xs.foldl min x ≤ x ∧ ∀ y ∈ xs, xs.foldl min x ≤ y
  | [], x => ⟨Int.le_refl _, fun _ h => nomatch h⟩
  | y :: ys, x => by
    obtain ⟨h1, h2⟩ := foldl_min_le ys (min x y)
    refine ⟨Int.le_trans h1 (Int.min_le_left _ _), fun z hz => ?_⟩
    rcases List.mem_cons.mp hz with e | hz
    · subst e; exact Int.le_trans h1 (Int.min_le_right _ _)
    · exact h2 z hz
theorem foldl_min_mem : ∀ (xs : List Int) (x : Int), xs.foldl min x = x ∨ xs.foldl min x ∈ xs
  | [], x => .inl rfl
  | y :: ys, x => by
    rcases foldl_min_mem ys (min x y) with h | h
    · by_cases e : x ≤ y
      · rw [Int.min_eq_left e] at h; left; simpa [Int.min_eq_left e] using h
      · rw [Int.min_eq_right (by omega)] at h; right; simp only [List.foldl_cons]; rw [Int.min_eq_right (by omega), h]; exact List.mem_cons_self
    · right; exact List.mem_cons_of_mem _ h
theorem minL_le {ns : List Int} {y : Int} (h : y ∈ ns) : minL ns ≤ y := by
  cases ns with
  | nil => cases h
  | cons x xs =>
    rcases List.mem_cons.mp h with e | h
    · subst e; exact (foldl_min_le xs y).1
    · exact (foldl_min_le xs x).2 y h
theorem minL_mem {ns : List Int} (h : ns ≠ []) : minL ns ∈ ns := by
  cases ns with
  | nil => exact absurd rfl h
  | cons x xs =>
    rcases foldl_min_mem xs x with e | e
    · show xs.foldl min x ∈ _; rw [e]; exact List.mem_cons_self
    · exact List.mem_cons_of_mem _ e
/-- the different ones, each at its first place -/
def distinct (ns : List Int) : List Int := ns.foldl PyProof.Rows.step_dedup []

def gLen : GL := fun ds P => match ds with
  | [.list xs] => P (.int xs.length)
  | [.tuple xs] => P (.int xs.length)
  | [.str x] => x.length ≤ 16777216 ∧ P (.int x.length)
  | [.dict [(.none, .list xs)]] => P (.int xs.length)
  | _ => False
def gAll : GL := fun ds P => match ds with
  | [.list xs] => match boolsOf xs with
    | some bs => P (.bool (bs.all id))
    | none => False
  | _ => False
def gAny : GL := fun ds P => match ds with
  | [.list xs] => match boolsOf xs with
    | some bs => P (.bool (bs.any id))
    | none => False
  | _ => False
def gSum : GL := fun ds P => match ds with
  | [.list xs] => match intsOf xs with
    | some ns => P (.int ns.sum)
    | none => False
  | _ => False
def gMax : GL := fun ds P => match ds with
  | [.int i, .int j] => P (.int (max i j))
  | _ => False
def gMin : GL := fun ds P => match ds with
  | [.int i, .int j] => P (.int (min i j))
  | [.list xs] => match intsOf xs with
    | some ns => ns ≠ [] ∧ P (.int (minL ns))
    | none => False
  | _ => False
def gInt : GL := fun ds P => match ds with
  | [.int i] => P (.int i)
  | [.bool b] => P (.int (if b then 1 else 0))
  | [.str x] => match PySem.intText? x with
    | some n => x.length ≤ 640 ∧ P (.int n)
    | none => False
  | _ => False
def gBool : GL := fun ds P => match ds with
  | [.int i] => P (.bool (i != 0))
  | [.bool b] => P (.bool b)
  | _ => False
def gStr : GL := fun ds P => match ds with
  | [.int i] => i.natAbs.log2 < 1920 ∧ P (.str (toString i))
  | _ => False
def gTuple : GL := fun ds P => match ds with
  | [.list xs] => P (.tuple xs)
  | [.tuple xs] => P (.tuple xs)
  | _ => False
def gIsi (T : String) : G1 := fun d P => match d with
  | .none => P (.bool (T == "NoneType"))
  | .bool _ => P (.bool (T == "bool" || T == "int"))
  | .int _ => P (.bool (T == "int"))
  | .str _ => P (.bool (T == "str"))
  | .list _ => P (.bool (T == "list"))
  | .tuple _ => P (.bool (T == "tuple"))
  | .dict _ => False

section
variable {K : PySem.W.Frag} {mg : Str → Option Value} {G H : Hp}
theorem RepHs.one {d : D} {xs : List V} (h : RepHs K mg G H [d] xs) : ∃ x, xs = [x] ∧ RepH K mg G H d x := by
  obtain ⟨v, ws, e, r, q⟩ := h
  have q' : ws = [] := q
  subst q'
  exact ⟨v, e, r⟩
theorem RepHs.two {d e : D} {xs : List V} (h : RepHs K mg G H [d, e] xs) : ∃ x y, xs = [x, y] ∧ RepH K mg G H d x ∧ RepH K mg G H e y := by
  obtain ⟨v, ws, e, r, q⟩ := h
  obtain ⟨y, e2, r2⟩ := RepHs.one q
  subst e2
  exact ⟨v, y, e, r, r2⟩
end
abbrev CallD (X : Cx) (f : Value) (g : GL) : Prop := CallR X f (rDL X.K X.mg g)
section
variable {X : Cx}
theorem cd_len : CallD X (.builtin "len") gLen := by
  intro pins s σ H xs us Q I r ⟨G, ds, P, sg, hx, g, q⟩
  unfold gLen at g
  split at g
  · obtain ⟨x, ex, hz⟩ := hx.one; subst ex; replace hx := hz
    obtain ⟨a, vs, e, ha, rr⟩ := hx.lst sg
    subst e
    exact call_len_seq pins s σ H _ us Q I r ⟨a, vs, rfl, .inl (.of ha), by rw [← rr.length]; exact q _ _ G H g (Grow.refl sg) rep_int⟩
  · obtain ⟨x, ex, hz⟩ := hx.one; subst ex; replace hx := hz
    obtain ⟨a, vs, e, ha, rr⟩ := hx.tup sg
    subst e
    exact call_len_seq pins s σ H _ us Q I r ⟨a, vs, rfl, .inr (.of ha), by rw [← rr.length]; exact q _ _ G H g (Grow.refl sg) rep_int⟩
  · obtain ⟨x, ex, hz⟩ := hx.one; subst ex; replace hx := hz
    have e := hx.str
    subst e
    obtain ⟨l, g⟩ := g
    exact call_len_str pins s σ H _ us Q I r ⟨_, rfl, by rw [sizeLine_eq]; exact l, q _ _ G H g (Grow.refl sg) rep_int⟩
  · obtain ⟨x, ex, hz⟩ := hx.one; subst ex; replace hx := hz
    have hx := hx.flat (fun _ => nofun)
    rw [Rep] at hx
    obtain ⟨a, ns, e1, e3, ha⟩ := hx
    subst e1 e3
    refine call_len_seq pins s σ H _ us Q I r ⟨a, _, rfl, .inl (sg.seq ha), ?_⟩
    have g' := q _ _ G H g (Grow.refl sg) rep_int
    rw [List.length_map] at g' ⊢
    exact g'
  · exact g.elim
theorem cd_all (hc : X.calm = true) : CallD X (.builtin "all") gAll := by
  intro pins s σ H xs us Q I r ⟨G, ds, P, sg, hx, g, q⟩
  unfold gAll at g
  split at g
  · obtain ⟨x, ex, hz⟩ := hx.one; subst ex; replace hx := hz
    obtain ⟨a, vs, e, ha, rr⟩ := hx.lst sg
    subst e
    split at g
    · rename_i h1
      rw [boolsOf_eq h1] at rr
      have t := rr.bls
      subst t
      exact cr_all hc pins s σ H _ us Q I r ⟨a, _, rfl, .of ha, q _ _ G H g (Grow.refl sg) rep_bl⟩
    · exact g.elim
  · exact g.elim
theorem cd_any (hc : X.calm = true) : CallD X (.builtin "any") gAny := by
  intro pins s σ H xs us Q I r ⟨G, ds, P, sg, hx, g, q⟩
  unfold gAny at g
  split at g
  · obtain ⟨x, ex, hz⟩ := hx.one; subst ex; replace hx := hz
    obtain ⟨a, vs, e, ha, rr⟩ := hx.lst sg
    subst e
    split at g
    · rename_i h1
      rw [boolsOf_eq h1] at rr
      have t := rr.bls
      subst t
      exact cr_any hc pins s σ H _ us Q I r ⟨a, _, rfl, .of ha, q _ _ G H g (Grow.refl sg) rep_bl⟩
    · exact g.elim
  · exact g.elim
theorem cd_sum (hc : X.calm = true) : CallD X (.builtin "sum") gSum := by
  intro pins s σ H xs us Q I r ⟨G, ds, P, sg, hx, g, q⟩
  unfold gSum at g
  split at g
  · obtain ⟨x, ex, hz⟩ := hx.one; subst ex; replace hx := hz
    obtain ⟨a, vs, e, ha, rr⟩ := hx.lst sg
    subst e
    split at g
    · rename_i h1
      rw [intsOf_eq h1] at rr
      have t := rr.ints
      subst t
      exact cr_sum hc pins s σ H _ us Q I r ⟨a, _, rfl, .of ha, q _ _ G H g (Grow.refl sg) rep_int⟩
    · exact g.elim
  · exact g.elim
theorem max_is (i j : Int) : (if j > i then j else i) = max i j := by
  by_cases h : j > i
  · rw [if_pos h, Int.max_eq_right (by omega)]
  · rw [if_neg h, Int.max_eq_left (by omega)]
theorem min_is (i j : Int) : (if j < i then j else i) = min i j := by
  by_cases h : j < i
  · rw [if_pos h, Int.min_eq_right (by omega)]
  · rw [if_neg h, Int.min_eq_left (by omega)]
theorem cd_max (hc : X.calm = true) : CallD X (.builtin "max") gMax := by
  intro pins s σ H xs us Q I r ⟨G, ds, P, sg, hx, g, q⟩
  unfold gMax at g
  split at g
  · obtain ⟨x, y, ex, hz, hy⟩ := hx.two; subst ex; replace hx := hz
    have e1 := hx.int; have e2 := hy.int
    subst e1 e2
    exact call_max2 hc pins s σ H _ us Q I r ⟨_, _, rfl, by rw [max_is]; exact q _ _ G H g (Grow.refl sg) rep_int⟩
  · exact g.elim
theorem cd_min (hc : X.calm = true) : CallD X (.builtin "min") gMin := by
  intro pins s σ H xs us Q I r ⟨G, ds, P, sg, hx, g, q⟩
  unfold gMin at g
  split at g
  · obtain ⟨x, y, ex, hz, hy⟩ := hx.two; subst ex; replace hx := hz
    have e1 := hx.int; have e2 := hy.int
    subst e1 e2
    exact call_min2 hc pins s σ H _ us Q I r ⟨_, _, rfl, by rw [min_is]; exact q _ _ G H g (Grow.refl sg) rep_int⟩
  · obtain ⟨x, ex, hz⟩ := hx.one; subst ex; replace hx := hz
    obtain ⟨a, vs, e, ha, rr⟩ := hx.lst sg
    subst e
    split at g
    · rename_i ns h1
      obtain ⟨hne, g⟩ := g
      rw [intsOf_eq h1] at rr
      have t := rr.ints
      subst t
      refine cr_min hc pins s σ H _ us Q I r ⟨a, ns, rfl, .of ha, List.length_pos_iff.mpr hne, fun m hm hle => ?_⟩
      have e : m = minL ns := Int.le_antisymm (hle _ (minL_mem hne)) (minL_le hm)
      rw [e]
      exact q _ _ G H g (Grow.refl sg) rep_int
    · exact g.elim
  · exact g.elim
theorem cd_int : CallD X (.type "int") gInt := by
  intro pins s σ H xs us Q I r ⟨G, ds, P, sg, hx, g, q⟩
  unfold gInt at g
  split at g
  · obtain ⟨x, ex, hz⟩ := hx.one; subst ex; replace hx := hz
    have e1 := hx.int
    subst e1
    exact call_int1 pins s σ H _ us Q I r (.inl ⟨_, rfl, q _ _ G H g (Grow.refl sg) rep_int⟩)
  · obtain ⟨x, ex, hz⟩ := hx.one; subst ex; replace hx := hz
    have e1 := hx.bl
    subst e1
    exact call_int1 pins s σ H _ us Q I r (.inr ⟨_, rfl, q _ _ G H g (Grow.refl sg) rep_int⟩)
  · obtain ⟨x, ex, hz⟩ := hx.one; subst ex; replace hx := hz
    have e1 := hx.str
    subst e1
    split at g
    · rename_i h1
      obtain ⟨l, g⟩ := g
      exact call_int_str pins s σ H _ us Q I r ⟨_, _, rfl, h1, l, q _ _ G H g (Grow.refl sg) rep_int⟩
    · exact g.elim
  · exact g.elim
theorem cd_bool : CallD X (.type "bool") gBool := by
  intro pins s σ H xs us Q I r ⟨G, ds, P, sg, hx, g, q⟩
  unfold gBool at g
  split at g
  · obtain ⟨x, ex, hz⟩ := hx.one; subst ex; replace hx := hz
    have e1 := hx.int
    subst e1
    exact call_bool1 pins s σ H _ us Q I r (.inl ⟨_, rfl, q _ _ G H g (Grow.refl sg) rep_bl⟩)
  · obtain ⟨x, ex, hz⟩ := hx.one; subst ex; replace hx := hz
    have e1 := hx.bl
    subst e1
    exact call_bool1 pins s σ H _ us Q I r (.inr ⟨_, rfl, q _ _ G H g (Grow.refl sg) rep_bl⟩)
  · exact g.elim
theorem cd_str : CallD X (.type "str") gStr := by
  intro pins s σ H xs us Q I r ⟨G, ds, P, sg, hx, g, q⟩
  unfold gStr at g
  split at g
  · obtain ⟨x, ex, hz⟩ := hx.one; subst ex; replace hx := hz
    have e1 := hx.int
    subst e1
    obtain ⟨l, g⟩ := g
    exact call_str_int pins s σ H _ us Q I r ⟨_, rfl, l, q _ _ G H g (Grow.refl sg) rep_str⟩
  · exact g.elim
theorem cd_tuple : CallD X (.type "tuple") gTuple := by
  intro pins s σ H xs us Q I r ⟨G, ds, P, sg, hx, g, q⟩
  unfold gTuple at g
  split at g
  · obtain ⟨x, ex, hz⟩ := hx.one; subst ex; replace hx := hz
    obtain ⟨a, vs, e, ha, rr⟩ := hx.lst sg
    subst e
    exact call_tuple_of pins s σ H _ us Q I r ⟨a, vs, rfl, .inl ⟨.of ha, fun p hp => q _ _ _ _ g (Grow.new sg hp) (rep_tup_new sg hp rr)⟩⟩
  · obtain ⟨x, ex, hz⟩ := hx.one; subst ex; replace hx := hz
    have hx' := hx.flat (fun _ => nofun)
    obtain ⟨a, vs, e, ha, rr⟩ := hx.tup sg
    subst e
    exact call_tuple_of pins s σ H _ us Q I r ⟨a, vs, rfl, .inr ⟨.of ha, q _ _ G H g (Grow.refl sg) hx'⟩⟩
  · exact g.elim
/-! ### isinstance(x, T), T a built-in class -/
def isiOk (T : String) : Bool := T == "int" || T == "bool" || T == "str" || T == "list" || T == "tuple"
theorem kits : ∀ T : String, isiOk T = true → kitB "NoneType" T = some (T == "NoneType") ∧ kitB "bool" T = some (T == "bool" || T == "int") ∧ kitB "int" T = some (T == "int") ∧ kitB "str" T = some (T == "str") ∧ kitB "list" T = some (T == "list") ∧ kitB "tuple" T = some (T == "tuple") := by
  intro T h
  unfold isiOk at h
  simp only [Bool.or_eq_true, beq_iff_eq] at h
  rcases h with (((h | h) | h) | h) | h <;> subst h <;> decide +kernel
theorem isi_core {T : String} (hT : isiOk T = true) {pins : List (Addr × Obj)} {s : Shared} {σ : L2.St} {H G : Hp} {x : V} {us : List Value} {Q : VK} {d : D} {P : D → Prop} (I : Inv X pins σ H s) (r : Vals [x, .ty T] us) (sg : Same G H) (hx : RepH X.K X.mg G H d x) (g : gIsi T d P)
    (q : ∀ z v G' H', P z → Grow G H G' H' → Rep X.K X.mg G' z v → Q v H') : wpAny (model X.prog X.w) X.A (call (.builtin "isinstance") us) (EP X pins σ Q) X.xe s := by
  obtain ⟨k1, k2, k3, k4, k5, k6⟩ := kits T hT
  have fin : ∀ {t : String} {b : Bool}, TyOf X.K H x (.type t) → kitB t T = some b → P (.bool b) → wpAny (model X.prog X.w) X.A (call (.builtin "isinstance") us) (EP X pins σ Q) X.xe s := fun {t b} ty k p =>
    call_isi pins s σ H _ us Q I r ⟨x, .ty T, _, _, b, rfl, .ty T, .base ty, kit_ty k, q _ _ G H p (Grow.refl sg) rep_bl⟩
  unfold gIsi at g
  cases d with
  | none => have e := hx.non; subst e; exact fin .non k1 g
  | bool b => have e := hx.bl; subst e; exact fin (.bl _) k2 g
  | int i => have e := hx.int; subst e; exact fin (.int _) k3 g
  | str i => have e := hx.str; subst e; exact fin (.str _) k4 g
  | list ds => obtain ⟨a, vs, e, ha, _⟩ := hx.lst sg; subst e; exact fin (.lst ha) k5 g
  | tuple ds => obtain ⟨a, vs, e, ha, _⟩ := hx.tup sg; subst e; exact fin (.tup ha) k6 g
  | dict _ => exact g.elim
end
/-! ### new lists: sorted, list(x) -/
def rDF (K : PySem.W.Frag) (mg : Str → Option Value) (g : List D → (List D → Prop) → Prop) : List V → Hp → VK → Prop := fun xs H Q => ∃ (G : Hp) (ds : List D) (P : List D → Prop), Same G H ∧ RepHs K mg G H ds xs ∧ g ds P ∧
  ∀ zs vs p, P zs → H p = none → RepL K mg G zs vs → Q (.ref p) (upd H p (.lst vs))
abbrev CallF (X : Cx) (f : Value) (g : List D → (List D → Prop) → Prop) : Prop := CallR X f (rDF X.K X.mg g)
def fCB (g : List D → (List D → Prop) → Prop) (wa : AW) : DA := fun E ρ P => wa E ρ fun xs ρ1 => uses xs ρ1 fun ds => g ds fun zs => P zs ρ1
theorem tF_cb {K : PySem.W.Frag} {mg : Str → Option Value} {E : XK} {g : List D → (List D → Prop) → Prop} {wa : AW} {σ : L2.St} {H : Hp} {Q : VK} (h : tF K mg E (fCB g wa) σ H Q) : tCB (rDF K mg g) (tA K mg E wa) σ H Q := by
  obtain ⟨G, F, ρ, X, P, R, ex, hw, q⟩ := h
  refine ⟨G, F, ρ, X, _, R, ex, hw, fun xs ρ1 vs H1 G1 p sg1 R1 rx => ?_⟩
  obtain ⟨ds, ed, p⟩ := uses_res p
  exact ⟨G1, ds, _, R1.gh, rx.res R1 ed, p, fun zs ws pp pz hp rz => q _ _ _ _ _ G1 pz sg1 (R1.grow (Grow.loose R1.gh hp)) upd_same rz (R1.gh.free hp) (R1.fh.free hp) (noCel_new R1 hp)⟩
def hList : List D → (List D → Prop) → Prop := fun ds P => match ds with
  | [.list xs] => P xs
  | [.tuple xs] => P xs
  | _ => False
def hSorted : List D → (List D → Prop) → Prop := fun ds P => match ds with
  | [.list xs] => PySem.W.AllAlike xs ∧ PySem.W.Sortable xs ∧ shp (.list xs) = true ∧ xs.length ≤ 16777216 ∧ P (xs.mergeSort (PySem.W.dataLe false id))
  | [.tuple xs] => ∃ ns : List Int, xs = ns.map PyData.int ∧ P ((ns.mergeSort (fun a b => decide (a ≤ b))).map PyData.int)
  | _ => False
section
variable {X : Cx}
theorem cf_list : CallF X (.type "list") hList := by
  intro pins s σ H xs us Q I r ⟨G, ds, P, sg, hx, g, q⟩
  unfold hList at g
  split at g
  · obtain ⟨x, ex, hz⟩ := hx.one; subst ex; replace hx := hz
    obtain ⟨a, vs, e, ha, rr⟩ := hx.lst sg
    subst e
    exact call_list_of pins s σ H _ us Q I r ⟨a, vs, rfl, .inl (.of ha), fun p hp => q _ _ _ g hp rr⟩
  · obtain ⟨x, ex, hz⟩ := hx.one; subst ex; replace hx := hz
    obtain ⟨a, vs, e, ha, rr⟩ := hx.tup sg
    subst e
    exact call_list_of pins s σ H _ us Q I r ⟨a, vs, rfl, .inr (.of ha), fun p hp => q _ _ _ g hp rr⟩
  · exact g.elim
end
end DL
set_option Elab.async false
set_option linter.all false
set_option maxRecDepth 100000
set_option maxHeartbeats 1000000
namespace DL
open PySem PySem.Spec PyProof.Rows L2

/-! ### contracts of defs -/
inductive FnC where
  /-- so many arguments; what is asked of them, what is given back or raised -/
  | pur (n : Nat) (sp : ED → List D → (D → Prop) → Prop)
  /-- the first argument is a list that is changed in place -/
  | mut (n : Nat) (sp : ED → List D → List D → (D → List D → Prop) → Prop)
  /-- a new list comes back -/
  | frs (n : Nat) (sp : ED → List D → (List D → Prop) → Prop)
def off (H : Hp) (a : Addr) : Hp := fun b => if b = a then none else H b
theorem off_at {H : Hp} {a : Addr} : off H a a = none := if_pos rfl
theorem off_ne {H : Hp} {a b : Addr} (h : b ≠ a) : off H a b = H b := if_neg h
def spOf (K : PySem.W.Frag) (mg : Str → Option Value) : FnC → Sp
  | .pur n sp => fun vs H Q E => vs.length = n ∧ ∃ (G : Hp) (ds : List D) (X : ED) (P : D → Prop), Same G H ∧ NoTb G ∧ Zt K H ∧ RepL K mg G ds vs ∧ Exits K mg E (nT H) X ∧ sp X ds P ∧
      ∀ d v H' G', P d → Ext (nT H) G G' → Same G' H' → Same (nT H) H' → NoTb G' → Zt K H' → Rep K mg G' d v → Q v H'
  | .mut n sp => fun vs H Q E => vs.length = n ∧ ∃ (a : Addr) (ws us : List V) (G : Hp) (d0 ds : List D) (X : ED) (P : D → List D → Prop), vs = .ref a :: ws ∧ H a = some (.lst us) ∧ Same G H ∧ NoTb G ∧ Zt K H ∧ G a = none ∧ RepL K mg G d0 us ∧ RepL K mg G ds ws ∧
      Exits K mg E (off (nT H) a) X ∧ sp X d0 ds P ∧
      ∀ d d1 v us' H' G', P d d1 → Ext (off (nT H) a) G G' → Same G' H' → Same (off (nT H) a) H' → NoTb G' → Zt K H' → H' a = some (.lst us') → G' a = none → RepL K mg G' d1 us' → Rep K mg G' d v → Q v H'
  | .frs n sp => fun vs H Q E => vs.length = n ∧ ∃ (G : Hp) (ds : List D) (X : ED) (P : List D → Prop), Same G H ∧ NoTb G ∧ Zt K H ∧ RepL K mg G ds vs ∧ Exits K mg E (nT H) X ∧ sp X ds P ∧
      ∀ zs ws p H' G', P zs → Ext (nT H) G G' → Same G' H' → Same (nT H) H' → NoTb G' → Zt K H' → nT H p = none → H' p = some (.lst ws) → G' p = none → RepL K mg G' zs ws → Q (.ref p) H'
def FnC.ar : FnC → Nat
  | .pur n _ => n
  | .mut n _ => n
  | .frs n _ => n
theorem spOf_len {K : PySem.W.Frag} {mg : Str → Option Value} {c : FnC} {vs : List V} {H : Hp} {Q : VK} {E : XK} (h : spOf K mg c vs H Q E) : vs.length = c.ar := by
  cases c <;> exact h.1
/-- a def that may be called here -/
def CallOk (X : Cx) (x : Str) (c : FnC) : Prop := ∃ (k : Nat) (f : Addr) (fd : FuncData) (ps : List Str), FnOk X.prog X.w X.K X.mg X.base (L2N.CX X.prog X.w) k f fd ps (spOf X.K X.mg c) ∧ Room k X.A ∧ X.mg x = some (.ref f) ∧
  PySem.W.keepIn X.K (.ref f) = true ∧ Binds X.K fd ps []

section
variable {K : PySem.W.Frag} {mg : Str → Option Value} {E : XK} {σ : L2.St} {H : Hp}
theorem Exits.up {F F' : Hp} {X : ED} (h : Exits K mg E F X) (s : Same F F') : Exits K mg E F' X := fun x C H' a b c t => h x C H' a b (s.trans c) t
theorem noCel_newT {G F : Hp} {ρ : List SV} {p : Addr} (R : Rel K mg G F ρ σ H) (hp : nT H p = none) : NoCel ρ p := fun i es e => by
  obtain ⟨_, vs, ha, _⟩ := R.slot i _ e
  rw [nT_of ha fun _ => nofun] at hp; cases hp
def bCall (sp : ED → List D → (D → Prop) → Prop) (n : Nat) (w : DA) : BW := fun X ρ P => w X ρ fun ds ρ1 => ds.length = n ∧ sp X ds fun d => P (.val d) ρ1
theorem tB_call {n : Nat} {sp : ED → List D → (D → Prop) → Prop} {w : DA} {Q : VK} (h : tB K mg E (bCall sp n w) σ H Q) : tCall (spOf K mg (.pur n sp)) [] E (tAD K mg E w) σ H Q := by
  obtain ⟨G, F, ρ, X, P, R, ex, hw, q⟩ := h
  refine ⟨G, F, ρ, X, _, R, ex, hw, fun ds ρ1 vs H1 G1 ⟨l, p⟩ sg1 R1 r => ?_⟩
  dsimp only
  rw [List.append_nil]
  have fn := same_nT R1.fh R1.ft
  refine ⟨by rw [← r.length]; exact l, G1, ds, X, _, R1.gh, R1.gt, R1.tb, r, ex.up fn, p, fun d v H' G' pd e1 gh hh ng tb rd => ?_⟩
  exact q _ _ _ H' G' pd (sg1.trans (e1.less fn)) (R1.growT e1.gg gh hh e1.fr ng tb) rd
def fCall (sp : ED → List D → (List D → Prop) → Prop) (n : Nat) (w : DA) : DA := fun X ρ P => w X ρ fun ds ρ1 => ds.length = n ∧ sp X ds fun zs => P zs ρ1
theorem tF_call {n : Nat} {sp : ED → List D → (List D → Prop) → Prop} {w : DA} {Q : VK} (h : tF K mg E (fCall sp n w) σ H Q) : tCall (spOf K mg (.frs n sp)) [] E (tAD K mg E w) σ H Q := by
  obtain ⟨G, F, ρ, X, P, R, ex, hw, q⟩ := h
  refine ⟨G, F, ρ, X, _, R, ex, hw, fun ds ρ1 vs H1 G1 ⟨l, p⟩ sg1 R1 r => ?_⟩
  dsimp only
  rw [List.append_nil]
  have fn := same_nT R1.fh R1.ft
  refine ⟨by rw [← r.length]; exact l, G1, ds, X, _, R1.gh, R1.gt, R1.tb, r, ex.up fn, p, fun zs ws a H' G' pd e1 gh hh ng tb hn ha ga rz => ?_⟩
  exact q _ _ _ _ H' G' pd (sg1.trans (e1.less fn)) (R1.growT e1.gg gh hh e1.fr ng tb) ha rz ga (fn.free hn) (noCel_newT R1 hn)
/-- a call with the list in slot i, which it may change -/
def bCallM (sp : ED → List D → List D → (D → List D → Prop) → Prop) (n i : Nat) (w : DA) : BW := fun X ρ P => match ρ[i]? with
  | some (.cel _ _) => w X ρ fun ds ρ1 => ds.length + 1 = n ∧ match ρ1[i]? with
    | some (.cel a d0) => sp X d0 ds fun d d1 => P (.val d) (ρ1.set i (.cel a d1))
    | _ => False
  | _ => False
theorem Rel.recell {G G' F H H' : Hp} {ρ : List SV} {i : Nat} {a : Addr} {d0 d1 : List D} {us' : List V} (R : Rel K mg G F ρ σ H) (hi : ρ[i]? = some (.cel a d0)) (e : Ext (off (nT H) a) G G') (gh : Same G' H') (hh : Same (off (nT H) a) H') (ng : NoTb G') (tb : Zt K H')
    (ha : H' a = some (.lst us')) (ga : G' a = none) (r : RepL K mg G' d1 us') : Rel K mg G' F (ρ.set i (.cel a d1)) σ H' := by
  obtain ⟨e1, vs, h1, r1, g1, fa⟩ := R.slot i _ hi
  have hil : i < ρ.length := (List.getElem?_eq_some_iff.mp hi).1
  refine ⟨gh, fun b o q => ?_, by rw [List.length_set]; exact R.len, fun j s hj => ?_, fun j k b es fs hj hk => ?_, ng, R.ft, tb⟩
  · have hb : b ≠ a := by rintro rfl; rw [fa] at q; cases q
    exact hh b o (by rw [off_ne hb]; exact same_nT R.fh R.ft _ _ q)
  · by_cases hij : i = j
    · subst hij
      rw [List.getElem?_set_self hil] at hj
      cases hj
      exact ⟨e1, us', ha, r, ga, fa⟩
    · rw [List.getElem?_set_ne hij] at hj
      have so := R.slot j s hj
      cases s with
      | un => trivial
      | dat d => obtain ⟨v, e2, r2⟩ := so; exact ⟨v, e2, Rep.mono e.gg _ _ r2⟩
      | cel b es =>
        obtain ⟨e2, ws, hb, r2, gb, fb⟩ := so
        have hne : b ≠ a := by rintro rfl; exact hij (R.sep _ _ _ _ _ hi hj)
        have ho : off (nT H) a b = some (.lst ws) := by rw [off_ne hne]; exact nT_of hb fun _ => nofun
        exact ⟨e2, ws, hh _ _ ho, RepL.mono e.gg _ _ r2, by rw [e.fr b (by rw [ho]; simp)]; exact gb, fb⟩
  · have old : ∀ {m : Nat} {b : Addr} {us : List D}, (ρ.set i (.cel a d1))[m]? = some (.cel b us) → ∃ us', ρ[m]? = some (.cel b us') := fun {m b us} q => by
      by_cases him : i = m
      · subst him
        rw [List.getElem?_set_self hil] at q
        cases q
        exact ⟨_, hi⟩
      · rw [List.getElem?_set_ne him] at q; exact ⟨_, q⟩
    obtain ⟨_, h2⟩ := old hj
    obtain ⟨_, h3⟩ := old hk
    exact R.sep _ _ _ _ _ h2 h3
theorem tB_callM {n i : Nat} {sp : ED → List D → List D → (D → List D → Prop) → Prop} {w : DA} {Q : VK} (h : tB K mg E (bCallM sp n i w) σ H Q) :
    tCall (spOf K mg (.mut n sp)) [] E (tCons (tVar i) (tAD K mg E w)) σ H Q := by
  obtain ⟨G, F, ρ, X, P, R, ex, hw, q⟩ := h
  unfold bCallM at hw
  cases hs : ρ[i]? with
  | none => rw [hs] at hw; exact hw.elim
  | some s =>
    cases s with
    | un => rw [hs] at hw; exact hw.elim
    | dat d => rw [hs] at hw; exact hw.elim
    | cel a0 c0 =>
      rw [hs] at hw
      obtain ⟨e0, _⟩ := R.slot i _ hs
      refine ⟨.ref a0, e0, G, F, ρ, X, _, R, ex, hw, fun ds ρ1 vs H1 G1 ⟨l, p⟩ sg1 R1 r => ?_⟩
      dsimp only
      rw [List.append_nil]
      cases hs1 : ρ1[i]? with
      | none => rw [hs1] at p; exact p.elim
      | some s1 =>
        cases s1 with
        | un => rw [hs1] at p; exact p.elim
        | dat d => rw [hs1] at p; exact p.elim
        | cel a d0 =>
          rw [hs1] at p
          obtain ⟨e1, us, ha, r0, ga, fa⟩ := R1.slot i _ hs1
          rw [e0] at e1
          cases e1
          have sF : Same F (off (nT H1) a0) := fun b o q => by
            have hb : b ≠ a0 := by rintro rfl; rw [fa] at q; cases q
            rw [off_ne hb]; exact same_nT R1.fh R1.ft _ _ q
          refine ⟨by rw [List.length_cons, ← r.length]; exact l, a0, vs, us, G1, d0, ds, X, _, rfl, ha, R1.gh, R1.gt, R1.tb, ga, r0, r, ex.up sF, p, fun d d1 v us' H' G' pd e2 gh hh ng tb ha' ga' r1 rd => ?_⟩
          exact q _ _ _ H' G' pd (sg1.trans (e2.less sF)) (R1.recell hs1 e2 gh hh ng tb ha' ga' r1) rd
end

/-! ### targets -/
abbrev GW := D → List SV → (List SV → Prop) → Prop
def wipeAll (is vs : List Nat) : Prop := ∀ i ∈ is, i ∈ vs
theorem wipe_set {σ : L2.St} {i : Nat} {x : Option V} : ∀ {vs : List Nat}, i ∈ vs → wipe (σ.set i x) vs = wipe σ vs
  | [], h => nomatch h
  | j :: vs, h => by
    unfold wipe
    by_cases hj : i ∈ vs
    · rw [wipe_set hj]
    · have e : i = j := by
        rcases List.mem_cons.mp h with e | h
        · exact e
        · exact absurd h hj
      subst e
      have out : ∀ {ws : List Nat}, i ∉ ws → wipe (σ.set i x) ws = (wipe σ ws).set i x := by
        intro ws
        induction ws with
        | nil => intro _; rfl
        | cons k ks ih =>
          intro hk
          rw [List.mem_cons, not_or] at hk
          show (wipe (σ.set i x) ks).set k none = ((wipe σ ks).set k none).set i x
          rw [ih hk.2, List.set_comm _ _ hk.1]
      rw [out hj, List.set_set]
def tG (K : PySem.W.Frag) (mg : Str → Option Value) (is : List Nat) (w : GW) : TG := fun v σ H Q => ∃ (G F : Hp) (ρ : List SV) (d : D) (P : List SV → Prop), Rel K mg G F ρ σ H ∧ RepH K mg G H d v ∧ w d ρ P ∧
  ∀ ρ' σ', P ρ' → Rel K mg G F ρ' σ' H → (∀ vs, wipeAll is vs → wipe σ' vs = wipe σ vs) → Q σ' H
def gNm (i : Nat) : GW := fun d ρ P => i < ρ.length ∧ P (ρ.set i (.dat d))
def setAll : List Nat → List D → List SV → (List SV → Prop) → Prop
  | [], [], ρ, P => P ρ
  | i :: is, d :: ds, ρ, P => i < ρ.length ∧ setAll is ds (ρ.set i (.dat d)) P
  | _, _, _, _ => False
def gTp (is : List Nat) : GW := fun d ρ P => match seqOf d with
  | some ds => setAll is ds ρ P
  | none => False
section
variable {K : PySem.W.Frag} {mg : Str → Option Value} {E : XK} {σ : L2.St} {G F H : Hp} {ρ : List SV}
theorem Rel.put {i : Nat} {d : D} {v : V} (R : Rel K mg G F ρ σ H) (hi : i < ρ.length) (r : Rep K mg G d v) : Rel K mg G F (ρ.set i (.dat d)) (σ.set i (some v)) H := by
  have hi' : i < σ.length := by rw [R.len]; exact hi
  refine ⟨R.gh, R.fh, by rw [List.length_set, List.length_set]; exact R.len, fun j s hj => ?_, fun j k b es fs hj hk => ?_, R.gt, R.ft, R.tb⟩
  · by_cases hij : i = j
    · subst hij
      rw [List.getElem?_set_self hi] at hj
      cases hj
      exact ⟨v, List.getElem?_set_self hi', r⟩
    · rw [List.getElem?_set_ne hij] at hj
      rw [List.getElem?_set_ne hij]
      exact R.slot j s hj
  · have old : ∀ {m : Nat} {b : Addr} {us : List D}, (ρ.set i (.dat d))[m]? = some (.cel b us) → ρ[m]? = some (.cel b us) := fun {m b us} q => by
      by_cases him : i = m
      · subst him
        rw [List.getElem?_set_self hi] at q
        cases q
      · rw [List.getElem?_set_ne him] at q; exact q
    exact R.sep _ _ _ _ _ (old hj) (old hk)
/-- a new list is put into a slot, not frozen -/
theorem Rel.putC {i : Nat} {p : Addr} {ds : List D} {vs : List V} (R : Rel K mg G F ρ σ H) (hi : i < ρ.length) (hp : H p = some (.lst vs)) (r : RepL K mg G ds vs) (gp : G p = none) (fp : F p = none) (nc : NoCel ρ p) :
    Rel K mg G F (ρ.set i (.cel p ds)) (σ.set i (some (.ref p))) H := by
  have hi' : i < σ.length := by rw [R.len]; exact hi
  refine ⟨R.gh, R.fh, by rw [List.length_set, List.length_set]; exact R.len, fun j s hj => ?_, fun j k b es fs hj hk => ?_, R.gt, R.ft, R.tb⟩
  · by_cases hij : i = j
    · subst hij
      rw [List.getElem?_set_self hi] at hj
      cases hj
      exact ⟨List.getElem?_set_self hi', vs, hp, r, gp, fp⟩
    · rw [List.getElem?_set_ne hij] at hj
      rw [List.getElem?_set_ne hij]
      exact R.slot j s hj
  · have old : ∀ {m : Nat} {b : Addr} {us : List D}, (ρ.set i (.cel p ds))[m]? = some (.cel b us) → (i = m ∧ b = p) ∨ ρ[m]? = some (.cel b us) := fun {m b us} q => by
      by_cases him : i = m
      · subst him
        rw [List.getElem?_set_self hi] at q
        cases q
        exact .inl ⟨rfl, rfl⟩
      · rw [List.getElem?_set_ne him] at q; exact .inr q
    rcases old hj with ⟨e1, e2⟩ | h1
    · rcases old hk with ⟨e3, _⟩ | h2
      · rw [← e1, ← e3]
      · subst e2; exact absurd h2 (nc _ _)
    · rcases old hk with ⟨e3, e4⟩ | h2
      · subst e4; exact absurd h1 (nc _ _)
      · exact R.sep _ _ _ _ _ h1 h2
theorem RepH.own {d : D} {v : V} (h : RepH K mg G H d v) (n : ∀ ds, d ≠ .list ds) : Rep K mg G d v := h.flat n
theorem tG_nm {i : Nat} {v : V} {Q : L2.St → Hp → Prop} (h : ∃ (G F : Hp) (ρ : List SV) (d : D) (P : List SV → Prop), Rel K mg G F ρ σ H ∧ Rep K mg G d v ∧ gNm i d ρ P ∧
    ∀ ρ' σ', P ρ' → Rel K mg G F ρ' σ' H → (∀ vs, wipeAll [i] vs → wipe σ' vs = wipe σ vs) → Q σ' H) : gName i v σ H Q := by
  obtain ⟨G, F, ρ, d, P, R, r, ⟨hi, p⟩, q⟩ := h
  exact q _ _ p (R.put hi r) fun vs h => wipe_set (h i (by simp))
end
/-- the readings of targets, the value frozen -/
def tGr (K : PySem.W.Frag) (mg : Str → Option Value) (is : List Nat) (w : GW) : TG := fun v σ H Q => ∃ (G F : Hp) (ρ : List SV) (d : D) (P : List SV → Prop), Rel K mg G F ρ σ H ∧ Rep K mg G d v ∧ w d ρ P ∧
  ∀ ρ' σ', P ρ' → Rel K mg G F ρ' σ' H → (∀ vs, wipeAll is vs → wipe σ' vs = wipe σ vs) → Q σ' H
def tGs (K : PySem.W.Frag) (mg : Str → Option Value) (is : List Nat) : TGs := fun vs σ H Q => ∃ (G F : Hp) (ρ : List SV) (ds : List D) (P : List SV → Prop), Rel K mg G F ρ σ H ∧ RepL K mg G ds vs ∧ setAll is ds ρ P ∧
  ∀ ρ' σ', P ρ' → Rel K mg G F ρ' σ' H → (∀ vs, wipeAll is vs → wipe σ' vs = wipe σ vs) → Q σ' H
section
variable {X : Cx}
theorem pg_weak {e : Expr} {t t' : TG} (h : PG X e t) (m : ∀ v σ H Q, t' v σ H Q → t v σ H Q) : PG X e t' := ⟨fun pins s σ H v u Q I r q => h.run pins s σ H v u Q I r (m v σ H Q q)⟩
theorem pgs_weak {e : List Expr} {t t' : TGs} (h : PGs X e t) (m : ∀ v σ H Q, t' v σ H Q → t v σ H Q) : PGs X e t' := ⟨fun pins s σ H v u Q I r q => h.run pins s σ H v u Q I r (m v σ H Q q)⟩
theorem pg_or {e : Expr} {t t' : TG} (h : PG X e t) (h' : PG X e t') : PG X e (fun v σ H Q => t v σ H Q ∨ t' v σ H Q) := ⟨fun pins s σ H v u Q I r q => q.elim (h.run pins s σ H v u Q I r) (h'.run pins s σ H v u Q I r)⟩
/-- a name may be stored to -/
structure StOk (X : Cx) (x : Str) (i : Nat) : Prop where
  nd : X.N.Nodup
  at_ : X.N[i]? = some x
  loc : Loc X.env.scope x
  fn : X.fn x = true ∨ X.env.scope.names.lookup x = some .local
theorem pgr_name {x : Str} {i : Nat} {pos : Pos} (h : StOk X x i) : PG X (.Name x pos) (tGr X.K X.mg [i] (gNm i)) := pg_weak (pg_name h.nd h.at_ h.loc h.fn) fun v σ H Q q => tG_nm q
theorem pgss_nil : PGs X [] (tGs X.K X.mg []) := pgs_weak pgs_nil fun vs σ H Q ⟨G, F, ρ, ds, P, R, r, s, q⟩ => by
  cases ds with
  | nil => rw [RepL] at r; exact ⟨r, q _ _ s R fun _ _ => rfl⟩
  | cons d ds => exact s.elim
theorem pgss_cons {x : Str} {i : Nat} {pos : Pos} {es : List Expr} {is : List Nat} (h : StOk X x i) (hr : PGs X es (tGs X.K X.mg is)) : PGs X (.Name x pos :: es) (tGs X.K X.mg (i :: is)) :=
  pgs_weak (pgs_cons (pg_name h.nd h.at_ h.loc h.fn) hr) fun vs σ H Q ⟨G, F, ρ, ds, P, R, r, s, q⟩ => by
    cases ds with
    | nil => exact s.elim
    | cons d ds =>
      rw [RepL] at r
      obtain ⟨v, ws, e, r1, r2⟩ := r
      obtain ⟨hi, s⟩ := s
      refine ⟨v, ws, e, G, F, _, ds, P, R.put hi r1, r2, s, fun ρ' σ' p R' hw => q ρ' σ' p R' fun vs hv => ?_⟩
      rw [hw vs fun j hj => hv j (List.mem_cons_of_mem _ hj), wipe_set (hv i List.mem_cons_self)]
theorem pgr_tup {es : List Expr} {k : Nat} {pos : Pos} {is : List Nat} (hc : X.calm = true) (h : PGs X es (tGs X.K X.mg is)) (hn : (assignEach es X.env).length = is.length) (hst : (assignEach es X.env).findIdx? (·.1) = none) :
    PG X (.Tuple es k pos) (tGr X.K X.mg is (gTp is)) :=
  pg_weak (pg_or (pg_tup hc h hn hst) (pg_lst hc h hn hst)) fun v σ H Q ⟨G, F, ρ, d, P, R, r, s, q⟩ => by
    have len : ∀ {is : List Nat} {ds : List D} {ρ : List SV} {P : List SV → Prop}, setAll is ds ρ P → ds.length = is.length := by
      intro is
      induction is with
      | nil => intro ds ρ P h; cases ds with | nil => rfl | cons => exact h.elim
      | cons i is ih => intro ds ρ P h; cases ds with | nil => exact h.elim | cons d ds => rw [List.length_cons, List.length_cons, ih h.2]
    unfold gTp at s
    cases d with
    | tuple ds =>
      have s' : setAll is ds ρ P := s
      rw [Rep] at r
      obtain ⟨a, xs, e, g, rl⟩ := r
      exact .inl ⟨a, xs, e, .of (R.gh _ _ g), by rw [← rl.length]; exact len s', G, F, ρ, _, P, R, rl, s', q⟩
    | list ds =>
      have s' : setAll is ds ρ P := s
      rw [Rep] at r
      obtain ⟨a, xs, e, g, rl⟩ := r
      exact .inr ⟨a, xs, e, .of (R.gh _ _ g), by rw [← rl.length]; exact len s', G, F, ρ, _, P, R, rl, s', q⟩
    | _ => exact s.elim
end
end DL
set_option Elab.async false
set_option linter.all false
set_option maxRecDepth 100000
set_option maxHeartbeats 1000000
namespace DL
open PySem PySem.Spec PyProof.Rows L2

/-! ### lists and tuples alike -/
inductive Sk where
  | l | t
def SqK (k : Sk) (K : PySem.W.Frag) (H : Hp) (a : Addr) (xs : List V) : Prop := match k with
  | .l => SqL K H a xs
  | .t => SqT K H a xs
def ItK (k : Sk) (h : Heap) (it a : Addr) (i : Nat) : Prop := match k with
  | .l => h.IsListIter it a i
  | .t => h.IsTupleIter it a i
def ArK (k : Sk) (h : Heap) (a : Addr) (its : Array Value) : Prop := match k with
  | .l => h.IsList a its
  | .t => h.IsTuple a its
def obK (k : Sk) (a : Addr) : Obj := match k with
  | .l => { cls := .type "list_iterator", data := .fields #[.ref a, .int 0 0] }
  | .t => { cls := .type "tuple_iterator", data := .fields #[.ref a, .int 0 0] }
theorem ItK.lt {k : Sk} {h : Heap} {it a : Addr} {i : Nat} (x : ItK k h it a i) : it < h.objs.size := by
  cases k
  · obtain ⟨o, e, _⟩ := x; exact Heap.lt_size e
  · obtain ⟨o, e, _⟩ := x; exact Heap.lt_size e
theorem ItK.ob {k : Sk} {h : Heap} {it a : Addr} {i : Nat} (x : ItK k h it a i) : ∃ o, h.get? it = some o ∧ ∀ v, o.data ≠ .cell v := by
  cases k
  · obtain ⟨o, e, _, d⟩ := x; exact ⟨o, e, fun v q => by rw [d] at q; cases q⟩
  · obtain ⟨o, e, _, d⟩ := x; exact ⟨o, e, fun v q => by rw [d] at q; cases q⟩
theorem ItK.carry {k : Sk} {h h' : Heap} {it a : Addr} {i : Nat} (x : ItK k h it a i) (e : ∀ o, h.get? it = some o → h'.get? it = some o) : ItK k h' it a i := by
  cases k
  · exact Heap.IsListIter.at x e
  · exact Heap.IsTupleIter.at x e
theorem ItK.new {k : Sk} {h : Heap} {it a : Addr} (x : h.get? it = some (obK k a)) : ItK k h it a 0 := by
  cases k
  · exact ⟨_, x, rfl, rfl⟩
  · exact ⟨_, x, rfl, rfl⟩
theorem draK {P : Program} {w : World} {A : Around} (k : Sk) (hh : A.handled = none) (it a : Addr) (hne : a ≠ it) (its : Array Value) :
    Draws P w A it [it, a] its.size (fun i v => its[i]? = some v) (fun i h => ItK k h it a i ∧ ArK k h a its) := by
  cases k
  · exact Draws.list hh it a hne its
  · exact Draws.tuple hh it a hne its
theorem begK (k : Sk) (a : Addr) (its : Array Value) : Begins (.ref a) (obK k a) fun h => ArK k h a its := by
  cases k
  · exact begins_list a its
  · exact begins_tuple a its
section
variable {X : Cx} {pins : List (Addr × Obj)} {σ : L2.St} {H : Hp} {s : Shared} {a : Addr} {xs ys : List V}
theorem invK {k : Sk} (I : Inv X pins σ H s) (h : SqK k X.K H a xs) : ∃ its : List Value, Vals xs its ∧ ArK k s.heap a its.toArray ∧ a < s.heap.objs.size ∧ xs.length ≤ sizeLine := by
  cases k
  · obtain ⟨its, rv, p, z⟩ := I.list h; exact ⟨its, rv, p.isList, p.lt, z⟩
  · obtain ⟨its, rv, p, z⟩ := I.tuple h; exact ⟨its, rv, p, p.lt, z⟩
theorem injK {k : Sk} (I : Inv X pins σ H s) (h : SqK k X.K H a xs) (h' : SqK k X.K H a ys) : xs = ys := by
  cases k
  · exact I.list_inj h h'
  · exact I.tuple_inj h h'
end

/-! ### enumerate -/
set_option maxHeartbeats 2000000 in
theorem enum1_new {v : Value} {o : Obj} {HP : Heap → Prop} (B : Begins v o HP) :
    PySem.Meets (Builtin.«enumerate.__new__» ⟨[.type "enumerate", v], []⟩) (fun _ R s => HP s.heap ∧
      R (.ok (.ret (.ref (s.heap.push o).objs.size))) { s with heap := (s.heap.push o).push { cls := .type "enumerate", data := .fields #[.none, .bool false, .ref s.heap.objs.size, rawInt 0, .none, .none] } }) :=
  .of_wp fun prog w A R s hs => by
    obtain ⟨hq, gq, dq, tq, oq⟩ := s
    obtain ⟨hp1, hr⟩ := hs
    have hsub := sub_enumerate
    have step : ∀ {A2 : Around} {E : Value → Shared → Prop} {Q : Value → Shared → Prop}, Q (.ref hq.objs.size) ⟨hq.push o, gq, dq, tq, oq⟩ → wpAny (model prog w) A2 (pyIter v) Q E ⟨hq, gq, dq, tq, oq⟩ :=
      fun q => B.iter prog w _ _ ⟨hq, gq, dq, tq, oq⟩ _ hp1 q
    wp_walk using step
    refine wpAny_stack_any fun st => wpAny_pure ?_
    split
    · rename_i c _ _ _ _ _
      cases (c == Value.type "enumerate") <;> (wp_walk using step; exact ⟨_, rfl, hr⟩)
    · wp_walk using step
      exact ⟨_, rfl, hr⟩
theorem enum1_call {prog : Program} {w : World} {A : Around} {E : Value → Shared → Prop} {s : Shared} {v : Value} {o : Obj} {HP : Heap → Prop} {Q : Value → Shared → Prop} (B : Begins v o HP) (h1 : HP s.heap)
    (h : ∀ h', IsEnum h' (s.heap.objs.size + 1) s.heap.objs.size 0 .none → h'.get? s.heap.objs.size = some o → (∀ b o, s.heap.get? b = some o → h'.get? b = some o) → Q (.ref (s.heap.objs.size + 1)) { s with heap := h' }) :
    wpAny (model prog w) A (call (.type "enumerate") [v]) Q E s := by
  refine callType_new F.called_enumerate (by decide) (F.typeCall_enumerate_1 _) (F.newCall_enumerate_1 _) (fun obj => F.args_object_init_2 obj _) F.entry_enumerate_new (enum1_new B) ⟨h1, ?_⟩
  have hz : (s.heap.push o).objs.size = s.heap.objs.size + 1 := Heap.size_push ..
  show _ ∧ _
  rw [hz]
  have he : IsEnum ((s.heap.push o).push { cls := .type "enumerate", data := .fields #[.none, .bool false, .ref s.heap.objs.size, rawInt 0, .none, .none] }) (s.heap.objs.size + 1) s.heap.objs.size 0 .none := by
    have hg := Heap.get?_push_size (s.heap.push o) (o := { cls := .type "enumerate", data := .fields #[.none, .bool false, .ref s.heap.objs.size, rawInt 0, .none, .none] }) rfl
    rw [hz] at hg; exact hg
  exact ⟨⟨_, he, rfl⟩, h _ he (Heap.get?_push_of_some _ (Heap.get?_push_size _ B.free)) fun b o x => Heap.get?_push_of_some _ (Heap.get?_push_of_some _ x)⟩
def IteK (k : Sk) (K : PySem.W.Frag) (a : Addr) : It :=
  ⟨fun i H => ∃ (xs : List V) (x : V), SqK k K H a xs ∧ xs[i]? = some x, fun i H v H' => ∃ T x, v = .ref T ∧ H T = none ∧ H' = upd H T (.tup [.int (i : Nat), x]) ∧ ∀ xs, SqK k K H a xs → xs[i]? = some x,
    fun i H => ∃ xs : List V, SqK k K H a xs ∧ xs.length = i⟩
theorem turn_enumK {P : Program} {w : World} {K : PySem.W.Frag} {elts : List Expr} {kk : Nat} {tpos : Pos} (k : Sk) (a e it : Addr) (ne1 : e ≠ it) (ne2 : e ≠ a) (ne3 : a ≠ it) :
    Turn P w K (.Tuple elts kk tpos) (IteK k K a) [e, it] e (fun i h => (∃ old, IsEnum h e it ((i : Nat) : Int) old) ∧ ItK k h it a i) where
  mem := by simp
  obj := fun i h st b hb => by
    obtain ⟨⟨old, he⟩, hi⟩ := st
    have q : b = e ∨ b = it := by simpa using hb
    rcases q with q | q
    · subst q; exact ⟨_, he, fun v z => nomatch z⟩
    · subst q; exact hi.ob
  keep := fun i h h' st kp => by
    obtain ⟨⟨old, he⟩, hi⟩ := st
    exact ⟨⟨old, kp e (by simp) _ he⟩, hi.carry fun o q => kp it (by simp) o q⟩
  item := by
    intro X hP hw hK hc i pins s σ H E I hf st hg
    subst hP hw hK
    obtain ⟨⟨old, he⟩, hit⟩ := st
    obtain ⟨xs, x, hq, hx⟩ := hg
    obtain ⟨its, rv, ar, al, hz⟩ := invK I hq
    obtain ⟨u, hu, ru⟩ := rv.get hx
    have hel : e < s.heap.objs.size := Heap.lt_size he
    have hsz : i < its.toArray.size := by
      have := (List.getElem?_eq_some_iff.mp hu).1
      simpa using this
    have hfe : e ∉ [it, a] := by simp [ne1, ne2]
    have hh : (Around.in1 X.A).handled = none := by have := I.ok.hd hc; simpa [Around.in1] using this
    refine wpAny_pyNext_enum_itemD (draK k hh it a ne3 its.toArray) he ⟨hit, ar⟩ hsz ne1 hfe fun y h' tk hy ho hst' hT hsz' hk => ?_
    have ey : y = u := by
      have h1 : its.toArray[i]? = some u := by simpa using hu
      rw [h1] at hy; exact (Option.some.inj hy).symm
    subst ey
    refine ⟨_, rfl, wpAny_letOwnedTupleGo_enum (s := { s with heap := h', toks := tk + 1 }) ho fun h'' he' sb => ?_⟩
    have hT2 : h''.get? s.heap.objs.size = some { cls := .type "tuple", data := .seq #[.int i tk, y] } := (sb.2 _ (Nat.ne_of_gt hel)).trans hT
    have new : ObjOk X.prog X.w (upd H s.heap.objs.size (.tup [.int (i : Nat), x])) h'' s.heap.objs.size (.tup [.int (i : Nat), x]) :=
      ⟨by rw [sizeLine_eq]; show 2 ≤ 16777216; decide, [.int i tk, y], .cons ⟨_, rfl⟩ (.cons ru .nil), ⟨_, hT2, rfl, _, rfl⟩⟩
    have I1 : Inv X pins σ (upd H s.heap.objs.size (.tup [.int (i : Nat), x])) { s with heap := h'', toks := tk + 1 } :=
      I.turnedNew (ch := [e, it]) (fun b ob hb q => (sb.2 b (fun z => hb (by simp [z]))).trans (hk b ob (fun z => hb (by simp [z])) (fun z => hb (by simp [z])) q)) hf (Nat.le_refl _) new
    refine ⟨.ref s.heap.objs.size, _, I1, rfl, ⟨_, x, rfl, I.hok.fresh (Nat.le_refl _), rfl, fun ws hy => by rw [injK I hy hq]; exact hx⟩, ⟨⟨y, ?_⟩, hst'.1.carry fun o q => (sb.2 it (Ne.symm ne1)).trans q⟩, fun b hb => ?_⟩
    · have e1 : ((i + 1 : Nat) : Int) = (i : Int) + 1 := by omega
      rw [e1]; exact he'
    · have hb' : b < s.heap.objs.size := by
        have q : b = e ∨ b = it := by simpa using hb
        rcases q with q | q
        · subst q; exact hel
        · subst q; exact hit.lt
      rw [upd_ne (Nat.ne_of_lt hb')]
      exact (hf b hb).1
  done := by
    intro X hP hw hK hc i pins s σ H E I hf st hg
    subst hP hw hK
    obtain ⟨⟨old, he⟩, hit⟩ := st
    obtain ⟨xs, hq, hx⟩ := hg
    obtain ⟨its, rv, ar, al, hz⟩ := invK I hq
    obtain ⟨f0, f1, f2, f3, f4, f5⟩ := hf it (by simp)
    have hl := rv.length
    have hh : (Around.in1 X.A).handled = none := by have := I.ok.hd hc; simpa [Around.in1] using this
    have ei : i = its.toArray.size := by simp; omega
    subst ei
    exact wpAny_pyNext_enum_endD (draK k hh it a ne3 its.toArray) he ⟨hit, ar⟩ fun h' eb => ⟨rfl, I.turned (t' := s.toks) (fun b o hb q => eb b o hb q) f0 f1 f3 f4 f5⟩
  self := fun A i s Q E st h => by
    obtain ⟨⟨old, he⟩, _⟩ := st
    exact wpAny_pyIter_enum he h
def iEnumK (K : PySem.W.Frag) (ta : TA) : TI := fun σ H R => ta σ H fun vs H1 => ∃ (k : Sk) (a : Addr) (xs : List V), vs = [.ref a] ∧ SqK k K H1 a xs ∧ R (IteK k K a) H1
theorem pi_enumK {X : Cx} {e : Expr} {ta : TA} {p pos tpos : Pos} {elts : List Expr} {kk : Nat} (hg : Gl X "enumerate") (hm : X.mg "enumerate" = none) (ha : PA X [e] ta) (hs : starEach [e] X.env = [(false, eval e X.env)]) :
    PI X (.Tuple elts kk tpos) (.Call (.Name "enumerate" p) [e] [] pos) (iEnumK X.K ta) := by
  refine ⟨fun pins s σ H R I h => ?_⟩
  refine Call_ (ld_blt I hg hm boot_enumerate (PyProof.Rows.callWith_type1 (thn (ha.run pos pins s σ H _ I h) fun us s1 ⟨vs, H1, I1, r1, q1⟩ => ?_) hs rfl))
  obtain ⟨k, a, xs, ex, hq, q⟩ := q1
  subst ex
  have eu := Vals.ref1 r1
  subst eu
  obtain ⟨its, rv, ar, al, hz⟩ := invK I1 hq
  refine enum1_call (begK k a its.toArray) ar fun h' he hit hk => wpAny_pyIter_enum he ?_
  have I2 : Inv X pins σ H1 { s1 with heap := h' } := I1.kept (t' := s1.toks) hk
  refine ⟨s1.heap.objs.size + 1, [s1.heap.objs.size + 1, s1.heap.objs.size], _, _, H1, rfl, I2, turn_enumK k a _ _ (Nat.succ_ne_self _) (Nat.ne_of_gt (Nat.lt_succ_of_lt al)) (Nat.ne_of_lt al), ⟨⟨.none, he⟩, ItK.new hit⟩, fun b hb => ?_, q⟩
  have hle : s1.heap.objs.size ≤ b := by
    have z : b = s1.heap.objs.size + 1 ∨ b = s1.heap.objs.size := by simpa using hb
    rcases z with z | z <;> rw [z]
    · exact Nat.le_succ _
    · exact Nat.le_refl _
  exact I1.fpOk hle (I1.hok.fresh hle)

/-! ### zip of two -/
def ItzK (k k' : Sk) (K : PySem.W.Frag) (a b : Addr) : It :=
  ⟨fun i H => ∃ (xs ys : List V) (x y : V), SqK k K H a xs ∧ SqK k' K H b ys ∧ xs[i]? = some x ∧ ys[i]? = some y,
    fun i H v H' => ∃ T x y, v = .ref T ∧ H T = none ∧ H' = upd H T (.tup [x, y]) ∧ (∀ xs, SqK k K H a xs → xs[i]? = some x) ∧ ∀ ys, SqK k' K H b ys → ys[i]? = some y,
    fun i H => ∃ xs ys : List V, SqK k K H a xs ∧ SqK k' K H b ys ∧ i = min xs.length ys.length⟩
theorem turn_zipK {P : Program} {w : World} {K : PySem.W.Frag} {elts : List Expr} {kk : Nat} {tpos : Pos} (k k' : Sk) {a b z TI TO i1 i2 : Addr} (S : ZipSep2 z TI TO i1 i2 [i1, a] [i2, b]) (n1 : a ≠ i1) (n2 : b ≠ i2) :
    Turn P w K (.Tuple elts kk tpos) (ItzK k k' K a b) [z, TI, TO, i1, i2] z (fun i h => IsZip h z TI TO .none ∧ IsTupOf2 h TI (.ref i1) (.ref i2) ∧ (∃ x y, IsTupOf2 h TO x y) ∧ ItK k h i1 a i ∧ ItK k' h i2 b i) where
  mem := by simp
  obj := fun i h st c hcm => by
    obtain ⟨hz, hTI, ⟨x, y, hTO⟩, h1, h2⟩ := st
    have q : c = z ∨ c = TI ∨ c = TO ∨ c = i1 ∨ c = i2 := by simpa using hcm
    rcases q with q | q | q | q | q <;> subst q
    · exact ⟨_, hz, fun v q => nomatch q⟩
    · exact ⟨_, hTI, fun v q => nomatch q⟩
    · exact ⟨_, hTO, fun v q => nomatch q⟩
    · exact h1.ob
    · exact h2.ob
  keep := fun i h h' st kp => by
    obtain ⟨hz, hTI, ⟨x, y, hTO⟩, h1, h2⟩ := st
    exact ⟨kp z (by simp) _ hz, kp TI (by simp) _ hTI, ⟨x, y, kp TO (by simp) _ hTO⟩, h1.carry fun o q => kp i1 (by simp) o q, h2.carry fun o q => kp i2 (by simp) o q⟩
  item := by
    intro X hP hw hK hc i pins s σ H E I hf st hg
    subst hP hw hK
    obtain ⟨hz, hTI, ⟨x0, y0, hTO⟩, h1, h2⟩ := st
    obtain ⟨xs, ys, x, y, hqx, hqy, hx, hy⟩ := hg
    obtain ⟨its, rv, p, _, _⟩ := invK I hqx
    obtain ⟨its2, rv2, p2, _, _⟩ := invK I hqy
    obtain ⟨u, hu, ru⟩ := rv.get hx
    obtain ⟨u2, hu2, ru2⟩ := rv2.get hy
    have hzl : z < s.heap.objs.size := Heap.lt_size hz
    have s1 : i < its.toArray.size := by have := (List.getElem?_eq_some_iff.mp hu).1; simpa using this
    have s2 : i < its2.toArray.size := by have := (List.getElem?_eq_some_iff.mp hu2).1; simpa using this
    have hh : (Around.in1 X.A).handled = none := by have := I.ok.hd hc; simpa [Around.in1] using this
    refine wpAny_pyNext_zipD2_item S (draK k hh i1 a n1 its.toArray) (draK k' hh i2 b n2 its2.toArray) hz hTI hTO ⟨h1, p⟩ ⟨h2, p2⟩ s1 s2 fun x1 x2 h' tk e1 e2 z' TO' st1 st2 hT hsz hk => ?_
    have ex : x1 = u := by
      have q : its.toArray[i]? = some u := by simpa using hu
      rw [q] at e1; exact (Option.some.inj e1).symm
    have ey : x2 = u2 := by
      have q : its2.toArray[i]? = some u2 := by simpa using hu2
      rw [q] at e2; exact (Option.some.inj e2).symm
    subst ex ey
    refine ⟨_, rfl, wpAny_letOwnedTupleGo_zip (s := { s with heap := h', toks := tk }) z' fun h'' z'' sb => ?_⟩
    have hT2 : h''.get? s.heap.objs.size = some { cls := .type "tuple", data := .seq #[x1, x2] } := (sb.2 _ (Nat.ne_of_gt hzl)).trans hT
    have new : ObjOk X.prog X.w (upd H s.heap.objs.size (.tup [x, y])) h'' s.heap.objs.size (.tup [x, y]) :=
      ⟨by rw [sizeLine_eq]; show 2 ≤ 16777216; decide, [x1, x2], .cons ru (.cons ru2 .nil), ⟨_, hT2, rfl, _, rfl⟩⟩
    have I1 : Inv X pins σ (upd H s.heap.objs.size (.tup [x, y])) { s with heap := h'', toks := tk } :=
      I.turnedNew (ch := [z, TI, TO, i1, i2]) (fun c o hb q => (sb.2 c (fun q' => hb (by simp [q']))).trans (hk c o (fun q' => hb (by simp [q'])) (fun q' => hb (by simp [q'])) (fun q' => hb (by simp [q'])) (fun q' => hb (by simp [q'])) q)) hf (Nat.le_refl _) new
    refine ⟨.ref s.heap.objs.size, _, I1, rfl, ⟨_, x, y, rfl, I.hok.fresh (Nat.le_refl _), rfl, fun l hl => by rw [injK I hl hqx]; exact hx, fun l hl => by rw [injK I hl hqy]; exact hy⟩, ⟨z'', ?_, ⟨x1, x2, ?_⟩, ?_, ?_⟩, fun c hcm => ?_⟩
    · exact (sb.2 _ S.TIz).trans (hk _ _ S.TIz S.TITO S.TIi1 S.TIi2 hTI)
    · exact (sb.2 _ S.TOz).trans TO'
    · exact st1.1.carry fun o q => (sb.2 _ (Ne.symm S.zi1)).trans q
    · exact st2.1.carry fun o q => (sb.2 _ (Ne.symm S.zi2)).trans q
    · have hlt : c < s.heap.objs.size := by
        have q : c = z ∨ c = TI ∨ c = TO ∨ c = i1 ∨ c = i2 := by simpa using hcm
        rcases q with q | q | q | q | q <;> subst q
        · exact hzl
        · exact Heap.lt_size hTI
        · exact Heap.lt_size hTO
        · exact h1.lt
        · exact h2.lt
      rw [upd_ne (Nat.ne_of_lt hlt)]
      exact (hf c hcm).1
  done := by
    intro X hP hw hK hc i pins s σ H E I hf st hg
    subst hP hw hK
    obtain ⟨hz, hTI, ⟨x0, y0, hTO⟩, h1, h2⟩ := st
    obtain ⟨xs, ys, hqx, hqy, hend⟩ := hg
    obtain ⟨its, rv, p, _, _⟩ := invK I hqx
    obtain ⟨its2, rv2, p2, _, _⟩ := invK I hqy
    have l1 := rv.length
    have l2 := rv2.length
    have z1 : its.toArray.size = its.length := by simp
    have z2 : its2.toArray.size = its2.length := by simp
    have hh : (Around.in1 X.A).handled = none := by have := I.ok.hd hc; simpa [Around.in1] using this
    exact wpAny_pyNext_zipD2_end S (draK k hh i1 a n1 its.toArray) (draK k' hh i2 b n2 its2.toArray) hz hTI hTO ⟨h1, p⟩ ⟨h2, p2⟩ (by omega) (by omega) (by omega) fun h' tk hk => ⟨rfl, I.turnedL (t' := tk) (ch := [z, TI, TO, i1, i2]) (fun c o hb q =>
      hk c o (fun q' => hb (by simp [q'])) (fun q' => hb (by simp [q'])) (fun q' => hb (by simp [q'])) (fun q' => hb (by simp [q'])) q) hf⟩
  self := fun A i s Q E st h => wpAny_pyIter_zip st.1 h
def iZipK (K : PySem.W.Frag) (ta : TA) : TI := fun σ H R => ta σ H fun vs H1 => ∃ (k k' : Sk) (a b : Addr) (xs ys : List V), vs = [.ref a, .ref b] ∧ SqK k K H1 a xs ∧ SqK k' K H1 b ys ∧ R (ItzK k k' K a b) H1
theorem Vals.ref2 {a b : Addr} {us : List Value} (r : Vals [V.ref a, V.ref b] us) : us = [Value.ref a, Value.ref b] := by
  cases r with
  | cons r rr =>
    cases rr with
    | cons r' rr =>
      cases rr
      cases r
      cases r'
      rfl
theorem zipSep_new {n a b : Addr} (ha : a < n) (hb : b < n) : ZipSep2 (n + 4) (n + 2) (n + 3) n (n + 1) [n, a] [n + 1, b] := by
  constructor <;> simp <;> (try constructor) <;> (unfold Addr at *; omega)
theorem pi_zipK {X : Cx} {e e2 : Expr} {ta : TA} {p pos tpos : Pos} {elts : List Expr} {kk : Nat} (hg : Gl X "zip") (hm : X.mg "zip" = none) (ha : PA X [e, e2] ta)
    (hs : starEach [e, e2] X.env = (false, eval e X.env) :: starEach [e2] X.env) (hpl : (backTo pos (starEach [e2] X.env)).any (·.1) = false) :
    PI X (.Tuple elts kk tpos) (.Call (.Name "zip" p) [e, e2] [] pos) (iZipK X.K ta) := by
  refine ⟨fun pins s σ H R I h => ?_⟩
  refine Call_ (ld_blt I hg hm PyProof.Rows.boot_zip (PyProof.Rows.callWith_type1 (thn (ha.run pos pins s σ H _ I h) fun us s1 ⟨vs, H1, I1, r1, q1⟩ => ?_) hs hpl))
  obtain ⟨k, k', a, b, xs, ys, ex, hqx, hqy, q⟩ := q1
  subst ex
  have eu := Vals.ref2 r1
  subst eu
  obtain ⟨its, rv, p1, al, _⟩ := invK I1 hqx
  obtain ⟨its2, rv2, p2, bl, _⟩ := invK I1 hqy
  refine zip_begins2 (begK k a its.toArray) (begK k' b its2.toArray) p1 p2 fun h' hz hTI hTO h1 h2 hsz hk => wpAny_pyIter_zip hz ?_
  have I2 : Inv X pins σ H1 { s1 with heap := h' } := I1.kept (t' := s1.toks) hk
  refine ⟨s1.heap.objs.size + 4, [s1.heap.objs.size + 4, s1.heap.objs.size + 2, s1.heap.objs.size + 3, s1.heap.objs.size, s1.heap.objs.size + 1], _, _, H1, rfl, I2, turn_zipK k k' (zipSep_new al bl) (Nat.ne_of_lt al) (Nat.ne_of_lt (Nat.lt_succ_of_lt bl)),
    ⟨hz, hTI, ⟨_, _, hTO⟩, ItK.new h1, ItK.new h2⟩, fun c hcm => ?_, q⟩
  have hle : s1.heap.objs.size ≤ c := by
    have z : c = s1.heap.objs.size + 4 ∨ c = s1.heap.objs.size + 2 ∨ c = s1.heap.objs.size + 3 ∨ c = s1.heap.objs.size ∨ c = s1.heap.objs.size + 1 := by simpa using hcm
    rcases z with z | z | z | z | z <;> rw [z]
    · exact Nat.le_add_right _ _
    · exact Nat.le_add_right _ _
    · exact Nat.le_add_right _ _
    · exact Nat.le_refl _
    · exact Nat.le_add_right _ _
  exact I1.fpOk hle (I1.hok.fresh hle)

/-! ### a list or a tuple walked -/
def ItqK (k : Sk) (K : PySem.W.Frag) (a : Addr) : It := match k with
  | .l => Itl K a
  | .t => Itt K a
def iSqK (K : PySem.W.Frag) (tl : TE) : TI := fun σ H R => tl σ H fun x H1 => ∃ (k : Sk) (a : Addr) (xs : List V), x = .ref a ∧ SqK k K H1 a xs ∧ R (ItqK k K a) H1
theorem pi_sqK {X : Cx} {tg l : Expr} {tl : TE} (hl : PE X l tl) : PI X tg l (iSqK X.K tl) := by
  refine ⟨fun pins s σ H R I h => ?_⟩
  refine thn (hl.run pins s σ H _ I h) fun v s1 ⟨x, H1, I1, r1, q1⟩ => ?_
  obtain ⟨k, a, xs, e, hq, q⟩ := q1
  subst e
  cases r1
  have fp : ∀ b ∈ [s1.heap.objs.size], FpOk X pins H1 b := fun b hb => by
    have z : b = s1.heap.objs.size := by simpa using hb
    subst z
    exact I1.fpOk (Nat.le_refl _) (I1.hok.fresh (Nat.le_refl _))
  cases k with
  | l =>
    obtain ⟨its, rv, pl, hz⟩ := I1.list hq
    exact wpAny_pyIter_list pl.isList ⟨s1.heap.objs.size, [s1.heap.objs.size], _, _, H1, rfl, I1.kept (t' := s1.toks) fun b o z => Heap.get?_push_of_some _ z, turn_list a _, ⟨_, Heap.get?_push_size _ rfl, rfl, rfl⟩, fp, q⟩
  | t =>
    obtain ⟨its, rv, pl, hz⟩ := I1.tuple hq
    exact wpAny_pyIter_tuple (show s1.heap.IsTuple a its.toArray from pl) ⟨s1.heap.objs.size, [s1.heap.objs.size], _, _, H1, rfl, I1.kept (t' := s1.toks) fun b o z => Heap.get?_push_of_some _ z, turn_tuple a _, ⟨_, Heap.get?_push_size _ rfl, rfl, rfl⟩, fp, q⟩
end DL
set_option Elab.async false
set_option linter.all false
set_option maxRecDepth 100000
set_option maxHeartbeats 1000000
namespace DL
open PySem PySem.Spec PyProof.Rows L2

/-! ### what is walked, as data -/
structure ItD (K : PySem.W.Frag) (mg : Str → Option Value) (G : Hp) (J : It) (ds : List D) : Prop where
  go : ∀ i H, i < ds.length → Same G H → J.go i H
  stop : ∀ H, Same G H → J.stop ds.length H
  yld : ∀ i H x H' G2, i < ds.length → Same G G2 → Same G2 H → J.yld i H x H' → ∃ d G3, ds[i]? = some d ∧ Grow G2 H G3 H' ∧ Rep K mg G3 d x
def tI (K : PySem.W.Frag) (mg : Str → Option Value) (E : XK) (w : DA) : TI := fun σ H R => ∃ (G F : Hp) (ρ : List SV) (X : ED) (P : List D → List SV → Prop), Rel K mg G F ρ σ H ∧ Exits K mg E F X ∧ w X ρ P ∧
  ∀ ds ρ' H' G' J, P ds ρ' → Ext F G G' → Rel K mg G' F ρ' σ H' → ItD K mg G' J ds → R J H'
def iSeq (w : DW) : DA := fun X ρ P => w X ρ fun d ρ1 => match seqOf d with
  | some ds => P ds ρ1
  | none => False
def rangeD (n : Nat) : List D := (List.range n).map fun (i : Nat) => PyData.int (i : Int)
def iRange (w : BW) : DA := fun X ρ P => w X ρ fun x ρ1 => use x ρ1 fun d => match d with
  | .int n => n < 4611686018427387904 ∧ -4611686018427387904 ≤ n ∧ P (rangeD n.toNat) ρ1
  | _ => False
def enumFrom (n : Nat) : List D → List D
  | [] => []
  | d :: ds => .tuple [.int (n : Nat), d] :: enumFrom (n + 1) ds
def iEnum (w : DW) : DA := fun X ρ P => w X ρ fun d ρ1 => match seqOf d with
  | some ds => P (enumFrom 0 ds) ρ1
  | none => False
def zipD : List D → List D → List D
  | x :: xs, y :: ys => .tuple [x, y] :: zipD xs ys
  | _, _ => []
def iZip (w : DA) : DA := fun X ρ P => w X ρ fun ds ρ1 => match ds with
  | [a, b] => match seqOf a, seqOf b with
    | some xs, some ys => P (zipD xs ys) ρ1
    | _, _ => False
  | _ => False
theorem enumFrom_length : ∀ (ds : List D) (n : Nat), (enumFrom n ds).length = ds.length
  | [], _ => rfl
  | d :: ds, n => by unfold enumFrom; rw [List.length_cons, List.length_cons, enumFrom_length ds]
theorem enumFrom_get : ∀ (ds : List D) (n i : Nat) (d : D), ds[i]? = some d → (enumFrom n ds)[i]? = some (.tuple [.int ((n + i : Nat) : Int), d])
  | [], _, _, _, h => by simp at h
  | d :: ds, n, 0, z, h => by simp at h; subst h; rfl
  | d :: ds, n, i + 1, z, h => by
    have := enumFrom_get ds (n + 1) i z (by simpa using h)
    unfold enumFrom
    rw [List.getElem?_cons_succ, this]
    have e : n + 1 + i = n + (i + 1) := by omega
    rw [e]
theorem zipD_length : ∀ (xs ys : List D), (zipD xs ys).length = min xs.length ys.length
  | [], ys => by unfold zipD; simp
  | x :: xs, [] => by unfold zipD; simp
  | x :: xs, y :: ys => by unfold zipD; rw [List.length_cons, zipD_length xs ys, List.length_cons, List.length_cons]; omega
theorem zipD_get : ∀ (xs ys : List D) (i : Nat) (x y : D), xs[i]? = some x → ys[i]? = some y → (zipD xs ys)[i]? = some (.tuple [x, y])
  | [], ys, i, x, y, h, _ => by simp at h
  | a :: xs, [], i, x, y, _, h => by simp at h
  | a :: xs, b :: ys, 0, x, y, h, h' => by simp at h h'; subst h h'; rfl
  | a :: xs, b :: ys, i + 1, x, y, h, h' => by
    unfold zipD
    rw [List.getElem?_cons_succ]
    exact zipD_get xs ys i x y (by simpa using h) (by simpa using h')
section
variable {K : PySem.W.Frag} {mg : Str → Option Value} {E : XK} {σ : L2.St} {G H : Hp}
/-- a frozen list or tuple -/
theorem rep_seq {d : D} {ds : List D} {v : V} (h : Rep K mg G d v) (e : seqOf d = some ds) : ∃ (k : Sk) (a : Addr) (xs : List V), v = .ref a ∧ RepL K mg G ds xs ∧ G a = some (match k with | .l => .lst xs | .t => .tup xs) := by
  cases d <;> simp [seqOf] at e <;> subst e <;> rw [Rep] at h <;> obtain ⟨a, xs, e1, g, r⟩ := h
  · exact ⟨.l, a, xs, e1, r, g⟩
  · exact ⟨.t, a, xs, e1, r, g⟩
theorem sqK_of {k : Sk} {a : Addr} {xs : List V} (h : H a = some (match k with | .l => HO.lst xs | .t => HO.tup xs)) : SqK k K H a xs := by
  cases k
  · exact SqL.of h
  · exact SqT.of h
theorem itd_seq {k : Sk} {a : Addr} {xs : List V} {ds : List D} (h : G a = some (match k with | .l => HO.lst xs | .t => HO.tup xs)) (r : RepL K mg G ds xs) : ItD K mg G (ItqK k K a) ds where
  go := fun i H hi s => by
    have hq := sqK_of (K := K) (s _ _ h)
    have hx : ∃ x, xs[i]? = some x := ⟨xs[i]'(by rw [← r.length]; exact hi), List.getElem?_eq_getElem _⟩
    obtain ⟨x, hx⟩ := hx
    cases k <;> exact ⟨xs, x, hq, hx⟩
  stop := fun H s => by
    have hq := sqK_of (K := K) (s _ _ h)
    cases k <;> exact ⟨xs, hq, by rw [r.length]; exact Nat.le_refl _⟩
  yld := fun i H x H' G2 hi s1 s2 y => by
    have hq := sqK_of (K := K) (s2 _ _ (s1 _ _ h))
    have hy : H' = H ∧ xs[i]? = some x := by cases k <;> exact ⟨y.1, y.2 xs hq⟩
    obtain ⟨e, hx⟩ := hy
    subst e
    obtain ⟨d, e1, rd⟩ := r.get' hx
    exact ⟨d, G2, e1, Grow.refl s2, Rep.mono s1 _ _ rd⟩
theorem itd_range {n : Nat} : ItD K mg G (Itr 0 n) (rangeD n) where
  go := fun i H hi s => by show i < n; simpa [rangeD] using hi
  stop := fun H s => by show n ≤ (rangeD n).length; simp [rangeD]
  yld := fun i H x H' G2 hi s1 s2 y => by
    have hn : i < n := by simpa [rangeD] using hi
    obtain ⟨e, e2⟩ := y
    subst e e2
    refine ⟨.int (i : Nat), G2, ?_, Grow.refl s2, ?_⟩
    · simp [rangeD, hn]
    · rw [Rep, Int.zero_add]
theorem itd_enum {k : Sk} {a : Addr} {xs : List V} {ds : List D} (h : G a = some (match k with | .l => HO.lst xs | .t => HO.tup xs)) (r : RepL K mg G ds xs) : ItD K mg G (IteK k K a) (enumFrom 0 ds) where
  go := fun i H hi s => by
    have hq := sqK_of (K := K) (s _ _ h)
    rw [enumFrom_length] at hi
    exact ⟨xs, xs[i]'(by rw [← r.length]; exact hi), hq, List.getElem?_eq_getElem _⟩
  stop := fun H s => ⟨xs, sqK_of (K := K) (s _ _ h), by rw [enumFrom_length, r.length]⟩
  yld := fun i H x H' G2 hi s1 s2 y => by
    have hq := sqK_of (K := K) (s2 _ _ (s1 _ _ h))
    obtain ⟨T, z, e1, hT, e2, hz⟩ := y
    have hz' := hz xs hq
    subst e1 e2
    obtain ⟨d, e3, rd⟩ := r.get' hz'
    have e4 := enumFrom_get ds 0 i d e3
    rw [Nat.zero_add] at e4
    exact ⟨_, _, e4, Grow.new s2 hT, rep_tup_new s2 hT (RepL.cons rep_int (RepL.cons (Rep.mono s1 _ _ rd) RepL.nil))⟩
theorem itd_zip {k k' : Sk} {a b : Addr} {xs ys : List V} {ds es : List D} (h : G a = some (match k with | .l => HO.lst xs | .t => HO.tup xs)) (r : RepL K mg G ds xs)
    (h' : G b = some (match k' with | .l => HO.lst ys | .t => HO.tup ys)) (r' : RepL K mg G es ys) : ItD K mg G (ItzK k k' K a b) (zipD ds es) where
  go := fun i H hi s => by
    rw [zipD_length] at hi
    have h1 : i < xs.length := by rw [← r.length]; omega
    have h2 : i < ys.length := by rw [← r'.length]; omega
    exact ⟨xs, ys, xs[i], ys[i], sqK_of (K := K) (s _ _ h), sqK_of (K := K) (s _ _ h'), List.getElem?_eq_getElem _, List.getElem?_eq_getElem _⟩
  stop := fun H s => ⟨xs, ys, sqK_of (K := K) (s _ _ h), sqK_of (K := K) (s _ _ h'), by rw [zipD_length, r.length, r'.length]⟩
  yld := fun i H x H' G2 hi s1 s2 y => by
    obtain ⟨T, u, v, e1, hT, e2, hu, hv⟩ := y
    have hu' := hu xs (sqK_of (K := K) (s2 _ _ (s1 _ _ h)))
    have hv' := hv ys (sqK_of (K := K) (s2 _ _ (s1 _ _ h')))
    subst e1 e2
    obtain ⟨d, e3, rd⟩ := r.get' hu'
    obtain ⟨e, e4, re⟩ := r'.get' hv'
    exact ⟨_, _, zipD_get ds es i d e e3 e4, Grow.new s2 hT, rep_tup_new s2 hT (RepL.cons (Rep.mono s1 _ _ rd) (RepL.cons (Rep.mono s1 _ _ re) RepL.nil))⟩
theorem tI_seq {w : DW} {R : It → Hp → Prop} (h : tI K mg E (iSeq w) σ H R) : iSqK K (tE K mg E w) σ H R := by
  obtain ⟨G, F, ρ, X, P, Rl, ex, hw, q⟩ := h
  refine ⟨G, F, ρ, X, _, Rl, ex, hw, fun d ρ1 v H1 G1 p sg1 R1 rx => ?_⟩
  cases e : seqOf d with
  | none => rw [e] at p; exact p.elim
  | some ds =>
    rw [e] at p
    obtain ⟨k, a, xs, e1, r, g⟩ := rep_seq rx e
    exact ⟨k, a, xs, e1, sqK_of (R1.gh _ _ g), q ds ρ1 H1 G1 _ p sg1 R1 (itd_seq g r)⟩
theorem tI_range {w : BW} {R : It → Hp → Prop} (h : tI K mg E (iRange w) σ H R) : iRng1 (tCons (tB K mg E w) tNil) σ H R := by
  obtain ⟨G, F, ρ, X, P, Rl, ex, hw, q⟩ := h
  refine ⟨G, F, ρ, X, _, Rl, ex, hw, fun x ρ1 v H1 G1 p sg1 R1 rx => ?_⟩
  obtain ⟨d, ed, p⟩ := use_res p
  have rh := rx.res R1 ed
  cases d with
  | int n =>
    have e := rh.int
    subst e
    obtain ⟨l1, l2, p⟩ := p
    exact ⟨n, rfl, by omega, by omega, q _ ρ1 H1 G1 _ p sg1 R1 itd_range⟩
  | _ => exact p.elim
theorem tI_enum {w : DW} {R : It → Hp → Prop} (h : tI K mg E (iEnum w) σ H R) : iEnumK K (tCons (tE K mg E w) tNil) σ H R := by
  obtain ⟨G, F, ρ, X, P, Rl, ex, hw, q⟩ := h
  refine ⟨G, F, ρ, X, _, Rl, ex, hw, fun d ρ1 v H1 G1 p sg1 R1 rx => ?_⟩
  cases e : seqOf d with
  | none => rw [e] at p; exact p.elim
  | some ds =>
    rw [e] at p
    obtain ⟨k, a, xs, e1, r, g⟩ := rep_seq rx e
    subst e1
    exact ⟨k, a, xs, rfl, sqK_of (R1.gh _ _ g), q _ ρ1 H1 G1 _ p sg1 R1 (itd_enum g r)⟩
theorem tI_zip {w : DA} {R : It → Hp → Prop} (h : tI K mg E (iZip w) σ H R) : iZipK K (tAD K mg E w) σ H R := by
  obtain ⟨G, F, ρ, X, P, Rl, ex, hw, q⟩ := h
  refine ⟨G, F, ρ, X, _, Rl, ex, hw, fun ds ρ1 vs H1 G1 p sg1 R1 rx => ?_⟩
  split at p
  · rename_i a b
    cases e : seqOf a with
    | none => simp [e] at p
    | some xs =>
      cases e' : seqOf b with
      | none => simp [e, e'] at p
      | some ys =>
        simp only [e, e'] at p
        rw [RepL] at rx
        obtain ⟨v1, ws, e1, r1, rx⟩ := rx
        rw [RepL] at rx
        obtain ⟨v2, ws', e2, r2, rx⟩ := rx
        rw [RepL] at rx
        subst rx e2 e1
        obtain ⟨k, x, us, e3, ru, g⟩ := rep_seq r1 e
        obtain ⟨k', y, us', e4, ru', g'⟩ := rep_seq r2 e'
        subst e3 e4
        exact ⟨k, k', x, y, us, us', rfl, sqK_of (R1.gh _ _ g), sqK_of (R1.gh _ _ g'), q _ ρ1 H1 G1 _ p sg1 R1 (itd_zip g ru g' ru')⟩
  · exact p.elim
end
theorem pi_weak {X : Cx} {tg e : Expr} {t t' : TI} (h : PI X tg e t) (m : ∀ σ H R, t' σ H R → t σ H R) : PI X tg e t' := ⟨fun pins s σ H R I q => h.run pins s σ H R I (m σ H R q)⟩

/-! ### comprehensions -/
def wipeS (ρ : List SV) : List Nat → List SV
  | [] => ρ
  | v :: vs => (wipeS ρ vs).set v .un
def restore (ρ0 ρ : List SV) : List Nat → List SV
  | [] => ρ
  | v :: vs => match ρ0[v]? with
    | some s => (restore ρ0 ρ vs).set v s
    | none => restore ρ0 ρ vs
def noCelAt (ρ : List SV) (vs : List Nat) : Prop := ∀ i ∈ vs, ∀ a ds, ρ[i]? ≠ some (.cel a ds)
def noCelB (ρ : List SV) : List Nat → Prop
  | [] => True
  | v :: vs => (match ρ[v]? with | some (.cel _ _) => False | _ => True) ∧ noCelB ρ vs
theorem noCelB_at {ρ : List SV} : ∀ {vs : List Nat}, noCelB ρ vs → noCelAt ρ vs
  | [], _ => fun _ h => nomatch h
  | v :: vs, h => fun i hi a ds e => by
    rcases List.mem_cons.mp hi with q | q
    · subst q
      have := h.1
      rw [e] at this
      exact this
    · exact noCelB_at h.2 i q a ds e
def compL (g : GW) (tt : TW) (te : DW) (vs : List Nat) : List D → List D → List SV → (List D → List SV → Prop) → Prop
  | [], acc, ρ, P => P acc ρ
  | d :: ds, acc, ρ, P => g d ρ fun ρ1 => tt (fun _ => False) ρ1 fun b ρ2 => if b = true then te (fun _ => False) ρ2 fun z ρ3 => compL g tt te vs ds (acc ++ [z]) (wipeS ρ3 vs) P else compL g tt te vs ds acc (wipeS ρ2 vs) P
def fComp (wi : DA) (g : GW) (tt : TW) (te : DW) (vs : List Nat) : DA := fun X ρ P => wi X ρ fun ds ρ1 => noCelB ρ1 vs ∧ ds.length ≤ 16777216 ∧ compL g tt te vs ds [] (wipeS ρ1 vs) fun acc ρ2 => P acc (restore ρ1 ρ2 vs)
abbrev E0d : XK := fun _ _ _ => False
theorem wipeS_length (ρ : List SV) : ∀ vs, (wipeS ρ vs).length = ρ.length
  | [] => rfl
  | v :: vs => by unfold wipeS; rw [List.length_set, wipeS_length ρ vs]
theorem wipeS_out {ρ : List SV} {i : Nat} : ∀ {vs : List Nat}, i ∉ vs → (wipeS ρ vs)[i]? = ρ[i]?
  | [], _ => rfl
  | v :: vs, h => by
    rw [List.mem_cons, not_or] at h
    unfold wipeS
    rw [List.getElem?_set_ne (Ne.symm h.1), wipeS_out h.2]
theorem wipeS_in {ρ : List SV} {i : Nat} {s : SV} : ∀ {vs : List Nat}, i ∈ vs → (wipeS ρ vs)[i]? = some s → s = .un
  | [], h, _ => nomatch h
  | v :: vs, h, e => by
    unfold wipeS at e
    by_cases hv : v = i
    · subst hv
      have hl : v < (wipeS ρ vs).length := by
        have := (List.getElem?_eq_some_iff.mp e).1
        rwa [List.length_set] at this
      rw [List.getElem?_set_self hl] at e
      exact (Option.some.inj e).symm
    · rw [List.getElem?_set_ne hv] at e
      rcases List.mem_cons.mp h with q | q
      · exact absurd q.symm hv
      · exact wipeS_in q e
theorem restore_length (ρ0 ρ : List SV) : ∀ vs, (restore ρ0 ρ vs).length = ρ.length
  | [] => rfl
  | v :: vs => by
    unfold restore
    split
    · rw [List.length_set, restore_length ρ0 ρ vs]
    · exact restore_length ρ0 ρ vs
theorem restore_out {ρ0 ρ : List SV} {i : Nat} : ∀ {vs : List Nat}, i ∉ vs → (restore ρ0 ρ vs)[i]? = ρ[i]?
  | [], _ => rfl
  | v :: vs, h => by
    rw [List.mem_cons, not_or] at h
    unfold restore
    split
    · rw [List.getElem?_set_ne (Ne.symm h.1), restore_out h.2]
    · exact restore_out h.2
theorem restore_in {ρ0 ρ : List SV} {i : Nat} (hl : ρ0.length = ρ.length) : ∀ {vs : List Nat}, i ∈ vs → (restore ρ0 ρ vs)[i]? = ρ0[i]?
  | [], h => nomatch h
  | v :: vs, h => by
    unfold restore
    by_cases hv : v = i
    · subst hv
      split
      · rename_i s e
        have : v < (restore ρ0 ρ vs).length := by rw [restore_length, ← hl]; exact (List.getElem?_eq_some_iff.mp e).1
        rw [List.getElem?_set_self this, e]
      · rename_i e
        rw [e]
        have : ρ0.length ≤ v := List.getElem?_eq_none_iff.mp e
        exact List.getElem?_eq_none_iff.mpr (by rw [restore_length, ← hl]; exact this)
    · rcases List.mem_cons.mp h with q | q
      · exact absurd q.symm hv
      · split
        · rw [List.getElem?_set_ne hv]; exact restore_in hl q
        · exact restore_in hl q
section
variable {K : PySem.W.Frag} {mg : Str → Option Value} {E : XK} {σ : L2.St} {G F H : Hp} {ρ : List SV}
theorem Rel.wipe (R : Rel K mg G F ρ σ H) (vs : List Nat) : Rel K mg G F (wipeS ρ vs) (wipe σ vs) H := by
  have key : ∀ {i : Nat} {s : SV}, (wipeS ρ vs)[i]? = some s → s = .un ∨ (i ∉ vs ∧ ρ[i]? = some s) := fun {i s} e => by
    by_cases h : i ∈ vs
    · exact .inl (wipeS_in h e)
    · rw [wipeS_out h] at e; exact .inr ⟨h, e⟩
  refine ⟨R.gh, R.fh, by rw [wipe_length, wipeS_length]; exact R.len, fun i s e => ?_, fun i j a ds es h1 h2 => ?_, R.gt, R.ft, R.tb⟩
  · rcases key e with q | ⟨hn, q⟩
    · subst q; trivial
    · rw [wipe_out hn]; exact R.slot i s q
  · rcases key h1 with q | ⟨_, q⟩
    · cases q
    · rcases key h2 with q' | ⟨_, q'⟩
      · cases q'
      · exact R.sep _ _ _ _ _ q q'
theorem Rel.restore {G' H' : Hp} {ρ' : List SV} {vs : List Nat} (R' : Rel K mg G' F ρ' (L2.wipe σ vs) H') (R : Rel K mg G F ρ σ H) (e : Ext F G G') (n : noCelAt ρ vs) : Rel K mg G' F (DL.restore ρ ρ' vs) σ H' := by
  have hl : ρ.length = ρ'.length := by rw [← R.len, ← R'.len, wipe_length]
  refine ⟨R'.gh, R'.fh, by rw [restore_length, ← hl]; exact R.len, fun i s q => ?_, fun i j a ds es h1 h2 => ?_, R'.gt, R'.ft, R'.tb⟩
  · by_cases hi : i ∈ vs
    · rw [restore_in hl hi] at q
      have so := R.slot i s q
      cases s with
      | un => trivial
      | dat d => obtain ⟨v, e1, r⟩ := so; exact ⟨v, e1, Rep.mono e.gg _ _ r⟩
      | cel a ds => exact absurd q (n i hi a ds)
    · rw [restore_out hi] at q
      have so := R'.slot i s q
      rw [wipe_out hi] at so
      exact so
  · have old : ∀ {m : Nat} {us : List D}, (DL.restore ρ ρ' vs)[m]? = some (.cel a us) → ρ'[m]? = some (.cel a us) := fun {m us} q => by
      by_cases hm : m ∈ vs
      · rw [restore_in hl hm] at q; exact absurd q (n m hm a us)
      · rw [restore_out hm] at q; exact q
    exact R'.sep _ _ _ _ _ (old h1) (old h2)
theorem wipe_none {σ : L2.St} {i : Nat} : ∀ {vs : List Nat}, i ∈ vs → i < σ.length → (L2.wipe σ vs)[i]? = some none
  | [], h, _ => nomatch h
  | v :: vs, h, hl => by
    unfold L2.wipe
    by_cases hv : v = i
    · subst hv; rw [List.getElem?_set_self (by rw [wipe_length]; exact hl)]
    · rw [List.getElem?_set_ne hv]
      rcases List.mem_cons.mp h with q | q
      · exact absurd q.symm hv
      · exact wipe_none q hl
theorem wipe_idem (σ : L2.St) (vs : List Nat) : L2.wipe (L2.wipe σ vs) vs = L2.wipe σ vs := by
  apply List.ext_getElem?
  intro i
  by_cases hi : i ∈ vs
  · by_cases hl : i < σ.length
    · rw [wipe_none hi hl, wipe_none hi (by rw [wipe_length]; exact hl)]
    · rw [List.getElem?_eq_none_iff.mpr (by rw [wipe_length, wipe_length]; omega), List.getElem?_eq_none_iff.mpr (by rw [wipe_length]; omega)]
  · rw [wipe_out hi]
/-- what a heap holds where nothing of ours stands may change -/
theorem Rel.poke {p : Addr} {o : HO} (R : Rel K mg G F ρ σ H) (g : G p = none) (f : F p = none) (n : NoCel ρ p) (hl : H p = none ∨ ∃ vs, H p = some (.lst vs)) : Rel K mg G F ρ σ (upd H p o) := by
  refine ⟨fun b u q => ?_, fun b u q => ?_, R.len, fun i s e => ?_, R.sep, R.gt, R.ft, R.tb.upd hl⟩
  · have hb : b ≠ p := by rintro rfl; rw [g] at q; cases q
    rw [upd_ne hb]; exact R.gh _ _ q
  · have hb : b ≠ p := by rintro rfl; rw [f] at q; cases q
    rw [upd_ne hb]; exact R.fh _ _ q
  · have so := R.slot i s e
    cases s with
    | un => trivial
    | dat d => exact so
    | cel a ds =>
      obtain ⟨e1, vs, ha, r, ga, fa⟩ := so
      have hb : a ≠ p := by rintro rfl; exact n _ _ e
      exact ⟨e1, vs, by rw [upd_ne hb]; exact ha, r, ga, fa⟩
theorem Rel.holds {p : Addr} {o : HO} (R : Rel K mg G F ρ σ H) (hp : H p = some o) (n : NoCel ρ p) (ho : ∀ ps, o ≠ .tbl ps := by intro _ z; cases z) : Rel K mg G (upd F p o) ρ σ H := by
  refine R.frame (fun b u q => ?_) (fun i a ds e => ?_) (R.ft.upd ho)
  · by_cases hb : b = p
    · subst hb; rw [upd_same] at q; cases q; exact hp
    · rw [upd_ne hb] at q; exact R.fh _ _ q
  · obtain ⟨_, _, _, _, _, fa⟩ := R.slot i _ e
    have hb : a ≠ p := by rintro rfl; exact n _ _ e
    rw [upd_ne hb]; exact fa
theorem Rel.lets {p : Addr} {o : HO} (R : Rel K mg G (upd F p o) ρ σ H) (f : F p = none) : Rel K mg G F ρ σ H ∧ NoCel ρ p ∧ H p = some o := by
  have n : NoCel ρ p := fun i ds e => by
    obtain ⟨_, _, _, _, _, fa⟩ := R.slot i _ e
    rw [upd_same] at fa; cases fa
  have nf : NoTb F := fun b ps e => R.ft b ps (by
    have hb : b ≠ p := by rintro rfl; rw [f] at e; cases e
    rw [upd_ne hb]; exact e)
  refine ⟨R.frame (fun b u q => R.fh b u ?_) (fun i a ds e => ?_) nf, n, R.fh _ _ upd_same⟩
  · have hb : b ≠ p := by rintro rfl; rw [f] at q; cases q
    rw [upd_ne hb]; exact q
  · obtain ⟨_, _, _, _, _, fa⟩ := R.slot i _ e
    have hb : a ≠ p := by rintro rfl; exact n _ _ e
    rw [upd_ne hb] at fa; exact fa
theorem Ext.lets {G' : Hp} {p : Addr} {o : HO} (e : Ext (upd F p o) G G') (f : F p = none) : Ext F G G' ∧ G' p = G p :=
  ⟨e.less (Same.upd' f), e.fr p (by rw [upd_same]; simp)⟩
theorem exits0 {X : ED} (h : ∀ x, ¬ X x) : Exits K mg E F X := fun x _ _ hx => (h x hx).elim
theorem tF_comp {wi : DA} {g : GW} {tt : TW} {te : DW} {vs is : List Nat} {E' : XK} {Q : VK} (hv : wipeAll is vs) (h : tF K mg E (fComp wi g tt te vs) σ H Q) :
    tLc (tI K mg E wi) (tGr K mg is g) (tT K mg E' tt) (tE K mg E' te) vs σ H Q := by
  obtain ⟨G, F, ρ, X, P, R, ex, hw, q⟩ := h
  refine ⟨G, F, ρ, X, _, R, ex, hw, fun ds ρ1 H1 G1 J ⟨nc, hl, p⟩ sg1 R1 it => ?_⟩
  intro Dp hD
  have fD : F Dp = none := R1.fh.free hD
  refine ⟨fun i m H => m = ds.length - i ∧ i ≤ ds.length ∧ ∃ G2 ρ2 acc ws, Ext F G1 G2 ∧ Rel K mg G2 F ρ2 (wipe σ vs) H ∧ H Dp = some (.lst ws) ∧ RepL K mg G2 acc ws ∧ G2 Dp = none ∧ NoCel ρ2 Dp ∧ acc.length ≤ i ∧
      compL g tt te vs (ds.drop i) acc ρ2 fun acc ρ2 => P acc (restore ρ1 ρ2 vs), ⟨ds.length, by simp, Nat.zero_le _, G1, wipeS ρ1 vs, [], [], Ext.refl, ?_, upd_same, RepL.nil, R1.gh.free hD, ?_, Nat.le_refl _, by simpa using p⟩, ?_⟩
  · exact (R1.wipe vs).poke (R1.gh.free hD) fD (fun i es e => by
      by_cases hi : i ∈ vs
      · have := wipeS_in hi e; cases this
      · rw [wipeS_out hi] at e; exact noCel_new R1 hD i es e) (.inl hD)
  · intro i es e
    by_cases hi : i ∈ vs
    · have := wipeS_in hi e; cases this
    · rw [wipeS_out hi] at e; exact noCel_new R1 hD i es e
  · rintro i m H2 ⟨em, hi, G2, ρ2, acc, ws, sg2, R2, hDp, ra, gD, nD, hal, c⟩
    have it2 : ∀ H, Same G2 H → Same G1 H := fun H s => sg2.gg.trans s
    by_cases hlt : i < ds.length
    · refine .inr ⟨it.go i H2 hlt (it2 _ R2.gh), fun H' => ∃ m', m' < m ∧ (m' = ds.length - (i + 1) ∧ i + 1 ≤ ds.length ∧ ∃ G2 ρ2 acc ws, Ext F G1 G2 ∧ Rel K mg G2 F ρ2 (wipe σ vs) H' ∧ H' Dp = some (.lst ws) ∧ RepL K mg G2 acc ws ∧ G2 Dp = none ∧ NoCel ρ2 Dp ∧ acc.length ≤ i + 1 ∧
        compL g tt te vs (ds.drop (i + 1)) acc ρ2 fun acc ρ2 => P acc (restore ρ1 ρ2 vs)), fun H' n => n, fun x H3 y => ?_⟩
      obtain ⟨d, G3, ed, gr, rd⟩ := it.yld i H2 x H3 G2 hlt sg2.gg R2.gh y
      have edr : ds.drop i = d :: ds.drop (i + 1) := by
        rw [List.drop_eq_getElem_cons hlt]
        congr 1
        exact (List.getElem?_eq_some_iff.mp ed).2
      rw [edr] at c
      have R3 := R2.grow gr
      have hD3 := gr.hh _ _ hDp
      have gD3 : G3 Dp = none := by rw [gr.old _ (by rw [hDp]; simp)]; exact gD
      have ra3 := RepL.mono gr.gg _ _ ra
      have sg3 := sg2.trans (gr.ext R2.fh)
      have key : ∀ {ρ4 : List SV} {σ4 : L2.St} {H4 G4 : Hp}, Rel K mg G4 (upd F Dp (.lst ws)) ρ4 σ4 H4 → wipe σ4 vs = wipe σ vs → Ext (upd F Dp (.lst ws)) G3 G4 →
          compL g tt te vs (ds.drop (i + 1)) acc (wipeS ρ4 vs) (fun acc ρ2 => P acc (restore ρ1 ρ2 vs)) →
          ∃ m', m' < m ∧ (m' = ds.length - (i + 1) ∧ i + 1 ≤ ds.length ∧ ∃ G2 ρ2 acc ws, Ext F G1 G2 ∧ Rel K mg G2 F ρ2 (wipe σ vs) H4 ∧ H4 Dp = some (.lst ws) ∧ RepL K mg G2 acc ws ∧ G2 Dp = none ∧ NoCel ρ2 Dp ∧ acc.length ≤ i + 1 ∧
            compL g tt te vs (ds.drop (i + 1)) acc ρ2 fun acc ρ2 => P acc (restore ρ1 ρ2 vs)) := fun {ρ4 σ4 H4 G4} R4 hw4 e4 c4 => by
        obtain ⟨R5, n5, h5⟩ := R4.lets fD
        obtain ⟨e5, g5⟩ := e4.lets fD
        refine ⟨_, by omega, rfl, hlt, G4, wipeS ρ4 vs, acc, ws, sg3.trans e5, hw4 ▸ R5.wipe vs, h5, RepL.mono e4.gg _ _ ra3, by rw [g5]; exact gD3, fun j es e => ?_, by omega, c4⟩
        by_cases hj : j ∈ vs
        · have := wipeS_in hj e; cases this
        · rw [wipeS_out hj] at e; exact n5 j es e
      refine ⟨G3, upd F Dp (.lst ws), ρ2, d, _, R3.holds hD3 nD, rd, c, fun ρ4 σ4 c4 R4 hw4 => ⟨by rw [hw4 vs hv]; exact (wipe_idem σ vs), ?_⟩⟩
      have hw4' : wipe σ4 vs = wipe σ vs := by rw [hw4 vs hv]; exact (wipe_idem σ vs)
      refine ⟨G3, upd F Dp (.lst ws), ρ4, fun _ => False, _, R4, exits0 fun _ h => h, c4, fun b ρ5 H5 G5 c5 e5 R5 => ?_⟩
      by_cases hb : b = true
      · rw [if_pos hb] at c5 ⊢
        refine ⟨G5, upd F Dp (.lst ws), ρ5, fun _ => False, _, R5, exits0 fun _ h => h, c5, fun z ρ6 y H6 G6 c6 e6 R6 rz => ?_⟩
        obtain ⟨R7, n7, h7⟩ := R6.lets fD
        obtain ⟨e7, g7⟩ := (e5.trans e6).lets fD
        have gD6 : G6 Dp = none := by rw [g7]; exact gD3
        refine ⟨ws, h7, ?_, _, ?_, rfl, hlt, G6, wipeS ρ6 vs, acc ++ [z], ws ++ [y], sg3.trans e7, ?_, upd_same, RepL.app (RepL.mono (e5.trans e6).gg _ _ ra3) (RepL.cons rz RepL.nil), gD6, ?_, ?_, c6⟩
        · rw [← ra.length, sizeLine_eq]; omega
        · omega
        · rw [← hw4']
          refine (R7.wipe vs).poke gD6 fD (fun j es e => ?_) (.inr ⟨_, h7⟩)
          by_cases hj : j ∈ vs
          · have := wipeS_in hj e; cases this
          · rw [wipeS_out hj] at e; exact n7 j es e
        · intro j es e
          by_cases hj : j ∈ vs
          · have := wipeS_in hj e; cases this
          · rw [wipeS_out hj] at e; exact n7 j es e
        · rw [List.length_append, List.length_singleton]; omega
      · rw [if_neg hb] at c5 ⊢
        exact key R5 hw4' e5 c5
    · have ei : i = ds.length := by omega
      subst ei
      refine .inl ⟨it.stop H2 (it2 _ R2.gh), ?_⟩
      rw [List.drop_length] at c
      exact q acc _ Dp ws H2 G2 c (sg1.trans sg2) (R2.restore R1 sg2 (noCelB_at nc)) hDp ra gD fD fun j es e => by
        by_cases hj : j ∈ vs
        · rw [restore_in (by rw [← R1.len, ← R2.len, wipe_length]) hj] at e
          exact noCelB_at nc j hj _ _ e
        · rw [restore_out hj] at e; exact nD j es e
end
end DL
set_option Elab.async false
set_option linter.all false
set_option maxRecDepth 100000
set_option maxHeartbeats 1000000
namespace DL
open PySem PySem.Spec PyProof.Rows L2

/-! ### statements -/
def sSkip : SW := fun _ ρ O => O.nx ρ
def sSeq (a b : SW) : SW := fun X ρ O => a X ρ { O with nx := fun ρ1 => b X ρ1 O }
def sIf (t : TW) (a b : SW) : SW := fun X ρ O => t X ρ fun k ρ1 => if k = true then a X ρ1 O else b X ρ1 O
def sRet (w : DW) : SW := fun X ρ O => w X ρ fun d ρ1 => O.rt d ρ1
def sRetN : SW := fun _ ρ O => O.rt .none ρ
def sExpr (w : BW) : SW := fun X ρ O => w X ρ fun _ ρ1 => O.nx ρ1
def sAsg (w : DW) (g : GW) : SW := fun X ρ O => w X ρ fun d ρ1 => g d ρ1 O.nx
def sSetC (i : Nat) (w : DA) : SW := fun X ρ O => w X ρ fun ds ρ1 => i < ρ1.length ∧ ∀ p, O.nx (ρ1.set i (.cel p ds))
def sBrk : SW := fun _ ρ O => O.bk ρ
def sCont : SW := fun _ ρ O => O.ct ρ
def sRaise (x : Str) : SW := fun X _ _ => X x
def sApp (i : Nat) (w : DW) : SW := fun X ρ O => match ρ[i]? with
  | some (.cel _ _) => w X ρ fun d ρ1 => match ρ1[i]? with
    | some (.cel a ds) => ds.length < 16777216 ∧ O.nx (ρ1.set i (.cel a (ds ++ [d])))
    | _ => False
  | _ => False
def sSetIx (i : Nat) (w : DW) (wi : BW) : SW := fun X ρ O => w X ρ fun d ρ1 => match ρ1[i]? with
  | some (.cel _ _) => wi X ρ1 fun x ρ2 => use x ρ2 fun e => match e with
    | .int k => match ρ2[i]? with
      | some (.cel a ds) => match ixN ds.length k with
        | some j => O.nx (ρ2.set i (.cel a (ds.set j d)))
        | none => False
      | _ => False
    | _ => False
  | _ => False
def forL (g : GW) (b : SW) (X : ED) : List D → List SV → OW → Prop
  | [], ρ, O => O.nx ρ
  | d :: ds, ρ, O => g d ρ fun ρ1 => b X ρ1 { nx := fun ρ2 => forL g b X ds ρ2 O, ct := fun ρ2 => forL g b X ds ρ2 O, bk := O.nx, rt := O.rt }
def sFor (w : DA) (g : GW) (b : SW) : SW := fun X ρ O => w X ρ fun ds ρ1 => forL g b X ds ρ1 O
def whileN (t : TW) (b : SW) (X : ED) : Nat → List SV → OW → Prop
  | 0, _, _ => False
  | n + 1, ρ, O => t X ρ fun k ρ1 => if k = true then b X ρ1 { nx := fun ρ2 => whileN t b X n ρ2 O, ct := fun ρ2 => whileN t b X n ρ2 O, bk := O.nx, rt := O.rt } else O.nx ρ1
def sWhile (t : TW) (b : SW) : SW := fun X ρ O => ∃ n, whileN t b X n ρ O

section
variable {K : PySem.W.Frag} {mg : Str → Option Value} {E : XK} {σ : L2.St} {H : Hp} {Dn : Ends}
theorem Meets.imp {G F : Hp} {O O' : OW} {Dn Dn' : Ends} (h : Meets K mg G F O Dn) (a : ∀ ρ, O'.nx ρ → O.nx ρ) (b : ∀ d ρ, O'.rt d ρ → O.rt d ρ) (c : ∀ ρ, O'.bk ρ → O.bk ρ) (d : ∀ ρ, O'.ct ρ → O.ct ρ) : Meets K mg G F O' Dn :=
  ⟨fun ρ σ H G' p => h.nx ρ σ H G' (a _ p), fun z ρ σ v H G' p => h.rt z ρ σ v H G' (b _ _ p), fun ρ σ H G' p => h.bk ρ σ H G' (c _ p), fun ρ σ H G' p => h.ct ρ σ H G' (d _ p)⟩
theorem Meets.up {G G' F : Hp} {O : OW} (h : Meets K mg G F O Dn) (e : Ext F G G') : Meets K mg G' F O Dn :=
  ⟨fun ρ σ H G2 p s => h.nx ρ σ H G2 p (e.trans s), fun z ρ σ v H G2 p s => h.rt z ρ σ v H G2 p (e.trans s), fun ρ σ H G2 p s => h.bk ρ σ H G2 p (e.trans s), fun ρ σ H G2 p s => h.ct ρ σ H G2 p (e.trans s)⟩
theorem tS_skip (h : tS K mg E sSkip Dn σ H) : tNext Dn σ H := by
  obtain ⟨G, F, ρ, X, O, R, ex, hw, m⟩ := h
  exact m.nx ρ σ H G hw Ext.refl R
theorem tS_seq {a b : SW} (h : tS K mg E (sSeq a b) Dn σ H) : tSeq (tS K mg E a) (tS K mg E b) Dn σ H := by
  obtain ⟨G, F, ρ, X, O, R, ex, hw, m⟩ := h
  refine ⟨G, F, ρ, X, _, R, ex, hw, ⟨fun ρ1 σ1 H1 G1 p s1 R1 => ⟨G1, F, ρ1, X, O, R1, ex, p, m.up s1⟩, m.rt, m.bk, m.ct⟩⟩
theorem tS_if {t : TW} {a b : SW} (h : tS K mg E (sIf t a b) Dn σ H) : tIfS (tT K mg E t) (tS K mg E a) (tS K mg E b) Dn σ H := by
  obtain ⟨G, F, ρ, X, O, R, ex, hw, m⟩ := h
  refine ⟨G, F, ρ, X, _, R, ex, hw, fun k ρ1 H1 G1 p s1 R1 => ?_⟩
  by_cases hk : k = true
  · rw [if_pos hk] at p ⊢
    exact ⟨G1, F, ρ1, X, O, R1, ex, p, m.up s1⟩
  · rw [if_neg hk] at p ⊢
    exact ⟨G1, F, ρ1, X, O, R1, ex, p, m.up s1⟩
theorem tS_ret {w : DW} (h : tS K mg E (sRet w) Dn σ H) : tRet (tE K mg E w) Dn σ H := by
  obtain ⟨G, F, ρ, X, O, R, ex, hw, m⟩ := h
  exact ⟨G, F, ρ, X, _, R, ex, hw, fun d ρ1 v H1 G1 p s1 R1 r => m.rt d ρ1 σ v H1 G1 p s1 R1 r⟩
theorem tS_retN (h : tS K mg E sRetN Dn σ H) : tRetN Dn σ H := by
  obtain ⟨G, F, ρ, X, O, R, ex, hw, m⟩ := h
  exact m.rt .none ρ σ .non H G hw Ext.refl R rep_non
theorem tS_expr {w : BW} (h : tS K mg E (sExpr w) Dn σ H) : tDrop (tB K mg E w) Dn σ H := by
  obtain ⟨G, F, ρ, X, O, R, ex, hw, m⟩ := h
  exact ⟨G, F, ρ, X, _, R, ex, hw, fun b ρ1 v H1 G1 p s1 R1 _ => m.nx ρ1 σ H1 G1 p s1 R1⟩
theorem tS_brk (h : tS K mg E sBrk Dn σ H) : tBreak Dn σ H := by
  obtain ⟨G, F, ρ, X, O, R, ex, hw, m⟩ := h
  exact m.bk ρ σ H G hw Ext.refl R
theorem tS_cont (h : tS K mg E sCont Dn σ H) : tCont Dn σ H := by
  obtain ⟨G, F, ρ, X, O, R, ex, hw, m⟩ := h
  exact m.ct ρ σ H G hw Ext.refl R
theorem tS_asg {w : DW} {g : GW} {is : List Nat} (h : tS K mg E (sAsg w g) Dn σ H) : tAsg (tE K mg E w) (tGr K mg is g) Dn σ H := by
  obtain ⟨G, F, ρ, X, O, R, ex, hw, m⟩ := h
  exact ⟨G, F, ρ, X, _, R, ex, hw, fun d ρ1 v H1 G1 p s1 R1 r => ⟨G1, F, ρ1, d, _, R1, r, p, fun ρ2 σ2 p2 R2 _ => m.nx ρ2 σ2 H1 G1 p2 s1 R2⟩⟩
theorem tS_setC {i : Nat} {w : DA} (h : tS K mg E (sSetC i w) Dn σ H) : tAsg (tF K mg E w) (gName i) Dn σ H := by
  obtain ⟨G, F, ρ, X, O, R, ex, hw, m⟩ := h
  exact ⟨G, F, ρ, X, _, R, ex, hw, fun ds ρ1 p vs H1 G1 ⟨hi, pp⟩ s1 R1 hp r gp fp nc => m.nx _ _ H1 G1 (pp p) s1 (R1.putC hi hp r gp fp nc)⟩
theorem tS_app {i : Nat} {w : DW} (h : tS K mg E (sApp i w) Dn σ H) : tDrop (tBM K "list" rAppend (tVar i) (tCons (tE K mg E w) tNil)) Dn σ H := by
  obtain ⟨G, F, ρ, X, O, R, ex, hw, m⟩ := h
  unfold sApp at hw
  cases hs : ρ[i]? with
  | none => rw [hs] at hw; exact hw.elim
  | some s =>
    cases s with
    | un => rw [hs] at hw; exact hw.elim
    | dat d => rw [hs] at hw; exact hw.elim
    | cel a0 c0 =>
      rw [hs] at hw
      obtain ⟨e0, vs0, ha0, _⟩ := R.slot i _ hs
      refine ⟨.ref a0, e0, .inl ⟨rfl, _, .inl (.inl ha0)⟩, G, F, ρ, X, _, R, ex, hw, fun d ρ1 y H1 G1 p s1 R1 ry => ?_⟩
      cases hs1 : ρ1[i]? with
      | none => rw [hs1] at p; exact p.elim
      | some s' =>
        cases s' with
        | un => rw [hs1] at p; exact p.elim
        | dat d => rw [hs1] at p; exact p.elim
        | cel a ds =>
          rw [hs1] at p
          obtain ⟨e1, ws, ha, r, ga, fa⟩ := R1.slot i _ hs1
          rw [e0] at e1
          cases e1
          obtain ⟨l, p⟩ := p
          refine ⟨a0, ws, y, rfl, rfl, ha, by rw [← r.length, sizeLine_eq]; exact l, ?_⟩
          refine m.nx _ _ _ G1 p s1 (R1.recell (us' := ws ++ [y]) hs1 Ext.refl (fun b o q => ?_) (fun b o q => ?_) R1.gt (R1.tb.upd (.inr ⟨_, ha⟩)) upd_same ga (RepL.app r (RepL.cons ry RepL.nil)))
          · have hb : b ≠ a0 := by rintro rfl; rw [ga] at q; cases q
            rw [upd_ne hb]; exact R1.gh _ _ q
          · have hb : b ≠ a0 := by rintro rfl; rw [off_at] at q; cases q
            rw [off_ne hb] at q; replace q := nT_same _ _ _ q
            rw [upd_ne hb]; exact q
theorem tS_setIx {i : Nat} {w : DW} {wi : BW} (h : tS K mg E (sSetIx i w wi) Dn σ H) : tAsg (tE K mg E w) (L2.gSub (tVar i) (tB K mg E wi) rSetL) Dn σ H := by
  obtain ⟨G, F, ρ, X, O, R, ex, hw, m⟩ := h
  refine ⟨G, F, ρ, X, _, R, ex, hw, fun d ρ1 y H1 G1 p s1 R1 ry => ?_⟩
  cases hs : ρ1[i]? with
  | none => rw [hs] at p; exact p.elim
  | some s =>
    cases s with
    | un => rw [hs] at p; exact p.elim
    | dat d => rw [hs] at p; exact p.elim
    | cel a0 c0 =>
      rw [hs] at p
      obtain ⟨e0, vs0, ha0, _⟩ := R1.slot i _ hs
      refine ⟨.ref a0, e0, G1, F, ρ1, X, _, R1, ex, p, fun x ρ2 u H2 G2 p2 s2 R2 rx => ?_⟩
      obtain ⟨e, ee, p2⟩ := use_res p2
      have rh := rx.res R2 ee
      cases e with
      | int k =>
        have eu := rh.int
        subst eu
        dsimp only at p2
        cases hs1 : ρ2[i]? with
        | none => rw [hs1] at p2; exact p2.elim
        | some s' =>
          cases s' with
          | un => rw [hs1] at p2; exact p2.elim
          | dat d => rw [hs1] at p2; exact p2.elim
          | cel a ds =>
            rw [hs1] at p2
            obtain ⟨e1, ws, ha, r, ga, fa⟩ := R2.slot i _ hs1
            rw [e0] at e1
            cases e1
            dsimp only at p2
            cases hj : ixN ds.length k with
            | none => rw [hj] at p2; exact p2.elim
            | some j =>
              rw [hj] at p2
              refine ⟨a0, ws, k, j, rfl, rfl, ha, by rw [← r.length]; exact hj, ?_⟩
              refine m.nx _ _ _ G2 p2 (s1.trans s2) (R2.recell (us' := ws.set j y) hs1 Ext.refl (fun b o q => ?_) (fun b o q => ?_) R2.gt (R2.tb.upd (.inr ⟨_, ha⟩)) upd_same ga (RepL.set (Rep.mono s2.gg _ _ ry) j r))
              · have hb : b ≠ a0 := by rintro rfl; rw [ga] at q; cases q
                rw [upd_ne hb]; exact R2.gh _ _ q
              · have hb : b ≠ a0 := by rintro rfl; rw [off_at] at q; cases q
                rw [off_ne hb] at q; replace q := nT_same _ _ _ q
                rw [upd_ne hb]; exact q
      | _ => exact p2.elim
theorem tS_for {w : DA} {g : GW} {b : SW} {is : List Nat} (h : tS K mg E (sFor w g b) Dn σ H) : tFor (tI K mg E w) (tGr K mg is g) (tS K mg E b) Dn σ H := by
  obtain ⟨G, F, ρ, X, O, R, ex, hw, m⟩ := h
  refine ⟨G, F, ρ, X, _, R, ex, hw, fun ds ρ1 H1 G1 J p sg1 R1 it => ?_⟩
  refine ⟨fun i k σ2 H2 => k = ds.length - i ∧ i ≤ ds.length ∧ ∃ G2 ρ2, Ext F G1 G2 ∧ Rel K mg G2 F ρ2 σ2 H2 ∧ forL g b X (ds.drop i) ρ2 O, ⟨ds.length, by simp, Nat.zero_le _, G1, ρ1, Ext.refl, R1, by simpa using p⟩, ?_⟩
  rintro i k σ2 H2 ⟨ek, hi, G2, ρ2, sg2, R2, c⟩
  by_cases hlt : i < ds.length
  · refine .inr ⟨it.go i H2 hlt (sg2.gg.trans R2.gh), fun σ' H' => ∃ k', k' < k ∧ (k' = ds.length - (i + 1) ∧ i + 1 ≤ ds.length ∧ ∃ G2 ρ2, Ext F G1 G2 ∧ Rel K mg G2 F ρ2 σ' H' ∧ forL g b X (ds.drop (i + 1)) ρ2 O), fun σ' H' n => n, fun x H3 y => ?_⟩
    obtain ⟨d, G3, ed, gr, rd⟩ := it.yld i H2 x H3 G2 hlt sg2.gg R2.gh y
    have edr : ds.drop i = d :: ds.drop (i + 1) := by
      rw [List.drop_eq_getElem_cons hlt]
      congr 1
      exact (List.getElem?_eq_some_iff.mp ed).2
    rw [edr] at c
    have R3 := R2.grow gr
    have sg3 := sg2.trans (gr.ext R2.fh)
    refine ⟨G3, F, ρ2, d, _, R3, rd, c, fun ρ4 σ4 c4 R4 _ => ⟨G3, F, ρ4, X, _, R4, ex, c4, ⟨fun ρ5 σ5 H5 G5 c5 e5 R5 => ?_, fun z ρ5 σ5 v H5 G5 c5 e5 R5 r5 => ?_, fun ρ5 σ5 H5 G5 c5 e5 R5 => ?_, fun ρ5 σ5 H5 G5 c5 e5 R5 => ?_⟩⟩⟩
    · exact ⟨_, by omega, rfl, hlt, G5, ρ5, sg3.trans e5, R5, c5⟩
    · exact m.rt z ρ5 σ5 v H5 G5 c5 ((sg1.trans sg3).trans e5) R5 r5
    · exact m.nx ρ5 σ5 H5 G5 c5 ((sg1.trans sg3).trans e5) R5
    · exact ⟨_, by omega, rfl, hlt, G5, ρ5, sg3.trans e5, R5, c5⟩
  · have ei : i = ds.length := by omega
    subst ei
    rw [List.drop_length] at c
    exact .inl ⟨it.stop H2 (sg2.gg.trans R2.gh), m.nx ρ2 σ2 H2 G2 c (sg1.trans sg2) R2⟩
theorem tS_while {t : TW} {b : SW} (h : tS K mg E (sWhile t b) Dn σ H) : tWhile (tT K mg E t) (tS K mg E b) Dn σ H := by
  obtain ⟨G, F, ρ, X, O, R, ex, ⟨n, hw⟩, m⟩ := h
  refine ⟨fun k σ2 H2 => ∃ G2 ρ2, Ext F G G2 ∧ Rel K mg G2 F ρ2 σ2 H2 ∧ whileN t b X k ρ2 O, ⟨n, G, ρ, Ext.refl, R, hw⟩, ?_⟩
  rintro k σ2 H2 ⟨G2, ρ2, sg2, R2, c⟩
  cases k with
  | zero => exact c.elim
  | succ k =>
    refine ⟨G2, F, ρ2, X, _, R2, ex, c, fun j ρ3 H3 G3 c3 s3 R3 => ?_⟩
    by_cases hj : j = true
    · rw [if_pos hj] at c3 ⊢
      refine ⟨fun σ' H' => ∃ k', k' < k + 1 ∧ ∃ G2 ρ2, Ext F G G2 ∧ Rel K mg G2 F ρ2 σ' H' ∧ whileN t b X k' ρ2 O, fun σ' H' n => n, G3, F, ρ3, X, _, R3, ex, c3,
        ⟨fun ρ5 σ5 H5 G5 c5 e5 R5 => ⟨k, by omega, G5, ρ5, (sg2.trans s3).trans e5, R5, c5⟩, fun z ρ5 σ5 v H5 G5 c5 e5 R5 r5 => m.rt z ρ5 σ5 v H5 G5 c5 ((sg2.trans s3).trans e5) R5 r5,
          fun ρ5 σ5 H5 G5 c5 e5 R5 => m.nx ρ5 σ5 H5 G5 c5 ((sg2.trans s3).trans e5) R5, fun ρ5 σ5 H5 G5 c5 e5 R5 => ⟨k, by omega, G5, ρ5, (sg2.trans s3).trans e5, R5, c5⟩⟩⟩
    · rw [if_neg hj] at c3 ⊢
      exact m.nx ρ3 σ2 H3 G3 c3 (sg2.trans s3) R3
/-- raise X(..) -/
theorem tS_raise {x : Str} {C : Addr} {W : WX} (hm : mg x = some (.ref C)) (hW : ∀ σ H, E (.ref C) none H → W (.ref C) none σ H) (h : tS K mg E (sRaise x) Dn σ H) : W (.ref C) none σ H := by
  obtain ⟨G, F, ρ, X, O, R, ex, hw, m⟩ := h
  exact hW σ H (ex x C H hw hm R.fh R.tb)
end
/-! ### two or three targets at once -/
abbrev PIW := ED → List SV → (List SV → List SV → Prop) → Prop
def pNil : PIW := fun _ ρ P => P [] ρ
def pO (w : DW) (r : PIW) : PIW := fun X ρ P => w X ρ fun d ρ1 => r X ρ1 fun ss ρ2 => P (.dat d :: ss) ρ2
def pF (w : DA) (r : PIW) : PIW := fun X ρ P => w X ρ fun ds ρ1 => ∀ p, r X ρ1 fun ss ρ2 => P (.cel p ds :: ss) ρ2
def putAll : List Nat → List SV → List SV → (List SV → Prop) → Prop
  | [], [], ρ, P => P ρ
  | i :: is, s :: ss, ρ, P => i < ρ.length ∧ putAll is ss (ρ.set i s) P
  | _, _, _, _ => False
def sPar (is : List Nat) (w : PIW) : SW := fun X ρ O => w X ρ fun ss ρ1 => putAll is ss ρ1 O.nx
section
variable (K : PySem.W.Frag) (mg : Str → Option Value)
/-- values not yet stored: the new lists among them stand apart -/
def RepSVs (G F H : Hp) (ρ : List SV) : List SV → List V → Prop
  | [], vs => vs = []
  | .un :: _, _ => False
  | .dat d :: ss, vs => ∃ v ws, vs = v :: ws ∧ Rep K mg G d v ∧ RepSVs G F H ρ ss ws
  | .cel p ds :: ss, vs => ∃ us ws, vs = .ref p :: ws ∧ H p = some (.lst us) ∧ RepL K mg G ds us ∧ G p = none ∧ F p = none ∧ NoCel ρ p ∧ (∀ es, SV.cel p es ∉ ss) ∧ RepSVs G F H ρ ss ws
def tPI (E : XK) (w : PIW) : TA := fun σ H Q => ∃ (G F : Hp) (ρ : List SV) (X : ED) (P : List SV → List SV → Prop), Rel K mg G F ρ σ H ∧ Exits K mg E F X ∧ w X ρ P ∧
  ∀ ss ρ' vs H' G', P ss ρ' → Ext F G G' → Rel K mg G' F ρ' σ H' → RepSVs K mg G' F H' ρ' ss vs → Q vs H'
end
section
variable {K : PySem.W.Frag} {mg : Str → Option Value} {E : XK} {σ : L2.St} {G F H : Hp} {ρ : List SV} {Dn : Ends}
theorem RepSVs.lets {p : Addr} {o : HO} (fp : F p = none) : ∀ {ss : List SV} {vs : List V}, RepSVs K mg G (upd F p o) H ρ ss vs → RepSVs K mg G F H ρ ss vs ∧ ∀ es, SV.cel p es ∉ ss
  | [], _, h => ⟨h, fun _ => nofun⟩
  | .un :: _, _, h => h.elim
  | .dat d :: ss, vs, h => by
    obtain ⟨v, ws, e, r, t⟩ := h
    obtain ⟨t', n⟩ := RepSVs.lets fp t
    exact ⟨⟨v, ws, e, r, t'⟩, fun es hm => by
      rcases List.mem_cons.mp hm with z | z
      · cases z
      · exact n es z⟩
  | .cel q ds :: ss, vs, h => by
    obtain ⟨us, ws, e, hq, r, gq, fq, nq, np, t⟩ := h
    obtain ⟨t', n⟩ := RepSVs.lets fp t
    have hne : q ≠ p := by rintro rfl; rw [upd_same] at fq; cases fq
    rw [upd_ne hne] at fq
    exact ⟨⟨us, ws, e, hq, r, gq, fq, nq, np, t'⟩, fun es hm => by
      rcases List.mem_cons.mp hm with z | z
      · cases z; exact hne rfl
      · exact n es z⟩
theorem tPI_nil {Q : List V → Hp → Prop} (h : tPI K mg E pNil σ H Q) : tNil σ H Q := by
  obtain ⟨G, F, ρ, X, P, R, ex, hw, q⟩ := h
  exact q [] ρ [] H G hw Ext.refl R rfl
theorem tPI_o {w : DW} {r : PIW} {Q : List V → Hp → Prop} (h : tPI K mg E (pO w r) σ H Q) : tCons (tE K mg E w) (tPI K mg E r) σ H Q := by
  obtain ⟨G, F, ρ, X, P, R, ex, hw, q⟩ := h
  exact ⟨G, F, ρ, X, _, R, ex, hw, fun d ρ1 v H1 G1 p s1 R1 rv => ⟨G1, F, ρ1, X, _, R1, ex, p, fun ss ρ2 vs H2 G2 p2 s2 R2 rs => q _ _ _ H2 G2 p2 (s1.trans s2) R2 ⟨v, vs, rfl, Rep.mono s2.gg _ _ rv, rs⟩⟩⟩
theorem tPI_f {w : DA} {r : PIW} {Q : List V → Hp → Prop} (h : tPI K mg E (pF w r) σ H Q) : tCons (tF K mg E w) (tPI K mg E r) σ H Q := by
  obtain ⟨G, F, ρ, X, P, R, ex, hw, q⟩ := h
  refine ⟨G, F, ρ, X, _, R, ex, hw, fun ds ρ1 p us H1 G1 c s1 R1 hp rl gp fp nc => ?_⟩
  have sF : Same F (upd F p (.lst us)) := Same.upd' fp
  refine ⟨G1, upd F p (.lst us), ρ1, X, _, R1.holds hp nc, ex.up sF, c p, fun ss ρ2 vs H2 G2 c2 s2 R2 rs => ?_⟩
  obtain ⟨R3, n3, h3⟩ := R2.lets fp
  obtain ⟨e3, g3⟩ := s2.lets fp
  obtain ⟨rs', np⟩ := RepSVs.lets fp rs
  exact q _ _ _ H2 G2 c2 (s1.trans e3) R3 ⟨us, vs, rfl, h3, RepL.mono s2.gg _ _ rl, by rw [g3]; exact gp, fp, n3, np, rs'⟩
theorem noCel_set {p : Addr} {i : Nat} {s : SV} (n : NoCel ρ p) (h : ∀ es, s ≠ .cel p es) : NoCel (ρ.set i s) p := fun j es e => by
  by_cases hij : i = j
  · subst hij
    have hl : i < ρ.length := by have := (List.getElem?_eq_some_iff.mp e).1; rwa [List.length_set] at this
    rw [List.getElem?_set_self hl] at e
    cases e
    exact h _ rfl
  · rw [List.getElem?_set_ne hij] at e; exact n j es e
theorem RepSVs.noc {p : Addr} {i : Nat} {s : SV} (h : ∀ es, s = .cel p es → False) : True := trivial
theorem putAll_ok : ∀ {is : List Nat} {ss : List SV} {vs : List V} {ρ : List SV} {σ : L2.St} {P : List SV → Prop}, Rel K mg G F ρ σ H → RepSVs K mg G F H ρ ss vs → putAll is ss ρ P →
    ∃ ρ', P ρ' ∧ vs.length = is.length ∧ Rel K mg G F ρ' ((is.zip vs).foldl (fun σ iv => σ.set iv.1 (some iv.2)) σ) H
  | [], [], vs, ρ, σ, P, R, r, h => by
    have e : vs = [] := r
    subst e
    exact ⟨ρ, h, rfl, R⟩
  | [], _ :: _, _, _, _, _, _, _, h => h.elim
  | _ :: _, [], _, _, _, _, _, _, h => h.elim
  | i :: is, .un :: ss, vs, ρ, σ, P, R, r, h => r.elim
  | i :: is, .dat d :: ss, vs, ρ, σ, P, R, r, ⟨hi, h⟩ => by
    obtain ⟨v, ws, e, rv, rs⟩ := r
    subst e
    have carry : ∀ {ss : List SV} {ws : List V}, RepSVs K mg G F H ρ ss ws → RepSVs K mg G F H (ρ.set i (.dat d)) ss ws := by
      intro ss
      induction ss with
      | nil => intro ws h; exact h
      | cons s ss ih =>
        intro ws h
        cases s with
        | un => exact h.elim
        | dat d' => obtain ⟨v, us, e, r, t⟩ := h; exact ⟨v, us, e, r, ih t⟩
        | cel p ds => obtain ⟨us, w2, e, hq, r, gq, fq, nq, np, t⟩ := h; exact ⟨us, w2, e, hq, r, gq, fq, noCel_set nq (fun es z => nomatch z), np, ih t⟩
    obtain ⟨ρ', p', l, R'⟩ := putAll_ok (R.put hi rv) (carry rs) h
    exact ⟨ρ', p', by rw [List.length_cons, List.length_cons, l], R'⟩
  | i :: is, .cel q ds :: ss, vs, ρ, σ, P, R, r, ⟨hi, h⟩ => by
    obtain ⟨us, ws, e, hq, rl, gq, fq, nq, np, rs⟩ := r
    subst e
    have carry : ∀ {ss : List SV} {ws : List V}, (∀ es, SV.cel q es ∉ ss) → RepSVs K mg G F H ρ ss ws → RepSVs K mg G F H (ρ.set i (.cel q ds)) ss ws := by
      intro ss
      induction ss with
      | nil => intro ws _ h; exact h
      | cons s ss ih =>
        intro ws hn h
        have hn' : ∀ es, SV.cel q es ∉ ss := fun es z => hn es (List.mem_cons_of_mem _ z)
        cases s with
        | un => exact h.elim
        | dat d' => obtain ⟨v, us, e, r, t⟩ := h; exact ⟨v, us, e, r, ih hn' t⟩
        | cel p ds' =>
          obtain ⟨us, w2, e, hq, r, gq, fq, nq, np, t⟩ := h
          exact ⟨us, w2, e, hq, r, gq, fq, noCel_set nq (fun es z => by cases z; exact hn ds' List.mem_cons_self), np, ih hn' t⟩
    obtain ⟨ρ', p', l, R'⟩ := putAll_ok (R.putC hi hq rl gq fq nq) (carry np rs) h
    exact ⟨ρ', p', by rw [List.length_cons, List.length_cons, l], R'⟩
theorem tS_par2 {i j : Nat} {w : PIW} (h : tS K mg E (sPar [i, j] w) Dn σ H) : tPar i j (tPI K mg E w) Dn σ H := by
  obtain ⟨G, F, ρ, X, O, R, ex, hw, m⟩ := h
  refine ⟨G, F, ρ, X, _, R, ex, hw, fun ss ρ1 vs H1 G1 p s1 R1 rs => ?_⟩
  obtain ⟨ρ', p', l, R'⟩ := putAll_ok R1 rs p
  match vs, l with
  | [v, w'], _ => exact ⟨v, w', rfl, m.nx ρ' _ H1 G1 p' s1 R'⟩
theorem tS_par3 {i j k : Nat} {w : PIW} (h : tS K mg E (sPar [i, j, k] w) Dn σ H) : tPar3 i j k (tPI K mg E w) Dn σ H := by
  obtain ⟨G, F, ρ, X, O, R, ex, hw, m⟩ := h
  refine ⟨G, F, ρ, X, _, R, ex, hw, fun ss ρ1 vs H1 G1 p s1 R1 rs => ?_⟩
  obtain ⟨ρ', p', l, R'⟩ := putAll_ok R1 rs p
  match vs, l with
  | [v, w', u], _ => exact ⟨v, w', u, rfl, m.nx ρ' _ H1 G1 p' s1 R'⟩
end
end DL
set_option Elab.async false
set_option linter.all false
set_option maxRecDepth 100000
set_option maxHeartbeats 1000000
namespace DL
open PySem PySem.Spec PyProof.Rows L2

/-! ### x * n, ranges, join, sorted -/
def gMulX : G2 := fun d e P => match d, e with
  | .int i, .int j => CMul i j ∧ P (.int (i * j))
  | .list a, .int k => 0 ≤ k ∧ k ≤ 1000 ∧ a.length ≤ 1000 ∧ P (.list (List.replicate k.toNat a).flatten)
  | .tuple a, .int k => a ≠ [] ∧ 2 ≤ k ∧ k ≤ 1000 ∧ a.length ≤ 1000 ∧ P (.tuple (List.replicate k.toNat a).flatten)
  | _, _ => False
section
variable {K : PySem.W.Frag} {mg : Str → Option Value} {G : Hp}
theorem RepL.rep {ds : List D} {vs : List V} (r : RepL K mg G ds vs) : ∀ n, RepL K mg G (List.replicate n ds).flatten (List.replicate n vs).flatten
  | 0 => RepL.nil
  | n + 1 => by
    rw [List.replicate_succ, List.flatten_cons, List.replicate_succ, List.flatten_cons]
    exact RepL.app r (RepL.rep r n)
theorem rep_len {α : Type} (l : List α) : ∀ n, (List.replicate n l).flatten.length = n * l.length
  | 0 => by simp
  | n + 1 => by rw [List.replicate_succ, List.flatten_cons, List.length_append, rep_len l n, Nat.succ_mul, Nat.add_comm]
end
section
variable {X : Cx}
def rMulL (K : PySem.W.Frag) : R2 := fun x y H Q => ∃ a xs k, x = V.ref a ∧ y = V.int k ∧ SqL K H a xs ∧ 0 ≤ k ∧ k ≤ 1000 ∧ xs.length ≤ 1000 ∧ ∀ p, H p = none → Q (.ref p) (upd H p (.lst (List.replicate k.toNat xs).flatten))
theorem vals_rep {xs : List V} {us : List Value} (r : Vals xs us) : ∀ n, Vals (List.replicate n xs).flatten (List.replicate n us).flatten
  | 0 => .nil
  | n + 1 => by
    rw [List.replicate_succ, List.flatten_cons, List.replicate_succ, List.flatten_cons]
    exact r.append (vals_rep r n)
theorem op_mulL : OpR X (binaryOp .Mult) (rMulL X.K) := by
  intro pins s σ H x y v u Q I rx ry ⟨a, xs, k, ex, ey, hs, h1, h2, h3, q⟩
  subst ex ey
  obtain rfl : v = Value.ref a := rx
  obtain ⟨t, rfl⟩ := ry
  obtain ⟨its, rv, ⟨⟨cl, od, data, slt⟩, n, ho, hc, hn, hd⟩, hlen⟩ := I.list hs
  obtain rfl : cl = Value.type "list" := hc
  obtain rfl : data = Data.seq its.toArray n := hd
  have hi : its.length = xs.length := rv.length.symm
  have sl := sizeLine_eq
  have few : k.toNat * xs.length ≤ 1000 * 1000 := Nat.mul_le_mul (by omega) h3
  have few2 : its.toArray.size * k.toNat ≤ 1000 * 1000 := by
    rw [List.size_toArray, hi, Nat.mul_comm]; exact few
  have out : (List.foldl (fun x1 x2 => x1 ++ x2) #[] (List.replicate (if its.toArray.isEmpty = true then 0 else k.toNat) its.toArray)) = (List.replicate k.toNat its).flatten.toArray := by
    by_cases he : its.toArray.isEmpty = true
    · rw [if_pos he]
      have e0 : its = [] := by simpa using he
      subst e0
      have z : ∀ n : Nat, (List.replicate n ([] : List Value)).flatten = [] := fun n => by induction n with
        | zero => rfl
        | succ n ih => rw [List.replicate_succ, List.flatten_cons, ih]; rfl
      rw [z]
      rfl
    · rw [if_neg he]; exact size_rep its _
  refine wpAny_binaryOp_repeat_ref (T := "list") (U := "int") (by decide) ⟨_, ho, rfl⟩ (fun s' => typeIs_int s' k t) noFill_list_mul F.fills_int_mul F.slot_int_rmul repeat_list F.slot_int_index.lookup
    (call_meets F.slot_int_rmul (typeIs_int s k t) F.entry_int_rmul (F.args_int_rmul_2 _ _) (lm_int_rmul_list_any k t a its.toArray n od slt)
      ⟨ho, rfl, ⟨_, ho, rfl⟩, call_meets F.slot_list_mul ⟨_, ho, rfl⟩ F.entry_list_mul (F.args_list_mul_2 _ _)
        (lm_list_mul_any a its.toArray n od slt k t (by simp [Builtin.List.listFitsIndex]; omega) (by omega) (by simp only [Builtin.List.listTooLong, decide_eq_true_eq]; omega)) ⟨ho, ?_⟩⟩)
  rw [out]
  refine ⟨.ref s.heap.objs.size, _, I.laid (t' := s.toks) (fun b o e => Heap.get?_push_of_some _ e) (Nat.le_refl _) (o := .lst (List.replicate k.toNat xs).flatten) ⟨?_, _, 0, vals_rep rv k.toNat, Heap.get?_push_size _ rfl⟩, rfl, q _ (I.hok.fresh (Nat.le_refl _))⟩
  rw [rep_len]; omega
theorem od_mulX : OpD X (binaryOp .Mult) gMulX := by
  intro pins s σ H x y v u Q I rx ry ⟨G, d, e, P, sg, hx, hy, g, q⟩
  unfold gMulX at g
  split at g
  · exact od_mul pins s σ H x y v u Q I rx ry ⟨G, _, _, P, sg, hx, hy, g, q⟩
  · obtain ⟨a, xs, ex, ha, r⟩ := hx.lst sg
    subst ex
    refine op_mulL pins s σ H _ y v u Q I rx ry ⟨a, xs, _, rfl, hy.int, .of ha, g.1, g.2.1, by rw [← r.length]; exact g.2.2.1, fun p hp => ?_⟩
    exact q _ _ _ _ g.2.2.2 (Grow.new sg hp) (rep_lst_new sg hp (r.rep _))
  · obtain ⟨a, xs, ex, ha, r⟩ := hx.tup sg
    subst ex
    refine op_repT pins s σ H _ y v u Q I rx ry ⟨a, _, xs, rfl, hy.int, .of ha, fun e => g.1 ?_, g.2.1, g.2.2.1, by rw [← r.length]; exact g.2.2.2.1, fun p hp => ?_⟩
    · subst e
      exact List.eq_nil_of_length_eq_zero r.length
    · exact q _ _ _ _ g.2.2.2.2 (Grow.new sg hp) (rep_tup_new sg hp (r.rep _))
  · exact g.elim
end
/-! ### list(range(n)), tuple(range(n)) -/
def fRng (w : BW) : DA := fun X ρ P => w X ρ fun x ρ1 => use x ρ1 fun d => match d with
  | .int n => -1000000 ≤ n ∧ n ≤ 1000000 ∧ P (rangeD n.toNat) ρ1
  | _ => False
def bTRng (w : BW) : BW := fun X ρ P => w X ρ fun x ρ1 => use x ρ1 fun d => match d with
  | .int n => -1000000 ≤ n ∧ n ≤ 1000000 ∧ P (.val (.tuple (rangeD n.toNat))) ρ1
  | _ => False
section
variable {K : PySem.W.Frag} {mg : Str → Option Value} {E : XK} {σ : L2.St} {H : Hp}
theorem rep_range {G : Hp} (n : Int) : RepL K mg G (rangeD n.toNat) (rgV 0 n) := by
  have e : rangeD n.toNat = ((List.range n.toNat).map fun (i : Nat) => (i : Int)).map PyData.int := by unfold rangeD; rw [List.map_map]; rfl
  have e2 : rgV 0 n = ((List.range n.toNat).map fun (i : Nat) => (i : Int)).map V.int := by
    unfold rgV
    rw [List.map_map, Int.sub_zero]
    apply List.map_congr_left
    intro i _
    simp
  rw [e, e2]
  exact RepL.of_ints _
theorem rg_ok {n : Int} (a : -1000000 ≤ n) (b : n ≤ 1000000) : RgOk 0 n := ⟨by omega, by omega, by omega, by omega, by omega⟩
theorem tF_rng {w : BW} {Q : VK} (h : tF K mg E (fRng w) σ H Q) : tLstRg (tRg1 (tB K mg E w)) σ H Q := by
  obtain ⟨G, F, ρ, X, P, R, ex, hw, q⟩ := h
  refine ⟨G, F, ρ, X, _, R, ex, hw, fun x ρ1 v H1 G1 pp s1 R1 rx => ?_⟩
  obtain ⟨d, ed, p⟩ := use_res pp
  have rd := rx.res R1 ed
  split at p
  · rename_i n
    refine ⟨n, rd.int, rg_ok p.1 p.2.1, fun z hz => ?_⟩
    exact q _ _ _ _ _ G1 p.2.2 s1 (R1.grow (Grow.loose R1.gh hz)) upd_same (rep_range n) (R1.gh.free hz) (R1.fh.free hz) (noCel_new R1 hz)
  · exact p.elim
theorem tB_trng {w : BW} {Q : VK} (h : tB K mg E (bTRng w) σ H Q) : tTupRg (tRg1 (tB K mg E w)) σ H Q := by
  obtain ⟨G, F, ρ, X, P, R, ex, hw, q⟩ := h
  refine ⟨G, F, ρ, X, _, R, ex, hw, fun x ρ1 v H1 G1 pp s1 R1 rx => ?_⟩
  obtain ⟨d, ed, p⟩ := use_res pp
  have rd := rx.res R1 ed
  split at p
  · rename_i n
    refine ⟨n, rd.int, rg_ok p.1 p.2.1, fun z hz => ?_⟩
    have gr := Grow.new (o := .tup (rgV 0 n)) R1.gh hz
    refine q _ _ _ _ _ p.2.2 (s1.trans (gr.ext R1.fh)) (R1.grow gr) ?_
    exact rep_tup_new R1.gh hz (rep_range n)
  · exact p.elim
/-! ### sep.join(x) -/
def strsD : D → Option (List Str)
  | .list ds => strsOf ds
  | .tuple ds => strsOf ds
  | _ => none
def bJoin (wo wa : BW) : BW := fun X ρ P => wo X ρ fun x ρ1 => use x ρ1 fun d => match d with
  | .str a => wa X ρ1 fun y ρ2 => use y ρ2 fun e => match strsD e with
    | some ys => (ys.map (·.length)).sum + ys.length * a.length ≤ 16777216 ∧ P (.val (.str (Txt.join a ys))) ρ2
    | none => False
  | _ => False
theorem tB_join {wo wa : BW} {Q : VK} (h : tB K mg E (bJoin wo wa) σ H Q) : tM1 (fun x xs H Q => ∃ a p, ∃ ys : List Str, x = .str a ∧ xs = [.ref p] ∧ (SqL K H p (ys.map V.str) ∨ SqT K H p (ys.map V.str)) ∧
      (ys.map (·.length)).sum + ys.length * a.length ≤ 16777216 ∧ Q (.str (Txt.join a ys)) H) (tB K mg E wo) (tB K mg E wa) σ H Q := by
  obtain ⟨G, F, ρ, X, P, R, ex, hw, q⟩ := h
  refine ⟨G, F, ρ, X, _, R, ex, hw, fun x ρ1 v H1 G1 pp s1 R1 rx => ?_⟩
  obtain ⟨d, ed, p⟩ := use_res pp
  have rd := rx.res R1 ed
  split at p
  · rename_i a
    have ev := rd.str
    subst ev
    refine ⟨⟨a, rfl⟩, G1, F, ρ1, X, _, R1, ex, p, fun y ρ2 u H2 G2 pp2 s2 R2 ry => ?_⟩
    obtain ⟨e, ee, p2⟩ := use_res pp2
    have re := ry.res R2 ee
    split at p2
    · rename_i ys hy
      have done : Rep K mg G2 (.str (Txt.join a ys)) (.str (Txt.join a ys)) := rep_str
      cases e with
      | list ds =>
        obtain ⟨b, vs, e1, hb, r⟩ := re.lst R2.gh
        subst e1
        have := strsOf_eq (show strsOf ds = some ys from hy)
        subst this
        exact ⟨a, b, ys, rfl, rfl, .inl (.of (by rw [← r.strs]; exact hb)), p2.1, q _ _ _ H2 G2 p2.2 (s1.trans s2) R2 done⟩
      | tuple ds =>
        obtain ⟨b, vs, e1, hb, r⟩ := re.tup R2.gh
        subst e1
        have := strsOf_eq (show strsOf ds = some ys from hy)
        subst this
        exact ⟨a, b, ys, rfl, rfl, .inr (.of (by rw [← r.strs]; exact hb)), p2.1, q _ _ _ H2 G2 p2.2 (s1.trans s2) R2 done⟩
      | _ => simp [strsD] at hy
    · exact p2.elim
  · exact p.elim
end
/-! ### x.split(sep) -/
def fSplit (wo wa : BW) : DA := fun X ρ P => wo X ρ fun x ρ1 => use x ρ1 fun d => match d with
  | .str a => wa X ρ1 fun y ρ2 => use y ρ2 fun e => match e with
    | .str b => (b.length == 0) = false ∧ a.length + 2 ≤ 16777216 ∧ P ((Txt.split a b).map .str) ρ2
    | _ => False
  | _ => False
section
variable {K : PySem.W.Frag} {mg : Str → Option Value} {E : XK} {σ : L2.St} {H : Hp}
theorem tF_split {wo wa : BW} {Q : VK} (h : tF K mg E (fSplit wo wa) σ H Q) : tM1 (fun x xs H Q => ∃ a b, x = .str a ∧ xs = [.str b] ∧ (b.length == 0) = false ∧ a.length + 2 ≤ sizeLine ∧ rNewStrs (Txt.split a b) H Q) (tB K mg E wo) (tB K mg E wa) σ H Q := by
  obtain ⟨G, F, ρ, X, P, R, ex, hw, q⟩ := h
  refine ⟨G, F, ρ, X, _, R, ex, hw, fun x ρ1 v H1 G1 pp s1 R1 rx => ?_⟩
  obtain ⟨d, ed, p⟩ := use_res pp
  have rd := rx.res R1 ed
  split at p
  · rename_i a
    have ev := rd.str
    subst ev
    refine ⟨⟨a, rfl⟩, G1, F, ρ1, X, _, R1, ex, p, fun y ρ2 u H2 G2 pp2 s2 R2 ry => ?_⟩
    obtain ⟨e, ee, p2⟩ := use_res pp2
    have re := ry.res R2 ee
    split at p2
    · rename_i b
      have eu := re.str
      subst eu
      refine ⟨a, b, rfl, rfl, p2.1, by rw [sizeLine_eq]; exact p2.2.1, fun z hz => ?_⟩
      exact q _ _ _ _ _ G2 p2.2.2 (s1.trans s2) (R2.grow (Grow.loose R2.gh hz)) upd_same (RepL.of_strs _) (R2.gh.free hz) (R2.fh.free hz) (noCel_new R2 hz)
    · exact p2.elim
  · exact p.elim
end
/-! ### sorted -/
section
variable {prog : Program} {w : World} {A : Around} {E : Value → Shared → Prop} {s : Shared}
theorem sorted_both {β : Type} {R : Value → β → Prop} {enc : β → PyData} {bs : List β} {l : Addr} {T : String} {o : Obj} {vs : List Value} {n : Nat} {Q : Value → Shared → Prop} (hT : T = "list" ∨ T = "tuple") (ho : s.heap.get? l = some o) (hc : o.cls = .type T) (hd : o.data = .seq vs.toArray n)
    (hz : vs.length ≤ sizeLine) (e : PySem.W.EachIs R vs bs) (er : PySem.W.EachIs (fun v b => ∃ as, Reads s.heap v (enc b) as) vs bs) (hal : PySem.W.AllAlike (bs.map enc)) (hk : PySem.W.Sortable (bs.map enc)) (hu : ∀ b, b ∈ bs → A.units + 2 + (enc b).depth < cLine)
    (h : ∀ (hp h' : Heap) (out : List Value) (m : Nat), (∀ b o, s.heap.get? b = some o → hp.get? b = some o) → (∀ b o, hp.get? b = some o → h'.get? b = some o) → out.length = bs.length → PySem.W.EachIs R out (bs.mergeSort (PySem.W.dataLe false enc)) → h'.get? hp.objs.size = some (seqObj "list" out.toArray m) →
      Q (.ref hp.objs.size) { s with heap := h' }) : wpAny (model prog w) A (call (.builtin "sorted") [.ref l]) Q E s := by
  refine Calls.call_function_entry kind_sorted plain_sorted entry_sorted (args_sorted1 _) ?_
  unfold Builtin.«sorted»
  refine wpAny_bind (m := checkCount "sorted" 1 1 _) (wpAny_pure ?_)
  refine wpAny_bind (wpAny_collect_seq l hT ho hc hd (fun hp kp => ?_) (by rw [List.size_toArray]; exact hz))
  rw [List.toList_toArray]
  refine wpAny_bind (wpAny_newList ?_ hz)
  have new : (hp.push (seqObj "list" vs.toArray 0)).get? hp.objs.size = some (seqObj "list" vs.toArray 0) := Heap.get?_push_size _ rfl
  have kp2 : ∀ b o, s.heap.get? b = some o → b ≠ hp.objs.size ∧ (hp.push (seqObj "list" vs.toArray 0)).get? b = some o := fun b o q => by
    have q2 := kp b o q
    exact ⟨Nat.ne_of_lt (Heap.lt_size q2), Heap.get?_push_of_some _ q2⟩
  have kp3 : ∀ b o, s.heap.get? b = some o → (PySem.W.sortingHeap (hp.push (seqObj "list" vs.toArray 0)) hp.objs.size vs).get? b = some o := fun b o q => PySem.W.sortingHeap_old (kp2 b o q).1 (kp2 b o q).2
  have er' : PySem.W.EachIs (fun v b => ∃ as, Reads (PySem.W.sortingHeap (hp.push (seqObj "list" vs.toArray 0)) hp.objs.size vs) v (enc b) as) vs bs := er.mono fun _ _ ⟨as, r⟩ => ⟨as, PyProof.Rows.Reads.keeps kp3 r⟩
  show wpAny _ _ _ _ _ { s with heap := hp.push (seqObj "list" vs.toArray 0) }
  have S := PySem.W.SortsAt.data (prog := prog) (w := w) (A := A.in1.in1) (s := { s with heap := PySem.W.sortingHeap (hp.push (seqObj "list" vs.toArray 0)) hp.objs.size vs }) (PySem.W.each_map (R := fun v d => ∃ as, Reads (PySem.W.sortingHeap (hp.push (seqObj "list" vs.toArray 0)) hp.objs.size vs) v d as) enc er') hal hk (PySem.W.bound_map hu)
  refine wpAny_bind (wpAny_holding (wpAny_call_entry slot_list_sort ⟨_, new, rfl⟩ entry_list_sort (PySem.W.list_sort_vals (s := { s with heap := hp.push (seqObj "list" vs.toArray 0) }) new S hz ⟨_, rfl, ?_⟩) (args_list_sort _)))
  obtain ⟨m, hm⟩ := sortedHeap_at (out := (PySem.W.sortVals (PySem.W.dataKind (PySem.W.sortingHeap (hp.push (seqObj "list" vs.toArray 0)) hp.objs.size vs) (bs.map enc)) false vs vs).toArray) new
  refine wpAny_pure ⟨_, rfl, h hp _ _ m kp (fun b o q => ?_) ?_ (PySem.W.sortVals_data false e er' hal) hm⟩
  · rw [sortedHeap_old (Nat.ne_of_lt (Heap.lt_size q)) (Heap.lt_size (Heap.get?_push_of_some _ q))]
    exact Heap.get?_push_of_some _ q
  · rw [PySem.W.sortVals_length false rfl]; exact e.length
end
def srt (ds : List D) : List D := ds.mergeSort (PySem.W.dataLe false id)
def srtOk (ds : List D) : Prop := PySem.W.AllAlike ds ∧ PySem.W.Sortable ds ∧ PyData.canLayAll0 ds = true ∧ (∀ d ∈ ds, d.depth ≤ 64) ∧ ds.length ≤ 16777216
def hSrt : List D → (List D → Prop) → Prop := fun ds P => match ds with
  | [.list xs] => srtOk xs ∧ P (srt xs)
  | [.tuple xs] => srtOk xs ∧ P (srt xs)
  | _ => False
section
variable {X : Cx}
theorem each_zip {G H : Hp} {pins : List (Addr × Obj)} {s : Shared} {σ : L2.St} (I : Inv X pins σ H s) (sg : Same G H) : ∀ {ds : List D} {xs : List V} {its : List Value}, PyData.canLayAll0 ds = true → RepL X.K X.mg G ds xs → Vals xs its →
    PySem.W.EachIs (fun v (b : V × D) => RelV b.1 v ∧ Rep X.K X.mg G b.2 b.1) its (xs.zip ds) ∧ PySem.W.EachIs (fun v (b : V × D) => ∃ as, Reads s.heap v b.2 as) its (xs.zip ds) ∧ (xs.zip ds).map (·.2) = ds ∧ (xs.zip ds).length = ds.length
  | [], xs, its, _, r, rv => by
    rw [RepL] at r
    subst r
    cases rv
    exact ⟨.nil, .nil, rfl, rfl⟩
  | d :: ds, xs, its, c, r, rv => by
    rw [RepL] at r
    obtain ⟨v, ws, e, r1, r2⟩ := r
    subst e
    have c' : d.canLay0 = true ∧ PyData.canLayAll0 ds = true := by simpa [PyData.canLayAll0] using c
    cases rv with
    | cons h1 h2 =>
      obtain ⟨a1, a2, a3, a4⟩ := each_zip I sg c'.2 r2 h2
      obtain ⟨as, rd⟩ := Dp.reads I d v _ (Rep.dp sg d v c'.1 r1) h1
      exact ⟨.cons ⟨h1, r1⟩ a1, .cons ⟨as, rd⟩ a2, by simp [a3], by simp [a4]⟩
theorem out_zip {G : Hp} : ∀ {bs : List (V × D)} {out : List Value}, PySem.W.EachIs (fun v (b : V × D) => RelV b.1 v ∧ Rep X.K X.mg G b.2 b.1) out bs → Vals (bs.map (·.1)) out ∧ RepL X.K X.mg G (bs.map (·.2)) (bs.map (·.1))
  | [], _, .nil => ⟨.nil, RepL.nil⟩
  | b :: bs, _, .cons h t => by
    obtain ⟨a1, a2⟩ := out_zip t
    exact ⟨.cons h.1 a1, RepL.cons h.2 a2⟩
theorem srt_map (bs : List (V × D)) : (bs.mergeSort (PySem.W.dataLe false (·.2))).map (·.2) = srt (bs.map (·.2)) := by
  unfold srt
  rw [← List.map_mergeSort (s := PySem.W.dataLe false id) (r := PySem.W.dataLe false (·.2))]
  intro a _ b _
  rfl
theorem cf_sorted (hu : X.A.units + 100 < cLine) : CallF X (.builtin "sorted") hSrt := by
  intro pins s σ H xs us Q I r ⟨G, ds, P, sg, hx, g, q⟩
  have core : ∀ {T : String} {a : Addr} {o : Obj} {ys : List D} {vs : List V} {its : List Value} {n : Nat}, T = "list" ∨ T = "tuple" → s.heap.get? a = some o → o.cls = .type T → o.data = .seq its.toArray n → Vals vs its → vs.length ≤ sizeLine → RepL X.K X.mg G ys vs → srtOk ys → P (srt ys) →
      wpAny (model X.prog X.w) X.A (call (.builtin "sorted") [.ref a]) (EP X pins σ Q) X.xe s := fun {T a o ys vs its n} hT ho hc hd rv hz rr ok p => by
    obtain ⟨o1, o2, o3, o4, o5⟩ := ok
    obtain ⟨e1, e2, e3, e4⟩ := each_zip I sg o3 rr rv
    refine sorted_both (enc := (·.2)) hT ho hc hd (by rw [← rv.length]; exact hz) e1 e2 (by rw [e3]; exact o1) (by rw [e3]; exact o2) (fun b hb => ?_) fun hp h' out m k1 k2 hl eo ha => ?_
    · have : b.2 ∈ ys := by rw [← e3]; exact List.mem_map.mpr ⟨b, hb, rfl⟩
      have := o4 _ this
      omega
    · obtain ⟨a1, a2⟩ := out_zip eo
      rw [srt_map, e3] at a2
      have I1 : Inv X pins σ H { s with heap := hp } := I.kept (t' := s.toks) k1
      refine ⟨.ref hp.objs.size, _, I1.laid (t' := s.toks) k2 (Nat.le_refl _) (o := .lst _) ⟨?_, out, m, a1, ha⟩, rfl, q _ _ _ p (I1.hok.fresh (Nat.le_refl _)) a2⟩
      rw [a1.length, hl, e4, sizeLine_eq]; exact o5
  unfold hSrt at g
  split at g
  · obtain ⟨x, ex, hz⟩ := hx.one; subst ex; replace hx := hz
    obtain ⟨a, vs, e, ha, rr⟩ := hx.lst sg
    subst e
    rw [Vals.ref1 r]
    obtain ⟨its, rv, ⟨o, n, ho, hc, _, hd⟩, hlen⟩ := I.list (.of ha)
    exact core (.inl rfl) ho hc hd rv hlen rr g.1 g.2
  · obtain ⟨x, ex, hz⟩ := hx.one; subst ex; replace hx := hz
    obtain ⟨a, vs, e, ha, rr⟩ := hx.tup sg
    subst e
    rw [Vals.ref1 r]
    obtain ⟨its, rv, ⟨o, ho, hc, n, hd⟩, hlen⟩ := I.tuple (.of ha)
    exact core (.inr rfl) ho hc hd rv hlen rr g.1 g.2
  · exact g.elim
end
end DL
set_option Elab.async false
set_option linter.all false
set_option maxRecDepth 100000
set_option maxHeartbeats 1000000
namespace DL
open PySem PySem.Spec PyProof.Rows L2

/-! ### the operators again, the wish named once -/
def okAdd : D → D → Prop
  | .int _, .int _ => True
  | .str a, .str b => a.length + b.length ≤ 16777216
  | .list a, .list b => a.length + b.length ≤ 16777216
  | .tuple a, .tuple b => a.length + b.length ≤ 16777216
  | _, _ => False
def vAdd : D → D → D
  | .int i, .int j => .int (i + j)
  | .str a, .str b => .str (a ++ b)
  | .list a, .list b => .list (a ++ b)
  | .tuple a, .tuple b => .tuple (a ++ b)
  | _, _ => .none
def qAdd : G2 := fun d e P => okAdd d e ∧ P (vAdd d e)
def okMul : D → D → Prop
  | .int i, .int j => CMul i j
  | .list a, .int k => 0 ≤ k ∧ k ≤ 1000 ∧ a.length ≤ 1000
  | .tuple a, .int k => a ≠ [] ∧ 2 ≤ k ∧ k ≤ 1000 ∧ a.length ≤ 1000
  | _, _ => False
def vMul : D → D → D
  | .int i, .int j => .int (i * j)
  | .list a, .int k => .list (List.replicate k.toNat a).flatten
  | .tuple a, .int k => .tuple (List.replicate k.toNat a).flatten
  | _, _ => .none
def qMul : G2 := fun d e P => okMul d e ∧ P (vMul d e)
def okLe : D → D → Prop
  | .int _, .int _ => True
  | .tuple a, .tuple b => (intsOf a).isSome = true ∧ (intsOf b).isSome = true
  | _, _ => False
def vLe : D → D → D
  | .int i, .int j => .bool (decide (i ≤ j))
  | .tuple a, .tuple b => .bool (leInts ((intsOf a).getD []) ((intsOf b).getD []))
  | _, _ => .none
def qLe : G2 := fun d e P => okLe d e ∧ P (vLe d e)
def okIs : D → D → Prop
  | _, .none => True
  | .bool _, .bool _ => True
  | _, _ => False
def vIs : D → D → Bool
  | d, .none => isNonD d
  | .bool c, .bool b => decide (c = b)
  | _, _ => false
def qIs : G2 := fun d e P => okIs d e ∧ P (.bool (vIs d e))
def qIsNot : G2 := fun d e P => okIs d e ∧ P (.bool (!vIs d e))
def okIn : D → D → Prop
  | d, .list ds => shp d = true ∧ shp (.list ds) = true
  | d, .tuple ds => shp d = true ∧ shp (.tuple ds) = true
  | .str _, .str _ => True
  | _, _ => False
def vIn : D → D → Bool
  | d, .list ds => inD d ds
  | d, .tuple ds => inD d ds
  | .str x, .str y => !(Builtin.Str.occurrences y x 0 y.length 1).isEmpty
  | _, _ => false
def qIn : G2 := fun d e P => okIn d e ∧ P (.bool (vIn d e))
def qNotIn : G2 := fun d e P => okIn d e ∧ P (.bool (!vIn d e))
def ixR : D → D → Option D
  | .list ds, .int i => atI ds i
  | .tuple ds, .int i => atI ds i
  | .dict [(.none, .list ds)], .int i => atI ds i
  | _, _ => none
def qIx : G2 := fun d e P => match ixR d e with
  | some z => P z
  | none => False
def okLen : List D → Prop
  | [.list _] => True
  | [.tuple _] => True
  | [.str x] => x.length ≤ 16777216
  | [.dict [(.none, .list _)]] => True
  | _ => False
def vLen : List D → Nat
  | [.list xs] => xs.length
  | [.tuple xs] => xs.length
  | [.str x] => x.length
  | [.dict [(.none, .list xs)]] => xs.length
  | _ => 0
def qLen : GL := fun ds P => okLen ds ∧ P (.int (vLen ds))
def okMin : List D → Prop
  | [.int _, .int _] => True
  | [.list xs] => match intsOf xs with
    | some ns => ns ≠ []
    | none => False
  | _ => False
def vMin : List D → Int
  | [.int i, .int j] => min i j
  | [.list xs] => minL ((intsOf xs).getD [])
  | _ => 0
def qMin : GL := fun ds P => okMin ds ∧ P (.int (vMin ds))
def okInt : List D → Prop
  | [.int _] => True
  | [.bool _] => True
  | [.str x] => (PySem.intText? x).isSome = true ∧ x.length ≤ 640
  | _ => False
def vInt : List D → Int
  | [.int i] => i
  | [.bool b] => if b then 1 else 0
  | [.str x] => (PySem.intText? x).getD 0
  | _ => 0
def qInt : GL := fun ds P => okInt ds ∧ P (.int (vInt ds))
def okBool : List D → Prop
  | [.int _] => True
  | [.bool _] => True
  | _ => False
def vBool : List D → Bool
  | [.int i] => i != 0
  | [.bool b] => b
  | _ => false
def qBool : GL := fun ds P => okBool ds ∧ P (.bool (vBool ds))
def seq1 : List D → Option (List D)
  | [d] => seqOf d
  | _ => none
def qTuple : GL := fun ds P => match seq1 ds with
  | some xs => P (.tuple xs)
  | none => False
def okIsi : D → Prop
  | .dict _ => False
  | _ => True
def vIsi (T : String) : D → Bool
  | .none => T == "NoneType"
  | .bool _ => T == "bool" || T == "int"
  | .int _ => T == "int"
  | .str _ => T == "str"
  | .list _ => T == "list"
  | .tuple _ => T == "tuple"
  | .dict _ => false
def qIsi (T : String) : G1 := fun d P => okIsi d ∧ P (.bool (vIsi T d))
def jList : List D → (List D → Prop) → Prop := fun ds P => match seq1 ds with
  | some xs => P xs
  | none => False
def jSrt : List D → (List D → Prop) → Prop := fun ds P => match seq1 ds with
  | some xs => srtOk xs ∧ P (srt xs)
  | none => False
section
variable {X : Cx}
theorem od_of {f : Value → Value → Sem Value} {g g' : G2} (h : OpD X f g) (w : ∀ d e P, g' d e P → g d e P) : OpD X f g' := fun pins s σ H x y v u Q I rx ry ⟨G, d, e, P, sg, hx, hy, hg, q⟩ =>
  h pins s σ H x y v u Q I rx ry ⟨G, d, e, P, sg, hx, hy, w d e P hg, q⟩
theorem cd_of {f : Value} {g g' : GL} (h : CallD X f g) (w : ∀ ds P, g' ds P → g ds P) : CallD X f g' := fun pins s σ H xs us Q I r ⟨G, ds, P, sg, hx, hg, q⟩ => h pins s σ H xs us Q I r ⟨G, ds, P, sg, hx, w ds P hg, q⟩
theorem cf_of {f : Value} {g g' : List D → (List D → Prop) → Prop} (h : CallF X f g) (w : ∀ ds P, g' ds P → g ds P) : CallF X f g' := fun pins s σ H xs us Q I r ⟨G, ds, P, sg, hx, hg, q⟩ => h pins s σ H xs us Q I r ⟨G, ds, P, sg, hx, w ds P hg, q⟩
theorem qd_add : OpD X (binaryOp .Add) qAdd := od_of od_add fun d e P ⟨h1, h2⟩ => by
  cases d <;> cases e <;> first | exact h1.elim | exact h2 | exact ⟨h1, h2⟩
theorem qd_mul : OpD X (binaryOp .Mult) qMul := od_of od_mulX fun d e P ⟨h1, h2⟩ => by
  cases d <;> cases e <;> first | exact h1.elim | exact ⟨h1, h2⟩ | exact ⟨h1.1, h1.2.1, h1.2.2, h2⟩ | exact ⟨h1.1, h1.2.1, h1.2.2.1, h1.2.2.2, h2⟩
theorem qd_le (hu : X.A.units < cLine) : OpD X (compareOp .LtE) qLe := od_of (od_le hu) fun d e P ⟨h1, h2⟩ => by
  cases d <;> cases e <;> first | exact h1.elim | exact h2 | skip
  rename_i a b
  obtain ⟨ha, hb⟩ := h1
  obtain ⟨ns, ea⟩ := Option.isSome_iff_exists.mp ha
  obtain ⟨ms, eb⟩ := Option.isSome_iff_exists.mp hb
  simpa [gLe, vLe, ea, eb] using h2
theorem qd_is : OpD X (compareOp .Is) qIs := od_of od_is fun d e P ⟨h1, h2⟩ => by
  cases e <;> cases d <;> first | exact h1.elim | exact h2
theorem qd_isnot : OpD X (compareOp .IsNot) qIsNot := od_of od_isnot fun d e P ⟨h1, h2⟩ => by
  cases e <;> cases d <;> first | exact h1.elim | exact h2
theorem qd_in (hu : X.A.units + 65 < cLine) : OpD X (compareOp .In) qIn := od_of (od_in hu) fun d e P ⟨h1, h2⟩ => by
  cases e <;> cases d <;> first | exact h1.elim | exact h2 | exact ⟨h1.1, h1.2, h2⟩
theorem qd_notIn (hu : X.A.units + 65 < cLine) : OpD X (compareOp .NotIn) qNotIn := od_of (od_notIn hu) fun d e P ⟨h1, h2⟩ => by
  cases e <;> cases d <;> first | exact h1.elim | exact h2 | exact ⟨h1.1, h1.2, h2⟩
theorem qix {d e : D} {P : D → Prop} (h : qIx d e P) : gIx d e P := by
  unfold qIx at h
  unfold gIx
  split
  · exact h
  · exact h
  · exact h
  · rename_i n1 n2 n3
    have : ixR d e = none := by
      unfold ixR
      split
      · exact (n1 _ _ rfl rfl).elim
      · exact (n2 _ _ rfl rfl).elim
      · exact (n3 _ _ rfl rfl).elim
      · rfl
    rw [this] at h
    exact h
theorem ixq : IxD X qIx := fun value slice pins s σ H x y v u Q I rx ry ⟨G, d, e, P, sg, hx, hy, hg, q⟩ => ixd value slice pins s σ H x y v u Q I rx ry ⟨G, d, e, P, sg, hx, hy, qix hg, q⟩
theorem qd_len : CallD X (.builtin "len") qLen := cd_of cd_len fun ds P ⟨h1, h2⟩ => by
  unfold okLen at h1
  split at h1
  · exact h2
  · exact h2
  · exact ⟨h1, h2⟩
  · exact h2
  · exact h1.elim
theorem qd_min (hc : X.calm = true) : CallD X (.builtin "min") qMin := cd_of (cd_min hc) fun ds P ⟨h1, h2⟩ => by
  unfold okMin at h1
  split at h1
  · exact h2
  · split at h1
    · rename_i e
      simpa [gMin, vMin, e] using And.intro h1 h2
    · exact h1.elim
  · exact h1.elim
theorem qd_int : CallD X (.type "int") qInt := cd_of cd_int fun ds P ⟨h1, h2⟩ => by
  unfold okInt at h1
  split at h1
  · exact h2
  · exact h2
  · obtain ⟨ha, hb⟩ := h1
    obtain ⟨n, e⟩ := Option.isSome_iff_exists.mp ha
    simpa [gInt, vInt, e] using And.intro hb h2
  · exact h1.elim
theorem qd_bool : CallD X (.type "bool") qBool := cd_of cd_bool fun ds P ⟨h1, h2⟩ => by
  unfold okBool at h1
  split at h1
  · exact h2
  · exact h2
  · exact h1.elim
theorem seq1_ok {ds : List D} {xs : List D} (h : seq1 ds = some xs) : ds = [.list xs] ∨ ds = [.tuple xs] := by
  unfold seq1 at h
  split at h
  · rename_i d
    cases d <;> simp [seqOf] at h
    · subst h; exact .inl rfl
    · subst h; exact .inr rfl
  · cases h
theorem qd_tuple : CallD X (.type "tuple") qTuple := cd_of cd_tuple fun ds P h => by
  unfold qTuple at h
  split at h
  · rename_i e
    rcases seq1_ok e with rfl | rfl <;> exact h
  · exact h.elim
theorem qisi {T : String} {d : D} {P : D → Prop} (h : qIsi T d P) : gIsi T d P := by
  cases d <;> first | exact h.1.elim | exact h.2
theorem jf_list : CallF X (.type "list") jList := cf_of cf_list fun ds P h => by
  unfold jList at h
  split at h
  · rename_i e
    rcases seq1_ok e with rfl | rfl <;> exact h
  · exact h.elim
theorem jf_sorted (hu : X.A.units + 100 < cLine) : CallF X (.builtin "sorted") jSrt := cf_of (cf_sorted hu) fun ds P h => by
  unfold jSrt at h
  split at h
  · rename_i e
    rcases seq1_ok e with rfl | rfl <;> exact h
  · exact h.elim
end
end DL
set_option Elab.async false
set_option linter.all false
set_option maxRecDepth 100000
set_option maxHeartbeats 1000000
namespace DL
open PySem PySem.Spec PyProof.Rows L2

/-! ### the evaluator -/
/-- the def that calls a lambda and names the error that it lets out -/
structure RefC where
  x : Str
  word : Str → Option Str
structure Ctx where
  N : List Str
  Γ : List (Str × FnC)
  C : List (Str × D)
  R : List Str
  ms : List Nat
  rf : Option RefC := none
def stuckB : BW := fun _ _ _ => False
def stuckT : TW := fun _ _ _ => False
def stuckD : DA := fun _ _ _ => False
def stuckS : SW := fun _ _ _ => False
def findIx : List Str → Str → Nat → Option Nat
  | [], _, _ => none
  | y :: ys, x, n => if x = y then some n else findIx ys x (n + 1)
theorem findIx_ge : ∀ {ys : List Str} {x : Str} {n i : Nat}, findIx ys x n = some i → n ≤ i ∧ ys[i - n]? = some x
  | [], _, _, _, h => by simp [findIx] at h
  | y :: ys, x, n, i, h => by
    unfold findIx at h
    by_cases e : x = y
    · rw [if_pos e] at h; cases h; subst e; simp
    · rw [if_neg e] at h
      obtain ⟨h1, h2⟩ := findIx_ge h
      refine ⟨by omega, ?_⟩
      have e2 : i - n = (i - (n + 1)) + 1 := by omega
      rw [e2, List.getElem?_cons_succ]
      exact h2
theorem findIx_at {N : List Str} {x : Str} {i : Nat} (h : findIx N x 0 = some i) : N[i]? = some x := by simpa using (findIx_ge h).2
def visB (sc : Scope) (x : Str) : Bool := match sc.names.lookup x with
  | some .local => true
  | some .cell => true
  | some .free => true
  | _ => false
def glB (sc : Scope) (x : Str) : Bool := match sc.names.lookup x with
  | some .globalImplicit => true
  | _ => false
theorem visB_ok {sc : Scope} {x : Str} (h : visB sc x = true) : Vis sc x := by
  unfold visB at h
  unfold Vis
  split at h <;> first | (rename_i e; rw [e]; simp) | cases h
theorem glB_ok {sc : Scope} {x : Str} (h : glB sc x = true) : sc.names.lookup x = some .globalImplicit := by
  unfold glB at h
  split at h
  · assumption
  · cases h
def oddB (x : Str) : Bool := (x == ("__debug__" : Str)) || (x == ("__classdict__" : Str)) || (x == ("__name__" : Str))
theorem oddB_no {x : Str} (h : oddB x = false) : (x == ("__debug__" : Str)) = false ∧ (x == ("__classdict__" : Str)) = false ∧ x ≠ ("__name__" : Str) := by
  unfold oddB at h
  simp only [Bool.or_eq_false_iff, beq_eq_false_iff_ne, ne_eq] at h
  obtain ⟨⟨h1, h2⟩, h3⟩ := h
  exact ⟨beq_eq_false_iff_ne.mpr h1, beq_eq_false_iff_ne.mpr h2, h3⟩
/-- a name of the def, by its place -/
def slotOf (c : Ctx) (sc : Scope) (x : Str) : Option Nat := if visB sc x && !oddB x then findIx c.N x 0 else none
def isGl (sc : Scope) (x : Str) : Bool := glB sc x && !oddB x
def starOk : Expr → Bool
  | .Starred _ _ => false
  | _ => true
def allStar : List Expr → Bool
  | [] => true
  | e :: es => starOk e && allStar es
def noSlice : Expr → Bool
  | .Slice _ _ _ _ => false
  | _ => true
def noSet : Expr → Bool
  | .Set _ _ _ => false
  | _ => true
def andT (f : Expr → TW) : List Expr → TW
  | [] => stuckT
  | [a] => f a
  | a :: b :: r => wAnd (f a) (andT f (b :: r))
def orT (f : Expr → TW) : List Expr → TW
  | [] => stuckT
  | [a] => f a
  | a :: b :: r => wOr (f a) (orT f (b :: r))
def andB (f : Expr → BW) : List Expr → BW
  | [] => stuckB
  | [a] => f a
  | a :: b :: r => bAnd (f a) (andB f (b :: r))
def orB (f : Expr → BW) : List Expr → BW
  | [] => stuckB
  | [a] => f a
  | a :: b :: r => bOr (f a) (orB f (b :: r))
def argsD (f : Expr → BW) : List Expr → DA
  | [] => oNil
  | e :: es => if starOk e then oCons (own (f e)) (argsD f es) else stuckD
def argsB (f : Expr → BW) : List Expr → AW
  | [] => aNil
  | e :: es => if starOk e then aCons (f e) (argsB f es) else fun _ _ _ => False
def cmpG : CmpOp → G2
  | .Eq => gEq
  | .NotEq => gNe
  | .Lt => gLt
  | .LtE => qLe
  | .Gt => gGt
  | .GtE => gGe
  | .Is => qIs
  | .IsNot => qIsNot
  | .In => qIn
  | .NotIn => qNotIn
def binG : Operator → Option G2
  | .Add => some qAdd
  | .Sub => some gSub
  | .Mult => some qMul
  | .FloorDiv => some gDiv
  | .Mod => some gMod
  | .Pow => some gPow
  | _ => none
def gNeg : G1 := fun d P => match d with
  | .int i => P (.int (-i))
  | _ => False
/-- len(set(x)), x of ints -/
def gLenSet : G1 := fun d P => match d with
  | .tuple ds => match intsOf ds with
    | some ns => ns.length ≤ 4000 ∧ P (.int (distinct ns).length)
    | none => False
  | .list ds => match intsOf ds with
    | some ns => ns.length ≤ 4000 ∧ P (.int (distinct ns).length)
    | none => False
  | _ => False
inductive Bt where
  | len | all | any | sum | max | min | int | bool | str | tuple | list | isinstance | sorted | set | range | zip | enumerate
  deriving DecidableEq
def btTab : List (Str × Bt) := [("len", .len), ("all", .all), ("any", .any), ("sum", .sum), ("max", .max), ("min", .min), ("int", .int), ("bool", .bool), ("str", .str), ("tuple", .tuple), ("list", .list), ("isinstance", .isinstance),
  ("sorted", .sorted), ("set", .set), ("range", .range), ("zip", .zip), ("enumerate", .enumerate)]
def btOf (sc : Scope) (x : Str) : Option Bt := if isGl sc x then btTab.lookup x else none
def isiNames : List (Str × String) := [("int", "int"), ("bool", "bool"), ("str", "str"), ("list", "list"), ("tuple", "tuple")]
/-- the name of a built-in class -/
def clsOf (sc : Scope) : Expr → Option String
  | .Name x _ => if isGl sc x then isiNames.lookup x else none
  | _ => none
/-- a call's name, its arguments -/
def stOk (c : Ctx) (sc : Scope) (fn : Str → Bool) (x : Str) : Option Nat := match sc.names.lookup x with
  | some .local => findIx c.N x 0
  | some .cell => if fn x then findIx c.N x 0 else none
  | _ => none
def tgNames (c : Ctx) (sc : Scope) (fn : Str → Bool) : List Expr → Option (List Nat)
  | [] => some []
  | .Name x _ :: es => match stOk c sc fn x, tgNames c sc fn es with
    | some i, some is => some (i :: is)
    | _, _ => none
  | _ :: _ => none
def tgOf (c : Ctx) (sc : Scope) (fn : Str → Bool) : Expr → Option (List Nat × GW)
  | .Name x _ => match stOk c sc fn x with
    | some i => some ([i], gNm i)
    | none => none
  | .Tuple es _ _ => match tgNames c sc fn es with
    | some is => some (is, gTp is)
    | none => none
  | _ => none
def isTup : Expr → Bool
  | .Tuple _ _ _ => true
  | _ => false
def ownOf (c : Ctx) (scope : Scope) : List (Str × Nat) := scope.names.filterMap fun y => match y.2 with
  | .local => (findIx c.N y.1 0).map fun i => (y.1, i)
  | .cell => (findIx c.N y.1 0).map fun i => (y.1, i)
  | _ => none
def iterOf (f : Expr → BW) (sc : Scope) (tg it : Expr) : DA :=
  match it with
  | .Call (.Name x _) [a] [] _ => match btOf sc x with
    | some .range => if starOk a then iRange (f a) else stuckD
    | some .enumerate => if starOk a && isTup tg then iEnum (own (f a)) else stuckD
    | _ => iSeq (own (f it))
  | .Call (.Name x _) [a, b] [] _ => match btOf sc x with
    | some .zip => if starOk a && starOk b && isTup tg then iZip (argsD f [a, b]) else stuckD
    | _ => iSeq (own (f it))
  | _ => if noSet it then iSeq (own (f it)) else stuckD
def fnBlk (scope : Scope) : Str → Bool := fun x => scope.names.lookup x == some .cell
def partOf (f : Expr → BW) : Option Expr → OWt
  | none => oNone
  | some e => oSome (f e)
/-- range(b) -/
def rngB (sc : Scope) (y : Str) (b : Expr) : Bool := isGl sc y && decide (btTab.lookup y = some .range) && starOk b
def plainO : Expr → Bool
  | .Constant _ _ _ => true
  | .Name _ _ => true
  | .Subscript _ _ _ => true
  | _ => false
/-- o.f(a), on one line -/
def methB (o : Expr) (ap p : Pos) (a : Expr) : Bool := plainO o && (ap.endLine == p.line) && starOk a
/-- a call of a def that a name holds -/
def varF (i : Nat) (ρ : List SV) : Option Str := match ρ[i]? with
  | some (.dat (.dict [(.str f, .none)])) => some f
  | _ => none
def bCallV (Γ : List (Str × FnC)) (i : Nat) (w : DA) : BW := fun X ρ P => match varF i ρ with
  | some f => (match Γ.lookup f with
    | some (.pur m sp) => bCall sp m w X ρ P
    | _ => False)
  | none => False
/-- the lists in slots, frozen -/
def frzR : List SV → List SV
  | [] => []
  | .cel _ ds :: r => .dat (.list ds) :: frzR r
  | s :: r => s :: frzR r
def bRef (word : Str → Option Str) (wl : BW) : BW := fun _ ρ P => wl (fun x => ∃ w, word x = some w ∧ P (.val (.str w)) ρ) (frzR ρ) fun _ _ => P (.val (.str ("" : Str))) ρ
def noPar : Arguments → Bool
  | ⟨[], [], none, [], [], none, []⟩ => true
  | _ => false
mutual
def eB (c : Ctx) : Nat → Scope → Expr → BW
  | 0, _, _ => stuckB
  | n + 1, sc, e => match e with
    | .Constant (.int i) _ _ => bC (.int i)
    | .Constant (.bool b) _ _ => bC (.bool b)
    | .Constant (.str x) _ _ => bC (.str x)
    | .Constant .none _ _ => bC .none
    | .Name x _ => match slotOf c sc x with
      | some i => bVar i
      | none => if isGl sc x then (match c.C.lookup x with | some d => bC d | none => stuckB) else stuckB
    | .BinOp l op r _ => match binG op with
      | some g => bOp g (eB c n sc l) (eB c n sc r)
      | none => stuckB
    | .UnaryOp .Not x _ => bNot (eB c n sc x)
    | .UnaryOp .USub x _ => bUn gNeg (eB c n sc x)
    | .BoolOp .And vs _ => andB (eB c n sc) vs
    | .BoolOp .Or vs _ => orB (eB c n sc) vs
    | .Compare l [op] [r] _ => if behindInMarks op r then stuckB else bOp (cmpG op) (eB c n sc l) (eB c n sc r)
    | .Compare l [o1, o2] [m, r] _ => if lastMarks [o1, o2] [m, r] then stuckB else bChain (cmpG o1) (cmpG o2) (eB c n sc l) (eB c n sc m) (eB c n sc r)
    | .IfExp t a b _ => bIf (eT c n sc t) (eB c n sc a) (eB c n sc b)
    | .Subscript a (.Slice lo hi none _) _ => bSl (eB c n sc a) (partOf (eB c n sc) lo) (partOf (eB c n sc) hi)
    | .Subscript a b _ => if noSlice b then bOp qIx (eB c n sc a) (eB c n sc b) else stuckB
    | .Tuple es _ _ => bTup (argsD (eB c n sc) es)
    | .List es _ => frz (fLst (argsD (eB c n sc) es))
    | .ListComp _ _ _ _ => frz (eF c n sc e)
    | .Call (.Name x _) [.Lambda params body scope _] [] _ => match c.rf with
      | some r => if x = r.x ∧ isGl sc x = true ∧ noPar params = true ∧ LamX.lamSB sc scope = true then bRef r.word (eB { c with rf := none } n scope body) else stuckB
      | none => stuckB
    | .Call (.Name x _) (a :: as) [] _ => if isGl sc x && allStar (a :: as) then (match c.Γ.lookup x with
      | some (.pur m sp) => bCall sp m (argsD (eB c n sc) (a :: as))
      | some (.frs _ _) => frz (eF c n sc e)
      | some (.mut m sp) => match a with
        | .Name y _ => match slotOf c sc y with
          | some i => bCallM sp m i (argsD (eB c n sc) as)
          | none => stuckB
        | _ => stuckB
      | none => match btTab.lookup x with
        | some .len => match a, as with
          | .Call (.Name y _) [b] [] _, [] => if isGl sc y && decide (btTab.lookup y = some .set) && starOk b then bUn gLenSet (eB c n sc b) else bCB qLen (argsB (eB c n sc) [a])
          | _, _ => bCB qLen (argsB (eB c n sc) (a :: as))
        | some .all => bCB gAll (argsB (eB c n sc) (a :: as))
        | some .any => bCB gAny (argsB (eB c n sc) (a :: as))
        | some .sum => bCB gSum (argsB (eB c n sc) (a :: as))
        | some .max => bCB gMax (argsB (eB c n sc) (a :: as))
        | some .min => bCB qMin (argsB (eB c n sc) (a :: as))
        | some .int => bCB qInt (argsB (eB c n sc) (a :: as))
        | some .bool => bCB qBool (argsB (eB c n sc) (a :: as))
        | some .str => bCB gStr (argsB (eB c n sc) (a :: as))
        | some .tuple => match a, as with
          | .Call (.Name y _) [b] [] _, [] => if rngB sc y b then bTRng (eB c n sc b) else bCB qTuple (argsB (eB c n sc) [a])
          | _, _ => bCB qTuple (argsB (eB c n sc) (a :: as))
        | some .list => frz (eF c n sc e)
        | some .sorted => frz (eF c n sc e)
        | some .isinstance => match as with
          | [t] => match clsOf sc t with
            | some T => if starOk a then bUn (qIsi T) (eB c n sc a) else stuckB
            | none => stuckB
          | _ => stuckB
        | _ => stuckB) else (match slotOf c sc x with
      | some i => if allStar (a :: as) then bCallV c.Γ i (argsD (eB c n sc) (a :: as)) else stuckB
      | none => stuckB)
    | .Call (.Name x _) [] [] _ => if isGl sc x then (match c.Γ.lookup x with
      | some (.pur m sp) => bCall sp m oNil
      | _ => stuckB) else stuckB
    | .Call (.Attribute o f ap) [a] [] p => if methB o ap p a then (if f = ("join" : Str) then bJoin (eB c n sc o) (eB c n sc a) else frz (eF c n sc e)) else stuckB
    | _ => stuckB
def eT (c : Ctx) : Nat → Scope → Expr → TW
  | 0, _, _ => stuckT
  | n + 1, sc, e => match e with
    | .UnaryOp .Not x _ => wNot (eT c n sc x)
    | .BoolOp .And vs _ => andT (eT c n sc) vs
    | .BoolOp .Or vs _ => orT (eT c n sc) vs
    | .Compare l [op] [r] _ => if behindInMarks op r then stuckT else tBl (bOp (cmpG op) (eB c n sc l) (eB c n sc r))
    | .Compare l [o1, o2] [m, r] _ => if lastMarks [o1, o2] [m, r] then stuckT else tBl (bChain (cmpG o1) (cmpG o2) (eB c n sc l) (eB c n sc m) (eB c n sc r))
    | .Compare _ _ _ _ => stuckT
    | .IfExp _ _ _ _ => stuckT
    | _ => tVal (eB c n sc e)
def eF (c : Ctx) : Nat → Scope → Expr → DA
  | 0, _, _ => stuckD
  | n + 1, sc, e => match e with
    | .List es _ => fLst (argsD (eB c n sc) es)
    | .ListComp elt [⟨tg, it, ifs, 0⟩] scope _ =>
      if blkC c.N sc scope (ownOf c scope) && noSet it then (match tgOf c (relS scope sc) (fnBlk scope) tg with
        | some (is, g) => if is.all fun i => ((ownOf c scope).map (·.2)).contains i then
          (match ifs with
            | [] => fComp (iterOf (eB c n sc) sc tg it) g (fun _ ρ P => P true ρ) (own (eB c n (relS scope sc) elt)) ((ownOf c scope).map (·.2))
            | [t] => fComp (iterOf (eB c n sc) sc tg it) g (eT c n (relS scope sc) t) (own (eB c n (relS scope sc) elt)) ((ownOf c scope).map (·.2))
            | _ => stuckD) else stuckD
        | none => stuckD) else stuckD
    | .Call (.Name x _) (a :: as) [] _ => if isGl sc x && allStar (a :: as) then (match c.Γ.lookup x with
      | some (.frs m sp) => fCall sp m (argsD (eB c n sc) (a :: as))
      | none => match btTab.lookup x with
        | some .list => match a, as with
          | .Call (.Name y _) [b] [] _, [] => if rngB sc y b then fRng (eB c n sc b) else fCB jList (argsB (eB c n sc) [a])
          | _, _ => fCB jList (argsB (eB c n sc) (a :: as))
        | some .sorted => fCB jSrt (argsB (eB c n sc) (a :: as))
        | _ => stuckD
      | _ => stuckD) else stuckD
    | .Call (.Attribute o f ap) [a] [] p => if methB o ap p a && decide (f = ("split" : Str)) then fSplit (eB c n sc o) (eB c n sc a) else stuckD
    | _ => stuckD
end
end DL
set_option Elab.async false
set_option linter.all false
set_option maxRecDepth 100000
set_option maxHeartbeats 4000000
namespace DL
open PySem PySem.Spec PyProof.Rows L2
section
variable {c : Ctx} {X : Cx} {sc : Scope} {E : XK}
/-- nothing is let out -/
theorem passN {X : Cx} : Passes (L2N.CX X.prog X.w) X E0d := fun _ _ _ _ _ _ _ ⟨_, _, _, _, _, _, _, _, _, _, _, _, z⟩ => z.elim
theorem pe_stuckB {e : Expr} : PE X e (tB X.K X.mg E stuckB) := ⟨fun pins s σ H Q I h => by obtain ⟨G, F, ρ, X', P, R, ex, hw, q⟩ := h; exact hw.elim⟩
theorem pt_stuckT {e : Expr} : PT X e (tT X.K X.mg E stuckT) := ⟨fun pins s σ H Q I h => by obtain ⟨G, F, ρ, X', P, R, ex, hw, q⟩ := h; exact hw.elim⟩
theorem pw_stuckT {e : Expr} : PW X e (tT X.K X.mg E stuckT) := ⟨fun wh pins s σ H Q I h => by obtain ⟨G, F, ρ, X', P, R, ex, hw, q⟩ := h; exact hw.elim⟩
theorem pe_stuckD {e : Expr} : PE X e (tF X.K X.mg E stuckD) := ⟨fun pins s σ H Q I h => by obtain ⟨G, F, ρ, X', P, R, ex, hw, q⟩ := h; exact hw.elim⟩
theorem pa_stuckD {es : List Expr} : PA X es (tAD X.K X.mg E stuckD) := ⟨fun p pins s σ H Q I h => by obtain ⟨G, F, ρ, X', P, R, ex, hw, q⟩ := h; exact hw.elim⟩
theorem pi_stuckD {tg e : Expr} : PI X tg e (tI X.K X.mg E stuckD) := ⟨fun pins s σ H Q I h => by obtain ⟨G, F, ρ, X', P, R, ex, hw, q⟩ := h; exact hw.elim⟩
theorem star_cons {e : Expr} {es : List Expr} {env : Env} (h : starOk e = true) : starEach (e :: es) env = (false, eval e env) :: starEach es env := by
  cases e <;> first | rfl | cases h
theorem pa_argsD {f : Expr → BW} (hf : ∀ e, PE X e (tB X.K X.mg E (f e))) : ∀ es, PA X es (tAD X.K X.mg E (argsD f es))
  | [] => pa_weak pa_nil fun _ _ _ q => tAD_nil q
  | e :: es => by
    unfold argsD
    split
    · rename_i hs
      exact pa_weak (pa_cons (pe_own (hf e)) (pa_argsD hf es) (star_cons hs)) fun _ _ _ q => tAD_cons q
    · exact pa_stuckD
theorem pa_argsB {f : Expr → BW} (hf : ∀ e, PE X e (tB X.K X.mg E (f e))) : ∀ es, PA X es (tA X.K X.mg E (argsB f es))
  | [] => pa_weak pa_nil fun _ _ _ q => tA_nil q
  | e :: es => by
    unfold argsB
    split
    · rename_i hs
      exact pa_weak (pa_cons (hf e) (pa_argsB hf es) (star_cons hs)) fun _ _ _ q => tA_cons q
    · exact ⟨fun p pins s σ H Q I h => by obtain ⟨G, F, ρ, X', P, R, ex, hw, q⟩ := h; exact hw.elim⟩
theorem allStar_back : ∀ {es : List Expr} {env : Env} {pos : Pos}, allStar es = true → (backTo pos (starEach es env)).any (·.1) = false
  | [], _, _, _ => rfl
  | e :: es, env, pos, h => by
    unfold allStar at h
    rw [Bool.and_eq_true] at h
    rw [star_cons h.1]
    show (false || (backTo pos (starEach es env)).any (·.1)) = false
    rw [allStar_back h.2, Bool.false_or]
theorem pe_cmpD {op : CmpOp} {g : G2} {a b : Expr} {wa wb : BW} {pos : Pos} (ho : OpD X (compareOp op) g) (ha : PE X a (tB X.K X.mg E wa)) (hb : PE X b (tB X.K X.mg E wb)) (hm : behindInMarks op b = false) :
    PE X (.Compare a [op] [b] pos) (tB X.K X.mg E (bOp g wa wb)) := pe_weak (pe_cmpR ho ha hb hm) fun _ _ _ q => tB_op q
theorem pt_cmpD {op : CmpOp} {g : G2} {a b : Expr} {wa wb : BW} {pos : Pos} (ho : OpD X (compareOp op) g) (ha : PE X a (tB X.K X.mg E wa)) (hb : PE X b (tB X.K X.mg E wb)) (hm : behindInMarks op b = false) :
    PT X (.Compare a [op] [b] pos) (tT X.K X.mg E (tBl (bOp g wa wb))) := pt_weak (pt_cmpR ho ha hb hm) fun σ H Q q => by
      obtain ⟨G, F, ρ, X', P, R, ex, hw, k⟩ := tT_bl q
      exact tB_op ⟨G, F, ρ, X', P, R, ex, hw, k⟩
theorem od_neg : UnR X (unaryOp .USub) (rD X.K X.mg gNeg) := by
  intro pins s σ H x v Q I rx ⟨G, d, P, sg, hx, g, q⟩
  unfold gNeg at g
  split at g
  · exact un_neg pins s σ H x v Q I rx ⟨_, hx.int, q _ _ G H g (Grow.refl sg) rep_int⟩
  · exact g.elim
theorem chain_t {op op' : CmpOp} {g g' : G2} {a b d : Expr} {wa wb wc : BW} {pos : Pos} (ho : OpD X (compareOp op) g) (ho' : OpD X (compareOp op') g') (ha : PE X a (tB X.K X.mg E wa)) (hb : PE X b (tB X.K X.mg E wb)) (hc : PE X d (tB X.K X.mg E wc)) (hm : lastMarks [op, op'] [b, d] = false) :
    PT X (.Compare a [op, op'] [b, d] pos) (tT X.K X.mg E (tBl (bChain g g' wa wb wc))) := pt_weak (pt_chain ho ho' ha hb hc hm) fun σ H Q q => by
      obtain ⟨G, F, ρ, X', P, R, ex, hw, k⟩ := tT_bl q
      exact tB_chain ⟨G, F, ρ, X', P, R, ex, hw, k⟩
theorem pw_andT {f : Expr → TW} (hf : ∀ e, PT X e (tT X.K X.mg E (f e))) {pos : Pos} : ∀ vs, PW X (.BoolOp .And vs pos) (tT X.K X.mg E (andT f vs))
  | [] => pw_stuckT
  | [a] => pw_and1 (hf a)
  | a :: b :: r => pw_weak (pw_and (hf a) (pw_andT hf (b :: r))) fun _ _ _ q => tT_and q
theorem pw_orT {f : Expr → TW} (hf : ∀ e, PT X e (tT X.K X.mg E (f e))) {pos : Pos} : ∀ vs, PW X (.BoolOp .Or vs pos) (tT X.K X.mg E (orT f vs))
  | [] => pw_stuckT
  | [a] => pw_or1 (hf a)
  | a :: b :: r => pw_weak (pw_or (hf a) (pw_orT hf (b :: r))) fun _ _ _ q => tT_or q
theorem pe_andB {f : Expr → BW} (hf : ∀ e, PE X e (tB X.K X.mg E (f e))) {pos : Pos} : ∀ vs, PE X (.BoolOp .And vs pos) (tB X.K X.mg E (andB f vs))
  | [] => pe_stuckB
  | [a] => pe_one (hf a)
  | a :: b :: r => pe_weak (pe_and (hf a) (pe_andB hf (b :: r))) fun _ _ _ q => tB_and q
theorem pe_orB {f : Expr → BW} (hf : ∀ e, PE X e (tB X.K X.mg E (f e))) {pos : Pos} : ∀ vs, PE X (.BoolOp .Or vs pos) (tB X.K X.mg E (orB f vs))
  | [] => pe_stuckB
  | [a] => pe_one (hf a)
  | a :: b :: r => pe_weak (pe_or (hf a) (pe_orB hf (b :: r))) fun _ _ _ q => tB_or q
theorem po_part {f : Expr → BW} (hf : ∀ e, PE X e (tB X.K X.mg E (f e))) : ∀ o, PO X o (tO X.K X.mg E (partOf f o))
  | none => po_weak po_none fun _ _ _ q => tO_none q
  | some e => po_weak (po_some (hf e)) fun _ _ _ q => tO_some q
theorem lookup_mem {α β : Type} [BEq α] [LawfulBEq α] : ∀ {l : List (α × β)} {x : α} {t : β}, l.lookup x = some t → (x, t) ∈ l
  | [], x, t, h => by simp at h
  | (y, s) :: r, x, t, h => by
    rw [List.lookup_cons] at h
    cases e : x == y with
    | true =>
      have e' : x = y := by simpa using e
      rw [e] at h; cases h; subst e'; exact List.mem_cons_self
    | false => rw [e] at h; exact List.mem_cons_of_mem _ (lookup_mem h)
def btKind : Bt → Value
  | .len => .builtin "len"
  | .all => .builtin "all"
  | .any => .builtin "any"
  | .sum => .builtin "sum"
  | .max => .builtin "max"
  | .min => .builtin "min"
  | .int => .type "int"
  | .bool => .type "bool"
  | .str => .type "str"
  | .tuple => .type "tuple"
  | .list => .type "list"
  | .isinstance => .builtin "isinstance"
  | .sorted => .builtin "sorted"
  | .set => .type "set"
  | .range => .type "range"
  | .zip => .type "zip"
  | .enumerate => .type "enumerate"
theorem boot_all : btTab.all (fun p => decide (bootBuiltins p.1 = some (btKind p.2))) = true := by decide +kernel
theorem boot_of {x : Str} {t : Bt} (e : btTab.lookup x = some t) : bootBuiltins x = some (btKind t) := by
  have := List.all_eq_true.mp boot_all (x, t) (lookup_mem e)
  exact of_decide_eq_true this
theorem bt_name : ∀ {x : Str} {t : Bt}, btTab.lookup x = some t → (x, t) ∈ btTab := fun h => lookup_mem h
theorem enum_name {x : Str} (e : btTab.lookup x = some .enumerate) : x = "enumerate" := by
  have := lookup_mem e
  simp only [btTab, List.mem_cons, Prod.mk.injEq, reduceCtorEq, and_false, and_true, false_or, or_false, List.not_mem_nil] at this
  exact this
theorem range_name {x : Str} (e : btTab.lookup x = some .range) : x = "range" := by
  have := lookup_mem e
  simp only [btTab, List.mem_cons, Prod.mk.injEq, reduceCtorEq, and_false, and_true, false_or, or_false, List.not_mem_nil] at this
  exact this
theorem zip_name {x : Str} (e : btTab.lookup x = some .zip) : x = "zip" := by
  have := lookup_mem e
  simp only [btTab, List.mem_cons, Prod.mk.injEq, reduceCtorEq, and_false, and_true, false_or, or_false, List.not_mem_nil] at this
  exact this
theorem len_name {x : Str} (e : btTab.lookup x = some .len) : x = "len" := by
  have := lookup_mem e
  simp only [btTab, List.mem_cons, Prod.mk.injEq, reduceCtorEq, and_false, and_true, false_or, or_false, List.not_mem_nil] at this
  exact this
theorem set_name {x : Str} (e : btTab.lookup x = some .set) : x = "set" := by
  have := lookup_mem e
  simp only [btTab, List.mem_cons, Prod.mk.injEq, reduceCtorEq, and_false, and_true, false_or, or_false, List.not_mem_nil] at this
  exact this
theorem folded_ok {it : Expr} {env : Env} (h : noSet it = true) : ∀ x, foldedSetIterable it env x = pure x := by
  intro x
  cases it <;> first | rfl | cases h
end
end DL
set_option Elab.async false
set_option linter.all false
set_option maxRecDepth 100000
set_option maxHeartbeats 4000000
namespace DL
open PySem PySem.Spec PyProof.Rows L2
section
variable {c : Ctx} {X : Cx} {sc : Scope} {E : XK}
theorem plainO_ok {o : Expr} {f : Str} {env : Env} (h : plainO o = true) : attributeBase o f env (eval o env) = eval o env := by
  cases o <;> first | rfl | cases h
theorem pt_valD {e : Expr} {w : BW} (ha : PE X e (tB X.K X.mg E w)) (he : ∀ whole, isTrue e X.env whole = (do let v ← whole; standAt e.pos; holding [v] (truthy v))) : PT X e (tT X.K X.mg E (tVal w)) :=
  pt_weak (pt_truth ha he) fun _ _ _ q => tT_val q
end
section
variable {c : Ctx} {X : Cx} {sc : Scope} {E : XK}
def noComp : Expr → Bool
  | .ListComp _ _ _ _ => false
  | .SetComp _ _ _ _ => false
  | .DictComp _ _ _ _ _ => false
  | _ => true
def isLc : Expr → Bool
  | .ListComp _ _ _ _ => true
  | _ => false
def locB (sc : Scope) (x : Str) : Bool := match sc.names.lookup x with
  | some .local => true
  | _ => false
/-- a name's place for a store in a def's own body -/
def locOf (c : Ctx) (sc : Scope) (x : Str) : Option Nat := stOk c sc (fun _ => true) x
theorem ps_stuck {st : Stmt} : PS X st (tS X.K X.mg E stuckS) := ⟨fun pins s σ H D I h => by obtain ⟨G, F, ρ, X', O, R, ex, hw, m⟩ := h; exact hw.elim⟩
theorem pss_stuck {st : List Stmt} : PSs X st (tS X.K X.mg E stuckS) := ⟨fun pins s σ H D I h => by obtain ⟨G, F, ρ, X', O, R, ex, hw, m⟩ := h; exact hw.elim⟩
theorem blk_fun {env : Env} (h : env.scope.kind = .function) : env.blockKind = .function := by unfold Env.blockKind; rw [h]; rfl
theorem sw_none {e : Expr} {l : Nat} {env : Env} (h : noComp e = true) : swapsWith e none l env = pure false := by
  cases e <;> first | rfl | cases h
theorem sw_name {e : Expr} {t : Option Expr} {l : Nat} {env : Env} (h : noComp e = true) : swapsWith e t l env = pure false := by
  cases e <;> first | rfl | cases h
theorem locB_ok {sc : Scope} {x : Str} (h : locB sc x = true) : sc.names.lookup x = some .local := by
  unfold locB at h
  split at h
  · assumption
  · cases h
end
section
variable {K : PySem.W.Frag} {mg : Str → Option Value} {G F H : Hp}
abbrev fuE : Nat := 40
abbrev fuS : Nat := 60
def startS (N : List Str) (ds : List D) : List SV := ds.map .dat ++ List.replicate (N.length - ds.length) .un
def startM (N : List Str) (a : Addr) (d0 : List D) (ds : List D) : List SV := .cel a d0 :: (ds.map .dat ++ List.replicate (N.length - (ds.length + 1)) .un)
def oPur (P : D → Prop) : OW := { nx := fun _ => P .none, rt := fun d _ => P d, bk := fun _ => False, ct := fun _ => False }
def oMut (a : Addr) (P : D → List D → Prop) : OW := { nx := fun ρ => ∃ d1, ρ[0]? = some (.cel a d1) ∧ P .none d1, rt := fun d ρ => ∃ d1, ρ[0]? = some (.cel a d1) ∧ P d d1, bk := fun _ => False, ct := fun _ => False }
def oIni (k : List SV → Prop) : OW := { nx := k, rt := fun _ _ => False, bk := fun _ => False, ct := fun _ => False }
theorem rel_start {N : List Str} : ∀ {ds : List D} {vs : List V}, Same G H → NoTb G → Zt K H → RepL K mg G ds vs → Rel K mg G (nT H) (startS N ds) (L2.start N vs) H := by
  intro ds vs sg ng zt r
  have sf := nT_same H
  have hl := r.length
  have nocel : ∀ {j : Nat} {a : Addr} {es : List D}, (startS N ds)[j]? ≠ some (.cel a es) := fun {j a es} h => by
    unfold startS at h
    rw [List.getElem?_append] at h
    split at h
    · rw [List.getElem?_map] at h
      cases e : ds[j]? with
      | none => rw [e] at h; cases h
      | some d => rw [e] at h; cases h
    · rw [List.getElem?_replicate] at h
      split at h <;> cases h
  refine ⟨sg, sf, ?_, fun j s hj => ?_, fun j k b es fs hj hk => absurd hj nocel, ng, NoTb.nT, zt⟩
  · unfold startS L2.start
    simp [hl]
  · unfold startS at hj
    rw [List.getElem?_append] at hj
    split at hj
    · rename_i hlt
      rw [List.getElem?_map] at hj
      cases e : ds[j]? with
      | none => rw [e] at hj; cases hj
      | some d =>
        rw [e] at hj
        cases hj
        obtain ⟨v, hv, rv⟩ := r.get e
        refine ⟨v, ?_, rv⟩
        unfold L2.start
        have hj2 : j < vs.length := by rw [← hl]; simpa using hlt
        rw [List.getElem?_append_left (by simpa using hj2), List.getElem?_map, hv]
        rfl
    · rw [List.getElem?_replicate] at hj
      split at hj
      · cases hj; trivial
      · cases hj
theorem rel_startM {N : List Str} {a : Addr} {d0 ds : List D} {us ws : List V} (sg : Same G H) (ng : NoTb G) (zt : Zt K H) (ha : H a = some (.lst us)) (ga : G a = none) (r0 : RepL K mg G d0 us) (r : RepL K mg G ds ws) :
    Rel K mg G (off (nT H) a) (startM N a d0 ds) (L2.start N (.ref a :: ws)) H := by
  have hl := r.length
  have cel : ∀ {j : Nat} {b : Addr} {es : List D}, (startM N a d0 ds)[j]? = some (.cel b es) → j = 0 := fun {j b es} h => by
    unfold startM at h
    cases j with
    | zero => rfl
    | succ j =>
      rw [List.getElem?_cons_succ, List.getElem?_append] at h
      split at h
      · rw [List.getElem?_map] at h
        cases e : ds[j]? with
        | none => rw [e] at h; cases h
        | some d => rw [e] at h; cases h
      · rw [List.getElem?_replicate] at h
        split at h <;> cases h
  refine ⟨sg, fun b o q => ?_, ?_, fun j s hj => ?_, fun j k b es fs hj hk => by rw [cel hj, cel hk], ng, fun b ps e => ?_, zt⟩
  rotate_right
  · have hb : b ≠ a := by rintro rfl; rw [off_at] at e; cases e
    rw [off_ne hb] at e; exact NoTb.nT b ps e
  · have hb : b ≠ a := by rintro rfl; rw [off_at] at q; cases q
    rw [off_ne hb] at q; exact nT_same _ _ _ q
  · unfold startM L2.start
    simp [hl]
  · unfold startM at hj
    cases j with
    | zero =>
      simp at hj
      subst hj
      exact ⟨rfl, us, ha, r0, ga, off_at⟩
    | succ j =>
      rw [List.getElem?_cons_succ, List.getElem?_append] at hj
      split at hj
      · rw [List.getElem?_map] at hj
        cases e : ds[j]? with
        | none => rw [e] at hj; cases hj
        | some d =>
          rw [e] at hj
          cases hj
          obtain ⟨v, hv, rv⟩ := r.get e
          refine ⟨v, ?_, rv⟩
          unfold L2.start
          have hj2 : j < ws.length := (List.getElem?_eq_some_iff.mp hv).1
          rw [List.map_cons, List.cons_append, List.getElem?_cons_succ, List.getElem?_append_left (by simpa using hj2), List.getElem?_map, hv]
          rfl
      · rw [List.getElem?_replicate] at hj
        split at hj
        · cases hj; trivial
        · cases hj
end
end DL
set_option Elab.async false
set_option linter.all false
set_option maxRecDepth 100000
set_option maxHeartbeats 4000000
namespace DL
open PySem PySem.Spec PyProof.Rows L2

/-! ### while an exception is handled: lists walked, tuples taken apart -/
section
variable {prog : Program} {w : World} {A : Around} {E : Value → Shared → Prop} {s : Shared}
theorem hot_up {x1 it : Addr} {h h' : Heap} (hot : HotX.HotAt A x1 h) (k : Heap.ExtBut it h h') (ne : x1 ≠ it) : HotX.HotAt A x1 h' := by
  obtain ⟨a1, o1, vs1, h1, d1, c1⟩ := hot
  exact ⟨a1, o1, vs1, k _ _ ne h1, d1, c1⟩
/-- StopIteration, made and thrown away -/
theorem stop_hot {α : Type} {x1 : Addr} {h0 : Heap} {it : Addr} (hot : HotX.HotAt A x1 s.heap) (back : Heap.ExtBut it h0 s.heap) {E' : Value → Shared → Prop} {P : α → Shared → Prop}
    (hE : ∀ (h' : Heap) (a : Addr), Heap.ExtBut it h0 h' → (Shared.TypeIs { s with heap := h' } (.ref a) "StopIteration") → E' (.ref a) { s with heap := h' }) :
    wpAny (model prog w) A (newExc (.type "StopIteration") [] >>= fun v => (raiseNew v : Sem α)) P E' s := by
  obtain ⟨hh, o1, vs1, h1, d1, c1⟩ := hot
  refine wpAny_bind ?_
  simp only [newExc, newTuple]
  refine wpAny_bind (wpAny_newObj_type (T := "tuple") ?_ (by size_fits))
  refine wpAny_bind (m := firstArgMember _ _) (wpAny_of_eq (a := Value.none) (by first | rfl | (simp only [firstArgMember]; rfl)) ?_)
  refine wpAny_newObj_type (T := "StopIteration") ?_ (by size_fits)
  refine HotX.raiseNew_hot ⟨hh, o1, vs1, Heap.get?_push_of_some _ (Heap.get?_push_of_some _ h1), d1, c1⟩ (Nat.ne_of_lt (Heap.lt_size (Heap.get?_push_of_some _ h1))) (Heap.get?_push_size _ rfl) rfl (by first | (simp; done) | (simp; omega) | (simp only [Array.size_append]; simp; omega)) ?_
  refine hE _ _ (fun b o hb e => ?_) ⟨_, Heap.get?_update_self _ (Heap.get?_push_size _ rfl) rfl, rfl⟩
  have e1 := back b o hb e
  rw [Heap.get?_update_other _ _ (Nat.ne_of_gt (Heap.lt_size (Heap.get?_push_of_some _ e1)))]
  exact Heap.get?_push_of_some _ (Heap.get?_push_of_some _ e1)
theorem list_end_hot {it l x1 : Addr} {i : Nat} {items : Array Value} {Q : Option Value → Shared → Prop} (hot : HotX.HotAt A x1 s.heap) (ne : x1 ≠ it) (hit : s.heap.IsListIter it l i) (hl : s.heap.IsList l items) (hx : items[i]? = none)
    (hQ : ∀ h', Heap.ExtBut it s.heap h' → Q none { s with heap := h' }) : wpAny (model prog w) A (pyNext (.ref it)) Q E s := by
  obtain ⟨oi, hoi, hci, hdi⟩ := id hit
  obtain ⟨oq, hoq, _, nq, hdq⟩ := hl
  unfold pyNext
  refine wpAny_bind (wpAny_attempt (wpAny_callSpecial?_slot (name := Str.ofString "__next__") hit.typeIs slot_listiter_next (wpAny_call_entry slot_listiter_next hit.typeIs entry_listiter_next ?_ (args_listiter_next _))))
  show wpAny _ _ (field (.ref it) 0 >>= _) _ _ s
  refine wpAny_bind (wpAny_field hoi hdi (x := .ref l) rfl ?_)
  show wpAny _ _ (if (Value.ref l == Value.none) = true then _ else _) _ _ s
  rw [if_neg (show ¬ ((Value.ref l == Value.none) = true) from nofun)]
  show wpAny _ _ (field (.ref it) 1 >>= _) _ _ s
  refine wpAny_bind (wpAny_field hoi hdi (x := .int i 0) rfl ?_)
  show wpAny _ _ (seqItems? (.ref l) >>= _) _ _ s
  refine wpAny_bind (wpAny_seqItems hoq hdq ?_)
  simp only [Int.toNat_natCast, hx]
  refine wpAny_bind (wpAny_rule (wpAny_bind (wpAny_setField hoi hdi (by simp) ?_)))
  have up : Heap.ExtBut it s.heap _ := (Heap.SameBut.update s.heap it (Obj.mapFields (·.setIfInBounds 0 .none))).extBut
  refine stop_hot (s := { s with heap := s.heap.update it (Obj.mapFields (·.setIfInBounds 0 .none)) }) (x1 := x1) (h0 := s.heap) (it := it) (show HotX.HotAt A.in1 x1 _ from hot_up hot up ne) up fun h' a k t => ?_
  refine wpAny_bind (wpAny_isInstance (T := "StopIteration") (b := true) t isSubtype_stop ?_)
  exact wpAny_pure (hQ h' k)
theorem tup_end_hot {it t x1 : Addr} {i : Nat} {items : Array Value} {Q : Option Value → Shared → Prop} (hot : HotX.HotAt A x1 s.heap) (ne : x1 ≠ it) (hit : IsTupIter s.heap it t i) (ht : IsTup s.heap t items) (hx : items[i]? = none)
    (hQ : ∀ h', Heap.ExtBut it s.heap h' → Q none { s with heap := h' }) : wpAny (model prog w) A (pyNext (.ref it)) Q E s := by
  obtain ⟨oi, hoi, hci, hdi⟩ := id hit
  obtain ⟨oq, hoq, _, nq, hdq⟩ := ht
  unfold pyNext
  refine wpAny_bind (wpAny_attempt (wpAny_callSpecial?_slot (name := Str.ofString "__next__") hit.typeIs slot_tupleiter_next (wpAny_call_entry slot_tupleiter_next hit.typeIs entry_tupleiter_next ?_ (args_tupleiter_next _))))
  show wpAny _ _ (field (.ref it) 0 >>= _) _ _ s
  refine wpAny_bind (wpAny_field hoi hdi (x := .ref t) rfl ?_)
  show wpAny _ _ (if (Value.ref t == Value.none) = true then _ else _) _ _ s
  rw [if_neg (show ¬ ((Value.ref t == Value.none) = true) from nofun)]
  show wpAny _ _ (field (.ref it) 1 >>= _) _ _ s
  refine wpAny_bind (wpAny_field hoi hdi (x := .int i 0) rfl ?_)
  show wpAny _ _ (seqItems? (.ref t) >>= _) _ _ s
  refine wpAny_bind (wpAny_seqItems hoq hdq ?_)
  simp only [Int.toNat_natCast, hx]
  refine wpAny_bind (wpAny_rule (wpAny_bind (wpAny_setField hoi hdi (by simp) ?_)))
  have up : Heap.ExtBut it s.heap _ := (Heap.SameBut.update s.heap it (Obj.mapFields (·.setIfInBounds 0 .none))).extBut
  refine stop_hot (s := { s with heap := s.heap.update it (Obj.mapFields (·.setIfInBounds 0 .none)) }) (x1 := x1) (h0 := s.heap) (it := it) (show HotX.HotAt A.in1 x1 _ from hot_up hot up ne) up fun h' a k t => ?_
  refine wpAny_bind (wpAny_isInstance (T := "StopIteration") (b := true) t isSubtype_stop ?_)
  exact wpAny_pure (hQ h' k)
/-- a tuple taken apart -/
theorem parts_hot {t x1 : Addr} {items : Array Value} {Q : List Value → Shared → Prop} (hot : HotX.HotAt A x1 s.heap) (ht : IsTup s.heap t items)
    (hQ : ∀ h', Heap.ExtBut s.heap.objs.size s.heap h' → Q items.toList { s with heap := h' }) : wpAny (model prog w) A (unpackItems (.ref t) items.size none) Q E s := by
  have lt : t ≠ s.heap.objs.size := by obtain ⟨o, ho, _⟩ := ht; exact Nat.ne_of_lt (Heap.lt_size ho)
  have lx : x1 ≠ s.heap.objs.size := by obtain ⟨_, o, _, ho, _⟩ := hot; exact Nat.ne_of_lt (Heap.lt_size ho)
  unfold unpackItems
  refine wpAny_bind ?_
  unfold notIterableAtAll
  refine wpAny_bind (wpAny_specialOf ht.typeIs slot_tuple_iter.lookup ?_)
  refine wpAny_pure ?_
  simp only [Bool.false_eq_true, if_false]
  refine wpAny_bind (wpAny_holding (iter_tuple ht ?_))
  refine wpAny_bind (wpAny_holding (draw_tuple lt items.size 0 _ _ ⟨_, Heap.get?_push_size _ rfl, rfl, rfl⟩ (ht.push _) (by omega) fun ha hi1 hs1 => ?_))
  have all : List.take items.size (List.drop 0 items.toList) = items.toList := by
    rw [List.drop_zero]; exact List.take_of_length_le (by simp)
  rw [all, if_neg (by simp)]
  have up : Heap.ExtBut s.heap.objs.size s.heap ha := fun b o hb e => hs1.extBut b o hb (Heap.get?_push_of_some _ e)
  refine wpAny_bind (wpAny_holding (tup_end_hot (s := { s with heap := ha }) (hot_up hot up lx) lx hi1 ((ht.push _).extBut hs1.extBut lt) (by simp) fun hb he => ?_))
  simp only [Option.isSome_none, Bool.false_eq_true, if_false]
  exact wpAny_pure (hQ hb fun b o z e => he b o z (up b o z e))
theorem assign_tup_hot {env : Env} {elts : List Expr} {k : Nat} {pos : Pos} {t x1 : Addr} {items : Array Value} {Q : Unit → Shared → Prop} (hot : HotX.HotAt A x1 s.heap) (ht : IsTup s.heap t items)
    (hn : (assignEach elts env).length = items.size) (hstar : (assignEach elts env).findIdx? (·.1) = none)
    (h : ∀ h', Heap.ExtBut s.heap.objs.size s.heap h' → wpAny (model prog w) A (assignInOrder ((assignEach elts env).map (·.2)) items.toList) Q E { s with heap := h' }) :
    wpAny (model prog w) A (assign (.Tuple elts k pos) env (.ref t)) Q E s := by
  rw [assign_Tuple]
  refine wpAny_bind (wpAny_standAt ?_)
  unfold unpack
  rw [hn, hstar]
  exact wpAny_bind (wpAny_holding (parts_hot hot ht h))
end
/-- what keeps an exception in sight -/
structure Lit (X : Cx) (a : Addr) (oe : Obj) : Prop where
  han : X.A.handled = some (.ref a)
  ctx : ∃ vs : Array Value, oe.data = .fields vs ∧ vs[2]? = some .none
  see : ∀ {pins : List (Addr × Obj)} {σ : L2.St} {H : Hp} {s : Shared}, Inv X pins σ H s → s.heap.get? a = some oe
theorem Lit.hot {X : Cx} {a : Addr} {oe : Obj} (l : Lit X a oe) {pins : List (Addr × Obj)} {σ : L2.St} {H : Hp} {s : Shared} (I : Inv X pins σ H s) : HotX.HotAt X.A a s.heap := by
  obtain ⟨vs, d, c⟩ := l.ctx
  exact ⟨l.han, oe, vs, l.see I, d, c⟩
theorem lit_pin {X : Cx} {a : Addr} {oe : Obj} (h : X.A.handled = some (.ref a)) (c : ∃ vs : Array Value, oe.data = .fields vs ∧ vs[2]? = some .none) (hp : (a, oe) ∈ X.pn) : Lit X a oe :=
  ⟨h, c, fun I => (I.pin (a, oe) (List.mem_append_left _ hp)).1⟩
section
variable {X : Cx}
theorem pg_tup_hot {a : Addr} {oe : Obj} (l : Lit X a oe) {es : List Expr} {k : Nat} {pos : Pos} {is : List Nat} (h : PGs X es (tGs X.K X.mg is)) (hn : (assignEach es X.env).length = is.length) (hst : (assignEach es X.env).findIdx? (·.1) = none) :
    PG X (.Tuple es k pos) (gTup X.K is.length (tGs X.K X.mg is)) := by
  refine ⟨fun pins s σ H v u Q I r hw => ?_⟩
  obtain ⟨b, xs, e1, hq, hl, hw⟩ := hw
  subst e1
  cases r
  obtain ⟨its, rv, ht, hz⟩ := I.tuple hq
  refine assign_tup_hot (l.hot I) ht (by simp [hn, ← hl, rv.length]) hst fun h' hx => ?_
  have I1 : Inv X pins σ H { s with heap := h' } := I.kept (t' := s.toks) fun b o e => hx b o (Nat.ne_of_lt (Heap.lt_size e)) e
  exact h.run pins _ σ H xs _ Q I1 (by simpa using rv) hw
/-! ### a comprehension over a list, while an exception is handled -/
def iSl (K : PySem.W.Frag) (t0 : TE) : TI := fun σ H R => t0 σ H fun x H1 => ∃ (a : Addr) (xs : List V), x = .ref a ∧ SqL K H1 a xs ∧ R (Itl K a) H1
theorem lit_blk {a0 : Addr} {oe : Obj} (l : Lit X a0 oe) {s : Shared} {H : Hp} {scope : Scope} {ce : Env} {fp : List Addr} (h1 : s.heap.get? a0 = some oe) (h2 : H a0 = none) (h3 : a0 ∉ frs X.stack) (h4 : a0 ∉ fp) : Lit (X.blk s H scope ce fp) a0 oe :=
  ⟨l.han, l.ctx, fun J => J.base.keep a0 oe h1 h2 h3 h4⟩
theorem lc_hot {pins : List (Addr × Obj)} {s : Shared} {σ : L2.St} {H : Hp} {Q : VK} {elt tg iter : Expr} {ifs : List Expr} {scope : Scope} {own : List (Str × Nat)} {pos : Pos} {t0 : TE} {g : TG} {tt : TT} {te : TE} {a0 : Addr} {oe : Obj}
    (lt : Lit X a0 oe) (hp : (a0, oe) ∈ X.pn) (hN : X.N.Nodup) (I : Inv X pins σ H s) (hi : PE X iter t0) (ok : BlkOk X.N X.env.scope scope own)
    (hg : ∀ (s : Shared) (H : Hp) (C : Addr) (cl : List (Str × Addr)) (fp : List Addr), Lit (X.blk s H scope (compEnvC scope cl C X.env) fp) a0 oe → PG (X.blk s H scope (compEnvC scope cl C X.env) fp) tg g)
    (ht : ∀ (s : Shared) (H : Hp) (C : Addr) (cl : List (Str × Addr)) (fp : List Addr), Lit (X.blk s H scope (compEnvC scope cl C X.env) fp) a0 oe → PTs (X.blk s H scope (compEnvC scope cl C X.env) fp) ifs tt)
    (he : ∀ (s : Shared) (H : Hp) (C : Addr) (cl : List (Str × Addr)) (fp : List Addr), Lit (X.blk s H scope (compEnvC scope cl C X.env) fp) a0 oe → PE (X.blk s H scope (compEnvC scope cl C X.env) fp) elt te) (hs : ∀ x, foldedSetIterable iter X.env x = pure x)
    (h : tLc (iSl X.K t0) g tt te (own.map (·.2)) σ H Q) : wpAny (model X.prog X.w) X.A (eval (.ListComp elt [⟨tg, iter, ifs, 0⟩] scope pos) X.env) (EP X pins σ Q) X.xe s := by
  have hfr : ∀ y ∈ scope.names, y.2 = .free → ∃ c, X.env.cells.lookup y.1 = some c := fun y hy e => (ok.free y hy e).elim (fun k => I.ok.has _ (.inl k)) fun k => I.ok.has _ (.inr k)
  rw [eval_ListComp]
  refine wpAny_comprehension_free (use := none) rfl hs (closure_ok hfr) ok.kind (fun y hy e => by rw [ok.uniq y hy, e]) (thn (hi.run pins s σ H _ I h) fun xv s1 ⟨xl, H2, I1, r1, al, xs, exl, hql, q⟩ => ?_)
  subst exl
  cases r1
  obtain ⟨its1, rv1, pl1, hz1⟩ := I1.list hql
  refine wpAny_pyIter_list pl1.isList ?_
  -- the iterator
  generalize hit : s1.heap.objs.size = it
  generalize hs2 : ({ s1 with heap := s1.heap.push { cls := .type "list_iterator", data := .fields #[.ref al, .int 0 0] } } : Shared) = s2
  have I2 : Inv X pins σ H2 s2 := by rw [← hs2]; exact I1.kept (t' := s1.toks) fun b o e => Heap.get?_push_of_some _ e
  have st2 : s2.heap.IsListIter it al 0 := by rw [← hs2, ← hit]; exact ⟨_, Heap.get?_push_size _ rfl, rfl, rfl⟩
  have fI : FpOk X pins H2 it := by rw [← hit]; exact I1.fpOk (Nat.le_refl _) (I1.hok.fresh (Nat.le_refl _))
  have ltI : it < s2.heap.objs.size := by obtain ⟨o, e, _⟩ := st2; exact Heap.lt_size e
  refine wpAny_newObj_type (newEnv_comp ?_) (by show 0 ≤ sizeLine; decide)
  generalize hD : s2.heap.objs.size = Dl
  have hDn : H2 Dl = none := I2.hok.fresh (Nat.le_of_eq hD)
  obtain ⟨W, ⟨m0, w0⟩, turn⟩ := q Dl hDn
  generalize hs3 : ({ s2 with heap := s2.heap.push { cls := .type "list", data := .seq ([] : List Value).toArray } } : Shared) = s3
  have h3 : s3.heap = s2.heap.push { cls := .type "list", data := .seq ([] : List Value).toArray } := by rw [← hs3]
  have I3 : Inv X pins σ (upd H2 Dl (.lst [])) s3 := by
    rw [← hs3]
    refine I2.laid (t' := s2.toks) (fun b o z => Heap.get?_push_of_some _ z) (Nat.le_of_eq hD) ⟨Nat.zero_le _, [], 0, .nil, ?_⟩
    rw [← hD]; exact Heap.get?_push_size _ rfl
  have f3 : ∀ b ∈ [it], FpOk X pins (upd H2 Dl (.lst [])) b ∧ b < s3.heap.objs.size := fun b hb => by
    have eb : b = it := by simpa using hb
    subst eb
    refine ⟨⟨?_, fI.2⟩, by rw [h3, Heap.size_push]; exact Nat.lt_succ_of_lt ltI⟩
    rw [upd_ne (by rw [← hD]; exact Nat.ne_of_lt ltI)]; exact fI.1
  have keepIt : ∀ {i : Nat} {h h' : Heap}, h.IsListIter it al i → (∀ o, h.get? it = some o → h'.get? it = some o) → h'.IsListIter it al i := fun st k => st.at k
  have st3 : s3.heap.IsListIter it al 0 := keepIt st2 fun o e => by rw [h3]; exact Heap.get?_push_of_some _ e
  have I4 := block_start I3 ok hN f3
  -- the exception is still seen
  have see3 : s3.heap.get? a0 = some oe := lt.see I3
  have P3 := I3.pin (a0, oe) (List.mem_append_left _ hp)
  have a0f : a0 ∉ frs X.stack := fun hm => (List.mem_cons.mp (I3.stkSub a0 hm)).elim P3.2.2.1 P3.2.2.2.1
  have a0it : a0 ∉ [it] := fun hm => by
    have e : a0 = it := by simpa using hm
    obtain ⟨o1, e1, c1, d1⟩ := st2
    have k := lt.see I2
    rw [e, e1] at k
    cases k
    have P2 := I1.pin (a0, oe) (List.mem_append_left _ hp)
    have := Heap.lt_size P2.1
    rw [e, ← hit] at this
    exact absurd this (Nat.lt_irrefl _)
  have lB := fun (cl : List (Str × Addr)) (C : Addr) => lit_blk lt (s := s3) (H := upd H2 Dl (.lst [])) (scope := scope) (ce := compEnvC scope cl C X.env) (fp := [it]) see3 P3.2.1 a0f a0it
  have pg := hg s3 (upd H2 Dl (.lst [])) s3.heap.objs.size (cellsFrom (s3.heap.objs.size + 1) scope.names (cloFrom X.env.cells scope.names [])) [it] (lB _ _)
  have pt := ht s3 (upd H2 Dl (.lst [])) s3.heap.objs.size (cellsFrom (s3.heap.objs.size + 1) scope.names (cloFrom X.env.cells scope.names [])) [it] (lB _ _)
  have pe := he s3 (upd H2 Dl (.lst [])) s3.heap.objs.size (cellsFrom (s3.heap.objs.size + 1) scope.names (cloFrom X.env.cells scope.names [])) [it] (lB _ _)
  have lX := lB (cellsFrom (s3.heap.objs.size + 1) scope.names (cloFrom X.env.cells scope.names [])) s3.heap.objs.size
  show codeAny _ _ (.compStart (.ListComp elt [⟨tg, iter, ifs, 0⟩] scope pos) 0 (.ref it) (.ref Dl) (compEnvC scope (cellsFrom (s3.heap.objs.size + 1) scope.names (cloFrom X.env.cells scope.names [])) s3.heap.objs.size X.env)) (compPost (model X.prog X.w) X.A X.xe none (EP X pins σ Q) (.ref Dl) s3.heap.objs.size) { s3 with heap := pushCells (s3.heap.push { cls := .type "dict", data := .dict #[] }) scope.names }
  have nIt : (upd H2 Dl (.lst [])) it = none := (f3 it (by simp)).1.1
  generalize hce : compEnvC scope (cellsFrom (s3.heap.objs.size + 1) scope.names (cloFrom X.env.cells scope.names [])) s3.heap.objs.size X.env = ce at I4 pg pt pe lX ⊢
  have cL : ce.locals = s3.heap.objs.size := by subst hce; rfl
  generalize hH3 : upd H2 Dl (.lst []) = H3 at I3 I4 pg pt pe lX w0 nIt f3
  generalize hs4 : ({ s3 with heap := pushCells (s3.heap.push { cls := .type "dict", data := .dict #[] }) scope.names } : Shared) = s4 at I4 ⊢
  have st4 : s4.heap.IsListIter it al 0 := keepIt st3 fun o e => by rw [← hs4]; exact pushCells_keeps _ _ _ _ (Heap.get?_push_of_some _ e)
  have stat : ∀ {σ' : L2.St} {H' : Hp} {s' : Shared}, Inv (X.blk s3 H3 scope ce [it]) [] σ' H' s' → H' it = none → ∀ b ∈ [it], FpOk (X.blk s3 H3 scope ce [it]) [] H' b := fun {σ' H' s'} J hn b hb => by
    have eb : b = it := by simpa using hb
    exact ⟨by rw [eb]; exact hn, (J.ok.exf b hb).1, J.ok.exfs b hb, .inl hb, fun x c e => (J.ok.exf b hb).2 x c e, fun p hp => absurd (show p ∈ ([] : List (Addr × Obj)) ++ [] from hp) (by simp)⟩
  have loop : codeAny (model X.prog X.w) X.A (.compLoop (.ListComp elt [⟨tg, iter, ifs, 0⟩] scope pos) 0 (.ref it) (.ref Dl) ce) (compPost (model X.prog X.w) X.A X.xe none (EP X pins σ Q) (.ref Dl) s3.heap.objs.size) s4 := by
    refine compLoop_any (fun n s' => ∃ i H', Inv (X.blk s3 H3 scope ce [it]) [] (wipe σ (own.map (·.2))) H' s' ∧ s'.heap.IsListIter it al i ∧ H' it = none ∧ W i n H') ?_ m0 ⟨0, H3, I4, st4, nIt, w0⟩
    rintro n s5 ⟨i, H5, I5, st5, n5, w5⟩
    obtain ⟨f0, f1, f2, f4, f6, f7⟩ := stat I5 n5 it (by simp)
    have a0ne : a0 ≠ it := fun e => a0it (by simp [e])
    rcases turn i n H5 w5 with ⟨⟨ys, hq5, hx5⟩, qq⟩ | ⟨⟨ys, y0, hq5, hx5⟩, Nx, hNx, step⟩
    · obtain ⟨its, rv, pl, hz⟩ := I5.list hq5
      have hl := rv.length
      refine list_end_hot (lX.hot I5) a0ne st5 pl.isList (by simp; omega) fun h' eb => ?_
      have I6 : Inv (X.blk s3 H3 scope ce [it]) [] (wipe σ (own.map (·.2))) H5 { s5 with heap := h' } := I5.turned (t' := s5.toks) (fun b o hb e => eb b o hb e) f0 f1 f4 f6 f7
      have I7 : Inv X pins σ H5 { s5 with heap := h' } := I3.call' (ch := [it]) I6.os I6.base I6.hok I6.bare fun b hb => ⟨(f3 b hb).1.2.2.2.1, (f3 b hb).1.2.1, (f3 b hb).1.2.2.2.2.1, (f3 b hb).1.2.2.2.2.2⟩
      have nC : H5 s3.heap.objs.size = none := by
        have z : H5 ce.locals = none := I6.free
        rw [cL] at z; exact z
      obtain ⟨m, hn, _⟩ := I6.loc
      have hn : h'.Ns ce.locals m := hn
      rw [cL] at hn
      obtain ⟨k0, k1, k2, k3, k4, k5⟩ := I3.fpOk (Nat.le_refl _) nC
      exact ⟨m, hn, fun h'' sb => ⟨.ref Dl, H5, I7.turned (t' := s5.toks) (fun b o hb e => (sb.2 b hb).trans e) k0 k1 k3 k4 k5, rfl, qq⟩⟩
    · obtain ⟨its, rv, pl, hz⟩ := I5.list hq5
      obtain ⟨u, hu, ru⟩ := rv.get hx5
      refine wpAny_pyNext_list_item st5 pl.isList (x := u) (by simpa using hu) fun h' st6 sb => ?_
      have I6 : Inv (X.blk s3 H3 scope ce [it]) [] (wipe σ (own.map (·.2))) H5 { s5 with heap := h' } := I5.turned (t' := s5.toks) (fun b o hb e => (sb.2 b hb).trans e) f0 f1 f4 f6 f7
      obtain ⟨o6, e6, c6, d6⟩ := id st6
      refine go_of (s := { s5 with heap := h' }) e6 c6 d6 (by decide) ?_
      have I6' := I6.pinned (stat I6 n5) fun b hb => by
        have eb : b = it := by simpa using hb
        subst eb
        exact ⟨o6, e6, fun v z => by rw [d6] at z; cases z⟩
      refine thnF (pg.run _ _ _ H5 y0 u _ I6' ru (step y0 H5 ⟨rfl, fun zs hy => by rw [I6.list_inj hy hq5]; exact hx5⟩)) fun _ s8 ⟨σ8, H8, I8, hw8, q8⟩ => ?_
      refine thnF (pt.run _ s8 σ8 H8 _ I8 q8) fun b s9 ⟨H9, I9, q9⟩ => ?_
      have fin : ∀ {s' : Shared} {H' : Hp}, Inv (X.blk s3 H3 scope ce [it]) ([] ++ pinsAt [it] h') σ8 H' s' → Nx H' → ∃ m, m < n ∧ ∃ i H', Inv (X.blk s3 H3 scope ce [it]) [] (wipe σ (own.map (·.2))) H' s' ∧ s'.heap.IsListIter it al i ∧ H' it = none ∧ W i m H' := fun {s' H'} J nx => by
        obtain ⟨m', hm, w'⟩ := hNx H' nx
        have pin' := J.pin (it, o6) (List.mem_append_right _ (List.mem_append_right _ (mem_pinsAt (by simp) e6)))
        have hl : (wipe σ (own.map (·.2))).length = σ8.length := by rw [← hw8, wipe_length]
        refine ⟨m', hm, i + 1, H', (J.unpinned (pins := [])).weak hl (fun j v e => ?_), keepIt st6 fun o e => ?_, pin'.2.1, w'⟩
        · rw [← hw8] at e
          exact (wipe_some e).1
        · have := e6.symm.trans e
          cases this
          exact pin'.1
      cases b with
      | false =>
        simp only [Bool.false_eq_true, if_false] at q9 ⊢
        exact fin I9 q9
      | true =>
        simp only [if_true] at q9 ⊢
        refine thnF (pe.run _ s9 σ8 H9 _ I9 q9) fun z s10 ⟨yv, H10, I10, r10, acc, hD10, hz10, nx⟩ => ?_
        exact app_ok (X := X.blk s3 H3 scope ce [it]) I10 hD10 hz10 r10 fun s11 I11 => fin I11 nx
  exact codeAny_compStart_list loop (wpAny_pyIter_listiter st4 loop)
end
end DL
set_option Elab.async false
set_option linter.all false
set_option maxRecDepth 100000
set_option maxHeartbeats 4000000
namespace DL
open PySem PySem.Spec PyProof.Rows L2

/-! ### the def that names an error, called while it is handled -/
def bIsE (a : Addr) (b : Bool) : BW := fun _ ρ P => ρ[0]? = some (.dat (adD a)) ∧ P (.val (.bool b)) ρ
def iLst (w : DW) : DA := fun X ρ P => w X ρ fun d ρ1 => match d with
  | .list ds => P ds ρ1
  | _ => False
def gTt (is : List Nat) : GW := fun d ρ P => match d with
  | .tuple ds => setAll is ds ρ P
  | _ => False
def joinE (o : Expr) (f : Str) (ap p : Pos) : Bool := plainO o && decide (f = ("join" : Str)) && (ap.endLine == p.line)
/-- what is asked of the text there (ans: isinstance of the error, by the class's name) -/
def hB (c : Ctx) (sc : Scope) (e0 : Str) (a : Addr) (ans : List (Str × Bool)) : Nat → Expr → BW
  | 0, _ => stuckB
  | n + 1, e => match e with
    | .Constant (.str x) _ _ => bC (.str x)
    | .Name x _ => match slotOf c sc x with
      | some i => bVar i
      | none => stuckB
    | .Tuple es _ _ => bTup (argsD (hB c sc e0 a ans n) es)
    | .List es _ => frz (fLst (argsD (hB c sc e0 a ans n) es))
    | .BinOp l .Add r _ => bOp qAdd (hB c sc e0 a ans n l) (hB c sc e0 a ans n r)
    | .Call (.Name x _) [.Name y _, .Name z _] [] _ => if isGl sc x && decide (btTab.lookup x = some .isinstance) && decide (y = e0) && decide (slotOf c sc y = some 0) && isGl sc z then (match ans.lookup z with
      | some b => bIsE a b
      | none => stuckB) else stuckB
    | .Call (.Attribute o f ap) [.ListComp (.Name x _) [⟨.Tuple ts k tp, it, [.Name y _], 0⟩] scope lp] [] p =>
      if joinE o f ap p && blkC c.N sc scope (ownOf c scope) && noSet it then (match tgNames c (relS scope sc) (fnBlk scope) ts, slotOf c (relS scope sc) x, slotOf c (relS scope sc) y with
        | some is, some i, some j => if (is.all fun i => ((ownOf c scope).map (·.2)).contains i) then
          bJoin (hB c sc e0 a ans n o) (frz (fComp (iLst (own (hB c sc e0 a ans n it))) (gTt is) (tVal (bVar j)) (own (bVar i)) ((ownOf c scope).map (·.2)))) else stuckB
        | _, _, _ => stuckB) else stuckB
    | _ => stuckB
def hSs (c : Ctx) (sc : Scope) (e0 : Str) (a : Addr) (ans : List (Str × Bool)) (n : Nat) : List Stmt → SW
  | [.Return (some e) _] => sRet (own (hB c sc e0 a ans n e))
  | .Assign [.Name y _] v _ :: rest => match locOf c sc y with
    | some i => if noComp v && locB sc y then sSeq (sAsg (own (hB c sc e0 a ans n v)) (gNm i)) (hSs c sc e0 a ans n rest) else stuckS
    | none => stuckS
  | _ => stuckS
/-- the context there -/
structure HOk (c : Ctx) (X : Cx) (sc : Scope) (a : Addr) (oe : Obj) (D : Addr) (ans : List (Str × Bool)) : Prop where
  N : X.N = c.N
  nd : c.N.Nodup
  sc : X.env.scope = sc
  fn : ∀ x, X.fn x = true
  blt : ∀ x t, btTab.lookup x = some t → X.mg x = none
  lit : Lit X a oe
  pin : (a, oe) ∈ X.pn
  cls : ExcC X.K D
  zc : Zc (.ref D) none oe
  isE : ∀ z b, ans.lookup z = some b → ∃ C, X.mg z = some (.ref C) ∧ PySem.W.kitOne X.K (.ref D) (.ref C) = some b
section
variable {X : Cx}
theorem call_isA {a D : Addr} {oe : Obj} (C : ExcC X.K D) (hz : Zc (.ref D) none oe) (hf : ∃ vs, oe.data = .fields vs) (hp : (a, oe) ∈ X.pn) : CallR X (.builtin "isinstance") (rIsE X.K D a) := by
  intro pins s σ H xs us Q I r ⟨c, cv, b, exs, hcv, e, q⟩
  subst exs
  cases r with
  | cons rx rr =>
    cases rr with
    | cons rt rr =>
      cases rr
      cases rx
      obtain rfl := hcv _ rt
      have seen := (I.pin (a, oe) (List.mem_append.mpr (.inl hp))).1
      obtain ⟨vs, hv⟩ := hf
      have J : PySem.W.InstAt s.heap a oe D none := by
        obtain ⟨oc, od, oda, osl⟩ := oe
        obtain ⟨h1, h2⟩ := hz
        simp only at h1 h2 hv
        subst h1 h2 hv
        exact ⟨seen, rfl, rfl, trivial⟩
      exact PySem.W.kia_one (PySem.W.handS_kitx_exc C.hg C.hk C.hs C.hd C.ha C.hn C.ht C.hm) I.kIn J e (fun z => nomatch z) fun tk => ⟨.bl b, H, I.kept (t' := tk) fun _ _ z => z, rfl, q⟩
variable {c : Ctx} {sc : Scope} {E : XK} {a D : Addr} {oe : Obj} {ans : List (Str × Bool)} {e0 : Str}
theorem var_at {X : Cx} (hN : X.N = c.N) (hs : X.env.scope = sc) {x : Str} {i : Nat} {pos : Pos} (g : slotOf c sc x = some i) : PE X (.Name x pos) (tB X.K X.mg E (bVar i)) := by
  unfold slotOf at g
  split at g
  · rename_i hv
    rw [Bool.and_eq_true] at hv
    have o := oddB_no (x := x) (by simpa using hv.2)
    exact pe_weak (pe_var (by rw [hN]; exact findIx_at g) (by rw [hs]; exact visB_ok hv.1) o.1 o.2.1) fun _ _ _ q => tB_var q
  · cases g
theorem gl_at (hs : X.env.scope = sc) {x : Str} (g : isGl sc x = true) : Gl X x ∧ (x == ("__debug__" : Str)) = false ∧ x ≠ ("__name__" : Str) := by
  unfold isGl at g
  rw [Bool.and_eq_true] at g
  have g2 := oddB_no (x := x) (by simpa using g.2)
  exact ⟨by unfold Gl Env.kindOf; rw [hs]; exact glB_ok g.1, g2.1, g2.2.2⟩
theorem st_at {X : Cx} {sc : Scope} {fn : Str → Bool} (hN : X.N = c.N) (nd : c.N.Nodup) (hs : X.env.scope = sc) (hfn : ∀ x, fn x = true → X.fn x = true) {x : Str} {i : Nat} (g : DL.stOk c sc fn x = some i) : StOk X x i := by
  unfold DL.stOk at g
  refine ⟨by rw [hN]; exact nd, ?_, ?_, ?_⟩
  · rw [hN]
    split at g
    · exact findIx_at g
    · split at g
      · exact findIx_at g
      · cases g
    · cases g
  · unfold L2.Loc
    rw [hs]
    split at g
    · rename_i e; exact .inl e
    · rename_i e; exact .inr e
    · cases g
  · rw [hs]
    split at g
    · rename_i e; exact .inr e
    · split at g
      · rename_i e; exact .inl (hfn x e)
      · cases g
    · cases g
theorem pgs_at {X : Cx} {sc : Scope} {fn : Str → Bool} (hN : X.N = c.N) (nd : c.N.Nodup) (hs : X.env.scope = sc) (hfn : ∀ x, fn x = true → X.fn x = true) : ∀ {es : List Expr} {is : List Nat}, tgNames c sc fn es = some is →
    PGs X es (tGs X.K X.mg is) ∧ (assignEach es X.env).length = is.length ∧ (assignEach es X.env).findIdx? (·.1) = none
  | [], is, e => by
    unfold tgNames at e
    cases e
    exact ⟨pgss_nil, rfl, rfl⟩
  | e :: es, is, g => by
    cases e with
    | Name x pos =>
      unfold tgNames at g
      cases h1 : DL.stOk c sc fn x with
      | none => simp [h1] at g
      | some i =>
        cases h2 : tgNames c sc fn es with
        | none => simp [h1, h2] at g
        | some js =>
          simp [h1, h2] at g
          subst g
          obtain ⟨r1, r2, r3⟩ := pgs_at hN nd hs hfn h2
          have ae : assignEach (.Name x pos :: es) X.env = (false, assign (.Name x pos) X.env) :: assignEach es X.env := rfl
          refine ⟨pgss_cons (st_at hN nd hs hfn h1) r1, by rw [ae, List.length_cons, List.length_cons, r2], ?_⟩
          rw [ae, List.findIdx?_cons]
          simp [r3]
    | _ => simp [tgNames] at g
theorem pg_at {X : Cx} {sc : Scope} {fn : Str → Bool} (hN : X.N = c.N) (nd : c.N.Nodup) (hs : X.env.scope = sc) (hfn : ∀ x, fn x = true → X.fn x = true) {a : Addr} {oe : Obj} (l : Lit X a oe) {ts : List Expr} {k : Nat} {pos : Pos} {is : List Nat} (e : tgNames c sc fn ts = some is) :
    PG X (.Tuple ts k pos) (tGr X.K X.mg is (gTt is)) := by
  obtain ⟨r1, r2, r3⟩ := pgs_at hN nd hs hfn e
  refine pg_weak (pg_tup_hot l r1 r2 r3) fun v σ H Q ⟨G, F, ρ, d, P, R, r, s, q⟩ => ?_
  have len : ∀ {is : List Nat} {ds : List DL.D} {ρ : List SV} {P : List SV → Prop}, setAll is ds ρ P → ds.length = is.length := by
    intro is
    induction is with
    | nil => intro ds ρ P h; cases ds with | nil => rfl | cons => exact h.elim
    | cons i is ih => intro ds ρ P h; cases ds with | nil => exact h.elim | cons d ds => rw [List.length_cons, List.length_cons, ih h.2]
  cases d with
  | tuple ds =>
    have s' : setAll is ds ρ P := s
    rw [Rep] at r
    obtain ⟨b, xs, e, g, rl⟩ := r
    exact ⟨b, xs, e, .of (R.gh _ _ g), by rw [← rl.length]; exact len s', G, F, ρ, _, P, R, rl, s', q⟩
  | _ => exact s.elim
theorem tI_lst {K : PySem.W.Frag} {mg : Str → Option Value} {w : DW} {σ : L2.St} {H : Hp} {R : It → Hp → Prop} (h : tI K mg E (iLst w) σ H R) : iSl K (tE K mg E w) σ H R := by
  obtain ⟨G, F, ρ, X, P, Rl, ex, hw, q⟩ := h
  refine ⟨G, F, ρ, X, _, Rl, ex, hw, fun d ρ1 v H1 G1 p sg1 R1 rx => ?_⟩
  cases d with
  | list ds =>
    rw [Rep] at rx
    obtain ⟨b, xs, e, g, rl⟩ := rx
    exact ⟨b, xs, e, .of (R1.gh _ _ g), q ds ρ1 H1 G1 _ p sg1 R1 (itd_seq (k := .l) g rl)⟩
  | _ => exact p.elim
theorem scope_blk {X : Cx} {sc : Scope} (hs : X.env.scope = sc) (scope : Scope) (cl : List (Str × Addr)) (C : Addr) : (compEnvC scope cl C X.env).scope = relS scope sc := by
  show relabel scope X.env = relS scope sc
  unfold relabel relS
  rw [hs]
  congr 1
  apply List.map_congr_left
  rintro ⟨n, k⟩ _
  have e : X.env.kindOf n = sc.names.lookup n := by unfold Env.kindOf; rw [hs]
  simp only [e]
theorem hB_ok (h : HOk c X sc a oe D ans) : ∀ n e, PE X e (tB X.K X.mg E (hB c sc e0 a ans n e))
  | 0, _ => pe_stuckB
  | n + 1, e => by
    have ih := hB_ok h n
    unfold hB
    split
    · exact pe_weak pe_str fun _ _ _ q => tB_c (fun _ => rep_str) q
    · split
      · rename_i hs
        exact var_at h.N h.sc hs
      · exact pe_stuckB
    · exact pe_weak (pe_tup (pa_argsD ih _)) fun _ _ _ q => tB_tup q
    · exact pe_weak (pe_lst (pa_argsD ih _)) fun _ _ _ q => tF_lst (tF_of_tB q)
    · exact pe_weak (pe_op qd_add (ih _) (ih _)) fun _ _ _ q => tB_op q
    · split
      · rename_i g
        simp only [Bool.and_eq_true, decide_eq_true_eq] at g
        obtain ⟨⟨⟨⟨gx, ex⟩, ey⟩, sy⟩, gz⟩ := g
        split
        · rename_i b hb
          obtain ⟨C, mC, kC⟩ := h.isE _ b hb
          obtain ⟨k1, k2, k3⟩ := gl_at h.sc gx
          obtain ⟨z1, z2, z3⟩ := gl_at h.sc gz
          have fld : ∃ vs, oe.data = .fields vs := let ⟨vs, d, _⟩ := h.lit.ctx; ⟨vs, d⟩
          refine pe_weak (pe_callB (call_isA h.cls h.zc fld h.pin) k1 (h.blt _ _ ex) (boot_of ex) (pa_cons (var_at (E := E) h.N h.sc sy) (pa_cons (pe_glob (v := .ref C) z1 mC rfl z2) pa_nil rfl) rfl) k3 k2 rfl rfl) fun σ H Q q => ?_
          obtain ⟨G, F, ρ, X', P, R, ex', ⟨h0, hw⟩, q⟩ := q
          refine ⟨G, F, ρ, X', fun b' ρ' => b' = .val (adD a) ∧ ρ' = ρ, R, ex', ?_, fun b' ρ1 v H1 G1 pb s1 R1 rb => ?_⟩
          · unfold bVar varR
            rw [h0]
            exact ⟨rfl, rfl⟩
          · obtain ⟨rfl, rfl⟩ := pb
            have rb' : Rep X.K X.mg G1 (adD a) v := rb
            rw [Rep] at rb'
            have ev : v = V.ref a := rb'
            subst ev
            refine ⟨_, .ref C, b, rfl, fun u hu => hu, kC, q _ _ _ H1 G1 hw s1 R1 ?_⟩
            show Rep X.K X.mg G1 (.bool b) _
            exact rep_bl
        · exact pe_stuckB
      · exact pe_stuckB
    · rename_i o f ap x xp ts k tp it y yp scope lp p
      split
      · rename_i g
        rw [Bool.and_eq_true, Bool.and_eq_true] at g
        obtain ⟨⟨gj, hb⟩, hs⟩ := g
        unfold joinE at gj
        simp only [Bool.and_eq_true, decide_eq_true_eq] at gj
        obtain ⟨⟨po, hf⟩, hl⟩ := gj
        subst hf
        split
        · rename_i is i j h1 h2 h3
          split
          · rename_i hw
            have hv : wipeAll is ((ownOf c scope).map (·.2)) := fun i hi => by
              have := List.all_eq_true.mp hw i hi
              simpa using this
            have lc : PE X (.ListComp (.Name x xp) [⟨.Tuple ts k tp, it, [.Name y yp], 0⟩] scope lp) (tF X.K X.mg E (fComp (iLst (own (hB c sc e0 a ans n it))) (gTt is) (tVal (bVar j)) (own (bVar i)) ((ownOf c scope).map (·.2)))) := by
              refine ⟨fun pins s σ H Q I q => ?_⟩
              have q2 := tF_comp (E' := E0d) hv q
              refine lc_hot (g := tGr X.K X.mg is (gTt is)) (tt := tT X.K X.mg E0d (tVal (bVar j))) (te := tE X.K X.mg E0d (own (bVar i))) h.lit h.pin (by rw [h.N]; exact h.nd) I (pe_own (ih it)) (blkOk_by (own := ownOf c scope) (by rw [h.N, h.sc]; exact hb)) ?_ ?_ ?_ (folded_ok hs) ?_
              · intro s H C cl fp l
                exact pg_at (X := X.blk s H scope (compEnvC scope cl C X.env) fp) (c := c) (sc := relS scope sc) h.N h.nd (scope_blk h.sc scope cl C) (fun x hx => hx) l h1
              · intro s H C cl fp l
                exact pts_one (pt_valD (var_at (X := X.blk s H scope (compEnvC scope cl C X.env) fp) (c := c) (sc := relS scope sc) h.N (scope_blk h.sc scope cl C) h3) fun _ => rfl)
              · intro s H C cl fp l
                exact pe_own (var_at (X := X.blk s H scope (compEnvC scope cl C X.env) fp) (c := c) (sc := relS scope sc) h.N (scope_blk h.sc scope cl C) h2)
              · exact tI_lst q2
            exact pe_weak (pe_join (ih o) (pe_weak lc fun _ _ _ q => tF_of_tB q) rfl (plainO_ok po) hl) fun _ _ _ q => tB_join q
          · exact pe_stuckB
        · exact pe_stuckB
      · exact pe_stuckB
    · exact pe_stuckB
theorem par_name {y : Str} {p : Pos} {v : Expr} {env : Env} : swappedStores [.Name y p] v env = pure none := by cases v <;> rfl
theorem hSs_ok (h : HOk c X sc a oe D ans) (n : Nat) : ∀ sts, PSs X sts (tS X.K X.mg E (hSs c sc e0 a ans n sts))
  | [] => pss_stuck
  | st :: rest => by
    unfold hSs
    split
    · rename_i heq
      cases heq
      exact pss_one (ps_weak (ps_ret (pe_own (hB_ok h n _))) fun _ _ _ q => tS_ret q)
    · rename_i heq
      cases heq
      split
      · rename_i i hi
        split
        · rename_i hc
          rw [Bool.and_eq_true] at hc
          have st := st_at (fn := fun _ => true) h.N h.nd h.sc (fun x _ => h.fn x) hi
          refine pss_weak (pss_cons (ps_weak (ps_asg (pe_own (hB_ok h n _)) (pgr_name st) (by unfold swapsWithSole; exact sw_name hc.1) par_name rfl) fun _ _ _ q => tS_asg q) (hSs_ok h n _)) fun _ _ _ q => tS_seq q
        · exact pss_stuck
      · exact pss_stuck
    · exact pss_stuck
end
/-! ### its call -/
theorem run_hot {CX : CXT} {P : Program} {w : World} {K : PySem.W.Frag} {mg : Str → Option Value} {base : Heap} {k : Nat} {f : Addr} {name qual : Str} {params : Arguments} {body : List Stmt} {scope : Scope} {dV kV doc pm cdv ct oc : Value} {an od : Option Addr}
    {osl : Array (Option Value)} {N ps : List Str} (lk : K.lookup f = some ⟨oc, od, .func (PySem.W.fnOf name qual params body scope dV kV doc pm an cdv ct), osl⟩) (hcd : PySem.W.codeIn K cdv qual = true) (S : FnScope N ps scope)
    {A : Around} {outer : List Env} {s : Shared} {H : Hp} {args : Args} {us : List Value} {vs : List V} {Q : VK} {E : XK} {p : Addr × Obj} (hr : L2H.RoomH (k + 1) A) (hot : L2H.Hot1 A p) (hpin : L2H.PinOk outer H s p) (en : Env0 P w K mg base A outer s H)
    (hb : BindsTo s (PySem.W.fnOf name qual params body scope dV kV doc pm an cdv ct) args (ps.zip us)) (r : Vals vs us) (hl : vs.length = ps.length)
    (hbody : L2H.RoomH k (A.deeper (envOfC qual scope s.heap.objs.size f cdv)) → ∃ t, PSs (L2H.cxH CX P w K mg base N qual scope f cdv A outer s H E p) body t ∧ t { nx := fun _ H' => Q .non H', rt := Q } (L2.start N vs) H) :
    codeAny (model P w) A (.call (.ref f) args) (CR CX outer P w H s Q E) s := by
  have kin : K.In s.heap := en.mod.kin.keeps fun b o e => (en.bs b o e).1
  have lim : s.heap.NoLimit := en.mod.nolimit.keeps fun b o e => (en.bs b o e).1
  have kinds : ∀ y ∈ ps.zip us, scope.names.lookup y.1 = some .local ∨ (scope.names.lookup y.1 = some .cell ∧ ((cellsFrom (s.heap.objs.size + 1) scope.names []).lookup y.1).isSome = true) := fun ⟨n, v⟩ hy =>
    (S.par n (List.of_mem_zip hy).1).elim .inl fun q => .inr ⟨q, PySem.W.cellsFrom_some _ _ _ (.inl q)⟩
  refine codeAny_call_function hr.depth (kin _ _ lk) rfl S.co S.gen rfl (PySem.W.codeRec_of kin hcd) (hb _ _ _ _ ?_)
  refine wpAny_newFunctionEnv_cells S.kind kinds fun env he s1 x => ?_
  subst he
  refine ⟨lim.keeps x.toInCall.keep, codeAny_func ?_⟩
  obtain ⟨t, ht, hq⟩ := hbody (hr.deeper _)
  have I : Inv (L2H.cxH CX P w K mg base N qual scope f cdv A outer s H E p) [] (L2.start N vs) H s1 := L2H.inv_startH S hpin en hl r x
  refine wpAny_mono (ht.run [] s1 (L2.start N vs) H _ I hq) (fun fl s' hs => ?_) fun e s' hs => hs
  have fin : ∀ {σ' : L2.St} {H' : Hp} {v : V} {u : Value}, Inv (L2H.cxH CX P w K mg base N qual scope f cdv A outer s H E p) [] σ' H' s' → RelV v u → Q v H' → CE outer P w H s Q u s' := fun {σ' H' v u} J rv q => ⟨v, H', J.os, J.bare, J.base, J.hok, rv, q⟩
  cases fl with
  | ret u => obtain ⟨v, σ', H', J, rv, q⟩ := hs; exact fin J rv q
  | next => obtain ⟨σ', H', J, q⟩ := hs; exact fin (v := V.non) (u := Value.none) J rfl q
  | brk => obtain ⟨_, _, _, q⟩ := hs; exact q.elim
  | cont => obtain ⟨_, _, _, q⟩ := hs; exact q.elim
/-- what the error-naming def gives of an error of the class D: the words whose classes hold it -/
def errTree (c : Ctx) (st : Stmt) (a : Addr) (ans : List (Str × Bool)) : SW := hSs c (defScope st) (c.N.headD Str.empty) a ans fuE (defBody st)
theorem pe_errcall {X : Cx} {c : Ctx} {st : Stmt} {x qual e : Str} {f a Dc : Addr} {fd : FuncData} {oe : Obj} {pn : List (Addr × Obj)} {i k : Nat} {ans : List (Str × Bool)} {w : Str} {p q pos : Pos}
    (F : Fun X.K x qual st f fd) (S : FnScope c.N [e] (defScope st)) (hN : c.N.head? = some e) (hb : Binds X.K fd [e] []) (hr : L2H.RoomH (k + 1) X.A) (hg : Gl X x) (hm : X.mg x = some (.ref f)) (hdb : (x == ("__debug__" : Str)) = false)
    (blt : ∀ x t, btTab.lookup x = some t → X.mg x = none) (hzn : L2N.Zn (.ref Dc) none oe) (hf : ∃ vs, oe.data = .fields vs) (cls : ExcC X.K Dc) (isE : ∀ z b, ans.lookup z = some b → ∃ C, X.mg z = some (.ref C) ∧ PySem.W.kitOne X.K (.ref Dc) (.ref C) = some b)
    (val : ∀ (Q : D → Prop), Q (.str w) → errTree c st a ans (fun _ => False) (startS c.N [adD a]) (oPur Q))
    {y : Str} (hi : X.N[i]? = some y) (hv : Vis X.env.scope y) (hd : (y == ("__debug__" : Str)) = false) (hcd : (y == ("__classdict__" : Str)) = false) :
    PE (X.suite a ((a, oe) :: pn)) (.Call (.Name x p) [.Name y q] [] pos) (fun σ H Q => σ[i]? = some (some (.ref a)) ∧ Zt X.K H ∧ ∀ H', Same (nT H) H' → Zt X.K H' → Q (.str w) H') := by
  refine ⟨fun pins s σ H Q I h => ?_⟩
  obtain ⟨hs, zt, h⟩ := h
  obtain ⟨oc, od, kV, doc, pm, an, cdv, ct, osl, efd, lk, hco⟩ := F.ex
  refine wpAny_Call_Name_kw (ld_glob I hg hm ?_ hdb)
  have ha : PA (X.suite a ((a, oe) :: pn)) [.Name y q] (tCons (tVar i) tNil) := pa_cons (pe_var hi hv hd hcd) pa_nil rfl
  refine PySem.W.callWith_K (h₀ := X.base) I.ok.mod.kin F.kp (thn (ha.run pos pins s σ H (fun vs H1 => vs = [.ref a] ∧ H1 = H) I ⟨.ref a, hs, rfl, rfl⟩) fun us s1 ⟨vs, H1, I1, r, e1, e2⟩ => ?_) rfl rfl
  subst e1 e2
  refine ⟨I1.kIn, ?_⟩
  have P1 := I1.pin (a, oe) (List.mem_append_left _ List.mem_cons_self)
  have ctx : ∃ vs : Array Value, oe.data = .fields vs ∧ vs[2]? = some .none := let ⟨vs, hd⟩ := hf; ⟨vs, hd, hzn.2.2 vs hd⟩
  have hot : L2H.Hot1 (X.suite a ((a, oe) :: pn)).A (a, oe) := ⟨rfl, ctx⟩
  have hpin : L2H.PinOk (X.suite a ((a, oe) :: pn)).stack H1 s1 (a, oe) := ⟨P1.1, P1.2.1, fun hm => (List.mem_cons.mp (I1.stkSub a hm)).elim P1.2.2.1 P1.2.2.2.1, P1.2.2.2.2⟩
  have hl : us.length = [e].length := by rw [← r.length]; rfl
  have bnd := hb s1 us I1.kIn (by rw [List.append_nil]; exact hl)
  rw [List.append_nil] at bnd
  subst efd
  have rc : codeAny (model X.prog X.w) (X.suite a ((a, oe) :: pn)).A (.call (.ref f) ⟨us, []⟩) (CR (L2N.CX X.prog X.w) X.stack X.prog X.w H1 s1 Q E0d) s1 := by
    refine run_hot (k := k) lk hco S (show L2H.RoomH (k + 1) (X.suite a ((a, oe) :: pn)).A from ⟨hr.dp, hr.un⟩) hot hpin I1.env0 bnd r rfl fun hr2 => ?_
    have hk : HOk c (L2H.cxH (L2N.CX X.prog X.w) X.prog X.w X.K X.mg X.base c.N qual (defScope st) f cdv (X.suite a ((a, oe) :: pn)).A X.stack s1 H1 E0d (a, oe)) (defScope st) a oe Dc ans :=
      { N := rfl, nd := S.nd, sc := rfl, fn := fun _ => rfl, blt := blt, lit := lit_pin rfl ctx List.mem_cons_self, pin := List.mem_cons_self, cls := cls, zc := hzn.zc, isE := isE }
    refine ⟨_, hSs_ok (E := E0d) (e0 := c.N.headD Str.empty) hk fuE (defBody st), ?_⟩
    have zt1 : Zt X.K H1 := zt
    have ra : RepL X.K X.mg (fun _ => none) [adD a] [V.ref a] := RepL.cons (by rw [Rep]; rfl) RepL.nil
    have sg : Same (fun _ => none) H1 := fun b o z => by cases z
    refine ⟨fun _ => none, nT H1, startS c.N [adD a], fun _ => False, oPur fun d => d = .str w, rel_start sg (fun b ps z => by cases z) zt1 ra, exits0 fun _ z => z, val _ rfl, ?_⟩
    refine ⟨fun _ _ _ _ z => (by cases z), fun d ρ' σ' v H' G' pd ex R rd => ?_, fun _ _ _ _ z => z.elim, fun _ _ _ _ z => z.elim⟩
    have pd' : d = .str w := pd
    subst pd'
    rw [Rep] at rd
    subst rd
    exact h H' R.fh R.tb
  refine wpAny_call (codeAny_mono rc fun r s' hq => ?_)
  cases r with
  | error e => obtain ⟨_, _, _, _, _, _, _, _, _, _, _, _, z⟩ := hq; exact z.elim
  | ok fl =>
    cases fl with
    | ret u => exact I1.after hq
    | next => exact False.elim hq
    | brk => exact False.elim hq
    | cont => exact False.elim hq
end DL
set_option Elab.async false
set_option linter.all false
set_option maxRecDepth 100000
set_option maxHeartbeats 4000000
namespace DL
open PySem PySem.Spec PyProof.Rows L2

/-! ### a lambda handed to the def that tells an error's name -/
/-- the context of the lambda's body, at its entry -/
def lamN (X : Cx) (A : Around) (outer : List Env) (s : Shared) (H : Hp) (E : XK) (scope : Scope) (f c' : Addr) : Cx :=
  (LamX.lamCx X A outer s H E scope f c').tr [] fun e s' => wpAny (model X.prog X.w) (A.deeper (LamX.lamEnv X scope s.heap.objs.size f c')) (leaving (LamX.lamEnv X scope s.heap.objs.size f c') e) (fun _ s'' => L2N.CX X.prog X.w outer H s E e s'') (fun e' s'' => L2N.CX X.prog X.w outer H s E e' s'') s'
section
variable {X : Cx} {pins : List (Addr × Obj)} {σ : L2.St} {H HZ : Hp} {s s1 : Shared}
theorem lam_enter {A : Around} {outer : List Env} {E : XK} {scope : Scope} {f c' : Addr} {h₁ : Heap} {tk : Nat} (I : Inv X pins σ H s) (L : LamX.LamS X.env.scope scope) (en : Env0 X.prog X.w X.K X.mg X.base A outer s1 HZ) (hd : A.handled = none)
    (un : Un (frs X.stack) [] H HZ s.heap s1.heap) (hns : h₁.Ns s1.heap.objs.size fun y => ([] : List (Str × Value)).reverse.lookup y) (kp : ∀ b o, s1.heap.get? b = some o → h₁.get? b = some o) :
    Inv (lamN X A outer s1 HZ E scope f c') [] σ HZ { s1 with heap := h₁, toks := tk } := (LamX.lam_start2 (E := E) I L en hd un hns kp).toTry _
/-- x(), where the lambda stands in x's slot -/
theorem lam_act {CXg : CXT} {Eg : XK} {Ng : List Str} {qg : Str} {sg : Scope} {g f c' : Addr} {cdg pm ctv : Value} {params : Arguments} {body : Expr} {scope : Scope} {k i : Nat} {a : Str} {pn : List (Addr × Obj)} {xe : Value → Shared → Prop} {W : WX} {E : XK} {tb : TE} {p1 p2 : Pos}
    (I : Inv X pins σ H s) (L : LamX.LamS X.env.scope scope) (hf : s.heap.get? f = some (PySem.W.kla_obj "<lambda>" (X.env.qual ++ "<lambda>") params body scope (cloFrom X.env.cells scope.names []) pm c' ctv)) (hfn : H f = none) (hfr : f ∉ frs X.stack)
    (hbind : bindArgs (PySem.W.kla_fn "<lambda>" (X.env.qual ++ "<lambda>") params body scope (cloFrom X.env.cells scope.names []) pm (.ref c') ctv) ⟨[], []⟩ = pure [])
    (tk : L2N.Takes ((cxOf CXg X.prog X.w X.K X.mg X.base Ng qg sg g cdg X.A X.stack s H Eg).tr pn xe) W) (hW : ∀ cls d σ' H', σ'.length = Ng.length → E cls d H' → W cls d σ' H') (hr : Room (k + 1) (X.A.deeper (envOfC qg sg s.heap.objs.size g cdg)))
    (hbody : ∀ (A : Around) (outer : List Env) (s : Shared) (H : Hp), Room k (A.deeper (LamX.lamEnv X scope s.heap.objs.size f c')) → PE (lamN X A outer s H E scope f c') body tb)
    (hN : Ng[i]? = some a) (hv : Vis sg a) (hd : (a == ("__debug__" : Str)) = false) (hcd : (a == ("__classdict__" : Str)) = false) :
    PE ((cxOf CXg X.prog X.w X.K X.mg X.base Ng qg sg g cdg X.A X.stack s H Eg).tr pn xe) (.Call (.Name a p1) [] [] p2)
      (fun σZ HZ Q => σZ[i]? = some (some (.ref f)) ∧ HZ c' = some (LamX.CodeO c' (X.env.qual ++ "<lambda>")) ∧ tb σ HZ Q) := by
  refine ⟨fun pinsZ sZ σZ HZ Q IZ ⟨hs, hco, ht⟩ => ?_⟩
  refine wpAny_Call_Name_kw (thn ((pe_var (pos := p1) (i := i) hN hv hd hcd).run pinsZ sZ σZ HZ (fun v H1 => v = .ref f ∧ H1 = HZ) IZ ⟨.ref f, hs, rfl, rfl⟩) fun u s1 ⟨v, H1, I1, r1, ev, eH⟩ => ?_)
  subst ev eH
  obtain rfl : u = Value.ref f := r1
  have fat := I1.base.keep f _ hf hfn hfr (fun z => nomatch (show f ∈ ([] : List Addr) from z))
  refine PySem.W.callWith_F0 ⟨_, _, _, _, fat⟩ ?_
  obtain ⟨⟨oc, vs, t, hoc, hdc, hvc⟩, _, _⟩ := I1.hok c' _ hco
  have rc : codeAny (model X.prog X.w) (X.A.deeper (envOfC qg sg s.heap.objs.size g cdg)) (.call (.ref f) ⟨[], []⟩) (CR (L2N.CX X.prog X.w) (envOfC qg sg s.heap.objs.size g cdg :: X.stack) X.prog X.w H1 s1 Q E) s1 := by
    refine PySem.W.kla_callFunE hr.depth fat rfl L.co L.gen rfl ⟨c', oc, vs, t, rfl, hoc, hdc, hvc⟩ ?_
    rw [hbind]
    refine wpAny_pure (wpAny_newFunctionEnv (fun y hy => (L.own y hy).2) (fun y hy => absurd hy (by simp)) (fun h₁ hns hsb => ⟨I1.nolimit.fresh _ hsb, ?_⟩) L.kind)
    show codeAny _ _ (.expr body (LamX.lamEnv X scope s1.heap.objs.size f c')) _ _
    have kp : ∀ b o, s1.heap.get? b = some o → h₁.get? b = some o := fun b o z => hsb.extBut b o (Nat.ne_of_lt (Heap.lt_size z)) (Heap.get?_push_of_some _ z)
    have J : Inv (lamN X (X.A.deeper (envOfC qg sg s.heap.objs.size g cdg)) (envOfC qg sg s.heap.objs.size g cdg :: X.stack) s1 H1 E scope f c') [] σ H1 { s1 with heap := h₁, toks := s1.toks + ([] : List (Str × Value)).length } := lam_enter I L I1.env0 hr.hd I1.base hns kp
    refine PySem.W.kla_codeExpr (wpAny_mono ((hbody _ _ s1 H1 (hr.deeper _)).run [] _ _ H1 Q J ht) (fun v s' hq => ?_) fun e s' hq => hq)
    obtain ⟨w', H', J', rv, q⟩ := hq
    exact ⟨w', H', J'.os, J'.bare, J'.base, J'.hok, rv, q⟩
  have hx : Passes (L2N.CX X.prog X.w) ((cxOf CXg X.prog X.w X.K X.mg X.base Ng qg sg g cdg X.A X.stack s H Eg).tr pn xe) E := fun _ σ _ _ e s' I c => tk e s' (L2N.XE.of_call I (fun cls d H' h => hW cls d σ H' I.len h) c)
  refine wpAny_call (codeAny_mono rc fun r s' hq => ?_)
  cases r with
  | error e => exact hx pinsZ σZ H1 s1 e s' I1 hq
  | ok fl =>
    cases fl with
    | ret u => exact I1.after hq
    | next => exact hq.elim
    | brk => exact hq.elim
    | cont => exact hq.elim
end
/-- a class of errors and the word that the naming def gives of it -/
structure ErrW (K : PySem.W.Frag) (mg : Str → Option Value) (c : Ctx) (st : Stmt) (CP D : Addr) (w : Str) : Prop where
  exm : PySem.W.exmOne K (.ref D) (.ref CP) = some true
  cls : ExcC K D
  ans : ∃ ans : List (Str × Bool), (∀ z b, ans.lookup z = some b → ∃ C, mg z = some (.ref C) ∧ PySem.W.kitOne K (.ref D) (.ref C) = some b) ∧
    ∀ (a : Addr) (Q : DL.D → Prop), Q (.str w) → errTree c st a ans (fun _ => False) (startS c.N [adD a]) (oPur Q)
def eRef (K : PySem.W.Frag) (mg : Str → Option Value) (c : Ctx) (st : Stmt) (CP : Addr) (Q : VK) : XK := fun cls d H' => ∃ D w, cls = .ref D ∧ d = none ∧ ErrW K mg c st CP D w ∧ Zt K H' ∧ ∀ H2, Same (nT H') H2 → Zt K H2 → Q (.str w) H2
def tRef (K : PySem.W.Frag) (mg : Str → Option Value) (c : Ctx) (st : Stmt) (CP : Addr) (t : XK → TE) : TE := fun σ H Q => Zt K H ∧ ∀ H1, LamX.ExtN H H1 → Zt K H1 → t (eRef K mg c st CP Q) σ H1 fun _ H' => Q (.str Str.empty) H'
def tabsK (K : PySem.W.Frag) : List (Addr × Str) := lamNames.filterMap fun p => (PySem.W.tabIn K p.1).map fun cp => (cp.2, p.2)
theorem zt_iff {K : PySem.W.Frag} {H : Hp} : Zt K H ↔ LamX.Tabs (tabsK K) H := by
  constructor
  · intro z p hp
    unfold tabsK at hp
    obtain ⟨q, hq, e⟩ := List.mem_filterMap.mp hp
    cases h : PySem.W.tabIn K q.1 with
    | none => rw [h] at e; cases e
    | some cp =>
      rw [h] at e
      cases e
      exact z q hq cp.1 cp.2 h
  · intro z q hq cc P h
    exact z (P, q.2) (List.mem_filterMap.mpr ⟨q, hq, by rw [h]; rfl⟩)
/-- the text of the def that calls what it is given and names the error -/
def refBody (a pnm en ee : Str) (j : Nat) (p1 p2 p3 p4 p5 p6 p7 p8 p9 p10 p11 p12 : Pos) : List Stmt :=
  [.Try [.Expr (.Call (.Name a p1) [] [] p2) p3] [.ExceptHandler (some (.Name pnm p4)) (some en) [.Return (some (.Call (.Name ee p5) [.Name en p6] [] p7)) p8] p9] [] [] p10, .Return (some (.Constant (.str ("" : Str)) j p11)) p12]
theorem pe_ref {X : Cx} {c : Ctx} {stE stR : Stmt} {xR a en pnm ee epar qualE : Str} {gR fE CP cA P : Addr} {fdR fdE : FuncData} {j k : Nat} {p1 p2 p3 p4 p5 p6 p7 p8 p9 p10 p11 p12 p lpos pos : Pos} {params : Arguments} {body : Expr} {scope : Scope} {t : XK → TE}
    (FR : Fun X.K xR xR stR gR fdR) (SR : FnScope [a, en] [a] (defScope stR)) (bR : Binds X.K fdR [a] []) (hbR : defBody stR = refBody a pnm en ee j p1 p2 p3 p4 p5 p6 p7 p8 p9 p10 p11 p12)
    (FE : Fun X.K ee qualE stE fE fdE) (SE : FnScope c.N [epar] (defScope stE)) (hNE : c.N.head? = some epar) (bE : Binds X.K fdE [epar] [])
    (gX : Gl X xR) (mR : X.mg xR = some (.ref gR)) (dR : (xR == ("__debug__" : Str)) = false) (mE : X.mg ee = some (.ref fE)) (mP : X.mg pnm = some (.ref CP))
    (lP : (defScope stR).names.lookup pnm = some .globalImplicit) (lE : (defScope stR).names.lookup ee = some .globalImplicit) (lA : (defScope stR).names.lookup a = some .local) (lN : (defScope stR).names.lookup en = some .local)
    (dP : (pnm == ("__debug__" : Str)) = false) (dE : (ee == ("__debug__" : Str)) = false) (dA : (a == ("__debug__" : Str)) = false) (cdA : (a == ("__classdict__" : Str)) = false) (dN : (en == ("__debug__" : Str)) = false) (cdN : (en == ("__classdict__" : Str)) = false)
    (blt : ∀ x t, btTab.lookup x = some t → X.mg x = none)
    (TB : LamX.TabB X.base X.mg cA P) (hcode : X.env.code = .ref cA) (hmT : (P, X.env.qual ++ "<lambda>") ∈ tabsK X.K) (hu : ∀ p ∈ tabsK X.K, p.1 = P → p.2 = X.env.qual ++ "<lambda>") (hr : Room (k + 3) X.A) (L : LamX.LamS X.env.scope scope) (hdef : defaultsOf params X.env = ([], []))
    (hbind : ∀ (q : Str) (cl : List (Str × Addr)) (pm cv ctv : Value), bindArgs (PySem.W.kla_fn "<lambda>" q params body scope cl pm cv ctv) ⟨[], []⟩ = pure [])
    (hbody : ∀ (A : Around) (outer : List Env) (s : Shared) (H : Hp) (E : XK) (f c' : Addr), Room (k + 1) (A.deeper (LamX.lamEnv X scope s.heap.objs.size f c')) → PE (lamN X A outer s H E scope f c') body (t E)) :
    PE X (.Call (.Name xR p) [.Lambda params body scope lpos] [] pos) (tRef X.K X.mg c stE CP t) := by
  refine ⟨fun pins s σ H Q I ⟨zt, h⟩ => ?_⟩
  obtain ⟨oc, od, kV, doc, pm, an, cdv, ct, osl, efd, lk, hco⟩ := FR.ex
  refine wpAny_Call_Name_kw (ld_glob I gX mR ?_ dR)
  refine PySem.W.callWith_K (h₀ := X.base) I.ok.mod.kin FR.kp ?_ (by rfl) (by rfl)
  show wpAny _ _ (spliced ((false, eval (.Lambda params body scope lpos) X.env) :: backTo pos (starEach [] X.env))) _ _ s
  refine Calls.spliced_cons (LamX.lam_make2 I TB hcode hmT hu (zt_iff.mp zt) hdef (L.has I.ok) fun f c' pm' ctv H1 s' I1 eN T1 hf hfn hfr hcc => ?_)
  refine Calls.spliced_nil ⟨I1.kIn, ?_⟩
  subst efd
  have bnd := bR s' [.ref f] I1.kIn rfl
  rw [List.append_nil] at bnd
  have rc : codeAny (model X.prog X.w) X.A (.call (.ref gR) ⟨[.ref f], []⟩) (CR C8.CX0 X.stack X.prog X.w H1 s' Q C8.E0) s' := by
    refine LamX.run_ofS (N := [a, en]) (ps := [a]) (us := [.ref f]) (vs := [.ref f]) lk hco SR hr I1.env0 bnd (.cons rfl .nil) rfl fun hr' => ?_
    rw [hbR]
    let Z : Cx := (cxOf C8.CX0 X.prog X.w X.K X.mg X.base [a, en] xR (defScope stR) gR cdv X.A X.stack s' H1 C8.E0).nox
    have kP : Names Z pnm (.ref CP) := ⟨lP, dP, .inl mP⟩
    have tk0 : L2N.Takes Z (fun _ _ _ _ => False) := fun _ _ x => by
      obtain ⟨_, _, _, _, _, _, _, _, _, _, _, _, _, _, _, _, z⟩ := x
      exact z.elim
    have tr := L2N.ps_try_as (X := Z) (x := pnm) (n := en) (i := 1) (np := p4) (pos' := p9) (pos := p10) (body := [.Expr (.Call (.Name a p1) [] [] p2) p3]) (b₀ := .Return (some (.Call (.Name ee p5) [.Name en p6] [] p7)) p8) (suite := [])
      (tb := fun W D σZ HZ => ∃ Ech : XK, (∀ cls d (σ' : L2.St) H', σ'.length = 2 → Ech cls d H' → W cls d σ' H') ∧ σZ[0]? = some (some (.ref f)) ∧ HZ c' = some (LamX.CodeO c' (X.env.qual ++ "<lambda>")) ∧ t Ech σ HZ fun _ H' => D.nx σZ H')
      (ts := fun a0 cls d D σZ HZ => σZ[1]? = some (some (.ref a0)) ∧ ∃ Dc w, cls = .ref Dc ∧ d = none ∧ ErrW X.K X.mg c stE CP Dc w ∧ Zt X.K HZ ∧ ∀ H2, Same (nT HZ) H2 → Zt X.K H2 → D.rt (.str w) H2) (Wout := fun _ _ _ _ => False)
      rfl rfl SR.nd rfl lN kP tk0 (fun W pn xe tk ps => ?_) (fun a0 oe cls d pn hz hfld => ?_)
    · refine ⟨_, (pss_cons tr (pss_one (ps_ret pe_str))).nox, ?_⟩
      refine ⟨eRef X.K X.mg c stE CP Q, fun cls d σ' H' hlen he => ?_, rfl, hcc, h H1 eN (zt_iff.mpr T1)⟩
      obtain ⟨Dc, w, e1, e2, ew, zt', hq⟩ := he
      subst e1 e2
      refine ⟨true, ew.exm, fun _ a0 na => ⟨?_, Dc, w, rfl, rfl, ew, zt', hq⟩, nofun⟩
      rw [List.getElem?_set_self (by omega)]
    · refine ⟨fun pinsZ sZ σZ HZ D IZ hh => ?_⟩
      obtain ⟨Ech, hW, h0, h1, h2⟩ := hh
      have act := lam_act (CXg := C8.CX0) (Eg := C8.E0) (Ng := [a, en]) (i := 0) (p1 := p1) (p2 := p2) (E := Ech) (tb := t Ech) I1 L hf hfn hfr (hbind _ _ _ _ _) tk hW hr' (fun A outer s H hr2 => hbody A outer s H Ech f c' hr2) rfl (.inl lA) dA cdA
      exact (pss_one (ps_expr (pos := p3) act rfl)).run pinsZ sZ σZ HZ D IZ ⟨h0, h1, h2⟩
    · refine ⟨fun pinsZ sZ σZ HZ D IZ hh => ?_⟩
      obtain ⟨h0, Dc, w, e1, e2, ew, zt', hq⟩ := hh
      subst e1 e2
      obtain ⟨ans, isE, val⟩ := ew.ans
      have call := pe_errcall (X := Z) (i := 1) (pn := pn) (p := p5) (q := p6) (pos := p7) (k := 0) FE SE hNE bE ?_ lE mE dE blt hz hfld ew.cls isE (fun Q hQ => val a0 Q hQ) rfl (.inl lN) dN cdN
      · exact (pss_one (ps_ret (pos := p8) call)).run pinsZ sZ σZ HZ D IZ ⟨h0, zt', fun H2 => hq H2⟩
      · exact (L2H.roomH_of hr').mono (by omega)
  refine wpAny_call (codeAny_mono rc fun r s2 hq => ?_)
  cases r with
  | error e => exact (show False from hq).elim
  | ok fl =>
    cases fl with
    | ret u => exact I1.after hq
    | next => exact hq.elim
    | brk => exact hq.elim
    | cont => exact hq.elim
theorem rel_all {K : PySem.W.Frag} {mg : Str → Option Value} {G F H : Hp} {ρ : List SV} {σ : L2.St} (R : Rel K mg G F ρ σ H) : Rel K mg (nT H) (nT H) (frzR ρ) σ H := by
  have len : ∀ ρ : List SV, (frzR ρ).length = ρ.length := fun ρ => by
    induction ρ with
    | nil => rfl
    | cons s r ih => cases s <;> simp [frzR, ih]
  have nocel : ∀ (ρ : List SV) (i : Nat) (a : Addr) (ds : List D), (frzR ρ)[i]? ≠ some (.cel a ds) := fun ρ => by
    induction ρ with
    | nil => intro i a ds h; simp [frzR] at h
    | cons s r ih =>
      intro i a ds h
      cases i with
      | zero => cases s <;> simp [frzR] at h
      | succ i => cases s <;> exact ih i a ds (by simpa [frzR] using h)
  have at_ : ∀ (ρ : List SV) (i : Nat) (s : SV), (frzR ρ)[i]? = some s → ∃ s0, ρ[i]? = some s0 ∧ s = (match s0 with | .cel _ ds => .dat (.list ds) | o => o) := fun ρ => by
    induction ρ with
    | nil => intro i s h; simp [frzR] at h
    | cons t r ih =>
      intro i s h
      cases i with
      | zero => cases t <;> (simp [frzR] at h; subst h; exact ⟨_, rfl, rfl⟩)
      | succ i => cases t <;> (obtain ⟨s0, h1, h2⟩ := ih i s (by simpa [frzR] using h); exact ⟨s0, by simpa using h1, h2⟩)
  have gn := same_nT R.gh R.gt
  refine ⟨nT_same H, nT_same H, by rw [len]; exact R.len, fun i s hs => ?_, fun i j a ds es h => absurd h (nocel ρ i a ds), NoTb.nT, NoTb.nT, R.tb⟩
  obtain ⟨s0, h0, rfl⟩ := at_ ρ i s hs
  have so := R.slot i s0 h0
  cases s0 with
  | un => trivial
  | dat d => obtain ⟨v, e, r⟩ := so; exact ⟨v, e, Rep.mono gn _ _ r⟩
  | cel a ds =>
    obtain ⟨e, vs, ha, r, _, _⟩ := so
    refine ⟨_, e, ?_⟩
    rw [Rep]
    exact ⟨a, vs, rfl, nT_of ha fun _ => nofun, RepL.mono gn _ _ r⟩
structure RefD where
  cE : Ctx
  stE : Stmt
  stR : Stmt
  a : Str
  en : Str
  pnm : Str
  ee : Str
  epar : Str
  qualE : Str
  gR : Addr
  fE : Addr
  CP : Addr
  cA : Addr
  P : Addr
  fdR : FuncData
  fdE : FuncData
  j : Nat
  k : Nat
  p1 : Pos
  p2 : Pos
  p3 : Pos
  p4 : Pos
  p5 : Pos
  p6 : Pos
  p7 : Pos
  p8 : Pos
  p9 : Pos
  p10 : Pos
  p11 : Pos
  p12 : Pos
/-- that def's facts, where it is called -/
structure RefF (Γ : List (Str × FnC)) (X : Cx) (r : RefC) (d : RefD) : Prop where
  FR : Fun X.K r.x r.x d.stR d.gR d.fdR
  SR : FnScope [d.a, d.en] [d.a] (defScope d.stR)
  bR : Binds X.K d.fdR [d.a] []
  hbR : defBody d.stR = refBody d.a d.pnm d.en d.ee d.j d.p1 d.p2 d.p3 d.p4 d.p5 d.p6 d.p7 d.p8 d.p9 d.p10 d.p11 d.p12
  FE : Fun X.K d.ee d.qualE d.stE d.fE d.fdE
  SE : FnScope d.cE.N [d.epar] (defScope d.stE)
  hNE : d.cE.N.head? = some d.epar
  bE : Binds X.K d.fdE [d.epar] []
  mR : X.mg r.x = some (.ref d.gR)
  mE : X.mg d.ee = some (.ref d.fE)
  mP : X.mg d.pnm = some (.ref d.CP)
  lP : (defScope d.stR).names.lookup d.pnm = some .globalImplicit
  lE : (defScope d.stR).names.lookup d.ee = some .globalImplicit
  lA : (defScope d.stR).names.lookup d.a = some .local
  lN : (defScope d.stR).names.lookup d.en = some .local
  odd : ∀ x ∈ [r.x, d.pnm, d.ee, d.a, d.en], (x == ("__debug__" : Str)) = false ∧ (x == ("__classdict__" : Str)) = false
  blt : ∀ x t, btTab.lookup x = some t → X.mg x = none
  TB : LamX.TabB X.base X.mg d.cA d.P
  code : X.env.code = .ref d.cA
  inT : (d.P, X.env.qual ++ "<lambda>") ∈ tabsK X.K
  uniq : ∀ p ∈ tabsK X.K, p.1 = d.P → p.2 = X.env.qual ++ "<lambda>"
  room : Room (d.k + 3) X.A
  calls : ∀ x q, Γ.lookup x = some q → ∃ (j : Nat) (f : Addr) (fd : FuncData) (ps : List Str), j ≤ d.k + 1 ∧ FnOk X.prog X.w X.K X.mg X.base (L2N.CX X.prog X.w) j f fd ps (spOf X.K X.mg q) ∧ X.mg x = some (.ref f) ∧ PySem.W.keepIn X.K (.ref f) = true ∧ Binds X.K fd ps []
  word : ∀ x w, r.word x = some w → ∀ C, X.mg x = some (.ref C) → ErrW X.K X.mg d.cE d.stE d.CP C w
theorem noPar_ok {params : Arguments} (h : noPar params = true) : params = ⟨[], [], none, [], [], none, []⟩ := by
  unfold noPar at h
  split at h
  · rfl
  · cases h
theorem RefF.rule {X : Cx} {Γ : List (Str × FnC)} {r : RefC} {d : RefD} {E : XK} (h : RefF Γ X r d) (gX : Gl X r.x) {params : Arguments} {body : Expr} {scope : Scope} {p lpos pos : Pos} {wl : BW} (L : LamX.LamS X.env.scope scope) (np : noPar params = true)
    (hbody : ∀ (A : Around) (outer : List Env) (s : Shared) (H : Hp) (E : XK) (f c' : Addr), Room (d.k + 1) (A.deeper (LamX.lamEnv X scope s.heap.objs.size f c')) → PE (lamN X A outer s H E scope f c') body (tB X.K X.mg E wl)) :
    PE X (.Call (.Name r.x p) [.Lambda params body scope lpos] [] pos) (tB X.K X.mg E (bRef r.word wl)) := by
  obtain rfl := noPar_ok np
  have o := fun x hx => h.odd x hx
  have base := pe_ref (X := X) (c := d.cE) (t := fun E => tB X.K X.mg E wl) (p := p) (lpos := lpos) (pos := pos) (params := ⟨[], [], none, [], [], none, []⟩) h.FR h.SR h.bR h.hbR h.FE h.SE h.hNE h.bE gX h.mR (o _ (by simp)).1 h.mE h.mP h.lP h.lE h.lA h.lN
    (o _ (by simp)).1 (o _ (by simp)).1 (o d.a (by simp)).1 (o d.a (by simp)).2 (o d.en (by simp)).1 (o d.en (by simp)).2 h.blt h.TB h.code h.inT h.uniq h.room L rfl (fun _ _ _ _ _ => rfl) hbody
  refine pe_weak base fun σ H Q q => ?_
  obtain ⟨G, F, ρ, X', P, R, ex, hw, q⟩ := q
  refine ⟨R.tb, fun H1 eN zt1 => ?_⟩
  have s01 : Same (nT H) H1 := fun b o e => eN b o (nT_some e).1 (nT_some e).2
  have g1 : Same G H1 := (same_nT R.gh R.gt).trans s01
  have R1 : Rel X.K X.mg G F ρ σ H1 := R.growT (Same.refl _) g1 s01 (fun _ _ => rfl) R.gt zt1
  have back : ∀ {H2 : Hp}, Same (nT H1) H2 → Zt X.K H2 → Rel X.K X.mg G F ρ σ H2 := fun {H2} s z => R1.growT (Same.refl _) ((same_nT g1 R.gt).trans s) s (fun _ _ => rfl) R.gt z
  refine ⟨nT H1, nT H1, frzR ρ, _, _, rel_all R1, ?_, hw, fun b ρ' v H' G' pb e1 R' rb => ?_⟩
  · rintro x C H' ⟨w, hx, px⟩ hm sF zt'
    refine ⟨C, w, rfl, rfl, h.word x w hx C hm, zt', fun H2 s2 z2 => ?_⟩
    have s12 : Same (nT H1) H2 := (same_nT sF NoTb.nT).trans s2
    refine q _ ρ (.str w) H2 G px Ext.refl (back s12 z2) ?_
    show Rep X.K X.mg G (.str w) _
    exact rep_str
  · refine q _ ρ (.str ("" : Str)) H' G pb Ext.refl (back R'.fh R'.tb) ?_
    show Rep X.K X.mg G (.str ("" : Str)) _
    exact rep_str
end DL
set_option Elab.async false
set_option linter.all false
set_option maxRecDepth 100000
set_option maxHeartbeats 4000000
namespace DL
open PySem PySem.Spec PyProof.Rows L2
structure XOk (c : Ctx) (X : Cx) (sc : Scope) (E : XK) : Prop where
  N : X.N = c.N
  nd : c.N.Nodup
  sc : X.env.scope = sc
  calm : X.calm = true
  hu : X.A.units + 100 < cLine
  pass : Passes (L2N.CX X.prog X.w) X E
  calls : ∀ x k, c.Γ.lookup x = some k → CallOk X x k
  consts : ∀ x d, c.C.lookup x = some d → ∃ u v, X.mg x = some u ∧ RelV v u ∧ ∀ G, Rep X.K X.mg G d v
  blt : ∀ x t, btTab.lookup x = some t → X.mg x = none
  ref : ∀ r, c.rf = some r → ∃ d, RefF c.Γ X r d
section
variable {c : Ctx} {X : Cx} {sc : Scope} {E : XK}
theorem XOk.blk (h : XOk c X sc E) (s : Shared) (H : Hp) (scope : Scope) (C : Addr) (cl : List (Str × Addr)) (fp : List Addr) :
    XOk c (X.blk s H scope (compEnvC scope cl C X.env) fp) (relS scope sc) E0d where
  N := h.N
  nd := h.nd
  sc := by
    show relabel scope X.env = relS scope sc
    unfold relabel relS
    rw [h.sc]
    congr 1
    apply List.map_congr_left
    rintro ⟨n, k⟩ _
    have e : X.env.kindOf n = sc.names.lookup n := by unfold Env.kindOf; rw [h.sc]
    simp only [e]
  calm := h.calm
  hu := h.hu
  pass := passN
  calls := h.calls
  consts := h.consts
  blt := h.blt
  ref := fun r hr => let ⟨d, q⟩ := h.ref r hr; ⟨d, ⟨q.FR, q.SR, q.bR, q.hbR, q.FE, q.SE, q.hNE, q.bE, q.mR, q.mE, q.mP, q.lP, q.lE, q.lA, q.lN, q.odd, q.blt, q.TB, q.code, q.inT, q.uniq, q.room, q.calls, q.word⟩⟩
theorem gl_of (h : XOk c X sc E) {x : Str} (g : isGl sc x = true) : Gl X x ∧ (x == ("__debug__" : Str)) = false ∧ x ≠ ("__name__" : Str) := by
  unfold isGl at g
  rw [Bool.and_eq_true] at g
  have g2 := oddB_no (x := x) (by simpa using g.2)
  exact ⟨by unfold Gl Env.kindOf; rw [h.sc]; exact glB_ok g.1, g2.1, g2.2.2⟩
theorem slot_ok (h : XOk c X sc E) {x : Str} {i : Nat} (g : slotOf c sc x = some i) : X.N[i]? = some x ∧ Vis X.env.scope x ∧ (x == ("__debug__" : Str)) = false ∧ (x == ("__classdict__" : Str)) = false := by
  unfold slotOf at g
  split at g
  · rename_i hv
    rw [Bool.and_eq_true] at hv
    have o := oddB_no (x := x) (by simpa using hv.2)
    exact ⟨by rw [h.N]; exact findIx_at g, by rw [h.sc]; exact visB_ok hv.1, o.1, o.2.1⟩
  · cases g
theorem pb_var (h : XOk c X sc E) {x : Str} {i : Nat} {pos : Pos} (g : slotOf c sc x = some i) : PE X (.Name x pos) (tB X.K X.mg E (bVar i)) :=
  let ⟨h1, h2, h3, h4⟩ := slot_ok h g
  pe_weak (pe_var h1 h2 h3 h4) fun _ _ _ q => tB_var q
theorem od_cmp (h : XOk c X sc E) : ∀ op, OpD X (compareOp op) (cmpG op)
  | .Eq => od_eq (by have := h.hu; omega)
  | .NotEq => od_ne (by have := h.hu; omega)
  | .Lt => od_lt
  | .LtE => qd_le (by have := h.hu; omega)
  | .Gt => od_gt
  | .GtE => od_ge
  | .Is => qd_is
  | .IsNot => qd_isnot
  | .In => qd_in (by have := h.hu; omega)
  | .NotIn => qd_notIn (by have := h.hu; omega)
theorem blt_ok (h : XOk c X sc E) {x : Str} {t : Bt} (g : isGl sc x = true) (e : btTab.lookup x = some t) : Gl X x ∧ (x == ("__debug__" : Str)) = false ∧ x ≠ ("__name__" : Str) ∧ X.mg x = none := by
  obtain ⟨h1, h2, h3⟩ := gl_of h g
  exact ⟨h1, h2, h3, h.blt x t e⟩
/-- walked things -/
theorem pi_of {f : Expr → BW} (h : XOk c X sc E) (hf : ∀ e, PE X e (tB X.K X.mg E (f e))) (tg it : Expr) : PI X tg it (tI X.K X.mg E (iterOf f sc tg it)) := by
  have base : ∀ it, PI X tg it (tI X.K X.mg E (iSeq (own (f it)))) := fun it => pi_weak (pi_sqK (pe_own (hf it))) fun _ _ _ q => tI_seq q
  have gl : ∀ {x : Str} {t : Bt}, btOf sc x = some t → isGl sc x = true ∧ btTab.lookup x = some t := fun {x t} e => by
    unfold btOf at e
    split at e
    · exact ⟨by assumption, e⟩
    · cases e
  unfold iterOf
  split
  · rename_i x p a q
    split
    · rename_i e
      obtain ⟨g, e⟩ := gl e
      split
      · rename_i hs
        obtain ⟨h1, h2, h3, h4⟩ := blt_ok h g e
        have ex := range_name e
        subst ex
        exact pi_weak (pi_range1 h1 h4 (pa_cons (hf a) pa_nil (star_cons hs)) (star_cons hs)) fun _ _ _ q => tI_range q
      · exact pi_stuckD
    · rename_i e
      obtain ⟨g, e⟩ := gl e
      split
      · rename_i hs
        rw [Bool.and_eq_true] at hs
        obtain ⟨h1, h2, h3, h4⟩ := blt_ok h g e
        have ex := enum_name e
        subst ex
        cases tg with
        | Tuple elts kk tpos => exact pi_weak (pi_enumK h1 h4 (pa_cons (pe_own (hf a)) pa_nil (star_cons hs.1)) (star_cons hs.1)) fun _ _ _ q => tI_enum q
        | _ => simp [isTup] at hs
      · exact pi_stuckD
    · exact base _
  · rename_i x p a b q
    split
    · rename_i e
      obtain ⟨g, e⟩ := gl e
      split
      · rename_i hs
        rw [Bool.and_eq_true, Bool.and_eq_true] at hs
        obtain ⟨h1, h2, h3, h4⟩ := blt_ok h g e
        have ex := zip_name e
        subst ex
        cases tg with
        | Tuple elts kk tpos =>
          refine pi_weak (pi_zipK h1 h4 (pa_argsD hf [a, b]) (star_cons hs.1.1) ?_) fun _ _ _ q => tI_zip q
          rw [star_cons hs.1.2]; rfl
        | _ => simp [isTup] at hs
      · exact pi_stuckD
    · exact base _
  · split
    · exact base _
    · exact pi_stuckD
theorem stOk_ok {fn : Str → Bool} (h : XOk c X sc E) (hfn : ∀ x, fn x = true → X.fn x = true) {x : Str} {i : Nat} (g : stOk c sc fn x = some i) : StOk X x i := by
  unfold stOk at g
  refine ⟨by rw [h.N]; exact h.nd, ?_, ?_, ?_⟩
  · rw [h.N]
    split at g
    · exact findIx_at g
    · split at g
      · exact findIx_at g
      · cases g
    · cases g
  · unfold L2.Loc
    rw [h.sc]
    split at g
    · rename_i e; exact .inl e
    · rename_i e; exact .inr e
    · cases g
  · rw [h.sc]
    split at g
    · rename_i e; exact .inr e
    · split at g
      · rename_i e; exact .inl (hfn x e)
      · cases g
    · cases g
theorem pgs_of {fn : Str → Bool} (h : XOk c X sc E) (hfn : ∀ x, fn x = true → X.fn x = true) : ∀ {es : List Expr} {is : List Nat}, tgNames c sc fn es = some is →
    PGs X es (tGs X.K X.mg is) ∧ (assignEach es X.env).length = is.length ∧ (assignEach es X.env).findIdx? (·.1) = none
  | [], is, e => by
    unfold tgNames at e
    cases e
    exact ⟨pgss_nil, rfl, rfl⟩
  | e :: es, is, g => by
    cases e with
    | Name x pos =>
      unfold tgNames at g
      cases h1 : stOk c sc fn x with
      | none => simp [h1] at g
      | some i =>
        cases h2 : tgNames c sc fn es with
        | none => simp [h1, h2] at g
        | some js =>
          simp [h1, h2] at g
          subst g
          obtain ⟨r1, r2, r3⟩ := pgs_of h hfn h2
          have ae : assignEach (.Name x pos :: es) X.env = (false, assign (.Name x pos) X.env) :: assignEach es X.env := rfl
          refine ⟨pgss_cons (stOk_ok h hfn h1) r1, by rw [ae, List.length_cons, List.length_cons, r2], ?_⟩
          rw [ae, List.findIdx?_cons]
          simp [r3]
    | _ => simp [tgNames] at g
theorem pg_of {fn : Str → Bool} (h : XOk c X sc E) (hfn : ∀ x, fn x = true → X.fn x = true) {tg : Expr} {is : List Nat} {g : GW} (e : tgOf c sc fn tg = some (is, g)) : PG X tg (tGr X.K X.mg is g) := by
  cases tg with
  | Name x pos =>
    unfold tgOf at e
    cases h1 : stOk c sc fn x with
    | none => simp [h1] at e
    | some i =>
      simp [h1] at e
      obtain ⟨e1, e2⟩ := e
      subst e1 e2
      exact pgr_name (stOk_ok h hfn h1)
  | Tuple es k pos =>
    unfold tgOf at e
    cases h1 : tgNames c sc fn es with
    | none => simp [h1] at e
    | some js =>
      simp [h1] at e
      obtain ⟨e1, e2⟩ := e
      subst e1 e2
      obtain ⟨r1, r2, r3⟩ := pgs_of h hfn h1
      exact pgr_tup h.calm r1 r2 r3
  | _ => simp [tgOf] at e
end
end DL
set_option Elab.async false
set_option linter.all false
set_option maxRecDepth 100000
set_option maxHeartbeats 4000000
namespace DL
open PySem PySem.Spec PyProof.Rows L2

section
variable {c : Ctx} {X : Cx} {sc : Scope} {E : XK}
theorem gls_ok (h : XOk c X sc E) {x : Str} {as : List Expr} (g : (isGl sc x && allStar as) = true) : Gl X x ∧ (x == ("__debug__" : Str)) = false ∧ x ≠ ("__name__" : Str) ∧ allStar as = true := by
  rw [Bool.and_eq_true] at g
  obtain ⟨h1, h2, h3⟩ := gl_of h g.1
  exact ⟨h1, h2, h3, g.2⟩
theorem pe_fnD {x : Str} {k : FnC} {a : Expr} {as : List Expr} {t : TA} {p pos : Pos} (h : XOk c X sc E) (g : (isGl sc x && allStar (a :: as)) = true) (hk : c.Γ.lookup x = some k) (ha : PA X (a :: as) t) :
    PE X (.Call (.Name x p) (a :: as) [] pos) (tCall (spOf X.K X.mg k) [] E t) := by
  obtain ⟨h1, h2, h3, h4⟩ := gls_ok h g
  obtain ⟨lv, f, fd, ps, F, r, m, kp, b⟩ := h.calls x k hk
  unfold allStar at h4
  rw [Bool.and_eq_true] at h4
  exact pe_call F r h1 m kp b .nil h.pass ha h2 (star_cons h4.1) (allStar_back h4.2)
theorem pe_bltB {x : Str} {t : Bt} {id : String} {a : Expr} {as : List Expr} {ta : TA} {r : List V → Hp → VK → Prop} {p pos : Pos} (h : XOk c X sc E) (g : (isGl sc x && allStar (a :: as)) = true) (e : btTab.lookup x = some t) (ek : btKind t = .builtin id)
    (hc : CallR X (.builtin id) r) (ha : PA X (a :: as) ta) : PE X (.Call (.Name x p) (a :: as) [] pos) (tCB r ta) := by
  obtain ⟨h1, h2, h3, h4⟩ := gls_ok h g
  unfold allStar at h4
  rw [Bool.and_eq_true] at h4
  exact pe_callB hc h1 (h.blt x t e) (by rw [← ek]; exact boot_of e) ha h3 h2 (star_cons h4.1) (allStar_back h4.2)
theorem pe_bltT {x : Str} {t : Bt} {id : String} {a : Expr} {as : List Expr} {ta : TA} {r : List V → Hp → VK → Prop} {p pos : Pos} (h : XOk c X sc E) (g : (isGl sc x && allStar (a :: as)) = true) (e : btTab.lookup x = some t) (ek : btKind t = .type id)
    (hc : CallR X (.type id) r) (ha : PA X (a :: as) ta) : PE X (.Call (.Name x p) (a :: as) [] pos) (tCB r ta) := by
  obtain ⟨h1, h2, h3, h4⟩ := gls_ok h g
  unfold allStar at h4
  rw [Bool.and_eq_true] at h4
  exact pe_callTy hc h1 (h.blt x t e) (by rw [← ek]; exact boot_of e) ha h3 h2 (star_cons h4.1) (allStar_back h4.2)
theorem pe_fn0 {x : Str} {k : FnC} {p pos : Pos} (h : XOk c X sc E) (g : isGl sc x = true) (hk : c.Γ.lookup x = some k) : PE X (.Call (.Name x p) [] [] pos) (tCall (spOf X.K X.mg k) [] E tNil) := by
  obtain ⟨h1, h2, h3⟩ := gl_of h g
  obtain ⟨lv, f, fd, ps, F, r, m, kp, b⟩ := h.calls x k hk
  exact pe_call0 F r h1 m kp b .nil h.pass h2
theorem varF_ok {i : Nat} {ρ : List SV} {f : Str} (h : varF i ρ = some f) : ρ[i]? = some (.dat (fnD f)) := by
  unfold varF at h
  split at h
  · rename_i e; cases h; exact e
  · cases h
theorem pe_callV {x : Str} {i : Nat} {a : Expr} {as : List Expr} {w : DA} {p pos : Pos} (h : XOk c X sc E) (hs : slotOf c sc x = some i) (hst : allStar (a :: as) = true) (ha : PA X (a :: as) (tAD X.K X.mg E w)) :
    PE X (.Call (.Name x p) (a :: as) [] pos) (tB X.K X.mg E (bCallV c.Γ i w)) := by
  refine ⟨fun pins s σ H Q I hq => ?_⟩
  obtain ⟨G, F, ρ, X', P, R, ex, hw, q⟩ := hq
  unfold bCallV at hw
  split at hw
  · rename_i f hf
    split at hw
    · rename_i m sp hk
      obtain ⟨lv, f1, fd, ps, Fn, r, mf, kp, b⟩ := h.calls f _ hk
      obtain ⟨s1, s2, s3, s4⟩ := slot_ok h hs
      obtain ⟨v, e1, rv⟩ := R.slot i _ (varF_ok hf)
      rw [Rep] at rv
      obtain ⟨f2, ev, mf2⟩ := (show ∃ f2, v = V.ref f2 ∧ X.mg f = some (.ref f2) from rv)
      rw [mf] at mf2
      cases mf2
      subst ev
      unfold allStar at hst
      rw [Bool.and_eq_true] at hst
      exact (pe_callL Fn r s1 s2 kp b .nil h.pass ha s3 s4 (star_cons hst.1) (allStar_back hst.2)).run pins s σ H Q I ⟨e1, tB_call ⟨G, F, ρ, X', P, R, ex, hw, q⟩⟩
    · exact hw.elim
  · exact hw.elim
/-- isinstance(a, T) -/
def rIsi (K : PySem.W.Frag) (mg : Str → Option Value) (T : String) : List V → Hp → VK → Prop := fun xs H Q => ∃ (x : V) (G : Hp) (d : D) (P : D → Prop), xs = [x, .ty T] ∧ Same G H ∧ RepH K mg G H d x ∧ qIsi T d P ∧ ∀ z v G' H', P z → Grow G H G' H' → Rep K mg G' z v → Q v H'
theorem cd_isi {T : String} (hT : isiOk T = true) : CallR X (.builtin "isinstance") (rIsi X.K X.mg T) := by
  intro pins s σ H xs us Q I r ⟨x, G, d, P, e, sg, hx, g, q⟩
  subst e
  exact isi_core hT I r sg hx (qisi g) q
theorem isi_name {sc : Scope} {y : Str} {T : String} (ey : isiNames.lookup y = some T) : bootBuiltins y = some (.type T) ∧ isiOk T = true ∧ ∃ t, btTab.lookup y = some t := by
  have := lookup_mem ey
  simp only [isiNames, List.mem_cons, Prod.mk.injEq, List.not_mem_nil, or_false] at this
  rcases this with ⟨rfl, rfl⟩ | ⟨rfl, rfl⟩ | ⟨rfl, rfl⟩ | ⟨rfl, rfl⟩ | ⟨rfl, rfl⟩
  · exact ⟨boot_of (t := .int) (by decide +kernel), by decide +kernel, .int, by decide +kernel⟩
  · exact ⟨boot_of (t := .bool) (by decide +kernel), by decide +kernel, .bool, by decide +kernel⟩
  · exact ⟨boot_of (t := .str) (by decide +kernel), by decide +kernel, .str, by decide +kernel⟩
  · exact ⟨boot_of (t := .list) (by decide +kernel), by decide +kernel, .list, by decide +kernel⟩
  · exact ⟨boot_of (t := .tuple) (by decide +kernel), by decide +kernel, .tuple, by decide +kernel⟩
theorem pe_isiD {x : Str} {t : Expr} {T : String} {a : Expr} {w : BW} {p pos : Pos} (h : XOk c X sc E) (g : (isGl sc x && allStar [a, t]) = true) (e : btTab.lookup x = some .isinstance) (et : clsOf sc t = some T)
    (ha : PE X a (tB X.K X.mg E w)) : PE X (.Call (.Name x p) [a, t] [] pos) (tB X.K X.mg E (bUn (qIsi T) w)) := by
  have hs := (gls_ok h g).2.2.2
  unfold allStar at hs
  rw [Bool.and_eq_true] at hs
  cases t with
  | Name y p2 =>
    unfold clsOf at et
    simp only at et
    split at et
    · rename_i gy
      obtain ⟨k1, k2, k3⟩ := gl_of h gy
      obtain ⟨hy1, hy2, ty, hy3⟩ := isi_name (sc := sc) et
      refine pe_weak (pe_bltB h g e rfl (cd_isi hy2) (pa_cons ha (pa_cons (pe_bltn (v := .ty T) k1 (h.blt y ty hy3) hy1 rfl k3 k2) pa_nil rfl) (star_cons hs.1))) fun σ H Q q => ?_
      obtain ⟨G, F, ρ, X', P, R, ex, hw, q⟩ := q
      refine ⟨G, F, ρ, X', _, R, ex, hw, fun b ρ1 v H1 G1 pb s1 R1 rb => ?_⟩
      obtain ⟨d, ed, pb⟩ := use_res pb
      exact ⟨v, G1, d, _, rfl, R1.gh, rb.res R1 ed, pb, fun z v G' H' pz gr rz => q _ _ _ H' G' pz (s1.trans (gr.ext R1.fh)) (R1.grow gr) rz⟩
    · cases et
  | _ => simp [clsOf] at et
/-! len(set(x)) -/
theorem distinct_spec : ∀ (ns acc : List Int), acc.Nodup → (ns.foldl PyProof.Rows.step_dedup acc).Nodup ∧ ∀ k, k ∈ ns.foldl PyProof.Rows.step_dedup acc ↔ k ∈ acc ∨ k ∈ ns
  | [], acc, h => ⟨h, fun k => by simp⟩
  | n :: ns, acc, h => by
    rw [List.foldl_cons]
    have st : (PyProof.Rows.step_dedup acc n).Nodup ∧ ∀ k, k ∈ PyProof.Rows.step_dedup acc n ↔ k ∈ acc ∨ k = n := by
      unfold PyProof.Rows.step_dedup
      split
      · rename_i hm
        have hm' : n ∈ acc := by simpa using hm
        refine ⟨h, fun k => ⟨fun z => .inl z, fun z => z.elim id fun e => by rw [e]; exact hm'⟩⟩
      · rename_i hm
        have hm' : n ∉ acc := by simpa using hm
        refine ⟨?_, fun k => by simp⟩
        rw [List.nodup_append]
        exact ⟨h, by simp, fun a ha b hb => by rintro rfl; simp at hb; subst hb; exact hm' ha⟩
    obtain ⟨r1, r2⟩ := distinct_spec ns _ st.1
    refine ⟨r1, fun k => ?_⟩
    rw [r2, st.2, List.mem_cons, or_assoc]
theorem distinct_nodup (ns : List Int) : (distinct ns).Nodup := (distinct_spec ns [] List.nodup_nil).1
theorem distinct_mem (ns : List Int) (k : Int) : k ∈ distinct ns ↔ k ∈ ns := by
  have := (distinct_spec ns [] List.nodup_nil).2 k
  rw [show distinct ns = ns.foldl PyProof.Rows.step_dedup [] from rfl, this]
  simp
theorem count_distinct {ns l : List Int} (nd : l.Nodup) (h : ∀ k, k ∈ ns ↔ k ∈ l) : l.length = (distinct ns).length := by
  refine List.Perm.length_eq ?_
  exact (List.perm_ext_iff_of_nodup nd (distinct_nodup ns)).mpr fun k => by rw [distinct_mem, h]
theorem vals_int_of {K : PySem.W.Frag} {mg : Str → Option Value} {G : Hp} : ∀ {ds : List D} {ns : List Int} {vs : List V}, intsOf ds = some ns → RepL K mg G ds vs → vs = ns.map V.int
  | ds, ns, vs, e, r => by
    have := intsOf_eq e
    subst this
    exact r.ints
theorem firstMet_all (ns : List Int) : PyProof.Rows.firstMet (fun i => ns.getD i 0) ns.length = distinct ns := by
  unfold PyProof.Rows.firstMet distinct
  congr 1
  apply List.ext_getElem
  · simp
  · intro i h1 h2
    simp only [List.getElem_map, List.getElem_range]
    rw [List.getD_eq_getElem?_getD, List.getElem?_eq_getElem h2]
    rfl
theorem pe_lenSetD {x y : Str} {b : Expr} {w : BW} {p q p2 pos : Pos} (h : XOk c X sc E) (g : (isGl sc x && allStar [.Call (.Name y p2) [b] [] q]) = true) (e : btTab.lookup x = some .len) (gy : isGl sc y = true) (ey : btTab.lookup y = some .set) (hs : starOk b = true)
    (hb : PE X b (tB X.K X.mg E w)) : PE X (.Call (.Name x p) [.Call (.Name y p2) [b] [] q] [] pos) (tB X.K X.mg E (bUn gLenSet w)) := by
  obtain ⟨h1, h2, h3, h4⟩ := gls_ok h g
  obtain ⟨k1, k2, k3⟩ := gl_of h gy
  refine ⟨fun pins s σ H Q I hq => ?_⟩
  obtain ⟨G, F, ρ, X', P, R, ex, hw, fin⟩ := hq
  refine wpAny_Call_Name_kw (ld_blt I h1 (h.blt x _ e) (boot_of e) ?_ h3 h2)
  refine PyProof.Rows.callWith_builtin1 (PyProof.Rows.args_cons ?_ rfl) rfl rfl
  refine wpAny_Call_Name_kw (ld_blt I k1 (h.blt y _ ey) (boot_of ey) ?_ k3 k2)
  have na : starEach [b] X.env = (false, eval b X.env) :: starEach [] X.env := star_cons hs
  refine PyProof.Rows.callWith_type1 (PyProof.Rows.args_cons (thn (hb.run pins s σ H (fun v H1 => ∃ (G1 : Hp) (d : D) (ρ1 : List SV), Ext F G G1 ∧ Rel X.K X.mg G1 F ρ1 σ H1 ∧ RepH X.K X.mg G1 H1 d v ∧ gLenSet d fun z => P (.val z) ρ1) I
    ⟨G, F, ρ, X', _, R, ex, hw, fun b ρ1 v H1 G1 pb s1 R1 rb => ?_⟩) fun v s1 ⟨xv, H1, I1, r1, q1⟩ => PyProof.Rows.args_nil ?_) na) na rfl
  · obtain ⟨d, ed, pb⟩ := use_res pb
    exact ⟨G1, d, ρ1, s1, R1, rb.res R1 ed, pb⟩
  obtain ⟨G1, d, ρ1, sg, R1, rd, gd⟩ := q1
  have cont : ∀ {ds : List D} {ns : List Int} {vs : List V} {its : List Value}, intsOf ds = some ns → RepL X.K X.mg G1 ds vs → Vals vs its → vs = ns.map V.int ∧ its.length = ns.length := fun {ds ns vs its} e1 rr rv => by
    have ev := vals_int_of e1 rr
    refine ⟨ev, ?_⟩
    rw [← rv.length, ev, List.length_map]
  have done : ∀ {n : Nat} {h' : Heap} {tk a : Nat} {o : Obj} {es : Array (Int × Value)} {ep : Nat} {t : SetTable}, h'.get? a = some o → o.ExactSet → o.data = .set es ep t → t.fits es.size = true → es.size = n → (es.size : Int) < 2 ^ 63 → P (.val (.int (n : Int))) ρ1 →
      (∀ b o, s1.heap.get? b = some o → h'.get? b = some o) → wpAny (model X.prog X.w) X.A (call (.builtin "len") [.ref a]) (EP X pins σ Q) X.xe { s1 with heap := h', toks := tk } := fun {n h' tk a o es ep t} ho hex hd hf hn hfit pp hk => by
    have I2 : Inv X pins σ H1 { s1 with heap := h', toks := tk } := I1.kept hk
    refine call_len_set ho hex hd hf hfit ⟨.int n, H1, I2.tok _, ⟨_, by rw [hn]⟩, fin _ ρ1 _ H1 G1 pp sg R1 ?_⟩
    show Rep X.K X.mg G1 (.int (n : Int)) _
    exact rep_int
  unfold gLenSet at gd
  split at gd
  · rename_i ds
    split at gd
    · rename_i ns ens
      obtain ⟨a, vs, e1, ha, rr⟩ := rd.tup R1.gh
      subst e1
      cases r1
      obtain ⟨its, rv, pt, hz⟩ := I1.tuple (.of ha)
      obtain ⟨ev, el⟩ := cont ens rr rv
      subst ev
      refine call_set_tupI ns (I1.ok.hd h.calm) pt (by simpa using ints_of_vals rv) (by unfold scanBound; omega) fun h' tk cc R2 hcn k => ?_
      obtain ⟨o, es, ep, t, ho, hex, hdt, gg, nd, hm2, hbd, hf, hn, hr, hl2⟩ := R2
      refine PyProof.Rows.args_nil ?_
      have hc : cc = (distinct ns).length := by
        rw [← hn]
        have := count_distinct (ns := ns) nd fun k => by rw [← hm2 k, decide_eq_true_eq]
        simpa using this
      exact done ho hex hdt hf hn (by omega) (by rw [hc]; exact gd.2) k
    · exact gd.elim
  · rename_i ds
    split at gd
    · rename_i ns ens
      obtain ⟨a, vs, e1, ha, rr⟩ := rd.lst R1.gh
      subst e1
      cases r1
      obtain ⟨its, rv, pl, hz⟩ := I1.list (.of ha)
      obtain ⟨ev, el⟩ := cont ens rr rv
      subst ev
      refine call_set_list (I1.ok.hd h.calm) pl.isList (ns := ns) (by simpa using ints_of_vals rv) (by simp only [List.size_toArray]; unfold scanBound; omega) fun h' tk hS hk => ?_
      simp only [List.size_toArray, el] at hS
      rw [firstMet_all] at hS
      refine PyProof.Rows.args_nil ?_
      obtain ⟨o, es, ep, t, ho, hex, hd, _, _, _, hf, hn⟩ := hS
      have hle := (PyProof.Rows.firstMet_length_le (fun i => ns.getD i 0) ns.length)
      rw [firstMet_all] at hle
      exact done ho hex hd hf hn (by omega) gd.2 fun b o e => hk b o (Heap.lt_size e) e
    · exact gd.elim
  · exact gd.elim
end
end DL
set_option Elab.async false
set_option linter.all false
set_option maxRecDepth 100000
set_option maxHeartbeats 4000000
namespace DL
open PySem PySem.Spec PyProof.Rows L2

section
variable {c : Ctx} {X : Cx} {sc : Scope} {E : XK}
theorem binG_ok {op : Operator} {g : G2} (e : binG op = some g) : OpD X (binaryOp op) g := by
  cases op <;> simp only [binG, Option.some.injEq, reduceCtorEq] at e
  all_goals subst e
  · exact qd_add
  · exact od_sub
  · exact qd_mul
  · exact od_mod
  · exact od_pow
  · exact od_div
theorem meth_ok {o a : Expr} {ap p : Pos} (h : methB o ap p a = true) : plainO o = true ∧ (ap.endLine == p.line) = true ∧ starOk a = true := by
  unfold methB at h
  rw [Bool.and_eq_true, Bool.and_eq_true] at h
  exact ⟨h.1.1, h.1.2, h.2⟩

theorem rng_name {x : Str} {t : Bt} (e : btTab.lookup x = some t) : True := trivial
theorem list_name {x : Str} (e : btTab.lookup x = some .list) : x = "list" := by
  have := lookup_mem e
  simp only [btTab, List.mem_cons, Prod.mk.injEq, reduceCtorEq, and_false, and_true, false_or, or_false, List.not_mem_nil] at this
  exact this
theorem tuple_name {x : Str} (e : btTab.lookup x = some .tuple) : x = "tuple" := by
  have := lookup_mem e
  simp only [btTab, List.mem_cons, Prod.mk.injEq, reduceCtorEq, and_false, and_true, false_or, or_false, List.not_mem_nil] at this
  exact this
theorem pe_rng {x y : Str} {b : Expr} {w : BW} {p q p2 pos : Pos} (h : XOk c X sc E) (g : (isGl sc x && allStar [.Call (.Name y p2) [b] [] q]) = true) (e : btTab.lookup x = some .list) (hr : rngB sc y b = true) (hb : PE X b (tB X.K X.mg E w)) :
    PE X (.Call (.Name x p) [.Call (.Name y p2) [b] [] q] [] pos) (tF X.K X.mg E (fRng w)) := by
  unfold rngB at hr
  rw [Bool.and_eq_true, Bool.and_eq_true, decide_eq_true_eq] at hr
  obtain ⟨⟨gy, ey⟩, hs⟩ := hr
  have h1 := (gls_ok h g).1
  have h2 := (gl_of h gy).1
  have m1 := h.blt x _ e
  have m2 := h.blt y _ ey
  have e1 := list_name e
  have e2 := range_name ey
  subst e1 e2
  exact pe_weak (pe_listRg h.calm h1 m1 (prg_1 h2 m2 hb (star_cons hs)) rfl) fun _ _ _ q => tF_rng q
theorem pe_trng {x y : Str} {b : Expr} {w : BW} {p q p2 pos : Pos} (h : XOk c X sc E) (g : (isGl sc x && allStar [.Call (.Name y p2) [b] [] q]) = true) (e : btTab.lookup x = some .tuple) (hr : rngB sc y b = true) (hb : PE X b (tB X.K X.mg E w)) :
    PE X (.Call (.Name x p) [.Call (.Name y p2) [b] [] q] [] pos) (tB X.K X.mg E (bTRng w)) := by
  unfold rngB at hr
  rw [Bool.and_eq_true, Bool.and_eq_true, decide_eq_true_eq] at hr
  obtain ⟨⟨gy, ey⟩, hs⟩ := hr
  have h1 := (gls_ok h g).1
  have h2 := (gl_of h gy).1
  have m1 := h.blt x _ e
  have m2 := h.blt y _ ey
  have e1 := tuple_name e
  have e2 := range_name ey
  subst e1 e2
  exact pe_weak (pe_tupRg h.calm h1 m1 (prg_1 h2 m2 hb (star_cons hs)) rfl) fun _ _ _ q => tB_trng q
/-- all three at a fuel -/
structure Snd (c : Ctx) (n : Nat) : Prop where
  b : ∀ {X : Cx} {sc : Scope} {E : XK}, XOk c X sc E → ∀ e, PE X e (tB X.K X.mg E (eB c n sc e))
  t : ∀ {X : Cx} {sc : Scope} {E : XK}, XOk c X sc E → ∀ e, PT X e (tT X.K X.mg E (eT c n sc e))
  f : ∀ {X : Cx} {sc : Scope} {E : XK}, XOk c X sc E → ∀ e, PE X e (tF X.K X.mg E (eF c n sc e))
theorem snd_zero : Snd c 0 where
  b _ _ := pe_stuckB
  t _ _ := pt_stuckT
  f _ _ := pe_stuckD
theorem snd_comp {n : Nat} (ih : Snd c n) (h : XOk c X sc E) {elt tg it : Expr} {ifs : List Expr} {scope : Scope} {pos : Pos} {is : List Nat} {g : GW} {tt : TW} (hb : blkC c.N sc scope (ownOf c scope) = true) (hs : noSet it = true)
    (ht : tgOf c (relS scope sc) (fnBlk scope) tg = some (is, g)) (hw : (is.all fun i => ((ownOf c scope).map (·.2)).contains i) = true)
    (htt : ∀ {X' : Cx}, XOk c X' (relS scope sc) E0d → PTs X' ifs (tT X'.K X'.mg E0d tt)) :
    PE X (.ListComp elt [⟨tg, it, ifs, 0⟩] scope pos) (tF X.K X.mg E (fComp (iterOf (eB c n sc) sc tg it) g tt (own (eB c n (relS scope sc) elt)) ((ownOf c scope).map (·.2)))) := by
  have hv : wipeAll is ((ownOf c scope).map (·.2)) := fun i hi => by
    have := List.all_eq_true.mp hw i hi
    simpa using this
  refine pe_weak (pe_lc (wi := tI X.K X.mg E (iterOf (eB c n sc) sc tg it)) (g := tGr X.K X.mg is g) (tt := tT X.K X.mg E0d tt) (te := tE X.K X.mg E0d (own (eB c n (relS scope sc) elt))) (own := ownOf c scope) h.calm (by rw [h.N]; exact h.nd)
    (pi_of h (ih.b h) tg it) (blkOk_by (by rw [h.N, h.sc]; exact hb)) (fun s H C cl fp => ?_) (fun s H C cl fp => ?_) (fun s H C cl fp => ?_) (folded_ok hs)) fun σ H Q q => tF_comp hv q
  · exact pg_of (fn := fnBlk scope) (h.blk s H scope C cl fp) (fun x hx => hx) ht
  · exact htt (h.blk s H scope C cl fp)
  · exact pe_own (ih.b (h.blk s H scope C cl fp) elt)
theorem snd_f {n : Nat} (ih : Snd c n) (h : XOk c X sc E) (e : Expr) : PE X e (tF X.K X.mg E (eF c (n + 1) sc e)) := by
  unfold eF
  split
  · exact pe_weak (pe_lst (pa_argsD (ih.b h) _)) fun _ _ _ q => tF_lst q
  · split
    · rename_i hb
      rw [Bool.and_eq_true] at hb
      split
      · rename_i ht
        split
        · rename_i hw
          split
          · exact snd_comp ih h hb.1 hb.2 ht hw fun {X'} h' => ⟨fun pins s σ H Q I hq => pts_nil.run pins s σ H Q I (by
              obtain ⟨G, F, ρ, X1, P, R, ex, hw, q⟩ := hq
              exact q true ρ H G hw Ext.refl R)⟩
          · exact snd_comp ih h hb.1 hb.2 ht hw fun {X'} h' => pts_one (ih.t h' _)
          · exact pe_stuckD
        · exact pe_stuckD
      · exact pe_stuckD
    · exact pe_stuckD
  · split
    · rename_i g
      split
      · rename_i hk
        exact pe_weak (pe_fnD h g hk (pa_argsD (ih.b h) _)) fun _ _ _ q => tF_call q
      · split
        · rename_i e
          split
          · split
            · rename_i hr
              exact pe_rng h g e hr (ih.b h _)
            · exact pe_weak (pe_bltT h g e rfl jf_list (pa_argsB (ih.b h) _)) fun _ _ _ q => tF_cb q
          · exact pe_weak (pe_bltT h g e rfl jf_list (pa_argsB (ih.b h) _)) fun _ _ _ q => tF_cb q
        · rename_i e
          exact pe_weak (pe_bltB h g e rfl (jf_sorted h.hu) (pa_argsB (ih.b h) _)) fun _ _ _ q => tF_cb q
        · exact pe_stuckD
      · exact pe_stuckD
    · exact pe_stuckD
  · split
    · rename_i hm
      rw [Bool.and_eq_true, decide_eq_true_eq] at hm
      obtain ⟨hm, hf⟩ := hm
      subst hf
      obtain ⟨m1, m2, m3⟩ := meth_ok hm
      exact pe_weak (pe_split (ih.b h _) (ih.b h _) (star_cons m3) (plainO_ok m1) m2) fun _ _ _ q => tF_split q
    · exact pe_stuckD
  · exact pe_stuckD

theorem snd_t {n : Nat} (ih : Snd c n) (h : XOk c X sc E) (e : Expr) : PT X e (tT X.K X.mg E (eT c (n + 1) sc e)) := by
  unfold eT
  split
  · exact pt_weak (pt_not (ih.t h _)) fun _ _ _ q => tT_not q
  · exact (pw_andT (ih.t h) _).pt
  · exact (pw_orT (ih.t h) _).pt
  · split
    · exact pt_stuckT
    · rename_i hm
      exact pt_cmpD (od_cmp h _) (ih.b h _) (ih.b h _) (by simpa using hm)
  · split
    · exact pt_stuckT
    · rename_i hm
      exact chain_t (od_cmp h _) (od_cmp h _) (ih.b h _) (ih.b h _) (ih.b h _) (by simpa using hm)
  · exact pt_stuckT
  · exact pt_stuckT
  · rename_i n1 n2 n3 n4 n5 n6 n7
    refine pt_valD (ih.b h _) ?_
    intro whole
    cases e <;> first
      | rfl
      | (exfalso; first | exact n1 _ _ rfl | exact n2 _ _ rfl | exact n6 _ _ _ _ rfl | exact n7 _ _ _ _ rfl)
      | skip
    · rename_i op vs p
      cases op
      · exact (n2 _ _ rfl).elim
      · exact (n3 _ _ rfl).elim
    · rename_i op a p
      cases op
      all_goals first
        | rfl
        | exact (n1 _ _ rfl).elim
theorem xok_lam {Γ : List (Str × FnC)} {r : RefC} {d : RefD} (h : XOk c X sc E) (q : RefF c.Γ X r d) {A : Around} {outer : List Env} {s : Shared} {H : Hp} {E' : XK} {scope : Scope} {f c' : Addr} (hr : Room (d.k + 1) (A.deeper (LamX.lamEnv X scope s.heap.objs.size f c'))) :
    XOk { c with rf := none } (lamN X A outer s H E' scope f c') scope E' where
  N := h.N
  nd := h.nd
  sc := rfl
  calm := rfl
  hu := by have := hr.un; show (A.deeper _).units + 100 < cLine; omega
  pass := L2N.passes_call (L2N.takes_of (E := E') rfl rfl rfl rfl) (fun _ _ _ _ h => h)
  calls := fun x k hk => by
    obtain ⟨j, f, fd, ps, hj, F, m, kp, b⟩ := q.calls x k hk
    exact ⟨j, f, fd, ps, F, hr.mono hj, m, kp, b⟩
  consts := h.consts
  blt := h.blt
  ref := fun r hr => by cases hr
theorem snd_b {n : Nat} (ih : Snd c n) (ih' : Snd { c with rf := none } n) (h : XOk c X sc E) (e : Expr) : PE X e (tB X.K X.mg E (eB c (n + 1) sc e)) := by
  have cst : ∀ {x : Str} {d : D} {pos : Pos}, isGl sc x = true → c.C.lookup x = some d → PE X (.Name x pos) (tB X.K X.mg E (bC d)) := fun {x d pos} g e => by
    obtain ⟨k1, k2, k3⟩ := gl_of h g
    obtain ⟨u, v, m, r, rp⟩ := h.consts x d e
    exact pe_weak (pe_glob k1 m r k2) fun _ _ _ q => tB_c rp q
  have B : ∀ {x : Str} {a : Expr} {as : List Expr} {p pos : Pos} {t : Bt} {id : String} {gg : GL}, (isGl sc x && allStar (a :: as)) = true → btTab.lookup x = some t → btKind t = .builtin id → CallD X (.builtin id) gg → PE X (.Call (.Name x p) (a :: as) [] pos) (tB X.K X.mg E (bCB gg (argsB (eB c n sc) (a :: as)))) := fun g e ek hc =>
    pe_weak (pe_bltB h g e ek hc (pa_argsB (ih.b h) _)) fun _ _ _ q => tB_cb q
  have T : ∀ {x : Str} {a : Expr} {as : List Expr} {p pos : Pos} {t : Bt} {id : String} {gg : GL}, (isGl sc x && allStar (a :: as)) = true → btTab.lookup x = some t → btKind t = .type id → CallD X (.type id) gg → PE X (.Call (.Name x p) (a :: as) [] pos) (tB X.K X.mg E (bCB gg (argsB (eB c n sc) (a :: as)))) := fun g e ek hc =>
    pe_weak (pe_bltT h g e ek hc (pa_argsB (ih.b h) _)) fun _ _ _ q => tB_cb q
  unfold eB
  split
  · exact pe_weak pe_int fun _ _ _ q => tB_c (fun _ => rep_int) q
  · exact pe_weak pe_bl fun _ _ _ q => tB_c (fun _ => rep_bl) q
  · exact pe_weak pe_str fun _ _ _ q => tB_c (fun _ => rep_str) q
  · exact pe_weak pe_non fun _ _ _ q => tB_c (fun _ => rep_non) q
  · split
    · rename_i hs
      exact pb_var h hs
    · split
      · rename_i g
        split
        · rename_i e
          exact cst g e
        · exact pe_stuckB
      · exact pe_stuckB
  · split
    · rename_i hg
      exact pe_weak (pe_op (binG_ok hg) (ih.b h _) (ih.b h _)) fun _ _ _ q => tB_op q
    · exact pe_stuckB
  · exact pe_weak (pe_not (ih.b h _)) fun _ _ _ q => tB_not q
  · exact pe_weak (pe_un od_neg (ih.b h _)) fun _ _ _ q => tB_un q
  · exact pe_andB (ih.b h) _
  · exact pe_orB (ih.b h) _
  · split
    · exact pe_stuckB
    · rename_i hm
      exact pe_cmpD (od_cmp h _) (ih.b h _) (ih.b h _) (by simpa using hm)
  · split
    · exact pe_stuckB
    · rename_i hm
      exact pe_weak (pe_chain (od_cmp h _) (od_cmp h _) (ih.b h _) (ih.b h _) (ih.b h _) (by simpa using hm)) fun _ _ _ q => tB_chain q
  · exact pe_weak (pe_ifExp (ih.t h _) (ih.b h _) (ih.b h _)) fun _ _ _ q => tB_if q
  · exact pe_weak (pe_slice sld (ih.b h _) (po_part (ih.b h) _) (po_part (ih.b h) _)) fun _ _ _ q => tB_sl q
  · split
    · rename_i hs
      exact pe_weak (pe_ix ixq (ih.b h _) (ih.b h _) (plainIx fun l u st p e => by rw [e] at hs; cases hs)) fun _ _ _ q => tB_op q
    · exact pe_stuckB
  · exact pe_weak (pe_tup (pa_argsD (ih.b h) _)) fun _ _ _ q => tB_tup q
  · exact pe_weak (pe_lst (pa_argsD (ih.b h) _)) fun _ _ _ q => tF_lst (tF_of_tB q)
  · exact pe_weak (ih.f h _) fun _ _ _ q => tF_of_tB q
  · split
    · rename_i r hr
      split
      · rename_i hh
        obtain ⟨hx, g, np, ls⟩ := hh
        subst hx
        obtain ⟨d, q⟩ := h.ref r hr
        exact q.rule (gl_of h g).1 (by rw [h.sc]; exact LamX.lamS_by ls) np fun A outer s H E' f c' hroom => ih'.b (xok_lam (Γ := c.Γ) h q hroom) _
      · exact pe_stuckB
    · exact pe_stuckB
  · split
    · rename_i g
      split
      · rename_i hk
        exact pe_weak (pe_fnD h g hk (pa_argsD (ih.b h) _)) fun _ _ _ q => tB_call q
      · exact pe_weak (ih.f h _) fun _ _ _ q => tF_of_tB q
      · rename_i hk
        split
        · split
          · rename_i hs
            obtain ⟨s1, s2, s3, s4⟩ := slot_ok h hs
            exact pe_weak (pe_fnD h g hk (pa_cons (pe_var s1 s2 s3 s4) (pa_argsD (ih.b h) _) (star_cons rfl))) fun _ _ _ q => tB_callM q
          · exact pe_stuckB
        · exact pe_stuckB
      · split
        · rename_i e
          split
          · split
            · rename_i hh
              rw [Bool.and_eq_true, Bool.and_eq_true] at hh
              exact pe_lenSetD h g e hh.1.1 (of_decide_eq_true hh.1.2) hh.2 (ih.b h _)
            · exact B g e rfl qd_len
          · exact B g e rfl qd_len
        · rename_i e; exact B g e rfl (cd_all h.calm)
        · rename_i e; exact B g e rfl (cd_any h.calm)
        · rename_i e; exact B g e rfl (cd_sum h.calm)
        · rename_i e; exact B g e rfl (cd_max h.calm)
        · rename_i e; exact B g e rfl (qd_min h.calm)
        · rename_i e; exact T g e rfl qd_int
        · rename_i e; exact T g e rfl qd_bool
        · rename_i e; exact T g e rfl cd_str
        · rename_i e
          split
          · split
            · rename_i hr
              exact pe_trng h g e hr (ih.b h _)
            · exact T g e rfl qd_tuple
          · exact T g e rfl qd_tuple
        · exact pe_weak (ih.f h _) fun _ _ _ q => tF_of_tB q
        · exact pe_weak (ih.f h _) fun _ _ _ q => tF_of_tB q
        · rename_i e
          split
          · split
            · rename_i et
              split
              · exact pe_isiD h g e et (ih.b h _)
              · exact pe_stuckB
            · exact pe_stuckB
          · exact pe_stuckB
        · exact pe_stuckB
    · split
      · rename_i hs
        split
        · rename_i hst
          exact pe_callV h hs hst (pa_argsD (ih.b h) _)
        · exact pe_stuckB
      · exact pe_stuckB
  · split
    · rename_i g
      split
      · rename_i hk
        exact pe_weak (pe_fn0 h g hk) fun σ H Q q => by
          obtain ⟨G, F, ρ, X', P, R, ex, hw, q⟩ := q
          exact tAD_nil (tB_call ⟨G, F, ρ, X', P, R, ex, hw, q⟩)
      · exact pe_stuckB
    · exact pe_stuckB
  · split
    · rename_i hm
      split
      · rename_i hf
        subst hf
        obtain ⟨m1, m2, m3⟩ := meth_ok hm
        exact pe_weak (pe_join (ih.b h _) (ih.b h _) (star_cons m3) (plainO_ok m1) m2) fun _ _ _ q => tB_join q
      · exact pe_weak (ih.f h _) fun _ _ _ q => tF_of_tB q
    · exact pe_stuckB
  · exact pe_stuckB
theorem snd (c : Ctx) : ∀ n, Snd c n
  | 0 => snd_zero
  | n + 1 => ⟨fun h e => snd_b (snd c n) (snd _ n) h e, fun h e => snd_t (snd c n) h e, fun h e => snd_f (snd c n) h e⟩
end
end DL
set_option Elab.async false
set_option linter.all false
set_option maxRecDepth 100000
set_option maxHeartbeats 4000000
namespace DL
open PySem PySem.Spec PyProof.Rows L2

/-! ### statements -/
/-- the names stored at once, from the last (none: it cannot be told) -/
def parO (sc : Scope) (ts vs : List Expr) : Option (Option (List Str)) :=
  if !(ts.length == 2 || ts.length == 3) || vs.length != ts.length then some none else
  if vs.any (fun e => !starOk e) then some none else
  let line := (ts.head?.map (·.pos.line)).getD 0
  let names := ts.filterMap fun e => match e with
    | .Name id pos => if sc.names.lookup id == some .local && pos.line == line then some id else none
    | _ => none
  if names.length != ts.length || names.eraseDups.length != names.length then some none else
  if vs.all (foldedForSure 8) then some none else
  if vs.all (constantsAlone 8) then none else some (some names)




def parP (c : Ctx) (n : Nat) (sc : Scope) : List Nat → List Expr → PIW
  | [], [] => pNil
  | i :: is, e :: es => if starOk e then (if c.ms.contains i then pF (eF c n sc e) (parP c n sc is es) else pO (own (eB c n sc e)) (parP c n sc is es)) else fun _ _ _ => False
  | _, _ => fun _ _ _ => False
def slots (c : Ctx) (sc : Scope) : List Str → Option (List Nat)
  | [] => some []
  | x :: xs => match locB sc x, findIx c.N x 0, slots c sc xs with
    | true, some i, some is => some (i :: is)
    | _, _, _ => none
def nameOf : Expr → Option Str
  | .Name x _ => some x
  | _ => none
def namesOf : List Expr → Option (List Str)
  | [] => some []
  | e :: es => match nameOf e, namesOf es with
    | some x, some xs => some (x :: xs)
    | _, _ => none
def sFrz (i : Nat) (w : DA) : SW := fun X ρ O => w X ρ fun ds ρ1 => i < ρ1.length ∧ O.nx (ρ1.set i (.dat (.list ds)))
def eAsg (c : Ctx) (n : Nat) (sc : Scope) (t v : Expr) : SW := match t with
  | .Name y py => match locOf c sc y with
    | some i => if c.ms.contains i then sSetC i (eF c n sc v) else
      (if isLc v then sFrz i (eF c n sc v) else if noComp v then sAsg (own (eB c n sc v)) (gNm i) else stuckS)
    | none => stuckS
  | .Tuple ts _ _ => match tgOf c sc (fun _ => true) t with
    | some (is, g) => match v with
      | .Tuple vs _ _ => match parO sc ts vs with
        | some none => if is.any c.ms.contains then stuckS else sAsg (own (eB c n sc v)) g
        | some (some xs) => match namesOf ts with
          | some ys => if xs = ys then (match slots c sc ys with
            | some [i, j] => if i ≠ j then sPar [i, j] (parP c n sc [i, j] vs) else stuckS
            | some [i, j, k] => if i ≠ j ∧ i ≠ k ∧ j ≠ k then sPar [i, j, k] (parP c n sc [i, j, k] vs) else stuckS
            | _ => stuckS) else stuckS
          | none => stuckS
        | none => stuckS
      | _ => if is.any c.ms.contains then stuckS else sAsg (own (eB c n sc v)) g
    | none => stuckS
  | .Subscript (.Name x _) ix _ => match slotOf c sc x with
    | some i => if noSlice ix then sSetIx i (own (eB c n sc v)) (eB c n sc ix) else stuckS
    | none => stuckS
  | _ => stuckS
def eExpr (c : Ctx) (n : Nat) (sc : Scope) (e : Expr) : SW := match e with
  | .Constant (.str _) _ _ => sSkip
  | .Call (.Attribute (.Name x _) f ap) [a] [] p => if f = ("append" : Str) ∧ (ap.endLine == p.line) = true ∧ starOk a = true then (match slotOf c sc x with
    | some i => sApp i (own (eB c n sc a))
    | none => stuckS) else stuckS
  | e => if noComp e then sExpr (eB c n sc e) else stuckS
def raiseOf (c : Ctx) (sc : Scope) : Expr → Option Str
  | .Call (.Name x _) [.Constant (.str _) _ _] [] _ => if isGl sc x && c.R.contains x then some x else none
  | _ => none
def sRaiseO : Option Str → SW
  | some x => sRaise x
  | none => stuckS
mutual
def eS (c : Ctx) (n : Nat) : Nat → Scope → Stmt → SW
  | 0, _, _ => stuckS
  | m + 1, sc, st => match st with
    | .Pass _ => sSkip
    | .Break _ => sBrk
    | .Continue _ => sCont
    | .Return none _ => sRetN
    | .Return (some e) _ => sRet (own (eB c n sc e))
    | .Expr e _ => eExpr c n sc e
    | .Assign [t] v _ => eAsg c n sc t v
    | .If t a b _ => sIf (eT c n sc t) (eSs c n m sc a) (eSs c n m sc b)
    | .For tg it body [] _ => if noSet it then (match tgOf c sc (fun _ => true) tg with
      | some (is, g) => if is.any c.ms.contains then stuckS else sFor (iterOf (eB c n sc) sc tg it) g (eSs c n m sc body)
      | none => stuckS) else stuckS
    | .While t body [] _ => sWhile (eT c n sc t) (eSs c n m sc body)
    | .Raise (some e) none _ => sRaiseO (raiseOf c sc e)
    | _ => stuckS
def eSs (c : Ctx) (n : Nat) : Nat → Scope → List Stmt → SW
  | 0, _, _ => stuckS
  | m + 1, sc, sts => match sts with
    | [] => sSkip
    | [st] => eS c n m sc st
    | st :: b :: r => sSeq (eS c n m sc st) (eSs c n m sc (b :: r))
end
/-! ### soundness -/
def RaiseOk (X : Cx) (x : Str) : Prop := ∃ (C : Addr) (bmB : List Value) (B newId initId : String), PySem.ExcBaseFacts B newId initId bmB ∧ PySem.W.excIn X.K C bmB newId = true ∧ X.mg x = some (.ref C) ∧ PySem.W.keepIn X.K (.ref C) = true ∧ Raises X (.ref C)
structure SOk (c : Ctx) (X : Cx) (sc : Scope) (E : XK) : Prop extends XOk c X sc E where
  kind : X.env.scope.kind = .function
  pown : PassesOwn (model X.prog X.w) X.A X.env X.xe
  tk : L2N.Takes X (fun cls d _ H => E cls d H)
  fn : ∀ x, X.fn x = true
  raises : ∀ x, c.R.contains x = true → RaiseOk X x
section
variable {c : Ctx} {X : Cx} {sc : Scope} {E : XK}





theorem sw_tup {e : Expr} {ts : List Expr} {k : Nat} {p : Pos} {l : Nat} {env : Env} : swapsWithSole [.Tuple ts k p] e l env = pure false := by
  cases e <;> rfl
theorem sw_sub {e a b : Expr} {p : Pos} {l : Nat} {env : Env} : swapsWithSole [.Subscript a b p] e l env = pure false := by
  cases e <;> rfl
theorem sw_not_par {e : Expr} {ts : List Expr} {k : Nat} {p : Pos} {env : Env} (h : ∀ vs k p, e ≠ .Tuple vs k p) : swappedStores [.Tuple ts k p] e env = pure none := by
  cases e <;> first | rfl | exact absurd rfl (h _ _ _)
theorem sw_sub_par {e a b : Expr} {p : Pos} {env : Env} : swappedStores [.Subscript a b p] e env = pure none := by
  cases e <;> rfl
theorem sw_par {ts vs : List Expr} {k k2 : Nat} {p p2 : Pos} {env : Env} {o : Option (List Str)} (hk : env.scope.kind = .function) (h : parO env.scope ts vs = some o) : swappedStores [.Tuple ts k p] (.Tuple vs k2 p2) env = pure o := by
  have hb := blk_fun hk
  unfold swappedStores
  unfold parO at h
  have x0 : (env.blockKind != ScopeKind.function) = false := by rw [hb]; rfl
  by_cases c1 : (!(ts.length == 2 || ts.length == 3) || vs.length != ts.length) = true
  · rw [if_pos c1] at h
    cases h
    exact if_pos (by rw [x0, Bool.or_false]; exact c1)
  rw [if_neg c1] at h
  refine (if_neg (by rw [x0, Bool.or_false]; exact c1)).trans ?_
  have e1 : (vs.any fun | .Starred .. => true | _ => false) = vs.any (fun e => !starOk e) := by
    congr 1
    funext e
    cases e <;> rfl
  by_cases c2 : (vs.any fun e => !starOk e) = true
  · rw [if_pos c2] at h
    cases h
    rw [← e1] at c2
    exact if_pos c2
  rw [if_neg c2] at h
  rw [← e1] at c2
  refine (if_neg c2).trans ?_
  simp only [] at h
  split at h
  · rename_i c3
    cases h
    exact if_pos c3
  · rename_i c3
    refine (if_neg c3).trans ?_
    split at h
    · rename_i c4
      cases h
      exact if_pos c4
    · rename_i c4
      refine (if_neg c4).trans ?_
      split at h
      · cases h
      · rename_i c5
        cases h
        exact if_neg c5
theorem pa_parP {n : Nat} (h : XOk c X sc E) : ∀ (is : List Nat) (es : List Expr), PA X es (tPI X.K X.mg E (parP c n sc is es))
  | [], [] => pa_weak pa_nil fun _ _ _ q => tPI_nil q
  | [], e :: es => ⟨fun p pins s σ H Q I h => by obtain ⟨G, F, ρ, X', P, R, ex, hw, q⟩ := h; exact hw.elim⟩
  | i :: is, [] => ⟨fun p pins s σ H Q I h => by obtain ⟨G, F, ρ, X', P, R, ex, hw, q⟩ := h; exact hw.elim⟩
  | i :: is, e :: es => by
    unfold parP
    split
    · rename_i hs
      split
      · exact pa_weak (pa_cons ((snd c n).f h e) (pa_parP h is es) (star_cons hs)) fun _ _ _ q => tPI_f q
      · exact pa_weak (pa_cons (pe_own ((snd c n).b h e)) (pa_parP h is es) (star_cons hs)) fun _ _ _ q => tPI_o q
    · exact ⟨fun p pins s σ H Q I h => by obtain ⟨G, F, ρ, X', P, R, ex, hw, q⟩ := h; exact hw.elim⟩

theorem ps_stuckF {st : Stmt} {g : TG} : PS X st (tAsg (tF X.K X.mg E stuckD) g) := ⟨fun pins s σ H D I h => by
  obtain ⟨G, F, ρ, X', P, R, ex, hw, q⟩ := h; exact hw.elim⟩
theorem lc_name {n : Nat} (h : SOk c X sc E) {y : Str} {i : Nat} (hi : stOk c sc (fun _ => true) y = some i) (hl : locB sc y = true) {elt tg it : Expr} {ifs : List Expr} {scope : Scope} {pos spos py : Pos} {is : List Nat} {g : GW} {tt : TW} (hb : blkC c.N sc scope (ownOf c scope) = true) (hs : noSet it = true)
    (ht : tgOf c (relS scope sc) (fnBlk scope) tg = some (is, g)) (hw : (is.all fun i => ((ownOf c scope).map (·.2)).contains i) = true)
    (htt : ∀ {X' : Cx}, XOk c X' (relS scope sc) E0d → PTs X' ifs (tT X'.K X'.mg E0d tt))
    (hsw : swapsWith (.ListComp elt [⟨tg, it, ifs, 0⟩] scope pos) (some (.Name y py)) spos.line X.env = pure true) :
    PS X (.Assign [.Name y py] (.ListComp elt [⟨tg, it, ifs, 0⟩] scope pos) spos) (tAsg (tF X.K X.mg E (fComp (iterOf (eB c n sc) sc tg it) g tt (own (eB c n (relS scope sc) elt)) ((ownOf c scope).map (·.2)))) (gName i)) := by
  have hx := h.toXOk
  have st := stOk_ok hx (fun x _ => h.fn x) hi
  have hv : wipeAll is ((ownOf c scope).map (·.2)) := fun i hi => by
    have := List.all_eq_true.mp hw i hi
    simpa using this
  refine ps_weak (ps_setLc (wi := tI X.K X.mg E (iterOf (eB c n sc) sc tg it)) (g := tGr X.K X.mg is g) (tt := tT X.K X.mg E0d tt) (te := tE X.K X.mg E0d (own (eB c n (relS scope sc) elt))) (own := ownOf c scope) h.calm (by rw [h.N]; exact h.nd)
    st.at_ (by rw [h.sc]; exact locB_ok hl) hsw
    (pi_of hx ((snd c n).b hx) tg it) (blkOk_by (by rw [h.N, h.sc]; exact hb)) (fun s H C cl fp => ?_) (fun s H C cl fp => ?_) (fun s H C cl fp => ?_) (folded_ok hs)) fun D σ H q => tF_comp hv q
  · exact pg_of (fn := fnBlk scope) (hx.blk s H scope C cl fp) (fun x hx => hx) ht
  · exact htt (hx.blk s H scope C cl fp)
  · exact pe_own ((snd c n).b (hx.blk s H scope C cl fp) elt)
theorem ps_setF {n : Nat} (h : SOk c X sc E) {y : Str} {i : Nat} (hi : stOk c sc (fun _ => true) y = some i) (v : Expr) (py pos : Pos) :
    PS X (.Assign [.Name y py] v pos) (tAsg (tF X.K X.mg E (eF c n sc v)) (gName i)) := by
  have hx := h.toXOk
  have st := stOk_ok hx (fun x _ => h.fn x) hi
  have plain : swapsWith v (some (.Name y py)) pos.line X.env = pure false → PS X (.Assign [.Name y py] v pos) (tAsg (tF X.K X.mg E (eF c n sc v)) (gName i)) := fun e =>
    ps_set st.nd st.at_ st.loc ((snd c n).f hx v) e st.fn
  by_cases hc : noComp v = true
  · exact plain (sw_name hc)
  · cases n with
    | zero => exact ps_stuckF
    | succ n =>
      cases v with
      | ListComp elt gs scope p =>
        have e : swapsWith (.ListComp elt gs scope p) (some (.Name y py)) pos.line X.env = pure (X.env.blockKind == .function && X.env.kindOf y == some .local && py.line == p.line && !(scope.names.any fun (n, k) => n == y && (k == .local || k == .cell))) := rfl
        cases hb : (X.env.blockKind == .function && X.env.kindOf y == some .local && py.line == p.line && !(scope.names.any fun (n, k) => n == y && (k == .local || k == .cell))) with
        | false => rw [hb] at e; exact plain e
        | true =>
          have hl : locB sc y = true := by
            rw [Bool.and_eq_true, Bool.and_eq_true, Bool.and_eq_true] at hb
            have h2 := beq_iff_eq.mp hb.1.1.2
            unfold Env.kindOf at h2
            rw [h.sc] at h2
            unfold locB
            rw [h2]
          rw [hb] at e
          unfold eF
          split
          · rename_i eq; cases eq
          · rename_i eq
            cases eq
            split
            · rename_i hbb
              rw [Bool.and_eq_true] at hbb
              split
              · rename_i ht
                split
                · rename_i hw
                  split
                  · exact lc_name h hi hl hbb.1 hbb.2 ht hw (fun {X'} h' => ⟨fun pins s σ H Q I hq => pts_nil.run pins s σ H Q I (by
                      obtain ⟨G, F, ρ, X1, P, R, ex, hw, q⟩ := hq
                      exact q true ρ H G hw Ext.refl R)⟩) e
                  · exact lc_name h hi hl hbb.1 hbb.2 ht hw (fun {X'} h' => pts_one ((snd c n).t h' _)) e
                  · exact ps_stuckF
                · exact ps_stuckF
              · exact ps_stuckF
            · exact ps_stuckF
          · rename_i eq; cases eq
          · rename_i eq; cases eq
          · exact ps_stuckF
      | SetComp elt gs scope p => exact ps_stuckF
      | DictComp a b gs scope p => exact ps_stuckF
      | _ => exact absurd rfl hc
theorem tS_frz {i : Nat} {w : DA} {Dn : Ends} {σ : L2.St} {H : Hp} (h : tS X.K X.mg E (sFrz i w) Dn σ H) : tAsg (tF X.K X.mg E w) (gName i) Dn σ H := by
  obtain ⟨G, F, ρ, X', O, R, ex, hw, m⟩ := h
  refine ⟨G, F, ρ, X', _, R, ex, hw, fun ds ρ1 p vs H1 G1 ⟨hi, pp⟩ s1 R1 hp r gp fp nc => ?_⟩
  have e : Ext F G (upd G1 p (.lst vs)) := s1.trans ⟨Same.upd' gp, fun b hb => upd_ne fun z => hb (by rw [z]; exact fp)⟩
  refine m.nx _ _ H1 _ pp e ((R1.freezeAt hp gp nc).put hi ?_)
  rw [Rep]; exact ⟨p, vs, rfl, upd_same, RepL.mono (Same.upd' gp) _ _ r⟩
theorem len2 {α : Type} {l : List α} (h : l.length = 2) : ∃ a b, l = [a, b] := by
  match l, h with
  | [a, b], _ => exact ⟨a, b, rfl⟩
theorem len3 {α : Type} {l : List α} (h : l.length = 3) : ∃ a b d, l = [a, b, d] := by
  match l, h with
  | [a, b, d], _ => exact ⟨a, b, d, rfl⟩
theorem names_ok : ∀ {ts : List Expr} {ys : List Str}, namesOf ts = some ys → ts.length = ys.length ∧ ∀ (i : Nat) (e : Expr), ts[i]? = some e → ∃ x p, e = .Name x p ∧ ys[i]? = some x
  | [], ys, h => by
    unfold namesOf at h
    cases h
    exact ⟨rfl, fun i e h => by simp at h⟩
  | t :: ts, ys, h => by
    cases t with
    | Name x p =>
      unfold namesOf nameOf at h
      cases h2 : namesOf ts with
      | none => simp [h2] at h
      | some zs =>
        simp [h2] at h
        subst h
        obtain ⟨l, f⟩ := names_ok h2
        refine ⟨by simp [l], fun i e hi => ?_⟩
        cases i with
        | zero => simp at hi; exact ⟨x, p, hi.symm, by simp⟩
        | succ i => simp at hi; obtain ⟨x', p', e1, e2⟩ := f i e hi; exact ⟨x', p', e1, by simpa using e2⟩
    | _ => simp [namesOf, nameOf] at h
theorem slots_ok : ∀ {ys : List Str} {is : List Nat}, slots c sc ys = some is → ys.length = is.length ∧ ∀ (k : Nat) (x : Str), ys[k]? = some x → ∃ i, is[k]? = some i ∧ c.N[i]? = some x ∧ sc.names.lookup x = some .local
  | [], is, h => by
    unfold slots at h
    cases h
    exact ⟨rfl, fun i e h => by simp at h⟩
  | y :: ys, is, h => by
    unfold slots at h
    split at h
    · rename_i i js h1 h2 h3
      cases h
      obtain ⟨l, f⟩ := slots_ok h3
      refine ⟨by simp [l], fun k x hk => ?_⟩
      cases k with
      | zero => simp at hk; subst hk; exact ⟨i, by simp, findIx_at h2, locB_ok h1⟩
      | succ k => simp at hk; obtain ⟨j, e1, e2⟩ := f k x hk; exact ⟨j, by simpa using e1, e2⟩
    · cases h
theorem ps_eAsg {n : Nat} (h : SOk c X sc E) (t v : Expr) (pos : Pos) : PS X (.Assign [t] v pos) (tS X.K X.mg E (eAsg c n sc t v)) := by
  have hx := h.toXOk
  have hfn : ∀ x, (fun _ : Str => true) x = true → X.fn x = true := fun x _ => h.fn x
  unfold eAsg
  split
  · rename_i y py
    split
    · rename_i i hi
      have hi : stOk c sc (fun _ => true) y = some i := hi
      have st := stOk_ok hx hfn hi
      split
      · exact ps_weak (ps_setF h hi v py pos) fun _ _ _ q => tS_setC q
      · split
        · exact ps_weak (ps_setF h hi v py pos) fun _ _ _ q => tS_frz q
        · split
          · rename_i hc
            exact ps_weak (ps_asg (pe_own ((snd c n).b hx v)) (pgr_name st) (by unfold swapsWithSole; exact sw_name hc) (by cases v <;> rfl) rfl) fun _ _ _ q => tS_asg q
          · exact ps_stuck
    · exact ps_stuck
  · rename_i ts k p
    split
    · rename_i is g hg
      have whole : ∀ {w : DW}, PE X v (tE X.K X.mg E w) → swappedStores [.Tuple ts k p] v X.env = pure none → PS X (.Assign [.Tuple ts k p] v pos) (tS X.K X.mg E (sAsg w g)) := fun he hn =>
        ps_weak (ps_asg he (pg_of hx hfn hg) sw_tup hn rfl) fun _ _ _ q => tS_asg q
      split
      · rename_i vs k2 p2
        split
        · rename_i hp
          split
          · exact ps_stuck
          · exact whole (pe_own ((snd c n).b hx _)) (sw_par h.kind (by rw [h.sc]; exact hp))
        · rename_i xs hp
          split
          · rename_i ys hy
            split
            · rename_i e
              subst e
              have hw := sw_par (k := k) (k2 := k2) (p := p) (p2 := p2) h.kind (show parO X.env.scope ts vs = some (some xs) by rw [h.sc]; exact hp)
              obtain ⟨l1, f1⟩ := names_ok hy
              split
              · rename_i i j hs
                obtain ⟨l2, f2⟩ := slots_ok hs
                split
                · rename_i hij
                  obtain ⟨x, y, rfl⟩ := len2 (show xs.length = 2 from l2)
                  obtain ⟨t1, t2, rfl⟩ := len2 (show ts.length = 2 from l1)
                  · skip
                    obtain ⟨x', p1, rfl, e1⟩ := f1 0 t1 rfl
                    obtain ⟨y', p2', rfl, e2⟩ := f1 1 t2 rfl
                    simp at e1 e2
                    subst e1 e2
                    obtain ⟨i', a1, a2, a3⟩ := f2 0 x rfl
                    obtain ⟨j', b1, b2, b3⟩ := f2 1 y rfl
                    simp at a1 b1
                    subst a1 b1
                    match vs with
                    | [a, b] =>
                      exact ps_weak (ps_par h.calm (by rw [h.N]; exact h.nd) (by rw [h.N]; exact a2) (by rw [h.N]; exact b2) hij (by rw [h.sc]; exact a3) (by rw [h.sc]; exact b3) (pa_parP hx [i, j] [a, b]) hw sw_tup) fun _ _ _ q => tS_par2 q
                    | [] => simp [parO] at hp
                    | [a] => simp [parO] at hp
                    | a :: b :: d :: r => simp [parO] at hp
                · exact ps_stuck
              · rename_i i j l hs
                obtain ⟨l2, f2⟩ := slots_ok hs
                split
                · rename_i hij
                  obtain ⟨x, y, z, rfl⟩ := len3 (show xs.length = 3 from l2)
                  obtain ⟨t1, t2, t3, rfl⟩ := len3 (show ts.length = 3 from l1)
                  · skip
                    obtain ⟨x', p1, rfl, e1⟩ := f1 0 t1 rfl
                    obtain ⟨y', p2', rfl, e2⟩ := f1 1 t2 rfl
                    obtain ⟨z', p3', rfl, e3⟩ := f1 2 t3 rfl
                    simp at e1 e2 e3
                    subst e1 e2 e3
                    obtain ⟨i', a1, a2, a3⟩ := f2 0 x rfl
                    obtain ⟨j', b1, b2, b3⟩ := f2 1 y rfl
                    obtain ⟨l', d1, d2, d3⟩ := f2 2 z rfl
                    simp at a1 b1 d1
                    subst a1 b1 d1
                    match vs with
                    | [a, b, d] =>
                      exact ps_weak (ps_par3 h.calm (by rw [h.N]; exact h.nd) (by rw [h.N]; exact a2) (by rw [h.N]; exact b2) (by rw [h.N]; exact d2) hij.1 hij.2.1 hij.2.2 (by rw [h.sc]; exact a3) (by rw [h.sc]; exact b3) (by rw [h.sc]; exact d3) (pa_parP hx [i, j, l] [a, b, d]) hw sw_tup) fun _ _ _ q => tS_par3 q
                    | [] => simp [parO] at hp
                    | [a] => simp [parO] at hp
                    | [a, b] => simp [parO] at hp
                    | a :: b :: d :: e :: r => simp [parO] at hp
                · exact ps_stuck
              · exact ps_stuck
            · exact ps_stuck
          · exact ps_stuck
        · exact ps_stuck
      · rename_i hv
        split
        · exact ps_stuck
        · exact whole (pe_own ((snd c n).b hx _)) (sw_not_par fun vs k p e => hv _ _ _ e)
    · exact ps_stuck
  · rename_i x p0 ix p
    split
    · rename_i i hi
      split
      · rename_i hn
        obtain ⟨s1, s2, s3, s4⟩ := slot_ok hx hi
        refine ps_weak (ps_asg (pe_own ((snd c n).b hx v)) (pg_sub (pe_var s1 s2 s3 s4) ((snd c n).b hx ix) set_list (fun u => by cases ix <;> first | rfl | cases hn)) sw_sub sw_sub_par rfl) fun _ _ _ q => tS_setIx q
      · exact ps_stuck
    · exact ps_stuck
  · exact ps_stuck
theorem ps_eExpr {n : Nat} (h : SOk c X sc E) (e : Expr) (pos : Pos) : PS X (.Expr e pos) (tS X.K X.mg E (eExpr c n sc e)) := by
  have hx := h.toXOk
  unfold eExpr
  split
  · exact ps_weak ps_doc fun _ _ _ q => tS_skip q
  · rename_i x p0 f ap a p
    split
    · rename_i hf
      obtain ⟨hf, hl, hs⟩ := hf
      subst hf
      split
      · rename_i i hi
        obtain ⟨s1, s2, s3, s4⟩ := slot_ok hx hi
        have na : starEach [a] X.env = (false, eval a X.env) :: starEach [] X.env := star_cons hs
        exact ps_weak (ps_expr (pe_bm PySem.F.plainAttrs_list PySem.F.slot_list_append PySem.F.type_list_append mt_append (pe_var s1 s2 s3 s4) (pa_cons (pe_own ((snd c n).b hx a)) pa_nil na) rfl (by rw [na]; rfl) hl na rfl) rfl) fun _ _ _ q => tS_app q
      · exact ps_stuck
    · exact ps_stuck
  · split
    · rename_i hc
      exact ps_weak (ps_expr ((snd c n).b hx _) (sw_none hc)) fun _ _ _ q => tS_expr q
    · exact ps_stuck
theorem ps_eRaise (h : SOk c X sc E) (e : Expr) (pos : Pos) : PS X (.Raise (some e) none pos) (tS X.K X.mg E (sRaiseO (raiseOf c sc e))) := by
  unfold raiseOf
  split
  · split
    · rename_i g
      rw [Bool.and_eq_true] at g
      obtain ⟨k1, k2, k3⟩ := gl_of h.toXOk g.1
      obtain ⟨C, bmB, B, nw, ini, F, q, gC, kC, r⟩ := h.raises _ g.2
      exact ps_weak (L2N.ps_raise h.calm h.tk (L2N.pmk_own F q gC kC r k1 k2)) fun D σ H q => tS_raise gC (W := fun cls d _ H => E cls d H) (fun _ _ z => z) q
    · exact ps_stuck
  · exact ps_stuck
theorem pss_eS (n : Nat) : ∀ m {X : Cx} {sc : Scope} {E : XK}, SOk c X sc E → (∀ st, PS X st (tS X.K X.mg E (eS c n m sc st))) ∧ ∀ sts, PSs X sts (tS X.K X.mg E (eSs c n m sc sts))
  | 0, X, sc, E, h => ⟨fun st => ps_stuck, fun sts => pss_stuck⟩
  | m + 1, X, sc, E, h => by
    have hx := h.toXOk
    obtain ⟨ih, ihs⟩ := pss_eS n m h
    have hfn : ∀ x, (fun _ : Str => true) x = true → X.fn x = true := fun x _ => h.fn x
    refine ⟨fun st => ?_, fun sts => ?_⟩
    · unfold eS
      split
      · exact ps_weak ps_pass fun _ _ _ q => tS_skip q
      · exact ps_weak ps_break fun _ _ _ q => tS_brk q
      · exact ps_weak ps_continue fun _ _ _ q => tS_cont q
      · exact ps_weak ps_retN fun _ _ _ q => tS_retN q
      · exact ps_weak (ps_ret (pe_own ((snd c n).b hx _))) fun _ _ _ q => tS_ret q
      · exact ps_eExpr h _ _
      · exact ps_eAsg h _ _ _
      · exact ps_weak (ps_if ((snd c n).t hx _) (ihs _) (ihs _)) fun _ _ _ q => tS_if q
      · split
        · rename_i hs
          split
          · rename_i hg
            split
            · exact ps_stuck
            · exact ps_weak (ps_for h.pown h.calm (pi_of hx ((snd c n).b hx) _ _) (pg_of hx hfn hg) (ihs _) (folded_ok hs)) fun _ _ _ q => tS_for q
          · exact ps_stuck
        · exact ps_stuck
      · exact ps_weak (ps_while h.pown ((snd c n).t hx _) (ihs _)) fun _ _ _ q => tS_while q
      · exact ps_eRaise h _ _
      · exact ps_stuck
    · unfold eSs
      split
      · exact pss_weak pss_nil fun _ _ _ q => tS_skip q
      · exact pss_one (ih _)
      · exact pss_weak (pss_cons (ih _) (ihs _)) fun _ _ _ q => tS_seq q
end
end DL
set_option Elab.async false
set_option linter.all false
set_option maxRecDepth 100000
set_option maxHeartbeats 4000000
namespace DL
open PySem PySem.Spec PyProof.Rows L2

/-! ### a def by its body -/







section
variable {K : PySem.W.Frag} {mg : Str → Option Value} {G F H : Hp}


end
/-- the naming def's facts, for a def with a lambda -/
structure RefG (P : Program) (w : World) (K : PySem.W.Frag) (mg : Str → Option Value) (base : Heap) (k : Nat) (Γ : List (Str × FnC)) (r : RefC) (d : RefD) (fd : FuncData) (qual : Str) : Prop where
  FR : Fun K r.x r.x d.stR d.gR d.fdR
  SR : FnScope [d.a, d.en] [d.a] (defScope d.stR)
  bR : Binds K d.fdR [d.a] []
  hbR : defBody d.stR = refBody d.a d.pnm d.en d.ee d.j d.p1 d.p2 d.p3 d.p4 d.p5 d.p6 d.p7 d.p8 d.p9 d.p10 d.p11 d.p12
  FE : Fun K d.ee d.qualE d.stE d.fE d.fdE
  SE : FnScope d.cE.N [d.epar] (defScope d.stE)
  hNE : d.cE.N.head? = some d.epar
  bE : Binds K d.fdE [d.epar] []
  mR : mg r.x = some (.ref d.gR)
  mE : mg d.ee = some (.ref d.fE)
  mP : mg d.pnm = some (.ref d.CP)
  lP : (defScope d.stR).names.lookup d.pnm = some .globalImplicit
  lE : (defScope d.stR).names.lookup d.ee = some .globalImplicit
  lA : (defScope d.stR).names.lookup d.a = some .local
  lN : (defScope d.stR).names.lookup d.en = some .local
  odd : ∀ x ∈ [r.x, d.pnm, d.ee, d.a, d.en], (x == ("__debug__" : Str)) = false ∧ (x == ("__classdict__" : Str)) = false
  TB : LamX.TabB base mg d.cA d.P
  code : fd.code = .ref d.cA
  inT : (d.P, qual ++ ".<locals>." ++ "<lambda>") ∈ tabsK K
  uniq : ∀ p ∈ tabsK K, p.1 = d.P → p.2 = qual ++ ".<locals>." ++ "<lambda>"
  lev : d.k + 3 ≤ k
  word : ∀ x w, r.word x = some w → ∀ C, mg x = some (.ref C) → ErrW K mg d.cE d.stE d.CP C w
structure GOk (P : Program) (w : World) (K : PySem.W.Frag) (mg : Str → Option Value) (base : Heap) (k : Nat) (c : Ctx) (fd : FuncData) (qual : Str) : Prop where
  nd : c.N.Nodup
  calls : ∀ x q, c.Γ.lookup x = some q → ∃ (j : Nat) (f : Addr) (fd : FuncData) (ps : List Str), j ≤ k ∧ FnOk P w K mg base (L2N.CX P w) j f fd ps (spOf K mg q) ∧ mg x = some (.ref f) ∧ PySem.W.keepIn K (.ref f) = true ∧ Binds K fd ps []
  consts : ∀ x d, c.C.lookup x = some d → ∃ u v, mg x = some u ∧ RelV v u ∧ ∀ G, Rep K mg G d v
  blt : ∀ x t, btTab.lookup x = some t → mg x = none
  raises : ∀ x, c.R.contains x = true → ∃ (C : Addr) (bmB : List Value) (B newId initId : String), PySem.ExcBaseFacts B newId initId bmB ∧ PySem.W.excIn K C bmB newId = true ∧ mg x = some (.ref C) ∧ PySem.W.keepIn K (.ref C) = true ∧
    PySem.W.subIn K (.ref C) (.type "BaseException") = some true ∧ PySem.W.typeIn K (.ref C) = some (.type "type")
  ref : ∀ r, c.rf = some r → ∃ d, RefG P w K mg base k c.Γ r d fd qual ∧ ∀ x q, c.Γ.lookup x = some q → ∃ (j : Nat) (f : Addr) (fd : FuncData) (ps : List Str), j ≤ d.k + 1 ∧ FnOk P w K mg base (L2N.CX P w) j f fd ps (spOf K mg q) ∧ mg x = some (.ref f) ∧ PySem.W.keepIn K (.ref f) = true ∧ Binds K fd ps []
section
variable {P : Program} {w : World} {K : PySem.W.Frag} {mg : Str → Option Value} {base : Heap} {x qual : Str} {st : Stmt} {f : Addr} {fd : FuncData} {ps : List Str} {k n : Nat} {c : Ctx}
theorem sok_of (g : GOk P w K mg base k c fd qual) {cdv : Value} {A : Around} {outer : List Env} {s : Shared} {H : Hp} {E : XK} (hco : fd.code = cdv) (kd : (defScope st).kind = .function) (hr : Room k (A.deeper (envOfC qual (defScope st) s.heap.objs.size f cdv))) :
    SOk c (cxOf (L2N.CX P w) P w K mg base c.N qual (defScope st) f cdv A outer s H E) (defScope st) E where
  N := rfl
  nd := g.nd
  sc := rfl
  calm := rfl
  hu := by have := hr.un; show (A.deeper _).units + 100 < cLine; omega
  pass := L2N.passes_call (L2N.takes_of (E := E) rfl rfl rfl rfl) (fun _ _ _ _ h => h)
  calls := fun x q h => by
    obtain ⟨j, f, fd, ps, hj, F, m, kp, b⟩ := g.calls x q h
    exact ⟨j, f, fd, ps, F, hr.mono hj, m, kp, b⟩
  consts := g.consts
  blt := g.blt
  ref := fun r h => by
    obtain ⟨d, q, qc⟩ := g.ref r h
    exact ⟨d, ⟨q.FR, q.SR, q.bR, q.hbR, q.FE, q.SE, q.hNE, q.bE, q.mR, q.mE, q.mP, q.lP, q.lE, q.lA, q.lN, q.odd, g.blt, q.TB, hco.symm.trans q.code, q.inT, q.uniq, hr.mono q.lev, qc, q.word⟩⟩
  kind := kd
  pown := passes_of rfl
  tk := L2N.takes_of rfl rfl rfl rfl
  fn := fun _ => rfl
  raises := fun x h => by
    obtain ⟨C, bmB, B, nw, ini, F, q, m, kp, s1, s2⟩ := g.raises x h
    exact ⟨C, bmB, B, nw, ini, F, q, m, kp, raises_own s1 s2⟩
/-- a def that may raise, by its body -/
theorem okN {N : List Str} {sp : Sp} (F : Fun K x qual st f fd) (S : FnScope N ps (defScope st)) (len : ∀ vs H Q E, sp vs H Q E → vs.length = ps.length)
    (body : ∀ (cdv : Value) (A : Around) (outer : List Env) (s : Shared) (H : Hp) (vs : List V) (Q : VK) (E : XK), fd.code = cdv → Room k (A.deeper (envOfC qual (defScope st) s.heap.objs.size f cdv)) → sp vs H Q E →
      ∃ t, PSs (cxOf (L2N.CX P w) P w K mg base N qual (defScope st) f cdv A outer s H E) (defBody st) t ∧ t { nx := fun _ H' => Q .non H', rt := Q } (L2.start N vs) H) : FnOk P w K mg base (L2N.CX P w) (k + 1) f fd ps sp := by
  obtain ⟨_, _, _, _, _, _, cdv, _, _, e, lk, hcd⟩ := F.ex
  have hco : fd.code = cdv := by rw [e]
  rw [e] at lk ⊢
  exact fn_of lk hcd S len fun A outer s H vs Q E hr h => body cdv A outer s H vs Q E hco hr h
theorem ok_pur {sp : ED → List D → (D → Prop) → Prop} {tr : SW} (F : Fun K x qual st f fd) (S : FnScope c.N ps (defScope st)) (hp : ps.length = n) (g : GOk P w K mg base k c fd qual) (ht : eSs c fuE fuS (defScope st) (defBody st) = tr)
    (body : ∀ X ds Q, ds.length = n → sp X ds Q → tr X (startS c.N ds) (oPur Q)) : FnOk P w K mg base (L2N.CX P w) (k + 1) f fd ps (spOf K mg (.pur n sp)) := by
  refine okN F S (fun vs H Q E h => by rw [h.1, hp]) (fun cdv A outer s H vs Q E hco hr h => ⟨_, (pss_eS fuE fuS (sok_of (E := E) g hco S.kind hr)).2 _, ?_⟩)
  rw [ht]
  obtain ⟨hl, G, ds, X, Pd, sg, ng, zt, r, ex, hs, q⟩ := h
  have hlen : ds.length = n := r.length.trans hl
  refine ⟨G, nT H, startS c.N ds, X, oPur Pd, rel_start sg ng zt r, ex, body X ds Pd hlen hs, ?_⟩
  exact ⟨fun ρ' σ' H' G' pd e R => q _ _ H' G' pd e R.gh R.fh R.gt R.tb rep_non, fun d ρ' σ' v H' G' pd e R rd => q d v H' G' pd e R.gh R.fh R.gt R.tb rd, fun _ _ _ _ h => h.elim, fun _ _ _ _ h => h.elim⟩
theorem ok_mut {sp : ED → List D → List D → (D → List D → Prop) → Prop} {tr : SW} (F : Fun K x qual st f fd) (S : FnScope c.N ps (defScope st)) (hp : ps.length = n) (g : GOk P w K mg base k c fd qual) (ht : eSs c fuE fuS (defScope st) (defBody st) = tr)
    (body : ∀ X a d0 ds Q, ds.length + 1 = n → sp X d0 ds Q → tr X (startM c.N a d0 ds) (oMut a Q)) : FnOk P w K mg base (L2N.CX P w) (k + 1) f fd ps (spOf K mg (.mut n sp)) := by
  refine okN F S (fun vs H Q E h => by rw [h.1, hp]) (fun cdv A outer s H vs Q E hco hr h => ⟨_, (pss_eS fuE fuS (sok_of (E := E) g hco S.kind hr)).2 _, ?_⟩)
  rw [ht]
  obtain ⟨hl, a, ws, us, G, d0, ds, X, Pd, rfl, ha, sg, ng, zt, ga, r0, r, ex, hs, q⟩ := h
  have hlen : ds.length + 1 = n := by rw [r.length]; exact hl
  refine ⟨G, off (nT H) a, startM c.N a d0 ds, X, oMut a Pd, rel_startM sg ng zt ha ga r0 r, ex, body X a d0 ds Pd hlen hs, ?_⟩
  have fin : ∀ {d : D} {v : V} {ρ' : List SV} {σ' : L2.St} {H' G' : Hp}, (∃ d1, ρ'[0]? = some (.cel a d1) ∧ Pd d d1) → Ext (off (nT H) a) G G' → Rel K mg G' (off (nT H) a) ρ' σ' H' → Rep K mg G' d v → Q v H' := fun {d v ρ' σ' H' G'} ⟨d1, e0, pd⟩ e R rd => by
    obtain ⟨_, us', h1, r1, g1, _⟩ := R.slot 0 _ e0
    exact q d d1 v us' H' G' pd e R.gh R.fh R.gt R.tb h1 g1 r1 rd
  exact ⟨fun ρ' σ' H' G' pd e R => fin pd e R rep_non, fun d ρ' σ' v H' G' pd e R rd => fin pd e R rd, fun _ _ _ _ h => h.elim, fun _ _ _ _ h => h.elim⟩
theorem wp_app {M : Model} {Γ : PySem.Ctx} {env : Env} {r : List Stmt} {Q : Flow → Pos → Shared → Prop} {E : Value → Pos → Shared → Prop} : ∀ (l : List Stmt) (p : Pos) (s : Shared),
    Sem.wp M Γ (execs l env) (fun f p' s' => match f with | .next => Sem.wp M Γ (execs r env) Q E p' s' | f => Q f p' s') E p s → Sem.wp M Γ (execs (l ++ r) env) Q E p s
  | [], p, s, h => h
  | st :: l, p, s, h => by
    rw [execs_cons, Sem.wp_bind'] at h
    rw [List.cons_append, execs_cons, Sem.wp_bind']
    refine Sem.wp_mono M Γ _ (fun f p' s' h' => ?_) (fun _ _ _ h => h) _ _ h
    cases f with
    | next => exact wp_app l p' s' h'
    | _ => exact h'
theorem pss_app {X : Cx} {l : List Stmt} {t : TS} {st' : Stmt} {u : TS} (h1 : PSs X l t) (h2 : PS X st' u) : PSs X (l ++ [st']) (tSeq t u) := by
  refine ⟨fun pins s σ H D I h => ?_⟩
  have h1' := h1.run pins s σ H { D with nx := fun σ' H' => u D σ' H' } I h
  intro Γ p hΓ
  refine wp_app l p s ?_
  refine Sem.wp_mono _ Γ _ (fun f p' s' h' => ?_) (fun _ _ _ h => h) _ _ (h1' Γ p hΓ)
  cases f with
  | next =>
    obtain ⟨σ', H', I', q⟩ := h'
    exact (pss_one h2).run pins s' σ' H' D I' q Γ p' hΓ
  | _ => exact h'
/-- a body whose last statement gives a new list back -/
theorem ok_frs {sp : ED → List D → (List D → Prop) → Prop} {tr : SW} {ini : List Stmt} {e : Expr} {rpos : Pos} {w' : DA} (F : Fun K x qual st f fd) (S : FnScope c.N ps (defScope st)) (hp : ps.length = n) (g : GOk P w K mg base k c fd qual)
    (hb : defBody st = ini ++ [.Return (some e) rpos]) (ht : eSs c fuE fuS (defScope st) ini = tr) (he : eF c fuE (defScope st) e = w')
    (body : ∀ X ds Q, ds.length = n → sp X ds Q → tr X (startS c.N ds) (oIni fun ρ => w' X ρ fun zs _ => Q zs)) : FnOk P w K mg base (L2N.CX P w) (k + 1) f fd ps (spOf K mg (.frs n sp)) := by
  refine okN F S (fun vs H Q E h => by rw [h.1, hp]) (fun cdv A outer s H vs Q E hco hr h => ?_)
  have so := sok_of (E := E) (outer := outer) (H := H) g hco S.kind hr
  rw [hb]
  refine ⟨_, pss_app ((pss_eS fuE fuS so).2 ini) (ps_ret ((snd c fuE).f so.toXOk e)), ?_⟩
  rw [ht, he]
  obtain ⟨hl, G, ds, X, Pd, sg, ng, zt, r, ex, hs, q⟩ := h
  have hlen : ds.length = n := r.length.trans hl
  refine ⟨G, nT H, startS c.N ds, X, _, rel_start sg ng zt r, ex, body X ds Pd hlen hs, ?_⟩
  refine ⟨fun ρ' σ' H' G' pd e R => ?_, fun _ _ _ _ _ _ h => h.elim, fun _ _ _ _ h => h.elim, fun _ _ _ _ h => h.elim⟩
  refine ⟨G', nT H, ρ', X, _, R, ex, pd, fun zs ρ2 p vs H2 G2 pz e2 R2 hp r2 gp fp nc => ?_⟩
  exact q zs vs p H2 G2 pz (e.trans e2) R2.gh R2.fh R2.gt R2.tb fp hp gp r2
end
end DL
set_option Elab.async false
set_option linter.all false
set_option maxRecDepth 100000
set_option maxHeartbeats 4000000
namespace DL
open PySem PySem.Spec PyProof.Rows L2

/-! ### how trees are read -/
theorem comp_inv {g : GW} {tt : TW} {te : DW} {vs : List Nat} {P : List D → List SV → Prop} (J : List D → List D → List SV → Prop)
    (step : ∀ d r acc ρ (C : List D → List SV → Prop), J (d :: r) acc ρ → (∀ acc ρ, J r acc ρ → C acc ρ) → g d ρ fun ρ1 => tt (fun _ => False) ρ1 fun b ρ2 => if b = true then te (fun _ => False) ρ2 fun z ρ3 => C (acc ++ [z]) (wipeS ρ3 vs) else C acc (wipeS ρ2 vs))
    (fin : ∀ acc ρ, J [] acc ρ → P acc ρ) : ∀ ds acc ρ, J ds acc ρ → compL g tt te vs ds acc ρ P
  | [], acc, ρ, h => fin acc ρ h
  | d :: ds, acc, ρ, h => step d ds acc ρ (fun acc ρ => compL g tt te vs ds acc ρ P) h fun acc ρ h => comp_inv J step fin ds acc ρ h
theorem comp_det {g : GW} {tt : TW} {te : DW} {vs : List Nat} {P : List D → List SV → Prop} {ρ : List SV} (f : D → Option D) : ∀ (ds acc : List D),
    (∀ d ∈ ds, ∀ (C : Option D → List SV → Prop), C (f d) ρ → g d ρ fun ρ1 => tt (fun _ => False) ρ1 fun b ρ2 => if b = true then te (fun _ => False) ρ2 fun z ρ3 => C (some z) (wipeS ρ3 vs) else C none (wipeS ρ2 vs)) →
    P (acc ++ ds.filterMap f) ρ → compL g tt te vs ds acc ρ P
  | [], acc, _, h => by simpa [compL] using h
  | d :: ds, acc, step, h => by
    refine step d List.mem_cons_self (fun o ρ' => match o with | some z => compL g tt te vs ds (acc ++ [z]) ρ' P | none => compL g tt te vs ds acc ρ' P) ?_
    cases e : f d with
    | none => exact comp_det f ds acc (fun d hd => step d (List.mem_cons_of_mem _ hd)) (by rw [List.filterMap_cons, e] at h; exact h)
    | some z => exact comp_det f ds (acc ++ [z]) (fun d hd => step d (List.mem_cons_of_mem _ hd)) (by rw [List.filterMap_cons, e] at h; simpa using h)
/-- a comprehension without a test -/
theorem comp_map {g : GW} {te : DW} {vs : List Nat} {P : List D → List SV → Prop} {ρ : List SV} (f : D → D) (ds : List D)
    (step : ∀ d ∈ ds, ∀ (C : D → List SV → Prop), C (f d) ρ → g d ρ fun ρ1 => te (fun _ => False) ρ1 fun z ρ3 => C z (wipeS ρ3 vs)) (h : P (ds.map f) ρ) : compL g (fun _ ρ P => P true ρ) te vs ds [] ρ P := by
  refine comp_det (fun d => some (f d)) ds [] (fun d hd C hC => ?_) ?_
  · exact step d hd (fun z ρ => C (some z) ρ) hC
  · simpa using h
theorem for_inv {g : GW} {b : SW} {X : ED} {O : OW} (J : List D → List SV → Prop)
    (step : ∀ d r ρ (C : List SV → Prop), J (d :: r) ρ → (∀ ρ, J r ρ → C ρ) → g d ρ fun ρ1 => b X ρ1 { nx := C, ct := C, bk := O.nx, rt := O.rt })
    (fin : ∀ ρ, J [] ρ → O.nx ρ) : ∀ ds ρ, J ds ρ → forL g b X ds ρ O
  | [], ρ, h => fin ρ h
  | d :: ds, ρ, h => step d ds ρ (fun ρ => forL g b X ds ρ O) h fun ρ h => for_inv J step fin ds ρ h
theorem while_inv {t : TW} {b : SW} {X : ED} {O : OW} (J : Nat → List SV → Prop)
    (step : ∀ n ρ (C : List SV → Prop), J n ρ → (∀ ρ m, m < n → J m ρ → C ρ) → t X ρ fun k ρ1 => if k = true then b X ρ1 { nx := C, ct := C, bk := O.nx, rt := O.rt } else O.nx ρ1) :
    ∀ n ρ, J n ρ → whileN t b X (n + 1) ρ O := by
  have mono : ∀ n, (∀ ρ m, m < n → J m ρ → whileN t b X n ρ O) := by
    intro n
    induction n with
    | zero => intro ρ m h; exact absurd h (Nat.not_lt_zero _)
    | succ n ih =>
      intro ρ m hm hJ
      exact step m ρ _ hJ fun ρ' m' h' hJ' => ih ρ' m' (by omega) hJ'
  intro n ρ h
  exact mono (n + 1) ρ n (Nat.lt_succ_self n) h
/-! ### data that has no dict -/
theorem shp_iff {d : D} : shp d = true ↔ d.canLay0 = true ∧ d.depth ≤ 64 := by
  unfold shp SeqAt.shaped
  rw [Bool.and_eq_true, decide_eq_true_eq]
theorem lay_all {ds : List D} : PyData.canLayAll0 ds = true ↔ ∀ d ∈ ds, d.canLay0 = true := by
  induction ds with
  | nil => simp [PyData.canLayAll0]
  | cons d ds ih => simp [PyData.canLayAll0, ih]
theorem dep_all {n : Nat} {ds : List D} : PyData.depthAll ds ≤ n ↔ ∀ d ∈ ds, d.depth ≤ n := by
  induction ds with
  | nil => simp [PyData.depthAll]
  | cons d ds ih => simp [PyData.depthAll, ih, Nat.max_le]
/-- of a depth of n at most, without a dict -/
def okD (n : Nat) (d : D) : Prop := d.canLay0 = true ∧ d.depth ≤ n
theorem shp_ok {d : D} : shp d = true ↔ okD 64 d := shp_iff
theorem okD.up {n m : Nat} {d : D} (h : okD n d) (l : n ≤ m) : okD m d := ⟨h.1, Nat.le_trans h.2 l⟩
theorem okD.shp {n : Nat} {d : D} (h : okD n d) (l : n ≤ 64 := by omega) : DL.shp d = true := shp_ok.mpr (h.up l)
theorem okD_int {n : Nat} {i : Int} : okD n (.int i) := ⟨by simp [PyData.canLay0], by simp [PyData.depth]⟩
theorem okD_bool {n : Nat} {i : Bool} : okD n (.bool i) := ⟨by simp [PyData.canLay0], by simp [PyData.depth]⟩
theorem okD_none {n : Nat} : okD n .none := ⟨by simp [PyData.canLay0], by simp [PyData.depth]⟩
theorem okD_tuple {n : Nat} {ds : List D} : okD (n + 1) (.tuple ds) ↔ ∀ d ∈ ds, okD n d := by
  unfold okD
  simp only [PyData.canLay0, PyData.depth, lay_all, Nat.add_le_add_iff_right, dep_all]
  exact ⟨fun h d hd => ⟨h.1 d hd, h.2 d hd⟩, fun h => ⟨fun d hd => (h d hd).1, fun d hd => (h d hd).2⟩⟩
theorem okD_list {n : Nat} {ds : List D} : okD (n + 1) (.list ds) ↔ ∀ d ∈ ds, okD n d := by
  unfold okD
  simp only [PyData.canLay0, PyData.depth, lay_all, Nat.add_le_add_iff_right, dep_all]
  exact ⟨fun h d hd => ⟨h.1 d hd, h.2 d hd⟩, fun h => ⟨fun d hd => (h d hd).1, fun d hd => (h d hd).2⟩⟩
theorem shp_int {i : Int} : shp (.int i) = true := okD_int.shp (n := 0)
theorem shp_none : shp .none = true := okD_none.shp (n := 0)
theorem shp_bool {b : Bool} : shp (.bool b) = true := okD_bool.shp (n := 0)
theorem shp_of_tuple {ds : List D} (h : shp (.tuple ds) = true) : ∀ d ∈ ds, shp d = true := fun d hd => ((okD_tuple (n := 63)).mp (shp_ok.mp h) d hd).shp
theorem shp_of_list {ds : List D} (h : shp (.list ds) = true) : ∀ d ∈ ds, shp d = true := fun d hd => ((okD_list (n := 63)).mp (shp_ok.mp h) d hd).shp
theorem okD_ints {n : Nat} {ns : List Int} : ∀ d ∈ ns.map PyData.int, okD n d := fun d hd => by
  obtain ⟨i, _, rfl⟩ := List.mem_map.mp hd
  exact okD_int
theorem shp_ints {ns : List Int} : shp (.list (ns.map .int)) = true := ((okD_list (n := 0)).mpr okD_ints).shp
theorem shp_intsT {ns : List Int} : shp (.tuple (ns.map .int)) = true := ((okD_tuple (n := 0)).mpr okD_ints).shp
theorem not_dict {kvs : List (D × D)} (h : shp (.dict kvs) = true) : False := by
  have := (shp_ok.mp h).1
  simp [PyData.canLay0] at this
theorem eqv_int {i j : Int} : PyData.eqv (.int i) (.int j) = decide (i = j) := by
  rw [PyData.eqv]; rfl
theorem eqvAll_ints : ∀ {ns ms : List Int}, PyData.eqvAll (ns.map .int) (ms.map .int) = decide (ns = ms)
  | [], [] => by simp [PyData.eqvAll]
  | [], _ :: _ => by simp [PyData.eqvAll]
  | _ :: _, [] => by simp [PyData.eqvAll]
  | n :: ns, m :: ms => by
    rw [List.map_cons, List.map_cons, PyData.eqvAll, eqv_int, eqvAll_ints]
    by_cases h : n = m <;> by_cases h2 : ns = ms <;> simp [h, h2]
theorem eqv_ints {ns ms : List Int} : PyData.eqv (.list (ns.map .int)) (.list (ms.map .int)) = decide (ns = ms) := by rw [PyData.eqv, eqvAll_ints]
theorem eqv_intsT {ns ms : List Int} : PyData.eqv (.tuple (ns.map .int)) (.tuple (ms.map .int)) = decide (ns = ms) := by rw [PyData.eqv, eqvAll_ints]
end DL
set_option Elab.async false
set_option linter.all false
set_option maxRecDepth 100000
set_option maxHeartbeats 4000000
namespace DL
open PySem PySem.Spec PyProof.Rows L2

/-! ### a def of the text, its contract, what it leans on -/
structure DefsF (K : PySem.W.Frag) (mg : Str → Option Value) (x : Str) (st : Stmt) (ps : List Str) (f : Addr) (fd : FuncData) : Prop where
  F : Fun K x x st f fd
  b : Binds K fd ps []
  m : mg x = some (.ref f)
section
variable (P : Program) (w : World) (K : PySem.W.Frag) (mg : Str → Option Value) (base : Heap)
structure Has (k : Nat) (x : Str) (q : FnC) : Prop where
  ex : ∃ (j : Nat) (f : Addr) (fd : FuncData) (ps : List Str), j ≤ k ∧ FnOk P w K mg base (L2N.CX P w) j f fd ps (spOf K mg q) ∧ mg x = some (.ref f) ∧ PySem.W.keepIn K (.ref f) = true ∧ Binds K fd ps []
def Alls (k : Nat) : List (Str × FnC) → Prop
  | [] => True
  | p :: r => Has P w K mg base k p.1 p.2 ∧ Alls k r
def ConOk (p : Str × D) : Prop := ∃ u v, mg p.1 = some u ∧ RelV v u ∧ ∀ G, Rep K mg G p.2 v
def Cons : List (Str × D) → Prop
  | [] => True
  | p :: r => ConOk K mg p ∧ Cons r
def ExcOk (x : Str) : Prop := ∃ (C : Addr) (bmB : List Value) (B newId initId : String), PySem.ExcBaseFacts B newId initId bmB ∧ PySem.W.excIn K C bmB newId = true ∧ mg x = some (.ref C) ∧ PySem.W.keepIn K (.ref C) = true ∧
    PySem.W.subIn K (.ref C) (.type "BaseException") = some true ∧ PySem.W.typeIn K (.ref C) = some (.type "type")
def Excs : List Str → Prop
  | [] => True
  | p :: r => ExcOk K mg p ∧ Excs r
/-- the naming def's facts, whoever calls it -/
structure RefB (r : RefC) (d : RefD) : Prop where
  FR : Fun K r.x r.x d.stR d.gR d.fdR
  SR : FnScope [d.a, d.en] [d.a] (defScope d.stR)
  bR : Binds K d.fdR [d.a] []
  hbR : defBody d.stR = refBody d.a d.pnm d.en d.ee d.j d.p1 d.p2 d.p3 d.p4 d.p5 d.p6 d.p7 d.p8 d.p9 d.p10 d.p11 d.p12
  FE : Fun K d.ee d.qualE d.stE d.fE d.fdE
  SE : FnScope d.cE.N [d.epar] (defScope d.stE)
  hNE : d.cE.N.head? = some d.epar
  bE : Binds K d.fdE [d.epar] []
  mR : mg r.x = some (.ref d.gR)
  mE : mg d.ee = some (.ref d.fE)
  mP : mg d.pnm = some (.ref d.CP)
  lP : (defScope d.stR).names.lookup d.pnm = some .globalImplicit
  lE : (defScope d.stR).names.lookup d.ee = some .globalImplicit
  lA : (defScope d.stR).names.lookup d.a = some .local
  lN : (defScope d.stR).names.lookup d.en = some .local
  odd : ∀ x ∈ [r.x, d.pnm, d.ee, d.a, d.en], (x == ("__debug__" : Str)) = false ∧ (x == ("__classdict__" : Str)) = false
  word : ∀ x w, r.word x = some w → ∀ C, mg x = some (.ref C) → ErrW K mg d.cE d.stE d.CP C w
/-- the code object and the table of a def with a lambda -/
structure TabF (x : Str) (c T : Addr) : Prop where
  TB : LamX.TabB base mg c T
  inT : (T, x ++ ".<locals>." ++ "<lambda>") ∈ tabsK K
  uniq : ∀ p ∈ tabsK K, p.1 = T → p.2 = x ++ ".<locals>." ++ "<lambda>"
end
section
variable {P : Program} {w : World} {K : PySem.W.Frag} {mg : Str → Option Value} {base : Heap} {x : Str} {st : Stmt} {f : Addr} {fd : FuncData} {ps : List Str} {k k' n : Nat} {c : Ctx} {q : FnC} {tr : SW}
theorem Has.up (h : Has P w K mg base k x q) (l : k ≤ k' := by decide) : Has P w K mg base k' x q := by
  obtain ⟨j, f, fd, ps, hj, r⟩ := h.ex
  exact ⟨j, f, fd, ps, Nat.le_trans hj l, r⟩
theorem Alls.look : ∀ {Γ : List (Str × FnC)}, Alls P w K mg base k Γ → ∀ x q, Γ.lookup x = some q → ∃ (j : Nat) (f : Addr) (fd : FuncData) (ps : List Str), j ≤ k ∧ FnOk P w K mg base (L2N.CX P w) j f fd ps (spOf K mg q) ∧ mg x = some (.ref f) ∧ PySem.W.keepIn K (.ref f) = true ∧ Binds K fd ps []
  | [], _, x, q, h => by simp at h
  | (y, s) :: r, a, x, q, h => by
    rw [List.lookup_cons] at h
    cases e : x == y with
    | true =>
      have e' : x = y := by simpa using e
      rw [e] at h; cases h; subst e'; exact a.1.ex
    | false => rw [e] at h; exact Alls.look a.2 x q h
theorem Cons.look : ∀ {C : List (Str × D)}, Cons K mg C → ∀ x d, C.lookup x = some d → ∃ u v, mg x = some u ∧ RelV v u ∧ ∀ G, Rep K mg G d v
  | [], _, x, q, h => by simp at h
  | (y, s) :: r, a, x, q, h => by
    rw [List.lookup_cons] at h
    cases e : x == y with
    | true =>
      have e' : x = y := by simpa using e
      rw [e] at h; cases h; subst e'; exact a.1
    | false => rw [e] at h; exact Cons.look a.2 x q h
theorem Excs.look : ∀ {R : List Str}, Excs K mg R → ∀ x, R.contains x = true → ExcOk K mg x
  | [], _, x, h => by simp at h
  | y :: r, a, x, h => by
    rw [List.contains_cons, Bool.or_eq_true] at h
    rcases h with h | h
    · have e : x = y := by simpa using h
      subst e; exact a.1
    · exact Excs.look a.2 x h
theorem con_fn {x : Str} {f : Addr} (m : mg x = some (.ref f)) : ConOk K mg (x, fnD x) := ⟨.ref f, .ref f, m, rfl, fun G => by
  rw [Rep]; exact ⟨f, rfl, m⟩⟩
theorem con_int {x : Str} {i : Int} (m : ∃ t, mg x = some (.int i t)) : ConOk K mg (x, .int i) := let ⟨t, m⟩ := m; ⟨.int i t, .int i, m, ⟨t, rfl⟩, fun G => by rw [Rep]⟩
theorem con_str {x s : Str} (m : ∃ t, mg x = some (.str s t)) : ConOk K mg (x, .str s) := let ⟨t, m⟩ := m; ⟨.str s t, .str s, m, ⟨t, rfl⟩, fun G => by rw [Rep]⟩
theorem gok0 (nd : c.N.Nodup) (blt : ∀ x t, btTab.lookup x = some t → mg x = none) (A : Alls P w K mg base k c.Γ) (C : Cons K mg c.C) (R : Excs K mg c.R) (hr : c.rf = none) : GOk P w K mg base k c fd x :=
  ⟨nd, A.look, C.look, blt, R.look, fun r h => by rw [hr] at h; cases h⟩
theorem gokR {r : RefC} {d : RefD} {cA T : Addr} {k0 : Nat} (nd : c.N.Nodup) (blt : ∀ x t, btTab.lookup x = some t → mg x = none) (A : Alls P w K mg base (k0 + 1) c.Γ) (C : Cons K mg c.C) (R : Excs K mg c.R) (hr : c.rf = some r)
    (B : RefB K mg r d) (T' : TabF K mg base x cA T) (hc : fd.code = .ref cA) : GOk P w K mg base (k0 + 3) c fd x :=
  ⟨nd, fun x q h => by
    obtain ⟨j, f, fd, ps, hj, z⟩ := A.look x q h
    exact ⟨j, f, fd, ps, by omega, z⟩, C.look, blt, R.look, fun r' h => by
    rw [hr] at h
    cases h
    exact ⟨{ d with k := k0, cA := cA, P := T }, ⟨B.FR, B.SR, B.bR, B.hbR, B.FE, B.SE, B.hNE, B.bE, B.mR, B.mE, B.mP, B.lP, B.lE, B.lA, B.lN, B.odd, T'.TB, hc, T'.inT, T'.uniq, Nat.le_refl _, B.word⟩, A.look⟩⟩
theorem has_of {sp : FnC} (D : DefsF K mg x st ps f fd) (h : FnOk P w K mg base (L2N.CX P w) k f fd ps (spOf K mg sp)) : Has P w K mg base k x sp := ⟨k, f, fd, ps, Nat.le_refl _, h, D.m, D.F.kp, D.b⟩
theorem has_pur {sp : ED → List D → (D → Prop) → Prop} (D : DefsF K mg x st ps f fd) (S : FnScope c.N ps (defScope st)) (hp : ps.length = n) (g : GOk P w K mg base k c fd x) (ht : eSs c fuE fuS (defScope st) (defBody st) = tr)
    (body : ∀ X ds Q, ds.length = n → sp X ds Q → tr X (startS c.N ds) (oPur Q)) : Has P w K mg base (k + 1) x (.pur n sp) := has_of D (ok_pur D.F S hp g ht body)
theorem has_mut {sp : ED → List D → List D → (D → List D → Prop) → Prop} (D : DefsF K mg x st ps f fd) (S : FnScope c.N ps (defScope st)) (hp : ps.length = n) (g : GOk P w K mg base k c fd x) (ht : eSs c fuE fuS (defScope st) (defBody st) = tr)
    (body : ∀ X a d0 ds Q, ds.length + 1 = n → sp X d0 ds Q → tr X (startM c.N a d0 ds) (oMut a Q)) : Has P w K mg base (k + 1) x (.mut n sp) := has_of D (ok_mut D.F S hp g ht body)
theorem has_frs {sp : ED → List D → (List D → Prop) → Prop} {ini : List Stmt} {e : Expr} {rpos : Pos} {w' : DA} (D : DefsF K mg x st ps f fd) (S : FnScope c.N ps (defScope st)) (hp : ps.length = n) (g : GOk P w K mg base k c fd x)
    (hb : defBody st = ini ++ [.Return (some e) rpos]) (ht : eSs c fuE fuS (defScope st) ini = tr) (he : eF c fuE (defScope st) e = w')
    (body : ∀ X ds Q, ds.length = n → sp X ds Q → tr X (startS c.N ds) (oIni fun ρ => w' X ρ fun zs _ => Q zs)) : Has P w K mg base (k + 1) x (.frs n sp) := has_of D (ok_frs D.F S hp g hb ht he body)
/-- nothing is asked of it -/
theorem has_no {N : List Str} {sp : FnC} (D : DefsF K mg x st ps f fd) (S : FnScope N ps (defScope st)) (no : ∀ vs H Q E, ¬ spOf K mg sp vs H Q E) : Has P w K mg base 1 x sp :=
  has_of D (okN (k := 0) D.F S (fun vs H Q E h => (no vs H Q E h).elim) fun cdv A outer s H vs Q E hco hr h => (no vs H Q E h).elim)
theorem no_mut {sp : ED → List D → List D → (D → List D → Prop) → Prop} (no : ∀ X d0 ds Q, ¬ sp X d0 ds Q) : ∀ vs H Q E, ¬ spOf K mg (.mut n sp) vs H Q E := fun vs H Q E h => by
  obtain ⟨_, a, ws, us, G, d0, ds, X, Pd, _, _, _, _, _, _, _, _, _, hs, _⟩ := h
  exact no _ _ _ _ hs
theorem no_pur {sp : ED → List D → (D → Prop) → Prop} (no : ∀ X ds Q, ¬ sp X ds Q) : ∀ vs H Q E, ¬ spOf K mg (.pur n sp) vs H Q E := fun vs H Q E h => by
  obtain ⟨_, G, ds, X, Pd, _, _, _, _, _, hs, _⟩ := h
  exact no _ _ _ hs
end
/-! ### the errors' names -/
def errTab : List (Str × Str) := [("InvalidJobs", "jobs"), ("InvalidOrder", "order"), ("InvalidRow", "row"), ("InvalidNumber", "number"), ("InvalidMachine", "machine"), ("InvalidJob", "job"), ("InvalidFacts", "facts"), ("InvalidPrice", "price"),
  ("InvalidFactor", "factor"), ("InvalidText", "text"), ("NoTime", "time"), ("Begun", "begun"), ("Unlike", "unlike"), ("NothingToUndo", "undo"), ("TooMany", "many")]
def ansOf (x : Str) : List (Str × Bool) := errTab.map fun p => (p.1, decide (p.1 = x))
/-- an error class's facts, all as one Bool -/
def errB (K : PySem.W.Frag) (x : Str) : Bool :=
  He.eqO (PySem.W.findIn K (.ref (He.ga K x)) "__getattribute__") (some (some (.builtin "BaseException.__getattribute__"))) && (He.eqO (PySem.W.findIn K (.ref (He.ga K x)) "__getattr__") (some none) &&
  (decide (PySem.W.subIn K (.ref (He.ga K x)) (.type "BaseException") = some true) && (PySem.W.hasDictIn K (He.ga K x) && (He.eqO (PySem.W.findIn K (.ref (He.ga K x)) "__class__") (some (some (.builtin "object.__class__"))) &&
  (He.eqO (PySem.W.specialIn K (.builtin "object.__class__") "__get__") (some (some (.builtin "getset_descriptor.__get__"))) && (decide (PySem.W.takesIn K (.builtin "object.__class__") = some true) && (decide (PySem.W.mroIn K (He.ga K x) (.type "object") = some true) &&
  (decide (PySem.W.exmOne K (.ref (He.ga K x)) (.ref (He.ga K "PatchError")) = some true) && (ansOf x).all fun p => decide (PySem.W.kitOne K (.ref (He.ga K x)) (.ref (He.ga K p.1)) = some p.2)))))))))
theorem errB_ok {K : PySem.W.Frag} {mg : Str → Option Value} {x w : Str} {c : Ctx} {st : Stmt} (h : errB K x = true) (m : ∀ p ∈ errTab, mg p.1 = some (.ref (He.ga K p.1)))
    (val : ∀ (a : Addr) (Q : D → Prop), Q (.str w) → errTree c st a (ansOf x) (fun _ => False) (startS c.N [adD a]) (oPur Q)) : ErrW K mg c st (He.ga K "PatchError") (He.ga K x) w := by
  unfold errB at h
  simp only [Bool.and_eq_true, decide_eq_true_eq, List.all_eq_true] at h
  obtain ⟨h1, h2, h3, h4, h5, h6, h7, h8, h9, h10⟩ := h
  refine ⟨h9, ⟨He.eqO_ok h1, He.eqO_ok h2, h3, h4, He.eqO_ok h5, He.eqO_ok h6, h7, h8⟩, ansOf x, fun z b e => ?_, val⟩
  have hm := lookup_mem e
  obtain ⟨p, hp, ep⟩ := List.mem_map.mp hm
  refine ⟨_, ?_, h10 _ hm⟩
  have : p.1 = z := congrArg Prod.fst ep
  rw [← this]
  exact m p hp
/-! ### the end -/
theorem sql_nT {K : PySem.W.Frag} {H : Hp} {a : Addr} {xs : List V} (h : SqL K H a xs) : SqL K (nT H) a xs := by
  rcases h with (h | ⟨o, h⟩) | h
  · exact .inl (.inl (nT_of h fun _ => nofun))
  · exact .inl (.inr ⟨o, nT_of h fun _ => nofun⟩)
  · exact .inr h
theorem law_sp {K : PySem.W.Frag} {mg : Str → Option Value} {sp : ED → List D → (D → Prop) → Prop} {H : Hp} {a : Addr} {ns : List Int} (zt : Zt K H) (h : SqL K H a (ns.map V.int)) (hs : ∀ X P, P (.bool true) → sp X [scD ns] P) :
    spOf K mg (.pur 1 sp) [.ref a] H (fun v _ => v = .bl true) fun _ _ _ => False := by
  refine ⟨rfl, nT H, [scD ns], fun _ => False, fun d => d = .bool true, nT_same H, NoTb.nT, zt, RepL.cons ?_ RepL.nil, fun x C H' z => z.elim, hs _ _ rfl, fun d v H' G' pd _ _ _ _ _ r => ?_⟩
  · rw [Rep]
    exact ⟨a, ns, rfl, rfl, sql_nT h⟩
  · subst pd
    rw [Rep] at r
    exact r
theorem tab_cT {K : PySem.W.Frag} {x : Str} {c T : Addr} (h : PySem.W.tabIn K x = some (c, T)) : He.cT K (x, none) = (c, T) := by
  unfold PySem.W.tabIn at h
  unfold He.cT He.codeOf He.tabOf He.fAd He.ga
  split at h
  · rename_i f e1
    rw [e1]
    dsimp only
    split at h
    · rename_i e2
      rw [e2]
      dsimp only
      split at h
      · rename_i c' e3
        rw [e3]
        dsimp only
        split at h
        · rename_i vs sl e4
          rw [e4]
          dsimp only
          split at h
          · rename_i P e5
            cases h
            have e6 : vs.getD 11 Value.none = .ref T := by
              rw [Array.getD_eq_getD_getElem?, e5]; rfl
            rw [e6]
          · cases h
        · cases h
      · cases h
    · cases h
  · cases h
/-- the tables that the text has: the defs named in lamNames that stand in it -/
def lamIn (K : PySem.W.Frag) (tf : List Str) : Bool := (lamNames.all fun p => (decide (p.1 ∈ tf) && (PySem.W.tabIn K p.1).isSome) || (!decide (p.1 ∈ tf) && (PySem.W.tabIn K p.1).isNone))
theorem zt_of {K : PySem.W.Frag} {H : Hp} {tf : List Str} (l : lamIn K tf = true) (h : ∀ x ∈ tf, H (He.cT K (x, none)).2 = some (.tbl #[])) : Zt K H := fun p hp c P e => by
  have h1 := List.all_eq_true.mp l p hp
  rw [e] at h1
  simp only [Option.isSome_some, Bool.and_true, Option.isNone_some, Bool.and_false, Bool.or_false, decide_eq_true_eq] at h1
  have h2 := h p.1 h1
  rw [tab_cT e] at h2
  exact ⟨#[], h2, by simp [TriplesOk], fun pos cv z => by
    have z : codeAmong pos [] = some cv := z
    simp [codeAmong] at z⟩
/-- a def with a lambda: its table among them -/
def lamOk (K : PySem.W.Frag) (x : Str) : Bool := decide (lamNames.lookup x = some (x ++ ".<locals>." ++ "<lambda>")) && ((PySem.W.tabIn K x).isSome && (tabsK K).all fun p => !decide (p.1 = (He.cT K (x, none)).2) || decide (p.2 = x ++ ".<locals>." ++ "<lambda>"))
theorem tabF_of {K : PySem.W.Frag} {mg : Str → Option Value} {base : Heap} {x : Str} (l : lamOk K x = true) (TB : LamX.TabB base mg (He.cT K (x, none)).1 (He.cT K (x, none)).2) : TabF K mg base x (He.cT K (x, none)).1 (He.cT K (x, none)).2 := by
  unfold lamOk at l
  simp only [Bool.and_eq_true, decide_eq_true_eq, List.all_eq_true, Bool.or_eq_true, Bool.not_eq_true', decide_eq_false_iff_not] at l
  obtain ⟨l1, l2, l3⟩ := l
  refine ⟨TB, ?_, fun p hp e => (l3 p hp).resolve_left fun n => n e⟩
  obtain ⟨⟨c, T⟩, e⟩ := Option.isSome_iff_exists.mp l2
  rw [tab_cT e]
  exact List.mem_filterMap.mpr ⟨_, lookup_mem l1, by rw [e]; rfl⟩
/-- the code of a def is where the table is told -/
theorem code_of {K : PySem.W.Frag} {mg : Str → Option Value} {h : Heap} {x : Str} {st : Stmt} {ps : List Str} {fd : FuncData} (D : DefsF K mg x st ps (He.fAd K (x, none)) fd) : fd.code = .ref (He.cT K (x, none)).1 := by
  obtain ⟨oc, od, kV, doc, pm, an, cdv, ct, osl, efd, lk, hco⟩ := D.F.ex
  obtain ⟨c, ec⟩ := He.codeIn_ref hco
  have e : fd.code = .ref c := by rw [efd]; exact ec
  rw [e]
  exact congrArg Value.ref (He.codeOf_eq lk e).symm
theorem funs_of {K : PySem.W.Frag} {x : Str} {st : Stmt} {f : Addr} {fd : FuncData} (F : FunD K x x (defArgs st) (defBody st) (defScope st) [] [] f fd) : Fun K x x st f fd := by
  obtain ⟨oc, od, dV, kV, doc, pm, an, cdv, ct, osl, e, l, c, hd, _⟩ := F.ex
  rcases hd with ⟨_, e2⟩ | ⟨e2, _⟩
  · subst e2
    exact ⟨⟨oc, od, kV, doc, pm, an, cdv, ct, osl, e, l, c⟩, F.kp⟩
  · exact absurd rfl e2
def exc_of {K : PySem.W.Frag} {h : Heap} {mg : Str → Option Value} {x : Str} (m : mg x = some (.ref (He.ga K x))) (c : (He.Fa.exc x).ok K = true) : ExcOk K mg x := by
  obtain ⟨c1, c2, c3, c4⟩ := He.exc_ok c
  exact ⟨_, _, _, _, _, PySem.F.excBase_ValueError, c1, m, c2, c3, c4⟩
end DL
set_option Elab.async false
set_option linter.all false
set_option maxRecDepth 100000
set_option maxHeartbeats 4000000
namespace DL
open PySem PySem.Spec PyProof.Rows L2

/-! ### jobs: what is asked, what is given -/
theorem ite_and {Q : D → Prop} {a b : Bool} (q : Q (.bool (a && b))) : if a = true then Q (.bool b) else Q (.bool false) := by cases a <;> simpa using q
theorem boolsOf_map' {α : Type} (f : α → Bool) (l : List α) : boolsOf (l.map fun x => .bool (f x)) = some (l.map f) := by
  have : (l.map fun x => PyData.bool (f x)) = (l.map f).map .bool := by rw [List.map_map]; rfl
  rw [this, boolsOf_map]
theorem intsOf_map' {α : Type} (f : α → Int) (l : List α) : intsOf (l.map fun x => .int (f x)) = some (l.map f) := by
  have : (l.map fun x => PyData.int (f x)) = (l.map f).map .int := by rw [List.map_map]; rfl
  rw [this, intsOf_map]
theorem all_id {α : Type} (f : α → Bool) (l : List α) : (l.map f).all id = l.all f := by rw [List.all_map]; rfl
theorem eqv_len {n m : Nat} : PyData.eqv (.int (n : Int)) (.int (m : Int)) = (n == m) := by
  rw [eqv_int]
  by_cases h : n = m
  · subst h; simp
  · have h' : ¬ ((n : Int) = (m : Int)) := fun e => h (by exact_mod_cast e)
    simp [h, h']
def isIntB (lo hi : Int) : D → Bool
  | .int i => decide (lo ≤ i) && decide (i ≤ hi)
  | _ => false
def sp_is_int : ED → List D → (D → Prop) → Prop := fun X ds P => match ds with
  | [v, .int lo, .int hi] => shp v = true ∧ P (.bool (isIntB lo hi v))
  | _ => False
def isJobB : D → Bool
  | .tuple ts => ts.length == 2 && ts.all (isIntB 0 1000000000000)
  | _ => false
def sp_is_job : ED → List D → (D → Prop) → Prop := fun X ds P => match ds with
  | [v] => shp v = true ∧ P (.bool (isJobB v))
  | _ => False
def areJobsB : D → Bool
  | .tuple ts => decide (1 ≤ ts.length) && decide (ts.length ≤ 30) && ts.all isJobB
  | _ => false
def sp_are_jobs : ED → List D → (D → Prop) → Prop := fun X ds P => match ds with
  | [v] => shp v = true ∧ P (.bool (areJobsB v))
  | _ => False
def cx_is_int : Ctx := { N := ["value", "low", "high"], Γ := [], C := [], R := [], ms := [] }
def tr_is_int : SW := (sRet (own (bAnd (bUn (qIsi "int") (bVar 0)) (bAnd (bNot (bUn (qIsi "bool") (bVar 0))) (bChain qLe qLe (bVar 1) (bVar 0) (bVar 2))))))

def cx_is_job : Ctx := { N := ["value", "time"], Γ := [("is_int", .pur 3 sp_is_int)], C := [("MOST_TIME", (.int 1000000000000))], R := [], ms := [] }
def tr_is_job : SW := (sRet (own (bAnd (bUn (qIsi "tuple") (bVar 0)) (bAnd (bOp gEq (bCB qLen (aCons (bVar 0) aNil)) (bC (.int 2))) (bCB gAll (aCons (frz (fComp (iSeq (own (bVar 0))) (gNm 1) (fun _ ρ P => P true ρ) (own (bCall sp_is_int 3 (oCons (own (bVar 1)) (oCons (own (bC (.int 0))) (oCons (own (bC (.int 1000000000000))) oNil))))) [1])) aNil))))))

def cx_are_jobs : Ctx := { N := ["value", "job"], Γ := [("is_job", .pur 1 sp_is_job)], C := [("MOST_JOBS", (.int 30))], R := [], ms := [] }
def tr_are_jobs : SW := (sRet (own (bAnd (bUn (qIsi "tuple") (bVar 0)) (bAnd (bChain qLe qLe (bC (.int 1)) (bCB qLen (aCons (bVar 0) aNil)) (bC (.int 30))) (bCB gAll (aCons (frz (fComp (iSeq (own (bVar 0))) (gNm 1) (fun _ ρ P => P true ρ) (own (bCall sp_is_job 1 (oCons (own (bVar 1)) oNil))) [1])) aNil))))))


theorem ty_is_int (X : ED) (ds : List D) (Q : D → Prop) (hl : ds.length = 3) (h : sp_is_int X ds Q) : tr_is_int X (startS cx_is_int.N ds) (oPur Q) := by
  unfold sp_is_int at h
  split at h
  · rename_i v lo hi
    obtain ⟨hs, q⟩ := h
    unfold tr_is_int cx_is_int
    cases v with
    | dict kvs => exact (not_dict hs).elim
    | int i => simp only [sSkip, sSeq, sIf, sRet, sRetN, sExpr, sAsg, sSetC, sFrz, sBrk, sCont, sRaise, sApp, sSetIx, sFor, sPar, putAll, pNil, pO, pF, startS, startM, oPur, oMut, oIni, own, ownR, use, uses, res, varR, bVar, bC, bOp, bUn, bCB, aNil, aCons, bAnd, bOr, bNot, bIf, bChain, tVal, tBl, wNot, wAnd, wOr, bTup, frz, fLst, oNil, oCons, bSl, oNone, oSome, bCall, fCall, bCallM, fComp, fCB, fRng, bTRng, gNm, gTp, setAll, iSeq, iRange, iEnum, iZip, seqOf, noCelB, wipeS, restore, qAdd, okAdd, vAdd, gSub, qMul, okMul, vMul, gDiv, gMod, gPow, gLt, gGt, gGe, qLe, okLe, vLe, gEq, gNe, qIs, okIs, vIs, qIsNot, gNeg, qLen, okLen, vLen, gAll, gAny, gSum, gMax, qMin, okMin, vMin, qInt, okInt, vInt, qBool, okBool, vBool, qTuple, seq1, qIsi, okIsi, vIsi, qIx, ixR, qSl, okSl, vSl, qIn, okIn, vIn, qNotIn, gLenSet, jList, jSrt, truD, isNonD, List.getElem?_cons_zero, List.getElem?_cons_succ, List.set_cons_zero, List.set_cons_succ, List.length_cons, List.length_nil, List.map_cons, List.map_nil, List.replicate, List.append_nil, List.nil_append, List.cons_append, Nat.reduceAdd, Nat.reduceSub, Nat.reduceLT, Nat.reduceLeDiff, Nat.zero_lt_succ, true_and, and_true, Bool.false_eq_true, if_true, if_false, Nat.zero_add, Nat.add_one_sub_one, Nat.sub_self, reduceIte, Nat.lt_add_left_iff_pos, eq_self, String.reduceBEq, Bool.not_true, Bool.not_false, Bool.or_self, Bool.or_false, Bool.or_true, Bool.true_or, Bool.false_or, Bool.and_true, Bool.true_and, Bool.and_false, Bool.false_and, ite_true, ite_false]; exact ite_and q
    | _ => simp only [sSkip, sSeq, sIf, sRet, sRetN, sExpr, sAsg, sSetC, sFrz, sBrk, sCont, sRaise, sApp, sSetIx, sFor, sPar, putAll, pNil, pO, pF, startS, startM, oPur, oMut, oIni, own, ownR, use, uses, res, varR, bVar, bC, bOp, bUn, bCB, aNil, aCons, bAnd, bOr, bNot, bIf, bChain, tVal, tBl, wNot, wAnd, wOr, bTup, frz, fLst, oNil, oCons, bSl, oNone, oSome, bCall, fCall, bCallM, fComp, fCB, fRng, bTRng, gNm, gTp, setAll, iSeq, iRange, iEnum, iZip, seqOf, noCelB, wipeS, restore, qAdd, okAdd, vAdd, gSub, qMul, okMul, vMul, gDiv, gMod, gPow, gLt, gGt, gGe, qLe, okLe, vLe, gEq, gNe, qIs, okIs, vIs, qIsNot, gNeg, qLen, okLen, vLen, gAll, gAny, gSum, gMax, qMin, okMin, vMin, qInt, okInt, vInt, qBool, okBool, vBool, qTuple, seq1, qIsi, okIsi, vIsi, qIx, ixR, qSl, okSl, vSl, qIn, okIn, vIn, qNotIn, gLenSet, jList, jSrt, truD, isNonD, List.getElem?_cons_zero, List.getElem?_cons_succ, List.set_cons_zero, List.set_cons_succ, List.length_cons, List.length_nil, List.map_cons, List.map_nil, List.replicate, List.append_nil, List.nil_append, List.cons_append, Nat.reduceAdd, Nat.reduceSub, Nat.reduceLT, Nat.reduceLeDiff, Nat.zero_lt_succ, true_and, and_true, Bool.false_eq_true, if_true, if_false, Nat.zero_add, Nat.add_one_sub_one, Nat.sub_self, reduceIte, Nat.lt_add_left_iff_pos, eq_self, String.reduceBEq, Bool.not_true, Bool.not_false, Bool.or_self, Bool.or_false, Bool.or_true, Bool.true_or, Bool.false_or, Bool.and_true, Bool.true_and, Bool.and_false, Bool.false_and, ite_true, ite_false]; exact q
  · exact h.elim
theorem ty_is_job (X : ED) (ds : List D) (Q : D → Prop) (hl : ds.length = 1) (h : sp_is_job X ds Q) : tr_is_job X (startS cx_is_job.N ds) (oPur Q) := by
  unfold sp_is_job at h
  split at h
  · rename_i v
    obtain ⟨hs, q⟩ := h
    unfold tr_is_job cx_is_job
    cases v with
    | dict kvs => exact (not_dict hs).elim
    | tuple ts =>
      simp only [sSkip, sSeq, sIf, sRet, sRetN, sExpr, sAsg, sSetC, sFrz, sBrk, sCont, sRaise, sApp, sSetIx, sFor, sPar, putAll, pNil, pO, pF, startS, startM, oPur, oMut, oIni, own, ownR, use, uses, res, varR, bVar, bC, bOp, bUn, bCB, aNil, aCons, bAnd, bOr, bNot, bIf, bChain, tVal, tBl, wNot, wAnd, wOr, bTup, frz, fLst, oNil, oCons, bSl, oNone, oSome, bCall, fCall, bCallM, fComp, fCB, fRng, bTRng, gNm, gTp, setAll, iSeq, iRange, iEnum, iZip, seqOf, noCelB, wipeS, restore, qAdd, okAdd, vAdd, gSub, qMul, okMul, vMul, gDiv, gMod, gPow, gLt, gGt, gGe, qLe, okLe, vLe, gEq, gNe, qIs, okIs, vIs, qIsNot, gNeg, qLen, okLen, vLen, gAll, gAny, gSum, gMax, qMin, okMin, vMin, qInt, okInt, vInt, qBool, okBool, vBool, qTuple, seq1, qIsi, okIsi, vIsi, qIx, ixR, qSl, okSl, vSl, qIn, okIn, vIn, qNotIn, gLenSet, jList, jSrt, truD, isNonD, List.getElem?_cons_zero, List.getElem?_cons_succ, List.set_cons_zero, List.set_cons_succ, List.length_cons, List.length_nil, List.map_cons, List.map_nil, List.replicate, List.append_nil, List.nil_append, List.cons_append, Nat.reduceAdd, Nat.reduceSub, Nat.reduceLT, Nat.reduceLeDiff, Nat.zero_lt_succ, true_and, and_true, Bool.false_eq_true, if_true, if_false, Nat.zero_add, Nat.add_one_sub_one, Nat.sub_self, reduceIte, Nat.lt_add_left_iff_pos, eq_self, String.reduceBEq, Bool.not_true, Bool.not_false, Bool.or_self, Bool.or_false, Bool.or_true, Bool.true_or, Bool.false_or, Bool.and_true, Bool.true_and, Bool.and_false, Bool.false_and, ite_true, ite_false]
      refine ⟨shp_int, shp_int, ?_⟩
      rw [show ((2 : Int)) = ((2 : Nat) : Int) from rfl, eqv_len]
      cases h2 : ts.length == 2 with
      | false => simpa [isJobB, h2] using q
      | true =>
        have h3 : ts.length = 2 := by simpa using h2
        simp only [sSkip, sSeq, sIf, sRet, sRetN, sExpr, sAsg, sSetC, sFrz, sBrk, sCont, sRaise, sApp, sSetIx, sFor, sPar, putAll, pNil, pO, pF, startS, startM, oPur, oMut, oIni, own, ownR, use, uses, res, varR, bVar, bC, bOp, bUn, bCB, aNil, aCons, bAnd, bOr, bNot, bIf, bChain, tVal, tBl, wNot, wAnd, wOr, bTup, frz, fLst, oNil, oCons, bSl, oNone, oSome, bCall, fCall, bCallM, fComp, fCB, fRng, bTRng, gNm, gTp, setAll, iSeq, iRange, iEnum, iZip, seqOf, noCelB, wipeS, restore, qAdd, okAdd, vAdd, gSub, qMul, okMul, vMul, gDiv, gMod, gPow, gLt, gGt, gGe, qLe, okLe, vLe, gEq, gNe, qIs, okIs, vIs, qIsNot, gNeg, qLen, okLen, vLen, gAll, gAny, gSum, gMax, qMin, okMin, vMin, qInt, okInt, vInt, qBool, okBool, vBool, qTuple, seq1, qIsi, okIsi, vIsi, qIx, ixR, qSl, okSl, vSl, qIn, okIn, vIn, qNotIn, gLenSet, jList, jSrt, truD, isNonD, List.getElem?_cons_zero, List.getElem?_cons_succ, List.set_cons_zero, List.set_cons_succ, List.length_cons, List.length_nil, List.map_cons, List.map_nil, List.replicate, List.append_nil, List.nil_append, List.cons_append, Nat.reduceAdd, Nat.reduceSub, Nat.reduceLT, Nat.reduceLeDiff, Nat.zero_lt_succ, true_and, and_true, Bool.false_eq_true, if_true, if_false, Nat.zero_add, Nat.add_one_sub_one, Nat.sub_self, reduceIte, Nat.lt_add_left_iff_pos, eq_self, String.reduceBEq, Bool.not_true, Bool.not_false, Bool.or_self, Bool.or_false, Bool.or_true, Bool.true_or, Bool.false_or, Bool.and_true, Bool.true_and, Bool.and_false, Bool.false_and, ite_true, ite_false]
        refine ⟨by omega, comp_map (fun d => .bool (isIntB 0 1000000000000 d)) ts (fun d hd C hC => ?_) ?_⟩
        · simp only [sp_is_int, sSkip, sSeq, sIf, sRet, sRetN, sExpr, sAsg, sSetC, sFrz, sBrk, sCont, sRaise, sApp, sSetIx, sFor, sPar, putAll, pNil, pO, pF, startS, startM, oPur, oMut, oIni, own, ownR, use, uses, res, varR, bVar, bC, bOp, bUn, bCB, aNil, aCons, bAnd, bOr, bNot, bIf, bChain, tVal, tBl, wNot, wAnd, wOr, bTup, frz, fLst, oNil, oCons, bSl, oNone, oSome, bCall, fCall, bCallM, fComp, fCB, fRng, bTRng, gNm, gTp, setAll, iSeq, iRange, iEnum, iZip, seqOf, noCelB, wipeS, restore, qAdd, okAdd, vAdd, gSub, qMul, okMul, vMul, gDiv, gMod, gPow, gLt, gGt, gGe, qLe, okLe, vLe, gEq, gNe, qIs, okIs, vIs, qIsNot, gNeg, qLen, okLen, vLen, gAll, gAny, gSum, gMax, qMin, okMin, vMin, qInt, okInt, vInt, qBool, okBool, vBool, qTuple, seq1, qIsi, okIsi, vIsi, qIx, ixR, qSl, okSl, vSl, qIn, okIn, vIn, qNotIn, gLenSet, jList, jSrt, truD, isNonD, List.getElem?_cons_zero, List.getElem?_cons_succ, List.set_cons_zero, List.set_cons_succ, List.length_cons, List.length_nil, List.map_cons, List.map_nil, List.replicate, List.append_nil, List.nil_append, List.cons_append, Nat.reduceAdd, Nat.reduceSub, Nat.reduceLT, Nat.reduceLeDiff, Nat.zero_lt_succ, true_and, and_true, Bool.false_eq_true, if_true, if_false, Nat.zero_add, Nat.add_one_sub_one, Nat.sub_self, reduceIte, Nat.lt_add_left_iff_pos, eq_self, String.reduceBEq, Bool.not_true, Bool.not_false, Bool.or_self, Bool.or_false, Bool.or_true, Bool.true_or, Bool.false_or, Bool.and_true, Bool.true_and, Bool.and_false, Bool.false_and, ite_true, ite_false]
          exact ⟨shp_of_tuple hs d hd, hC⟩
        · rw [boolsOf_map']
          simpa [isJobB, h3, all_id] using q
    | _ => simp only [sSkip, sSeq, sIf, sRet, sRetN, sExpr, sAsg, sSetC, sFrz, sBrk, sCont, sRaise, sApp, sSetIx, sFor, sPar, putAll, pNil, pO, pF, startS, startM, oPur, oMut, oIni, own, ownR, use, uses, res, varR, bVar, bC, bOp, bUn, bCB, aNil, aCons, bAnd, bOr, bNot, bIf, bChain, tVal, tBl, wNot, wAnd, wOr, bTup, frz, fLst, oNil, oCons, bSl, oNone, oSome, bCall, fCall, bCallM, fComp, fCB, fRng, bTRng, gNm, gTp, setAll, iSeq, iRange, iEnum, iZip, seqOf, noCelB, wipeS, restore, qAdd, okAdd, vAdd, gSub, qMul, okMul, vMul, gDiv, gMod, gPow, gLt, gGt, gGe, qLe, okLe, vLe, gEq, gNe, qIs, okIs, vIs, qIsNot, gNeg, qLen, okLen, vLen, gAll, gAny, gSum, gMax, qMin, okMin, vMin, qInt, okInt, vInt, qBool, okBool, vBool, qTuple, seq1, qIsi, okIsi, vIsi, qIx, ixR, qSl, okSl, vSl, qIn, okIn, vIn, qNotIn, gLenSet, jList, jSrt, truD, isNonD, List.getElem?_cons_zero, List.getElem?_cons_succ, List.set_cons_zero, List.set_cons_succ, List.length_cons, List.length_nil, List.map_cons, List.map_nil, List.replicate, List.append_nil, List.nil_append, List.cons_append, Nat.reduceAdd, Nat.reduceSub, Nat.reduceLT, Nat.reduceLeDiff, Nat.zero_lt_succ, true_and, and_true, Bool.false_eq_true, if_true, if_false, Nat.zero_add, Nat.add_one_sub_one, Nat.sub_self, reduceIte, Nat.lt_add_left_iff_pos, eq_self, String.reduceBEq, Bool.not_true, Bool.not_false, Bool.or_self, Bool.or_false, Bool.or_true, Bool.true_or, Bool.false_or, Bool.and_true, Bool.true_and, Bool.and_false, Bool.false_and, ite_true, ite_false]; exact q
  · exact h.elim
theorem ty_are_jobs (X : ED) (ds : List D) (Q : D → Prop) (hl : ds.length = 1) (h : sp_are_jobs X ds Q) : tr_are_jobs X (startS cx_are_jobs.N ds) (oPur Q) := by
  unfold sp_are_jobs at h
  split at h
  · rename_i v
    obtain ⟨hs, q⟩ := h
    unfold tr_are_jobs cx_are_jobs
    cases v with
    | dict kvs => exact (not_dict hs).elim
    | tuple ts =>
      simp only [sSkip, sSeq, sIf, sRet, sRetN, sExpr, sAsg, sSetC, sFrz, sBrk, sCont, sRaise, sApp, sSetIx, sFor, sPar, putAll, pNil, pO, pF, startS, startM, oPur, oMut, oIni, own, ownR, use, uses, res, varR, bVar, bC, bOp, bUn, bCB, aNil, aCons, bAnd, bOr, bNot, bIf, bChain, tVal, tBl, wNot, wAnd, wOr, bTup, frz, fLst, oNil, oCons, bSl, oNone, oSome, bCall, fCall, bCallM, fComp, fCB, fRng, bTRng, gNm, gTp, setAll, iSeq, iRange, iEnum, iZip, seqOf, noCelB, wipeS, restore, qAdd, okAdd, vAdd, gSub, qMul, okMul, vMul, gDiv, gMod, gPow, gLt, gGt, gGe, qLe, okLe, vLe, gEq, gNe, qIs, okIs, vIs, qIsNot, gNeg, qLen, okLen, vLen, gAll, gAny, gSum, gMax, qMin, okMin, vMin, qInt, okInt, vInt, qBool, okBool, vBool, qTuple, seq1, qIsi, okIsi, vIsi, qIx, ixR, qSl, okSl, vSl, qIn, okIn, vIn, qNotIn, gLenSet, jList, jSrt, truD, isNonD, List.getElem?_cons_zero, List.getElem?_cons_succ, List.set_cons_zero, List.set_cons_succ, List.length_cons, List.length_nil, List.map_cons, List.map_nil, List.replicate, List.append_nil, List.nil_append, List.cons_append, Nat.reduceAdd, Nat.reduceSub, Nat.reduceLT, Nat.reduceLeDiff, Nat.zero_lt_succ, true_and, and_true, Bool.false_eq_true, if_true, if_false, Nat.zero_add, Nat.add_one_sub_one, Nat.sub_self, reduceIte, Nat.lt_add_left_iff_pos, eq_self, String.reduceBEq, Bool.not_true, Bool.not_false, Bool.or_self, Bool.or_false, Bool.or_true, Bool.true_or, Bool.false_or, Bool.and_true, Bool.true_and, Bool.and_false, Bool.false_and, ite_true, ite_false]
      have e1 : decide ((1 : Int) ≤ (ts.length : Int)) = decide (1 ≤ ts.length) := by congr 1; simp; omega
      have e2 : decide ((ts.length : Int) ≤ 30) = decide (ts.length ≤ 30) := by congr 1; simp; omega
      rw [e1, e2]
      cases h1 : decide (1 ≤ ts.length) with
      | false => simpa [areJobsB, h1] using q
      | true =>
        simp only [sSkip, sSeq, sIf, sRet, sRetN, sExpr, sAsg, sSetC, sFrz, sBrk, sCont, sRaise, sApp, sSetIx, sFor, sPar, putAll, pNil, pO, pF, startS, startM, oPur, oMut, oIni, own, ownR, use, uses, res, varR, bVar, bC, bOp, bUn, bCB, aNil, aCons, bAnd, bOr, bNot, bIf, bChain, tVal, tBl, wNot, wAnd, wOr, bTup, frz, fLst, oNil, oCons, bSl, oNone, oSome, bCall, fCall, bCallM, fComp, fCB, fRng, bTRng, gNm, gTp, setAll, iSeq, iRange, iEnum, iZip, seqOf, noCelB, wipeS, restore, qAdd, okAdd, vAdd, gSub, qMul, okMul, vMul, gDiv, gMod, gPow, gLt, gGt, gGe, qLe, okLe, vLe, gEq, gNe, qIs, okIs, vIs, qIsNot, gNeg, qLen, okLen, vLen, gAll, gAny, gSum, gMax, qMin, okMin, vMin, qInt, okInt, vInt, qBool, okBool, vBool, qTuple, seq1, qIsi, okIsi, vIsi, qIx, ixR, qSl, okSl, vSl, qIn, okIn, vIn, qNotIn, gLenSet, jList, jSrt, truD, isNonD, List.getElem?_cons_zero, List.getElem?_cons_succ, List.set_cons_zero, List.set_cons_succ, List.length_cons, List.length_nil, List.map_cons, List.map_nil, List.replicate, List.append_nil, List.nil_append, List.cons_append, Nat.reduceAdd, Nat.reduceSub, Nat.reduceLT, Nat.reduceLeDiff, Nat.zero_lt_succ, true_and, and_true, Bool.false_eq_true, if_true, if_false, Nat.zero_add, Nat.add_one_sub_one, Nat.sub_self, reduceIte, Nat.lt_add_left_iff_pos, eq_self, String.reduceBEq, Bool.not_true, Bool.not_false, Bool.or_self, Bool.or_false, Bool.or_true, Bool.true_or, Bool.false_or, Bool.and_true, Bool.true_and, Bool.and_false, Bool.false_and, ite_true, ite_false]
        cases h2 : decide (ts.length ≤ 30) with
        | false => simpa [areJobsB, h1, h2] using q
        | true =>
          have h3 := of_decide_eq_true h2
          simp only [sSkip, sSeq, sIf, sRet, sRetN, sExpr, sAsg, sSetC, sFrz, sBrk, sCont, sRaise, sApp, sSetIx, sFor, sPar, putAll, pNil, pO, pF, startS, startM, oPur, oMut, oIni, own, ownR, use, uses, res, varR, bVar, bC, bOp, bUn, bCB, aNil, aCons, bAnd, bOr, bNot, bIf, bChain, tVal, tBl, wNot, wAnd, wOr, bTup, frz, fLst, oNil, oCons, bSl, oNone, oSome, bCall, fCall, bCallM, fComp, fCB, fRng, bTRng, gNm, gTp, setAll, iSeq, iRange, iEnum, iZip, seqOf, noCelB, wipeS, restore, qAdd, okAdd, vAdd, gSub, qMul, okMul, vMul, gDiv, gMod, gPow, gLt, gGt, gGe, qLe, okLe, vLe, gEq, gNe, qIs, okIs, vIs, qIsNot, gNeg, qLen, okLen, vLen, gAll, gAny, gSum, gMax, qMin, okMin, vMin, qInt, okInt, vInt, qBool, okBool, vBool, qTuple, seq1, qIsi, okIsi, vIsi, qIx, ixR, qSl, okSl, vSl, qIn, okIn, vIn, qNotIn, gLenSet, jList, jSrt, truD, isNonD, List.getElem?_cons_zero, List.getElem?_cons_succ, List.set_cons_zero, List.set_cons_succ, List.length_cons, List.length_nil, List.map_cons, List.map_nil, List.replicate, List.append_nil, List.nil_append, List.cons_append, Nat.reduceAdd, Nat.reduceSub, Nat.reduceLT, Nat.reduceLeDiff, Nat.zero_lt_succ, true_and, and_true, Bool.false_eq_true, if_true, if_false, Nat.zero_add, Nat.add_one_sub_one, Nat.sub_self, reduceIte, Nat.lt_add_left_iff_pos, eq_self, String.reduceBEq, Bool.not_true, Bool.not_false, Bool.or_self, Bool.or_false, Bool.or_true, Bool.true_or, Bool.false_or, Bool.and_true, Bool.true_and, Bool.and_false, Bool.false_and, ite_true, ite_false]
          refine ⟨by omega, comp_map (fun d => .bool (isJobB d)) ts (fun d hd C hC => ?_) ?_⟩
          · simp only [sp_is_job, sSkip, sSeq, sIf, sRet, sRetN, sExpr, sAsg, sSetC, sFrz, sBrk, sCont, sRaise, sApp, sSetIx, sFor, sPar, putAll, pNil, pO, pF, startS, startM, oPur, oMut, oIni, own, ownR, use, uses, res, varR, bVar, bC, bOp, bUn, bCB, aNil, aCons, bAnd, bOr, bNot, bIf, bChain, tVal, tBl, wNot, wAnd, wOr, bTup, frz, fLst, oNil, oCons, bSl, oNone, oSome, bCall, fCall, bCallM, fComp, fCB, fRng, bTRng, gNm, gTp, setAll, iSeq, iRange, iEnum, iZip, seqOf, noCelB, wipeS, restore, qAdd, okAdd, vAdd, gSub, qMul, okMul, vMul, gDiv, gMod, gPow, gLt, gGt, gGe, qLe, okLe, vLe, gEq, gNe, qIs, okIs, vIs, qIsNot, gNeg, qLen, okLen, vLen, gAll, gAny, gSum, gMax, qMin, okMin, vMin, qInt, okInt, vInt, qBool, okBool, vBool, qTuple, seq1, qIsi, okIsi, vIsi, qIx, ixR, qSl, okSl, vSl, qIn, okIn, vIn, qNotIn, gLenSet, jList, jSrt, truD, isNonD, List.getElem?_cons_zero, List.getElem?_cons_succ, List.set_cons_zero, List.set_cons_succ, List.length_cons, List.length_nil, List.map_cons, List.map_nil, List.replicate, List.append_nil, List.nil_append, List.cons_append, Nat.reduceAdd, Nat.reduceSub, Nat.reduceLT, Nat.reduceLeDiff, Nat.zero_lt_succ, true_and, and_true, Bool.false_eq_true, if_true, if_false, Nat.zero_add, Nat.add_one_sub_one, Nat.sub_self, reduceIte, Nat.lt_add_left_iff_pos, eq_self, String.reduceBEq, Bool.not_true, Bool.not_false, Bool.or_self, Bool.or_false, Bool.or_true, Bool.true_or, Bool.false_or, Bool.and_true, Bool.true_and, Bool.and_false, Bool.false_and, ite_true, ite_false]
            exact ⟨shp_of_tuple hs d hd, hC⟩
          · rw [boolsOf_map']
            simpa [areJobsB, h1, h2, all_id] using q
    | _ => simp only [sSkip, sSeq, sIf, sRet, sRetN, sExpr, sAsg, sSetC, sFrz, sBrk, sCont, sRaise, sApp, sSetIx, sFor, sPar, putAll, pNil, pO, pF, startS, startM, oPur, oMut, oIni, own, ownR, use, uses, res, varR, bVar, bC, bOp, bUn, bCB, aNil, aCons, bAnd, bOr, bNot, bIf, bChain, tVal, tBl, wNot, wAnd, wOr, bTup, frz, fLst, oNil, oCons, bSl, oNone, oSome, bCall, fCall, bCallM, fComp, fCB, fRng, bTRng, gNm, gTp, setAll, iSeq, iRange, iEnum, iZip, seqOf, noCelB, wipeS, restore, qAdd, okAdd, vAdd, gSub, qMul, okMul, vMul, gDiv, gMod, gPow, gLt, gGt, gGe, qLe, okLe, vLe, gEq, gNe, qIs, okIs, vIs, qIsNot, gNeg, qLen, okLen, vLen, gAll, gAny, gSum, gMax, qMin, okMin, vMin, qInt, okInt, vInt, qBool, okBool, vBool, qTuple, seq1, qIsi, okIsi, vIsi, qIx, ixR, qSl, okSl, vSl, qIn, okIn, vIn, qNotIn, gLenSet, jList, jSrt, truD, isNonD, List.getElem?_cons_zero, List.getElem?_cons_succ, List.set_cons_zero, List.set_cons_succ, List.length_cons, List.length_nil, List.map_cons, List.map_nil, List.replicate, List.append_nil, List.nil_append, List.cons_append, Nat.reduceAdd, Nat.reduceSub, Nat.reduceLT, Nat.reduceLeDiff, Nat.zero_lt_succ, true_and, and_true, Bool.false_eq_true, if_true, if_false, Nat.zero_add, Nat.add_one_sub_one, Nat.sub_self, reduceIte, Nat.lt_add_left_iff_pos, eq_self, String.reduceBEq, Bool.not_true, Bool.not_false, Bool.or_self, Bool.or_false, Bool.or_true, Bool.true_or, Bool.false_or, Bool.and_true, Bool.true_and, Bool.and_false, Bool.false_and, ite_true, ite_false]; exact q
  · exact h.elim
/-! rows, orders -/
def intD : D → Int
  | .int i => i
  | _ => 0
def rowB (m : Nat) : D → Bool
  | .tuple ts => decide (ts.length ≤ m) && ts.all (isIntB 0 ((m : Int) - 1)) && ((distinct (ts.map intD)).length == ts.length)
  | _ => false
def lenD : D → Nat
  | .tuple ts => ts.length
  | .list ts => ts.length
  | _ => 0
def ordB (m : Nat) (d : D) : Bool := rowB m d && (lenD d == m)
def sp_is_right_row : ED → List D → (D → Prop) → Prop := fun X ds P => match ds with
  | [.tuple js, v] => js.length ≤ 30 ∧ shp v = true ∧ P (.bool (rowB js.length v))
  | _ => False
def sp_is_right_order : ED → List D → (D → Prop) → Prop := fun X ds P => match ds with
  | [.tuple js, v] => js.length ≤ 30 ∧ shp v = true ∧ P (.bool (ordB js.length v))
  | _ => False
def sp_need_jobs : ED → List D → (D → Prop) → Prop := fun X ds P => match ds with
  | [v] => shp v = true ∧ if areJobsB v = true then P .none else X "InvalidJobs"
  | _ => False
def sp_need_order : ED → List D → (D → Prop) → Prop := fun X ds P => match ds with
  | [.tuple js, v] => js.length ≤ 30 ∧ shp v = true ∧ if ordB js.length v = true then P .none else X "InvalidOrder"
  | _ => False
def sp_is_jobs : ED → List D → (D → Prop) → Prop := sp_are_jobs
def sp_is_order : ED → List D → (D → Prop) → Prop := fun X ds P => match ds with
  | [w, v] => shp w = true ∧ shp v = true ∧ if areJobsB w = true then P (.bool (ordB (lenD w) v)) else X "InvalidJobs"
  | _ => False
def cx_is_right_row : Ctx := { N := ["jobs", "value", "number"], Γ := [("is_int", .pur 3 sp_is_int)], C := [], R := [], ms := [] }
def tr_is_right_row : SW := (sSeq (sIf (wOr (wNot (tVal (bUn (qIsi "tuple") (bVar 1)))) (tBl (bOp gGt (bCB qLen (aCons (bVar 1) aNil)) (bCB qLen (aCons (bVar 0) aNil)))))
  (sRet (own (bC (.bool false))))
  sSkip)
  (sRet (own (bAnd (bCB gAll (aCons (frz (fComp (iSeq (own (bVar 1))) (gNm 2) (fun _ ρ P => P true ρ) (own (bCall sp_is_int 3 (oCons (own (bVar 2)) (oCons (own (bC (.int 0))) (oCons (own (bOp gSub (bCB qLen (aCons (bVar 0) aNil)) (bC (.int 1)))) oNil))))) [2])) aNil)) (bOp gEq (bUn gLenSet (bVar 1)) (bCB qLen (aCons (bVar 1) aNil)))))))

def cx_is_right_order : Ctx := { N := ["jobs", "value"], Γ := [("is_right_row", .pur 2 sp_is_right_row)], C := [], R := [], ms := [] }
def tr_is_right_order : SW := (sRet (own (bAnd (bCall sp_is_right_row 2 (oCons (own (bVar 0)) (oCons (own (bVar 1)) oNil))) (bOp gEq (bCB qLen (aCons (bVar 1) aNil)) (bCB qLen (aCons (bVar 0) aNil))))))

def cx_need_jobs : Ctx := { N := ["value"], Γ := [("are_jobs", .pur 1 sp_are_jobs)], C := [], R := ["InvalidJobs"], ms := [] }
def tr_need_jobs : SW := (sIf (wNot (tVal (bCall sp_are_jobs 1 (oCons (own (bVar 0)) oNil))))
  (sRaise "InvalidJobs")
  sSkip)

def cx_need_order : Ctx := { N := ["jobs", "value"], Γ := [("is_right_order", .pur 2 sp_is_right_order)], C := [], R := ["InvalidOrder"], ms := [] }
def tr_need_order : SW := (sIf (wNot (tVal (bCall sp_is_right_order 2 (oCons (own (bVar 0)) (oCons (own (bVar 1)) oNil)))))
  (sRaise "InvalidOrder")
  sSkip)

def cx_is_jobs : Ctx := { N := ["value"], Γ := [("are_jobs", .pur 1 sp_are_jobs)], C := [], R := [], ms := [] }
def tr_is_jobs : SW := (sRet (own (bCall sp_are_jobs 1 (oCons (own (bVar 0)) oNil))))

def cx_is_order : Ctx := { N := ["jobs", "value"], Γ := [("is_right_order", .pur 2 sp_is_right_order), ("need_jobs", .pur 1 sp_need_jobs)], C := [], R := [], ms := [] }
def tr_is_order : SW := (sSeq (sExpr (bCall sp_need_jobs 1 (oCons (own (bVar 0)) oNil)))
  (sRet (own (bCall sp_is_right_order 2 (oCons (own (bVar 0)) (oCons (own (bVar 1)) oNil))))))


theorem ints_of_all {lo hi : Int} : ∀ {ts : List D}, ts.all (isIntB lo hi) = true → ts = (ts.map intD).map .int ∧ ∀ i ∈ ts.map intD, lo ≤ i ∧ i ≤ hi
  | [], _ => ⟨rfl, fun i hi => nomatch hi⟩
  | t :: ts, h => by
    rw [List.all_cons, Bool.and_eq_true] at h
    obtain ⟨e, f⟩ := ints_of_all h.2
    cases t with
    | int i =>
      have h1 := h.1
      simp only [isIntB, Bool.and_eq_true, decide_eq_true_eq] at h1
      refine ⟨by rw [List.map_cons, List.map_cons, ← e]; rfl, fun j hj => ?_⟩
      rcases List.mem_cons.mp hj with rfl | hj
      · exact h1
      · exact f j hj
    | _ => simp [isIntB] at h
theorem ty_is_right_row (X : ED) (ds : List D) (Q : D → Prop) (hl : ds.length = 2) (h : sp_is_right_row X ds Q) : tr_is_right_row X (startS cx_is_right_row.N ds) (oPur Q) := by
  unfold sp_is_right_row at h
  split at h
  · rename_i js v
    obtain ⟨hj, hs, q⟩ := h
    unfold tr_is_right_row cx_is_right_row
    cases v with
    | dict kvs => exact (not_dict hs).elim
    | tuple ts =>
      simp only [sSkip, sSeq, sIf, sRet, sRetN, sExpr, sAsg, sSetC, sFrz, sBrk, sCont, sRaise, sApp, sSetIx, sFor, sPar, putAll, pNil, pO, pF, startS, startM, oPur, oMut, oIni, own, ownR, use, uses, res, varR, bVar, bC, bOp, bUn, bCB, aNil, aCons, bAnd, bOr, bNot, bIf, bChain, tVal, tBl, wNot, wAnd, wOr, bTup, frz, fLst, oNil, oCons, bSl, oNone, oSome, bCall, fCall, bCallM, fComp, fCB, fRng, bTRng, gNm, gTp, setAll, iSeq, iRange, iEnum, iZip, seqOf, noCelB, wipeS, restore, qAdd, okAdd, vAdd, gSub, qMul, okMul, vMul, gDiv, gMod, gPow, gLt, gGt, gGe, qLe, okLe, vLe, gEq, gNe, qIs, okIs, vIs, qIsNot, gNeg, qLen, okLen, vLen, gAll, gAny, gSum, gMax, qMin, okMin, vMin, qInt, okInt, vInt, qBool, okBool, vBool, qTuple, seq1, qIsi, okIsi, vIsi, qIx, ixR, qSl, okSl, vSl, qIn, okIn, vIn, qNotIn, gLenSet, jList, jSrt, truD, isNonD, List.getElem?_cons_zero, List.getElem?_cons_succ, List.set_cons_zero, List.set_cons_succ, List.length_cons, List.length_nil, List.map_cons, List.map_nil, List.replicate, List.append_nil, List.nil_append, List.cons_append, Nat.reduceAdd, Nat.reduceSub, Nat.reduceLT, Nat.reduceLeDiff, Nat.zero_lt_succ, true_and, and_true, Bool.false_eq_true, if_true, if_false, Nat.zero_add, Nat.add_one_sub_one, Nat.sub_self, reduceIte, Nat.lt_add_left_iff_pos, eq_self, String.reduceBEq, Bool.not_true, Bool.not_false, Bool.or_self, Bool.or_false, Bool.or_true, Bool.true_or, Bool.false_or, Bool.and_true, Bool.true_and, Bool.and_false, Bool.false_and, ite_true, ite_false]
      by_cases hlen : ts.length ≤ js.length
      · have e1 : decide (((js.length : Nat) : Int) < ((ts.length : Nat) : Int)) = false := by simp; omega
        rw [e1]
        simp only [sSkip, sSeq, sIf, sRet, sRetN, sExpr, sAsg, sSetC, sFrz, sBrk, sCont, sRaise, sApp, sSetIx, sFor, sPar, putAll, pNil, pO, pF, startS, startM, oPur, oMut, oIni, own, ownR, use, uses, res, varR, bVar, bC, bOp, bUn, bCB, aNil, aCons, bAnd, bOr, bNot, bIf, bChain, tVal, tBl, wNot, wAnd, wOr, bTup, frz, fLst, oNil, oCons, bSl, oNone, oSome, bCall, fCall, bCallM, fComp, fCB, fRng, bTRng, gNm, gTp, setAll, iSeq, iRange, iEnum, iZip, seqOf, noCelB, wipeS, restore, qAdd, okAdd, vAdd, gSub, qMul, okMul, vMul, gDiv, gMod, gPow, gLt, gGt, gGe, qLe, okLe, vLe, gEq, gNe, qIs, okIs, vIs, qIsNot, gNeg, qLen, okLen, vLen, gAll, gAny, gSum, gMax, qMin, okMin, vMin, qInt, okInt, vInt, qBool, okBool, vBool, qTuple, seq1, qIsi, okIsi, vIsi, qIx, ixR, qSl, okSl, vSl, qIn, okIn, vIn, qNotIn, gLenSet, jList, jSrt, truD, isNonD, List.getElem?_cons_zero, List.getElem?_cons_succ, List.set_cons_zero, List.set_cons_succ, List.length_cons, List.length_nil, List.map_cons, List.map_nil, List.replicate, List.append_nil, List.nil_append, List.cons_append, Nat.reduceAdd, Nat.reduceSub, Nat.reduceLT, Nat.reduceLeDiff, Nat.zero_lt_succ, true_and, and_true, Bool.false_eq_true, if_true, if_false, Nat.zero_add, Nat.add_one_sub_one, Nat.sub_self, reduceIte, Nat.lt_add_left_iff_pos, eq_self, String.reduceBEq, Bool.not_true, Bool.not_false, Bool.or_self, Bool.or_false, Bool.or_true, Bool.true_or, Bool.false_or, Bool.and_true, Bool.true_and, Bool.and_false, Bool.false_and, ite_true, ite_false]
        refine ⟨by omega, comp_map (fun d => .bool (isIntB 0 ((js.length : Int) - 1) d)) ts (fun d hd C hC => ?_) ?_⟩
        · simp only [sp_is_int, sSkip, sSeq, sIf, sRet, sRetN, sExpr, sAsg, sSetC, sFrz, sBrk, sCont, sRaise, sApp, sSetIx, sFor, sPar, putAll, pNil, pO, pF, startS, startM, oPur, oMut, oIni, own, ownR, use, uses, res, varR, bVar, bC, bOp, bUn, bCB, aNil, aCons, bAnd, bOr, bNot, bIf, bChain, tVal, tBl, wNot, wAnd, wOr, bTup, frz, fLst, oNil, oCons, bSl, oNone, oSome, bCall, fCall, bCallM, fComp, fCB, fRng, bTRng, gNm, gTp, setAll, iSeq, iRange, iEnum, iZip, seqOf, noCelB, wipeS, restore, qAdd, okAdd, vAdd, gSub, qMul, okMul, vMul, gDiv, gMod, gPow, gLt, gGt, gGe, qLe, okLe, vLe, gEq, gNe, qIs, okIs, vIs, qIsNot, gNeg, qLen, okLen, vLen, gAll, gAny, gSum, gMax, qMin, okMin, vMin, qInt, okInt, vInt, qBool, okBool, vBool, qTuple, seq1, qIsi, okIsi, vIsi, qIx, ixR, qSl, okSl, vSl, qIn, okIn, vIn, qNotIn, gLenSet, jList, jSrt, truD, isNonD, List.getElem?_cons_zero, List.getElem?_cons_succ, List.set_cons_zero, List.set_cons_succ, List.length_cons, List.length_nil, List.map_cons, List.map_nil, List.replicate, List.append_nil, List.nil_append, List.cons_append, Nat.reduceAdd, Nat.reduceSub, Nat.reduceLT, Nat.reduceLeDiff, Nat.zero_lt_succ, true_and, and_true, Bool.false_eq_true, if_true, if_false, Nat.zero_add, Nat.add_one_sub_one, Nat.sub_self, reduceIte, Nat.lt_add_left_iff_pos, eq_self, String.reduceBEq, Bool.not_true, Bool.not_false, Bool.or_self, Bool.or_false, Bool.or_true, Bool.true_or, Bool.false_or, Bool.and_true, Bool.true_and, Bool.and_false, Bool.false_and, ite_true, ite_false]
          exact ⟨shp_of_tuple hs d hd, hC⟩
        · rw [boolsOf_map']
          simp only [all_id]
          cases ha : ts.all (isIntB 0 ((js.length : Int) - 1)) with
          | false => simpa [rowB, hlen, ha] using q
          | true =>
            obtain ⟨ei, _⟩ := ints_of_all ha
            simp only [sSkip, sSeq, sIf, sRet, sRetN, sExpr, sAsg, sSetC, sFrz, sBrk, sCont, sRaise, sApp, sSetIx, sFor, sPar, putAll, pNil, pO, pF, startS, startM, oPur, oMut, oIni, own, ownR, use, uses, res, varR, bVar, bC, bOp, bUn, bCB, aNil, aCons, bAnd, bOr, bNot, bIf, bChain, tVal, tBl, wNot, wAnd, wOr, bTup, frz, fLst, oNil, oCons, bSl, oNone, oSome, bCall, fCall, bCallM, fComp, fCB, fRng, bTRng, gNm, gTp, setAll, iSeq, iRange, iEnum, iZip, seqOf, noCelB, wipeS, restore, qAdd, okAdd, vAdd, gSub, qMul, okMul, vMul, gDiv, gMod, gPow, gLt, gGt, gGe, qLe, okLe, vLe, gEq, gNe, qIs, okIs, vIs, qIsNot, gNeg, qLen, okLen, vLen, gAll, gAny, gSum, gMax, qMin, okMin, vMin, qInt, okInt, vInt, qBool, okBool, vBool, qTuple, seq1, qIsi, okIsi, vIsi, qIx, ixR, qSl, okSl, vSl, qIn, okIn, vIn, qNotIn, gLenSet, jList, jSrt, truD, isNonD, List.getElem?_cons_zero, List.getElem?_cons_succ, List.set_cons_zero, List.set_cons_succ, List.length_cons, List.length_nil, List.map_cons, List.map_nil, List.replicate, List.append_nil, List.nil_append, List.cons_append, Nat.reduceAdd, Nat.reduceSub, Nat.reduceLT, Nat.reduceLeDiff, Nat.zero_lt_succ, true_and, and_true, Bool.false_eq_true, if_true, if_false, Nat.zero_add, Nat.add_one_sub_one, Nat.sub_self, reduceIte, Nat.lt_add_left_iff_pos, eq_self, String.reduceBEq, Bool.not_true, Bool.not_false, Bool.or_self, Bool.or_false, Bool.or_true, Bool.true_or, Bool.false_or, Bool.and_true, Bool.true_and, Bool.and_false, Bool.false_and, ite_true, ite_false]
            have e2 : intsOf ts = some (ts.map intD) := by rw [ei, intsOf_map]; congr 1; rw [List.map_map]; simp [Function.comp_def, intD]
            rw [e2]
            simp only [sSkip, sSeq, sIf, sRet, sRetN, sExpr, sAsg, sSetC, sFrz, sBrk, sCont, sRaise, sApp, sSetIx, sFor, sPar, putAll, pNil, pO, pF, startS, startM, oPur, oMut, oIni, own, ownR, use, uses, res, varR, bVar, bC, bOp, bUn, bCB, aNil, aCons, bAnd, bOr, bNot, bIf, bChain, tVal, tBl, wNot, wAnd, wOr, bTup, frz, fLst, oNil, oCons, bSl, oNone, oSome, bCall, fCall, bCallM, fComp, fCB, fRng, bTRng, gNm, gTp, setAll, iSeq, iRange, iEnum, iZip, seqOf, noCelB, wipeS, restore, qAdd, okAdd, vAdd, gSub, qMul, okMul, vMul, gDiv, gMod, gPow, gLt, gGt, gGe, qLe, okLe, vLe, gEq, gNe, qIs, okIs, vIs, qIsNot, gNeg, qLen, okLen, vLen, gAll, gAny, gSum, gMax, qMin, okMin, vMin, qInt, okInt, vInt, qBool, okBool, vBool, qTuple, seq1, qIsi, okIsi, vIsi, qIx, ixR, qSl, okSl, vSl, qIn, okIn, vIn, qNotIn, gLenSet, jList, jSrt, truD, isNonD, List.getElem?_cons_zero, List.getElem?_cons_succ, List.set_cons_zero, List.set_cons_succ, List.length_cons, List.length_nil, List.map_cons, List.map_nil, List.replicate, List.append_nil, List.nil_append, List.cons_append, Nat.reduceAdd, Nat.reduceSub, Nat.reduceLT, Nat.reduceLeDiff, Nat.zero_lt_succ, true_and, and_true, Bool.false_eq_true, if_true, if_false, Nat.zero_add, Nat.add_one_sub_one, Nat.sub_self, reduceIte, Nat.lt_add_left_iff_pos, eq_self, String.reduceBEq, Bool.not_true, Bool.not_false, Bool.or_self, Bool.or_false, Bool.or_true, Bool.true_or, Bool.false_or, Bool.and_true, Bool.true_and, Bool.and_false, Bool.false_and, ite_true, ite_false]
            refine ⟨by rw [List.length_map]; omega, shp_int, shp_int, ?_⟩
            rw [eqv_len]
            simpa [rowB, hlen, ha] using q
      · have e1 : decide (((js.length : Nat) : Int) < ((ts.length : Nat) : Int)) = true := by simp; omega
        rw [e1]
        simp only [sSkip, sSeq, sIf, sRet, sRetN, sExpr, sAsg, sSetC, sFrz, sBrk, sCont, sRaise, sApp, sSetIx, sFor, sPar, putAll, pNil, pO, pF, startS, startM, oPur, oMut, oIni, own, ownR, use, uses, res, varR, bVar, bC, bOp, bUn, bCB, aNil, aCons, bAnd, bOr, bNot, bIf, bChain, tVal, tBl, wNot, wAnd, wOr, bTup, frz, fLst, oNil, oCons, bSl, oNone, oSome, bCall, fCall, bCallM, fComp, fCB, fRng, bTRng, gNm, gTp, setAll, iSeq, iRange, iEnum, iZip, seqOf, noCelB, wipeS, restore, qAdd, okAdd, vAdd, gSub, qMul, okMul, vMul, gDiv, gMod, gPow, gLt, gGt, gGe, qLe, okLe, vLe, gEq, gNe, qIs, okIs, vIs, qIsNot, gNeg, qLen, okLen, vLen, gAll, gAny, gSum, gMax, qMin, okMin, vMin, qInt, okInt, vInt, qBool, okBool, vBool, qTuple, seq1, qIsi, okIsi, vIsi, qIx, ixR, qSl, okSl, vSl, qIn, okIn, vIn, qNotIn, gLenSet, jList, jSrt, truD, isNonD, List.getElem?_cons_zero, List.getElem?_cons_succ, List.set_cons_zero, List.set_cons_succ, List.length_cons, List.length_nil, List.map_cons, List.map_nil, List.replicate, List.append_nil, List.nil_append, List.cons_append, Nat.reduceAdd, Nat.reduceSub, Nat.reduceLT, Nat.reduceLeDiff, Nat.zero_lt_succ, true_and, and_true, Bool.false_eq_true, if_true, if_false, Nat.zero_add, Nat.add_one_sub_one, Nat.sub_self, reduceIte, Nat.lt_add_left_iff_pos, eq_self, String.reduceBEq, Bool.not_true, Bool.not_false, Bool.or_self, Bool.or_false, Bool.or_true, Bool.true_or, Bool.false_or, Bool.and_true, Bool.true_and, Bool.and_false, Bool.false_and, ite_true, ite_false]
        simpa [rowB, hlen] using q
    | _ => simp only [sSkip, sSeq, sIf, sRet, sRetN, sExpr, sAsg, sSetC, sFrz, sBrk, sCont, sRaise, sApp, sSetIx, sFor, sPar, putAll, pNil, pO, pF, startS, startM, oPur, oMut, oIni, own, ownR, use, uses, res, varR, bVar, bC, bOp, bUn, bCB, aNil, aCons, bAnd, bOr, bNot, bIf, bChain, tVal, tBl, wNot, wAnd, wOr, bTup, frz, fLst, oNil, oCons, bSl, oNone, oSome, bCall, fCall, bCallM, fComp, fCB, fRng, bTRng, gNm, gTp, setAll, iSeq, iRange, iEnum, iZip, seqOf, noCelB, wipeS, restore, qAdd, okAdd, vAdd, gSub, qMul, okMul, vMul, gDiv, gMod, gPow, gLt, gGt, gGe, qLe, okLe, vLe, gEq, gNe, qIs, okIs, vIs, qIsNot, gNeg, qLen, okLen, vLen, gAll, gAny, gSum, gMax, qMin, okMin, vMin, qInt, okInt, vInt, qBool, okBool, vBool, qTuple, seq1, qIsi, okIsi, vIsi, qIx, ixR, qSl, okSl, vSl, qIn, okIn, vIn, qNotIn, gLenSet, jList, jSrt, truD, isNonD, List.getElem?_cons_zero, List.getElem?_cons_succ, List.set_cons_zero, List.set_cons_succ, List.length_cons, List.length_nil, List.map_cons, List.map_nil, List.replicate, List.append_nil, List.nil_append, List.cons_append, Nat.reduceAdd, Nat.reduceSub, Nat.reduceLT, Nat.reduceLeDiff, Nat.zero_lt_succ, true_and, and_true, Bool.false_eq_true, if_true, if_false, Nat.zero_add, Nat.add_one_sub_one, Nat.sub_self, reduceIte, Nat.lt_add_left_iff_pos, eq_self, String.reduceBEq, Bool.not_true, Bool.not_false, Bool.or_self, Bool.or_false, Bool.or_true, Bool.true_or, Bool.false_or, Bool.and_true, Bool.true_and, Bool.and_false, Bool.false_and, ite_true, ite_false]; exact q
  · exact h.elim
theorem ty_is_right_order (X : ED) (ds : List D) (Q : D → Prop) (hl : ds.length = 2) (h : sp_is_right_order X ds Q) : tr_is_right_order X (startS cx_is_right_order.N ds) (oPur Q) := by
  unfold sp_is_right_order at h
  split at h
  · rename_i js v
    obtain ⟨hj, hs, q⟩ := h
    unfold tr_is_right_order cx_is_right_order
    simp only [sp_is_right_row, sSkip, sSeq, sIf, sRet, sRetN, sExpr, sAsg, sSetC, sFrz, sBrk, sCont, sRaise, sApp, sSetIx, sFor, sPar, putAll, pNil, pO, pF, startS, startM, oPur, oMut, oIni, own, ownR, use, uses, res, varR, bVar, bC, bOp, bUn, bCB, aNil, aCons, bAnd, bOr, bNot, bIf, bChain, tVal, tBl, wNot, wAnd, wOr, bTup, frz, fLst, oNil, oCons, bSl, oNone, oSome, bCall, fCall, bCallM, fComp, fCB, fRng, bTRng, gNm, gTp, setAll, iSeq, iRange, iEnum, iZip, seqOf, noCelB, wipeS, restore, qAdd, okAdd, vAdd, gSub, qMul, okMul, vMul, gDiv, gMod, gPow, gLt, gGt, gGe, qLe, okLe, vLe, gEq, gNe, qIs, okIs, vIs, qIsNot, gNeg, qLen, okLen, vLen, gAll, gAny, gSum, gMax, qMin, okMin, vMin, qInt, okInt, vInt, qBool, okBool, vBool, qTuple, seq1, qIsi, okIsi, vIsi, qIx, ixR, qSl, okSl, vSl, qIn, okIn, vIn, qNotIn, gLenSet, jList, jSrt, truD, isNonD, List.getElem?_cons_zero, List.getElem?_cons_succ, List.set_cons_zero, List.set_cons_succ, List.length_cons, List.length_nil, List.map_cons, List.map_nil, List.replicate, List.append_nil, List.nil_append, List.cons_append, Nat.reduceAdd, Nat.reduceSub, Nat.reduceLT, Nat.reduceLeDiff, Nat.zero_lt_succ, true_and, and_true, Bool.false_eq_true, if_true, if_false, Nat.zero_add, Nat.add_one_sub_one, Nat.sub_self, reduceIte, Nat.lt_add_left_iff_pos, eq_self, String.reduceBEq, Bool.not_true, Bool.not_false, Bool.or_self, Bool.or_false, Bool.or_true, Bool.true_or, Bool.false_or, Bool.and_true, Bool.true_and, Bool.and_false, Bool.false_and, ite_true, ite_false]
    refine ⟨hj, hs, ?_⟩
    unfold ordB at q
    cases hr : rowB js.length v with
    | false => simpa [hr] using q
    | true =>
      cases v with
      | tuple ts =>
        simp only [sSkip, sSeq, sIf, sRet, sRetN, sExpr, sAsg, sSetC, sFrz, sBrk, sCont, sRaise, sApp, sSetIx, sFor, sPar, putAll, pNil, pO, pF, startS, startM, oPur, oMut, oIni, own, ownR, use, uses, res, varR, bVar, bC, bOp, bUn, bCB, aNil, aCons, bAnd, bOr, bNot, bIf, bChain, tVal, tBl, wNot, wAnd, wOr, bTup, frz, fLst, oNil, oCons, bSl, oNone, oSome, bCall, fCall, bCallM, fComp, fCB, fRng, bTRng, gNm, gTp, setAll, iSeq, iRange, iEnum, iZip, seqOf, noCelB, wipeS, restore, qAdd, okAdd, vAdd, gSub, qMul, okMul, vMul, gDiv, gMod, gPow, gLt, gGt, gGe, qLe, okLe, vLe, gEq, gNe, qIs, okIs, vIs, qIsNot, gNeg, qLen, okLen, vLen, gAll, gAny, gSum, gMax, qMin, okMin, vMin, qInt, okInt, vInt, qBool, okBool, vBool, qTuple, seq1, qIsi, okIsi, vIsi, qIx, ixR, qSl, okSl, vSl, qIn, okIn, vIn, qNotIn, gLenSet, jList, jSrt, truD, isNonD, List.getElem?_cons_zero, List.getElem?_cons_succ, List.set_cons_zero, List.set_cons_succ, List.length_cons, List.length_nil, List.map_cons, List.map_nil, List.replicate, List.append_nil, List.nil_append, List.cons_append, Nat.reduceAdd, Nat.reduceSub, Nat.reduceLT, Nat.reduceLeDiff, Nat.zero_lt_succ, true_and, and_true, Bool.false_eq_true, if_true, if_false, Nat.zero_add, Nat.add_one_sub_one, Nat.sub_self, reduceIte, Nat.lt_add_left_iff_pos, eq_self, String.reduceBEq, Bool.not_true, Bool.not_false, Bool.or_self, Bool.or_false, Bool.or_true, Bool.true_or, Bool.false_or, Bool.and_true, Bool.true_and, Bool.and_false, Bool.false_and, ite_true, ite_false]
        refine ⟨shp_int, shp_int, ?_⟩
        rw [eqv_len]
        simpa [hr, lenD] using q
      | _ => simp [rowB] at hr
  · exact h.elim
theorem ty_need_jobs (X : ED) (ds : List D) (Q : D → Prop) (hl : ds.length = 1) (h : sp_need_jobs X ds Q) : tr_need_jobs X (startS cx_need_jobs.N ds) (oPur Q) := by
  unfold sp_need_jobs at h
  split at h
  · rename_i v
    obtain ⟨hs, q⟩ := h
    unfold tr_need_jobs cx_need_jobs
    simp only [sp_are_jobs, sSkip, sSeq, sIf, sRet, sRetN, sExpr, sAsg, sSetC, sFrz, sBrk, sCont, sRaise, sApp, sSetIx, sFor, sPar, putAll, pNil, pO, pF, startS, startM, oPur, oMut, oIni, own, ownR, use, uses, res, varR, bVar, bC, bOp, bUn, bCB, aNil, aCons, bAnd, bOr, bNot, bIf, bChain, tVal, tBl, wNot, wAnd, wOr, bTup, frz, fLst, oNil, oCons, bSl, oNone, oSome, bCall, fCall, bCallM, fComp, fCB, fRng, bTRng, gNm, gTp, setAll, iSeq, iRange, iEnum, iZip, seqOf, noCelB, wipeS, restore, qAdd, okAdd, vAdd, gSub, qMul, okMul, vMul, gDiv, gMod, gPow, gLt, gGt, gGe, qLe, okLe, vLe, gEq, gNe, qIs, okIs, vIs, qIsNot, gNeg, qLen, okLen, vLen, gAll, gAny, gSum, gMax, qMin, okMin, vMin, qInt, okInt, vInt, qBool, okBool, vBool, qTuple, seq1, qIsi, okIsi, vIsi, qIx, ixR, qSl, okSl, vSl, qIn, okIn, vIn, qNotIn, gLenSet, jList, jSrt, truD, isNonD, List.getElem?_cons_zero, List.getElem?_cons_succ, List.set_cons_zero, List.set_cons_succ, List.length_cons, List.length_nil, List.map_cons, List.map_nil, List.replicate, List.append_nil, List.nil_append, List.cons_append, Nat.reduceAdd, Nat.reduceSub, Nat.reduceLT, Nat.reduceLeDiff, Nat.zero_lt_succ, true_and, and_true, Bool.false_eq_true, if_true, if_false, Nat.zero_add, Nat.add_one_sub_one, Nat.sub_self, reduceIte, Nat.lt_add_left_iff_pos, eq_self, String.reduceBEq, Bool.not_true, Bool.not_false, Bool.or_self, Bool.or_false, Bool.or_true, Bool.true_or, Bool.false_or, Bool.and_true, Bool.true_and, Bool.and_false, Bool.false_and, ite_true, ite_false]
    refine ⟨hs, ?_⟩
    cases hr : areJobsB v <;> simpa [hr] using q
  · exact h.elim
theorem ty_need_order (X : ED) (ds : List D) (Q : D → Prop) (hl : ds.length = 2) (h : sp_need_order X ds Q) : tr_need_order X (startS cx_need_order.N ds) (oPur Q) := by
  unfold sp_need_order at h
  split at h
  · rename_i js v
    obtain ⟨hj, hs, q⟩ := h
    unfold tr_need_order cx_need_order
    simp only [sp_is_right_order, sSkip, sSeq, sIf, sRet, sRetN, sExpr, sAsg, sSetC, sFrz, sBrk, sCont, sRaise, sApp, sSetIx, sFor, sPar, putAll, pNil, pO, pF, startS, startM, oPur, oMut, oIni, own, ownR, use, uses, res, varR, bVar, bC, bOp, bUn, bCB, aNil, aCons, bAnd, bOr, bNot, bIf, bChain, tVal, tBl, wNot, wAnd, wOr, bTup, frz, fLst, oNil, oCons, bSl, oNone, oSome, bCall, fCall, bCallM, fComp, fCB, fRng, bTRng, gNm, gTp, setAll, iSeq, iRange, iEnum, iZip, seqOf, noCelB, wipeS, restore, qAdd, okAdd, vAdd, gSub, qMul, okMul, vMul, gDiv, gMod, gPow, gLt, gGt, gGe, qLe, okLe, vLe, gEq, gNe, qIs, okIs, vIs, qIsNot, gNeg, qLen, okLen, vLen, gAll, gAny, gSum, gMax, qMin, okMin, vMin, qInt, okInt, vInt, qBool, okBool, vBool, qTuple, seq1, qIsi, okIsi, vIsi, qIx, ixR, qSl, okSl, vSl, qIn, okIn, vIn, qNotIn, gLenSet, jList, jSrt, truD, isNonD, List.getElem?_cons_zero, List.getElem?_cons_succ, List.set_cons_zero, List.set_cons_succ, List.length_cons, List.length_nil, List.map_cons, List.map_nil, List.replicate, List.append_nil, List.nil_append, List.cons_append, Nat.reduceAdd, Nat.reduceSub, Nat.reduceLT, Nat.reduceLeDiff, Nat.zero_lt_succ, true_and, and_true, Bool.false_eq_true, if_true, if_false, Nat.zero_add, Nat.add_one_sub_one, Nat.sub_self, reduceIte, Nat.lt_add_left_iff_pos, eq_self, String.reduceBEq, Bool.not_true, Bool.not_false, Bool.or_self, Bool.or_false, Bool.or_true, Bool.true_or, Bool.false_or, Bool.and_true, Bool.true_and, Bool.and_false, Bool.false_and, ite_true, ite_false]
    refine ⟨hj, hs, ?_⟩
    cases hr : ordB js.length v <;> simpa [hr] using q
  · exact h.elim
theorem ty_is_jobs (X : ED) (ds : List D) (Q : D → Prop) (hl : ds.length = 1) (h : sp_is_jobs X ds Q) : tr_is_jobs X (startS cx_is_jobs.N ds) (oPur Q) := by
  unfold sp_is_jobs sp_are_jobs at h
  split at h
  · unfold tr_is_jobs cx_is_jobs
    simp only [sp_are_jobs, sSkip, sSeq, sIf, sRet, sRetN, sExpr, sAsg, sSetC, sFrz, sBrk, sCont, sRaise, sApp, sSetIx, sFor, sPar, putAll, pNil, pO, pF, startS, startM, oPur, oMut, oIni, own, ownR, use, uses, res, varR, bVar, bC, bOp, bUn, bCB, aNil, aCons, bAnd, bOr, bNot, bIf, bChain, tVal, tBl, wNot, wAnd, wOr, bTup, frz, fLst, oNil, oCons, bSl, oNone, oSome, bCall, fCall, bCallM, fComp, fCB, fRng, bTRng, gNm, gTp, setAll, iSeq, iRange, iEnum, iZip, seqOf, noCelB, wipeS, restore, qAdd, okAdd, vAdd, gSub, qMul, okMul, vMul, gDiv, gMod, gPow, gLt, gGt, gGe, qLe, okLe, vLe, gEq, gNe, qIs, okIs, vIs, qIsNot, gNeg, qLen, okLen, vLen, gAll, gAny, gSum, gMax, qMin, okMin, vMin, qInt, okInt, vInt, qBool, okBool, vBool, qTuple, seq1, qIsi, okIsi, vIsi, qIx, ixR, qSl, okSl, vSl, qIn, okIn, vIn, qNotIn, gLenSet, jList, jSrt, truD, isNonD, List.getElem?_cons_zero, List.getElem?_cons_succ, List.set_cons_zero, List.set_cons_succ, List.length_cons, List.length_nil, List.map_cons, List.map_nil, List.replicate, List.append_nil, List.nil_append, List.cons_append, Nat.reduceAdd, Nat.reduceSub, Nat.reduceLT, Nat.reduceLeDiff, Nat.zero_lt_succ, true_and, and_true, Bool.false_eq_true, if_true, if_false, Nat.zero_add, Nat.add_one_sub_one, Nat.sub_self, reduceIte, Nat.lt_add_left_iff_pos, eq_self, String.reduceBEq, Bool.not_true, Bool.not_false, Bool.or_self, Bool.or_false, Bool.or_true, Bool.true_or, Bool.false_or, Bool.and_true, Bool.true_and, Bool.and_false, Bool.false_and, ite_true, ite_false]
    exact h
  · exact h.elim
theorem jobs_tuple {w : D} (h : areJobsB w = true) : ∃ js, w = .tuple js ∧ 1 ≤ js.length ∧ js.length ≤ 30 ∧ js.all isJobB = true := by
  cases w with
  | tuple js =>
    simp only [areJobsB, Bool.and_eq_true, decide_eq_true_eq] at h
    exact ⟨js, rfl, h.1.1, h.1.2, h.2⟩
  | _ => simp [areJobsB] at h
theorem ty_is_order (X : ED) (ds : List D) (Q : D → Prop) (hl : ds.length = 2) (h : sp_is_order X ds Q) : tr_is_order X (startS cx_is_order.N ds) (oPur Q) := by
  unfold sp_is_order at h
  split at h
  · rename_i w v
    obtain ⟨hw, hv, q⟩ := h
    unfold tr_is_order cx_is_order
    simp only [sp_need_jobs, sp_is_right_order, sSkip, sSeq, sIf, sRet, sRetN, sExpr, sAsg, sSetC, sFrz, sBrk, sCont, sRaise, sApp, sSetIx, sFor, sPar, putAll, pNil, pO, pF, startS, startM, oPur, oMut, oIni, own, ownR, use, uses, res, varR, bVar, bC, bOp, bUn, bCB, aNil, aCons, bAnd, bOr, bNot, bIf, bChain, tVal, tBl, wNot, wAnd, wOr, bTup, frz, fLst, oNil, oCons, bSl, oNone, oSome, bCall, fCall, bCallM, fComp, fCB, fRng, bTRng, gNm, gTp, setAll, iSeq, iRange, iEnum, iZip, seqOf, noCelB, wipeS, restore, qAdd, okAdd, vAdd, gSub, qMul, okMul, vMul, gDiv, gMod, gPow, gLt, gGt, gGe, qLe, okLe, vLe, gEq, gNe, qIs, okIs, vIs, qIsNot, gNeg, qLen, okLen, vLen, gAll, gAny, gSum, gMax, qMin, okMin, vMin, qInt, okInt, vInt, qBool, okBool, vBool, qTuple, seq1, qIsi, okIsi, vIsi, qIx, ixR, qSl, okSl, vSl, qIn, okIn, vIn, qNotIn, gLenSet, jList, jSrt, truD, isNonD, List.getElem?_cons_zero, List.getElem?_cons_succ, List.set_cons_zero, List.set_cons_succ, List.length_cons, List.length_nil, List.map_cons, List.map_nil, List.replicate, List.append_nil, List.nil_append, List.cons_append, Nat.reduceAdd, Nat.reduceSub, Nat.reduceLT, Nat.reduceLeDiff, Nat.zero_lt_succ, true_and, and_true, Bool.false_eq_true, if_true, if_false, Nat.zero_add, Nat.add_one_sub_one, Nat.sub_self, reduceIte, Nat.lt_add_left_iff_pos, eq_self, String.reduceBEq, Bool.not_true, Bool.not_false, Bool.or_self, Bool.or_false, Bool.or_true, Bool.true_or, Bool.false_or, Bool.and_true, Bool.true_and, Bool.and_false, Bool.false_and, ite_true, ite_false]
    refine ⟨hw, ?_⟩
    cases hr : areJobsB w with
    | false => simpa [hr] using q
    | true =>
      obtain ⟨js, rfl, h1, h2, h3⟩ := jobs_tuple hr
      simp only [sSkip, sSeq, sIf, sRet, sRetN, sExpr, sAsg, sSetC, sFrz, sBrk, sCont, sRaise, sApp, sSetIx, sFor, sPar, putAll, pNil, pO, pF, startS, startM, oPur, oMut, oIni, own, ownR, use, uses, res, varR, bVar, bC, bOp, bUn, bCB, aNil, aCons, bAnd, bOr, bNot, bIf, bChain, tVal, tBl, wNot, wAnd, wOr, bTup, frz, fLst, oNil, oCons, bSl, oNone, oSome, bCall, fCall, bCallM, fComp, fCB, fRng, bTRng, gNm, gTp, setAll, iSeq, iRange, iEnum, iZip, seqOf, noCelB, wipeS, restore, qAdd, okAdd, vAdd, gSub, qMul, okMul, vMul, gDiv, gMod, gPow, gLt, gGt, gGe, qLe, okLe, vLe, gEq, gNe, qIs, okIs, vIs, qIsNot, gNeg, qLen, okLen, vLen, gAll, gAny, gSum, gMax, qMin, okMin, vMin, qInt, okInt, vInt, qBool, okBool, vBool, qTuple, seq1, qIsi, okIsi, vIsi, qIx, ixR, qSl, okSl, vSl, qIn, okIn, vIn, qNotIn, gLenSet, jList, jSrt, truD, isNonD, List.getElem?_cons_zero, List.getElem?_cons_succ, List.set_cons_zero, List.set_cons_succ, List.length_cons, List.length_nil, List.map_cons, List.map_nil, List.replicate, List.append_nil, List.nil_append, List.cons_append, Nat.reduceAdd, Nat.reduceSub, Nat.reduceLT, Nat.reduceLeDiff, Nat.zero_lt_succ, true_and, and_true, Bool.false_eq_true, if_true, if_false, Nat.zero_add, Nat.add_one_sub_one, Nat.sub_self, reduceIte, Nat.lt_add_left_iff_pos, eq_self, String.reduceBEq, Bool.not_true, Bool.not_false, Bool.or_self, Bool.or_false, Bool.or_true, Bool.true_or, Bool.false_or, Bool.and_true, Bool.true_and, Bool.and_false, Bool.false_and, ite_true, ite_false]
      refine ⟨h2, hv, ?_⟩
      simpa [hr, lenD] using q
  · exact h.elim
/-! gaps, times, starts -/
abbrev JL := List (Int × Int)
def jobD (p : Int × Int) : D := .tuple [.int p.1, .int p.2]
def jobsD (js : JL) : D := .tuple (js.map jobD)
def natD (n : Nat) : D := .int (n : Int)
def ordD (o : List Nat) : D := .tuple (o.map natD)
def fstJ (js : JL) (n : Nat) : Int := (js.getD n (0, 0)).1
def sndJ (js : JL) (n : Nat) : Int := (js.getD n (0, 0)).2
def gapsL (js : JL) (o : List Nat) : List Int := (o.zip (o.drop 1)).map fun p => max 0 (sndJ js p.1 - fstJ js p.2)
def lastN (o : List Nat) : Nat := o.getLastD 0
def timeL (js : JL) (o : List Nat) : Int := if o = [] then 0 else (o.map (fstJ js)).sum + (gapsL js o).sum + sndJ js (lastN o)
def startsF (js : JL) : Int → List (Nat × Int) → List Int
  | _, [] => []
  | now, (n, g) :: r => now :: startsF js (now + fstJ js n + g) r
def startsL (js : JL) (o : List Nat) : List Int := startsF js 0 (o.zip (gapsL js o ++ [0]))
def inJ (js : JL) (o : List Nat) : Prop := (∀ n ∈ o, n < js.length) ∧ js.length ≤ 30 ∧ o.length ≤ 30
def sp_gaps_of : ED → List D → (D → Prop) → Prop := fun X ds P => ∃ js o, ds = [jobsD js, ordD o] ∧ inJ js o ∧ P (.list ((gapsL js o).map .int))
def sp_time_of : ED → List D → (D → Prop) → Prop := fun X ds P => ∃ js o, ds = [jobsD js, ordD o] ∧ inJ js o ∧ P (.int (timeL js o))
def sp_starts_of : ED → List D → (D → Prop) → Prop := fun X ds P => ∃ js o, ds = [jobsD js, ordD o] ∧ inJ js o ∧ P (.list ((startsL js o).map .int))
def cx_gaps_of : Ctx := { N := ["jobs", "order", "one", "other"], Γ := [], C := [], R := [], ms := [] }
def tr_gaps_of : SW := (sRet (own (frz (fComp (iZip (oCons (own (bVar 1)) (oCons (own (bSl (bVar 1) (oSome (bC (.int 1))) oNone)) oNil))) (gTp [2, 3]) (fun _ ρ P => P true ρ) (own (bCB gMax (aCons (bC (.int 0)) (aCons (bOp gSub (bOp qIx (bOp qIx (bVar 0) (bVar 2)) (bC (.int 1))) (bOp qIx (bOp qIx (bVar 0) (bVar 3)) (bC (.int 0)))) aNil)))) [2, 3]))))

def cx_time_of : Ctx := { N := ["jobs", "order", "number"], Γ := [("gaps_of", .pur 2 sp_gaps_of)], C := [], R := [], ms := [] }
def tr_time_of : SW := (sSeq (sIf (tBl (bOp gEq (bVar 1) (bTup oNil)))
  (sRet (own (bC (.int 0))))
  sSkip)
  (sRet (own (bOp qAdd (bOp qAdd (bCB gSum (aCons (frz (fComp (iSeq (own (bVar 1))) (gNm 2) (fun _ ρ P => P true ρ) (own (bOp qIx (bOp qIx (bVar 0) (bVar 2)) (bC (.int 0)))) [2])) aNil)) (bCB gSum (aCons (bCall sp_gaps_of 2 (oCons (own (bVar 0)) (oCons (own (bVar 1)) oNil))) aNil))) (bOp qIx (bOp qIx (bVar 0) (bOp qIx (bVar 1) (bUn gNeg (bC (.int 1))))) (bC (.int 1)))))))

def cx_starts_of : Ctx := { N := ["jobs", "order", "found", "gaps", "now", "number", "gap"], Γ := [("gaps_of", .pur 2 sp_gaps_of)], C := [], R := [], ms := [] }
def tr_starts_of : SW := (sSeq (sPar [2, 3] (pO (own (frz (fLst oNil))) (pO (own (bOp qAdd (bCall sp_gaps_of 2 (oCons (own (bVar 0)) (oCons (own (bVar 1)) oNil))) (frz (fLst (oCons (own (bC (.int 0))) oNil))))) pNil)))
  (sSeq (sAsg (own (bC (.int 0))) (gNm 4))
  (sSeq (sFor (iZip (oCons (own (bVar 1)) (oCons (own (bVar 3)) oNil))) (gTp [5, 6])
  (sSeq (sAsg (own (bOp qAdd (bVar 2) (frz (fLst (oCons (own (bVar 4)) oNil))))) (gNm 2))
  (sAsg (own (bOp qAdd (bOp qAdd (bVar 4) (bOp qIx (bOp qIx (bVar 0) (bVar 5)) (bC (.int 0)))) (bVar 6))) (gNm 4))))
  (sRet (own (bVar 2))))))


theorem atI_nat {α : Type} {l : List α} {n : Nat} (h : n < l.length) : atI l (n : Int) = l[n]? := by
  unfold atI ixN
  rw [if_pos (by omega), if_pos (by omega)]
  simp
theorem atI_map {α β : Type} (f : α → β) {l : List α} {n : Nat} {d : α} (h : n < l.length) : atI (l.map f) (n : Int) = some (f (l.getD n d)) := by
  rw [atI_nat (by simpa using h), List.getElem?_map, List.getD_eq_getElem?_getD, List.getElem?_eq_getElem h]
  rfl
theorem at_jobs {js : JL} {n : Nat} (h : n < js.length) : atI (js.map jobD) (n : Int) = some (.tuple [.int (fstJ js n), .int (sndJ js n)]) := atI_map jobD h
theorem at2_0 {α : Type} {x y : α} : atI [x, y] 0 = some x := rfl
theorem at2_1 {α : Type} {x y : α} : atI [x, y] 1 = some y := rfl
theorem cut_tail {α : Type} {l : List α} : cutL l (some 1) none = l.drop 1 := by
  unfold cutL
  have h : HT.sIx l.length 0 (some 1) = min 1 l.length := HT.sIx_nat l.length 0 1
  rw [h, HT.sIx_none]
  cases l with
  | nil => rfl
  | cons a l =>
    have : min 1 (a :: l).length = 1 := by simp
    rw [this]
    simp
theorem zipD_eq : ∀ (xs ys : List D), zipD xs ys = (xs.zip ys).map fun p => .tuple [p.1, p.2]
  | [], ys => by simp [zipD]
  | x :: xs, [] => by simp [zipD]
  | x :: xs, y :: ys => by simp [zipD, zipD_eq xs ys]
theorem zip_maps {α β : Type} (f : α → D) (g : β → D) (xs : List α) (ys : List β) : zipD (xs.map f) (ys.map g) = (xs.zip ys).map fun p => .tuple [f p.1, g p.2] := by
  rw [zipD_eq, List.zip_map, List.map_map]
  rfl
theorem comp_mapL {α : Type} {g : GW} {te : DW} {vs : List Nat} {P : List D → List SV → Prop} {ρ : List SV} (e f : α → D) (l : List α)
    (step : ∀ a ∈ l, ∀ (C : D → List SV → Prop), C (f a) ρ → g (e a) ρ fun ρ1 => te (fun _ => False) ρ1 fun z ρ3 => C z (wipeS ρ3 vs)) (h : P (l.map f) ρ) : compL g (fun _ ρ P => P true ρ) te vs (l.map e) [] ρ P := by
  have main : ∀ (l : List α) (acc : List D), (∀ a ∈ l, ∀ (C : D → List SV → Prop), C (f a) ρ → g (e a) ρ fun ρ1 => te (fun _ => False) ρ1 fun z ρ3 => C z (wipeS ρ3 vs)) → P (acc ++ l.map f) ρ → compL g (fun _ ρ P => P true ρ) te vs (l.map e) acc ρ P := by
    intro l
    induction l with
    | nil => intro acc _ h; simpa [compL] using h
    | cons a l ih =>
      intro acc st h
      exact st a List.mem_cons_self (fun z ρ' => compL g (fun _ ρ P => P true ρ) te vs (l.map e) (acc ++ [z]) ρ' P) (ih _ (fun b hb => st b (List.mem_cons_of_mem _ hb)) (by simpa using h))
  exact main l [] step (by simpa using h)
theorem comp_filtL {α : Type} {g : GW} {tt : TW} {te : DW} {vs : List Nat} {P : List D → List SV → Prop} {ρ : List SV} (e f : α → D) (t : α → Bool) (l : List α)
    (step : ∀ a ∈ l, ∀ (C : D → List SV → Prop) (C' : List SV → Prop), (t a = true → C (f a) ρ) → (t a = false → C' ρ) → g (e a) ρ fun ρ1 => tt (fun _ => False) ρ1 fun b ρ2 => if b = true then te (fun _ => False) ρ2 fun z ρ3 => C z (wipeS ρ3 vs) else C' (wipeS ρ2 vs))
    (h : P ((l.filter t).map f) ρ) : compL g tt te vs (l.map e) [] ρ P := by
  have main : ∀ (l : List α) (acc : List D), (∀ a ∈ l, ∀ (C : D → List SV → Prop) (C' : List SV → Prop), (t a = true → C (f a) ρ) → (t a = false → C' ρ) → g (e a) ρ fun ρ1 => tt (fun _ => False) ρ1 fun b ρ2 => if b = true then te (fun _ => False) ρ2 fun z ρ3 => C z (wipeS ρ3 vs) else C' (wipeS ρ2 vs)) →
      P (acc ++ (l.filter t).map f) ρ → compL g tt te vs (l.map e) acc ρ P := by
    intro l
    induction l with
    | nil => intro acc _ h; simpa [compL] using h
    | cons a l ih =>
      intro acc st h
      refine st a List.mem_cons_self (fun z ρ' => compL g tt te vs (l.map e) (acc ++ [z]) ρ' P) (fun ρ' => compL g tt te vs (l.map e) acc ρ' P) (fun ht => ?_) (fun ht => ?_)
      · exact ih _ (fun b hb => st b (List.mem_cons_of_mem _ hb)) (by simpa [List.filter_cons, ht] using h)
      · exact ih _ (fun b hb => st b (List.mem_cons_of_mem _ hb)) (by simpa [List.filter_cons, ht] using h)
  exact main l [] step (by simpa using h)
theorem zip_in {js : JL} {o : List Nat} (hi : ∀ n ∈ o, n < js.length) {p : Nat × Nat} (hp : p ∈ o.zip (o.drop 1)) : p.1 < js.length ∧ p.2 < js.length := by
  have h1 := List.of_mem_zip (a := p.1) (b := p.2) hp
  exact ⟨hi _ h1.1, hi _ (List.mem_of_mem_drop h1.2)⟩
theorem gapsL_len (js : JL) (o : List Nat) : (gapsL js o).length = o.length - 1 := by
  unfold gapsL
  rw [List.length_map, List.length_zip, List.length_drop]
  omega
theorem ty_gaps_of (X : ED) (ds : List D) (Q : D → Prop) (hl : ds.length = 2) (h : sp_gaps_of X ds Q) : tr_gaps_of X (startS cx_gaps_of.N ds) (oPur Q) := by
  obtain ⟨js, o, rfl, ⟨hi, hj, ho⟩, q⟩ := h
  unfold tr_gaps_of cx_gaps_of jobsD ordD
  simp only [cut_tail, sSkip, sSeq, sIf, sRet, sRetN, sExpr, sAsg, sSetC, sFrz, sBrk, sCont, sRaise, sApp, sSetIx, sFor, sPar, putAll, pNil, pO, pF, startS, startM, oPur, oMut, oIni, own, ownR, use, uses, res, varR, bVar, bC, bOp, bUn, bCB, aNil, aCons, bAnd, bOr, bNot, bIf, bChain, tVal, tBl, wNot, wAnd, wOr, bTup, frz, fLst, oNil, oCons, bSl, oNone, oSome, bCall, fCall, bCallM, fComp, fCB, fRng, bTRng, gNm, gTp, setAll, iSeq, iRange, iEnum, iZip, seqOf, noCelB, wipeS, restore, qAdd, okAdd, vAdd, gSub, qMul, okMul, vMul, gDiv, gMod, gPow, gLt, gGt, gGe, qLe, okLe, vLe, gEq, gNe, qIs, okIs, vIs, qIsNot, gNeg, qLen, okLen, vLen, gAll, gAny, gSum, gMax, qMin, okMin, vMin, qInt, okInt, vInt, qBool, okBool, vBool, qTuple, seq1, qIsi, okIsi, vIsi, qIx, ixR, qSl, okSl, vSl, qIn, okIn, vIn, qNotIn, gLenSet, jList, jSrt, truD, isNonD, List.getElem?_cons_zero, List.getElem?_cons_succ, List.set_cons_zero, List.set_cons_succ, List.length_cons, List.length_nil, List.map_cons, List.map_nil, List.replicate, List.append_nil, List.nil_append, List.cons_append, Nat.reduceAdd, Nat.reduceSub, Nat.reduceLT, Nat.reduceLeDiff, Nat.zero_lt_succ, true_and, and_true, Bool.false_eq_true, if_true, if_false, Nat.zero_add, Nat.add_one_sub_one, Nat.sub_self, reduceIte, Nat.lt_add_left_iff_pos, eq_self, String.reduceBEq, Bool.not_true, Bool.not_false, Bool.or_self, Bool.or_false, Bool.or_true, Bool.true_or, Bool.false_or, Bool.and_true, Bool.true_and, Bool.and_false, Bool.false_and, ite_true, ite_false]
  rw [← List.map_drop, zip_maps]
  refine ⟨by rw [List.length_map, List.length_zip]; omega, comp_mapL _ (fun p => .int (max 0 (sndJ js p.1 - fstJ js p.2))) _ (fun p hp C hC => ?_) ?_⟩
  · obtain ⟨h1, h2⟩ := zip_in hi hp
    simp only [natD, at_jobs h1, at_jobs h2, at2_0, at2_1, sSkip, sSeq, sIf, sRet, sRetN, sExpr, sAsg, sSetC, sFrz, sBrk, sCont, sRaise, sApp, sSetIx, sFor, sPar, putAll, pNil, pO, pF, startS, startM, oPur, oMut, oIni, own, ownR, use, uses, res, varR, bVar, bC, bOp, bUn, bCB, aNil, aCons, bAnd, bOr, bNot, bIf, bChain, tVal, tBl, wNot, wAnd, wOr, bTup, frz, fLst, oNil, oCons, bSl, oNone, oSome, bCall, fCall, bCallM, fComp, fCB, fRng, bTRng, gNm, gTp, setAll, iSeq, iRange, iEnum, iZip, seqOf, noCelB, wipeS, restore, qAdd, okAdd, vAdd, gSub, qMul, okMul, vMul, gDiv, gMod, gPow, gLt, gGt, gGe, qLe, okLe, vLe, gEq, gNe, qIs, okIs, vIs, qIsNot, gNeg, qLen, okLen, vLen, gAll, gAny, gSum, gMax, qMin, okMin, vMin, qInt, okInt, vInt, qBool, okBool, vBool, qTuple, seq1, qIsi, okIsi, vIsi, qIx, ixR, qSl, okSl, vSl, qIn, okIn, vIn, qNotIn, gLenSet, jList, jSrt, truD, isNonD, List.getElem?_cons_zero, List.getElem?_cons_succ, List.set_cons_zero, List.set_cons_succ, List.length_cons, List.length_nil, List.map_cons, List.map_nil, List.replicate, List.append_nil, List.nil_append, List.cons_append, Nat.reduceAdd, Nat.reduceSub, Nat.reduceLT, Nat.reduceLeDiff, Nat.zero_lt_succ, true_and, and_true, Bool.false_eq_true, if_true, if_false, Nat.zero_add, Nat.add_one_sub_one, Nat.sub_self, reduceIte, Nat.lt_add_left_iff_pos, eq_self, String.reduceBEq, Bool.not_true, Bool.not_false, Bool.or_self, Bool.or_false, Bool.or_true, Bool.true_or, Bool.false_or, Bool.and_true, Bool.true_and, Bool.and_false, Bool.false_and, ite_true, ite_false]
    exact hC
  · have e : (gapsL js o).map PyData.int = (o.zip (o.drop 1)).map fun p => .int (max 0 (sndJ js p.1 - fstJ js p.2)) := by unfold gapsL; rw [List.map_map]; rfl
    rw [← e]
    exact q
theorem shp_ordD {o : List Nat} : shp (.tuple (o.map natD)) = true := by
  have : PyData.tuple (o.map natD) = .tuple ((o.map fun (n : Nat) => (n : Int)).map .int) := by rw [List.map_map]; rfl
  rw [this]; exact shp_intsT
theorem eqv_ord_nil {o : List Nat} : PyData.eqv (.tuple (o.map natD)) (.tuple []) = decide (o = []) := by
  cases o with
  | nil => simp [PyData.eqv, PyData.eqvAll]
  | cons a o => simp [PyData.eqv, PyData.eqvAll]
theorem at_last {o : List Nat} (h : o ≠ []) : atI (o.map natD) (-1) = some (natD (lastN o)) := by
  unfold atI ixN
  have hl : 0 < o.length := List.length_pos_iff.mpr h
  rw [if_neg (by omega), if_pos (by simp; omega)]
  show (o.map natD)[_]? = _
  rw [List.getElem?_map]
  have e : ((-1 : Int) + ((o.map natD).length : Int)).toNat = o.length - 1 := by simp; omega
  rw [e]
  unfold lastN
  rw [List.getLastD_eq_getLast?, List.getLast?_eq_getElem?, List.getElem?_eq_getElem (by omega)]
  rfl
theorem last_in {js : JL} {o : List Nat} (h : o ≠ []) (hi : ∀ n ∈ o, n < js.length) : lastN o < js.length := by
  unfold lastN
  rw [List.getLastD_eq_getLast?, List.getLast?_eq_some_getLast h]
  exact hi _ (List.getLast_mem h)
theorem ty_time_of (X : ED) (ds : List D) (Q : D → Prop) (hl : ds.length = 2) (h : sp_time_of X ds Q) : tr_time_of X (startS cx_time_of.N ds) (oPur Q) := by
  obtain ⟨js, o, rfl, ⟨hi, hj, ho⟩, q⟩ := h
  unfold tr_time_of cx_time_of jobsD ordD
  simp only [sSkip, sSeq, sIf, sRet, sRetN, sExpr, sAsg, sSetC, sFrz, sBrk, sCont, sRaise, sApp, sSetIx, sFor, sPar, putAll, pNil, pO, pF, startS, startM, oPur, oMut, oIni, own, ownR, use, uses, res, varR, bVar, bC, bOp, bUn, bCB, aNil, aCons, bAnd, bOr, bNot, bIf, bChain, tVal, tBl, wNot, wAnd, wOr, bTup, frz, fLst, oNil, oCons, bSl, oNone, oSome, bCall, fCall, bCallM, fComp, fCB, fRng, bTRng, gNm, gTp, setAll, iSeq, iRange, iEnum, iZip, seqOf, noCelB, wipeS, restore, qAdd, okAdd, vAdd, gSub, qMul, okMul, vMul, gDiv, gMod, gPow, gLt, gGt, gGe, qLe, okLe, vLe, gEq, gNe, qIs, okIs, vIs, qIsNot, gNeg, qLen, okLen, vLen, gAll, gAny, gSum, gMax, qMin, okMin, vMin, qInt, okInt, vInt, qBool, okBool, vBool, qTuple, seq1, qIsi, okIsi, vIsi, qIx, ixR, qSl, okSl, vSl, qIn, okIn, vIn, qNotIn, gLenSet, jList, jSrt, truD, isNonD, List.getElem?_cons_zero, List.getElem?_cons_succ, List.set_cons_zero, List.set_cons_succ, List.length_cons, List.length_nil, List.map_cons, List.map_nil, List.replicate, List.append_nil, List.nil_append, List.cons_append, Nat.reduceAdd, Nat.reduceSub, Nat.reduceLT, Nat.reduceLeDiff, Nat.zero_lt_succ, true_and, and_true, Bool.false_eq_true, if_true, if_false, Nat.zero_add, Nat.add_one_sub_one, Nat.sub_self, reduceIte, Nat.lt_add_left_iff_pos, eq_self, String.reduceBEq, Bool.not_true, Bool.not_false, Bool.or_self, Bool.or_false, Bool.or_true, Bool.true_or, Bool.false_or, Bool.and_true, Bool.true_and, Bool.and_false, Bool.false_and, ite_true, ite_false]
  refine ⟨shp_ordD, ((okD_tuple (n := 0)).mpr (by simp)).shp, ?_⟩
  rw [eqv_ord_nil]
  unfold timeL at q
  by_cases e : o = []
  · rw [if_pos e] at q
    rw [decide_eq_true e]
    simp only [sSkip, sSeq, sIf, sRet, sRetN, sExpr, sAsg, sSetC, sFrz, sBrk, sCont, sRaise, sApp, sSetIx, sFor, sPar, putAll, pNil, pO, pF, startS, startM, oPur, oMut, oIni, own, ownR, use, uses, res, varR, bVar, bC, bOp, bUn, bCB, aNil, aCons, bAnd, bOr, bNot, bIf, bChain, tVal, tBl, wNot, wAnd, wOr, bTup, frz, fLst, oNil, oCons, bSl, oNone, oSome, bCall, fCall, bCallM, fComp, fCB, fRng, bTRng, gNm, gTp, setAll, iSeq, iRange, iEnum, iZip, seqOf, noCelB, wipeS, restore, qAdd, okAdd, vAdd, gSub, qMul, okMul, vMul, gDiv, gMod, gPow, gLt, gGt, gGe, qLe, okLe, vLe, gEq, gNe, qIs, okIs, vIs, qIsNot, gNeg, qLen, okLen, vLen, gAll, gAny, gSum, gMax, qMin, okMin, vMin, qInt, okInt, vInt, qBool, okBool, vBool, qTuple, seq1, qIsi, okIsi, vIsi, qIx, ixR, qSl, okSl, vSl, qIn, okIn, vIn, qNotIn, gLenSet, jList, jSrt, truD, isNonD, List.getElem?_cons_zero, List.getElem?_cons_succ, List.set_cons_zero, List.set_cons_succ, List.length_cons, List.length_nil, List.map_cons, List.map_nil, List.replicate, List.append_nil, List.nil_append, List.cons_append, Nat.reduceAdd, Nat.reduceSub, Nat.reduceLT, Nat.reduceLeDiff, Nat.zero_lt_succ, true_and, and_true, Bool.false_eq_true, if_true, if_false, Nat.zero_add, Nat.add_one_sub_one, Nat.sub_self, reduceIte, Nat.lt_add_left_iff_pos, eq_self, String.reduceBEq, Bool.not_true, Bool.not_false, Bool.or_self, Bool.or_false, Bool.or_true, Bool.true_or, Bool.false_or, Bool.and_true, Bool.true_and, Bool.and_false, Bool.false_and, ite_true, ite_false]
    exact q
  · rw [if_neg e] at q
    rw [decide_eq_false e]
    simp only [sSkip, sSeq, sIf, sRet, sRetN, sExpr, sAsg, sSetC, sFrz, sBrk, sCont, sRaise, sApp, sSetIx, sFor, sPar, putAll, pNil, pO, pF, startS, startM, oPur, oMut, oIni, own, ownR, use, uses, res, varR, bVar, bC, bOp, bUn, bCB, aNil, aCons, bAnd, bOr, bNot, bIf, bChain, tVal, tBl, wNot, wAnd, wOr, bTup, frz, fLst, oNil, oCons, bSl, oNone, oSome, bCall, fCall, bCallM, fComp, fCB, fRng, bTRng, gNm, gTp, setAll, iSeq, iRange, iEnum, iZip, seqOf, noCelB, wipeS, restore, qAdd, okAdd, vAdd, gSub, qMul, okMul, vMul, gDiv, gMod, gPow, gLt, gGt, gGe, qLe, okLe, vLe, gEq, gNe, qIs, okIs, vIs, qIsNot, gNeg, qLen, okLen, vLen, gAll, gAny, gSum, gMax, qMin, okMin, vMin, qInt, okInt, vInt, qBool, okBool, vBool, qTuple, seq1, qIsi, okIsi, vIsi, qIx, ixR, qSl, okSl, vSl, qIn, okIn, vIn, qNotIn, gLenSet, jList, jSrt, truD, isNonD, List.getElem?_cons_zero, List.getElem?_cons_succ, List.set_cons_zero, List.set_cons_succ, List.length_cons, List.length_nil, List.map_cons, List.map_nil, List.replicate, List.append_nil, List.nil_append, List.cons_append, Nat.reduceAdd, Nat.reduceSub, Nat.reduceLT, Nat.reduceLeDiff, Nat.zero_lt_succ, true_and, and_true, Bool.false_eq_true, if_true, if_false, Nat.zero_add, Nat.add_one_sub_one, Nat.sub_self, reduceIte, Nat.lt_add_left_iff_pos, eq_self, String.reduceBEq, Bool.not_true, Bool.not_false, Bool.or_self, Bool.or_false, Bool.or_true, Bool.true_or, Bool.false_or, Bool.and_true, Bool.true_and, Bool.and_false, Bool.false_and, ite_true, ite_false]
    refine ⟨by rw [List.length_map]; omega, comp_mapL natD (fun n => .int (fstJ js n)) o (fun n hn C hC => ?_) ?_⟩
    · simp only [natD, at_jobs (hi n hn), at2_0, sSkip, sSeq, sIf, sRet, sRetN, sExpr, sAsg, sSetC, sFrz, sBrk, sCont, sRaise, sApp, sSetIx, sFor, sPar, putAll, pNil, pO, pF, startS, startM, oPur, oMut, oIni, own, ownR, use, uses, res, varR, bVar, bC, bOp, bUn, bCB, aNil, aCons, bAnd, bOr, bNot, bIf, bChain, tVal, tBl, wNot, wAnd, wOr, bTup, frz, fLst, oNil, oCons, bSl, oNone, oSome, bCall, fCall, bCallM, fComp, fCB, fRng, bTRng, gNm, gTp, setAll, iSeq, iRange, iEnum, iZip, seqOf, noCelB, wipeS, restore, qAdd, okAdd, vAdd, gSub, qMul, okMul, vMul, gDiv, gMod, gPow, gLt, gGt, gGe, qLe, okLe, vLe, gEq, gNe, qIs, okIs, vIs, qIsNot, gNeg, qLen, okLen, vLen, gAll, gAny, gSum, gMax, qMin, okMin, vMin, qInt, okInt, vInt, qBool, okBool, vBool, qTuple, seq1, qIsi, okIsi, vIsi, qIx, ixR, qSl, okSl, vSl, qIn, okIn, vIn, qNotIn, gLenSet, jList, jSrt, truD, isNonD, List.getElem?_cons_zero, List.getElem?_cons_succ, List.set_cons_zero, List.set_cons_succ, List.length_cons, List.length_nil, List.map_cons, List.map_nil, List.replicate, List.append_nil, List.nil_append, List.cons_append, Nat.reduceAdd, Nat.reduceSub, Nat.reduceLT, Nat.reduceLeDiff, Nat.zero_lt_succ, true_and, and_true, Bool.false_eq_true, if_true, if_false, Nat.zero_add, Nat.add_one_sub_one, Nat.sub_self, reduceIte, Nat.lt_add_left_iff_pos, eq_self, String.reduceBEq, Bool.not_true, Bool.not_false, Bool.or_self, Bool.or_false, Bool.or_true, Bool.true_or, Bool.false_or, Bool.and_true, Bool.true_and, Bool.and_false, Bool.false_and, ite_true, ite_false]
      exact hC
    · simp only [sp_gaps_of, intsOf_map', at_last e, natD, at_jobs (last_in e hi), at2_1, sSkip, sSeq, sIf, sRet, sRetN, sExpr, sAsg, sSetC, sFrz, sBrk, sCont, sRaise, sApp, sSetIx, sFor, sPar, putAll, pNil, pO, pF, startS, startM, oPur, oMut, oIni, own, ownR, use, uses, res, varR, bVar, bC, bOp, bUn, bCB, aNil, aCons, bAnd, bOr, bNot, bIf, bChain, tVal, tBl, wNot, wAnd, wOr, bTup, frz, fLst, oNil, oCons, bSl, oNone, oSome, bCall, fCall, bCallM, fComp, fCB, fRng, bTRng, gNm, gTp, setAll, iSeq, iRange, iEnum, iZip, seqOf, noCelB, wipeS, restore, qAdd, okAdd, vAdd, gSub, qMul, okMul, vMul, gDiv, gMod, gPow, gLt, gGt, gGe, qLe, okLe, vLe, gEq, gNe, qIs, okIs, vIs, qIsNot, gNeg, qLen, okLen, vLen, gAll, gAny, gSum, gMax, qMin, okMin, vMin, qInt, okInt, vInt, qBool, okBool, vBool, qTuple, seq1, qIsi, okIsi, vIsi, qIx, ixR, qSl, okSl, vSl, qIn, okIn, vIn, qNotIn, gLenSet, jList, jSrt, truD, isNonD, List.getElem?_cons_zero, List.getElem?_cons_succ, List.set_cons_zero, List.set_cons_succ, List.length_cons, List.length_nil, List.map_cons, List.map_nil, List.replicate, List.append_nil, List.nil_append, List.cons_append, Nat.reduceAdd, Nat.reduceSub, Nat.reduceLT, Nat.reduceLeDiff, Nat.zero_lt_succ, true_and, and_true, Bool.false_eq_true, if_true, if_false, Nat.zero_add, Nat.add_one_sub_one, Nat.sub_self, reduceIte, Nat.lt_add_left_iff_pos, eq_self, String.reduceBEq, Bool.not_true, Bool.not_false, Bool.or_self, Bool.or_false, Bool.or_true, Bool.true_or, Bool.false_or, Bool.and_true, Bool.true_and, Bool.and_false, Bool.false_and, ite_true, ite_false]
      refine ⟨js, o, rfl, ⟨hi, hj, ho⟩, ?_⟩
      rw [intsOf_map]
      exact q
theorem ty_starts_of (X : ED) (ds : List D) (Q : D → Prop) (hl : ds.length = 2) (h : sp_starts_of X ds Q) : tr_starts_of X (startS cx_starts_of.N ds) (oPur Q) := by
  obtain ⟨js, o, rfl, ⟨hi, hj, ho⟩, q⟩ := h
  unfold tr_starts_of cx_starts_of jobsD ordD
  simp only [sp_gaps_of, sSkip, sSeq, sIf, sRet, sRetN, sExpr, sAsg, sSetC, sFrz, sBrk, sCont, sRaise, sApp, sSetIx, sFor, sPar, putAll, pNil, pO, pF, startS, startM, oPur, oMut, oIni, own, ownR, use, uses, res, varR, bVar, bC, bOp, bUn, bCB, aNil, aCons, bAnd, bOr, bNot, bIf, bChain, tVal, tBl, wNot, wAnd, wOr, bTup, frz, fLst, oNil, oCons, bSl, oNone, oSome, bCall, fCall, bCallM, fComp, fCB, fRng, bTRng, gNm, gTp, setAll, iSeq, iRange, iEnum, iZip, seqOf, noCelB, wipeS, restore, qAdd, okAdd, vAdd, gSub, qMul, okMul, vMul, gDiv, gMod, gPow, gLt, gGt, gGe, qLe, okLe, vLe, gEq, gNe, qIs, okIs, vIs, qIsNot, gNeg, qLen, okLen, vLen, gAll, gAny, gSum, gMax, qMin, okMin, vMin, qInt, okInt, vInt, qBool, okBool, vBool, qTuple, seq1, qIsi, okIsi, vIsi, qIx, ixR, qSl, okSl, vSl, qIn, okIn, vIn, qNotIn, gLenSet, jList, jSrt, truD, isNonD, List.getElem?_cons_zero, List.getElem?_cons_succ, List.set_cons_zero, List.set_cons_succ, List.length_cons, List.length_nil, List.map_cons, List.map_nil, List.replicate, List.append_nil, List.nil_append, List.cons_append, Nat.reduceAdd, Nat.reduceSub, Nat.reduceLT, Nat.reduceLeDiff, Nat.zero_lt_succ, true_and, and_true, Bool.false_eq_true, if_true, if_false, Nat.zero_add, Nat.add_one_sub_one, Nat.sub_self, reduceIte, Nat.lt_add_left_iff_pos, eq_self, String.reduceBEq, Bool.not_true, Bool.not_false, Bool.or_self, Bool.or_false, Bool.or_true, Bool.true_or, Bool.false_or, Bool.and_true, Bool.true_and, Bool.and_false, Bool.false_and, ite_true, ite_false]
  refine ⟨js, o, rfl, ⟨hi, hj, ho⟩, ?_⟩
  have e1 : (gapsL js o).map PyData.int ++ [PyData.int 0] = (gapsL js o ++ [0]).map .int := by simp
  have e2 : zipD (o.map natD) ((gapsL js o).map PyData.int ++ [PyData.int 0]) = (o.zip (gapsL js o ++ [0])).map fun p => .tuple [natD p.1, .int p.2] := by rw [e1, zip_maps]
  rw [e2]
  have hlen := gapsL_len js o
  refine ⟨by simp; omega, ?_⟩
  refine for_inv (fun r ρ => ∃ (l : List (Nat × Int)) (acc : List Int) (now : Int) (s5 s6 : SV), r = l.map (fun p => .tuple [natD p.1, .int p.2]) ∧ (∀ p ∈ l, p.1 < js.length) ∧ acc.length + l.length ≤ 30 ∧ acc ++ startsF js now l = startsL js o ∧
    ρ = [.dat (.tuple (js.map jobD)), .dat (.tuple (o.map natD)), .dat (.list (acc.map .int)), .dat (.list ((gapsL js o).map PyData.int ++ [PyData.int 0])), .dat (.int now), s5, s6]) ?_ ?_ _ _
    ⟨o.zip (gapsL js o ++ [0]), [], 0, .un, .un, rfl, fun p hp => hi _ (List.of_mem_zip (a := p.1) (b := p.2) hp).1, by rw [List.length_zip]; simp; omega, rfl, rfl⟩
  · rintro d r ρ C ⟨l, acc, now, s5, s6, er, hp, hn, ha, rfl⟩ k
    cases l with
    | nil => cases er
    | cons p l =>
      obtain ⟨rfl, rfl⟩ : d = .tuple [natD p.1, .int p.2] ∧ r = l.map (fun p => .tuple [natD p.1, .int p.2]) := by simpa using er
      have hp1 := hp p List.mem_cons_self
      have hn' : acc.length + (l.length + 1) ≤ 30 := by simpa using hn
      simp only [natD, at_jobs hp1, at2_0, sSkip, sSeq, sIf, sRet, sRetN, sExpr, sAsg, sSetC, sFrz, sBrk, sCont, sRaise, sApp, sSetIx, sFor, sPar, putAll, pNil, pO, pF, startS, startM, oPur, oMut, oIni, own, ownR, use, uses, res, varR, bVar, bC, bOp, bUn, bCB, aNil, aCons, bAnd, bOr, bNot, bIf, bChain, tVal, tBl, wNot, wAnd, wOr, bTup, frz, fLst, oNil, oCons, bSl, oNone, oSome, bCall, fCall, bCallM, fComp, fCB, fRng, bTRng, gNm, gTp, setAll, iSeq, iRange, iEnum, iZip, seqOf, noCelB, wipeS, restore, qAdd, okAdd, vAdd, gSub, qMul, okMul, vMul, gDiv, gMod, gPow, gLt, gGt, gGe, qLe, okLe, vLe, gEq, gNe, qIs, okIs, vIs, qIsNot, gNeg, qLen, okLen, vLen, gAll, gAny, gSum, gMax, qMin, okMin, vMin, qInt, okInt, vInt, qBool, okBool, vBool, qTuple, seq1, qIsi, okIsi, vIsi, qIx, ixR, qSl, okSl, vSl, qIn, okIn, vIn, qNotIn, gLenSet, jList, jSrt, truD, isNonD, List.getElem?_cons_zero, List.getElem?_cons_succ, List.set_cons_zero, List.set_cons_succ, List.length_cons, List.length_nil, List.map_cons, List.map_nil, List.replicate, List.append_nil, List.nil_append, List.cons_append, Nat.reduceAdd, Nat.reduceSub, Nat.reduceLT, Nat.reduceLeDiff, Nat.zero_lt_succ, true_and, and_true, Bool.false_eq_true, if_true, if_false, Nat.zero_add, Nat.add_one_sub_one, Nat.sub_self, reduceIte, Nat.lt_add_left_iff_pos, eq_self, String.reduceBEq, Bool.not_true, Bool.not_false, Bool.or_self, Bool.or_false, Bool.or_true, Bool.true_or, Bool.false_or, Bool.and_true, Bool.true_and, Bool.and_false, Bool.false_and, ite_true, ite_false]
      refine ⟨by rw [List.length_map]; omega, ?_⟩
      refine k _ ⟨l, acc ++ [now], now + fstJ js p.1 + p.2, .dat (.int ((p.1 : Nat) : Int)), .dat (.int p.2), rfl, fun p hp2 => hp p (List.mem_cons_of_mem _ hp2), by simp; omega, ?_, ?_⟩
      · rw [← ha]
        obtain ⟨p1, p2⟩ := p
        simp [startsF]
      · simp
  · rintro ρ ⟨l, acc, now, s5, s6, er, _, _, ha, rfl⟩
    have el : l = [] := by cases l with | nil => rfl | cons a l => cases er
    subst el
    have ea : acc = startsL js o := by rw [← ha]; simp [startsF]
    subst ea
    simp only [sSkip, sSeq, sIf, sRet, sRetN, sExpr, sAsg, sSetC, sFrz, sBrk, sCont, sRaise, sApp, sSetIx, sFor, sPar, putAll, pNil, pO, pF, startS, startM, oPur, oMut, oIni, own, ownR, use, uses, res, varR, bVar, bC, bOp, bUn, bCB, aNil, aCons, bAnd, bOr, bNot, bIf, bChain, tVal, tBl, wNot, wAnd, wOr, bTup, frz, fLst, oNil, oCons, bSl, oNone, oSome, bCall, fCall, bCallM, fComp, fCB, fRng, bTRng, gNm, gTp, setAll, iSeq, iRange, iEnum, iZip, seqOf, noCelB, wipeS, restore, qAdd, okAdd, vAdd, gSub, qMul, okMul, vMul, gDiv, gMod, gPow, gLt, gGt, gGe, qLe, okLe, vLe, gEq, gNe, qIs, okIs, vIs, qIsNot, gNeg, qLen, okLen, vLen, gAll, gAny, gSum, gMax, qMin, okMin, vMin, qInt, okInt, vInt, qBool, okBool, vBool, qTuple, seq1, qIsi, okIsi, vIsi, qIx, ixR, qSl, okSl, vSl, qIn, okIn, vIn, qNotIn, gLenSet, jList, jSrt, truD, isNonD, List.getElem?_cons_zero, List.getElem?_cons_succ, List.set_cons_zero, List.set_cons_succ, List.length_cons, List.length_nil, List.map_cons, List.map_nil, List.replicate, List.append_nil, List.nil_append, List.cons_append, Nat.reduceAdd, Nat.reduceSub, Nat.reduceLT, Nat.reduceLeDiff, Nat.zero_lt_succ, true_and, and_true, Bool.false_eq_true, if_true, if_false, Nat.zero_add, Nat.add_one_sub_one, Nat.sub_self, reduceIte, Nat.lt_add_left_iff_pos, eq_self, String.reduceBEq, Bool.not_true, Bool.not_false, Bool.or_self, Bool.or_false, Bool.or_true, Bool.true_or, Bool.false_or, Bool.and_true, Bool.true_and, Bool.and_false, Bool.false_and, ite_true, ite_false]
    exact q
/-! the public ones -/
def jobOf : D → Int × Int
  | .tuple [.int a, .int b] => (a, b)
  | _ => (0, 0)
def jobsOf : D → JL
  | .tuple ts => ts.map jobOf
  | _ => []
def ordOf : D → List Nat
  | .tuple ts => ts.map fun d => (intD d).toNat
  | _ => []
theorem isJob_of {d : D} (h : isJobB d = true) : d = jobD (jobOf d) ∧ 0 ≤ (jobOf d).1 ∧ (jobOf d).1 ≤ 1000000000000 ∧ 0 ≤ (jobOf d).2 ∧ (jobOf d).2 ≤ 1000000000000 := by
  cases d with
  | tuple ts =>
    simp only [isJobB, Bool.and_eq_true, beq_iff_eq] at h
    obtain ⟨hl, ha⟩ := h
    match ts, hl, ha with
    | [.int a, .int b], _, ha =>
      simp only [List.all_cons, List.all_nil, isIntB, Bool.and_eq_true, decide_eq_true_eq, Bool.and_true] at ha
      exact ⟨rfl, ha.1.1, ha.1.2, ha.2.1, ha.2.2⟩
    | [a, b], _, ha =>
      obtain ⟨e, _⟩ := ints_of_all ha
      simp only [List.map_cons, List.map_nil, List.cons.injEq, and_true] at e
      obtain ⟨e1, e2⟩ := e
      rw [e1, e2] at ha ⊢
      simp only [List.all_cons, List.all_nil, isIntB, Bool.and_eq_true, decide_eq_true_eq, Bool.and_true] at ha
      exact ⟨rfl, ha.1.1, ha.1.2, ha.2.1, ha.2.2⟩
  | _ => simp [isJobB] at h
def okJ (p : Int × Int) : Prop := 0 ≤ p.1 ∧ p.1 ≤ 1000000000000 ∧ 0 ≤ p.2 ∧ p.2 ≤ 1000000000000
theorem jobs_of {w : D} (h : areJobsB w = true) : w = jobsD (jobsOf w) ∧ 1 ≤ (jobsOf w).length ∧ (jobsOf w).length ≤ 30 ∧ lenD w = (jobsOf w).length ∧ ∀ p ∈ jobsOf w, okJ p := by
  obtain ⟨js, rfl, h1, h2, h3⟩ := jobs_tuple h
  have ha := List.all_eq_true.mp h3
  refine ⟨?_, by simpa [jobsOf] using h1, by simpa [jobsOf] using h2, by simp [lenD, jobsOf], fun p hp => ?_⟩
  · unfold jobsD jobsOf
    rw [List.map_map]
    congr 1
    have : js.map (jobD ∘ jobOf) = js.map id := List.map_congr_left fun d hd => ((isJob_of (ha d hd)).1).symm
    rw [this, List.map_id]
  · obtain ⟨d, hd, rfl⟩ := List.mem_map.mp hp
    exact (isJob_of (ha d hd)).2
theorem foldl_dedup_le : ∀ (ns acc : List Int), (ns.foldl PyProof.Rows.step_dedup acc).length ≤ acc.length + ns.length
  | [], acc => by simp
  | n :: ns, acc => by
    rw [List.foldl_cons]
    have := foldl_dedup_le ns (PyProof.Rows.step_dedup acc n)
    have h2 : (PyProof.Rows.step_dedup acc n).length ≤ acc.length + 1 := by
      unfold PyProof.Rows.step_dedup
      split <;> simp
    simp only [List.length_cons]
    omega
theorem nodup_of_fold : ∀ (ns acc : List Int), (ns.foldl PyProof.Rows.step_dedup acc).length = acc.length + ns.length → ns.Nodup ∧ ∀ n ∈ ns, n ∉ acc
  | [], acc, _ => ⟨List.nodup_nil, fun _ h => nomatch h⟩
  | n :: ns, acc, h => by
    rw [List.foldl_cons] at h
    simp only [List.length_cons] at h
    by_cases hm : n ∈ acc
    · have e : PyProof.Rows.step_dedup acc n = acc := by
        unfold PyProof.Rows.step_dedup
        exact if_pos (by simpa using hm)
      rw [e] at h
      have := foldl_dedup_le ns acc
      omega
    · have e : PyProof.Rows.step_dedup acc n = acc ++ [n] := by
        unfold PyProof.Rows.step_dedup
        exact if_neg (by simpa using hm)
      rw [e] at h
      obtain ⟨h1, h2⟩ := nodup_of_fold ns (acc ++ [n]) (by rw [h]; simp; omega)
      refine ⟨List.nodup_cons.mpr ⟨fun hn => h2 n hn (by simp), h1⟩, fun k hk => ?_⟩
      rcases List.mem_cons.mp hk with rfl | hk
      · exact hm
      · exact fun hk2 => h2 k hk (by simp [hk2])
theorem nodup_of_distinct {ns : List Int} (h : (distinct ns).length = ns.length) : ns.Nodup := (nodup_of_fold ns [] (by simpa [distinct] using h)).1
theorem ord_of {m : Nat} {v : D} (h : ordB m v = true) : v = ordD (ordOf v) ∧ (ordOf v).length = m ∧ (∀ n ∈ ordOf v, n < m) ∧ (ordOf v).Nodup := by
  unfold ordB at h
  rw [Bool.and_eq_true, beq_iff_eq] at h
  obtain ⟨hr, hl⟩ := h
  cases v with
  | tuple ts =>
    simp only [rowB, Bool.and_eq_true, decide_eq_true_eq, beq_iff_eq] at hr
    obtain ⟨⟨h1, h2⟩, h3⟩ := hr
    obtain ⟨e, f⟩ := ints_of_all h2
    have f' : ∀ d ∈ ts, 0 ≤ intD d ∧ intD d ≤ (m : Int) - 1 := fun d hd => f _ (List.mem_map.mpr ⟨d, hd, rfl⟩)
    refine ⟨?_, by simpa [ordOf, lenD] using hl, fun n hn => ?_, ?_⟩
    · unfold ordD ordOf
      rw [List.map_map]
      congr 1
      conv => lhs; rw [e, List.map_map]
      refine List.map_congr_left fun d hd => ?_
      show PyData.int (intD d) = .int (((intD d).toNat : Nat) : Int)
      rw [Int.toNat_of_nonneg (f' d hd).1]
    · obtain ⟨d, hd, rfl⟩ := List.mem_map.mp hn
      have := f' d hd
      omega
    · have nd : (ts.map intD).Nodup := nodup_of_distinct (by rw [h3, List.length_map])
      have e3 : ordOf (.tuple ts) = (ts.map intD).map Int.toNat := by unfold ordOf; rw [List.map_map]; rfl
      rw [e3]
      refine List.Pairwise.map _ (fun a b h => ?_) (List.Pairwise.and_mem.mp nd)
      obtain ⟨ha, hb, hne⟩ := h
      have h1 := f a ha
      have h2 := f b hb
      intro e
      exact hne (by omega)
  | _ => simp [rowB] at hr
theorem inJ_of {w v : D} (hw : areJobsB w = true) (hv : ordB (lenD w) v = true) : inJ (jobsOf w) (ordOf v) := by
  obtain ⟨_, a1, a2, a3, _⟩ := jobs_of hw
  obtain ⟨_, b1, b2, _⟩ := ord_of hv
  exact ⟨fun n hn => by rw [← a3]; exact b2 n hn, a2, by rw [b1, a3]; exact a2⟩
/-- jobs and an order needed, then: -/
def spJO (f : JL → List Nat → D) : ED → List D → (D → Prop) → Prop := fun X ds P => match ds with
  | [w, v] => shp w = true ∧ shp v = true ∧ (if areJobsB w = true then (if ordB (lenD w) v = true then P (f (jobsOf w) (ordOf v)) else X "InvalidOrder") else X "InvalidJobs")
  | _ => False
def sp_starts := spJO fun js o => .list ((startsL js o).map .int)
def sp_gaps := spJO fun js o => .list ((gapsL js o).map .int)
def sp_whole_time := spJO fun js o => .int (timeL js o)
def cx_starts : Ctx := { N := ["jobs", "order"], Γ := [("need_jobs", .pur 1 sp_need_jobs), ("need_order", .pur 2 sp_need_order), ("starts_of", .pur 2 sp_starts_of)], C := [], R := [], ms := [] }
def tr_starts : SW := (sSeq (sExpr (bCall sp_need_jobs 1 (oCons (own (bVar 0)) oNil)))
  (sSeq (sExpr (bCall sp_need_order 2 (oCons (own (bVar 0)) (oCons (own (bVar 1)) oNil))))
  (sRet (own (bCall sp_starts_of 2 (oCons (own (bVar 0)) (oCons (own (bVar 1)) oNil)))))))

def cx_gaps : Ctx := { N := ["jobs", "order"], Γ := [("gaps_of", .pur 2 sp_gaps_of), ("need_jobs", .pur 1 sp_need_jobs), ("need_order", .pur 2 sp_need_order)], C := [], R := [], ms := [] }
def tr_gaps : SW := (sSeq (sExpr (bCall sp_need_jobs 1 (oCons (own (bVar 0)) oNil)))
  (sSeq (sExpr (bCall sp_need_order 2 (oCons (own (bVar 0)) (oCons (own (bVar 1)) oNil))))
  (sRet (own (bCall sp_gaps_of 2 (oCons (own (bVar 0)) (oCons (own (bVar 1)) oNil)))))))

def cx_whole_time : Ctx := { N := ["jobs", "order"], Γ := [("need_jobs", .pur 1 sp_need_jobs), ("need_order", .pur 2 sp_need_order), ("time_of", .pur 2 sp_time_of)], C := [], R := [], ms := [] }
def tr_whole_time : SW := (sSeq (sExpr (bCall sp_need_jobs 1 (oCons (own (bVar 0)) oNil)))
  (sSeq (sExpr (bCall sp_need_order 2 (oCons (own (bVar 0)) (oCons (own (bVar 1)) oNil))))
  (sRet (own (bCall sp_time_of 2 (oCons (own (bVar 0)) (oCons (own (bVar 1)) oNil)))))))


theorem ty_spJO {f : JL → List Nat → D} {sp : ED → List D → (D → Prop) → Prop} (hsp : ∀ X js o P, inJ js o → P (f js o) → sp X [jobsD js, ordD o] P) (X : ED) (ds : List D) (Q : D → Prop) (hl : ds.length = 2) (h : spJO f X ds Q) :
    (sSeq (sExpr (bCall sp_need_jobs 1 (oCons (own (bVar 0)) oNil))) (sSeq (sExpr (bCall sp_need_order 2 (oCons (own (bVar 0)) (oCons (own (bVar 1)) oNil)))) (sRet (own (bCall sp 2 (oCons (own (bVar 0)) (oCons (own (bVar 1)) oNil))))))) X (startS ["jobs", "order"] ds) (oPur Q) := by
  unfold spJO at h
  split at h
  · rename_i w v
    obtain ⟨hw, hv, q⟩ := h
    simp only [sp_need_jobs, sSkip, sSeq, sIf, sRet, sRetN, sExpr, sAsg, sSetC, sFrz, sBrk, sCont, sRaise, sApp, sSetIx, sFor, sPar, putAll, pNil, pO, pF, startS, startM, oPur, oMut, oIni, own, ownR, use, uses, res, varR, bVar, bC, bOp, bUn, bCB, aNil, aCons, bAnd, bOr, bNot, bIf, bChain, tVal, tBl, wNot, wAnd, wOr, bTup, frz, fLst, oNil, oCons, bSl, oNone, oSome, bCall, fCall, bCallM, fComp, fCB, fRng, bTRng, gNm, gTp, setAll, iSeq, iRange, iEnum, iZip, seqOf, noCelB, wipeS, restore, qAdd, okAdd, vAdd, gSub, qMul, okMul, vMul, gDiv, gMod, gPow, gLt, gGt, gGe, qLe, okLe, vLe, gEq, gNe, qIs, okIs, vIs, qIsNot, gNeg, qLen, okLen, vLen, gAll, gAny, gSum, gMax, qMin, okMin, vMin, qInt, okInt, vInt, qBool, okBool, vBool, qTuple, seq1, qIsi, okIsi, vIsi, qIx, ixR, qSl, okSl, vSl, qIn, okIn, vIn, qNotIn, gLenSet, jList, jSrt, truD, isNonD, List.getElem?_cons_zero, List.getElem?_cons_succ, List.set_cons_zero, List.set_cons_succ, List.length_cons, List.length_nil, List.map_cons, List.map_nil, List.replicate, List.append_nil, List.nil_append, List.cons_append, Nat.reduceAdd, Nat.reduceSub, Nat.reduceLT, Nat.reduceLeDiff, Nat.zero_lt_succ, true_and, and_true, Bool.false_eq_true, if_true, if_false, Nat.zero_add, Nat.add_one_sub_one, Nat.sub_self, reduceIte, Nat.lt_add_left_iff_pos, eq_self, String.reduceBEq, Bool.not_true, Bool.not_false, Bool.or_self, Bool.or_false, Bool.or_true, Bool.true_or, Bool.false_or, Bool.and_true, Bool.true_and, Bool.and_false, Bool.false_and, ite_true, ite_false]
    refine ⟨hw, ?_⟩
    cases hr : areJobsB w with
    | false => simpa [hr] using q
    | true =>
      have ej := jobs_of hr
      rw [hr] at q
      simp only [sSkip, sSeq, sIf, sRet, sRetN, sExpr, sAsg, sSetC, sFrz, sBrk, sCont, sRaise, sApp, sSetIx, sFor, sPar, putAll, pNil, pO, pF, startS, startM, oPur, oMut, oIni, own, ownR, use, uses, res, varR, bVar, bC, bOp, bUn, bCB, aNil, aCons, bAnd, bOr, bNot, bIf, bChain, tVal, tBl, wNot, wAnd, wOr, bTup, frz, fLst, oNil, oCons, bSl, oNone, oSome, bCall, fCall, bCallM, fComp, fCB, fRng, bTRng, gNm, gTp, setAll, iSeq, iRange, iEnum, iZip, seqOf, noCelB, wipeS, restore, qAdd, okAdd, vAdd, gSub, qMul, okMul, vMul, gDiv, gMod, gPow, gLt, gGt, gGe, qLe, okLe, vLe, gEq, gNe, qIs, okIs, vIs, qIsNot, gNeg, qLen, okLen, vLen, gAll, gAny, gSum, gMax, qMin, okMin, vMin, qInt, okInt, vInt, qBool, okBool, vBool, qTuple, seq1, qIsi, okIsi, vIsi, qIx, ixR, qSl, okSl, vSl, qIn, okIn, vIn, qNotIn, gLenSet, jList, jSrt, truD, isNonD, List.getElem?_cons_zero, List.getElem?_cons_succ, List.set_cons_zero, List.set_cons_succ, List.length_cons, List.length_nil, List.map_cons, List.map_nil, List.replicate, List.append_nil, List.nil_append, List.cons_append, Nat.reduceAdd, Nat.reduceSub, Nat.reduceLT, Nat.reduceLeDiff, Nat.zero_lt_succ, true_and, and_true, Bool.false_eq_true, if_true, if_false, Nat.zero_add, Nat.add_one_sub_one, Nat.sub_self, reduceIte, Nat.lt_add_left_iff_pos, eq_self, String.reduceBEq, Bool.not_true, Bool.not_false, Bool.or_self, Bool.or_false, Bool.or_true, Bool.true_or, Bool.false_or, Bool.and_true, Bool.true_and, Bool.and_false, Bool.false_and, ite_true, ite_false] at q
      simp only [sSkip, sSeq, sIf, sRet, sRetN, sExpr, sAsg, sSetC, sFrz, sBrk, sCont, sRaise, sApp, sSetIx, sFor, sPar, putAll, pNil, pO, pF, startS, startM, oPur, oMut, oIni, own, ownR, use, uses, res, varR, bVar, bC, bOp, bUn, bCB, aNil, aCons, bAnd, bOr, bNot, bIf, bChain, tVal, tBl, wNot, wAnd, wOr, bTup, frz, fLst, oNil, oCons, bSl, oNone, oSome, bCall, fCall, bCallM, fComp, fCB, fRng, bTRng, gNm, gTp, setAll, iSeq, iRange, iEnum, iZip, seqOf, noCelB, wipeS, restore, qAdd, okAdd, vAdd, gSub, qMul, okMul, vMul, gDiv, gMod, gPow, gLt, gGt, gGe, qLe, okLe, vLe, gEq, gNe, qIs, okIs, vIs, qIsNot, gNeg, qLen, okLen, vLen, gAll, gAny, gSum, gMax, qMin, okMin, vMin, qInt, okInt, vInt, qBool, okBool, vBool, qTuple, seq1, qIsi, okIsi, vIsi, qIx, ixR, qSl, okSl, vSl, qIn, okIn, vIn, qNotIn, gLenSet, jList, jSrt, truD, isNonD, List.getElem?_cons_zero, List.getElem?_cons_succ, List.set_cons_zero, List.set_cons_succ, List.length_cons, List.length_nil, List.map_cons, List.map_nil, List.replicate, List.append_nil, List.nil_append, List.cons_append, Nat.reduceAdd, Nat.reduceSub, Nat.reduceLT, Nat.reduceLeDiff, Nat.zero_lt_succ, true_and, and_true, Bool.false_eq_true, if_true, if_false, Nat.zero_add, Nat.add_one_sub_one, Nat.sub_self, reduceIte, Nat.lt_add_left_iff_pos, eq_self, String.reduceBEq, Bool.not_true, Bool.not_false, Bool.or_self, Bool.or_false, Bool.or_true, Bool.true_or, Bool.false_or, Bool.and_true, Bool.true_and, Bool.and_false, Bool.false_and, ite_true, ite_false]
      cases ho : ordB (lenD w) v with
      | false =>
        rw [ho] at q
        simp only [sSkip, sSeq, sIf, sRet, sRetN, sExpr, sAsg, sSetC, sFrz, sBrk, sCont, sRaise, sApp, sSetIx, sFor, sPar, putAll, pNil, pO, pF, startS, startM, oPur, oMut, oIni, own, ownR, use, uses, res, varR, bVar, bC, bOp, bUn, bCB, aNil, aCons, bAnd, bOr, bNot, bIf, bChain, tVal, tBl, wNot, wAnd, wOr, bTup, frz, fLst, oNil, oCons, bSl, oNone, oSome, bCall, fCall, bCallM, fComp, fCB, fRng, bTRng, gNm, gTp, setAll, iSeq, iRange, iEnum, iZip, seqOf, noCelB, wipeS, restore, qAdd, okAdd, vAdd, gSub, qMul, okMul, vMul, gDiv, gMod, gPow, gLt, gGt, gGe, qLe, okLe, vLe, gEq, gNe, qIs, okIs, vIs, qIsNot, gNeg, qLen, okLen, vLen, gAll, gAny, gSum, gMax, qMin, okMin, vMin, qInt, okInt, vInt, qBool, okBool, vBool, qTuple, seq1, qIsi, okIsi, vIsi, qIx, ixR, qSl, okSl, vSl, qIn, okIn, vIn, qNotIn, gLenSet, jList, jSrt, truD, isNonD, List.getElem?_cons_zero, List.getElem?_cons_succ, List.set_cons_zero, List.set_cons_succ, List.length_cons, List.length_nil, List.map_cons, List.map_nil, List.replicate, List.append_nil, List.nil_append, List.cons_append, Nat.reduceAdd, Nat.reduceSub, Nat.reduceLT, Nat.reduceLeDiff, Nat.zero_lt_succ, true_and, and_true, Bool.false_eq_true, if_true, if_false, Nat.zero_add, Nat.add_one_sub_one, Nat.sub_self, reduceIte, Nat.lt_add_left_iff_pos, eq_self, String.reduceBEq, Bool.not_true, Bool.not_false, Bool.or_self, Bool.or_false, Bool.or_true, Bool.true_or, Bool.false_or, Bool.and_true, Bool.true_and, Bool.and_false, Bool.false_and, ite_true, ite_false] at q
        obtain ⟨js, rfl, h1, h2, h3⟩ := jobs_tuple hr
        have ho' : ordB js.length v = false := ho
        simp only [sp_need_order, ho', sSkip, sSeq, sIf, sRet, sRetN, sExpr, sAsg, sSetC, sFrz, sBrk, sCont, sRaise, sApp, sSetIx, sFor, sPar, putAll, pNil, pO, pF, startS, startM, oPur, oMut, oIni, own, ownR, use, uses, res, varR, bVar, bC, bOp, bUn, bCB, aNil, aCons, bAnd, bOr, bNot, bIf, bChain, tVal, tBl, wNot, wAnd, wOr, bTup, frz, fLst, oNil, oCons, bSl, oNone, oSome, bCall, fCall, bCallM, fComp, fCB, fRng, bTRng, gNm, gTp, setAll, iSeq, iRange, iEnum, iZip, seqOf, noCelB, wipeS, restore, qAdd, okAdd, vAdd, gSub, qMul, okMul, vMul, gDiv, gMod, gPow, gLt, gGt, gGe, qLe, okLe, vLe, gEq, gNe, qIs, okIs, vIs, qIsNot, gNeg, qLen, okLen, vLen, gAll, gAny, gSum, gMax, qMin, okMin, vMin, qInt, okInt, vInt, qBool, okBool, vBool, qTuple, seq1, qIsi, okIsi, vIsi, qIx, ixR, qSl, okSl, vSl, qIn, okIn, vIn, qNotIn, gLenSet, jList, jSrt, truD, isNonD, List.getElem?_cons_zero, List.getElem?_cons_succ, List.set_cons_zero, List.set_cons_succ, List.length_cons, List.length_nil, List.map_cons, List.map_nil, List.replicate, List.append_nil, List.nil_append, List.cons_append, Nat.reduceAdd, Nat.reduceSub, Nat.reduceLT, Nat.reduceLeDiff, Nat.zero_lt_succ, true_and, and_true, Bool.false_eq_true, if_true, if_false, Nat.zero_add, Nat.add_one_sub_one, Nat.sub_self, reduceIte, Nat.lt_add_left_iff_pos, eq_self, String.reduceBEq, Bool.not_true, Bool.not_false, Bool.or_self, Bool.or_false, Bool.or_true, Bool.true_or, Bool.false_or, Bool.and_true, Bool.true_and, Bool.and_false, Bool.false_and, ite_true, ite_false]
        exact ⟨h2, hv, q⟩
      | true =>
        rw [ho] at q
        simp only [sSkip, sSeq, sIf, sRet, sRetN, sExpr, sAsg, sSetC, sFrz, sBrk, sCont, sRaise, sApp, sSetIx, sFor, sPar, putAll, pNil, pO, pF, startS, startM, oPur, oMut, oIni, own, ownR, use, uses, res, varR, bVar, bC, bOp, bUn, bCB, aNil, aCons, bAnd, bOr, bNot, bIf, bChain, tVal, tBl, wNot, wAnd, wOr, bTup, frz, fLst, oNil, oCons, bSl, oNone, oSome, bCall, fCall, bCallM, fComp, fCB, fRng, bTRng, gNm, gTp, setAll, iSeq, iRange, iEnum, iZip, seqOf, noCelB, wipeS, restore, qAdd, okAdd, vAdd, gSub, qMul, okMul, vMul, gDiv, gMod, gPow, gLt, gGt, gGe, qLe, okLe, vLe, gEq, gNe, qIs, okIs, vIs, qIsNot, gNeg, qLen, okLen, vLen, gAll, gAny, gSum, gMax, qMin, okMin, vMin, qInt, okInt, vInt, qBool, okBool, vBool, qTuple, seq1, qIsi, okIsi, vIsi, qIx, ixR, qSl, okSl, vSl, qIn, okIn, vIn, qNotIn, gLenSet, jList, jSrt, truD, isNonD, List.getElem?_cons_zero, List.getElem?_cons_succ, List.set_cons_zero, List.set_cons_succ, List.length_cons, List.length_nil, List.map_cons, List.map_nil, List.replicate, List.append_nil, List.nil_append, List.cons_append, Nat.reduceAdd, Nat.reduceSub, Nat.reduceLT, Nat.reduceLeDiff, Nat.zero_lt_succ, true_and, and_true, Bool.false_eq_true, if_true, if_false, Nat.zero_add, Nat.add_one_sub_one, Nat.sub_self, reduceIte, Nat.lt_add_left_iff_pos, eq_self, String.reduceBEq, Bool.not_true, Bool.not_false, Bool.or_self, Bool.or_false, Bool.or_true, Bool.true_or, Bool.false_or, Bool.and_true, Bool.true_and, Bool.and_false, Bool.false_and, ite_true, ite_false] at q
        have eo := ord_of ho
        have hin := inJ_of hr ho
        obtain ⟨js, ew, h1, h2, h3⟩ := jobs_tuple hr
        have ho' : ordB js.length v = true := by rw [ew] at ho; exact ho
        have hs := hsp X (jobsOf w) (ordOf v) Q hin q
        rw [← ej.1, ← eo.1] at hs
        rw [ew] at hs ⊢
        simp only [sp_need_order, ho', sSkip, sSeq, sIf, sRet, sRetN, sExpr, sAsg, sSetC, sFrz, sBrk, sCont, sRaise, sApp, sSetIx, sFor, sPar, putAll, pNil, pO, pF, startS, startM, oPur, oMut, oIni, own, ownR, use, uses, res, varR, bVar, bC, bOp, bUn, bCB, aNil, aCons, bAnd, bOr, bNot, bIf, bChain, tVal, tBl, wNot, wAnd, wOr, bTup, frz, fLst, oNil, oCons, bSl, oNone, oSome, bCall, fCall, bCallM, fComp, fCB, fRng, bTRng, gNm, gTp, setAll, iSeq, iRange, iEnum, iZip, seqOf, noCelB, wipeS, restore, qAdd, okAdd, vAdd, gSub, qMul, okMul, vMul, gDiv, gMod, gPow, gLt, gGt, gGe, qLe, okLe, vLe, gEq, gNe, qIs, okIs, vIs, qIsNot, gNeg, qLen, okLen, vLen, gAll, gAny, gSum, gMax, qMin, okMin, vMin, qInt, okInt, vInt, qBool, okBool, vBool, qTuple, seq1, qIsi, okIsi, vIsi, qIx, ixR, qSl, okSl, vSl, qIn, okIn, vIn, qNotIn, gLenSet, jList, jSrt, truD, isNonD, List.getElem?_cons_zero, List.getElem?_cons_succ, List.set_cons_zero, List.set_cons_succ, List.length_cons, List.length_nil, List.map_cons, List.map_nil, List.replicate, List.append_nil, List.nil_append, List.cons_append, Nat.reduceAdd, Nat.reduceSub, Nat.reduceLT, Nat.reduceLeDiff, Nat.zero_lt_succ, true_and, and_true, Bool.false_eq_true, if_true, if_false, Nat.zero_add, Nat.add_one_sub_one, Nat.sub_self, reduceIte, Nat.lt_add_left_iff_pos, eq_self, String.reduceBEq, Bool.not_true, Bool.not_false, Bool.or_self, Bool.or_false, Bool.or_true, Bool.true_or, Bool.false_or, Bool.and_true, Bool.true_and, Bool.and_false, Bool.false_and, ite_true, ite_false]
        exact ⟨h2, hv, hs⟩
  · exact h.elim
theorem ty_starts (X : ED) (ds : List D) (Q : D → Prop) (hl : ds.length = 2) (h : sp_starts X ds Q) : tr_starts X (startS cx_starts.N ds) (oPur Q) := ty_spJO (fun X js o P hi hp => ⟨js, o, rfl, hi, hp⟩) X ds Q hl h
theorem ty_gaps (X : ED) (ds : List D) (Q : D → Prop) (hl : ds.length = 2) (h : sp_gaps X ds Q) : tr_gaps X (startS cx_gaps.N ds) (oPur Q) := ty_spJO (fun X js o P hi hp => ⟨js, o, rfl, hi, hp⟩) X ds Q hl h
theorem ty_whole_time (X : ED) (ds : List D) (Q : D → Prop) (hl : ds.length = 2) (h : sp_whole_time X ds Q) : tr_whole_time X (startS cx_whole_time.N ds) (oPur Q) := ty_spJO (fun X js o P hi hp => ⟨js, o, rfl, hi, hp⟩) X ds Q hl h
end DL
set_option Elab.async false
set_option linter.all false
set_option maxRecDepth 100000
set_option maxHeartbeats 4000000
namespace DL
open PySem PySem.Spec PyProof.Rows L2

/-! ### the law's draws -/
def okSrc (d0 : List D) : Prop := ∃ a b : Int, d0 = [.int a, .int b] ∧ 0 ≤ a ∧ 0 ≤ b ∧ b < 2147483648
def sp__law_source : ED → List D → (List D → Prop) → Prop := fun X ds P => ∃ (ns : List Int) (k : Int), ds = [scD ns, .int k] ∧ 0 ≤ k ∧ k ≤ 100 ∧ ∀ d0, okSrc d0 → P d0
def sp__law_pick : ED → List D → List D → (D → List D → Prop) → Prop := fun X d0 ds P => okSrc d0 ∧ ∃ m : Int, ds = [.int m] ∧ 1 ≤ m ∧ m ≤ 1000000000000000 ∧ ∀ (x : Int) d1, 0 ≤ x → x < m → okSrc d1 → P (.int x) d1
def sp__law_chosen : ED → List D → List D → (D → List D → Prop) → Prop := fun X d0 ds P => okSrc d0 ∧ ∃ (s : D) (xs : List D), ds = [s] ∧ seqOf s = some xs ∧ xs ≠ [] ∧ xs.length ≤ 1000 ∧ ∀ z d1, z ∈ xs → okSrc d1 → P z d1
def sp__law_is_bool : ED → List D → (D → Prop) → Prop := fun X ds P => match ds with
  | [.bool a, .bool b] => P (.bool (a == b))
  | _ => False
def sp__law_whole : ED → List D → (D → Prop) → Prop := sp_is_int
def cx__law_pick : Ctx := { N := ["_law_source_here", "_law_many", "_law_found"], Γ := [], C := [], R := [], ms := [] }
def tr__law_pick : SW := (sSeq (sIf (tBl (bOp gGt (bOp qIx (bVar 0) (bC (.int 0))) (bC (.int 0))))
  (sSeq (sAsg (own (bOp gMod (bCB qInt (aCons (bOp qIx (bVar 0) (bC (.int 0))) aNil)) (bVar 1))) (gNm 2))
  (sSeq (sSetIx 0 (own (bOp gDiv (bCB qInt (aCons (bOp qIx (bVar 0) (bC (.int 0))) aNil)) (bVar 1))) (bC (.int 0)))
  (sRet (own (bVar 2)))))
  sSkip)
  (sSeq (sSetIx 0 (own (bOp gMod (bCB qInt (aCons (bOp qAdd (bOp qMul (bOp qIx (bVar 0) (bC (.int 1))) (bC (.int 44497))) (bC (.int 9973))) aNil)) (bC (.int 2147483647)))) (bC (.int 1)))
  (sRet (own (bOp gMod (bOp gDiv (bOp gMod (bCB qInt (aCons (bOp qMul (bOp qIx (bVar 0) (bC (.int 1))) (bOp qIx (bVar 0) (bC (.int 1)))) aNil)) (bC (.int 2147483399))) (bC (.int 11))) (bVar 1))))))

def cx__law_chosen : Ctx := { N := ["_law_source_here", "_law_things"], Γ := [("_law_pick", .mut 2 sp__law_pick)], C := [], R := [], ms := [] }
def tr__law_chosen : SW := (sRet (own (bOp qIx (bVar 1) (bCallM sp__law_pick 2 0 (oCons (own (bCB qLen (aCons (bVar 1) aNil))) oNil)))))

def cx__law_is_bool : Ctx := { N := ["_law_told", "_law_due"], Γ := [], C := [], R := [], ms := [] }
def tr__law_is_bool : SW := (sRet (own (bAnd (bUn (qIsi "bool") (bVar 0)) (bOp gEq (bVar 0) (bVar 1)))))

def cx__law_whole : Ctx := { N := ["_law_value", "_law_low", "_law_high"], Γ := [], C := [], R := [], ms := [] }
def tr__law_whole : SW := (sRet (own (bAnd (bUn (qIsi "int") (bVar 0)) (bAnd (bNot (bUn (qIsi "bool") (bVar 0))) (bChain qLe qLe (bVar 1) (bVar 0) (bVar 2))))))


theorem log_small {m : Int} (h : m ≤ 1000000000000000) (h0 : 1 ≤ m) : m.natAbs.log2 < 9000 := by
  have h1 : m.natAbs ≤ 1000000000000000 := by omega
  have h2 : m.natAbs < 2 ^ 9000 := Nat.lt_of_le_of_lt h1 (by decide +kernel)
  exact (Nat.log2_lt (by omega)).mpr h2
theorem ixN2_0 : ixN 2 0 = some 0 := rfl
theorem ixN2_1 : ixN 2 1 = some 1 := rfl
theorem ty__law_pick (X : ED) (a : Addr) (d0 ds : List D) (Q : D → List D → Prop) (hl : ds.length + 1 = 2) (h : sp__law_pick X d0 ds Q) : tr__law_pick X (startM cx__law_pick.N a d0 ds) (oMut a Q) := by
  obtain ⟨⟨u, v, rfl, hu, hv, hv2⟩, m, rfl, h1, h2, q⟩ := h
  unfold tr__law_pick cx__law_pick
  simp only [at2_0, at2_1, CMul, CDivW, sSkip, sSeq, sIf, sRet, sRetN, sExpr, sAsg, sSetC, sFrz, sBrk, sCont, sRaise, sApp, sSetIx, sFor, sPar, putAll, pNil, pO, pF, startS, startM, oPur, oMut, oIni, own, ownR, use, uses, res, varR, bVar, bC, bOp, bUn, bCB, aNil, aCons, bAnd, bOr, bNot, bIf, bChain, tVal, tBl, wNot, wAnd, wOr, bTup, frz, fLst, oNil, oCons, bSl, oNone, oSome, bCall, fCall, bCallM, fComp, fCB, fRng, bTRng, gNm, gTp, setAll, iSeq, iRange, iEnum, iZip, seqOf, noCelB, wipeS, restore, qAdd, okAdd, vAdd, gSub, qMul, okMul, vMul, gDiv, gMod, gPow, gLt, gGt, gGe, qLe, okLe, vLe, gEq, gNe, qIs, okIs, vIs, qIsNot, gNeg, qLen, okLen, vLen, gAll, gAny, gSum, gMax, qMin, okMin, vMin, qInt, okInt, vInt, qBool, okBool, vBool, qTuple, seq1, qIsi, okIsi, vIsi, qIx, ixR, qSl, okSl, vSl, qIn, okIn, vIn, qNotIn, gLenSet, jList, jSrt, truD, isNonD, List.getElem?_cons_zero, List.getElem?_cons_succ, List.set_cons_zero, List.set_cons_succ, List.length_cons, List.length_nil, List.map_cons, List.map_nil, List.replicate, List.append_nil, List.nil_append, List.cons_append, Nat.reduceAdd, Nat.reduceSub, Nat.reduceLT, Nat.reduceLeDiff, Nat.zero_lt_succ, true_and, and_true, Bool.false_eq_true, if_true, if_false, Nat.zero_add, Nat.add_one_sub_one, Nat.sub_self, reduceIte, Nat.lt_add_left_iff_pos, eq_self, String.reduceBEq, Bool.not_true, Bool.not_false, Bool.or_self, Bool.or_false, Bool.or_true, Bool.true_or, Bool.false_or, Bool.and_true, Bool.true_and, Bool.and_false, Bool.false_and, ite_true, ite_false]
  have lg := log_small h2 h1
  cases hc : decide ((0 : Int) < u) with
  | true =>
    simp only [at2_0, at2_1, ixN2_0, ixN2_1, sSkip, sSeq, sIf, sRet, sRetN, sExpr, sAsg, sSetC, sFrz, sBrk, sCont, sRaise, sApp, sSetIx, sFor, sPar, putAll, pNil, pO, pF, startS, startM, oPur, oMut, oIni, own, ownR, use, uses, res, varR, bVar, bC, bOp, bUn, bCB, aNil, aCons, bAnd, bOr, bNot, bIf, bChain, tVal, tBl, wNot, wAnd, wOr, bTup, frz, fLst, oNil, oCons, bSl, oNone, oSome, bCall, fCall, bCallM, fComp, fCB, fRng, bTRng, gNm, gTp, setAll, iSeq, iRange, iEnum, iZip, seqOf, noCelB, wipeS, restore, qAdd, okAdd, vAdd, gSub, qMul, okMul, vMul, gDiv, gMod, gPow, gLt, gGt, gGe, qLe, okLe, vLe, gEq, gNe, qIs, okIs, vIs, qIsNot, gNeg, qLen, okLen, vLen, gAll, gAny, gSum, gMax, qMin, okMin, vMin, qInt, okInt, vInt, qBool, okBool, vBool, qTuple, seq1, qIsi, okIsi, vIsi, qIx, ixR, qSl, okSl, vSl, qIn, okIn, vIn, qNotIn, gLenSet, jList, jSrt, truD, isNonD, List.getElem?_cons_zero, List.getElem?_cons_succ, List.set_cons_zero, List.set_cons_succ, List.length_cons, List.length_nil, List.map_cons, List.map_nil, List.replicate, List.append_nil, List.nil_append, List.cons_append, Nat.reduceAdd, Nat.reduceSub, Nat.reduceLT, Nat.reduceLeDiff, Nat.zero_lt_succ, true_and, and_true, Bool.false_eq_true, if_true, if_false, Nat.zero_add, Nat.add_one_sub_one, Nat.sub_self, reduceIte, Nat.lt_add_left_iff_pos, eq_self, String.reduceBEq, Bool.not_true, Bool.not_false, Bool.or_self, Bool.or_false, Bool.or_true, Bool.true_or, Bool.false_or, Bool.and_true, Bool.true_and, Bool.and_false, Bool.false_and, ite_true, ite_false]
    exact ⟨by omega, ⟨by omega, lg⟩, _, rfl, q _ _ (Int.emod_nonneg _ (by omega)) (Int.emod_lt_of_pos _ (by omega)) ⟨_, _, rfl, Int.ediv_nonneg hu (by omega), hv, hv2⟩⟩
  | false =>
    simp only [at2_0, at2_1, ixN2_0, ixN2_1, sSkip, sSeq, sIf, sRet, sRetN, sExpr, sAsg, sSetC, sFrz, sBrk, sCont, sRaise, sApp, sSetIx, sFor, sPar, putAll, pNil, pO, pF, startS, startM, oPur, oMut, oIni, own, ownR, use, uses, res, varR, bVar, bC, bOp, bUn, bCB, aNil, aCons, bAnd, bOr, bNot, bIf, bChain, tVal, tBl, wNot, wAnd, wOr, bTup, frz, fLst, oNil, oCons, bSl, oNone, oSome, bCall, fCall, bCallM, fComp, fCB, fRng, bTRng, gNm, gTp, setAll, iSeq, iRange, iEnum, iZip, seqOf, noCelB, wipeS, restore, qAdd, okAdd, vAdd, gSub, qMul, okMul, vMul, gDiv, gMod, gPow, gLt, gGt, gGe, qLe, okLe, vLe, gEq, gNe, qIs, okIs, vIs, qIsNot, gNeg, qLen, okLen, vLen, gAll, gAny, gSum, gMax, qMin, okMin, vMin, qInt, okInt, vInt, qBool, okBool, vBool, qTuple, seq1, qIsi, okIsi, vIsi, qIx, ixR, qSl, okSl, vSl, qIn, okIn, vIn, qNotIn, gLenSet, jList, jSrt, truD, isNonD, List.getElem?_cons_zero, List.getElem?_cons_succ, List.set_cons_zero, List.set_cons_succ, List.length_cons, List.length_nil, List.map_cons, List.map_nil, List.replicate, List.append_nil, List.nil_append, List.cons_append, Nat.reduceAdd, Nat.reduceSub, Nat.reduceLT, Nat.reduceLeDiff, Nat.zero_lt_succ, true_and, and_true, Bool.false_eq_true, if_true, if_false, Nat.zero_add, Nat.add_one_sub_one, Nat.sub_self, reduceIte, Nat.lt_add_left_iff_pos, eq_self, String.reduceBEq, Bool.not_true, Bool.not_false, Bool.or_self, Bool.or_false, Bool.or_true, Bool.true_or, Bool.false_or, Bool.and_true, Bool.true_and, Bool.and_false, Bool.false_and, ite_true, ite_false]
    have n0 : 0 ≤ (v * 44497 + 9973) % 2147483647 := Int.emod_nonneg _ (by omega)
    have n1 : (v * 44497 + 9973) % 2147483647 < 2147483647 := Int.emod_lt_of_pos _ (by omega)
    refine ⟨.inr (by decide), by decide, .inl ⟨by omega, by omega⟩, by decide, ⟨by decide, by decide⟩, by omega, _, rfl, ?_⟩
    exact q _ _ (Int.emod_nonneg _ (by omega)) (Int.emod_lt_of_pos _ (by omega)) ⟨_, _, rfl, hu, n0, by omega⟩
theorem ty__law_chosen (X : ED) (a : Addr) (d0 ds : List D) (Q : D → List D → Prop) (hl : ds.length + 1 = 2) (h : sp__law_chosen X d0 ds Q) : tr__law_chosen X (startM cx__law_chosen.N a d0 ds) (oMut a Q) := by
  obtain ⟨h0, s, xs, rfl, hs, hne, hlen, q⟩ := h
  unfold tr__law_chosen cx__law_chosen
  have hx : 0 < xs.length := List.length_pos_iff.mpr hne
  have fin : ∀ (x : Int) (d1 : List D), 0 ≤ x → x < (xs.length : Int) → okSrc d1 → ∃ z, atI xs x = some z ∧ Q z d1 := fun x d1 hx0 hx1 h1 => by
    obtain ⟨n, rfl⟩ := Int.eq_ofNat_of_zero_le hx0
    have hn : n < xs.length := by omega
    refine ⟨xs[n], ?_, q _ _ (List.getElem_mem hn) h1⟩
    rw [atI_nat hn, List.getElem?_eq_getElem hn]
  cases s with
  | list ys =>
    cases hs
    simp only [sp__law_pick, sSkip, sSeq, sIf, sRet, sRetN, sExpr, sAsg, sSetC, sFrz, sBrk, sCont, sRaise, sApp, sSetIx, sFor, sPar, putAll, pNil, pO, pF, startS, startM, oPur, oMut, oIni, own, ownR, use, uses, res, varR, bVar, bC, bOp, bUn, bCB, aNil, aCons, bAnd, bOr, bNot, bIf, bChain, tVal, tBl, wNot, wAnd, wOr, bTup, frz, fLst, oNil, oCons, bSl, oNone, oSome, bCall, fCall, bCallM, fComp, fCB, fRng, bTRng, gNm, gTp, setAll, iSeq, iRange, iEnum, iZip, seqOf, noCelB, wipeS, restore, qAdd, okAdd, vAdd, gSub, qMul, okMul, vMul, gDiv, gMod, gPow, gLt, gGt, gGe, qLe, okLe, vLe, gEq, gNe, qIs, okIs, vIs, qIsNot, gNeg, qLen, okLen, vLen, gAll, gAny, gSum, gMax, qMin, okMin, vMin, qInt, okInt, vInt, qBool, okBool, vBool, qTuple, seq1, qIsi, okIsi, vIsi, qIx, ixR, qSl, okSl, vSl, qIn, okIn, vIn, qNotIn, gLenSet, jList, jSrt, truD, isNonD, List.getElem?_cons_zero, List.getElem?_cons_succ, List.set_cons_zero, List.set_cons_succ, List.length_cons, List.length_nil, List.map_cons, List.map_nil, List.replicate, List.append_nil, List.nil_append, List.cons_append, Nat.reduceAdd, Nat.reduceSub, Nat.reduceLT, Nat.reduceLeDiff, Nat.zero_lt_succ, true_and, and_true, Bool.false_eq_true, if_true, if_false, Nat.zero_add, Nat.add_one_sub_one, Nat.sub_self, reduceIte, Nat.lt_add_left_iff_pos, eq_self, String.reduceBEq, Bool.not_true, Bool.not_false, Bool.or_self, Bool.or_false, Bool.or_true, Bool.true_or, Bool.false_or, Bool.and_true, Bool.true_and, Bool.and_false, Bool.false_and, ite_true, ite_false]
    refine ⟨h0, _, rfl, by omega, by omega, fun x d1 hx0 hx1 h1 => ?_⟩
    obtain ⟨z, e, hq⟩ := fin x d1 hx0 hx1 h1
    simp only [e, sSkip, sSeq, sIf, sRet, sRetN, sExpr, sAsg, sSetC, sFrz, sBrk, sCont, sRaise, sApp, sSetIx, sFor, sPar, putAll, pNil, pO, pF, startS, startM, oPur, oMut, oIni, own, ownR, use, uses, res, varR, bVar, bC, bOp, bUn, bCB, aNil, aCons, bAnd, bOr, bNot, bIf, bChain, tVal, tBl, wNot, wAnd, wOr, bTup, frz, fLst, oNil, oCons, bSl, oNone, oSome, bCall, fCall, bCallM, fComp, fCB, fRng, bTRng, gNm, gTp, setAll, iSeq, iRange, iEnum, iZip, seqOf, noCelB, wipeS, restore, qAdd, okAdd, vAdd, gSub, qMul, okMul, vMul, gDiv, gMod, gPow, gLt, gGt, gGe, qLe, okLe, vLe, gEq, gNe, qIs, okIs, vIs, qIsNot, gNeg, qLen, okLen, vLen, gAll, gAny, gSum, gMax, qMin, okMin, vMin, qInt, okInt, vInt, qBool, okBool, vBool, qTuple, seq1, qIsi, okIsi, vIsi, qIx, ixR, qSl, okSl, vSl, qIn, okIn, vIn, qNotIn, gLenSet, jList, jSrt, truD, isNonD, List.getElem?_cons_zero, List.getElem?_cons_succ, List.set_cons_zero, List.set_cons_succ, List.length_cons, List.length_nil, List.map_cons, List.map_nil, List.replicate, List.append_nil, List.nil_append, List.cons_append, Nat.reduceAdd, Nat.reduceSub, Nat.reduceLT, Nat.reduceLeDiff, Nat.zero_lt_succ, true_and, and_true, Bool.false_eq_true, if_true, if_false, Nat.zero_add, Nat.add_one_sub_one, Nat.sub_self, reduceIte, Nat.lt_add_left_iff_pos, eq_self, String.reduceBEq, Bool.not_true, Bool.not_false, Bool.or_self, Bool.or_false, Bool.or_true, Bool.true_or, Bool.false_or, Bool.and_true, Bool.true_and, Bool.and_false, Bool.false_and, ite_true, ite_false]
    exact ⟨_, rfl, hq⟩
  | tuple ys =>
    cases hs
    simp only [sp__law_pick, sSkip, sSeq, sIf, sRet, sRetN, sExpr, sAsg, sSetC, sFrz, sBrk, sCont, sRaise, sApp, sSetIx, sFor, sPar, putAll, pNil, pO, pF, startS, startM, oPur, oMut, oIni, own, ownR, use, uses, res, varR, bVar, bC, bOp, bUn, bCB, aNil, aCons, bAnd, bOr, bNot, bIf, bChain, tVal, tBl, wNot, wAnd, wOr, bTup, frz, fLst, oNil, oCons, bSl, oNone, oSome, bCall, fCall, bCallM, fComp, fCB, fRng, bTRng, gNm, gTp, setAll, iSeq, iRange, iEnum, iZip, seqOf, noCelB, wipeS, restore, qAdd, okAdd, vAdd, gSub, qMul, okMul, vMul, gDiv, gMod, gPow, gLt, gGt, gGe, qLe, okLe, vLe, gEq, gNe, qIs, okIs, vIs, qIsNot, gNeg, qLen, okLen, vLen, gAll, gAny, gSum, gMax, qMin, okMin, vMin, qInt, okInt, vInt, qBool, okBool, vBool, qTuple, seq1, qIsi, okIsi, vIsi, qIx, ixR, qSl, okSl, vSl, qIn, okIn, vIn, qNotIn, gLenSet, jList, jSrt, truD, isNonD, List.getElem?_cons_zero, List.getElem?_cons_succ, List.set_cons_zero, List.set_cons_succ, List.length_cons, List.length_nil, List.map_cons, List.map_nil, List.replicate, List.append_nil, List.nil_append, List.cons_append, Nat.reduceAdd, Nat.reduceSub, Nat.reduceLT, Nat.reduceLeDiff, Nat.zero_lt_succ, true_and, and_true, Bool.false_eq_true, if_true, if_false, Nat.zero_add, Nat.add_one_sub_one, Nat.sub_self, reduceIte, Nat.lt_add_left_iff_pos, eq_self, String.reduceBEq, Bool.not_true, Bool.not_false, Bool.or_self, Bool.or_false, Bool.or_true, Bool.true_or, Bool.false_or, Bool.and_true, Bool.true_and, Bool.and_false, Bool.false_and, ite_true, ite_false]
    refine ⟨h0, _, rfl, by omega, by omega, fun x d1 hx0 hx1 h1 => ?_⟩
    obtain ⟨z, e, hq⟩ := fin x d1 hx0 hx1 h1
    simp only [e, sSkip, sSeq, sIf, sRet, sRetN, sExpr, sAsg, sSetC, sFrz, sBrk, sCont, sRaise, sApp, sSetIx, sFor, sPar, putAll, pNil, pO, pF, startS, startM, oPur, oMut, oIni, own, ownR, use, uses, res, varR, bVar, bC, bOp, bUn, bCB, aNil, aCons, bAnd, bOr, bNot, bIf, bChain, tVal, tBl, wNot, wAnd, wOr, bTup, frz, fLst, oNil, oCons, bSl, oNone, oSome, bCall, fCall, bCallM, fComp, fCB, fRng, bTRng, gNm, gTp, setAll, iSeq, iRange, iEnum, iZip, seqOf, noCelB, wipeS, restore, qAdd, okAdd, vAdd, gSub, qMul, okMul, vMul, gDiv, gMod, gPow, gLt, gGt, gGe, qLe, okLe, vLe, gEq, gNe, qIs, okIs, vIs, qIsNot, gNeg, qLen, okLen, vLen, gAll, gAny, gSum, gMax, qMin, okMin, vMin, qInt, okInt, vInt, qBool, okBool, vBool, qTuple, seq1, qIsi, okIsi, vIsi, qIx, ixR, qSl, okSl, vSl, qIn, okIn, vIn, qNotIn, gLenSet, jList, jSrt, truD, isNonD, List.getElem?_cons_zero, List.getElem?_cons_succ, List.set_cons_zero, List.set_cons_succ, List.length_cons, List.length_nil, List.map_cons, List.map_nil, List.replicate, List.append_nil, List.nil_append, List.cons_append, Nat.reduceAdd, Nat.reduceSub, Nat.reduceLT, Nat.reduceLeDiff, Nat.zero_lt_succ, true_and, and_true, Bool.false_eq_true, if_true, if_false, Nat.zero_add, Nat.add_one_sub_one, Nat.sub_self, reduceIte, Nat.lt_add_left_iff_pos, eq_self, String.reduceBEq, Bool.not_true, Bool.not_false, Bool.or_self, Bool.or_false, Bool.or_true, Bool.true_or, Bool.false_or, Bool.and_true, Bool.true_and, Bool.and_false, Bool.false_and, ite_true, ite_false]
    exact ⟨_, rfl, hq⟩
  | _ => simp [seqOf] at hs
theorem ty__law_is_bool (X : ED) (ds : List D) (Q : D → Prop) (hl : ds.length = 2) (h : sp__law_is_bool X ds Q) : tr__law_is_bool X (startS cx__law_is_bool.N ds) (oPur Q) := by
  unfold sp__law_is_bool at h
  split at h
  · rename_i a b
    unfold tr__law_is_bool cx__law_is_bool
    simp only [sSkip, sSeq, sIf, sRet, sRetN, sExpr, sAsg, sSetC, sFrz, sBrk, sCont, sRaise, sApp, sSetIx, sFor, sPar, putAll, pNil, pO, pF, startS, startM, oPur, oMut, oIni, own, ownR, use, uses, res, varR, bVar, bC, bOp, bUn, bCB, aNil, aCons, bAnd, bOr, bNot, bIf, bChain, tVal, tBl, wNot, wAnd, wOr, bTup, frz, fLst, oNil, oCons, bSl, oNone, oSome, bCall, fCall, bCallM, fComp, fCB, fRng, bTRng, gNm, gTp, setAll, iSeq, iRange, iEnum, iZip, seqOf, noCelB, wipeS, restore, qAdd, okAdd, vAdd, gSub, qMul, okMul, vMul, gDiv, gMod, gPow, gLt, gGt, gGe, qLe, okLe, vLe, gEq, gNe, qIs, okIs, vIs, qIsNot, gNeg, qLen, okLen, vLen, gAll, gAny, gSum, gMax, qMin, okMin, vMin, qInt, okInt, vInt, qBool, okBool, vBool, qTuple, seq1, qIsi, okIsi, vIsi, qIx, ixR, qSl, okSl, vSl, qIn, okIn, vIn, qNotIn, gLenSet, jList, jSrt, truD, isNonD, List.getElem?_cons_zero, List.getElem?_cons_succ, List.set_cons_zero, List.set_cons_succ, List.length_cons, List.length_nil, List.map_cons, List.map_nil, List.replicate, List.append_nil, List.nil_append, List.cons_append, Nat.reduceAdd, Nat.reduceSub, Nat.reduceLT, Nat.reduceLeDiff, Nat.zero_lt_succ, true_and, and_true, Bool.false_eq_true, if_true, if_false, Nat.zero_add, Nat.add_one_sub_one, Nat.sub_self, reduceIte, Nat.lt_add_left_iff_pos, eq_self, String.reduceBEq, Bool.not_true, Bool.not_false, Bool.or_self, Bool.or_false, Bool.or_true, Bool.true_or, Bool.false_or, Bool.and_true, Bool.true_and, Bool.and_false, Bool.false_and, ite_true, ite_false]
    refine ⟨shp_bool, shp_bool, ?_⟩
    rw [PyData.eqv]
    exact h
  · exact h.elim
theorem ty__law_whole (X : ED) (ds : List D) (Q : D → Prop) (hl : ds.length = 3) (h : sp__law_whole X ds Q) : tr__law_whole X (startS cx__law_whole.N ds) (oPur Q) := by
  unfold sp__law_whole sp_is_int at h
  split at h
  · rename_i v lo hi
    obtain ⟨hs, q⟩ := h
    unfold tr__law_whole cx__law_whole
    cases v with
    | dict kvs => exact (not_dict hs).elim
    | int i => simp only [sSkip, sSeq, sIf, sRet, sRetN, sExpr, sAsg, sSetC, sFrz, sBrk, sCont, sRaise, sApp, sSetIx, sFor, sPar, putAll, pNil, pO, pF, startS, startM, oPur, oMut, oIni, own, ownR, use, uses, res, varR, bVar, bC, bOp, bUn, bCB, aNil, aCons, bAnd, bOr, bNot, bIf, bChain, tVal, tBl, wNot, wAnd, wOr, bTup, frz, fLst, oNil, oCons, bSl, oNone, oSome, bCall, fCall, bCallM, fComp, fCB, fRng, bTRng, gNm, gTp, setAll, iSeq, iRange, iEnum, iZip, seqOf, noCelB, wipeS, restore, qAdd, okAdd, vAdd, gSub, qMul, okMul, vMul, gDiv, gMod, gPow, gLt, gGt, gGe, qLe, okLe, vLe, gEq, gNe, qIs, okIs, vIs, qIsNot, gNeg, qLen, okLen, vLen, gAll, gAny, gSum, gMax, qMin, okMin, vMin, qInt, okInt, vInt, qBool, okBool, vBool, qTuple, seq1, qIsi, okIsi, vIsi, qIx, ixR, qSl, okSl, vSl, qIn, okIn, vIn, qNotIn, gLenSet, jList, jSrt, truD, isNonD, List.getElem?_cons_zero, List.getElem?_cons_succ, List.set_cons_zero, List.set_cons_succ, List.length_cons, List.length_nil, List.map_cons, List.map_nil, List.replicate, List.append_nil, List.nil_append, List.cons_append, Nat.reduceAdd, Nat.reduceSub, Nat.reduceLT, Nat.reduceLeDiff, Nat.zero_lt_succ, true_and, and_true, Bool.false_eq_true, if_true, if_false, Nat.zero_add, Nat.add_one_sub_one, Nat.sub_self, reduceIte, Nat.lt_add_left_iff_pos, eq_self, String.reduceBEq, Bool.not_true, Bool.not_false, Bool.or_self, Bool.or_false, Bool.or_true, Bool.true_or, Bool.false_or, Bool.and_true, Bool.true_and, Bool.and_false, Bool.false_and, ite_true, ite_false]; exact ite_and q
    | _ => simp only [sSkip, sSeq, sIf, sRet, sRetN, sExpr, sAsg, sSetC, sFrz, sBrk, sCont, sRaise, sApp, sSetIx, sFor, sPar, putAll, pNil, pO, pF, startS, startM, oPur, oMut, oIni, own, ownR, use, uses, res, varR, bVar, bC, bOp, bUn, bCB, aNil, aCons, bAnd, bOr, bNot, bIf, bChain, tVal, tBl, wNot, wAnd, wOr, bTup, frz, fLst, oNil, oCons, bSl, oNone, oSome, bCall, fCall, bCallM, fComp, fCB, fRng, bTRng, gNm, gTp, setAll, iSeq, iRange, iEnum, iZip, seqOf, noCelB, wipeS, restore, qAdd, okAdd, vAdd, gSub, qMul, okMul, vMul, gDiv, gMod, gPow, gLt, gGt, gGe, qLe, okLe, vLe, gEq, gNe, qIs, okIs, vIs, qIsNot, gNeg, qLen, okLen, vLen, gAll, gAny, gSum, gMax, qMin, okMin, vMin, qInt, okInt, vInt, qBool, okBool, vBool, qTuple, seq1, qIsi, okIsi, vIsi, qIx, ixR, qSl, okSl, vSl, qIn, okIn, vIn, qNotIn, gLenSet, jList, jSrt, truD, isNonD, List.getElem?_cons_zero, List.getElem?_cons_succ, List.set_cons_zero, List.set_cons_succ, List.length_cons, List.length_nil, List.map_cons, List.map_nil, List.replicate, List.append_nil, List.nil_append, List.cons_append, Nat.reduceAdd, Nat.reduceSub, Nat.reduceLT, Nat.reduceLeDiff, Nat.zero_lt_succ, true_and, and_true, Bool.false_eq_true, if_true, if_false, Nat.zero_add, Nat.add_one_sub_one, Nat.sub_self, reduceIte, Nat.lt_add_left_iff_pos, eq_self, String.reduceBEq, Bool.not_true, Bool.not_false, Bool.or_self, Bool.or_false, Bool.or_true, Bool.true_or, Bool.false_or, Bool.and_true, Bool.true_and, Bool.and_false, Bool.false_and, ite_true, ite_false]; exact q
  · exact h.elim
def cx__law_source : Ctx := { N := ["_law_script", "_law_k", "_law_number", "_law_start"], Γ := [], C := [], R := [], ms := [] }
def tr__law_source : SW := (sSeq (sAsg (own (bC (.int 0))) (gNm 2))
  (sSeq (sIf (tBl (bOp gGt (bCB qLen (aCons (bVar 0) aNil)) (bVar 1)))
  (sAsg (own (bCB qInt (aCons (bOp qIx (bVar 0) (bVar 1)) aNil))) (gNm 2))
  sSkip)
  (sSeq (sAsg (own (bOp gMod (bOp qAdd (bOp qAdd (bOp qMul (bVar 2) (bC (.int 16807))) (bOp qMul (bC (.int 60919)) (bVar 1))) (bC (.int 31))) (bC (.int 2147481173)))) (gNm 3))
  (sAsg (own (bOp qAdd (bOp qAdd (bOp gMod (bOp qMul (bVar 3) (bVar 3)) (bC (.int 2147481151))) (bOp qMul (bC (.int 2)) (bVar 1))) (bC (.int 5)))) (gNm 3)))))
def wf__law_source : DA := (fLst (oCons (own (bIf (tBl (bOp gGe (bVar 2) (bOp gPow (bC (.int 10)) (bC (.int 18))))) (bVar 2) (bC (.int 0)))) (oCons (own (bVar 3)) oNil)))


theorem ty__law_source (X : ED) (ds : List D) (Q : List D → Prop) (hl : ds.length = 2) (h : sp__law_source X ds Q) : tr__law_source X (startS cx__law_source.N ds) (oIni fun ρ => wf__law_source X ρ fun zs _ => Q zs) := by
  obtain ⟨ns, k, rfl, hk, hk2, q⟩ := h
  unfold tr__law_source cx__law_source wf__law_source
  have fin : ∀ n : Int, ∀ s, 0 ≤ s → s < 2147483648 → Q [.int (if decide ((10 : Int) ^ Int.toNat 18 ≤ n) = true then n else 0), .int s] := fun n s h0 h1 => by
    refine q _ ⟨_, _, rfl, ?_, h0, h1⟩
    split
    · rename_i hc
      have := of_decide_eq_true hc
      have h2 : (0 : Int) ≤ (10 : Int) ^ Int.toNat 18 := by decide
      omega
    · exact Int.le_refl 0
  have sz : ∀ x : Int, 0 ≤ x % 2147481151 + 2 * k + 5 ∧ x % 2147481151 + 2 * k + 5 < 2147483648 := fun x => by
    have a0 : 0 ≤ x % 2147481151 := Int.emod_nonneg _ (by decide)
    have a1 : x % 2147481151 < 2147481151 := Int.emod_lt_of_pos _ (by decide)
    omega
  have m31 : ∀ x : Int, 0 ≤ x % 2147481173 ∧ x % 2147481173 < 2147481173 := fun x => ⟨Int.emod_nonneg _ (by decide), Int.emod_lt_of_pos _ (by decide)⟩
  have go : ∀ n : Int, (CMul n 16807 ∧ CMul 60919 k ∧ (0 : Int) < 2147481173) ∧ ∀ t : Int, 0 ≤ t ∧ t < 2147481173 → CMul t t ∧ (0 : Int) < 2147481151 ∧ CMul 2 k ∧ CPow 10 18 := fun n =>
    ⟨⟨.inr (by decide), .inl (by decide), by decide⟩, fun t ht => ⟨.inl ⟨by omega, by omega⟩, by decide, .inl (by decide), ⟨by decide, by decide, by decide⟩⟩⟩
  have fin2 : ∀ n x : Int, if decide ((10 : Int) ^ Int.toNat 18 ≤ n) = true then Q [.int n, .int (x % 2147481151 + 2 * k + 5)] else Q [.int 0, .int (x % 2147481151 + 2 * k + 5)] := fun n x => by
    have f := fin n _ (sz x).1 (sz x).2
    split
    · rename_i hc; rw [if_pos hc] at f; exact f
    · rename_i hc; rw [if_neg hc] at f; exact f
  simp only [sSkip, sSeq, sIf, sRet, sRetN, sExpr, sAsg, sSetC, sFrz, sBrk, sCont, sRaise, sApp, sSetIx, sFor, sPar, putAll, pNil, pO, pF, startS, startM, oPur, oMut, oIni, own, ownR, use, uses, res, varR, bVar, bC, bOp, bUn, bCB, aNil, aCons, bAnd, bOr, bNot, bIf, bChain, tVal, tBl, wNot, wAnd, wOr, bTup, frz, fLst, oNil, oCons, bSl, oNone, oSome, bCall, fCall, bCallM, fComp, fCB, fRng, bTRng, gNm, gTp, setAll, iSeq, iRange, iEnum, iZip, seqOf, noCelB, wipeS, restore, qAdd, okAdd, vAdd, gSub, qMul, okMul, vMul, gDiv, gMod, gPow, gLt, gGt, gGe, qLe, okLe, vLe, gEq, gNe, qIs, okIs, vIs, qIsNot, gNeg, qLen, okLen, vLen, gAll, gAny, gSum, gMax, qMin, okMin, vMin, qInt, okInt, vInt, qBool, okBool, vBool, qTuple, seq1, qIsi, okIsi, vIsi, qIx, ixR, qSl, okSl, vSl, qIn, okIn, vIn, qNotIn, gLenSet, jList, jSrt, truD, isNonD, List.getElem?_cons_zero, List.getElem?_cons_succ, List.set_cons_zero, List.set_cons_succ, List.length_cons, List.length_nil, List.map_cons, List.map_nil, List.replicate, List.append_nil, List.nil_append, List.cons_append, Nat.reduceAdd, Nat.reduceSub, Nat.reduceLT, Nat.reduceLeDiff, Nat.zero_lt_succ, true_and, and_true, Bool.false_eq_true, if_true, if_false, Nat.zero_add, Nat.add_one_sub_one, Nat.sub_self, reduceIte, Nat.lt_add_left_iff_pos, eq_self, String.reduceBEq, Bool.not_true, Bool.not_false, Bool.or_self, Bool.or_false, Bool.or_true, Bool.true_or, Bool.false_or, Bool.and_true, Bool.true_and, Bool.and_false, Bool.false_and, ite_true, ite_false]
  obtain ⟨kn, rfl⟩ := Int.eq_ofNat_of_zero_le hk
  cases hc : decide ((kn : Int) < ((ns.map PyData.int).length : Int)) with
  | true =>
    have hlt : kn < ns.length := by
      have := of_decide_eq_true hc
      rw [List.length_map] at this
      omega
    simp only [atI_map (d := 0) PyData.int hlt, sSkip, sSeq, sIf, sRet, sRetN, sExpr, sAsg, sSetC, sFrz, sBrk, sCont, sRaise, sApp, sSetIx, sFor, sPar, putAll, pNil, pO, pF, startS, startM, oPur, oMut, oIni, own, ownR, use, uses, res, varR, bVar, bC, bOp, bUn, bCB, aNil, aCons, bAnd, bOr, bNot, bIf, bChain, tVal, tBl, wNot, wAnd, wOr, bTup, frz, fLst, oNil, oCons, bSl, oNone, oSome, bCall, fCall, bCallM, fComp, fCB, fRng, bTRng, gNm, gTp, setAll, iSeq, iRange, iEnum, iZip, seqOf, noCelB, wipeS, restore, qAdd, okAdd, vAdd, gSub, qMul, okMul, vMul, gDiv, gMod, gPow, gLt, gGt, gGe, qLe, okLe, vLe, gEq, gNe, qIs, okIs, vIs, qIsNot, gNeg, qLen, okLen, vLen, gAll, gAny, gSum, gMax, qMin, okMin, vMin, qInt, okInt, vInt, qBool, okBool, vBool, qTuple, seq1, qIsi, okIsi, vIsi, qIx, ixR, qSl, okSl, vSl, qIn, okIn, vIn, qNotIn, gLenSet, jList, jSrt, truD, isNonD, List.getElem?_cons_zero, List.getElem?_cons_succ, List.set_cons_zero, List.set_cons_succ, List.length_cons, List.length_nil, List.map_cons, List.map_nil, List.replicate, List.append_nil, List.nil_append, List.cons_append, Nat.reduceAdd, Nat.reduceSub, Nat.reduceLT, Nat.reduceLeDiff, Nat.zero_lt_succ, true_and, and_true, Bool.false_eq_true, if_true, if_false, Nat.zero_add, Nat.add_one_sub_one, Nat.sub_self, reduceIte, Nat.lt_add_left_iff_pos, eq_self, String.reduceBEq, Bool.not_true, Bool.not_false, Bool.or_self, Bool.or_false, Bool.or_true, Bool.true_or, Bool.false_or, Bool.and_true, Bool.true_and, Bool.and_false, Bool.false_and, ite_true, ite_false]
    exact ⟨(go _).1.1, (go 0).1.2.1, by decide, ((go 0).2 _ (m31 _)).1, by decide, .inl (by decide), ((go 0).2 0 ⟨by decide, by decide⟩).2.2.2, fin2 _ _⟩
  | false =>
    simp only [sSkip, sSeq, sIf, sRet, sRetN, sExpr, sAsg, sSetC, sFrz, sBrk, sCont, sRaise, sApp, sSetIx, sFor, sPar, putAll, pNil, pO, pF, startS, startM, oPur, oMut, oIni, own, ownR, use, uses, res, varR, bVar, bC, bOp, bUn, bCB, aNil, aCons, bAnd, bOr, bNot, bIf, bChain, tVal, tBl, wNot, wAnd, wOr, bTup, frz, fLst, oNil, oCons, bSl, oNone, oSome, bCall, fCall, bCallM, fComp, fCB, fRng, bTRng, gNm, gTp, setAll, iSeq, iRange, iEnum, iZip, seqOf, noCelB, wipeS, restore, qAdd, okAdd, vAdd, gSub, qMul, okMul, vMul, gDiv, gMod, gPow, gLt, gGt, gGe, qLe, okLe, vLe, gEq, gNe, qIs, okIs, vIs, qIsNot, gNeg, qLen, okLen, vLen, gAll, gAny, gSum, gMax, qMin, okMin, vMin, qInt, okInt, vInt, qBool, okBool, vBool, qTuple, seq1, qIsi, okIsi, vIsi, qIx, ixR, qSl, okSl, vSl, qIn, okIn, vIn, qNotIn, gLenSet, jList, jSrt, truD, isNonD, List.getElem?_cons_zero, List.getElem?_cons_succ, List.set_cons_zero, List.set_cons_succ, List.length_cons, List.length_nil, List.map_cons, List.map_nil, List.replicate, List.append_nil, List.nil_append, List.cons_append, Nat.reduceAdd, Nat.reduceSub, Nat.reduceLT, Nat.reduceLeDiff, Nat.zero_lt_succ, true_and, and_true, Bool.false_eq_true, if_true, if_false, Nat.zero_add, Nat.add_one_sub_one, Nat.sub_self, reduceIte, Nat.lt_add_left_iff_pos, eq_self, String.reduceBEq, Bool.not_true, Bool.not_false, Bool.or_self, Bool.or_false, Bool.or_true, Bool.true_or, Bool.false_or, Bool.and_true, Bool.true_and, Bool.and_false, Bool.false_and, ite_true, ite_false]
    exact ⟨(go _).1.1, (go 0).1.2.1, by decide, ((go 0).2 _ (m31 _)).1, by decide, .inl (by decide), ((go 0).2 0 ⟨by decide, by decide⟩).2.2.2, fin2 _ _⟩
/-! ### the law's own measures -/
def momF (js : JL) : Int → Int → List Nat → List (Int × Int)
  | _, _, [] => []
  | fr, cl, n :: r => (max fr (cl - fstJ js n), max fr (cl - fstJ js n) + fstJ js n + sndJ js n) :: momF js (max fr (cl - fstJ js n) + fstJ js n) (max fr (cl - fstJ js n) + fstJ js n + sndJ js n) r
def momL (js : JL) (o : List Nat) : List (Int × Int) := momF js 0 0 o
def lawT (js : JL) (o : List Nat) : Int := ((momL js o).getLastD (0, 0)).2
def sp__law_moments : ED → List D → (D → Prop) → Prop := fun X ds P => ∃ js o, ds = [jobsD js, ordD o] ∧ inJ js o ∧ P (.list ((momL js o).map jobD))
def sp__law_time : ED → List D → (D → Prop) → Prop := fun X ds P => ∃ js o, ds = [jobsD js, ordD o] ∧ inJ js o ∧ P (.int (lawT js o))
def cx__law_moments : Ctx := { N := ["_law_jobs_so", "_law_order_so", "_law_free", "_law_clear", "_law_found", "_law_number", "_law_first", "_law_second", "_law_start"], Γ := [], C := [], R := [], ms := [4] }
def tr__law_moments : SW := (sSeq (sPar [2, 3, 4] (pO (own (bC (.int 0))) (pO (own (bC (.int 0))) (pF (fLst oNil) pNil))))
  (sSeq (sFor (iSeq (own (bVar 1))) (gNm 5)
  (sSeq (sAsg (own (bOp qIx (bVar 0) (bVar 5))) (gTp [6, 7]))
  (sSeq (sAsg (own (bCB gMax (aCons (bVar 2) (aCons (bOp gSub (bVar 3) (bVar 6)) aNil)))) (gNm 8))
  (sSeq (sPar [2, 3] (pO (own (bOp qAdd (bVar 8) (bVar 6))) (pO (own (bOp qAdd (bOp qAdd (bVar 8) (bVar 6)) (bVar 7))) pNil)))
  (sApp 4 (own (bTup (oCons (own (bVar 8)) (oCons (own (bVar 3)) oNil)))))))))
  (sRet (own (bVar 4)))))

def cx__law_time : Ctx := { N := ["_law_jobs_so", "_law_order_so", "_law_moments_here"], Γ := [("_law_moments", .pur 2 sp__law_moments)], C := [], R := [], ms := [] }
def tr__law_time : SW := (sSeq (sAsg (own (bCall sp__law_moments 2 (oCons (own (bVar 0)) (oCons (own (bVar 1)) oNil)))) (gNm 2))
  (sRet (own (bIf (tBl (bOp gNe (bVar 2) (frz (fLst oNil)))) (bOp qIx (bOp qIx (bVar 2) (bUn gNeg (bC (.int 1)))) (bC (.int 1))) (bC (.int 0))))))


theorem ty__law_moments (X : ED) (ds : List D) (Q : D → Prop) (hl : ds.length = 2) (h : sp__law_moments X ds Q) : tr__law_moments X (startS cx__law_moments.N ds) (oPur Q) := by
  obtain ⟨js, o, rfl, ⟨hi, hj, ho⟩, q⟩ := h
  unfold tr__law_moments cx__law_moments jobsD ordD
  simp only [sSkip, sSeq, sIf, sRet, sRetN, sExpr, sAsg, sSetC, sFrz, sBrk, sCont, sRaise, sApp, sSetIx, sFor, sPar, putAll, pNil, pO, pF, startS, startM, oPur, oMut, oIni, own, ownR, use, uses, res, varR, bVar, bC, bOp, bUn, bCB, aNil, aCons, bAnd, bOr, bNot, bIf, bChain, tVal, tBl, wNot, wAnd, wOr, bTup, frz, fLst, oNil, oCons, bSl, oNone, oSome, bCall, fCall, bCallM, fComp, fCB, fRng, bTRng, gNm, gTp, setAll, iSeq, iRange, iEnum, iZip, seqOf, noCelB, wipeS, restore, qAdd, okAdd, vAdd, gSub, qMul, okMul, vMul, gDiv, gMod, gPow, gLt, gGt, gGe, qLe, okLe, vLe, gEq, gNe, qIs, okIs, vIs, qIsNot, gNeg, qLen, okLen, vLen, gAll, gAny, gSum, gMax, qMin, okMin, vMin, qInt, okInt, vInt, qBool, okBool, vBool, qTuple, seq1, qIsi, okIsi, vIsi, qIx, ixR, qSl, okSl, vSl, qIn, okIn, vIn, qNotIn, gLenSet, jList, jSrt, truD, isNonD, List.getElem?_cons_zero, List.getElem?_cons_succ, List.set_cons_zero, List.set_cons_succ, List.length_cons, List.length_nil, List.map_cons, List.map_nil, List.replicate, List.append_nil, List.nil_append, List.cons_append, Nat.reduceAdd, Nat.reduceSub, Nat.reduceLT, Nat.reduceLeDiff, Nat.zero_lt_succ, true_and, and_true, Bool.false_eq_true, if_true, if_false, Nat.zero_add, Nat.add_one_sub_one, Nat.sub_self, reduceIte, Nat.lt_add_left_iff_pos, eq_self, String.reduceBEq, Bool.not_true, Bool.not_false, Bool.or_self, Bool.or_false, Bool.or_true, Bool.true_or, Bool.false_or, Bool.and_true, Bool.true_and, Bool.and_false, Bool.false_and, ite_true, ite_false]
  intro p
  refine for_inv (fun r ρ => ∃ (l : List Nat) (acc : List (Int × Int)) (fr cl : Int) (s5 s6 s7 s8 : SV) (p : Addr), r = l.map natD ∧ (∀ n ∈ l, n < js.length) ∧ acc.length + l.length ≤ 30 ∧ acc ++ momF js fr cl l = momL js o ∧
    ρ = [.dat (.tuple (js.map jobD)), .dat (.tuple (o.map natD)), .dat (.int fr), .dat (.int cl), .cel p (acc.map jobD), s5, s6, s7, s8]) ?_ ?_ _ _ ⟨o, [], 0, 0, .un, .un, .un, .un, p, rfl, hi, by simpa using ho, rfl, rfl⟩
  · rintro d r ρ C ⟨l, acc, fr, cl, s5, s6, s7, s8, p, er, hp, hn, ha, rfl⟩ k
    cases l with
    | nil => cases er
    | cons n l =>
      obtain ⟨rfl, rfl⟩ : d = natD n ∧ r = l.map natD := by simpa using er
      have hn1 := hp n List.mem_cons_self
      have hn' : acc.length + (l.length + 1) ≤ 30 := by simpa using hn
      simp only [natD, at_jobs hn1, sSkip, sSeq, sIf, sRet, sRetN, sExpr, sAsg, sSetC, sFrz, sBrk, sCont, sRaise, sApp, sSetIx, sFor, sPar, putAll, pNil, pO, pF, startS, startM, oPur, oMut, oIni, own, ownR, use, uses, res, varR, bVar, bC, bOp, bUn, bCB, aNil, aCons, bAnd, bOr, bNot, bIf, bChain, tVal, tBl, wNot, wAnd, wOr, bTup, frz, fLst, oNil, oCons, bSl, oNone, oSome, bCall, fCall, bCallM, fComp, fCB, fRng, bTRng, gNm, gTp, setAll, iSeq, iRange, iEnum, iZip, seqOf, noCelB, wipeS, restore, qAdd, okAdd, vAdd, gSub, qMul, okMul, vMul, gDiv, gMod, gPow, gLt, gGt, gGe, qLe, okLe, vLe, gEq, gNe, qIs, okIs, vIs, qIsNot, gNeg, qLen, okLen, vLen, gAll, gAny, gSum, gMax, qMin, okMin, vMin, qInt, okInt, vInt, qBool, okBool, vBool, qTuple, seq1, qIsi, okIsi, vIsi, qIx, ixR, qSl, okSl, vSl, qIn, okIn, vIn, qNotIn, gLenSet, jList, jSrt, truD, isNonD, List.getElem?_cons_zero, List.getElem?_cons_succ, List.set_cons_zero, List.set_cons_succ, List.length_cons, List.length_nil, List.map_cons, List.map_nil, List.replicate, List.append_nil, List.nil_append, List.cons_append, Nat.reduceAdd, Nat.reduceSub, Nat.reduceLT, Nat.reduceLeDiff, Nat.zero_lt_succ, true_and, and_true, Bool.false_eq_true, if_true, if_false, Nat.zero_add, Nat.add_one_sub_one, Nat.sub_self, reduceIte, Nat.lt_add_left_iff_pos, eq_self, String.reduceBEq, Bool.not_true, Bool.not_false, Bool.or_self, Bool.or_false, Bool.or_true, Bool.true_or, Bool.false_or, Bool.and_true, Bool.true_and, Bool.and_false, Bool.false_and, ite_true, ite_false]
      refine ⟨by rw [List.length_map]; omega, ?_⟩
      refine k _ ⟨l, acc ++ [(max fr (cl - fstJ js n), max fr (cl - fstJ js n) + fstJ js n + sndJ js n)], max fr (cl - fstJ js n) + fstJ js n, max fr (cl - fstJ js n) + fstJ js n + sndJ js n,
        .dat (.int ((n : Nat) : Int)), .dat (.int (fstJ js n)), .dat (.int (sndJ js n)), .dat (.int (max fr (cl - fstJ js n))), p, rfl, fun m hm => hp m (List.mem_cons_of_mem _ hm), by simp; omega, ?_, ?_⟩
      · rw [← ha]
        simp [momF]
      · simp [jobD]
  · rintro ρ ⟨l, acc, fr, cl, s5, s6, s7, s8, p, er, _, _, ha, rfl⟩
    have el : l = [] := by cases l with | nil => rfl | cons a l => cases er
    subst el
    have ea : acc = momL js o := by rw [← ha]; simp [momF]
    subst ea
    simp only [sSkip, sSeq, sIf, sRet, sRetN, sExpr, sAsg, sSetC, sFrz, sBrk, sCont, sRaise, sApp, sSetIx, sFor, sPar, putAll, pNil, pO, pF, startS, startM, oPur, oMut, oIni, own, ownR, use, uses, res, varR, bVar, bC, bOp, bUn, bCB, aNil, aCons, bAnd, bOr, bNot, bIf, bChain, tVal, tBl, wNot, wAnd, wOr, bTup, frz, fLst, oNil, oCons, bSl, oNone, oSome, bCall, fCall, bCallM, fComp, fCB, fRng, bTRng, gNm, gTp, setAll, iSeq, iRange, iEnum, iZip, seqOf, noCelB, wipeS, restore, qAdd, okAdd, vAdd, gSub, qMul, okMul, vMul, gDiv, gMod, gPow, gLt, gGt, gGe, qLe, okLe, vLe, gEq, gNe, qIs, okIs, vIs, qIsNot, gNeg, qLen, okLen, vLen, gAll, gAny, gSum, gMax, qMin, okMin, vMin, qInt, okInt, vInt, qBool, okBool, vBool, qTuple, seq1, qIsi, okIsi, vIsi, qIx, ixR, qSl, okSl, vSl, qIn, okIn, vIn, qNotIn, gLenSet, jList, jSrt, truD, isNonD, List.getElem?_cons_zero, List.getElem?_cons_succ, List.set_cons_zero, List.set_cons_succ, List.length_cons, List.length_nil, List.map_cons, List.map_nil, List.replicate, List.append_nil, List.nil_append, List.cons_append, Nat.reduceAdd, Nat.reduceSub, Nat.reduceLT, Nat.reduceLeDiff, Nat.zero_lt_succ, true_and, and_true, Bool.false_eq_true, if_true, if_false, Nat.zero_add, Nat.add_one_sub_one, Nat.sub_self, reduceIte, Nat.lt_add_left_iff_pos, eq_self, String.reduceBEq, Bool.not_true, Bool.not_false, Bool.or_self, Bool.or_false, Bool.or_true, Bool.true_or, Bool.false_or, Bool.and_true, Bool.true_and, Bool.and_false, Bool.false_and, ite_true, ite_false]
    exact q
theorem mom_len (js : JL) : ∀ (o : List Nat) (fr cl : Int), (momF js fr cl o).length = o.length
  | [], _, _ => rfl
  | n :: o, fr, cl => by simp [momF, mom_len js o]
theorem shp_jobs {js : JL} : shp (.list (js.map jobD)) = true := ((okD_list (n := 1)).mpr fun d hd => by
  obtain ⟨p, _, rfl⟩ := List.mem_map.mp hd
  exact okD_tuple.mpr fun x hx => by
    simp only [List.mem_cons, List.not_mem_nil, or_false] at hx
    rcases hx with rfl | rfl <;> exact okD_int).shp
theorem shp_nilL : shp (.list []) = true := ((okD_list (n := 0)).mpr (by simp)).shp
theorem eqv_nilL {ds : List D} : PyData.eqv (.list ds) (.list []) = ds.isEmpty := by
  cases ds <;> simp [PyData.eqv, PyData.eqvAll]
theorem at_lastL {ms : List (Int × Int)} (h : ms ≠ []) : atI (ms.map jobD) (-1) = some (.tuple [.int (ms.getLastD (0, 0)).1, .int (ms.getLastD (0, 0)).2]) := by
  unfold atI ixN
  have hl : 0 < ms.length := List.length_pos_iff.mpr h
  rw [if_neg (by omega), if_pos (by simp; omega)]
  show (ms.map jobD)[_]? = _
  rw [List.getElem?_map]
  have e : ((-1 : Int) + ((ms.map jobD).length : Int)).toNat = ms.length - 1 := by simp; omega
  rw [e, List.getLastD_eq_getLast?, List.getLast?_eq_getElem?, List.getElem?_eq_getElem (by omega)]
  rfl
theorem ty__law_time (X : ED) (ds : List D) (Q : D → Prop) (hl : ds.length = 2) (h : sp__law_time X ds Q) : tr__law_time X (startS cx__law_time.N ds) (oPur Q) := by
  obtain ⟨js, o, rfl, hin, q⟩ := h
  unfold tr__law_time cx__law_time
  simp only [sp__law_moments, sSkip, sSeq, sIf, sRet, sRetN, sExpr, sAsg, sSetC, sFrz, sBrk, sCont, sRaise, sApp, sSetIx, sFor, sPar, putAll, pNil, pO, pF, startS, startM, oPur, oMut, oIni, own, ownR, use, uses, res, varR, bVar, bC, bOp, bUn, bCB, aNil, aCons, bAnd, bOr, bNot, bIf, bChain, tVal, tBl, wNot, wAnd, wOr, bTup, frz, fLst, oNil, oCons, bSl, oNone, oSome, bCall, fCall, bCallM, fComp, fCB, fRng, bTRng, gNm, gTp, setAll, iSeq, iRange, iEnum, iZip, seqOf, noCelB, wipeS, restore, qAdd, okAdd, vAdd, gSub, qMul, okMul, vMul, gDiv, gMod, gPow, gLt, gGt, gGe, qLe, okLe, vLe, gEq, gNe, qIs, okIs, vIs, qIsNot, gNeg, qLen, okLen, vLen, gAll, gAny, gSum, gMax, qMin, okMin, vMin, qInt, okInt, vInt, qBool, okBool, vBool, qTuple, seq1, qIsi, okIsi, vIsi, qIx, ixR, qSl, okSl, vSl, qIn, okIn, vIn, qNotIn, gLenSet, jList, jSrt, truD, isNonD, List.getElem?_cons_zero, List.getElem?_cons_succ, List.set_cons_zero, List.set_cons_succ, List.length_cons, List.length_nil, List.map_cons, List.map_nil, List.replicate, List.append_nil, List.nil_append, List.cons_append, Nat.reduceAdd, Nat.reduceSub, Nat.reduceLT, Nat.reduceLeDiff, Nat.zero_lt_succ, true_and, and_true, Bool.false_eq_true, if_true, if_false, Nat.zero_add, Nat.add_one_sub_one, Nat.sub_self, reduceIte, Nat.lt_add_left_iff_pos, eq_self, String.reduceBEq, Bool.not_true, Bool.not_false, Bool.or_self, Bool.or_false, Bool.or_true, Bool.true_or, Bool.false_or, Bool.and_true, Bool.true_and, Bool.and_false, Bool.false_and, ite_true, ite_false]
  refine ⟨js, o, rfl, hin, shp_jobs, shp_nilL, ?_⟩
  rw [eqv_nilL]
  unfold lawT at q
  by_cases e : momL js o = []
  · rw [e] at q ⊢
    simp only [List.isEmpty_nil, sSkip, sSeq, sIf, sRet, sRetN, sExpr, sAsg, sSetC, sFrz, sBrk, sCont, sRaise, sApp, sSetIx, sFor, sPar, putAll, pNil, pO, pF, startS, startM, oPur, oMut, oIni, own, ownR, use, uses, res, varR, bVar, bC, bOp, bUn, bCB, aNil, aCons, bAnd, bOr, bNot, bIf, bChain, tVal, tBl, wNot, wAnd, wOr, bTup, frz, fLst, oNil, oCons, bSl, oNone, oSome, bCall, fCall, bCallM, fComp, fCB, fRng, bTRng, gNm, gTp, setAll, iSeq, iRange, iEnum, iZip, seqOf, noCelB, wipeS, restore, qAdd, okAdd, vAdd, gSub, qMul, okMul, vMul, gDiv, gMod, gPow, gLt, gGt, gGe, qLe, okLe, vLe, gEq, gNe, qIs, okIs, vIs, qIsNot, gNeg, qLen, okLen, vLen, gAll, gAny, gSum, gMax, qMin, okMin, vMin, qInt, okInt, vInt, qBool, okBool, vBool, qTuple, seq1, qIsi, okIsi, vIsi, qIx, ixR, qSl, okSl, vSl, qIn, okIn, vIn, qNotIn, gLenSet, jList, jSrt, truD, isNonD, List.getElem?_cons_zero, List.getElem?_cons_succ, List.set_cons_zero, List.set_cons_succ, List.length_cons, List.length_nil, List.map_cons, List.map_nil, List.replicate, List.append_nil, List.nil_append, List.cons_append, Nat.reduceAdd, Nat.reduceSub, Nat.reduceLT, Nat.reduceLeDiff, Nat.zero_lt_succ, true_and, and_true, Bool.false_eq_true, if_true, if_false, Nat.zero_add, Nat.add_one_sub_one, Nat.sub_self, reduceIte, Nat.lt_add_left_iff_pos, eq_self, String.reduceBEq, Bool.not_true, Bool.not_false, Bool.or_self, Bool.or_false, Bool.or_true, Bool.true_or, Bool.false_or, Bool.and_true, Bool.true_and, Bool.and_false, Bool.false_and, ite_true, ite_false]
    exact q
  · have e2 : ((momL js o).map jobD).isEmpty = false := by
      cases hm : momL js o with
      | nil => exact absurd hm e
      | cons a b => rfl
    rw [e2]
    simp only [at_lastL e, at2_1, sSkip, sSeq, sIf, sRet, sRetN, sExpr, sAsg, sSetC, sFrz, sBrk, sCont, sRaise, sApp, sSetIx, sFor, sPar, putAll, pNil, pO, pF, startS, startM, oPur, oMut, oIni, own, ownR, use, uses, res, varR, bVar, bC, bOp, bUn, bCB, aNil, aCons, bAnd, bOr, bNot, bIf, bChain, tVal, tBl, wNot, wAnd, wOr, bTup, frz, fLst, oNil, oCons, bSl, oNone, oSome, bCall, fCall, bCallM, fComp, fCB, fRng, bTRng, gNm, gTp, setAll, iSeq, iRange, iEnum, iZip, seqOf, noCelB, wipeS, restore, qAdd, okAdd, vAdd, gSub, qMul, okMul, vMul, gDiv, gMod, gPow, gLt, gGt, gGe, qLe, okLe, vLe, gEq, gNe, qIs, okIs, vIs, qIsNot, gNeg, qLen, okLen, vLen, gAll, gAny, gSum, gMax, qMin, okMin, vMin, qInt, okInt, vInt, qBool, okBool, vBool, qTuple, seq1, qIsi, okIsi, vIsi, qIx, ixR, qSl, okSl, vSl, qIn, okIn, vIn, qNotIn, gLenSet, jList, jSrt, truD, isNonD, List.getElem?_cons_zero, List.getElem?_cons_succ, List.set_cons_zero, List.set_cons_succ, List.length_cons, List.length_nil, List.map_cons, List.map_nil, List.replicate, List.append_nil, List.nil_append, List.cons_append, Nat.reduceAdd, Nat.reduceSub, Nat.reduceLT, Nat.reduceLeDiff, Nat.zero_lt_succ, true_and, and_true, Bool.false_eq_true, if_true, if_false, Nat.zero_add, Nat.add_one_sub_one, Nat.sub_self, reduceIte, Nat.lt_add_left_iff_pos, eq_self, String.reduceBEq, Bool.not_true, Bool.not_false, Bool.or_self, Bool.or_false, Bool.or_true, Bool.true_or, Bool.false_or, Bool.and_true, Bool.true_and, Bool.and_false, Bool.false_and, ite_true, ite_false]
    exact q
def sp__law_is_jobs : ED → List D → (D → Prop) → Prop := sp_are_jobs
def sp__law_is_order : ED → List D → (D → Prop) → Prop := fun X ds P => match ds with
  | [.tuple js, v] => js.length ≤ 30 ∧ shp v = true ∧ P (.bool (ordB js.length v))
  | _ => False
def cx__law_is_jobs : Ctx := { N := ["_law_value", "_law_job", "_law_time_here"], Γ := [("_law_whole", .pur 3 sp__law_whole)], C := [], R := [], ms := [] }
def tr__law_is_jobs : SW := (sSeq (sIf (wOr (wNot (tVal (bUn (qIsi "tuple") (bVar 0)))) (wNot (tBl (bChain qLe qLe (bC (.int 1)) (bCB qLen (aCons (bVar 0) aNil)) (bC (.int 30))))))
  (sRet (own (bC (.bool false))))
  sSkip)
  (sSeq (sFor (iSeq (own (bVar 0))) (gNm 1)
  (sSeq (sIf (wOr (wNot (tVal (bUn (qIsi "tuple") (bVar 1)))) (tBl (bOp gNe (bCB qLen (aCons (bVar 1) aNil)) (bC (.int 2)))))
  (sRet (own (bC (.bool false))))
  sSkip)
  (sIf (tBl (bOp gNe (frz (fComp (iSeq (own (bVar 1))) (gNm 2) (wNot (tVal (bCall sp__law_whole 3 (oCons (own (bVar 2)) (oCons (own (bC (.int 0))) (oCons (own (bOp gPow (bC (.int 10)) (bC (.int 12)))) oNil)))))) (own (bVar 2)) [2])) (frz (fLst oNil))))
  (sRet (own (bC (.bool false))))
  sSkip)))
  (sRet (own (bC (.bool true))))))

def cx__law_is_order : Ctx := { N := ["_law_jobs_so", "_law_value", "_law_number"], Γ := [("_law_whole", .pur 3 sp__law_whole)], C := [], R := [], ms := [] }
def tr__law_is_order : SW := (sSeq (sIf (wOr (wNot (tVal (bUn (qIsi "tuple") (bVar 1)))) (tBl (bOp gNe (bCB qLen (aCons (bVar 1) aNil)) (bCB qLen (aCons (bVar 0) aNil)))))
  (sRet (own (bC (.bool false))))
  sSkip)
  (sSeq (sIf (tBl (bOp gNe (frz (fComp (iSeq (own (bVar 1))) (gNm 2) (wNot (tVal (bCall sp__law_whole 3 (oCons (own (bVar 2)) (oCons (own (bC (.int 0))) (oCons (own (bOp gSub (bCB qLen (aCons (bVar 0) aNil)) (bC (.int 1)))) oNil)))))) (own (bVar 2)) [2])) (frz (fLst oNil))))
  (sRet (own (bC (.bool false))))
  sSkip)
  (sRet (own (bOp gEq (frz (fCB jSrt (aCons (bVar 1) aNil))) (frz (fRng (bCB qLen (aCons (bVar 0) aNil)))))))))


theorem filt_nil {α : Type} {t : α → Bool} {l : List α} : (l.filter fun x => !t x).isEmpty = l.all t := by
  induction l with
  | nil => rfl
  | cons a l ih => cases h : t a <;> simp [List.filter_cons, h, ih]
theorem shp_filt {us : List D} {p : D → Bool} (h : shp (.tuple us) = true) : shp (.list (us.filter p)) = true := by
  have h1 := (okD_tuple (n := 63)).mp (shp_ok.mp h)
  exact ((okD_list (n := 63)).mpr fun d hd => h1 d (List.mem_filter.mp hd).1).shp
/-- the items that a test lets, themselves -/
theorem comp_filt {g : GW} {tt : TW} {te : DW} {vs : List Nat} {P : List D → List SV → Prop} {ρ : List SV} (t : D → Bool) (l : List D)
    (step : ∀ a ∈ l, ∀ (C : D → List SV → Prop) (C' : List SV → Prop), (t a = true → C a ρ) → (t a = false → C' ρ) → g a ρ fun ρ1 => tt (fun _ => False) ρ1 fun b ρ2 => if b = true then te (fun _ => False) ρ2 fun z ρ3 => C z (wipeS ρ3 vs) else C' (wipeS ρ2 vs))
    (h : P (l.filter t) ρ) : compL g tt te vs l [] ρ P := by
  have := comp_filtL (g := g) (tt := tt) (te := te) (vs := vs) (P := P) (ρ := ρ) id id t l step (by simpa using h)
  simpa using this
theorem ty__law_is_jobs (X : ED) (ds : List D) (Q : D → Prop) (hl : ds.length = 1) (h : sp__law_is_jobs X ds Q) : tr__law_is_jobs X (startS cx__law_is_jobs.N ds) (oPur Q) := by
  unfold sp__law_is_jobs sp_are_jobs at h
  split at h
  · rename_i v
    obtain ⟨hs, q⟩ := h
    unfold tr__law_is_jobs cx__law_is_jobs
    cases v with
    | dict kvs => exact (not_dict hs).elim
    | tuple ts =>
      simp only [sSkip, sSeq, sIf, sRet, sRetN, sExpr, sAsg, sSetC, sFrz, sBrk, sCont, sRaise, sApp, sSetIx, sFor, sPar, putAll, pNil, pO, pF, startS, startM, oPur, oMut, oIni, own, ownR, use, uses, res, varR, bVar, bC, bOp, bUn, bCB, aNil, aCons, bAnd, bOr, bNot, bIf, bChain, tVal, tBl, wNot, wAnd, wOr, bTup, frz, fLst, oNil, oCons, bSl, oNone, oSome, bCall, fCall, bCallM, fComp, fCB, fRng, bTRng, gNm, gTp, setAll, iSeq, iRange, iEnum, iZip, seqOf, noCelB, wipeS, restore, qAdd, okAdd, vAdd, gSub, qMul, okMul, vMul, gDiv, gMod, gPow, gLt, gGt, gGe, qLe, okLe, vLe, gEq, gNe, qIs, okIs, vIs, qIsNot, gNeg, qLen, okLen, vLen, gAll, gAny, gSum, gMax, qMin, okMin, vMin, qInt, okInt, vInt, qBool, okBool, vBool, qTuple, seq1, qIsi, okIsi, vIsi, qIx, ixR, qSl, okSl, vSl, qIn, okIn, vIn, qNotIn, gLenSet, jList, jSrt, truD, isNonD, List.getElem?_cons_zero, List.getElem?_cons_succ, List.set_cons_zero, List.set_cons_succ, List.length_cons, List.length_nil, List.map_cons, List.map_nil, List.replicate, List.append_nil, List.nil_append, List.cons_append, Nat.reduceAdd, Nat.reduceSub, Nat.reduceLT, Nat.reduceLeDiff, Nat.zero_lt_succ, true_and, and_true, Bool.false_eq_true, if_true, if_false, Nat.zero_add, Nat.add_one_sub_one, Nat.sub_self, reduceIte, Nat.lt_add_left_iff_pos, eq_self, String.reduceBEq, Bool.not_true, Bool.not_false, Bool.or_self, Bool.or_false, Bool.or_true, Bool.true_or, Bool.false_or, Bool.and_true, Bool.true_and, Bool.and_false, Bool.false_and, ite_true, ite_false]
      have e1 : decide ((1 : Int) ≤ (ts.length : Int)) = decide (1 ≤ ts.length) := by congr 1; simp; omega
      have e2 : decide ((ts.length : Int) ≤ 30) = decide (ts.length ≤ 30) := by congr 1; simp; omega
      rw [e1, e2]
      cases h1 : decide (1 ≤ ts.length) with
      | false => simp only [sSkip, sSeq, sIf, sRet, sRetN, sExpr, sAsg, sSetC, sFrz, sBrk, sCont, sRaise, sApp, sSetIx, sFor, sPar, putAll, pNil, pO, pF, startS, startM, oPur, oMut, oIni, own, ownR, use, uses, res, varR, bVar, bC, bOp, bUn, bCB, aNil, aCons, bAnd, bOr, bNot, bIf, bChain, tVal, tBl, wNot, wAnd, wOr, bTup, frz, fLst, oNil, oCons, bSl, oNone, oSome, bCall, fCall, bCallM, fComp, fCB, fRng, bTRng, gNm, gTp, setAll, iSeq, iRange, iEnum, iZip, seqOf, noCelB, wipeS, restore, qAdd, okAdd, vAdd, gSub, qMul, okMul, vMul, gDiv, gMod, gPow, gLt, gGt, gGe, qLe, okLe, vLe, gEq, gNe, qIs, okIs, vIs, qIsNot, gNeg, qLen, okLen, vLen, gAll, gAny, gSum, gMax, qMin, okMin, vMin, qInt, okInt, vInt, qBool, okBool, vBool, qTuple, seq1, qIsi, okIsi, vIsi, qIx, ixR, qSl, okSl, vSl, qIn, okIn, vIn, qNotIn, gLenSet, jList, jSrt, truD, isNonD, List.getElem?_cons_zero, List.getElem?_cons_succ, List.set_cons_zero, List.set_cons_succ, List.length_cons, List.length_nil, List.map_cons, List.map_nil, List.replicate, List.append_nil, List.nil_append, List.cons_append, Nat.reduceAdd, Nat.reduceSub, Nat.reduceLT, Nat.reduceLeDiff, Nat.zero_lt_succ, true_and, and_true, Bool.false_eq_true, if_true, if_false, Nat.zero_add, Nat.add_one_sub_one, Nat.sub_self, reduceIte, Nat.lt_add_left_iff_pos, eq_self, String.reduceBEq, Bool.not_true, Bool.not_false, Bool.or_self, Bool.or_false, Bool.or_true, Bool.true_or, Bool.false_or, Bool.and_true, Bool.true_and, Bool.and_false, Bool.false_and, ite_true, ite_false]; simpa [areJobsB, h1] using q
      | true =>
        simp only [sSkip, sSeq, sIf, sRet, sRetN, sExpr, sAsg, sSetC, sFrz, sBrk, sCont, sRaise, sApp, sSetIx, sFor, sPar, putAll, pNil, pO, pF, startS, startM, oPur, oMut, oIni, own, ownR, use, uses, res, varR, bVar, bC, bOp, bUn, bCB, aNil, aCons, bAnd, bOr, bNot, bIf, bChain, tVal, tBl, wNot, wAnd, wOr, bTup, frz, fLst, oNil, oCons, bSl, oNone, oSome, bCall, fCall, bCallM, fComp, fCB, fRng, bTRng, gNm, gTp, setAll, iSeq, iRange, iEnum, iZip, seqOf, noCelB, wipeS, restore, qAdd, okAdd, vAdd, gSub, qMul, okMul, vMul, gDiv, gMod, gPow, gLt, gGt, gGe, qLe, okLe, vLe, gEq, gNe, qIs, okIs, vIs, qIsNot, gNeg, qLen, okLen, vLen, gAll, gAny, gSum, gMax, qMin, okMin, vMin, qInt, okInt, vInt, qBool, okBool, vBool, qTuple, seq1, qIsi, okIsi, vIsi, qIx, ixR, qSl, okSl, vSl, qIn, okIn, vIn, qNotIn, gLenSet, jList, jSrt, truD, isNonD, List.getElem?_cons_zero, List.getElem?_cons_succ, List.set_cons_zero, List.set_cons_succ, List.length_cons, List.length_nil, List.map_cons, List.map_nil, List.replicate, List.append_nil, List.nil_append, List.cons_append, Nat.reduceAdd, Nat.reduceSub, Nat.reduceLT, Nat.reduceLeDiff, Nat.zero_lt_succ, true_and, and_true, Bool.false_eq_true, if_true, if_false, Nat.zero_add, Nat.add_one_sub_one, Nat.sub_self, reduceIte, Nat.lt_add_left_iff_pos, eq_self, String.reduceBEq, Bool.not_true, Bool.not_false, Bool.or_self, Bool.or_false, Bool.or_true, Bool.true_or, Bool.false_or, Bool.and_true, Bool.true_and, Bool.and_false, Bool.false_and, ite_true, ite_false]
        cases h2 : decide (ts.length ≤ 30) with
        | false => simp only [sSkip, sSeq, sIf, sRet, sRetN, sExpr, sAsg, sSetC, sFrz, sBrk, sCont, sRaise, sApp, sSetIx, sFor, sPar, putAll, pNil, pO, pF, startS, startM, oPur, oMut, oIni, own, ownR, use, uses, res, varR, bVar, bC, bOp, bUn, bCB, aNil, aCons, bAnd, bOr, bNot, bIf, bChain, tVal, tBl, wNot, wAnd, wOr, bTup, frz, fLst, oNil, oCons, bSl, oNone, oSome, bCall, fCall, bCallM, fComp, fCB, fRng, bTRng, gNm, gTp, setAll, iSeq, iRange, iEnum, iZip, seqOf, noCelB, wipeS, restore, qAdd, okAdd, vAdd, gSub, qMul, okMul, vMul, gDiv, gMod, gPow, gLt, gGt, gGe, qLe, okLe, vLe, gEq, gNe, qIs, okIs, vIs, qIsNot, gNeg, qLen, okLen, vLen, gAll, gAny, gSum, gMax, qMin, okMin, vMin, qInt, okInt, vInt, qBool, okBool, vBool, qTuple, seq1, qIsi, okIsi, vIsi, qIx, ixR, qSl, okSl, vSl, qIn, okIn, vIn, qNotIn, gLenSet, jList, jSrt, truD, isNonD, List.getElem?_cons_zero, List.getElem?_cons_succ, List.set_cons_zero, List.set_cons_succ, List.length_cons, List.length_nil, List.map_cons, List.map_nil, List.replicate, List.append_nil, List.nil_append, List.cons_append, Nat.reduceAdd, Nat.reduceSub, Nat.reduceLT, Nat.reduceLeDiff, Nat.zero_lt_succ, true_and, and_true, Bool.false_eq_true, if_true, if_false, Nat.zero_add, Nat.add_one_sub_one, Nat.sub_self, reduceIte, Nat.lt_add_left_iff_pos, eq_self, String.reduceBEq, Bool.not_true, Bool.not_false, Bool.or_self, Bool.or_false, Bool.or_true, Bool.true_or, Bool.false_or, Bool.and_true, Bool.true_and, Bool.and_false, Bool.false_and, ite_true, ite_false]; simpa [areJobsB, h1, h2] using q
        | true =>
          simp only [sSkip, sSeq, sIf, sRet, sRetN, sExpr, sAsg, sSetC, sFrz, sBrk, sCont, sRaise, sApp, sSetIx, sFor, sPar, putAll, pNil, pO, pF, startS, startM, oPur, oMut, oIni, own, ownR, use, uses, res, varR, bVar, bC, bOp, bUn, bCB, aNil, aCons, bAnd, bOr, bNot, bIf, bChain, tVal, tBl, wNot, wAnd, wOr, bTup, frz, fLst, oNil, oCons, bSl, oNone, oSome, bCall, fCall, bCallM, fComp, fCB, fRng, bTRng, gNm, gTp, setAll, iSeq, iRange, iEnum, iZip, seqOf, noCelB, wipeS, restore, qAdd, okAdd, vAdd, gSub, qMul, okMul, vMul, gDiv, gMod, gPow, gLt, gGt, gGe, qLe, okLe, vLe, gEq, gNe, qIs, okIs, vIs, qIsNot, gNeg, qLen, okLen, vLen, gAll, gAny, gSum, gMax, qMin, okMin, vMin, qInt, okInt, vInt, qBool, okBool, vBool, qTuple, seq1, qIsi, okIsi, vIsi, qIx, ixR, qSl, okSl, vSl, qIn, okIn, vIn, qNotIn, gLenSet, jList, jSrt, truD, isNonD, List.getElem?_cons_zero, List.getElem?_cons_succ, List.set_cons_zero, List.set_cons_succ, List.length_cons, List.length_nil, List.map_cons, List.map_nil, List.replicate, List.append_nil, List.nil_append, List.cons_append, Nat.reduceAdd, Nat.reduceSub, Nat.reduceLT, Nat.reduceLeDiff, Nat.zero_lt_succ, true_and, and_true, Bool.false_eq_true, if_true, if_false, Nat.zero_add, Nat.add_one_sub_one, Nat.sub_self, reduceIte, Nat.lt_add_left_iff_pos, eq_self, String.reduceBEq, Bool.not_true, Bool.not_false, Bool.or_self, Bool.or_false, Bool.or_true, Bool.true_or, Bool.false_or, Bool.and_true, Bool.true_and, Bool.and_false, Bool.false_and, ite_true, ite_false]
          have q' : Q (.bool (ts.all isJobB)) := by simpa [areJobsB, h1, h2] using q
          refine for_inv (fun r ρ => ∃ s1 : SV, (∀ d ∈ r, d ∈ ts) ∧ (r.all isJobB = ts.all isJobB) ∧ ρ = [.dat (.tuple ts), s1, .un]) ?_ ?_ _ _ ⟨.un, fun d h => h, rfl, rfl⟩
          · rintro d r ρ C ⟨s1, hm, ha, rfl⟩ k
            have hd := shp_of_tuple hs d (hm d List.mem_cons_self)
            have no : isJobB d = false → Q (.bool false) := fun hj => by
              rw [List.all_cons, hj, Bool.false_and] at ha
              rw [ha]; exact q'
            cases d with
            | dict kvs => exact (not_dict hd).elim
            | tuple us =>
              simp only [sSkip, sSeq, sIf, sRet, sRetN, sExpr, sAsg, sSetC, sFrz, sBrk, sCont, sRaise, sApp, sSetIx, sFor, sPar, putAll, pNil, pO, pF, startS, startM, oPur, oMut, oIni, own, ownR, use, uses, res, varR, bVar, bC, bOp, bUn, bCB, aNil, aCons, bAnd, bOr, bNot, bIf, bChain, tVal, tBl, wNot, wAnd, wOr, bTup, frz, fLst, oNil, oCons, bSl, oNone, oSome, bCall, fCall, bCallM, fComp, fCB, fRng, bTRng, gNm, gTp, setAll, iSeq, iRange, iEnum, iZip, seqOf, noCelB, wipeS, restore, qAdd, okAdd, vAdd, gSub, qMul, okMul, vMul, gDiv, gMod, gPow, gLt, gGt, gGe, qLe, okLe, vLe, gEq, gNe, qIs, okIs, vIs, qIsNot, gNeg, qLen, okLen, vLen, gAll, gAny, gSum, gMax, qMin, okMin, vMin, qInt, okInt, vInt, qBool, okBool, vBool, qTuple, seq1, qIsi, okIsi, vIsi, qIx, ixR, qSl, okSl, vSl, qIn, okIn, vIn, qNotIn, gLenSet, jList, jSrt, truD, isNonD, List.getElem?_cons_zero, List.getElem?_cons_succ, List.set_cons_zero, List.set_cons_succ, List.length_cons, List.length_nil, List.map_cons, List.map_nil, List.replicate, List.append_nil, List.nil_append, List.cons_append, Nat.reduceAdd, Nat.reduceSub, Nat.reduceLT, Nat.reduceLeDiff, Nat.zero_lt_succ, true_and, and_true, Bool.false_eq_true, if_true, if_false, Nat.zero_add, Nat.add_one_sub_one, Nat.sub_self, reduceIte, Nat.lt_add_left_iff_pos, eq_self, String.reduceBEq, Bool.not_true, Bool.not_false, Bool.or_self, Bool.or_false, Bool.or_true, Bool.true_or, Bool.false_or, Bool.and_true, Bool.true_and, Bool.and_false, Bool.false_and, ite_true, ite_false]
              refine ⟨shp_int, shp_int, ?_⟩
              rw [show ((2 : Int)) = ((2 : Nat) : Int) from rfl, eqv_len]
              cases h3 : us.length == 2 with
              | false => simp only [sSkip, sSeq, sIf, sRet, sRetN, sExpr, sAsg, sSetC, sFrz, sBrk, sCont, sRaise, sApp, sSetIx, sFor, sPar, putAll, pNil, pO, pF, startS, startM, oPur, oMut, oIni, own, ownR, use, uses, res, varR, bVar, bC, bOp, bUn, bCB, aNil, aCons, bAnd, bOr, bNot, bIf, bChain, tVal, tBl, wNot, wAnd, wOr, bTup, frz, fLst, oNil, oCons, bSl, oNone, oSome, bCall, fCall, bCallM, fComp, fCB, fRng, bTRng, gNm, gTp, setAll, iSeq, iRange, iEnum, iZip, seqOf, noCelB, wipeS, restore, qAdd, okAdd, vAdd, gSub, qMul, okMul, vMul, gDiv, gMod, gPow, gLt, gGt, gGe, qLe, okLe, vLe, gEq, gNe, qIs, okIs, vIs, qIsNot, gNeg, qLen, okLen, vLen, gAll, gAny, gSum, gMax, qMin, okMin, vMin, qInt, okInt, vInt, qBool, okBool, vBool, qTuple, seq1, qIsi, okIsi, vIsi, qIx, ixR, qSl, okSl, vSl, qIn, okIn, vIn, qNotIn, gLenSet, jList, jSrt, truD, isNonD, List.getElem?_cons_zero, List.getElem?_cons_succ, List.set_cons_zero, List.set_cons_succ, List.length_cons, List.length_nil, List.map_cons, List.map_nil, List.replicate, List.append_nil, List.nil_append, List.cons_append, Nat.reduceAdd, Nat.reduceSub, Nat.reduceLT, Nat.reduceLeDiff, Nat.zero_lt_succ, true_and, and_true, Bool.false_eq_true, if_true, if_false, Nat.zero_add, Nat.add_one_sub_one, Nat.sub_self, reduceIte, Nat.lt_add_left_iff_pos, eq_self, String.reduceBEq, Bool.not_true, Bool.not_false, Bool.or_self, Bool.or_false, Bool.or_true, Bool.true_or, Bool.false_or, Bool.and_true, Bool.true_and, Bool.and_false, Bool.false_and, ite_true, ite_false]; exact no (by simp [isJobB, h3])
              | true =>
                have h4 : us.length = 2 := by simpa using h3
                simp only [CPow, sSkip, sSeq, sIf, sRet, sRetN, sExpr, sAsg, sSetC, sFrz, sBrk, sCont, sRaise, sApp, sSetIx, sFor, sPar, putAll, pNil, pO, pF, startS, startM, oPur, oMut, oIni, own, ownR, use, uses, res, varR, bVar, bC, bOp, bUn, bCB, aNil, aCons, bAnd, bOr, bNot, bIf, bChain, tVal, tBl, wNot, wAnd, wOr, bTup, frz, fLst, oNil, oCons, bSl, oNone, oSome, bCall, fCall, bCallM, fComp, fCB, fRng, bTRng, gNm, gTp, setAll, iSeq, iRange, iEnum, iZip, seqOf, noCelB, wipeS, restore, qAdd, okAdd, vAdd, gSub, qMul, okMul, vMul, gDiv, gMod, gPow, gLt, gGt, gGe, qLe, okLe, vLe, gEq, gNe, qIs, okIs, vIs, qIsNot, gNeg, qLen, okLen, vLen, gAll, gAny, gSum, gMax, qMin, okMin, vMin, qInt, okInt, vInt, qBool, okBool, vBool, qTuple, seq1, qIsi, okIsi, vIsi, qIx, ixR, qSl, okSl, vSl, qIn, okIn, vIn, qNotIn, gLenSet, jList, jSrt, truD, isNonD, List.getElem?_cons_zero, List.getElem?_cons_succ, List.set_cons_zero, List.set_cons_succ, List.length_cons, List.length_nil, List.map_cons, List.map_nil, List.replicate, List.append_nil, List.nil_append, List.cons_append, Nat.reduceAdd, Nat.reduceSub, Nat.reduceLT, Nat.reduceLeDiff, Nat.zero_lt_succ, true_and, and_true, Bool.false_eq_true, if_true, if_false, Nat.zero_add, Nat.add_one_sub_one, Nat.sub_self, reduceIte, Nat.lt_add_left_iff_pos, eq_self, String.reduceBEq, Bool.not_true, Bool.not_false, Bool.or_self, Bool.or_false, Bool.or_true, Bool.true_or, Bool.false_or, Bool.and_true, Bool.true_and, Bool.and_false, Bool.false_and, ite_true, ite_false]
                refine ⟨by omega, ?_⟩
                have cl : ∀ (C : D → List SV → Prop) , True := fun _ => trivial
                refine comp_filt (fun x => !isIntB 0 1000000000000 x) us (fun x hx C C' hC hC' => ?_) ?_
                · simp only [sp__law_whole, sp_is_int, CPow, sSkip, sSeq, sIf, sRet, sRetN, sExpr, sAsg, sSetC, sFrz, sBrk, sCont, sRaise, sApp, sSetIx, sFor, sPar, putAll, pNil, pO, pF, startS, startM, oPur, oMut, oIni, own, ownR, use, uses, res, varR, bVar, bC, bOp, bUn, bCB, aNil, aCons, bAnd, bOr, bNot, bIf, bChain, tVal, tBl, wNot, wAnd, wOr, bTup, frz, fLst, oNil, oCons, bSl, oNone, oSome, bCall, fCall, bCallM, fComp, fCB, fRng, bTRng, gNm, gTp, setAll, iSeq, iRange, iEnum, iZip, seqOf, noCelB, wipeS, restore, qAdd, okAdd, vAdd, gSub, qMul, okMul, vMul, gDiv, gMod, gPow, gLt, gGt, gGe, qLe, okLe, vLe, gEq, gNe, qIs, okIs, vIs, qIsNot, gNeg, qLen, okLen, vLen, gAll, gAny, gSum, gMax, qMin, okMin, vMin, qInt, okInt, vInt, qBool, okBool, vBool, qTuple, seq1, qIsi, okIsi, vIsi, qIx, ixR, qSl, okSl, vSl, qIn, okIn, vIn, qNotIn, gLenSet, jList, jSrt, truD, isNonD, List.getElem?_cons_zero, List.getElem?_cons_succ, List.set_cons_zero, List.set_cons_succ, List.length_cons, List.length_nil, List.map_cons, List.map_nil, List.replicate, List.append_nil, List.nil_append, List.cons_append, Nat.reduceAdd, Nat.reduceSub, Nat.reduceLT, Nat.reduceLeDiff, Nat.zero_lt_succ, true_and, and_true, Bool.false_eq_true, if_true, if_false, Nat.zero_add, Nat.add_one_sub_one, Nat.sub_self, reduceIte, Nat.lt_add_left_iff_pos, eq_self, String.reduceBEq, Bool.not_true, Bool.not_false, Bool.or_self, Bool.or_false, Bool.or_true, Bool.true_or, Bool.false_or, Bool.and_true, Bool.true_and, Bool.and_false, Bool.false_and, ite_true, ite_false]
                  refine ⟨⟨by decide, by decide, by decide⟩, shp_of_tuple hd x hx, ?_⟩
                  rw [show (10 : Int) ^ Int.toNat 12 = 1000000000000 by decide]
                  cases hb : isIntB 0 1000000000000 x with
                  | false => simp only [sSkip, sSeq, sIf, sRet, sRetN, sExpr, sAsg, sSetC, sFrz, sBrk, sCont, sRaise, sApp, sSetIx, sFor, sPar, putAll, pNil, pO, pF, startS, startM, oPur, oMut, oIni, own, ownR, use, uses, res, varR, bVar, bC, bOp, bUn, bCB, aNil, aCons, bAnd, bOr, bNot, bIf, bChain, tVal, tBl, wNot, wAnd, wOr, bTup, frz, fLst, oNil, oCons, bSl, oNone, oSome, bCall, fCall, bCallM, fComp, fCB, fRng, bTRng, gNm, gTp, setAll, iSeq, iRange, iEnum, iZip, seqOf, noCelB, wipeS, restore, qAdd, okAdd, vAdd, gSub, qMul, okMul, vMul, gDiv, gMod, gPow, gLt, gGt, gGe, qLe, okLe, vLe, gEq, gNe, qIs, okIs, vIs, qIsNot, gNeg, qLen, okLen, vLen, gAll, gAny, gSum, gMax, qMin, okMin, vMin, qInt, okInt, vInt, qBool, okBool, vBool, qTuple, seq1, qIsi, okIsi, vIsi, qIx, ixR, qSl, okSl, vSl, qIn, okIn, vIn, qNotIn, gLenSet, jList, jSrt, truD, isNonD, List.getElem?_cons_zero, List.getElem?_cons_succ, List.set_cons_zero, List.set_cons_succ, List.length_cons, List.length_nil, List.map_cons, List.map_nil, List.replicate, List.append_nil, List.nil_append, List.cons_append, Nat.reduceAdd, Nat.reduceSub, Nat.reduceLT, Nat.reduceLeDiff, Nat.zero_lt_succ, true_and, and_true, Bool.false_eq_true, if_true, if_false, Nat.zero_add, Nat.add_one_sub_one, Nat.sub_self, reduceIte, Nat.lt_add_left_iff_pos, eq_self, String.reduceBEq, Bool.not_true, Bool.not_false, Bool.or_self, Bool.or_false, Bool.or_true, Bool.true_or, Bool.false_or, Bool.and_true, Bool.true_and, Bool.and_false, Bool.false_and, ite_true, ite_false]; exact hC (by rw [hb]; rfl)
                  | true => simp only [sSkip, sSeq, sIf, sRet, sRetN, sExpr, sAsg, sSetC, sFrz, sBrk, sCont, sRaise, sApp, sSetIx, sFor, sPar, putAll, pNil, pO, pF, startS, startM, oPur, oMut, oIni, own, ownR, use, uses, res, varR, bVar, bC, bOp, bUn, bCB, aNil, aCons, bAnd, bOr, bNot, bIf, bChain, tVal, tBl, wNot, wAnd, wOr, bTup, frz, fLst, oNil, oCons, bSl, oNone, oSome, bCall, fCall, bCallM, fComp, fCB, fRng, bTRng, gNm, gTp, setAll, iSeq, iRange, iEnum, iZip, seqOf, noCelB, wipeS, restore, qAdd, okAdd, vAdd, gSub, qMul, okMul, vMul, gDiv, gMod, gPow, gLt, gGt, gGe, qLe, okLe, vLe, gEq, gNe, qIs, okIs, vIs, qIsNot, gNeg, qLen, okLen, vLen, gAll, gAny, gSum, gMax, qMin, okMin, vMin, qInt, okInt, vInt, qBool, okBool, vBool, qTuple, seq1, qIsi, okIsi, vIsi, qIx, ixR, qSl, okSl, vSl, qIn, okIn, vIn, qNotIn, gLenSet, jList, jSrt, truD, isNonD, List.getElem?_cons_zero, List.getElem?_cons_succ, List.set_cons_zero, List.set_cons_succ, List.length_cons, List.length_nil, List.map_cons, List.map_nil, List.replicate, List.append_nil, List.nil_append, List.cons_append, Nat.reduceAdd, Nat.reduceSub, Nat.reduceLT, Nat.reduceLeDiff, Nat.zero_lt_succ, true_and, and_true, Bool.false_eq_true, if_true, if_false, Nat.zero_add, Nat.add_one_sub_one, Nat.sub_self, reduceIte, Nat.lt_add_left_iff_pos, eq_self, String.reduceBEq, Bool.not_true, Bool.not_false, Bool.or_self, Bool.or_false, Bool.or_true, Bool.true_or, Bool.false_or, Bool.and_true, Bool.true_and, Bool.and_false, Bool.false_and, ite_true, ite_false]; exact hC' (by rw [hb]; rfl)
                · refine ⟨shp_filt hd, shp_nilL, ?_⟩
                  rw [eqv_nilL, filt_nil]
                  cases hb : us.all (isIntB 0 1000000000000) with
                  | false => simp only [sSkip, sSeq, sIf, sRet, sRetN, sExpr, sAsg, sSetC, sFrz, sBrk, sCont, sRaise, sApp, sSetIx, sFor, sPar, putAll, pNil, pO, pF, startS, startM, oPur, oMut, oIni, own, ownR, use, uses, res, varR, bVar, bC, bOp, bUn, bCB, aNil, aCons, bAnd, bOr, bNot, bIf, bChain, tVal, tBl, wNot, wAnd, wOr, bTup, frz, fLst, oNil, oCons, bSl, oNone, oSome, bCall, fCall, bCallM, fComp, fCB, fRng, bTRng, gNm, gTp, setAll, iSeq, iRange, iEnum, iZip, seqOf, noCelB, wipeS, restore, qAdd, okAdd, vAdd, gSub, qMul, okMul, vMul, gDiv, gMod, gPow, gLt, gGt, gGe, qLe, okLe, vLe, gEq, gNe, qIs, okIs, vIs, qIsNot, gNeg, qLen, okLen, vLen, gAll, gAny, gSum, gMax, qMin, okMin, vMin, qInt, okInt, vInt, qBool, okBool, vBool, qTuple, seq1, qIsi, okIsi, vIsi, qIx, ixR, qSl, okSl, vSl, qIn, okIn, vIn, qNotIn, gLenSet, jList, jSrt, truD, isNonD, List.getElem?_cons_zero, List.getElem?_cons_succ, List.set_cons_zero, List.set_cons_succ, List.length_cons, List.length_nil, List.map_cons, List.map_nil, List.replicate, List.append_nil, List.nil_append, List.cons_append, Nat.reduceAdd, Nat.reduceSub, Nat.reduceLT, Nat.reduceLeDiff, Nat.zero_lt_succ, true_and, and_true, Bool.false_eq_true, if_true, if_false, Nat.zero_add, Nat.add_one_sub_one, Nat.sub_self, reduceIte, Nat.lt_add_left_iff_pos, eq_self, String.reduceBEq, Bool.not_true, Bool.not_false, Bool.or_self, Bool.or_false, Bool.or_true, Bool.true_or, Bool.false_or, Bool.and_true, Bool.true_and, Bool.and_false, Bool.false_and, ite_true, ite_false]; exact no (by simp [isJobB, hb])
                  | true =>
                    simp only [sSkip, sSeq, sIf, sRet, sRetN, sExpr, sAsg, sSetC, sFrz, sBrk, sCont, sRaise, sApp, sSetIx, sFor, sPar, putAll, pNil, pO, pF, startS, startM, oPur, oMut, oIni, own, ownR, use, uses, res, varR, bVar, bC, bOp, bUn, bCB, aNil, aCons, bAnd, bOr, bNot, bIf, bChain, tVal, tBl, wNot, wAnd, wOr, bTup, frz, fLst, oNil, oCons, bSl, oNone, oSome, bCall, fCall, bCallM, fComp, fCB, fRng, bTRng, gNm, gTp, setAll, iSeq, iRange, iEnum, iZip, seqOf, noCelB, wipeS, restore, qAdd, okAdd, vAdd, gSub, qMul, okMul, vMul, gDiv, gMod, gPow, gLt, gGt, gGe, qLe, okLe, vLe, gEq, gNe, qIs, okIs, vIs, qIsNot, gNeg, qLen, okLen, vLen, gAll, gAny, gSum, gMax, qMin, okMin, vMin, qInt, okInt, vInt, qBool, okBool, vBool, qTuple, seq1, qIsi, okIsi, vIsi, qIx, ixR, qSl, okSl, vSl, qIn, okIn, vIn, qNotIn, gLenSet, jList, jSrt, truD, isNonD, List.getElem?_cons_zero, List.getElem?_cons_succ, List.set_cons_zero, List.set_cons_succ, List.length_cons, List.length_nil, List.map_cons, List.map_nil, List.replicate, List.append_nil, List.nil_append, List.cons_append, Nat.reduceAdd, Nat.reduceSub, Nat.reduceLT, Nat.reduceLeDiff, Nat.zero_lt_succ, true_and, and_true, Bool.false_eq_true, if_true, if_false, Nat.zero_add, Nat.add_one_sub_one, Nat.sub_self, reduceIte, Nat.lt_add_left_iff_pos, eq_self, String.reduceBEq, Bool.not_true, Bool.not_false, Bool.or_self, Bool.or_false, Bool.or_true, Bool.true_or, Bool.false_or, Bool.and_true, Bool.true_and, Bool.and_false, Bool.false_and, ite_true, ite_false]
                    have hj : isJobB (.tuple us) = true := by simp [isJobB, h3, hb]
                    exact k _ ⟨_, fun d hd => hm d (List.mem_cons_of_mem _ hd), by rw [← ha, List.all_cons, hj, Bool.true_and], rfl⟩
            | _ => simp only [sSkip, sSeq, sIf, sRet, sRetN, sExpr, sAsg, sSetC, sFrz, sBrk, sCont, sRaise, sApp, sSetIx, sFor, sPar, putAll, pNil, pO, pF, startS, startM, oPur, oMut, oIni, own, ownR, use, uses, res, varR, bVar, bC, bOp, bUn, bCB, aNil, aCons, bAnd, bOr, bNot, bIf, bChain, tVal, tBl, wNot, wAnd, wOr, bTup, frz, fLst, oNil, oCons, bSl, oNone, oSome, bCall, fCall, bCallM, fComp, fCB, fRng, bTRng, gNm, gTp, setAll, iSeq, iRange, iEnum, iZip, seqOf, noCelB, wipeS, restore, qAdd, okAdd, vAdd, gSub, qMul, okMul, vMul, gDiv, gMod, gPow, gLt, gGt, gGe, qLe, okLe, vLe, gEq, gNe, qIs, okIs, vIs, qIsNot, gNeg, qLen, okLen, vLen, gAll, gAny, gSum, gMax, qMin, okMin, vMin, qInt, okInt, vInt, qBool, okBool, vBool, qTuple, seq1, qIsi, okIsi, vIsi, qIx, ixR, qSl, okSl, vSl, qIn, okIn, vIn, qNotIn, gLenSet, jList, jSrt, truD, isNonD, List.getElem?_cons_zero, List.getElem?_cons_succ, List.set_cons_zero, List.set_cons_succ, List.length_cons, List.length_nil, List.map_cons, List.map_nil, List.replicate, List.append_nil, List.nil_append, List.cons_append, Nat.reduceAdd, Nat.reduceSub, Nat.reduceLT, Nat.reduceLeDiff, Nat.zero_lt_succ, true_and, and_true, Bool.false_eq_true, if_true, if_false, Nat.zero_add, Nat.add_one_sub_one, Nat.sub_self, reduceIte, Nat.lt_add_left_iff_pos, eq_self, String.reduceBEq, Bool.not_true, Bool.not_false, Bool.or_self, Bool.or_false, Bool.or_true, Bool.true_or, Bool.false_or, Bool.and_true, Bool.true_and, Bool.and_false, Bool.false_and, ite_true, ite_false]; exact no rfl
          · rintro ρ ⟨s1, _, ha, rfl⟩
            simp only [sSkip, sSeq, sIf, sRet, sRetN, sExpr, sAsg, sSetC, sFrz, sBrk, sCont, sRaise, sApp, sSetIx, sFor, sPar, putAll, pNil, pO, pF, startS, startM, oPur, oMut, oIni, own, ownR, use, uses, res, varR, bVar, bC, bOp, bUn, bCB, aNil, aCons, bAnd, bOr, bNot, bIf, bChain, tVal, tBl, wNot, wAnd, wOr, bTup, frz, fLst, oNil, oCons, bSl, oNone, oSome, bCall, fCall, bCallM, fComp, fCB, fRng, bTRng, gNm, gTp, setAll, iSeq, iRange, iEnum, iZip, seqOf, noCelB, wipeS, restore, qAdd, okAdd, vAdd, gSub, qMul, okMul, vMul, gDiv, gMod, gPow, gLt, gGt, gGe, qLe, okLe, vLe, gEq, gNe, qIs, okIs, vIs, qIsNot, gNeg, qLen, okLen, vLen, gAll, gAny, gSum, gMax, qMin, okMin, vMin, qInt, okInt, vInt, qBool, okBool, vBool, qTuple, seq1, qIsi, okIsi, vIsi, qIx, ixR, qSl, okSl, vSl, qIn, okIn, vIn, qNotIn, gLenSet, jList, jSrt, truD, isNonD, List.getElem?_cons_zero, List.getElem?_cons_succ, List.set_cons_zero, List.set_cons_succ, List.length_cons, List.length_nil, List.map_cons, List.map_nil, List.replicate, List.append_nil, List.nil_append, List.cons_append, Nat.reduceAdd, Nat.reduceSub, Nat.reduceLT, Nat.reduceLeDiff, Nat.zero_lt_succ, true_and, and_true, Bool.false_eq_true, if_true, if_false, Nat.zero_add, Nat.add_one_sub_one, Nat.sub_self, reduceIte, Nat.lt_add_left_iff_pos, eq_self, String.reduceBEq, Bool.not_true, Bool.not_false, Bool.or_self, Bool.or_false, Bool.or_true, Bool.true_or, Bool.false_or, Bool.and_true, Bool.true_and, Bool.and_false, Bool.false_and, ite_true, ite_false]
            rw [← ha] at q'
            exact q'
    | _ => simp only [sSkip, sSeq, sIf, sRet, sRetN, sExpr, sAsg, sSetC, sFrz, sBrk, sCont, sRaise, sApp, sSetIx, sFor, sPar, putAll, pNil, pO, pF, startS, startM, oPur, oMut, oIni, own, ownR, use, uses, res, varR, bVar, bC, bOp, bUn, bCB, aNil, aCons, bAnd, bOr, bNot, bIf, bChain, tVal, tBl, wNot, wAnd, wOr, bTup, frz, fLst, oNil, oCons, bSl, oNone, oSome, bCall, fCall, bCallM, fComp, fCB, fRng, bTRng, gNm, gTp, setAll, iSeq, iRange, iEnum, iZip, seqOf, noCelB, wipeS, restore, qAdd, okAdd, vAdd, gSub, qMul, okMul, vMul, gDiv, gMod, gPow, gLt, gGt, gGe, qLe, okLe, vLe, gEq, gNe, qIs, okIs, vIs, qIsNot, gNeg, qLen, okLen, vLen, gAll, gAny, gSum, gMax, qMin, okMin, vMin, qInt, okInt, vInt, qBool, okBool, vBool, qTuple, seq1, qIsi, okIsi, vIsi, qIx, ixR, qSl, okSl, vSl, qIn, okIn, vIn, qNotIn, gLenSet, jList, jSrt, truD, isNonD, List.getElem?_cons_zero, List.getElem?_cons_succ, List.set_cons_zero, List.set_cons_succ, List.length_cons, List.length_nil, List.map_cons, List.map_nil, List.replicate, List.append_nil, List.nil_append, List.cons_append, Nat.reduceAdd, Nat.reduceSub, Nat.reduceLT, Nat.reduceLeDiff, Nat.zero_lt_succ, true_and, and_true, Bool.false_eq_true, if_true, if_false, Nat.zero_add, Nat.add_one_sub_one, Nat.sub_self, reduceIte, Nat.lt_add_left_iff_pos, eq_self, String.reduceBEq, Bool.not_true, Bool.not_false, Bool.or_self, Bool.or_false, Bool.or_true, Bool.true_or, Bool.false_or, Bool.and_true, Bool.true_and, Bool.and_false, Bool.false_and, ite_true, ite_false]; exact q
  · exact h.elim
/-! sorted ints -/
theorem srt_ints (ns : List Int) : srt (ns.map .int) = (ns.mergeSort fun a b => decide (a ≤ b)).map .int := by
  unfold srt
  rw [← List.map_mergeSort (s := PySem.W.dataLe false id) (r := fun a b : Int => decide (a ≤ b))]
  intro a _ b _
  have := congrFun (congrFun (PySem.W.dataLe_int (β := Int) id) a) b
  exact this.symm
theorem srtOk_ints {ns : List Int} (h : ns.length ≤ 16777216) : srtOk (ns.map .int) := by
  refine ⟨fun d hd d' hd' => ?_, .inr fun d hd => ?_, lay_all.mpr fun d hd => (okD_ints (n := 0) d hd).1, fun d hd => (okD_ints (n := 64) d hd).2, by rw [List.length_map]; exact h⟩
  · obtain ⟨i, _, rfl⟩ := List.mem_map.mp hd
    obtain ⟨j, _, rfl⟩ := List.mem_map.mp hd'
    simp [PySem.W.alike]
  · obtain ⟨i, _, rfl⟩ := List.mem_map.mp hd
    exact ⟨nofun, fun _ => nofun⟩
theorem range_ints (m : Nat) : rangeD m = ((List.range m).map fun (i : Nat) => (i : Int)).map .int := by unfold rangeD; rw [List.map_map]; rfl
theorem distinct_len {ns : List Int} (h : ns.Nodup) : (distinct ns).length = ns.length := by
  exact (count_distinct h fun k => Iff.rfl).symm
theorem nodup_full : ∀ {m : Nat} {l : List Nat}, l.Nodup → (∀ n ∈ l, n < m) → l.length = m → ∀ n, n < m → n ∈ l := by
  intro m l nd hb hl n hn
  refine Classical.byContradiction fun hno => ?_
  have nd2 : (n :: l).Nodup := List.nodup_cons.mpr ⟨hno, nd⟩
  have hb2 : ∀ k ∈ n :: l, k < m := fun k hk => by
    rcases List.mem_cons.mp hk with rfl | hk
    · exact hn
    · exact hb k hk
  have : ∀ (m : Nat) (l : List Nat), l.Nodup → (∀ k ∈ l, k < m) → l.length ≤ m := by
    intro m
    induction m with
    | zero =>
      intro l _ h
      cases l with
      | nil => exact Nat.le_refl _
      | cons a l => exact absurd (h a List.mem_cons_self) (Nat.not_lt_zero _)
    | succ m ih =>
      intro l nd h
      by_cases hm : m ∈ l
      · have h1 := ih (l.erase m) (nd.erase m) fun k hk => by
          have h2 := h k (List.mem_of_mem_erase hk)
          have h3 : k ≠ m := fun e => by
            subst e
            exact (List.Nodup.not_mem_erase nd) hk
          omega
        rw [List.length_erase_of_mem hm] at h1
        omega
      · have h1 := ih l nd fun k hk => by
          have h2 := h k hk
          have h3 : k ≠ m := fun e => hm (e ▸ hk)
          omega
        omega
  have := this m _ nd2 hb2
  simp only [List.length_cons] at this
  omega
theorem sorted_range {ns : List Int} {m : Nat} (hl : ns.length = m) (hb : ∀ i ∈ ns, 0 ≤ i ∧ i ≤ (m : Int) - 1) :
    decide ((ns.mergeSort fun a b => decide (a ≤ b)) = (List.range m).map fun (i : Nat) => (i : Int)) = ((distinct ns).length == ns.length) := by
  have hp := List.mergeSort_perm ns fun a b => decide (a ≤ b)
  rw [Bool.eq_iff_iff, decide_eq_true_eq, beq_iff_eq]
  have rnd : ((List.range m).map fun (i : Nat) => (i : Int)).Nodup := by
    refine List.Pairwise.map _ (fun a b h => ?_) (List.nodup_range (n := m))
    intro e
    have e' : (a : Int) = (b : Int) := e
    exact h (by omega)
  constructor
  · intro e
    rw [e] at hp
    exact distinct_len (hp.nodup_iff.mp rnd)
  · intro e
    have nd := nodup_of_distinct e
    have nn : (ns.map Int.toNat).Nodup := by
      refine List.Pairwise.map _ (fun a b h => ?_) (List.Pairwise.and_mem.mp nd)
      obtain ⟨ha, hb', hne⟩ := h
      have h1 := hb a ha
      have h2 := hb b hb'
      intro e
      exact hne (by omega)
    have full := nodup_full (m := m) nn (fun n hn => by
      obtain ⟨i, hi, rfl⟩ := List.mem_map.mp hn
      have := hb i hi
      omega) (by rw [List.length_map]; exact hl)
    have pr : ns.Perm ((List.range m).map fun (i : Nat) => (i : Int)) := by
      refine (List.perm_ext_iff_of_nodup nd rnd).mpr fun k => ⟨fun hk => ?_, fun hk => ?_⟩
      · have := hb k hk
        exact List.mem_map.mpr ⟨k.toNat, List.mem_range.mpr (by omega), by omega⟩
      · obtain ⟨n, hn, rfl⟩ := List.mem_map.mp hk
        obtain ⟨i, hi, e⟩ := List.mem_map.mp (full n (List.mem_range.mp hn))
        have := hb i hi
        have : i = (n : Int) := by omega
        exact this ▸ hi
    refine List.Perm.eq_of_pairwise (le := fun a b => a ≤ b) (fun a b _ _ h1 h2 => Int.le_antisymm h1 h2) ?_ ?_ (hp.trans pr)
    · have := List.pairwise_mergeSort (le := fun a b : Int => decide (a ≤ b)) (fun a b c h1 h2 => decide_eq_true (Int.le_trans (of_decide_eq_true h1) (of_decide_eq_true h2))) (fun a b => by rcases Int.le_total a b with h | h <;> simp [h]) ns
      exact this.imp fun h => by simpa using h
    · refine List.Pairwise.map _ (fun a b h => ?_) (List.pairwise_lt_range (n := m))
      show (a : Int) ≤ (b : Int)
      have h : a < b := h
      omega
theorem ty__law_is_order (X : ED) (ds : List D) (Q : D → Prop) (hl : ds.length = 2) (h : sp__law_is_order X ds Q) : tr__law_is_order X (startS cx__law_is_order.N ds) (oPur Q) := by
  unfold sp__law_is_order at h
  split at h
  · rename_i js v
    obtain ⟨hj, hs, q⟩ := h
    unfold tr__law_is_order cx__law_is_order
    cases v with
    | dict kvs => exact (not_dict hs).elim
    | tuple ts =>
      simp only [sSkip, sSeq, sIf, sRet, sRetN, sExpr, sAsg, sSetC, sFrz, sBrk, sCont, sRaise, sApp, sSetIx, sFor, sPar, putAll, pNil, pO, pF, startS, startM, oPur, oMut, oIni, own, ownR, use, uses, res, varR, bVar, bC, bOp, bUn, bCB, aNil, aCons, bAnd, bOr, bNot, bIf, bChain, tVal, tBl, wNot, wAnd, wOr, bTup, frz, fLst, oNil, oCons, bSl, oNone, oSome, bCall, fCall, bCallM, fComp, fCB, fRng, bTRng, gNm, gTp, setAll, iSeq, iRange, iEnum, iZip, seqOf, noCelB, wipeS, restore, qAdd, okAdd, vAdd, gSub, qMul, okMul, vMul, gDiv, gMod, gPow, gLt, gGt, gGe, qLe, okLe, vLe, gEq, gNe, qIs, okIs, vIs, qIsNot, gNeg, qLen, okLen, vLen, gAll, gAny, gSum, gMax, qMin, okMin, vMin, qInt, okInt, vInt, qBool, okBool, vBool, qTuple, seq1, qIsi, okIsi, vIsi, qIx, ixR, qSl, okSl, vSl, qIn, okIn, vIn, qNotIn, gLenSet, jList, jSrt, truD, isNonD, List.getElem?_cons_zero, List.getElem?_cons_succ, List.set_cons_zero, List.set_cons_succ, List.length_cons, List.length_nil, List.map_cons, List.map_nil, List.replicate, List.append_nil, List.nil_append, List.cons_append, Nat.reduceAdd, Nat.reduceSub, Nat.reduceLT, Nat.reduceLeDiff, Nat.zero_lt_succ, true_and, and_true, Bool.false_eq_true, if_true, if_false, Nat.zero_add, Nat.add_one_sub_one, Nat.sub_self, reduceIte, Nat.lt_add_left_iff_pos, eq_self, String.reduceBEq, Bool.not_true, Bool.not_false, Bool.or_self, Bool.or_false, Bool.or_true, Bool.true_or, Bool.false_or, Bool.and_true, Bool.true_and, Bool.and_false, Bool.false_and, ite_true, ite_false]
      refine ⟨shp_int, shp_int, ?_⟩
      rw [eqv_len]
      cases hlen : ts.length == js.length with
      | false =>
        simp only [sSkip, sSeq, sIf, sRet, sRetN, sExpr, sAsg, sSetC, sFrz, sBrk, sCont, sRaise, sApp, sSetIx, sFor, sPar, putAll, pNil, pO, pF, startS, startM, oPur, oMut, oIni, own, ownR, use, uses, res, varR, bVar, bC, bOp, bUn, bCB, aNil, aCons, bAnd, bOr, bNot, bIf, bChain, tVal, tBl, wNot, wAnd, wOr, bTup, frz, fLst, oNil, oCons, bSl, oNone, oSome, bCall, fCall, bCallM, fComp, fCB, fRng, bTRng, gNm, gTp, setAll, iSeq, iRange, iEnum, iZip, seqOf, noCelB, wipeS, restore, qAdd, okAdd, vAdd, gSub, qMul, okMul, vMul, gDiv, gMod, gPow, gLt, gGt, gGe, qLe, okLe, vLe, gEq, gNe, qIs, okIs, vIs, qIsNot, gNeg, qLen, okLen, vLen, gAll, gAny, gSum, gMax, qMin, okMin, vMin, qInt, okInt, vInt, qBool, okBool, vBool, qTuple, seq1, qIsi, okIsi, vIsi, qIx, ixR, qSl, okSl, vSl, qIn, okIn, vIn, qNotIn, gLenSet, jList, jSrt, truD, isNonD, List.getElem?_cons_zero, List.getElem?_cons_succ, List.set_cons_zero, List.set_cons_succ, List.length_cons, List.length_nil, List.map_cons, List.map_nil, List.replicate, List.append_nil, List.nil_append, List.cons_append, Nat.reduceAdd, Nat.reduceSub, Nat.reduceLT, Nat.reduceLeDiff, Nat.zero_lt_succ, true_and, and_true, Bool.false_eq_true, if_true, if_false, Nat.zero_add, Nat.add_one_sub_one, Nat.sub_self, reduceIte, Nat.lt_add_left_iff_pos, eq_self, String.reduceBEq, Bool.not_true, Bool.not_false, Bool.or_self, Bool.or_false, Bool.or_true, Bool.true_or, Bool.false_or, Bool.and_true, Bool.true_and, Bool.and_false, Bool.false_and, ite_true, ite_false]
        have : ordB js.length (.tuple ts) = false := by simp [ordB, lenD, hlen]
        rw [this] at q
        exact q
      | true =>
        have hlen2 : ts.length = js.length := by simpa using hlen
        simp only [sSkip, sSeq, sIf, sRet, sRetN, sExpr, sAsg, sSetC, sFrz, sBrk, sCont, sRaise, sApp, sSetIx, sFor, sPar, putAll, pNil, pO, pF, startS, startM, oPur, oMut, oIni, own, ownR, use, uses, res, varR, bVar, bC, bOp, bUn, bCB, aNil, aCons, bAnd, bOr, bNot, bIf, bChain, tVal, tBl, wNot, wAnd, wOr, bTup, frz, fLst, oNil, oCons, bSl, oNone, oSome, bCall, fCall, bCallM, fComp, fCB, fRng, bTRng, gNm, gTp, setAll, iSeq, iRange, iEnum, iZip, seqOf, noCelB, wipeS, restore, qAdd, okAdd, vAdd, gSub, qMul, okMul, vMul, gDiv, gMod, gPow, gLt, gGt, gGe, qLe, okLe, vLe, gEq, gNe, qIs, okIs, vIs, qIsNot, gNeg, qLen, okLen, vLen, gAll, gAny, gSum, gMax, qMin, okMin, vMin, qInt, okInt, vInt, qBool, okBool, vBool, qTuple, seq1, qIsi, okIsi, vIsi, qIx, ixR, qSl, okSl, vSl, qIn, okIn, vIn, qNotIn, gLenSet, jList, jSrt, truD, isNonD, List.getElem?_cons_zero, List.getElem?_cons_succ, List.set_cons_zero, List.set_cons_succ, List.length_cons, List.length_nil, List.map_cons, List.map_nil, List.replicate, List.append_nil, List.nil_append, List.cons_append, Nat.reduceAdd, Nat.reduceSub, Nat.reduceLT, Nat.reduceLeDiff, Nat.zero_lt_succ, true_and, and_true, Bool.false_eq_true, if_true, if_false, Nat.zero_add, Nat.add_one_sub_one, Nat.sub_self, reduceIte, Nat.lt_add_left_iff_pos, eq_self, String.reduceBEq, Bool.not_true, Bool.not_false, Bool.or_self, Bool.or_false, Bool.or_true, Bool.true_or, Bool.false_or, Bool.and_true, Bool.true_and, Bool.and_false, Bool.false_and, ite_true, ite_false]
        refine ⟨by omega, comp_filt (fun x => !isIntB 0 ((js.length : Int) - 1) x) ts (fun x hx C C' hC hC' => ?_) ?_⟩
        · simp only [sp__law_whole, sp_is_int, sSkip, sSeq, sIf, sRet, sRetN, sExpr, sAsg, sSetC, sFrz, sBrk, sCont, sRaise, sApp, sSetIx, sFor, sPar, putAll, pNil, pO, pF, startS, startM, oPur, oMut, oIni, own, ownR, use, uses, res, varR, bVar, bC, bOp, bUn, bCB, aNil, aCons, bAnd, bOr, bNot, bIf, bChain, tVal, tBl, wNot, wAnd, wOr, bTup, frz, fLst, oNil, oCons, bSl, oNone, oSome, bCall, fCall, bCallM, fComp, fCB, fRng, bTRng, gNm, gTp, setAll, iSeq, iRange, iEnum, iZip, seqOf, noCelB, wipeS, restore, qAdd, okAdd, vAdd, gSub, qMul, okMul, vMul, gDiv, gMod, gPow, gLt, gGt, gGe, qLe, okLe, vLe, gEq, gNe, qIs, okIs, vIs, qIsNot, gNeg, qLen, okLen, vLen, gAll, gAny, gSum, gMax, qMin, okMin, vMin, qInt, okInt, vInt, qBool, okBool, vBool, qTuple, seq1, qIsi, okIsi, vIsi, qIx, ixR, qSl, okSl, vSl, qIn, okIn, vIn, qNotIn, gLenSet, jList, jSrt, truD, isNonD, List.getElem?_cons_zero, List.getElem?_cons_succ, List.set_cons_zero, List.set_cons_succ, List.length_cons, List.length_nil, List.map_cons, List.map_nil, List.replicate, List.append_nil, List.nil_append, List.cons_append, Nat.reduceAdd, Nat.reduceSub, Nat.reduceLT, Nat.reduceLeDiff, Nat.zero_lt_succ, true_and, and_true, Bool.false_eq_true, if_true, if_false, Nat.zero_add, Nat.add_one_sub_one, Nat.sub_self, reduceIte, Nat.lt_add_left_iff_pos, eq_self, String.reduceBEq, Bool.not_true, Bool.not_false, Bool.or_self, Bool.or_false, Bool.or_true, Bool.true_or, Bool.false_or, Bool.and_true, Bool.true_and, Bool.and_false, Bool.false_and, ite_true, ite_false]
          refine ⟨shp_of_tuple hs x hx, ?_⟩
          cases hb : isIntB 0 ((js.length : Int) - 1) x with
          | false => simp only [sSkip, sSeq, sIf, sRet, sRetN, sExpr, sAsg, sSetC, sFrz, sBrk, sCont, sRaise, sApp, sSetIx, sFor, sPar, putAll, pNil, pO, pF, startS, startM, oPur, oMut, oIni, own, ownR, use, uses, res, varR, bVar, bC, bOp, bUn, bCB, aNil, aCons, bAnd, bOr, bNot, bIf, bChain, tVal, tBl, wNot, wAnd, wOr, bTup, frz, fLst, oNil, oCons, bSl, oNone, oSome, bCall, fCall, bCallM, fComp, fCB, fRng, bTRng, gNm, gTp, setAll, iSeq, iRange, iEnum, iZip, seqOf, noCelB, wipeS, restore, qAdd, okAdd, vAdd, gSub, qMul, okMul, vMul, gDiv, gMod, gPow, gLt, gGt, gGe, qLe, okLe, vLe, gEq, gNe, qIs, okIs, vIs, qIsNot, gNeg, qLen, okLen, vLen, gAll, gAny, gSum, gMax, qMin, okMin, vMin, qInt, okInt, vInt, qBool, okBool, vBool, qTuple, seq1, qIsi, okIsi, vIsi, qIx, ixR, qSl, okSl, vSl, qIn, okIn, vIn, qNotIn, gLenSet, jList, jSrt, truD, isNonD, List.getElem?_cons_zero, List.getElem?_cons_succ, List.set_cons_zero, List.set_cons_succ, List.length_cons, List.length_nil, List.map_cons, List.map_nil, List.replicate, List.append_nil, List.nil_append, List.cons_append, Nat.reduceAdd, Nat.reduceSub, Nat.reduceLT, Nat.reduceLeDiff, Nat.zero_lt_succ, true_and, and_true, Bool.false_eq_true, if_true, if_false, Nat.zero_add, Nat.add_one_sub_one, Nat.sub_self, reduceIte, Nat.lt_add_left_iff_pos, eq_self, String.reduceBEq, Bool.not_true, Bool.not_false, Bool.or_self, Bool.or_false, Bool.or_true, Bool.true_or, Bool.false_or, Bool.and_true, Bool.true_and, Bool.and_false, Bool.false_and, ite_true, ite_false]; exact hC (by rw [hb]; rfl)
          | true => simp only [sSkip, sSeq, sIf, sRet, sRetN, sExpr, sAsg, sSetC, sFrz, sBrk, sCont, sRaise, sApp, sSetIx, sFor, sPar, putAll, pNil, pO, pF, startS, startM, oPur, oMut, oIni, own, ownR, use, uses, res, varR, bVar, bC, bOp, bUn, bCB, aNil, aCons, bAnd, bOr, bNot, bIf, bChain, tVal, tBl, wNot, wAnd, wOr, bTup, frz, fLst, oNil, oCons, bSl, oNone, oSome, bCall, fCall, bCallM, fComp, fCB, fRng, bTRng, gNm, gTp, setAll, iSeq, iRange, iEnum, iZip, seqOf, noCelB, wipeS, restore, qAdd, okAdd, vAdd, gSub, qMul, okMul, vMul, gDiv, gMod, gPow, gLt, gGt, gGe, qLe, okLe, vLe, gEq, gNe, qIs, okIs, vIs, qIsNot, gNeg, qLen, okLen, vLen, gAll, gAny, gSum, gMax, qMin, okMin, vMin, qInt, okInt, vInt, qBool, okBool, vBool, qTuple, seq1, qIsi, okIsi, vIsi, qIx, ixR, qSl, okSl, vSl, qIn, okIn, vIn, qNotIn, gLenSet, jList, jSrt, truD, isNonD, List.getElem?_cons_zero, List.getElem?_cons_succ, List.set_cons_zero, List.set_cons_succ, List.length_cons, List.length_nil, List.map_cons, List.map_nil, List.replicate, List.append_nil, List.nil_append, List.cons_append, Nat.reduceAdd, Nat.reduceSub, Nat.reduceLT, Nat.reduceLeDiff, Nat.zero_lt_succ, true_and, and_true, Bool.false_eq_true, if_true, if_false, Nat.zero_add, Nat.add_one_sub_one, Nat.sub_self, reduceIte, Nat.lt_add_left_iff_pos, eq_self, String.reduceBEq, Bool.not_true, Bool.not_false, Bool.or_self, Bool.or_false, Bool.or_true, Bool.true_or, Bool.false_or, Bool.and_true, Bool.true_and, Bool.and_false, Bool.false_and, ite_true, ite_false]; exact hC' (by rw [hb]; rfl)
        · refine ⟨shp_filt hs, shp_nilL, ?_⟩
          rw [eqv_nilL, filt_nil]
          cases hb : ts.all (isIntB 0 ((js.length : Int) - 1)) with
          | false =>
            simp only [sSkip, sSeq, sIf, sRet, sRetN, sExpr, sAsg, sSetC, sFrz, sBrk, sCont, sRaise, sApp, sSetIx, sFor, sPar, putAll, pNil, pO, pF, startS, startM, oPur, oMut, oIni, own, ownR, use, uses, res, varR, bVar, bC, bOp, bUn, bCB, aNil, aCons, bAnd, bOr, bNot, bIf, bChain, tVal, tBl, wNot, wAnd, wOr, bTup, frz, fLst, oNil, oCons, bSl, oNone, oSome, bCall, fCall, bCallM, fComp, fCB, fRng, bTRng, gNm, gTp, setAll, iSeq, iRange, iEnum, iZip, seqOf, noCelB, wipeS, restore, qAdd, okAdd, vAdd, gSub, qMul, okMul, vMul, gDiv, gMod, gPow, gLt, gGt, gGe, qLe, okLe, vLe, gEq, gNe, qIs, okIs, vIs, qIsNot, gNeg, qLen, okLen, vLen, gAll, gAny, gSum, gMax, qMin, okMin, vMin, qInt, okInt, vInt, qBool, okBool, vBool, qTuple, seq1, qIsi, okIsi, vIsi, qIx, ixR, qSl, okSl, vSl, qIn, okIn, vIn, qNotIn, gLenSet, jList, jSrt, truD, isNonD, List.getElem?_cons_zero, List.getElem?_cons_succ, List.set_cons_zero, List.set_cons_succ, List.length_cons, List.length_nil, List.map_cons, List.map_nil, List.replicate, List.append_nil, List.nil_append, List.cons_append, Nat.reduceAdd, Nat.reduceSub, Nat.reduceLT, Nat.reduceLeDiff, Nat.zero_lt_succ, true_and, and_true, Bool.false_eq_true, if_true, if_false, Nat.zero_add, Nat.add_one_sub_one, Nat.sub_self, reduceIte, Nat.lt_add_left_iff_pos, eq_self, String.reduceBEq, Bool.not_true, Bool.not_false, Bool.or_self, Bool.or_false, Bool.or_true, Bool.true_or, Bool.false_or, Bool.and_true, Bool.true_and, Bool.and_false, Bool.false_and, ite_true, ite_false]
            have : ordB js.length (.tuple ts) = false := by simp [ordB, rowB, hb]
            rw [this] at q
            exact q
          | true =>
            obtain ⟨ei, hr⟩ := ints_of_all hb
            have eo : ordB js.length (.tuple ts) = ((distinct (ts.map intD)).length == (ts.map intD).length) := by
              simp [ordB, rowB, hb, lenD, hlen2]
            rw [eo] at q
            simp only [sSkip, sSeq, sIf, sRet, sRetN, sExpr, sAsg, sSetC, sFrz, sBrk, sCont, sRaise, sApp, sSetIx, sFor, sPar, putAll, pNil, pO, pF, startS, startM, oPur, oMut, oIni, own, ownR, use, uses, res, varR, bVar, bC, bOp, bUn, bCB, aNil, aCons, bAnd, bOr, bNot, bIf, bChain, tVal, tBl, wNot, wAnd, wOr, bTup, frz, fLst, oNil, oCons, bSl, oNone, oSome, bCall, fCall, bCallM, fComp, fCB, fRng, bTRng, gNm, gTp, setAll, iSeq, iRange, iEnum, iZip, seqOf, noCelB, wipeS, restore, qAdd, okAdd, vAdd, gSub, qMul, okMul, vMul, gDiv, gMod, gPow, gLt, gGt, gGe, qLe, okLe, vLe, gEq, gNe, qIs, okIs, vIs, qIsNot, gNeg, qLen, okLen, vLen, gAll, gAny, gSum, gMax, qMin, okMin, vMin, qInt, okInt, vInt, qBool, okBool, vBool, qTuple, seq1, qIsi, okIsi, vIsi, qIx, ixR, qSl, okSl, vSl, qIn, okIn, vIn, qNotIn, gLenSet, jList, jSrt, truD, isNonD, List.getElem?_cons_zero, List.getElem?_cons_succ, List.set_cons_zero, List.set_cons_succ, List.length_cons, List.length_nil, List.map_cons, List.map_nil, List.replicate, List.append_nil, List.nil_append, List.cons_append, Nat.reduceAdd, Nat.reduceSub, Nat.reduceLT, Nat.reduceLeDiff, Nat.zero_lt_succ, true_and, and_true, Bool.false_eq_true, if_true, if_false, Nat.zero_add, Nat.add_one_sub_one, Nat.sub_self, reduceIte, Nat.lt_add_left_iff_pos, eq_self, String.reduceBEq, Bool.not_true, Bool.not_false, Bool.or_self, Bool.or_false, Bool.or_true, Bool.true_or, Bool.false_or, Bool.and_true, Bool.true_and, Bool.and_false, Bool.false_and, ite_true, ite_false]
            have e1 : srt ts = ((ts.map intD).mergeSort fun a b => decide (a ≤ b)).map .int := by
              conv => lhs; rw [ei]
              exact srt_ints _
            have ok : srtOk ts := by
              rw [ei]
              exact srtOk_ints (by rw [List.length_map]; omega)
            refine ⟨ok, by omega, by omega, ?_⟩
            rw [e1, Int.toNat_natCast, range_ints]
            refine ⟨shp_ints, shp_ints, ?_⟩
            rw [eqv_ints, sorted_range (by rw [List.length_map]; exact hlen2) hr]
            exact q
    | _ =>
      simp only [sSkip, sSeq, sIf, sRet, sRetN, sExpr, sAsg, sSetC, sFrz, sBrk, sCont, sRaise, sApp, sSetIx, sFor, sPar, putAll, pNil, pO, pF, startS, startM, oPur, oMut, oIni, own, ownR, use, uses, res, varR, bVar, bC, bOp, bUn, bCB, aNil, aCons, bAnd, bOr, bNot, bIf, bChain, tVal, tBl, wNot, wAnd, wOr, bTup, frz, fLst, oNil, oCons, bSl, oNone, oSome, bCall, fCall, bCallM, fComp, fCB, fRng, bTRng, gNm, gTp, setAll, iSeq, iRange, iEnum, iZip, seqOf, noCelB, wipeS, restore, qAdd, okAdd, vAdd, gSub, qMul, okMul, vMul, gDiv, gMod, gPow, gLt, gGt, gGe, qLe, okLe, vLe, gEq, gNe, qIs, okIs, vIs, qIsNot, gNeg, qLen, okLen, vLen, gAll, gAny, gSum, gMax, qMin, okMin, vMin, qInt, okInt, vInt, qBool, okBool, vBool, qTuple, seq1, qIsi, okIsi, vIsi, qIx, ixR, qSl, okSl, vSl, qIn, okIn, vIn, qNotIn, gLenSet, jList, jSrt, truD, isNonD, List.getElem?_cons_zero, List.getElem?_cons_succ, List.set_cons_zero, List.set_cons_succ, List.length_cons, List.length_nil, List.map_cons, List.map_nil, List.replicate, List.append_nil, List.nil_append, List.cons_append, Nat.reduceAdd, Nat.reduceSub, Nat.reduceLT, Nat.reduceLeDiff, Nat.zero_lt_succ, true_and, and_true, Bool.false_eq_true, if_true, if_false, Nat.zero_add, Nat.add_one_sub_one, Nat.sub_self, reduceIte, Nat.lt_add_left_iff_pos, eq_self, String.reduceBEq, Bool.not_true, Bool.not_false, Bool.or_self, Bool.or_false, Bool.or_true, Bool.true_or, Bool.false_or, Bool.and_true, Bool.true_and, Bool.and_false, Bool.false_and, ite_true, ite_false]
      exact q
  · exact h.elim
end DL
set_option Elab.async false
set_option linter.all false
set_option maxRecDepth 100000
set_option maxHeartbeats 4000000
namespace DL
open PySem PySem.Spec PyProof.Rows L2

/-! ### machine by machine -/
theorem gaps_cons (js : JL) (n m : Nat) (r : List Nat) : gapsL js (n :: m :: r) = max 0 (sndJ js n - fstJ js m) :: gapsL js (m :: r) := by
  simp [gapsL]
theorem gaps_one (js : JL) (n : Nat) : gapsL js [n] = [] := by simp [gapsL]
/-- from a job that begins at s -/
theorem mom_next (js : JL) (s f g : Int) (m : Nat) (hf : f = fstJ js m) : max s (s + g - f) = s + max 0 (g - f) := by omega
theorem mom_starts (js : JL) : ∀ (r : List Nat) (n : Nat) (s : Int), s :: (momF js (s + fstJ js n) (s + fstJ js n + sndJ js n) r).map (·.1) = startsF js s ((n :: r).zip (gapsL js (n :: r) ++ [0]))
  | [], n, s => by simp [momF, gaps_one, startsF]
  | m :: r, n, s => by
    have e : max (s + fstJ js n) (s + fstJ js n + sndJ js n - fstJ js m) = s + fstJ js n + max 0 (sndJ js n - fstJ js m) := by omega
    rw [gaps_cons, List.cons_append, List.zip_cons_cons, startsF, momF, e, List.map_cons]
    rw [mom_starts js r m]
theorem mom_last (js : JL) : ∀ (r : List Nat) (n : Nat) (s : Int), (((s, s + fstJ js n + sndJ js n) :: momF js (s + fstJ js n) (s + fstJ js n + sndJ js n) r).getLastD (0, 0)).2 = s + ((n :: r).map (fstJ js)).sum + (gapsL js (n :: r)).sum + sndJ js (lastN (n :: r))
  | [], n, s => by simp [momF, gaps_one, lastN]
  | m :: r, n, s => by
    have e : max (s + fstJ js n) (s + fstJ js n + sndJ js n - fstJ js m) = s + fstJ js n + max 0 (sndJ js n - fstJ js m) := by omega
    have ih := mom_last js r m (s + fstJ js n + max 0 (sndJ js n - fstJ js m))
    rw [momF, e, List.getLastD_cons, List.getLastD_cons] 
    rw [List.getLastD_cons] at ih
    rw [ih, gaps_cons]
    simp only [List.map_cons, List.sum_cons]
    have el : lastN (n :: m :: r) = lastN (m :: r) := by simp [lastN]
    rw [el]
    omega
theorem fst_nn {js : JL} (h : ∀ p ∈ js, okJ p) (n : Nat) : 0 ≤ fstJ js n ∧ 0 ≤ sndJ js n ∧ fstJ js n ≤ 1000000000000 ∧ sndJ js n ≤ 1000000000000 := by
  unfold fstJ sndJ
  rw [List.getD_eq_getElem?_getD]
  cases e : js[n]? with
  | none => exact ⟨by decide, by decide, by decide, by decide⟩
  | some p =>
    have := h p (List.mem_of_getElem? e)
    exact ⟨this.1, this.2.2.1, this.2.1, this.2.2.2⟩
theorem mom_head {js : JL} (h : ∀ p ∈ js, okJ p) (n : Nat) (r : List Nat) : momL js (n :: r) = (0, 0 + fstJ js n + sndJ js n) :: momF js (0 + fstJ js n) (0 + fstJ js n + sndJ js n) r := by
  have := (fst_nn h n).1
  have e : max (0 : Int) (0 - fstJ js n) = 0 := by omega
  unfold momL
  rw [momF, e]
theorem starts_law {js : JL} (h : ∀ p ∈ js, okJ p) (o : List Nat) : startsL js o = (momL js o).map (·.1) := by
  cases o with
  | nil => simp [startsL, momL, momF, gapsL, startsF]
  | cons n r =>
    rw [mom_head h, List.map_cons]
    exact (mom_starts js r n 0).symm
theorem time_law {js : JL} (h : ∀ p ∈ js, okJ p) (o : List Nat) : timeL js o = lawT js o := by
  cases o with
  | nil => simp [timeL, lawT, momL, momF]
  | cons n r =>
    unfold lawT timeL
    rw [mom_head h, mom_last js r n 0, if_neg (by simp)]
    omega
/-! ### drawn jobs, orders, values -/
def sp__law_jobs (X : ED) (d0 ds : List D) (P : D → List D → Prop) : Prop := okSrc d0 ∧ ∃ m t : Int, ds = [.int m, .int t] ∧ 0 ≤ m ∧ m ≤ 30 ∧ 0 ≤ t ∧ t ≤ 1000000000000 ∧ ∀ (js : JL) d1, js.length = m.toNat → (∀ p ∈ js, okJ p) → okSrc d1 → P (jobsD js) d1
def sp__law_order (X : ED) (d0 ds : List D) (P : D → List D → Prop) : Prop := okSrc d0 ∧ ∃ m : Int, ds = [.int m] ∧ 0 ≤ m ∧ m ≤ 30 ∧ ∀ (o : List Nat) d1, o.length = m.toNat → (∀ n ∈ o, n < m.toNat) → o.Nodup → okSrc d1 → P (ordD o) d1
def cx__law_jobs : Ctx := { N := ["_law_source_here", "_law_many", "_law_most_so", "_law_turn"], Γ := [("_law_pick", .mut 2 sp__law_pick)], C := [], R := [], ms := [] }
def tr__law_jobs : SW := (sRet (own (bCB qTuple (aCons (frz (fComp (iRange (bVar 1)) (gNm 3) (fun _ ρ P => P true ρ) (own (bTup (oCons (own (bCallM sp__law_pick 2 0 (oCons (own (bOp qAdd (bVar 2) (bC (.int 1)))) oNil))) (oCons (own (bCallM sp__law_pick 2 0 (oCons (own (bOp qAdd (bVar 2) (bC (.int 1)))) oNil))) oNil)))) [3])) aNil))))

def cx__law_order : Ctx := { N := ["_law_source_here", "_law_many", "_law_rest", "_law_found", "_law_turn", "_law_number", "_law_one"], Γ := [("_law_chosen", .mut 2 sp__law_chosen)], C := [], R := [], ms := [] }
def tr__law_order : SW := (sSeq (sPar [2, 3] (pO (own (frz (fRng (bVar 1)))) (pO (own (bTup oNil)) pNil)))
  (sSeq (sFor (iRange (bVar 1)) (gNm 4)
  (sSeq (sAsg (own (bCallM sp__law_chosen 2 0 (oCons (own (bVar 2)) oNil))) (gNm 5))
  (sSeq (sFrz 2 (fComp (iSeq (own (bVar 2))) (gNm 6) (tBl (bOp gNe (bVar 6) (bVar 5))) (own (bVar 6)) [6]))
  (sAsg (own (bOp qAdd (bVar 3) (bTup (oCons (own (bVar 5)) oNil)))) (gNm 3)))))
  (sRet (own (bVar 3)))))


theorem ty__law_jobs (X : ED) (a : Addr) (d0 ds : List D) (Q : D → List D → Prop) (hl : ds.length + 1 = 3) (h : sp__law_jobs X d0 ds Q) : tr__law_jobs X (startM cx__law_jobs.N a d0 ds) (oMut a Q) := by
  obtain ⟨h0, m, t, rfl, h1, h2, h3, h4, q⟩ := h
  unfold tr__law_jobs cx__law_jobs
  simp only [sSkip, sSeq, sIf, sRet, sRetN, sExpr, sAsg, sSetC, sFrz, sBrk, sCont, sRaise, sApp, sSetIx, sFor, sPar, putAll, pNil, pO, pF, startS, startM, oPur, oMut, oIni, own, ownR, use, uses, res, varR, bVar, bC, bOp, bUn, bCB, aNil, aCons, bAnd, bOr, bNot, bIf, bChain, tVal, tBl, wNot, wAnd, wOr, bTup, frz, fLst, oNil, oCons, bSl, oNone, oSome, bCall, fCall, bCallM, fComp, fCB, fRng, bTRng, gNm, gTp, setAll, iSeq, iRange, iEnum, iZip, seqOf, noCelB, wipeS, restore, qAdd, okAdd, vAdd, gSub, qMul, okMul, vMul, gDiv, gMod, gPow, gLt, gGt, gGe, qLe, okLe, vLe, gEq, gNe, qIs, okIs, vIs, qIsNot, gNeg, qLen, okLen, vLen, gAll, gAny, gSum, gMax, qMin, okMin, vMin, qInt, okInt, vInt, qBool, okBool, vBool, qTuple, seq1, qIsi, okIsi, vIsi, qIx, ixR, qSl, okSl, vSl, qIn, okIn, vIn, qNotIn, gLenSet, jList, jSrt, truD, isNonD, List.getElem?_cons_zero, List.getElem?_cons_succ, List.set_cons_zero, List.set_cons_succ, List.length_cons, List.length_nil, List.map_cons, List.map_nil, List.replicate, List.append_nil, List.nil_append, List.cons_append, Nat.reduceAdd, Nat.reduceSub, Nat.reduceLT, Nat.reduceLeDiff, Nat.zero_lt_succ, true_and, and_true, Bool.false_eq_true, if_true, if_false, Nat.zero_add, Nat.add_one_sub_one, Nat.sub_self, reduceIte, Nat.lt_add_left_iff_pos, eq_self, String.reduceBEq, Bool.not_true, Bool.not_false, Bool.or_self, Bool.or_false, Bool.or_true, Bool.true_or, Bool.false_or, Bool.and_true, Bool.true_and, Bool.and_false, Bool.false_and, ite_true, ite_false]
  refine ⟨by omega, by omega, ?_⟩
  have rl : (rangeD m.toNat).length = m.toNat := by unfold rangeD; simp
  refine ⟨by rw [rl]; omega, comp_inv (fun r acc ρ => ∃ (js : JL) (d1 : List D), r.length + js.length = m.toNat ∧ (∀ p ∈ js, okJ p) ∧ acc = js.map jobD ∧ okSrc d1 ∧ ρ = [.cel a d1, .dat (.int m), .dat (.int t), .un]) ?_ ?_ _ _ _ ⟨[], d0, by simp [rl], by simp, rfl, h0, rfl⟩⟩
  · rintro d r acc ρ C ⟨js, d1, hn, hj, rfl, hs, rfl⟩ k
    simp only [sp__law_pick, sSkip, sSeq, sIf, sRet, sRetN, sExpr, sAsg, sSetC, sFrz, sBrk, sCont, sRaise, sApp, sSetIx, sFor, sPar, putAll, pNil, pO, pF, startS, startM, oPur, oMut, oIni, own, ownR, use, uses, res, varR, bVar, bC, bOp, bUn, bCB, aNil, aCons, bAnd, bOr, bNot, bIf, bChain, tVal, tBl, wNot, wAnd, wOr, bTup, frz, fLst, oNil, oCons, bSl, oNone, oSome, bCall, fCall, bCallM, fComp, fCB, fRng, bTRng, gNm, gTp, setAll, iSeq, iRange, iEnum, iZip, seqOf, noCelB, wipeS, restore, qAdd, okAdd, vAdd, gSub, qMul, okMul, vMul, gDiv, gMod, gPow, gLt, gGt, gGe, qLe, okLe, vLe, gEq, gNe, qIs, okIs, vIs, qIsNot, gNeg, qLen, okLen, vLen, gAll, gAny, gSum, gMax, qMin, okMin, vMin, qInt, okInt, vInt, qBool, okBool, vBool, qTuple, seq1, qIsi, okIsi, vIsi, qIx, ixR, qSl, okSl, vSl, qIn, okIn, vIn, qNotIn, gLenSet, jList, jSrt, truD, isNonD, List.getElem?_cons_zero, List.getElem?_cons_succ, List.set_cons_zero, List.set_cons_succ, List.length_cons, List.length_nil, List.map_cons, List.map_nil, List.replicate, List.append_nil, List.nil_append, List.cons_append, Nat.reduceAdd, Nat.reduceSub, Nat.reduceLT, Nat.reduceLeDiff, Nat.zero_lt_succ, true_and, and_true, Bool.false_eq_true, if_true, if_false, Nat.zero_add, Nat.add_one_sub_one, Nat.sub_self, reduceIte, Nat.lt_add_left_iff_pos, eq_self, String.reduceBEq, Bool.not_true, Bool.not_false, Bool.or_self, Bool.or_false, Bool.or_true, Bool.true_or, Bool.false_or, Bool.and_true, Bool.true_and, Bool.and_false, Bool.false_and, ite_true, ite_false]
    refine ⟨hs, _, rfl, by omega, by omega, fun x d2 x0 x1 hs2 => ?_⟩
    refine ⟨hs2, _, rfl, by omega, by omega, fun y d3 y0 y1 hs3 => ?_⟩
    refine k _ _ ⟨js ++ [(x, y)], d3, by simp at hn ⊢; omega, ?_, by simp [jobD], hs3, rfl⟩
    intro p hp
    rcases List.mem_append.mp hp with hp | hp
    · exact hj p hp
    · simp at hp
      subst hp
      exact ⟨x0, by show x ≤ _; omega, y0, by show y ≤ _; omega⟩
  · rintro acc ρ ⟨js, d1, hn, hj, rfl, hs, rfl⟩
    exact ⟨d1, rfl, q js d1 (by simpa using hn) hj hs⟩
theorem ty__law_order (X : ED) (a : Addr) (d0 ds : List D) (Q : D → List D → Prop) (hl : ds.length + 1 = 2) (h : sp__law_order X d0 ds Q) : tr__law_order X (startM cx__law_order.N a d0 ds) (oMut a Q) := by
  obtain ⟨h0, m, rfl, h1, h2, q⟩ := h
  unfold tr__law_order cx__law_order
  simp only [sSkip, sSeq, sIf, sRet, sRetN, sExpr, sAsg, sSetC, sFrz, sBrk, sCont, sRaise, sApp, sSetIx, sFor, sPar, putAll, pNil, pO, pF, startS, startM, oPur, oMut, oIni, own, ownR, use, uses, res, varR, bVar, bC, bOp, bUn, bCB, aNil, aCons, bAnd, bOr, bNot, bIf, bChain, tVal, tBl, wNot, wAnd, wOr, bTup, frz, fLst, oNil, oCons, bSl, oNone, oSome, bCall, fCall, bCallM, fComp, fCB, fRng, bTRng, gNm, gTp, setAll, iSeq, iRange, iEnum, iZip, seqOf, noCelB, wipeS, restore, qAdd, okAdd, vAdd, gSub, qMul, okMul, vMul, gDiv, gMod, gPow, gLt, gGt, gGe, qLe, okLe, vLe, gEq, gNe, qIs, okIs, vIs, qIsNot, gNeg, qLen, okLen, vLen, gAll, gAny, gSum, gMax, qMin, okMin, vMin, qInt, okInt, vInt, qBool, okBool, vBool, qTuple, seq1, qIsi, okIsi, vIsi, qIx, ixR, qSl, okSl, vSl, qIn, okIn, vIn, qNotIn, gLenSet, jList, jSrt, truD, isNonD, List.getElem?_cons_zero, List.getElem?_cons_succ, List.set_cons_zero, List.set_cons_succ, List.length_cons, List.length_nil, List.map_cons, List.map_nil, List.replicate, List.append_nil, List.nil_append, List.cons_append, Nat.reduceAdd, Nat.reduceSub, Nat.reduceLT, Nat.reduceLeDiff, Nat.zero_lt_succ, true_and, and_true, Bool.false_eq_true, if_true, if_false, Nat.zero_add, Nat.add_one_sub_one, Nat.sub_self, reduceIte, Nat.lt_add_left_iff_pos, eq_self, String.reduceBEq, Bool.not_true, Bool.not_false, Bool.or_self, Bool.or_false, Bool.or_true, Bool.true_or, Bool.false_or, Bool.and_true, Bool.true_and, Bool.and_false, Bool.false_and, ite_true, ite_false]
  refine ⟨by omega, by omega, by omega, by omega, ?_⟩
  have rl : (rangeD m.toNat).length = m.toNat := by unfold rangeD; simp
  have r0 : rangeD m.toNat = (List.range m.toNat).map natD := rfl
  refine for_inv (fun r ρ => ∃ (R F : List Nat) (d1 : List D) (s4 s5 : SV), r.length = R.length ∧ R.length + F.length = m.toNat ∧ (∀ n ∈ R ++ F, n < m.toNat) ∧ (R ++ F).Nodup ∧ okSrc d1 ∧
    ρ = [.cel a d1, .dat (.int m), .dat (.list (R.map natD)), .dat (.tuple (F.map natD)), s4, s5, .un]) ?_ ?_ _ _ ⟨List.range m.toNat, [], d0, .un, .un, by rw [rl, List.length_range], by simp, by simp, by simpa using List.nodup_range, h0, rfl⟩
  · rintro d r ρ C ⟨R, F, d1, s4, s5, hr, hn, hb, nd, hs, rfl⟩ k
    simp only [sp__law_chosen, sSkip, sSeq, sIf, sRet, sRetN, sExpr, sAsg, sSetC, sFrz, sBrk, sCont, sRaise, sApp, sSetIx, sFor, sPar, putAll, pNil, pO, pF, startS, startM, oPur, oMut, oIni, own, ownR, use, uses, res, varR, bVar, bC, bOp, bUn, bCB, aNil, aCons, bAnd, bOr, bNot, bIf, bChain, tVal, tBl, wNot, wAnd, wOr, bTup, frz, fLst, oNil, oCons, bSl, oNone, oSome, bCall, fCall, bCallM, fComp, fCB, fRng, bTRng, gNm, gTp, setAll, iSeq, iRange, iEnum, iZip, seqOf, noCelB, wipeS, restore, qAdd, okAdd, vAdd, gSub, qMul, okMul, vMul, gDiv, gMod, gPow, gLt, gGt, gGe, qLe, okLe, vLe, gEq, gNe, qIs, okIs, vIs, qIsNot, gNeg, qLen, okLen, vLen, gAll, gAny, gSum, gMax, qMin, okMin, vMin, qInt, okInt, vInt, qBool, okBool, vBool, qTuple, seq1, qIsi, okIsi, vIsi, qIx, ixR, qSl, okSl, vSl, qIn, okIn, vIn, qNotIn, gLenSet, jList, jSrt, truD, isNonD, List.getElem?_cons_zero, List.getElem?_cons_succ, List.set_cons_zero, List.set_cons_succ, List.length_cons, List.length_nil, List.map_cons, List.map_nil, List.replicate, List.append_nil, List.nil_append, List.cons_append, Nat.reduceAdd, Nat.reduceSub, Nat.reduceLT, Nat.reduceLeDiff, Nat.zero_lt_succ, true_and, and_true, Bool.false_eq_true, if_true, if_false, Nat.zero_add, Nat.add_one_sub_one, Nat.sub_self, reduceIte, Nat.lt_add_left_iff_pos, eq_self, String.reduceBEq, Bool.not_true, Bool.not_false, Bool.or_self, Bool.or_false, Bool.or_true, Bool.true_or, Bool.false_or, Bool.and_true, Bool.true_and, Bool.and_false, Bool.false_and, ite_true, ite_false]
    have hR : 0 < R.length := by rw [← hr]; simp
    refine ⟨hs, .list (R.map natD), R.map natD, rfl, rfl, fun e => ?_, by rw [List.length_map]; omega, fun z d2 hz hs2 => ?_⟩
    · have := congrArg List.length e
      simp at this
      rw [this] at hR
      exact absurd hR (by simp)
    · obtain ⟨n, hnR, rfl⟩ := List.mem_map.mp hz
      refine ⟨by rw [List.length_map]; omega, comp_filtL natD natD (fun x => x != n) R (fun x hx C1 C2 hC hC' => ?_) ?_⟩
      · simp only [natD, sSkip, sSeq, sIf, sRet, sRetN, sExpr, sAsg, sSetC, sFrz, sBrk, sCont, sRaise, sApp, sSetIx, sFor, sPar, putAll, pNil, pO, pF, startS, startM, oPur, oMut, oIni, own, ownR, use, uses, res, varR, bVar, bC, bOp, bUn, bCB, aNil, aCons, bAnd, bOr, bNot, bIf, bChain, tVal, tBl, wNot, wAnd, wOr, bTup, frz, fLst, oNil, oCons, bSl, oNone, oSome, bCall, fCall, bCallM, fComp, fCB, fRng, bTRng, gNm, gTp, setAll, iSeq, iRange, iEnum, iZip, seqOf, noCelB, wipeS, restore, qAdd, okAdd, vAdd, gSub, qMul, okMul, vMul, gDiv, gMod, gPow, gLt, gGt, gGe, qLe, okLe, vLe, gEq, gNe, qIs, okIs, vIs, qIsNot, gNeg, qLen, okLen, vLen, gAll, gAny, gSum, gMax, qMin, okMin, vMin, qInt, okInt, vInt, qBool, okBool, vBool, qTuple, seq1, qIsi, okIsi, vIsi, qIx, ixR, qSl, okSl, vSl, qIn, okIn, vIn, qNotIn, gLenSet, jList, jSrt, truD, isNonD, List.getElem?_cons_zero, List.getElem?_cons_succ, List.set_cons_zero, List.set_cons_succ, List.length_cons, List.length_nil, List.map_cons, List.map_nil, List.replicate, List.append_nil, List.nil_append, List.cons_append, Nat.reduceAdd, Nat.reduceSub, Nat.reduceLT, Nat.reduceLeDiff, Nat.zero_lt_succ, true_and, and_true, Bool.false_eq_true, if_true, if_false, Nat.zero_add, Nat.add_one_sub_one, Nat.sub_self, reduceIte, Nat.lt_add_left_iff_pos, eq_self, String.reduceBEq, Bool.not_true, Bool.not_false, Bool.or_self, Bool.or_false, Bool.or_true, Bool.true_or, Bool.false_or, Bool.and_true, Bool.true_and, Bool.and_false, Bool.false_and, ite_true, ite_false]
        refine ⟨shp_int, shp_int, ?_⟩
        rw [eqv_len]
        cases hx : x == n with
        | true => simp only [sSkip, sSeq, sIf, sRet, sRetN, sExpr, sAsg, sSetC, sFrz, sBrk, sCont, sRaise, sApp, sSetIx, sFor, sPar, putAll, pNil, pO, pF, startS, startM, oPur, oMut, oIni, own, ownR, use, uses, res, varR, bVar, bC, bOp, bUn, bCB, aNil, aCons, bAnd, bOr, bNot, bIf, bChain, tVal, tBl, wNot, wAnd, wOr, bTup, frz, fLst, oNil, oCons, bSl, oNone, oSome, bCall, fCall, bCallM, fComp, fCB, fRng, bTRng, gNm, gTp, setAll, iSeq, iRange, iEnum, iZip, seqOf, noCelB, wipeS, restore, qAdd, okAdd, vAdd, gSub, qMul, okMul, vMul, gDiv, gMod, gPow, gLt, gGt, gGe, qLe, okLe, vLe, gEq, gNe, qIs, okIs, vIs, qIsNot, gNeg, qLen, okLen, vLen, gAll, gAny, gSum, gMax, qMin, okMin, vMin, qInt, okInt, vInt, qBool, okBool, vBool, qTuple, seq1, qIsi, okIsi, vIsi, qIx, ixR, qSl, okSl, vSl, qIn, okIn, vIn, qNotIn, gLenSet, jList, jSrt, truD, isNonD, List.getElem?_cons_zero, List.getElem?_cons_succ, List.set_cons_zero, List.set_cons_succ, List.length_cons, List.length_nil, List.map_cons, List.map_nil, List.replicate, List.append_nil, List.nil_append, List.cons_append, Nat.reduceAdd, Nat.reduceSub, Nat.reduceLT, Nat.reduceLeDiff, Nat.zero_lt_succ, true_and, and_true, Bool.false_eq_true, if_true, if_false, Nat.zero_add, Nat.add_one_sub_one, Nat.sub_self, reduceIte, Nat.lt_add_left_iff_pos, eq_self, String.reduceBEq, Bool.not_true, Bool.not_false, Bool.or_self, Bool.or_false, Bool.or_true, Bool.true_or, Bool.false_or, Bool.and_true, Bool.true_and, Bool.and_false, Bool.false_and, ite_true, ite_false]; exact hC' (by simp [bne, hx])
        | false => simp only [sSkip, sSeq, sIf, sRet, sRetN, sExpr, sAsg, sSetC, sFrz, sBrk, sCont, sRaise, sApp, sSetIx, sFor, sPar, putAll, pNil, pO, pF, startS, startM, oPur, oMut, oIni, own, ownR, use, uses, res, varR, bVar, bC, bOp, bUn, bCB, aNil, aCons, bAnd, bOr, bNot, bIf, bChain, tVal, tBl, wNot, wAnd, wOr, bTup, frz, fLst, oNil, oCons, bSl, oNone, oSome, bCall, fCall, bCallM, fComp, fCB, fRng, bTRng, gNm, gTp, setAll, iSeq, iRange, iEnum, iZip, seqOf, noCelB, wipeS, restore, qAdd, okAdd, vAdd, gSub, qMul, okMul, vMul, gDiv, gMod, gPow, gLt, gGt, gGe, qLe, okLe, vLe, gEq, gNe, qIs, okIs, vIs, qIsNot, gNeg, qLen, okLen, vLen, gAll, gAny, gSum, gMax, qMin, okMin, vMin, qInt, okInt, vInt, qBool, okBool, vBool, qTuple, seq1, qIsi, okIsi, vIsi, qIx, ixR, qSl, okSl, vSl, qIn, okIn, vIn, qNotIn, gLenSet, jList, jSrt, truD, isNonD, List.getElem?_cons_zero, List.getElem?_cons_succ, List.set_cons_zero, List.set_cons_succ, List.length_cons, List.length_nil, List.map_cons, List.map_nil, List.replicate, List.append_nil, List.nil_append, List.cons_append, Nat.reduceAdd, Nat.reduceSub, Nat.reduceLT, Nat.reduceLeDiff, Nat.zero_lt_succ, true_and, and_true, Bool.false_eq_true, if_true, if_false, Nat.zero_add, Nat.add_one_sub_one, Nat.sub_self, reduceIte, Nat.lt_add_left_iff_pos, eq_self, String.reduceBEq, Bool.not_true, Bool.not_false, Bool.or_self, Bool.or_false, Bool.or_true, Bool.true_or, Bool.false_or, Bool.and_true, Bool.true_and, Bool.and_false, Bool.false_and, ite_true, ite_false]; exact hC (by simp [bne, hx])
      · simp only [sSkip, sSeq, sIf, sRet, sRetN, sExpr, sAsg, sSetC, sFrz, sBrk, sCont, sRaise, sApp, sSetIx, sFor, sPar, putAll, pNil, pO, pF, startS, startM, oPur, oMut, oIni, own, ownR, use, uses, res, varR, bVar, bC, bOp, bUn, bCB, aNil, aCons, bAnd, bOr, bNot, bIf, bChain, tVal, tBl, wNot, wAnd, wOr, bTup, frz, fLst, oNil, oCons, bSl, oNone, oSome, bCall, fCall, bCallM, fComp, fCB, fRng, bTRng, gNm, gTp, setAll, iSeq, iRange, iEnum, iZip, seqOf, noCelB, wipeS, restore, qAdd, okAdd, vAdd, gSub, qMul, okMul, vMul, gDiv, gMod, gPow, gLt, gGt, gGe, qLe, okLe, vLe, gEq, gNe, qIs, okIs, vIs, qIsNot, gNeg, qLen, okLen, vLen, gAll, gAny, gSum, gMax, qMin, okMin, vMin, qInt, okInt, vInt, qBool, okBool, vBool, qTuple, seq1, qIsi, okIsi, vIsi, qIx, ixR, qSl, okSl, vSl, qIn, okIn, vIn, qNotIn, gLenSet, jList, jSrt, truD, isNonD, List.getElem?_cons_zero, List.getElem?_cons_succ, List.set_cons_zero, List.set_cons_succ, List.length_cons, List.length_nil, List.map_cons, List.map_nil, List.replicate, List.append_nil, List.nil_append, List.cons_append, Nat.reduceAdd, Nat.reduceSub, Nat.reduceLT, Nat.reduceLeDiff, Nat.zero_lt_succ, true_and, and_true, Bool.false_eq_true, if_true, if_false, Nat.zero_add, Nat.add_one_sub_one, Nat.sub_self, reduceIte, Nat.lt_add_left_iff_pos, eq_self, String.reduceBEq, Bool.not_true, Bool.not_false, Bool.or_self, Bool.or_false, Bool.or_true, Bool.true_or, Bool.false_or, Bool.and_true, Bool.true_and, Bool.and_false, Bool.false_and, ite_true, ite_false]
        refine ⟨by rw [List.length_map]; omega, ?_⟩
        have nr : (R.filter fun x => x != n) = R.erase n := (List.Nodup.erase_eq_filter (List.Nodup.sublist (List.sublist_append_left R F) nd) n).symm
        have le := List.length_erase_of_mem hnR
        refine k _ ⟨R.filter (fun x => x != n), F ++ [n], d2, .dat d, .dat (natD n), ?_, ?_, ?_, ?_, hs2, by simp⟩
        · rw [nr, le, ← hr]; simp
        · rw [nr, le, List.length_append]; simp; omega
        · intro x hx
          rcases List.mem_append.mp hx with hx | hx
          · exact hb x (List.mem_append_left _ (List.mem_filter.mp hx).1)
          · rcases List.mem_append.mp hx with hx | hx
            · exact hb x (List.mem_append_right _ hx)
            · simp at hx; subst hx; exact hb x (List.mem_append_left _ hnR)
        · have h3 := List.nodup_append.mp nd
          refine List.nodup_append.mpr ⟨h3.1.filter _, List.nodup_append.mpr ⟨h3.2.1, by simp, fun x hx y hy => ?_⟩, fun x hx y hy => ?_⟩
          · simp at hy
            subst hy
            exact fun e => h3.2.2 y hnR x hx e.symm
          · have hx' := List.mem_filter.mp hx
            rcases List.mem_append.mp hy with hy | hy
            · exact h3.2.2 x hx'.1 y hy
            · simp at hy
              subst hy
              simpa using hx'.2
  · rintro ρ ⟨R, F, d1, s4, s5, hr, hn, hb, nd, hs, rfl⟩
    have eR : R = [] := List.eq_nil_of_length_eq_zero (by rw [← hr]; rfl)
    subst eR
    simp only [sSkip, sSeq, sIf, sRet, sRetN, sExpr, sAsg, sSetC, sFrz, sBrk, sCont, sRaise, sApp, sSetIx, sFor, sPar, putAll, pNil, pO, pF, startS, startM, oPur, oMut, oIni, own, ownR, use, uses, res, varR, bVar, bC, bOp, bUn, bCB, aNil, aCons, bAnd, bOr, bNot, bIf, bChain, tVal, tBl, wNot, wAnd, wOr, bTup, frz, fLst, oNil, oCons, bSl, oNone, oSome, bCall, fCall, bCallM, fComp, fCB, fRng, bTRng, gNm, gTp, setAll, iSeq, iRange, iEnum, iZip, seqOf, noCelB, wipeS, restore, qAdd, okAdd, vAdd, gSub, qMul, okMul, vMul, gDiv, gMod, gPow, gLt, gGt, gGe, qLe, okLe, vLe, gEq, gNe, qIs, okIs, vIs, qIsNot, gNeg, qLen, okLen, vLen, gAll, gAny, gSum, gMax, qMin, okMin, vMin, qInt, okInt, vInt, qBool, okBool, vBool, qTuple, seq1, qIsi, okIsi, vIsi, qIx, ixR, qSl, okSl, vSl, qIn, okIn, vIn, qNotIn, gLenSet, jList, jSrt, truD, isNonD, List.getElem?_cons_zero, List.getElem?_cons_succ, List.set_cons_zero, List.set_cons_succ, List.length_cons, List.length_nil, List.map_cons, List.map_nil, List.replicate, List.append_nil, List.nil_append, List.cons_append, Nat.reduceAdd, Nat.reduceSub, Nat.reduceLT, Nat.reduceLeDiff, Nat.zero_lt_succ, true_and, and_true, Bool.false_eq_true, if_true, if_false, Nat.zero_add, Nat.add_one_sub_one, Nat.sub_self, reduceIte, Nat.lt_add_left_iff_pos, eq_self, String.reduceBEq, Bool.not_true, Bool.not_false, Bool.or_self, Bool.or_false, Bool.or_true, Bool.true_or, Bool.false_or, Bool.and_true, Bool.true_and, Bool.and_false, Bool.false_and, ite_true, ite_false]
    refine ⟨d1, rfl, q F d1 (by simpa using hn) (fun n h => hb n (by simpa using h)) (by simpa using nd) hs⟩
end DL
set_option Elab.async false
set_option linter.all false
set_option maxRecDepth 100000
set_option maxHeartbeats 4000000
namespace DL
open PySem PySem.Spec PyProof.Rows L2

/-! ### drawn values -/
/-- no dict; of a depth of n, every list or tuple of m at most -/
def okV (m : Nat) : Nat → D → Prop
  | 0, .tuple _ => False
  | 0, .list _ => False
  | n + 1, .tuple ds => ds.length ≤ m ∧ ∀ d ∈ ds, okV m n d
  | n + 1, .list ds => ds.length ≤ m ∧ ∀ d ∈ ds, okV m n d
  | _, .dict _ => False
  | _, .str s => PyData.strOk s = true
  | _, _ => True
theorem okD_str {n : Nat} {s : Str} (h : PyData.strOk s = true) : okD n (.str s) := ⟨by simpa [PyData.canLay0] using h, by simp [PyData.depth]⟩
theorem okV.ok {m : Nat} : ∀ {n : Nat} {d : D}, okV m n d → okD n d := by
  intro n
  induction n with
  | zero =>
    intro d h
    cases d with
    | none => exact okD_none
    | bool b => exact okD_bool
    | int i => exact okD_int
    | str s => exact okD_str h
    | tuple ds => exact h.elim
    | list ds => exact h.elim
    | dict kvs => exact h.elim
  | succ n ih =>
    intro d h
    cases d with
    | none => exact okD_none
    | bool b => exact okD_bool
    | int i => exact okD_int
    | str s => exact okD_str h
    | tuple ds => exact okD_tuple.mpr fun d hd => ih (h.2 d hd)
    | list ds => exact okD_list.mpr fun d hd => ih (h.2 d hd)
    | dict kvs => exact h.elim
theorem okV.up {m m' : Nat} (hm : m ≤ m') : ∀ {n n' : Nat} {d : D}, okV m n d → n ≤ n' → okV m' n' d := by
  intro n
  induction n with
  | zero =>
    intro n' d h _
    cases d with
    | tuple ds => exact h.elim
    | list ds => exact h.elim
    | dict kvs => exact h.elim
    | str s => cases n' <;> exact h
    | _ => cases n' <;> trivial
  | succ n ih =>
    intro n' d h hn
    obtain ⟨k, rfl⟩ : ∃ k, n' = k + 1 := ⟨n' - 1, by omega⟩
    cases d with
    | tuple ds => exact ⟨Nat.le_trans h.1 hm, fun d hd => ih (h.2 d hd) (by omega)⟩
    | list ds => exact ⟨Nat.le_trans h.1 hm, fun d hd => ih (h.2 d hd) (by omega)⟩
    | dict kvs => exact h.elim
    | str s => exact h
    | _ => trivial
theorem cp12 : CPow 10 12 := ⟨by decide, by decide, by decide⟩
def simpleL : List D := [.none, .bool true, .bool false, .int 0, .int 1, .int 2, .int 7, .int (-3), .int (10 ^ Int.toNat 12), .str (Str.ofString ""), .str (Str.ofString "3 5"), .tuple [], .list [], .tuple [.int 0, .int 5],
  .tuple [.int 3, .int 1], .tuple [.tuple [.int 0, .int 5]], .tuple [.tuple [.int 1, .int 2, .int 3]], .tuple [.int 0, .int 1]]
theorem strOk_empty : PyData.strOk (Str.ofString "") = true := by decide +kernel
theorem strOk_35 : PyData.strOk (Str.ofString "3 5") = true := by decide +kernel
theorem strOk_1 : PyData.strOk (Str.ofString "1") = true := by decide +kernel
theorem simple_ok : ∀ z ∈ simpleL, okV 40 2 z := by
  unfold simpleL
  simp only [List.forall_mem_cons, okV, strOk_empty, strOk_35, List.length_cons, List.length_nil]
  simp
def sq__law_any_value (L : Nat) (X : ED) (d0 ds : List D) (P : D → List D → Prop) : Prop := okSrc d0 ∧ ∃ n : Nat, n < L ∧ ds = [.int n] ∧ ∀ z d1, okV 40 (n + 2) z → okSrc d1 → P z d1
def cx__law_any_value (L : Nat) : Ctx := { N := ["_law_source_here", "_law_deep", "_law_simple_so", "_law_way", "_law_some", "_law_turn"], Γ := [("_law_any_value", .mut 2 (sq__law_any_value L)), ("_law_chosen", .mut 2 sp__law_chosen), ("_law_pick", .mut 2 sp__law_pick)], C := [], R := [], ms := [] }
def tr__law_any_value (L : Nat) : SW := (sSeq (sAsg (own (frz (fLst (oCons (own (bC .none)) (oCons (own (bC (.bool true))) (oCons (own (bC (.bool false))) (oCons (own (bC (.int 0))) (oCons (own (bC (.int 1))) (oCons (own (bC (.int 2))) (oCons (own (bC (.int 7))) (oCons (own (bUn gNeg (bC (.int 3)))) (oCons (own (bOp gPow (bC (.int 10)) (bC (.int 12)))) oNil)))))))))))) (gNm 2))
  (sSeq (sAsg (own (bOp qAdd (bVar 2) (frz (fLst (oCons (own (bC (.str ""))) (oCons (own (bC (.str "3 5"))) (oCons (own (bTup oNil)) (oCons (own (frz (fLst oNil))) (oCons (own (bTup (oCons (own (bC (.int 0))) (oCons (own (bC (.int 5))) oNil)))) (oCons (own (bTup (oCons (own (bC (.int 3))) (oCons (own (bC (.int 1))) oNil)))) (oCons (own (bTup (oCons (own (bTup (oCons (own (bC (.int 0))) (oCons (own (bC (.int 5))) oNil)))) oNil))) (oCons (own (bTup (oCons (own (bTup (oCons (own (bC (.int 1))) (oCons (own (bC (.int 2))) (oCons (own (bC (.int 3))) oNil))))) oNil))) (oCons (own (bTup (oCons (own (bC (.int 0))) (oCons (own (bC (.int 1))) oNil)))) oNil))))))))))))) (gNm 2))
  (sSeq (sAsg (own (bCallM sp__law_pick 2 0 (oCons (own (bC (.int 8))) oNil))) (gNm 3))
  (sSeq (sIf (wOr (tBl (bOp gLt (bVar 1) (bC (.int 1)))) (tBl (bOp gLt (bVar 3) (bC (.int 5)))))
  (sRet (own (bCallM sp__law_chosen 2 0 (oCons (own (bVar 2)) oNil))))
  sSkip)
  (sSeq (sFrz 4 (fComp (iRange (bCallM sp__law_pick 2 0 (oCons (own (bC (.int 5))) oNil))) (gNm 5) (fun _ ρ P => P true ρ) (own (bCallM (sq__law_any_value L) 2 0 (oCons (own (bOp gSub (bVar 1) (bC (.int 1)))) oNil))) [5]))
  (sRet (own (bIf (tBl (bOp gEq (bVar 3) (bC (.int 5)))) (bVar 4) (bCB qTuple (aCons (bVar 4) aNil))))))))))


theorem ty__law_any_value (L : Nat) (X : ED) (a : Addr) (d0 ds : List D) (Q : D → List D → Prop) (hl : ds.length + 1 = 2) (h : sq__law_any_value (L + 1) X d0 ds Q) : tr__law_any_value L X (startM (cx__law_any_value L).N a d0 ds) (oMut a Q) := by
  obtain ⟨h0, n, hn, rfl, q⟩ := h
  unfold tr__law_any_value cx__law_any_value
  simp only [sp__law_pick, sp__law_chosen, sSkip, sSeq, sIf, sRet, sRetN, sExpr, sAsg, sSetC, sFrz, sBrk, sCont, sRaise, sApp, sSetIx, sFor, sPar, putAll, pNil, pO, pF, startS, startM, oPur, oMut, oIni, own, ownR, use, uses, res, varR, bVar, bC, bOp, bUn, bCB, aNil, aCons, bAnd, bOr, bNot, bIf, bChain, tVal, tBl, wNot, wAnd, wOr, bTup, frz, fLst, oNil, oCons, bSl, oNone, oSome, bCall, fCall, bCallM, fComp, fCB, fRng, bTRng, gNm, gTp, setAll, iSeq, iRange, iEnum, iZip, seqOf, noCelB, wipeS, restore, qAdd, okAdd, vAdd, gSub, qMul, okMul, vMul, gDiv, gMod, gPow, gLt, gGt, gGe, qLe, okLe, vLe, gEq, gNe, qIs, okIs, vIs, qIsNot, gNeg, qLen, okLen, vLen, gAll, gAny, gSum, gMax, qMin, okMin, vMin, qInt, okInt, vInt, qBool, okBool, vBool, qTuple, seq1, qIsi, okIsi, vIsi, qIx, ixR, qSl, okSl, vSl, qIn, okIn, vIn, qNotIn, gLenSet, jList, jSrt, truD, isNonD, List.getElem?_cons_zero, List.getElem?_cons_succ, List.set_cons_zero, List.set_cons_succ, List.length_cons, List.length_nil, List.map_cons, List.map_nil, List.replicate, List.append_nil, List.nil_append, List.cons_append, Nat.reduceAdd, Nat.reduceSub, Nat.reduceLT, Nat.reduceLeDiff, Nat.zero_lt_succ, true_and, and_true, Bool.false_eq_true, if_true, if_false, Nat.zero_add, Nat.add_one_sub_one, Nat.sub_self, reduceIte, Nat.lt_add_left_iff_pos, eq_self, String.reduceBEq, Bool.not_true, Bool.not_false, Bool.or_self, Bool.or_false, Bool.or_true, Bool.true_or, Bool.false_or, Bool.and_true, Bool.true_and, Bool.and_false, Bool.false_and, ite_true, ite_false]
  refine ⟨cp12, h0, 8, rfl, by decide, by decide, fun x d1 x0 x1 hs => ?_⟩
  have sne : simpleL ≠ [] := by unfold simpleL; exact List.cons_ne_nil _ _
  have sle : simpleL.length ≤ 1000 := by unfold simpleL; simp
  have fin : ∀ (z : D) (d1 : List D), z ∈ simpleL → okSrc d1 → ∃ d2, some (SV.cel a d1) = some (SV.cel a d2) ∧ Q z d2 := fun z d1 hz hs => ⟨d1, rfl, q z d1 ((simple_ok z hz).up (Nat.le_refl _) (by omega)) hs⟩
  cases h1 : decide ((n : Int) < 1) with
  | true =>
    simp only [sSkip, sSeq, sIf, sRet, sRetN, sExpr, sAsg, sSetC, sFrz, sBrk, sCont, sRaise, sApp, sSetIx, sFor, sPar, putAll, pNil, pO, pF, startS, startM, oPur, oMut, oIni, own, ownR, use, uses, res, varR, bVar, bC, bOp, bUn, bCB, aNil, aCons, bAnd, bOr, bNot, bIf, bChain, tVal, tBl, wNot, wAnd, wOr, bTup, frz, fLst, oNil, oCons, bSl, oNone, oSome, bCall, fCall, bCallM, fComp, fCB, fRng, bTRng, gNm, gTp, setAll, iSeq, iRange, iEnum, iZip, seqOf, noCelB, wipeS, restore, qAdd, okAdd, vAdd, gSub, qMul, okMul, vMul, gDiv, gMod, gPow, gLt, gGt, gGe, qLe, okLe, vLe, gEq, gNe, qIs, okIs, vIs, qIsNot, gNeg, qLen, okLen, vLen, gAll, gAny, gSum, gMax, qMin, okMin, vMin, qInt, okInt, vInt, qBool, okBool, vBool, qTuple, seq1, qIsi, okIsi, vIsi, qIx, ixR, qSl, okSl, vSl, qIn, okIn, vIn, qNotIn, gLenSet, jList, jSrt, truD, isNonD, List.getElem?_cons_zero, List.getElem?_cons_succ, List.set_cons_zero, List.set_cons_succ, List.length_cons, List.length_nil, List.map_cons, List.map_nil, List.replicate, List.append_nil, List.nil_append, List.cons_append, Nat.reduceAdd, Nat.reduceSub, Nat.reduceLT, Nat.reduceLeDiff, Nat.zero_lt_succ, true_and, and_true, Bool.false_eq_true, if_true, if_false, Nat.zero_add, Nat.add_one_sub_one, Nat.sub_self, reduceIte, Nat.lt_add_left_iff_pos, eq_self, String.reduceBEq, Bool.not_true, Bool.not_false, Bool.or_self, Bool.or_false, Bool.or_true, Bool.true_or, Bool.false_or, Bool.and_true, Bool.true_and, Bool.and_false, Bool.false_and, ite_true, ite_false]
    exact ⟨hs, _, simpleL, rfl, rfl, sne, sle, fin⟩
  | false =>
    simp only [sSkip, sSeq, sIf, sRet, sRetN, sExpr, sAsg, sSetC, sFrz, sBrk, sCont, sRaise, sApp, sSetIx, sFor, sPar, putAll, pNil, pO, pF, startS, startM, oPur, oMut, oIni, own, ownR, use, uses, res, varR, bVar, bC, bOp, bUn, bCB, aNil, aCons, bAnd, bOr, bNot, bIf, bChain, tVal, tBl, wNot, wAnd, wOr, bTup, frz, fLst, oNil, oCons, bSl, oNone, oSome, bCall, fCall, bCallM, fComp, fCB, fRng, bTRng, gNm, gTp, setAll, iSeq, iRange, iEnum, iZip, seqOf, noCelB, wipeS, restore, qAdd, okAdd, vAdd, gSub, qMul, okMul, vMul, gDiv, gMod, gPow, gLt, gGt, gGe, qLe, okLe, vLe, gEq, gNe, qIs, okIs, vIs, qIsNot, gNeg, qLen, okLen, vLen, gAll, gAny, gSum, gMax, qMin, okMin, vMin, qInt, okInt, vInt, qBool, okBool, vBool, qTuple, seq1, qIsi, okIsi, vIsi, qIx, ixR, qSl, okSl, vSl, qIn, okIn, vIn, qNotIn, gLenSet, jList, jSrt, truD, isNonD, List.getElem?_cons_zero, List.getElem?_cons_succ, List.set_cons_zero, List.set_cons_succ, List.length_cons, List.length_nil, List.map_cons, List.map_nil, List.replicate, List.append_nil, List.nil_append, List.cons_append, Nat.reduceAdd, Nat.reduceSub, Nat.reduceLT, Nat.reduceLeDiff, Nat.zero_lt_succ, true_and, and_true, Bool.false_eq_true, if_true, if_false, Nat.zero_add, Nat.add_one_sub_one, Nat.sub_self, reduceIte, Nat.lt_add_left_iff_pos, eq_self, String.reduceBEq, Bool.not_true, Bool.not_false, Bool.or_self, Bool.or_false, Bool.or_true, Bool.true_or, Bool.false_or, Bool.and_true, Bool.true_and, Bool.and_false, Bool.false_and, ite_true, ite_false]
    cases h2 : decide (x < 5) with
    | true =>
      simp only [sSkip, sSeq, sIf, sRet, sRetN, sExpr, sAsg, sSetC, sFrz, sBrk, sCont, sRaise, sApp, sSetIx, sFor, sPar, putAll, pNil, pO, pF, startS, startM, oPur, oMut, oIni, own, ownR, use, uses, res, varR, bVar, bC, bOp, bUn, bCB, aNil, aCons, bAnd, bOr, bNot, bIf, bChain, tVal, tBl, wNot, wAnd, wOr, bTup, frz, fLst, oNil, oCons, bSl, oNone, oSome, bCall, fCall, bCallM, fComp, fCB, fRng, bTRng, gNm, gTp, setAll, iSeq, iRange, iEnum, iZip, seqOf, noCelB, wipeS, restore, qAdd, okAdd, vAdd, gSub, qMul, okMul, vMul, gDiv, gMod, gPow, gLt, gGt, gGe, qLe, okLe, vLe, gEq, gNe, qIs, okIs, vIs, qIsNot, gNeg, qLen, okLen, vLen, gAll, gAny, gSum, gMax, qMin, okMin, vMin, qInt, okInt, vInt, qBool, okBool, vBool, qTuple, seq1, qIsi, okIsi, vIsi, qIx, ixR, qSl, okSl, vSl, qIn, okIn, vIn, qNotIn, gLenSet, jList, jSrt, truD, isNonD, List.getElem?_cons_zero, List.getElem?_cons_succ, List.set_cons_zero, List.set_cons_succ, List.length_cons, List.length_nil, List.map_cons, List.map_nil, List.replicate, List.append_nil, List.nil_append, List.cons_append, Nat.reduceAdd, Nat.reduceSub, Nat.reduceLT, Nat.reduceLeDiff, Nat.zero_lt_succ, true_and, and_true, Bool.false_eq_true, if_true, if_false, Nat.zero_add, Nat.add_one_sub_one, Nat.sub_self, reduceIte, Nat.lt_add_left_iff_pos, eq_self, String.reduceBEq, Bool.not_true, Bool.not_false, Bool.or_self, Bool.or_false, Bool.or_true, Bool.true_or, Bool.false_or, Bool.and_true, Bool.true_and, Bool.and_false, Bool.false_and, ite_true, ite_false]
      exact ⟨hs, _, simpleL, rfl, rfl, sne, sle, fin⟩
    | false =>
      simp only [sSkip, sSeq, sIf, sRet, sRetN, sExpr, sAsg, sSetC, sFrz, sBrk, sCont, sRaise, sApp, sSetIx, sFor, sPar, putAll, pNil, pO, pF, startS, startM, oPur, oMut, oIni, own, ownR, use, uses, res, varR, bVar, bC, bOp, bUn, bCB, aNil, aCons, bAnd, bOr, bNot, bIf, bChain, tVal, tBl, wNot, wAnd, wOr, bTup, frz, fLst, oNil, oCons, bSl, oNone, oSome, bCall, fCall, bCallM, fComp, fCB, fRng, bTRng, gNm, gTp, setAll, iSeq, iRange, iEnum, iZip, seqOf, noCelB, wipeS, restore, qAdd, okAdd, vAdd, gSub, qMul, okMul, vMul, gDiv, gMod, gPow, gLt, gGt, gGe, qLe, okLe, vLe, gEq, gNe, qIs, okIs, vIs, qIsNot, gNeg, qLen, okLen, vLen, gAll, gAny, gSum, gMax, qMin, okMin, vMin, qInt, okInt, vInt, qBool, okBool, vBool, qTuple, seq1, qIsi, okIsi, vIsi, qIx, ixR, qSl, okSl, vSl, qIn, okIn, vIn, qNotIn, gLenSet, jList, jSrt, truD, isNonD, List.getElem?_cons_zero, List.getElem?_cons_succ, List.set_cons_zero, List.set_cons_succ, List.length_cons, List.length_nil, List.map_cons, List.map_nil, List.replicate, List.append_nil, List.nil_append, List.cons_append, Nat.reduceAdd, Nat.reduceSub, Nat.reduceLT, Nat.reduceLeDiff, Nat.zero_lt_succ, true_and, and_true, Bool.false_eq_true, if_true, if_false, Nat.zero_add, Nat.add_one_sub_one, Nat.sub_self, reduceIte, Nat.lt_add_left_iff_pos, eq_self, String.reduceBEq, Bool.not_true, Bool.not_false, Bool.or_self, Bool.or_false, Bool.or_true, Bool.true_or, Bool.false_or, Bool.and_true, Bool.true_and, Bool.and_false, Bool.false_and, ite_true, ite_false]
      refine ⟨hs, 5, rfl, by decide, by decide, fun y d2 y0 y1 hs2 => ?_⟩
      have n1 : 1 ≤ n := by have := of_decide_eq_false h1; omega
      have rl : (rangeD y.toNat).length = y.toNat := by unfold rangeD; simp
      refine ⟨by omega, by omega, by rw [rl]; omega, comp_inv (fun r acc ρ => ∃ (d' : List D), okSrc d' ∧ r.length + acc.length ≤ 5 ∧ (∀ z ∈ acc, okV 40 (n + 1) z) ∧
        ρ = [.cel a d', .dat (.int (n : Int)), .dat (.list simpleL), .dat (.int x), .un, .un]) ?_ ?_ _ _ _ ⟨d2, hs2, by rw [rl]; simp; omega, by simp, rfl⟩⟩
      · rintro d r acc ρ C ⟨d', hs', hn', ha, rfl⟩ k
        simp only [sq__law_any_value, sSkip, sSeq, sIf, sRet, sRetN, sExpr, sAsg, sSetC, sFrz, sBrk, sCont, sRaise, sApp, sSetIx, sFor, sPar, putAll, pNil, pO, pF, startS, startM, oPur, oMut, oIni, own, ownR, use, uses, res, varR, bVar, bC, bOp, bUn, bCB, aNil, aCons, bAnd, bOr, bNot, bIf, bChain, tVal, tBl, wNot, wAnd, wOr, bTup, frz, fLst, oNil, oCons, bSl, oNone, oSome, bCall, fCall, bCallM, fComp, fCB, fRng, bTRng, gNm, gTp, setAll, iSeq, iRange, iEnum, iZip, seqOf, noCelB, wipeS, restore, qAdd, okAdd, vAdd, gSub, qMul, okMul, vMul, gDiv, gMod, gPow, gLt, gGt, gGe, qLe, okLe, vLe, gEq, gNe, qIs, okIs, vIs, qIsNot, gNeg, qLen, okLen, vLen, gAll, gAny, gSum, gMax, qMin, okMin, vMin, qInt, okInt, vInt, qBool, okBool, vBool, qTuple, seq1, qIsi, okIsi, vIsi, qIx, ixR, qSl, okSl, vSl, qIn, okIn, vIn, qNotIn, gLenSet, jList, jSrt, truD, isNonD, List.getElem?_cons_zero, List.getElem?_cons_succ, List.set_cons_zero, List.set_cons_succ, List.length_cons, List.length_nil, List.map_cons, List.map_nil, List.replicate, List.append_nil, List.nil_append, List.cons_append, Nat.reduceAdd, Nat.reduceSub, Nat.reduceLT, Nat.reduceLeDiff, Nat.zero_lt_succ, true_and, and_true, Bool.false_eq_true, if_true, if_false, Nat.zero_add, Nat.add_one_sub_one, Nat.sub_self, reduceIte, Nat.lt_add_left_iff_pos, eq_self, String.reduceBEq, Bool.not_true, Bool.not_false, Bool.or_self, Bool.or_false, Bool.or_true, Bool.true_or, Bool.false_or, Bool.and_true, Bool.true_and, Bool.and_false, Bool.false_and, ite_true, ite_false]
        refine ⟨hs', n - 1, by omega, by simp; omega, fun z d3 hz hs3 => ?_⟩
        refine k _ _ ⟨d3, hs3, by simp at hn' ⊢; omega, fun w hw => ?_, rfl⟩
        rcases List.mem_append.mp hw with hw | hw
        · exact ha w hw
        · simp at hw
          subst hw
          exact hz.up (Nat.le_refl _) (by omega)
      · rintro acc ρ ⟨d', hs', hn', ha, rfl⟩
        have hlen : acc.length ≤ 5 := by simpa using hn'
        simp only [sSkip, sSeq, sIf, sRet, sRetN, sExpr, sAsg, sSetC, sFrz, sBrk, sCont, sRaise, sApp, sSetIx, sFor, sPar, putAll, pNil, pO, pF, startS, startM, oPur, oMut, oIni, own, ownR, use, uses, res, varR, bVar, bC, bOp, bUn, bCB, aNil, aCons, bAnd, bOr, bNot, bIf, bChain, tVal, tBl, wNot, wAnd, wOr, bTup, frz, fLst, oNil, oCons, bSl, oNone, oSome, bCall, fCall, bCallM, fComp, fCB, fRng, bTRng, gNm, gTp, setAll, iSeq, iRange, iEnum, iZip, seqOf, noCelB, wipeS, restore, qAdd, okAdd, vAdd, gSub, qMul, okMul, vMul, gDiv, gMod, gPow, gLt, gGt, gGe, qLe, okLe, vLe, gEq, gNe, qIs, okIs, vIs, qIsNot, gNeg, qLen, okLen, vLen, gAll, gAny, gSum, gMax, qMin, okMin, vMin, qInt, okInt, vInt, qBool, okBool, vBool, qTuple, seq1, qIsi, okIsi, vIsi, qIx, ixR, qSl, okSl, vSl, qIn, okIn, vIn, qNotIn, gLenSet, jList, jSrt, truD, isNonD, List.getElem?_cons_zero, List.getElem?_cons_succ, List.set_cons_zero, List.set_cons_succ, List.length_cons, List.length_nil, List.map_cons, List.map_nil, List.replicate, List.append_nil, List.nil_append, List.cons_append, Nat.reduceAdd, Nat.reduceSub, Nat.reduceLT, Nat.reduceLeDiff, Nat.zero_lt_succ, true_and, and_true, Bool.false_eq_true, if_true, if_false, Nat.zero_add, Nat.add_one_sub_one, Nat.sub_self, reduceIte, Nat.lt_add_left_iff_pos, eq_self, String.reduceBEq, Bool.not_true, Bool.not_false, Bool.or_self, Bool.or_false, Bool.or_true, Bool.true_or, Bool.false_or, Bool.and_true, Bool.true_and, Bool.and_false, Bool.false_and, ite_true, ite_false]
        refine ⟨shp_int, shp_int, ?_⟩
        cases h3 : PyData.eqv (.int x) (.int 5) with
        | true =>
          simp only [sSkip, sSeq, sIf, sRet, sRetN, sExpr, sAsg, sSetC, sFrz, sBrk, sCont, sRaise, sApp, sSetIx, sFor, sPar, putAll, pNil, pO, pF, startS, startM, oPur, oMut, oIni, own, ownR, use, uses, res, varR, bVar, bC, bOp, bUn, bCB, aNil, aCons, bAnd, bOr, bNot, bIf, bChain, tVal, tBl, wNot, wAnd, wOr, bTup, frz, fLst, oNil, oCons, bSl, oNone, oSome, bCall, fCall, bCallM, fComp, fCB, fRng, bTRng, gNm, gTp, setAll, iSeq, iRange, iEnum, iZip, seqOf, noCelB, wipeS, restore, qAdd, okAdd, vAdd, gSub, qMul, okMul, vMul, gDiv, gMod, gPow, gLt, gGt, gGe, qLe, okLe, vLe, gEq, gNe, qIs, okIs, vIs, qIsNot, gNeg, qLen, okLen, vLen, gAll, gAny, gSum, gMax, qMin, okMin, vMin, qInt, okInt, vInt, qBool, okBool, vBool, qTuple, seq1, qIsi, okIsi, vIsi, qIx, ixR, qSl, okSl, vSl, qIn, okIn, vIn, qNotIn, gLenSet, jList, jSrt, truD, isNonD, List.getElem?_cons_zero, List.getElem?_cons_succ, List.set_cons_zero, List.set_cons_succ, List.length_cons, List.length_nil, List.map_cons, List.map_nil, List.replicate, List.append_nil, List.nil_append, List.cons_append, Nat.reduceAdd, Nat.reduceSub, Nat.reduceLT, Nat.reduceLeDiff, Nat.zero_lt_succ, true_and, and_true, Bool.false_eq_true, if_true, if_false, Nat.zero_add, Nat.add_one_sub_one, Nat.sub_self, reduceIte, Nat.lt_add_left_iff_pos, eq_self, String.reduceBEq, Bool.not_true, Bool.not_false, Bool.or_self, Bool.or_false, Bool.or_true, Bool.true_or, Bool.false_or, Bool.and_true, Bool.true_and, Bool.and_false, Bool.false_and, ite_true, ite_false]
          exact ⟨d', rfl, q _ d' ⟨by omega, ha⟩ hs'⟩
        | false =>
          simp only [sSkip, sSeq, sIf, sRet, sRetN, sExpr, sAsg, sSetC, sFrz, sBrk, sCont, sRaise, sApp, sSetIx, sFor, sPar, putAll, pNil, pO, pF, startS, startM, oPur, oMut, oIni, own, ownR, use, uses, res, varR, bVar, bC, bOp, bUn, bCB, aNil, aCons, bAnd, bOr, bNot, bIf, bChain, tVal, tBl, wNot, wAnd, wOr, bTup, frz, fLst, oNil, oCons, bSl, oNone, oSome, bCall, fCall, bCallM, fComp, fCB, fRng, bTRng, gNm, gTp, setAll, iSeq, iRange, iEnum, iZip, seqOf, noCelB, wipeS, restore, qAdd, okAdd, vAdd, gSub, qMul, okMul, vMul, gDiv, gMod, gPow, gLt, gGt, gGe, qLe, okLe, vLe, gEq, gNe, qIs, okIs, vIs, qIsNot, gNeg, qLen, okLen, vLen, gAll, gAny, gSum, gMax, qMin, okMin, vMin, qInt, okInt, vInt, qBool, okBool, vBool, qTuple, seq1, qIsi, okIsi, vIsi, qIx, ixR, qSl, okSl, vSl, qIn, okIn, vIn, qNotIn, gLenSet, jList, jSrt, truD, isNonD, List.getElem?_cons_zero, List.getElem?_cons_succ, List.set_cons_zero, List.set_cons_succ, List.length_cons, List.length_nil, List.map_cons, List.map_nil, List.replicate, List.append_nil, List.nil_append, List.cons_append, Nat.reduceAdd, Nat.reduceSub, Nat.reduceLT, Nat.reduceLeDiff, Nat.zero_lt_succ, true_and, and_true, Bool.false_eq_true, if_true, if_false, Nat.zero_add, Nat.add_one_sub_one, Nat.sub_self, reduceIte, Nat.lt_add_left_iff_pos, eq_self, String.reduceBEq, Bool.not_true, Bool.not_false, Bool.or_self, Bool.or_false, Bool.or_true, Bool.true_or, Bool.false_or, Bool.and_true, Bool.true_and, Bool.and_false, Bool.false_and, ite_true, ite_false]
          exact ⟨d', rfl, q _ d' ⟨by omega, ha⟩ hs'⟩
def sp__law_any_value := sq__law_any_value 3
def sq__law_variant (L : Nat) (X : ED) (d0 ds : List D) (P : D → List D → Prop) : Prop := okSrc d0 ∧ ∃ (m n : Nat) (xs : List D) (v : D), ds = [v] ∧ seqOf v = some xs ∧ 40 ≤ m ∧ m ≤ 900 ∧ n ≤ L ∧ L ≤ 50 ∧ okV m n v ∧
  ∀ z ys d1, seqOf z = some ys → okV (m + 1) (n + 4) z → okSrc d1 → P z d1
def cx__law_variant (L : Nat) : Ctx := { N := ["_law_source_here", "_law_value", "_law_some", "_law_spot", "_law_way"], Γ := [("_law_any_value", .mut 2 sp__law_any_value), ("_law_chosen", .mut 2 sp__law_chosen), ("_law_pick", .mut 2 sp__law_pick), ("_law_variant", .mut 2 (sq__law_variant L))], C := [], R := [], ms := [2] }
def tr__law_variant (L : Nat) : SW := (sSeq (sSetC 2 (fCB jList (aCons (bVar 1) aNil)))
  (sSeq (sIf (tBl (bOp gEq (bVar 2) (frz (fLst oNil))))
  (sRet (own (bTup (oCons (own (bCallM sp__law_any_value 2 0 (oCons (own (bC (.int 1))) oNil))) oNil))))
  sSkip)
  (sSeq (sPar [3, 4] (pO (own (bCallM sp__law_pick 2 0 (oCons (own (bCB qLen (aCons (bVar 2) aNil))) oNil))) (pO (own (bCallM sp__law_pick 2 0 (oCons (own (bC (.int 9))) oNil))) pNil)))
  (sSeq (sIf (wAnd (tVal (bUn (qIsi "tuple") (bOp qIx (bVar 2) (bVar 3)))) (wAnd (tBl (bOp gNe (bOp qIx (bVar 2) (bVar 3)) (bTup oNil))) (tBl (bOp gGt (bVar 4) (bC (.int 2))))))
  (sSeq (sSetIx 2 (own (bCallM (sq__law_variant L) 2 0 (oCons (own (bOp qIx (bVar 2) (bVar 3))) oNil))) (bVar 3))
  (sRet (own (bCB qTuple (aCons (bVar 2) aNil)))))
  sSkip)
  (sSeq (sIf (tBl (bOp gEq (bVar 4) (bC (.int 0))))
  (sRet (own (bCB qTuple (aCons (bOp qAdd (bSl (bVar 2) oNone (oSome (bVar 3))) (bSl (bVar 2) (oSome (bOp qAdd (bVar 3) (bC (.int 1)))) oNone)) aNil))))
  sSkip)
  (sSeq (sIf (tBl (bOp gEq (bVar 4) (bC (.int 1))))
  (sRet (own (bCB qTuple (aCons (bOp qAdd (bSl (bVar 2) oNone (oSome (bOp qAdd (bVar 3) (bC (.int 1))))) (bSl (bVar 2) (oSome (bVar 3)) oNone)) aNil))))
  sSkip)
  (sSeq (sIf (tBl (bOp gEq (bVar 4) (bC (.int 2))))
  (sRet (own (bVar 2)))
  sSkip)
  (sSeq (sSetIx 2 (own (bCallM sp__law_chosen 2 0 (oCons (own (frz (fLst (oCons (own (bC .none)) (oCons (own (bC (.bool true))) (oCons (own (bC (.int 0))) (oCons (own (bC (.int 1))) (oCons (own (bC (.int 2))) (oCons (own (bC (.int 5))) (oCons (own (bC (.int 8))) (oCons (own (bUn gNeg (bC (.int 1)))) (oCons (own (bOp gPow (bC (.int 10)) (bC (.int 12)))) (oCons (own (bOp qAdd (bOp gPow (bC (.int 10)) (bC (.int 12))) (bC (.int 1)))) (oCons (own (bC (.str "1"))) (oCons (own (bTup oNil)) (oCons (own (bTup (oCons (own (bC (.int 1))) (oCons (own (bC (.int 2))) oNil)))) (oCons (own (frz (fLst (oCons (own (bC (.int 1))) (oCons (own (bC (.int 2))) oNil))))) oNil))))))))))))))))) oNil))) (bVar 3))
  (sRet (own (bCB qTuple (aCons (bVar 2) aNil))))))))))))


theorem okV_seq {m n : Nat} {v : D} {xs : List D} (h : okV m n v) (e : seqOf v = some xs) : ∃ k, n = k + 1 ∧ xs.length ≤ m ∧ ∀ d ∈ xs, okV m k d := by
  cases v with
  | list ds =>
    cases e
    cases n with
    | zero => exact h.elim
    | succ k => exact ⟨k, rfl, h.1, h.2⟩
  | tuple ds =>
    cases e
    cases n with
    | zero => exact h.elim
    | succ k => exact ⟨k, rfl, h.1, h.2⟩
  | _ => cases e
theorem seq1_of {v : D} {xs : List D} (e : seqOf v = some xs) : seq1 [v] = some xs := by
  cases v <;> first | exact e | cases e
theorem var_ite {c1 c2 c3 : Prop} [Decidable c1] [Decidable c2] [Decidable c3] {A B V T : Prop} (a : A) (b : B) (t : T) (v : c1 → c2 → c3 → V) : if c1 then (A ∧ B ∧ if c2 then (if c3 then V else T) else T) else T := by
  by_cases h1 : c1
  · rw [if_pos h1]
    refine ⟨a, b, ?_⟩
    by_cases h2 : c2
    · rw [if_pos h2]
      by_cases h3 : c3
      · rw [if_pos h3]; exact v h1 h2 h3
      · rw [if_neg h3]; exact t
    · rw [if_neg h2]; exact t
  · rw [if_neg h1]; exact t
theorem cut_mem {α : Type} {l : List α} {lo hi : Option Int} {x : α} (h : x ∈ cutL l lo hi) : x ∈ l := List.mem_of_mem_drop (List.mem_of_mem_take h)
theorem cut_len {α : Type} {l : List α} {lo hi : Option Int} : (cutL l lo hi).length ≤ HT.sIx l.length l.length hi - HT.sIx l.length 0 lo := by unfold cutL; rw [List.length_take]; omega
theorem chosen_ok : ∀ z ∈ ([.none, .bool true, .int 0, .int 1, .int 2, .int 5, .int 8, .int (-1), .int (10 ^ Int.toNat 12), .int (10 ^ Int.toNat 12 + 1), .str (Str.ofString "1"), .tuple [], .tuple [.int 1, .int 2], .list [.int 1, .int 2]] : List D), okV 40 1 z := by
  simp only [List.forall_mem_cons, okV, strOk_1, List.length_cons, List.length_nil]
  simp
theorem ty__law_variant (L : Nat) (X : ED) (a : Addr) (d0 ds : List D) (Q : D → List D → Prop) (hl : ds.length + 1 = 2) (h : sq__law_variant (L + 1) X d0 ds Q) : tr__law_variant L X (startM (cx__law_variant L).N a d0 ds) (oMut a Q) := by
  obtain ⟨h0, m, n0, xs, v, rfl, e, m0, m1, hn0, hL, hv, q⟩ := h
  obtain ⟨k, rfl, hx, hd⟩ := okV_seq hv e
  unfold tr__law_variant cx__law_variant
  have hv' : v = .list xs ∨ v = .tuple xs := by
    cases v <;> first | (left; cases e; rfl) | (right; cases e; rfl) | cases e
  have hs : shp (.list xs) = true := ((okD_list (n := k)).mpr fun d h => (hd d h).ok).shp
  have hset : ∀ (n : Nat) (z : D), okV (m + 1) (k + 4) z → okV (m + 1) (k + 1 + 4) (.tuple (xs.set n z)) := fun n z hz => by
    refine ⟨by rw [List.length_set]; omega, fun d hd2 => ?_⟩
    rcases List.mem_or_eq_of_mem_set hd2 with h | h
    · exact (hd d h).up (by omega) (by omega)
    · exact h ▸ hz
  have hcut : ∀ (ys : List D), ys.length ≤ xs.length + 1 → (∀ d ∈ ys, d ∈ xs) → okV (m + 1) (k + 1 + 4) (.tuple ys) := fun ys h1 h2 => ⟨by omega, fun d hd2 => (hd d (h2 d hd2)).up (by omega) (by omega)⟩
  rcases hv' with rfl | rfl
  all_goals
    simp only [sp__law_pick, sp__law_any_value, sq__law_any_value, sSkip, sSeq, sIf, sRet, sRetN, sExpr, sAsg, sSetC, sFrz, sBrk, sCont, sRaise, sApp, sSetIx, sFor, sPar, putAll, pNil, pO, pF, startS, startM, oPur, oMut, oIni, own, ownR, use, uses, res, varR, bVar, bC, bOp, bUn, bCB, aNil, aCons, bAnd, bOr, bNot, bIf, bChain, tVal, tBl, wNot, wAnd, wOr, bTup, frz, fLst, oNil, oCons, bSl, oNone, oSome, bCall, fCall, bCallM, fComp, fCB, fRng, bTRng, gNm, gTp, setAll, iSeq, iRange, iEnum, iZip, seqOf, noCelB, wipeS, restore, qAdd, okAdd, vAdd, gSub, qMul, okMul, vMul, gDiv, gMod, gPow, gLt, gGt, gGe, qLe, okLe, vLe, gEq, gNe, qIs, okIs, vIs, qIsNot, gNeg, qLen, okLen, vLen, gAll, gAny, gSum, gMax, qMin, okMin, vMin, qInt, okInt, vInt, qBool, okBool, vBool, qTuple, seq1, qIsi, okIsi, vIsi, qIx, ixR, qSl, okSl, vSl, qIn, okIn, vIn, qNotIn, gLenSet, jList, jSrt, truD, isNonD, List.getElem?_cons_zero, List.getElem?_cons_succ, List.set_cons_zero, List.set_cons_succ, List.length_cons, List.length_nil, List.map_cons, List.map_nil, List.replicate, List.append_nil, List.nil_append, List.cons_append, Nat.reduceAdd, Nat.reduceSub, Nat.reduceLT, Nat.reduceLeDiff, Nat.zero_lt_succ, true_and, and_true, Bool.false_eq_true, if_true, if_false, Nat.zero_add, Nat.add_one_sub_one, Nat.sub_self, reduceIte, Nat.lt_add_left_iff_pos, eq_self, String.reduceBEq, Bool.not_true, Bool.not_false, Bool.or_self, Bool.or_false, Bool.or_true, Bool.true_or, Bool.false_or, Bool.and_true, Bool.true_and, Bool.and_false, Bool.false_and, ite_true, ite_false]
    intro p
    refine ⟨hs, shp_nilL, ?_⟩
    rw [eqv_nilL]
    cases hem : xs.isEmpty with
    | true =>
      simp only [sSkip, sSeq, sIf, sRet, sRetN, sExpr, sAsg, sSetC, sFrz, sBrk, sCont, sRaise, sApp, sSetIx, sFor, sPar, putAll, pNil, pO, pF, startS, startM, oPur, oMut, oIni, own, ownR, use, uses, res, varR, bVar, bC, bOp, bUn, bCB, aNil, aCons, bAnd, bOr, bNot, bIf, bChain, tVal, tBl, wNot, wAnd, wOr, bTup, frz, fLst, oNil, oCons, bSl, oNone, oSome, bCall, fCall, bCallM, fComp, fCB, fRng, bTRng, gNm, gTp, setAll, iSeq, iRange, iEnum, iZip, seqOf, noCelB, wipeS, restore, qAdd, okAdd, vAdd, gSub, qMul, okMul, vMul, gDiv, gMod, gPow, gLt, gGt, gGe, qLe, okLe, vLe, gEq, gNe, qIs, okIs, vIs, qIsNot, gNeg, qLen, okLen, vLen, gAll, gAny, gSum, gMax, qMin, okMin, vMin, qInt, okInt, vInt, qBool, okBool, vBool, qTuple, seq1, qIsi, okIsi, vIsi, qIx, ixR, qSl, okSl, vSl, qIn, okIn, vIn, qNotIn, gLenSet, jList, jSrt, truD, isNonD, List.getElem?_cons_zero, List.getElem?_cons_succ, List.set_cons_zero, List.set_cons_succ, List.length_cons, List.length_nil, List.map_cons, List.map_nil, List.replicate, List.append_nil, List.nil_append, List.cons_append, Nat.reduceAdd, Nat.reduceSub, Nat.reduceLT, Nat.reduceLeDiff, Nat.zero_lt_succ, true_and, and_true, Bool.false_eq_true, if_true, if_false, Nat.zero_add, Nat.add_one_sub_one, Nat.sub_self, reduceIte, Nat.lt_add_left_iff_pos, eq_self, String.reduceBEq, Bool.not_true, Bool.not_false, Bool.or_self, Bool.or_false, Bool.or_true, Bool.true_or, Bool.false_or, Bool.and_true, Bool.true_and, Bool.and_false, Bool.false_and, ite_true, ite_false]
      refine ⟨h0, 1, by decide, rfl, fun z d1 hz hs1 => ⟨d1, rfl, q _ [z] d1 rfl ⟨by simp, fun d hd2 => ?_⟩ hs1⟩⟩
      simp at hd2
      subst hd2
      exact hz.up (by omega) (by omega)
    | false =>
      have hpos : 0 < xs.length := by
        cases xs with
        | nil => cases hem
        | cons _ _ => simp
      simp only [sSkip, sSeq, sIf, sRet, sRetN, sExpr, sAsg, sSetC, sFrz, sBrk, sCont, sRaise, sApp, sSetIx, sFor, sPar, putAll, pNil, pO, pF, startS, startM, oPur, oMut, oIni, own, ownR, use, uses, res, varR, bVar, bC, bOp, bUn, bCB, aNil, aCons, bAnd, bOr, bNot, bIf, bChain, tVal, tBl, wNot, wAnd, wOr, bTup, frz, fLst, oNil, oCons, bSl, oNone, oSome, bCall, fCall, bCallM, fComp, fCB, fRng, bTRng, gNm, gTp, setAll, iSeq, iRange, iEnum, iZip, seqOf, noCelB, wipeS, restore, qAdd, okAdd, vAdd, gSub, qMul, okMul, vMul, gDiv, gMod, gPow, gLt, gGt, gGe, qLe, okLe, vLe, gEq, gNe, qIs, okIs, vIs, qIsNot, gNeg, qLen, okLen, vLen, gAll, gAny, gSum, gMax, qMin, okMin, vMin, qInt, okInt, vInt, qBool, okBool, vBool, qTuple, seq1, qIsi, okIsi, vIsi, qIx, ixR, qSl, okSl, vSl, qIn, okIn, vIn, qNotIn, gLenSet, jList, jSrt, truD, isNonD, List.getElem?_cons_zero, List.getElem?_cons_succ, List.set_cons_zero, List.set_cons_succ, List.length_cons, List.length_nil, List.map_cons, List.map_nil, List.replicate, List.append_nil, List.nil_append, List.cons_append, Nat.reduceAdd, Nat.reduceSub, Nat.reduceLT, Nat.reduceLeDiff, Nat.zero_lt_succ, true_and, and_true, Bool.false_eq_true, if_true, if_false, Nat.zero_add, Nat.add_one_sub_one, Nat.sub_self, reduceIte, Nat.lt_add_left_iff_pos, eq_self, String.reduceBEq, Bool.not_true, Bool.not_false, Bool.or_self, Bool.or_false, Bool.or_true, Bool.true_or, Bool.false_or, Bool.and_true, Bool.true_and, Bool.and_false, Bool.false_and, ite_true, ite_false]
      refine ⟨h0, _, rfl, by omega, by omega, fun x d1 x0 x1 hs1 => ⟨hs1, _, rfl, by decide, by decide, fun y d2 y0 y1 hs2 => ?_⟩⟩
      obtain ⟨n, rfl⟩ := Int.eq_ofNat_of_zero_le x0
      have hn : n < xs.length := by omega
      have ez : atI xs (n : Int) = some xs[n] := by rw [atI_nat hn, List.getElem?_eq_getElem hn]
      have ei : ixN xs.length (n : Int) = some n := by unfold ixN; rw [if_pos (by omega), if_pos (by omega)]; simp
      have hz := hd _ (List.getElem_mem hn)
      generalize xs[n] = z at ez hz
      have ec1 : ((n : Int) + 1) = ((n + 1 : Nat) : Int) := by omega
      simp only [ez, ei]
      have hshp := (hz.ok).shp
      refine ⟨?_, var_ite hshp ((okD_tuple (n := 0)).mpr (by simp)).shp ?_ fun c1 c2 c3 => ?_⟩
      · cases z <;> first | trivial | exact (not_dict hshp).elim
      · refine ⟨shp_int, shp_int, ?_⟩
        have l1 := cut_len (l := xs) (lo := none) (hi := some (n : Int))
        have l2 := cut_len (l := xs) (lo := some ((n : Int) + 1)) (hi := none)
        have l3 := cut_len (l := xs) (lo := none) (hi := some ((n : Int) + 1))
        have l4 := cut_len (l := xs) (lo := some (n : Int)) (hi := none)
        rw [ec1] at l2 l3 ⊢
        rw [HT.sIx_none, HT.sIx_nat] at l1 l2 l3 l4
        by_cases y0' : PyData.eqv (.int y) (.int 0) = true
        · rw [if_pos y0']
          refine ⟨by omega, d2, rfl, q _ _ d2 rfl (hcut _ (by rw [List.length_append]; omega) fun d hd2 => ?_) hs2⟩
          rcases List.mem_append.mp hd2 with h | h <;> exact cut_mem h
        · rw [if_neg y0']
          refine ⟨shp_int, shp_int, ?_⟩
          by_cases y1' : PyData.eqv (.int y) (.int 1) = true
          · rw [if_pos y1']
            refine ⟨by omega, d2, rfl, q _ _ d2 rfl (hcut _ (by rw [List.length_append]; omega) fun d hd2 => ?_) hs2⟩
            rcases List.mem_append.mp hd2 with h | h <;> exact cut_mem h
          · rw [if_neg y1']
            refine ⟨shp_int, shp_int, ?_⟩
            by_cases y2' : PyData.eqv (.int y) (.int 2) = true
            · rw [if_pos y2']
              exact ⟨d2, rfl, q (.list xs) xs d2 rfl ⟨by omega, fun d h => (hd d h).up (by omega) (by omega)⟩ hs2⟩
            · rw [if_neg y2']
              refine ⟨cp12, cp12, hs2, _, _, rfl, rfl, List.cons_ne_nil _ _, by simp, fun z d3 hz hs3 => ⟨d3, rfl, q _ _ d3 rfl (hset n z ?_) hs3⟩⟩
              exact (chosen_ok z hz).up (by omega) (by omega)
      · cases z with
        | tuple ts =>
          refine ⟨hs2, m, k, ts, _, rfl, rfl, m0, m1, by omega, by omega, hz, fun z ys d3 _ hz2 hs3 => ⟨d3, rfl, q _ _ d3 rfl (hset n z hz2) hs3⟩⟩
        | _ => cases c1
end DL
set_option Elab.async false
set_option linter.all false
set_option maxRecDepth 100000
set_option maxHeartbeats 4000000
namespace DL
open PySem PySem.Spec PyProof.Rows L2

/-! ### the refusals' names -/
def wordTab : List (Str × Str) := [("InvalidJobs", "jobs"), ("InvalidOrder", "order")]
def wordOf : Str → Option Str := fun x => wordTab.lookup x
theorem word_jobs : wordOf "InvalidJobs" = some "jobs" := by decide +kernel
theorem word_order : wordOf "InvalidOrder" = some "order" := by decide +kernel
def ga__law_by_two : List (Str × FnC) := [("is_order", .pur 2 sp_is_order), ("starts", .pur 2 sp_starts), ("gaps", .pur 2 sp_gaps), ("whole_time", .pur 2 sp_whole_time)]
theorem ga_1 : ga__law_by_two.lookup ("is_order" : Str) = some (FnC.pur 2 sp_is_order) := by kernel_rfl
theorem ga_2 : ga__law_by_two.lookup ("starts" : Str) = some (FnC.pur 2 sp_starts) := by kernel_rfl
theorem ga_3 : ga__law_by_two.lookup ("gaps" : Str) = some (FnC.pur 2 sp_gaps) := by kernel_rfl
theorem ga_4 : ga__law_by_two.lookup ("whole_time" : Str) = some (FnC.pur 2 sp_whole_time) := by kernel_rfl
/-- the word that a call of f gives -/
def wordBy (f : Str) (w v : D) : Str := if areJobsB w = true then (if f = "is_order" ∨ ordB (lenD w) v = true then "" else "order") else "jobs"
def sp__law_by_two (X : ED) (ds : List D) (P : D → Prop) : Prop := ∃ (f : Str) (w v : D), ds = [fnD f, w, v] ∧ shp w = true ∧ shp v = true ∧ (f = "is_order" ∨ f = "starts" ∨ f = "gaps" ∨ f = "whole_time") ∧ P (.str (wordBy f w v))
def cx__law_by_two : Ctx := { N := ["_law_call", "_law_one", "_law_other"], Γ := ga__law_by_two, C := [], R := [], ms := [], rf := some { x := "_law_refused", word := wordOf } }
def tr__law_by_two : SW := (sRet (own (bRef wordOf (bCallV ga__law_by_two 0 (oCons (own (bVar 1)) (oCons (own (bVar 2)) oNil))))))


theorem spJO_word {f : JL → List Nat → D} {w v : D} {X : ED} {P : D → Prop} (hw : shp w = true) (hv : shp v = true) (h1 : areJobsB w = true → ordB (lenD w) v = true → ∀ d, P d) (h2 : areJobsB w = true → ordB (lenD w) v = false → X "InvalidOrder") (h3 : areJobsB w = false → X "InvalidJobs") : spJO f X [w, v] P := by
  unfold spJO
  refine ⟨hw, hv, ?_⟩
  cases a : areJobsB w with
  | false => simpa using h3 a
  | true =>
    cases b : ordB (lenD w) v with
    | false => simpa using h2 a b
    | true => simpa using h1 a b _
theorem ty__law_by_two (X : ED) (ds : List D) (Q : D → Prop) (hl : ds.length = 3) (h : sp__law_by_two X ds Q) : tr__law_by_two X (startS cx__law_by_two.N ds) (oPur Q) := by
  obtain ⟨f, w, v, rfl, hw, hv, hf, q⟩ := h
  unfold tr__law_by_two cx__law_by_two
  unfold wordBy at q
  have s3 : ("starts" : Str) ≠ "is_order" := by decide +kernel
  have s4 : ("gaps" : Str) ≠ "is_order" := by decide +kernel
  have s5 : ("whole_time" : Str) ≠ "is_order" := by decide +kernel
  have jo : ∀ {g : JL → List Nat → D} {f : Str}, f ≠ "is_order" → Q (.str (if areJobsB w = true then (if f = "is_order" ∨ ordB (lenD w) v = true then "" else "order") else "jobs")) → spJO g (fun x => ∃ w, wordOf x = some w ∧ Q (.str w)) [w, v] fun d => Q (.str (Str.ofString "")) := fun {g f} hne q => by
    refine spJO_word hw hv (fun a b d => ?_) (fun a b => ⟨_, word_order, ?_⟩) (fun a => ⟨_, word_jobs, ?_⟩)
    · rw [if_pos a, if_pos (.inr b)] at q; exact q
    · rw [if_pos a, if_neg (by rw [b]; simp [hne])] at q; exact q
    · rw [if_neg (by rw [a]; simp)] at q; exact q
  rcases hf with rfl | rfl | rfl | rfl
  · simp only [bRef, bCallV, varF, frzR, ga_1, sSkip, sSeq, sIf, sRet, sRetN, sExpr, sAsg, sSetC, sFrz, sBrk, sCont, sRaise, sApp, sSetIx, sFor, sPar, putAll, pNil, pO, pF, startS, startM, oPur, oMut, oIni, own, ownR, use, uses, res, varR, bVar, bC, bOp, bUn, bCB, aNil, aCons, bAnd, bOr, bNot, bIf, bChain, tVal, tBl, wNot, wAnd, wOr, bTup, frz, fLst, oNil, oCons, bSl, oNone, oSome, bCall, fCall, bCallM, fComp, fCB, fRng, bTRng, gNm, gTp, setAll, iSeq, iRange, iEnum, iZip, seqOf, noCelB, wipeS, restore, qAdd, okAdd, vAdd, gSub, qMul, okMul, vMul, gDiv, gMod, gPow, gLt, gGt, gGe, qLe, okLe, vLe, gEq, gNe, qIs, okIs, vIs, qIsNot, gNeg, qLen, okLen, vLen, gAll, gAny, gSum, gMax, qMin, okMin, vMin, qInt, okInt, vInt, qBool, okBool, vBool, qTuple, seq1, qIsi, okIsi, vIsi, qIx, ixR, qSl, okSl, vSl, qIn, okIn, vIn, qNotIn, gLenSet, jList, jSrt, truD, isNonD, List.getElem?_cons_zero, List.getElem?_cons_succ, List.set_cons_zero, List.set_cons_succ, List.length_cons, List.length_nil, List.map_cons, List.map_nil, List.replicate, List.append_nil, List.nil_append, List.cons_append, Nat.reduceAdd, Nat.reduceSub, Nat.reduceLT, Nat.reduceLeDiff, Nat.zero_lt_succ, true_and, and_true, Bool.false_eq_true, if_true, if_false, Nat.zero_add, Nat.add_one_sub_one, Nat.sub_self, reduceIte, Nat.lt_add_left_iff_pos, eq_self, String.reduceBEq, Bool.not_true, Bool.not_false, Bool.or_self, Bool.or_false, Bool.or_true, Bool.true_or, Bool.false_or, Bool.and_true, Bool.true_and, Bool.and_false, Bool.false_and, ite_true, ite_false]
    refine ⟨hw, hv, ?_⟩
    cases a : areJobsB w with
    | false =>
      rw [if_neg (by simp)]
      rw [if_neg (by rw [a]; simp)] at q
      exact ⟨_, word_jobs, q⟩
    | true =>
      rw [if_pos rfl]
      rw [if_pos a, if_pos (.inl rfl)] at q
      exact q
  · simp only [bRef, bCallV, varF, frzR, ga_2, sSkip, sSeq, sIf, sRet, sRetN, sExpr, sAsg, sSetC, sFrz, sBrk, sCont, sRaise, sApp, sSetIx, sFor, sPar, putAll, pNil, pO, pF, startS, startM, oPur, oMut, oIni, own, ownR, use, uses, res, varR, bVar, bC, bOp, bUn, bCB, aNil, aCons, bAnd, bOr, bNot, bIf, bChain, tVal, tBl, wNot, wAnd, wOr, bTup, frz, fLst, oNil, oCons, bSl, oNone, oSome, bCall, fCall, bCallM, fComp, fCB, fRng, bTRng, gNm, gTp, setAll, iSeq, iRange, iEnum, iZip, seqOf, noCelB, wipeS, restore, qAdd, okAdd, vAdd, gSub, qMul, okMul, vMul, gDiv, gMod, gPow, gLt, gGt, gGe, qLe, okLe, vLe, gEq, gNe, qIs, okIs, vIs, qIsNot, gNeg, qLen, okLen, vLen, gAll, gAny, gSum, gMax, qMin, okMin, vMin, qInt, okInt, vInt, qBool, okBool, vBool, qTuple, seq1, qIsi, okIsi, vIsi, qIx, ixR, qSl, okSl, vSl, qIn, okIn, vIn, qNotIn, gLenSet, jList, jSrt, truD, isNonD, List.getElem?_cons_zero, List.getElem?_cons_succ, List.set_cons_zero, List.set_cons_succ, List.length_cons, List.length_nil, List.map_cons, List.map_nil, List.replicate, List.append_nil, List.nil_append, List.cons_append, Nat.reduceAdd, Nat.reduceSub, Nat.reduceLT, Nat.reduceLeDiff, Nat.zero_lt_succ, true_and, and_true, Bool.false_eq_true, if_true, if_false, Nat.zero_add, Nat.add_one_sub_one, Nat.sub_self, reduceIte, Nat.lt_add_left_iff_pos, eq_self, String.reduceBEq, Bool.not_true, Bool.not_false, Bool.or_self, Bool.or_false, Bool.or_true, Bool.true_or, Bool.false_or, Bool.and_true, Bool.true_and, Bool.and_false, Bool.false_and, ite_true, ite_false]
    exact jo s3 q
  · simp only [bRef, bCallV, varF, frzR, ga_3, sSkip, sSeq, sIf, sRet, sRetN, sExpr, sAsg, sSetC, sFrz, sBrk, sCont, sRaise, sApp, sSetIx, sFor, sPar, putAll, pNil, pO, pF, startS, startM, oPur, oMut, oIni, own, ownR, use, uses, res, varR, bVar, bC, bOp, bUn, bCB, aNil, aCons, bAnd, bOr, bNot, bIf, bChain, tVal, tBl, wNot, wAnd, wOr, bTup, frz, fLst, oNil, oCons, bSl, oNone, oSome, bCall, fCall, bCallM, fComp, fCB, fRng, bTRng, gNm, gTp, setAll, iSeq, iRange, iEnum, iZip, seqOf, noCelB, wipeS, restore, qAdd, okAdd, vAdd, gSub, qMul, okMul, vMul, gDiv, gMod, gPow, gLt, gGt, gGe, qLe, okLe, vLe, gEq, gNe, qIs, okIs, vIs, qIsNot, gNeg, qLen, okLen, vLen, gAll, gAny, gSum, gMax, qMin, okMin, vMin, qInt, okInt, vInt, qBool, okBool, vBool, qTuple, seq1, qIsi, okIsi, vIsi, qIx, ixR, qSl, okSl, vSl, qIn, okIn, vIn, qNotIn, gLenSet, jList, jSrt, truD, isNonD, List.getElem?_cons_zero, List.getElem?_cons_succ, List.set_cons_zero, List.set_cons_succ, List.length_cons, List.length_nil, List.map_cons, List.map_nil, List.replicate, List.append_nil, List.nil_append, List.cons_append, Nat.reduceAdd, Nat.reduceSub, Nat.reduceLT, Nat.reduceLeDiff, Nat.zero_lt_succ, true_and, and_true, Bool.false_eq_true, if_true, if_false, Nat.zero_add, Nat.add_one_sub_one, Nat.sub_self, reduceIte, Nat.lt_add_left_iff_pos, eq_self, String.reduceBEq, Bool.not_true, Bool.not_false, Bool.or_self, Bool.or_false, Bool.or_true, Bool.true_or, Bool.false_or, Bool.and_true, Bool.true_and, Bool.and_false, Bool.false_and, ite_true, ite_false]
    exact jo s4 q
  · simp only [bRef, bCallV, varF, frzR, ga_4, sSkip, sSeq, sIf, sRet, sRetN, sExpr, sAsg, sSetC, sFrz, sBrk, sCont, sRaise, sApp, sSetIx, sFor, sPar, putAll, pNil, pO, pF, startS, startM, oPur, oMut, oIni, own, ownR, use, uses, res, varR, bVar, bC, bOp, bUn, bCB, aNil, aCons, bAnd, bOr, bNot, bIf, bChain, tVal, tBl, wNot, wAnd, wOr, bTup, frz, fLst, oNil, oCons, bSl, oNone, oSome, bCall, fCall, bCallM, fComp, fCB, fRng, bTRng, gNm, gTp, setAll, iSeq, iRange, iEnum, iZip, seqOf, noCelB, wipeS, restore, qAdd, okAdd, vAdd, gSub, qMul, okMul, vMul, gDiv, gMod, gPow, gLt, gGt, gGe, qLe, okLe, vLe, gEq, gNe, qIs, okIs, vIs, qIsNot, gNeg, qLen, okLen, vLen, gAll, gAny, gSum, gMax, qMin, okMin, vMin, qInt, okInt, vInt, qBool, okBool, vBool, qTuple, seq1, qIsi, okIsi, vIsi, qIx, ixR, qSl, okSl, vSl, qIn, okIn, vIn, qNotIn, gLenSet, jList, jSrt, truD, isNonD, List.getElem?_cons_zero, List.getElem?_cons_succ, List.set_cons_zero, List.set_cons_succ, List.length_cons, List.length_nil, List.map_cons, List.map_nil, List.replicate, List.append_nil, List.nil_append, List.cons_append, Nat.reduceAdd, Nat.reduceSub, Nat.reduceLT, Nat.reduceLeDiff, Nat.zero_lt_succ, true_and, and_true, Bool.false_eq_true, if_true, if_false, Nat.zero_add, Nat.add_one_sub_one, Nat.sub_self, reduceIte, Nat.lt_add_left_iff_pos, eq_self, String.reduceBEq, Bool.not_true, Bool.not_false, Bool.or_self, Bool.or_false, Bool.or_true, Bool.true_or, Bool.false_or, Bool.and_true, Bool.true_and, Bool.and_false, Bool.false_and, ite_true, ite_false]
    exact jo s5 q
/-! ### the law's parts -/
theorem jobsOf_jobsD (js : JL) : jobsOf (jobsD js) = js := by
  show (js.map jobD).map jobOf = js
  rw [List.map_map]
  exact List.map_id' js
theorem ordOf_ordD (o : List Nat) : ordOf (ordD o) = o := by
  show (o.map natD).map (fun d => (intD d).toNat) = o
  rw [List.map_map]
  have : o.map ((fun d => (intD d).toNat) ∘ natD) = o.map id := List.map_congr_left fun n _ => by simp [natD, intD]
  rw [this, List.map_id]
theorem ordB_of {m : Nat} {o : List Nat} (hl : o.length = m) (hb : ∀ n ∈ o, n < m) (nd : o.Nodup) : ordB m (ordD o) = true := by
  unfold ordB rowB ordD lenD
  have e : (o.map natD).map intD = o.map fun (n : Nat) => (n : Int) := by rw [List.map_map]; rfl
  have nd2 : (o.map fun (n : Nat) => (n : Int)).Nodup := List.Pairwise.map _ (fun a b h e => h (by have e' : (a : Int) = (b : Int) := e; omega)) nd
  have a1 : ((o.map natD).all (isIntB 0 ((m : Int) - 1))) = true := by
    rw [List.all_eq_true]
    intro d hd
    obtain ⟨n, hn, rfl⟩ := List.mem_map.mp hd
    have := hb n hn
    simp only [natD, isIntB, Bool.and_eq_true, decide_eq_true_eq]
    omega
  have a2 := distinct_len nd2
  simp only [a1, e, a2, List.length_map, hl]
  simp
theorem inJ_ord {js : JL} {o : List Nat} (l2 : js.length ≤ 30) (hl : o.length = js.length) (hb : ∀ n ∈ o, n < js.length) : inJ js o := ⟨hb, l2, by omega⟩
def sp__law_right (X : ED) (ds : List D) (P : D → Prop) : Prop := ∃ (m n : Nat) (v : D), ds = [v] ∧ m ≤ 1000 ∧ n ≤ 60 ∧ okV m n v ∧ P (.bool true)
def cx__law_right : Ctx := { N := ["_law_value", "_law_good", "_law_order_so", "_law_words_so", "_law_call"], Γ := [("_law_by_two", .pur 3 sp__law_by_two), ("_law_is_bool", .pur 2 sp__law_is_bool), ("_law_is_jobs", .pur 1 sp__law_is_jobs), ("_law_time", .pur 2 sp__law_time), ("is_jobs", .pur 1 sp_is_jobs), ("whole_time", .pur 2 sp_whole_time)], C := [("gaps", (fnD "gaps")), ("is_order", (fnD "is_order")), ("starts", (fnD "starts")), ("whole_time", (fnD "whole_time"))], R := [], ms := [] }
def tr__law_right : SW := (sSeq (sAsg (own (bCall sp__law_is_jobs 1 (oCons (own (bVar 0)) oNil))) (gNm 1))
  (sSeq (sIf (wNot (tVal (bCall sp__law_is_bool 2 (oCons (own (bCall sp_is_jobs 1 (oCons (own (bVar 0)) oNil))) (oCons (own (bVar 1)) oNil)))))
  (sRet (own (bC (.bool false))))
  sSkip)
  (sSeq (sIf (tVal (bVar 1))
  (sSeq (sAsg (own (bTRng (bCB qLen (aCons (bVar 0) aNil)))) (gNm 2))
  (sRet (own (bOp gEq (bCall sp_whole_time 2 (oCons (own (bVar 0)) (oCons (own (bVar 2)) oNil))) (bCall sp__law_time 2 (oCons (own (bVar 0)) (oCons (own (bVar 2)) oNil)))))))
  sSkip)
  (sSeq (sFrz 3 (fComp (iSeq (own (bTup (oCons (own (bC (fnD "is_order"))) (oCons (own (bC (fnD "starts"))) (oCons (own (bC (fnD "gaps"))) (oCons (own (bC (fnD "whole_time"))) oNil))))))) (gNm 4) (fun _ ρ P => P true ρ) (own (bCall sp__law_by_two 3 (oCons (own (bVar 4)) (oCons (own (bVar 0)) (oCons (own (bC .none)) oNil))))) [4]))
  (sRet (own (bOp gEq (bVar 3) (bOp qMul (frz (fLst (oCons (own (bC (.str "jobs"))) oNil))) (bC (.int 4))))))))))


theorem ty__law_right (X : ED) (ds : List D) (Q : D → Prop) (hl : ds.length = 1) (h : sp__law_right X ds Q) : tr__law_right X (startS cx__law_right.N ds) (oPur Q) := by
  obtain ⟨m, n, v, rfl, hm, hn, hv, q⟩ := h
  unfold tr__law_right cx__law_right
  have hs := (hv.ok).shp
  simp only [sp__law_is_jobs, sp_is_jobs, sp_are_jobs, sp__law_is_bool, sSkip, sSeq, sIf, sRet, sRetN, sExpr, sAsg, sSetC, sFrz, sBrk, sCont, sRaise, sApp, sSetIx, sFor, sPar, putAll, pNil, pO, pF, startS, startM, oPur, oMut, oIni, own, ownR, use, uses, res, varR, bVar, bC, bOp, bUn, bCB, aNil, aCons, bAnd, bOr, bNot, bIf, bChain, tVal, tBl, wNot, wAnd, wOr, bTup, frz, fLst, oNil, oCons, bSl, oNone, oSome, bCall, fCall, bCallM, fComp, fCB, fRng, bTRng, gNm, gTp, setAll, iSeq, iRange, iEnum, iZip, seqOf, noCelB, wipeS, restore, qAdd, okAdd, vAdd, gSub, qMul, okMul, vMul, gDiv, gMod, gPow, gLt, gGt, gGe, qLe, okLe, vLe, gEq, gNe, qIs, okIs, vIs, qIsNot, gNeg, qLen, okLen, vLen, gAll, gAny, gSum, gMax, qMin, okMin, vMin, qInt, okInt, vInt, qBool, okBool, vBool, qTuple, seq1, qIsi, okIsi, vIsi, qIx, ixR, qSl, okSl, vSl, qIn, okIn, vIn, qNotIn, gLenSet, jList, jSrt, truD, isNonD, List.getElem?_cons_zero, List.getElem?_cons_succ, List.set_cons_zero, List.set_cons_succ, List.length_cons, List.length_nil, List.map_cons, List.map_nil, List.replicate, List.append_nil, List.nil_append, List.cons_append, Nat.reduceAdd, Nat.reduceSub, Nat.reduceLT, Nat.reduceLeDiff, Nat.zero_lt_succ, true_and, and_true, Bool.false_eq_true, if_true, if_false, Nat.zero_add, Nat.add_one_sub_one, Nat.sub_self, reduceIte, Nat.lt_add_left_iff_pos, eq_self, String.reduceBEq, Bool.not_true, Bool.not_false, Bool.or_self, Bool.or_false, Bool.or_true, Bool.true_or, Bool.false_or, Bool.and_true, Bool.true_and, Bool.and_false, Bool.false_and, ite_true, ite_false]
  refine ⟨hs, hs, ?_⟩
  cases ha : areJobsB v with
  | true =>
    obtain ⟨ev, l1, l2, l3, ok⟩ := jobs_of ha
    generalize jobsOf v = js at ev l1 l2 l3 ok
    subst ev
    have en : ∀ {k : Nat}, PyData.tuple (rangeD k) = ordD (List.range k) := rfl
    have ho : ordB js.length (ordD (List.range js.length)) = true := ordB_of (List.length_range) (fun n hn => List.mem_range.mp hn) List.nodup_range
    have hin := inJ_ord (o := List.range js.length) l2 List.length_range fun n hn => List.mem_range.mp hn
    have ell : lenD (jobsD js) = js.length := l3
    have ej : jobsD js = .tuple (js.map jobD) := rfl
    rw [if_neg (by simp), if_pos rfl, ej]
    simp only [List.length_map, Int.toNat_natCast, sSkip, sSeq, sIf, sRet, sRetN, sExpr, sAsg, sSetC, sFrz, sBrk, sCont, sRaise, sApp, sSetIx, sFor, sPar, putAll, pNil, pO, pF, startS, startM, oPur, oMut, oIni, own, ownR, use, uses, res, varR, bVar, bC, bOp, bUn, bCB, aNil, aCons, bAnd, bOr, bNot, bIf, bChain, tVal, tBl, wNot, wAnd, wOr, bTup, frz, fLst, oNil, oCons, bSl, oNone, oSome, bCall, fCall, bCallM, fComp, fCB, fRng, bTRng, gNm, gTp, setAll, iSeq, iRange, iEnum, iZip, seqOf, noCelB, wipeS, restore, qAdd, okAdd, vAdd, gSub, qMul, okMul, vMul, gDiv, gMod, gPow, gLt, gGt, gGe, qLe, okLe, vLe, gEq, gNe, qIs, okIs, vIs, qIsNot, gNeg, qLen, okLen, vLen, gAll, gAny, gSum, gMax, qMin, okMin, vMin, qInt, okInt, vInt, qBool, okBool, vBool, qTuple, seq1, qIsi, okIsi, vIsi, qIx, ixR, qSl, okSl, vSl, qIn, okIn, vIn, qNotIn, gLenSet, jList, jSrt, truD, isNonD, List.getElem?_cons_zero, List.getElem?_cons_succ, List.set_cons_zero, List.set_cons_succ, List.length_cons, List.length_nil, List.map_cons, List.map_nil, List.replicate, List.append_nil, List.nil_append, List.cons_append, Nat.reduceAdd, Nat.reduceSub, Nat.reduceLT, Nat.reduceLeDiff, Nat.zero_lt_succ, true_and, and_true, Bool.false_eq_true, if_true, if_false, Nat.zero_add, Nat.add_one_sub_one, Nat.sub_self, reduceIte, Nat.lt_add_left_iff_pos, eq_self, String.reduceBEq, Bool.not_true, Bool.not_false, Bool.or_self, Bool.or_false, Bool.or_true, Bool.true_or, Bool.false_or, Bool.and_true, Bool.true_and, Bool.and_false, Bool.false_and, ite_true, ite_false]
    rw [en, ← ej]
    refine ⟨by omega, by omega, hs, shp_ordD, ?_⟩
    rw [if_pos ha, if_pos (by rw [ell]; exact ho), jobsOf_jobsD, ordOf_ordD]
    refine ⟨js, List.range js.length, rfl, hin, shp_int, shp_int, ?_⟩
    show Q (.bool (PyData.eqv (.int (timeL js (List.range js.length))) (.int (lawT js (List.range js.length)))))
    rw [time_law ok, eqv_int, decide_eq_true rfl]
    exact q
  | false =>
    rw [if_neg (by simp), if_neg (by simp)]
    have step : ∀ d ∈ [fnD (Str.ofString "is_order"), fnD (Str.ofString "starts"), fnD (Str.ofString "gaps"), fnD (Str.ofString "whole_time")], ∃ f : Str, d = fnD f ∧ (f = "is_order" ∨ f = "starts" ∨ f = "gaps" ∨ f = "whole_time") := by
      simp only [List.forall_mem_cons]
      exact ⟨⟨_, rfl, .inl rfl⟩, ⟨_, rfl, .inr (.inl rfl)⟩, ⟨_, rfl, .inr (.inr (.inl rfl))⟩, ⟨_, rfl, .inr (.inr (.inr rfl))⟩, by simp⟩
    refine comp_map (fun _ => .str (Str.ofString "jobs")) _ (fun d hd C hC => ?_) ?_
    · obtain ⟨f, rfl, hf⟩ := step d hd
      simp only [sp__law_by_two, sSkip, sSeq, sIf, sRet, sRetN, sExpr, sAsg, sSetC, sFrz, sBrk, sCont, sRaise, sApp, sSetIx, sFor, sPar, putAll, pNil, pO, pF, startS, startM, oPur, oMut, oIni, own, ownR, use, uses, res, varR, bVar, bC, bOp, bUn, bCB, aNil, aCons, bAnd, bOr, bNot, bIf, bChain, tVal, tBl, wNot, wAnd, wOr, bTup, frz, fLst, oNil, oCons, bSl, oNone, oSome, bCall, fCall, bCallM, fComp, fCB, fRng, bTRng, gNm, gTp, setAll, iSeq, iRange, iEnum, iZip, seqOf, noCelB, wipeS, restore, qAdd, okAdd, vAdd, gSub, qMul, okMul, vMul, gDiv, gMod, gPow, gLt, gGt, gGe, qLe, okLe, vLe, gEq, gNe, qIs, okIs, vIs, qIsNot, gNeg, qLen, okLen, vLen, gAll, gAny, gSum, gMax, qMin, okMin, vMin, qInt, okInt, vInt, qBool, okBool, vBool, qTuple, seq1, qIsi, okIsi, vIsi, qIx, ixR, qSl, okSl, vSl, qIn, okIn, vIn, qNotIn, gLenSet, jList, jSrt, truD, isNonD, List.getElem?_cons_zero, List.getElem?_cons_succ, List.set_cons_zero, List.set_cons_succ, List.length_cons, List.length_nil, List.map_cons, List.map_nil, List.replicate, List.append_nil, List.nil_append, List.cons_append, Nat.reduceAdd, Nat.reduceSub, Nat.reduceLT, Nat.reduceLeDiff, Nat.zero_lt_succ, true_and, and_true, Bool.false_eq_true, if_true, if_false, Nat.zero_add, Nat.add_one_sub_one, Nat.sub_self, reduceIte, Nat.lt_add_left_iff_pos, eq_self, String.reduceBEq, Bool.not_true, Bool.not_false, Bool.or_self, Bool.or_false, Bool.or_true, Bool.true_or, Bool.false_or, Bool.and_true, Bool.true_and, Bool.and_false, Bool.false_and, ite_true, ite_false]
      refine ⟨f, v, .none, rfl, hs, shp_none, hf, ?_⟩
      unfold wordBy
      rw [if_neg (by rw [ha]; simp)]
      exact hC
    · simp only [sSkip, sSeq, sIf, sRet, sRetN, sExpr, sAsg, sSetC, sFrz, sBrk, sCont, sRaise, sApp, sSetIx, sFor, sPar, putAll, pNil, pO, pF, startS, startM, oPur, oMut, oIni, own, ownR, use, uses, res, varR, bVar, bC, bOp, bUn, bCB, aNil, aCons, bAnd, bOr, bNot, bIf, bChain, tVal, tBl, wNot, wAnd, wOr, bTup, frz, fLst, oNil, oCons, bSl, oNone, oSome, bCall, fCall, bCallM, fComp, fCB, fRng, bTRng, gNm, gTp, setAll, iSeq, iRange, iEnum, iZip, seqOf, noCelB, wipeS, restore, qAdd, okAdd, vAdd, gSub, qMul, okMul, vMul, gDiv, gMod, gPow, gLt, gGt, gGe, qLe, okLe, vLe, gEq, gNe, qIs, okIs, vIs, qIsNot, gNeg, qLen, okLen, vLen, gAll, gAny, gSum, gMax, qMin, okMin, vMin, qInt, okInt, vInt, qBool, okBool, vBool, qTuple, seq1, qIsi, okIsi, vIsi, qIx, ixR, qSl, okSl, vSl, qIn, okIn, vIn, qNotIn, gLenSet, jList, jSrt, truD, isNonD, List.getElem?_cons_zero, List.getElem?_cons_succ, List.set_cons_zero, List.set_cons_succ, List.length_cons, List.length_nil, List.map_cons, List.map_nil, List.replicate, List.append_nil, List.nil_append, List.cons_append, Nat.reduceAdd, Nat.reduceSub, Nat.reduceLT, Nat.reduceLeDiff, Nat.zero_lt_succ, true_and, and_true, Bool.false_eq_true, if_true, if_false, Nat.zero_add, Nat.add_one_sub_one, Nat.sub_self, reduceIte, Nat.lt_add_left_iff_pos, eq_self, String.reduceBEq, Bool.not_true, Bool.not_false, Bool.or_self, Bool.or_false, Bool.or_true, Bool.true_or, Bool.false_or, Bool.and_true, Bool.true_and, Bool.and_false, Bool.false_and, ite_true, ite_false]
      have sj : shp (.list (List.replicate (Int.toNat 4) [PyData.str (Str.ofString "jobs")]).flatten) = true := by decide +kernel
      have eq : PyData.eqv (.list [PyData.str (Str.ofString "jobs"), PyData.str (Str.ofString "jobs"), PyData.str (Str.ofString "jobs"), PyData.str (Str.ofString "jobs")]) (.list (List.replicate (Int.toNat 4) [PyData.str (Str.ofString "jobs")]).flatten) = true := by decide +kernel
      rw [eq]
      exact ⟨⟨by decide, by decide⟩, by decide +kernel, sj, q⟩
end DL
set_option Elab.async false
set_option linter.all false
set_option maxRecDepth 100000
set_option maxHeartbeats 4000000
namespace DL
open PySem PySem.Spec PyProof.Rows L2

/-! ### the gaps, from the moments -/
theorem mom_gap (js : JL) : ∀ (r : List Nat) (n : Nat) (s : Int) (i : Nat), i < r.length →
    (((s, s + fstJ js n + sndJ js n) :: momF js (s + fstJ js n) (s + fstJ js n + sndJ js n) r).getD (i + 1) (0, 0)).1 - (((s, s + fstJ js n + sndJ js n) :: momF js (s + fstJ js n) (s + fstJ js n + sndJ js n) r).getD i (0, 0)).1 - fstJ js ((n :: r).getD i 0) = (gapsL js (n :: r)).getD i 0
  | [], n, s, i, h => by simp at h
  | m :: r, n, s, i, h => by
    have e : max (s + fstJ js n) (s + fstJ js n + sndJ js n - fstJ js m) = s + fstJ js n + max 0 (sndJ js n - fstJ js m) := by omega
    rw [gaps_cons, momF, e]
    cases i with
    | zero =>
      simp only [List.getD_cons_succ, List.getD_cons_zero]
      omega
    | succ i =>
      have ih := mom_gap js r m (s + fstJ js n + max 0 (sndJ js n - fstJ js m)) i (by simpa using h)
      simp only [List.getD_cons_succ] at ih ⊢
      exact ih
theorem gap_law {js : JL} (h : ∀ p ∈ js, okJ p) (o : List Nat) (i : Nat) (hi : i + 1 < o.length) :
    ((momL js o).getD (i + 1) (0, 0)).1 - ((momL js o).getD i (0, 0)).1 - fstJ js (o.getD i 0) = (gapsL js o).getD i 0 := by
  cases o with
  | nil => simp at hi
  | cons n r =>
    rw [mom_head h]
    exact mom_gap js r n 0 i (by simpa using hi)
theorem momF_len (js : JL) : ∀ (o : List Nat) (a b : Int), (momF js a b o).length = o.length
  | [], a, b => by simp [momF]
  | n :: r, a, b => by simp [momF, momF_len js r]
theorem momL_len (js : JL) (o : List Nat) : (momL js o).length = o.length := momF_len js o 0 0
theorem gap_dues {js : JL} (h : ∀ p ∈ js, okJ p) (o : List Nat) : (List.range (o.length - 1)).map (fun i => ((momL js o).getD (i + 1) (0, 0)).1 - ((momL js o).getD i (0, 0)).1 - fstJ js (o.getD i 0)) = gapsL js o := by
  refine List.ext_getElem (by rw [List.length_map, List.length_range, gapsL_len]) fun i h1 h2 => ?_
  rw [List.getElem_map, List.getElem_range]
  rw [gapsL_len] at h2
  rw [gap_law h o i (by omega), List.getD_eq_getElem?_getD, List.getElem?_eq_getElem (by rw [gapsL_len]; exact h2)]
  rfl
def sp__law_orders_right (X : ED) (d0 ds : List D) (P : D → List D → Prop) : Prop := okSrc d0 ∧ ∃ js : JL, ds = [jobsD js] ∧ 1 ≤ js.length ∧ js.length ≤ 30 ∧ (∀ p ∈ js, okJ p) ∧ ∀ d1, okSrc d1 → P (.bool true) d1
def sp__law_variant := sq__law_variant 10
def cx__law_orders_right : Ctx := { N := ["_law_source_here", "_law_jobs_so", "_law_order_so", "_law_moments_here", "_law_due", "_law_at", "_law_first", "_law_near", "_law_value", "_law_good", "_law_words_so", "_law_start", "_law_clear", "_law_turn", "_law_call"], Γ := [("_law_by_two", .pur 3 sp__law_by_two), ("_law_is_bool", .pur 2 sp__law_is_bool), ("_law_is_order", .pur 2 sp__law_is_order), ("_law_moments", .pur 2 sp__law_moments), ("_law_order", .mut 2 sp__law_order), ("_law_variant", .mut 2 sp__law_variant), ("gaps", .pur 2 sp_gaps), ("is_order", .pur 2 sp_is_order), ("starts", .pur 2 sp_starts), ("whole_time", .pur 2 sp_whole_time)], C := [("gaps", (fnD "gaps")), ("starts", (fnD "starts")), ("whole_time", (fnD "whole_time"))], R := [], ms := [4] }
def tr__law_orders_right : SW := (sSeq (sAsg (own (bCallM sp__law_order 2 0 (oCons (own (bCB qLen (aCons (bVar 1) aNil))) oNil))) (gNm 2))
  (sSeq (sAsg (own (bCall sp__law_moments 2 (oCons (own (bVar 1)) (oCons (own (bVar 2)) oNil)))) (gNm 3))
  (sSeq (sIf (tBl (bOp gNe (bCall sp_starts 2 (oCons (own (bVar 1)) (oCons (own (bVar 2)) oNil))) (frz (fComp (iSeq (own (bVar 3))) (gTp [11, 12]) (fun _ ρ P => P true ρ) (own (bVar 11)) [11, 12]))))
  (sRet (own (bC (.bool false))))
  sSkip)
  (sSeq (sIf (tBl (bOp gNe (bCall sp_whole_time 2 (oCons (own (bVar 1)) (oCons (own (bVar 2)) oNil))) (bOp qIx (bOp qIx (bVar 3) (bUn gNeg (bC (.int 1)))) (bC (.int 1)))))
  (sRet (own (bC (.bool false))))
  sSkip)
  (sSeq (sSetC 4 (fLst oNil))
  (sSeq (sFor (iRange (bOp gSub (bCB qLen (aCons (bVar 2) aNil)) (bC (.int 1)))) (gNm 5)
  (sSeq (sAsg (own (bOp qIx (bOp qIx (bVar 1) (bOp qIx (bVar 2) (bVar 5))) (bC (.int 0)))) (gNm 6))
  (sApp 4 (own (bOp gSub (bOp gSub (bOp qIx (bOp qIx (bVar 3) (bOp qAdd (bVar 5) (bC (.int 1)))) (bC (.int 0))) (bOp qIx (bOp qIx (bVar 3) (bVar 5)) (bC (.int 0)))) (bVar 6))))))
  (sSeq (sIf (tBl (bOp gNe (bCall sp_gaps 2 (oCons (own (bVar 1)) (oCons (own (bVar 2)) oNil))) (bVar 4)))
  (sRet (own (bC (.bool false))))
  sSkip)
  (sSeq (sAsg (own (frz (fLst (oCons (own (bVar 2)) (oCons (own (frz (fCB jList (aCons (bVar 2) aNil)))) (oCons (own (bC .none)) (oCons (own (bTup oNil)) (oCons (own (bOp qAdd (bVar 2) (bTup (oCons (own (bC (.int 0))) oNil)))) (oCons (own (bSl (bVar 2) (oSome (bC (.int 1))) oNone)) oNil))))))))) (gNm 7))
  (sSeq (sFor (iSeq (own (bOp qAdd (bVar 7) (frz (fComp (iRange (bC (.int 4))) (gNm 13) (fun _ ρ P => P true ρ) (own (bCallM sp__law_variant 2 0 (oCons (own (bVar 2)) oNil))) [13]))))) (gNm 8)
  (sSeq (sAsg (own (bCall sp__law_is_order 2 (oCons (own (bVar 1)) (oCons (own (bVar 8)) oNil)))) (gNm 9))
  (sSeq (sIf (wNot (tVal (bCall sp__law_is_bool 2 (oCons (own (bCall sp_is_order 2 (oCons (own (bVar 1)) (oCons (own (bVar 8)) oNil)))) (oCons (own (bVar 9)) oNil)))))
  (sRet (own (bC (.bool false))))
  sSkip)
  (sSeq (sFrz 10 (fComp (iSeq (own (bTup (oCons (own (bC (fnD "starts"))) (oCons (own (bC (fnD "gaps"))) (oCons (own (bC (fnD "whole_time"))) oNil)))))) (gNm 14) (fun _ ρ P => P true ρ) (own (bCall sp__law_by_two 3 (oCons (own (bVar 14)) (oCons (own (bVar 1)) (oCons (own (bVar 8)) oNil))))) [14]))
  (sIf (tBl (bOp gNe (bVar 10) (bOp qMul (frz (fLst (oCons (own (bIf (tVal (bVar 9)) (bC (.str "")) (bC (.str "order")))) oNil))) (bC (.int 3)))))
  (sRet (own (bC (.bool false))))
  sSkip)))))
  (sRet (own (bC (.bool true)))))))))))))


theorem are_jobsD {js : JL} (h1 : 1 ≤ js.length) (h2 : js.length ≤ 30) (ok : ∀ p ∈ js, okJ p) : areJobsB (jobsD js) = true := by
  unfold areJobsB jobsD
  simp only [List.length_map, Bool.and_eq_true, decide_eq_true_eq, List.all_eq_true]
  refine ⟨⟨h1, h2⟩, fun d hd => ?_⟩
  obtain ⟨p, hp, rfl⟩ := List.mem_map.mp hd
  have := ok p hp
  simp [jobD, isJobB, isIntB, this.1, this.2.1, this.2.2.1, this.2.2.2]
theorem okV_jobs {js : JL} (h : js.length ≤ 40) : okV 40 2 (jobsD js) := ⟨by simpa using h, fun d hd => by
  obtain ⟨p, _, rfl⟩ := List.mem_map.mp hd
  exact ⟨by simp, by simp [okV]⟩⟩
theorem okV_ord {o : List Nat} (h : o.length ≤ 40) : okV 40 1 (ordD o) := ⟨by simpa using h, fun d hd => by
  obtain ⟨p, _, rfl⟩ := List.mem_map.mp hd
  trivial⟩
theorem lenD_jobs {js : JL} : lenD (jobsD js) = js.length := by unfold jobsD lenD; simp
theorem jo_use {f : JL → List Nat → D} {X : ED} {js : JL} {o : List Nat} {P : D → Prop} (haj : areJobsB (jobsD js) = true) (hao : ordB js.length (ordD o) = true) (hs : shp (jobsD js) = true) (h : P (f js o)) : spJO f X [jobsD js, ordD o] P := by
  unfold spJO
  refine ⟨hs, shp_ordD, ?_⟩
  rw [if_pos haj, if_pos (by rw [lenD_jobs]; exact hao), jobsOf_jobsD, ordOf_ordD]
  exact h
theorem ty__law_orders_right (X : ED) (a : Addr) (d0 ds : List D) (Q : D → List D → Prop) (hl : ds.length + 1 = 2) (h : sp__law_orders_right X d0 ds Q) : tr__law_orders_right X (startM cx__law_orders_right.N a d0 ds) (oMut a Q) := by
  obtain ⟨h0, js, rfl, l1, l2, ok, q⟩ := h
  have ej : jobsD js = .tuple (js.map jobD) := rfl
  unfold tr__law_orders_right cx__law_orders_right
  rw [ej]
  simp only [sp__law_order, List.length_map, sSkip, sSeq, sIf, sRet, sRetN, sExpr, sAsg, sSetC, sFrz, sBrk, sCont, sRaise, sApp, sSetIx, sFor, sPar, putAll, pNil, pO, pF, startS, startM, oPur, oMut, oIni, own, ownR, use, uses, res, varR, bVar, bC, bOp, bUn, bCB, aNil, aCons, bAnd, bOr, bNot, bIf, bChain, tVal, tBl, wNot, wAnd, wOr, bTup, frz, fLst, oNil, oCons, bSl, oNone, oSome, bCall, fCall, bCallM, fComp, fCB, fRng, bTRng, gNm, gTp, setAll, iSeq, iRange, iEnum, iZip, seqOf, noCelB, wipeS, restore, qAdd, okAdd, vAdd, gSub, qMul, okMul, vMul, gDiv, gMod, gPow, gLt, gGt, gGe, qLe, okLe, vLe, gEq, gNe, qIs, okIs, vIs, qIsNot, gNeg, qLen, okLen, vLen, gAll, gAny, gSum, gMax, qMin, okMin, vMin, qInt, okInt, vInt, qBool, okBool, vBool, qTuple, seq1, qIsi, okIsi, vIsi, qIx, ixR, qSl, okSl, vSl, qIn, okIn, vIn, qNotIn, gLenSet, jList, jSrt, truD, isNonD, List.getElem?_cons_zero, List.getElem?_cons_succ, List.set_cons_zero, List.set_cons_succ, List.length_cons, List.length_nil, List.map_cons, List.map_nil, List.replicate, List.append_nil, List.nil_append, List.cons_append, Nat.reduceAdd, Nat.reduceSub, Nat.reduceLT, Nat.reduceLeDiff, Nat.zero_lt_succ, true_and, and_true, Bool.false_eq_true, if_true, if_false, Nat.zero_add, Nat.add_one_sub_one, Nat.sub_self, reduceIte, Nat.lt_add_left_iff_pos, eq_self, String.reduceBEq, Bool.not_true, Bool.not_false, Bool.or_self, Bool.or_false, Bool.or_true, Bool.true_or, Bool.false_or, Bool.and_true, Bool.true_and, Bool.and_false, Bool.false_and, ite_true, ite_false]
  refine ⟨h0, _, rfl, by omega, by omega, fun o d1 ho hb nd hs1 => ?_⟩
  rw [Int.toNat_natCast] at ho hb
  have hin : inJ js o := ⟨hb, l2, by omega⟩
  have haj := are_jobsD l1 l2 ok
  have hao : ordB js.length (ordD o) = true := ordB_of ho hb nd
  simp only [sp__law_moments, sSkip, sSeq, sIf, sRet, sRetN, sExpr, sAsg, sSetC, sFrz, sBrk, sCont, sRaise, sApp, sSetIx, sFor, sPar, putAll, pNil, pO, pF, startS, startM, oPur, oMut, oIni, own, ownR, use, uses, res, varR, bVar, bC, bOp, bUn, bCB, aNil, aCons, bAnd, bOr, bNot, bIf, bChain, tVal, tBl, wNot, wAnd, wOr, bTup, frz, fLst, oNil, oCons, bSl, oNone, oSome, bCall, fCall, bCallM, fComp, fCB, fRng, bTRng, gNm, gTp, setAll, iSeq, iRange, iEnum, iZip, seqOf, noCelB, wipeS, restore, qAdd, okAdd, vAdd, gSub, qMul, okMul, vMul, gDiv, gMod, gPow, gLt, gGt, gGe, qLe, okLe, vLe, gEq, gNe, qIs, okIs, vIs, qIsNot, gNeg, qLen, okLen, vLen, gAll, gAny, gSum, gMax, qMin, okMin, vMin, qInt, okInt, vInt, qBool, okBool, vBool, qTuple, seq1, qIsi, okIsi, vIsi, qIx, ixR, qSl, okSl, vSl, qIn, okIn, vIn, qNotIn, gLenSet, jList, jSrt, truD, isNonD, List.getElem?_cons_zero, List.getElem?_cons_succ, List.set_cons_zero, List.set_cons_succ, List.length_cons, List.length_nil, List.map_cons, List.map_nil, List.replicate, List.append_nil, List.nil_append, List.cons_append, Nat.reduceAdd, Nat.reduceSub, Nat.reduceLT, Nat.reduceLeDiff, Nat.zero_lt_succ, true_and, and_true, Bool.false_eq_true, if_true, if_false, Nat.zero_add, Nat.add_one_sub_one, Nat.sub_self, reduceIte, Nat.lt_add_left_iff_pos, eq_self, String.reduceBEq, Bool.not_true, Bool.not_false, Bool.or_self, Bool.or_false, Bool.or_true, Bool.true_or, Bool.false_or, Bool.and_true, Bool.true_and, Bool.and_false, Bool.false_and, ite_true, ite_false]
  refine ⟨js, o, rfl, hin, ?_⟩
  have hsj : shp (jobsD js) = true := ((okV_jobs (by omega)).ok).shp
  refine jo_use haj hao hsj ?_
  refine ⟨by rw [List.length_map, momL_len]; omega, comp_mapL jobD (fun p => .int p.1) (momL js o) (fun p hp C hC => ?_) ?_⟩
  · simp only [jobD, sSkip, sSeq, sIf, sRet, sRetN, sExpr, sAsg, sSetC, sFrz, sBrk, sCont, sRaise, sApp, sSetIx, sFor, sPar, putAll, pNil, pO, pF, startS, startM, oPur, oMut, oIni, own, ownR, use, uses, res, varR, bVar, bC, bOp, bUn, bCB, aNil, aCons, bAnd, bOr, bNot, bIf, bChain, tVal, tBl, wNot, wAnd, wOr, bTup, frz, fLst, oNil, oCons, bSl, oNone, oSome, bCall, fCall, bCallM, fComp, fCB, fRng, bTRng, gNm, gTp, setAll, iSeq, iRange, iEnum, iZip, seqOf, noCelB, wipeS, restore, qAdd, okAdd, vAdd, gSub, qMul, okMul, vMul, gDiv, gMod, gPow, gLt, gGt, gGe, qLe, okLe, vLe, gEq, gNe, qIs, okIs, vIs, qIsNot, gNeg, qLen, okLen, vLen, gAll, gAny, gSum, gMax, qMin, okMin, vMin, qInt, okInt, vInt, qBool, okBool, vBool, qTuple, seq1, qIsi, okIsi, vIsi, qIx, ixR, qSl, okSl, vSl, qIn, okIn, vIn, qNotIn, gLenSet, jList, jSrt, truD, isNonD, List.getElem?_cons_zero, List.getElem?_cons_succ, List.set_cons_zero, List.set_cons_succ, List.length_cons, List.length_nil, List.map_cons, List.map_nil, List.replicate, List.append_nil, List.nil_append, List.cons_append, Nat.reduceAdd, Nat.reduceSub, Nat.reduceLT, Nat.reduceLeDiff, Nat.zero_lt_succ, true_and, and_true, Bool.false_eq_true, if_true, if_false, Nat.zero_add, Nat.add_one_sub_one, Nat.sub_self, reduceIte, Nat.lt_add_left_iff_pos, eq_self, String.reduceBEq, Bool.not_true, Bool.not_false, Bool.or_self, Bool.or_false, Bool.or_true, Bool.true_or, Bool.false_or, Bool.and_true, Bool.true_and, Bool.and_false, Bool.false_and, ite_true, ite_false]
    exact hC
  · have es : (momL js o).map (fun p => PyData.int p.1) = (startsL js o).map .int := by rw [starts_law ok, List.map_map]; rfl
    rw [es]
    refine ⟨shp_ints, shp_ints, ?_⟩
    show if (!PyData.eqv (.list ((startsL js o).map .int)) (.list ((startsL js o).map .int))) = true then _ else _
    rw [eqv_ints, decide_eq_true rfl, if_neg (by simp)]
    simp only [sSkip, sSeq, sIf, sRet, sRetN, sExpr, sAsg, sSetC, sFrz, sBrk, sCont, sRaise, sApp, sSetIx, sFor, sPar, putAll, pNil, pO, pF, startS, startM, oPur, oMut, oIni, own, ownR, use, uses, res, varR, bVar, bC, bOp, bUn, bCB, aNil, aCons, bAnd, bOr, bNot, bIf, bChain, tVal, tBl, wNot, wAnd, wOr, bTup, frz, fLst, oNil, oCons, bSl, oNone, oSome, bCall, fCall, bCallM, fComp, fCB, fRng, bTRng, gNm, gTp, setAll, iSeq, iRange, iEnum, iZip, seqOf, noCelB, wipeS, restore, qAdd, okAdd, vAdd, gSub, qMul, okMul, vMul, gDiv, gMod, gPow, gLt, gGt, gGe, qLe, okLe, vLe, gEq, gNe, qIs, okIs, vIs, qIsNot, gNeg, qLen, okLen, vLen, gAll, gAny, gSum, gMax, qMin, okMin, vMin, qInt, okInt, vInt, qBool, okBool, vBool, qTuple, seq1, qIsi, okIsi, vIsi, qIx, ixR, qSl, okSl, vSl, qIn, okIn, vIn, qNotIn, gLenSet, jList, jSrt, truD, isNonD, List.getElem?_cons_zero, List.getElem?_cons_succ, List.set_cons_zero, List.set_cons_succ, List.length_cons, List.length_nil, List.map_cons, List.map_nil, List.replicate, List.append_nil, List.nil_append, List.cons_append, Nat.reduceAdd, Nat.reduceSub, Nat.reduceLT, Nat.reduceLeDiff, Nat.zero_lt_succ, true_and, and_true, Bool.false_eq_true, if_true, if_false, Nat.zero_add, Nat.add_one_sub_one, Nat.sub_self, reduceIte, Nat.lt_add_left_iff_pos, eq_self, String.reduceBEq, Bool.not_true, Bool.not_false, Bool.or_self, Bool.or_false, Bool.or_true, Bool.true_or, Bool.false_or, Bool.and_true, Bool.true_and, Bool.and_false, Bool.false_and, ite_true, ite_false]
    refine jo_use haj hao hsj ?_
    have mne : momL js o ≠ [] := fun e => by have := momL_len js o; rw [e] at this; simp at this; omega
    show match atI ((momL js o).map jobD) (-1) with | some z => _ | none => _
    rw [at_lastL mne]
    simp only [at2_1, sSkip, sSeq, sIf, sRet, sRetN, sExpr, sAsg, sSetC, sFrz, sBrk, sCont, sRaise, sApp, sSetIx, sFor, sPar, putAll, pNil, pO, pF, startS, startM, oPur, oMut, oIni, own, ownR, use, uses, res, varR, bVar, bC, bOp, bUn, bCB, aNil, aCons, bAnd, bOr, bNot, bIf, bChain, tVal, tBl, wNot, wAnd, wOr, bTup, frz, fLst, oNil, oCons, bSl, oNone, oSome, bCall, fCall, bCallM, fComp, fCB, fRng, bTRng, gNm, gTp, setAll, iSeq, iRange, iEnum, iZip, seqOf, noCelB, wipeS, restore, qAdd, okAdd, vAdd, gSub, qMul, okMul, vMul, gDiv, gMod, gPow, gLt, gGt, gGe, qLe, okLe, vLe, gEq, gNe, qIs, okIs, vIs, qIsNot, gNeg, qLen, okLen, vLen, gAll, gAny, gSum, gMax, qMin, okMin, vMin, qInt, okInt, vInt, qBool, okBool, vBool, qTuple, seq1, qIsi, okIsi, vIsi, qIx, ixR, qSl, okSl, vSl, qIn, okIn, vIn, qNotIn, gLenSet, jList, jSrt, truD, isNonD, List.getElem?_cons_zero, List.getElem?_cons_succ, List.set_cons_zero, List.set_cons_succ, List.length_cons, List.length_nil, List.map_cons, List.map_nil, List.replicate, List.append_nil, List.nil_append, List.cons_append, Nat.reduceAdd, Nat.reduceSub, Nat.reduceLT, Nat.reduceLeDiff, Nat.zero_lt_succ, true_and, and_true, Bool.false_eq_true, if_true, if_false, Nat.zero_add, Nat.add_one_sub_one, Nat.sub_self, reduceIte, Nat.lt_add_left_iff_pos, eq_self, String.reduceBEq, Bool.not_true, Bool.not_false, Bool.or_self, Bool.or_false, Bool.or_true, Bool.true_or, Bool.false_or, Bool.and_true, Bool.true_and, Bool.and_false, Bool.false_and, ite_true, ite_false]
    refine ⟨shp_int, shp_int, ?_⟩
    rw [time_law ok, show PyData.eqv (.int (lawT js o)) (.int ((momL js o).getLastD (0, 0)).2) = true from by rw [eqv_int]; exact decide_eq_true rfl, if_neg (by simp)]
    intro p
    simp only [ordD, List.length_map, sSkip, sSeq, sIf, sRet, sRetN, sExpr, sAsg, sSetC, sFrz, sBrk, sCont, sRaise, sApp, sSetIx, sFor, sPar, putAll, pNil, pO, pF, startS, startM, oPur, oMut, oIni, own, ownR, use, uses, res, varR, bVar, bC, bOp, bUn, bCB, aNil, aCons, bAnd, bOr, bNot, bIf, bChain, tVal, tBl, wNot, wAnd, wOr, bTup, frz, fLst, oNil, oCons, bSl, oNone, oSome, bCall, fCall, bCallM, fComp, fCB, fRng, bTRng, gNm, gTp, setAll, iSeq, iRange, iEnum, iZip, seqOf, noCelB, wipeS, restore, qAdd, okAdd, vAdd, gSub, qMul, okMul, vMul, gDiv, gMod, gPow, gLt, gGt, gGe, qLe, okLe, vLe, gEq, gNe, qIs, okIs, vIs, qIsNot, gNeg, qLen, okLen, vLen, gAll, gAny, gSum, gMax, qMin, okMin, vMin, qInt, okInt, vInt, qBool, okBool, vBool, qTuple, seq1, qIsi, okIsi, vIsi, qIx, ixR, qSl, okSl, vSl, qIn, okIn, vIn, qNotIn, gLenSet, jList, jSrt, truD, isNonD, List.getElem?_cons_zero, List.getElem?_cons_succ, List.set_cons_zero, List.set_cons_succ, List.length_cons, List.length_nil, List.map_cons, List.map_nil, List.replicate, List.append_nil, List.nil_append, List.cons_append, Nat.reduceAdd, Nat.reduceSub, Nat.reduceLT, Nat.reduceLeDiff, Nat.zero_lt_succ, true_and, and_true, Bool.false_eq_true, if_true, if_false, Nat.zero_add, Nat.add_one_sub_one, Nat.sub_self, reduceIte, Nat.lt_add_left_iff_pos, eq_self, String.reduceBEq, Bool.not_true, Bool.not_false, Bool.or_self, Bool.or_false, Bool.or_true, Bool.true_or, Bool.false_or, Bool.and_true, Bool.true_and, Bool.and_false, Bool.false_and, ite_true, ite_false]
    refine ⟨by omega, by omega, ?_⟩
    have er : (((o.length : Nat) : Int) - 1).toNat = o.length - 1 := by omega
    rw [er]
    refine for_inv (fun r ρ => ∃ (R F : List Nat) (s5 s6 : SV), r = R.map natD ∧ F ++ R = List.range (o.length - 1) ∧
      ρ = [.cel a d1, .dat (.tuple (js.map jobD)), .dat (.tuple (o.map natD)), .dat (.list ((momL js o).map jobD)), .cel p (F.map fun i => .int (((momL js o).getD (i + 1) (0, 0)).1 - ((momL js o).getD i (0, 0)).1 - fstJ js (o.getD i 0))), s5, s6, .un, .un, .un, .un, .un, .un, .un, .un]) ?_ ?_ _ _
      ⟨List.range (o.length - 1), [], .un, .un, rfl, rfl, rfl⟩
    · rintro d r ρ C ⟨R, F, s5, s6, hr, hR, rfl⟩ k
      cases R with
      | nil => cases hr
      | cons n R =>
        obtain ⟨rfl, rfl⟩ : d = natD n ∧ r = R.map natD := by simpa using hr
        have hn : n < o.length - 1 := List.mem_range.mp (hR ▸ (by simp))
        have e1 : atI (o.map natD) (n : Int) = some (natD (o.getD n 0)) := atI_map natD (by omega)
        have e2 := at_jobs (js := js) (n := o.getD n 0) (hb _ (by rw [List.getD_eq_getElem?_getD, List.getElem?_eq_getElem (show n < o.length by omega)]; exact List.getElem_mem _))
        have ml := momL_len js o
        have ec : (n : Int) + 1 = ((n + 1 : Nat) : Int) := by omega
        have e3 : atI ((momL js o).map jobD) (n : Int) = some (jobD ((momL js o).getD n (0, 0))) := atI_map jobD (by omega)
        have e4 : atI ((momL js o).map jobD) ((n + 1 : Nat) : Int) = some (jobD ((momL js o).getD (n + 1) (0, 0))) := atI_map jobD (by omega)
        simp only [natD, e1, e2, e3, ec, e4, jobD, at2_0, sSkip, sSeq, sIf, sRet, sRetN, sExpr, sAsg, sSetC, sFrz, sBrk, sCont, sRaise, sApp, sSetIx, sFor, sPar, putAll, pNil, pO, pF, startS, startM, oPur, oMut, oIni, own, ownR, use, uses, res, varR, bVar, bC, bOp, bUn, bCB, aNil, aCons, bAnd, bOr, bNot, bIf, bChain, tVal, tBl, wNot, wAnd, wOr, bTup, frz, fLst, oNil, oCons, bSl, oNone, oSome, bCall, fCall, bCallM, fComp, fCB, fRng, bTRng, gNm, gTp, setAll, iSeq, iRange, iEnum, iZip, seqOf, noCelB, wipeS, restore, qAdd, okAdd, vAdd, gSub, qMul, okMul, vMul, gDiv, gMod, gPow, gLt, gGt, gGe, qLe, okLe, vLe, gEq, gNe, qIs, okIs, vIs, qIsNot, gNeg, qLen, okLen, vLen, gAll, gAny, gSum, gMax, qMin, okMin, vMin, qInt, okInt, vInt, qBool, okBool, vBool, qTuple, seq1, qIsi, okIsi, vIsi, qIx, ixR, qSl, okSl, vSl, qIn, okIn, vIn, qNotIn, gLenSet, jList, jSrt, truD, isNonD, List.getElem?_cons_zero, List.getElem?_cons_succ, List.set_cons_zero, List.set_cons_succ, List.length_cons, List.length_nil, List.map_cons, List.map_nil, List.replicate, List.append_nil, List.nil_append, List.cons_append, Nat.reduceAdd, Nat.reduceSub, Nat.reduceLT, Nat.reduceLeDiff, Nat.zero_lt_succ, true_and, and_true, Bool.false_eq_true, if_true, if_false, Nat.zero_add, Nat.add_one_sub_one, Nat.sub_self, reduceIte, Nat.lt_add_left_iff_pos, eq_self, String.reduceBEq, Bool.not_true, Bool.not_false, Bool.or_self, Bool.or_false, Bool.or_true, Bool.true_or, Bool.false_or, Bool.and_true, Bool.true_and, Bool.and_false, Bool.false_and, ite_true, ite_false]
        have hF : F.length < 16777216 := by have := congrArg List.length hR; simp at this; omega
        refine ⟨by rw [List.length_map]; exact hF, k _ ⟨R, F ++ [n], .dat (.int (n : Int)), .dat (.int (fstJ js (o.getD n 0))), rfl, by rw [List.append_assoc]; exact hR, ?_⟩⟩
        simp only [List.map_append, List.map_cons, List.map_nil]
    · rintro ρ ⟨R, F, s5, s6, hr, hR, rfl⟩
      have eR : R = [] := by cases R with | nil => rfl | cons _ _ => cases hr
      subst eR
      rw [List.append_nil] at hR
      subst hR
      have eg : (List.range (o.length - 1)).map (fun i => PyData.int (((momL js o).getD (i + 1) (0, 0)).1 - ((momL js o).getD i (0, 0)).1 - fstJ js (o.getD i 0))) = (gapsL js o).map .int := by
        rw [← gap_dues ok o, List.map_map]; rfl
      rw [eg]
      simp only [sSkip, sSeq, sIf, sRet, sRetN, sExpr, sAsg, sSetC, sFrz, sBrk, sCont, sRaise, sApp, sSetIx, sFor, sPar, putAll, pNil, pO, pF, startS, startM, oPur, oMut, oIni, own, ownR, use, uses, res, varR, bVar, bC, bOp, bUn, bCB, aNil, aCons, bAnd, bOr, bNot, bIf, bChain, tVal, tBl, wNot, wAnd, wOr, bTup, frz, fLst, oNil, oCons, bSl, oNone, oSome, bCall, fCall, bCallM, fComp, fCB, fRng, bTRng, gNm, gTp, setAll, iSeq, iRange, iEnum, iZip, seqOf, noCelB, wipeS, restore, qAdd, okAdd, vAdd, gSub, qMul, okMul, vMul, gDiv, gMod, gPow, gLt, gGt, gGe, qLe, okLe, vLe, gEq, gNe, qIs, okIs, vIs, qIsNot, gNeg, qLen, okLen, vLen, gAll, gAny, gSum, gMax, qMin, okMin, vMin, qInt, okInt, vInt, qBool, okBool, vBool, qTuple, seq1, qIsi, okIsi, vIsi, qIx, ixR, qSl, okSl, vSl, qIn, okIn, vIn, qNotIn, gLenSet, jList, jSrt, truD, isNonD, List.getElem?_cons_zero, List.getElem?_cons_succ, List.set_cons_zero, List.set_cons_succ, List.length_cons, List.length_nil, List.map_cons, List.map_nil, List.replicate, List.append_nil, List.nil_append, List.cons_append, Nat.reduceAdd, Nat.reduceSub, Nat.reduceLT, Nat.reduceLeDiff, Nat.zero_lt_succ, true_and, and_true, Bool.false_eq_true, if_true, if_false, Nat.zero_add, Nat.add_one_sub_one, Nat.sub_self, reduceIte, Nat.lt_add_left_iff_pos, eq_self, String.reduceBEq, Bool.not_true, Bool.not_false, Bool.or_self, Bool.or_false, Bool.or_true, Bool.true_or, Bool.false_or, Bool.and_true, Bool.true_and, Bool.and_false, Bool.false_and, ite_true, ite_false]
      refine jo_use haj hao hsj ?_
      refine ⟨shp_ints, shp_ints, ?_⟩
      rw [eqv_ints, decide_eq_true rfl, if_neg (by simp)]
      have r4 : (rangeD (Int.toNat 4)).length = 4 := rfl
      have fixed : ∀ d ∈ ([.tuple (o.map natD), .list (o.map natD), .none, .tuple [], .tuple (o.map natD ++ [.int 0]), .tuple (cutL (o.map natD) (some 1) none)] : List D), shp d = true := by
        have on : ∀ d ∈ o.map natD, okD 0 d := fun d hd => by
          obtain ⟨n, _, rfl⟩ := List.mem_map.mp hd
          exact okD_int
        simp only [List.forall_mem_cons]
        refine ⟨((okD_tuple (n := 0)).mpr on).shp, ((okD_list (n := 0)).mpr on).shp, shp_none, ((okD_tuple (n := 0)).mpr (by simp)).shp, ((okD_tuple (n := 0)).mpr fun d hd => ?_).shp, ((okD_tuple (n := 0)).mpr fun d hd => on d (cut_mem hd)).shp, by simp⟩
        rcases List.mem_append.mp hd with h | h
        · exact on d h
        · simp at h; subst h; exact okD_int
      refine ⟨by rw [List.length_map]; omega, by decide, by decide, by rw [r4]; decide, ?_⟩
      generalize hfx : ([.tuple (o.map natD), .list (o.map natD), .none, .tuple [], .tuple (o.map natD ++ [.int 0]), .tuple (cutL (o.map natD) (some 1) none)] : List D) = fx at fixed
      refine comp_inv (fun r acc ρ => ∃ d', okSrc d' ∧ r.length + acc.length = 4 ∧ (∀ z ∈ acc, shp z = true) ∧ ρ = [.cel a d', .dat (.tuple (js.map jobD)), .dat (.tuple (o.map natD)), .dat (.list ((momL js o).map jobD)), .cel p ((gapsL js o).map .int), s5, s6, .dat (.list fx), .un, .un, .un, .un, .un, .un, .un]) ?_ ?_ _ _ _ ⟨d1, hs1, by rw [r4]; rfl, by simp, rfl⟩
      · rintro d r acc ρ C ⟨d', hs', hn', ha, rfl⟩ k
        simp only [sp__law_variant, sq__law_variant, sSkip, sSeq, sIf, sRet, sRetN, sExpr, sAsg, sSetC, sFrz, sBrk, sCont, sRaise, sApp, sSetIx, sFor, sPar, putAll, pNil, pO, pF, startS, startM, oPur, oMut, oIni, own, ownR, use, uses, res, varR, bVar, bC, bOp, bUn, bCB, aNil, aCons, bAnd, bOr, bNot, bIf, bChain, tVal, tBl, wNot, wAnd, wOr, bTup, frz, fLst, oNil, oCons, bSl, oNone, oSome, bCall, fCall, bCallM, fComp, fCB, fRng, bTRng, gNm, gTp, setAll, iSeq, iRange, iEnum, iZip, seqOf, noCelB, wipeS, restore, qAdd, okAdd, vAdd, gSub, qMul, okMul, vMul, gDiv, gMod, gPow, gLt, gGt, gGe, qLe, okLe, vLe, gEq, gNe, qIs, okIs, vIs, qIsNot, gNeg, qLen, okLen, vLen, gAll, gAny, gSum, gMax, qMin, okMin, vMin, qInt, okInt, vInt, qBool, okBool, vBool, qTuple, seq1, qIsi, okIsi, vIsi, qIx, ixR, qSl, okSl, vSl, qIn, okIn, vIn, qNotIn, gLenSet, jList, jSrt, truD, isNonD, List.getElem?_cons_zero, List.getElem?_cons_succ, List.set_cons_zero, List.set_cons_succ, List.length_cons, List.length_nil, List.map_cons, List.map_nil, List.replicate, List.append_nil, List.nil_append, List.cons_append, Nat.reduceAdd, Nat.reduceSub, Nat.reduceLT, Nat.reduceLeDiff, Nat.zero_lt_succ, true_and, and_true, Bool.false_eq_true, if_true, if_false, Nat.zero_add, Nat.add_one_sub_one, Nat.sub_self, reduceIte, Nat.lt_add_left_iff_pos, eq_self, String.reduceBEq, Bool.not_true, Bool.not_false, Bool.or_self, Bool.or_false, Bool.or_true, Bool.true_or, Bool.false_or, Bool.and_true, Bool.true_and, Bool.and_false, Bool.false_and, ite_true, ite_false]
        refine ⟨hs', 40, 1, o.map natD, _, rfl, rfl, by decide, by decide, by decide, okV_ord (by omega), fun z ys d2 _ hz hs2 => ?_⟩
        refine k _ _ ⟨d2, hs2, by simp at hn' ⊢; omega, fun w hw => ?_, rfl⟩
        rcases List.mem_append.mp hw with hw | hw
        · exact ha w hw
        · simp at hw; subst hw; exact (hz.ok).shp
      · rintro acc ρ ⟨d', hs', hn', ha, rfl⟩
        have ha4 : acc.length = 4 := by simpa using hn'
        simp only [sSkip, sSeq, sIf, sRet, sRetN, sExpr, sAsg, sSetC, sFrz, sBrk, sCont, sRaise, sApp, sSetIx, sFor, sPar, putAll, pNil, pO, pF, startS, startM, oPur, oMut, oIni, own, ownR, use, uses, res, varR, bVar, bC, bOp, bUn, bCB, aNil, aCons, bAnd, bOr, bNot, bIf, bChain, tVal, tBl, wNot, wAnd, wOr, bTup, frz, fLst, oNil, oCons, bSl, oNone, oSome, bCall, fCall, bCallM, fComp, fCB, fRng, bTRng, gNm, gTp, setAll, iSeq, iRange, iEnum, iZip, seqOf, noCelB, wipeS, restore, qAdd, okAdd, vAdd, gSub, qMul, okMul, vMul, gDiv, gMod, gPow, gLt, gGt, gGe, qLe, okLe, vLe, gEq, gNe, qIs, okIs, vIs, qIsNot, gNeg, qLen, okLen, vLen, gAll, gAny, gSum, gMax, qMin, okMin, vMin, qInt, okInt, vInt, qBool, okBool, vBool, qTuple, seq1, qIsi, okIsi, vIsi, qIx, ixR, qSl, okSl, vSl, qIn, okIn, vIn, qNotIn, gLenSet, jList, jSrt, truD, isNonD, List.getElem?_cons_zero, List.getElem?_cons_succ, List.set_cons_zero, List.set_cons_succ, List.length_cons, List.length_nil, List.map_cons, List.map_nil, List.replicate, List.append_nil, List.nil_append, List.cons_append, Nat.reduceAdd, Nat.reduceSub, Nat.reduceLT, Nat.reduceLeDiff, Nat.zero_lt_succ, true_and, and_true, Bool.false_eq_true, if_true, if_false, Nat.zero_add, Nat.add_one_sub_one, Nat.sub_self, reduceIte, Nat.lt_add_left_iff_pos, eq_self, String.reduceBEq, Bool.not_true, Bool.not_false, Bool.or_self, Bool.or_false, Bool.or_true, Bool.true_or, Bool.false_or, Bool.and_true, Bool.true_and, Bool.and_false, Bool.false_and, ite_true, ite_false]
        refine ⟨by omega, ?_⟩
        refine for_inv (fun r ρ => ∃ (s8 s9 s10 : SV), (∀ d ∈ r, shp d = true) ∧ ρ = [.cel a d', .dat (.tuple (js.map jobD)), .dat (.tuple (o.map natD)), .dat (.list ((momL js o).map jobD)), .cel p ((gapsL js o).map .int), s5, s6, .dat (.list fx), s8, s9, s10, .un, .un, .un, .un]) ?_ ?_ _ _
          ⟨.un, .un, .un, fun d hd => ?_, rfl⟩
        · rintro v r ρ C ⟨s8, s9, s10, hr, rfl⟩ k
          have hv := hr v List.mem_cons_self
          simp only [sp__law_is_order, sp_is_order, sp__law_is_bool, List.length_map, sSkip, sSeq, sIf, sRet, sRetN, sExpr, sAsg, sSetC, sFrz, sBrk, sCont, sRaise, sApp, sSetIx, sFor, sPar, putAll, pNil, pO, pF, startS, startM, oPur, oMut, oIni, own, ownR, use, uses, res, varR, bVar, bC, bOp, bUn, bCB, aNil, aCons, bAnd, bOr, bNot, bIf, bChain, tVal, tBl, wNot, wAnd, wOr, bTup, frz, fLst, oNil, oCons, bSl, oNone, oSome, bCall, fCall, bCallM, fComp, fCB, fRng, bTRng, gNm, gTp, setAll, iSeq, iRange, iEnum, iZip, seqOf, noCelB, wipeS, restore, qAdd, okAdd, vAdd, gSub, qMul, okMul, vMul, gDiv, gMod, gPow, gLt, gGt, gGe, qLe, okLe, vLe, gEq, gNe, qIs, okIs, vIs, qIsNot, gNeg, qLen, okLen, vLen, gAll, gAny, gSum, gMax, qMin, okMin, vMin, qInt, okInt, vInt, qBool, okBool, vBool, qTuple, seq1, qIsi, okIsi, vIsi, qIx, ixR, qSl, okSl, vSl, qIn, okIn, vIn, qNotIn, gLenSet, jList, jSrt, truD, isNonD, List.getElem?_cons_zero, List.getElem?_cons_succ, List.set_cons_zero, List.set_cons_succ, List.length_cons, List.length_nil, List.map_cons, List.map_nil, List.replicate, List.append_nil, List.nil_append, List.cons_append, Nat.reduceAdd, Nat.reduceSub, Nat.reduceLT, Nat.reduceLeDiff, Nat.zero_lt_succ, true_and, and_true, Bool.false_eq_true, if_true, if_false, Nat.zero_add, Nat.add_one_sub_one, Nat.sub_self, reduceIte, Nat.lt_add_left_iff_pos, eq_self, String.reduceBEq, Bool.not_true, Bool.not_false, Bool.or_self, Bool.or_false, Bool.or_true, Bool.true_or, Bool.false_or, Bool.and_true, Bool.true_and, Bool.and_false, Bool.false_and, ite_true, ite_false]
          refine ⟨l2, hv, hsj, hv, ?_⟩
          rw [← ej, if_pos haj, lenD_jobs, if_neg (by simp)]
          have step : ∀ d ∈ [fnD (Str.ofString "starts"), fnD (Str.ofString "gaps"), fnD (Str.ofString "whole_time")], ∃ f : Str, d = fnD f ∧ (f = "is_order" ∨ f = "starts" ∨ f = "gaps" ∨ f = "whole_time") ∧ f ≠ "is_order" := by
            simp only [List.forall_mem_cons]
            exact ⟨⟨_, rfl, .inr (.inl rfl), by decide +kernel⟩, ⟨_, rfl, .inr (.inr (.inl rfl)), by decide +kernel⟩, ⟨_, rfl, .inr (.inr (.inr rfl)), by decide +kernel⟩, by simp⟩
          refine comp_map (fun _ => .str (if ordB js.length v = true then "" else "order")) _ (fun d hd C hC => ?_) ?_
          · obtain ⟨f, rfl, hf, hne⟩ := step d hd
            simp only [sp__law_by_two, sSkip, sSeq, sIf, sRet, sRetN, sExpr, sAsg, sSetC, sFrz, sBrk, sCont, sRaise, sApp, sSetIx, sFor, sPar, putAll, pNil, pO, pF, startS, startM, oPur, oMut, oIni, own, ownR, use, uses, res, varR, bVar, bC, bOp, bUn, bCB, aNil, aCons, bAnd, bOr, bNot, bIf, bChain, tVal, tBl, wNot, wAnd, wOr, bTup, frz, fLst, oNil, oCons, bSl, oNone, oSome, bCall, fCall, bCallM, fComp, fCB, fRng, bTRng, gNm, gTp, setAll, iSeq, iRange, iEnum, iZip, seqOf, noCelB, wipeS, restore, qAdd, okAdd, vAdd, gSub, qMul, okMul, vMul, gDiv, gMod, gPow, gLt, gGt, gGe, qLe, okLe, vLe, gEq, gNe, qIs, okIs, vIs, qIsNot, gNeg, qLen, okLen, vLen, gAll, gAny, gSum, gMax, qMin, okMin, vMin, qInt, okInt, vInt, qBool, okBool, vBool, qTuple, seq1, qIsi, okIsi, vIsi, qIx, ixR, qSl, okSl, vSl, qIn, okIn, vIn, qNotIn, gLenSet, jList, jSrt, truD, isNonD, List.getElem?_cons_zero, List.getElem?_cons_succ, List.set_cons_zero, List.set_cons_succ, List.length_cons, List.length_nil, List.map_cons, List.map_nil, List.replicate, List.append_nil, List.nil_append, List.cons_append, Nat.reduceAdd, Nat.reduceSub, Nat.reduceLT, Nat.reduceLeDiff, Nat.zero_lt_succ, true_and, and_true, Bool.false_eq_true, if_true, if_false, Nat.zero_add, Nat.add_one_sub_one, Nat.sub_self, reduceIte, Nat.lt_add_left_iff_pos, eq_self, String.reduceBEq, Bool.not_true, Bool.not_false, Bool.or_self, Bool.or_false, Bool.or_true, Bool.true_or, Bool.false_or, Bool.and_true, Bool.true_and, Bool.and_false, Bool.false_and, ite_true, ite_false]
            refine ⟨f, jobsD js, v, rfl, hsj, hv, hf, ?_⟩
            unfold wordBy
            rw [if_pos haj, lenD_jobs]
            cases ho : ordB js.length v with
            | true => rw [ho, if_pos rfl] at hC; rw [if_pos (.inr rfl)]; exact hC
            | false => rw [ho, if_neg (by simp)] at hC; rw [if_neg (by simp [hne])]; exact hC
          · have hr2 : ∀ d ∈ r, shp d = true := fun d hd => hr d (List.mem_cons_of_mem _ hd)
            cases ho : ordB js.length v with
            | true =>
              simp only [sSkip, sSeq, sIf, sRet, sRetN, sExpr, sAsg, sSetC, sFrz, sBrk, sCont, sRaise, sApp, sSetIx, sFor, sPar, putAll, pNil, pO, pF, startS, startM, oPur, oMut, oIni, own, ownR, use, uses, res, varR, bVar, bC, bOp, bUn, bCB, aNil, aCons, bAnd, bOr, bNot, bIf, bChain, tVal, tBl, wNot, wAnd, wOr, bTup, frz, fLst, oNil, oCons, bSl, oNone, oSome, bCall, fCall, bCallM, fComp, fCB, fRng, bTRng, gNm, gTp, setAll, iSeq, iRange, iEnum, iZip, seqOf, noCelB, wipeS, restore, qAdd, okAdd, vAdd, gSub, qMul, okMul, vMul, gDiv, gMod, gPow, gLt, gGt, gGe, qLe, okLe, vLe, gEq, gNe, qIs, okIs, vIs, qIsNot, gNeg, qLen, okLen, vLen, gAll, gAny, gSum, gMax, qMin, okMin, vMin, qInt, okInt, vInt, qBool, okBool, vBool, qTuple, seq1, qIsi, okIsi, vIsi, qIx, ixR, qSl, okSl, vSl, qIn, okIn, vIn, qNotIn, gLenSet, jList, jSrt, truD, isNonD, List.getElem?_cons_zero, List.getElem?_cons_succ, List.set_cons_zero, List.set_cons_succ, List.length_cons, List.length_nil, List.map_cons, List.map_nil, List.replicate, List.append_nil, List.nil_append, List.cons_append, Nat.reduceAdd, Nat.reduceSub, Nat.reduceLT, Nat.reduceLeDiff, Nat.zero_lt_succ, true_and, and_true, Bool.false_eq_true, if_true, if_false, Nat.zero_add, Nat.add_one_sub_one, Nat.sub_self, reduceIte, Nat.lt_add_left_iff_pos, eq_self, String.reduceBEq, Bool.not_true, Bool.not_false, Bool.or_self, Bool.or_false, Bool.or_true, Bool.true_or, Bool.false_or, Bool.and_true, Bool.true_and, Bool.and_false, Bool.false_and, ite_true, ite_false]
              have e1 : PyData.eqv (.list [PyData.str (Str.ofString ""), PyData.str (Str.ofString ""), PyData.str (Str.ofString "")]) (.list (List.replicate (Int.toNat 3) [PyData.str (Str.ofString "")]).flatten) = true := by decide +kernel
              have e2 : shp (.list (List.replicate (Int.toNat 3) [PyData.str (Str.ofString "")]).flatten) = true := by decide +kernel
              refine ⟨⟨by decide, by decide⟩, by decide +kernel, e2, ?_⟩
              rw [e1, if_neg (by simp)]
              exact k _ ⟨_, _, _, hr2, rfl⟩
            | false =>
              simp only [sSkip, sSeq, sIf, sRet, sRetN, sExpr, sAsg, sSetC, sFrz, sBrk, sCont, sRaise, sApp, sSetIx, sFor, sPar, putAll, pNil, pO, pF, startS, startM, oPur, oMut, oIni, own, ownR, use, uses, res, varR, bVar, bC, bOp, bUn, bCB, aNil, aCons, bAnd, bOr, bNot, bIf, bChain, tVal, tBl, wNot, wAnd, wOr, bTup, frz, fLst, oNil, oCons, bSl, oNone, oSome, bCall, fCall, bCallM, fComp, fCB, fRng, bTRng, gNm, gTp, setAll, iSeq, iRange, iEnum, iZip, seqOf, noCelB, wipeS, restore, qAdd, okAdd, vAdd, gSub, qMul, okMul, vMul, gDiv, gMod, gPow, gLt, gGt, gGe, qLe, okLe, vLe, gEq, gNe, qIs, okIs, vIs, qIsNot, gNeg, qLen, okLen, vLen, gAll, gAny, gSum, gMax, qMin, okMin, vMin, qInt, okInt, vInt, qBool, okBool, vBool, qTuple, seq1, qIsi, okIsi, vIsi, qIx, ixR, qSl, okSl, vSl, qIn, okIn, vIn, qNotIn, gLenSet, jList, jSrt, truD, isNonD, List.getElem?_cons_zero, List.getElem?_cons_succ, List.set_cons_zero, List.set_cons_succ, List.length_cons, List.length_nil, List.map_cons, List.map_nil, List.replicate, List.append_nil, List.nil_append, List.cons_append, Nat.reduceAdd, Nat.reduceSub, Nat.reduceLT, Nat.reduceLeDiff, Nat.zero_lt_succ, true_and, and_true, Bool.false_eq_true, if_true, if_false, Nat.zero_add, Nat.add_one_sub_one, Nat.sub_self, reduceIte, Nat.lt_add_left_iff_pos, eq_self, String.reduceBEq, Bool.not_true, Bool.not_false, Bool.or_self, Bool.or_false, Bool.or_true, Bool.true_or, Bool.false_or, Bool.and_true, Bool.true_and, Bool.and_false, Bool.false_and, ite_true, ite_false]
              have e1 : PyData.eqv (.list [PyData.str (Str.ofString "order"), PyData.str (Str.ofString "order"), PyData.str (Str.ofString "order")]) (.list (List.replicate (Int.toNat 3) [PyData.str (Str.ofString "order")]).flatten) = true := by decide +kernel
              have e2 : shp (.list (List.replicate (Int.toNat 3) [PyData.str (Str.ofString "order")]).flatten) = true := by decide +kernel
              refine ⟨⟨by decide, by decide⟩, by decide +kernel, e2, ?_⟩
              rw [e1, if_neg (by simp)]
              exact k _ ⟨_, _, _, hr2, rfl⟩
        · rintro ρ ⟨s8, s9, s10, _, rfl⟩
          simp only [sSkip, sSeq, sIf, sRet, sRetN, sExpr, sAsg, sSetC, sFrz, sBrk, sCont, sRaise, sApp, sSetIx, sFor, sPar, putAll, pNil, pO, pF, startS, startM, oPur, oMut, oIni, own, ownR, use, uses, res, varR, bVar, bC, bOp, bUn, bCB, aNil, aCons, bAnd, bOr, bNot, bIf, bChain, tVal, tBl, wNot, wAnd, wOr, bTup, frz, fLst, oNil, oCons, bSl, oNone, oSome, bCall, fCall, bCallM, fComp, fCB, fRng, bTRng, gNm, gTp, setAll, iSeq, iRange, iEnum, iZip, seqOf, noCelB, wipeS, restore, qAdd, okAdd, vAdd, gSub, qMul, okMul, vMul, gDiv, gMod, gPow, gLt, gGt, gGe, qLe, okLe, vLe, gEq, gNe, qIs, okIs, vIs, qIsNot, gNeg, qLen, okLen, vLen, gAll, gAny, gSum, gMax, qMin, okMin, vMin, qInt, okInt, vInt, qBool, okBool, vBool, qTuple, seq1, qIsi, okIsi, vIsi, qIx, ixR, qSl, okSl, vSl, qIn, okIn, vIn, qNotIn, gLenSet, jList, jSrt, truD, isNonD, List.getElem?_cons_zero, List.getElem?_cons_succ, List.set_cons_zero, List.set_cons_succ, List.length_cons, List.length_nil, List.map_cons, List.map_nil, List.replicate, List.append_nil, List.nil_append, List.cons_append, Nat.reduceAdd, Nat.reduceSub, Nat.reduceLT, Nat.reduceLeDiff, Nat.zero_lt_succ, true_and, and_true, Bool.false_eq_true, if_true, if_false, Nat.zero_add, Nat.add_one_sub_one, Nat.sub_self, reduceIte, Nat.lt_add_left_iff_pos, eq_self, String.reduceBEq, Bool.not_true, Bool.not_false, Bool.or_self, Bool.or_false, Bool.or_true, Bool.true_or, Bool.false_or, Bool.and_true, Bool.true_and, Bool.and_false, Bool.false_and, ite_true, ite_false]
          exact ⟨d', rfl, q d' hs'⟩
        · have hd2 : d ∈ fx ++ acc := by rw [← hfx]; exact hd
          rcases List.mem_append.mp hd2 with h | h
          · exact fixed d h
          · exact ha d h
end DL
set_option Elab.async false
set_option linter.all false
set_option maxRecDepth 100000
set_option maxHeartbeats 4000000
namespace DL
open PySem PySem.Spec PyProof.Rows L2

def sp__law_written (X : ED) (ds : List D) (P : D → Prop) : Prop := ds = [] ∧ P (.bool true)
def cx_law : Ctx := { N := ["_law_script", "_law_k", "_law_source_here", "_law_jobs_so", "_law_value", "_law_turn", "_law_other"], Γ := [("_law_any_value", .mut 2 sp__law_any_value), ("_law_chosen", .mut 2 sp__law_chosen), ("_law_jobs", .mut 3 sp__law_jobs), ("_law_orders_right", .mut 2 sp__law_orders_right), ("_law_pick", .mut 2 sp__law_pick), ("_law_right", .pur 1 sp__law_right), ("_law_source", .frs 2 sp__law_source), ("_law_variant", .mut 2 sp__law_variant), ("_law_written", .pur 0 sp__law_written)], C := [], R := [], ms := [2] }
def tr_law : SW := (sSeq (sFor (iRange (bCB gMax (aCons (bC (.int 6)) (aCons (bCB qMin (aCons (bC (.int 14)) (aCons (bCB qLen (aCons (bVar 0) aNil)) aNil))) aNil)))) (gNm 1)
  (sSeq (sSetC 2 (fCall sp__law_source 2 (oCons (own (bVar 0)) (oCons (own (bVar 1)) oNil))))
  (sSeq (sAsg (own (bCallM sp__law_jobs 3 2 (oCons (own (bOp qAdd (bC (.int 1)) (bCallM sp__law_pick 2 2 (oCons (own (bC (.int 7))) oNil)))) (oCons (own (bCallM sp__law_chosen 2 2 (oCons (own (frz (fLst (oCons (own (bC (.int 9))) (oCons (own (bOp gPow (bC (.int 10)) (bC (.int 12)))) oNil))))) oNil))) oNil)))) (gNm 3))
  (sSeq (sFor (iSeq (own (bOp qAdd (frz (fLst (oCons (own (bVar 3)) (oCons (own (frz (fCB jList (aCons (bVar 3) aNil)))) (oCons (own (bTup (oCons (own (bTup (oCons (own (bC (.int 0))) (oCons (own (bC (.int 0))) oNil)))) oNil))) oNil))))) (frz (fComp (iRange (bC (.int 4))) (gNm 5) (fun _ ρ P => P true ρ) (own (bCallM sp__law_any_value 2 2 (oCons (own (bC (.int 2))) oNil))) [5]))))) (gNm 4)
  (sIf (wNot (tVal (bCall sp__law_right 1 (oCons (own (bVar 4)) oNil))))
  (sRet (own (bC (.bool false))))
  sSkip))
  (sSeq (sIf (wNot (tVal (bCallM sp__law_orders_right 2 2 (oCons (own (bVar 3)) oNil))))
  (sRet (own (bC (.bool false))))
  sSkip)
  (sFor (iRange (bC (.int 6))) (gNm 5)
  (sSeq (sAsg (own (bCallM sp__law_variant 2 2 (oCons (own (bVar 3)) oNil))) (gNm 6))
  (sIf (wOr (wNot (tVal (bCall sp__law_right 1 (oCons (own (bVar 6)) oNil)))) (wNot (tVal (bCall sp__law_right 1 (oCons (own (bCallM sp__law_variant 2 2 (oCons (own (bCB qTuple (aCons (bVar 6) aNil))) oNil))) oNil)))))
  (sRet (own (bC (.bool false))))
  sSkip))))))))
  (sRet (own (bCall sp__law_written 0 oNil))))


def sp_law (X : ED) (ds : List D) (P : D → Prop) : Prop := ∃ ns : List Int, ds = [scD ns] ∧ P (.bool true)
theorem ty_law (X : ED) (ds : List D) (Q : D → Prop) (hl : ds.length = 1) (h : sp_law X ds Q) : tr_law X (startS cx_law.N ds) (oPur Q) := by
  obtain ⟨ns, rfl, q⟩ := h
  unfold tr_law cx_law scD
  simp only [sp__law_written, sSkip, sSeq, sIf, sRet, sRetN, sExpr, sAsg, sSetC, sFrz, sBrk, sCont, sRaise, sApp, sSetIx, sFor, sPar, putAll, pNil, pO, pF, startS, startM, oPur, oMut, oIni, own, ownR, use, uses, res, varR, bVar, bC, bOp, bUn, bCB, aNil, aCons, bAnd, bOr, bNot, bIf, bChain, tVal, tBl, wNot, wAnd, wOr, bTup, frz, fLst, oNil, oCons, bSl, oNone, oSome, bCall, fCall, bCallM, fComp, fCB, fRng, bTRng, gNm, gTp, setAll, iSeq, iRange, iEnum, iZip, seqOf, noCelB, wipeS, restore, qAdd, okAdd, vAdd, gSub, qMul, okMul, vMul, gDiv, gMod, gPow, gLt, gGt, gGe, qLe, okLe, vLe, gEq, gNe, qIs, okIs, vIs, qIsNot, gNeg, qLen, okLen, vLen, gAll, gAny, gSum, gMax, qMin, okMin, vMin, qInt, okInt, vInt, qBool, okBool, vBool, qTuple, seq1, qIsi, okIsi, vIsi, qIx, ixR, qSl, okSl, vSl, qIn, okIn, vIn, qNotIn, gLenSet, jList, jSrt, truD, isNonD, List.getElem?_cons_zero, List.getElem?_cons_succ, List.set_cons_zero, List.set_cons_succ, List.length_cons, List.length_nil, List.map_cons, List.map_nil, List.replicate, List.append_nil, List.nil_append, List.cons_append, Nat.reduceAdd, Nat.reduceSub, Nat.reduceLT, Nat.reduceLeDiff, Nat.zero_lt_succ, true_and, and_true, Bool.false_eq_true, if_true, if_false, Nat.zero_add, Nat.add_one_sub_one, Nat.sub_self, reduceIte, Nat.lt_add_left_iff_pos, eq_self, String.reduceBEq, Bool.not_true, Bool.not_false, Bool.or_self, Bool.or_false, Bool.or_true, Bool.true_or, Bool.false_or, Bool.and_true, Bool.true_and, Bool.and_false, Bool.false_and, ite_true, ite_false]
  refine ⟨by omega, by omega, ?_⟩
  refine for_inv (fun r ρ => ∃ (s1 s2 s3 s4 s5 s6 : SV), (s5 = .un ∨ ∃ d, s5 = .dat d) ∧ (∀ d ∈ r, ∃ n : Nat, n < 14 ∧ d = natD n) ∧ ρ = [.dat (scD ns), s1, s2, s3, s4, s5, s6]) ?_ ?_ _ _ ⟨.un, .un, .un, .un, .un, .un, .inl rfl, fun d hd => ?_, rfl⟩
  · rintro d r ρ C ⟨s1, s2, s3, s4, s5, s6, h5, hr, rfl⟩ k
    obtain ⟨n, hn, rfl⟩ := hr d List.mem_cons_self
    have hr0 := hr
    simp only [sp__law_source, natD, sSkip, sSeq, sIf, sRet, sRetN, sExpr, sAsg, sSetC, sFrz, sBrk, sCont, sRaise, sApp, sSetIx, sFor, sPar, putAll, pNil, pO, pF, startS, startM, oPur, oMut, oIni, own, ownR, use, uses, res, varR, bVar, bC, bOp, bUn, bCB, aNil, aCons, bAnd, bOr, bNot, bIf, bChain, tVal, tBl, wNot, wAnd, wOr, bTup, frz, fLst, oNil, oCons, bSl, oNone, oSome, bCall, fCall, bCallM, fComp, fCB, fRng, bTRng, gNm, gTp, setAll, iSeq, iRange, iEnum, iZip, seqOf, noCelB, wipeS, restore, qAdd, okAdd, vAdd, gSub, qMul, okMul, vMul, gDiv, gMod, gPow, gLt, gGt, gGe, qLe, okLe, vLe, gEq, gNe, qIs, okIs, vIs, qIsNot, gNeg, qLen, okLen, vLen, gAll, gAny, gSum, gMax, qMin, okMin, vMin, qInt, okInt, vInt, qBool, okBool, vBool, qTuple, seq1, qIsi, okIsi, vIsi, qIx, ixR, qSl, okSl, vSl, qIn, okIn, vIn, qNotIn, gLenSet, jList, jSrt, truD, isNonD, List.getElem?_cons_zero, List.getElem?_cons_succ, List.set_cons_zero, List.set_cons_succ, List.length_cons, List.length_nil, List.map_cons, List.map_nil, List.replicate, List.append_nil, List.nil_append, List.cons_append, Nat.reduceAdd, Nat.reduceSub, Nat.reduceLT, Nat.reduceLeDiff, Nat.zero_lt_succ, true_and, and_true, Bool.false_eq_true, if_true, if_false, Nat.zero_add, Nat.add_one_sub_one, Nat.sub_self, reduceIte, Nat.lt_add_left_iff_pos, eq_self, String.reduceBEq, Bool.not_true, Bool.not_false, Bool.or_self, Bool.or_false, Bool.or_true, Bool.true_or, Bool.false_or, Bool.and_true, Bool.true_and, Bool.and_false, Bool.false_and, ite_true, ite_false]
    refine ⟨ns, _, rfl, by omega, by omega, fun d0 h0 p => ?_⟩
    simp only [sp__law_pick, sSkip, sSeq, sIf, sRet, sRetN, sExpr, sAsg, sSetC, sFrz, sBrk, sCont, sRaise, sApp, sSetIx, sFor, sPar, putAll, pNil, pO, pF, startS, startM, oPur, oMut, oIni, own, ownR, use, uses, res, varR, bVar, bC, bOp, bUn, bCB, aNil, aCons, bAnd, bOr, bNot, bIf, bChain, tVal, tBl, wNot, wAnd, wOr, bTup, frz, fLst, oNil, oCons, bSl, oNone, oSome, bCall, fCall, bCallM, fComp, fCB, fRng, bTRng, gNm, gTp, setAll, iSeq, iRange, iEnum, iZip, seqOf, noCelB, wipeS, restore, qAdd, okAdd, vAdd, gSub, qMul, okMul, vMul, gDiv, gMod, gPow, gLt, gGt, gGe, qLe, okLe, vLe, gEq, gNe, qIs, okIs, vIs, qIsNot, gNeg, qLen, okLen, vLen, gAll, gAny, gSum, gMax, qMin, okMin, vMin, qInt, okInt, vInt, qBool, okBool, vBool, qTuple, seq1, qIsi, okIsi, vIsi, qIx, ixR, qSl, okSl, vSl, qIn, okIn, vIn, qNotIn, gLenSet, jList, jSrt, truD, isNonD, List.getElem?_cons_zero, List.getElem?_cons_succ, List.set_cons_zero, List.set_cons_succ, List.length_cons, List.length_nil, List.map_cons, List.map_nil, List.replicate, List.append_nil, List.nil_append, List.cons_append, Nat.reduceAdd, Nat.reduceSub, Nat.reduceLT, Nat.reduceLeDiff, Nat.zero_lt_succ, true_and, and_true, Bool.false_eq_true, if_true, if_false, Nat.zero_add, Nat.add_one_sub_one, Nat.sub_self, reduceIte, Nat.lt_add_left_iff_pos, eq_self, String.reduceBEq, Bool.not_true, Bool.not_false, Bool.or_self, Bool.or_false, Bool.or_true, Bool.true_or, Bool.false_or, Bool.and_true, Bool.true_and, Bool.and_false, Bool.false_and, ite_true, ite_false]
    refine ⟨h0, _, rfl, by decide, by decide, fun m d1 m0 m1 h1 => ?_⟩
    refine ⟨cp12, h1, _, _, rfl, rfl, by simp, by simp, fun t d2 ht h2 => ?_⟩
    obtain ⟨t', rfl, t0, t1⟩ : ∃ t' : Int, t = .int t' ∧ 0 ≤ t' ∧ t' ≤ 1000000000000 := by
      simp only [List.mem_cons, List.not_mem_nil, or_false] at ht
      rcases ht with rfl | rfl
      · exact ⟨_, rfl, by decide, by decide⟩
      · exact ⟨_, rfl, by decide, by decide⟩
    refine ⟨h2, _, _, rfl, by omega, by omega, t0, t1, fun js d3 hjl hj h3 => ?_⟩
    have l1 : 1 ≤ js.length := by omega
    have l2 : js.length ≤ 7 := by omega
    have s5n : (match some s5 with | some (SV.cel a ds) => False | x => True) := by
      rcases h5 with rfl | ⟨d, rfl⟩ <;> trivial
    have r4 : (rangeD (Int.toNat 4)).length = 4 := rfl
    show 4 < 4611686018427387904 ∧ _
    refine ⟨by decide, by decide, by rcases h5 with rfl | ⟨d, rfl⟩ <;> trivial, by rw [r4]; decide, ?_⟩
    have ej : jobsD js = .tuple (js.map jobD) := rfl
    have oj : okV 40 4 (jobsD js) := (okV_jobs (by omega)).up (by omega) (by omega)
    have ol : okV 40 4 (.list (js.map jobD)) := ⟨by simp; omega, fun d hd => by
      obtain ⟨p, _, rfl⟩ := List.mem_map.mp hd
      exact ⟨by simp, by simp [okV]⟩⟩
    have oz : okV 40 4 (.tuple [.tuple [.int 0, .int 0]]) := by simp [okV]
    refine comp_inv (fun r acc ρ => ∃ d', okSrc d' ∧ r.length + acc.length = 4 ∧ (∀ z ∈ acc, okV 40 4 z) ∧ ρ = [.dat (scD ns), .dat (.int (n : Int)), .cel p d', .dat (jobsD js), s4, .un, s6]) ?_ ?_ _ _ _ ⟨d3, h3, by rw [r4]; rfl, by simp, rfl⟩
    · rintro d r acc ρ C ⟨d', hs', hn', ha, rfl⟩ k
      simp only [sp__law_any_value, sq__law_any_value, sSkip, sSeq, sIf, sRet, sRetN, sExpr, sAsg, sSetC, sFrz, sBrk, sCont, sRaise, sApp, sSetIx, sFor, sPar, putAll, pNil, pO, pF, startS, startM, oPur, oMut, oIni, own, ownR, use, uses, res, varR, bVar, bC, bOp, bUn, bCB, aNil, aCons, bAnd, bOr, bNot, bIf, bChain, tVal, tBl, wNot, wAnd, wOr, bTup, frz, fLst, oNil, oCons, bSl, oNone, oSome, bCall, fCall, bCallM, fComp, fCB, fRng, bTRng, gNm, gTp, setAll, iSeq, iRange, iEnum, iZip, seqOf, noCelB, wipeS, restore, qAdd, okAdd, vAdd, gSub, qMul, okMul, vMul, gDiv, gMod, gPow, gLt, gGt, gGe, qLe, okLe, vLe, gEq, gNe, qIs, okIs, vIs, qIsNot, gNeg, qLen, okLen, vLen, gAll, gAny, gSum, gMax, qMin, okMin, vMin, qInt, okInt, vInt, qBool, okBool, vBool, qTuple, seq1, qIsi, okIsi, vIsi, qIx, ixR, qSl, okSl, vSl, qIn, okIn, vIn, qNotIn, gLenSet, jList, jSrt, truD, isNonD, List.getElem?_cons_zero, List.getElem?_cons_succ, List.set_cons_zero, List.set_cons_succ, List.length_cons, List.length_nil, List.map_cons, List.map_nil, List.replicate, List.append_nil, List.nil_append, List.cons_append, Nat.reduceAdd, Nat.reduceSub, Nat.reduceLT, Nat.reduceLeDiff, Nat.zero_lt_succ, true_and, and_true, Bool.false_eq_true, if_true, if_false, Nat.zero_add, Nat.add_one_sub_one, Nat.sub_self, reduceIte, Nat.lt_add_left_iff_pos, eq_self, String.reduceBEq, Bool.not_true, Bool.not_false, Bool.or_self, Bool.or_false, Bool.or_true, Bool.true_or, Bool.false_or, Bool.and_true, Bool.true_and, Bool.and_false, Bool.false_and, ite_true, ite_false]
      refine ⟨hs', 2, by decide, rfl, fun z d2 hz hs2 => ?_⟩
      refine k _ _ ⟨d2, hs2, by simp at hn' ⊢; omega, fun w hw => ?_, rfl⟩
      rcases List.mem_append.mp hw with hw | hw
      · exact ha w hw
      · simp at hw; subst hw; exact hz
    · rintro acc ρ ⟨d', hs', hn', ha, rfl⟩
      have ha4 : acc.length = 4 := by simpa using hn'
      refine ⟨by omega, ?_⟩
      refine for_inv (fun r ρ => ∃ s4, (∀ d ∈ r, okV 40 4 d) ∧ ρ = [.dat (scD ns), .dat (.int (n : Int)), .cel p d', .dat (jobsD js), s4, s5, s6]) ?_ ?_ _ _ ⟨s4, fun d hd => ?_, rfl⟩
      · rintro v r ρ C ⟨s4, hr, rfl⟩ k
        simp only [sp__law_right, sSkip, sSeq, sIf, sRet, sRetN, sExpr, sAsg, sSetC, sFrz, sBrk, sCont, sRaise, sApp, sSetIx, sFor, sPar, putAll, pNil, pO, pF, startS, startM, oPur, oMut, oIni, own, ownR, use, uses, res, varR, bVar, bC, bOp, bUn, bCB, aNil, aCons, bAnd, bOr, bNot, bIf, bChain, tVal, tBl, wNot, wAnd, wOr, bTup, frz, fLst, oNil, oCons, bSl, oNone, oSome, bCall, fCall, bCallM, fComp, fCB, fRng, bTRng, gNm, gTp, setAll, iSeq, iRange, iEnum, iZip, seqOf, noCelB, wipeS, restore, qAdd, okAdd, vAdd, gSub, qMul, okMul, vMul, gDiv, gMod, gPow, gLt, gGt, gGe, qLe, okLe, vLe, gEq, gNe, qIs, okIs, vIs, qIsNot, gNeg, qLen, okLen, vLen, gAll, gAny, gSum, gMax, qMin, okMin, vMin, qInt, okInt, vInt, qBool, okBool, vBool, qTuple, seq1, qIsi, okIsi, vIsi, qIx, ixR, qSl, okSl, vSl, qIn, okIn, vIn, qNotIn, gLenSet, jList, jSrt, truD, isNonD, List.getElem?_cons_zero, List.getElem?_cons_succ, List.set_cons_zero, List.set_cons_succ, List.length_cons, List.length_nil, List.map_cons, List.map_nil, List.replicate, List.append_nil, List.nil_append, List.cons_append, Nat.reduceAdd, Nat.reduceSub, Nat.reduceLT, Nat.reduceLeDiff, Nat.zero_lt_succ, true_and, and_true, Bool.false_eq_true, if_true, if_false, Nat.zero_add, Nat.add_one_sub_one, Nat.sub_self, reduceIte, Nat.lt_add_left_iff_pos, eq_self, String.reduceBEq, Bool.not_true, Bool.not_false, Bool.or_self, Bool.or_false, Bool.or_true, Bool.true_or, Bool.false_or, Bool.and_true, Bool.true_and, Bool.and_false, Bool.false_and, ite_true, ite_false]
        exact ⟨40, 4, v, rfl, by decide, by decide, hr v List.mem_cons_self, k _ ⟨_, fun d hd => hr d (List.mem_cons_of_mem _ hd), rfl⟩⟩
      · rintro ρ ⟨s4, hr, rfl⟩
        simp only [sSkip, sSeq, sIf, sRet, sRetN, sExpr, sAsg, sSetC, sFrz, sBrk, sCont, sRaise, sApp, sSetIx, sFor, sPar, putAll, pNil, pO, pF, startS, startM, oPur, oMut, oIni, own, ownR, use, uses, res, varR, bVar, bC, bOp, bUn, bCB, aNil, aCons, bAnd, bOr, bNot, bIf, bChain, tVal, tBl, wNot, wAnd, wOr, bTup, frz, fLst, oNil, oCons, bSl, oNone, oSome, bCall, fCall, bCallM, fComp, fCB, fRng, bTRng, gNm, gTp, setAll, iSeq, iRange, iEnum, iZip, seqOf, noCelB, wipeS, restore, qAdd, okAdd, vAdd, gSub, qMul, okMul, vMul, gDiv, gMod, gPow, gLt, gGt, gGe, qLe, okLe, vLe, gEq, gNe, qIs, okIs, vIs, qIsNot, gNeg, qLen, okLen, vLen, gAll, gAny, gSum, gMax, qMin, okMin, vMin, qInt, okInt, vInt, qBool, okBool, vBool, qTuple, seq1, qIsi, okIsi, vIsi, qIx, ixR, qSl, okSl, vSl, qIn, okIn, vIn, qNotIn, gLenSet, jList, jSrt, truD, isNonD, List.getElem?_cons_zero, List.getElem?_cons_succ, List.set_cons_zero, List.set_cons_succ, List.length_cons, List.length_nil, List.map_cons, List.map_nil, List.replicate, List.append_nil, List.nil_append, List.cons_append, Nat.reduceAdd, Nat.reduceSub, Nat.reduceLT, Nat.reduceLeDiff, Nat.zero_lt_succ, true_and, and_true, Bool.false_eq_true, if_true, if_false, Nat.zero_add, Nat.add_one_sub_one, Nat.sub_self, reduceIte, Nat.lt_add_left_iff_pos, eq_self, String.reduceBEq, Bool.not_true, Bool.not_false, Bool.or_self, Bool.or_false, Bool.or_true, Bool.true_or, Bool.false_or, Bool.and_true, Bool.true_and, Bool.and_false, Bool.false_and, ite_true, ite_false]
        refine ⟨hs', js, rfl, l1, by omega, hj, fun d2 hs2 => ?_⟩
        simp only [sSkip, sSeq, sIf, sRet, sRetN, sExpr, sAsg, sSetC, sFrz, sBrk, sCont, sRaise, sApp, sSetIx, sFor, sPar, putAll, pNil, pO, pF, startS, startM, oPur, oMut, oIni, own, ownR, use, uses, res, varR, bVar, bC, bOp, bUn, bCB, aNil, aCons, bAnd, bOr, bNot, bIf, bChain, tVal, tBl, wNot, wAnd, wOr, bTup, frz, fLst, oNil, oCons, bSl, oNone, oSome, bCall, fCall, bCallM, fComp, fCB, fRng, bTRng, gNm, gTp, setAll, iSeq, iRange, iEnum, iZip, seqOf, noCelB, wipeS, restore, qAdd, okAdd, vAdd, gSub, qMul, okMul, vMul, gDiv, gMod, gPow, gLt, gGt, gGe, qLe, okLe, vLe, gEq, gNe, qIs, okIs, vIs, qIsNot, gNeg, qLen, okLen, vLen, gAll, gAny, gSum, gMax, qMin, okMin, vMin, qInt, okInt, vInt, qBool, okBool, vBool, qTuple, seq1, qIsi, okIsi, vIsi, qIx, ixR, qSl, okSl, vSl, qIn, okIn, vIn, qNotIn, gLenSet, jList, jSrt, truD, isNonD, List.getElem?_cons_zero, List.getElem?_cons_succ, List.set_cons_zero, List.set_cons_succ, List.length_cons, List.length_nil, List.map_cons, List.map_nil, List.replicate, List.append_nil, List.nil_append, List.cons_append, Nat.reduceAdd, Nat.reduceSub, Nat.reduceLT, Nat.reduceLeDiff, Nat.zero_lt_succ, true_and, and_true, Bool.false_eq_true, if_true, if_false, Nat.zero_add, Nat.add_one_sub_one, Nat.sub_self, reduceIte, Nat.lt_add_left_iff_pos, eq_self, String.reduceBEq, Bool.not_true, Bool.not_false, Bool.or_self, Bool.or_false, Bool.or_true, Bool.true_or, Bool.false_or, Bool.and_true, Bool.true_and, Bool.and_false, Bool.false_and, ite_true, ite_false]
        refine ⟨by decide, by decide, ?_⟩
        refine for_inv (fun r ρ => ∃ (d' : List D) (s5 s6 : SV), okSrc d' ∧ (s5 = .un ∨ ∃ d, s5 = .dat d) ∧ (∀ d ∈ r, ∃ n, d = natD n) ∧ ρ = [.dat (scD ns), .dat (.int (n : Int)), .cel p d', .dat (jobsD js), s4, s5, s6]) ?_ ?_ _ _ ⟨d2, s5, s6, hs2, h5, fun d hd => ?_, rfl⟩
        · rintro v r ρ C ⟨d', s5, s6, hs', h5, hv, rfl⟩ k
          simp only [sp__law_variant, sq__law_variant, sSkip, sSeq, sIf, sRet, sRetN, sExpr, sAsg, sSetC, sFrz, sBrk, sCont, sRaise, sApp, sSetIx, sFor, sPar, putAll, pNil, pO, pF, startS, startM, oPur, oMut, oIni, own, ownR, use, uses, res, varR, bVar, bC, bOp, bUn, bCB, aNil, aCons, bAnd, bOr, bNot, bIf, bChain, tVal, tBl, wNot, wAnd, wOr, bTup, frz, fLst, oNil, oCons, bSl, oNone, oSome, bCall, fCall, bCallM, fComp, fCB, fRng, bTRng, gNm, gTp, setAll, iSeq, iRange, iEnum, iZip, seqOf, noCelB, wipeS, restore, qAdd, okAdd, vAdd, gSub, qMul, okMul, vMul, gDiv, gMod, gPow, gLt, gGt, gGe, qLe, okLe, vLe, gEq, gNe, qIs, okIs, vIs, qIsNot, gNeg, qLen, okLen, vLen, gAll, gAny, gSum, gMax, qMin, okMin, vMin, qInt, okInt, vInt, qBool, okBool, vBool, qTuple, seq1, qIsi, okIsi, vIsi, qIx, ixR, qSl, okSl, vSl, qIn, okIn, vIn, qNotIn, gLenSet, jList, jSrt, truD, isNonD, List.getElem?_cons_zero, List.getElem?_cons_succ, List.set_cons_zero, List.set_cons_succ, List.length_cons, List.length_nil, List.map_cons, List.map_nil, List.replicate, List.append_nil, List.nil_append, List.cons_append, Nat.reduceAdd, Nat.reduceSub, Nat.reduceLT, Nat.reduceLeDiff, Nat.zero_lt_succ, true_and, and_true, Bool.false_eq_true, if_true, if_false, Nat.zero_add, Nat.add_one_sub_one, Nat.sub_self, reduceIte, Nat.lt_add_left_iff_pos, eq_self, String.reduceBEq, Bool.not_true, Bool.not_false, Bool.or_self, Bool.or_false, Bool.or_true, Bool.true_or, Bool.false_or, Bool.and_true, Bool.true_and, Bool.and_false, Bool.false_and, ite_true, ite_false]
          refine ⟨hs', 40, 2, js.map jobD, _, rfl, rfl, by decide, by decide, by decide, okV_jobs (by omega), fun z ys d2 hz oz hs2 => ?_⟩
          have oy : okV 41 6 (.tuple ys) := by
            obtain ⟨k0, e0, a1, a2⟩ := okV_seq oz hz
            have e0' : k0 = 5 := by omega
            subst e0'
            exact ⟨a1, a2⟩
          have hz' : z = .list ys ∨ z = .tuple ys := by
            cases z <;> first | (left; cases hz; rfl) | (right; cases hz; rfl) | cases hz
          refine ⟨41, 6, z, rfl, by decide, by decide, oz, ?_⟩
          rcases hz' with rfl | rfl
          all_goals
            simp only [sSkip, sSeq, sIf, sRet, sRetN, sExpr, sAsg, sSetC, sFrz, sBrk, sCont, sRaise, sApp, sSetIx, sFor, sPar, putAll, pNil, pO, pF, startS, startM, oPur, oMut, oIni, own, ownR, use, uses, res, varR, bVar, bC, bOp, bUn, bCB, aNil, aCons, bAnd, bOr, bNot, bIf, bChain, tVal, tBl, wNot, wAnd, wOr, bTup, frz, fLst, oNil, oCons, bSl, oNone, oSome, bCall, fCall, bCallM, fComp, fCB, fRng, bTRng, gNm, gTp, setAll, iSeq, iRange, iEnum, iZip, seqOf, noCelB, wipeS, restore, qAdd, okAdd, vAdd, gSub, qMul, okMul, vMul, gDiv, gMod, gPow, gLt, gGt, gGe, qLe, okLe, vLe, gEq, gNe, qIs, okIs, vIs, qIsNot, gNeg, qLen, okLen, vLen, gAll, gAny, gSum, gMax, qMin, okMin, vMin, qInt, okInt, vInt, qBool, okBool, vBool, qTuple, seq1, qIsi, okIsi, vIsi, qIx, ixR, qSl, okSl, vSl, qIn, okIn, vIn, qNotIn, gLenSet, jList, jSrt, truD, isNonD, List.getElem?_cons_zero, List.getElem?_cons_succ, List.set_cons_zero, List.set_cons_succ, List.length_cons, List.length_nil, List.map_cons, List.map_nil, List.replicate, List.append_nil, List.nil_append, List.cons_append, Nat.reduceAdd, Nat.reduceSub, Nat.reduceLT, Nat.reduceLeDiff, Nat.zero_lt_succ, true_and, and_true, Bool.false_eq_true, if_true, if_false, Nat.zero_add, Nat.add_one_sub_one, Nat.sub_self, reduceIte, Nat.lt_add_left_iff_pos, eq_self, String.reduceBEq, Bool.not_true, Bool.not_false, Bool.or_self, Bool.or_false, Bool.or_true, Bool.true_or, Bool.false_or, Bool.and_true, Bool.true_and, Bool.and_false, Bool.false_and, ite_true, ite_false]
            refine ⟨hs2, 41, 6, ys, _, rfl, rfl, by decide, by decide, by decide, oy, fun w yw d3 hw ow hs3 => ?_⟩
            refine ⟨42, 10, w, rfl, by decide, by decide, ow, ?_⟩
            exact k _ ⟨d3, _, _, hs3, .inr ⟨_, rfl⟩, fun d hd => hv d (List.mem_cons_of_mem _ hd), rfl⟩
        · rintro ρ ⟨d', s5, s6, hs', h5, hv, rfl⟩
          exact k _ ⟨_, _, _, _, s5, s6, h5, fun d hd => hr0 d (List.mem_cons_of_mem _ hd), rfl⟩
        · unfold rangeD at hd
          obtain ⟨n, _, rfl⟩ := List.mem_map.mp hd
          exact ⟨n, rfl⟩
      · simp only [List.mem_cons] at hd
        rcases hd with rfl | rfl | rfl | hd
        · exact oj
        · exact ol
        · exact oz
        · exact ha d hd
  · rintro ρ ⟨s1, s2, s3, s4, s5, s6, h5, hr, rfl⟩
    simp only [sSkip, sSeq, sIf, sRet, sRetN, sExpr, sAsg, sSetC, sFrz, sBrk, sCont, sRaise, sApp, sSetIx, sFor, sPar, putAll, pNil, pO, pF, startS, startM, oPur, oMut, oIni, own, ownR, use, uses, res, varR, bVar, bC, bOp, bUn, bCB, aNil, aCons, bAnd, bOr, bNot, bIf, bChain, tVal, tBl, wNot, wAnd, wOr, bTup, frz, fLst, oNil, oCons, bSl, oNone, oSome, bCall, fCall, bCallM, fComp, fCB, fRng, bTRng, gNm, gTp, setAll, iSeq, iRange, iEnum, iZip, seqOf, noCelB, wipeS, restore, qAdd, okAdd, vAdd, gSub, qMul, okMul, vMul, gDiv, gMod, gPow, gLt, gGt, gGe, qLe, okLe, vLe, gEq, gNe, qIs, okIs, vIs, qIsNot, gNeg, qLen, okLen, vLen, gAll, gAny, gSum, gMax, qMin, okMin, vMin, qInt, okInt, vInt, qBool, okBool, vBool, qTuple, seq1, qIsi, okIsi, vIsi, qIx, ixR, qSl, okSl, vSl, qIn, okIn, vIn, qNotIn, gLenSet, jList, jSrt, truD, isNonD, List.getElem?_cons_zero, List.getElem?_cons_succ, List.set_cons_zero, List.set_cons_succ, List.length_cons, List.length_nil, List.map_cons, List.map_nil, List.replicate, List.append_nil, List.nil_append, List.cons_append, Nat.reduceAdd, Nat.reduceSub, Nat.reduceLT, Nat.reduceLeDiff, Nat.zero_lt_succ, true_and, and_true, Bool.false_eq_true, if_true, if_false, Nat.zero_add, Nat.add_one_sub_one, Nat.sub_self, reduceIte, Nat.lt_add_left_iff_pos, eq_self, String.reduceBEq, Bool.not_true, Bool.not_false, Bool.or_self, Bool.or_false, Bool.or_true, Bool.true_or, Bool.false_or, Bool.and_true, Bool.true_and, Bool.and_false, Bool.false_and, ite_true, ite_false]
    exact q
  · unfold rangeD at hd
    obtain ⟨n, hn, rfl⟩ := List.mem_map.mp hd
    exact ⟨n, by have := List.mem_range.mp hn; omega, rfl⟩
end DL
set_option Elab.async false
set_option linter.all false
set_option maxRecDepth 100000
set_option maxHeartbeats 4000000
namespace DL
open PySem PySem.Spec PyProof.Rows L2

/-! ### the written examples -/
def extO (h : List Nat) : List (List Nat) := ((List.range 3).filter fun n => !h.contains n).map fun n => h ++ [n]
def levO : Nat → List (List Nat)
  | 0 => [[]]
  | i + 1 => (levO i).flatMap extO
theorem inD_nat (n : Nat) : ∀ h : List Nat, inD (natD n) (h.map natD) = h.contains n
  | [] => rfl
  | m :: h => by
    have ih := inD_nat n h
    unfold inD at ih ⊢
    rw [List.map_cons, List.any_cons, ih, List.contains_cons]
    congr 1
    show PyData.eqv (.int (m : Int)) (.int (n : Int)) = (n == m)
    rw [eqv_len]
    exact Bool.eq_iff_iff.mpr (by simp only [beq_iff_eq]; exact eq_comm)
theorem extO_len (h : List Nat) : (extO h).length ≤ 3 := by
  unfold extO
  rw [List.length_map]
  exact Nat.le_trans (List.length_filter_le _ _) (by simp)
theorem flat_len : ∀ F : List (List Nat), (F.flatMap extO).length ≤ 3 * F.length
  | [] => by simp
  | h :: F => by
    have := extO_len h
    have ih := flat_len F
    simp only [List.flatMap_cons, List.length_append, List.length_cons]
    omega
theorem levO_all : ∀ i, i < 4 → (∀ h ∈ levO i, h.length ≤ 3) ∧ (levO i).length ≤ 6 := by decide +kernel
def sp__law_orders (X : ED) (ds : List D) (P : D → Prop) : Prop := ds = [.int 3] ∧ P (.list ((levO 3).map ordD))
def cx__law_orders : Ctx := { N := ["_law_many", "_law_found", "_law_turn", "_law_longer", "_law_head", "_law_number"], Γ := [], C := [], R := [], ms := [] }
def tr__law_orders : SW := (sSeq (sAsg (own (frz (fLst (oCons (own (bTup oNil)) oNil)))) (gNm 1))
  (sSeq (sFor (iRange (bVar 0)) (gNm 2)
  (sSeq (sAsg (own (frz (fLst oNil))) (gNm 3))
  (sSeq (sFor (iSeq (own (bVar 1))) (gNm 4)
  (sAsg (own (bOp qAdd (bVar 3) (frz (fComp (iRange (bVar 0)) (gNm 5) (tBl (bOp qNotIn (bVar 5) (bVar 4))) (own (bOp qAdd (bVar 4) (bTup (oCons (own (bVar 5)) oNil)))) [5])))) (gNm 3)))
  (sAsg (own (bVar 3)) (gNm 1)))))
  (sRet (own (bVar 1)))))


theorem ty__law_orders (X : ED) (ds : List D) (Q : D → Prop) (hl : ds.length = 1) (h : sp__law_orders X ds Q) : tr__law_orders X (startS cx__law_orders.N ds) (oPur Q) := by
  obtain ⟨rfl, q⟩ := h
  unfold tr__law_orders cx__law_orders
  simp only [sSkip, sSeq, sIf, sRet, sRetN, sExpr, sAsg, sSetC, sFrz, sBrk, sCont, sRaise, sApp, sSetIx, sFor, sPar, putAll, pNil, pO, pF, startS, startM, oPur, oMut, oIni, own, ownR, use, uses, res, varR, bVar, bC, bOp, bUn, bCB, aNil, aCons, bAnd, bOr, bNot, bIf, bChain, tVal, tBl, wNot, wAnd, wOr, bTup, frz, fLst, oNil, oCons, bSl, oNone, oSome, bCall, fCall, bCallM, fComp, fCB, fRng, bTRng, gNm, gTp, setAll, iSeq, iRange, iEnum, iZip, seqOf, noCelB, wipeS, restore, qAdd, okAdd, vAdd, gSub, qMul, okMul, vMul, gDiv, gMod, gPow, gLt, gGt, gGe, qLe, okLe, vLe, gEq, gNe, qIs, okIs, vIs, qIsNot, gNeg, qLen, okLen, vLen, gAll, gAny, gSum, gMax, qMin, okMin, vMin, qInt, okInt, vInt, qBool, okBool, vBool, qTuple, seq1, qIsi, okIsi, vIsi, qIx, ixR, qSl, okSl, vSl, qIn, okIn, vIn, qNotIn, gLenSet, jList, jSrt, truD, isNonD, List.getElem?_cons_zero, List.getElem?_cons_succ, List.set_cons_zero, List.set_cons_succ, List.length_cons, List.length_nil, List.map_cons, List.map_nil, List.replicate, List.append_nil, List.nil_append, List.cons_append, Nat.reduceAdd, Nat.reduceSub, Nat.reduceLT, Nat.reduceLeDiff, Nat.zero_lt_succ, true_and, and_true, Bool.false_eq_true, if_true, if_false, Nat.zero_add, Nat.add_one_sub_one, Nat.sub_self, reduceIte, Nat.lt_add_left_iff_pos, eq_self, String.reduceBEq, Bool.not_true, Bool.not_false, Bool.or_self, Bool.or_false, Bool.or_true, Bool.true_or, Bool.false_or, Bool.and_true, Bool.true_and, Bool.and_false, Bool.false_and, ite_true, ite_false]
  refine ⟨by decide, by decide, ?_⟩
  refine for_inv (fun r ρ => ∃ (i : Nat) (s2 s3 s4 : SV), r.length + i = 3 ∧ ρ = [.dat (.int 3), .dat (.list ((levO i).map ordD)), s2, s3, s4, .un]) ?_ ?_ _ _ ⟨0, .un, .un, .un, rfl, rfl⟩
  · rintro d r ρ C ⟨i, s2, s3, s4, hi, rfl⟩ k
    simp only [sSkip, sSeq, sIf, sRet, sRetN, sExpr, sAsg, sSetC, sFrz, sBrk, sCont, sRaise, sApp, sSetIx, sFor, sPar, putAll, pNil, pO, pF, startS, startM, oPur, oMut, oIni, own, ownR, use, uses, res, varR, bVar, bC, bOp, bUn, bCB, aNil, aCons, bAnd, bOr, bNot, bIf, bChain, tVal, tBl, wNot, wAnd, wOr, bTup, frz, fLst, oNil, oCons, bSl, oNone, oSome, bCall, fCall, bCallM, fComp, fCB, fRng, bTRng, gNm, gTp, setAll, iSeq, iRange, iEnum, iZip, seqOf, noCelB, wipeS, restore, qAdd, okAdd, vAdd, gSub, qMul, okMul, vMul, gDiv, gMod, gPow, gLt, gGt, gGe, qLe, okLe, vLe, gEq, gNe, qIs, okIs, vIs, qIsNot, gNeg, qLen, okLen, vLen, gAll, gAny, gSum, gMax, qMin, okMin, vMin, qInt, okInt, vInt, qBool, okBool, vBool, qTuple, seq1, qIsi, okIsi, vIsi, qIx, ixR, qSl, okSl, vSl, qIn, okIn, vIn, qNotIn, gLenSet, jList, jSrt, truD, isNonD, List.getElem?_cons_zero, List.getElem?_cons_succ, List.set_cons_zero, List.set_cons_succ, List.length_cons, List.length_nil, List.map_cons, List.map_nil, List.replicate, List.append_nil, List.nil_append, List.cons_append, Nat.reduceAdd, Nat.reduceSub, Nat.reduceLT, Nat.reduceLeDiff, Nat.zero_lt_succ, true_and, and_true, Bool.false_eq_true, if_true, if_false, Nat.zero_add, Nat.add_one_sub_one, Nat.sub_self, reduceIte, Nat.lt_add_left_iff_pos, eq_self, String.reduceBEq, Bool.not_true, Bool.not_false, Bool.or_self, Bool.or_false, Bool.or_true, Bool.true_or, Bool.false_or, Bool.and_true, Bool.true_and, Bool.and_false, Bool.false_and, ite_true, ite_false]
    refine for_inv (fun r ρ => ∃ (R F : List (List Nat)) (s4 : SV), r = R.map ordD ∧ F ++ R = levO i ∧ ρ = [.dat (.int 3), .dat (.list ((levO i).map ordD)), .dat d, .dat (.list ((F.flatMap extO).map ordD)), s4, .un]) ?_ ?_ _ _ ⟨levO i, [], s4, rfl, rfl, rfl⟩
    · rintro e r ρ C ⟨R, F, s4, hr, hR, rfl⟩ k
      cases R with
      | nil => cases hr
      | cons h R =>
        obtain ⟨rfl, rfl⟩ : e = ordD h ∧ r = R.map ordD := by simpa using hr
        simp only [sSkip, sSeq, sIf, sRet, sRetN, sExpr, sAsg, sSetC, sFrz, sBrk, sCont, sRaise, sApp, sSetIx, sFor, sPar, putAll, pNil, pO, pF, startS, startM, oPur, oMut, oIni, own, ownR, use, uses, res, varR, bVar, bC, bOp, bUn, bCB, aNil, aCons, bAnd, bOr, bNot, bIf, bChain, tVal, tBl, wNot, wAnd, wOr, bTup, frz, fLst, oNil, oCons, bSl, oNone, oSome, bCall, fCall, bCallM, fComp, fCB, fRng, bTRng, gNm, gTp, setAll, iSeq, iRange, iEnum, iZip, seqOf, noCelB, wipeS, restore, qAdd, okAdd, vAdd, gSub, qMul, okMul, vMul, gDiv, gMod, gPow, gLt, gGt, gGe, qLe, okLe, vLe, gEq, gNe, qIs, okIs, vIs, qIsNot, gNeg, qLen, okLen, vLen, gAll, gAny, gSum, gMax, qMin, okMin, vMin, qInt, okInt, vInt, qBool, okBool, vBool, qTuple, seq1, qIsi, okIsi, vIsi, qIx, ixR, qSl, okSl, vSl, qIn, okIn, vIn, qNotIn, gLenSet, jList, jSrt, truD, isNonD, List.getElem?_cons_zero, List.getElem?_cons_succ, List.set_cons_zero, List.set_cons_succ, List.length_cons, List.length_nil, List.map_cons, List.map_nil, List.replicate, List.append_nil, List.nil_append, List.cons_append, Nat.reduceAdd, Nat.reduceSub, Nat.reduceLT, Nat.reduceLeDiff, Nat.zero_lt_succ, true_and, and_true, Bool.false_eq_true, if_true, if_false, Nat.zero_add, Nat.add_one_sub_one, Nat.sub_self, reduceIte, Nat.lt_add_left_iff_pos, eq_self, String.reduceBEq, Bool.not_true, Bool.not_false, Bool.or_self, Bool.or_false, Bool.or_true, Bool.true_or, Bool.false_or, Bool.and_true, Bool.true_and, Bool.and_false, Bool.false_and, ite_true, ite_false]
        have hi3 : i < 4 := by simp at hi; omega
        have hl3 := (levO_all i hi3).1 h (by rw [← hR]; simp)
        have fl := flat_len F
        have fl2 : F.length + (R.length + 1) ≤ 6 := by have := (levO_all i hi3).2; rw [← hR] at this; simpa using this
        refine ⟨by decide, by decide, by decide, comp_filtL natD (fun n => ordD (h ++ [n])) (fun n => !h.contains n) (List.range 3) (fun n hn C C' hC hC' => ?_) ?_⟩
        · simp only [ordD, inD_nat, sSkip, sSeq, sIf, sRet, sRetN, sExpr, sAsg, sSetC, sFrz, sBrk, sCont, sRaise, sApp, sSetIx, sFor, sPar, putAll, pNil, pO, pF, startS, startM, oPur, oMut, oIni, own, ownR, use, uses, res, varR, bVar, bC, bOp, bUn, bCB, aNil, aCons, bAnd, bOr, bNot, bIf, bChain, tVal, tBl, wNot, wAnd, wOr, bTup, frz, fLst, oNil, oCons, bSl, oNone, oSome, bCall, fCall, bCallM, fComp, fCB, fRng, bTRng, gNm, gTp, setAll, iSeq, iRange, iEnum, iZip, seqOf, noCelB, wipeS, restore, qAdd, okAdd, vAdd, gSub, qMul, okMul, vMul, gDiv, gMod, gPow, gLt, gGt, gGe, qLe, okLe, vLe, gEq, gNe, qIs, okIs, vIs, qIsNot, gNeg, qLen, okLen, vLen, gAll, gAny, gSum, gMax, qMin, okMin, vMin, qInt, okInt, vInt, qBool, okBool, vBool, qTuple, seq1, qIsi, okIsi, vIsi, qIx, ixR, qSl, okSl, vSl, qIn, okIn, vIn, qNotIn, gLenSet, jList, jSrt, truD, isNonD, List.getElem?_cons_zero, List.getElem?_cons_succ, List.set_cons_zero, List.set_cons_succ, List.length_cons, List.length_nil, List.map_cons, List.map_nil, List.replicate, List.append_nil, List.nil_append, List.cons_append, Nat.reduceAdd, Nat.reduceSub, Nat.reduceLT, Nat.reduceLeDiff, Nat.zero_lt_succ, true_and, and_true, Bool.false_eq_true, if_true, if_false, Nat.zero_add, Nat.add_one_sub_one, Nat.sub_self, reduceIte, Nat.lt_add_left_iff_pos, eq_self, String.reduceBEq, Bool.not_true, Bool.not_false, Bool.or_self, Bool.or_false, Bool.or_true, Bool.true_or, Bool.false_or, Bool.and_true, Bool.true_and, Bool.and_false, Bool.false_and, ite_true, ite_false]
          refine ⟨⟨shp_int, shp_ordD⟩, ?_⟩
          cases hc : h.contains n with
          | false =>
            simp only [sSkip, sSeq, sIf, sRet, sRetN, sExpr, sAsg, sSetC, sFrz, sBrk, sCont, sRaise, sApp, sSetIx, sFor, sPar, putAll, pNil, pO, pF, startS, startM, oPur, oMut, oIni, own, ownR, use, uses, res, varR, bVar, bC, bOp, bUn, bCB, aNil, aCons, bAnd, bOr, bNot, bIf, bChain, tVal, tBl, wNot, wAnd, wOr, bTup, frz, fLst, oNil, oCons, bSl, oNone, oSome, bCall, fCall, bCallM, fComp, fCB, fRng, bTRng, gNm, gTp, setAll, iSeq, iRange, iEnum, iZip, seqOf, noCelB, wipeS, restore, qAdd, okAdd, vAdd, gSub, qMul, okMul, vMul, gDiv, gMod, gPow, gLt, gGt, gGe, qLe, okLe, vLe, gEq, gNe, qIs, okIs, vIs, qIsNot, gNeg, qLen, okLen, vLen, gAll, gAny, gSum, gMax, qMin, okMin, vMin, qInt, okInt, vInt, qBool, okBool, vBool, qTuple, seq1, qIsi, okIsi, vIsi, qIx, ixR, qSl, okSl, vSl, qIn, okIn, vIn, qNotIn, gLenSet, jList, jSrt, truD, isNonD, List.getElem?_cons_zero, List.getElem?_cons_succ, List.set_cons_zero, List.set_cons_succ, List.length_cons, List.length_nil, List.map_cons, List.map_nil, List.replicate, List.append_nil, List.nil_append, List.cons_append, Nat.reduceAdd, Nat.reduceSub, Nat.reduceLT, Nat.reduceLeDiff, Nat.zero_lt_succ, true_and, and_true, Bool.false_eq_true, if_true, if_false, Nat.zero_add, Nat.add_one_sub_one, Nat.sub_self, reduceIte, Nat.lt_add_left_iff_pos, eq_self, String.reduceBEq, Bool.not_true, Bool.not_false, Bool.or_self, Bool.or_false, Bool.or_true, Bool.true_or, Bool.false_or, Bool.and_true, Bool.true_and, Bool.and_false, Bool.false_and, ite_true, ite_false]
            refine ⟨by rw [List.length_map]; omega, ?_⟩
            have := hC (by rw [hc]; rfl)
            simpa [ordD] using this
          | true =>
            simp only [sSkip, sSeq, sIf, sRet, sRetN, sExpr, sAsg, sSetC, sFrz, sBrk, sCont, sRaise, sApp, sSetIx, sFor, sPar, putAll, pNil, pO, pF, startS, startM, oPur, oMut, oIni, own, ownR, use, uses, res, varR, bVar, bC, bOp, bUn, bCB, aNil, aCons, bAnd, bOr, bNot, bIf, bChain, tVal, tBl, wNot, wAnd, wOr, bTup, frz, fLst, oNil, oCons, bSl, oNone, oSome, bCall, fCall, bCallM, fComp, fCB, fRng, bTRng, gNm, gTp, setAll, iSeq, iRange, iEnum, iZip, seqOf, noCelB, wipeS, restore, qAdd, okAdd, vAdd, gSub, qMul, okMul, vMul, gDiv, gMod, gPow, gLt, gGt, gGe, qLe, okLe, vLe, gEq, gNe, qIs, okIs, vIs, qIsNot, gNeg, qLen, okLen, vLen, gAll, gAny, gSum, gMax, qMin, okMin, vMin, qInt, okInt, vInt, qBool, okBool, vBool, qTuple, seq1, qIsi, okIsi, vIsi, qIx, ixR, qSl, okSl, vSl, qIn, okIn, vIn, qNotIn, gLenSet, jList, jSrt, truD, isNonD, List.getElem?_cons_zero, List.getElem?_cons_succ, List.set_cons_zero, List.set_cons_succ, List.length_cons, List.length_nil, List.map_cons, List.map_nil, List.replicate, List.append_nil, List.nil_append, List.cons_append, Nat.reduceAdd, Nat.reduceSub, Nat.reduceLT, Nat.reduceLeDiff, Nat.zero_lt_succ, true_and, and_true, Bool.false_eq_true, if_true, if_false, Nat.zero_add, Nat.add_one_sub_one, Nat.sub_self, reduceIte, Nat.lt_add_left_iff_pos, eq_self, String.reduceBEq, Bool.not_true, Bool.not_false, Bool.or_self, Bool.or_false, Bool.or_true, Bool.true_or, Bool.false_or, Bool.and_true, Bool.true_and, Bool.and_false, Bool.false_and, ite_true, ite_false]
            exact hC' (by rw [hc]; rfl)
        · simp only [sSkip, sSeq, sIf, sRet, sRetN, sExpr, sAsg, sSetC, sFrz, sBrk, sCont, sRaise, sApp, sSetIx, sFor, sPar, putAll, pNil, pO, pF, startS, startM, oPur, oMut, oIni, own, ownR, use, uses, res, varR, bVar, bC, bOp, bUn, bCB, aNil, aCons, bAnd, bOr, bNot, bIf, bChain, tVal, tBl, wNot, wAnd, wOr, bTup, frz, fLst, oNil, oCons, bSl, oNone, oSome, bCall, fCall, bCallM, fComp, fCB, fRng, bTRng, gNm, gTp, setAll, iSeq, iRange, iEnum, iZip, seqOf, noCelB, wipeS, restore, qAdd, okAdd, vAdd, gSub, qMul, okMul, vMul, gDiv, gMod, gPow, gLt, gGt, gGe, qLe, okLe, vLe, gEq, gNe, qIs, okIs, vIs, qIsNot, gNeg, qLen, okLen, vLen, gAll, gAny, gSum, gMax, qMin, okMin, vMin, qInt, okInt, vInt, qBool, okBool, vBool, qTuple, seq1, qIsi, okIsi, vIsi, qIx, ixR, qSl, okSl, vSl, qIn, okIn, vIn, qNotIn, gLenSet, jList, jSrt, truD, isNonD, List.getElem?_cons_zero, List.getElem?_cons_succ, List.set_cons_zero, List.set_cons_succ, List.length_cons, List.length_nil, List.map_cons, List.map_nil, List.replicate, List.append_nil, List.nil_append, List.cons_append, Nat.reduceAdd, Nat.reduceSub, Nat.reduceLT, Nat.reduceLeDiff, Nat.zero_lt_succ, true_and, and_true, Bool.false_eq_true, if_true, if_false, Nat.zero_add, Nat.add_one_sub_one, Nat.sub_self, reduceIte, Nat.lt_add_left_iff_pos, eq_self, String.reduceBEq, Bool.not_true, Bool.not_false, Bool.or_self, Bool.or_false, Bool.or_true, Bool.true_or, Bool.false_or, Bool.and_true, Bool.true_and, Bool.and_false, Bool.false_and, ite_true, ite_false]
          have el := extO_len h
          have ee : ((List.range 3).filter fun n => !h.contains n).map (fun n => ordD (h ++ [n])) = (extO h).map ordD := by unfold extO; rw [List.map_map]; rfl
          rw [ee]
          refine ⟨by simp only [List.length_map]; omega, k _ ⟨R, F ++ [h], .dat (ordD h), rfl, by rw [List.append_assoc]; exact hR, ?_⟩⟩
          simp
    · rintro ρ ⟨R, F, s4, hr, hR, rfl⟩
      have eR : R = [] := by cases R with | nil => rfl | cons _ _ => cases hr
      subst eR
      rw [List.append_nil] at hR
      subst hR
      simp only [sSkip, sSeq, sIf, sRet, sRetN, sExpr, sAsg, sSetC, sFrz, sBrk, sCont, sRaise, sApp, sSetIx, sFor, sPar, putAll, pNil, pO, pF, startS, startM, oPur, oMut, oIni, own, ownR, use, uses, res, varR, bVar, bC, bOp, bUn, bCB, aNil, aCons, bAnd, bOr, bNot, bIf, bChain, tVal, tBl, wNot, wAnd, wOr, bTup, frz, fLst, oNil, oCons, bSl, oNone, oSome, bCall, fCall, bCallM, fComp, fCB, fRng, bTRng, gNm, gTp, setAll, iSeq, iRange, iEnum, iZip, seqOf, noCelB, wipeS, restore, qAdd, okAdd, vAdd, gSub, qMul, okMul, vMul, gDiv, gMod, gPow, gLt, gGt, gGe, qLe, okLe, vLe, gEq, gNe, qIs, okIs, vIs, qIsNot, gNeg, qLen, okLen, vLen, gAll, gAny, gSum, gMax, qMin, okMin, vMin, qInt, okInt, vInt, qBool, okBool, vBool, qTuple, seq1, qIsi, okIsi, vIsi, qIx, ixR, qSl, okSl, vSl, qIn, okIn, vIn, qNotIn, gLenSet, jList, jSrt, truD, isNonD, List.getElem?_cons_zero, List.getElem?_cons_succ, List.set_cons_zero, List.set_cons_succ, List.length_cons, List.length_nil, List.map_cons, List.map_nil, List.replicate, List.append_nil, List.nil_append, List.cons_append, Nat.reduceAdd, Nat.reduceSub, Nat.reduceLT, Nat.reduceLeDiff, Nat.zero_lt_succ, true_and, and_true, Bool.false_eq_true, if_true, if_false, Nat.zero_add, Nat.add_one_sub_one, Nat.sub_self, reduceIte, Nat.lt_add_left_iff_pos, eq_self, String.reduceBEq, Bool.not_true, Bool.not_false, Bool.or_self, Bool.or_false, Bool.or_true, Bool.true_or, Bool.false_or, Bool.and_true, Bool.true_and, Bool.and_false, Bool.false_and, ite_true, ite_false]
      exact k _ ⟨i + 1, _, _, _, by simp at hi; omega, rfl⟩
  · rintro ρ ⟨i, s2, s3, s4, hi, rfl⟩
    have : i = 3 := by simpa using hi
    subst this
    simp only [sSkip, sSeq, sIf, sRet, sRetN, sExpr, sAsg, sSetC, sFrz, sBrk, sCont, sRaise, sApp, sSetIx, sFor, sPar, putAll, pNil, pO, pF, startS, startM, oPur, oMut, oIni, own, ownR, use, uses, res, varR, bVar, bC, bOp, bUn, bCB, aNil, aCons, bAnd, bOr, bNot, bIf, bChain, tVal, tBl, wNot, wAnd, wOr, bTup, frz, fLst, oNil, oCons, bSl, oNone, oSome, bCall, fCall, bCallM, fComp, fCB, fRng, bTRng, gNm, gTp, setAll, iSeq, iRange, iEnum, iZip, seqOf, noCelB, wipeS, restore, qAdd, okAdd, vAdd, gSub, qMul, okMul, vMul, gDiv, gMod, gPow, gLt, gGt, gGe, qLe, okLe, vLe, gEq, gNe, qIs, okIs, vIs, qIsNot, gNeg, qLen, okLen, vLen, gAll, gAny, gSum, gMax, qMin, okMin, vMin, qInt, okInt, vInt, qBool, okBool, vBool, qTuple, seq1, qIsi, okIsi, vIsi, qIx, ixR, qSl, okSl, vSl, qIn, okIn, vIn, qNotIn, gLenSet, jList, jSrt, truD, isNonD, List.getElem?_cons_zero, List.getElem?_cons_succ, List.set_cons_zero, List.set_cons_succ, List.length_cons, List.length_nil, List.map_cons, List.map_nil, List.replicate, List.append_nil, List.nil_append, List.cons_append, Nat.reduceAdd, Nat.reduceSub, Nat.reduceLT, Nat.reduceLeDiff, Nat.zero_lt_succ, true_and, and_true, Bool.false_eq_true, if_true, if_false, Nat.zero_add, Nat.add_one_sub_one, Nat.sub_self, reduceIte, Nat.lt_add_left_iff_pos, eq_self, String.reduceBEq, Bool.not_true, Bool.not_false, Bool.or_self, Bool.or_false, Bool.or_true, Bool.true_or, Bool.false_or, Bool.and_true, Bool.true_and, Bool.and_false, Bool.false_and, ite_true, ite_false]
    exact q
end DL
set_option Elab.async false
set_option linter.all false
set_option maxRecDepth 100000
set_option maxHeartbeats 4000000
namespace DL
open PySem PySem.Spec PyProof.Rows L2

/-! ### the written examples -/
def cx__law_written : Ctx := { N := ["_law_one", "_law_three", "_law_four", "_law_good", "_law_bad", "_law_value", "_law_order_so"], Γ := [("_law_orders", .pur 1 sp__law_orders), ("gaps", .pur 2 sp_gaps), ("is_jobs", .pur 1 sp_is_jobs), ("is_order", .pur 2 sp_is_order), ("starts", .pur 2 sp_starts), ("whole_time", .pur 2 sp_whole_time)], C := [], R := [], ms := [] }
def tr__law_written : SW := (sSeq (sAsg (own (bTup (oCons (own (bTup (oCons (own (bTup (oCons (own (bC (.int 3))) (oCons (own (bC (.int 5))) oNil)))) (oCons (own (bTup (oCons (own (bC (.int 6))) (oCons (own (bC (.int 2))) oNil)))) (oCons (own (bTup (oCons (own (bC (.int 4))) (oCons (own (bC (.int 4))) oNil)))) oNil))))) (oCons (own (bTup (oCons (own (bTup (oCons (own (bC (.int 2))) (oCons (own (bC (.int 2))) oNil)))) oNil))) (oCons (own (bTup (oCons (own (bTup (oCons (own (bC (.int 0))) (oCons (own (bC (.int 7))) oNil)))) (oCons (own (bTup (oCons (own (bC (.int 7))) (oCons (own (bC (.int 0))) oNil)))) oNil)))) oNil))))) (gTp [0, 1, 2]))
  (sSeq (sAsg (own (frz (fLst (oCons (own (bVar 0)) (oCons (own (bVar 1)) (oCons (own (bVar 2)) (oCons (own (bOp qMul (bTup (oCons (own (bTup (oCons (own (bC (.int 0))) (oCons (own (bC (.int 0))) oNil)))) oNil)) (bC (.int 30)))) (oCons (own (bTup (oCons (own (bTup (oCons (own (bOp gPow (bC (.int 10)) (bC (.int 12)))) (oCons (own (bOp gPow (bC (.int 10)) (bC (.int 12)))) oNil)))) oNil))) oNil)))))))) (gNm 3))
  (sSeq (sAsg (own (frz (fLst (oCons (own (bTup oNil)) (oCons (own (bTup (oCons (own (bTup (oCons (own (bC (.int 1))) (oCons (own (bC (.int 2))) (oCons (own (bC (.int 3))) oNil))))) oNil))) (oCons (own (bTup (oCons (own (bTup (oCons (own (bUn gNeg (bC (.int 1)))) (oCons (own (bC (.int 0))) oNil)))) oNil))) (oCons (own (bTup (oCons (own (bTup (oCons (own (bC (.int 0))) (oCons (own (bOp qAdd (bOp gPow (bC (.int 10)) (bC (.int 12))) (bC (.int 1)))) oNil)))) oNil))) (oCons (own (bOp qMul (bTup (oCons (own (bTup (oCons (own (bC (.int 0))) (oCons (own (bC (.int 0))) oNil)))) oNil)) (bC (.int 31)))) oNil)))))))) (gNm 4))
  (sSeq (sAsg (own (bOp qAdd (bVar 4) (frz (fLst (oCons (own (bTup (oCons (own (bTup (oCons (own (bC (.bool true))) (oCons (own (bC (.int 1))) oNil)))) oNil))) (oCons (own (frz (fLst (oCons (own (bTup (oCons (own (bC (.int 1))) (oCons (own (bC (.int 2))) oNil)))) oNil)))) (oCons (own (bTup (oCons (own (bC (.int 1))) (oCons (own (bC (.int 2))) oNil)))) (oCons (own (bTup (oCons (own (bTup (oCons (own (bC (.int 1))) oNil))) oNil))) (oCons (own (bC .none)) oNil))))))))) (gNm 4))
  (sSeq (sIf (tBl (bOp gNe (frz (fComp (iSeq (own (bVar 3))) (gNm 5) (tBl (bOp qIsNot (bCall sp_is_jobs 1 (oCons (own (bVar 5)) oNil)) (bC (.bool true)))) (own (bVar 5)) [5])) (frz (fLst oNil))))
  (sRet (own (bC (.bool false))))
  sSkip)
  (sSeq (sIf (tBl (bOp gNe (frz (fComp (iSeq (own (bVar 4))) (gNm 5) (tVal (bCall sp_is_jobs 1 (oCons (own (bVar 5)) oNil))) (own (bVar 5)) [5])) (frz (fLst oNil))))
  (sRet (own (bC (.bool false))))
  sSkip)
  (sSeq (sIf (wOr (tBl (bOp qIsNot (bCall sp_is_order 2 (oCons (own (bVar 0)) (oCons (own (bTup (oCons (own (bC (.int 2))) (oCons (own (bC (.int 0))) (oCons (own (bC (.int 1))) oNil))))) oNil))) (bC (.bool true)))) (wOr (tVal (bCall sp_is_order 2 (oCons (own (bVar 0)) (oCons (own (bTup (oCons (own (bC (.int 0))) (oCons (own (bC (.int 1))) oNil)))) oNil)))) (tVal (bCall sp_is_order 2 (oCons (own (bVar 0)) (oCons (own (bTup (oCons (own (bC (.int 0))) (oCons (own (bC (.int 1))) (oCons (own (bC (.int 1))) oNil))))) oNil))))))
  (sRet (own (bC (.bool false))))
  sSkip)
  (sSeq (sIf (tVal (bCall sp_is_order 2 (oCons (own (bVar 0)) (oCons (own (bTup (oCons (own (bC (.int 0))) (oCons (own (bC (.int 1))) (oCons (own (bC (.int 3))) oNil))))) oNil))))
  (sRet (own (bC (.bool false))))
  sSkip)
  (sSeq (sIf (wOr (tVal (bCall sp_is_order 2 (oCons (own (bVar 0)) (oCons (own (bTup (oCons (own (bC (.bool false))) (oCons (own (bC (.int 1))) (oCons (own (bC (.int 2))) oNil))))) oNil)))) (tVal (bCall sp_is_order 2 (oCons (own (bVar 0)) (oCons (own (frz (fLst (oCons (own (bC (.int 0))) (oCons (own (bC (.int 1))) (oCons (own (bC (.int 2))) oNil)))))) oNil)))))
  (sRet (own (bC (.bool false))))
  sSkip)
  (sSeq (sIf (wOr (tBl (bOp gNe (bCall sp_starts 2 (oCons (own (bVar 0)) (oCons (own (bTup (oCons (own (bC (.int 2))) (oCons (own (bC (.int 0))) (oCons (own (bC (.int 1))) oNil))))) oNil))) (frz (fLst (oCons (own (bC (.int 0))) (oCons (own (bC (.int 5))) (oCons (own (bC (.int 8))) oNil))))))) (tBl (bOp gNe (bCall sp_gaps 2 (oCons (own (bVar 0)) (oCons (own (bTup (oCons (own (bC (.int 2))) (oCons (own (bC (.int 0))) (oCons (own (bC (.int 1))) oNil))))) oNil))) (frz (fLst (oCons (own (bC (.int 1))) (oCons (own (bC (.int 0))) oNil)))))))
  (sRet (own (bC (.bool false))))
  sSkip)
  (sSeq (sIf (tBl (bOp gNe (frz (fComp (iSeq (own (bCall sp__law_orders 1 (oCons (own (bC (.int 3))) oNil)))) (gNm 6) (fun _ ρ P => P true ρ) (own (bCall sp_whole_time 2 (oCons (own (bVar 0)) (oCons (own (bVar 6)) oNil)))) [6])) (frz (fLst (oCons (own (bC (.int 17))) (oCons (own (bC (.int 16))) (oCons (own (bC (.int 18))) (oCons (own (bC (.int 19))) (oCons (own (bC (.int 16))) (oCons (own (bC (.int 18))) oNil))))))))))
  (sRet (own (bC (.bool false))))
  sSkip)
  (sSeq (sIf (tBl (bOp gNe (frz (fLst (oCons (own (bCall sp_whole_time 2 (oCons (own (bVar 1)) (oCons (own (bTup (oCons (own (bC (.int 0))) oNil))) oNil)))) (oCons (own (bCall sp_whole_time 2 (oCons (own (bVar 2)) (oCons (own (bTup (oCons (own (bC (.int 1))) (oCons (own (bC (.int 0))) oNil)))) oNil)))) (oCons (own (bCall sp_whole_time 2 (oCons (own (bVar 2)) (oCons (own (bTup (oCons (own (bC (.int 0))) (oCons (own (bC (.int 1))) oNil)))) oNil)))) oNil))))) (frz (fLst (oCons (own (bC (.int 4))) (oCons (own (bC (.int 14))) (oCons (own (bC (.int 7))) oNil)))))))
  (sRet (own (bC (.bool false))))
  sSkip)
  (sRet (own (bOp gEq (bCall sp_gaps 2 (oCons (own (bVar 1)) (oCons (own (bTup (oCons (own (bC (.int 0))) oNil))) oNil))) (frz (fLst oNil)))))))))))))))))


def goodL : List D := [.tuple [.tuple [.int 3, .int 5], .tuple [.int 6, .int 2], .tuple [.int 4, .int 4]], .tuple [.tuple [.int 2, .int 2]], .tuple [.tuple [.int 0, .int 7], .tuple [.int 7, .int 0]],
  .tuple (List.replicate (Int.toNat 30) [PyData.tuple [PyData.int 0, PyData.int 0]]).flatten, .tuple [.tuple [.int (10 ^ Int.toNat 12), .int (10 ^ Int.toNat 12)]]]
def badL : List D := [.tuple [], .tuple [.tuple [.int 1, .int 2, .int 3]], .tuple [.tuple [.int (-1), .int 0]], .tuple [.tuple [.int 0, .int (10 ^ Int.toNat 12 + 1)]],
  .tuple (List.replicate (Int.toNat 31) [PyData.tuple [PyData.int 0, PyData.int 0]]).flatten, .tuple [.tuple [.bool true, .int 1]], .list [.tuple [.int 1, .int 2]], .tuple [.int 1, .int 2], .tuple [.tuple [.int 1]], .none]
theorem goodL_ok : ∀ d ∈ goodL, shp d = true ∧ areJobsB d = true := by decide +kernel
theorem badL_ok : ∀ d ∈ badL, shp d = true ∧ areJobsB d = false := by decide +kernel
theorem ite_no {c : Prop} [Decidable c] {A B : Prop} (h : ¬ c) (b : B) : if c then A else B := by rw [if_neg h]; exact b
theorem bool_q {Q : D → Prop} {b : Bool} (h : b = true) (q : Q (.bool true)) : Q (.bool b) := by rw [h]; exact q
theorem ord_use {X : ED} {w v : D} {P : D → Prop} (b : Bool) (hw : (shp w && shp v && areJobsB w && (ordB (lenD w) v == b)) = true) (h : P (.bool b)) : sp_is_order X [w, v] P := by
  simp only [Bool.and_eq_true, beq_iff_eq] at hw
  obtain ⟨⟨⟨h1, h2⟩, h3⟩, h4⟩ := hw
  unfold sp_is_order
  refine ⟨h1, h2, ?_⟩
  rw [if_pos h3, h4]
  exact h
theorem spJO_use {f : JL → List Nat → D} {X : ED} {w v : D} {P : D → Prop} (hw : (shp w && shp v && areJobsB w && ordB (lenD w) v) = true) (h : P (f (jobsOf w) (ordOf v))) : spJO f X [w, v] P := by
  simp only [Bool.and_eq_true] at hw
  obtain ⟨⟨⟨h1, h2⟩, h3⟩, h4⟩ := hw
  unfold spJO
  refine ⟨h1, h2, ?_⟩
  rw [if_pos h3, if_pos h4]
  exact h
theorem ty__law_written (X : ED) (ds : List D) (Q : D → Prop) (hl : ds.length = 0) (h : sp__law_written X ds Q) : tr__law_written X (startS cx__law_written.N ds) (oPur Q) := by
  obtain ⟨rfl, q⟩ := h
  unfold tr__law_written cx__law_written
  simp only [sSkip, sSeq, sIf, sRet, sRetN, sExpr, sAsg, sSetC, sFrz, sBrk, sCont, sRaise, sApp, sSetIx, sFor, sPar, putAll, pNil, pO, pF, startS, startM, oPur, oMut, oIni, own, ownR, use, uses, res, varR, bVar, bC, bOp, bUn, bCB, aNil, aCons, bAnd, bOr, bNot, bIf, bChain, tVal, tBl, wNot, wAnd, wOr, bTup, frz, fLst, oNil, oCons, bSl, oNone, oSome, bCall, fCall, bCallM, fComp, fCB, fRng, bTRng, gNm, gTp, setAll, iSeq, iRange, iEnum, iZip, seqOf, noCelB, wipeS, restore, qAdd, okAdd, vAdd, gSub, qMul, okMul, vMul, gDiv, gMod, gPow, gLt, gGt, gGe, qLe, okLe, vLe, gEq, gNe, qIs, okIs, vIs, qIsNot, gNeg, qLen, okLen, vLen, gAll, gAny, gSum, gMax, qMin, okMin, vMin, qInt, okInt, vInt, qBool, okBool, vBool, qTuple, seq1, qIsi, okIsi, vIsi, qIx, ixR, qSl, okSl, vSl, qIn, okIn, vIn, qNotIn, gLenSet, jList, jSrt, truD, isNonD, List.getElem?_cons_zero, List.getElem?_cons_succ, List.set_cons_zero, List.set_cons_succ, List.length_cons, List.length_nil, List.map_cons, List.map_nil, List.replicate, List.append_nil, List.nil_append, List.cons_append, Nat.reduceAdd, Nat.reduceSub, Nat.reduceLT, Nat.reduceLeDiff, Nat.zero_lt_succ, true_and, and_true, Bool.false_eq_true, if_true, if_false, Nat.zero_add, Nat.add_one_sub_one, Nat.sub_self, reduceIte, Nat.lt_add_left_iff_pos, eq_self, String.reduceBEq, Bool.not_true, Bool.not_false, Bool.or_self, Bool.or_false, Bool.or_true, Bool.true_or, Bool.false_or, Bool.and_true, Bool.true_and, Bool.and_false, Bool.false_and, ite_true, ite_false]
  refine ⟨⟨by simp, by decide, by decide⟩, cp12, cp12, cp12, ⟨by simp, by decide, by decide⟩, ?_⟩
  refine comp_filt (fun d => !areJobsB d) goodL (fun d hd C C' hC hC' => ?_) ?_
  · have hd2 := goodL_ok d hd
    simp only [sp_is_jobs, sp_are_jobs, sSkip, sSeq, sIf, sRet, sRetN, sExpr, sAsg, sSetC, sFrz, sBrk, sCont, sRaise, sApp, sSetIx, sFor, sPar, putAll, pNil, pO, pF, startS, startM, oPur, oMut, oIni, own, ownR, use, uses, res, varR, bVar, bC, bOp, bUn, bCB, aNil, aCons, bAnd, bOr, bNot, bIf, bChain, tVal, tBl, wNot, wAnd, wOr, bTup, frz, fLst, oNil, oCons, bSl, oNone, oSome, bCall, fCall, bCallM, fComp, fCB, fRng, bTRng, gNm, gTp, setAll, iSeq, iRange, iEnum, iZip, seqOf, noCelB, wipeS, restore, qAdd, okAdd, vAdd, gSub, qMul, okMul, vMul, gDiv, gMod, gPow, gLt, gGt, gGe, qLe, okLe, vLe, gEq, gNe, qIs, okIs, vIs, qIsNot, gNeg, qLen, okLen, vLen, gAll, gAny, gSum, gMax, qMin, okMin, vMin, qInt, okInt, vInt, qBool, okBool, vBool, qTuple, seq1, qIsi, okIsi, vIsi, qIx, ixR, qSl, okSl, vSl, qIn, okIn, vIn, qNotIn, gLenSet, jList, jSrt, truD, isNonD, List.getElem?_cons_zero, List.getElem?_cons_succ, List.set_cons_zero, List.set_cons_succ, List.length_cons, List.length_nil, List.map_cons, List.map_nil, List.replicate, List.append_nil, List.nil_append, List.cons_append, Nat.reduceAdd, Nat.reduceSub, Nat.reduceLT, Nat.reduceLeDiff, Nat.zero_lt_succ, true_and, and_true, Bool.false_eq_true, if_true, if_false, Nat.zero_add, Nat.add_one_sub_one, Nat.sub_self, reduceIte, Nat.lt_add_left_iff_pos, eq_self, String.reduceBEq, Bool.not_true, Bool.not_false, Bool.or_self, Bool.or_false, Bool.or_true, Bool.true_or, Bool.false_or, Bool.and_true, Bool.true_and, Bool.and_false, Bool.false_and, ite_true, ite_false]
    refine ⟨hd2.1, ?_⟩
    rw [if_neg (by simp [hd2.2])]
    exact hC' (by rw [hd2.2]; rfl)
  · have e : goodL.filter (fun d => !areJobsB d) = [] := by decide +kernel
    rw [e]
    simp only [sSkip, sSeq, sIf, sRet, sRetN, sExpr, sAsg, sSetC, sFrz, sBrk, sCont, sRaise, sApp, sSetIx, sFor, sPar, putAll, pNil, pO, pF, startS, startM, oPur, oMut, oIni, own, ownR, use, uses, res, varR, bVar, bC, bOp, bUn, bCB, aNil, aCons, bAnd, bOr, bNot, bIf, bChain, tVal, tBl, wNot, wAnd, wOr, bTup, frz, fLst, oNil, oCons, bSl, oNone, oSome, bCall, fCall, bCallM, fComp, fCB, fRng, bTRng, gNm, gTp, setAll, iSeq, iRange, iEnum, iZip, seqOf, noCelB, wipeS, restore, qAdd, okAdd, vAdd, gSub, qMul, okMul, vMul, gDiv, gMod, gPow, gLt, gGt, gGe, qLe, okLe, vLe, gEq, gNe, qIs, okIs, vIs, qIsNot, gNeg, qLen, okLen, vLen, gAll, gAny, gSum, gMax, qMin, okMin, vMin, qInt, okInt, vInt, qBool, okBool, vBool, qTuple, seq1, qIsi, okIsi, vIsi, qIx, ixR, qSl, okSl, vSl, qIn, okIn, vIn, qNotIn, gLenSet, jList, jSrt, truD, isNonD, List.getElem?_cons_zero, List.getElem?_cons_succ, List.set_cons_zero, List.set_cons_succ, List.length_cons, List.length_nil, List.map_cons, List.map_nil, List.replicate, List.append_nil, List.nil_append, List.cons_append, Nat.reduceAdd, Nat.reduceSub, Nat.reduceLT, Nat.reduceLeDiff, Nat.zero_lt_succ, true_and, and_true, Bool.false_eq_true, if_true, if_false, Nat.zero_add, Nat.add_one_sub_one, Nat.sub_self, reduceIte, Nat.lt_add_left_iff_pos, eq_self, String.reduceBEq, Bool.not_true, Bool.not_false, Bool.or_self, Bool.or_false, Bool.or_true, Bool.true_or, Bool.false_or, Bool.and_true, Bool.true_and, Bool.and_false, Bool.false_and, ite_true, ite_false]
    refine ⟨shp_nilL, shp_nilL, ?_⟩
    rw [eqv_nilL, if_neg (by simp)]
    refine comp_filt areJobsB badL (fun d hd C C' hC hC' => ?_) ?_
    · have hd2 := badL_ok d hd
      simp only [sp_is_jobs, sp_are_jobs, sSkip, sSeq, sIf, sRet, sRetN, sExpr, sAsg, sSetC, sFrz, sBrk, sCont, sRaise, sApp, sSetIx, sFor, sPar, putAll, pNil, pO, pF, startS, startM, oPur, oMut, oIni, own, ownR, use, uses, res, varR, bVar, bC, bOp, bUn, bCB, aNil, aCons, bAnd, bOr, bNot, bIf, bChain, tVal, tBl, wNot, wAnd, wOr, bTup, frz, fLst, oNil, oCons, bSl, oNone, oSome, bCall, fCall, bCallM, fComp, fCB, fRng, bTRng, gNm, gTp, setAll, iSeq, iRange, iEnum, iZip, seqOf, noCelB, wipeS, restore, qAdd, okAdd, vAdd, gSub, qMul, okMul, vMul, gDiv, gMod, gPow, gLt, gGt, gGe, qLe, okLe, vLe, gEq, gNe, qIs, okIs, vIs, qIsNot, gNeg, qLen, okLen, vLen, gAll, gAny, gSum, gMax, qMin, okMin, vMin, qInt, okInt, vInt, qBool, okBool, vBool, qTuple, seq1, qIsi, okIsi, vIsi, qIx, ixR, qSl, okSl, vSl, qIn, okIn, vIn, qNotIn, gLenSet, jList, jSrt, truD, isNonD, List.getElem?_cons_zero, List.getElem?_cons_succ, List.set_cons_zero, List.set_cons_succ, List.length_cons, List.length_nil, List.map_cons, List.map_nil, List.replicate, List.append_nil, List.nil_append, List.cons_append, Nat.reduceAdd, Nat.reduceSub, Nat.reduceLT, Nat.reduceLeDiff, Nat.zero_lt_succ, true_and, and_true, Bool.false_eq_true, if_true, if_false, Nat.zero_add, Nat.add_one_sub_one, Nat.sub_self, reduceIte, Nat.lt_add_left_iff_pos, eq_self, String.reduceBEq, Bool.not_true, Bool.not_false, Bool.or_self, Bool.or_false, Bool.or_true, Bool.true_or, Bool.false_or, Bool.and_true, Bool.true_and, Bool.and_false, Bool.false_and, ite_true, ite_false]
      refine ⟨hd2.1, ?_⟩
      rw [hd2.2]
      simp only [sSkip, sSeq, sIf, sRet, sRetN, sExpr, sAsg, sSetC, sFrz, sBrk, sCont, sRaise, sApp, sSetIx, sFor, sPar, putAll, pNil, pO, pF, startS, startM, oPur, oMut, oIni, own, ownR, use, uses, res, varR, bVar, bC, bOp, bUn, bCB, aNil, aCons, bAnd, bOr, bNot, bIf, bChain, tVal, tBl, wNot, wAnd, wOr, bTup, frz, fLst, oNil, oCons, bSl, oNone, oSome, bCall, fCall, bCallM, fComp, fCB, fRng, bTRng, gNm, gTp, setAll, iSeq, iRange, iEnum, iZip, seqOf, noCelB, wipeS, restore, qAdd, okAdd, vAdd, gSub, qMul, okMul, vMul, gDiv, gMod, gPow, gLt, gGt, gGe, qLe, okLe, vLe, gEq, gNe, qIs, okIs, vIs, qIsNot, gNeg, qLen, okLen, vLen, gAll, gAny, gSum, gMax, qMin, okMin, vMin, qInt, okInt, vInt, qBool, okBool, vBool, qTuple, seq1, qIsi, okIsi, vIsi, qIx, ixR, qSl, okSl, vSl, qIn, okIn, vIn, qNotIn, gLenSet, jList, jSrt, truD, isNonD, List.getElem?_cons_zero, List.getElem?_cons_succ, List.set_cons_zero, List.set_cons_succ, List.length_cons, List.length_nil, List.map_cons, List.map_nil, List.replicate, List.append_nil, List.nil_append, List.cons_append, Nat.reduceAdd, Nat.reduceSub, Nat.reduceLT, Nat.reduceLeDiff, Nat.zero_lt_succ, true_and, and_true, Bool.false_eq_true, if_true, if_false, Nat.zero_add, Nat.add_one_sub_one, Nat.sub_self, reduceIte, Nat.lt_add_left_iff_pos, eq_self, String.reduceBEq, Bool.not_true, Bool.not_false, Bool.or_self, Bool.or_false, Bool.or_true, Bool.true_or, Bool.false_or, Bool.and_true, Bool.true_and, Bool.and_false, Bool.false_and, ite_true, ite_false]
      exact hC' hd2.2
    · have e : badL.filter areJobsB = [] := by decide +kernel
      rw [e]
      simp only [sSkip, sSeq, sIf, sRet, sRetN, sExpr, sAsg, sSetC, sFrz, sBrk, sCont, sRaise, sApp, sSetIx, sFor, sPar, putAll, pNil, pO, pF, startS, startM, oPur, oMut, oIni, own, ownR, use, uses, res, varR, bVar, bC, bOp, bUn, bCB, aNil, aCons, bAnd, bOr, bNot, bIf, bChain, tVal, tBl, wNot, wAnd, wOr, bTup, frz, fLst, oNil, oCons, bSl, oNone, oSome, bCall, fCall, bCallM, fComp, fCB, fRng, bTRng, gNm, gTp, setAll, iSeq, iRange, iEnum, iZip, seqOf, noCelB, wipeS, restore, qAdd, okAdd, vAdd, gSub, qMul, okMul, vMul, gDiv, gMod, gPow, gLt, gGt, gGe, qLe, okLe, vLe, gEq, gNe, qIs, okIs, vIs, qIsNot, gNeg, qLen, okLen, vLen, gAll, gAny, gSum, gMax, qMin, okMin, vMin, qInt, okInt, vInt, qBool, okBool, vBool, qTuple, seq1, qIsi, okIsi, vIsi, qIx, ixR, qSl, okSl, vSl, qIn, okIn, vIn, qNotIn, gLenSet, jList, jSrt, truD, isNonD, List.getElem?_cons_zero, List.getElem?_cons_succ, List.set_cons_zero, List.set_cons_succ, List.length_cons, List.length_nil, List.map_cons, List.map_nil, List.replicate, List.append_nil, List.nil_append, List.cons_append, Nat.reduceAdd, Nat.reduceSub, Nat.reduceLT, Nat.reduceLeDiff, Nat.zero_lt_succ, true_and, and_true, Bool.false_eq_true, if_true, if_false, Nat.zero_add, Nat.add_one_sub_one, Nat.sub_self, reduceIte, Nat.lt_add_left_iff_pos, eq_self, String.reduceBEq, Bool.not_true, Bool.not_false, Bool.or_self, Bool.or_false, Bool.or_true, Bool.true_or, Bool.false_or, Bool.and_true, Bool.true_and, Bool.and_false, Bool.false_and, ite_true, ite_false]
      refine ⟨shp_nilL, shp_nilL, ?_⟩
      rw [eqv_nilL, if_neg (by simp)]
      refine ord_use true (by decide +kernel) ?_
      refine ⟨trivial, ?_⟩
      rw [if_neg (by simp)]
      refine ord_use false (by decide +kernel) ?_
      simp only [sSkip, sSeq, sIf, sRet, sRetN, sExpr, sAsg, sSetC, sFrz, sBrk, sCont, sRaise, sApp, sSetIx, sFor, sPar, putAll, pNil, pO, pF, startS, startM, oPur, oMut, oIni, own, ownR, use, uses, res, varR, bVar, bC, bOp, bUn, bCB, aNil, aCons, bAnd, bOr, bNot, bIf, bChain, tVal, tBl, wNot, wAnd, wOr, bTup, frz, fLst, oNil, oCons, bSl, oNone, oSome, bCall, fCall, bCallM, fComp, fCB, fRng, bTRng, gNm, gTp, setAll, iSeq, iRange, iEnum, iZip, seqOf, noCelB, wipeS, restore, qAdd, okAdd, vAdd, gSub, qMul, okMul, vMul, gDiv, gMod, gPow, gLt, gGt, gGe, qLe, okLe, vLe, gEq, gNe, qIs, okIs, vIs, qIsNot, gNeg, qLen, okLen, vLen, gAll, gAny, gSum, gMax, qMin, okMin, vMin, qInt, okInt, vInt, qBool, okBool, vBool, qTuple, seq1, qIsi, okIsi, vIsi, qIx, ixR, qSl, okSl, vSl, qIn, okIn, vIn, qNotIn, gLenSet, jList, jSrt, truD, isNonD, List.getElem?_cons_zero, List.getElem?_cons_succ, List.set_cons_zero, List.set_cons_succ, List.length_cons, List.length_nil, List.map_cons, List.map_nil, List.replicate, List.append_nil, List.nil_append, List.cons_append, Nat.reduceAdd, Nat.reduceSub, Nat.reduceLT, Nat.reduceLeDiff, Nat.zero_lt_succ, true_and, and_true, Bool.false_eq_true, if_true, if_false, Nat.zero_add, Nat.add_one_sub_one, Nat.sub_self, reduceIte, Nat.lt_add_left_iff_pos, eq_self, String.reduceBEq, Bool.not_true, Bool.not_false, Bool.or_self, Bool.or_false, Bool.or_true, Bool.true_or, Bool.false_or, Bool.and_true, Bool.true_and, Bool.and_false, Bool.false_and, ite_true, ite_false]
      refine ord_use false (by decide +kernel) ?_
      simp only [sSkip, sSeq, sIf, sRet, sRetN, sExpr, sAsg, sSetC, sFrz, sBrk, sCont, sRaise, sApp, sSetIx, sFor, sPar, putAll, pNil, pO, pF, startS, startM, oPur, oMut, oIni, own, ownR, use, uses, res, varR, bVar, bC, bOp, bUn, bCB, aNil, aCons, bAnd, bOr, bNot, bIf, bChain, tVal, tBl, wNot, wAnd, wOr, bTup, frz, fLst, oNil, oCons, bSl, oNone, oSome, bCall, fCall, bCallM, fComp, fCB, fRng, bTRng, gNm, gTp, setAll, iSeq, iRange, iEnum, iZip, seqOf, noCelB, wipeS, restore, qAdd, okAdd, vAdd, gSub, qMul, okMul, vMul, gDiv, gMod, gPow, gLt, gGt, gGe, qLe, okLe, vLe, gEq, gNe, qIs, okIs, vIs, qIsNot, gNeg, qLen, okLen, vLen, gAll, gAny, gSum, gMax, qMin, okMin, vMin, qInt, okInt, vInt, qBool, okBool, vBool, qTuple, seq1, qIsi, okIsi, vIsi, qIx, ixR, qSl, okSl, vSl, qIn, okIn, vIn, qNotIn, gLenSet, jList, jSrt, truD, isNonD, List.getElem?_cons_zero, List.getElem?_cons_succ, List.set_cons_zero, List.set_cons_succ, List.length_cons, List.length_nil, List.map_cons, List.map_nil, List.replicate, List.append_nil, List.nil_append, List.cons_append, Nat.reduceAdd, Nat.reduceSub, Nat.reduceLT, Nat.reduceLeDiff, Nat.zero_lt_succ, true_and, and_true, Bool.false_eq_true, if_true, if_false, Nat.zero_add, Nat.add_one_sub_one, Nat.sub_self, reduceIte, Nat.lt_add_left_iff_pos, eq_self, String.reduceBEq, Bool.not_true, Bool.not_false, Bool.or_self, Bool.or_false, Bool.or_true, Bool.true_or, Bool.false_or, Bool.and_true, Bool.true_and, Bool.and_false, Bool.false_and, ite_true, ite_false]
      refine ord_use false (by decide +kernel) ?_
      simp only [sSkip, sSeq, sIf, sRet, sRetN, sExpr, sAsg, sSetC, sFrz, sBrk, sCont, sRaise, sApp, sSetIx, sFor, sPar, putAll, pNil, pO, pF, startS, startM, oPur, oMut, oIni, own, ownR, use, uses, res, varR, bVar, bC, bOp, bUn, bCB, aNil, aCons, bAnd, bOr, bNot, bIf, bChain, tVal, tBl, wNot, wAnd, wOr, bTup, frz, fLst, oNil, oCons, bSl, oNone, oSome, bCall, fCall, bCallM, fComp, fCB, fRng, bTRng, gNm, gTp, setAll, iSeq, iRange, iEnum, iZip, seqOf, noCelB, wipeS, restore, qAdd, okAdd, vAdd, gSub, qMul, okMul, vMul, gDiv, gMod, gPow, gLt, gGt, gGe, qLe, okLe, vLe, gEq, gNe, qIs, okIs, vIs, qIsNot, gNeg, qLen, okLen, vLen, gAll, gAny, gSum, gMax, qMin, okMin, vMin, qInt, okInt, vInt, qBool, okBool, vBool, qTuple, seq1, qIsi, okIsi, vIsi, qIx, ixR, qSl, okSl, vSl, qIn, okIn, vIn, qNotIn, gLenSet, jList, jSrt, truD, isNonD, List.getElem?_cons_zero, List.getElem?_cons_succ, List.set_cons_zero, List.set_cons_succ, List.length_cons, List.length_nil, List.map_cons, List.map_nil, List.replicate, List.append_nil, List.nil_append, List.cons_append, Nat.reduceAdd, Nat.reduceSub, Nat.reduceLT, Nat.reduceLeDiff, Nat.zero_lt_succ, true_and, and_true, Bool.false_eq_true, if_true, if_false, Nat.zero_add, Nat.add_one_sub_one, Nat.sub_self, reduceIte, Nat.lt_add_left_iff_pos, eq_self, String.reduceBEq, Bool.not_true, Bool.not_false, Bool.or_self, Bool.or_false, Bool.or_true, Bool.true_or, Bool.false_or, Bool.and_true, Bool.true_and, Bool.and_false, Bool.false_and, ite_true, ite_false]
      refine ord_use false (by decide +kernel) ?_
      simp only [sSkip, sSeq, sIf, sRet, sRetN, sExpr, sAsg, sSetC, sFrz, sBrk, sCont, sRaise, sApp, sSetIx, sFor, sPar, putAll, pNil, pO, pF, startS, startM, oPur, oMut, oIni, own, ownR, use, uses, res, varR, bVar, bC, bOp, bUn, bCB, aNil, aCons, bAnd, bOr, bNot, bIf, bChain, tVal, tBl, wNot, wAnd, wOr, bTup, frz, fLst, oNil, oCons, bSl, oNone, oSome, bCall, fCall, bCallM, fComp, fCB, fRng, bTRng, gNm, gTp, setAll, iSeq, iRange, iEnum, iZip, seqOf, noCelB, wipeS, restore, qAdd, okAdd, vAdd, gSub, qMul, okMul, vMul, gDiv, gMod, gPow, gLt, gGt, gGe, qLe, okLe, vLe, gEq, gNe, qIs, okIs, vIs, qIsNot, gNeg, qLen, okLen, vLen, gAll, gAny, gSum, gMax, qMin, okMin, vMin, qInt, okInt, vInt, qBool, okBool, vBool, qTuple, seq1, qIsi, okIsi, vIsi, qIx, ixR, qSl, okSl, vSl, qIn, okIn, vIn, qNotIn, gLenSet, jList, jSrt, truD, isNonD, List.getElem?_cons_zero, List.getElem?_cons_succ, List.set_cons_zero, List.set_cons_succ, List.length_cons, List.length_nil, List.map_cons, List.map_nil, List.replicate, List.append_nil, List.nil_append, List.cons_append, Nat.reduceAdd, Nat.reduceSub, Nat.reduceLT, Nat.reduceLeDiff, Nat.zero_lt_succ, true_and, and_true, Bool.false_eq_true, if_true, if_false, Nat.zero_add, Nat.add_one_sub_one, Nat.sub_self, reduceIte, Nat.lt_add_left_iff_pos, eq_self, String.reduceBEq, Bool.not_true, Bool.not_false, Bool.or_self, Bool.or_false, Bool.or_true, Bool.true_or, Bool.false_or, Bool.and_true, Bool.true_and, Bool.and_false, Bool.false_and, ite_true, ite_false]
      refine ord_use false (by decide +kernel) ?_
      simp only [sSkip, sSeq, sIf, sRet, sRetN, sExpr, sAsg, sSetC, sFrz, sBrk, sCont, sRaise, sApp, sSetIx, sFor, sPar, putAll, pNil, pO, pF, startS, startM, oPur, oMut, oIni, own, ownR, use, uses, res, varR, bVar, bC, bOp, bUn, bCB, aNil, aCons, bAnd, bOr, bNot, bIf, bChain, tVal, tBl, wNot, wAnd, wOr, bTup, frz, fLst, oNil, oCons, bSl, oNone, oSome, bCall, fCall, bCallM, fComp, fCB, fRng, bTRng, gNm, gTp, setAll, iSeq, iRange, iEnum, iZip, seqOf, noCelB, wipeS, restore, qAdd, okAdd, vAdd, gSub, qMul, okMul, vMul, gDiv, gMod, gPow, gLt, gGt, gGe, qLe, okLe, vLe, gEq, gNe, qIs, okIs, vIs, qIsNot, gNeg, qLen, okLen, vLen, gAll, gAny, gSum, gMax, qMin, okMin, vMin, qInt, okInt, vInt, qBool, okBool, vBool, qTuple, seq1, qIsi, okIsi, vIsi, qIx, ixR, qSl, okSl, vSl, qIn, okIn, vIn, qNotIn, gLenSet, jList, jSrt, truD, isNonD, List.getElem?_cons_zero, List.getElem?_cons_succ, List.set_cons_zero, List.set_cons_succ, List.length_cons, List.length_nil, List.map_cons, List.map_nil, List.replicate, List.append_nil, List.nil_append, List.cons_append, Nat.reduceAdd, Nat.reduceSub, Nat.reduceLT, Nat.reduceLeDiff, Nat.zero_lt_succ, true_and, and_true, Bool.false_eq_true, if_true, if_false, Nat.zero_add, Nat.add_one_sub_one, Nat.sub_self, reduceIte, Nat.lt_add_left_iff_pos, eq_self, String.reduceBEq, Bool.not_true, Bool.not_false, Bool.or_self, Bool.or_false, Bool.or_true, Bool.true_or, Bool.false_or, Bool.and_true, Bool.true_and, Bool.and_false, Bool.false_and, ite_true, ite_false]
      refine spJO_use (by decide +kernel) ?_
      refine ⟨by decide +kernel, by decide +kernel, ite_no (by decide +kernel) ?_⟩
      refine spJO_use (by decide +kernel) ?_
      refine ⟨by decide +kernel, by decide +kernel, ite_no (by decide +kernel) ?_⟩
      refine ⟨rfl, ?_⟩
      simp only [sSkip, sSeq, sIf, sRet, sRetN, sExpr, sAsg, sSetC, sFrz, sBrk, sCont, sRaise, sApp, sSetIx, sFor, sPar, putAll, pNil, pO, pF, startS, startM, oPur, oMut, oIni, own, ownR, use, uses, res, varR, bVar, bC, bOp, bUn, bCB, aNil, aCons, bAnd, bOr, bNot, bIf, bChain, tVal, tBl, wNot, wAnd, wOr, bTup, frz, fLst, oNil, oCons, bSl, oNone, oSome, bCall, fCall, bCallM, fComp, fCB, fRng, bTRng, gNm, gTp, setAll, iSeq, iRange, iEnum, iZip, seqOf, noCelB, wipeS, restore, qAdd, okAdd, vAdd, gSub, qMul, okMul, vMul, gDiv, gMod, gPow, gLt, gGt, gGe, qLe, okLe, vLe, gEq, gNe, qIs, okIs, vIs, qIsNot, gNeg, qLen, okLen, vLen, gAll, gAny, gSum, gMax, qMin, okMin, vMin, qInt, okInt, vInt, qBool, okBool, vBool, qTuple, seq1, qIsi, okIsi, vIsi, qIx, ixR, qSl, okSl, vSl, qIn, okIn, vIn, qNotIn, gLenSet, jList, jSrt, truD, isNonD, List.getElem?_cons_zero, List.getElem?_cons_succ, List.set_cons_zero, List.set_cons_succ, List.length_cons, List.length_nil, List.map_cons, List.map_nil, List.replicate, List.append_nil, List.nil_append, List.cons_append, Nat.reduceAdd, Nat.reduceSub, Nat.reduceLT, Nat.reduceLeDiff, Nat.zero_lt_succ, true_and, and_true, Bool.false_eq_true, if_true, if_false, Nat.zero_add, Nat.add_one_sub_one, Nat.sub_self, reduceIte, Nat.lt_add_left_iff_pos, eq_self, String.reduceBEq, Bool.not_true, Bool.not_false, Bool.or_self, Bool.or_false, Bool.or_true, Bool.true_or, Bool.false_or, Bool.and_true, Bool.true_and, Bool.and_false, Bool.false_and, ite_true, ite_false]
      have lv : ∀ h ∈ levO 3, ordB 3 (ordD h) = true ∧ shp (ordD h) = true := by decide +kernel
      have tm0 : (levO 3).map (timeL [(3, 5), (6, 2), (4, 4)]) = [17, 16, 18, 19, 16, 18] := by decide +kernel
      have tm : (levO 3).map (fun h => PyData.int (timeL [(3, 5), (6, 2), (4, 4)] h)) = [.int 17, .int 16, .int 18, .int 19, .int 16, .int 18] := by
        have := congrArg (List.map PyData.int) tm0
        rw [List.map_map] at this
        exact this
      refine ⟨by decide +kernel, comp_mapL ordD (fun h => .int (timeL [(3, 5), (6, 2), (4, 4)] h)) (levO 3) (fun h hh C hC => ?_) ?_⟩
      · have l2 := lv h hh
        simp only [sSkip, sSeq, sIf, sRet, sRetN, sExpr, sAsg, sSetC, sFrz, sBrk, sCont, sRaise, sApp, sSetIx, sFor, sPar, putAll, pNil, pO, pF, startS, startM, oPur, oMut, oIni, own, ownR, use, uses, res, varR, bVar, bC, bOp, bUn, bCB, aNil, aCons, bAnd, bOr, bNot, bIf, bChain, tVal, tBl, wNot, wAnd, wOr, bTup, frz, fLst, oNil, oCons, bSl, oNone, oSome, bCall, fCall, bCallM, fComp, fCB, fRng, bTRng, gNm, gTp, setAll, iSeq, iRange, iEnum, iZip, seqOf, noCelB, wipeS, restore, qAdd, okAdd, vAdd, gSub, qMul, okMul, vMul, gDiv, gMod, gPow, gLt, gGt, gGe, qLe, okLe, vLe, gEq, gNe, qIs, okIs, vIs, qIsNot, gNeg, qLen, okLen, vLen, gAll, gAny, gSum, gMax, qMin, okMin, vMin, qInt, okInt, vInt, qBool, okBool, vBool, qTuple, seq1, qIsi, okIsi, vIsi, qIx, ixR, qSl, okSl, vSl, qIn, okIn, vIn, qNotIn, gLenSet, jList, jSrt, truD, isNonD, List.getElem?_cons_zero, List.getElem?_cons_succ, List.set_cons_zero, List.set_cons_succ, List.length_cons, List.length_nil, List.map_cons, List.map_nil, List.replicate, List.append_nil, List.nil_append, List.cons_append, Nat.reduceAdd, Nat.reduceSub, Nat.reduceLT, Nat.reduceLeDiff, Nat.zero_lt_succ, true_and, and_true, Bool.false_eq_true, if_true, if_false, Nat.zero_add, Nat.add_one_sub_one, Nat.sub_self, reduceIte, Nat.lt_add_left_iff_pos, eq_self, String.reduceBEq, Bool.not_true, Bool.not_false, Bool.or_self, Bool.or_false, Bool.or_true, Bool.true_or, Bool.false_or, Bool.and_true, Bool.true_and, Bool.and_false, Bool.false_and, ite_true, ite_false]
        refine spJO_use (by rw [Bool.and_eq_true, Bool.and_eq_true, Bool.and_eq_true]; exact ⟨⟨⟨by decide +kernel, l2.2⟩, by decide +kernel⟩, l2.1⟩) ?_
        rw [ordOf_ordD]
        exact hC
      · rw [tm]
        simp only [sSkip, sSeq, sIf, sRet, sRetN, sExpr, sAsg, sSetC, sFrz, sBrk, sCont, sRaise, sApp, sSetIx, sFor, sPar, putAll, pNil, pO, pF, startS, startM, oPur, oMut, oIni, own, ownR, use, uses, res, varR, bVar, bC, bOp, bUn, bCB, aNil, aCons, bAnd, bOr, bNot, bIf, bChain, tVal, tBl, wNot, wAnd, wOr, bTup, frz, fLst, oNil, oCons, bSl, oNone, oSome, bCall, fCall, bCallM, fComp, fCB, fRng, bTRng, gNm, gTp, setAll, iSeq, iRange, iEnum, iZip, seqOf, noCelB, wipeS, restore, qAdd, okAdd, vAdd, gSub, qMul, okMul, vMul, gDiv, gMod, gPow, gLt, gGt, gGe, qLe, okLe, vLe, gEq, gNe, qIs, okIs, vIs, qIsNot, gNeg, qLen, okLen, vLen, gAll, gAny, gSum, gMax, qMin, okMin, vMin, qInt, okInt, vInt, qBool, okBool, vBool, qTuple, seq1, qIsi, okIsi, vIsi, qIx, ixR, qSl, okSl, vSl, qIn, okIn, vIn, qNotIn, gLenSet, jList, jSrt, truD, isNonD, List.getElem?_cons_zero, List.getElem?_cons_succ, List.set_cons_zero, List.set_cons_succ, List.length_cons, List.length_nil, List.map_cons, List.map_nil, List.replicate, List.append_nil, List.nil_append, List.cons_append, Nat.reduceAdd, Nat.reduceSub, Nat.reduceLT, Nat.reduceLeDiff, Nat.zero_lt_succ, true_and, and_true, Bool.false_eq_true, if_true, if_false, Nat.zero_add, Nat.add_one_sub_one, Nat.sub_self, reduceIte, Nat.lt_add_left_iff_pos, eq_self, String.reduceBEq, Bool.not_true, Bool.not_false, Bool.or_self, Bool.or_false, Bool.or_true, Bool.true_or, Bool.false_or, Bool.and_true, Bool.true_and, Bool.and_false, Bool.false_and, ite_true, ite_false]
        refine ⟨by decide +kernel, by decide +kernel, ite_no (by decide +kernel) ?_⟩
        refine spJO_use (by decide +kernel) ?_
        refine spJO_use (by decide +kernel) ?_
        refine spJO_use (by decide +kernel) ?_
        refine ⟨by decide +kernel, by decide +kernel, ite_no (by decide +kernel) ?_⟩
        refine spJO_use (by decide +kernel) ?_
        refine ⟨by decide +kernel, by decide +kernel, ?_⟩
        exact bool_q (by decide +kernel) q
end DL
set_option Elab.async false
set_option linter.all false
set_option maxRecDepth 100000
set_option maxHeartbeats 4000000
namespace DL
open PySem PySem.Spec PyProof.Rows L2

/-! ### the def that names an error -/
def cx__law_error : Ctx := { N := ["_law_e", "_law_some", "_law_word_so", "_law_good"], Γ := [], C := [], R := [], ms := [] }
def trB (a : Addr) (b0 b1 b2 b3 b4 b5 b6 b7 b8 b9 b10 b11 b12 b13 b14 : Bool) : SW := (sSeq (sAsg (own (frz (fLst (oCons (own (bTup (oCons (own (bC (.str "jobs"))) (oCons (own (bIsE a b0)) oNil)))) (oCons (own (bTup (oCons (own (bC (.str "order"))) (oCons (own (bIsE a b1)) oNil)))) oNil))))) (gNm 1))
  (sSeq (sAsg (own (bOp qAdd (bVar 1) (frz (fLst (oCons (own (bTup (oCons (own (bC (.str "row"))) (oCons (own (bIsE a b2)) oNil)))) (oCons (own (bTup (oCons (own (bC (.str "number"))) (oCons (own (bIsE a b3)) oNil)))) oNil)))))) (gNm 1))
  (sSeq (sAsg (own (bOp qAdd (bVar 1) (frz (fLst (oCons (own (bTup (oCons (own (bC (.str "machine"))) (oCons (own (bIsE a b4)) oNil)))) (oCons (own (bTup (oCons (own (bC (.str "job"))) (oCons (own (bIsE a b5)) oNil)))) oNil)))))) (gNm 1))
  (sSeq (sAsg (own (bOp qAdd (bVar 1) (frz (fLst (oCons (own (bTup (oCons (own (bC (.str "facts"))) (oCons (own (bIsE a b6)) oNil)))) (oCons (own (bTup (oCons (own (bC (.str "price"))) (oCons (own (bIsE a b7)) oNil)))) oNil)))))) (gNm 1))
  (sSeq (sAsg (own (bOp qAdd (bVar 1) (frz (fLst (oCons (own (bTup (oCons (own (bC (.str "factor"))) (oCons (own (bIsE a b8)) oNil)))) (oCons (own (bTup (oCons (own (bC (.str "text"))) (oCons (own (bIsE a b9)) oNil)))) oNil)))))) (gNm 1))
  (sSeq (sAsg (own (bOp qAdd (bVar 1) (frz (fLst (oCons (own (bTup (oCons (own (bC (.str "time"))) (oCons (own (bIsE a b10)) oNil)))) (oCons (own (bTup (oCons (own (bC (.str "begun"))) (oCons (own (bIsE a b11)) oNil)))) oNil)))))) (gNm 1))
  (sSeq (sAsg (own (bOp qAdd (bVar 1) (frz (fLst (oCons (own (bTup (oCons (own (bC (.str "unlike"))) (oCons (own (bIsE a b12)) oNil)))) (oCons (own (bTup (oCons (own (bC (.str "undo"))) (oCons (own (bIsE a b13)) oNil)))) oNil)))))) (gNm 1))
  (sSeq (sAsg (own (bOp qAdd (bVar 1) (frz (fLst (oCons (own (bTup (oCons (own (bC (.str "many"))) (oCons (own (bIsE a b14)) oNil)))) oNil))))) (gNm 1))
  (sRet (own (bJoin (bC (.str " ")) (frz (fComp (iLst (own (bVar 1))) (gTt [2, 3]) (tVal (bVar 3)) (own (bVar 2)) [2, 3])))))))))))))
def tr__law_error (a : Addr) (x : Str) : SW := trB a (decide (("InvalidJobs" : Str) = x)) (decide (("InvalidOrder" : Str) = x)) (decide (("InvalidRow" : Str) = x)) (decide (("InvalidNumber" : Str) = x)) (decide (("InvalidMachine" : Str) = x)) (decide (("InvalidJob" : Str) = x)) (decide (("InvalidFacts" : Str) = x)) (decide (("InvalidPrice" : Str) = x)) (decide (("InvalidFactor" : Str) = x)) (decide (("InvalidText" : Str) = x)) (decide (("NoTime" : Str) = x)) (decide (("Begun" : Str) = x)) (decide (("Unlike" : Str) = x)) (decide (("NothingToUndo" : Str) = x)) (decide (("TooMany" : Str) = x))
def wordsB (l : List (Str × Bool)) : List Str := (l.filter (·.2)).map (·.1)
theorem trB_ok (a : Addr) (b0 b1 b2 b3 b4 b5 b6 b7 b8 b9 b10 b11 b12 b13 b14 : Bool) (Q : D → Prop) (hs : ((wordsB [("jobs", b0), ("order", b1), ("row", b2), ("number", b3), ("machine", b4), ("job", b5), ("facts", b6), ("price", b7), ("factor", b8), ("text", b9), ("time", b10), ("begun", b11), ("unlike", b12), ("undo", b13), ("many", b14)]).map (·.length)).sum + (wordsB [("jobs", b0), ("order", b1), ("row", b2), ("number", b3), ("machine", b4), ("job", b5), ("facts", b6), ("price", b7), ("factor", b8), ("text", b9), ("time", b10), ("begun", b11), ("unlike", b12), ("undo", b13), ("many", b14)]).length * (" " : Str).length ≤ 16777216) (q : Q (.str (Txt.join " " (wordsB [("jobs", b0), ("order", b1), ("row", b2), ("number", b3), ("machine", b4), ("job", b5), ("facts", b6), ("price", b7), ("factor", b8), ("text", b9), ("time", b10), ("begun", b11), ("unlike", b12), ("undo", b13), ("many", b14)])))) :
    trB a b0 b1 b2 b3 b4 b5 b6 b7 b8 b9 b10 b11 b12 b13 b14 (fun _ => False) (startS cx__law_error.N [adD a]) (oPur Q) := by
  unfold trB cx__law_error
  simp only [bIsE, iLst, sSkip, sSeq, sIf, sRet, sRetN, sExpr, sAsg, sSetC, sFrz, sBrk, sCont, sRaise, sApp, sSetIx, sFor, sPar, putAll, pNil, pO, pF, startS, startM, oPur, oMut, oIni, own, ownR, use, uses, res, varR, bVar, bC, bOp, bUn, bCB, aNil, aCons, bAnd, bOr, bNot, bIf, bChain, tVal, tBl, wNot, wAnd, wOr, bTup, frz, fLst, oNil, oCons, bSl, oNone, oSome, bCall, fCall, bCallM, fComp, fCB, fRng, bTRng, gNm, gTp, setAll, iSeq, iRange, iEnum, iZip, seqOf, noCelB, wipeS, restore, qAdd, okAdd, vAdd, gSub, qMul, okMul, vMul, gDiv, gMod, gPow, gLt, gGt, gGe, qLe, okLe, vLe, gEq, gNe, qIs, okIs, vIs, qIsNot, gNeg, qLen, okLen, vLen, gAll, gAny, gSum, gMax, qMin, okMin, vMin, qInt, okInt, vInt, qBool, okBool, vBool, qTuple, seq1, qIsi, okIsi, vIsi, qIx, ixR, qSl, okSl, vSl, qIn, okIn, vIn, qNotIn, gLenSet, jList, jSrt, truD, isNonD, List.getElem?_cons_zero, List.getElem?_cons_succ, List.set_cons_zero, List.set_cons_succ, List.length_cons, List.length_nil, List.map_cons, List.map_nil, List.replicate, List.append_nil, List.nil_append, List.cons_append, Nat.reduceAdd, Nat.reduceSub, Nat.reduceLT, Nat.reduceLeDiff, Nat.zero_lt_succ, true_and, and_true, Bool.false_eq_true, if_true, if_false, Nat.zero_add, Nat.add_one_sub_one, Nat.sub_self, reduceIte, Nat.lt_add_left_iff_pos, eq_self, String.reduceBEq, Bool.not_true, Bool.not_false, Bool.or_self, Bool.or_false, Bool.or_true, Bool.true_or, Bool.false_or, Bool.and_true, Bool.true_and, Bool.and_false, Bool.false_and, ite_true, ite_false]
  have nc : ∀ d, noCelB [.dat (adD a), .dat d, .un, .un] [2, 3] := fun d => ⟨trivial, trivial, trivial⟩
  refine ⟨nc _, by simp, ?_⟩
  refine comp_filtL (fun p : Str × Bool => .tuple [.str p.1, .bool p.2]) (fun p => .str p.1) (fun p => p.2) [("jobs", b0), ("order", b1), ("row", b2), ("number", b3), ("machine", b4), ("job", b5), ("facts", b6), ("price", b7), ("factor", b8), ("text", b9), ("time", b10), ("begun", b11), ("unlike", b12), ("undo", b13), ("many", b14)] (fun p hp C C' hC hC' => ?_) ?_
  · obtain ⟨s, b⟩ := p
    simp only [gTt, sSkip, sSeq, sIf, sRet, sRetN, sExpr, sAsg, sSetC, sFrz, sBrk, sCont, sRaise, sApp, sSetIx, sFor, sPar, putAll, pNil, pO, pF, startS, startM, oPur, oMut, oIni, own, ownR, use, uses, res, varR, bVar, bC, bOp, bUn, bCB, aNil, aCons, bAnd, bOr, bNot, bIf, bChain, tVal, tBl, wNot, wAnd, wOr, bTup, frz, fLst, oNil, oCons, bSl, oNone, oSome, bCall, fCall, bCallM, fComp, fCB, fRng, bTRng, gNm, gTp, setAll, iSeq, iRange, iEnum, iZip, seqOf, noCelB, wipeS, restore, qAdd, okAdd, vAdd, gSub, qMul, okMul, vMul, gDiv, gMod, gPow, gLt, gGt, gGe, qLe, okLe, vLe, gEq, gNe, qIs, okIs, vIs, qIsNot, gNeg, qLen, okLen, vLen, gAll, gAny, gSum, gMax, qMin, okMin, vMin, qInt, okInt, vInt, qBool, okBool, vBool, qTuple, seq1, qIsi, okIsi, vIsi, qIx, ixR, qSl, okSl, vSl, qIn, okIn, vIn, qNotIn, gLenSet, jList, jSrt, truD, isNonD, List.getElem?_cons_zero, List.getElem?_cons_succ, List.set_cons_zero, List.set_cons_succ, List.length_cons, List.length_nil, List.map_cons, List.map_nil, List.replicate, List.append_nil, List.nil_append, List.cons_append, Nat.reduceAdd, Nat.reduceSub, Nat.reduceLT, Nat.reduceLeDiff, Nat.zero_lt_succ, true_and, and_true, Bool.false_eq_true, if_true, if_false, Nat.zero_add, Nat.add_one_sub_one, Nat.sub_self, reduceIte, Nat.lt_add_left_iff_pos, eq_self, String.reduceBEq, Bool.not_true, Bool.not_false, Bool.or_self, Bool.or_false, Bool.or_true, Bool.true_or, Bool.false_or, Bool.and_true, Bool.true_and, Bool.and_false, Bool.false_and, ite_true, ite_false]
    cases b
    · simp only [sSkip, sSeq, sIf, sRet, sRetN, sExpr, sAsg, sSetC, sFrz, sBrk, sCont, sRaise, sApp, sSetIx, sFor, sPar, putAll, pNil, pO, pF, startS, startM, oPur, oMut, oIni, own, ownR, use, uses, res, varR, bVar, bC, bOp, bUn, bCB, aNil, aCons, bAnd, bOr, bNot, bIf, bChain, tVal, tBl, wNot, wAnd, wOr, bTup, frz, fLst, oNil, oCons, bSl, oNone, oSome, bCall, fCall, bCallM, fComp, fCB, fRng, bTRng, gNm, gTp, setAll, iSeq, iRange, iEnum, iZip, seqOf, noCelB, wipeS, restore, qAdd, okAdd, vAdd, gSub, qMul, okMul, vMul, gDiv, gMod, gPow, gLt, gGt, gGe, qLe, okLe, vLe, gEq, gNe, qIs, okIs, vIs, qIsNot, gNeg, qLen, okLen, vLen, gAll, gAny, gSum, gMax, qMin, okMin, vMin, qInt, okInt, vInt, qBool, okBool, vBool, qTuple, seq1, qIsi, okIsi, vIsi, qIx, ixR, qSl, okSl, vSl, qIn, okIn, vIn, qNotIn, gLenSet, jList, jSrt, truD, isNonD, List.getElem?_cons_zero, List.getElem?_cons_succ, List.set_cons_zero, List.set_cons_succ, List.length_cons, List.length_nil, List.map_cons, List.map_nil, List.replicate, List.append_nil, List.nil_append, List.cons_append, Nat.reduceAdd, Nat.reduceSub, Nat.reduceLT, Nat.reduceLeDiff, Nat.zero_lt_succ, true_and, and_true, Bool.false_eq_true, if_true, if_false, Nat.zero_add, Nat.add_one_sub_one, Nat.sub_self, reduceIte, Nat.lt_add_left_iff_pos, eq_self, String.reduceBEq, Bool.not_true, Bool.not_false, Bool.or_self, Bool.or_false, Bool.or_true, Bool.true_or, Bool.false_or, Bool.and_true, Bool.true_and, Bool.and_false, Bool.false_and, ite_true, ite_false]
      exact hC' rfl
    · simp only [sSkip, sSeq, sIf, sRet, sRetN, sExpr, sAsg, sSetC, sFrz, sBrk, sCont, sRaise, sApp, sSetIx, sFor, sPar, putAll, pNil, pO, pF, startS, startM, oPur, oMut, oIni, own, ownR, use, uses, res, varR, bVar, bC, bOp, bUn, bCB, aNil, aCons, bAnd, bOr, bNot, bIf, bChain, tVal, tBl, wNot, wAnd, wOr, bTup, frz, fLst, oNil, oCons, bSl, oNone, oSome, bCall, fCall, bCallM, fComp, fCB, fRng, bTRng, gNm, gTp, setAll, iSeq, iRange, iEnum, iZip, seqOf, noCelB, wipeS, restore, qAdd, okAdd, vAdd, gSub, qMul, okMul, vMul, gDiv, gMod, gPow, gLt, gGt, gGe, qLe, okLe, vLe, gEq, gNe, qIs, okIs, vIs, qIsNot, gNeg, qLen, okLen, vLen, gAll, gAny, gSum, gMax, qMin, okMin, vMin, qInt, okInt, vInt, qBool, okBool, vBool, qTuple, seq1, qIsi, okIsi, vIsi, qIx, ixR, qSl, okSl, vSl, qIn, okIn, vIn, qNotIn, gLenSet, jList, jSrt, truD, isNonD, List.getElem?_cons_zero, List.getElem?_cons_succ, List.set_cons_zero, List.set_cons_succ, List.length_cons, List.length_nil, List.map_cons, List.map_nil, List.replicate, List.append_nil, List.nil_append, List.cons_append, Nat.reduceAdd, Nat.reduceSub, Nat.reduceLT, Nat.reduceLeDiff, Nat.zero_lt_succ, true_and, and_true, Bool.false_eq_true, if_true, if_false, Nat.zero_add, Nat.add_one_sub_one, Nat.sub_self, reduceIte, Nat.lt_add_left_iff_pos, eq_self, String.reduceBEq, Bool.not_true, Bool.not_false, Bool.or_self, Bool.or_false, Bool.or_true, Bool.true_or, Bool.false_or, Bool.and_true, Bool.true_and, Bool.and_false, Bool.false_and, ite_true, ite_false]
      exact hC rfl
  · have e : (([("jobs", b0), ("order", b1), ("row", b2), ("number", b3), ("machine", b4), ("job", b5), ("facts", b6), ("price", b7), ("factor", b8), ("text", b9), ("time", b10), ("begun", b11), ("unlike", b12), ("undo", b13), ("many", b14)] : List (Str × Bool)).filter fun p => p.2).map (fun p : Str × Bool => PyData.str p.1) = (wordsB [("jobs", b0), ("order", b1), ("row", b2), ("number", b3), ("machine", b4), ("job", b5), ("facts", b6), ("price", b7), ("factor", b8), ("text", b9), ("time", b10), ("begun", b11), ("unlike", b12), ("undo", b13), ("many", b14)]).map .str := by
      unfold wordsB
      rw [List.map_map]; rfl
    rw [e]
    show match strsOf _ with | some ys => _ | none => False
    rw [strsOf_map]
    exact ⟨hs, q⟩
def dprs (x : Str) : List (Str × Bool) := errTab.map fun p => (p.2, decide (p.1 = x))
theorem dprs_ok : ∀ p ∈ errTab, ((wordsB (dprs p.1)).map (·.length)).sum + (wordsB (dprs p.1)).length * (" " : Str).length ≤ 16777216 ∧ Txt.join " " (wordsB (dprs p.1)) = p.2 := by decide +kernel
theorem ty__law_error (a : Addr) (x w : Str) (h : errTab.lookup x = some w) (Q : D → Prop) (q : Q (.str w)) : tr__law_error a x (fun _ => False) (startS cx__law_error.N [adD a]) (oPur Q) := by
  obtain ⟨h1, h2⟩ := dprs_ok _ (lookup_mem h)
  dsimp only at h1 h2
  unfold tr__law_error
  refine trB_ok a _ _ _ _ _ _ _ _ _ _ _ _ _ _ _ Q h1 ?_
  show Q (.str (Txt.join " " (wordsB (dprs x))))
  rw [h2]
  exact q
end DL
set_option Elab.async false
set_option linter.all false
set_option maxRecDepth 100000
set_option maxHeartbeats 4000000
namespace DL
open PySem PySem.Spec PyProof.Rows L2
def topS (i : Nat) : Stmt := PySem.Challenge.pw_patchedrings_k01_jobs_and_orders.main.body.getD i (.Pass ⟨0, 0, 0, 0⟩)

abbrev st_is_int : Stmt := topS 20
theorem sc_is_int : FnScope cx_is_int.N ["value", "low", "high"] (defScope st_is_int) := ⟨rfl, rfl, rfl, by decide +kernel, rfl, by decide +kernel, by decide +kernel⟩
theorem tq_is_int : eSs cx_is_int fuE fuS (defScope st_is_int) (defBody st_is_int) = tr_is_int := by kernel_rfl

abbrev st_is_job : Stmt := topS 21
theorem sc_is_job : FnScope cx_is_job.N ["value"] (defScope st_is_job) := ⟨rfl, rfl, rfl, by decide +kernel, rfl, by decide +kernel, by decide +kernel⟩
theorem tq_is_job : eSs cx_is_job fuE fuS (defScope st_is_job) (defBody st_is_job) = tr_is_job := by kernel_rfl

abbrev st_are_jobs : Stmt := topS 22
theorem sc_are_jobs : FnScope cx_are_jobs.N ["value"] (defScope st_are_jobs) := ⟨rfl, rfl, rfl, by decide +kernel, rfl, by decide +kernel, by decide +kernel⟩
theorem tq_are_jobs : eSs cx_are_jobs fuE fuS (defScope st_are_jobs) (defBody st_are_jobs) = tr_are_jobs := by kernel_rfl

abbrev st_is_right_row : Stmt := topS 23
theorem sc_is_right_row : FnScope cx_is_right_row.N ["jobs", "value"] (defScope st_is_right_row) := ⟨rfl, rfl, rfl, by decide +kernel, rfl, by decide +kernel, by decide +kernel⟩
theorem tq_is_right_row : eSs cx_is_right_row fuE fuS (defScope st_is_right_row) (defBody st_is_right_row) = tr_is_right_row := by kernel_rfl

abbrev st_is_right_order : Stmt := topS 24
theorem sc_is_right_order : FnScope cx_is_right_order.N ["jobs", "value"] (defScope st_is_right_order) := ⟨rfl, rfl, rfl, by decide +kernel, rfl, by decide +kernel, by decide +kernel⟩
theorem tq_is_right_order : eSs cx_is_right_order fuE fuS (defScope st_is_right_order) (defBody st_is_right_order) = tr_is_right_order := by kernel_rfl

abbrev st_gaps_of : Stmt := topS 25
theorem sc_gaps_of : FnScope cx_gaps_of.N ["jobs", "order"] (defScope st_gaps_of) := ⟨rfl, rfl, rfl, by decide +kernel, rfl, by decide +kernel, by decide +kernel⟩
theorem tq_gaps_of : eSs cx_gaps_of fuE fuS (defScope st_gaps_of) (defBody st_gaps_of) = tr_gaps_of := by kernel_rfl

abbrev st_time_of : Stmt := topS 26
theorem sc_time_of : FnScope cx_time_of.N ["jobs", "order"] (defScope st_time_of) := ⟨rfl, rfl, rfl, by decide +kernel, rfl, by decide +kernel, by decide +kernel⟩
theorem tq_time_of : eSs cx_time_of fuE fuS (defScope st_time_of) (defBody st_time_of) = tr_time_of := by kernel_rfl

abbrev st_starts_of : Stmt := topS 27
theorem sc_starts_of : FnScope cx_starts_of.N ["jobs", "order"] (defScope st_starts_of) := ⟨rfl, rfl, rfl, by decide +kernel, rfl, by decide +kernel, by decide +kernel⟩
theorem tq_starts_of : eSs cx_starts_of fuE fuS (defScope st_starts_of) (defBody st_starts_of) = tr_starts_of := by kernel_rfl

abbrev st_need_jobs : Stmt := topS 28
theorem sc_need_jobs : FnScope cx_need_jobs.N ["value"] (defScope st_need_jobs) := ⟨rfl, rfl, rfl, by decide +kernel, rfl, by decide +kernel, by decide +kernel⟩
theorem tq_need_jobs : eSs cx_need_jobs fuE fuS (defScope st_need_jobs) (defBody st_need_jobs) = tr_need_jobs := by kernel_rfl

abbrev st_need_order : Stmt := topS 29
theorem sc_need_order : FnScope cx_need_order.N ["jobs", "value"] (defScope st_need_order) := ⟨rfl, rfl, rfl, by decide +kernel, rfl, by decide +kernel, by decide +kernel⟩
theorem tq_need_order : eSs cx_need_order fuE fuS (defScope st_need_order) (defBody st_need_order) = tr_need_order := by kernel_rfl

abbrev st_is_jobs : Stmt := topS 30
theorem sc_is_jobs : FnScope cx_is_jobs.N ["value"] (defScope st_is_jobs) := ⟨rfl, rfl, rfl, by decide +kernel, rfl, by decide +kernel, by decide +kernel⟩
theorem tq_is_jobs : eSs cx_is_jobs fuE fuS (defScope st_is_jobs) (defBody st_is_jobs) = tr_is_jobs := by kernel_rfl

abbrev st_is_order : Stmt := topS 31
theorem sc_is_order : FnScope cx_is_order.N ["jobs", "value"] (defScope st_is_order) := ⟨rfl, rfl, rfl, by decide +kernel, rfl, by decide +kernel, by decide +kernel⟩
theorem tq_is_order : eSs cx_is_order fuE fuS (defScope st_is_order) (defBody st_is_order) = tr_is_order := by kernel_rfl

abbrev st_starts : Stmt := topS 32
theorem sc_starts : FnScope cx_starts.N ["jobs", "order"] (defScope st_starts) := ⟨rfl, rfl, rfl, by decide +kernel, rfl, by decide +kernel, by decide +kernel⟩
theorem tq_starts : eSs cx_starts fuE fuS (defScope st_starts) (defBody st_starts) = tr_starts := by kernel_rfl

abbrev st_gaps : Stmt := topS 33
theorem sc_gaps : FnScope cx_gaps.N ["jobs", "order"] (defScope st_gaps) := ⟨rfl, rfl, rfl, by decide +kernel, rfl, by decide +kernel, by decide +kernel⟩
theorem tq_gaps : eSs cx_gaps fuE fuS (defScope st_gaps) (defBody st_gaps) = tr_gaps := by kernel_rfl

abbrev st_whole_time : Stmt := topS 34
theorem sc_whole_time : FnScope cx_whole_time.N ["jobs", "order"] (defScope st_whole_time) := ⟨rfl, rfl, rfl, by decide +kernel, rfl, by decide +kernel, by decide +kernel⟩
theorem tq_whole_time : eSs cx_whole_time fuE fuS (defScope st_whole_time) (defBody st_whole_time) = tr_whole_time := by kernel_rfl

abbrev st__law_source : Stmt := topS 36
theorem sc__law_source : FnScope cx__law_source.N ["_law_script", "_law_k"] (defScope st__law_source) := ⟨rfl, rfl, rfl, by decide +kernel, rfl, by decide +kernel, by decide +kernel⟩
def rv__law_source : Expr × Pos := match (defBody st__law_source).getLast? with
  | some (.Return (some e) p) => (e, p)
  | _ => (.Constant .none 0 ⟨0, 0, 0, 0⟩, ⟨0, 0, 0, 0⟩)
theorem tb__law_source : defBody st__law_source = (defBody st__law_source).dropLast ++ [.Return (some rv__law_source.1) rv__law_source.2] := by kernel_rfl
theorem tq__law_source : eSs cx__law_source fuE fuS (defScope st__law_source) (defBody st__law_source).dropLast = tr__law_source := by kernel_rfl
theorem tf__law_source : eF cx__law_source fuE (defScope st__law_source) rv__law_source.1 = wf__law_source := by kernel_rfl

abbrev st__law_pick : Stmt := topS 37
theorem sc__law_pick : FnScope cx__law_pick.N ["_law_source_here", "_law_many"] (defScope st__law_pick) := ⟨rfl, rfl, rfl, by decide +kernel, rfl, by decide +kernel, by decide +kernel⟩
theorem tq__law_pick : eSs cx__law_pick fuE fuS (defScope st__law_pick) (defBody st__law_pick) = tr__law_pick := by kernel_rfl

abbrev st__law_chosen : Stmt := topS 38
theorem sc__law_chosen : FnScope cx__law_chosen.N ["_law_source_here", "_law_things"] (defScope st__law_chosen) := ⟨rfl, rfl, rfl, by decide +kernel, rfl, by decide +kernel, by decide +kernel⟩
theorem tq__law_chosen : eSs cx__law_chosen fuE fuS (defScope st__law_chosen) (defBody st__law_chosen) = tr__law_chosen := by kernel_rfl

abbrev st__law_is_bool : Stmt := topS 39
theorem sc__law_is_bool : FnScope cx__law_is_bool.N ["_law_told", "_law_due"] (defScope st__law_is_bool) := ⟨rfl, rfl, rfl, by decide +kernel, rfl, by decide +kernel, by decide +kernel⟩
theorem tq__law_is_bool : eSs cx__law_is_bool fuE fuS (defScope st__law_is_bool) (defBody st__law_is_bool) = tr__law_is_bool := by kernel_rfl

abbrev st__law_whole : Stmt := topS 40
theorem sc__law_whole : FnScope cx__law_whole.N ["_law_value", "_law_low", "_law_high"] (defScope st__law_whole) := ⟨rfl, rfl, rfl, by decide +kernel, rfl, by decide +kernel, by decide +kernel⟩
theorem tq__law_whole : eSs cx__law_whole fuE fuS (defScope st__law_whole) (defBody st__law_whole) = tr__law_whole := by kernel_rfl

abbrev st__law_by_two : Stmt := topS 41
theorem sc__law_by_two : FnScope cx__law_by_two.N ["_law_call", "_law_one", "_law_other"] (defScope st__law_by_two) := ⟨rfl, rfl, rfl, by decide +kernel, rfl, by decide +kernel, by decide +kernel⟩
theorem tq__law_by_two : eSs cx__law_by_two fuE fuS (defScope st__law_by_two) (defBody st__law_by_two) = tr__law_by_two := by kernel_rfl

abbrev st__law_any_value : Stmt := topS 43
theorem sc__law_any_value (L : Nat) : FnScope (cx__law_any_value L).N ["_law_source_here", "_law_deep"] (defScope st__law_any_value) := (⟨rfl, rfl, rfl, by decide +kernel, rfl, by decide +kernel, by decide +kernel⟩ : FnScope ["_law_source_here", "_law_deep", "_law_simple_so", "_law_way", "_law_some", "_law_turn"] ["_law_source_here", "_law_deep"] (defScope st__law_any_value))
theorem tq__law_any_value (L : Nat) : eSs (cx__law_any_value L) fuE fuS (defScope st__law_any_value) (defBody st__law_any_value) = tr__law_any_value L := by kernel_rfl

abbrev st__law_variant : Stmt := topS 44
theorem sc__law_variant (L : Nat) : FnScope (cx__law_variant L).N ["_law_source_here", "_law_value"] (defScope st__law_variant) := (⟨rfl, rfl, rfl, by decide +kernel, rfl, by decide +kernel, by decide +kernel⟩ : FnScope ["_law_source_here", "_law_value", "_law_some", "_law_spot", "_law_way"] ["_law_source_here", "_law_value"] (defScope st__law_variant))
theorem tq__law_variant (L : Nat) : eSs (cx__law_variant L) fuE fuS (defScope st__law_variant) (defBody st__law_variant) = tr__law_variant L := by kernel_rfl

abbrev st__law_jobs : Stmt := topS 46
theorem sc__law_jobs : FnScope cx__law_jobs.N ["_law_source_here", "_law_many", "_law_most_so"] (defScope st__law_jobs) := ⟨rfl, rfl, rfl, by decide +kernel, rfl, by decide +kernel, by decide +kernel⟩
theorem tq__law_jobs : eSs cx__law_jobs fuE fuS (defScope st__law_jobs) (defBody st__law_jobs) = tr__law_jobs := by kernel_rfl

abbrev st__law_order : Stmt := topS 47
theorem sc__law_order : FnScope cx__law_order.N ["_law_source_here", "_law_many"] (defScope st__law_order) := ⟨rfl, rfl, rfl, by decide +kernel, rfl, by decide +kernel, by decide +kernel⟩
theorem tq__law_order : eSs cx__law_order fuE fuS (defScope st__law_order) (defBody st__law_order) = tr__law_order := by kernel_rfl

abbrev st__law_orders : Stmt := topS 48
theorem sc__law_orders : FnScope cx__law_orders.N ["_law_many"] (defScope st__law_orders) := ⟨rfl, rfl, rfl, by decide +kernel, rfl, by decide +kernel, by decide +kernel⟩
theorem tq__law_orders : eSs cx__law_orders fuE fuS (defScope st__law_orders) (defBody st__law_orders) = tr__law_orders := by kernel_rfl

abbrev st__law_moments : Stmt := topS 49
theorem sc__law_moments : FnScope cx__law_moments.N ["_law_jobs_so", "_law_order_so"] (defScope st__law_moments) := ⟨rfl, rfl, rfl, by decide +kernel, rfl, by decide +kernel, by decide +kernel⟩
theorem tq__law_moments : eSs cx__law_moments fuE fuS (defScope st__law_moments) (defBody st__law_moments) = tr__law_moments := by kernel_rfl

abbrev st__law_time : Stmt := topS 50
theorem sc__law_time : FnScope cx__law_time.N ["_law_jobs_so", "_law_order_so"] (defScope st__law_time) := ⟨rfl, rfl, rfl, by decide +kernel, rfl, by decide +kernel, by decide +kernel⟩
theorem tq__law_time : eSs cx__law_time fuE fuS (defScope st__law_time) (defBody st__law_time) = tr__law_time := by kernel_rfl

abbrev st__law_is_jobs : Stmt := topS 51
theorem sc__law_is_jobs : FnScope cx__law_is_jobs.N ["_law_value"] (defScope st__law_is_jobs) := ⟨rfl, rfl, rfl, by decide +kernel, rfl, by decide +kernel, by decide +kernel⟩
theorem tq__law_is_jobs : eSs cx__law_is_jobs fuE fuS (defScope st__law_is_jobs) (defBody st__law_is_jobs) = tr__law_is_jobs := by kernel_rfl

abbrev st__law_is_order : Stmt := topS 52
theorem sc__law_is_order : FnScope cx__law_is_order.N ["_law_jobs_so", "_law_value"] (defScope st__law_is_order) := ⟨rfl, rfl, rfl, by decide +kernel, rfl, by decide +kernel, by decide +kernel⟩
theorem tq__law_is_order : eSs cx__law_is_order fuE fuS (defScope st__law_is_order) (defBody st__law_is_order) = tr__law_is_order := by kernel_rfl

abbrev st__law_right : Stmt := topS 53
theorem sc__law_right : FnScope cx__law_right.N ["_law_value"] (defScope st__law_right) := ⟨rfl, rfl, rfl, by decide +kernel, rfl, by decide +kernel, by decide +kernel⟩
theorem tq__law_right : eSs cx__law_right fuE fuS (defScope st__law_right) (defBody st__law_right) = tr__law_right := by kernel_rfl

abbrev st__law_orders_right : Stmt := topS 54
theorem sc__law_orders_right : FnScope cx__law_orders_right.N ["_law_source_here", "_law_jobs_so"] (defScope st__law_orders_right) := ⟨rfl, rfl, rfl, by decide +kernel, rfl, by decide +kernel, by decide +kernel⟩
theorem tq__law_orders_right : eSs cx__law_orders_right fuE fuS (defScope st__law_orders_right) (defBody st__law_orders_right) = tr__law_orders_right := by kernel_rfl

abbrev st__law_written : Stmt := topS 55
theorem sc__law_written : FnScope cx__law_written.N [] (defScope st__law_written) := ⟨rfl, rfl, rfl, by decide +kernel, rfl, by decide +kernel, by decide +kernel⟩
theorem tq__law_written : eSs cx__law_written fuE fuS (defScope st__law_written) (defBody st__law_written) = tr__law_written := by kernel_rfl

abbrev st_law : Stmt := topS 56
theorem sc_law : FnScope cx_law.N ["_law_script"] (defScope st_law) := ⟨rfl, rfl, rfl, by decide +kernel, rfl, by decide +kernel, by decide +kernel⟩
theorem tq_law : eSs cx_law fuE fuS (defScope st_law) (defBody st_law) = tr_law := by kernel_rfl

abbrev st__law_refused : Stmt := topS 42
abbrev st__law_error : Stmt := topS 45
theorem sc__law_refused : FnScope ["_law_call", "_law_e"] ["_law_call"] (defScope st__law_refused) := ⟨rfl, rfl, rfl, by decide +kernel, rfl, by decide +kernel, by decide +kernel⟩
theorem sc__law_error : FnScope cx__law_error.N ["_law_e"] (defScope st__law_error) := ⟨rfl, rfl, rfl, by decide +kernel, rfl, by decide +kernel, by decide +kernel⟩
theorem hb__law_refused : defBody st__law_refused = refBody "_law_call" "PatchError" "_law_e" "_law_error" 0 ⟨113, 8, 113, 17⟩ ⟨113, 8, 113, 19⟩ ⟨113, 8, 113, 19⟩ ⟨114, 11, 114, 21⟩ ⟨115, 15, 115, 25⟩ ⟨115, 26, 115, 32⟩ ⟨115, 15, 115, 33⟩ ⟨115, 8, 115, 33⟩ ⟨114, 4, 115, 33⟩ ⟨112, 4, 115, 33⟩ ⟨116, 11, 116, 13⟩ ⟨116, 4, 116, 13⟩ := by kernel_rfl
def rdD (K : PySem.W.Frag) (fdR fdE : FuncData) : RefD := { cE := cx__law_error, stE := st__law_error, stR := st__law_refused, a := "_law_call", en := "_law_e", pnm := "PatchError", ee := "_law_error", epar := "_law_e", qualE := "_law_error", gR := He.fAd K ("_law_refused", none), fE := He.fAd K ("_law_error", none), CP := He.ga K "PatchError", cA := 0, P := 0, fdR := fdR, fdE := fdE, j := 0, k := 0, p1 := ⟨113, 8, 113, 17⟩, p2 := ⟨113, 8, 113, 19⟩, p3 := ⟨113, 8, 113, 19⟩, p4 := ⟨114, 11, 114, 21⟩, p5 := ⟨115, 15, 115, 25⟩, p6 := ⟨115, 26, 115, 32⟩, p7 := ⟨115, 15, 115, 33⟩, p8 := ⟨115, 8, 115, 33⟩, p9 := ⟨114, 4, 115, 33⟩, p10 := ⟨112, 4, 115, 33⟩, p11 := ⟨116, 11, 116, 13⟩, p12 := ⟨116, 4, 116, 13⟩ }
theorem he__law_error (a : Addr) (x : Str) : errTree cx__law_error st__law_error a (ansOf x) = tr__law_error a x := by kernel_rfl
def gls : List Str := ((["is_int", "is_job", "are_jobs", "is_right_row", "is_right_order", "gaps_of", "time_of", "starts_of", "need_jobs", "need_order", "is_jobs", "is_order", "starts", "gaps", "whole_time", "_law_source", "_law_pick", "_law_chosen", "_law_is_bool", "_law_whole", "_law_by_two", "_law_any_value", "_law_variant", "_law_jobs", "_law_order", "_law_orders", "_law_moments", "_law_time", "_law_is_jobs", "_law_is_order"] : List Str) ++ (["_law_right", "_law_orders_right", "_law_written", "law", "_law_refused", "_law_error", "PatchError", "InvalidJobs", "InvalidOrder", "InvalidRow", "InvalidNumber", "InvalidMachine", "InvalidJob", "InvalidFacts", "InvalidPrice", "InvalidFactor", "InvalidText", "NoTime", "Begun", "Unlike", "NothingToUndo", "TooMany"] : List Str))
def ecs : List Str := ((["InvalidJobs", "InvalidOrder"] : List Str))
def dd (x : Str) (st : Stmt) : He.DefD := ⟨(x, none), x, x, defArgs st, defBody st, defScope st, [], []⟩
def dfs : List He.DefD := ([dd "is_int" st_is_int, dd "is_job" st_is_job, dd "are_jobs" st_are_jobs, dd "is_right_row" st_is_right_row, dd "is_right_order" st_is_right_order, dd "gaps_of" st_gaps_of, dd "time_of" st_time_of, dd "starts_of" st_starts_of, dd "need_jobs" st_need_jobs, dd "need_order" st_need_order, dd "is_jobs" st_is_jobs, dd "is_order" st_is_order, dd "starts" st_starts, dd "gaps" st_gaps, dd "whole_time" st_whole_time, dd "_law_source" st__law_source, dd "_law_pick" st__law_pick, dd "_law_chosen" st__law_chosen, dd "_law_is_bool" st__law_is_bool, dd "_law_whole" st__law_whole] : List He.DefD) ++ ([dd "_law_by_two" st__law_by_two, dd "_law_any_value" st__law_any_value, dd "_law_variant" st__law_variant, dd "_law_jobs" st__law_jobs, dd "_law_order" st__law_order, dd "_law_orders" st__law_orders, dd "_law_moments" st__law_moments, dd "_law_time" st__law_time, dd "_law_is_jobs" st__law_is_jobs, dd "_law_is_order" st__law_is_order, dd "_law_right" st__law_right, dd "_law_orders_right" st__law_orders_right, dd "_law_written" st__law_written, dd "law" st_law, dd "_law_refused" st__law_refused, dd "_law_error" st__law_error] : List He.DefD)
def fis : List He.Fa := [.int "MOST_JOBS" 30, .int "MOST_TIME" 1000000000000]
def fas : List He.Fa := gls.map .glo ++ ((btTab.map fun p => .free p.1) ++ (ecs.map .exc ++ fis))
def lam : List Str := ((["_law_by_two", "_law_written", "law"] : List Str))
def tfs : List He.Defn := lam.map fun x => (x, none)
def rfs : List Str := ((["_law_by_two"] : List Str))
def wds : List Str := ((["InvalidJobs", "InvalidOrder"] : List Str))
def exs (K : PySem.W.Frag) : Bool := lamIn K lam && (rfs.all (lamOk K) && wds.all (errB K))
abbrev RR : PySem.W.OpenRow := PySem.W.OpenLaw.row PySem.Challenge.rw_patchedrings_k01_jobs_and_orders
abbrev hkk : PySem.W.Hook := He.hookX 5 fas dfs [] tfs exs
def ob (s : PySem.W.SharedT) : He.AlX := He.obsX 5 fas dfs [] tfs exs (HandSHeadRun.getT s)
theorem ob_eq (s : PySem.W.SharedT) : ob s = hkk.obs s.abs := He.obsX_eq (HandSHeadRun.getT_eq s)

def nms : List PySem.Str := ((["PatchError", "InvalidJobs", "InvalidOrder", "InvalidRow", "InvalidNumber", "InvalidMachine", "InvalidJob", "InvalidFacts", "InvalidPrice", "InvalidFactor", "InvalidText", "NoTime", "Begun", "Unlike", "NothingToUndo", "TooMany", "MOST_TIME", "MOST_JOBS", "is_int", "is_job", "are_jobs", "is_right_row", "is_right_order", "gaps_of", "time_of", "starts_of", "need_jobs", "need_order", "is_jobs", "is_order"] : List PySem.Str) ++ (["starts", "gaps", "whole_time", "_law_source", "_law_pick", "_law_chosen", "_law_is_bool", "_law_whole", "_law_by_two", "_law_refused", "_law_any_value", "_law_variant", "_law_error", "_law_jobs", "_law_order", "_law_orders", "_law_moments", "_law_time", "_law_is_jobs", "_law_is_order", "_law_right", "_law_orders_right", "_law_written"] : List PySem.Str))
theorem run (w : World) : HandSHeadRun.RunEq RR (PySem.W.view RR.prog [56]) hkk ob 20000 nms w := by
  intro os
  kernel_rfl

section
variable {P : Program} {w : World} {K : PySem.W.Frag} {mg : Str → Option Value} {base h : Heap}
structure Top (K : PySem.W.Frag) (mg : Str → Option Value) : Prop where
  gl : ∀ x ∈ gls, mg x = some (.ref (He.ga K x))
  fr : ∀ x t, btTab.lookup x = some t → mg x = none
  ec : ∀ x ∈ ecs, (He.Fa.exc x).ok K = true
  fi : ∀ f ∈ fis, f.ok K = true
  i_MOST_JOBS : ∃ t, mg "MOST_JOBS" = some (.int 30 t)
  i_MOST_TIME : ∃ t, mg "MOST_TIME" = some (.int 1000000000000 t)
  ex : exs K = true
theorem top_of (X : K.In h) (G : h.Ns mainGlobals mg) (c : He.SaysX fas dfs [] tfs exs w h K) : Top K mg := by
  have f : ∀ {f}, f ∈ fas → f.ok K = true := fun hf => He.SaysD.facts c.t.d hf
  have fi : ∀ f ∈ fis, f.ok K = true := fun x hx => f (List.mem_append_right _ (List.mem_append_right _ (List.mem_append_right _ hx)))
  exact { gl := fun x hx => He.glo_ok X G (f (List.mem_append_left _ (List.mem_map.mpr ⟨x, hx, rfl⟩)))
          fr := fun x t e => He.free_ok X G (f (List.mem_append_right _ (List.mem_append_left _ (List.mem_map.mpr ⟨(x, t), lookup_mem e, rfl⟩))))
          ec := fun x hx => f (List.mem_append_right _ (List.mem_append_right _ (List.mem_append_left _ (List.mem_map.mpr ⟨x, hx, rfl⟩))))
          fi := fi
          i_MOST_JOBS := He.int_ok X G (fi _ (by simp [fis]))
          i_MOST_TIME := He.int_ok X G (fi _ (by simp [fis]))
          ex := c.more }
theorem df_is_int (T : Top K mg) (c : He.SaysX fas dfs [] tfs exs w h K) : ∃ fd, DefsF K mg "is_int" st_is_int ["value", "low", "high"] (He.fAd K ("is_int", none)) fd := by
  obtain ⟨fd, F⟩ := c.t.d.def_ 0 (d := dd "is_int" st_is_int) rfl
  exact ⟨fd, funs_of F, FunD.bindsN F fun _ _ _ _ _ _ us hl => match us, hl with | [_, _, _], _ => rfl, T.gl _ (by decide +kernel)⟩
theorem df_is_job (T : Top K mg) (c : He.SaysX fas dfs [] tfs exs w h K) : ∃ fd, DefsF K mg "is_job" st_is_job ["value"] (He.fAd K ("is_job", none)) fd := by
  obtain ⟨fd, F⟩ := c.t.d.def_ 1 (d := dd "is_job" st_is_job) rfl
  exact ⟨fd, funs_of F, FunD.bindsN F fun _ _ _ _ _ _ us hl => match us, hl with | [_], _ => rfl, T.gl _ (by decide +kernel)⟩
theorem df_are_jobs (T : Top K mg) (c : He.SaysX fas dfs [] tfs exs w h K) : ∃ fd, DefsF K mg "are_jobs" st_are_jobs ["value"] (He.fAd K ("are_jobs", none)) fd := by
  obtain ⟨fd, F⟩ := c.t.d.def_ 2 (d := dd "are_jobs" st_are_jobs) rfl
  exact ⟨fd, funs_of F, FunD.bindsN F fun _ _ _ _ _ _ us hl => match us, hl with | [_], _ => rfl, T.gl _ (by decide +kernel)⟩
theorem df_is_right_row (T : Top K mg) (c : He.SaysX fas dfs [] tfs exs w h K) : ∃ fd, DefsF K mg "is_right_row" st_is_right_row ["jobs", "value"] (He.fAd K ("is_right_row", none)) fd := by
  obtain ⟨fd, F⟩ := c.t.d.def_ 3 (d := dd "is_right_row" st_is_right_row) rfl
  exact ⟨fd, funs_of F, FunD.bindsN F fun _ _ _ _ _ _ us hl => match us, hl with | [_, _], _ => rfl, T.gl _ (by decide +kernel)⟩
theorem df_is_right_order (T : Top K mg) (c : He.SaysX fas dfs [] tfs exs w h K) : ∃ fd, DefsF K mg "is_right_order" st_is_right_order ["jobs", "value"] (He.fAd K ("is_right_order", none)) fd := by
  obtain ⟨fd, F⟩ := c.t.d.def_ 4 (d := dd "is_right_order" st_is_right_order) rfl
  exact ⟨fd, funs_of F, FunD.bindsN F fun _ _ _ _ _ _ us hl => match us, hl with | [_, _], _ => rfl, T.gl _ (by decide +kernel)⟩
theorem df_gaps_of (T : Top K mg) (c : He.SaysX fas dfs [] tfs exs w h K) : ∃ fd, DefsF K mg "gaps_of" st_gaps_of ["jobs", "order"] (He.fAd K ("gaps_of", none)) fd := by
  obtain ⟨fd, F⟩ := c.t.d.def_ 5 (d := dd "gaps_of" st_gaps_of) rfl
  exact ⟨fd, funs_of F, FunD.bindsN F fun _ _ _ _ _ _ us hl => match us, hl with | [_, _], _ => rfl, T.gl _ (by decide +kernel)⟩
theorem df_time_of (T : Top K mg) (c : He.SaysX fas dfs [] tfs exs w h K) : ∃ fd, DefsF K mg "time_of" st_time_of ["jobs", "order"] (He.fAd K ("time_of", none)) fd := by
  obtain ⟨fd, F⟩ := c.t.d.def_ 6 (d := dd "time_of" st_time_of) rfl
  exact ⟨fd, funs_of F, FunD.bindsN F fun _ _ _ _ _ _ us hl => match us, hl with | [_, _], _ => rfl, T.gl _ (by decide +kernel)⟩
theorem df_starts_of (T : Top K mg) (c : He.SaysX fas dfs [] tfs exs w h K) : ∃ fd, DefsF K mg "starts_of" st_starts_of ["jobs", "order"] (He.fAd K ("starts_of", none)) fd := by
  obtain ⟨fd, F⟩ := c.t.d.def_ 7 (d := dd "starts_of" st_starts_of) rfl
  exact ⟨fd, funs_of F, FunD.bindsN F fun _ _ _ _ _ _ us hl => match us, hl with | [_, _], _ => rfl, T.gl _ (by decide +kernel)⟩
theorem df_need_jobs (T : Top K mg) (c : He.SaysX fas dfs [] tfs exs w h K) : ∃ fd, DefsF K mg "need_jobs" st_need_jobs ["value"] (He.fAd K ("need_jobs", none)) fd := by
  obtain ⟨fd, F⟩ := c.t.d.def_ 8 (d := dd "need_jobs" st_need_jobs) rfl
  exact ⟨fd, funs_of F, FunD.bindsN F fun _ _ _ _ _ _ us hl => match us, hl with | [_], _ => rfl, T.gl _ (by decide +kernel)⟩
theorem df_need_order (T : Top K mg) (c : He.SaysX fas dfs [] tfs exs w h K) : ∃ fd, DefsF K mg "need_order" st_need_order ["jobs", "value"] (He.fAd K ("need_order", none)) fd := by
  obtain ⟨fd, F⟩ := c.t.d.def_ 9 (d := dd "need_order" st_need_order) rfl
  exact ⟨fd, funs_of F, FunD.bindsN F fun _ _ _ _ _ _ us hl => match us, hl with | [_, _], _ => rfl, T.gl _ (by decide +kernel)⟩
theorem df_is_jobs (T : Top K mg) (c : He.SaysX fas dfs [] tfs exs w h K) : ∃ fd, DefsF K mg "is_jobs" st_is_jobs ["value"] (He.fAd K ("is_jobs", none)) fd := by
  obtain ⟨fd, F⟩ := c.t.d.def_ 10 (d := dd "is_jobs" st_is_jobs) rfl
  exact ⟨fd, funs_of F, FunD.bindsN F fun _ _ _ _ _ _ us hl => match us, hl with | [_], _ => rfl, T.gl _ (by decide +kernel)⟩
theorem df_is_order (T : Top K mg) (c : He.SaysX fas dfs [] tfs exs w h K) : ∃ fd, DefsF K mg "is_order" st_is_order ["jobs", "value"] (He.fAd K ("is_order", none)) fd := by
  obtain ⟨fd, F⟩ := c.t.d.def_ 11 (d := dd "is_order" st_is_order) rfl
  exact ⟨fd, funs_of F, FunD.bindsN F fun _ _ _ _ _ _ us hl => match us, hl with | [_, _], _ => rfl, T.gl _ (by decide +kernel)⟩
theorem df_starts (T : Top K mg) (c : He.SaysX fas dfs [] tfs exs w h K) : ∃ fd, DefsF K mg "starts" st_starts ["jobs", "order"] (He.fAd K ("starts", none)) fd := by
  obtain ⟨fd, F⟩ := c.t.d.def_ 12 (d := dd "starts" st_starts) rfl
  exact ⟨fd, funs_of F, FunD.bindsN F fun _ _ _ _ _ _ us hl => match us, hl with | [_, _], _ => rfl, T.gl _ (by decide +kernel)⟩
theorem df_gaps (T : Top K mg) (c : He.SaysX fas dfs [] tfs exs w h K) : ∃ fd, DefsF K mg "gaps" st_gaps ["jobs", "order"] (He.fAd K ("gaps", none)) fd := by
  obtain ⟨fd, F⟩ := c.t.d.def_ 13 (d := dd "gaps" st_gaps) rfl
  exact ⟨fd, funs_of F, FunD.bindsN F fun _ _ _ _ _ _ us hl => match us, hl with | [_, _], _ => rfl, T.gl _ (by decide +kernel)⟩
theorem df_whole_time (T : Top K mg) (c : He.SaysX fas dfs [] tfs exs w h K) : ∃ fd, DefsF K mg "whole_time" st_whole_time ["jobs", "order"] (He.fAd K ("whole_time", none)) fd := by
  obtain ⟨fd, F⟩ := c.t.d.def_ 14 (d := dd "whole_time" st_whole_time) rfl
  exact ⟨fd, funs_of F, FunD.bindsN F fun _ _ _ _ _ _ us hl => match us, hl with | [_, _], _ => rfl, T.gl _ (by decide +kernel)⟩
theorem df__law_source (T : Top K mg) (c : He.SaysX fas dfs [] tfs exs w h K) : ∃ fd, DefsF K mg "_law_source" st__law_source ["_law_script", "_law_k"] (He.fAd K ("_law_source", none)) fd := by
  obtain ⟨fd, F⟩ := c.t.d.def_ 15 (d := dd "_law_source" st__law_source) rfl
  exact ⟨fd, funs_of F, FunD.bindsN F fun _ _ _ _ _ _ us hl => match us, hl with | [_, _], _ => rfl, T.gl _ (by decide +kernel)⟩
theorem df__law_pick (T : Top K mg) (c : He.SaysX fas dfs [] tfs exs w h K) : ∃ fd, DefsF K mg "_law_pick" st__law_pick ["_law_source_here", "_law_many"] (He.fAd K ("_law_pick", none)) fd := by
  obtain ⟨fd, F⟩ := c.t.d.def_ 16 (d := dd "_law_pick" st__law_pick) rfl
  exact ⟨fd, funs_of F, FunD.bindsN F fun _ _ _ _ _ _ us hl => match us, hl with | [_, _], _ => rfl, T.gl _ (by decide +kernel)⟩
theorem df__law_chosen (T : Top K mg) (c : He.SaysX fas dfs [] tfs exs w h K) : ∃ fd, DefsF K mg "_law_chosen" st__law_chosen ["_law_source_here", "_law_things"] (He.fAd K ("_law_chosen", none)) fd := by
  obtain ⟨fd, F⟩ := c.t.d.def_ 17 (d := dd "_law_chosen" st__law_chosen) rfl
  exact ⟨fd, funs_of F, FunD.bindsN F fun _ _ _ _ _ _ us hl => match us, hl with | [_, _], _ => rfl, T.gl _ (by decide +kernel)⟩
theorem df__law_is_bool (T : Top K mg) (c : He.SaysX fas dfs [] tfs exs w h K) : ∃ fd, DefsF K mg "_law_is_bool" st__law_is_bool ["_law_told", "_law_due"] (He.fAd K ("_law_is_bool", none)) fd := by
  obtain ⟨fd, F⟩ := c.t.d.def_ 18 (d := dd "_law_is_bool" st__law_is_bool) rfl
  exact ⟨fd, funs_of F, FunD.bindsN F fun _ _ _ _ _ _ us hl => match us, hl with | [_, _], _ => rfl, T.gl _ (by decide +kernel)⟩
theorem df__law_whole (T : Top K mg) (c : He.SaysX fas dfs [] tfs exs w h K) : ∃ fd, DefsF K mg "_law_whole" st__law_whole ["_law_value", "_law_low", "_law_high"] (He.fAd K ("_law_whole", none)) fd := by
  obtain ⟨fd, F⟩ := c.t.d.def_ 19 (d := dd "_law_whole" st__law_whole) rfl
  exact ⟨fd, funs_of F, FunD.bindsN F fun _ _ _ _ _ _ us hl => match us, hl with | [_, _, _], _ => rfl, T.gl _ (by decide +kernel)⟩
theorem df__law_by_two (T : Top K mg) (c : He.SaysX fas dfs [] tfs exs w h K) : ∃ fd, DefsF K mg "_law_by_two" st__law_by_two ["_law_call", "_law_one", "_law_other"] (He.fAd K ("_law_by_two", none)) fd := by
  obtain ⟨fd, F⟩ := c.t.d.def_ 20 (d := dd "_law_by_two" st__law_by_two) rfl
  exact ⟨fd, funs_of F, FunD.bindsN F fun _ _ _ _ _ _ us hl => match us, hl with | [_, _, _], _ => rfl, T.gl _ (by decide +kernel)⟩
theorem df__law_any_value (T : Top K mg) (c : He.SaysX fas dfs [] tfs exs w h K) : ∃ fd, DefsF K mg "_law_any_value" st__law_any_value ["_law_source_here", "_law_deep"] (He.fAd K ("_law_any_value", none)) fd := by
  obtain ⟨fd, F⟩ := c.t.d.def_ 21 (d := dd "_law_any_value" st__law_any_value) rfl
  exact ⟨fd, funs_of F, FunD.bindsN F fun _ _ _ _ _ _ us hl => match us, hl with | [_, _], _ => rfl, T.gl _ (by decide +kernel)⟩
theorem df__law_variant (T : Top K mg) (c : He.SaysX fas dfs [] tfs exs w h K) : ∃ fd, DefsF K mg "_law_variant" st__law_variant ["_law_source_here", "_law_value"] (He.fAd K ("_law_variant", none)) fd := by
  obtain ⟨fd, F⟩ := c.t.d.def_ 22 (d := dd "_law_variant" st__law_variant) rfl
  exact ⟨fd, funs_of F, FunD.bindsN F fun _ _ _ _ _ _ us hl => match us, hl with | [_, _], _ => rfl, T.gl _ (by decide +kernel)⟩
theorem df__law_jobs (T : Top K mg) (c : He.SaysX fas dfs [] tfs exs w h K) : ∃ fd, DefsF K mg "_law_jobs" st__law_jobs ["_law_source_here", "_law_many", "_law_most_so"] (He.fAd K ("_law_jobs", none)) fd := by
  obtain ⟨fd, F⟩ := c.t.d.def_ 23 (d := dd "_law_jobs" st__law_jobs) rfl
  exact ⟨fd, funs_of F, FunD.bindsN F fun _ _ _ _ _ _ us hl => match us, hl with | [_, _, _], _ => rfl, T.gl _ (by decide +kernel)⟩
theorem df__law_order (T : Top K mg) (c : He.SaysX fas dfs [] tfs exs w h K) : ∃ fd, DefsF K mg "_law_order" st__law_order ["_law_source_here", "_law_many"] (He.fAd K ("_law_order", none)) fd := by
  obtain ⟨fd, F⟩ := c.t.d.def_ 24 (d := dd "_law_order" st__law_order) rfl
  exact ⟨fd, funs_of F, FunD.bindsN F fun _ _ _ _ _ _ us hl => match us, hl with | [_, _], _ => rfl, T.gl _ (by decide +kernel)⟩
theorem df__law_orders (T : Top K mg) (c : He.SaysX fas dfs [] tfs exs w h K) : ∃ fd, DefsF K mg "_law_orders" st__law_orders ["_law_many"] (He.fAd K ("_law_orders", none)) fd := by
  obtain ⟨fd, F⟩ := c.t.d.def_ 25 (d := dd "_law_orders" st__law_orders) rfl
  exact ⟨fd, funs_of F, FunD.bindsN F fun _ _ _ _ _ _ us hl => match us, hl with | [_], _ => rfl, T.gl _ (by decide +kernel)⟩
theorem df__law_moments (T : Top K mg) (c : He.SaysX fas dfs [] tfs exs w h K) : ∃ fd, DefsF K mg "_law_moments" st__law_moments ["_law_jobs_so", "_law_order_so"] (He.fAd K ("_law_moments", none)) fd := by
  obtain ⟨fd, F⟩ := c.t.d.def_ 26 (d := dd "_law_moments" st__law_moments) rfl
  exact ⟨fd, funs_of F, FunD.bindsN F fun _ _ _ _ _ _ us hl => match us, hl with | [_, _], _ => rfl, T.gl _ (by decide +kernel)⟩
theorem df__law_time (T : Top K mg) (c : He.SaysX fas dfs [] tfs exs w h K) : ∃ fd, DefsF K mg "_law_time" st__law_time ["_law_jobs_so", "_law_order_so"] (He.fAd K ("_law_time", none)) fd := by
  obtain ⟨fd, F⟩ := c.t.d.def_ 27 (d := dd "_law_time" st__law_time) rfl
  exact ⟨fd, funs_of F, FunD.bindsN F fun _ _ _ _ _ _ us hl => match us, hl with | [_, _], _ => rfl, T.gl _ (by decide +kernel)⟩
theorem df__law_is_jobs (T : Top K mg) (c : He.SaysX fas dfs [] tfs exs w h K) : ∃ fd, DefsF K mg "_law_is_jobs" st__law_is_jobs ["_law_value"] (He.fAd K ("_law_is_jobs", none)) fd := by
  obtain ⟨fd, F⟩ := c.t.d.def_ 28 (d := dd "_law_is_jobs" st__law_is_jobs) rfl
  exact ⟨fd, funs_of F, FunD.bindsN F fun _ _ _ _ _ _ us hl => match us, hl with | [_], _ => rfl, T.gl _ (by decide +kernel)⟩
theorem df__law_is_order (T : Top K mg) (c : He.SaysX fas dfs [] tfs exs w h K) : ∃ fd, DefsF K mg "_law_is_order" st__law_is_order ["_law_jobs_so", "_law_value"] (He.fAd K ("_law_is_order", none)) fd := by
  obtain ⟨fd, F⟩ := c.t.d.def_ 29 (d := dd "_law_is_order" st__law_is_order) rfl
  exact ⟨fd, funs_of F, FunD.bindsN F fun _ _ _ _ _ _ us hl => match us, hl with | [_, _], _ => rfl, T.gl _ (by decide +kernel)⟩
theorem df__law_right (T : Top K mg) (c : He.SaysX fas dfs [] tfs exs w h K) : ∃ fd, DefsF K mg "_law_right" st__law_right ["_law_value"] (He.fAd K ("_law_right", none)) fd := by
  obtain ⟨fd, F⟩ := c.t.d.def_ 30 (d := dd "_law_right" st__law_right) rfl
  exact ⟨fd, funs_of F, FunD.bindsN F fun _ _ _ _ _ _ us hl => match us, hl with | [_], _ => rfl, T.gl _ (by decide +kernel)⟩
theorem df__law_orders_right (T : Top K mg) (c : He.SaysX fas dfs [] tfs exs w h K) : ∃ fd, DefsF K mg "_law_orders_right" st__law_orders_right ["_law_source_here", "_law_jobs_so"] (He.fAd K ("_law_orders_right", none)) fd := by
  obtain ⟨fd, F⟩ := c.t.d.def_ 31 (d := dd "_law_orders_right" st__law_orders_right) rfl
  exact ⟨fd, funs_of F, FunD.bindsN F fun _ _ _ _ _ _ us hl => match us, hl with | [_, _], _ => rfl, T.gl _ (by decide +kernel)⟩
theorem df__law_written (T : Top K mg) (c : He.SaysX fas dfs [] tfs exs w h K) : ∃ fd, DefsF K mg "_law_written" st__law_written [] (He.fAd K ("_law_written", none)) fd := by
  obtain ⟨fd, F⟩ := c.t.d.def_ 32 (d := dd "_law_written" st__law_written) rfl
  exact ⟨fd, funs_of F, FunD.bindsN F fun _ _ _ _ _ _ us hl => match us, hl with | [], _ => rfl, T.gl _ (by decide +kernel)⟩
theorem df_law (T : Top K mg) (c : He.SaysX fas dfs [] tfs exs w h K) : ∃ fd, DefsF K mg "law" st_law ["_law_script"] (He.fAd K ("law", none)) fd := by
  obtain ⟨fd, F⟩ := c.t.d.def_ 33 (d := dd "law" st_law) rfl
  exact ⟨fd, funs_of F, FunD.bindsN F fun _ _ _ _ _ _ us hl => match us, hl with | [_], _ => rfl, T.gl _ (by decide +kernel)⟩
theorem df__law_refused (T : Top K mg) (c : He.SaysX fas dfs [] tfs exs w h K) : ∃ fd, DefsF K mg "_law_refused" st__law_refused ["_law_call"] (He.fAd K ("_law_refused", none)) fd := by
  obtain ⟨fd, F⟩ := c.t.d.def_ 34 (d := dd "_law_refused" st__law_refused) rfl
  exact ⟨fd, funs_of F, FunD.bindsN F fun _ _ _ _ _ _ us hl => match us, hl with | [_], _ => rfl, T.gl _ (by decide +kernel)⟩
theorem df__law_error (T : Top K mg) (c : He.SaysX fas dfs [] tfs exs w h K) : ∃ fd, DefsF K mg "_law_error" st__law_error ["_law_e"] (He.fAd K ("_law_error", none)) fd := by
  obtain ⟨fd, F⟩ := c.t.d.def_ 35 (d := dd "_law_error" st__law_error) rfl
  exact ⟨fd, funs_of F, FunD.bindsN F fun _ _ _ _ _ _ us hl => match us, hl with | [_], _ => rfl, T.gl _ (by decide +kernel)⟩
theorem word_in {x w : Str} (e : wordOf x = some w) : x ∈ wds ∧ errTab.lookup x = some w := by
  have all : ∀ p ∈ wordTab, p.1 ∈ wds ∧ errTab.lookup p.1 = some p.2 := by decide +kernel
  exact all _ (lookup_mem e)
theorem wds_gl : ∀ x ∈ wds, x ∈ gls := by decide +kernel
theorem err_gl : ∀ p ∈ errTab, p.1 ∈ gls := by decide +kernel
theorem ref_of {fdR fdE : FuncData} (T : Top K mg) (DR : DefsF K mg "_law_refused" st__law_refused ["_law_call"] (He.fAd K ("_law_refused", none)) fdR) (DE : DefsF K mg "_law_error" st__law_error ["_law_e"] (He.fAd K ("_law_error", none)) fdE) : RefB K mg { x := "_law_refused", word := wordOf } (rdD K fdR fdE) where
  FR := DR.F
  SR := sc__law_refused
  bR := DR.b
  hbR := hb__law_refused
  FE := DE.F
  SE := sc__law_error
  hNE := rfl
  bE := DE.b
  mR := DR.m
  mE := DE.m
  mP := T.gl "PatchError" (by decide +kernel)
  lP := rfl
  lE := rfl
  lA := rfl
  lN := rfl
  odd := (by decide +kernel : ∀ x ∈ (["_law_refused", "PatchError", "_law_error", "_law_call", "_law_e"] : List Str), (x == ("__debug__" : Str)) = false ∧ (x == ("__classdict__" : Str)) = false)
  word := fun x w e C m => by
    have hx : x ∈ wds ∧ errTab.lookup x = some w := word_in e
    have ex := T.ex
    unfold exs at ex
    simp only [Bool.and_eq_true, List.all_eq_true] at ex
    have m2 := (T.gl x (wds_gl x hx.1)).symm.trans m
    cases m2
    exact errB_ok (ex.2.2 x hx.1) (fun p hp => T.gl _ (err_gl p hp)) fun a Q q => by
      show errTree cx__law_error st__law_error a (ansOf x) (fun _ => False) (startS cx__law_error.N [adD a]) (oPur Q)
      rw [he__law_error]
      exact ty__law_error a x w hx.2 Q q
theorem bind_law (T : Top K mg) (c : He.SaysX fas dfs [] tfs exs w h K) : ∃ fd, DefsF K mg "law" st_law ["_law_script"] (He.fAd K ("law", none)) fd ∧ ∀ (s : Shared) (u : Value), BindsTo s fd ⟨[u], []⟩ [("_law_script", u)] := by
  obtain ⟨fd, F⟩ := c.t.d.def_ 33 (d := dd "law" st_law) rfl
  have b := FunD.bindsA (ps := ["_law_script"]) F fun _ _ _ _ _ _ us hl => match us, hl with | [_], _ => rfl
  exact ⟨fd, ⟨funs_of F, FunD.bindsN F fun _ _ _ _ _ _ us hl => match us, hl with | [_], _ => rfl, T.gl _ (by decide +kernel)⟩, fun s u => b s [u] rfl⟩
theorem chain {fd_law : FuncData} (X : K.In h) (T : Top K mg) (c : He.SaysX fas dfs [] tfs exs w h K) (TB : ∀ x ∈ lam, LamX.TabB base mg (He.cT K (x, none)).1 (He.cT K (x, none)).2) (D_law : DefsF K mg "law" st_law ["_law_script"] (He.fAd K ("law", none)) fd_law) : FnOk P w K mg base (L2N.CX P w) 19 (He.fAd K ("law", none)) fd_law ["_law_script"] (spOf K mg (.pur 1 sp_law)) := by
  have ex := T.ex
  unfold exs at ex
  simp only [Bool.and_eq_true, List.all_eq_true] at ex
  obtain ⟨fd_is_int, D_is_int⟩ := df_is_int T c
  obtain ⟨fd_is_job, D_is_job⟩ := df_is_job T c
  obtain ⟨fd_are_jobs, D_are_jobs⟩ := df_are_jobs T c
  obtain ⟨fd_is_right_row, D_is_right_row⟩ := df_is_right_row T c
  obtain ⟨fd_is_right_order, D_is_right_order⟩ := df_is_right_order T c
  obtain ⟨fd_gaps_of, D_gaps_of⟩ := df_gaps_of T c
  obtain ⟨fd_time_of, D_time_of⟩ := df_time_of T c
  obtain ⟨fd_starts_of, D_starts_of⟩ := df_starts_of T c
  obtain ⟨fd_need_jobs, D_need_jobs⟩ := df_need_jobs T c
  obtain ⟨fd_need_order, D_need_order⟩ := df_need_order T c
  obtain ⟨fd_is_jobs, D_is_jobs⟩ := df_is_jobs T c
  obtain ⟨fd_is_order, D_is_order⟩ := df_is_order T c
  obtain ⟨fd_starts, D_starts⟩ := df_starts T c
  obtain ⟨fd_gaps, D_gaps⟩ := df_gaps T c
  obtain ⟨fd_whole_time, D_whole_time⟩ := df_whole_time T c
  obtain ⟨fd__law_source, D__law_source⟩ := df__law_source T c
  obtain ⟨fd__law_pick, D__law_pick⟩ := df__law_pick T c
  obtain ⟨fd__law_chosen, D__law_chosen⟩ := df__law_chosen T c
  obtain ⟨fd__law_is_bool, D__law_is_bool⟩ := df__law_is_bool T c
  obtain ⟨fd__law_whole, D__law_whole⟩ := df__law_whole T c
  obtain ⟨fd__law_by_two, D__law_by_two⟩ := df__law_by_two T c
  obtain ⟨fd__law_any_value, D__law_any_value⟩ := df__law_any_value T c
  obtain ⟨fd__law_variant, D__law_variant⟩ := df__law_variant T c
  obtain ⟨fd__law_jobs, D__law_jobs⟩ := df__law_jobs T c
  obtain ⟨fd__law_order, D__law_order⟩ := df__law_order T c
  obtain ⟨fd__law_orders, D__law_orders⟩ := df__law_orders T c
  obtain ⟨fd__law_moments, D__law_moments⟩ := df__law_moments T c
  obtain ⟨fd__law_time, D__law_time⟩ := df__law_time T c
  obtain ⟨fd__law_is_jobs, D__law_is_jobs⟩ := df__law_is_jobs T c
  obtain ⟨fd__law_is_order, D__law_is_order⟩ := df__law_is_order T c
  obtain ⟨fd__law_right, D__law_right⟩ := df__law_right T c
  obtain ⟨fd__law_orders_right, D__law_orders_right⟩ := df__law_orders_right T c
  obtain ⟨fd__law_written, D__law_written⟩ := df__law_written T c
  obtain ⟨fd__law_refused, D__law_refused⟩ := df__law_refused T c
  obtain ⟨fd__law_error, D__law_error⟩ := df__law_error T c
  have RB := ref_of T D__law_refused D__law_error
  have h_is_int : Has P w K mg base 1 "is_int" (.pur 3 sp_is_int) := has_pur (k := 0) D_is_int sc_is_int rfl (gok0 sc_is_int.nd T.fr trivial trivial trivial rfl) tq_is_int ty_is_int
  have h_is_job : Has P w K mg base 2 "is_job" (.pur 1 sp_is_job) := has_pur (k := 1) D_is_job sc_is_job rfl (gok0 sc_is_job.nd T.fr ⟨h_is_int.up, trivial⟩ ⟨con_int T.i_MOST_TIME, trivial⟩ trivial rfl) tq_is_job ty_is_job
  have h_are_jobs : Has P w K mg base 3 "are_jobs" (.pur 1 sp_are_jobs) := has_pur (k := 2) D_are_jobs sc_are_jobs rfl (gok0 sc_are_jobs.nd T.fr ⟨h_is_job.up, trivial⟩ ⟨con_int T.i_MOST_JOBS, trivial⟩ trivial rfl) tq_are_jobs ty_are_jobs
  have h_is_right_row : Has P w K mg base 2 "is_right_row" (.pur 2 sp_is_right_row) := has_pur (k := 1) D_is_right_row sc_is_right_row rfl (gok0 sc_is_right_row.nd T.fr ⟨h_is_int.up, trivial⟩ trivial trivial rfl) tq_is_right_row ty_is_right_row
  have h_is_right_order : Has P w K mg base 3 "is_right_order" (.pur 2 sp_is_right_order) := has_pur (k := 2) D_is_right_order sc_is_right_order rfl (gok0 sc_is_right_order.nd T.fr ⟨h_is_right_row.up, trivial⟩ trivial trivial rfl) tq_is_right_order ty_is_right_order
  have h_gaps_of : Has P w K mg base 1 "gaps_of" (.pur 2 sp_gaps_of) := has_pur (k := 0) D_gaps_of sc_gaps_of rfl (gok0 sc_gaps_of.nd T.fr trivial trivial trivial rfl) tq_gaps_of ty_gaps_of
  have h_time_of : Has P w K mg base 2 "time_of" (.pur 2 sp_time_of) := has_pur (k := 1) D_time_of sc_time_of rfl (gok0 sc_time_of.nd T.fr ⟨h_gaps_of.up, trivial⟩ trivial trivial rfl) tq_time_of ty_time_of
  have h_starts_of : Has P w K mg base 2 "starts_of" (.pur 2 sp_starts_of) := has_pur (k := 1) D_starts_of sc_starts_of rfl (gok0 sc_starts_of.nd T.fr ⟨h_gaps_of.up, trivial⟩ trivial trivial rfl) tq_starts_of ty_starts_of
  have h_need_jobs : Has P w K mg base 4 "need_jobs" (.pur 1 sp_need_jobs) := has_pur (k := 3) D_need_jobs sc_need_jobs rfl (gok0 sc_need_jobs.nd T.fr ⟨h_are_jobs.up, trivial⟩ trivial ⟨exc_of (h := h) (T.gl _ (by decide +kernel)) (T.ec _ (by decide +kernel)), trivial⟩ rfl) tq_need_jobs ty_need_jobs
  have h_need_order : Has P w K mg base 4 "need_order" (.pur 2 sp_need_order) := has_pur (k := 3) D_need_order sc_need_order rfl (gok0 sc_need_order.nd T.fr ⟨h_is_right_order.up, trivial⟩ trivial ⟨exc_of (h := h) (T.gl _ (by decide +kernel)) (T.ec _ (by decide +kernel)), trivial⟩ rfl) tq_need_order ty_need_order
  have h_is_jobs : Has P w K mg base 4 "is_jobs" (.pur 1 sp_is_jobs) := has_pur (k := 3) D_is_jobs sc_is_jobs rfl (gok0 sc_is_jobs.nd T.fr ⟨h_are_jobs.up, trivial⟩ trivial trivial rfl) tq_is_jobs ty_is_jobs
  have h_is_order : Has P w K mg base 5 "is_order" (.pur 2 sp_is_order) := has_pur (k := 4) D_is_order sc_is_order rfl (gok0 sc_is_order.nd T.fr ⟨h_is_right_order.up, h_need_jobs.up, trivial⟩ trivial trivial rfl) tq_is_order ty_is_order
  have h_starts : Has P w K mg base 5 "starts" (.pur 2 sp_starts) := has_pur (k := 4) D_starts sc_starts rfl (gok0 sc_starts.nd T.fr ⟨h_need_jobs.up, h_need_order.up, h_starts_of.up, trivial⟩ trivial trivial rfl) tq_starts ty_starts
  have h_gaps : Has P w K mg base 5 "gaps" (.pur 2 sp_gaps) := has_pur (k := 4) D_gaps sc_gaps rfl (gok0 sc_gaps.nd T.fr ⟨h_gaps_of.up, h_need_jobs.up, h_need_order.up, trivial⟩ trivial trivial rfl) tq_gaps ty_gaps
  have h_whole_time : Has P w K mg base 5 "whole_time" (.pur 2 sp_whole_time) := has_pur (k := 4) D_whole_time sc_whole_time rfl (gok0 sc_whole_time.nd T.fr ⟨h_need_jobs.up, h_need_order.up, h_time_of.up, trivial⟩ trivial trivial rfl) tq_whole_time ty_whole_time
  have h__law_source : Has P w K mg base 1 "_law_source" (.frs 2 sp__law_source) := has_frs (k := 0) D__law_source sc__law_source rfl (gok0 sc__law_source.nd T.fr trivial trivial trivial rfl) tb__law_source tq__law_source tf__law_source ty__law_source
  have h__law_pick : Has P w K mg base 1 "_law_pick" (.mut 2 sp__law_pick) := has_mut (k := 0) D__law_pick sc__law_pick rfl (gok0 sc__law_pick.nd T.fr trivial trivial trivial rfl) tq__law_pick ty__law_pick
  have h__law_chosen : Has P w K mg base 2 "_law_chosen" (.mut 2 sp__law_chosen) := has_mut (k := 1) D__law_chosen sc__law_chosen rfl (gok0 sc__law_chosen.nd T.fr ⟨h__law_pick.up, trivial⟩ trivial trivial rfl) tq__law_chosen ty__law_chosen
  have h__law_is_bool : Has P w K mg base 1 "_law_is_bool" (.pur 2 sp__law_is_bool) := has_pur (k := 0) D__law_is_bool sc__law_is_bool rfl (gok0 sc__law_is_bool.nd T.fr trivial trivial trivial rfl) tq__law_is_bool ty__law_is_bool
  have h__law_whole : Has P w K mg base 1 "_law_whole" (.pur 3 sp__law_whole) := has_pur (k := 0) D__law_whole sc__law_whole rfl (gok0 sc__law_whole.nd T.fr trivial trivial trivial rfl) tq__law_whole ty__law_whole
  have h__law_by_two : Has P w K mg base 8 "_law_by_two" (.pur 3 sp__law_by_two) := has_pur (k := 7) D__law_by_two sc__law_by_two rfl (gokR (k0 := 4) sc__law_by_two.nd T.fr ⟨h_is_order.up, h_starts.up, h_gaps.up, h_whole_time.up, trivial⟩ trivial trivial rfl RB (tabF_of (ex.2.1 _ (by decide +kernel)) (TB _ (by decide +kernel))) (code_of (h := h) D__law_by_two)) tq__law_by_two ty__law_by_two
  have r__law_any_value : ∀ L : Nat, Has P w K mg base (2 + L + 1) "_law_any_value" (.mut 2 (sq__law_any_value L)) := by
    intro L
    induction L with
    | zero => exact (has_no D__law_any_value (sc__law_any_value 0) (no_mut fun X d0 ds Q h => by obtain ⟨_, n, hn, _⟩ := h; exact absurd hn (Nat.not_lt_zero _))).up (by omega)
    | succ L ih => exact has_mut (k := 2 + L + 1) D__law_any_value (sc__law_any_value L) rfl (gok0 (sc__law_any_value L).nd T.fr ⟨ih.up (by omega), h__law_chosen.up (by omega), h__law_pick.up (by omega), trivial⟩ trivial trivial rfl) (tq__law_any_value L) (ty__law_any_value L)
  have h__law_any_value : Has P w K mg base 6 "_law_any_value" (.mut 2 sp__law_any_value) := r__law_any_value 3
  have r__law_variant : ∀ L : Nat, Has P w K mg base (6 + L + 1) "_law_variant" (.mut 2 (sq__law_variant L)) := by
    intro L
    induction L with
    | zero => exact (has_no D__law_variant (sc__law_variant 0) (no_mut fun X d0 ds Q h => by obtain ⟨_, m, n, xs, v, _, e, _, _, l, _, o, _⟩ := h; obtain ⟨k, ek, _⟩ := okV_seq o e; omega)).up (by omega)
    | succ L ih => exact has_mut (k := 6 + L + 1) D__law_variant (sc__law_variant L) rfl (gok0 (sc__law_variant L).nd T.fr ⟨h__law_any_value.up (by omega), h__law_chosen.up (by omega), h__law_pick.up (by omega), ih.up (by omega), trivial⟩ trivial trivial rfl) (tq__law_variant L) (ty__law_variant L)
  have h__law_variant : Has P w K mg base 17 "_law_variant" (.mut 2 sp__law_variant) := r__law_variant 10
  have h__law_jobs : Has P w K mg base 2 "_law_jobs" (.mut 3 sp__law_jobs) := has_mut (k := 1) D__law_jobs sc__law_jobs rfl (gok0 sc__law_jobs.nd T.fr ⟨h__law_pick.up, trivial⟩ trivial trivial rfl) tq__law_jobs ty__law_jobs
  have h__law_order : Has P w K mg base 3 "_law_order" (.mut 2 sp__law_order) := has_mut (k := 2) D__law_order sc__law_order rfl (gok0 sc__law_order.nd T.fr ⟨h__law_chosen.up, trivial⟩ trivial trivial rfl) tq__law_order ty__law_order
  have h__law_orders : Has P w K mg base 1 "_law_orders" (.pur 1 sp__law_orders) := has_pur (k := 0) D__law_orders sc__law_orders rfl (gok0 sc__law_orders.nd T.fr trivial trivial trivial rfl) tq__law_orders ty__law_orders
  have h__law_moments : Has P w K mg base 1 "_law_moments" (.pur 2 sp__law_moments) := has_pur (k := 0) D__law_moments sc__law_moments rfl (gok0 sc__law_moments.nd T.fr trivial trivial trivial rfl) tq__law_moments ty__law_moments
  have h__law_time : Has P w K mg base 2 "_law_time" (.pur 2 sp__law_time) := has_pur (k := 1) D__law_time sc__law_time rfl (gok0 sc__law_time.nd T.fr ⟨h__law_moments.up, trivial⟩ trivial trivial rfl) tq__law_time ty__law_time
  have h__law_is_jobs : Has P w K mg base 2 "_law_is_jobs" (.pur 1 sp__law_is_jobs) := has_pur (k := 1) D__law_is_jobs sc__law_is_jobs rfl (gok0 sc__law_is_jobs.nd T.fr ⟨h__law_whole.up, trivial⟩ trivial trivial rfl) tq__law_is_jobs ty__law_is_jobs
  have h__law_is_order : Has P w K mg base 2 "_law_is_order" (.pur 2 sp__law_is_order) := has_pur (k := 1) D__law_is_order sc__law_is_order rfl (gok0 sc__law_is_order.nd T.fr ⟨h__law_whole.up, trivial⟩ trivial trivial rfl) tq__law_is_order ty__law_is_order
  have h__law_right : Has P w K mg base 9 "_law_right" (.pur 1 sp__law_right) := has_pur (k := 8) D__law_right sc__law_right rfl (gok0 sc__law_right.nd T.fr ⟨h__law_by_two.up, h__law_is_bool.up, h__law_is_jobs.up, h__law_time.up, h_is_jobs.up, h_whole_time.up, trivial⟩ ⟨con_fn (T.gl _ (by decide +kernel)), con_fn (T.gl _ (by decide +kernel)), con_fn (T.gl _ (by decide +kernel)), con_fn (T.gl _ (by decide +kernel)), trivial⟩ trivial rfl) tq__law_right ty__law_right
  have h__law_orders_right : Has P w K mg base 18 "_law_orders_right" (.mut 2 sp__law_orders_right) := has_mut (k := 17) D__law_orders_right sc__law_orders_right rfl (gok0 sc__law_orders_right.nd T.fr ⟨h__law_by_two.up, h__law_is_bool.up, h__law_is_order.up, h__law_moments.up, h__law_order.up, h__law_variant.up, h_gaps.up, h_is_order.up, h_starts.up, h_whole_time.up, trivial⟩ ⟨con_fn (T.gl _ (by decide +kernel)), con_fn (T.gl _ (by decide +kernel)), con_fn (T.gl _ (by decide +kernel)), trivial⟩ trivial rfl) tq__law_orders_right ty__law_orders_right
  have h__law_written : Has P w K mg base 6 "_law_written" (.pur 0 sp__law_written) := has_pur (k := 5) D__law_written sc__law_written rfl (gok0 sc__law_written.nd T.fr ⟨h__law_orders.up, h_gaps.up, h_is_jobs.up, h_is_order.up, h_starts.up, h_whole_time.up, trivial⟩ trivial trivial rfl) tq__law_written ty__law_written
  exact ok_pur (k := 18) D_law.F sc_law rfl (gok0 sc_law.nd T.fr ⟨h__law_any_value.up, h__law_chosen.up, h__law_jobs.up, h__law_orders_right.up, h__law_pick.up, h__law_right.up, h__law_source.up, h__law_variant.up, h__law_written.up, trivial⟩ trivial trivial rfl) tq_law ty_law
end
end DL
open PySem PySem.W PySem.Calls PyProof.Rows
theorem PySem.Challenge.cw_patchedrings_k01_jobs_and_orders_holds : PySem.Challenge.rw_patchedrings_k01_jobs_and_orders.Holds := by
  w_on; o_law
  refine HandSHeadRun.head_any (r := OpenLaw.row PySem.Challenge.rw_patchedrings_k01_jobs_and_orders) (q := view (OpenLaw.row PySem.Challenge.rw_patchedrings_k01_jobs_and_orders).prog [56]) (H := DL.hkk) (ob := DL.ob) (M := 20000) (loose := DL.nms) (d := HandSHeadRun.topDef (OpenLaw.row PySem.Challenge.rw_patchedrings_k01_jobs_and_orders).prog 56) (kwd := []) DL.ob_eq
    (by kernel_rfl) (fun s => by kernel_rfl) DL.run (by kernel_rfl) (by kernel_rfl) (by kernel_rfl) (by rfl) (by first | assumption | decide +kernel) (by decide +kernel) ⟨rfl, rfl, rfl, rfl, rfl, by decide +kernel⟩ ?hw ?hc
  case hw => w_witness2
  case hc =>
    refine LamX.walk_ofTsE (l := PySem.Challenge.rw_patchedrings_k01_jobs_and_orders) (n := 63) (k := 19) (x := "_law_script") (CX := fun w => L2N.CX (PySem.Challenge.rw_patchedrings_k01_jobs_and_orders).prog w) rfl (by decide) (by kernel_rfl) ⟨rfl, by decide, by decide⟩ ?F (fun _ _ _ _ _ z => by obtain ⟨_, _, _, _, _, _, _, _, _, _, _, _, z⟩ := z; exact z)
    intro w mg fa h Y G hmg0
    obtain ⟨K, KX, c⟩ := Y
    have hmg : mg ("law" : PySem.Str) = some (.ref fa) := by
      have e : (HandSHeadRun.topDef (OpenLaw.row PySem.Challenge.rw_patchedrings_k01_jobs_and_orders).prog 56).name = ("law" : PySem.Str) := by kernel_rfl
      rw [← e]
      exact hmg0
    have T := DL.top_of KX G c
    have ex := T.ex
    unfold DL.exs at ex
    simp only [Bool.and_eq_true, List.all_eq_true] at ex
    obtain ⟨fd, D, hb⟩ := DL.bind_law T c
    have e : fa = He.fAd K ("law", none) := by
      have z := hmg.symm.trans D.m
      cases z
      rfl
    subst e
    have tf : ∀ p ∈ DL.lam.map (fun x => He.cT K (x, none)), ∃ x ∈ DL.lam, He.cT K (x, none) = p := fun p hp => by
      obtain ⟨x, hx, e⟩ := List.mem_map.mp hp
      exact ⟨x, hx, e⟩
    have tm : ∀ x ∈ DL.lam, (x, none) ∈ DL.tfs := fun x hx => List.mem_map.mpr ⟨x, hx, rfl⟩
    refine ⟨K, KX, fd, DL.lam.map (fun x => He.cT K (x, none)), _, fun p hp => ?_, fun p hp => ?_, fun p hp => ?_, hb, fun H a ns hl hbits hH hS => DL.law_sp (sp := DL.sp_law) (DL.zt_of ex.1 fun x hx => hH _ (List.mem_map.mpr ⟨x, hx, rfl⟩)) hS fun X P hp => ⟨ns, rfl, hp⟩, fun base hK hN hT => DL.chain KX T c (fun x hx => hT _ (List.mem_map.mpr ⟨x, hx, rfl⟩)) D⟩
    · obtain ⟨x, hx, rfl⟩ := tf p hp; exact c.empty _ (tm x hx)
    · obtain ⟨x, hx, rfl⟩ := tf p hp; exact c.out _ (tm x hx)
    · obtain ⟨x, hx, rfl⟩ := tf p hp; exact PySem.W.codeHd_of_K KX (c.hd _ (tm x hx))
